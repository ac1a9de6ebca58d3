/- What the functions compute that the laws of ApplyEvent reach: contracts. Conditions stand in each theorem. -/
import Derived.Test.YtjneccbpkckdfaaGreatProg
import Derived.KernelRfl
import Derived.Test.YtjneccbpkckdfaaGreatRApplyEventc
set_option linter.unusedVariables false
set_option linter.unusedSimpArgs false
namespace Go.Proofs.YtjneccbpkckdfaaGreatR
open Go Go.RowKit
attribute [go_sem ↓] bk_bind K8g bk_ite K4l
def Za(o:MO):MOp:={o:=o}
def Zb(k:Nat)(b:Bool)(o:MO):MOp:={o:=o,g:=some (k,b)}
def Zc(h:List Nat)(o:MO):MOp:={o:=o,hs:=h}
def Zd(h b:List Nat)(o:MO):MOp:={o:=o,hs:=h,bf:=b}
def Ze(b:List Nat)(o:MO):MOp:={o:=o,bf:=b}
def Zf(h g:List Nat)(o:MO):MOp:={o:=o,hs:=h,ho:=g}
def Zg(h g b:List Nat)(o:MO):MOp:={o:=o,hs:=h,ho:=g,bf:=b}
def pz:SC:= .pl (.sc (.int .i64 0))
def ci(n:Int):Od:= .c (.int .i64 n)
def cT:Od:= .c (.bool true)
def cF:Od:= .c (.bool false)
attribute [go_sem] Nat.reduceEqDiff Nat.reduceLT Nat.reduceLeDiff Nat.reduceAdd Nat.reduceMul reduceCtorEq List.reduceReplicate
attribute [go_sem ↓] reduceIte
attribute [go_sem] Za Zb Zc Zd Ze Zf Zg pz ci cT cF
def mS(d a:Nat):MO:= .mv d (.s a)
def lF(d k a:Nat):MO:= .load d false k (.s a)
def lT(d k a:Nat):MO:= .load d true k (.s a)
def fS(d a k:Nat):MO:= .fld d (.s a) k
def xS(d k a b:Nat):MO:= .idx d k (.s a) (.s b)
def nS(d a:Nat):MO:= .len d false (.s a)
def bS(d:Nat)(o:BinOp)(a b:Nat):MO:= .bin d false o (.s a) (.s b)
def bC(d:Nat)(o:BinOp)(a:Nat)(b:Int):MO:= .bin d false o (.s a) (.c (.int .i64 b))
def sS(k a b:Nat):MO:= .store k (.s a) (.s b)
def cX(a k:Nat):MC:= .cond (.s a) .skip (.exit k)
def Zs(l:List MO)(h:List Nat)(c:MC):MC:= .seq (pr l h) c
attribute [go_sem] mS lF lT fS xS nS bS bC sS cX Zs
open Nat (reduceEqDiff reduceLT reduceLeDiff reduceAdd reduceMul)
open List (reduceReplicate)
def encI(n:Int):List T:=[tI n]
def encB(b:Bool):List T:=[tB b]
theorem K4e{ts:List T}(h:IsT .int ts):∃n,ts=encI n:=h
theorem K12{α:Type}{enc:α→List T}{ty:DT}(h:∀ {ts},IsT ty ts→∃x,ts=enc x):∀ {es:List (List T)},(∀x∈es,IsT ty x)→∃xs:List α,es=xs.map enc
 | [],_=>⟨[],rfl⟩
 |e::es,k=>by
  obtain⟨x,rfl⟩:=h (k e (by simp))
  obtain⟨xs,hx⟩:=K12 h (es:=es) fun y hy=>k y (by simp[hy])
  subst hx
  exact⟨x::xs,rfl⟩
structure GAddress where
 Host:Int
 Path:Int
 Query:Int
 deriving DecidableEq
def GAddress.enc(x:GAddress):List T:=[tI x.Host,tI x.Path,tI x.Query]
def GAddress.dt:DT:= .st (.fc .int (.fc .int (.fc .int .fn)))
theorem GAddress.of{ts:List T}(h:IsT GAddress.dt ts):∃x:GAddress,ts=x.enc:=by
 simp only[GAddress.dt,IsT]at h
 obtain⟨_,_,rfl,⟨v0,rfl⟩,_,_,rfl,⟨v1,rfl⟩,_,_,rfl,⟨v2,rfl⟩,rfl⟩:=h
 exact⟨⟨v0,v1,v2⟩,rfl⟩
theorem GAddress.eqv{x y:GAddress}:x=y↔x.Host=y.Host∧x.Path=y.Path∧x.Query=y.Query:=by
 constructor
 ·rintro rfl;simp
 ·intro h
  rcases x with ⟨aHost,aPath,aQuery⟩
  rcases y with ⟨bHost,bPath,bQuery⟩
  simp only at h
  obtain⟨rfl,rfl,rfl⟩:=h
  rfl
structure GResource where
 Kind:Int
 Body:List Int
 To:GAddress
 deriving DecidableEq
def GResource.enc(x:GResource):List T:=[tI x.Kind,.sl 1 (x.Body.map encI),tI x.To.Host,tI x.To.Path,tI x.To.Query]
def GResource.dt:DT:= .st (.fc .int (.fc (.sl .int) (.fc GAddress.dt .fn)))
theorem GResource.of{ts:List T}(h:IsT GResource.dt ts):∃x:GResource,ts=x.enc:=by
 simp only[GResource.dt,IsT]at h
 obtain⟨_,_,rfl,⟨v0,rfl⟩,_,_,rfl,⟨l1,rfl,k1⟩,_,_,rfl,k2,rfl⟩:=h
 obtain⟨v1,rfl⟩:=K12 K4e k1
 obtain⟨v2,rfl⟩:=GAddress.of k2
 exact⟨⟨v0,v1,v2⟩,rfl⟩
theorem GResource.eqv{x y:GResource}:x=y↔x.Kind=y.Kind∧x.Body=y.Body∧x.To.Host=y.To.Host∧x.To.Path=y.To.Path∧x.To.Query=y.To.Query:=by
 constructor
 ·rintro rfl;simp
 ·intro h
  rcases x with ⟨aKind,aBody,⟨aToHost,aToPath,aToQuery⟩⟩
  rcases y with ⟨bKind,bBody,⟨bToHost,bToPath,bToQuery⟩⟩
  simp only at h
  obtain⟨rfl,rfl,rfl,rfl,rfl⟩:=h
  rfl
def GResource.size(x:GResource):Nat:=(x.Body.length)
structure GPart where
 Digest:Int
 Resource:GResource
 Uses:Int
 deriving DecidableEq
def GPart.enc(x:GPart):List T:=[tI x.Digest,tI x.Resource.Kind,.sl 1 (x.Resource.Body.map encI),tI x.Resource.To.Host,tI x.Resource.To.Path,tI x.Resource.To.Query,tI x.Uses]
def GPart.dt:DT:= .st (.fc .int (.fc GResource.dt (.fc .int .fn)))
theorem GPart.of{ts:List T}(h:IsT GPart.dt ts):∃x:GPart,ts=x.enc:=by
 simp only[GPart.dt,IsT]at h
 obtain⟨_,_,rfl,⟨v0,rfl⟩,_,_,rfl,k1,_,_,rfl,⟨v2,rfl⟩,rfl⟩:=h
 obtain⟨v1,rfl⟩:=GResource.of k1
 exact⟨⟨v0,v1,v2⟩,rfl⟩
theorem GPart.eqv{x y:GPart}:x=y↔x.Digest=y.Digest∧x.Resource.Kind=y.Resource.Kind∧x.Resource.Body=y.Resource.Body∧x.Resource.To.Host=y.Resource.To.Host∧x.Resource.To.Path=y.Resource.To.Path∧x.Resource.To.Query=y.Resource.To.Query∧x.Uses=y.Uses:=by
 constructor
 ·rintro rfl;simp
 ·intro h
  rcases x with ⟨aDigest,⟨aResourceKind,aResourceBody,⟨aResourceToHost,aResourceToPath,aResourceToQuery⟩⟩,aUses⟩
  rcases y with ⟨bDigest,⟨bResourceKind,bResourceBody,⟨bResourceToHost,bResourceToPath,bResourceToQuery⟩⟩,bUses⟩
  simp only at h
  obtain⟨rfl,rfl,rfl,rfl,rfl,rfl,rfl⟩:=h
  rfl
def GPart.size(x:GPart):Nat:=(x.Resource.size)
structure GPiece where
 From:Int
 Count:Int
 New:List Int
 deriving DecidableEq
def GPiece.enc(x:GPiece):List T:=[tI x.From,tI x.Count,.sl 1 (x.New.map encI)]
def GPiece.dt:DT:= .st (.fc .int (.fc .int (.fc (.sl .int) .fn)))
theorem GPiece.of{ts:List T}(h:IsT GPiece.dt ts):∃x:GPiece,ts=x.enc:=by
 simp only[GPiece.dt,IsT]at h
 obtain⟨_,_,rfl,⟨v0,rfl⟩,_,_,rfl,⟨v1,rfl⟩,_,_,rfl,⟨l2,rfl,k2⟩,rfl⟩:=h
 obtain⟨v2,rfl⟩:=K12 K4e k2
 exact⟨⟨v0,v1,v2⟩,rfl⟩
theorem GPiece.eqv{x y:GPiece}:x=y↔x.From=y.From∧x.Count=y.Count∧x.New=y.New:=by
 constructor
 ·rintro rfl;simp
 ·intro h
  rcases x with ⟨aFrom,aCount,aNew⟩
  rcases y with ⟨bFrom,bCount,bNew⟩
  simp only at h
  obtain⟨rfl,rfl,rfl⟩:=h
  rfl
def GPiece.size(x:GPiece):Nat:=(x.New.length)
structure GVersion where
 Address:GAddress
 From:Int
 Resource:GResource
 deriving DecidableEq
def GVersion.enc(x:GVersion):List T:=[tI x.Address.Host,tI x.Address.Path,tI x.Address.Query,tI x.From,tI x.Resource.Kind,.sl 1 (x.Resource.Body.map encI),tI x.Resource.To.Host,tI x.Resource.To.Path,tI x.Resource.To.Query]
def GVersion.dt:DT:= .st (.fc GAddress.dt (.fc .int (.fc GResource.dt .fn)))
theorem GVersion.of{ts:List T}(h:IsT GVersion.dt ts):∃x:GVersion,ts=x.enc:=by
 simp only[GVersion.dt,IsT]at h
 obtain⟨_,_,rfl,k0,_,_,rfl,⟨v1,rfl⟩,_,_,rfl,k2,rfl⟩:=h
 obtain⟨v0,rfl⟩:=GAddress.of k0
 obtain⟨v2,rfl⟩:=GResource.of k2
 exact⟨⟨v0,v1,v2⟩,rfl⟩
theorem GVersion.eqv{x y:GVersion}:x=y↔x.Address.Host=y.Address.Host∧x.Address.Path=y.Address.Path∧x.Address.Query=y.Address.Query∧x.From=y.From∧x.Resource.Kind=y.Resource.Kind∧x.Resource.Body=y.Resource.Body∧x.Resource.To.Host=y.Resource.To.Host∧x.Resource.To.Path=y.Resource.To.Path∧x.Resource.To.Query=y.Resource.To.Query:=by
 constructor
 ·rintro rfl;simp
 ·intro h
  rcases x with ⟨⟨aAddressHost,aAddressPath,aAddressQuery⟩,aFrom,⟨aResourceKind,aResourceBody,⟨aResourceToHost,aResourceToPath,aResourceToQuery⟩⟩⟩
  rcases y with ⟨⟨bAddressHost,bAddressPath,bAddressQuery⟩,bFrom,⟨bResourceKind,bResourceBody,⟨bResourceToHost,bResourceToPath,bResourceToQuery⟩⟩⟩
  simp only at h
  obtain⟨rfl,rfl,rfl,rfl,rfl,rfl,rfl,rfl,rfl⟩:=h
  rfl
def GVersion.size(x:GVersion):Nat:=(x.Resource.size)
structure GOp where
 Kind:Int
 A:Int
 B:Int
 C:Int
 deriving DecidableEq
def GOp.enc(x:GOp):List T:=[tI x.Kind,tI x.A,tI x.B,tI x.C]
def GOp.dt:DT:= .st (.fc .int (.fc .int (.fc .int (.fc .int .fn))))
theorem GOp.of{ts:List T}(h:IsT GOp.dt ts):∃x:GOp,ts=x.enc:=by
 simp only[GOp.dt,IsT]at h
 obtain⟨_,_,rfl,⟨v0,rfl⟩,_,_,rfl,⟨v1,rfl⟩,_,_,rfl,⟨v2,rfl⟩,_,_,rfl,⟨v3,rfl⟩,rfl⟩:=h
 exact⟨⟨v0,v1,v2,v3⟩,rfl⟩
theorem GOp.eqv{x y:GOp}:x=y↔x.Kind=y.Kind∧x.A=y.A∧x.B=y.B∧x.C=y.C:=by
 constructor
 ·rintro rfl;simp
 ·intro h
  rcases x with ⟨aKind,aA,aB,aC⟩
  rcases y with ⟨bKind,bA,bB,bC⟩
  simp only at h
  obtain⟨rfl,rfl,rfl,rfl⟩:=h
  rfl
structure GState where
 Pc:Int
 Regs:List Int
 Slots:List Int
 Nodes:List Int
 deriving DecidableEq
def GState.enc(x:GState):List T:=[tI x.Pc,.sl 1 (x.Regs.map encI),.sl 1 (x.Slots.map encI),.sl 1 (x.Nodes.map encI)]
def GState.dt:DT:= .st (.fc .int (.fc (.sl .int) (.fc (.sl .int) (.fc (.sl .int) .fn))))
theorem GState.of{ts:List T}(h:IsT GState.dt ts):∃x:GState,ts=x.enc:=by
 simp only[GState.dt,IsT]at h
 obtain⟨_,_,rfl,⟨v0,rfl⟩,_,_,rfl,⟨l1,rfl,k1⟩,_,_,rfl,⟨l2,rfl,k2⟩,_,_,rfl,⟨l3,rfl,k3⟩,rfl⟩:=h
 obtain⟨v1,rfl⟩:=K12 K4e k1
 obtain⟨v2,rfl⟩:=K12 K4e k2
 obtain⟨v3,rfl⟩:=K12 K4e k3
 exact⟨⟨v0,v1,v2,v3⟩,rfl⟩
theorem GState.eqv{x y:GState}:x=y↔x.Pc=y.Pc∧x.Regs=y.Regs∧x.Slots=y.Slots∧x.Nodes=y.Nodes:=by
 constructor
 ·rintro rfl;simp
 ·intro h
  rcases x with ⟨aPc,aRegs,aSlots,aNodes⟩
  rcases y with ⟨bPc,bRegs,bSlots,bNodes⟩
  simp only at h
  obtain⟨rfl,rfl,rfl,rfl⟩:=h
  rfl
def GState.size(x:GState):Nat:=(x.Regs.length)+(x.Slots.length)+(x.Nodes.length)
structure GVisit where
 Site:List GVersion
 Tick:Int
 Seed:Int
 Inputs:List Int
 deriving DecidableEq
def GVisit.enc(x:GVisit):List T:=[.sl 9 (x.Site.map GVersion.enc),tI x.Tick,tI x.Seed,.sl 1 (x.Inputs.map encI)]
def GVisit.dt:DT:= .st (.fc (.sl GVersion.dt) (.fc .int (.fc .int (.fc (.sl .int) .fn))))
theorem GVisit.of{ts:List T}(h:IsT GVisit.dt ts):∃x:GVisit,ts=x.enc:=by
 simp only[GVisit.dt,IsT]at h
 obtain⟨_,_,rfl,⟨l0,rfl,k0⟩,_,_,rfl,⟨v1,rfl⟩,_,_,rfl,⟨v2,rfl⟩,_,_,rfl,⟨l3,rfl,k3⟩,rfl⟩:=h
 obtain⟨v0,rfl⟩:=K12 GVersion.of k0
 obtain⟨v3,rfl⟩:=K12 K4e k3
 exact⟨⟨v0,v1,v2,v3⟩,rfl⟩
theorem GVisit.eqv{x y:GVisit}:x=y↔x.Site=y.Site∧x.Tick=y.Tick∧x.Seed=y.Seed∧x.Inputs=y.Inputs:=by
 constructor
 ·rintro rfl;simp
 ·intro h
  rcases x with ⟨aSite,aTick,aSeed,aInputs⟩
  rcases y with ⟨bSite,bTick,bSeed,bInputs⟩
  simp only at h
  obtain⟨rfl,rfl,rfl,rfl⟩:=h
  rfl
def GVisit.size(x:GVisit):Nat:=(x.Site.length+(x.Site.map GVersion.size).sum)+(x.Inputs.length)
structure GWant where
 Kind:Int
 Address:GAddress
 deriving DecidableEq
def GWant.enc(x:GWant):List T:=[tI x.Kind,tI x.Address.Host,tI x.Address.Path,tI x.Address.Query]
def GWant.dt:DT:= .st (.fc .int (.fc GAddress.dt .fn))
theorem GWant.of{ts:List T}(h:IsT GWant.dt ts):∃x:GWant,ts=x.enc:=by
 simp only[GWant.dt,IsT]at h
 obtain⟨_,_,rfl,⟨v0,rfl⟩,_,_,rfl,k1,rfl⟩:=h
 obtain⟨v1,rfl⟩:=GAddress.of k1
 exact⟨⟨v0,v1⟩,rfl⟩
theorem GWant.eqv{x y:GWant}:x=y↔x.Kind=y.Kind∧x.Address.Host=y.Address.Host∧x.Address.Path=y.Address.Path∧x.Address.Query=y.Address.Query:=by
 constructor
 ·rintro rfl;simp
 ·intro h
  rcases x with ⟨aKind,⟨aAddressHost,aAddressPath,aAddressQuery⟩⟩
  rcases y with ⟨bKind,⟨bAddressHost,bAddressPath,bAddressQuery⟩⟩
  simp only at h
  obtain⟨rfl,rfl,rfl,rfl⟩:=h
  rfl
structure GEntry where
 Kind:Int
 Address:GAddress
 Value:Int
 deriving DecidableEq
def GEntry.enc(x:GEntry):List T:=[tI x.Kind,tI x.Address.Host,tI x.Address.Path,tI x.Address.Query,tI x.Value]
def GEntry.dt:DT:= .st (.fc .int (.fc GAddress.dt (.fc .int .fn)))
theorem GEntry.of{ts:List T}(h:IsT GEntry.dt ts):∃x:GEntry,ts=x.enc:=by
 simp only[GEntry.dt,IsT]at h
 obtain⟨_,_,rfl,⟨v0,rfl⟩,_,_,rfl,k1,_,_,rfl,⟨v2,rfl⟩,rfl⟩:=h
 obtain⟨v1,rfl⟩:=GAddress.of k1
 exact⟨⟨v0,v1,v2⟩,rfl⟩
theorem GEntry.eqv{x y:GEntry}:x=y↔x.Kind=y.Kind∧x.Address.Host=y.Address.Host∧x.Address.Path=y.Address.Path∧x.Address.Query=y.Address.Query∧x.Value=y.Value:=by
 constructor
 ·rintro rfl;simp
 ·intro h
  rcases x with ⟨aKind,⟨aAddressHost,aAddressPath,aAddressQuery⟩,aValue⟩
  rcases y with ⟨bKind,⟨bAddressHost,bAddressPath,bAddressQuery⟩,bValue⟩
  simp only at h
  obtain⟨rfl,rfl,rfl,rfl,rfl⟩:=h
  rfl
structure GCapture where
 Address:GAddress
 Tick:Int
 Resource:GResource
 deriving DecidableEq
def GCapture.enc(x:GCapture):List T:=[tI x.Address.Host,tI x.Address.Path,tI x.Address.Query,tI x.Tick,tI x.Resource.Kind,.sl 1 (x.Resource.Body.map encI),tI x.Resource.To.Host,tI x.Resource.To.Path,tI x.Resource.To.Query]
def GCapture.dt:DT:= .st (.fc GAddress.dt (.fc .int (.fc GResource.dt .fn)))
theorem GCapture.of{ts:List T}(h:IsT GCapture.dt ts):∃x:GCapture,ts=x.enc:=by
 simp only[GCapture.dt,IsT]at h
 obtain⟨_,_,rfl,k0,_,_,rfl,⟨v1,rfl⟩,_,_,rfl,k2,rfl⟩:=h
 obtain⟨v0,rfl⟩:=GAddress.of k0
 obtain⟨v2,rfl⟩:=GResource.of k2
 exact⟨⟨v0,v1,v2⟩,rfl⟩
theorem GCapture.eqv{x y:GCapture}:x=y↔x.Address.Host=y.Address.Host∧x.Address.Path=y.Address.Path∧x.Address.Query=y.Address.Query∧x.Tick=y.Tick∧x.Resource.Kind=y.Resource.Kind∧x.Resource.Body=y.Resource.Body∧x.Resource.To.Host=y.Resource.To.Host∧x.Resource.To.Path=y.Resource.To.Path∧x.Resource.To.Query=y.Resource.To.Query:=by
 constructor
 ·rintro rfl;simp
 ·intro h
  rcases x with ⟨⟨aAddressHost,aAddressPath,aAddressQuery⟩,aTick,⟨aResourceKind,aResourceBody,⟨aResourceToHost,aResourceToPath,aResourceToQuery⟩⟩⟩
  rcases y with ⟨⟨bAddressHost,bAddressPath,bAddressQuery⟩,bTick,⟨bResourceKind,bResourceBody,⟨bResourceToHost,bResourceToPath,bResourceToQuery⟩⟩⟩
  simp only at h
  obtain⟨rfl,rfl,rfl,rfl,rfl,rfl,rfl,rfl,rfl⟩:=h
  rfl
def GCapture.size(x:GCapture):Nat:=(x.Resource.size)
structure GChoice where
 Rule:Int
 At:Int
 deriving DecidableEq
def GChoice.enc(x:GChoice):List T:=[tI x.Rule,tI x.At]
def GChoice.dt:DT:= .st (.fc .int (.fc .int .fn))
theorem GChoice.of{ts:List T}(h:IsT GChoice.dt ts):∃x:GChoice,ts=x.enc:=by
 simp only[GChoice.dt,IsT]at h
 obtain⟨_,_,rfl,⟨v0,rfl⟩,_,_,rfl,⟨v1,rfl⟩,rfl⟩:=h
 exact⟨⟨v0,v1⟩,rfl⟩
theorem GChoice.eqv{x y:GChoice}:x=y↔x.Rule=y.Rule∧x.At=y.At:=by
 constructor
 ·rintro rfl;simp
 ·intro h
  rcases x with ⟨aRule,aAt⟩
  rcases y with ⟨bRule,bAt⟩
  simp only at h
  obtain⟨rfl,rfl⟩:=h
  rfl
structure GWander where
 State:GState
 Choices:List GChoice
 Labels:List Int
 Missing:Int
 deriving DecidableEq
def GWander.enc(x:GWander):List T:=[tI x.State.Pc,.sl 1 (x.State.Regs.map encI),.sl 1 (x.State.Slots.map encI),.sl 1 (x.State.Nodes.map encI),.sl 2 (x.Choices.map GChoice.enc),.sl 1 (x.Labels.map encI),tI x.Missing]
def GWander.dt:DT:= .st (.fc GState.dt (.fc (.sl GChoice.dt) (.fc (.sl .int) (.fc .int .fn))))
theorem GWander.of{ts:List T}(h:IsT GWander.dt ts):∃x:GWander,ts=x.enc:=by
 simp only[GWander.dt,IsT]at h
 obtain⟨_,_,rfl,k0,_,_,rfl,⟨l1,rfl,k1⟩,_,_,rfl,⟨l2,rfl,k2⟩,_,_,rfl,⟨v3,rfl⟩,rfl⟩:=h
 obtain⟨v0,rfl⟩:=GState.of k0
 obtain⟨v1,rfl⟩:=K12 GChoice.of k1
 obtain⟨v2,rfl⟩:=K12 K4e k2
 exact⟨⟨v0,v1,v2,v3⟩,rfl⟩
theorem GWander.eqv{x y:GWander}:x=y↔x.State.Pc=y.State.Pc∧x.State.Regs=y.State.Regs∧x.State.Slots=y.State.Slots∧x.State.Nodes=y.State.Nodes∧x.Choices=y.Choices∧x.Labels=y.Labels∧x.Missing=y.Missing:=by
 constructor
 ·rintro rfl;simp
 ·intro h
  rcases x with ⟨⟨aStatePc,aStateRegs,aStateSlots,aStateNodes⟩,aChoices,aLabels,aMissing⟩
  rcases y with ⟨⟨bStatePc,bStateRegs,bStateSlots,bStateNodes⟩,bChoices,bLabels,bMissing⟩
  simp only at h
  obtain⟨rfl,rfl,rfl,rfl,rfl,rfl,rfl⟩:=h
  rfl
def GWander.size(x:GWander):Nat:=(x.State.size)+(x.Choices.length)+(x.Labels.length)
structure GModel where
 Base:Int
 Step:Int
 Seen:Int
 Fits:Bool
 deriving DecidableEq
def GModel.enc(x:GModel):List T:=[tI x.Base,tI x.Step,tI x.Seen,tB x.Fits]
def GModel.dt:DT:= .st (.fc .int (.fc .int (.fc .int (.fc .bool .fn))))
theorem GModel.of{ts:List T}(h:IsT GModel.dt ts):∃x:GModel,ts=x.enc:=by
 simp only[GModel.dt,IsT]at h
 obtain⟨_,_,rfl,⟨v0,rfl⟩,_,_,rfl,⟨v1,rfl⟩,_,_,rfl,⟨v2,rfl⟩,_,_,rfl,⟨v3,rfl⟩,rfl⟩:=h
 exact⟨⟨v0,v1,v2,v3⟩,rfl⟩
theorem GModel.eqv{x y:GModel}:x=y↔x.Base=y.Base∧x.Step=y.Step∧x.Seen=y.Seen∧x.Fits=y.Fits:=by
 constructor
 ·rintro rfl;simp
 ·intro h
  rcases x with ⟨aBase,aStep,aSeen,aFits⟩
  rcases y with ⟨bBase,bStep,bSeen,bFits⟩
  simp only at h
  obtain⟨rfl,rfl,rfl,rfl⟩:=h
  rfl
structure GShown where
 Tick:Int
 Address:GAddress
 deriving DecidableEq
def GShown.enc(x:GShown):List T:=[tI x.Tick,tI x.Address.Host,tI x.Address.Path,tI x.Address.Query]
def GShown.dt:DT:= .st (.fc .int (.fc GAddress.dt .fn))
theorem GShown.of{ts:List T}(h:IsT GShown.dt ts):∃x:GShown,ts=x.enc:=by
 simp only[GShown.dt,IsT]at h
 obtain⟨_,_,rfl,⟨v0,rfl⟩,_,_,rfl,k1,rfl⟩:=h
 obtain⟨v1,rfl⟩:=GAddress.of k1
 exact⟨⟨v0,v1⟩,rfl⟩
theorem GShown.eqv{x y:GShown}:x=y↔x.Tick=y.Tick∧x.Address.Host=y.Address.Host∧x.Address.Path=y.Address.Path∧x.Address.Query=y.Address.Query:=by
 constructor
 ·rintro rfl;simp
 ·intro h
  rcases x with ⟨aTick,⟨aAddressHost,aAddressPath,aAddressQuery⟩⟩
  rcases y with ⟨bTick,⟨bAddressHost,bAddressPath,bAddressQuery⟩⟩
  simp only at h
  obtain⟨rfl,rfl,rfl,rfl⟩:=h
  rfl
structure GLeaf where
 Value:Int
 Salt:Int
 Hidden:Bool
 Seal:Int
 deriving DecidableEq
def GLeaf.enc(x:GLeaf):List T:=[tI x.Value,tI x.Salt,tB x.Hidden,tI x.Seal]
def GLeaf.dt:DT:= .st (.fc .int (.fc .int (.fc .bool (.fc .int .fn))))
theorem GLeaf.of{ts:List T}(h:IsT GLeaf.dt ts):∃x:GLeaf,ts=x.enc:=by
 simp only[GLeaf.dt,IsT]at h
 obtain⟨_,_,rfl,⟨v0,rfl⟩,_,_,rfl,⟨v1,rfl⟩,_,_,rfl,⟨v2,rfl⟩,_,_,rfl,⟨v3,rfl⟩,rfl⟩:=h
 exact⟨⟨v0,v1,v2,v3⟩,rfl⟩
theorem GLeaf.eqv{x y:GLeaf}:x=y↔x.Value=y.Value∧x.Salt=y.Salt∧x.Hidden=y.Hidden∧x.Seal=y.Seal:=by
 constructor
 ·rintro rfl;simp
 ·intro h
  rcases x with ⟨aValue,aSalt,aHidden,aSeal⟩
  rcases y with ⟨bValue,bSalt,bHidden,bSeal⟩
  simp only at h
  obtain⟨rfl,rfl,rfl,rfl⟩:=h
  rfl
structure GEdition where
 Captures:List GCapture
 From:Int
 Until:Int
 Hidden:List GAddress
 deriving DecidableEq
def GEdition.enc(x:GEdition):List T:=[.sl 9 (x.Captures.map GCapture.enc),tI x.From,tI x.Until,.sl 3 (x.Hidden.map GAddress.enc)]
def GEdition.dt:DT:= .st (.fc (.sl GCapture.dt) (.fc .int (.fc .int (.fc (.sl GAddress.dt) .fn))))
theorem GEdition.of{ts:List T}(h:IsT GEdition.dt ts):∃x:GEdition,ts=x.enc:=by
 simp only[GEdition.dt,IsT]at h
 obtain⟨_,_,rfl,⟨l0,rfl,k0⟩,_,_,rfl,⟨v1,rfl⟩,_,_,rfl,⟨v2,rfl⟩,_,_,rfl,⟨l3,rfl,k3⟩,rfl⟩:=h
 obtain⟨v0,rfl⟩:=K12 GCapture.of k0
 obtain⟨v3,rfl⟩:=K12 GAddress.of k3
 exact⟨⟨v0,v1,v2,v3⟩,rfl⟩
theorem GEdition.eqv{x y:GEdition}:x=y↔x.Captures=y.Captures∧x.From=y.From∧x.Until=y.Until∧x.Hidden=y.Hidden:=by
 constructor
 ·rintro rfl;simp
 ·intro h
  rcases x with ⟨aCaptures,aFrom,aUntil,aHidden⟩
  rcases y with ⟨bCaptures,bFrom,bUntil,bHidden⟩
  simp only at h
  obtain⟨rfl,rfl,rfl,rfl⟩:=h
  rfl
def GEdition.size(x:GEdition):Nat:=(x.Captures.length+(x.Captures.map GCapture.size).sum)+(x.Hidden.length)
structure GExclusion where
 Host:Int
 Path:Int
 From:Int
 Until:Int
 Asked:Int
 deriving DecidableEq
def GExclusion.enc(x:GExclusion):List T:=[tI x.Host,tI x.Path,tI x.From,tI x.Until,tI x.Asked]
def GExclusion.dt:DT:= .st (.fc .int (.fc .int (.fc .int (.fc .int (.fc .int .fn)))))
theorem GExclusion.of{ts:List T}(h:IsT GExclusion.dt ts):∃x:GExclusion,ts=x.enc:=by
 simp only[GExclusion.dt,IsT]at h
 obtain⟨_,_,rfl,⟨v0,rfl⟩,_,_,rfl,⟨v1,rfl⟩,_,_,rfl,⟨v2,rfl⟩,_,_,rfl,⟨v3,rfl⟩,_,_,rfl,⟨v4,rfl⟩,rfl⟩:=h
 exact⟨⟨v0,v1,v2,v3,v4⟩,rfl⟩
theorem GExclusion.eqv{x y:GExclusion}:x=y↔x.Host=y.Host∧x.Path=y.Path∧x.From=y.From∧x.Until=y.Until∧x.Asked=y.Asked:=by
 constructor
 ·rintro rfl;simp
 ·intro h
  rcases x with ⟨aHost,aPath,aFrom,aUntil,aAsked⟩
  rcases y with ⟨bHost,bPath,bFrom,bUntil,bAsked⟩
  simp only at h
  obtain⟨rfl,rfl,rfl,rfl,rfl⟩:=h
  rfl
structure GStatement where
 Witness:Int
 Digest:Int
 Tick:Int
 Seal:Int
 deriving DecidableEq
def GStatement.enc(x:GStatement):List T:=[tI x.Witness,tI x.Digest,tI x.Tick,tI x.Seal]
def GStatement.dt:DT:= .st (.fc .int (.fc .int (.fc .int (.fc .int .fn))))
theorem GStatement.of{ts:List T}(h:IsT GStatement.dt ts):∃x:GStatement,ts=x.enc:=by
 simp only[GStatement.dt,IsT]at h
 obtain⟨_,_,rfl,⟨v0,rfl⟩,_,_,rfl,⟨v1,rfl⟩,_,_,rfl,⟨v2,rfl⟩,_,_,rfl,⟨v3,rfl⟩,rfl⟩:=h
 exact⟨⟨v0,v1,v2,v3⟩,rfl⟩
theorem GStatement.eqv{x y:GStatement}:x=y↔x.Witness=y.Witness∧x.Digest=y.Digest∧x.Tick=y.Tick∧x.Seal=y.Seal:=by
 constructor
 ·rintro rfl;simp
 ·intro h
  rcases x with ⟨aWitness,aDigest,aTick,aSeal⟩
  rcases y with ⟨bWitness,bDigest,bTick,bSeal⟩
  simp only at h
  obtain⟨rfl,rfl,rfl,rfl⟩:=h
  rfl
structure GLibrary where
 Id:Int
 Digests:List Int
 Up:Bool
 Lies:Bool
 deriving DecidableEq
def GLibrary.enc(x:GLibrary):List T:=[tI x.Id,.sl 1 (x.Digests.map encI),tB x.Up,tB x.Lies]
def GLibrary.dt:DT:= .st (.fc .int (.fc (.sl .int) (.fc .bool (.fc .bool .fn))))
theorem GLibrary.of{ts:List T}(h:IsT GLibrary.dt ts):∃x:GLibrary,ts=x.enc:=by
 simp only[GLibrary.dt,IsT]at h
 obtain⟨_,_,rfl,⟨v0,rfl⟩,_,_,rfl,⟨l1,rfl,k1⟩,_,_,rfl,⟨v2,rfl⟩,_,_,rfl,⟨v3,rfl⟩,rfl⟩:=h
 obtain⟨v1,rfl⟩:=K12 K4e k1
 exact⟨⟨v0,v1,v2,v3⟩,rfl⟩
theorem GLibrary.eqv{x y:GLibrary}:x=y↔x.Id=y.Id∧x.Digests=y.Digests∧x.Up=y.Up∧x.Lies=y.Lies:=by
 constructor
 ·rintro rfl;simp
 ·intro h
  rcases x with ⟨aId,aDigests,aUp,aLies⟩
  rcases y with ⟨bId,bDigests,bUp,bLies⟩
  simp only at h
  obtain⟨rfl,rfl,rfl,rfl⟩:=h
  rfl
def GLibrary.size(x:GLibrary):Nat:=(x.Digests.length)
structure GContainer where
 Script:List GOp
 Entries:List GEntry
 Captures:List GCapture
 Root:Int
 deriving DecidableEq
def GContainer.enc(x:GContainer):List T:=[.sl 4 (x.Script.map GOp.enc),.sl 5 (x.Entries.map GEntry.enc),.sl 9 (x.Captures.map GCapture.enc),tI x.Root]
def GContainer.dt:DT:= .st (.fc (.sl GOp.dt) (.fc (.sl GEntry.dt) (.fc (.sl GCapture.dt) (.fc .int .fn))))
theorem GContainer.of{ts:List T}(h:IsT GContainer.dt ts):∃x:GContainer,ts=x.enc:=by
 simp only[GContainer.dt,IsT]at h
 obtain⟨_,_,rfl,⟨l0,rfl,k0⟩,_,_,rfl,⟨l1,rfl,k1⟩,_,_,rfl,⟨l2,rfl,k2⟩,_,_,rfl,⟨v3,rfl⟩,rfl⟩:=h
 obtain⟨v0,rfl⟩:=K12 GOp.of k0
 obtain⟨v1,rfl⟩:=K12 GEntry.of k1
 obtain⟨v2,rfl⟩:=K12 GCapture.of k2
 exact⟨⟨v0,v1,v2,v3⟩,rfl⟩
theorem GContainer.eqv{x y:GContainer}:x=y↔x.Script=y.Script∧x.Entries=y.Entries∧x.Captures=y.Captures∧x.Root=y.Root:=by
 constructor
 ·rintro rfl;simp
 ·intro h
  rcases x with ⟨aScript,aEntries,aCaptures,aRoot⟩
  rcases y with ⟨bScript,bEntries,bCaptures,bRoot⟩
  simp only at h
  obtain⟨rfl,rfl,rfl,rfl⟩:=h
  rfl
def GContainer.size(x:GContainer):Nat:=(x.Script.length)+(x.Entries.length)+(x.Captures.length+(x.Captures.map GCapture.size).sum)
structure GFound where
 Address:GAddress
 Tick:Int
 Container:Int
 At:Int
 deriving DecidableEq
def GFound.enc(x:GFound):List T:=[tI x.Address.Host,tI x.Address.Path,tI x.Address.Query,tI x.Tick,tI x.Container,tI x.At]
def GFound.dt:DT:= .st (.fc GAddress.dt (.fc .int (.fc .int (.fc .int .fn))))
theorem GFound.of{ts:List T}(h:IsT GFound.dt ts):∃x:GFound,ts=x.enc:=by
 simp only[GFound.dt,IsT]at h
 obtain⟨_,_,rfl,k0,_,_,rfl,⟨v1,rfl⟩,_,_,rfl,⟨v2,rfl⟩,_,_,rfl,⟨v3,rfl⟩,rfl⟩:=h
 obtain⟨v0,rfl⟩:=GAddress.of k0
 exact⟨⟨v0,v1,v2,v3⟩,rfl⟩
theorem GFound.eqv{x y:GFound}:x=y↔x.Address.Host=y.Address.Host∧x.Address.Path=y.Address.Path∧x.Address.Query=y.Address.Query∧x.Tick=y.Tick∧x.Container=y.Container∧x.At=y.At:=by
 constructor
 ·rintro rfl;simp
 ·intro h
  rcases x with ⟨⟨aAddressHost,aAddressPath,aAddressQuery⟩,aTick,aContainer,aAt⟩
  rcases y with ⟨⟨bAddressHost,bAddressPath,bAddressQuery⟩,bTick,bContainer,bAt⟩
  simp only at h
  obtain⟨rfl,rfl,rfl,rfl,rfl,rfl⟩:=h
  rfl
structure GDisk where
 Containers:List GContainer
 Index:List GFound
 Wanted:List GContainer
 deriving DecidableEq
def GDisk.enc(x:GDisk):List T:=[.sl 4 (x.Containers.map GContainer.enc),.sl 6 (x.Index.map GFound.enc),.sl 4 (x.Wanted.map GContainer.enc)]
def GDisk.dt:DT:= .st (.fc (.sl GContainer.dt) (.fc (.sl GFound.dt) (.fc (.sl GContainer.dt) .fn)))
theorem GDisk.of{ts:List T}(h:IsT GDisk.dt ts):∃x:GDisk,ts=x.enc:=by
 simp only[GDisk.dt,IsT]at h
 obtain⟨_,_,rfl,⟨l0,rfl,k0⟩,_,_,rfl,⟨l1,rfl,k1⟩,_,_,rfl,⟨l2,rfl,k2⟩,rfl⟩:=h
 obtain⟨v0,rfl⟩:=K12 GContainer.of k0
 obtain⟨v1,rfl⟩:=K12 GFound.of k1
 obtain⟨v2,rfl⟩:=K12 GContainer.of k2
 exact⟨⟨v0,v1,v2⟩,rfl⟩
theorem GDisk.eqv{x y:GDisk}:x=y↔x.Containers=y.Containers∧x.Index=y.Index∧x.Wanted=y.Wanted:=by
 constructor
 ·rintro rfl;simp
 ·intro h
  rcases x with ⟨aContainers,aIndex,aWanted⟩
  rcases y with ⟨bContainers,bIndex,bWanted⟩
  simp only at h
  obtain⟨rfl,rfl,rfl⟩:=h
  rfl
def GDisk.size(x:GDisk):Nat:=(x.Containers.length+(x.Containers.map GContainer.size).sum)+(x.Index.length)+(x.Wanted.length+(x.Wanted.map GContainer.size).sum)
structure GArchive where
 Site:List GVersion
 Script:List GOp
 Disk:GDisk
 Exclusions:List GExclusion
 Libraries:List GLibrary
 Keys:List Int
 Statements:List GStatement
 Now:Int
 deriving DecidableEq
def GArchive.enc(x:GArchive):List T:=[.sl 9 (x.Site.map GVersion.enc),.sl 4 (x.Script.map GOp.enc),.sl 4 (x.Disk.Containers.map GContainer.enc),.sl 6 (x.Disk.Index.map GFound.enc),.sl 4 (x.Disk.Wanted.map GContainer.enc),.sl 5 (x.Exclusions.map GExclusion.enc),.sl 4 (x.Libraries.map GLibrary.enc),.sl 1 (x.Keys.map encI),.sl 4 (x.Statements.map GStatement.enc),tI x.Now]
def GArchive.dt:DT:= .st (.fc (.sl GVersion.dt) (.fc (.sl GOp.dt) (.fc GDisk.dt (.fc (.sl GExclusion.dt) (.fc (.sl GLibrary.dt) (.fc (.sl .int) (.fc (.sl GStatement.dt) (.fc .int .fn))))))))
theorem GArchive.of{ts:List T}(h:IsT GArchive.dt ts):∃x:GArchive,ts=x.enc:=by
 simp only[GArchive.dt,IsT]at h
 obtain⟨_,_,rfl,⟨l0,rfl,k0⟩,_,_,rfl,⟨l1,rfl,k1⟩,_,_,rfl,k2,_,_,rfl,⟨l3,rfl,k3⟩,_,_,rfl,⟨l4,rfl,k4⟩,_,_,rfl,⟨l5,rfl,k5⟩,_,_,rfl,⟨l6,rfl,k6⟩,_,_,rfl,⟨v7,rfl⟩,rfl⟩:=h
 obtain⟨v0,rfl⟩:=K12 GVersion.of k0
 obtain⟨v1,rfl⟩:=K12 GOp.of k1
 obtain⟨v2,rfl⟩:=GDisk.of k2
 obtain⟨v3,rfl⟩:=K12 GExclusion.of k3
 obtain⟨v4,rfl⟩:=K12 GLibrary.of k4
 obtain⟨v5,rfl⟩:=K12 K4e k5
 obtain⟨v6,rfl⟩:=K12 GStatement.of k6
 exact⟨⟨v0,v1,v2,v3,v4,v5,v6,v7⟩,rfl⟩
theorem GArchive.eqv{x y:GArchive}:x=y↔x.Site=y.Site∧x.Script=y.Script∧x.Disk.Containers=y.Disk.Containers∧x.Disk.Index=y.Disk.Index∧x.Disk.Wanted=y.Disk.Wanted∧x.Exclusions=y.Exclusions∧x.Libraries=y.Libraries∧x.Keys=y.Keys∧x.Statements=y.Statements∧x.Now=y.Now:=by
 constructor
 ·rintro rfl;simp
 ·intro h
  rcases x with ⟨aSite,aScript,⟨aDiskContainers,aDiskIndex,aDiskWanted⟩,aExclusions,aLibraries,aKeys,aStatements,aNow⟩
  rcases y with ⟨bSite,bScript,⟨bDiskContainers,bDiskIndex,bDiskWanted⟩,bExclusions,bLibraries,bKeys,bStatements,bNow⟩
  simp only at h
  obtain⟨rfl,rfl,rfl,rfl,rfl,rfl,rfl,rfl,rfl,rfl⟩:=h
  rfl
def GArchive.size(x:GArchive):Nat:=(x.Site.length+(x.Site.map GVersion.size).sum)+(x.Script.length)+(x.Disk.size)+(x.Exclusions.length)+(x.Libraries.length+(x.Libraries.map GLibrary.size).sum)+(x.Keys.length)+(x.Statements.length)
structure GEvent where
 Kind:Int
 N:Int
 Inputs:List Int
 Version:GVersion
 Exclusion:GExclusion
 deriving DecidableEq
def GEvent.enc(x:GEvent):List T:=[tI x.Kind,tI x.N,.sl 1 (x.Inputs.map encI),tI x.Version.Address.Host,tI x.Version.Address.Path,tI x.Version.Address.Query,tI x.Version.From,tI x.Version.Resource.Kind,.sl 1 (x.Version.Resource.Body.map encI),tI x.Version.Resource.To.Host,tI x.Version.Resource.To.Path,tI x.Version.Resource.To.Query,tI x.Exclusion.Host,tI x.Exclusion.Path,tI x.Exclusion.From,tI x.Exclusion.Until,tI x.Exclusion.Asked]
def GEvent.dt:DT:= .st (.fc .int (.fc .int (.fc (.sl .int) (.fc GVersion.dt (.fc GExclusion.dt .fn)))))
theorem GEvent.of{ts:List T}(h:IsT GEvent.dt ts):∃x:GEvent,ts=x.enc:=by
 simp only[GEvent.dt,IsT]at h
 obtain⟨_,_,rfl,⟨v0,rfl⟩,_,_,rfl,⟨v1,rfl⟩,_,_,rfl,⟨l2,rfl,k2⟩,_,_,rfl,k3,_,_,rfl,k4,rfl⟩:=h
 obtain⟨v2,rfl⟩:=K12 K4e k2
 obtain⟨v3,rfl⟩:=GVersion.of k3
 obtain⟨v4,rfl⟩:=GExclusion.of k4
 exact⟨⟨v0,v1,v2,v3,v4⟩,rfl⟩
theorem GEvent.eqv{x y:GEvent}:x=y↔x.Kind=y.Kind∧x.N=y.N∧x.Inputs=y.Inputs∧x.Version.Address.Host=y.Version.Address.Host∧x.Version.Address.Path=y.Version.Address.Path∧x.Version.Address.Query=y.Version.Address.Query∧x.Version.From=y.Version.From∧x.Version.Resource.Kind=y.Version.Resource.Kind∧x.Version.Resource.Body=y.Version.Resource.Body∧x.Version.Resource.To.Host=y.Version.Resource.To.Host∧x.Version.Resource.To.Path=y.Version.Resource.To.Path∧x.Version.Resource.To.Query=y.Version.Resource.To.Query∧x.Exclusion.Host=y.Exclusion.Host∧x.Exclusion.Path=y.Exclusion.Path∧x.Exclusion.From=y.Exclusion.From∧x.Exclusion.Until=y.Exclusion.Until∧x.Exclusion.Asked=y.Exclusion.Asked:=by
 constructor
 ·rintro rfl;simp
 ·intro h
  rcases x with ⟨aKind,aN,aInputs,⟨⟨aVersionAddressHost,aVersionAddressPath,aVersionAddressQuery⟩,aVersionFrom,⟨aVersionResourceKind,aVersionResourceBody,⟨aVersionResourceToHost,aVersionResourceToPath,aVersionResourceToQuery⟩⟩⟩,⟨aExclusionHost,aExclusionPath,aExclusionFrom,aExclusionUntil,aExclusionAsked⟩⟩
  rcases y with ⟨bKind,bN,bInputs,⟨⟨bVersionAddressHost,bVersionAddressPath,bVersionAddressQuery⟩,bVersionFrom,⟨bVersionResourceKind,bVersionResourceBody,⟨bVersionResourceToHost,bVersionResourceToPath,bVersionResourceToQuery⟩⟩⟩,⟨bExclusionHost,bExclusionPath,bExclusionFrom,bExclusionUntil,bExclusionAsked⟩⟩
  simp only at h
  obtain⟨rfl,rfl,rfl,rfl,rfl,rfl,rfl,rfl,rfl,rfl,rfl,rfl,rfl,rfl,rfl,rfl,rfl⟩:=h
  rfl
def GEvent.size(x:GEvent):Nat:=(x.Inputs.length)+(x.Version.size)
structure GChange where
 Tick:Int
 Digest:Int
 deriving DecidableEq
def GChange.enc(x:GChange):List T:=[tI x.Tick,tI x.Digest]
def GChange.dt:DT:= .st (.fc .int (.fc .int .fn))
theorem GChange.of{ts:List T}(h:IsT GChange.dt ts):∃x:GChange,ts=x.enc:=by
 simp only[GChange.dt,IsT]at h
 obtain⟨_,_,rfl,⟨v0,rfl⟩,_,_,rfl,⟨v1,rfl⟩,rfl⟩:=h
 exact⟨⟨v0,v1⟩,rfl⟩
theorem GChange.eqv{x y:GChange}:x=y↔x.Tick=y.Tick∧x.Digest=y.Digest:=by
 constructor
 ·rintro rfl;simp
 ·intro h
  rcases x with ⟨aTick,aDigest⟩
  rcases y with ⟨bTick,bDigest⟩
  simp only at h
  obtain⟨rfl,rfl⟩:=h
  rfl
structure GPlayed where
 Code:Int
 At:Int
 State:GState
 deriving DecidableEq
def GPlayed.enc(x:GPlayed):List T:=[tI x.Code,tI x.At,tI x.State.Pc,.sl 1 (x.State.Regs.map encI),.sl 1 (x.State.Slots.map encI),.sl 1 (x.State.Nodes.map encI)]
def GPlayed.dt:DT:= .st (.fc .int (.fc .int (.fc GState.dt .fn)))
theorem GPlayed.of{ts:List T}(h:IsT GPlayed.dt ts):∃x:GPlayed,ts=x.enc:=by
 simp only[GPlayed.dt,IsT]at h
 obtain⟨_,_,rfl,⟨v0,rfl⟩,_,_,rfl,⟨v1,rfl⟩,_,_,rfl,k2,rfl⟩:=h
 obtain⟨v2,rfl⟩:=GState.of k2
 exact⟨⟨v0,v1,v2⟩,rfl⟩
theorem GPlayed.eqv{x y:GPlayed}:x=y↔x.Code=y.Code∧x.At=y.At∧x.State.Pc=y.State.Pc∧x.State.Regs=y.State.Regs∧x.State.Slots=y.State.Slots∧x.State.Nodes=y.State.Nodes:=by
 constructor
 ·rintro rfl;simp
 ·intro h
  rcases x with ⟨aCode,aAt,⟨aStatePc,aStateRegs,aStateSlots,aStateNodes⟩⟩
  rcases y with ⟨bCode,bAt,⟨bStatePc,bStateRegs,bStateSlots,bStateNodes⟩⟩
  simp only at h
  obtain⟨rfl,rfl,rfl,rfl,rfl,rfl⟩:=h
  rfl
def GPlayed.size(x:GPlayed):Nat:=(x.State.size)
attribute [go_sem] encI encB GAddress.enc GResource.enc GPart.enc GPiece.enc GVersion.enc GOp.enc GState.enc GVisit.enc GWant.enc GEntry.enc GCapture.enc GChoice.enc GWander.enc GModel.enc GShown.enc GLeaf.enc GEdition.enc GExclusion.enc GStatement.enc GLibrary.enc GContainer.enc GFound.enc GDisk.enc GArchive.enc GEvent.enc GChange.enc GPlayed.enc
end Go.Proofs.YtjneccbpkckdfaaGreatR
namespace Go.Proofs.YtjneccbpkckdfaaGreatR
open Go Go.RowKit
open Nat (reduceEqDiff reduceLT reduceLeDiff reduceAdd reduceMul)
open List (reduceReplicate)
def szr(n:Nat)(left:Int):Int:=if (n:Int)≤left then left-n else -1
theorem K7l{n:Nat}{left:Int}(_:0≤left):szr n left<0↔left<n:=by unfold szr;split<;>omega
theorem K20{n m:Nat}{left:Int}(_:0≤left)(h1:¬szr n left<0):0≤szr n left∧szr n left≤left∧szr (n+m) left=szr m (szr n left):=by
 unfold szr at*
 split at h1
 ·rename_i h2
  simp only[h2,if_true]
  refine⟨by omega,by omega,?_⟩
  split<;>split<;>omega
 ·omega
def own:List T→List (Bool×T)
 | []=>[]
 |.sl k es::l=>(true,.sl k es)::own l
 |t::l=>(false,t)::own l
@[go_sem] theorem own_nil:own []=[]:=rfl
@[go_sem] theorem own_sl {k es l}:own (.sl k es::l)=(true,.sl k es)::own l:=rfl
@[go_sem] theorem own_sc {v l}:own (.sc v::l)=(false,.sc v)::own l:=rfl
abbrev rS(ts:List T):RV:=⟨true,own ts⟩
abbrev rL(k:Nat)(es:List (List T)):RV:=⟨false,[(true,.sl k es)]⟩
abbrev aS(ts:List T):Bool×List T:=(true,ts)
attribute [go_sem] rS rL aS
def filled{α:Type}(f:α→List T)(z:List T)(xs:List α)(k:Nat):List (List T):=(xs.take k).map f++List.replicate (xs.length-k) z
section
variable {α:Type} {f:α→List T} {z:List T} {xs:List α} {k:Nat}
@[go_sem] theorem K27 (h:k≤xs.length):(filled f z xs k).length=xs.length:=by simp[filled];omega
theorem K1t:filled f z xs 0=List.replicate xs.length z:=by simp[filled]
theorem K25:filled f z xs xs.length=xs.map f:=by simp[filled]
theorem K26(h:k<xs.length):(filled f z xs k)[k]? =some z:=by
 unfold filled
 rw[List.getElem?_append_right (by simp;omega),List.getElem?_replicate,if_pos (by simp;omega)]
theorem K28{x:α}(h:xs[k]? =some x):(filled f z xs k).set k (f x)=filled f z xs (k+1):=by
 have hk:=Kg h
 unfold filled
 rw[List.set_append_right _ _ (by simp;omega),Kc h]
 have e:xs.length-k=(xs.length-(k+1))+1:=by omega
 rw[e,List.replicate_succ]
 have e2:k-(List.map f (List.take k xs)).length=0:=by simp;omega
 rw[e2]
 simp
end
theorem K11{α:Type}{xs ys:List α}{k:Nat}{x y:α}(hx:xs[k]? =some x)(hy:ys[k]? =some y)(h:xs.take k=ys.take k):xs.take (k+1)=ys.take (k+1)↔x=y:=by
 rw[Kc hx,Kc hy,h]
 simp
theorem K33{α:Type} [DecidableEq α] {xs ys:List α}{k:Nat}{x y:α}(hx:xs[k]? =some x)(hy:ys[k]? =some y)(h:¬x=y):false=decide (xs=ys):=by
 symm
 rw[decide_eq_false_iff_not]
 rintro rfl
 rw[hx]at hy
 exact h (Option.some.inj hy)
theorem K30{α:Type} [DecidableEq α] {xs ys:List α}(h:¬(xs.length:Int)=ys.length):false=decide (xs=ys):=by
 symm
 rw[decide_eq_false_iff_not]
 rintro rfl
 exact h rfl
theorem K2z{α:Type} [DecidableEq α] {xs ys:List α}(he:xs.take xs.length=ys.take xs.length)(hl:xs.length=ys.length):true=decide (xs=ys):=by
 symm
 rw[decide_eq_true_iff]
 rw[List.take_length]at he
 rw[he,hl,List.take_length]
theorem szr_bad'{n N:Nat}{left:Int}(h0:0≤left)(h:szr n left<0)(hn:n≤N): -1=szr N left:=by
 rw[K7l h0]at h
 unfold szr
 rw[if_neg (by omega)]
theorem szr_ok{n:Nat}{left:Int}(h:¬szr n left<0):(n:Int)≤left:=by
 unfold szr at h
 split at h<;>omega
theorem K6h{α:Type}{f:α→Nat}{l:List α}{k:Nat}{x:α}(h:l[k]? =some x):((l.take (k+1)).map f).sum=((l.take k).map f).sum+f x:=by
 rw[Kc h];simp
theorem K3e{α:Type}{f:α→Nat}(l:List α)(k:Nat):((l.take k).map f).sum≤(l.map f).sum:=by
 have h:(l.map f).sum=((l.take k).map f).sum+((l.drop k).map f).sum:=by
  rw[←List.sum_append,←List.map_append,List.take_append_drop]
 omega
theorem Kz{α:Type}{f:α→Nat}{l:List α}{x:α}(h:x∈l):f x≤(l.map f).sum:=by
 induction l with
 |nil=>simp at h
 |cons y l ih=>
  rcases List.mem_cons.1 h with rfl|h
  ·simp
  ·have:=ih h;simp;omega
theorem K3o{α:Type}{l:List α}{k:Nat}{x:α}(h:l[k]? =some x):(l.take k).length+1=(l.take (k+1)).length:=by
 rw[Kc h];simp
theorem K3p{α:Type}{f:α→List T}{l:List α}{k:Nat}{x:α}(h:l[k]? =some x):(l.take k).map f++[f x]=(l.take (k+1)).map f:=by
 rw[Kc h];simp
end Go.Proofs.YtjneccbpkckdfaaGreatR
namespace Go.Proofs.YtjneccbpkckdfaaGreatR
open Go Go.RowKit Go.Proofs
open Nat (reduceEqDiff reduceLT reduceLeDiff reduceAdd reduceMul)
open List (reduceReplicate)
theorem hmix:Tryz.prog.follows .mixedOrders=true:=by kernel_rfl
theorem cA{f:FuncId}{fn:Func}{c:Code}{args:List (Bool×List T)}{rs:List RV}(M:MC)(m n:Nat)(res:List (MR×List Bool))(hf:Tryz.prog.funcs[f]? =some fn)(hb:fn.body=some c)(hnt:fn.ntmps=n)
    (h : bdA args → wpC Tryz.prog M (kF res rs) (startS args n m)) (hname : (fn.name == "runtime.NumGoroutine") = false := by kernel_rfl) (hc : chkC Tryz.prog c M = true := by kernel_rfl) (hres : K2d Tryz.prog fn.results.toList (res.map (·.1)) = true := by kernel_rfl) (hn : args.length ≤ n := by exact Nat.le_of_ble_eq_true rfl) : Ctr Tryz.prog f args rs :=
  ctr_at hmix hf hb hname hnt hc hres hn h
abbrev Nf4:Nat:=3
abbrev Nf9:Nat:=8
abbrev Nim:Nat:=9
abbrev Nd7:Nat:=10
abbrev N2a:Nat:=11
abbrev N33:Nat:=12
abbrev N4w:Nat:=13
abbrev N28:Nat:=14
abbrev Nik:Nat:=15
abbrev N49:Nat:=16
abbrev Nf8:Nat:=17
abbrev N48:Nat:=18
abbrev N3j:Nat:=26
abbrev N3i:Nat:=28
abbrev N1q:Nat:=32
abbrev Ncq:Nat:=37
abbrev N5d:Nat:=38
abbrev Na8:Nat:=39
abbrev Nf3:Nat:=40
abbrev Nal:Nat:=42
abbrev N1s:Nat:=43
abbrev Nd2:Nat:=46
abbrev Nfc:Nat:=47
abbrev Nk0:Nat:=48
abbrev N8i:Nat:=49
abbrev Nd0:Nat:=50
abbrev N5f:Nat:=51
abbrev N8j:Nat:=52
abbrev N5k:Nat:=53
abbrev Nfm:Nat:=54
abbrev Nfn:Nat:=55
abbrev Nfk:Nat:=56
abbrev Nde:Nat:=57
abbrev Nam:Nat:=58
abbrev Nan:Nat:=59
abbrev Ndf:Nat:=60
abbrev Nh1:Nat:=61
abbrev Ng:Nat:=62
abbrev Nd6:Nat:=63
abbrev Nff:Nat:=64
abbrev Nk1:Nat:=65
abbrev N8k:Nat:=66
abbrev Nd4:Nat:=67
abbrev N8l:Nat:=68
abbrev N5l:Nat:=69
abbrev N4a:Nat:=70
abbrev Nf1:Nat:=71
abbrev Nf2:Nat:=72
abbrev Nez:Nat:=73
abbrev Nco:Nat:=74
abbrev Na9:Nat:=75
abbrev Naa:Nat:=76
abbrev Ncp:Nat:=77
abbrev Ngs:Nat:=78
abbrev N5:Nat:=79
abbrev Ncu:Nat:=80
abbrev Nf7:Nat:=81
abbrev Njz:Nat:=82
abbrev N89:Nat:=83
abbrev Ncs:Nat:=84
abbrev N8a:Nat:=85
abbrev N5j:Nat:=86
abbrev N47:Nat:=87
abbrev N8h:Nat:=88
abbrev N8w:Nat:=89
abbrev Ngw:Nat:=90
abbrev N63:Nat:=91
abbrev N8f:Nat:=92
abbrev N64:Nat:=93
abbrev Nad:Nat:=94
abbrev N8d:Nat:=95
abbrev N8v:Nat:=96
abbrev Ngv:Nat:=97
abbrev N61:Nat:=98
abbrev N8c:Nat:=99
abbrev N40:Nat:=100
abbrev N62:Nat:=101
abbrev N2j:Nat:=117
abbrev N45:Nat:=118
abbrev N2c:Nat:=119
abbrev N1p:Nat:=120
abbrev N8:Nat:=121
abbrev N3p:Nat:=122
abbrev Nm:Nat:=123
abbrev N34:Nat:=125
abbrev N5g:Nat:=126
abbrev N1u:Nat:=127
abbrev Nv:Nat:=128
abbrev N85:Nat:=129
abbrev N3a:Nat:=130
abbrev N4v:Nat:=131
abbrev N3t:Nat:=134
abbrev Ngy:Nat:=135
abbrev Nfb:Nat:=136
abbrev Nd1:Nat:=137
abbrev N8n:Nat:=138
abbrev Ndg:Nat:=139
abbrev N70:Nat:=140
abbrev Nfo:Nat:=141
abbrev Nak:Nat:=142
abbrev Nlr:Nat:=143
abbrev N2g:Nat:=144
abbrev Nfr:Nat:=145
abbrev N4n:Nat:=146
abbrev Nay:Nat:=147
abbrev Naj:Nat:=148
abbrev N8o:Nat:=149
abbrev N66:Nat:=150
abbrev N0:Nat:=151
abbrev N8y:Nat:=152
abbrev Nn7:Nat:=153
abbrev N3u:Nat:=154
abbrev Nh0:Nat:=155
abbrev Nfe:Nat:=156
abbrev Nag:Nat:=157
abbrev N29:Nat:=158
abbrev Nd5:Nat:=159
abbrev N2z:Nat:=160
abbrev N86:Nat:=161
abbrev N6s:Nat:=162
abbrev Na7:Nat:=163
abbrev Nd:Nat:=164
abbrev N4y:Nat:=165
abbrev N6u:Nat:=166
abbrev Nav:Nat:=167
abbrev Na6:Nat:=168
abbrev Nc:Nat:=169
abbrev N6t:Nat:=170
abbrev N87:Nat:=171
abbrev N5y:Nat:=172
abbrev N1:Nat:=173
abbrev Ni:Nat:=174
abbrev N11:Nat:=175
abbrev N3d:Nat:=176
abbrev N4:Nat:=177
abbrev N12:Nat:=178
abbrev Nn6:Nat:=179
abbrev N3s:Nat:=180
abbrev Ngu:Nat:=181
abbrev Nf6:Nat:=182
abbrev Nac:Nat:=183
abbrev N27:Nat:=184
abbrev Nct:Nat:=185
abbrev N32:Nat:=186
abbrev Ncy:Nat:=187
abbrev N8g:Nat:=188
abbrev N31:Nat:=189
abbrev Ncw:Nat:=190
abbrev Ndd:Nat:=193
abbrev N2l:Nat:=194
abbrev Nah:Nat:=195
abbrev N41:Nat:=196
abbrev Nk2:Nat:=197
abbrev Nk3:Nat:=198
abbrev N56:Nat:=200
abbrev N6y:Nat:=203
abbrev Nfl:Nat:=206
abbrev Niq:Nat:=209
abbrev Nj1:Nat:=210
abbrev Ncn:Nat:=211
abbrev N2i:Nat:=212
abbrev Na4:Nat:=213
abbrev Njx:Nat:=214
abbrev Njy:Nat:=215
abbrev N54:Nat:=217
abbrev Nf0:Nat:=220
abbrev N1l:Nat:=228
abbrev Ncg:Nat:=229
abbrev N3c:Nat:=230
abbrev Nl:Nat:=231
abbrev N3q:Nat:=232
abbrev Nn:Nat:=233
abbrev N4m:Nat:=234
abbrev N2k:Nat:=235
abbrev N2m:Nat:=236
abbrev N8z:Nat:=237
abbrev Nfq:Nat:=238
abbrev N23:Nat:=239
abbrev N6n:Nat:=240
abbrev Nae:Nat:=241
abbrev N4k:Nat:=242
abbrev N4c:Nat:=243
abbrev N1w:Nat:=244
abbrev Nd9:Nat:=245
abbrev Ndb:Nat:=246
abbrev Nfi:Nat:=247
abbrev N6z:Nat:=248
abbrev Nb1:Nat:=249
abbrev N2b:Nat:=250
abbrev N2w:Nat:=251
abbrev N8m:Nat:=252
abbrev Nda:Nat:=253
abbrev Nfh:Nat:=254
abbrev Nfg:Nat:=255
abbrev Naf:Nat:=256
abbrev Nio:Nat:=257
abbrev N30:Nat:=258
abbrev N46:Nat:=259
abbrev Nch:Nat:=260
abbrev Nck:Nat:=261
abbrev Nex:Nat:=262
abbrev N6r:Nat:=263
abbrev N55:Nat:=264
abbrev N4r:Nat:=265
abbrev N3r:Nat:=266
abbrev Nr:Nat:=267
abbrev Ngr:Nat:=268
abbrev N3b:Nat:=269
abbrev N4x:Nat:=270
abbrev N84:Nat:=271
abbrev Nci:Nat:=272
abbrev Nev:Nat:=273
abbrev N5z:Nat:=274
abbrev N7:Nat:=275
abbrev N4q:Nat:=276
abbrev N2p:Nat:=277
abbrev Nab:Nat:=278
abbrev Nil:Nat:=279
abbrev Ncx:Nat:=280
abbrev N8e:Nat:=281
abbrev Ncv:Nat:=282
abbrev N8b:Nat:=283
abbrev N60:Nat:=284
abbrev Nlq:Nat:=285
abbrev Nb0:Nat:=286
abbrev Nh7:Nat:=287
abbrev N8x:Nat:=290
abbrev N1g:Nat:=292
abbrev Ncj:Nat:=293
abbrev Nn4:Nat:=294
abbrev Nq:Nat:=295
abbrev N6p:Nat:=296
abbrev N8u:Nat:=297
abbrev Nh6:Nat:=298
abbrev Nih:Nat:=300
abbrev N5i:Nat:=302
abbrev N17:Nat:=311
abbrev N83:Nat:=312
abbrev N20:Nat:=313
abbrev Na5:Nat:=314
abbrev N5e:Nat:=315
abbrev Ncm:Nat:=316
abbrev Nd8:Nat:=317
abbrev N6w:Nat:=318
abbrev N1e:Nat:=319
abbrev Nf:Nat:=320
abbrev Ngx:Nat:=321
abbrev Ncz:Nat:=322
abbrev N3m:Nat:=323
abbrev Nk4:Nat:=324
abbrev N5h:Nat:=325
abbrev N24:Nat:=326
abbrev Ndc:Nat:=327
abbrev Ndh:Nat:=328
abbrev Nao:Nat:=329
abbrev N6x:Nat:=330
abbrev Nfp:Nat:=331
abbrev Nir:Nat:=332
abbrev Ngz:Nat:=333
abbrev Nd3:Nat:=334
abbrev Nii:Nat:=335
abbrev Nn5:Nat:=336
abbrev N6q:Nat:=337
abbrev Nax:Nat:=338
abbrev N2f:Nat:=339
abbrev Ncl:Nat:=340
abbrev Naw:Nat:=341
abbrev N14:Nat:=344
abbrev Nig:Nat:=345
abbrev Ngt:Nat:=346
abbrev Ncr:Nat:=347
abbrev Nip:Nat:=348
abbrev N1t:Nat:=353
abbrev N13:Nat:=354
abbrev Nif:Nat:=355
abbrev N1c:Nat:=362
abbrev N4j:Nat:=363
abbrev N88:Nat:=364
abbrev N22:Nat:=365
abbrev Nfa:Nat:=366
abbrev Nfj:Nat:=367
abbrev N4l:Nat:=368
abbrev Nai:Nat:=369
abbrev N6v:Nat:=370
abbrev Nls:Nat:=371
abbrev Naz:Nat:=372
abbrev Nin:Nat:=373
abbrev Nfd:Nat:=374
abbrev Ney:Nat:=375
abbrev N6o:Nat:=376
abbrev N18:Nat:=377
abbrev N65:Nat:=378
abbrev N4b:Nat:=379
abbrev N3l:Nat:=380
abbrev Nij:Nat:=382
abbrev Nf5:Nat:=383
abbrev N1m:Nat:=387
abbrev N8p:Nat:=388
abbrev N1d:Nat:=389
abbrev N21:Nat:=392
abbrev Nt:Nat:=393
abbrev N3k:Nat:=407
abbrev N2s:Nat:=413
def Y0:MC:=
(Zs [.mv 4 (ci 0)] [0,1] (Zs [mS 5 1,mS 6 0,nS 7 6,bS 8 .sub 5 7,mS 1 8] [1] (.seq (Zs [mS 9 1,bC 10 .lss 9 0] [1,10] (.cond (.s 10) (Zs [.mv 4 (.c (.int .i64 (-1)))] [4] .ret) .skip))
(Zs [mS 11 1,mS 4 11] [4] .ret))))
attribute [go_sem] Y0
def Mjk:MC:=Y0
theorem C58(xs:List Int)(left:Int)(h0:0≤left):Ctr Tryz.prog N5f [aL 1 (xs.map encI),aI left] [rI (szr xs.length left)]:=by
 refine cA Mjk 0 12 [(.tmp 4,[false])] Tryz.func51 rfl rfl ?_;unfold Mjk
 intro hb
 simp only[bdA,bdL,bdT,Ke,K10,roomB,and_true,List.length_map]at hb
 obtain⟨⟨hl,-⟩,hn⟩:=hb
 simp only[go_sem]
 rw[wI (by omega) (by omega)]
 unfold szr
 refine⟨fun h=>?_,fun h=>?_⟩
 ·rw[if_neg (by omega)]
 ·rw[if_pos (by omega)]
def Mjm:MC:=
(Zs [.nilo 2 0 1] [0] (Zs [mS 5 0,nS 6 5,.mk 7 0 1 8 [.sc (.int .i64 0)] (.s 6),mS 3 7] [0,3] (.seq (Zs [.mv 4 (ci 0)] [0,3,4] (.block 0 (.loop ([0,3,4],[]) (.seq (Zs [mS 8 4,mS 9 0,nS 10 9,bS 11 .lss 8 10] [0,3,4,11] (cX 11 0))
(.seq (.block 1 (pr [mS 14 3,mS 15 4,mS 16 0,mS 17 4,xS 18 1 16 17,lF 19 1 18,xS 20 1 14 15,sS 1 20 19] [0,3,4]))
(pr [mS 12 4,bC 13 .add 12 1,mS 4 13] [0,3,4]))))))
(Zs [mS 21 3,mS 2 21] [2] .ret))))
theorem C59(xs:List Int)(hs:xs.length≤1073741824):Ctr Tryz.prog N3j [aL 1 (xs.map encI)] [rL 1 (xs.map encI)]:=by
 refine cA Mjm 1 22 [(.tmp 2,[true])] Tryz.func26 rfl rfl ?_;unfold Mjm
 intro hb
 simp only[go_sem]
 refine⟨⟨by omega,by simp only[roomB];omega⟩,?_⟩
 refine K5 xs (fun k=>[(4,vI k)]) (fun k=>[(0,⟨0,.row true 1 (filled encI [tI 0] xs k)⟩)]) (fun _=>True) (by simp only[roomB];omega) ?_
 simp only[go_sem]
 refine⟨?_,trivial,?_,?_⟩
 ·simp only[go_sem,K1t]
  all_goals rfl
 ·intro k x hx _ h0 h1 hw
  have h:k<xs.length:=by omega
  simp only[go_sem,K4 hx,K4 (K26 h),K27 (Nat.le_of_lt h),h0,h1,hw]
  exact K28 hx
 ·intro _
  simp only[go_sem,K25]
def Y1:MC:=
(Zs [.mv 4 cF] [0,1] (.seq (Zs [mS 6 0,nS 7 6,mS 8 1,nS 9 8,bS 10 .neq 7 9] [0,1,10] (.cond (.s 10) (Zs [.mv 4 cF] [4] .ret) .skip))
(.seq (Zs [.mv 5 (ci 0)] [0,1,5] (.block 0 (.loop ([0,1,5],[]) (.seq (Zs [mS 11 5,mS 12 0,nS 13 12,bS 14 .lss 11 13] [0,1,5,14] (cX 14 0))
(.seq (.block 1 (.seq (.dreg [Zc [18,21,22,23,24] (mS 17 0),Zc [17,21,22,23,24] (mS 18 5),Zd [21,22,23,24] [0,1] (xS 19 1 17 18),Zd [21,22,23,24] [0,1,2] (lF 20 1 19),Zc [17,18,19,20,22] (mS 21 1),Zc [17,18,19,20,21] (mS 22 5),Zd [17,18,19,20] [4,5] (xS 23 1 21 22),Zd [17,18,19,20] [4,5,6] (lF 24 1 23),Ze (.range 8) (bS 25 .neq 20 24)] [0,1,5,25])
(.cond (.s 25) (Zs [.mv 4 cF] [4] .ret) .skip)))
(pr [mS 15 5,bC 16 .add 15 1,mS 5 16] [0,1,5]))))))
(Zs [.mv 4 cT] [4] .ret))))
attribute [go_sem] Y1
def Mji:MC:=Y1
theorem C57(xs ys:List Int):Ctr Tryz.prog N3i [aL 1 (xs.map encI),aL 1 (ys.map encI)] [rB (decide (xs=ys))]:=by
 refine cA Mji 0 26 [(.tmp 4,[false])] Tryz.func28 rfl rfl ?_;unfold Mji
 intro hb
 simp only[bdA,bdL,bdT,Ke,roomB,and_true,List.length_map]at hb
 obtain⟨⟨hl,-⟩,⟨hl2,-⟩⟩:=hb
 simp only[go_sem]
 refine⟨fun h=>K30 h,fun h=>?_⟩
 have hle:xs.length=ys.length:=by omega
 refine K5 xs (fun k=>[(5,vI k)]) (fun k=>[]) (fun k=>xs.take k=ys.take k) hl ?_
 simp only[go_sem]
 refine⟨?_,rfl,?_,?_⟩
 ·simp only[go_sem]
 ·intro k x hx he h0 h1 hw
  obtain⟨y,hy⟩:=Kb (show k<ys.length by omega)
  have h2:(k:Int)<ys.length:=by omega
  simp only[go_sem,K4 hx,K4 hy,h0,h1,h2,hw]
  exact⟨fun hn=>K33 hx hy hn,fun hn=>(K11 hx hy he).2 hn⟩
 ·intro he
  simp only[go_sem]
  exact K2z he hle
def Mee:MC:=
(Zs [.box 1 0 (.s 0),.alloc 2 1 [pz,pz,pz]] [1,2] (Zs [.alloc 3 2 [pz,pz,pz]] [1,2,3] (Zs [fS 4 1 0,lF 5 1 4,fS 6 3 0,sS 1 6 5] [1,2,3] (Zs [fS 7 1 1,lF 8 1 7,fS 9 3 1,sS 1 9 8] [1,2,3] (Zs [fS 10 1 2,lF 11 1 10,fS 12 3 2,sS 1 12 11] [2,3] (Zs [lT 13 3 3,sS 3 2 13] [2] .ret))))))
theorem C26(x:GAddress):Ctr Tryz.prog N29 [aS x.enc] [rS x.enc]:=by
 refine cA Mee 3 14 [(.cell 2 true 3,[false,false,false])] Tryz.func158 rfl rfl ?_;unfold Mee
 intro hb
 simp only[go_sem]
def Me4:MC:=
(Zs [.box 2 0 (.s 0),.box 3 1 (.s 1),.mv 4 cF] [2,3] (.seq (Zs [fS 5 2 0,lF 6 1 5,fS 7 3 0,lF 8 1 7,bS 9 .neq 6 8] [2,3,9] (.cond (.s 9) (Zs [.mv 4 cF] [4] .ret) .skip))
(.seq (Zs [fS 10 2 1,lF 11 1 10,fS 12 3 1,lF 13 1 12,bS 14 .neq 11 13] [2,3,14] (.cond (.s 14) (Zs [.mv 4 cF] [4] .ret) .skip))
(.seq (Zs [fS 15 2 2,lF 16 1 15,fS 17 3 2,lF 18 1 17,bS 19 .neq 16 18] [19] (.cond (.s 19) (Zs [.mv 4 cF] [4] .ret) .skip))
(Zs [.mv 4 cT] [4] .ret)))))
theorem C25(x y:GAddress):Ctr Tryz.prog N27 [aS x.enc,aS y.enc] [rB (decide (x=y))]:=by
 refine cA Me4 2 20 [(.tmp 4,[false])] Tryz.func184 rfl rfl ?_;unfold Me4
 intro hb
 clear hb
 simp only[go_sem]
 refine⟨fun h=>?_,fun h_Host=>?_⟩
 ·symm
  rw[decide_eq_false_iff_not]
  rintro rfl
  exact h rfl
 refine⟨fun h=>?_,fun h_Path=>?_⟩
 ·symm
  rw[decide_eq_false_iff_not]
  rintro rfl
  exact h rfl
 refine⟨fun h=>?_,fun h_Query=>?_⟩
 ·symm
  rw[decide_eq_false_iff_not]
  rintro rfl
  exact h rfl
 cases x;cases y;simp_all
def Y2:MC:=
(Zs [.box 2 0 (.s 0),.mv 4 (ci 0)] [1,2] (Zs [fS 5 2 1,lF 6 1 5,mS 7 1,.call 8 [] (.f N5f) [.s 6,.s 7],mS 1 8] [1] (.seq (Zs [mS 9 1,bC 10 .lss 9 0] [1,10] (.cond (.s 10) (Zs [.mv 4 (.c (.int .i64 (-1)))] [4] .ret) .skip))
(Zs [mS 11 1,mS 4 11] [4] .ret))))
attribute [go_sem] Y2
def Mbx:MC:=Y2
theorem Cb5(x:GResource)(left:Int)(h0:0≤left):Ctr Tryz.prog Nd1 [aS x.enc,aI left] [rI (szr x.size left)]:=by
 refine cA Mbx 1 12 [(.tmp 4,[false])] Tryz.func137 rfl rfl ?_;unfold Mbx
 intro hb
 simp only[go_sem]
 refine K0 (C58 x.Body left h0) ?_
 simp only[go_sem]
 intro _
 refine⟨fun h=>szr_bad' h0 h (by simp only[GResource.size];omega),fun h1=>?_⟩
 rfl
def Mc1:MC:=
(Zs [.box 1 0 (.s 0),.alloc 2 1 [pz,.emp 1,pz,pz,pz]] [1,2] (Zs [.alloc 3 2 [pz,.emp 1,pz,pz,pz]] [1,2,3] (Zs [fS 4 1 0,lF 5 1 4,fS 6 3 0,sS 1 6 5] [1,2,3] (Zs [fS 7 1 1,lF 8 1 7,.call 9 [3] (.f N3j) [.s 8],fS 10 3 1,sS 1 10 9] [1,2,3] (Zs [fS 11 1 2,lT 12 3 11,.call 13 [] (.f N29) [.s 12],fS 14 3 2,sS 3 14 13] [2,3] (Zs [lT 15 5 3,sS 5 2 15] [2] .ret))))))
theorem Cb6(x:GResource)(hs:x.size≤1073741824):Ctr Tryz.prog Nd5 [aS x.enc] [rS x.enc]:=by
 refine cA Mc1 4 16 [(.cell 2 true 5,[false,true,false,false,false])] Tryz.func159 rfl rfl ?_;unfold Mc1
 intro hb
 simp only[GResource.size]at hs
 simp only[go_sem]
 refine K0 (C59 x.Body (by omega)) ?_
 simp only[go_sem]
 try intros
 refine K0 (C26 x.To) ?_
 simp only[go_sem]
 try intros
def Mbp:MC:=
(Zs [.box 2 0 (.s 0),.box 3 1 (.s 1),.mv 4 cF] [2,3] (.seq (Zs [fS 5 2 0,lF 6 1 5,fS 7 3 0,lF 8 1 7,bS 9 .neq 6 8] [2,3,9] (.cond (.s 9) (Zs [.mv 4 cF] [4] .ret) .skip))
(.seq (Zs [fS 10 2 1,lF 11 1 10,fS 12 3 1,lF 13 1 12,.call 14 [] (.f N3i) [.s 11,.s 13],.un 15 .not (.s 14)] [2,3,15] (.cond (.s 15) (Zs [.mv 4 cF] [4] .ret) .skip))
(.seq (Zs [fS 16 2 2,lT 17 3 16,fS 18 3 2,lT 19 3 18,.call 20 [] (.f N27) [.s 17,.s 19],.un 21 .not (.s 20)] [21] (.cond (.s 21) (Zs [.mv 4 cF] [4] .ret) .skip))
(Zs [.mv 4 cT] [4] .ret)))))
theorem Cb4(x y:GResource):Ctr Tryz.prog Nct [aS x.enc,aS y.enc] [rB (decide (x=y))]:=by
 refine cA Mbp 2 22 [(.tmp 4,[false])] Tryz.func185 rfl rfl ?_;unfold Mbp
 intro hb
 clear hb
 simp only[go_sem]
 refine⟨fun h=>?_,fun h_Kind=>?_⟩
 ·symm
  rw[decide_eq_false_iff_not]
  rintro rfl
  exact h rfl
 refine K0 (C57 x.Body y.Body) ?_
 simp only[go_sem]
 refine⟨fun h=>?_,fun h_Body=>?_⟩
 ·symm
  rw[decide_eq_false_iff_not]
  rintro rfl
  exact h rfl
 refine K0 (C25 x.To y.To) ?_
 simp only[go_sem]
 refine⟨fun h=>?_,fun h_To=>?_⟩
 ·symm
  rw[decide_eq_false_iff_not]
  rintro rfl
  exact h rfl
 cases x;cases y;simp_all
def Y3:MC:=
(Zs [.box 2 0 (.s 0),.mv 4 (ci 0)] [1,2] (Zs [fS 5 2 4,lT 6 5 5,mS 7 1,.call 8 [] (.f Nd1) [.s 6,.s 7],mS 1 8] [1] (.seq (Zs [mS 9 1,bC 10 .lss 9 0] [1,10] (.cond (.s 10) (Zs [.mv 4 (.c (.int .i64 (-1)))] [4] .ret) .skip))
(Zs [mS 11 1,mS 4 11] [4] .ret))))
attribute [go_sem] Y3
def Med:MC:=Y3
theorem Cdn(x:GVersion)(left:Int)(h0:0≤left):Ctr Tryz.prog N5k [aS x.enc,aI left] [rI (szr x.size left)]:=by
 refine cA Med 1 12 [(.tmp 4,[false])] Tryz.func53 rfl rfl ?_;unfold Med
 intro hb
 simp only[go_sem]
 refine K0 (Cb5 x.Resource left h0) ?_
 simp only[go_sem]
 intro _
 refine⟨fun h=>szr_bad' h0 h (by simp only[GVersion.size];omega),fun h1=>?_⟩
 rfl
def Y4:MC:=
(Zs [.box 1 0 (.s 0),.alloc 2 1 [pz,pz,pz,pz,pz,.emp 1,pz,pz,pz]] [1,2] (Zs [.alloc 3 2 [pz,pz,pz,pz,pz,.emp 1,pz,pz,pz]] [1,2,3] (Zs [fS 4 1 0,lT 5 3 4,.call 6 [] (.f N29) [.s 5],fS 7 3 0,sS 3 7 6] [1,2,3] (Zs [fS 8 1 3,lF 9 1 8,fS 10 3 3,sS 1 10 9] [1,2,3] (Zs [fS 11 1 4,lT 12 5 11,.call 13 [3] (.f Nd5) [.s 12],fS 14 3 4,sS 5 14 13] [2,3] (Zs [lT 15 9 3,sS 9 2 15] [2] .ret))))))
attribute [go_sem] Y4
def Mei:MC:=Y4
theorem Cdo(x:GVersion)(hs:x.size≤1073741824):Ctr Tryz.prog N5l [aS x.enc] [rS x.enc]:=by
 refine cA Mei 4 16 [(.cell 2 true 9,[false,false,false,false,false,true,false,false,false])] Tryz.func69 rfl rfl ?_;unfold Mei
 intro hb
 simp only[GVersion.size]at hs
 simp only[go_sem]
 refine K0 (C26 x.Address) ?_
 simp only[go_sem]
 try intros
 refine K0 (Cb6 x.Resource (by omega)) ?_
 simp only[go_sem]
 try intros
def Y5:MC:=
(Zs [.box 2 0 (.s 0),.box 3 1 (.s 1),.mv 4 cF] [2,3] (.seq (Zs [fS 5 2 0,lT 6 3 5,fS 7 3 0,lT 8 3 7,.call 9 [] (.f N27) [.s 6,.s 8],.un 10 .not (.s 9)] [2,3,10] (.cond (.s 10) (Zs [.mv 4 cF] [4] .ret) .skip))
(.seq (Zs [fS 11 2 3,lF 12 1 11,fS 13 3 3,lF 14 1 13,bS 15 .neq 12 14] [2,3,15] (.cond (.s 15) (Zs [.mv 4 cF] [4] .ret) .skip))
(.seq (Zs [fS 16 2 4,lT 17 5 16,fS 18 3 4,lT 19 5 18,.call 20 [] (.f Nct) [.s 17,.s 19],.un 21 .not (.s 20)] [21] (.cond (.s 21) (Zs [.mv 4 cF] [4] .ret) .skip))
(Zs [.mv 4 cT] [4] .ret)))))
attribute [go_sem] Y5
def Me8:MC:=Y5
theorem Cdm(x y:GVersion):Ctr Tryz.prog N5j [aS x.enc,aS y.enc] [rB (decide (x=y))]:=by
 refine cA Me8 2 22 [(.tmp 4,[false])] Tryz.func86 rfl rfl ?_;unfold Me8
 intro hb
 clear hb
 simp only[go_sem]
 refine K0 (C25 x.Address y.Address) ?_
 simp only[go_sem]
 refine⟨fun h=>?_,fun h_Address=>?_⟩
 ·symm
  rw[decide_eq_false_iff_not]
  rintro rfl
  exact h rfl
 refine⟨fun h=>?_,fun h_From=>?_⟩
 ·symm
  rw[decide_eq_false_iff_not]
  rintro rfl
  exact h rfl
 refine K0 (Cb4 x.Resource y.Resource) ?_
 simp only[go_sem]
 refine⟨fun h=>?_,fun h_Resource=>?_⟩
 ·symm
  rw[decide_eq_false_iff_not]
  rintro rfl
  exact h rfl
 cases x;cases y;simp_all
def Y6(v0:Nat)(v1:Nat):MC:=
(Zs [.mv 4 (ci 0)] [0,1] (Zs [mS 6 1,mS 7 0,nS 8 7,bS 9 .sub 6 8,mS 1 9] [0,1] (.seq (Zs [mS 10 1,bC 11 .lss 10 0] [0,1,11] (.cond (.s 11) (Zs [.mv 4 (.c (.int .i64 (-1)))] [4] .ret) .skip))
(.seq (Zs [.mv 5 (ci 0)] [0,1,5] (.block 0 (.loop ([0,1,5],[]) (.seq (Zs [mS 12 5,mS 13 0,nS 14 13,bS 15 .lss 12 14] [0,1,5,15] (cX 15 0))
(.seq (.block 1 (Zs [mS 18 0,mS 19 5,xS 20 v0 18 19,lT 21 v0 20,mS 22 1,.call 23 [] (.f v1) [.s 21,.s 22],mS 1 23] [0,1,5] (Zs [mS 24 1,bC 25 .lss 24 0] [0,1,5,25] (.cond (.s 25) (Zs [.mv 4 (.c (.int .i64 (-1)))] [4] .ret) .skip))))
(pr [mS 16 5,bC 17 .add 16 1,mS 5 17] [0,1,5]))))))
(Zs [mS 26 1,mS 4 26] [4] .ret)))))
attribute [go_sem] Y6
def Mby:MC:=Y6 9 N5k
theorem Cmd(xs:List GVersion)(left:Int)(h0:0≤left):Ctr Tryz.prog Nd2 [aL 9 (xs.map GVersion.enc),aI left] [rI (szr (xs.length+(xs.map GVersion.size).sum) left)]:=by
 refine cA Mby 0 27 [(.tmp 4,[false])] Tryz.func46 rfl rfl ?_;unfold Mby
 intro hb
 simp only[bdA,bdL,bdT,Ke,K10,roomB,and_true,List.length_map]at hb
 obtain⟨⟨hl,-⟩,hn⟩:=hb
 simp only[go_sem]
 rw[wI (by omega) (by omega)]
 refine⟨fun h=>?_,fun h=>?_⟩
 ·exact szr_bad' (n:=xs.length) h0 ((K7l h0).2 (by omega)) (by omega)
 ·have hz:szr xs.length left=left-xs.length:=by unfold szr;rw[if_pos (by omega)]
  rw[←hz]at h ⊢
  refine K5 xs (fun k=>[(1,vI (szr (xs.length+((xs.take k).map GVersion.size).sum) left)),(5,vI k)]) (fun k=>[]) (fun k=>¬szr (xs.length+((xs.take k).map GVersion.size).sum) left<0) hl ?_
  simp only[go_sem]
  refine⟨?_,by simpa using h,?_,?_⟩
  ·simp only[go_sem,List.take_zero,List.map_nil,List.sum_nil,Nat.add_zero]
   all_goals rfl
  ·intro k x hx hs hk0 h1 hw
   obtain⟨a1,a2,a3⟩:=K20 (m:=x.size) h0 hs
   rw[Nat.add_assoc,←K6h hx]at a3
   simp only[go_sem,K4 hx,hk0,h1]
   refine K0 (Cdn x _ a1) ?_
   rw[←a3]
   simp only[go_sem,hw]
   intro _
   refine⟨fun hn=>?_,fun hn=>hn⟩
   have:=K3e (f:=GVersion.size) xs (k+1)
   exact szr_bad' h0 hn (by omega)
  ·intro _
   simp only[go_sem,List.take_length]
def Y7(v0:Nat):MC:=
(Zs [.nilo 2 0 9] [0] (.seq (pr [mS 5 0,nS 6 5,.mk 7 0 9 88 [.sc (.int .i64 0),.sc (.int .i64 0),.sc (.int .i64 0),.sc (.int .i64 0),.sc (.int .i64 0),.sl 1 [],.sc (.int .i64 0),.sc (.int .i64 0),.sc (.int .i64 0)] (.s 6),mS 3 7] [0,3])
(.seq (Zs [.mv 4 (ci 0)] [0,3,4] (.block 0 (.loop ([0,3,4],[1]) (.seq (Zs [mS 8 4,mS 9 0,nS 10 9,bS 11 .lss 8 10] [0,3,4,11] (cX 11 0))
(.seq (.block 1 (pr [mS 14 3,mS 15 4,mS 16 0,mS 17 4,xS 18 9 16 17,lT 19 9 18,.call 20 [1] (.f v0) [.s 19],xS 21 9 14 15,sS 9 21 20] [0,3,4]))
(pr [mS 12 4,bC 13 .add 12 1,mS 4 13] [0,3,4]))))))
(Zs [mS 22 3,mS 2 22] [2] .ret))))
attribute [go_sem] Y7
def Mc2:MC:=Y7 N5l
theorem Cmg(xs:List GVersion)(hs:xs.length+(xs.map GVersion.size).sum≤1073741824):Ctr Tryz.prog Nd6 [aL 9 (xs.map GVersion.enc)] [rL 9 (xs.map GVersion.enc)]:=by
 refine cA Mc2 2 23 [(.tmp 2,[true])] Tryz.func63 rfl rfl ?_;unfold Mc2
 intro hb
 simp only[go_sem]
 refine⟨⟨by omega,by simp only[roomB];omega⟩,?_⟩
 refine K5 xs (fun k=>[(4,vI k)]) (fun k=>[(0,⟨0,.row true 9 (filled GVersion.enc [tI 0,tI 0,tI 0,tI 0,tI 0,.sl 1 [],tI 0,tI 0,tI 0] xs k)⟩)]) (fun _=>True) (by simp only[roomB];omega) ?_
 simp only[go_sem]
 refine⟨?_,trivial,?_,?_⟩
 ·simp only[go_sem,K1t]
  all_goals rfl
 ·intro k x hx _ h0 h1 hw
  have h:k<xs.length:=by omega
  simp only[go_sem,K4 hx,h0,h1]
  have hx1:=Kz (f:=GVersion.size) (Km hx)
  refine K0 (Cdo x (by omega)) ?_
  simp only[go_sem,K4 (K26 h),K27 (Nat.le_of_lt h),h0,h1,hw]
  intros;exact K28 hx
 ·intro _
  simp only[go_sem,K25]
def Y8(v0:Nat)(v1:Nat):MC:=
(Zs [.mv 4 cF] [0,1] (.seq (Zs [mS 6 0,nS 7 6,mS 8 1,nS 9 8,bS 10 .neq 7 9] [0,1,10] (.cond (.s 10) (Zs [.mv 4 cF] [4] .ret) .skip))
(.seq (Zs [.mv 5 (ci 0)] [0,1,5] (.block 0 (.loop ([0,1,5],[]) (.seq (Zs [mS 11 5,mS 12 0,nS 13 12,bS 14 .lss 11 13] [0,1,5,14] (cX 14 0))
(.seq (.block 1 (.seq (.dreg [Zc [18,21,22,23,24] (mS 17 0),Zc [17,21,22,23,24] (mS 18 5),Zd [21,22,23,24] [0,1] (xS 19 v0 17 18),Zd [21,22,23,24] [0,1,2] (lT 20 v0 19),Zc [17,18,19,20,22] (mS 21 1),Zc [17,18,19,20,21] (mS 22 5),Zd [17,18,19,20] [4,5] (xS 23 v0 21 22),Zd [17,18,19,20] [4,5,6] (lT 24 v0 23),Ze (.range 8) (.call 25 [] (.f v1) [.s 20,.s 24]),Ze (.range 9) (.un 26 .not (.s 25))] [0,1,5,26])
(.cond (.s 26) (Zs [.mv 4 cF] [4] .ret) .skip)))
(pr [mS 15 5,bC 16 .add 15 1,mS 5 16] [0,1,5]))))))
(Zs [.mv 4 cT] [4] .ret))))
attribute [go_sem] Y8
def Mbq:MC:=Y8 9 N5j
theorem Cm6(xs ys:List GVersion):Ctr Tryz.prog Ncu [aL 9 (xs.map GVersion.enc),aL 9 (ys.map GVersion.enc)] [rB (decide (xs=ys))]:=by
 refine cA Mbq 0 27 [(.tmp 4,[false])] Tryz.func80 rfl rfl ?_;unfold Mbq
 intro hb
 simp only[bdA,bdL,bdT,Ke,roomB,and_true,List.length_map]at hb
 obtain⟨⟨hl,-⟩,⟨hl2,-⟩⟩:=hb
 simp only[go_sem]
 refine⟨fun h=>K30 h,fun h=>?_⟩
 have hle:xs.length=ys.length:=by omega
 refine K5 xs (fun k=>[(5,vI k)]) (fun k=>[]) (fun k=>xs.take k=ys.take k) hl ?_
 simp only[go_sem]
 refine⟨?_,rfl,?_,?_⟩
 ·simp only[go_sem]
 ·intro k x hx he h0 h1 hw
  obtain⟨y,hy⟩:=Kb (show k<ys.length by omega)
  have h2:(k:Int)<ys.length:=by omega
  simp only[go_sem,K4 hx,K4 hy,h0,h1,h2]
  refine K0 (Cdm x y) ?_
  simp only[go_sem,hw]
  exact⟨fun hn=>K33 hx hy hn,fun hn=>(K11 hx hy he).2 hn⟩
 ·intro he
  simp only[go_sem]
  exact K2z he hle
def Y9:MC:=
(Zs [.box 1 0 (.s 0),.alloc 2 1 [pz,pz,pz,pz]] [1,2] (Zs [.alloc 3 2 [pz,pz,pz,pz]] [1,2,3] (Zs [fS 4 1 0,lF 5 1 4,fS 6 3 0,sS 1 6 5] [1,2,3] (Zs [fS 7 1 1,lF 8 1 7,fS 9 3 1,sS 1 9 8] [1,2,3] (Zs [fS 10 1 2,lF 11 1 10,fS 12 3 2,sS 1 12 11] [1,2,3] (Zs [fS 13 1 3,lF 14 1 13,fS 15 3 3,sS 1 15 14] [2,3] (Zs [lT 16 4 3,sS 4 2 16] [2] .ret)))))))
attribute [go_sem] Y9
def Mn0:MC:=Y9
theorem Cp7(x:GOp):Ctr Tryz.prog Nn7 [aS x.enc] [rS x.enc]:=by
 refine cA Mn0 3 17 [(.cell 2 true 4,[false,false,false,false])] Tryz.func153 rfl rfl ?_;unfold Mn0
 intro hb
 simp only[go_sem]
def Y10:MC:=
(Zs [.box 2 0 (.s 0),.box 3 1 (.s 1),.mv 4 cF] [2,3] (.seq (Zs [fS 5 2 0,lF 6 1 5,fS 7 3 0,lF 8 1 7,bS 9 .neq 6 8] [2,3,9] (.cond (.s 9) (Zs [.mv 4 cF] [4] .ret) .skip))
(.seq (Zs [fS 10 2 1,lF 11 1 10,fS 12 3 1,lF 13 1 12,bS 14 .neq 11 13] [2,3,14] (.cond (.s 14) (Zs [.mv 4 cF] [4] .ret) .skip))
(.seq (Zs [fS 15 2 2,lF 16 1 15,fS 17 3 2,lF 18 1 17,bS 19 .neq 16 18] [2,3,19] (.cond (.s 19) (Zs [.mv 4 cF] [4] .ret) .skip))
(.seq (Zs [fS 20 2 3,lF 21 1 20,fS 22 3 3,lF 23 1 22,bS 24 .neq 21 23] [24] (.cond (.s 24) (Zs [.mv 4 cF] [4] .ret) .skip))
(Zs [.mv 4 cT] [4] .ret))))))
attribute [go_sem] Y10
def Mmz:MC:=Y10
theorem Cp6(x y:GOp):Ctr Tryz.prog Nn6 [aS x.enc,aS y.enc] [rB (decide (x=y))]:=by
 refine cA Mmz 2 25 [(.tmp 4,[false])] Tryz.func179 rfl rfl ?_;unfold Mmz
 intro hb
 clear hb
 simp only[go_sem]
 refine⟨fun h=>?_,fun h_Kind=>?_⟩
 ·symm
  rw[decide_eq_false_iff_not]
  rintro rfl
  exact h rfl
 refine⟨fun h=>?_,fun h_A=>?_⟩
 ·symm
  rw[decide_eq_false_iff_not]
  rintro rfl
  exact h rfl
 refine⟨fun h=>?_,fun h_B=>?_⟩
 ·symm
  rw[decide_eq_false_iff_not]
  rintro rfl
  exact h rfl
 refine⟨fun h=>?_,fun h_C=>?_⟩
 ·symm
  rw[decide_eq_false_iff_not]
  rintro rfl
  exact h rfl
 cases x;cases y;simp_all
def Mlk:MC:=Y0
theorem Cl4(xs:List GOp)(left:Int)(h0:0≤left):Ctr Tryz.prog Nfc [aL 4 (xs.map GOp.enc),aI left] [rI (szr xs.length left)]:=by
 refine cA Mlk 0 12 [(.tmp 4,[false])] Tryz.func47 rfl rfl ?_;unfold Mlk
 intro hb
 simp only[bdA,bdL,bdT,Ke,K10,roomB,and_true,List.length_map]at hb
 obtain⟨⟨hl,-⟩,hn⟩:=hb
 simp only[go_sem]
 rw[wI (by omega) (by omega)]
 unfold szr
 refine⟨fun h=>?_,fun h=>?_⟩
 ·rw[if_neg (by omega)]
 ·rw[if_pos (by omega)]
def Y11(v0:Nat):MC:=
(Zs [.nilo 2 0 4] [0] (Zs [mS 5 0,nS 6 5,.mk 7 0 4 32 [.sc (.int .i64 0),.sc (.int .i64 0),.sc (.int .i64 0),.sc (.int .i64 0)] (.s 6),mS 3 7] [0,3] (.seq (Zs [.mv 4 (ci 0)] [0,3,4] (.block 0 (.loop ([0,3,4],[]) (.seq (Zs [mS 8 4,mS 9 0,nS 10 9,bS 11 .lss 8 10] [0,3,4,11] (cX 11 0))
(.seq (.block 1 (pr [mS 14 3,mS 15 4,mS 16 0,mS 17 4,xS 18 4 16 17,lT 19 4 18,.call 20 [] (.f v0) [.s 19],xS 21 4 14 15,sS 4 21 20] [0,3,4]))
(pr [mS 12 4,bC 13 .add 12 1,mS 4 13] [0,3,4]))))))
(Zs [mS 22 3,mS 2 22] [2] .ret))))
attribute [go_sem] Y11
def Mll:MC:=Y11 Nn7
theorem Cl6(xs:List GOp)(hs:xs.length≤1073741824):Ctr Tryz.prog Nff [aL 4 (xs.map GOp.enc)] [rL 4 (xs.map GOp.enc)]:=by
 refine cA Mll 1 23 [(.tmp 2,[true])] Tryz.func64 rfl rfl ?_;unfold Mll
 intro hb
 simp only[go_sem]
 refine⟨⟨by omega,by simp only[roomB];omega⟩,?_⟩
 refine K5 xs (fun k=>[(4,vI k)]) (fun k=>[(0,⟨0,.row true 4 (filled GOp.enc [tI 0,tI 0,tI 0,tI 0] xs k)⟩)]) (fun _=>True) (by simp only[roomB];omega) ?_
 simp only[go_sem]
 refine⟨?_,trivial,?_,?_⟩
 ·simp only[go_sem,K1t]
  all_goals rfl
 ·intro k x hx _ h0 h1 hw
  have h:k<xs.length:=by omega
  simp only[go_sem,K4 hx,h0,h1]
  refine K0 (Cp7 x) ?_
  simp only[go_sem,K4 (K26 h),K27 (Nat.le_of_lt h),h0,h1,hw]
  intros;exact K28 hx
 ·intro _
  simp only[go_sem,K25]
def Mlj:MC:=Y8 4 Nn6
theorem Cl0(xs ys:List GOp):Ctr Tryz.prog Nf7 [aL 4 (xs.map GOp.enc),aL 4 (ys.map GOp.enc)] [rB (decide (xs=ys))]:=by
 refine cA Mlj 0 27 [(.tmp 4,[false])] Tryz.func81 rfl rfl ?_;unfold Mlj
 intro hb
 simp only[bdA,bdL,bdT,Ke,roomB,and_true,List.length_map]at hb
 obtain⟨⟨hl,-⟩,⟨hl2,-⟩⟩:=hb
 simp only[go_sem]
 refine⟨fun h=>K30 h,fun h=>?_⟩
 have hle:xs.length=ys.length:=by omega
 refine K5 xs (fun k=>[(5,vI k)]) (fun k=>[]) (fun k=>xs.take k=ys.take k) hl ?_
 simp only[go_sem]
 refine⟨?_,rfl,?_,?_⟩
 ·simp only[go_sem]
 ·intro k x hx he h0 h1 hw
  obtain⟨y,hy⟩:=Kb (show k<ys.length by omega)
  have h2:(k:Int)<ys.length:=by omega
  simp only[go_sem,K4 hx,K4 hy,h0,h1,h2]
  refine K0 (Cp6 x y) ?_
  simp only[go_sem,hw]
  exact⟨fun hn=>K33 hx hy hn,fun hn=>(K11 hx hy he).2 hn⟩
 ·intro he
  simp only[go_sem]
  exact K2z he hle
def Mi1:MC:=
(Zs [.box 1 0 (.s 0),.alloc 2 1 [pz,pz,pz,pz,pz]] [1,2] (Zs [.alloc 3 2 [pz,pz,pz,pz,pz]] [1,2,3] (Zs [fS 4 1 0,lF 5 1 4,fS 6 3 0,sS 1 6 5] [1,2,3] (Zs [fS 7 1 1,lT 8 3 7,.call 9 [] (.f N29) [.s 8],fS 10 3 1,sS 3 10 9] [1,2,3] (Zs [fS 11 1 4,lF 12 1 11,fS 13 3 4,sS 1 13 12] [2,3] (Zs [lT 14 5 3,sS 5 2 14] [2] .ret))))))
theorem Cok(x:GEntry):Ctr Tryz.prog Nin [aS x.enc] [rS x.enc]:=by
 refine cA Mi1 3 15 [(.cell 2 true 5,[false,false,false,false,false])] Tryz.func373 rfl rfl ?_;unfold Mi1
 intro hb
 simp only[go_sem]
 refine K0 (C26 x.Address) ?_
 simp only[go_sem]
 try intros
def Mhv:MC:=
(Zs [.box 2 0 (.s 0),.box 3 1 (.s 1),.mv 4 cF] [2,3] (.seq (Zs [fS 5 2 0,lF 6 1 5,fS 7 3 0,lF 8 1 7,bS 9 .neq 6 8] [2,3,9] (.cond (.s 9) (Zs [.mv 4 cF] [4] .ret) .skip))
(.seq (Zs [fS 10 2 1,lT 11 3 10,fS 12 3 1,lT 13 3 12,.call 14 [] (.f N27) [.s 11,.s 13],.un 15 .not (.s 14)] [2,3,15] (.cond (.s 15) (Zs [.mv 4 cF] [4] .ret) .skip))
(.seq (Zs [fS 16 2 4,lF 17 1 16,fS 18 3 4,lF 19 1 18,bS 20 .neq 17 19] [20] (.cond (.s 20) (Zs [.mv 4 cF] [4] .ret) .skip))
(Zs [.mv 4 cT] [4] .ret)))))
theorem Cog(x y:GEntry):Ctr Tryz.prog Nij [aS x.enc,aS y.enc] [rB (decide (x=y))]:=by
 refine cA Mhv 2 21 [(.tmp 4,[false])] Tryz.func382 rfl rfl ?_;unfold Mhv
 intro hb
 clear hb
 simp only[go_sem]
 refine⟨fun h=>?_,fun h_Kind=>?_⟩
 ·symm
  rw[decide_eq_false_iff_not]
  rintro rfl
  exact h rfl
 refine K0 (C25 x.Address y.Address) ?_
 simp only[go_sem]
 refine⟨fun h=>?_,fun h_Address=>?_⟩
 ·symm
  rw[decide_eq_false_iff_not]
  rintro rfl
  exact h rfl
 refine⟨fun h=>?_,fun h_Value=>?_⟩
 ·symm
  rw[decide_eq_false_iff_not]
  rintro rfl
  exact h rfl
 cases x;cases y;simp_all
def Mgg:MC:=Y0
theorem Co4(xs:List GEntry)(left:Int)(h0:0≤left):Ctr Tryz.prog Ngx [aL 5 (xs.map GEntry.enc),aI left] [rI (szr xs.length left)]:=by
 refine cA Mgg 0 12 [(.tmp 4,[false])] Tryz.func321 rfl rfl ?_;unfold Mgg
 intro hb
 simp only[bdA,bdL,bdT,Ke,K10,roomB,and_true,List.length_map]at hb
 obtain⟨⟨hl,-⟩,hn⟩:=hb
 simp only[go_sem]
 rw[wI (by omega) (by omega)]
 unfold szr
 refine⟨fun h=>?_,fun h=>?_⟩
 ·rw[if_neg (by omega)]
 ·rw[if_pos (by omega)]
def Y12(v0:Nat):MC:=
(Zs [.nilo 2 0 5] [0] (Zs [mS 5 0,nS 6 5,.mk 7 0 5 40 [.sc (.int .i64 0),.sc (.int .i64 0),.sc (.int .i64 0),.sc (.int .i64 0),.sc (.int .i64 0)] (.s 6),mS 3 7] [0,3] (.seq (Zs [.mv 4 (ci 0)] [0,3,4] (.block 0 (.loop ([0,3,4],[]) (.seq (Zs [mS 8 4,mS 9 0,nS 10 9,bS 11 .lss 8 10] [0,3,4,11] (cX 11 0))
(.seq (.block 1 (pr [mS 14 3,mS 15 4,mS 16 0,mS 17 4,xS 18 5 16 17,lT 19 5 18,.call 20 [] (.f v0) [.s 19],xS 21 5 14 15,sS 5 21 20] [0,3,4]))
(pr [mS 12 4,bC 13 .add 12 1,mS 4 13] [0,3,4]))))))
(Zs [mS 22 3,mS 2 22] [2] .ret))))
attribute [go_sem] Y12
def Mgi:MC:=Y12 Nin
theorem Co6(xs:List GEntry)(hs:xs.length≤1073741824):Ctr Tryz.prog Ngz [aL 5 (xs.map GEntry.enc)] [rL 5 (xs.map GEntry.enc)]:=by
 refine cA Mgi 1 23 [(.tmp 2,[true])] Tryz.func333 rfl rfl ?_;unfold Mgi
 intro hb
 simp only[go_sem]
 refine⟨⟨by omega,by simp only[roomB];omega⟩,?_⟩
 refine K5 xs (fun k=>[(4,vI k)]) (fun k=>[(0,⟨0,.row true 5 (filled GEntry.enc [tI 0,tI 0,tI 0,tI 0,tI 0] xs k)⟩)]) (fun _=>True) (by simp only[roomB];omega) ?_
 simp only[go_sem]
 refine⟨?_,trivial,?_,?_⟩
 ·simp only[go_sem,K1t]
  all_goals rfl
 ·intro k x hx _ h0 h1 hw
  have h:k<xs.length:=by omega
  simp only[go_sem,K4 hx,h0,h1]
  refine K0 (Cok x) ?_
  simp only[go_sem,K4 (K26 h),K27 (Nat.le_of_lt h),h0,h1,hw]
  intros;exact K28 hx
 ·intro _
  simp only[go_sem,K25]
def Mga:MC:=Y8 5 Nij
theorem Co0(xs ys:List GEntry):Ctr Tryz.prog Ngt [aL 5 (xs.map GEntry.enc),aL 5 (ys.map GEntry.enc)] [rB (decide (xs=ys))]:=by
 refine cA Mga 0 27 [(.tmp 4,[false])] Tryz.func346 rfl rfl ?_;unfold Mga
 intro hb
 simp only[bdA,bdL,bdT,Ke,roomB,and_true,List.length_map]at hb
 obtain⟨⟨hl,-⟩,⟨hl2,-⟩⟩:=hb
 simp only[go_sem]
 refine⟨fun h=>K30 h,fun h=>?_⟩
 have hle:xs.length=ys.length:=by omega
 refine K5 xs (fun k=>[(5,vI k)]) (fun k=>[]) (fun k=>xs.take k=ys.take k) hl ?_
 simp only[go_sem]
 refine⟨?_,rfl,?_,?_⟩
 ·simp only[go_sem]
 ·intro k x hx he h0 h1 hw
  obtain⟨y,hy⟩:=Kb (show k<ys.length by omega)
  have h2:(k:Int)<ys.length:=by omega
  simp only[go_sem,K4 hx,K4 hy,h0,h1,h2]
  refine K0 (Cog x y) ?_
  simp only[go_sem,hw]
  exact⟨fun hn=>K33 hx hy hn,fun hn=>(K11 hx hy he).2 hn⟩
 ·intro he
  simp only[go_sem]
  exact K2z he hle
def Meb:MC:=Y3
theorem Cnj(x:GCapture)(left:Int)(h0:0≤left):Ctr Tryz.prog Nfa [aS x.enc,aI left] [rI (szr x.size left)]:=by
 refine cA Meb 1 12 [(.tmp 4,[false])] Tryz.func366 rfl rfl ?_;unfold Meb
 intro hb
 simp only[go_sem]
 refine K0 (Cb5 x.Resource left h0) ?_
 simp only[go_sem]
 intro _
 refine⟨fun h=>szr_bad' h0 h (by simp only[GCapture.size];omega),fun h1=>?_⟩
 rfl
def Meg:MC:=Y4
theorem Cnl(x:GCapture)(hs:x.size≤1073741824):Ctr Tryz.prog Nfd [aS x.enc] [rS x.enc]:=by
 refine cA Meg 4 16 [(.cell 2 true 9,[false,false,false,false,false,true,false,false,false])] Tryz.func374 rfl rfl ?_;unfold Meg
 intro hb
 simp only[GCapture.size]at hs
 simp only[go_sem]
 refine K0 (C26 x.Address) ?_
 simp only[go_sem]
 try intros
 refine K0 (Cb6 x.Resource (by omega)) ?_
 simp only[go_sem]
 try intros
def Me6:MC:=Y5
theorem Cnf(x y:GCapture):Ctr Tryz.prog Nf5 [aS x.enc,aS y.enc] [rB (decide (x=y))]:=by
 refine cA Me6 2 22 [(.tmp 4,[false])] Tryz.func383 rfl rfl ?_;unfold Me6
 intro hb
 clear hb
 simp only[go_sem]
 refine K0 (C25 x.Address y.Address) ?_
 simp only[go_sem]
 refine⟨fun h=>?_,fun h_Address=>?_⟩
 ·symm
  rw[decide_eq_false_iff_not]
  rintro rfl
  exact h rfl
 refine⟨fun h=>?_,fun h_Tick=>?_⟩
 ·symm
  rw[decide_eq_false_iff_not]
  rintro rfl
  exact h rfl
 refine K0 (Cb4 x.Resource y.Resource) ?_
 simp only[go_sem]
 refine⟨fun h=>?_,fun h_Resource=>?_⟩
 ·symm
  rw[decide_eq_false_iff_not]
  rintro rfl
  exact h rfl
 cases x;cases y;simp_all
def Mbv:MC:=Y6 9 Nfa
theorem Cmb(xs:List GCapture)(left:Int)(h0:0≤left):Ctr Tryz.prog Ncz [aL 9 (xs.map GCapture.enc),aI left] [rI (szr (xs.length+(xs.map GCapture.size).sum) left)]:=by
 refine cA Mbv 0 27 [(.tmp 4,[false])] Tryz.func322 rfl rfl ?_;unfold Mbv
 intro hb
 simp only[bdA,bdL,bdT,Ke,K10,roomB,and_true,List.length_map]at hb
 obtain⟨⟨hl,-⟩,hn⟩:=hb
 simp only[go_sem]
 rw[wI (by omega) (by omega)]
 refine⟨fun h=>?_,fun h=>?_⟩
 ·exact szr_bad' (n:=xs.length) h0 ((K7l h0).2 (by omega)) (by omega)
 ·have hz:szr xs.length left=left-xs.length:=by unfold szr;rw[if_pos (by omega)]
  rw[←hz]at h ⊢
  refine K5 xs (fun k=>[(1,vI (szr (xs.length+((xs.take k).map GCapture.size).sum) left)),(5,vI k)]) (fun k=>[]) (fun k=>¬szr (xs.length+((xs.take k).map GCapture.size).sum) left<0) hl ?_
  simp only[go_sem]
  refine⟨?_,by simpa using h,?_,?_⟩
  ·simp only[go_sem,List.take_zero,List.map_nil,List.sum_nil,Nat.add_zero]
   all_goals rfl
  ·intro k x hx hs hk0 h1 hw
   obtain⟨a1,a2,a3⟩:=K20 (m:=x.size) h0 hs
   rw[Nat.add_assoc,←K6h hx]at a3
   simp only[go_sem,K4 hx,hk0,h1]
   refine K0 (Cnj x _ a1) ?_
   rw[←a3]
   simp only[go_sem,hw]
   intro _
   refine⟨fun hn=>?_,fun hn=>hn⟩
   have:=K3e (f:=GCapture.size) xs (k+1)
   exact szr_bad' h0 hn (by omega)
  ·intro _
   simp only[go_sem,List.take_length]
def Mbz:MC:=Y7 Nfd
theorem Cme(xs:List GCapture)(hs:xs.length+(xs.map GCapture.size).sum≤1073741824):Ctr Tryz.prog Nd3 [aL 9 (xs.map GCapture.enc)] [rL 9 (xs.map GCapture.enc)]:=by
 refine cA Mbz 2 23 [(.tmp 2,[true])] Tryz.func334 rfl rfl ?_;unfold Mbz
 intro hb
 simp only[go_sem]
 refine⟨⟨by omega,by simp only[roomB];omega⟩,?_⟩
 refine K5 xs (fun k=>[(4,vI k)]) (fun k=>[(0,⟨0,.row true 9 (filled GCapture.enc [tI 0,tI 0,tI 0,tI 0,tI 0,.sl 1 [],tI 0,tI 0,tI 0] xs k)⟩)]) (fun _=>True) (by simp only[roomB];omega) ?_
 simp only[go_sem]
 refine⟨?_,trivial,?_,?_⟩
 ·simp only[go_sem,K1t]
  all_goals rfl
 ·intro k x hx _ h0 h1 hw
  have h:k<xs.length:=by omega
  simp only[go_sem,K4 hx,h0,h1]
  have hx1:=Kz (f:=GCapture.size) (Km hx)
  refine K0 (Cnl x (by omega)) ?_
  simp only[go_sem,K4 (K26 h),K27 (Nat.le_of_lt h),h0,h1,hw]
  intros;exact K28 hx
 ·intro _
  simp only[go_sem,K25]
def Mbn:MC:=Y8 9 Nf5
theorem Cm4(xs ys:List GCapture):Ctr Tryz.prog Ncr [aL 9 (xs.map GCapture.enc),aL 9 (ys.map GCapture.enc)] [rB (decide (xs=ys))]:=by
 refine cA Mbn 0 27 [(.tmp 4,[false])] Tryz.func347 rfl rfl ?_;unfold Mbn
 intro hb
 simp only[bdA,bdL,bdT,Ke,roomB,and_true,List.length_map]at hb
 obtain⟨⟨hl,-⟩,⟨hl2,-⟩⟩:=hb
 simp only[go_sem]
 refine⟨fun h=>K30 h,fun h=>?_⟩
 have hle:xs.length=ys.length:=by omega
 refine K5 xs (fun k=>[(5,vI k)]) (fun k=>[]) (fun k=>xs.take k=ys.take k) hl ?_
 simp only[go_sem]
 refine⟨?_,rfl,?_,?_⟩
 ·simp only[go_sem]
 ·intro k x hx he h0 h1 hw
  obtain⟨y,hy⟩:=Kb (show k<ys.length by omega)
  have h2:(k:Int)<ys.length:=by omega
  simp only[go_sem,K4 hx,K4 hy,h0,h1,h2]
  refine K0 (Cnf x y) ?_
  simp only[go_sem,hw]
  exact⟨fun hn=>K33 hx hy hn,fun hn=>(K11 hx hy he).2 hn⟩
 ·intro he
  simp only[go_sem]
  exact K2z he hle
def M9s:MC:=
(Zs [.box 1 0 (.s 0),.alloc 2 1 [pz,pz,pz,pz,pz]] [1,2] (Zs [.alloc 3 2 [pz,pz,pz,pz,pz]] [1,2,3] (Zs [fS 4 1 0,lF 5 1 4,fS 6 3 0,sS 1 6 5] [1,2,3] (Zs [fS 7 1 1,lF 8 1 7,fS 9 3 1,sS 1 9 8] [1,2,3] (Zs [fS 10 1 2,lF 11 1 10,fS 12 3 2,sS 1 12 11] [1,2,3] (Zs [fS 13 1 3,lF 14 1 13,fS 15 3 3,sS 1 15 14] [1,2,3] (Zs [fS 16 1 4,lF 17 1 16,fS 18 3 4,sS 1 18 17] [2,3] (Zs [lT 19 5 3,sS 5 2 19] [2] .ret))))))))
theorem C95(x:GExclusion):Ctr Tryz.prog N4a [aS x.enc] [rS x.enc]:=by
 refine cA M9s 3 20 [(.cell 2 true 5,[false,false,false,false,false])] Tryz.func70 rfl rfl ?_;unfold M9s
 intro hb
 simp only[go_sem]
def M9l:MC:=
(Zs [.box 2 0 (.s 0),.box 3 1 (.s 1),.mv 4 cF] [2,3] (.seq (Zs [fS 5 2 0,lF 6 1 5,fS 7 3 0,lF 8 1 7,bS 9 .neq 6 8] [2,3,9] (.cond (.s 9) (Zs [.mv 4 cF] [4] .ret) .skip))
(.seq (Zs [fS 10 2 1,lF 11 1 10,fS 12 3 1,lF 13 1 12,bS 14 .neq 11 13] [2,3,14] (.cond (.s 14) (Zs [.mv 4 cF] [4] .ret) .skip))
(.seq (Zs [fS 15 2 2,lF 16 1 15,fS 17 3 2,lF 18 1 17,bS 19 .neq 16 18] [2,3,19] (.cond (.s 19) (Zs [.mv 4 cF] [4] .ret) .skip))
(.seq (Zs [fS 20 2 3,lF 21 1 20,fS 22 3 3,lF 23 1 22,bS 24 .neq 21 23] [2,3,24] (.cond (.s 24) (Zs [.mv 4 cF] [4] .ret) .skip))
(.seq (Zs [fS 25 2 4,lF 26 1 25,fS 27 3 4,lF 28 1 27,bS 29 .neq 26 28] [29] (.cond (.s 29) (Zs [.mv 4 cF] [4] .ret) .skip))
(Zs [.mv 4 cT] [4] .ret)))))))
theorem C92(x y:GExclusion):Ctr Tryz.prog N47 [aS x.enc,aS y.enc] [rB (decide (x=y))]:=by
 refine cA M9l 2 30 [(.tmp 4,[false])] Tryz.func87 rfl rfl ?_;unfold M9l
 intro hb
 clear hb
 simp only[go_sem]
 refine⟨fun h=>?_,fun h_Host=>?_⟩
 ·symm
  rw[decide_eq_false_iff_not]
  rintro rfl
  exact h rfl
 refine⟨fun h=>?_,fun h_Path=>?_⟩
 ·symm
  rw[decide_eq_false_iff_not]
  rintro rfl
  exact h rfl
 refine⟨fun h=>?_,fun h_From=>?_⟩
 ·symm
  rw[decide_eq_false_iff_not]
  rintro rfl
  exact h rfl
 refine⟨fun h=>?_,fun h_Until=>?_⟩
 ·symm
  rw[decide_eq_false_iff_not]
  rintro rfl
  exact h rfl
 refine⟨fun h=>?_,fun h_Asked=>?_⟩
 ·symm
  rw[decide_eq_false_iff_not]
  rintro rfl
  exact h rfl
 cases x;cases y;simp_all
def M7u:MC:=Y0
theorem Ckk(xs:List GExclusion)(left:Int)(h0:0≤left):Ctr Tryz.prog N8i [aL 5 (xs.map GExclusion.enc),aI left] [rI (szr xs.length left)]:=by
 refine cA M7u 0 12 [(.tmp 4,[false])] Tryz.func49 rfl rfl ?_;unfold M7u
 intro hb
 simp only[bdA,bdL,bdT,Ke,K10,roomB,and_true,List.length_map]at hb
 obtain⟨⟨hl,-⟩,hn⟩:=hb
 simp only[go_sem]
 rw[wI (by omega) (by omega)]
 unfold szr
 refine⟨fun h=>?_,fun h=>?_⟩
 ·rw[if_neg (by omega)]
 ·rw[if_pos (by omega)]
def M7x:MC:=Y12 N4a
theorem Ckm(xs:List GExclusion)(hs:xs.length≤1073741824):Ctr Tryz.prog N8k [aL 5 (xs.map GExclusion.enc)] [rL 5 (xs.map GExclusion.enc)]:=by
 refine cA M7x 1 23 [(.tmp 2,[true])] Tryz.func66 rfl rfl ?_;unfold M7x
 intro hb
 simp only[go_sem]
 refine⟨⟨by omega,by simp only[roomB];omega⟩,?_⟩
 refine K5 xs (fun k=>[(4,vI k)]) (fun k=>[(0,⟨0,.row true 5 (filled GExclusion.enc [tI 0,tI 0,tI 0,tI 0,tI 0] xs k)⟩)]) (fun _=>True) (by simp only[roomB];omega) ?_
 simp only[go_sem]
 refine⟨?_,trivial,?_,?_⟩
 ·simp only[go_sem,K1t]
  all_goals rfl
 ·intro k x hx _ h0 h1 hw
  have h:k<xs.length:=by omega
  simp only[go_sem,K4 hx,h0,h1]
  refine K0 (C95 x) ?_
  simp only[go_sem,K4 (K26 h),K27 (Nat.le_of_lt h),h0,h1,hw]
  intros;exact K28 hx
 ·intro _
  simp only[go_sem,K25]
def M7k:MC:=Y8 5 N47
theorem Ckb(xs ys:List GExclusion):Ctr Tryz.prog N89 [aL 5 (xs.map GExclusion.enc),aL 5 (ys.map GExclusion.enc)] [rB (decide (xs=ys))]:=by
 refine cA M7k 0 27 [(.tmp 4,[false])] Tryz.func83 rfl rfl ?_;unfold M7k
 intro hb
 simp only[bdA,bdL,bdT,Ke,roomB,and_true,List.length_map]at hb
 obtain⟨⟨hl,-⟩,⟨hl2,-⟩⟩:=hb
 simp only[go_sem]
 refine⟨fun h=>K30 h,fun h=>?_⟩
 have hle:xs.length=ys.length:=by omega
 refine K5 xs (fun k=>[(5,vI k)]) (fun k=>[]) (fun k=>xs.take k=ys.take k) hl ?_
 simp only[go_sem]
 refine⟨?_,rfl,?_,?_⟩
 ·simp only[go_sem]
 ·intro k x hx he h0 h1 hw
  obtain⟨y,hy⟩:=Kb (show k<ys.length by omega)
  have h2:(k:Int)<ys.length:=by omega
  simp only[go_sem,K4 hx,K4 hy,h0,h1,h2]
  refine K0 (C92 x y) ?_
  simp only[go_sem,hw]
  exact⟨fun hn=>K33 hx hy hn,fun hn=>(K11 hx hy he).2 hn⟩
 ·intro he
  simp only[go_sem]
  exact K2z he hle
def M9t:MC:=Y9
theorem Cl7(x:GStatement):Ctr Tryz.prog Nag [aS x.enc] [rS x.enc]:=by
 refine cA M9t 3 17 [(.cell 2 true 4,[false,false,false,false])] Tryz.func157 rfl rfl ?_;unfold M9t
 intro hb
 simp only[go_sem]
def M9m:MC:=Y10
theorem Cl1(x y:GStatement):Ctr Tryz.prog Nac [aS x.enc,aS y.enc] [rB (decide (x=y))]:=by
 refine cA M9m 2 25 [(.tmp 4,[false])] Tryz.func183 rfl rfl ?_;unfold M9m
 intro hb
 clear hb
 simp only[go_sem]
 refine⟨fun h=>?_,fun h_Witness=>?_⟩
 ·symm
  rw[decide_eq_false_iff_not]
  rintro rfl
  exact h rfl
 refine⟨fun h=>?_,fun h_Digest=>?_⟩
 ·symm
  rw[decide_eq_false_iff_not]
  rintro rfl
  exact h rfl
 refine⟨fun h=>?_,fun h_Tick=>?_⟩
 ·symm
  rw[decide_eq_false_iff_not]
  rintro rfl
  exact h rfl
 refine⟨fun h=>?_,fun h_Seal=>?_⟩
 ·symm
  rw[decide_eq_false_iff_not]
  rintro rfl
  exact h rfl
 cases x;cases y;simp_all
def M7v:MC:=Y0
theorem Ckl(xs:List GStatement)(left:Int)(h0:0≤left):Ctr Tryz.prog N8j [aL 4 (xs.map GStatement.enc),aI left] [rI (szr xs.length left)]:=by
 refine cA M7v 0 12 [(.tmp 4,[false])] Tryz.func52 rfl rfl ?_;unfold M7v
 intro hb
 simp only[bdA,bdL,bdT,Ke,K10,roomB,and_true,List.length_map]at hb
 obtain⟨⟨hl,-⟩,hn⟩:=hb
 simp only[go_sem]
 rw[wI (by omega) (by omega)]
 unfold szr
 refine⟨fun h=>?_,fun h=>?_⟩
 ·rw[if_neg (by omega)]
 ·rw[if_pos (by omega)]
def M7y:MC:=Y11 Nag
theorem Ckn(xs:List GStatement)(hs:xs.length≤1073741824):Ctr Tryz.prog N8l [aL 4 (xs.map GStatement.enc)] [rL 4 (xs.map GStatement.enc)]:=by
 refine cA M7y 1 23 [(.tmp 2,[true])] Tryz.func68 rfl rfl ?_;unfold M7y
 intro hb
 simp only[go_sem]
 refine⟨⟨by omega,by simp only[roomB];omega⟩,?_⟩
 refine K5 xs (fun k=>[(4,vI k)]) (fun k=>[(0,⟨0,.row true 4 (filled GStatement.enc [tI 0,tI 0,tI 0,tI 0] xs k)⟩)]) (fun _=>True) (by simp only[roomB];omega) ?_
 simp only[go_sem]
 refine⟨?_,trivial,?_,?_⟩
 ·simp only[go_sem,K1t]
  all_goals rfl
 ·intro k x hx _ h0 h1 hw
  have h:k<xs.length:=by omega
  simp only[go_sem,K4 hx,h0,h1]
  refine K0 (Cl7 x) ?_
  simp only[go_sem,K4 (K26 h),K27 (Nat.le_of_lt h),h0,h1,hw]
  intros;exact K28 hx
 ·intro _
  simp only[go_sem,K25]
def M7l:MC:=Y8 4 Nac
theorem Ckc(xs ys:List GStatement):Ctr Tryz.prog N8a [aL 4 (xs.map GStatement.enc),aL 4 (ys.map GStatement.enc)] [rB (decide (xs=ys))]:=by
 refine cA M7l 0 27 [(.tmp 4,[false])] Tryz.func85 rfl rfl ?_;unfold M7l
 intro hb
 simp only[bdA,bdL,bdT,Ke,roomB,and_true,List.length_map]at hb
 obtain⟨⟨hl,-⟩,⟨hl2,-⟩⟩:=hb
 simp only[go_sem]
 refine⟨fun h=>K30 h,fun h=>?_⟩
 have hle:xs.length=ys.length:=by omega
 refine K5 xs (fun k=>[(5,vI k)]) (fun k=>[]) (fun k=>xs.take k=ys.take k) hl ?_
 simp only[go_sem]
 refine⟨?_,rfl,?_,?_⟩
 ·simp only[go_sem]
 ·intro k x hx he h0 h1 hw
  obtain⟨y,hy⟩:=Kb (show k<ys.length by omega)
  have h2:(k:Int)<ys.length:=by omega
  simp only[go_sem,K4 hx,K4 hy,h0,h1,h2]
  refine K0 (Cl1 x y) ?_
  simp only[go_sem,hw]
  exact⟨fun hn=>K33 hx hy hn,fun hn=>(K11 hx hy he).2 hn⟩
 ·intro he
  simp only[go_sem]
  exact K2z he hle
def Mec:MC:=Y2
theorem Cnk(x:GLibrary)(left:Int)(h0:0≤left):Ctr Tryz.prog Nfb [aS x.enc,aI left] [rI (szr x.size left)]:=by
 refine cA Mec 1 12 [(.tmp 4,[false])] Tryz.func136 rfl rfl ?_;unfold Mec
 intro hb
 simp only[go_sem]
 refine K0 (C58 x.Digests left h0) ?_
 simp only[go_sem]
 intro _
 refine⟨fun h=>szr_bad' h0 h (by simp only[GLibrary.size];omega),fun h1=>?_⟩
 rfl
def Meh:MC:=
(Zs [.box 1 0 (.s 0),.alloc 2 1 [pz,.emp 1,.pl (.sc (.bool false)),.pl (.sc (.bool false))]] [1,2] (Zs [.alloc 3 2 [pz,.emp 1,.pl (.sc (.bool false)),.pl (.sc (.bool false))]] [1,2,3] (Zs [fS 4 1 0,lF 5 1 4,fS 6 3 0,sS 1 6 5] [1,2,3] (Zs [fS 7 1 1,lF 8 1 7,.call 9 [3] (.f N3j) [.s 8],fS 10 3 1,sS 1 10 9] [1,2,3] (Zs [fS 11 1 2,lF 12 1 11,fS 13 3 2,sS 1 13 12] [1,2,3] (Zs [fS 14 1 3,lF 15 1 14,fS 16 3 3,sS 1 16 15] [2,3] (Zs [lT 17 4 3,sS 4 2 17] [2] .ret)))))))
theorem Cnm(x:GLibrary)(hs:x.size≤1073741824):Ctr Tryz.prog Nfe [aS x.enc] [rS x.enc]:=by
 refine cA Meh 4 18 [(.cell 2 true 4,[false,true,false,false])] Tryz.func156 rfl rfl ?_;unfold Meh
 intro hb
 simp only[GLibrary.size]at hs
 simp only[go_sem]
 refine K0 (C59 x.Digests (by omega)) ?_
 simp only[go_sem]
 try intros
def Me7:MC:=
(Zs [.box 2 0 (.s 0),.box 3 1 (.s 1),.mv 4 cF] [2,3] (.seq (Zs [fS 5 2 0,lF 6 1 5,fS 7 3 0,lF 8 1 7,bS 9 .neq 6 8] [2,3,9] (.cond (.s 9) (Zs [.mv 4 cF] [4] .ret) .skip))
(.seq (Zs [fS 10 2 1,lF 11 1 10,fS 12 3 1,lF 13 1 12,.call 14 [] (.f N3i) [.s 11,.s 13],.un 15 .not (.s 14)] [2,3,15] (.cond (.s 15) (Zs [.mv 4 cF] [4] .ret) .skip))
(.seq (Zs [fS 16 2 2,lF 17 1 16,fS 18 3 2,lF 19 1 18,.bin 20 true .neq (.s 17) (.s 19)] [2,3,20] (.cond (.s 20) (Zs [.mv 4 cF] [4] .ret) .skip))
(.seq (Zs [fS 21 2 3,lF 22 1 21,fS 23 3 3,lF 24 1 23,.bin 25 true .neq (.s 22) (.s 24)] [25] (.cond (.s 25) (Zs [.mv 4 cF] [4] .ret) .skip))
(Zs [.mv 4 cT] [4] .ret))))))
theorem Cng(x y:GLibrary):Ctr Tryz.prog Nf6 [aS x.enc,aS y.enc] [rB (decide (x=y))]:=by
 refine cA Me7 2 26 [(.tmp 4,[false])] Tryz.func182 rfl rfl ?_;unfold Me7
 intro hb
 clear hb
 simp only[go_sem]
 refine⟨fun h=>?_,fun h_Id=>?_⟩
 ·symm
  rw[decide_eq_false_iff_not]
  rintro rfl
  exact h rfl
 refine K0 (C57 x.Digests y.Digests) ?_
 simp only[go_sem]
 refine⟨fun h=>?_,fun h_Digests=>?_⟩
 ·symm
  rw[decide_eq_false_iff_not]
  rintro rfl
  exact h rfl
 refine⟨fun h=>?_,fun h_Up=>?_⟩
 ·symm
  rw[decide_eq_false_iff_not]
  rintro rfl
  exact h rfl
 refine⟨fun h=>?_,fun h_Lies=>?_⟩
 ·symm
  rw[decide_eq_false_iff_not]
  rintro rfl
  exact h rfl
 cases x;cases y;simp_all
def Mbw:MC:=Y6 4 Nfb
theorem Cmc(xs:List GLibrary)(left:Int)(h0:0≤left):Ctr Tryz.prog Nd0 [aL 4 (xs.map GLibrary.enc),aI left] [rI (szr (xs.length+(xs.map GLibrary.size).sum) left)]:=by
 refine cA Mbw 0 27 [(.tmp 4,[false])] Tryz.func50 rfl rfl ?_;unfold Mbw
 intro hb
 simp only[bdA,bdL,bdT,Ke,K10,roomB,and_true,List.length_map]at hb
 obtain⟨⟨hl,-⟩,hn⟩:=hb
 simp only[go_sem]
 rw[wI (by omega) (by omega)]
 refine⟨fun h=>?_,fun h=>?_⟩
 ·exact szr_bad' (n:=xs.length) h0 ((K7l h0).2 (by omega)) (by omega)
 ·have hz:szr xs.length left=left-xs.length:=by unfold szr;rw[if_pos (by omega)]
  rw[←hz]at h ⊢
  refine K5 xs (fun k=>[(1,vI (szr (xs.length+((xs.take k).map GLibrary.size).sum) left)),(5,vI k)]) (fun k=>[]) (fun k=>¬szr (xs.length+((xs.take k).map GLibrary.size).sum) left<0) hl ?_
  simp only[go_sem]
  refine⟨?_,by simpa using h,?_,?_⟩
  ·simp only[go_sem,List.take_zero,List.map_nil,List.sum_nil,Nat.add_zero]
   all_goals rfl
  ·intro k x hx hs hk0 h1 hw
   obtain⟨a1,a2,a3⟩:=K20 (m:=x.size) h0 hs
   rw[Nat.add_assoc,←K6h hx]at a3
   simp only[go_sem,K4 hx,hk0,h1]
   refine K0 (Cnk x _ a1) ?_
   rw[←a3]
   simp only[go_sem,hw]
   intro _
   refine⟨fun hn=>?_,fun hn=>hn⟩
   have:=K3e (f:=GLibrary.size) xs (k+1)
   exact szr_bad' h0 hn (by omega)
  ·intro _
   simp only[go_sem,List.take_length]
def Mc0:MC:=
(Zs [.nilo 2 0 4] [0] (.seq (pr [mS 5 0,nS 6 5,.mk 7 0 4 40 [.sc (.int .i64 0),.sl 1 [],.sc (.bool false),.sc (.bool false)] (.s 6),mS 3 7] [0,3])
(.seq (Zs [.mv 4 (ci 0)] [0,3,4] (.block 0 (.loop ([0,3,4],[1]) (.seq (Zs [mS 8 4,mS 9 0,nS 10 9,bS 11 .lss 8 10] [0,3,4,11] (cX 11 0))
(.seq (.block 1 (pr [mS 14 3,mS 15 4,mS 16 0,mS 17 4,xS 18 4 16 17,lT 19 4 18,.call 20 [1] (.f Nfe) [.s 19],xS 21 4 14 15,sS 4 21 20] [0,3,4]))
(pr [mS 12 4,bC 13 .add 12 1,mS 4 13] [0,3,4]))))))
(Zs [mS 22 3,mS 2 22] [2] .ret))))
theorem Cmf(xs:List GLibrary)(hs:xs.length+(xs.map GLibrary.size).sum≤1073741824):Ctr Tryz.prog Nd4 [aL 4 (xs.map GLibrary.enc)] [rL 4 (xs.map GLibrary.enc)]:=by
 refine cA Mc0 2 23 [(.tmp 2,[true])] Tryz.func67 rfl rfl ?_;unfold Mc0
 intro hb
 simp only[go_sem]
 refine⟨⟨by omega,by simp only[roomB];omega⟩,?_⟩
 refine K5 xs (fun k=>[(4,vI k)]) (fun k=>[(0,⟨0,.row true 4 (filled GLibrary.enc [tI 0,.sl 1 [],tB false,tB false] xs k)⟩)]) (fun _=>True) (by simp only[roomB];omega) ?_
 simp only[go_sem]
 refine⟨?_,trivial,?_,?_⟩
 ·simp only[go_sem,K1t]
  all_goals rfl
 ·intro k x hx _ h0 h1 hw
  have h:k<xs.length:=by omega
  simp only[go_sem,K4 hx,h0,h1]
  have hx1:=Kz (f:=GLibrary.size) (Km hx)
  refine K0 (Cnm x (by omega)) ?_
  simp only[go_sem,K4 (K26 h),K27 (Nat.le_of_lt h),h0,h1,hw]
  intros;exact K28 hx
 ·intro _
  simp only[go_sem,K25]
def Mbo:MC:=Y8 4 Nf6
theorem Cm5(xs ys:List GLibrary):Ctr Tryz.prog Ncs [aL 4 (xs.map GLibrary.enc),aL 4 (ys.map GLibrary.enc)] [rB (decide (xs=ys))]:=by
 refine cA Mbo 0 27 [(.tmp 4,[false])] Tryz.func84 rfl rfl ?_;unfold Mbo
 intro hb
 simp only[bdA,bdL,bdT,Ke,roomB,and_true,List.length_map]at hb
 obtain⟨⟨hl,-⟩,⟨hl2,-⟩⟩:=hb
 simp only[go_sem]
 refine⟨fun h=>K30 h,fun h=>?_⟩
 have hle:xs.length=ys.length:=by omega
 refine K5 xs (fun k=>[(5,vI k)]) (fun k=>[]) (fun k=>xs.take k=ys.take k) hl ?_
 simp only[go_sem]
 refine⟨?_,rfl,?_,?_⟩
 ·simp only[go_sem]
 ·intro k x hx he h0 h1 hw
  obtain⟨y,hy⟩:=Kb (show k<ys.length by omega)
  have h2:(k:Int)<ys.length:=by omega
  simp only[go_sem,K4 hx,K4 hy,h0,h1,h2]
  refine K0 (Cng x y) ?_
  simp only[go_sem,hw]
  exact⟨fun hn=>K33 hx hy hn,fun hn=>(K11 hx hy he).2 hn⟩
 ·intro he
  simp only[go_sem]
  exact K2z he hle
def Y13(v0:Nat)(v1:Nat)(v2:Nat):MC:=
(Zs [.box 2 0 (.s 0),.mv 4 (ci 0)] [1,2] (Zs [fS 5 2 0,lF 6 1 5,mS 7 1,.call 8 [] (.f v0) [.s 6,.s 7],mS 1 8] [1,2] (.seq (Zs [mS 9 1,bC 10 .lss 9 0] [1,2,10] (.cond (.s 10) (Zs [.mv 4 (.c (.int .i64 (-1)))] [4] .ret) .skip))
(Zs [fS 11 2 1,lF 12 1 11,mS 13 1,.call 14 [] (.f v1) [.s 12,.s 13],mS 1 14] [1,2] (.seq (Zs [mS 15 1,bC 16 .lss 15 0] [1,2,16] (.cond (.s 16) (Zs [.mv 4 (.c (.int .i64 (-1)))] [4] .ret) .skip))
(Zs [fS 17 2 2,lF 18 1 17,mS 19 1,.call 20 [] (.f v2) [.s 18,.s 19],mS 1 20] [1] (.seq (Zs [mS 21 1,bC 22 .lss 21 0] [1,22] (.cond (.s 22) (Zs [.mv 4 (.c (.int .i64 (-1)))] [4] .ret) .skip))
(Zs [mS 23 1,mS 4 23] [4] .ret))))))))
attribute [go_sem] Y13
def M9q:MC:=Y13 Nfc Ngx Ncz
theorem Cl3(x:GContainer)(left:Int)(h0:0≤left):Ctr Tryz.prog Nae [aS x.enc,aI left] [rI (szr x.size left)]:=by
 refine cA M9q 1 24 [(.tmp 4,[false])] Tryz.func241 rfl rfl ?_;unfold M9q
 intro hb
 simp only[go_sem]
 refine K0 (Cl4 x.Script left h0) ?_
 simp only[go_sem]
 intro _
 refine⟨fun h=>szr_bad' h0 h (by simp only[GContainer.size];omega),fun h1=>?_⟩
 obtain⟨a1,b1,e1⟩:=K20 (m:=x.Entries.length) h0 h1
 refine K0 (Co4 x.Entries _ a1) ?_
 rw[←e1]
 simp only[go_sem]
 intro _
 refine⟨fun h=>szr_bad' h0 h (by simp only[GContainer.size];omega),fun h2=>?_⟩
 obtain⟨a2,b2,e2⟩:=K20 (m:=x.Captures.length+(x.Captures.map GCapture.size).sum) h0 h2
 refine K0 (Cmb x.Captures _ a2) ?_
 rw[←e2]
 simp only[go_sem]
 intro _
 refine⟨fun h=>szr_bad' h0 h (by simp only[GContainer.size];omega),fun h3=>?_⟩
 rfl
def M9r:MC:=
(Zs [.box 1 0 (.s 0),.alloc 2 1 [.emp 4,.emp 5,.emp 9,pz]] [1,2] (Zs [.alloc 3 2 [.emp 4,.emp 5,.emp 9,pz]] [1,2,3] (Zs [fS 4 1 0,lF 5 1 4,.call 6 [3] (.f Nff) [.s 5],fS 7 3 0,sS 1 7 6] [1,2,3] (Zs [fS 8 1 1,lF 9 1 8,.call 10 [4] (.f Ngz) [.s 9],fS 11 3 1,sS 1 11 10] [1,2,3] (Zs [fS 12 1 2,lF 13 1 12,.call 14 [5] (.f Nd3) [.s 13],fS 15 3 2,sS 1 15 14] [1,2,3] (Zs [fS 16 1 3,lF 17 1 16,fS 18 3 3,sS 1 18 17] [2,3] (Zs [lT 19 4 3,sS 4 2 19] [2] .ret)))))))
theorem Cl5(x:GContainer)(hs:x.size≤1073741824):Ctr Tryz.prog Naf [aS x.enc] [rS x.enc]:=by
 refine cA M9r 6 20 [(.cell 2 true 4,[true,true,true,false])] Tryz.func256 rfl rfl ?_;unfold M9r
 intro hb
 simp only[GContainer.size]at hs
 simp only[go_sem]
 refine K0 (Cl6 x.Script (by omega)) ?_
 simp only[go_sem]
 try intros
 refine K0 (Co6 x.Entries (by omega)) ?_
 simp only[go_sem]
 try intros
 refine K0 (Cme x.Captures (by omega)) ?_
 simp only[go_sem]
 try intros
def M9k:MC:=
(Zs [.box 2 0 (.s 0),.box 3 1 (.s 1),.mv 4 cF] [2,3] (.seq (Zs [fS 5 2 0,lF 6 1 5,fS 7 3 0,lF 8 1 7,.call 9 [] (.f Nf7) [.s 6,.s 8],.un 10 .not (.s 9)] [2,3,10] (.cond (.s 10) (Zs [.mv 4 cF] [4] .ret) .skip))
(.seq (Zs [fS 11 2 1,lF 12 1 11,fS 13 3 1,lF 14 1 13,.call 15 [] (.f Ngt) [.s 12,.s 14],.un 16 .not (.s 15)] [2,3,16] (.cond (.s 16) (Zs [.mv 4 cF] [4] .ret) .skip))
(.seq (Zs [fS 17 2 2,lF 18 1 17,fS 19 3 2,lF 20 1 19,.call 21 [] (.f Ncr) [.s 18,.s 20],.un 22 .not (.s 21)] [2,3,22] (.cond (.s 22) (Zs [.mv 4 cF] [4] .ret) .skip))
(.seq (Zs [fS 23 2 3,lF 24 1 23,fS 25 3 3,lF 26 1 25,bS 27 .neq 24 26] [27] (.cond (.s 27) (Zs [.mv 4 cF] [4] .ret) .skip))
(Zs [.mv 4 cT] [4] .ret))))))
theorem Ckz(x y:GContainer):Ctr Tryz.prog Nab [aS x.enc,aS y.enc] [rB (decide (x=y))]:=by
 refine cA M9k 2 28 [(.tmp 4,[false])] Tryz.func278 rfl rfl ?_;unfold M9k
 intro hb
 clear hb
 simp only[go_sem]
 refine K0 (Cl0 x.Script y.Script) ?_
 simp only[go_sem]
 refine⟨fun h=>?_,fun h_Script=>?_⟩
 ·symm
  rw[decide_eq_false_iff_not]
  rintro rfl
  exact h rfl
 refine K0 (Co0 x.Entries y.Entries) ?_
 simp only[go_sem]
 refine⟨fun h=>?_,fun h_Entries=>?_⟩
 ·symm
  rw[decide_eq_false_iff_not]
  rintro rfl
  exact h rfl
 refine K0 (Cm4 x.Captures y.Captures) ?_
 simp only[go_sem]
 refine⟨fun h=>?_,fun h_Captures=>?_⟩
 ·symm
  rw[decide_eq_false_iff_not]
  rintro rfl
  exact h rfl
 refine⟨fun h=>?_,fun h_Root=>?_⟩
 ·symm
  rw[decide_eq_false_iff_not]
  rintro rfl
  exact h rfl
 cases x;cases y;simp_all
def M7t:MC:=Y6 4 Nae
theorem C76(xs:List GContainer)(left:Int)(h0:0≤left):Ctr Tryz.prog N3t [aL 4 (xs.map GContainer.enc),aI left] [rI (szr (xs.length+(xs.map GContainer.size).sum) left)]:=by
 refine cA M7t 0 27 [(.tmp 4,[false])] Tryz.func134 rfl rfl ?_;unfold M7t
 intro hb
 simp only[bdA,bdL,bdT,Ke,K10,roomB,and_true,List.length_map]at hb
 obtain⟨⟨hl,-⟩,hn⟩:=hb
 simp only[go_sem]
 rw[wI (by omega) (by omega)]
 refine⟨fun h=>?_,fun h=>?_⟩
 ·exact szr_bad' (n:=xs.length) h0 ((K7l h0).2 (by omega)) (by omega)
 ·have hz:szr xs.length left=left-xs.length:=by unfold szr;rw[if_pos (by omega)]
  rw[←hz]at h ⊢
  refine K5 xs (fun k=>[(1,vI (szr (xs.length+((xs.take k).map GContainer.size).sum) left)),(5,vI k)]) (fun k=>[]) (fun k=>¬szr (xs.length+((xs.take k).map GContainer.size).sum) left<0) hl ?_
  simp only[go_sem]
  refine⟨?_,by simpa using h,?_,?_⟩
  ·simp only[go_sem,List.take_zero,List.map_nil,List.sum_nil,Nat.add_zero]
   all_goals rfl
  ·intro k x hx hs hk0 h1 hw
   obtain⟨a1,a2,a3⟩:=K20 (m:=x.size) h0 hs
   rw[Nat.add_assoc,←K6h hx]at a3
   simp only[go_sem,K4 hx,hk0,h1]
   refine K0 (Cl3 x _ a1) ?_
   rw[←a3]
   simp only[go_sem,hw]
   intro _
   refine⟨fun hn=>?_,fun hn=>hn⟩
   have:=K3e (f:=GContainer.size) xs (k+1)
   exact szr_bad' h0 hn (by omega)
  ·intro _
   simp only[go_sem,List.take_length]
def M7w:MC:=
(Zs [.nilo 2 0 4] [0] (.seq (pr [mS 5 0,nS 6 5,.mk 7 0 4 80 [.sl 4 [],.sl 5 [],.sl 9 [],.sc (.int .i64 0)] (.s 6),mS 3 7] [0,3])
(.seq (Zs [.mv 4 (ci 0)] [0,3,4] (.block 0 (.loop ([0,3,4],[1,2,3]) (.seq (Zs [mS 8 4,mS 9 0,nS 10 9,bS 11 .lss 8 10] [0,3,4,11] (cX 11 0))
(.seq (.block 1 (pr [mS 14 3,mS 15 4,mS 16 0,mS 17 4,xS 18 4 16 17,lT 19 4 18,.call 20 [1,2,3] (.f Naf) [.s 19],xS 21 4 14 15,sS 4 21 20] [0,3,4]))
(pr [mS 12 4,bC 13 .add 12 1,mS 4 13] [0,3,4]))))))
(Zs [mS 22 3,mS 2 22] [2] .ret))))
theorem C77(xs:List GContainer)(hs:xs.length+(xs.map GContainer.size).sum≤1073741824):Ctr Tryz.prog N3u [aL 4 (xs.map GContainer.enc)] [rL 4 (xs.map GContainer.enc)]:=by
 refine cA M7w 4 23 [(.tmp 2,[true])] Tryz.func154 rfl rfl ?_;unfold M7w
 intro hb
 simp only[go_sem]
 refine⟨⟨by omega,by simp only[roomB];omega⟩,?_⟩
 refine K5 xs (fun k=>[(4,vI k)]) (fun k=>[(0,⟨0,.row true 4 (filled GContainer.enc [.sl 4 [],.sl 5 [],.sl 9 [],tI 0] xs k)⟩)]) (fun _=>True) (by simp only[roomB];omega) ?_
 simp only[go_sem]
 refine⟨?_,trivial,?_,?_⟩
 ·simp only[go_sem,K1t]
  all_goals rfl
 ·intro k x hx _ h0 h1 hw
  have h:k<xs.length:=by omega
  simp only[go_sem,K4 hx,h0,h1]
  have hx1:=Kz (f:=GContainer.size) (Km hx)
  refine K0 (Cl5 x (by omega)) ?_
  simp only[go_sem,K4 (K26 h),K27 (Nat.le_of_lt h),h0,h1,hw]
  intros;exact K28 hx
 ·intro _
  simp only[go_sem,K25]
def M7j:MC:=Y8 4 Nab
theorem C75(xs ys:List GContainer):Ctr Tryz.prog N3s [aL 4 (xs.map GContainer.enc),aL 4 (ys.map GContainer.enc)] [rB (decide (xs=ys))]:=by
 refine cA M7j 0 27 [(.tmp 4,[false])] Tryz.func180 rfl rfl ?_;unfold M7j
 intro hb
 simp only[bdA,bdL,bdT,Ke,roomB,and_true,List.length_map]at hb
 obtain⟨⟨hl,-⟩,⟨hl2,-⟩⟩:=hb
 simp only[go_sem]
 refine⟨fun h=>K30 h,fun h=>?_⟩
 have hle:xs.length=ys.length:=by omega
 refine K5 xs (fun k=>[(5,vI k)]) (fun k=>[]) (fun k=>xs.take k=ys.take k) hl ?_
 simp only[go_sem]
 refine⟨?_,rfl,?_,?_⟩
 ·simp only[go_sem]
 ·intro k x hx he h0 h1 hw
  obtain⟨y,hy⟩:=Kb (show k<ys.length by omega)
  have h2:(k:Int)<ys.length:=by omega
  simp only[go_sem,K4 hx,K4 hy,h0,h1,h2]
  refine K0 (Ckz x y) ?_
  simp only[go_sem,hw]
  exact⟨fun hn=>K33 hx hy hn,fun hn=>(K11 hx hy he).2 hn⟩
 ·intro he
  simp only[go_sem]
  exact K2z he hle
def Mi3:MC:=
(Zs [.box 1 0 (.s 0),.alloc 2 1 [pz,pz,pz,pz,pz,pz]] [1,2] (Zs [.alloc 3 2 [pz,pz,pz,pz,pz,pz]] [1,2,3] (Zs [fS 4 1 0,lT 5 3 4,.call 6 [] (.f N29) [.s 5],fS 7 3 0,sS 3 7 6] [1,2,3] (Zs [fS 8 1 3,lF 9 1 8,fS 10 3 3,sS 1 10 9] [1,2,3] (Zs [fS 11 1 4,lF 12 1 11,fS 13 3 4,sS 1 13 12] [1,2,3] (Zs [fS 14 1 5,lF 15 1 14,fS 16 3 5,sS 1 16 15] [2,3] (Zs [lT 17 6 3,sS 6 2 17] [2] .ret)))))))
theorem Col(x:GFound):Ctr Tryz.prog Nio [aS x.enc] [rS x.enc]:=by
 refine cA Mi3 3 18 [(.cell 2 true 6,[false,false,false,false,false,false])] Tryz.func257 rfl rfl ?_;unfold Mi3
 intro hb
 simp only[go_sem]
 refine K0 (C26 x.Address) ?_
 simp only[go_sem]
 try intros
def Mhx:MC:=
(Zs [.box 2 0 (.s 0),.box 3 1 (.s 1),.mv 4 cF] [2,3] (.seq (Zs [fS 5 2 0,lT 6 3 5,fS 7 3 0,lT 8 3 7,.call 9 [] (.f N27) [.s 6,.s 8],.un 10 .not (.s 9)] [2,3,10] (.cond (.s 10) (Zs [.mv 4 cF] [4] .ret) .skip))
(.seq (Zs [fS 11 2 3,lF 12 1 11,fS 13 3 3,lF 14 1 13,bS 15 .neq 12 14] [2,3,15] (.cond (.s 15) (Zs [.mv 4 cF] [4] .ret) .skip))
(.seq (Zs [fS 16 2 4,lF 17 1 16,fS 18 3 4,lF 19 1 18,bS 20 .neq 17 19] [2,3,20] (.cond (.s 20) (Zs [.mv 4 cF] [4] .ret) .skip))
(.seq (Zs [fS 21 2 5,lF 22 1 21,fS 23 3 5,lF 24 1 23,bS 25 .neq 22 24] [25] (.cond (.s 25) (Zs [.mv 4 cF] [4] .ret) .skip))
(Zs [.mv 4 cT] [4] .ret))))))
theorem Coi(x y:GFound):Ctr Tryz.prog Nil [aS x.enc,aS y.enc] [rB (decide (x=y))]:=by
 refine cA Mhx 2 26 [(.tmp 4,[false])] Tryz.func279 rfl rfl ?_;unfold Mhx
 intro hb
 clear hb
 simp only[go_sem]
 refine K0 (C25 x.Address y.Address) ?_
 simp only[go_sem]
 refine⟨fun h=>?_,fun h_Address=>?_⟩
 ·symm
  rw[decide_eq_false_iff_not]
  rintro rfl
  exact h rfl
 refine⟨fun h=>?_,fun h_Tick=>?_⟩
 ·symm
  rw[decide_eq_false_iff_not]
  rintro rfl
  exact h rfl
 refine⟨fun h=>?_,fun h_Container=>?_⟩
 ·symm
  rw[decide_eq_false_iff_not]
  rintro rfl
  exact h rfl
 refine⟨fun h=>?_,fun h_At=>?_⟩
 ·symm
  rw[decide_eq_false_iff_not]
  rintro rfl
  exact h rfl
 cases x;cases y;simp_all
def Mgh:MC:=Y0
theorem Co5(xs:List GFound)(left:Int)(h0:0≤left):Ctr Tryz.prog Ngy [aL 6 (xs.map GFound.enc),aI left] [rI (szr xs.length left)]:=by
 refine cA Mgh 0 12 [(.tmp 4,[false])] Tryz.func135 rfl rfl ?_;unfold Mgh
 intro hb
 simp only[bdA,bdL,bdT,Ke,K10,roomB,and_true,List.length_map]at hb
 obtain⟨⟨hl,-⟩,hn⟩:=hb
 simp only[go_sem]
 rw[wI (by omega) (by omega)]
 unfold szr
 refine⟨fun h=>?_,fun h=>?_⟩
 ·rw[if_neg (by omega)]
 ·rw[if_pos (by omega)]
def Mgj:MC:=
(Zs [.nilo 2 0 6] [0] (Zs [mS 5 0,nS 6 5,.mk 7 0 6 48 [.sc (.int .i64 0),.sc (.int .i64 0),.sc (.int .i64 0),.sc (.int .i64 0),.sc (.int .i64 0),.sc (.int .i64 0)] (.s 6),mS 3 7] [0,3] (.seq (Zs [.mv 4 (ci 0)] [0,3,4] (.block 0 (.loop ([0,3,4],[]) (.seq (Zs [mS 8 4,mS 9 0,nS 10 9,bS 11 .lss 8 10] [0,3,4,11] (cX 11 0))
(.seq (.block 1 (pr [mS 14 3,mS 15 4,mS 16 0,mS 17 4,xS 18 6 16 17,lT 19 6 18,.call 20 [] (.f Nio) [.s 19],xS 21 6 14 15,sS 6 21 20] [0,3,4]))
(pr [mS 12 4,bC 13 .add 12 1,mS 4 13] [0,3,4]))))))
(Zs [mS 22 3,mS 2 22] [2] .ret))))
theorem Co7(xs:List GFound)(hs:xs.length≤1073741824):Ctr Tryz.prog Nh0 [aL 6 (xs.map GFound.enc)] [rL 6 (xs.map GFound.enc)]:=by
 refine cA Mgj 1 23 [(.tmp 2,[true])] Tryz.func155 rfl rfl ?_;unfold Mgj
 intro hb
 simp only[go_sem]
 refine⟨⟨by omega,by simp only[roomB];omega⟩,?_⟩
 refine K5 xs (fun k=>[(4,vI k)]) (fun k=>[(0,⟨0,.row true 6 (filled GFound.enc [tI 0,tI 0,tI 0,tI 0,tI 0,tI 0] xs k)⟩)]) (fun _=>True) (by simp only[roomB];omega) ?_
 simp only[go_sem]
 refine⟨?_,trivial,?_,?_⟩
 ·simp only[go_sem,K1t]
  all_goals rfl
 ·intro k x hx _ h0 h1 hw
  have h:k<xs.length:=by omega
  simp only[go_sem,K4 hx,h0,h1]
  refine K0 (Col x) ?_
  simp only[go_sem,K4 (K26 h),K27 (Nat.le_of_lt h),h0,h1,hw]
  intros;exact K28 hx
 ·intro _
  simp only[go_sem,K25]
def Mgb:MC:=Y8 6 Nil
theorem Co1(xs ys:List GFound):Ctr Tryz.prog Ngu [aL 6 (xs.map GFound.enc),aL 6 (ys.map GFound.enc)] [rB (decide (xs=ys))]:=by
 refine cA Mgb 0 27 [(.tmp 4,[false])] Tryz.func181 rfl rfl ?_;unfold Mgb
 intro hb
 simp only[bdA,bdL,bdT,Ke,roomB,and_true,List.length_map]at hb
 obtain⟨⟨hl,-⟩,⟨hl2,-⟩⟩:=hb
 simp only[go_sem]
 refine⟨fun h=>K30 h,fun h=>?_⟩
 have hle:xs.length=ys.length:=by omega
 refine K5 xs (fun k=>[(5,vI k)]) (fun k=>[]) (fun k=>xs.take k=ys.take k) hl ?_
 simp only[go_sem]
 refine⟨?_,rfl,?_,?_⟩
 ·simp only[go_sem]
 ·intro k x hx he h0 h1 hw
  obtain⟨y,hy⟩:=Kb (show k<ys.length by omega)
  have h2:(k:Int)<ys.length:=by omega
  simp only[go_sem,K4 hx,K4 hy,h0,h1,h2]
  refine K0 (Coi x y) ?_
  simp only[go_sem,hw]
  exact⟨fun hn=>K33 hx hy hn,fun hn=>(K11 hx hy he).2 hn⟩
 ·intro he
  simp only[go_sem]
  exact K2z he hle
def Mjj:MC:=Y13 N3t Ngy N3t
theorem Cou(x:GDisk)(left:Int)(h0:0≤left):Ctr Tryz.prog Nk0 [aS x.enc,aI left] [rI (szr x.size left)]:=by
 refine cA Mjj 1 24 [(.tmp 4,[false])] Tryz.func48 rfl rfl ?_;unfold Mjj
 intro hb
 simp only[go_sem]
 refine K0 (C76 x.Containers left h0) ?_
 simp only[go_sem]
 intro _
 refine⟨fun h=>szr_bad' h0 h (by simp only[GDisk.size];omega),fun h1=>?_⟩
 obtain⟨a1,b1,e1⟩:=K20 (m:=x.Index.length) h0 h1
 refine K0 (Co5 x.Index _ a1) ?_
 rw[←e1]
 simp only[go_sem]
 intro _
 refine⟨fun h=>szr_bad' h0 h (by simp only[GDisk.size];omega),fun h2=>?_⟩
 obtain⟨a2,b2,e2⟩:=K20 (m:=x.Wanted.length+(x.Wanted.map GContainer.size).sum) h0 h2
 refine K0 (C76 x.Wanted _ a2) ?_
 rw[←e2]
 simp only[go_sem]
 intro _
 refine⟨fun h=>szr_bad' h0 h (by simp only[GDisk.size];omega),fun h3=>?_⟩
 rfl
def Mjl:MC:=
(Zs [.box 1 0 (.s 0),.alloc 2 1 [.emp 4,.emp 6,.emp 4]] [1,2] (Zs [.alloc 3 2 [.emp 4,.emp 6,.emp 4]] [1,2,3] (Zs [fS 4 1 0,lF 5 1 4,.call 6 [3] (.f N3u) [.s 5],fS 7 3 0,sS 1 7 6] [1,2,3] (Zs [fS 8 1 1,lF 9 1 8,.call 10 [4] (.f Nh0) [.s 9],fS 11 3 1,sS 1 11 10] [1,2,3] (Zs [fS 12 1 2,lF 13 1 12,.call 14 [5] (.f N3u) [.s 13],fS 15 3 2,sS 1 15 14] [2,3] (Zs [lT 16 3 3,sS 3 2 16] [2] .ret))))))
theorem Cov(x:GDisk)(hs:x.size≤1073741824):Ctr Tryz.prog Nk1 [aS x.enc] [rS x.enc]:=by
 refine cA Mjl 6 17 [(.cell 2 true 3,[true,true,true])] Tryz.func65 rfl rfl ?_;unfold Mjl
 intro hb
 simp only[GDisk.size]at hs
 simp only[go_sem]
 refine K0 (C77 x.Containers (by omega)) ?_
 simp only[go_sem]
 try intros
 refine K0 (Co7 x.Index (by omega)) ?_
 simp only[go_sem]
 try intros
 refine K0 (C77 x.Wanted (by omega)) ?_
 simp only[go_sem]
 try intros
def Mjh:MC:=
(Zs [.box 2 0 (.s 0),.box 3 1 (.s 1),.mv 4 cF] [2,3] (.seq (Zs [fS 5 2 0,lF 6 1 5,fS 7 3 0,lF 8 1 7,.call 9 [] (.f N3s) [.s 6,.s 8],.un 10 .not (.s 9)] [2,3,10] (.cond (.s 10) (Zs [.mv 4 cF] [4] .ret) .skip))
(.seq (Zs [fS 11 2 1,lF 12 1 11,fS 13 3 1,lF 14 1 13,.call 15 [] (.f Ngu) [.s 12,.s 14],.un 16 .not (.s 15)] [2,3,16] (.cond (.s 16) (Zs [.mv 4 cF] [4] .ret) .skip))
(.seq (Zs [fS 17 2 2,lF 18 1 17,fS 19 3 2,lF 20 1 19,.call 21 [] (.f N3s) [.s 18,.s 20],.un 22 .not (.s 21)] [22] (.cond (.s 22) (Zs [.mv 4 cF] [4] .ret) .skip))
(Zs [.mv 4 cT] [4] .ret)))))
theorem Cot(x y:GDisk):Ctr Tryz.prog Njz [aS x.enc,aS y.enc] [rB (decide (x=y))]:=by
 refine cA Mjh 2 23 [(.tmp 4,[false])] Tryz.func82 rfl rfl ?_;unfold Mjh
 intro hb
 clear hb
 simp only[go_sem]
 refine K0 (C75 x.Containers y.Containers) ?_
 simp only[go_sem]
 refine⟨fun h=>?_,fun h_Containers=>?_⟩
 ·symm
  rw[decide_eq_false_iff_not]
  rintro rfl
  exact h rfl
 refine K0 (Co1 x.Index y.Index) ?_
 simp only[go_sem]
 refine⟨fun h=>?_,fun h_Index=>?_⟩
 ·symm
  rw[decide_eq_false_iff_not]
  rintro rfl
  exact h rfl
 refine K0 (C75 x.Wanted y.Wanted) ?_
 simp only[go_sem]
 refine⟨fun h=>?_,fun h_Wanted=>?_⟩
 ·symm
  rw[decide_eq_false_iff_not]
  rintro rfl
  exact h rfl
 cases x;cases y;simp_all
def Y14(v0:Nat)(v1:Nat)(v2:Nat)(v3:Nat)(v4:Nat)(v5:Nat)(v6:Nat):MC:=
(Zs [.box 2 0 (.s 0),.mv 4 (ci 0)] [1,2] (Zs [fS 5 2 0,lF 6 1 5,mS 7 1,.call 8 [] (.f v0) [.s 6,.s 7],mS 1 8] [1,2] (.seq (Zs [mS 9 1,bC 10 .lss 9 0] [1,2,10] (.cond (.s 10) (Zs [.mv 4 (.c (.int .i64 (-1)))] [4] .ret) .skip))
(Zs [fS 11 2 1,lF 12 1 11,mS 13 1,.call 14 [] (.f v1) [.s 12,.s 13],mS 1 14] [1,2] (.seq (Zs [mS 15 1,bC 16 .lss 15 0] [1,2,16] (.cond (.s 16) (Zs [.mv 4 (.c (.int .i64 (-1)))] [4] .ret) .skip))
(Zs [fS 17 2 2,lT 18 3 17,mS 19 1,.call 20 [] (.f v2) [.s 18,.s 19],mS 1 20] [1,2] (.seq (Zs [mS 21 1,bC 22 .lss 21 0] [1,2,22] (.cond (.s 22) (Zs [.mv 4 (.c (.int .i64 (-1)))] [4] .ret) .skip))
(Zs [fS 23 2 5,lF 24 1 23,mS 25 1,.call 26 [] (.f v3) [.s 24,.s 25],mS 1 26] [1,2] (.seq (Zs [mS 27 1,bC 28 .lss 27 0] [1,2,28] (.cond (.s 28) (Zs [.mv 4 (.c (.int .i64 (-1)))] [4] .ret) .skip))
(Zs [fS 29 2 6,lF 30 1 29,mS 31 1,.call 32 [] (.f v4) [.s 30,.s 31],mS 1 32] [1,2] (.seq (Zs [mS 33 1,bC 34 .lss 33 0] [1,2,34] (.cond (.s 34) (Zs [.mv 4 (.c (.int .i64 (-1)))] [4] .ret) .skip))
(Zs [fS 35 2 7,lF 36 1 35,mS 37 1,.call 38 [] (.f v5) [.s 36,.s 37],mS 1 38] [1,2] (.seq (Zs [mS 39 1,bC 40 .lss 39 0] [1,2,40] (.cond (.s 40) (Zs [.mv 4 (.c (.int .i64 (-1)))] [4] .ret) .skip))
(Zs [fS 41 2 8,lF 42 1 41,mS 43 1,.call 44 [] (.f v6) [.s 42,.s 43],mS 1 44] [1] (.seq (Zs [mS 45 1,bC 46 .lss 45 0] [1,46] (.cond (.s 46) (Zs [.mv 4 (.c (.int .i64 (-1)))] [4] .ret) .skip))
(Zs [mS 47 1,mS 4 47] [4] .ret))))))))))))))))
attribute [go_sem] Y14
def Mea:MC:=Y14 Nd2 Nfc Nk0 N8i Nd0 N5f N8j
theorem Cni(x:GArchive)(left:Int)(h0:0≤left):Ctr Tryz.prog Nf9 [aS x.enc,aI left] [rI (szr x.size left)]:=by
 refine cA Mea 1 48 [(.tmp 4,[false])] Tryz.func8 rfl rfl ?_;unfold Mea
 intro hb
 simp only[go_sem]
 refine K0 (Cmd x.Site left h0) ?_
 simp only[go_sem]
 intro _
 refine⟨fun h=>szr_bad' h0 h (by simp only[GArchive.size];omega),fun h1=>?_⟩
 obtain⟨a1,b1,e1⟩:=K20 (m:=x.Script.length) h0 h1
 refine K0 (Cl4 x.Script _ a1) ?_
 rw[←e1]
 simp only[go_sem]
 intro _
 refine⟨fun h=>szr_bad' h0 h (by simp only[GArchive.size];omega),fun h2=>?_⟩
 obtain⟨a2,b2,e2⟩:=K20 (m:=x.Disk.size) h0 h2
 refine K0 (Cou x.Disk _ a2) ?_
 rw[←e2]
 simp only[go_sem]
 intro _
 refine⟨fun h=>szr_bad' h0 h (by simp only[GArchive.size];omega),fun h3=>?_⟩
 obtain⟨a3,b3,e3⟩:=K20 (m:=x.Exclusions.length) h0 h3
 refine K0 (Ckk x.Exclusions _ a3) ?_
 rw[←e3]
 simp only[go_sem]
 intro _
 refine⟨fun h=>szr_bad' h0 h (by simp only[GArchive.size];omega),fun h4=>?_⟩
 obtain⟨a4,b4,e4⟩:=K20 (m:=x.Libraries.length+(x.Libraries.map GLibrary.size).sum) h0 h4
 refine K0 (Cmc x.Libraries _ a4) ?_
 rw[←e4]
 simp only[go_sem]
 intro _
 refine⟨fun h=>szr_bad' h0 h (by simp only[GArchive.size];omega),fun h5=>?_⟩
 obtain⟨a5,b5,e5⟩:=K20 (m:=x.Keys.length) h0 h5
 refine K0 (C58 x.Keys _ a5) ?_
 rw[←e5]
 simp only[go_sem]
 intro _
 refine⟨fun h=>szr_bad' h0 h (by simp only[GArchive.size];omega),fun h6=>?_⟩
 obtain⟨a6,b6,e6⟩:=K20 (m:=x.Statements.length) h0 h6
 refine K0 (Ckl x.Statements _ a6) ?_
 rw[←e6]
 simp only[go_sem]
 intro _
 refine⟨fun h=>szr_bad' h0 h (by simp only[GArchive.size];omega),fun h7=>?_⟩
 rfl
def Mef:MC:=
(Zs [.box 1 0 (.s 0),.alloc 2 1 [.emp 9,.emp 4,.emp 4,.emp 6,.emp 4,.emp 5,.emp 4,.emp 1,.emp 4,pz]] [1,2] (Zs [.alloc 3 2 [.emp 9,.emp 4,.emp 4,.emp 6,.emp 4,.emp 5,.emp 4,.emp 1,.emp 4,pz]] [1,2,3] (Zs [fS 4 1 0,lF 5 1 4,.call 6 [3] (.f Nd6) [.s 5],fS 7 3 0,sS 1 7 6] [1,2,3] (Zs [fS 8 1 1,lF 9 1 8,.call 10 [4] (.f Nff) [.s 9],fS 11 3 1,sS 1 11 10] [1,2,3] (Zs [fS 12 1 2,lT 13 3 12,.call 14 [5,6,7] (.f Nk1) [.s 13],fS 15 3 2,sS 3 15 14] [1,2,3] (Zs [fS 16 1 5,lF 17 1 16,.call 18 [8] (.f N8k) [.s 17],fS 19 3 5,sS 1 19 18] [1,2,3] (Zs [fS 20 1 6,lF 21 1 20,.call 22 [9] (.f Nd4) [.s 21],fS 23 3 6,sS 1 23 22] [1,2,3] (Zs [fS 24 1 7,lF 25 1 24,.call 26 [10] (.f N3j) [.s 25],fS 27 3 7,sS 1 27 26] [1,2,3] (Zs [fS 28 1 8,lF 29 1 28,.call 30 [11] (.f N8l) [.s 29],fS 31 3 8,sS 1 31 30] [1,2,3] (Zs [fS 32 1 9,lF 33 1 32,fS 34 3 9,sS 1 34 33] [2,3] (Zs [lT 35 10 3,sS 10 2 35] [2] .ret)))))))))))
theorem C37(x:GArchive)(hs:x.size≤1073741824):Ctr Tryz.prog N2a [aS x.enc] [rS x.enc]:=by
 refine cA Mef 12 36 [(.cell 2 true 10,[true,true,true,true,true,true,true,true,true,false])] Tryz.func11 rfl rfl ?_;unfold Mef
 intro hb
 simp only[GArchive.size]at hs
 simp only[go_sem]
 refine K0 (Cmg x.Site (by omega)) ?_
 simp only[go_sem]
 try intros
 refine K0 (Cl6 x.Script (by omega)) ?_
 simp only[go_sem]
 try intros
 refine K0 (Cov x.Disk (by omega)) ?_
 simp only[go_sem]
 try intros
 refine K0 (Ckm x.Exclusions (by omega)) ?_
 simp only[go_sem]
 try intros
 refine K0 (Cmf x.Libraries (by omega)) ?_
 simp only[go_sem]
 try intros
 refine K0 (C59 x.Keys (by omega)) ?_
 simp only[go_sem]
 try intros
 refine K0 (Ckn x.Statements (by omega)) ?_
 simp only[go_sem]
 try intros
def Me5:MC:=
(Zs [.box 2 0 (.s 0),.box 3 1 (.s 1),.mv 4 cF] [2,3] (.seq (Zs [fS 5 2 0,lF 6 1 5,fS 7 3 0,lF 8 1 7,.call 9 [] (.f Ncu) [.s 6,.s 8],.un 10 .not (.s 9)] [2,3,10] (.cond (.s 10) (Zs [.mv 4 cF] [4] .ret) .skip))
(.seq (Zs [fS 11 2 1,lF 12 1 11,fS 13 3 1,lF 14 1 13,.call 15 [] (.f Nf7) [.s 12,.s 14],.un 16 .not (.s 15)] [2,3,16] (.cond (.s 16) (Zs [.mv 4 cF] [4] .ret) .skip))
(.seq (Zs [fS 17 2 2,lT 18 3 17,fS 19 3 2,lT 20 3 19,.call 21 [] (.f Njz) [.s 18,.s 20],.un 22 .not (.s 21)] [2,3,22] (.cond (.s 22) (Zs [.mv 4 cF] [4] .ret) .skip))
(.seq (Zs [fS 23 2 5,lF 24 1 23,fS 25 3 5,lF 26 1 25,.call 27 [] (.f N89) [.s 24,.s 26],.un 28 .not (.s 27)] [2,3,28] (.cond (.s 28) (Zs [.mv 4 cF] [4] .ret) .skip))
(.seq (Zs [fS 29 2 6,lF 30 1 29,fS 31 3 6,lF 32 1 31,.call 33 [] (.f Ncs) [.s 30,.s 32],.un 34 .not (.s 33)] [2,3,34] (.cond (.s 34) (Zs [.mv 4 cF] [4] .ret) .skip))
(.seq (Zs [fS 35 2 7,lF 36 1 35,fS 37 3 7,lF 38 1 37,.call 39 [] (.f N3i) [.s 36,.s 38],.un 40 .not (.s 39)] [2,3,40] (.cond (.s 40) (Zs [.mv 4 cF] [4] .ret) .skip))
(.seq (Zs [fS 41 2 8,lF 42 1 41,fS 43 3 8,lF 44 1 43,.call 45 [] (.f N8a) [.s 42,.s 44],.un 46 .not (.s 45)] [2,3,46] (.cond (.s 46) (Zs [.mv 4 cF] [4] .ret) .skip))
(.seq (Zs [fS 47 2 9,lF 48 1 47,fS 49 3 9,lF 50 1 49,bS 51 .neq 48 50] [51] (.cond (.s 51) (Zs [.mv 4 cF] [4] .ret) .skip))
(Zs [.mv 4 cT] [4] .ret))))))))))
theorem C36(x y:GArchive):Ctr Tryz.prog N28 [aS x.enc,aS y.enc] [rB (decide (x=y))]:=by
 refine cA Me5 2 52 [(.tmp 4,[false])] Tryz.func14 rfl rfl ?_;unfold Me5
 intro hb
 clear hb
 simp only[go_sem]
 refine K0 (Cm6 x.Site y.Site) ?_
 simp only[go_sem]
 refine⟨fun h=>?_,fun h_Site=>?_⟩
 ·symm
  rw[decide_eq_false_iff_not]
  rintro rfl
  exact h rfl
 refine K0 (Cl0 x.Script y.Script) ?_
 simp only[go_sem]
 refine⟨fun h=>?_,fun h_Script=>?_⟩
 ·symm
  rw[decide_eq_false_iff_not]
  rintro rfl
  exact h rfl
 refine K0 (Cot x.Disk y.Disk) ?_
 simp only[go_sem]
 refine⟨fun h=>?_,fun h_Disk=>?_⟩
 ·symm
  rw[decide_eq_false_iff_not]
  rintro rfl
  exact h rfl
 refine K0 (Ckb x.Exclusions y.Exclusions) ?_
 simp only[go_sem]
 refine⟨fun h=>?_,fun h_Exclusions=>?_⟩
 ·symm
  rw[decide_eq_false_iff_not]
  rintro rfl
  exact h rfl
 refine K0 (Cm5 x.Libraries y.Libraries) ?_
 simp only[go_sem]
 refine⟨fun h=>?_,fun h_Libraries=>?_⟩
 ·symm
  rw[decide_eq_false_iff_not]
  rintro rfl
  exact h rfl
 refine K0 (C57 x.Keys y.Keys) ?_
 simp only[go_sem]
 refine⟨fun h=>?_,fun h_Keys=>?_⟩
 ·symm
  rw[decide_eq_false_iff_not]
  rintro rfl
  exact h rfl
 refine K0 (Ckc x.Statements y.Statements) ?_
 simp only[go_sem]
 refine⟨fun h=>?_,fun h_Statements=>?_⟩
 ·symm
  rw[decide_eq_false_iff_not]
  rintro rfl
  exact h rfl
 refine⟨fun h=>?_,fun h_Now=>?_⟩
 ·symm
  rw[decide_eq_false_iff_not]
  rintro rfl
  exact h rfl
 cases x;cases y;simp_all
def Mi0:MC:=
(Zs [.box 2 0 (.s 0),.mv 4 (ci 0)] [1,2] (Zs [fS 5 2 2,lF 6 1 5,mS 7 1,.call 8 [] (.f N5f) [.s 6,.s 7],mS 1 8] [1,2] (.seq (Zs [mS 9 1,bC 10 .lss 9 0] [1,2,10] (.cond (.s 10) (Zs [.mv 4 (.c (.int .i64 (-1)))] [4] .ret) .skip))
(Zs [fS 11 2 3,lT 12 9 11,mS 13 1,.call 14 [] (.f N5k) [.s 12,.s 13],mS 1 14] [1] (.seq (Zs [mS 15 1,bC 16 .lss 15 0] [1,16] (.cond (.s 16) (Zs [.mv 4 (.c (.int .i64 (-1)))] [4] .ret) .skip))
(Zs [mS 17 1,mS 4 17] [4] .ret))))))
theorem Coj(x:GEvent)(left:Int)(h0:0≤left):Ctr Tryz.prog Nim [aS x.enc,aI left] [rI (szr x.size left)]:=by
 refine cA Mi0 1 18 [(.tmp 4,[false])] Tryz.func9 rfl rfl ?_;unfold Mi0
 intro hb
 simp only[go_sem]
 refine K0 (C58 x.Inputs left h0) ?_
 simp only[go_sem]
 intro _
 refine⟨fun h=>szr_bad' h0 h (by simp only[GEvent.size];omega),fun h1=>?_⟩
 obtain⟨a1,b1,e1⟩:=K20 (m:=x.Version.size) h0 h1
 refine K0 (Cdn x.Version _ a1) ?_
 rw[←e1]
 simp only[go_sem]
 intro _
 refine⟨fun h=>szr_bad' h0 h (by simp only[GEvent.size];omega),fun h2=>?_⟩
 rfl
def Mi2:MC:=
(Zs [.box 1 0 (.s 0),.alloc 2 1 [pz,pz,.emp 1,pz,pz,pz,pz,pz,.emp 1,pz,pz,pz,pz,pz,pz,pz,pz]] [1,2] (Zs [.alloc 3 2 [pz,pz,.emp 1,pz,pz,pz,pz,pz,.emp 1,pz,pz,pz,pz,pz,pz,pz,pz]] [1,2,3] (Zs [fS 4 1 0,lF 5 1 4,fS 6 3 0,sS 1 6 5] [1,2,3] (Zs [fS 7 1 1,lF 8 1 7,fS 9 3 1,sS 1 9 8] [1,2,3] (Zs [fS 10 1 2,lF 11 1 10,.call 12 [3] (.f N3j) [.s 11],fS 13 3 2,sS 1 13 12] [1,2,3] (Zs [fS 14 1 3,lT 15 9 14,.call 16 [4] (.f N5l) [.s 15],fS 17 3 3,sS 9 17 16] [1,2,3] (Zs [fS 18 1 12,lT 19 5 18,.call 20 [] (.f N4a) [.s 19],fS 21 3 12,sS 5 21 20] [2,3] (Zs [lT 22 17 3,sS 17 2 22] [2] .ret))))))))
theorem C4e(x:GEvent)(hs:x.size≤1073741824):Ctr Tryz.prog N33 [aS x.enc] [rS x.enc]:=by
 refine cA Mi2 5 23 [(.cell 2 true 17,[false,false,true,false,false,false,false,false,true,false,false,false,false,false,false,false,false])] Tryz.func12 rfl rfl ?_;unfold Mi2
 intro hb
 simp only[GEvent.size]at hs
 simp only[go_sem]
 refine K0 (C59 x.Inputs (by omega)) ?_
 simp only[go_sem]
 try intros
 refine K0 (Cdo x.Version (by omega)) ?_
 simp only[go_sem]
 try intros
 refine K0 (C95 x.Exclusion) ?_
 simp only[go_sem]
 try intros
def Mhw:MC:=
(Zs [.box 2 0 (.s 0),.box 3 1 (.s 1),.mv 4 cF] [2,3] (.seq (Zs [fS 5 2 0,lF 6 1 5,fS 7 3 0,lF 8 1 7,bS 9 .neq 6 8] [2,3,9] (.cond (.s 9) (Zs [.mv 4 cF] [4] .ret) .skip))
(.seq (Zs [fS 10 2 1,lF 11 1 10,fS 12 3 1,lF 13 1 12,bS 14 .neq 11 13] [2,3,14] (.cond (.s 14) (Zs [.mv 4 cF] [4] .ret) .skip))
(.seq (Zs [fS 15 2 2,lF 16 1 15,fS 17 3 2,lF 18 1 17,.call 19 [] (.f N3i) [.s 16,.s 18],.un 20 .not (.s 19)] [2,3,20] (.cond (.s 20) (Zs [.mv 4 cF] [4] .ret) .skip))
(.seq (Zs [fS 21 2 3,lT 22 9 21,fS 23 3 3,lT 24 9 23,.call 25 [] (.f N5j) [.s 22,.s 24],.un 26 .not (.s 25)] [2,3,26] (.cond (.s 26) (Zs [.mv 4 cF] [4] .ret) .skip))
(.seq (Zs [fS 27 2 12,lT 28 5 27,fS 29 3 12,lT 30 5 29,.call 31 [] (.f N47) [.s 28,.s 30],.un 32 .not (.s 31)] [32] (.cond (.s 32) (Zs [.mv 4 cF] [4] .ret) .skip))
(Zs [.mv 4 cT] [4] .ret)))))))
theorem Coh(x y:GEvent):Ctr Tryz.prog Nik [aS x.enc,aS y.enc] [rB (decide (x=y))]:=by
 refine cA Mhw 2 33 [(.tmp 4,[false])] Tryz.func15 rfl rfl ?_;unfold Mhw
 intro hb
 clear hb
 simp only[go_sem]
 refine⟨fun h=>?_,fun h_Kind=>?_⟩
 ·symm
  rw[decide_eq_false_iff_not]
  rintro rfl
  exact h rfl
 refine⟨fun h=>?_,fun h_N=>?_⟩
 ·symm
  rw[decide_eq_false_iff_not]
  rintro rfl
  exact h rfl
 refine K0 (C57 x.Inputs y.Inputs) ?_
 simp only[go_sem]
 refine⟨fun h=>?_,fun h_Inputs=>?_⟩
 ·symm
  rw[decide_eq_false_iff_not]
  rintro rfl
  exact h rfl
 refine K0 (Cdm x.Version y.Version) ?_
 simp only[go_sem]
 refine⟨fun h=>?_,fun h_Version=>?_⟩
 ·symm
  rw[decide_eq_false_iff_not]
  rintro rfl
  exact h rfl
 refine K0 (C92 x.Exclusion y.Exclusion) ?_
 simp only[go_sem]
 refine⟨fun h=>?_,fun h_Exclusion=>?_⟩
 ·symm
  rw[decide_eq_false_iff_not]
  rintro rfl
  exact h rfl
 cases x;cases y;simp_all
end Go.Proofs.YtjneccbpkckdfaaGreatR
namespace Go.Proofs.YtjneccbpkckdfaaGreatR
open Go Go.RowKit Go.Proofs
open Nat (reduceEqDiff reduceLT reduceLeDiff reduceAdd reduceMul)
open List (reduceReplicate)
theorem tt{p:Prop} [Decidable p] (h:p):true=decide p:=(decide_eq_true h).symm
theorem K2v{α:Type}{p:α→Bool}{l:List α}{k:Nat}{x:α}(hx:l[k]? =some x)(h:(l.take k).any p=false)(hn:p x=false):(l.take (k+1)).any p=false:=by
 rw[Kc hx,List.any_append,h]
 simp[hn]
theorem any_here{α:Type}{p:α→Bool}{l:List α}{k:Nat}{x:α}(hx:l[k]? =some x)(hn:p x=true):l.any p=true:=List.any_eq_true.2 ⟨x,Km hx,hn⟩
def idxF{α:Type}(p:α→Bool)(l:List α):Int:=if l.any p then(l.takeWhile fun x=> !p x).length else -1
theorem K2w{α:Type}{p:α→Bool}{l:List α}{k:Nat}{x:α}(hx:l[k]? =some x)(h:(l.take k).any p=false)(hn:p x=true):idxF p l=k:=by
 unfold idxF
 rw[any_here hx hn,if_pos rfl]
 congr 1
 have e:l=l.take k++x::l.drop (k+1):=K32 hx
 rw[e,List.takeWhile_append_of_pos]
 ·simp[hn]
  have:=Kg hx
  omega
 ·intro a ha
  have:=List.any_eq_false.1 h a ha
  simpa using this
theorem K37{α:Type}{p:α→Bool}{l:List α}(h:l.any p=false):idxF p l= -1:=by
 unfold idxF;rw[h];rfl
theorem K64{α:Type}{p:α→Bool}{l:List α}:decide (idxF p l≥0)=l.any p:=by
 unfold idxF
 cases l.any p<;>simp
def eqF{α:Type}(p:α→α→Bool):List α→List α→Bool
 | [],[]=>true
 |x::xs,y::ys=>p x y&&eqF p xs ys
 |_,_=>false
theorem eqF_len{α:Type}{p:α→α→Bool}:∀ {xs ys:List α},¬(xs.length:Int)=ys.length→false=eqF p xs ys
 | [],[],h=>by simp at h
 |_::_,_::_,h=>by
  simp only[eqF]
  rw[←eqF_len (fun e=>h (by simp only[List.length_cons];omega)),Bool.and_false]
 | [],_::_,_=>rfl
 |_::_,[],_=>rfl
theorem Kd1{α:Type}{p:α→α→Bool}:∀ {xs ys:List α} {k:Nat} {x y:α},xs[k]? =some x→ys[k]? =some y→eqF p (xs.take k) (ys.take k)=true→eqF p (xs.take (k+1)) (ys.take (k+1))=p x y
 |x0::xs,y0::ys,0,x,y,hx,hy,_=>by
  simp at hx hy
  subst hx hy
  simp[eqF]
 |x0::xs,y0::ys,k+1,x,y,hx,hy,h=>by
  simp only[List.take_succ_cons,eqF,Bool.and_eq_true]at h ⊢
  rw[Kd1 (by simpa using hx) (by simpa using hy) h.2,h.1,Bool.true_and]
 | [],_,_,_,_,hx,_,_=>by simp at hx
 |_::_,[],_,_,_,_,hy,_=>by simp at hy
theorem Kc0{α:Type}{p:α→α→Bool}:∀ {xs ys:List α} {k:Nat} {x y:α},xs[k]? =some x→ys[k]? =some y→p x y=false→false=eqF p xs ys
 |x0::xs,y0::ys,0,x,y,hx,hy,h=>by
  simp at hx hy
  subst hx hy
  simp[eqF,h]
 |x0::xs,y0::ys,k+1,x,y,hx,hy,h=>by
  simp only[eqF]
  rw[←Kc0 (by simpa using hx) (by simpa using hy) h,Bool.and_false]
 | [],_,_,_,_,hx,_,_=>by simp at hx
 |_::_,[],_,_,_,_,hy,_=>by simp at hy
theorem eqF_all{α:Type}{p:α→α→Bool}{xs ys:List α}(h:eqF p (xs.take xs.length) (ys.take xs.length)=true)(hl:xs.length=ys.length):true=eqF p xs ys:=by
 rw[List.take_length,hl,List.take_length]at h
 exact h.symm
theorem eqF_eq{α:Type} [DecidableEq α]:∀(xs ys:List α),eqF (fun x y=>decide (x=y)) xs ys=decide (xs=ys)
 | [],[]=>by simp[eqF]
 |x::xs,y::ys=>by
  simp only[eqF,eqF_eq xs ys]
  by_cases h:x=y<;>by_cases h2:xs=ys<;>simp[h,h2]
 | [],_::_=>by simp[eqF]
 |_::_,[]=>by simp[eqF]
def idxO{α:Type} [DecidableEq α] (n:α)(l:List α):Int:=idxF (fun x=>decide (n=x)) l
theorem idxO_ge{α:Type} [DecidableEq α] {n:α}{l:List α}:decide (idxO n l≥0)=decide (n∈l):=by
 unfold idxO
 rw[K64]
 rw[Bool.eq_iff_iff]
 simp
def M51:MC:=
(Zs [.mv 4 cF] [0,1] (.seq (Zs [mS 6 0,nS 7 6,mS 8 1,nS 9 8,bS 10 .neq 7 9] [0,1,10] (.cond (.s 10) (Zs [.mv 4 cF] [4] .ret) .skip))
(.seq (Zs [mS 11 0,nS 12 11,.mv 13 (ci 0)] [0,1,12,13] (.block 0 (.loop ([0,1,12,13],[]) (Zs [bS 14 .lss 13 12] [0,1,12,13,14] (.seq (cX 14 0)
(.seq (.block 1 (Zs [mS 15 13,mS 5 15] [0,1,5,12,13] (.seq (.dreg [Zc [17,20,21,22,23] (mS 16 0),Zc [16,20,21,22,23] (mS 17 5),Zd [20,21,22,23] [0,1] (xS 18 1 16 17),Zd [20,21,22,23] [0,1,2] (lF 19 1 18),Zc [16,17,18,19,21] (mS 20 1),Zc [16,17,18,19,20] (mS 21 5),Zd [16,17,18,19] [4,5] (xS 22 1 20 21),Zd [16,17,18,19] [4,5,6] (lF 23 1 22),Ze (.range 8) (bS 24 .neq 19 23)] [0,1,12,13,24])
(.cond (.s 24) (Zs [.mv 4 cF] [4] .ret) .skip))))
(pr [bC 25 .add 13 1,mS 13 25] [0,1,12,13])))))))
(Zs [.mv 4 cT] [4] .ret))))
theorem C97(xs ys:List Int):Ctr Tryz.prog N2p [aL 1 (xs.map encI),aL 1 (ys.map encI)] [rB (decide (xs=ys))]:=by
 refine cA M51 0 26 [(.tmp 4,[false])] Tryz.func277 rfl rfl ?_;unfold M51
 intro hb
 simp only[bdA,bdL,bdT,Ke,roomB,and_true,List.length_map]at hb
 obtain⟨⟨hl,-⟩,⟨hl2,-⟩⟩:=hb
 simp only[go_sem]
 refine⟨fun h=>K30 h,fun h=>?_⟩
 have hle:xs.length=ys.length:=by omega
 refine K5 xs (fun k=>[(13,vI k)]) (fun k=>[]) (fun k=>xs.take k=ys.take k) hl ?_
 simp only[go_sem]
 refine⟨?_,rfl,?_,?_⟩
 ·simp only[go_sem]
 ·intro k x hx he h0 h1 hw
  obtain⟨y,hy⟩:=Kb (show k<ys.length by omega)
  have h2:(k:Int)<ys.length:=by omega
  simp only[go_sem,K4 hx,K4 hy,h0,h1,h2,hw]
  exact⟨fun hn=>K33 hx hy (by simpa using hn),fun hn=>(K11 hx hy he).2 (by simpa using hn)⟩
 ·intro he
  simp only[go_sem]
  exact K2z he hle
def M52:MC:=
(Zs [.mv 4 (ci 0)] [0,1] (.seq (Zs [mS 6 0,nS 7 6,.mv 8 (ci 0)] [0,1,7,8] (.block 0 (.loop ([0,1,7,8],[]) (Zs [bS 9 .lss 8 7] [0,1,7,8,9] (.seq (cX 9 0)
(.seq (.block 1 (Zs [mS 10 8,mS 5 10] [0,1,5,7,8] (Zs [mS 11 1,mS 12 0,mS 13 5,xS 14 1 12 13,lF 15 1 14,bS 16 .eql 11 15] [0,1,5,7,8,16] (.cond (.s 16) (Zs [mS 17 5,mS 4 17] [4] .ret) .skip))))
(pr [bC 18 .add 8 1,mS 8 18] [0,1,7,8])))))))
(Zs [.mv 4 (.c (.int .i64 (-1)))] [4] .ret)))
theorem Cl8(xs:List Int)(n:Int):Ctr Tryz.prog N55 [aL 1 (xs.map encI),aI n] [rI (idxO n xs)]:=by
 refine cA M52 0 19 [(.tmp 4,[false])] Tryz.func264 rfl rfl ?_;unfold M52
 intro hb
 simp only[bdA,bdL,bdT,Ke,K10,roomB,and_true,List.length_map]at hb
 obtain⟨⟨hl,-⟩,-⟩:=hb
 simp only[go_sem]
 refine K5 xs (fun k=>[(8,vI k)]) (fun k=>[]) (fun k=>(xs.take k).any (fun x=>decide (n=x))=false) hl ?_
 simp only[go_sem]
 refine⟨?_,by simp,?_,?_⟩
 ·simp only[go_sem]
 ·intro k x hx h h0 h1 hw
  simp only[go_sem,K4 hx,h0,h1,hw]
  exact⟨fun hn=>(K2w hx h (decide_eq_true (by simpa using hn))).symm,fun hn=>K2v hx h (decide_eq_false (by simpa using hn))⟩
 ·intro h
  simp only[go_sem]
  rw[List.take_length]at h
  exact(K37 h).symm
def Y15(v0:Nat):MC:=
(Zs [.mv 4 cF] [0,1] (Zs [mS 5 0,mS 6 1,.call 7 [] (.f v0) [.s 5,.s 6],bC 8 .geq 7 0,mS 4 8] [4] .ret))
attribute [go_sem] Y15
def M3z:MC:=Y15 N55
theorem Chi(xs:List Int)(n:Int):Ctr Tryz.prog Nd [aL 1 (xs.map encI),aI n] [rB (decide (n∈xs))]:=by
 refine cA M3z 0 9 [(.tmp 4,[false])] Tryz.func164 rfl rfl ?_;unfold M3z
 intro hb
 clear hb
 simp only[go_sem]
 refine K0 (Cl8 xs n) ?_
 simp only[go_sem]
 intros
 exact idxO_ge
def encS(s:ByteArray):List T:=[tS s]
attribute [go_sem] encS
abbrev aStr(s:ByteArray):Bool×List T:=(false,[tS s])
attribute [go_sem] aStr
def M1a:MC:=
(Zs [.box 3 0 (.s 1),.mv 4 (ci 0)] [0,3] (.seq (Zs [mS 6 0,nS 7 6,.mv 8 (ci 0)] [0,3,7,8] (.block 0 (.loop ([0,3,7,8],[]) (Zs [bS 9 .lss 8 7] [0,3,7,8,9] (.seq (cX 9 0)
(.seq (.block 1 (Zs [mS 10 8,mS 5 10] [0,3,5,7,8] (.seq (.dreg [Zc [12,13,14,15] (lT 11 3 3),Zc [11,13] (mS 12 0),Zc [11,12] (mS 13 5),Zd [11] [1,2] (xS 14 3 12 13),Zd [11] [1,2,3] (lT 15 3 14),Ze (.range 5) (.eqA 16 false [.i .i64,.i .i64,.i .i64] (.s 11) (.s 15))] [0,3,5,7,8,16])
(.cond (.s 16) (Zs [mS 17 5,mS 4 17] [4] .ret) .skip))))
(pr [bC 18 .add 8 1,mS 8 18] [0,3,7,8])))))))
(Zs [.mv 4 (.c (.int .i64 (-1)))] [4] .ret)))
theorem Ch3(xs:List GAddress)(n:GAddress):Ctr Tryz.prog N1d [aL 3 (xs.map GAddress.enc),aS (GAddress.enc n)] [rI (idxO n xs)]:=by
 refine cA M1a 1 19 [(.tmp 4,[false])] Tryz.func389 rfl rfl ?_;unfold M1a
 intro hb
 simp only[bdA,bdL,bdT,Ke,roomB,and_true,List.length_map]at hb
 obtain⟨⟨hl,-⟩,-⟩:=hb
 simp only[go_sem]
 refine K5 xs (fun k=>[(8,vI k)]) (fun k=>[]) (fun k=>(xs.take k).any (fun x=>decide (n=x))=false) hl ?_
 simp only[go_sem]
 refine⟨?_,by simp,?_,?_⟩
 ·simp only[go_sem]
 ·intro k x hx h h0 h1 hw
  simp only[go_sem,K4 hx,h0,h1,hw,eqB]
  exact⟨fun hn=>(K2w hx h (decide_eq_true (by exact GAddress.eqv.2 (by simpa using hn)))).symm,fun hn=>K2v hx h (decide_eq_false (by rintro rfl;simp at hn))⟩
 ·intro h
  simp only[go_sem]
  rw[List.take_length]at h
  exact(K37 h).symm
def M16:MC:=
(Zs [.box 3 0 (.s 1),.mv 4 cF] [0,3] (Zs [mS 5 0,lT 6 3 3,.call 7 [] (.f N1d) [.s 5,.s 6],bC 8 .geq 7 0,mS 4 8] [4] .ret))
theorem Cdi(xs:List GAddress)(n:GAddress):Ctr Tryz.prog N18 [aL 3 (xs.map GAddress.enc),aS (GAddress.enc n)] [rB (decide (n∈xs))]:=by
 refine cA M16 1 9 [(.tmp 4,[false])] Tryz.func377 rfl rfl ?_;unfold M16
 intro hb
 clear hb
 simp only[go_sem]
 refine K0 (Ch3 xs n) ?_
 simp only[go_sem]
 intros
 exact idxO_ge
def Y16(v0:Nat):MC:=
(Zs [.mv 4 (ci 0)] [0,1] (.seq (Zs [mS 6 0,nS 7 6,.mv 8 (ci 0)] [0,1,7,8] (.block 0 (.loop ([0,1,7,8],[]) (Zs [bS 9 .lss 8 7] [0,1,7,8,9] (.seq (cX 9 0)
(.seq (.block 1 (Zs [mS 10 8,mS 5 10] [0,1,5,7,8] (Zs [mS 11 1,mS 12 0,mS 13 5,xS 14 v0 12 13,lT 15 v0 14,.call 16 [] (.s 11) [.s 15]] [0,1,5,7,8,16] (.cond (.s 16) (Zs [mS 17 5,mS 4 17] [4] .ret) .skip))))
(pr [bC 18 .add 8 1,mS 8 18] [0,1,7,8])))))))
(Zs [.mv 4 (.c (.int .i64 (-1)))] [4] .ret)))
attribute [go_sem] Y16
def M10:MC:=Y16 9
theorem Cas(xs:List GVersion)(f:FuncId)(cs:List T)(p:GVersion→Bool)(hp:∀x,x∈xs→Ctr Tryz.prog f (aS (GVersion.enc x)::cs.map (fun t=>(false,[t]))) [rB (p x)]):Ctr Tryz.prog N14 [aL 9 (xs.map GVersion.enc),(false,[.fn f cs])] [rI (idxF p xs)]:=by
 refine cA M10 0 19 [(.tmp 4,[false])] Tryz.func344 rfl rfl ?_;unfold M10
 intro hb
 simp only[bdA,bdL,bdT,Ke,roomB,and_true,List.length_map]at hb
 obtain⟨⟨hl,-⟩,-⟩:=hb
 simp only[go_sem]
 refine K5 xs (fun k=>[(8,vI k)]) (fun k=>[]) (fun k=>(xs.take k).any p=false) hl ?_
 simp only[go_sem]
 refine⟨?_,by simp,?_,?_⟩
 ·simp only[go_sem]
 ·intro k x hx h h0 h1 hw
  simp only[go_sem,K4 hx,h0,h1]
  refine K0 (hp x (Km hx)) ?_
  simp only[go_sem,hw]
  exact⟨fun hn=>(K2w hx h hn).symm,fun hn=>K2v hx h hn⟩
 ·intro h
  simp only[go_sem]
  rw[List.take_length]at h
  rw[K37 h]
def Mp:MC:=Y15 N14
theorem C72(xs:List GVersion)(f:FuncId)(cs:List T)(p:GVersion→Bool)(hp:∀x,x∈xs→Ctr Tryz.prog f (aS (GVersion.enc x)::cs.map (fun t=>(false,[t]))) [rB (p x)]):Ctr Tryz.prog Nr [aL 9 (xs.map GVersion.enc),(false,[.fn f cs])] [rB (xs.any p)]:=by
 refine cA Mp 0 9 [(.tmp 4,[false])] Tryz.func267 rfl rfl ?_;unfold Mp
 intro hb
 clear hb
 simp only[go_sem]
 refine K0 (Cas xs f cs p hp) ?_
 simp only[go_sem]
 intros
 exact K64
def M1r:MC:=Y16 4
theorem Chj(xs:List GOp)(f:FuncId)(cs:List T)(p:GOp→Bool)(hp:∀x,x∈xs→Ctr Tryz.prog f (aS (GOp.enc x)::cs.map (fun t=>(false,[t]))) [rB (p x)]):Ctr Tryz.prog N1t [aL 4 (xs.map GOp.enc),(false,[.fn f cs])] [rI (idxF p xs)]:=by
 refine cA M1r 0 19 [(.tmp 4,[false])] Tryz.func353 rfl rfl ?_;unfold M1r
 intro hb
 simp only[bdA,bdL,bdT,Ke,roomB,and_true,List.length_map]at hb
 obtain⟨⟨hl,-⟩,-⟩:=hb
 simp only[go_sem]
 refine K5 xs (fun k=>[(8,vI k)]) (fun k=>[]) (fun k=>(xs.take k).any p=false) hl ?_
 simp only[go_sem]
 refine⟨?_,by simp,?_,?_⟩
 ·simp only[go_sem]
 ·intro k x hx h h0 h1 hw
  simp only[go_sem,K4 hx,h0,h1]
  refine K0 (hp x (Km hx)) ?_
  simp only[go_sem,hw]
  exact⟨fun hn=>(K2w hx h hn).symm,fun hn=>K2v hx h hn⟩
 ·intro h
  simp only[go_sem]
  rw[List.take_length]at h
  rw[K37 h]
def M1f:MC:=Y15 N1t
theorem Cdr(xs:List GOp)(f:FuncId)(cs:List T)(p:GOp→Bool)(hp:∀x,x∈xs→Ctr Tryz.prog f (aS (GOp.enc x)::cs.map (fun t=>(false,[t]))) [rB (p x)]):Ctr Tryz.prog N1g [aL 4 (xs.map GOp.enc),(false,[.fn f cs])] [rB (xs.any p)]:=by
 refine cA M1f 0 9 [(.tmp 4,[false])] Tryz.func292 rfl rfl ?_;unfold M1f
 intro hb
 clear hb
 simp only[go_sem]
 refine K0 (Chj xs f cs p hp) ?_
 simp only[go_sem]
 intros
 exact K64
def M19:MC:=Y16 5
theorem Cds(xs:List GEntry)(f:FuncId)(cs:List T)(p:GEntry→Bool)(hp:∀x,x∈xs→Ctr Tryz.prog f (aS (GEntry.enc x)::cs.map (fun t=>(false,[t]))) [rB (p x)]):Ctr Tryz.prog N1c [aL 5 (xs.map GEntry.enc),(false,[.fn f cs])] [rI (idxF p xs)]:=by
 refine cA M19 0 19 [(.tmp 4,[false])] Tryz.func362 rfl rfl ?_;unfold M19
 intro hb
 simp only[bdA,bdL,bdT,Ke,roomB,and_true,List.length_map]at hb
 obtain⟨⟨hl,-⟩,-⟩:=hb
 simp only[go_sem]
 refine K5 xs (fun k=>[(8,vI k)]) (fun k=>[]) (fun k=>(xs.take k).any p=false) hl ?_
 simp only[go_sem]
 refine⟨?_,by simp,?_,?_⟩
 ·simp only[go_sem]
 ·intro k x hx h h0 h1 hw
  simp only[go_sem,K4 hx,h0,h1]
  refine K0 (hp x (Km hx)) ?_
  simp only[go_sem,hw]
  exact⟨fun hn=>(K2w hx h hn).symm,fun hn=>K2v hx h hn⟩
 ·intro h
  simp only[go_sem]
  rw[List.take_length]at h
  rw[K37 h]
def M15:MC:=Y15 N1c
theorem C96(xs:List GEntry)(f:FuncId)(cs:List T)(p:GEntry→Bool)(hp:∀x,x∈xs→Ctr Tryz.prog f (aS (GEntry.enc x)::cs.map (fun t=>(false,[t]))) [rB (p x)]):Ctr Tryz.prog N17 [aL 5 (xs.map GEntry.enc),(false,[.fn f cs])] [rB (xs.any p)]:=by
 refine cA M15 0 9 [(.tmp 4,[false])] Tryz.func311 rfl rfl ?_;unfold M15
 intro hb
 clear hb
 simp only[go_sem]
 refine K0 (Cds xs f cs p hp) ?_
 simp only[go_sem]
 intros
 exact K64
def My:MC:=Y16 9
theorem Car(xs:List GCapture)(f:FuncId)(cs:List T)(p:GCapture→Bool)(hp:∀x,x∈xs→Ctr Tryz.prog f (aS (GCapture.enc x)::cs.map (fun t=>(false,[t]))) [rB (p x)]):Ctr Tryz.prog N13 [aL 9 (xs.map GCapture.enc),(false,[.fn f cs])] [rI (idxF p xs)]:=by
 refine cA My 0 19 [(.tmp 4,[false])] Tryz.func354 rfl rfl ?_;unfold My
 intro hb
 simp only[bdA,bdL,bdT,Ke,roomB,and_true,List.length_map]at hb
 obtain⟨⟨hl,-⟩,-⟩:=hb
 simp only[go_sem]
 refine K5 xs (fun k=>[(8,vI k)]) (fun k=>[]) (fun k=>(xs.take k).any p=false) hl ?_
 simp only[go_sem]
 refine⟨?_,by simp,?_,?_⟩
 ·simp only[go_sem]
 ·intro k x hx h h0 h1 hw
  simp only[go_sem,K4 hx,h0,h1]
  refine K0 (hp x (Km hx)) ?_
  simp only[go_sem,hw]
  exact⟨fun hn=>(K2w hx h hn).symm,fun hn=>K2v hx h hn⟩
 ·intro h
  simp only[go_sem]
  rw[List.take_length]at h
  rw[K37 h]
def Mo:MC:=Y15 N13
theorem C71(xs:List GCapture)(f:FuncId)(cs:List T)(p:GCapture→Bool)(hp:∀x,x∈xs→Ctr Tryz.prog f (aS (GCapture.enc x)::cs.map (fun t=>(false,[t]))) [rB (p x)]):Ctr Tryz.prog Nq [aL 9 (xs.map GCapture.enc),(false,[.fn f cs])] [rB (xs.any p)]:=by
 refine cA Mo 0 9 [(.tmp 4,[false])] Tryz.func295 rfl rfl ?_;unfold Mo
 intro hb
 clear hb
 simp only[go_sem]
 refine K0 (Car xs f cs p hp) ?_
 simp only[go_sem]
 intros
 exact K64
def Mz:MC:=Y16 4
theorem C3e(xs:List GLibrary)(f:FuncId)(cs:List T)(p:GLibrary→Bool)(hp:∀x,x∈xs→Ctr Tryz.prog f (aS (GLibrary.enc x)::cs.map (fun t=>(false,[t]))) [rB (p x)]):Ctr Tryz.prog Nc [aL 4 (xs.map GLibrary.enc),(false,[.fn f cs])] [rI (idxF p xs)]:=by
 refine cA Mz 0 19 [(.tmp 4,[false])] Tryz.func169 rfl rfl ?_;unfold Mz
 intro hb
 simp only[bdA,bdL,bdT,Ke,roomB,and_true,List.length_map]at hb
 obtain⟨⟨hl,-⟩,-⟩:=hb
 simp only[go_sem]
 refine K5 xs (fun k=>[(8,vI k)]) (fun k=>[]) (fun k=>(xs.take k).any p=false) hl ?_
 simp only[go_sem]
 refine⟨?_,by simp,?_,?_⟩
 ·simp only[go_sem]
 ·intro k x hx h h0 h1 hw
  simp only[go_sem,K4 hx,h0,h1]
  refine K0 (hp x (Km hx)) ?_
  simp only[go_sem,hw]
  exact⟨fun hn=>(K2w hx h hn).symm,fun hn=>K2v hx h hn⟩
 ·intro h
  simp only[go_sem]
  rw[List.take_length]at h
  rw[K37 h]
def M6:MC:=
(Zs [.mv 6 cF] [0,1,2] (.seq (Zs [mS 10 0,nS 11 10,mS 12 1,nS 13 12,bS 14 .neq 11 13] [0,1,2,14] (.cond (.s 14) (Zs [.mv 6 cF] [6] .ret) .skip))
(.seq (Zs [mS 15 0,nS 16 15,.mv 17 (ci 0)] [1,2,15,16,17] (.block 0 (.loop ([1,2,15,16,17],[0,1]) (Zs [bS 18 .lss 17 16] [1,2,15,16,17,18] (.seq (cX 18 0)
(.seq (.block 1 (Zs [mS 19 17,xS 20 4 15 17,lT 21 4 20,.alloc 8 0 [pz,.emp 1,.pl (.sc (.bool false)),.pl (.sc (.bool false))],mS 7 19,sS 4 8 21] [1,2,7,8,15,16,17] (Zs [mS 22 1,mS 23 7,xS 24 4 22 23,lT 25 4 24,.alloc 9 1 [pz,.emp 1,.pl (.sc (.bool false)),.pl (.sc (.bool false))],sS 4 9 25] [1,2,8,9,15,16,17] (Zs [mS 26 2,lT 27 4 8,lT 28 4 9,.call 29 [] (.s 26) [.s 27,.s 28],.un 30 .not (.s 29)] [1,2,15,16,17,30] (.cond (.s 30) (Zs [.mv 6 cF] [6] .ret) .skip)))))
(pr [bC 31 .add 17 1,mS 17 31] [1,2,15,16,17])))))))
(Zs [.mv 6 cT] [6] .ret))))
theorem Caq(xs ys:List GLibrary)(f:FuncId)(cs:List T)(p:GLibrary→GLibrary→Bool)(hp:∀x y,x∈xs→y∈ys→Ctr Tryz.prog f (aS (GLibrary.enc x)::aS (GLibrary.enc y)::cs.map (fun t=>(false,[t]))) [rB (p x y)]):Ctr Tryz.prog N7 [aL 4 (xs.map GLibrary.enc),aL 4 (ys.map GLibrary.enc),(false,[.fn f cs])] [rB (eqF p xs ys)]:=by
 refine cA M6 2 32 [(.tmp 6,[false])] Tryz.func275 rfl rfl ?_;unfold M6
 intro hb
 simp only[bdA,bdL,bdT,Ke,roomB,and_true,List.length_map]at hb
 obtain⟨⟨hl,-⟩,⟨hl2,-⟩,-⟩:=hb
 simp only[go_sem]
 refine⟨fun h=>eqF_len h,fun h=>?_⟩
 have hle:xs.length=ys.length:=by omega
 refine K5 xs (fun k=>[(17,vI k)]) (fun k=>[]) (fun k=>eqF p (xs.take k) (ys.take k)=true) hl ?_
 simp only[go_sem]
 refine⟨?_,rfl,?_,?_⟩
 ·simp only[go_sem]
 ·intro k x hx he h0 h1 hw
  obtain⟨y,hy⟩:=Kb (show k<ys.length by omega)
  have h2:(k:Int)<ys.length:=by omega
  simp only[go_sem,K4 hx,K4 hy,h0,h1,h2]
  refine K0 (hp x y (Km hx) (Km hy)) ?_
  simp only[go_sem,hw]
  exact⟨fun hn=>Kc0 hx hy hn,fun hn=>by rw[Kd1 hx hy he];exact hn⟩
 ·intro he
  simp only[go_sem]
  exact eqF_all he hle
def Mk:MC:=Y16 4
theorem C8r(xs:List GContainer)(f:FuncId)(cs:List T)(p:GContainer→Bool)(hp:∀x,x∈xs→Ctr Tryz.prog f (aS (GContainer.enc x)::cs.map (fun t=>(false,[t]))) [rB (p x)]):Ctr Tryz.prog Nn [aL 4 (xs.map GContainer.enc),(false,[.fn f cs])] [rI (idxF p xs)]:=by
 refine cA Mk 0 19 [(.tmp 4,[false])] Tryz.func233 rfl rfl ?_;unfold Mk
 intro hb
 simp only[bdA,bdL,bdT,Ke,roomB,and_true,List.length_map]at hb
 obtain⟨⟨hl,-⟩,-⟩:=hb
 simp only[go_sem]
 refine K5 xs (fun k=>[(8,vI k)]) (fun k=>[]) (fun k=>(xs.take k).any p=false) hl ?_
 simp only[go_sem]
 refine⟨?_,by simp,?_,?_⟩
 ·simp only[go_sem]
 ·intro k x hx h h0 h1 hw
  simp only[go_sem,K4 hx,h0,h1]
  refine K0 (hp x (Km hx)) ?_
  simp only[go_sem,hw]
  exact⟨fun hn=>(K2w hx h hn).symm,fun hn=>K2v hx h hn⟩
 ·intro h
  simp only[go_sem]
  rw[List.take_length]at h
  rw[K37 h]
def Mh:MC:=Y15 Nn
theorem C2d(xs:List GContainer)(f:FuncId)(cs:List T)(p:GContainer→Bool)(hp:∀x,x∈xs→Ctr Tryz.prog f (aS (GContainer.enc x)::cs.map (fun t=>(false,[t]))) [rB (p x)]):Ctr Tryz.prog N8 [aL 4 (xs.map GContainer.enc),(false,[.fn f cs])] [rB (xs.any p)]:=by
 refine cA Mh 0 9 [(.tmp 4,[false])] Tryz.func121 rfl rfl ?_;unfold Mh
 intro hb
 clear hb
 simp only[go_sem]
 refine K0 (C8r xs f cs p hp) ?_
 simp only[go_sem]
 intros
 exact K64
def M1j:MC:=
(Zs [.mv 4 cF] [0,1] (.seq (Zs [mS 6 0,nS 7 6,mS 8 1,nS 9 8,bS 10 .neq 7 9] [0,1,10] (.cond (.s 10) (Zs [.mv 4 cF] [4] .ret) .skip))
(.seq (Zs [mS 11 0,nS 12 11,.mv 13 (ci 0)] [0,1,12,13] (.block 0 (.loop ([0,1,12,13],[]) (Zs [bS 14 .lss 13 12] [0,1,12,13,14] (.seq (cX 14 0)
(.seq (.block 1 (Zs [mS 15 13,mS 5 15] [0,1,5,12,13] (.seq (.dreg [Zc [17,20,21,22,23] (mS 16 0),Zc [16,20,21,22,23] (mS 17 5),Zd [20,21,22,23] [0,1] (xS 18 6 16 17),Zd [20,21,22,23] [0,1,2] (lT 19 6 18),Zc [16,17,18,19,21] (mS 20 1),Zc [16,17,18,19,20] (mS 21 5),Zd [16,17,18,19] [4,5] (xS 22 6 20 21),Zd [16,17,18,19] [4,5,6] (lT 23 6 22),Ze (.range 8) (.eqA 24 true [.i .i64,.i .i64,.i .i64,.i .i64,.i .i64,.i .i64] (.s 19) (.s 23))] [0,1,12,13,24])
(.cond (.s 24) (Zs [.mv 4 cF] [4] .ret) .skip))))
(pr [bC 25 .add 13 1,mS 13 25] [0,1,12,13])))))))
(Zs [.mv 4 cT] [4] .ret))))
theorem C6b(xs ys:List GFound):Ctr Tryz.prog Nm [aL 6 (xs.map GFound.enc),aL 6 (ys.map GFound.enc)] [rB (decide (xs=ys))]:=by
 refine cA M1j 0 26 [(.tmp 4,[false])] Tryz.func123 rfl rfl ?_;unfold M1j
 intro hb
 simp only[bdA,bdL,bdT,Ke,roomB,and_true,List.length_map]at hb
 obtain⟨⟨hl,-⟩,⟨hl2,-⟩⟩:=hb
 simp only[go_sem]
 refine⟨fun h=>K30 h,fun h=>?_⟩
 have hle:xs.length=ys.length:=by omega
 refine K5 xs (fun k=>[(13,vI k)]) (fun k=>[]) (fun k=>xs.take k=ys.take k) hl ?_
 simp only[go_sem]
 refine⟨?_,rfl,?_,?_⟩
 ·simp only[go_sem]
 ·intro k x hx he h0 h1 hw
  obtain⟨y,hy⟩:=Kb (show k<ys.length by omega)
  have h2:(k:Int)<ys.length:=by omega
  simp only[go_sem,K4 hx,K4 hy,h0,h1,h2,hw,eqB]
  exact⟨fun hn=>K33 hx hy (by rintro rfl;simp at hn),fun hn=>(K11 hx hy he).2 (by exact GFound.eqv.2 (by simpa using hn))⟩
 ·intro he
  simp only[go_sem]
  exact K2z he hle
end Go.Proofs.YtjneccbpkckdfaaGreatR
namespace Go.Proofs.YtjneccbpkckdfaaGreatR
open Go Go.RowKit Go.Proofs
open Nat (reduceEqDiff reduceLT reduceLeDiff reduceAdd reduceMul)
open List (reduceReplicate)
attribute [go_sem] eqB
def Mn3:MC:=
(Zs [.mv 6 cF] [0,1,2] (.seq (.reg [Za (mS 7 0),Za (mS 8 1),Za (bS 9 .geq 7 8),Za (mS 10 9),Zb 10 true (mS 11 0),Zb 10 true (mS 12 2),Zb 10 true (bS 13 .leq 11 12),Za (.pick 14 (.s 10) (.s 13) cF),Za (mS 6 14)] [6])
.ret))
theorem C3(x a b:Int):Ctr Tryz.prog N0 [aI x,aI a,aI b] [rB (decide (a≤x∧x≤b))]:=by
 refine cA Mn3 0 15 [(.tmp 6,[false])] Tryz.func151 rfl rfl ?_;unfold Mn3
 intro hb
 clear hb
 simp only[go_sem]
 exact⟨fun h=>by simp[h],fun h=>by simp;omega⟩
def Moq:MC:=
(Zs [.mv 4 cF] [0,1] (.seq (.reg [Za (mS 5 0),Za (bC 6 .geq 5 0),Za (mS 7 6),Zb 7 true (mS 8 0),Zb 7 true (mS 9 1),Zb 7 true (bS 10 .lss 8 9),Za (.pick 11 (.s 7) (.s 10) cF),Za (mS 4 11)] [4])
.ret))
theorem Cpb(x n:Int):Ctr Tryz.prog N60 [aI x,aI n] [rB (decide (0≤x∧x<n))]:=by
 refine cA Moq 0 12 [(.tmp 4,[false])] Tryz.func284 rfl rfl ?_;unfold Moq
 intro hb
 clear hb
 simp only[go_sem]
 exact⟨fun h=>by simp[h],fun h=>by simp;omega⟩
def Mho:MC:=
(Zs [.mv 6 cF] [0,1,2] (.seq (.reg [Za (mS 7 1),Za (mS 8 0),Za (bS 9 .leq 7 8),Za (mS 10 9),Zb 10 true (mS 11 0),Zb 10 true (mS 12 2),Zb 10 true (bS 13 .leq 11 12),Za (.pick 14 (.s 10) (.s 13) cF),Za (mS 6 14)] [6])
.ret))
theorem C2(x a b:Int):Ctr Tryz.prog N1 [aI x,aI a,aI b] [rB (decide (a≤x∧x≤b))]:=by
 refine cA Mho 0 15 [(.tmp 6,[false])] Tryz.func173 rfl rfl ?_;unfold Mho
 intro hb
 clear hb
 simp only[go_sem]
 exact⟨fun h=>by simp[h],fun h=>by simp;omega⟩
def K21(l:List Int)(a b:Int):Bool:=l.all fun x=>decide (a≤x∧x≤b)
theorem K3l{α:Type}{p:α→Bool}{l:List α}{k:Nat}{x:α}(hx:l[k]? =some x)(h:(l.take k).all p=true)(hn:p x=true):(l.take (k+1)).all p=true:=by
 rw[Kc hx,List.all_append,h];simp[hn]
theorem K95{α:Type}{p:α→Bool}{l:List α}{k:Nat}{x:α}(hx:l[k]? =some x)(hn:p x=false):false=l.all p:=by
 symm;rw[List.all_eq_false];exact⟨x,Km hx,by simp[hn]⟩
def Mli:MC:=
(Zs [.mv 6 cF] [0,1,2] (.seq (Zs [mS 9 0,nS 10 9,.mv 11 (ci 0)] [1,2,9,10,11] (.block 0 (.loop ([1,2,9,10,11],[]) (Zs [bS 12 .lss 11 10] [1,2,9,10,11,12] (.seq (cX 12 0)
(.seq (.block 1 (Zs [xS 13 1 9 11,lF 14 1 13,mS 8 14] [1,2,8,9,10,11] (Zs [mS 15 8,mS 16 1,mS 17 2,.call 18 [] (.f N1) [.s 15,.s 16,.s 17],.un 19 .not (.s 18)] [1,2,9,10,11,19] (.cond (.s 19) (Zs [.mv 6 cF] [6] .ret) .skip))))
(pr [bC 20 .add 11 1,mS 11 20] [1,2,9,10,11])))))))
(Zs [.mv 6 cT] [6] .ret)))
theorem C68(l:List Int)(a b:Int):Ctr Tryz.prog N30 [aL 1 (l.map encI),aI a,aI b] [rB (K21 l a b)]:=by
 refine cA Mli 0 21 [(.tmp 6,[false])] Tryz.func258 rfl rfl ?_;unfold Mli
 intro hb
 simp only[bdA,bdL,bdT,Ke,K10,roomB,and_true,List.length_map]at hb
 obtain⟨⟨hl,-⟩,-⟩:=hb
 simp only[go_sem]
 refine K5 l (fun k=>[(11,vI k)]) (fun k=>[]) (fun k=>((l.take k).all fun x=>decide (a≤x∧x≤b))=true) hl ?_
 simp only[go_sem]
 refine⟨?_,by simp,?_,?_⟩
 ·simp only[go_sem]
 ·intro k x hx h h0 h1 hw
  simp only[go_sem,K4 hx,h0,h1]
  refine K0 (C2 _ _ _) ?_
  simp only[go_sem,hw]
  exact⟨fun hn=>K95 hx (by simpa using hn),fun hn=>K3l hx h (by simpa using hn)⟩
 ·intro h
  simp only[go_sem]
  rw[List.take_length]at h
  exact h.symm
def Mie:MC:=
(Zs [.mv 2 cF] [0] (.seq (Zs [.mv 3 (ci 0)] [0,3] (.block 0 (.loop ([0,3],[]) (.seq (Zs [mS 4 3,mS 5 0,nS 6 5,bS 7 .lss 4 6] [0,3,7] (cX 7 0))
(.seq (.block 1 (Zs [mS 10 0,mS 11 3,xS 12 1 10 11,lF 13 1 12,.call 14 [] (.f N0) [.s 13,.c (.int .i64 0),.c (.int .i64 255)],.un 15 .not (.s 14)] [0,3,15] (.cond (.s 15) (Zs [.mv 2 cF] [2] .ret) .skip)))
(pr [mS 8 3,bC 9 .add 8 1,mS 3 9] [0,3]))))))
(Zs [.mv 2 cT] [2] .ret)))
theorem Cop(l:List Int):Ctr Tryz.prog Nir [aL 1 (l.map encI)] [rB (K21 l 0 255)]:=by
 refine cA Mie 0 16 [(.tmp 2,[false])] Tryz.func332 rfl rfl ?_;unfold Mie
 intro hb
 simp only[bdA,bdL,bdT,Ke,roomB,and_true,List.length_map]at hb
 obtain⟨hl,-⟩:=hb
 simp only[go_sem]
 refine K5 l (fun k=>[(3,vI k)]) (fun k=>[]) (fun k=>((l.take k).all fun x=>decide (0≤x∧x≤255))=true) hl ?_
 simp only[go_sem]
 refine⟨?_,by simp,?_,?_⟩
 ·simp only[go_sem]
 ·intro k x hx h h0 h1 hw
  simp only[go_sem,K4 hx,h0,h1]
  refine K0 (C3 _ _ _) ?_
  simp only[go_sem,hw]
  exact⟨fun hn=>K95 hx (by simpa using hn),fun hn=>K3l hx h (by simpa using hn)⟩
 ·intro h
  simp only[go_sem]
  rw[List.take_length]at h
  exact h.symm
def K3q(a:GAddress):Bool:=decide (1≤a.Host∧a.Host≤9)&&(decide (0≤a.Path∧a.Path≤99)&&decide (0≤a.Query∧a.Query≤99))
def Y17(v0:Nat):MC:=
(Zs [.box 1 0 (.s 0),.mv 2 cF] [1] (.seq (.reg [Za (fS 3 1 0),Za (lF 4 1 3),Za (.call 5 [] (.f v0) [.s 4,.c (.int .i64 1),.c (.int .i64 9)]),Za (mS 6 5),Zb 6 true (fS 7 1 1),Zb 6 true (lF 8 1 7),Zb 6 true (.call 9 [] (.f v0) [.s 8,.c (.int .i64 0),.c (.int .i64 99)]),Za (.pick 10 (.s 6) (.s 9) cF),Za (mS 11 10),Zb 11 true (fS 12 1 2),Zb 11 true (lF 13 1 12),Zb 11 true (.call 14 [] (.f v0) [.s 13,.c (.int .i64 0),.c (.int .i64 99)]),Za (.pick 15 (.s 11) (.s 14) cF),Za (mS 2 15)] [2])
.ret))
attribute [go_sem] Y17
def Mdv:MC:=Y17 N1
theorem C35(a:GAddress):Ctr Tryz.prog N3b [aS a.enc] [rB (K3q a)]:=by
 refine cA Mdv 1 16 [(.tmp 2,[false])] Tryz.func269 rfl rfl ?_;unfold Mdv
 intro hb
 clear hb
 simp only[go_sem]
 refine K0 (C2 _ _ _) ?_
 simp only[go_sem]
 refine⟨fun h=>?_,fun h=>by unfold K3q;rw[decide_eq_false h];rfl⟩
 refine K0 (C2 _ _ _) ?_
 simp only[go_sem]
 refine⟨fun h2=>?_,fun h2=>by unfold K3q;rw[decide_eq_false h2];simp⟩
 refine K0 (C2 _ _ _) ?_
 simp only[go_sem]
 unfold K3q;rw[decide_eq_true h,decide_eq_true h2];rfl
def Mel:MC:=Y17 N0
theorem C38(a:GAddress):Ctr Tryz.prog N2b [aS a.enc] [rB (K3q a)]:=by
 refine cA Mel 1 16 [(.tmp 2,[false])] Tryz.func250 rfl rfl ?_;unfold Mel
 intro hb
 clear hb
 simp only[go_sem]
 refine K0 (C3 _ _ _) ?_
 simp only[go_sem]
 refine⟨fun h=>?_,fun h=>by unfold K3q;rw[decide_eq_false h];rfl⟩
 refine K0 (C3 _ _ _) ?_
 simp only[go_sem]
 refine⟨fun h2=>?_,fun h2=>by unfold K3q;rw[decide_eq_false h2];simp⟩
 refine K0 (C3 _ _ _) ?_
 simp only[go_sem]
 unfold K3q;rw[decide_eq_true h,decide_eq_true h2];rfl
def K2m(a:GAddress):Bool:=a.Host==0&&(a.Path==0&&a.Query==0)
def K1f(r:GResource):Bool:=
 if r.Kind=1∨r.Kind=2 then decide (r.Body.length≤6)&&(K21 r.Body 0 255&&K2m r.To)
 else if r.Kind=3 then decide (r.Body.length=0)&&K3q r.To
 else if r.Kind=4 then decide (r.Body.length=0)&&K2m r.To else false
def Mbd:MC:=
(Zs [.box 1 0 (.s 0),.mv 2 cF] [1] (.seq (Zs [fS 3 1 0,lF 4 1 3] [1,4] (.block 0 (.seq (Zs [bC 6 .eql 4 1,mS 5 6] [1,4,5] (.cond (.s 5) .skip (pr [bC 7 .eql 4 2,mS 5 7] [1,4,5])))
(.cond (.s 5) (.seq (.reg [Za (fS 8 1 1),Za (lF 9 1 8),Za (nS 10 9),Za (bC 11 .leq 10 6),Za (mS 12 11),Zb 12 true (fS 13 1 1),Zb 12 true (lF 14 1 13),Zb 12 true (.call 15 [] (.f N30) [.s 14,.c (.int .i64 0),.c (.int .i64 255)]),Za (.pick 16 (.s 12) (.s 15) cF),Za (mS 17 16),Zb 17 true (fS 18 1 2),Zb 17 true (lT 19 3 18),Zb 17 true (.build 20 [pz,pz,pz] []),Zb 17 true (.eqA 21 false [.i .i64,.i .i64,.i .i64] (.s 19) (.s 20)),Za (.pick 22 (.s 17) (.s 21) cF),Za (mS 2 22)] [2])
.ret) (Zs [bC 24 .eql 4 3,mS 23 24] [1,4,23] (.cond (.s 23) (.seq (.reg [Za (fS 25 1 1),Za (lF 26 1 25),Za (nS 27 26),Za (bC 28 .eql 27 0),Za (mS 29 28),Zb 29 true (fS 30 1 2),Zb 29 true (lT 31 3 30),Zb 29 true (.call 32 [] (.f N3b) [.s 31]),Za (.pick 33 (.s 29) (.s 32) cF),Za (mS 2 33)] [2])
.ret) (Zs [bC 35 .eql 4 4,mS 34 35] [1,34] (.cond (.s 34) (.seq (.reg [Za (fS 36 1 1),Za (lF 37 1 36),Za (nS 38 37),Za (bC 39 .eql 38 0),Za (mS 40 39),Zb 40 true (fS 41 1 2),Zb 40 true (lT 42 3 41),Zb 40 true (.build 43 [pz,pz,pz] []),Zb 40 true (.eqA 44 false [.i .i64,.i .i64,.i .i64] (.s 42) (.s 43)),Za (.pick 45 (.s 40) (.s 44) cF),Za (mS 2 45)] [2])
.ret) .skip))))))))
(Zs [.mv 2 cF] [2] .ret)))
theorem C4s(r:GResource):Ctr Tryz.prog N4x [aS r.enc] [rB (K1f r)]:=by
 refine cA Mbd 1 46 [(.tmp 2,[false])] Tryz.func270 rfl rfl ?_;unfold Mbd
 intro hb
 clear hb
 have hcase:r.Kind=1∨r.Kind=2∨r.Kind=3∨r.Kind=4∨(¬r.Kind=1∧¬r.Kind=2∧¬r.Kind=3∧¬r.Kind=4):=by omega
 rcases hcase with hk|hk|hk|hk|⟨h1,h2,h3,h4⟩
 ·simp only[go_sem,hk]
  refine⟨fun h=>?_,fun h=>?_⟩
  ·have h':r.Body.length≤6:=by omega
   refine K0 (C68 _ _ _) ?_
   simp only[go_sem]
   exact⟨fun h2=>by simp[K1f,K2m,hk,h2,h'],fun h2=>by simp[K1f,K2m,hk,h2]⟩
  ·have h':¬r.Body.length≤6:=by omega
   simp[K1f,K2m,hk,h']
 ·simp only[go_sem,hk,Int.reduceEq]
  refine⟨fun h=>?_,fun h=>?_⟩
  ·have h':r.Body.length≤6:=by omega
   refine K0 (C68 _ _ _) ?_
   simp only[go_sem]
   exact⟨fun h2=>by simp[K1f,K2m,hk,h2,h'],fun h2=>by simp[K1f,K2m,hk,h2]⟩
  ·have h':¬r.Body.length≤6:=by omega
   simp[K1f,K2m,hk,h']
 ·simp only[go_sem,hk,Int.reduceEq]
  refine⟨fun h=>?_,fun h=>?_⟩
  ·have h':r.Body.length=0:=by omega
   refine K0 (C35 r.To) ?_
   simp only[go_sem]
   simp[K1f,hk,h']
  ·have h':¬r.Body.length=0:=by omega
   unfold K1f
   rw[if_neg (by omega),if_pos hk,decide_eq_false h']
   rfl
 ·simp only[go_sem,hk,Int.reduceEq]
  refine⟨fun h=>?_,fun h=>?_⟩
  ·have h':r.Body.length=0:=by omega
   unfold K1f
   rw[if_neg (by omega),if_neg (by omega),if_pos hk,decide_eq_true h']
   simp[K2m]
  ·have h':¬r.Body.length=0:=by omega
   unfold K1f
   rw[if_neg (by omega),if_neg (by omega),if_pos hk,decide_eq_false h']
   rfl
 ·simp only[go_sem,h1,h2,h3,h4]
  unfold K1f
  rw[if_neg (by omega),if_neg (by omega),if_neg (by omega)]
def Mc8:MC:=
(Zs [.box 1 0 (.s 0),.mv 2 cF] [1] (.seq (.seq (.reg [Za (fS 3 1 0),Za (lF 4 1 3),Za (.call 5 [] (.f N0) [.s 4,.c (.int .i64 1),.c (.int .i64 4)]),Za (.un 6 .not (.s 5)),Za (mS 7 6),Zb 7 false (fS 8 1 1),Zb 7 false (lF 9 1 8),Zb 7 false (.call 10 [] (.f Nir) [.s 9]),Zb 7 false (.un 11 .not (.s 10)),Za (.pick 12 (.s 7) cT (.s 11)),Za (mS 13 12),Zb 13 false (fS 14 1 1),Zb 13 false (lF 15 1 14),Zb 13 false (nS 16 15),Zb 13 false (bC 17 .gtr 16 6),Za (.pick 18 (.s 13) cT (.s 17))] [1,18])
(.cond (.s 18) (Zs [.mv 2 cF] [2] .ret) .skip))
(.seq (Zs [fS 19 1 0,lF 20 1 19,bC 21 .eql 20 3] [1,21] (.cond (.s 21) (.seq (.reg [Za (fS 22 1 2),Za (lT 23 3 22),Za (.call 24 [] (.f N2b) [.s 23]),Za (mS 25 24),Zb 25 true (fS 26 1 1),Zb 25 true (lF 27 1 26),Zb 25 true (nS 28 27),Zb 25 true (bC 29 .eql 28 0),Za (.pick 30 (.s 25) (.s 29) cF),Za (mS 2 30)] [2])
.ret) .skip))
(.seq (.reg [Za (fS 31 1 2),Za (lT 32 3 31),Za (.build 33 [pz,pz,pz] []),Za (.eqA 34 false [.i .i64,.i .i64,.i .i64] (.s 32) (.s 33)),Za (mS 35 34),Zb 35 true (fS 36 1 0),Zb 35 true (lF 37 1 36),Zb 35 true (bC 38 .neq 37 4),Zb 35 true (mS 39 38),Zb 39 false (fS 40 1 1),Zb 39 false (lF 41 1 40),Zb 39 false (nS 42 41),Zb 39 false (bC 43 .eql 42 0),Zb 35 true (.pick 44 (.s 39) cT (.s 43)),Za (.pick 45 (.s 35) (.s 44) cF),Za (mS 2 45)] [2])
.ret))))
theorem C4u(r:GResource):Ctr Tryz.prog N2w [aS r.enc] [rB (K1f r)]:=by
 refine cA Mc8 1 46 [(.tmp 2,[false])] Tryz.func251 rfl rfl ?_;unfold Mc8
 intro hb
 clear hb
 simp only[go_sem]
 refine K0 (C3 _ _ _) ?_
 simp only[go_sem]
 refine⟨fun h=>?_,fun h=>?_⟩
 ·unfold K1f
  rw[if_neg (by omega),if_neg (by omega),if_neg (by omega)]
 ·refine K0 (Cop r.Body) ?_
  simp only[go_sem]
  refine⟨fun ha=>?_,fun ha=>⟨fun hl=>?_,fun hl=>⟨fun hk=>?_,fun hk=>?_⟩⟩⟩
  ·have h0:¬r.Body.length=0:=fun e=>by
    rw[List.eq_nil_of_length_eq_zero e]at ha
    simp[K21]at ha
   simp[K1f,ha,h0]
  ·have h0:¬r.Body.length=0:=by omega
   have h1:¬r.Body.length≤6:=by omega
   simp[K1f,h0,h1]
  ·refine K0 (C38 r.To) ?_
   simp only[go_sem]
   refine⟨fun hi=>?_,fun hi=>by simp[K1f,hk,hi]⟩
   unfold K1f
   rw[if_neg (by omega),if_pos hk,hi,Bool.and_true,Bool.eq_iff_iff]
   simp
  ·have h1:r.Body.length≤6:=by omega
   refine⟨fun ht=>?_,fun ht=>?_⟩
   ·have hn:K2m r.To=true:=by
     unfold K2m
     exact(Bool.eq_false_or_eq_true _).resolve_right fun e=>ht e.symm
    refine⟨fun k4=>?_,fun k4=>?_⟩
    ·unfold K1f
     rw[if_pos (by omega),ha,hn,decide_eq_true h1]
     rfl
    ·unfold K1f
     rw[if_neg (by omega),if_neg hk,if_pos k4,hn,Bool.and_true,Bool.eq_iff_iff]
     simp
   ·have hn:K2m r.To=false:=ht.symm
    unfold K1f
    rw[hn,if_neg hk]
    split
    ·simp
    ·split<;>simp
end Go.Proofs.YtjneccbpkckdfaaGreatR
namespace Go.Proofs.YtjneccbpkckdfaaGreatR
open Go Go.RowKit Go.Proofs
open Nat (reduceEqDiff reduceLT reduceLeDiff reduceAdd reduceMul)
open List (reduceReplicate)
def Y18(v0:Nat)(v1:Nat):MC:=
(Zs [.nilo 2 0 v0] [0] (.seq (.condN 3 4 (.s 0) (Zs [.nilo 2 0 v0] [2] .ret) .skip)
(Zs [.lit 5 0 v0 v1 [],mS 6 0,.app 7 0 v0 v1 (.s 5) (.s 6),mS 2 7] [2] .ret)))
attribute [go_sem] Y18
def M50:MC:=Y18 1 8
theorem Ca(xs:List Int)(hs:xs.length≤1073741824):Ctr Tryz.prog N4 [aL 1 (xs.map encI)] [rL 1 (xs.map encI)]:=by
 refine cA M50 1 8 [(.tmp 2,[true])] Tryz.func177 rfl rfl ?_;unfold M50
 intro hb
 clear hb
 simp only[go_sem,↓Ko (f:=encI) (fun _=>rfl) xs]
 refine⟨fun h=>?_,?_⟩
 ·rw[h]
 ·simp only[roomB]
  first|done|omega|(refine⟨?_,?_⟩<;>first|omega|simp)
def M2h:MC:=Y18 4 32
theorem C4t(xs:List GOp)(hs:xs.length≤1073741824):Ctr Tryz.prog Ni [aL 4 (xs.map GOp.enc)] [rL 4 (xs.map GOp.enc)]:=by
 refine cA M2h 1 8 [(.tmp 2,[true])] Tryz.func174 rfl rfl ?_;unfold M2h
 intro hb
 clear hb
 simp only[go_sem,↓Ko (f:=GOp.enc) (fun _=>rfl) xs]
 refine⟨fun h=>?_,?_⟩
 ·rw[h]
 ·simp only[roomB]
  first|done|omega|(refine⟨?_,?_⟩<;>first|omega|simp)
def M1h:MC:=Y18 5 40
theorem C6a(xs:List GEntry)(hs:xs.length≤1073741824):Ctr Tryz.prog Nl [aL 5 (xs.map GEntry.enc)] [rL 5 (xs.map GEntry.enc)]:=by
 refine cA M1h 1 8 [(.tmp 2,[true])] Tryz.func231 rfl rfl ?_;unfold M1h
 intro hb
 clear hb
 simp only[go_sem,↓Ko (f:=GEntry.enc) (fun _=>rfl) xs]
 refine⟨fun h=>?_,?_⟩
 ·rw[h]
 ·simp only[roomB]
  first|done|omega|(refine⟨?_,?_⟩<;>first|omega|simp)
def Mw:MC:=Y18 5 40
theorem Cdp(xs:List GExclusion)(hs:xs.length≤1073741824):Ctr Tryz.prog N11 [aL 5 (xs.map GExclusion.enc)] [rL 5 (xs.map GExclusion.enc)]:=by
 refine cA Mw 1 8 [(.tmp 2,[true])] Tryz.func175 rfl rfl ?_;unfold Mw
 intro hb
 clear hb
 simp only[go_sem,↓Ko (f:=GExclusion.enc) (fun _=>rfl) xs]
 refine⟨fun h=>?_,?_⟩
 ·rw[h]
 ·simp only[roomB]
  first|done|omega|(refine⟨?_,?_⟩<;>first|omega|simp)
def Mx:MC:=Y18 4 32
theorem Cdq(xs:List GStatement)(hs:xs.length≤1073741824):Ctr Tryz.prog N12 [aL 4 (xs.map GStatement.enc)] [rL 4 (xs.map GStatement.enc)]:=by
 refine cA Mx 1 8 [(.tmp 2,[true])] Tryz.func178 rfl rfl ?_;unfold Mx
 intro hb
 clear hb
 simp only[go_sem,↓Ko (f:=GStatement.enc) (fun _=>rfl) xs]
 refine⟨fun h=>?_,?_⟩
 ·rw[h]
 ·simp only[roomB]
  first|done|omega|(refine⟨?_,?_⟩<;>first|omega|simp)
def M1i:MC:=Y18 6 48
theorem Ciw(xs:List GFound)(hs:xs.length≤1073741824):Ctr Tryz.prog N1l [aL 6 (xs.map GFound.enc)] [rL 6 (xs.map GFound.enc)]:=by
 refine cA M1i 1 8 [(.tmp 2,[true])] Tryz.func228 rfl rfl ?_;unfold M1i
 intro hb
 clear hb
 simp only[go_sem,↓Ko (f:=GFound.enc) (fun _=>rfl) xs]
 refine⟨fun h=>?_,?_⟩
 ·rw[h]
 ·simp only[roomB]
  first|done|omega|(refine⟨?_,?_⟩<;>first|omega|simp)
end Go.Proofs.YtjneccbpkckdfaaGreatR
namespace Go.Proofs.YtjneccbpkckdfaaGreatR
open Go Go.RowKit Go.Proofs
open Nat (reduceEqDiff reduceLT reduceLeDiff reduceAdd reduceMul)
open List (reduceReplicate)
def M7i:MC:=
(Zs [.box 1 0 (.s 0),.alloc 2 1 [pz,.emp 1,pz,pz,pz]] [1,2] (Zs [fS 3 1 1,lF 4 1 3,.call 5 [2] (.f N4) [.s 4],fS 6 1 1,sS 1 6 5] [1,2] (Zs [lT 7 5 1,sS 5 2 7] [2] .ret)))
theorem C3n(r:GResource)(hs:r.Body.length≤1073741824):Ctr Tryz.prog N3r [aS r.enc] [rS r.enc]:=by
 refine cA M7i 3 8 [(.cell 2 true 5,[false,true,false,false,false])] Tryz.func266 rfl rfl ?_;unfold M7i
 intro hb
 clear hb
 simp only[go_sem]
 refine K0 (Ca r.Body hs) ?_
 simp only[go_sem]
 try intros
 try trivial
def Mjw:MC:=
(Zs [.box 1 0 (.s 0),.alloc 2 1 [pz,.emp 1,pz,pz,pz]] [1,2] (.seq (.dreg [Zf [5,6,7,8,9,10] [2] (fS 3 1 0),Zg [5,6,7,8,9,10] [2] [0] (lF 4 1 3),{o:= .lit 5 2 1 8 [],hs:=[3,4,6,7,9,10],ws:=[2]},Zf [3,4,5,9,10] [2] (fS 6 1 1),Zg [3,4,5,9,10] [2] [3] (lF 7 1 6),{o:= .app 8 2 1 8 (.s 5) (.s 7),hs:=[3,4,9,10],ws:=[2],bf:=[2,3,4]},Zf [3,4,5,6,7,8] [2] (fS 9 1 2),Zg [3,4,5,6,7,8] [2] [6] (lT 10 3 9),Ze (.range 8) (.build 11 [pz,.emp 1,pz,pz,pz] [(0,1,.s 4),(1,1,.s 8),(2,3,.s 10)]),{o:=sS 5 2 11,ws:=[1,2],bf:=(.range 9)}] [2])
.ret))
theorem Cau(r:GResource)(hs:r.Body.length≤1073741824):Ctr Tryz.prog Nb1 [aS r.enc] [rS r.enc]:=by
 refine cA Mjw 3 12 [(.cell 2 true 5,[false,true,false,false,false])] Tryz.func249 rfl rfl ?_;unfold Mjw
 intro hb
 clear hb
 simp only[go_sem,↓Ko (f:=encI) (fun _=>rfl) r.Body]
 simp only[roomB]
 omega
def Y19:MC:=
(Zs [.nilo 2 0 9] [0] (Zs [.nilo 3 0 9] [0,3] (.seq (Zs [mS 6 0,nS 7 6,.mv 8 (ci 0)] [3,6,7,8] (.block 0 (.loop ([3,6,7,8],[1,2,3]) (Zs [bS 9 .lss 8 7] [3,6,7,8,9] (.seq (cX 9 0)
(.seq (.block 1 (Zs [xS 10 9 6 8,lT 11 9 10,.alloc 5 1 [pz,pz,pz,pz,pz,.emp 1,pz,pz,pz],sS 9 5 11] [3,5,6,7,8] (.dreg [Zf [13,14,15,16,17,18,19,20,21] [2,3] (mS 12 3),Zf [12,15,16,17,18,19] [2] (fS 13 5 0),Zg [12,15,16,17,18,19] [2] [1] (lT 14 3 13),Zf [12,13,14,17,18,19] [2] (fS 15 5 3),Zg [12,13,14,17,18,19] [2] [3] (lF 16 1 15),Zc [12,13,14,15,16] (fS 17 5 4),Zd [12,13,14,15,16] [5] (lT 18 5 17),{o:= .call 19 [2] (.f N3r) [.s 18],hs:=[12,13,14,15,16],ws:=[2],bf:=[5,6]},Zd [12] [1,2,3,4,5,6,7] (.build 20 [pz,pz,pz,pz,pz,.emp 1,pz,pz,pz] [(0,3,.s 14),(3,1,.s 16),(4,5,.s 19)]),{o:= .lit 21 3 9 88 [.s 20],hs:=[12],ws:=[2,3],bf:=[1,2,3,4,5,6,7,8]},{o:= .app 22 0 9 88 (.s 12) (.s 21),ws:=[0,3],bf:=(.range 10)},Ze (.range 11) (mS 3 22)] [3,6,7,8])))
(pr [bC 23 .add 8 1,mS 8 23] [3,6,7,8])))))))
(Zs [mS 24 3,mS 2 24] [2] .ret))))
attribute [go_sem] Y19
def M7h:MC:=Y19
theorem C74(xs:List GCapture)(hs:xs.length+(xs.map GCapture.size).sum≤1073741824):Ctr Tryz.prog N3q [aL 9 (xs.map GCapture.enc)] [rL 9 (xs.map GCapture.enc)]:=by
 refine cA M7h 4 25 [(.tmp 2,[true])] Tryz.func232 rfl rfl ?_;unfold M7h
 intro hb
 clear hb
 simp only[go_sem]
 refine K5 xs (fun k=>[(3,.val false [.ref 0 0 9 0 (xs.take k).length]),(8,vI k)]) (fun k=>[(0,⟨0,.row true 9 ((xs.take k).map GCapture.enc)⟩)]) (fun _=>True) (by simp only[roomB];omega) ?_
 simp only[go_sem]
 refine⟨?_,trivial,?_,?_⟩
 ·simp only[go_sem,List.take_zero]
 ·intro k x hx _ h0 h1 hw
  have hk:k<xs.length:=by omega
  have hlt:=List.length_take_le k xs
  have hx1:=Kz (f:=GCapture.size) (Km hx)
  simp only[go_sem,K4 hx,h0,h1]
  refine K0 (C3n x.Resource (by simp only[GCapture.size,GResource.size]at hx1;omega)) ?_
  simp only[go_sem,hw]
  simp only[roomB]
  exact⟨by omega,by omega,fun _=>⟨K3o hx,K3p hx⟩⟩
 ·intro _
  simp only[go_sem,List.take_length]
def Y20:MC:=
(Zs [.nilo 2 0 9] [0] (Zs [.lit 5 0 9 88 [],mS 3 5] [0,3] (.seq (Zs [.mv 4 (ci 0)] [0,3,4] (.block 0 (.loop ([0,3,4],[1,2]) (.seq (Zs [mS 6 4,mS 7 0,nS 8 7,bS 9 .lss 6 8] [0,3,4,9] (cX 9 0))
(.seq (.block 1 (.dreg [Zf [13,14,15,16,17,18,19,20,21,22,23,24,25,26,27,28,29,30] [1,2] (mS 12 3),Zf [12,14,18,19,20,21,22,23,24,25,26,27,28] [1] (mS 13 0),Zf [12,13,18,19,20,21,22,23,24,25,26,27,28] [1] (mS 14 4),Zg [12,18,19,20,21,22,23,24,25,26,27,28] [1] [1,2] (xS 15 9 13 14),Zg [12,18,19,20,21,22,23,24,25,26,27,28] [1] [1,2,3] (fS 16 15 0),Zg [12,18,19,20,21,22,23,24,25,26,27,28] [1] [1,2,3,4] (lT 17 3 16),Zf [12,13,14,15,16,17,19,23,24,25,26,27,28] [1] (mS 18 0),Zf [12,13,14,15,16,17,18,23,24,25,26,27,28] [1] (mS 19 4),Zg [12,13,14,15,16,17,23,24,25,26,27,28] [1] [6,7] (xS 20 9 18 19),Zg [12,13,14,15,16,17,23,24,25,26,27,28] [1] [6,7,8] (fS 21 20 3),Zg [12,13,14,15,16,17,23,24,25,26,27,28] [1] [6,7,8,9] (lF 22 1 21),Zc [12,13,14,15,16,17,18,19,20,21,22,24] (mS 23 0),Zc [12,13,14,15,16,17,18,19,20,21,22,23] (mS 24 4),Zd [12,13,14,15,16,17,18,19,20,21,22] [11,12] (xS 25 9 23 24),Zd [12,13,14,15,16,17,18,19,20,21,22] [11,12,13] (fS 26 25 4),Zd [12,13,14,15,16,17,18,19,20,21,22] [11,12,13,14] (lT 27 5 26),{o:= .call 28 [1] (.f Nb1) [.s 27],hs:=[12,13,14,15,16,17,18,19,20,21,22],ws:=[1],bf:=[11,12,13,14,15]},Zd [12] [1,2,3,4,5,6,7,8,9,10,11,12,13,14,15,16] (.build 29 [pz,pz,pz,pz,pz,.emp 1,pz,pz,pz] [(0,3,.s 17),(3,1,.s 22),(4,5,.s 28)]),{o:= .lit 30 2 9 88 [.s 29],hs:=[12],ws:=[1,2],bf:=[1,2,3,4,5,6,7,8,9,10,11,12,13,14,15,16,17]},{o:= .app 31 0 9 88 (.s 12) (.s 30),ws:=[0,2],bf:=(.range 19)},Ze (.range 20) (mS 3 31)] [0,3,4]))
(pr [mS 10 4,bC 11 .add 10 1,mS 4 11] [0,3,4]))))))
(Zs [mS 32 3,mS 2 32] [2] .ret))))
attribute [go_sem] Y20
def Mi7:MC:=Y20
theorem Coo(xs:List GCapture)(hs:xs.length+(xs.map GCapture.size).sum≤1073741824):Ctr Tryz.prog Niq [aL 9 (xs.map GCapture.enc)] [rL 9 (xs.map GCapture.enc)]:=by
 refine cA Mi7 3 33 [(.tmp 2,[true])] Tryz.func209 rfl rfl ?_;unfold Mi7
 intro hb
 clear hb
 simp only[go_sem]
 refine K5 xs (fun k=>[(3,.val false [.ref 0 0 9 0 (xs.take k).length]),(4,vI k)]) (fun k=>[(0,⟨0,.row true 9 ((xs.take k).map GCapture.enc)⟩)]) (fun _=>True) (by simp only[roomB];omega) ?_
 simp only[go_sem]
 refine⟨?_,trivial,?_,?_⟩
 ·simp only[go_sem,List.take_zero]
 ·intro k x hx _ h0 h1 hw
  have hk:k<xs.length:=by omega
  have hlt:=List.length_take_le k xs
  have hx1:=Kz (f:=GCapture.size) (Km hx)
  simp only[go_sem,K4 hx,h0,h1]
  refine K0 (Cau x.Resource (by simp only[GCapture.size,GResource.size]at hx1;omega)) ?_
  simp only[go_sem,hw]
  simp only[roomB]
  exact⟨by omega,by omega,fun _=>⟨K3o hx,K3p hx⟩⟩
 ·intro _
  simp only[go_sem,List.take_length]
end Go.Proofs.YtjneccbpkckdfaaGreatR
namespace Go.Proofs.YtjneccbpkckdfaaGreatR
open Go Go.RowKit Go.Proofs
open Nat (reduceEqDiff reduceLT reduceLeDiff reduceAdd reduceMul)
open List (reduceReplicate)
end Go.Proofs.YtjneccbpkckdfaaGreatR
namespace Go.Proofs.YtjneccbpkckdfaaGreatR
open Go Go.RowKit Go.Proofs
open Nat (reduceEqDiff reduceLT reduceLeDiff reduceAdd reduceMul)
open List (reduceReplicate)
end Go.Proofs.YtjneccbpkckdfaaGreatR
namespace Go.Proofs.YtjneccbpkckdfaaGreatR
open Go Go.RowKit Go.Proofs
open Nat (reduceEqDiff reduceLT reduceLeDiff reduceAdd reduceMul)
open List (reduceReplicate)
theorem has_step{α:Type} [BEq α] [LawfulBEq α] {l:List α}{k:Nat}{x n:α}(hx:l[k]? =some x)(h:(l.take k).contains n=false)(hn:¬x=n):(l.take (k+1)).contains n=false:=by
 rw[Kc hx]
 simp only[List.contains_eq_mem,List.mem_append,List.mem_singleton,decide_eq_false_iff_not,not_or]at h ⊢
 exact⟨h,fun e=>hn e.symm⟩
theorem has_here{α:Type} [BEq α] [LawfulBEq α] {l:List α}{k:Nat}{x n:α}(hx:l[k]? =some x)(hn:x=n):l.contains n=true:=by
 subst hn
 simp only[List.contains_eq_mem,decide_eq_true_eq]
 exact Km hx
theorem C2u(xs:List Int)(n:Int):Ctr Tryz.prog Nd [aL 1 (xs.map encI),aI n] [rB (xs.contains n)]:=by
 rw[List.contains_eq_mem]
 exact Chi xs n
def Mjv:MC:=
(Zs [.mv 4 cF] [0,1] (.seq (Zs [.mv 5 (ci 0)] [0,1,5] (.block 0 (.loop ([0,1,5],[]) (.seq (Zs [mS 6 5,mS 7 0,nS 8 7,bS 9 .lss 6 8] [0,1,5,9] (cX 9 0))
(.seq (.block 1 (Zs [mS 12 0,mS 13 5,xS 14 1 12 13,lF 15 1 14,mS 16 1,bS 17 .eql 15 16] [0,1,5,17] (.cond (.s 17) (Zs [.mv 4 cT] [4] .ret) .skip)))
(pr [mS 10 5,bC 11 .add 10 1,mS 5 11] [0,1,5]))))))
(Zs [.mv 4 cF] [4] .ret)))
theorem C3f(xs:List Int)(n:Int):Ctr Tryz.prog N2g [aL 1 (xs.map encI),aI n] [rB (xs.contains n)]:=by
 refine cA Mjv 0 18 [(.tmp 4,[false])] Tryz.func144 rfl rfl ?_;unfold Mjv
 intro hb
 simp only[bdA,bdL,bdT,Ke,K10,roomB,and_true,List.length_map]at hb
 obtain⟨⟨hl,-⟩,-⟩:=hb
 simp only[go_sem]
 refine K5 xs (fun k=>[(5,vI k)]) (fun k=>[]) (fun k=>(xs.take k).contains n=false) hl ?_
 simp only[go_sem]
 refine⟨?_,by simp,?_,?_⟩
 ·simp only[go_sem]
 ·intro k x hx h h0 h1 hw
  simp only[go_sem,K4 hx,h0,h1,hw]
  exact⟨fun hn=>(has_here hx hn).symm,fun hn=>has_step hx h hn⟩
 ·intro h
  simp only[go_sem]
  rw[List.take_length]at h
  rw[h]
def K2q(digest:Int)(l:List GLibrary):Int:=l.foldl (fun n x=>if x.Up&& !x.Lies&&x.Digests.contains digest then IntKind.i64.wrap (n+1)else n) 0
theorem K6m{digest:Int}{l:List GLibrary}{k:Nat}{x:GLibrary}(h:l[k]? =some x):K2q digest (l.take (k+1))=if x.Up&& !x.Lies&&x.Digests.contains digest then IntKind.i64.wrap (K2q digest (l.take k)+1)else K2q digest (l.take k):=by
 rw[Kc h,K2q,List.foldl_append];rfl
def Mbc:MC:=
(Zs [.mv 4 (ci 0)] [0,1] (Zs [.mv 5 (ci 0)] [0,1,5] (.seq (Zs [mS 8 0,nS 9 8,.mv 10 (ci 0)] [1,5,8,9,10] (.block 0 (.loop ([1,5,8,9,10],[0]) (Zs [bS 11 .lss 10 9] [1,5,8,9,10,11] (.seq (cX 11 0)
(.seq (.block 1 (Zs [xS 12 4 8 10,lT 13 4 12,.alloc 7 0 [pz,.emp 1,.pl (.sc (.bool false)),.pl (.sc (.bool false))],sS 4 7 13] [1,5,7,8,9,10] (.seq (.reg [Za (fS 14 7 2),Za (lF 15 1 14),Za (mS 16 15),Zb 16 true (fS 17 7 3),Zb 16 true (lF 18 1 17),Zb 16 true (.un 19 .not (.s 18)),Za (.pick 20 (.s 16) (.s 19) cF),Za (mS 21 20),Zb 21 true (fS 22 7 1),Zb 21 true (lF 23 1 22),Zb 21 true (mS 24 1),Zb 21 true (.call 25 [] (.f Nd) [.s 23,.s 24]),Za (.pick 26 (.s 21) (.s 25) cF)] [1,5,8,9,10,26])
(.cond (.s 26) (pr [mS 27 5,bC 28 .add 27 1,mS 5 28] [1,5,8,9,10]) .skip))))
(pr [bC 29 .add 10 1,mS 10 29] [1,5,8,9,10])))))))
(Zs [mS 30 5,mS 4 30] [4] .ret))))
theorem Clv(xs:List GLibrary)(d:Int):Ctr Tryz.prog Nci [aL 4 (xs.map GLibrary.enc),aI d] [rI (K2q d xs)]:=by
 refine cA Mbc 1 31 [(.tmp 4,[false])] Tryz.func272 rfl rfl ?_;unfold Mbc
 intro hb
 simp only[bdA,bdL,bdT,Ke,K10,roomB,and_true,List.length_map]at hb
 obtain⟨⟨hl,-⟩,-⟩:=hb
 simp only[go_sem]
 refine K5 xs (fun k=>[(5,vI (K2q d (xs.take k))),(10,vI k)]) (fun k=>[]) (fun _=>True) hl ?_
 simp only[go_sem]
 refine⟨?_,trivial,?_,?_⟩
 ·simp only[go_sem]
  rfl
 ·intro k x hx _ h0 h1 hw
  simp only[go_sem,K4 hx,h0,h1,hw,K6m hx]
  refine⟨fun u=>⟨fun l=>?_,fun l=>?_⟩,fun u=>?_⟩
  ·refine K0 (C2u _ _) ?_
   simp only[go_sem,hw]
   exact⟨fun c=>by simp only[u,l,c];rfl,fun c=>by simp only[u,l,c];rfl⟩
  ·simp only[u,l];rfl
  ·simp only[u];rfl
 ·intro _
  simp only[go_sem,List.take_length]
def Mc7:MC:=
(Zs [.mv 4 (ci 0)] [0,1] (Zs [.mv 5 (ci 0)] [0,1,5] (.seq (Zs [.mv 6 (ci 0)] [0,1,5,6] (.block 0 (.loop ([0,1,5,6],[]) (.seq (Zs [mS 7 6,mS 8 0,nS 9 8,bS 10 .lss 7 9] [0,1,5,6,10] (cX 10 0))
(.seq (.block 1 (.seq (.reg [Za (mS 13 0),Za (mS 14 6),Za (xS 15 4 13 14),Za (fS 16 15 2),Za (lF 17 1 16),Za (mS 18 17),Zb 18 true (mS 19 0),Zb 18 true (mS 20 6),Zb 18 true (xS 21 4 19 20),Zb 18 true (fS 22 21 3),Zb 18 true (lF 23 1 22),Zb 18 true (.un 24 .not (.s 23)),Za (.pick 25 (.s 18) (.s 24) cF),Za (mS 26 25),Zb 26 true (mS 27 0),Zb 26 true (mS 28 6),Zb 26 true (xS 29 4 27 28),Zb 26 true (fS 30 29 1),Zb 26 true (lF 31 1 30),Zb 26 true (mS 32 1),Zb 26 true (.call 33 [] (.f N2g) [.s 31,.s 32]),Za (.pick 34 (.s 26) (.s 33) cF)] [0,1,5,6,34])
(.cond (.s 34) (pr [mS 35 5,bC 36 .add 35 1,mS 5 36] [0,1,5,6]) .skip)))
(pr [mS 11 6,bC 12 .add 11 1,mS 6 12] [0,1,5,6]))))))
(Zs [mS 37 5,mS 4 37] [4] .ret))))
theorem Cml(xs:List GLibrary)(d:Int):Ctr Tryz.prog Nda [aL 4 (xs.map GLibrary.enc),aI d] [rI (K2q d xs)]:=by
 refine cA Mc7 0 38 [(.tmp 4,[false])] Tryz.func253 rfl rfl ?_;unfold Mc7
 intro hb
 simp only[bdA,bdL,bdT,Ke,K10,roomB,and_true,List.length_map]at hb
 obtain⟨⟨hl,-⟩,-⟩:=hb
 simp only[go_sem]
 refine K5 xs (fun k=>[(5,vI (K2q d (xs.take k))),(6,vI k)]) (fun k=>[]) (fun _=>True) hl ?_
 simp only[go_sem]
 refine⟨?_,trivial,?_,?_⟩
 ·simp only[go_sem]
  rfl
 ·intro k x hx _ h0 h1 hw
  simp only[go_sem,K4 hx,h0,h1,hw,K6m hx]
  refine⟨fun u=>⟨fun l=>?_,fun l=>?_⟩,fun u=>?_⟩
  ·refine K0 (C3f _ _) ?_
   simp only[go_sem,hw]
   exact⟨fun c=>by simp only[u,l,c];rfl,fun c=>by simp only[u,l,c];rfl⟩
  ·simp only[u,l];rfl
  ·simp only[u];rfl
 ·intro _
  simp only[go_sem,List.take_length]
end Go.Proofs.YtjneccbpkckdfaaGreatR
namespace Go.Proofs.YtjneccbpkckdfaaGreatR
open Go Go.RowKit Go.Proofs
open Nat (reduceEqDiff reduceLT reduceLeDiff reduceAdd reduceMul)
open List (reduceReplicate)
theorem Ke1{α β:Type}{p:α→Bool}{f:α→β}{l:List α}{k:Nat}{x:α}(h:l[k]? =some x):((l.take (k+1)).filter p).map f=if p x=true then((l.take k).filter p).map f++[f x]else((l.take k).filter p).map f:=by
 rw[Kc h,List.filter_append,List.map_append]
 by_cases hp:p x=true<;>simp[hp]
def Mln:MC:=
(Zs [.nilo 2 0 1] [0] (Zs [.lit 5 0 1 8 [],mS 3 5] [0,3] (.seq (Zs [.mv 4 (ci 0)] [0,3,4] (.block 0 (.loop ([0,3,4],[1]) (.seq (Zs [mS 6 4,mS 7 0,nS 8 7,bS 9 .lss 6 8] [0,3,4,9] (cX 9 0))
(.seq (.block 1 (Zs [mS 12 0,mS 13 4,xS 14 4 12 13,fS 15 14 2,lF 16 1 15] [0,3,4,16] (.cond (.s 16) (pr [mS 17 3,mS 18 0,mS 19 4,xS 20 4 18 19,fS 21 20 0,lF 22 1 21,.lit 23 1 1 8 [.s 22],.app 24 0 1 8 (.s 17) (.s 23),mS 3 24] [0,3,4]) .skip)))
(pr [mS 10 4,bC 11 .add 10 1,mS 4 11] [0,3,4]))))))
(Zs [mS 25 3,mS 2 25] [2] .ret))))
theorem Cp0(xs:List GLibrary)(hN:xs.length≤1099511627776):Ctr Tryz.prog Nlr [aL 4 (xs.map GLibrary.enc)] [rL 1 (((xs.filter fun x=>x.Up).map fun x=>x.Id).map encI)]:=by
 refine cA Mln 2 26 [(.tmp 2,[true])] Tryz.func143 rfl rfl ?_;unfold Mln
 intro hb
 simp only[bdA,bdL,bdT,Ke,roomB,and_true,List.length_map]at hb
 obtain⟨hl,-⟩:=hb
 simp only[go_sem]
 refine K5 xs (fun k=>[(3,.val false [.ref 0 0 1 0 ((xs.take k).filter fun x=>x.Up).length]),(4,vI k)]) (fun k=>[(0,⟨0,.row true 1 ((((xs.take k).filter fun x=>x.Up).map fun x=>x.Id).map encI)⟩)]) (fun _=>True) hl ?_
 simp only[go_sem]
 refine⟨?_,trivial,?_,?_⟩
 ·simp only[go_sem,List.take_zero,List.filter_nil]
 ·intro k x hx _ h0 h1 hw
  simp only[go_sem,K4 hx,h0,h1,hw,Ke1 hx]
  have hlf:=List.length_filter_le (fun x=>x.Up) (xs.take k)
  have hlt:=List.length_take_le k xs
  simp only[roomB]
  refine⟨fun u=>⟨by omega,by omega,?_,?_⟩,fun u=>⟨?_,?_⟩⟩
  ·rw[Kc hx,List.filter_append];simp[u]
  ·simp[u,encI]
  ·rw[Kc hx,List.filter_append];simp[u]
  ·simp[u]
 ·intro _
  simp only[go_sem,List.take_length]
end Go.Proofs.YtjneccbpkckdfaaGreatR
namespace Go.Proofs.YtjneccbpkckdfaaGreatR
open Go Go.RowKit Go.Proofs
open Nat (reduceEqDiff reduceLT reduceLeDiff reduceAdd reduceMul)
open List (reduceReplicate)
attribute [go_sem] eqB
def Mej:MC:=Y1
theorem Cno(xs ys:List Int):Ctr Tryz.prog Nfg [aL 1 (xs.map encI),aL 1 (ys.map encI)] [rB (decide (xs=ys))]:=by
 refine cA Mej 0 26 [(.tmp 4,[false])] Tryz.func255 rfl rfl ?_;unfold Mej
 intro hb
 simp only[bdA,bdL,bdT,Ke,roomB,and_true,List.length_map]at hb
 obtain⟨⟨hl,-⟩,⟨hl2,-⟩⟩:=hb
 simp only[go_sem]
 refine⟨fun h=>K30 h,fun h=>?_⟩
 have hle:xs.length=ys.length:=by omega
 refine K5 xs (fun k=>[(5,vI k)]) (fun k=>[]) (fun k=>xs.take k=ys.take k) hl ?_
 simp only[go_sem]
 refine⟨?_,rfl,?_,?_⟩
 ·simp only[go_sem]
 ·intro k x hx he h0 h1 hw
  obtain⟨y,hy⟩:=Kb (show k<ys.length by omega)
  have h2:(k:Int)<ys.length:=by omega
  simp only[go_sem,K4 hx,K4 hy,h0,h1,h2,hw]
  exact⟨fun hn=>K33 hx hy (by simpa using hn),fun hn=>(K11 hx hy he).2 (by simpa using hn)⟩
 ·intro he
  simp only[go_sem]
  exact K2z he hle
def K19(xs:List GOp):List Int:=xs.flatMap fun o=>[o.Kind,o.A,o.B,o.C]
theorem K6r{l:List GOp}{k:Nat}{x:GOp}(h:l[k]? =some x):K19 (l.take (k+1))=K19 (l.take k)++[x.Kind,x.A,x.B,x.C]:=by
 rw[Kc h,K19,List.flatMap_append];rfl
theorem K7i{l:List GOp}:(K19 l).length=4*l.length:=by
 induction l with
 |nil=>rfl
 |cons x l ih=>simp only[K19,List.flatMap_cons,List.length_append,List.length_cons,List.length_nil]at ih ⊢;omega
def Mca:MC:=
(Zs [.nilo 2 0 1] [0] (Zs [.lit 5 0 1 8 [],mS 3 5] [0,3] (.seq (Zs [.mv 4 (ci 0)] [0,3,4] (.block 0 (.loop ([0,3,4],[1]) (.seq (Zs [mS 6 4,mS 7 0,nS 8 7,bS 9 .lss 6 8] [0,3,4,9] (cX 9 0))
(.seq (.block 1 (.dreg [Zf [13,14,15,16,17,18,19,20,21,22,23,24,25,26,27,28,29,30,31,32,33] [1] (mS 12 3),Zc [12,14,18,19,20,21,22,23,24,25,26,27,28,29,30,31,32] (mS 13 0),Zc [12,13,18,19,20,21,22,23,24,25,26,27,28,29,30,31,32] (mS 14 4),Zd [12,18,19,20,21,22,23,24,25,26,27,28,29,30,31,32] [1,2] (xS 15 4 13 14),Zd [12,18,19,20,21,22,23,24,25,26,27,28,29,30,31,32] [1,2,3] (fS 16 15 0),Zd [12,18,19,20,21,22,23,24,25,26,27,28,29,30,31,32] [1,2,3,4] (lF 17 1 16),Zc [12,13,14,15,16,17,19,23,24,25,26,27,28,29,30,31,32] (mS 18 0),Zc [12,13,14,15,16,17,18,23,24,25,26,27,28,29,30,31,32] (mS 19 4),Zd [12,13,14,15,16,17,23,24,25,26,27,28,29,30,31,32] [6,7] (xS 20 4 18 19),Zd [12,13,14,15,16,17,23,24,25,26,27,28,29,30,31,32] [6,7,8] (fS 21 20 1),Zd [12,13,14,15,16,17,23,24,25,26,27,28,29,30,31,32] [6,7,8,9] (lF 22 1 21),Zc [12,13,14,15,16,17,18,19,20,21,22,24,28,29,30,31,32] (mS 23 0),Zc [12,13,14,15,16,17,18,19,20,21,22,23,28,29,30,31,32] (mS 24 4),Zd [12,13,14,15,16,17,18,19,20,21,22,28,29,30,31,32] [11,12] (xS 25 4 23 24),Zd [12,13,14,15,16,17,18,19,20,21,22,28,29,30,31,32] [11,12,13] (fS 26 25 2),Zd [12,13,14,15,16,17,18,19,20,21,22,28,29,30,31,32] [11,12,13,14] (lF 27 1 26),Zc [12,13,14,15,16,17,18,19,20,21,22,23,24,25,26,27,29] (mS 28 0),Zc [12,13,14,15,16,17,18,19,20,21,22,23,24,25,26,27,28] (mS 29 4),Zd [12,13,14,15,16,17,18,19,20,21,22,23,24,25,26,27] [16,17] (xS 30 4 28 29),Zd [12,13,14,15,16,17,18,19,20,21,22,23,24,25,26,27] [16,17,18] (fS 31 30 3),Zd [12,13,14,15,16,17,18,19,20,21,22,23,24,25,26,27] [16,17,18,19] (lF 32 1 31),{o:= .lit 33 1 1 8 [.s 17,.s 22,.s 27,.s 32],hs:=[12],ws:=[1],bf:=[1,2,3,4,5,6,7,8,9,10,11,12,13,14,15,16,17,18,19,20]},{o:= .app 34 0 1 8 (.s 12) (.s 33),ws:=[0],bf:=(.range 22)},Ze (.range 23) (mS 3 34)] [0,3,4]))
(pr [mS 10 4,bC 11 .add 10 1,mS 4 11] [0,3,4]))))))
(Zs [mS 35 3,mS 2 35] [2] .ret))))
theorem Cmn(xs:List GOp)(hN:xs.length≤1099511627776):Ctr Tryz.prog Ndc [aL 4 (xs.map GOp.enc)] [rL 1 ((K19 xs).map encI)]:=by
 refine cA Mca 2 36 [(.tmp 2,[true])] Tryz.func327 rfl rfl ?_;unfold Mca
 intro hb
 simp only[bdA,bdL,bdT,Ke,roomB,and_true,List.length_map]at hb
 obtain⟨hl,-⟩:=hb
 simp only[go_sem]
 refine K5 xs (fun k=>[(3,.val false [.ref 0 0 1 0 (K19 (xs.take k)).length]),(4,vI k)]) (fun k=>[(0,⟨0,.row true 1 ((K19 (xs.take k)).map encI)⟩)]) (fun _=>True) hl ?_
 simp only[go_sem]
 refine⟨?_,trivial,?_,?_⟩
 ·simp only[go_sem,List.take_zero]
  exact⟨rfl,rfl⟩
 ·intro k x hx _ h0 h1 hw
  have hlt:=List.length_take_le k xs
  simp only[go_sem,K4 hx,h0,h1,hw,K6r hx,List.length_append,K7i]
  refine⟨⟨by simp,by decide⟩,by simp only[roomB];omega,by simp[encI]⟩
 ·intro _
  simp only[go_sem,List.take_length]
def Mib:MC:=
(Zs [.mv 4 cF] [0,1] (.seq (Zs [mS 6 0,nS 7 6,mS 8 1,nS 9 8,bS 10 .neq 7 9] [0,1,10] (.cond (.s 10) (Zs [.mv 4 cF] [4] .ret) .skip))
(.seq (Zs [.mv 5 (ci 0)] [0,1,5] (.block 0 (.loop ([0,1,5],[]) (.seq (Zs [mS 11 5,mS 12 0,nS 13 12,bS 14 .lss 11 13] [0,1,5,14] (cX 14 0))
(.seq (.block 1 (.seq (.dreg [Zc [18,21,22,23,24] (mS 17 0),Zc [17,21,22,23,24] (mS 18 5),Zd [21,22,23,24] [0,1] (xS 19 6 17 18),Zd [21,22,23,24] [0,1,2] (lT 20 6 19),Zc [17,18,19,20,22] (mS 21 1),Zc [17,18,19,20,21] (mS 22 5),Zd [17,18,19,20] [4,5] (xS 23 6 21 22),Zd [17,18,19,20] [4,5,6] (lT 24 6 23),Ze (.range 8) (.eqA 25 true [.i .i64,.i .i64,.i .i64,.i .i64,.i .i64,.i .i64] (.s 20) (.s 24))] [0,1,5,25])
(.cond (.s 25) (Zs [.mv 4 cF] [4] .ret) .skip)))
(pr [mS 15 5,bC 16 .add 15 1,mS 5 16] [0,1,5]))))))
(Zs [.mv 4 cT] [4] .ret))))
theorem Chn(xs ys:List GFound):Ctr Tryz.prog N8z [aL 6 (xs.map GFound.enc),aL 6 (ys.map GFound.enc)] [rB (decide (xs=ys))]:=by
 refine cA Mib 0 26 [(.tmp 4,[false])] Tryz.func237 rfl rfl ?_;unfold Mib
 intro hb
 simp only[bdA,bdL,bdT,Ke,roomB,and_true,List.length_map]at hb
 obtain⟨⟨hl,-⟩,⟨hl2,-⟩⟩:=hb
 simp only[go_sem]
 refine⟨fun h=>K30 h,fun h=>?_⟩
 have hle:xs.length=ys.length:=by omega
 refine K5 xs (fun k=>[(5,vI k)]) (fun k=>[]) (fun k=>xs.take k=ys.take k) hl ?_
 simp only[go_sem]
 refine⟨?_,rfl,?_,?_⟩
 ·simp only[go_sem]
 ·intro k x hx he h0 h1 hw
  obtain⟨y,hy⟩:=Kb (show k<ys.length by omega)
  have h2:(k:Int)<ys.length:=by omega
  simp only[go_sem,K4 hx,K4 hy,h0,h1,h2,hw]
  exact⟨fun hn=>K33 hx hy (by rintro rfl;simp at hn),fun hn=>(K11 hx hy he).2 (by exact GFound.eqv.2 (by simpa using hn))⟩
 ·intro he
  simp only[go_sem]
  exact K2z he hle
def M4p:MC:=
(Zs [.box 2 0 (.s 0),.box 3 1 (.s 1),.mv 4 cF] [2,3] (.seq (.reg [Za (fS 5 2 0),Za (lF 6 1 5),Za (fS 7 3 0),Za (lF 8 1 7),Za (bS 9 .eql 6 8),Za (mS 10 9),Zb 10 true (fS 11 2 2),Zb 10 true (lF 12 1 11),Zb 10 true (fS 13 3 2),Zb 10 true (lF 14 1 13),Zb 10 true (.bin 15 true .eql (.s 12) (.s 14)),Za (.pick 16 (.s 10) (.s 15) cF),Za (mS 17 16),Zb 17 true (fS 18 2 3),Zb 17 true (lF 19 1 18),Zb 17 true (fS 20 3 3),Zb 17 true (lF 21 1 20),Zb 17 true (.bin 22 true .eql (.s 19) (.s 21)),Za (.pick 23 (.s 17) (.s 22) cF),Za (mS 24 23),Zb 24 true (fS 25 2 1),Zb 24 true (lF 26 1 25),Zb 24 true (fS 27 3 1),Zb 24 true (lF 28 1 27),Zb 24 true (.call 29 [] (.f N2p) [.s 26,.s 28]),Za (.pick 30 (.s 24) (.s 29) cF),Za (mS 4 30)] [4])
.ret))
theorem Cfs(a b:GLibrary):Ctr Tryz.prog N4q [aS a.enc,aS b.enc] [rB (decide (a=b))]:=by
 refine cA M4p 2 31 [(.tmp 4,[false])] Tryz.func276 rfl rfl ?_;unfold M4p
 intro hb
 clear hb
 simp only[go_sem]
 refine⟨fun k=>⟨fun t=>⟨fun u=>?_,fun u=>?_⟩,fun t=>?_⟩,fun k=>?_⟩
 ·refine K0 (C97 _ _) ?_
  simp only[go_sem]
  simp_all[GLibrary.eqv]
 ·simp_all[GLibrary.eqv]
 ·simp_all[GLibrary.eqv]
 ·simp_all[GLibrary.eqv]
def M5o:MC:=
(Zs [.mv 4 cF] [0,1] (Zs [mS 5 0,mS 6 1,.call 7 [] (.f N7) [.s 5,.s 6,.f N4q],mS 4 7] [4] .ret))
theorem Ch8(xs ys:List GLibrary):Ctr Tryz.prog N5y [aL 4 (xs.map GLibrary.enc),aL 4 (ys.map GLibrary.enc)] [rB (decide (xs=ys))]:=by
 refine cA M5o 0 8 [(.tmp 4,[false])] Tryz.func172 rfl rfl ?_;unfold M5o
 intro hb
 clear hb
 simp only[go_sem]
 refine K0 (Caq xs ys _ [] (fun x y=>decide (x=y)) fun x y _ _=>Cfs x y) ?_
 simp only[go_sem]
 rw[eqF_eq]
def M5x:MC:=
(Zs [.mv 4 cF] [0,1] (.seq (Zs [mS 6 0,nS 7 6,mS 8 1,nS 9 8,bS 10 .neq 7 9] [0,1,10] (.cond (.s 10) (Zs [.mv 4 cF] [4] .ret) .skip))
(.seq (Zs [.mv 5 (ci 0)] [0,1,5] (.block 0 (.loop ([0,1,5],[]) (.seq (Zs [mS 11 5,mS 12 0,nS 13 12,bS 14 .lss 11 13] [0,1,5,14] (cX 14 0))
(.seq (.block 1 (.seq (.dreg [Zc [18,22,23,24,25,26] (mS 17 0),Zc [17,22,23,24,25,26] (mS 18 5),Zd [22,23,24,25,26] [0,1] (xS 19 4 17 18),Zd [22,23,24,25,26] [0,1,2] (fS 20 19 0),Zd [22,23,24,25,26] (.range 4) (lF 21 1 20),Zc [17,18,19,20,21,23] (mS 22 1),Zc [17,18,19,20,21,22] (mS 23 5),Zd [17,18,19,20,21] [5,6] (xS 24 4 22 23),Zd [17,18,19,20,21] [5,6,7] (fS 25 24 0),Zd [17,18,19,20,21] [5,6,7,8] (lF 26 1 25),Ze (.range 10) (bS 27 .neq 21 26),Ze (.range 11) (mS 28 27),{o:=mS 29 0,g:=some (28,false),hs:=[30,34,35,36,37,38],bf:=(.range 12)},{o:=mS 30 5,g:=some (28,false),hs:=[29,34,35,36,37,38],bf:=(.range 12)},{o:=xS 31 4 29 30,g:=some (28,false),hs:=[34,35,36,37,38],bf:=(.range 14)},{o:=fS 32 31 2,g:=some (28,false),hs:=[34,35,36,37,38],bf:=(.range 15)},{o:=lF 33 1 32,g:=some (28,false),hs:=[34,35,36,37,38],bf:=(.range 16)},{o:=mS 34 1,g:=some (28,false),hs:=[29,30,31,32,33,35],bf:=(.range 12)},{o:=mS 35 5,g:=some (28,false),hs:=[29,30,31,32,33,34],bf:=(.range 12)},{o:=xS 36 4 34 35,g:=some (28,false),hs:=[29,30,31,32,33],bf:=[0,1,2,3,4,5,6,7,8,9,10,11,17,18]},{o:=fS 37 36 2,g:=some (28,false),hs:=[29,30,31,32,33],bf:=[0,1,2,3,4,5,6,7,8,9,10,11,17,18,19]},{o:=lF 38 1 37,g:=some (28,false),hs:=[29,30,31,32,33],bf:=[0,1,2,3,4,5,6,7,8,9,10,11,17,18,19,20]},{o:= .bin 39 true .neq (.s 33) (.s 38),g:=some (28,false),bf:=(.range 22)},Ze (.range 23) (.pick 40 (.s 28) cT (.s 39)),Ze (.range 24) (mS 41 40),{o:=mS 42 0,g:=some (41,false),hs:=[43,47,48,49,50,51],bf:=(.range 25)},{o:=mS 43 5,g:=some (41,false),hs:=[42,47,48,49,50,51],bf:=(.range 25)},{o:=xS 44 4 42 43,g:=some (41,false),hs:=[47,48,49,50,51],bf:=(.range 27)},{o:=fS 45 44 3,g:=some (41,false),hs:=[47,48,49,50,51],bf:=(.range 28)},{o:=lF 46 1 45,g:=some (41,false),hs:=[47,48,49,50,51],bf:=(.range 29)},{o:=mS 47 1,g:=some (41,false),hs:=[42,43,44,45,46,48],bf:=(.range 25)},{o:=mS 48 5,g:=some (41,false),hs:=[42,43,44,45,46,47],bf:=(.range 25)},{o:=xS 49 4 47 48,g:=some (41,false),hs:=[42,43,44,45,46],bf:=[0,1,2,3,4,5,6,7,8,9,10,11,12,13,14,15,16,17,18,19,20,21,22,23,24,30,31]},{o:=fS 50 49 3,g:=some (41,false),hs:=[42,43,44,45,46],bf:=[0,1,2,3,4,5,6,7,8,9,10,11,12,13,14,15,16,17,18,19,20,21,22,23,24,30,31,32]},{o:=lF 51 1 50,g:=some (41,false),hs:=[42,43,44,45,46],bf:=[0,1,2,3,4,5,6,7,8,9,10,11,12,13,14,15,16,17,18,19,20,21,22,23,24,30,31,32,33]},{o:= .bin 52 true .neq (.s 46) (.s 51),g:=some (41,false),bf:=(.range 35)},Ze (.range 36) (.pick 53 (.s 41) cT (.s 52)),Ze (.range 37) (mS 54 53),{o:=mS 55 0,g:=some (54,false),hs:=[56,60,61,62,63,64],bf:=(.range 38)},{o:=mS 56 5,g:=some (54,false),hs:=[55,60,61,62,63,64],bf:=(.range 38)},{o:=xS 57 4 55 56,g:=some (54,false),hs:=[60,61,62,63,64],bf:=(.range 40)},{o:=fS 58 57 1,g:=some (54,false),hs:=[60,61,62,63,64],bf:=(.range 41)},{o:=lF 59 1 58,g:=some (54,false),hs:=[60,61,62,63,64],bf:=(.range 42)},{o:=mS 60 1,g:=some (54,false),hs:=[55,56,57,58,59,61],bf:=(.range 38)},{o:=mS 61 5,g:=some (54,false),hs:=[55,56,57,58,59,60],bf:=(.range 38)},{o:=xS 62 4 60 61,g:=some (54,false),hs:=[55,56,57,58,59],bf:=[0,1,2,3,4,5,6,7,8,9,10,11,12,13,14,15,16,17,18,19,20,21,22,23,24,25,26,27,28,29,30,31,32,33,34,35,36,37,43,44]},{o:=fS 63 62 1,g:=some (54,false),hs:=[55,56,57,58,59],bf:=[0,1,2,3,4,5,6,7,8,9,10,11,12,13,14,15,16,17,18,19,20,21,22,23,24,25,26,27,28,29,30,31,32,33,34,35,36,37,43,44,45]},{o:=lF 64 1 63,g:=some (54,false),hs:=[55,56,57,58,59],bf:=[0,1,2,3,4,5,6,7,8,9,10,11,12,13,14,15,16,17,18,19,20,21,22,23,24,25,26,27,28,29,30,31,32,33,34,35,36,37,43,44,45,46]},{o:= .call 65 [] (.f Nfg) [.s 59,.s 64],g:=some (54,false),bf:=(.range 48)},{o:= .un 66 .not (.s 65),g:=some (54,false),bf:=(.range 49)},Ze (.range 50) (.pick 67 (.s 54) cT (.s 66))] [0,1,5,67])
(.cond (.s 67) (Zs [.mv 4 cF] [4] .ret) .skip)))
(pr [mS 15 5,bC 16 .add 15 1,mS 5 16] [0,1,5]))))))
(Zs [.mv 4 cT] [4] .ret))))
set_option maxRecDepth 20000 in
theorem Chk(xs ys:List GLibrary):Ctr Tryz.prog N66 [aL 4 (xs.map GLibrary.enc),aL 4 (ys.map GLibrary.enc)] [rB (decide (xs=ys))]:=by
 refine cA M5x 0 68 [(.tmp 4,[false])] Tryz.func150 rfl rfl ?_;unfold M5x
 intro hb
 simp only[bdA,bdL,bdT,Ke,roomB,and_true,List.length_map]at hb
 obtain⟨⟨hl,-⟩,⟨hl2,-⟩⟩:=hb
 simp only[go_sem]
 refine⟨fun h=>K30 h,fun h=>?_⟩
 have hle:xs.length=ys.length:=by omega
 refine K5 xs (fun k=>[(5,vI k)]) (fun k=>[]) (fun k=>xs.take k=ys.take k) hl ?_
 simp only[go_sem]
 refine⟨?_,rfl,?_,?_⟩
 ·simp only[go_sem]
 ·intro k x hx he h0 h1 hw
  obtain⟨y,hy⟩:=Kb (show k<ys.length by omega)
  have h2:(k:Int)<ys.length:=by omega
  simp only[go_sem,K4 hx,K4 hy,h0,h1,h2]
  refine⟨fun n=>K33 hx hy (by rintro rfl;exact n rfl),fun n1=>⟨fun n=>K33 hx hy (by rintro rfl;exact n rfl),fun n2=>⟨fun n=>K33 hx hy (by rintro rfl;exact n rfl),fun n3=>?_⟩⟩⟩
  refine K0 (Cno x.Digests y.Digests) ?_
  simp only[go_sem,hw]
  exact⟨fun hn=>K33 hx hy (by rintro rfl;simp at hn),fun hn=>(K11 hx hy he).2 (by simp_all[GLibrary.eqv])⟩
 ·intro he
  simp only[go_sem]
  exact K2z he hle
end Go.Proofs.YtjneccbpkckdfaaGreatR
namespace Go.Proofs.YtjneccbpkckdfaaGreatR
open Go Go.RowKit Go.Proofs
open Nat (reduceEqDiff reduceLT reduceLeDiff reduceAdd reduceMul)
open List (reduceReplicate)
def modP(v:Int):Int:=(IntKind.i64.wrap (v.tmod 2147483647+2147483647)).tmod 2147483647
def hstep(h v:Int):Int:=(IntKind.i64.wrap (IntKind.i64.wrap (IntKind.i64.wrap (h*1000003)+modP v)+13)).tmod 2147483647
def hashL(l:List Int):Int:=l.foldl hstep 11
theorem Kas{l:List Int}{k:Nat}{x:Int}(h:l[k]? =some x):hashL (l.take (k+1))=hstep (hashL (l.take k)) x:=by
 rw[Kc h,hashL,List.foldl_append];rfl
theorem K61:¬(2147483647:Int)=0:=by decide
def Y21(v0:Nat):MC:=
(Zs [.mv 4 (ci 0)] [0,1] (.seq (Zs [mS 5 1,.call 6 [] (.f v0) [.s 5,.c (.int .i64 1),.c (.int .i64 1000000000000)],.un 7 .not (.s 6)] [0,1,7] (.cond (.s 7) (Zs [.mv 4 (ci 0)] [4] .ret) .skip))
(Zs [mS 8 0,mS 9 1,bS 10 .rem 8 9,mS 11 1,bS 12 .add 10 11,mS 13 1,bS 14 .rem 12 13,mS 4 14] [4] .ret)))
attribute [go_sem] Y21
def M4i:MC:=Y21 N0
theorem Cpa(v:Int):Ctr Tryz.prog N4l [aI v,aI 2147483647] [rI (modP v)]:=by
 refine cA M4i 0 15 [(.tmp 4,[false])] Tryz.func368 rfl rfl ?_;unfold M4i
 intro hb
 clear hb
 simp only[go_sem]
 apply K0 (C3 _ _ _)
 simp only[go_sem,K61]
 refine And.intro ?_ ?_<;>intro h
 ·exact absurd (by decide) h
 ·rfl
def M4h:MC:=Y21 N1
theorem Cp9(v:Int):Ctr Tryz.prog N4j [aI v,aI 2147483647] [rI (modP v)]:=by
 refine cA M4h 0 15 [(.tmp 4,[false])] Tryz.func363 rfl rfl ?_;unfold M4h
 intro hb
 clear hb
 simp only[go_sem]
 apply K0 (C2 _ _ _)
 simp only[go_sem,K61]
 refine And.intro ?_ ?_<;>intro h
 ·exact absurd (by decide) h
 ·rfl
def Mn2:MC:=
(Zs [.mv 2 (ci 0)] [0] (Zs [.mv 3 (ci 11)] [0,3] (.seq (Zs [.mv 4 (ci 0)] [0,3,4] (.block 0 (.loop ([0,3,4],[]) (.seq (Zs [mS 5 4,mS 6 0,nS 7 6,bS 8 .lss 5 7] [0,3,4,8] (cX 8 0))
(.seq (.block 1 (pr [mS 11 3,bC 12 .mul 11 1000003,mS 13 0,mS 14 4,xS 15 1 13 14,lF 16 1 15,.call 17 [] (.f N4l) [.s 16,.c (.int .i64 2147483647)],bS 18 .add 12 17,bC 19 .add 18 13,bC 20 .rem 19 2147483647,mS 3 20] [0,3,4]))
(pr [mS 9 4,bC 10 .add 9 1,mS 4 10] [0,3,4]))))))
(Zs [mS 21 3,mS 2 21] [2] .ret))))
theorem C2o(l:List Int):Ctr Tryz.prog N24 [aL 1 (l.map encI)] [rI (hashL l)]:=by
 refine cA Mn2 0 22 [(.tmp 2,[false])] Tryz.func326 rfl rfl ?_;unfold Mn2
 intro hb
 simp only[bdA,bdL,bdT,Ke,roomB,and_true,List.length_map]at hb
 have hl:=hb.1
 clear hb
 simp only[go_sem]
 refine K5 l (fun k=>[(3,vI (hashL (l.take k))),(4,vI k)]) (fun k=>[]) (fun _=>True) hl ?_
 simp only[go_sem]
 refine⟨?_,trivial,?_,?_⟩
 ·simp only[go_sem,List.take_zero]
  rfl
 ·intro k x hx _ h0 h1 hw
  simp only[go_sem,K4 hx,h0,h1,Kas hx]
  apply K0 (Cpa _)
  simp only[go_sem,hw,K61]
  try intro _
  rfl
 ·intro _
  simp only[go_sem,List.take_length]
def Mmw:MC:=
(Zs [.mv 2 (ci 0)] [0] (Zs [.mv 3 (ci 11)] [0,3] (.seq (Zs [mS 6 0,nS 7 6,.mv 8 (ci 0)] [3,6,7,8] (.block 0 (.loop ([3,6,7,8],[]) (Zs [bS 9 .lss 8 7] [3,6,7,8,9] (.seq (cX 9 0)
(.seq (.block 1 (Zs [xS 10 1 6 8,lF 11 1 10,mS 5 11] [3,5,6,7,8] (pr [mS 12 3,bC 13 .mul 12 1000003,mS 14 5,.call 15 [] (.f N4j) [.s 14,.c (.int .i64 2147483647)],bS 16 .add 13 15,bC 17 .add 16 13,bC 18 .rem 17 2147483647,mS 3 18] [3,6,7,8])))
(pr [bC 19 .add 8 1,mS 8 19] [3,6,7,8])))))))
(Zs [mS 20 3,mS 2 20] [2] .ret))))
theorem C2n(l:List Int):Ctr Tryz.prog N20 [aL 1 (l.map encI)] [rI (hashL l)]:=by
 refine cA Mmw 0 21 [(.tmp 2,[false])] Tryz.func313 rfl rfl ?_;unfold Mmw
 intro hb
 simp only[bdA,bdL,bdT,Ke,roomB,and_true,List.length_map]at hb
 have hl:=hb.1
 clear hb
 simp only[go_sem]
 refine K5 l (fun k=>[(3,vI (hashL (l.take k))),(8,vI k)]) (fun k=>[]) (fun _=>True) hl ?_
 simp only[go_sem]
 refine⟨?_,trivial,?_,?_⟩
 ·simp only[go_sem,List.take_zero]
  rfl
 ·intro k x hx _ h0 h1 hw
  simp only[go_sem,K4 hx,h0,h1,Kas hx]
  apply K0 (Cp9 _)
  simp only[go_sem,hw,K61]
  try intro _
  rfl
 ·intro _
  simp only[go_sem,List.take_length]
def rootF:Nat→List Int→Int
 |0,_=>0
 |n+1,l=>match l with
  | []=>0
  | [x]=>x
  |x::y::l=>hashL [rootF n ((x::y::l).take ((l.length+3)/2)),rootF n ((x::y::l).drop ((l.length+3)/2))]
theorem K62:∀ {n m:Nat} {l:List Int},l.length≤n→l.length≤m→rootF n l=rootF m l
 |0,0,_,_,_=>rfl
 |0,m+1,l,h,_=>by
  obtain rfl:l=[]:=List.length_eq_zero_iff.1 (by omega)
  rfl
 |n+1,0,l,_,h=>by
  obtain rfl:l=[]:=List.length_eq_zero_iff.1 (by omega)
  rfl
 |n+1,m+1,[],_,_=>rfl
 |n+1,m+1,[x],_,_=>rfl
 |n+1,m+1,x::y::l,h,k=>by
  simp only[List.length_cons]at h k
  simp only[rootF]
  rw[K62 (n:=n) (m:=m) (by rw[List.length_take];simp only[List.length_cons];omega) (by rw[List.length_take];simp only[List.length_cons];omega),K62 (n:=n) (m:=m) (l:=(x::y::l).drop _) (by rw[List.length_drop];simp only[List.length_cons];omega) (by rw[List.length_drop];simp only[List.length_cons];omega)]
def rootL(l:List Int):Int:=rootF l.length l
theorem rootF_two{n x y:_}{l:List Int}:rootF (n+1) (x::y::l)=hashL [rootF n ((x::y::l).take ((l.length+3)/2)),rootF n ((x::y::l).drop ((l.length+3)/2))]:=rfl
theorem Kce{l:List Int}(h:2≤l.length):rootL l=hashL [rootL (l.take ((l.length+1)/2)),rootL (l.drop ((l.length+1)/2))]:=by
 match l,h with
 |x::y::l,h=>
  have e:(x::y::l).length+1=l.length+3:=by simp
  rw[e]
  unfold rootL
  rw[show(x::y::l).length=(l.length+1)+1 from by simp,rootF_two]
  rw[K62 (n:=l.length+1) (l:=(x::y::l).take _) (by rw[List.length_take];simp only[List.length_cons];omega) (Nat.le_refl _),K62 (n:=l.length+1) (l:=(x::y::l).drop _) (by rw[List.length_drop];simp only[List.length_cons];omega) (Nat.le_refl _)]
theorem two_ne:¬(2:Int)=0:=by decide
theorem K8h{α:Type}{f:α→List T}{l:List α}{m:Nat}(h:m≤l.length):(if ((m:Int)-0).toNat=l.length then l.map f else List.take ((m:Int)-0).toNat (l.map f))=(l.take m).map f:=by
 rw[show((m:Int)-0).toNat=m by omega]
 split
 ·rename_i e;rw[List.take_of_length_le (by omega)]
 ·rw[List.map_take]
theorem Kal{α:Type}{f:α→List T}{l:List α}{m:Nat}(h:m≤l.length):(if m=0∧((l.length:Int)-(m:Int)).toNat=l.length then l.map f else List.take ((l.length:Int)-(m:Int)).toNat (List.drop m (l.map f)))=(l.drop m).map f:=by
 rw[show((l.length:Int)-(m:Int)).toNat=l.length-m by omega]
 split
 ·rename_i e;rw[e.1];rfl
 ·rw[List.take_of_length_le (by simp),List.map_drop]
def Y22(v0:Nat)(v1:Nat):MC:=
(Zs [.mv 2 (ci 0)] [0] (.seq (Zs [mS 4 0,nS 5 4] [0,5] (.block 0 (Zs [bC 7 .eql 5 0,mS 6 7] [0,5,6] (.cond (.s 6) (Zs [.mv 2 (ci 0)] [2] .ret) (Zs [bC 9 .eql 5 1,mS 8 9] [0,8] (.cond (.s 8) (Zs [mS 10 0,.idx 11 1 (.s 10) (ci 0),lF 12 1 11,mS 2 12] [2] .ret) .skip))))))
(Zs [mS 13 0,nS 14 13,bC 15 .add 14 1,bC 16 .quo 15 2,mS 3 16] [0,3] (.seq (.dreg [Zc [18,21,22,23] (mS 17 0),Zc [17,21,22,23] (mS 18 3),Zd [21,22,23] [0,1] (.slc 19 1 (.s 17) none (some (.s 18)) none),Zd [21,22,23] [0,1,2] (.call 20 [] (.f v0) [.s 19]),Zc [17,18,19,20,22] (mS 21 0),Zc [17,18,19,20,21] (mS 22 3),Zd [17,18,19,20] [4,5] (.slc 23 1 (.s 21) (some (.s 22)) none none),Ze (.range 7) (.call 24 [] (.f v0) [.s 23]),{o:= .lit 25 0 1 8 [.s 20,.s 24],ws:=[0],bf:=(.range 8)},Ze (.range 9) (.call 26 [] (.f v1) [.s 25]),Ze (.range 10) (mS 2 26)] [2])
.ret))))
attribute [go_sem] Y22
def M5c:MC:=Y22 N5h N24
theorem Cj9(n:Nat):∀(l:List Int),l.length≤n→Ctr Tryz.prog N5h [aL 1 (l.map encI)] [rI (rootL l)]:=by
 induction n with
 |zero=>
  intro l hn
  obtain rfl:l=[]:=List.length_eq_zero_iff.1 (by omega)
  refine cA M5c 1 27 [(.tmp 2,[false])] Tryz.func325 rfl rfl ?_;unfold M5c
  intro hb
  clear hb
  simp only[go_sem]
  rfl
 |succ n ih=>
  intro l hn
  refine cA M5c 1 27 [(.tmp 2,[false])] Tryz.func325 rfl rfl ?_;unfold M5c
  intro hb
  simp only[bdA,bdL,bdT,Ke,roomB,and_true,List.length_map]at hb
  have hl:=hb.1
  clear hb
  have hM1:IntKind.i64.wrap ((l.length:Int)+1)=((l.length+1:Nat):Int):=by rw[wI (by omega) (by omega)];omega
  have hM2:((l.length+1:Nat):Int).tdiv 2=(((l.length+1)/2:Nat):Int):=rfl
  have hM3:IntKind.i64.wrap ((((l.length+1)/2:Nat):Int))=(((l.length+1)/2:Nat):Int):=wI (by omega) (by omega)
  simp only[go_sem,two_ne,hM1,hM2,hM3]
  refine And.intro ?_ ?_<;>intro h
  ·obtain rfl:l=[]:=List.length_eq_zero_iff.1 (by omega)
   rfl
  refine And.intro ?_ ?_<;>intro h2
  ·match l,h2 with
   | [x],_=>simp only[go_sem];exact⟨by simp,rfl⟩
   |x::y::l,h2=>simp at h2;omega
  ·generalize hm:(l.length+1)/2=m at*
   rw[K8h (by omega)]
   refine⟨⟨by omega,by omega,by omega⟩,?_⟩
   apply K0 (ih _ (by rw[List.length_take];omega))
   simp only[go_sem]
   rw[Kal (by omega)]
   intros
   refine⟨⟨by omega,by omega⟩,?_⟩
   apply K0 (ih _ (by rw[List.length_drop];omega))
   simp only[go_sem]
   refine⟨by decide,?_⟩
   apply K0 (C2o [rootL (l.take m),rootL (l.drop m)])
   simp only[go_sem]
   intros
   rw[Kce (l:=l) (by omega),hm]
def M5b:MC:=Y22 N5e N20
theorem Cj5(n:Nat):∀(l:List Int),l.length≤n→Ctr Tryz.prog N5e [aL 1 (l.map encI)] [rI (rootL l)]:=by
 induction n with
 |zero=>
  intro l hn
  obtain rfl:l=[]:=List.length_eq_zero_iff.1 (by omega)
  refine cA M5b 1 27 [(.tmp 2,[false])] Tryz.func315 rfl rfl ?_;unfold M5b
  intro hb
  clear hb
  simp only[go_sem]
  rfl
 |succ n ih=>
  intro l hn
  refine cA M5b 1 27 [(.tmp 2,[false])] Tryz.func315 rfl rfl ?_;unfold M5b
  intro hb
  simp only[bdA,bdL,bdT,Ke,roomB,and_true,List.length_map]at hb
  have hl:=hb.1
  clear hb
  have hM1:IntKind.i64.wrap ((l.length:Int)+1)=((l.length+1:Nat):Int):=by rw[wI (by omega) (by omega)];omega
  have hM2:((l.length+1:Nat):Int).tdiv 2=(((l.length+1)/2:Nat):Int):=rfl
  have hM3:IntKind.i64.wrap ((((l.length+1)/2:Nat):Int))=(((l.length+1)/2:Nat):Int):=wI (by omega) (by omega)
  simp only[go_sem,two_ne,hM1,hM2,hM3]
  refine And.intro ?_ ?_<;>intro h
  ·obtain rfl:l=[]:=List.length_eq_zero_iff.1 (by omega)
   rfl
  refine And.intro ?_ ?_<;>intro h2
  ·match l,h2 with
   | [x],_=>simp only[go_sem];exact⟨by simp,rfl⟩
   |x::y::l,h2=>simp at h2;omega
  ·generalize hm:(l.length+1)/2=m at*
   rw[K8h (by omega)]
   refine⟨⟨by omega,by omega,by omega⟩,?_⟩
   apply K0 (ih _ (by rw[List.length_take];omega))
   simp only[go_sem]
   rw[Kal (by omega)]
   intros
   refine⟨⟨by omega,by omega⟩,?_⟩
   apply K0 (ih _ (by rw[List.length_drop];omega))
   simp only[go_sem]
   refine⟨by decide,?_⟩
   apply K0 (C2n [rootL (l.take m),rootL (l.drop m)])
   simp only[go_sem]
   intros
   rw[Kce (l:=l) (by omega),hm]
end Go.Proofs.YtjneccbpkckdfaaGreatR
namespace Go.Proofs.YtjneccbpkckdfaaGreatR
open Go Go.RowKit Go.Proofs
open Nat (reduceEqDiff reduceLT reduceLeDiff reduceAdd reduceMul)
open List (reduceReplicate)
def K4a(r:GResource):List Int:=[r.Kind,r.To.Host,r.To.Path,r.To.Query,r.Body.length]++r.Body
def K4n(c:GCapture):List Int:=[c.Address.Host,c.Address.Path,c.Address.Query,c.Tick]++K4a c.Resource
theorem K9n(r:GResource):(K4a r).length=5+r.Body.length:=by simp[K4a];omega
def Y23:MC:=
(Zs [.box 1 0 (.s 0),.nilo 2 1 1] [1] (Zs [fS 3 1 0,lF 4 1 3,fS 5 1 2,fS 6 5 0,lF 7 1 6,fS 8 1 2,fS 9 8 1,lF 10 1 9,fS 11 1 2,fS 12 11 2,lF 13 1 12,fS 14 1 1,lF 15 1 14,nS 16 15,.lit 17 1 1 8 [.s 4,.s 7,.s 10,.s 13,.s 16],fS 18 1 1,lF 19 1 18,.app 20 1 1 8 (.s 17) (.s 19),mS 2 20] [2] .ret))
attribute [go_sem] Y23
def M82:MC:=Y23
theorem Ckr(r:GResource)(hs:r.Body.length≤1073741824):Ctr Tryz.prog N8p [aS r.enc] [rL 1 ((K4a r).map encI)]:=by
 refine cA M82 2 21 [(.tmp 2,[true])] Tryz.func388 rfl rfl ?_;unfold M82
 intro hb
 clear hb
 simp only[go_sem,↓Ko (f:=encI) (fun _=>rfl) r.Body]
 simp only[roomB]
 refine⟨by decide,by omega,?_⟩
 simp[K4a,encI]
 omega
def M7f:MC:=Y23
theorem Cka(r:GResource)(hs:r.Body.length≤1073741824):Ctr Tryz.prog N88 [aS r.enc] [rL 1 ((K4a r).map encI)]:=by
 refine cA M7f 2 21 [(.tmp 2,[true])] Tryz.func364 rfl rfl ?_;unfold M7f
 intro hb
 clear hb
 simp only[go_sem,↓Ko (f:=encI) (fun _=>rfl) r.Body]
 simp only[roomB]
 refine⟨by decide,by omega,?_⟩
 simp[K4a,encI]
 omega
def Y24(v0:Nat):MC:=
(Zs [.box 1 0 (.s 0),.nilo 2 1 1] [1] (.seq (.dreg [Zf [6,7,8,9,10,11,12,13,15,16,17] [2] (fS 3 1 0),Zg [6,7,8,9,10,11,12,13,15,16,17] [2] [0] (fS 4 3 0),Zg [6,7,8,9,10,11,12,13,15,16,17] [2] [0,1] (lF 5 1 4),Zf [3,4,5,9,10,11,12,13,15,16,17] [2] (fS 6 1 0),Zg [3,4,5,9,10,11,12,13,15,16,17] [2] [3] (fS 7 6 1),Zg [3,4,5,9,10,11,12,13,15,16,17] [2] [3,4] (lF 8 1 7),Zf [3,4,5,6,7,8,12,13,15,16,17] [2] (fS 9 1 0),Zg [3,4,5,6,7,8,12,13,15,16,17] [2] [6] (fS 10 9 2),Zg [3,4,5,6,7,8,12,13,15,16,17] [2] [6,7] (lF 11 1 10),Zf [3,4,5,6,7,8,9,10,11,15,16,17] [2] (fS 12 1 3),Zg [3,4,5,6,7,8,9,10,11,15,16,17] [2] [9] (lF 13 1 12),{o:= .lit 14 1 1 8 [.s 5,.s 8,.s 11,.s 13],hs:=[15,16,17],ho:=[2],ws:=[1],bf:=(.range 11)},Zf [3,4,5,6,7,8,9,10,11,12,13,14] [1] (fS 15 1 4),Zg [3,4,5,6,7,8,9,10,11,12,13,14] [1] [12] (lT 16 5 15),{o:= .call 17 [2] (.f v0) [.s 16],hs:=[3,4,5,6,7,8,9,10,11,12,13,14],ho:=[1],ws:=[2],bf:=[12,13]},{o:= .app 18 1 1 8 (.s 14) (.s 17),ws:=[1],bf:=(.range 15)},Ze (.range 16) (mS 2 18)] [2])
.ret))
attribute [go_sem] Y24
def M9v:MC:=Y24 N8p
theorem Cla(c:GCapture)(hs:c.Resource.Body.length≤1073741824):Ctr Tryz.prog Nai [aS c.enc] [rL 1 ((K4n c).map encI)]:=by
 refine cA M9v 3 19 [(.tmp 2,[true])] Tryz.func369 rfl rfl ?_;unfold M9v
 intro hb
 clear hb
 simp only[go_sem]
 refine⟨by decide,?_⟩
 apply K0 (Ckr c.Resource hs)
 simp only[go_sem,↓Ko (f:=encI) (fun _=>rfl) (K4a c.Resource),K9n]
 simp only[roomB]
 exact⟨by omega,fun _=>⟨by omega,by simp[K4n,encI]⟩⟩
def M9b:MC:=Y24 N88
theorem Ckt(c:GCapture)(hs:c.Resource.Body.length≤1073741824):Ctr Tryz.prog Na5 [aS c.enc] [rL 1 ((K4n c).map encI)]:=by
 refine cA M9b 3 19 [(.tmp 2,[true])] Tryz.func314 rfl rfl ?_;unfold M9b
 intro hb
 clear hb
 simp only[go_sem]
 refine⟨by decide,?_⟩
 apply K0 (Cka c.Resource hs)
 simp only[go_sem,↓Ko (f:=encI) (fun _=>rfl) (K4a c.Resource),K9n]
 simp only[roomB]
 exact⟨by omega,fun _=>⟨by omega,by simp[K4n,encI]⟩⟩
def K22(l:List GEntry):List Int:=l.flatMap fun e=>[e.Kind,e.Address.Host,e.Address.Path,e.Address.Query,e.Value]
theorem K8j{l:List GEntry}{k:Nat}{x:GEntry}(h:l[k]? =some x):K22 (l.take (k+1))=K22 (l.take k)++[x.Kind,x.Address.Host,x.Address.Path,x.Address.Query,x.Value]:=by
 rw[Kc h,K22,List.flatMap_append];rfl
theorem K9i{l:List GEntry}:(K22 l).length=5*l.length:=by
 induction l with
 |nil=>rfl
 |cons x l ih=>simp only[K22,List.flatMap_cons,List.length_append,List.length_cons,List.length_nil]at ih ⊢;omega
def Mcf:MC:=
(Zs [.nilo 2 0 1] [0] (Zs [.lit 6 0 1 8 [],mS 3 6] [0,3] (.seq (Zs [.mv 4 (ci 0)] [0,3,4] (.block 0 (.loop ([0,3,4],[1,2]) (.seq (Zs [mS 7 4,mS 8 0,nS 9 8,bS 10 .lss 7 9] [0,3,4,10] (cX 10 0))
(.seq (.block 1 (Zs [mS 13 0,mS 14 4,xS 15 5 13 14,lT 16 5 15,.alloc 5 1 [pz,pz,pz,pz,pz],sS 5 5 16] [0,3,4,5] (pr [mS 17 3,fS 18 5 0,lF 19 1 18,fS 20 5 1,fS 21 20 0,lF 22 1 21,fS 23 5 1,fS 24 23 1,lF 25 1 24,fS 26 5 1,fS 27 26 2,lF 28 1 27,fS 29 5 4,lF 30 1 29,.lit 31 2 1 8 [.s 19,.s 22,.s 25,.s 28,.s 30],.app 32 0 1 8 (.s 17) (.s 31),mS 3 32] [0,3,4])))
(pr [mS 11 4,bC 12 .add 11 1,mS 4 12] [0,3,4]))))))
(Zs [mS 33 3,mS 2 33] [2] .ret))))
theorem Cms(xs:List GEntry)(hN:xs.length≤1073741824):Ctr Tryz.prog Ndh [aL 5 (xs.map GEntry.enc)] [rL 1 ((K22 xs).map encI)]:=by
 refine cA Mcf 3 34 [(.tmp 2,[true])] Tryz.func328 rfl rfl ?_;unfold Mcf
 intro hb
 simp only[bdA,bdL,bdT,Ke,roomB,and_true,List.length_map]at hb
 obtain⟨hl,-⟩:=hb
 simp only[go_sem]
 refine K5 xs (fun k=>[(3,.val false [.ref 0 0 1 0 (K22 (xs.take k)).length]),(4,vI k)]) (fun k=>[(0,⟨0,.row true 1 ((K22 (xs.take k)).map encI)⟩)]) (fun _=>True) hl ?_
 simp only[go_sem]
 refine⟨?_,trivial,?_,?_⟩
 ·simp only[go_sem,List.take_zero]
  exact⟨rfl,rfl⟩
 ·intro k x hx _ h0 h1 hw
  have hlt:=List.length_take_le k xs
  simp only[go_sem,K4 hx,h0,h1,hw,K8j hx,List.length_append,K9i]
  refine⟨⟨by simp,by decide⟩,by simp only[roomB];omega,by simp[encI]⟩
 ·intro _
  simp only[go_sem,List.take_length]
def K1h(l:List GCapture):List Int:=l.map fun c=>hashL (K4n c)
theorem K74{l:List GCapture}{k:Nat}{x:GCapture}(h:l[k]? =some x):K1h (l.take (k+1))=K1h (l.take k)++[hashL (K4n x)]:=by
 rw[Kc h,K1h,List.map_append];rfl
theorem K8a{l:List GCapture}:(K1h l).length=l.length:=by simp[K1h]
theorem body_le{xs:List GCapture}{x:GCapture}{k:Nat}{n:Nat}(hx:xs[k]? =some x)(hs:xs.length+(xs.map GCapture.size).sum≤n):x.Resource.Body.length≤n:=by
 have hx1:=Kz (f:=GCapture.size) (Km hx)
 simp only[GCapture.size,GResource.size]at hx1 hs
 omega
def Ma3:MC:=
(Zs [.nilo 2 0 1] [0] (Zs [.lit 5 0 1 8 [],mS 3 5] [0,3] (.seq (Zs [.mv 4 (ci 0)] [0,3,4] (.block 0 (.loop ([0,3,4],[1,2]) (.seq (Zs [mS 6 4,mS 7 0,nS 8 7,bS 9 .lss 6 8] [0,3,4,9] (cX 9 0))
(.seq (.block 1 (pr [mS 12 3,mS 13 0,mS 14 4,xS 15 9 13 14,lT 16 9 15,.call 17 [1] (.f Nai) [.s 16],.call 18 [] (.f N24) [.s 17],.lit 19 2 1 8 [.s 18],.app 20 0 1 8 (.s 12) (.s 19),mS 3 20] [0,3,4]))
(pr [mS 10 4,bC 11 .add 10 1,mS 4 11] [0,3,4]))))))
(Zs [mS 21 3,mS 2 21] [2] .ret))))
theorem Clg(xs:List GCapture)(hs:xs.length+(xs.map GCapture.size).sum≤1073741824):Ctr Tryz.prog Nao [aL 9 (xs.map GCapture.enc)] [rL 1 ((K1h xs).map encI)]:=by
 refine cA Ma3 3 22 [(.tmp 2,[true])] Tryz.func329 rfl rfl ?_;unfold Ma3
 intro hb
 clear hb
 simp only[go_sem]
 refine K5 xs (fun k=>[(3,.val false [.ref 0 0 1 0 (K1h (xs.take k)).length]),(4,vI k)]) (fun k=>[(0,⟨0,.row true 1 ((K1h (xs.take k)).map encI)⟩)]) (fun _=>True) (by simp only[roomB];omega) ?_
 simp only[go_sem]
 refine⟨?_,trivial,?_,?_⟩
 ·simp only[go_sem,List.take_zero]
  exact⟨rfl,rfl⟩
 ·intro k x hx _ h0 h1 hw
  have hlt:=List.length_take_le k xs
  simp only[go_sem,K4 hx,h0,h1,K74 hx,List.length_append]
  apply K0 (Cla x (body_le hx hs))
  simp only[go_sem]
  try intro _
  apply K0 (C2o (K4n x))
  simp only[go_sem,hw]
  simp only[roomB,K8a]
  exact⟨by omega,by omega,fun _=>by simp[encI]⟩
 ·intro _
  simp only[go_sem,List.take_length]
def K82(l:List GOp)(es:List GEntry)(cs:List GCapture):Int:=rootL [hashL (K19 l),hashL (K22 es),rootL (K1h cs)]
def M6l:MC:=
(Zs [.alloc 6 0 [.emp 4,.emp 5,.emp 9,pz]] [0,1,2,6] (Zs [.lit 8 1 4 32 [],mS 9 0,.app 10 1 4 32 (.s 8) (.s 9),.lit 11 2 5 40 [],mS 12 1,.app 13 2 5 40 (.s 11) (.s 12),mS 14 2,.call 15 [3] (.f Niq) [.s 14],.build 16 [.emp 4,.emp 5,.emp 9,pz] [(0,1,.s 10),(1,1,.s 13),(2,1,.s 15)],.alloc 7 4 [.emp 4,.emp 5,.emp 9,pz],sS 4 7 16] [0,1,2,6,7] (Zs [mS 17 0,.call 18 [5] (.f Ndc) [.s 17],.call 19 [] (.f N24) [.s 18],mS 20 1,.call 21 [6] (.f Ndh) [.s 20],.call 22 [] (.f N24) [.s 21],mS 23 2,.call 24 [7] (.f Nao) [.s 23],.call 25 [] (.f N5h) [.s 24],.lit 26 8 1 8 [.s 19,.s 22,.s 25],.call 27 [] (.f N5h) [.s 26],fS 28 7 3,sS 1 28 27] [6,7] (Zs [lT 29 4 7,sS 4 6 29] [6] .ret))))
theorem C39(l:List GOp)(es:List GEntry)(cs:List GCapture)(h1:l.length≤1073741824)(h2:es.length≤1073741824)(hs:cs.length+(cs.map GCapture.size).sum≤1073741824):
  Ctr Tryz.prog N1w [aL 4 (l.map GOp.enc),aL 5 (es.map GEntry.enc),aL 9 (cs.map GCapture.enc)] [rS (GContainer.enc ⟨l,es,cs,K82 l es cs⟩)]:=by
 refine cA M6l 9 30 [(.cell 6 true 4,[true,true,true,false])] Tryz.func244 rfl rfl ?_;unfold M6l
 intro hb
 clear hb
 simp only[go_sem,↓Ko (f:=GOp.enc) (fun _=>rfl) l,↓Ko (f:=GEntry.enc) (fun _=>rfl) es]
 simp only[roomB]
 refine⟨by omega,by omega,?_⟩
 apply K0 (Coo cs hs)
 simp only[go_sem]
 intros
 apply K0 (Cmn l (by omega))
 simp only[go_sem]
 apply K0 (C2o (K19 l))
 simp only[go_sem]
 apply K0 (Cms es h2)
 simp only[go_sem]
 apply K0 (C2o (K22 es))
 simp only[go_sem]
 apply K0 (Clg cs hs)
 simp only[go_sem]
 apply K0 (Cj9 _ (K1h cs) (Nat.le_refl _))
 simp only[go_sem]
 refine⟨by decide,?_⟩
 apply K0 (Cj9 _ [hashL (K19 l),hashL (K22 es),rootL (K1h cs)] (Nat.le_refl _))
 simp only[go_sem]
 intros
 rfl
def Mi9:MC:=
(Zs [.box 1 0 (.s 0),.alloc 2 1 [.emp 4,.emp 5,.emp 9,pz]] [1,2] (Zs [fS 4 1 0,lF 5 1 4,fS 6 1 1,lF 7 1 6,fS 8 1 2,lF 9 1 8,.call 10 [2,3,4] (.f N1w) [.s 5,.s 7,.s 9],.alloc 3 5 [.emp 4,.emp 5,.emp 9,pz],sS 4 3 10] [1,2,3] (Zs [fS 11 1 3,lF 12 1 11,fS 13 3 3,sS 1 13 12] [2,3] (Zs [lT 14 4 3,sS 4 2 14] [2] .ret))))
theorem C8s(x:GContainer)(hs:x.size≤1073741824):Ctr Tryz.prog N4m [aS x.enc] [rS x.enc]:=by
 refine cA Mi9 6 15 [(.cell 2 true 4,[true,true,true,false])] Tryz.func234 rfl rfl ?_;unfold Mi9
 intro hb
 clear hb
 simp only[GContainer.size]at hs
 simp only[go_sem]
 apply K0 (C39 x.Script x.Entries x.Captures (by omega) (by omega) (by omega))
 simp only[go_sem]
 try intros
 try trivial
def M5q:MC:=
(Zs [.nilo 2 0 4] [0] (Zs [.nilo 3 0 4] [0,3] (.seq (Zs [mS 6 0,nS 7 6,.mv 8 (ci 0)] [3,6,7,8] (.block 0 (.loop ([3,6,7,8],[1,2,3,4,5]) (Zs [bS 9 .lss 8 7] [3,6,7,8,9] (.seq (cX 9 0)
(.seq (.block 1 (Zs [xS 10 4 6 8,lT 11 4 10,.alloc 5 1 [.emp 4,.emp 5,.emp 9,pz],sS 4 5 11] [3,5,6,7,8] (.dreg [Zf [13,14,15,16,17,18,19,20,21,22,23,24,25] [2,3,4,5] (mS 12 3),Zc [12,16,17,19,20,22,23] (fS 13 5 0),Zd [12,16,17,19,20,22,23] [1] (lF 14 1 13),{o:= .call 15 [2] (.f Ni) [.s 14],hs:=[12,16,17,19,20,22,23],ws:=[2],bf:=[1,2]},Zf [12,13,14,15,19,20,22,23] [2] (fS 16 5 1),Zg [12,13,14,15,19,20,22,23] [2] [4] (lF 17 1 16),{o:= .call 18 [3] (.f Nl) [.s 17],hs:=[12,19,20,22,23],ws:=[3],bf:=[1,2,3,4,5]},Zf [12,13,14,15,16,17,18,22,23] [2,3] (fS 19 5 2),Zg [12,13,14,15,16,17,18,22,23] [2,3] [7] (lF 20 1 19),{o:= .call 21 [4] (.f N3q) [.s 20],hs:=[12,22,23],ws:=[4],bf:=[1,2,3,4,5,6,7,8]},Zf [12,13,14,15,16,17,18,19,20,21] [2,3,4] (fS 22 5 3),Zg [12,13,14,15,16,17,18,19,20,21] [2,3,4] [10] (lF 23 1 22),Zd [12] [1,2,3,4,5,6,7,8,9,10,11] (.build 24 [.emp 4,.emp 5,.emp 9,pz] [(0,1,.s 15),(1,1,.s 18),(2,1,.s 21),(3,1,.s 23)]),{o:= .lit 25 5 4 80 [.s 24],hs:=[12],ws:=[2,3,4,5],bf:=[1,2,3,4,5,6,7,8,9,10,11,12]},{o:= .app 26 0 4 80 (.s 12) (.s 25),ws:=[0,5],bf:=(.range 14)},Ze (.range 15) (mS 3 26)] [3,6,7,8])))
(pr [bC 27 .add 8 1,mS 8 27] [3,6,7,8])))))))
(Zs [mS 28 3,mS 2 28] [2] .ret))))
theorem C2x(xs:List GContainer)(hs:xs.length+(xs.map GContainer.size).sum≤1073741824):Ctr Tryz.prog N1p [aL 4 (xs.map GContainer.enc)] [rL 4 (xs.map GContainer.enc)]:=by
 refine cA M5q 6 29 [(.tmp 2,[true])] Tryz.func120 rfl rfl ?_;unfold M5q
 intro hb
 clear hb
 simp only[go_sem]
 refine K5 xs (fun k=>[(3,.val false [.ref 0 0 4 0 (xs.take k).length]),(8,vI k)]) (fun k=>[(0,⟨0,.row true 4 ((xs.take k).map GContainer.enc)⟩)]) (fun _=>True) (by simp only[roomB];omega) ?_
 simp only[go_sem]
 refine⟨?_,trivial,?_,?_⟩
 ·simp only[go_sem,List.take_zero]
 ·intro k x hx _ h0 h1 hw
  have hk:k<xs.length:=by omega
  have hlt:=List.length_take_le k xs
  have hx1:=Kz (f:=GContainer.size) (Km hx)
  simp only[GContainer.size]at hx1
  simp only[go_sem,K4 hx,h0,h1]
  apply K0 (C4t x.Script (by omega))
  simp only[go_sem]
  try intro _
  apply K0 (C6a x.Entries (by omega))
  simp only[go_sem]
  try intro _
  apply K0 (C74 x.Captures (by omega))
  simp only[go_sem,hw]
  simp only[roomB]
  exact⟨by omega,by omega,fun _=>⟨K3o hx,K3p hx⟩⟩
 ·intro _
  simp only[go_sem,List.take_length]
def Mg9:MC:=Y19
theorem Cfx(xs:List GVersion)(hs:xs.length+(xs.map GVersion.size).sum≤1073741824):Ctr Tryz.prog N6u [aL 9 (xs.map GVersion.enc)] [rL 9 (xs.map GVersion.enc)]:=by
 refine cA Mg9 4 25 [(.tmp 2,[true])] Tryz.func166 rfl rfl ?_;unfold Mg9
 intro hb
 clear hb
 simp only[go_sem]
 refine K5 xs (fun k=>[(3,.val false [.ref 0 0 9 0 (xs.take k).length]),(8,vI k)]) (fun k=>[(0,⟨0,.row true 9 ((xs.take k).map GVersion.enc)⟩)]) (fun _=>True) (by simp only[roomB];omega) ?_
 simp only[go_sem]
 refine⟨?_,trivial,?_,?_⟩
 ·simp only[go_sem,List.take_zero]
 ·intro k x hx _ h0 h1 hw
  have hk:k<xs.length:=by omega
  have hlt:=List.length_take_le k xs
  have hx1:=Kz (f:=GVersion.size) (Km hx)
  simp only[go_sem,K4 hx,h0,h1]
  apply K0 (C3n x.Resource (by simp only[GVersion.size,GResource.size]at hx1;omega))
  simp only[go_sem,hw]
  simp only[roomB]
  exact⟨by omega,by omega,fun _=>⟨K3o hx,K3p hx⟩⟩
 ·intro _
  simp only[go_sem,List.take_length]
def Mid:MC:=Y20
theorem C8t(xs:List GVersion)(hs:xs.length+(xs.map GVersion.size).sum≤1073741824):Ctr Tryz.prog N4n [aL 9 (xs.map GVersion.enc)] [rL 9 (xs.map GVersion.enc)]:=by
 refine cA Mid 3 33 [(.tmp 2,[true])] Tryz.func146 rfl rfl ?_;unfold Mid
 intro hb
 clear hb
 simp only[go_sem]
 refine K5 xs (fun k=>[(3,.val false [.ref 0 0 9 0 (xs.take k).length]),(4,vI k)]) (fun k=>[(0,⟨0,.row true 9 ((xs.take k).map GVersion.enc)⟩)]) (fun _=>True) (by simp only[roomB];omega) ?_
 simp only[go_sem]
 refine⟨?_,trivial,?_,?_⟩
 ·simp only[go_sem,List.take_zero]
 ·intro k x hx _ h0 h1 hw
  have hk:k<xs.length:=by omega
  have hlt:=List.length_take_le k xs
  have hx1:=Kz (f:=GVersion.size) (Km hx)
  simp only[go_sem,K4 hx,h0,h1]
  apply K0 (Cau x.Resource (by simp only[GVersion.size,GResource.size]at hx1;omega))
  simp only[go_sem,hw]
  simp only[roomB]
  exact⟨by omega,by omega,fun _=>⟨K3o hx,K3p hx⟩⟩
 ·intro _
  simp only[go_sem,List.take_length]
def M6j:MC:=
(Zs [.nilo 2 0 4] [0] (Zs [.nilo 3 0 4] [0,3] (.seq (Zs [mS 6 0,nS 7 6,.mv 8 (ci 0)] [3,6,7,8] (.block 0 (.loop ([3,6,7,8],[1,2,3]) (Zs [bS 9 .lss 8 7] [3,6,7,8,9] (.seq (cX 9 0)
(.seq (.block 1 (Zs [xS 10 4 6 8,lT 11 4 10,.alloc 5 1 [pz,.emp 1,.pl (.sc (.bool false)),.pl (.sc (.bool false))],sS 4 5 11] [3,5,6,7,8] (Zs [fS 12 5 1,lF 13 1 12,.call 14 [2] (.f N4) [.s 13],fS 15 5 1,sS 1 15 14] [3,5,6,7,8] (pr [mS 16 3,lT 17 4 5,.lit 18 3 4 40 [.s 17],.app 19 0 4 40 (.s 16) (.s 18),mS 3 19] [3,6,7,8]))))
(pr [bC 20 .add 8 1,mS 8 20] [3,6,7,8])))))))
(Zs [mS 21 3,mS 2 21] [2] .ret))))
theorem C69(xs:List GLibrary)(hs:xs.length+(xs.map GLibrary.size).sum≤1073741824):Ctr Tryz.prog N3d [aL 4 (xs.map GLibrary.enc)] [rL 4 (xs.map GLibrary.enc)]:=by
 refine cA M6j 4 22 [(.tmp 2,[true])] Tryz.func176 rfl rfl ?_;unfold M6j
 intro hb
 clear hb
 simp only[go_sem]
 refine K5 xs (fun k=>[(3,.val false [.ref 0 0 4 0 (xs.take k).length]),(8,vI k)]) (fun k=>[(0,⟨0,.row true 4 ((xs.take k).map GLibrary.enc)⟩)]) (fun _=>True) (by simp only[roomB];omega) ?_
 simp only[go_sem]
 refine⟨?_,trivial,?_,?_⟩
 ·simp only[go_sem,List.take_zero]
 ·intro k x hx _ h0 h1 hw
  have hk:k<xs.length:=by omega
  have hlt:=List.length_take_le k xs
  have hx1:=Kz (f:=GLibrary.size) (Km hx)
  simp only[go_sem,K4 hx,h0,h1]
  apply K0 (Ca x.Digests (by simp only[GLibrary.size]at hx1;omega))
  simp only[go_sem,hw]
  intro _
  simp only[roomB]
  exact⟨by omega,by omega,K3o hx,K3p hx⟩
 ·intro _
  simp only[go_sem,List.take_length]
def Mi8:MC:=
(Zs [.nilo 2 0 4] [0] (Zs [.lit 5 0 4 40 [],mS 3 5] [0,3] (.seq (Zs [.mv 4 (ci 0)] [0,3,4] (.block 0 (.loop ([0,3,4],[1,2]) (.seq (Zs [mS 6 4,mS 7 0,nS 8 7,bS 9 .lss 6 8] [0,3,4,9] (cX 9 0))
(.seq (.block 1 (.dreg [Zf [13,14,15,16,17,18,19,20,21,22,23,24,25,26,27,28,29,30,31,32,33,34,35,36] [1,2] (mS 12 3),Zf [12,14,18,19,20,21,22,23,24,25,26,27,28,29,30,31,32,33,34] [1] (mS 13 0),Zf [12,13,18,19,20,21,22,23,24,25,26,27,28,29,30,31,32,33,34] [1] (mS 14 4),Zg [12,18,19,20,21,22,23,24,25,26,27,28,29,30,31,32,33,34] [1] [1,2] (xS 15 4 13 14),Zg [12,18,19,20,21,22,23,24,25,26,27,28,29,30,31,32,33,34] [1] [1,2,3] (fS 16 15 0),Zg [12,18,19,20,21,22,23,24,25,26,27,28,29,30,31,32,33,34] [1] [1,2,3,4] (lF 17 1 16),{o:= .lit 18 1 1 8 [],hs:=[12,13,14,15,16,17,19,20,21,22,23,25,26,27,28,29,30,31,32,33,34],ws:=[1]},Zf [12,13,14,15,16,17,18,20,25,26,27,28,29,30,31,32,33,34] [1] (mS 19 0),Zf [12,13,14,15,16,17,18,19,25,26,27,28,29,30,31,32,33,34] [1] (mS 20 4),Zg [12,13,14,15,16,17,18,25,26,27,28,29,30,31,32,33,34] [1] [7,8] (xS 21 4 19 20),Zg [12,13,14,15,16,17,18,25,26,27,28,29,30,31,32,33,34] [1] [7,8,9] (fS 22 21 1),Zg [12,13,14,15,16,17,18,25,26,27,28,29,30,31,32,33,34] [1] [7,8,9,10] (lF 23 1 22),{o:= .app 24 1 1 8 (.s 18) (.s 23),hs:=[12,13,14,15,16,17,25,26,27,28,29,30,31,32,33,34],ws:=[1],bf:=[6,7,8,9,10,11]},Zf [12,13,14,15,16,17,18,19,20,21,22,23,24,26,30,31,32,33,34] [1] (mS 25 0),Zf [12,13,14,15,16,17,18,19,20,21,22,23,24,25,30,31,32,33,34] [1] (mS 26 4),Zg [12,13,14,15,16,17,18,19,20,21,22,23,24,30,31,32,33,34] [1] [13,14] (xS 27 4 25 26),Zg [12,13,14,15,16,17,18,19,20,21,22,23,24,30,31,32,33,34] [1] [13,14,15] (fS 28 27 2),Zg [12,13,14,15,16,17,18,19,20,21,22,23,24,30,31,32,33,34] [1] [13,14,15,16] (lF 29 1 28),Zf [12,13,14,15,16,17,18,19,20,21,22,23,24,25,26,27,28,29,31] [1] (mS 30 0),Zf [12,13,14,15,16,17,18,19,20,21,22,23,24,25,26,27,28,29,30] [1] (mS 31 4),Zg [12,13,14,15,16,17,18,19,20,21,22,23,24,25,26,27,28,29] [1] [18,19] (xS 32 4 30 31),Zg [12,13,14,15,16,17,18,19,20,21,22,23,24,25,26,27,28,29] [1] [18,19,20] (fS 33 32 3),Zg [12,13,14,15,16,17,18,19,20,21,22,23,24,25,26,27,28,29] [1] [18,19,20,21] (lF 34 1 33),Zd [12] [1,2,3,4,5,6,7,8,9,10,11,12,13,14,15,16,17,18,19,20,21,22] (.build 35 [pz,.emp 1,.pl (.sc (.bool false)),.pl (.sc (.bool false))] [(0,1,.s 17),(1,1,.s 24),(2,1,.s 29),(3,1,.s 34)]),{o:= .lit 36 2 4 40 [.s 35],hs:=[12],ws:=[1,2],bf:=[1,2,3,4,5,6,7,8,9,10,11,12,13,14,15,16,17,18,19,20,21,22,23]},{o:= .app 37 0 4 40 (.s 12) (.s 36),ws:=[0,2],bf:=(.range 25)},Ze (.range 26) (mS 3 37)] [0,3,4]))
(pr [mS 10 4,bC 11 .add 10 1,mS 4 11] [0,3,4]))))))
(Zs [mS 38 3,mS 2 38] [2] .ret))))
theorem Chm(xs:List GLibrary)(hs:xs.length+(xs.map GLibrary.size).sum≤1073741824):Ctr Tryz.prog N8y [aL 4 (xs.map GLibrary.enc)] [rL 4 (xs.map GLibrary.enc)]:=by
 refine cA Mi8 3 39 [(.tmp 2,[true])] Tryz.func152 rfl rfl ?_;unfold Mi8
 intro hb
 clear hb
 simp only[go_sem]
 refine K5 xs (fun k=>[(3,.val false [.ref 0 0 4 0 (xs.take k).length]),(4,vI k)]) (fun k=>[(0,⟨0,.row true 4 ((xs.take k).map GLibrary.enc)⟩)]) (fun _=>True) (by simp only[roomB];omega) ?_
 simp only[go_sem]
 refine⟨?_,trivial,?_,?_⟩
 ·simp only[go_sem,List.take_zero]
 ·intro k x hx _ h0 h1 hw
  have hk:k<xs.length:=by omega
  have hlt:=List.length_take_le k xs
  have hx1:=Kz (f:=GLibrary.size) (Km hx)
  simp only[GLibrary.size]at hx1
  simp only[go_sem,K4 hx,h0,h1,hw,↓Ko (f:=encI) (fun _=>rfl) x.Digests]
  simp only[roomB]
  exact⟨by omega,by omega,by omega,K3o hx,K3p hx⟩
 ·intro _
  simp only[go_sem,List.take_length]
end Go.Proofs.YtjneccbpkckdfaaGreatR
namespace Go.Proofs.YtjneccbpkckdfaaGreatR
open Go Go.RowKit Go.Proofs
open Nat (reduceEqDiff reduceLT reduceLeDiff reduceAdd reduceMul)
open List (reduceReplicate)
def Mg8:MC:=
(Zs [.box 1 0 (.s 0),.alloc 2 1 [.emp 4,.emp 6,.emp 4]] [1,2] (.seq (.dreg [Zc [6,7,9,10] (fS 3 1 0),Zd [6,7,9,10] [0] (lF 4 1 3),{o:= .call 5 [2] (.f N1p) [.s 4],hs:=[6,7,9,10],ws:=[2],bf:=[0,1]},Zf [3,4,5,9,10] [2] (fS 6 1 1),Zg [3,4,5,9,10] [2] [3] (lF 7 1 6),{o:= .call 8 [3] (.f N1l) [.s 7],hs:=[9,10],ws:=[3],bf:=(.range 5)},Zf [3,4,5,6,7,8] [2,3] (fS 9 1 2),Zg [3,4,5,6,7,8] [2,3] [6] (lF 10 1 9),{o:= .call 11 [4] (.f N1p) [.s 10],ws:=[4],bf:=(.range 8)},Ze (.range 9) (.build 12 [.emp 4,.emp 6,.emp 4] [(0,1,.s 5),(1,1,.s 8),(2,1,.s 11)]),{o:=sS 3 2 12,ws:=[1,2,3,4],bf:=(.range 10)}] [2])
.ret))
theorem C3w(d:GDisk)(hs:d.size≤1073741824):Ctr Tryz.prog N2j [aS d.enc] [rS d.enc]:=by
 refine cA Mg8 5 13 [(.cell 2 true 3,[true,true,true])] Tryz.func117 rfl rfl ?_;unfold Mg8
 intro hb
 clear hb
 simp only[GDisk.size]at hs
 simp only[go_sem]
 apply K0 (C2x d.Containers (by omega))
 simp only[go_sem]
 apply K0 (Ciw d.Index (by omega))
 simp only[go_sem]
 apply K0 (C2x d.Wanted (by omega))
 simp only[go_sem]
 try intros
 try trivial
def Mia:MC:=
(Zs [.box 1 0 (.s 0),.alloc 2 1 [.emp 4,.emp 6,.emp 4]] [1,2] (Zs [.lit 6 2 6 48 [],fS 7 1 1,lF 8 1 7,.app 9 2 6 48 (.s 6) (.s 8),.buildO 10 [.emp 4,.emp 6,.emp 4] [(1,1,.s 9)] [some 3,none,some 4],.alloc 3 5 [.emp 4,.emp 6,.emp 4],sS 3 3 10] [1,2,3] (.seq (Zs [.mv 4 (ci 0)] [1,2,3,4] (.block 0 (.loop ([1,2,3,4],[6,7,8,9,10,11,12,13]) (.seq (Zs [mS 11 4,fS 12 1 0,lF 13 1 12,nS 14 13,bS 15 .lss 11 14] [1,2,3,4,15] (cX 15 0))
(.seq (.block 1 (.dreg [Zf [20,21,22,23,24,25,26] [6,7,8,9] (fS 18 3 0),Zg [20,21,22,23,24,25,26] [6,7,8,9] [0] (lF 19 1 18),Zc [18,19,22] (fS 20 1 0),Zd [18,19,22] [2] (lF 21 1 20),Zc [18,19,20,21] (mS 22 4),Zd [18,19] [2,3,4] (xS 23 4 21 22),Zd [18,19] [2,3,4,5] (lT 24 4 23),{o:= .call 25 [6,7,8] (.f N4m) [.s 24],hs:=[18,19],ws:=[6,7,8],bf:=[2,3,4,5,6]},{o:= .lit 26 9 4 80 [.s 25],hs:=[18,19],ws:=[6,7,8,9],bf:=[2,3,4,5,6,7]},{o:= .app 27 3 4 80 (.s 19) (.s 26),ws:=[3,9],bf:=(.range 9)},Ze (.range 10) (fS 28 3 0),{o:=sS 1 28 27,ws:=[3,5],bf:=(.range 11)}] [1,2,3,4]))
(pr [mS 16 4,bC 17 .add 16 1,mS 4 17] [1,2,3,4]))))))
(.seq (Zs [.mv 5 (ci 0)] [1,2,3,5] (.block 2 (.loop ([1,2,3,5],[6,7,8,9,10,11,12,13]) (.seq (Zs [mS 29 5,fS 30 1 2,lF 31 1 30,nS 32 31,bS 33 .lss 29 32] [1,2,3,5,33] (cX 33 2))
(.seq (.block 3 (.dreg [Zf [38,39,40,41,42,43,44] [10,11,12,13] (fS 36 3 2),Zg [38,39,40,41,42,43,44] [10,11,12,13] [0] (lF 37 1 36),Zc [36,37,40] (fS 38 1 2),Zd [36,37,40] [2] (lF 39 1 38),Zc [36,37,38,39] (mS 40 5),Zd [36,37] [2,3,4] (xS 41 4 39 40),Zd [36,37] [2,3,4,5] (lT 42 4 41),{o:= .call 43 [10,11,12] (.f N4m) [.s 42],hs:=[36,37],ws:=[10,11,12],bf:=[2,3,4,5,6]},{o:= .lit 44 13 4 80 [.s 43],hs:=[36,37],ws:=[10,11,12,13],bf:=[2,3,4,5,6,7]},{o:= .app 45 4 4 80 (.s 37) (.s 44),ws:=[4,13],bf:=(.range 9)},Ze (.range 10) (fS 46 3 2),{o:=sS 1 46 45,ws:=[4,5],bf:=(.range 11)}] [1,2,3,5]))
(pr [mS 34 5,bC 35 .add 34 1,mS 5 35] [1,2,3,5]))))))
(Zs [lT 47 3 3,sS 3 2 47] [2] .ret)))))
theorem C4g(d:GDisk)(hs:d.size≤1073741824):Ctr Tryz.prog N34 [aS d.enc] [rS d.enc]:=by
 refine cA Mia 14 48 [(.cell 2 true 3,[true,true,true])] Tryz.func125 rfl rfl ?_;unfold Mia
 intro hb
 clear hb
 simp only[GDisk.size]at hs
 simp only[go_sem,↓Ko (f:=GFound.enc) (fun _=>rfl) d.Index]
 simp only[roomB]
 refine⟨by omega,?_⟩
 refine K5 d.Containers (fun k=>[(4,vI k)]) (fun k=>[(3,⟨0,.row true 4 ((d.Containers.take k).map GContainer.enc)⟩),(5,⟨0,.box [.ref 3 0 4 0 (d.Containers.take k).length,.ref 2 0 6 0 d.Index.length,.ref 4 0 4 0 0]⟩)]) (fun _=>True) (by simp only[roomB];omega) ?_
 simp only[go_sem]
 refine⟨?_,trivial,?_,?_⟩
 ·simp only[go_sem,List.take_zero]
 ·intro k x hx _ h0 h1 hw
  have hlt:=List.length_take_le k d.Containers
  have hk:k<d.Containers.length:=by omega
  have hx1:=Kz (f:=GContainer.size) (Km hx)
  simp only[go_sem,K4 hx,h0,h1]
  apply K0 (C8s x (by omega))
  simp only[go_sem,hw]
  simp only[roomB]
  exact⟨by omega,by omega,fun _=>⟨K3p hx,K3o hx⟩⟩
 ·intro _
  simp only[go_sem,List.take_length]
  refine K5 d.Wanted (fun k=>[(5,vI k)]) (fun k=>[(4,⟨0,.row true 4 ((d.Wanted.take k).map GContainer.enc)⟩),(5,⟨0,.box [.ref 3 0 4 0 d.Containers.length,.ref 2 0 6 0 d.Index.length,.ref 4 0 4 0 (d.Wanted.take k).length]⟩)]) (fun _=>True) (by simp only[roomB];omega) ?_
  simp only[go_sem]
  refine⟨?_,trivial,?_,?_⟩
  ·simp only[go_sem,List.take_zero]
  ·intro k x hx _ h0 h1 hw
   have hlt:=List.length_take_le k d.Wanted
   have hk:k<d.Wanted.length:=by omega
   have hx1:=Kz (f:=GContainer.size) (Km hx)
   simp only[go_sem,K4 hx,h0,h1]
   apply K0 (C8s x (by omega))
   simp only[go_sem,hw]
   simp only[roomB]
   exact⟨by omega,by omega,fun _=>⟨K3p hx,K3o hx⟩⟩
  ·intro _
   simp only[go_sem,List.take_length]
def M9j:MC:=
(Zs [.box 1 0 (.s 0),.alloc 2 1 [.emp 9,.emp 4,.emp 4,.emp 6,.emp 4,.emp 5,.emp 4,.emp 1,.emp 4,pz]] [1,2] (.seq (.dreg [Zc [6,7,9,10,12,13,15,16,18,19,21,22,24,25] (fS 3 1 0),Zd [6,7,9,10,12,13,15,16,18,19,21,22,24,25] [0] (lF 4 1 3),{o:= .call 5 [2] (.f N6u) [.s 4],hs:=[6,7,9,10,12,13,15,16,18,19,21,22,24,25],ws:=[2],bf:=[0,1]},Zf [3,4,5,9,10,12,13,15,16,18,19,21,22,24,25] [2] (fS 6 1 1),Zg [3,4,5,9,10,12,13,15,16,18,19,21,22,24,25] [2] [3] (lF 7 1 6),{o:= .call 8 [3] (.f Ni) [.s 7],hs:=[9,10,12,13,15,16,18,19,21,22,24,25],ws:=[3],bf:=(.range 5)},Zf [3,4,5,6,7,8,12,13,15,16,18,19,21,22,24,25] [2,3] (fS 9 1 2),Zg [3,4,5,6,7,8,12,13,15,16,18,19,21,22,24,25] [2,3] [6] (lT 10 3 9),{o:= .call 11 [4,5,6] (.f N2j) [.s 10],hs:=[12,13,15,16,18,19,21,22,24,25],ws:=[4,5,6],bf:=(.range 8)},Zf [3,4,5,6,7,8,9,10,11,15,16,18,19,21,22,24,25] [2,3,4,5,6] (fS 12 1 5),Zg [3,4,5,6,7,8,9,10,11,15,16,18,19,21,22,24,25] [2,3,4,5,6] [9] (lF 13 1 12),{o:= .call 14 [7] (.f N11) [.s 13],hs:=[15,16,18,19,21,22,24,25],ws:=[7],bf:=(.range 11)},Zf [3,4,5,6,7,8,9,10,11,12,13,14,18,19,21,22,24,25] [2,3,4,5,6,7] (fS 15 1 6),Zg [3,4,5,6,7,8,9,10,11,12,13,14,18,19,21,22,24,25] [2,3,4,5,6,7] [12] (lF 16 1 15),{o:= .call 17 [8] (.f N3d) [.s 16],hs:=[18,19,21,22,24,25],ws:=[8],bf:=(.range 14)},Zf [3,4,5,6,7,8,9,10,11,12,13,14,15,16,17,21,22,24,25] [2,3,4,5,6,7,8] (fS 18 1 7),Zg [3,4,5,6,7,8,9,10,11,12,13,14,15,16,17,21,22,24,25] [2,3,4,5,6,7,8] [15] (lF 19 1 18),{o:= .call 20 [9] (.f N4) [.s 19],hs:=[21,22,24,25],ws:=[9],bf:=(.range 17)},Zf [3,4,5,6,7,8,9,10,11,12,13,14,15,16,17,18,19,20,24,25] [2,3,4,5,6,7,8,9] (fS 21 1 8),Zg [3,4,5,6,7,8,9,10,11,12,13,14,15,16,17,18,19,20,24,25] [2,3,4,5,6,7,8,9] [18] (lF 22 1 21),{o:= .call 23 [10] (.f N12) [.s 22],hs:=[24,25],ws:=[10],bf:=(.range 20)},Zf [3,4,5,6,7,8,9,10,11,12,13,14,15,16,17,18,19,20,21,22,23] [2,3,4,5,6,7,8,9,10] (fS 24 1 9),Zg [3,4,5,6,7,8,9,10,11,12,13,14,15,16,17,18,19,20,21,22,23] [2,3,4,5,6,7,8,9,10] [21] (lF 25 1 24),Ze (.range 23) (.build 26 [.emp 9,.emp 4,.emp 4,.emp 6,.emp 4,.emp 5,.emp 4,.emp 1,.emp 4,pz] [(0,1,.s 5),(1,1,.s 8),(2,3,.s 11),(5,1,.s 14),(6,1,.s 17),(7,1,.s 20),(8,1,.s 23),(9,1,.s 25)]),{o:=sS 10 2 26,ws:=[1,2,3,4,5,6,7,8,9,10],bf:=(.range 24)}] [2])
.ret))
theorem C9(a:GArchive)(hs:a.size≤1073741824):Ctr Tryz.prog N5 [aS a.enc] [rS a.enc]:=by
 refine cA M9j 11 27 [(.cell 2 true 10,[true,true,true,true,true,true,true,true,true,false])] Tryz.func79 rfl rfl ?_;unfold M9j
 intro hb
 clear hb
 simp only[GArchive.size]at hs
 simp only[go_sem]
 apply K0 (Cfx a.Site (by omega))
 simp only[go_sem]
 apply K0 (C4t a.Script (by omega))
 simp only[go_sem]
 apply K0 (C3w a.Disk (by omega))
 simp only[go_sem]
 apply K0 (Cdp a.Exclusions (by omega))
 simp only[go_sem]
 apply K0 (C69 a.Libraries (by omega))
 simp only[go_sem]
 apply K0 (Ca a.Keys (by omega))
 simp only[go_sem]
 apply K0 (Cdq a.Statements (by omega))
 simp only[go_sem]
 try intros
 try trivial
def Mic:MC:=
(Zs [.box 1 0 (.s 0),.alloc 2 1 [.emp 9,.emp 4,.emp 4,.emp 6,.emp 4,.emp 5,.emp 4,.emp 1,.emp 4,pz]] [1,2] (.seq (.dreg [Zf [6,7,8,10,11,13,14,15,17,18,20,21,22,24,25,26,28,29] [3,7,9,10] (fS 3 1 0),Zg [6,7,8,10,11,13,14,15,17,18,20,21,22,24,25,26,28,29] [3,7,9,10] [0] (lF 4 1 3),{o:= .call 5 [2] (.f N4n) [.s 4],hs:=[6,7,8,10,11,13,14,15,17,18,20,21,22,24,25,26,28,29],ho:=[3,7,9,10],ws:=[2],bf:=[0,1]},{o:= .lit 6 3 4 32 [],hs:=[3,4,5,7,8,10,11,13,14,15,17,18,20,21,22,24,25,26,28,29],ho:=[2,7,9,10],ws:=[3]},Zf [3,4,5,6,10,11,13,14,15,17,18,20,21,22,24,25,26,28,29] [2,3,7,9,10] (fS 7 1 1),Zg [3,4,5,6,10,11,13,14,15,17,18,20,21,22,24,25,26,28,29] [2,3,7,9,10] [4] (lF 8 1 7),{o:= .app 9 3 4 32 (.s 6) (.s 8),hs:=[10,11,13,14,15,17,18,20,21,22,24,25,26,28,29],ho:=[7,9,10],ws:=[3],bf:=(.range 6)},Zf [3,4,5,6,7,8,9,13,14,15,17,18,20,21,22,24,25,26,28,29] [2,3,7,9,10] (fS 10 1 2),Zg [3,4,5,6,7,8,9,13,14,15,17,18,20,21,22,24,25,26,28,29] [2,3,7,9,10] [7] (lT 11 3 10),{o:= .call 12 [4,5,6] (.f N34) [.s 11],hs:=[13,14,15,17,18,20,21,22,24,25,26,28,29],ho:=[7,9,10],ws:=[4,5,6],bf:=(.range 9)},{o:= .lit 13 7 5 40 [],hs:=[3,4,5,6,7,8,9,10,11,12,14,15,17,18,20,21,22,24,25,26,28,29],ho:=[2,3,4,5,6,9,10],ws:=[7]},Zf [3,4,5,6,7,8,9,10,11,12,13,17,18,20,21,22,24,25,26,28,29] [2,3,4,5,6,7,9,10] (fS 14 1 5),Zg [3,4,5,6,7,8,9,10,11,12,13,17,18,20,21,22,24,25,26,28,29] [2,3,4,5,6,7,9,10] [11] (lF 15 1 14),{o:= .app 16 7 5 40 (.s 13) (.s 15),hs:=[17,18,20,21,22,24,25,26,28,29],ho:=[9,10],ws:=[7],bf:=(.range 13)},Zf [3,4,5,6,7,8,9,10,11,12,13,14,15,16,20,21,22,24,25,26,28,29] [2,3,4,5,6,7,9,10] (fS 17 1 6),Zg [3,4,5,6,7,8,9,10,11,12,13,14,15,16,20,21,22,24,25,26,28,29] [2,3,4,5,6,7,9,10] [14] (lF 18 1 17),{o:= .call 19 [8] (.f N8y) [.s 18],hs:=[20,21,22,24,25,26,28,29],ho:=[9,10],ws:=[8],bf:=(.range 16)},{o:= .lit 20 9 1 8 [],hs:=[3,4,5,6,7,8,9,10,11,12,13,14,15,16,17,18,19,21,22,24,25,26,28,29],ho:=[2,3,4,5,6,7,8,10],ws:=[9]},Zf [3,4,5,6,7,8,9,10,11,12,13,14,15,16,17,18,19,20,24,25,26,28,29] [2,3,4,5,6,7,8,9,10] (fS 21 1 7),Zg [3,4,5,6,7,8,9,10,11,12,13,14,15,16,17,18,19,20,24,25,26,28,29] [2,3,4,5,6,7,8,9,10] [18] (lF 22 1 21),{o:= .app 23 9 1 8 (.s 20) (.s 22),hs:=[24,25,26,28,29],ho:=[10],ws:=[9],bf:=(.range 20)},{o:= .lit 24 10 4 32 [],hs:=[3,4,5,6,7,8,9,10,11,12,13,14,15,16,17,18,19,20,21,22,23,25,26,28,29],ho:=[2,3,4,5,6,7,8,9],ws:=[10]},Zf [3,4,5,6,7,8,9,10,11,12,13,14,15,16,17,18,19,20,21,22,23,24,28,29] [2,3,4,5,6,7,8,9,10] (fS 25 1 8),Zg [3,4,5,6,7,8,9,10,11,12,13,14,15,16,17,18,19,20,21,22,23,24,28,29] [2,3,4,5,6,7,8,9,10] [22] (lF 26 1 25),{o:= .app 27 10 4 32 (.s 24) (.s 26),hs:=[28,29],ws:=[10],bf:=(.range 24)},Zf [3,4,5,6,7,8,9,10,11,12,13,14,15,16,17,18,19,20,21,22,23,24,25,26,27] [2,3,4,5,6,7,8,9,10] (fS 28 1 9),Zg [3,4,5,6,7,8,9,10,11,12,13,14,15,16,17,18,19,20,21,22,23,24,25,26,27] [2,3,4,5,6,7,8,9,10] [25] (lF 29 1 28),Ze (.range 27) (.build 30 [.emp 9,.emp 4,.emp 4,.emp 6,.emp 4,.emp 5,.emp 4,.emp 1,.emp 4,pz] [(0,1,.s 5),(1,1,.s 9),(2,3,.s 12),(5,1,.s 16),(6,1,.s 19),(7,1,.s 23),(8,1,.s 27),(9,1,.s 29)]),{o:=sS 10 2 30,ws:=[1,2,3,4,5,6,7,8,9,10],bf:=(.range 28)}] [2])
.ret))
theorem Cs(a:GArchive)(hs:a.size≤1073741824):Ctr Tryz.prog Ng [aS a.enc] [rS a.enc]:=by
 refine cA Mic 11 31 [(.cell 2 true 10,[true,true,true,true,true,true,true,true,true,false])] Tryz.func62 rfl rfl ?_;unfold Mic
 intro hb
 clear hb
 simp only[GArchive.size]at hs
 simp only[go_sem]
 apply K0 (C8t a.Site (by omega))
 simp only[go_sem,↓Ko (f:=GOp.enc) (fun _=>rfl) a.Script]
 refine⟨by simp only[roomB];omega,?_⟩
 apply K0 (C4g a.Disk (by omega))
 simp only[go_sem,↓Ko (f:=GExclusion.enc) (fun _=>rfl) a.Exclusions]
 refine⟨by simp only[roomB];omega,?_⟩
 apply K0 (Chm a.Libraries (by omega))
 simp only[go_sem,↓Ko (f:=encI) (fun _=>rfl) a.Keys,↓Ko (f:=GStatement.enc) (fun _=>rfl) a.Statements]
 simp only[roomB]
 exact⟨by omega,by omega⟩
end Go.Proofs.YtjneccbpkckdfaaGreatR
