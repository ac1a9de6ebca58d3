/- What the functions compute that the laws of QualityNow reach: contracts. Conditions stand in each theorem. -/
import Derived.Test.YtjneccbpkckdfaaGreatProg
import Derived.KernelRfl
import Derived.Test.YtjneccbpkckdfaaGreatRQualityNowc
set_option linter.unusedVariables false
set_option linter.unusedSimpArgs false
namespace Go.Proofs.YtjneccbpkckdfaaGreatR
open Go Go.RowKit
attribute [go_sem ↓] bk_bind K6m bk_ite K3g
def Za(o:MO):MOp:={o:=o}
def Zb(k:Nat)(b:Bool)(o:MO):MOp:={o:=o,g:=some (k,b)}
def Zc(h:List Nat)(o:MO):MOp:={o:=o,hs:=h}
def Zd(h b:List Nat)(o:MO):MOp:={o:=o,hs:=h,bf:=b}
def Ze(b:List Nat)(o:MO):MOp:={o:=o,bf:=b}
def Zf(h g:List Nat)(o:MO):MOp:={o:=o,hs:=h,ho:=g}
def Zg(h g b:List Nat)(o:MO):MOp:={o:=o,hs:=h,ho:=g,bf:=b}
def pz:SC:= .pl (.sc (.int .i64 0))
def ci(n:Int):Od:= .c (.int .i64 n)
def cT:Od:= .c (.bool true)
def cF:Od:= .c (.bool false)
attribute [go_sem] Nat.reduceEqDiff Nat.reduceLT Nat.reduceLeDiff Nat.reduceAdd Nat.reduceMul reduceCtorEq List.reduceReplicate
attribute [go_sem ↓] reduceIte
attribute [go_sem] Za Zb Zc Zd Ze Zf Zg pz ci cT cF
def mS(d a:Nat):MO:= .mv d (.s a)
def lF(d k a:Nat):MO:= .load d false k (.s a)
def lT(d k a:Nat):MO:= .load d true k (.s a)
def fS(d a k:Nat):MO:= .fld d (.s a) k
def xS(d k a b:Nat):MO:= .idx d k (.s a) (.s b)
def nS(d a:Nat):MO:= .len d false (.s a)
def bS(d:Nat)(o:BinOp)(a b:Nat):MO:= .bin d false o (.s a) (.s b)
def bC(d:Nat)(o:BinOp)(a:Nat)(b:Int):MO:= .bin d false o (.s a) (.c (.int .i64 b))
def sS(k a b:Nat):MO:= .store k (.s a) (.s b)
def cX(a k:Nat):MC:= .cond (.s a) .skip (.exit k)
def Zs(l:List MO)(h:List Nat)(c:MC):MC:= .seq (pr l h) c
attribute [go_sem] mS lF lT fS xS nS bS bC sS cX Zs
open Nat (reduceEqDiff reduceLT reduceLeDiff reduceAdd reduceMul)
open List (reduceReplicate)
def encI(n:Int):List T:=[tI n]
def encB(b:Bool):List T:=[tB b]
theorem int_of{ts:List T}(h:IsT .int ts):∃n,ts=encI n:=h
theorem list_of{α:Type}{enc:α→List T}{ty:DT}(h:∀ {ts},IsT ty ts→∃x,ts=enc x):∀ {es:List (List T)},(∀x∈es,IsT ty x)→∃xs:List α,es=xs.map enc
 | [],_=>⟨[],rfl⟩
 |e::es,k=>by
  obtain⟨x,rfl⟩:=h (k e (by simp))
  obtain⟨xs,hx⟩:=list_of h (es:=es) fun y hy=>k y (by simp[hy])
  subst hx
  exact⟨x::xs,rfl⟩
structure GAddress where
 Host:Int
 Path:Int
 Query:Int
 deriving DecidableEq
def GAddress.enc(x:GAddress):List T:=[tI x.Host,tI x.Path,tI x.Query]
def GAddress.dt:DT:= .st (.fc .int (.fc .int (.fc .int .fn)))
theorem GAddress.of{ts:List T}(h:IsT GAddress.dt ts):∃x:GAddress,ts=x.enc:=by
 simp only[GAddress.dt,IsT]at h
 obtain⟨_,_,rfl,⟨v0,rfl⟩,_,_,rfl,⟨v1,rfl⟩,_,_,rfl,⟨v2,rfl⟩,rfl⟩:=h
 exact⟨⟨v0,v1,v2⟩,rfl⟩
theorem GAddress.eqv{x y:GAddress}:x=y↔x.Host=y.Host∧x.Path=y.Path∧x.Query=y.Query:=by
 constructor
 ·rintro rfl;simp
 ·intro h
  rcases x with ⟨aHost,aPath,aQuery⟩
  rcases y with ⟨bHost,bPath,bQuery⟩
  simp only at h
  obtain⟨rfl,rfl,rfl⟩:=h
  rfl
structure GResource where
 Kind:Int
 Body:List Int
 To:GAddress
 deriving DecidableEq
def GResource.enc(x:GResource):List T:=[tI x.Kind,.sl 1 (x.Body.map encI),tI x.To.Host,tI x.To.Path,tI x.To.Query]
def GResource.dt:DT:= .st (.fc .int (.fc (.sl .int) (.fc GAddress.dt .fn)))
theorem GResource.of{ts:List T}(h:IsT GResource.dt ts):∃x:GResource,ts=x.enc:=by
 simp only[GResource.dt,IsT]at h
 obtain⟨_,_,rfl,⟨v0,rfl⟩,_,_,rfl,⟨l1,rfl,k1⟩,_,_,rfl,k2,rfl⟩:=h
 obtain⟨v1,rfl⟩:=list_of int_of k1
 obtain⟨v2,rfl⟩:=GAddress.of k2
 exact⟨⟨v0,v1,v2⟩,rfl⟩
theorem GResource.eqv{x y:GResource}:x=y↔x.Kind=y.Kind∧x.Body=y.Body∧x.To.Host=y.To.Host∧x.To.Path=y.To.Path∧x.To.Query=y.To.Query:=by
 constructor
 ·rintro rfl;simp
 ·intro h
  rcases x with ⟨aKind,aBody,⟨aToHost,aToPath,aToQuery⟩⟩
  rcases y with ⟨bKind,bBody,⟨bToHost,bToPath,bToQuery⟩⟩
  simp only at h
  obtain⟨rfl,rfl,rfl,rfl,rfl⟩:=h
  rfl
def GResource.size(x:GResource):Nat:=(x.Body.length)
structure GPart where
 Digest:Int
 Resource:GResource
 Uses:Int
 deriving DecidableEq
def GPart.enc(x:GPart):List T:=[tI x.Digest,tI x.Resource.Kind,.sl 1 (x.Resource.Body.map encI),tI x.Resource.To.Host,tI x.Resource.To.Path,tI x.Resource.To.Query,tI x.Uses]
def GPart.dt:DT:= .st (.fc .int (.fc GResource.dt (.fc .int .fn)))
theorem GPart.of{ts:List T}(h:IsT GPart.dt ts):∃x:GPart,ts=x.enc:=by
 simp only[GPart.dt,IsT]at h
 obtain⟨_,_,rfl,⟨v0,rfl⟩,_,_,rfl,k1,_,_,rfl,⟨v2,rfl⟩,rfl⟩:=h
 obtain⟨v1,rfl⟩:=GResource.of k1
 exact⟨⟨v0,v1,v2⟩,rfl⟩
theorem GPart.eqv{x y:GPart}:x=y↔x.Digest=y.Digest∧x.Resource.Kind=y.Resource.Kind∧x.Resource.Body=y.Resource.Body∧x.Resource.To.Host=y.Resource.To.Host∧x.Resource.To.Path=y.Resource.To.Path∧x.Resource.To.Query=y.Resource.To.Query∧x.Uses=y.Uses:=by
 constructor
 ·rintro rfl;simp
 ·intro h
  rcases x with ⟨aDigest,⟨aResourceKind,aResourceBody,⟨aResourceToHost,aResourceToPath,aResourceToQuery⟩⟩,aUses⟩
  rcases y with ⟨bDigest,⟨bResourceKind,bResourceBody,⟨bResourceToHost,bResourceToPath,bResourceToQuery⟩⟩,bUses⟩
  simp only at h
  obtain⟨rfl,rfl,rfl,rfl,rfl,rfl,rfl⟩:=h
  rfl
def GPart.size(x:GPart):Nat:=(x.Resource.size)
structure GPiece where
 From:Int
 Count:Int
 New:List Int
 deriving DecidableEq
def GPiece.enc(x:GPiece):List T:=[tI x.From,tI x.Count,.sl 1 (x.New.map encI)]
def GPiece.dt:DT:= .st (.fc .int (.fc .int (.fc (.sl .int) .fn)))
theorem GPiece.of{ts:List T}(h:IsT GPiece.dt ts):∃x:GPiece,ts=x.enc:=by
 simp only[GPiece.dt,IsT]at h
 obtain⟨_,_,rfl,⟨v0,rfl⟩,_,_,rfl,⟨v1,rfl⟩,_,_,rfl,⟨l2,rfl,k2⟩,rfl⟩:=h
 obtain⟨v2,rfl⟩:=list_of int_of k2
 exact⟨⟨v0,v1,v2⟩,rfl⟩
theorem GPiece.eqv{x y:GPiece}:x=y↔x.From=y.From∧x.Count=y.Count∧x.New=y.New:=by
 constructor
 ·rintro rfl;simp
 ·intro h
  rcases x with ⟨aFrom,aCount,aNew⟩
  rcases y with ⟨bFrom,bCount,bNew⟩
  simp only at h
  obtain⟨rfl,rfl,rfl⟩:=h
  rfl
def GPiece.size(x:GPiece):Nat:=(x.New.length)
structure GVersion where
 Address:GAddress
 From:Int
 Resource:GResource
 deriving DecidableEq
def GVersion.enc(x:GVersion):List T:=[tI x.Address.Host,tI x.Address.Path,tI x.Address.Query,tI x.From,tI x.Resource.Kind,.sl 1 (x.Resource.Body.map encI),tI x.Resource.To.Host,tI x.Resource.To.Path,tI x.Resource.To.Query]
def GVersion.dt:DT:= .st (.fc GAddress.dt (.fc .int (.fc GResource.dt .fn)))
theorem GVersion.of{ts:List T}(h:IsT GVersion.dt ts):∃x:GVersion,ts=x.enc:=by
 simp only[GVersion.dt,IsT]at h
 obtain⟨_,_,rfl,k0,_,_,rfl,⟨v1,rfl⟩,_,_,rfl,k2,rfl⟩:=h
 obtain⟨v0,rfl⟩:=GAddress.of k0
 obtain⟨v2,rfl⟩:=GResource.of k2
 exact⟨⟨v0,v1,v2⟩,rfl⟩
theorem GVersion.eqv{x y:GVersion}:x=y↔x.Address.Host=y.Address.Host∧x.Address.Path=y.Address.Path∧x.Address.Query=y.Address.Query∧x.From=y.From∧x.Resource.Kind=y.Resource.Kind∧x.Resource.Body=y.Resource.Body∧x.Resource.To.Host=y.Resource.To.Host∧x.Resource.To.Path=y.Resource.To.Path∧x.Resource.To.Query=y.Resource.To.Query:=by
 constructor
 ·rintro rfl;simp
 ·intro h
  rcases x with ⟨⟨aAddressHost,aAddressPath,aAddressQuery⟩,aFrom,⟨aResourceKind,aResourceBody,⟨aResourceToHost,aResourceToPath,aResourceToQuery⟩⟩⟩
  rcases y with ⟨⟨bAddressHost,bAddressPath,bAddressQuery⟩,bFrom,⟨bResourceKind,bResourceBody,⟨bResourceToHost,bResourceToPath,bResourceToQuery⟩⟩⟩
  simp only at h
  obtain⟨rfl,rfl,rfl,rfl,rfl,rfl,rfl,rfl,rfl⟩:=h
  rfl
def GVersion.size(x:GVersion):Nat:=(x.Resource.size)
structure GOp where
 Kind:Int
 A:Int
 B:Int
 C:Int
 deriving DecidableEq
def GOp.enc(x:GOp):List T:=[tI x.Kind,tI x.A,tI x.B,tI x.C]
def GOp.dt:DT:= .st (.fc .int (.fc .int (.fc .int (.fc .int .fn))))
theorem GOp.of{ts:List T}(h:IsT GOp.dt ts):∃x:GOp,ts=x.enc:=by
 simp only[GOp.dt,IsT]at h
 obtain⟨_,_,rfl,⟨v0,rfl⟩,_,_,rfl,⟨v1,rfl⟩,_,_,rfl,⟨v2,rfl⟩,_,_,rfl,⟨v3,rfl⟩,rfl⟩:=h
 exact⟨⟨v0,v1,v2,v3⟩,rfl⟩
theorem GOp.eqv{x y:GOp}:x=y↔x.Kind=y.Kind∧x.A=y.A∧x.B=y.B∧x.C=y.C:=by
 constructor
 ·rintro rfl;simp
 ·intro h
  rcases x with ⟨aKind,aA,aB,aC⟩
  rcases y with ⟨bKind,bA,bB,bC⟩
  simp only at h
  obtain⟨rfl,rfl,rfl,rfl⟩:=h
  rfl
structure GState where
 Pc:Int
 Regs:List Int
 Slots:List Int
 Nodes:List Int
 deriving DecidableEq
def GState.enc(x:GState):List T:=[tI x.Pc,.sl 1 (x.Regs.map encI),.sl 1 (x.Slots.map encI),.sl 1 (x.Nodes.map encI)]
def GState.dt:DT:= .st (.fc .int (.fc (.sl .int) (.fc (.sl .int) (.fc (.sl .int) .fn))))
theorem GState.of{ts:List T}(h:IsT GState.dt ts):∃x:GState,ts=x.enc:=by
 simp only[GState.dt,IsT]at h
 obtain⟨_,_,rfl,⟨v0,rfl⟩,_,_,rfl,⟨l1,rfl,k1⟩,_,_,rfl,⟨l2,rfl,k2⟩,_,_,rfl,⟨l3,rfl,k3⟩,rfl⟩:=h
 obtain⟨v1,rfl⟩:=list_of int_of k1
 obtain⟨v2,rfl⟩:=list_of int_of k2
 obtain⟨v3,rfl⟩:=list_of int_of k3
 exact⟨⟨v0,v1,v2,v3⟩,rfl⟩
theorem GState.eqv{x y:GState}:x=y↔x.Pc=y.Pc∧x.Regs=y.Regs∧x.Slots=y.Slots∧x.Nodes=y.Nodes:=by
 constructor
 ·rintro rfl;simp
 ·intro h
  rcases x with ⟨aPc,aRegs,aSlots,aNodes⟩
  rcases y with ⟨bPc,bRegs,bSlots,bNodes⟩
  simp only at h
  obtain⟨rfl,rfl,rfl,rfl⟩:=h
  rfl
def GState.size(x:GState):Nat:=(x.Regs.length)+(x.Slots.length)+(x.Nodes.length)
structure GVisit where
 Site:List GVersion
 Tick:Int
 Seed:Int
 Inputs:List Int
 deriving DecidableEq
def GVisit.enc(x:GVisit):List T:=[.sl 9 (x.Site.map GVersion.enc),tI x.Tick,tI x.Seed,.sl 1 (x.Inputs.map encI)]
def GVisit.dt:DT:= .st (.fc (.sl GVersion.dt) (.fc .int (.fc .int (.fc (.sl .int) .fn))))
theorem GVisit.of{ts:List T}(h:IsT GVisit.dt ts):∃x:GVisit,ts=x.enc:=by
 simp only[GVisit.dt,IsT]at h
 obtain⟨_,_,rfl,⟨l0,rfl,k0⟩,_,_,rfl,⟨v1,rfl⟩,_,_,rfl,⟨v2,rfl⟩,_,_,rfl,⟨l3,rfl,k3⟩,rfl⟩:=h
 obtain⟨v0,rfl⟩:=list_of GVersion.of k0
 obtain⟨v3,rfl⟩:=list_of int_of k3
 exact⟨⟨v0,v1,v2,v3⟩,rfl⟩
theorem GVisit.eqv{x y:GVisit}:x=y↔x.Site=y.Site∧x.Tick=y.Tick∧x.Seed=y.Seed∧x.Inputs=y.Inputs:=by
 constructor
 ·rintro rfl;simp
 ·intro h
  rcases x with ⟨aSite,aTick,aSeed,aInputs⟩
  rcases y with ⟨bSite,bTick,bSeed,bInputs⟩
  simp only at h
  obtain⟨rfl,rfl,rfl,rfl⟩:=h
  rfl
def GVisit.size(x:GVisit):Nat:=(x.Site.length+(x.Site.map GVersion.size).sum)+(x.Inputs.length)
structure GWant where
 Kind:Int
 Address:GAddress
 deriving DecidableEq
def GWant.enc(x:GWant):List T:=[tI x.Kind,tI x.Address.Host,tI x.Address.Path,tI x.Address.Query]
def GWant.dt:DT:= .st (.fc .int (.fc GAddress.dt .fn))
theorem GWant.of{ts:List T}(h:IsT GWant.dt ts):∃x:GWant,ts=x.enc:=by
 simp only[GWant.dt,IsT]at h
 obtain⟨_,_,rfl,⟨v0,rfl⟩,_,_,rfl,k1,rfl⟩:=h
 obtain⟨v1,rfl⟩:=GAddress.of k1
 exact⟨⟨v0,v1⟩,rfl⟩
theorem GWant.eqv{x y:GWant}:x=y↔x.Kind=y.Kind∧x.Address.Host=y.Address.Host∧x.Address.Path=y.Address.Path∧x.Address.Query=y.Address.Query:=by
 constructor
 ·rintro rfl;simp
 ·intro h
  rcases x with ⟨aKind,⟨aAddressHost,aAddressPath,aAddressQuery⟩⟩
  rcases y with ⟨bKind,⟨bAddressHost,bAddressPath,bAddressQuery⟩⟩
  simp only at h
  obtain⟨rfl,rfl,rfl,rfl⟩:=h
  rfl
structure GEntry where
 Kind:Int
 Address:GAddress
 Value:Int
 deriving DecidableEq
def GEntry.enc(x:GEntry):List T:=[tI x.Kind,tI x.Address.Host,tI x.Address.Path,tI x.Address.Query,tI x.Value]
def GEntry.dt:DT:= .st (.fc .int (.fc GAddress.dt (.fc .int .fn)))
theorem GEntry.of{ts:List T}(h:IsT GEntry.dt ts):∃x:GEntry,ts=x.enc:=by
 simp only[GEntry.dt,IsT]at h
 obtain⟨_,_,rfl,⟨v0,rfl⟩,_,_,rfl,k1,_,_,rfl,⟨v2,rfl⟩,rfl⟩:=h
 obtain⟨v1,rfl⟩:=GAddress.of k1
 exact⟨⟨v0,v1,v2⟩,rfl⟩
theorem GEntry.eqv{x y:GEntry}:x=y↔x.Kind=y.Kind∧x.Address.Host=y.Address.Host∧x.Address.Path=y.Address.Path∧x.Address.Query=y.Address.Query∧x.Value=y.Value:=by
 constructor
 ·rintro rfl;simp
 ·intro h
  rcases x with ⟨aKind,⟨aAddressHost,aAddressPath,aAddressQuery⟩,aValue⟩
  rcases y with ⟨bKind,⟨bAddressHost,bAddressPath,bAddressQuery⟩,bValue⟩
  simp only at h
  obtain⟨rfl,rfl,rfl,rfl,rfl⟩:=h
  rfl
structure GCapture where
 Address:GAddress
 Tick:Int
 Resource:GResource
 deriving DecidableEq
def GCapture.enc(x:GCapture):List T:=[tI x.Address.Host,tI x.Address.Path,tI x.Address.Query,tI x.Tick,tI x.Resource.Kind,.sl 1 (x.Resource.Body.map encI),tI x.Resource.To.Host,tI x.Resource.To.Path,tI x.Resource.To.Query]
def GCapture.dt:DT:= .st (.fc GAddress.dt (.fc .int (.fc GResource.dt .fn)))
theorem GCapture.of{ts:List T}(h:IsT GCapture.dt ts):∃x:GCapture,ts=x.enc:=by
 simp only[GCapture.dt,IsT]at h
 obtain⟨_,_,rfl,k0,_,_,rfl,⟨v1,rfl⟩,_,_,rfl,k2,rfl⟩:=h
 obtain⟨v0,rfl⟩:=GAddress.of k0
 obtain⟨v2,rfl⟩:=GResource.of k2
 exact⟨⟨v0,v1,v2⟩,rfl⟩
theorem GCapture.eqv{x y:GCapture}:x=y↔x.Address.Host=y.Address.Host∧x.Address.Path=y.Address.Path∧x.Address.Query=y.Address.Query∧x.Tick=y.Tick∧x.Resource.Kind=y.Resource.Kind∧x.Resource.Body=y.Resource.Body∧x.Resource.To.Host=y.Resource.To.Host∧x.Resource.To.Path=y.Resource.To.Path∧x.Resource.To.Query=y.Resource.To.Query:=by
 constructor
 ·rintro rfl;simp
 ·intro h
  rcases x with ⟨⟨aAddressHost,aAddressPath,aAddressQuery⟩,aTick,⟨aResourceKind,aResourceBody,⟨aResourceToHost,aResourceToPath,aResourceToQuery⟩⟩⟩
  rcases y with ⟨⟨bAddressHost,bAddressPath,bAddressQuery⟩,bTick,⟨bResourceKind,bResourceBody,⟨bResourceToHost,bResourceToPath,bResourceToQuery⟩⟩⟩
  simp only at h
  obtain⟨rfl,rfl,rfl,rfl,rfl,rfl,rfl,rfl,rfl⟩:=h
  rfl
def GCapture.size(x:GCapture):Nat:=(x.Resource.size)
structure GChoice where
 Rule:Int
 At:Int
 deriving DecidableEq
def GChoice.enc(x:GChoice):List T:=[tI x.Rule,tI x.At]
def GChoice.dt:DT:= .st (.fc .int (.fc .int .fn))
theorem GChoice.of{ts:List T}(h:IsT GChoice.dt ts):∃x:GChoice,ts=x.enc:=by
 simp only[GChoice.dt,IsT]at h
 obtain⟨_,_,rfl,⟨v0,rfl⟩,_,_,rfl,⟨v1,rfl⟩,rfl⟩:=h
 exact⟨⟨v0,v1⟩,rfl⟩
theorem GChoice.eqv{x y:GChoice}:x=y↔x.Rule=y.Rule∧x.At=y.At:=by
 constructor
 ·rintro rfl;simp
 ·intro h
  rcases x with ⟨aRule,aAt⟩
  rcases y with ⟨bRule,bAt⟩
  simp only at h
  obtain⟨rfl,rfl⟩:=h
  rfl
structure GWander where
 State:GState
 Choices:List GChoice
 Labels:List Int
 Missing:Int
 deriving DecidableEq
def GWander.enc(x:GWander):List T:=[tI x.State.Pc,.sl 1 (x.State.Regs.map encI),.sl 1 (x.State.Slots.map encI),.sl 1 (x.State.Nodes.map encI),.sl 2 (x.Choices.map GChoice.enc),.sl 1 (x.Labels.map encI),tI x.Missing]
def GWander.dt:DT:= .st (.fc GState.dt (.fc (.sl GChoice.dt) (.fc (.sl .int) (.fc .int .fn))))
theorem GWander.of{ts:List T}(h:IsT GWander.dt ts):∃x:GWander,ts=x.enc:=by
 simp only[GWander.dt,IsT]at h
 obtain⟨_,_,rfl,k0,_,_,rfl,⟨l1,rfl,k1⟩,_,_,rfl,⟨l2,rfl,k2⟩,_,_,rfl,⟨v3,rfl⟩,rfl⟩:=h
 obtain⟨v0,rfl⟩:=GState.of k0
 obtain⟨v1,rfl⟩:=list_of GChoice.of k1
 obtain⟨v2,rfl⟩:=list_of int_of k2
 exact⟨⟨v0,v1,v2,v3⟩,rfl⟩
theorem GWander.eqv{x y:GWander}:x=y↔x.State.Pc=y.State.Pc∧x.State.Regs=y.State.Regs∧x.State.Slots=y.State.Slots∧x.State.Nodes=y.State.Nodes∧x.Choices=y.Choices∧x.Labels=y.Labels∧x.Missing=y.Missing:=by
 constructor
 ·rintro rfl;simp
 ·intro h
  rcases x with ⟨⟨aStatePc,aStateRegs,aStateSlots,aStateNodes⟩,aChoices,aLabels,aMissing⟩
  rcases y with ⟨⟨bStatePc,bStateRegs,bStateSlots,bStateNodes⟩,bChoices,bLabels,bMissing⟩
  simp only at h
  obtain⟨rfl,rfl,rfl,rfl,rfl,rfl,rfl⟩:=h
  rfl
def GWander.size(x:GWander):Nat:=(x.State.size)+(x.Choices.length)+(x.Labels.length)
structure GModel where
 Base:Int
 Step:Int
 Seen:Int
 Fits:Bool
 deriving DecidableEq
def GModel.enc(x:GModel):List T:=[tI x.Base,tI x.Step,tI x.Seen,tB x.Fits]
def GModel.dt:DT:= .st (.fc .int (.fc .int (.fc .int (.fc .bool .fn))))
theorem GModel.of{ts:List T}(h:IsT GModel.dt ts):∃x:GModel,ts=x.enc:=by
 simp only[GModel.dt,IsT]at h
 obtain⟨_,_,rfl,⟨v0,rfl⟩,_,_,rfl,⟨v1,rfl⟩,_,_,rfl,⟨v2,rfl⟩,_,_,rfl,⟨v3,rfl⟩,rfl⟩:=h
 exact⟨⟨v0,v1,v2,v3⟩,rfl⟩
theorem GModel.eqv{x y:GModel}:x=y↔x.Base=y.Base∧x.Step=y.Step∧x.Seen=y.Seen∧x.Fits=y.Fits:=by
 constructor
 ·rintro rfl;simp
 ·intro h
  rcases x with ⟨aBase,aStep,aSeen,aFits⟩
  rcases y with ⟨bBase,bStep,bSeen,bFits⟩
  simp only at h
  obtain⟨rfl,rfl,rfl,rfl⟩:=h
  rfl
structure GShown where
 Tick:Int
 Address:GAddress
 deriving DecidableEq
def GShown.enc(x:GShown):List T:=[tI x.Tick,tI x.Address.Host,tI x.Address.Path,tI x.Address.Query]
def GShown.dt:DT:= .st (.fc .int (.fc GAddress.dt .fn))
theorem GShown.of{ts:List T}(h:IsT GShown.dt ts):∃x:GShown,ts=x.enc:=by
 simp only[GShown.dt,IsT]at h
 obtain⟨_,_,rfl,⟨v0,rfl⟩,_,_,rfl,k1,rfl⟩:=h
 obtain⟨v1,rfl⟩:=GAddress.of k1
 exact⟨⟨v0,v1⟩,rfl⟩
theorem GShown.eqv{x y:GShown}:x=y↔x.Tick=y.Tick∧x.Address.Host=y.Address.Host∧x.Address.Path=y.Address.Path∧x.Address.Query=y.Address.Query:=by
 constructor
 ·rintro rfl;simp
 ·intro h
  rcases x with ⟨aTick,⟨aAddressHost,aAddressPath,aAddressQuery⟩⟩
  rcases y with ⟨bTick,⟨bAddressHost,bAddressPath,bAddressQuery⟩⟩
  simp only at h
  obtain⟨rfl,rfl,rfl,rfl⟩:=h
  rfl
structure GLeaf where
 Value:Int
 Salt:Int
 Hidden:Bool
 Seal:Int
 deriving DecidableEq
def GLeaf.enc(x:GLeaf):List T:=[tI x.Value,tI x.Salt,tB x.Hidden,tI x.Seal]
def GLeaf.dt:DT:= .st (.fc .int (.fc .int (.fc .bool (.fc .int .fn))))
theorem GLeaf.of{ts:List T}(h:IsT GLeaf.dt ts):∃x:GLeaf,ts=x.enc:=by
 simp only[GLeaf.dt,IsT]at h
 obtain⟨_,_,rfl,⟨v0,rfl⟩,_,_,rfl,⟨v1,rfl⟩,_,_,rfl,⟨v2,rfl⟩,_,_,rfl,⟨v3,rfl⟩,rfl⟩:=h
 exact⟨⟨v0,v1,v2,v3⟩,rfl⟩
theorem GLeaf.eqv{x y:GLeaf}:x=y↔x.Value=y.Value∧x.Salt=y.Salt∧x.Hidden=y.Hidden∧x.Seal=y.Seal:=by
 constructor
 ·rintro rfl;simp
 ·intro h
  rcases x with ⟨aValue,aSalt,aHidden,aSeal⟩
  rcases y with ⟨bValue,bSalt,bHidden,bSeal⟩
  simp only at h
  obtain⟨rfl,rfl,rfl,rfl⟩:=h
  rfl
structure GEdition where
 Captures:List GCapture
 From:Int
 Until:Int
 Hidden:List GAddress
 deriving DecidableEq
def GEdition.enc(x:GEdition):List T:=[.sl 9 (x.Captures.map GCapture.enc),tI x.From,tI x.Until,.sl 3 (x.Hidden.map GAddress.enc)]
def GEdition.dt:DT:= .st (.fc (.sl GCapture.dt) (.fc .int (.fc .int (.fc (.sl GAddress.dt) .fn))))
theorem GEdition.of{ts:List T}(h:IsT GEdition.dt ts):∃x:GEdition,ts=x.enc:=by
 simp only[GEdition.dt,IsT]at h
 obtain⟨_,_,rfl,⟨l0,rfl,k0⟩,_,_,rfl,⟨v1,rfl⟩,_,_,rfl,⟨v2,rfl⟩,_,_,rfl,⟨l3,rfl,k3⟩,rfl⟩:=h
 obtain⟨v0,rfl⟩:=list_of GCapture.of k0
 obtain⟨v3,rfl⟩:=list_of GAddress.of k3
 exact⟨⟨v0,v1,v2,v3⟩,rfl⟩
theorem GEdition.eqv{x y:GEdition}:x=y↔x.Captures=y.Captures∧x.From=y.From∧x.Until=y.Until∧x.Hidden=y.Hidden:=by
 constructor
 ·rintro rfl;simp
 ·intro h
  rcases x with ⟨aCaptures,aFrom,aUntil,aHidden⟩
  rcases y with ⟨bCaptures,bFrom,bUntil,bHidden⟩
  simp only at h
  obtain⟨rfl,rfl,rfl,rfl⟩:=h
  rfl
def GEdition.size(x:GEdition):Nat:=(x.Captures.length+(x.Captures.map GCapture.size).sum)+(x.Hidden.length)
structure GExclusion where
 Host:Int
 Path:Int
 From:Int
 Until:Int
 Asked:Int
 deriving DecidableEq
def GExclusion.enc(x:GExclusion):List T:=[tI x.Host,tI x.Path,tI x.From,tI x.Until,tI x.Asked]
def GExclusion.dt:DT:= .st (.fc .int (.fc .int (.fc .int (.fc .int (.fc .int .fn)))))
theorem GExclusion.of{ts:List T}(h:IsT GExclusion.dt ts):∃x:GExclusion,ts=x.enc:=by
 simp only[GExclusion.dt,IsT]at h
 obtain⟨_,_,rfl,⟨v0,rfl⟩,_,_,rfl,⟨v1,rfl⟩,_,_,rfl,⟨v2,rfl⟩,_,_,rfl,⟨v3,rfl⟩,_,_,rfl,⟨v4,rfl⟩,rfl⟩:=h
 exact⟨⟨v0,v1,v2,v3,v4⟩,rfl⟩
theorem GExclusion.eqv{x y:GExclusion}:x=y↔x.Host=y.Host∧x.Path=y.Path∧x.From=y.From∧x.Until=y.Until∧x.Asked=y.Asked:=by
 constructor
 ·rintro rfl;simp
 ·intro h
  rcases x with ⟨aHost,aPath,aFrom,aUntil,aAsked⟩
  rcases y with ⟨bHost,bPath,bFrom,bUntil,bAsked⟩
  simp only at h
  obtain⟨rfl,rfl,rfl,rfl,rfl⟩:=h
  rfl
structure GStatement where
 Witness:Int
 Digest:Int
 Tick:Int
 Seal:Int
 deriving DecidableEq
def GStatement.enc(x:GStatement):List T:=[tI x.Witness,tI x.Digest,tI x.Tick,tI x.Seal]
def GStatement.dt:DT:= .st (.fc .int (.fc .int (.fc .int (.fc .int .fn))))
theorem GStatement.of{ts:List T}(h:IsT GStatement.dt ts):∃x:GStatement,ts=x.enc:=by
 simp only[GStatement.dt,IsT]at h
 obtain⟨_,_,rfl,⟨v0,rfl⟩,_,_,rfl,⟨v1,rfl⟩,_,_,rfl,⟨v2,rfl⟩,_,_,rfl,⟨v3,rfl⟩,rfl⟩:=h
 exact⟨⟨v0,v1,v2,v3⟩,rfl⟩
theorem GStatement.eqv{x y:GStatement}:x=y↔x.Witness=y.Witness∧x.Digest=y.Digest∧x.Tick=y.Tick∧x.Seal=y.Seal:=by
 constructor
 ·rintro rfl;simp
 ·intro h
  rcases x with ⟨aWitness,aDigest,aTick,aSeal⟩
  rcases y with ⟨bWitness,bDigest,bTick,bSeal⟩
  simp only at h
  obtain⟨rfl,rfl,rfl,rfl⟩:=h
  rfl
structure GLibrary where
 Id:Int
 Digests:List Int
 Up:Bool
 Lies:Bool
 deriving DecidableEq
def GLibrary.enc(x:GLibrary):List T:=[tI x.Id,.sl 1 (x.Digests.map encI),tB x.Up,tB x.Lies]
def GLibrary.dt:DT:= .st (.fc .int (.fc (.sl .int) (.fc .bool (.fc .bool .fn))))
theorem GLibrary.of{ts:List T}(h:IsT GLibrary.dt ts):∃x:GLibrary,ts=x.enc:=by
 simp only[GLibrary.dt,IsT]at h
 obtain⟨_,_,rfl,⟨v0,rfl⟩,_,_,rfl,⟨l1,rfl,k1⟩,_,_,rfl,⟨v2,rfl⟩,_,_,rfl,⟨v3,rfl⟩,rfl⟩:=h
 obtain⟨v1,rfl⟩:=list_of int_of k1
 exact⟨⟨v0,v1,v2,v3⟩,rfl⟩
theorem GLibrary.eqv{x y:GLibrary}:x=y↔x.Id=y.Id∧x.Digests=y.Digests∧x.Up=y.Up∧x.Lies=y.Lies:=by
 constructor
 ·rintro rfl;simp
 ·intro h
  rcases x with ⟨aId,aDigests,aUp,aLies⟩
  rcases y with ⟨bId,bDigests,bUp,bLies⟩
  simp only at h
  obtain⟨rfl,rfl,rfl,rfl⟩:=h
  rfl
def GLibrary.size(x:GLibrary):Nat:=(x.Digests.length)
structure GContainer where
 Script:List GOp
 Entries:List GEntry
 Captures:List GCapture
 Root:Int
 deriving DecidableEq
def GContainer.enc(x:GContainer):List T:=[.sl 4 (x.Script.map GOp.enc),.sl 5 (x.Entries.map GEntry.enc),.sl 9 (x.Captures.map GCapture.enc),tI x.Root]
def GContainer.dt:DT:= .st (.fc (.sl GOp.dt) (.fc (.sl GEntry.dt) (.fc (.sl GCapture.dt) (.fc .int .fn))))
theorem GContainer.of{ts:List T}(h:IsT GContainer.dt ts):∃x:GContainer,ts=x.enc:=by
 simp only[GContainer.dt,IsT]at h
 obtain⟨_,_,rfl,⟨l0,rfl,k0⟩,_,_,rfl,⟨l1,rfl,k1⟩,_,_,rfl,⟨l2,rfl,k2⟩,_,_,rfl,⟨v3,rfl⟩,rfl⟩:=h
 obtain⟨v0,rfl⟩:=list_of GOp.of k0
 obtain⟨v1,rfl⟩:=list_of GEntry.of k1
 obtain⟨v2,rfl⟩:=list_of GCapture.of k2
 exact⟨⟨v0,v1,v2,v3⟩,rfl⟩
theorem GContainer.eqv{x y:GContainer}:x=y↔x.Script=y.Script∧x.Entries=y.Entries∧x.Captures=y.Captures∧x.Root=y.Root:=by
 constructor
 ·rintro rfl;simp
 ·intro h
  rcases x with ⟨aScript,aEntries,aCaptures,aRoot⟩
  rcases y with ⟨bScript,bEntries,bCaptures,bRoot⟩
  simp only at h
  obtain⟨rfl,rfl,rfl,rfl⟩:=h
  rfl
def GContainer.size(x:GContainer):Nat:=(x.Script.length)+(x.Entries.length)+(x.Captures.length+(x.Captures.map GCapture.size).sum)
structure GFound where
 Address:GAddress
 Tick:Int
 Container:Int
 At:Int
 deriving DecidableEq
def GFound.enc(x:GFound):List T:=[tI x.Address.Host,tI x.Address.Path,tI x.Address.Query,tI x.Tick,tI x.Container,tI x.At]
def GFound.dt:DT:= .st (.fc GAddress.dt (.fc .int (.fc .int (.fc .int .fn))))
theorem GFound.of{ts:List T}(h:IsT GFound.dt ts):∃x:GFound,ts=x.enc:=by
 simp only[GFound.dt,IsT]at h
 obtain⟨_,_,rfl,k0,_,_,rfl,⟨v1,rfl⟩,_,_,rfl,⟨v2,rfl⟩,_,_,rfl,⟨v3,rfl⟩,rfl⟩:=h
 obtain⟨v0,rfl⟩:=GAddress.of k0
 exact⟨⟨v0,v1,v2,v3⟩,rfl⟩
theorem GFound.eqv{x y:GFound}:x=y↔x.Address.Host=y.Address.Host∧x.Address.Path=y.Address.Path∧x.Address.Query=y.Address.Query∧x.Tick=y.Tick∧x.Container=y.Container∧x.At=y.At:=by
 constructor
 ·rintro rfl;simp
 ·intro h
  rcases x with ⟨⟨aAddressHost,aAddressPath,aAddressQuery⟩,aTick,aContainer,aAt⟩
  rcases y with ⟨⟨bAddressHost,bAddressPath,bAddressQuery⟩,bTick,bContainer,bAt⟩
  simp only at h
  obtain⟨rfl,rfl,rfl,rfl,rfl,rfl⟩:=h
  rfl
structure GDisk where
 Containers:List GContainer
 Index:List GFound
 Wanted:List GContainer
 deriving DecidableEq
def GDisk.enc(x:GDisk):List T:=[.sl 4 (x.Containers.map GContainer.enc),.sl 6 (x.Index.map GFound.enc),.sl 4 (x.Wanted.map GContainer.enc)]
def GDisk.dt:DT:= .st (.fc (.sl GContainer.dt) (.fc (.sl GFound.dt) (.fc (.sl GContainer.dt) .fn)))
theorem GDisk.of{ts:List T}(h:IsT GDisk.dt ts):∃x:GDisk,ts=x.enc:=by
 simp only[GDisk.dt,IsT]at h
 obtain⟨_,_,rfl,⟨l0,rfl,k0⟩,_,_,rfl,⟨l1,rfl,k1⟩,_,_,rfl,⟨l2,rfl,k2⟩,rfl⟩:=h
 obtain⟨v0,rfl⟩:=list_of GContainer.of k0
 obtain⟨v1,rfl⟩:=list_of GFound.of k1
 obtain⟨v2,rfl⟩:=list_of GContainer.of k2
 exact⟨⟨v0,v1,v2⟩,rfl⟩
theorem GDisk.eqv{x y:GDisk}:x=y↔x.Containers=y.Containers∧x.Index=y.Index∧x.Wanted=y.Wanted:=by
 constructor
 ·rintro rfl;simp
 ·intro h
  rcases x with ⟨aContainers,aIndex,aWanted⟩
  rcases y with ⟨bContainers,bIndex,bWanted⟩
  simp only at h
  obtain⟨rfl,rfl,rfl⟩:=h
  rfl
def GDisk.size(x:GDisk):Nat:=(x.Containers.length+(x.Containers.map GContainer.size).sum)+(x.Index.length)+(x.Wanted.length+(x.Wanted.map GContainer.size).sum)
structure GArchive where
 Site:List GVersion
 Script:List GOp
 Disk:GDisk
 Exclusions:List GExclusion
 Libraries:List GLibrary
 Keys:List Int
 Statements:List GStatement
 Now:Int
 deriving DecidableEq
def GArchive.enc(x:GArchive):List T:=[.sl 9 (x.Site.map GVersion.enc),.sl 4 (x.Script.map GOp.enc),.sl 4 (x.Disk.Containers.map GContainer.enc),.sl 6 (x.Disk.Index.map GFound.enc),.sl 4 (x.Disk.Wanted.map GContainer.enc),.sl 5 (x.Exclusions.map GExclusion.enc),.sl 4 (x.Libraries.map GLibrary.enc),.sl 1 (x.Keys.map encI),.sl 4 (x.Statements.map GStatement.enc),tI x.Now]
def GArchive.dt:DT:= .st (.fc (.sl GVersion.dt) (.fc (.sl GOp.dt) (.fc GDisk.dt (.fc (.sl GExclusion.dt) (.fc (.sl GLibrary.dt) (.fc (.sl .int) (.fc (.sl GStatement.dt) (.fc .int .fn))))))))
theorem GArchive.of{ts:List T}(h:IsT GArchive.dt ts):∃x:GArchive,ts=x.enc:=by
 simp only[GArchive.dt,IsT]at h
 obtain⟨_,_,rfl,⟨l0,rfl,k0⟩,_,_,rfl,⟨l1,rfl,k1⟩,_,_,rfl,k2,_,_,rfl,⟨l3,rfl,k3⟩,_,_,rfl,⟨l4,rfl,k4⟩,_,_,rfl,⟨l5,rfl,k5⟩,_,_,rfl,⟨l6,rfl,k6⟩,_,_,rfl,⟨v7,rfl⟩,rfl⟩:=h
 obtain⟨v0,rfl⟩:=list_of GVersion.of k0
 obtain⟨v1,rfl⟩:=list_of GOp.of k1
 obtain⟨v2,rfl⟩:=GDisk.of k2
 obtain⟨v3,rfl⟩:=list_of GExclusion.of k3
 obtain⟨v4,rfl⟩:=list_of GLibrary.of k4
 obtain⟨v5,rfl⟩:=list_of int_of k5
 obtain⟨v6,rfl⟩:=list_of GStatement.of k6
 exact⟨⟨v0,v1,v2,v3,v4,v5,v6,v7⟩,rfl⟩
theorem GArchive.eqv{x y:GArchive}:x=y↔x.Site=y.Site∧x.Script=y.Script∧x.Disk.Containers=y.Disk.Containers∧x.Disk.Index=y.Disk.Index∧x.Disk.Wanted=y.Disk.Wanted∧x.Exclusions=y.Exclusions∧x.Libraries=y.Libraries∧x.Keys=y.Keys∧x.Statements=y.Statements∧x.Now=y.Now:=by
 constructor
 ·rintro rfl;simp
 ·intro h
  rcases x with ⟨aSite,aScript,⟨aDiskContainers,aDiskIndex,aDiskWanted⟩,aExclusions,aLibraries,aKeys,aStatements,aNow⟩
  rcases y with ⟨bSite,bScript,⟨bDiskContainers,bDiskIndex,bDiskWanted⟩,bExclusions,bLibraries,bKeys,bStatements,bNow⟩
  simp only at h
  obtain⟨rfl,rfl,rfl,rfl,rfl,rfl,rfl,rfl,rfl,rfl⟩:=h
  rfl
def GArchive.size(x:GArchive):Nat:=(x.Site.length+(x.Site.map GVersion.size).sum)+(x.Script.length)+(x.Disk.size)+(x.Exclusions.length)+(x.Libraries.length+(x.Libraries.map GLibrary.size).sum)+(x.Keys.length)+(x.Statements.length)
structure GEvent where
 Kind:Int
 N:Int
 Inputs:List Int
 Version:GVersion
 Exclusion:GExclusion
 deriving DecidableEq
def GEvent.enc(x:GEvent):List T:=[tI x.Kind,tI x.N,.sl 1 (x.Inputs.map encI),tI x.Version.Address.Host,tI x.Version.Address.Path,tI x.Version.Address.Query,tI x.Version.From,tI x.Version.Resource.Kind,.sl 1 (x.Version.Resource.Body.map encI),tI x.Version.Resource.To.Host,tI x.Version.Resource.To.Path,tI x.Version.Resource.To.Query,tI x.Exclusion.Host,tI x.Exclusion.Path,tI x.Exclusion.From,tI x.Exclusion.Until,tI x.Exclusion.Asked]
def GEvent.dt:DT:= .st (.fc .int (.fc .int (.fc (.sl .int) (.fc GVersion.dt (.fc GExclusion.dt .fn)))))
theorem GEvent.of{ts:List T}(h:IsT GEvent.dt ts):∃x:GEvent,ts=x.enc:=by
 simp only[GEvent.dt,IsT]at h
 obtain⟨_,_,rfl,⟨v0,rfl⟩,_,_,rfl,⟨v1,rfl⟩,_,_,rfl,⟨l2,rfl,k2⟩,_,_,rfl,k3,_,_,rfl,k4,rfl⟩:=h
 obtain⟨v2,rfl⟩:=list_of int_of k2
 obtain⟨v3,rfl⟩:=GVersion.of k3
 obtain⟨v4,rfl⟩:=GExclusion.of k4
 exact⟨⟨v0,v1,v2,v3,v4⟩,rfl⟩
theorem GEvent.eqv{x y:GEvent}:x=y↔x.Kind=y.Kind∧x.N=y.N∧x.Inputs=y.Inputs∧x.Version.Address.Host=y.Version.Address.Host∧x.Version.Address.Path=y.Version.Address.Path∧x.Version.Address.Query=y.Version.Address.Query∧x.Version.From=y.Version.From∧x.Version.Resource.Kind=y.Version.Resource.Kind∧x.Version.Resource.Body=y.Version.Resource.Body∧x.Version.Resource.To.Host=y.Version.Resource.To.Host∧x.Version.Resource.To.Path=y.Version.Resource.To.Path∧x.Version.Resource.To.Query=y.Version.Resource.To.Query∧x.Exclusion.Host=y.Exclusion.Host∧x.Exclusion.Path=y.Exclusion.Path∧x.Exclusion.From=y.Exclusion.From∧x.Exclusion.Until=y.Exclusion.Until∧x.Exclusion.Asked=y.Exclusion.Asked:=by
 constructor
 ·rintro rfl;simp
 ·intro h
  rcases x with ⟨aKind,aN,aInputs,⟨⟨aVersionAddressHost,aVersionAddressPath,aVersionAddressQuery⟩,aVersionFrom,⟨aVersionResourceKind,aVersionResourceBody,⟨aVersionResourceToHost,aVersionResourceToPath,aVersionResourceToQuery⟩⟩⟩,⟨aExclusionHost,aExclusionPath,aExclusionFrom,aExclusionUntil,aExclusionAsked⟩⟩
  rcases y with ⟨bKind,bN,bInputs,⟨⟨bVersionAddressHost,bVersionAddressPath,bVersionAddressQuery⟩,bVersionFrom,⟨bVersionResourceKind,bVersionResourceBody,⟨bVersionResourceToHost,bVersionResourceToPath,bVersionResourceToQuery⟩⟩⟩,⟨bExclusionHost,bExclusionPath,bExclusionFrom,bExclusionUntil,bExclusionAsked⟩⟩
  simp only at h
  obtain⟨rfl,rfl,rfl,rfl,rfl,rfl,rfl,rfl,rfl,rfl,rfl,rfl,rfl,rfl,rfl,rfl,rfl⟩:=h
  rfl
def GEvent.size(x:GEvent):Nat:=(x.Inputs.length)+(x.Version.size)
structure GChange where
 Tick:Int
 Digest:Int
 deriving DecidableEq
def GChange.enc(x:GChange):List T:=[tI x.Tick,tI x.Digest]
def GChange.dt:DT:= .st (.fc .int (.fc .int .fn))
theorem GChange.of{ts:List T}(h:IsT GChange.dt ts):∃x:GChange,ts=x.enc:=by
 simp only[GChange.dt,IsT]at h
 obtain⟨_,_,rfl,⟨v0,rfl⟩,_,_,rfl,⟨v1,rfl⟩,rfl⟩:=h
 exact⟨⟨v0,v1⟩,rfl⟩
theorem GChange.eqv{x y:GChange}:x=y↔x.Tick=y.Tick∧x.Digest=y.Digest:=by
 constructor
 ·rintro rfl;simp
 ·intro h
  rcases x with ⟨aTick,aDigest⟩
  rcases y with ⟨bTick,bDigest⟩
  simp only at h
  obtain⟨rfl,rfl⟩:=h
  rfl
structure GPlayed where
 Code:Int
 At:Int
 State:GState
 deriving DecidableEq
def GPlayed.enc(x:GPlayed):List T:=[tI x.Code,tI x.At,tI x.State.Pc,.sl 1 (x.State.Regs.map encI),.sl 1 (x.State.Slots.map encI),.sl 1 (x.State.Nodes.map encI)]
def GPlayed.dt:DT:= .st (.fc .int (.fc .int (.fc GState.dt .fn)))
theorem GPlayed.of{ts:List T}(h:IsT GPlayed.dt ts):∃x:GPlayed,ts=x.enc:=by
 simp only[GPlayed.dt,IsT]at h
 obtain⟨_,_,rfl,⟨v0,rfl⟩,_,_,rfl,⟨v1,rfl⟩,_,_,rfl,k2,rfl⟩:=h
 obtain⟨v2,rfl⟩:=GState.of k2
 exact⟨⟨v0,v1,v2⟩,rfl⟩
theorem GPlayed.eqv{x y:GPlayed}:x=y↔x.Code=y.Code∧x.At=y.At∧x.State.Pc=y.State.Pc∧x.State.Regs=y.State.Regs∧x.State.Slots=y.State.Slots∧x.State.Nodes=y.State.Nodes:=by
 constructor
 ·rintro rfl;simp
 ·intro h
  rcases x with ⟨aCode,aAt,⟨aStatePc,aStateRegs,aStateSlots,aStateNodes⟩⟩
  rcases y with ⟨bCode,bAt,⟨bStatePc,bStateRegs,bStateSlots,bStateNodes⟩⟩
  simp only at h
  obtain⟨rfl,rfl,rfl,rfl,rfl,rfl⟩:=h
  rfl
def GPlayed.size(x:GPlayed):Nat:=(x.State.size)
attribute [go_sem] encI encB GAddress.enc GResource.enc GPart.enc GPiece.enc GVersion.enc GOp.enc GState.enc GVisit.enc GWant.enc GEntry.enc GCapture.enc GChoice.enc GWander.enc GModel.enc GShown.enc GLeaf.enc GEdition.enc GExclusion.enc GStatement.enc GLibrary.enc GContainer.enc GFound.enc GDisk.enc GArchive.enc GEvent.enc GChange.enc GPlayed.enc
end Go.Proofs.YtjneccbpkckdfaaGreatR
namespace Go.Proofs.YtjneccbpkckdfaaGreatR
open Go Go.RowKit
open Nat (reduceEqDiff reduceLT reduceLeDiff reduceAdd reduceMul)
open List (reduceReplicate)
def szr(n:Nat)(left:Int):Int:=if (n:Int)≤left then left-n else -1
theorem K5y{n:Nat}{left:Int}(_:0≤left):szr n left<0↔left<n:=by unfold szr;split<;>omega
theorem K1m{n m:Nat}{left:Int}(_:0≤left)(h1:¬szr n left<0):0≤szr n left∧szr n left≤left∧szr (n+m) left=szr m (szr n left):=by
 unfold szr at*
 split at h1
 ·rename_i h2
  simp only[h2,if_true]
  refine⟨by omega,by omega,?_⟩
  split<;>split<;>omega
 ·omega
def own:List T→List (Bool×T)
 | []=>[]
 |.sl k es::l=>(true,.sl k es)::own l
 |t::l=>(false,t)::own l
@[go_sem] theorem own_nil:own []=[]:=rfl
@[go_sem] theorem own_sl {k es l}:own (.sl k es::l)=(true,.sl k es)::own l:=rfl
@[go_sem] theorem own_sc {v l}:own (.sc v::l)=(false,.sc v)::own l:=rfl
abbrev rS(ts:List T):RV:=⟨true,own ts⟩
abbrev rL(k:Nat)(es:List (List T)):RV:=⟨false,[(true,.sl k es)]⟩
abbrev aS(ts:List T):Bool×List T:=(true,ts)
attribute [go_sem] rS rL aS
def filled{α:Type}(f:α→List T)(z:List T)(xs:List α)(k:Nat):List (List T):=(xs.take k).map f++List.replicate (xs.length-k) z
section
variable {α:Type} {f:α→List T} {z:List T} {xs:List α} {k:Nat}
@[go_sem] theorem K1h (h:k≤xs.length):(filled f z xs k).length=xs.length:=by simp[filled];omega
theorem K17:filled f z xs 0=List.replicate xs.length z:=by simp[filled]
theorem K1f:filled f z xs xs.length=xs.map f:=by simp[filled]
theorem K1g(h:k<xs.length):(filled f z xs k)[k]? =some z:=by
 unfold filled
 rw[List.getElem?_append_right (by simp;omega),List.getElem?_replicate,if_pos (by simp;omega)]
theorem K1i{x:α}(h:xs[k]? =some x):(filled f z xs k).set k (f x)=filled f z xs (k+1):=by
 have hk:=Ka h
 unfold filled
 rw[List.set_append_right _ _ (by simp;omega),Kk h]
 have e:xs.length-k=(xs.length-(k+1))+1:=by omega
 rw[e,List.replicate_succ]
 have e2:k-(List.map f (List.take k xs)).length=0:=by simp;omega
 rw[e2]
 simp
end
theorem Ko{α:Type}{xs ys:List α}{k:Nat}{x y:α}(hx:xs[k]? =some x)(hy:ys[k]? =some y)(h:xs.take k=ys.take k):xs.take (k+1)=ys.take (k+1)↔x=y:=by
 rw[Kk hx,Kk hy,h]
 simp
theorem K3e{α:Type} [DecidableEq α] {xs ys:List α}{k:Nat}{x y:α}(hx:xs[k]? =some x)(hy:ys[k]? =some y)(h:¬x=y):false=decide (xs=ys):=by
 symm
 rw[decide_eq_false_iff_not]
 rintro rfl
 rw[hx]at hy
 exact h (Option.some.inj hy)
theorem K2l{α:Type} [DecidableEq α] {xs ys:List α}(h:¬(xs.length:Int)=ys.length):false=decide (xs=ys):=by
 symm
 rw[decide_eq_false_iff_not]
 rintro rfl
 exact h rfl
theorem K2k{α:Type} [DecidableEq α] {xs ys:List α}(he:xs.take xs.length=ys.take xs.length)(hl:xs.length=ys.length):true=decide (xs=ys):=by
 symm
 rw[decide_eq_true_iff]
 rw[List.take_length]at he
 rw[he,hl,List.take_length]
theorem szr_bad'{n N:Nat}{left:Int}(h0:0≤left)(h:szr n left<0)(hn:n≤N): -1=szr N left:=by
 rw[K5y h0]at h
 unfold szr
 rw[if_neg (by omega)]
theorem szr_ok{n:Nat}{left:Int}(h:¬szr n left<0):(n:Int)≤left:=by
 unfold szr at h
 split at h<;>omega
theorem K6e{α:Type}{f:α→Nat}{l:List α}{k:Nat}{x:α}(h:l[k]? =some x):((l.take (k+1)).map f).sum=((l.take k).map f).sum+f x:=by
 rw[Kk h];simp
theorem K1w{α:Type}{f:α→Nat}(l:List α)(k:Nat):((l.take k).map f).sum≤(l.map f).sum:=by
 have h:(l.map f).sum=((l.take k).map f).sum+((l.drop k).map f).sum:=by
  rw[←List.sum_append,←List.map_append,List.take_append_drop]
 omega
theorem K23{α:Type}{f:α→Nat}{l:List α}{x:α}(h:x∈l):f x≤(l.map f).sum:=by
 induction l with
 |nil=>simp at h
 |cons y l ih=>
  rcases List.mem_cons.1 h with rfl|h
  ·simp
  ·have:=ih h;simp;omega
theorem Kb1{α:Type}{l:List α}{k:Nat}{x:α}(h:l[k]? =some x):(l.take k).length+1=(l.take (k+1)).length:=by
 rw[Kk h];simp
theorem Kb2{α:Type}{f:α→List T}{l:List α}{k:Nat}{x:α}(h:l[k]? =some x):(l.take k).map f++[f x]=(l.take (k+1)).map f:=by
 rw[Kk h];simp
end Go.Proofs.YtjneccbpkckdfaaGreatR
namespace Go.Proofs.YtjneccbpkckdfaaGreatR
open Go Go.RowKit Go.Proofs
open Nat (reduceEqDiff reduceLT reduceLeDiff reduceAdd reduceMul)
open List (reduceReplicate)
theorem hmix:Tryz.prog.follows .mixedOrders=true:=by kernel_rfl
theorem cA{f:FuncId}{fn:Func}{c:Code}{args:List (Bool×List T)}{rs:List RV}(M:MC)(m n:Nat)(res:List (MR×List Bool))(hf:Tryz.prog.funcs[f]? =some fn)(hb:fn.body=some c)(hnt:fn.ntmps=n)
    (h : bdA args → wpC Tryz.prog M (kF res rs) (startS args n m)) (hname : (fn.name == "runtime.NumGoroutine") = false := by kernel_rfl) (hc : chkC Tryz.prog c M = true := by kernel_rfl) (hres : K19 Tryz.prog fn.results.toList (res.map (·.1)) = true := by kernel_rfl) (hn : args.length ≤ n := by exact Nat.le_of_ble_eq_true rfl) : Ctr Tryz.prog f args rs :=
  ctr_at hmix hf hb hname hnt hc hres hn h
abbrev N7l:Nat:=5
abbrev N7r:Nat:=8
abbrev N1h:Nat:=11
abbrev N7m:Nat:=14
abbrev N6c:Nat:=25
abbrev Nv:Nat:=26
abbrev N5t:Nat:=27
abbrev N1i:Nat:=28
abbrev N8x:Nat:=29
abbrev N8q:Nat:=30
abbrev N5o:Nat:=43
abbrev N63:Nat:=46
abbrev N7u:Nat:=47
abbrev Nau:Nat:=48
abbrev N3e:Nat:=49
abbrev N61:Nat:=50
abbrev N4h:Nat:=51
abbrev N3f:Nat:=52
abbrev N7v:Nat:=53
abbrev N67:Nat:=63
abbrev N7y:Nat:=64
abbrev Nav:Nat:=65
abbrev N3g:Nat:=66
abbrev N65:Nat:=67
abbrev N3h:Nat:=68
abbrev N7z:Nat:=69
abbrev N4a:Nat:=70
abbrev N5z:Nat:=80
abbrev N7p:Nat:=81
abbrev Nas:Nat:=82
abbrev N3c:Nat:=83
abbrev N5x:Nat:=84
abbrev N3d:Nat:=85
abbrev N7q:Nat:=86
abbrev N46:Nat:=87
abbrev N81:Nat:=102
abbrev N7g:Nat:=103
abbrev N84:Nat:=104
abbrev N2f:Nat:=105
abbrev N7j:Nat:=106
abbrev N2e:Nat:=107
abbrev N3b:Nat:=119
abbrev Ns:Nat:=123
abbrev N68:Nat:=127
abbrev Nh:Nat:=128
abbrev N3a:Nat:=129
abbrev N1g:Nat:=130
abbrev N5n:Nat:=131
abbrev N1m:Nat:=134
abbrev N8u:Nat:=135
abbrev N7t:Nat:=136
abbrev N62:Nat:=137
abbrev N4d:Nat:=148
abbrev N0:Nat:=151
abbrev Ncq:Nat:=153
abbrev N1n:Nat:=154
abbrev N8w:Nat:=155
abbrev N7x:Nat:=156
abbrev N4b:Nat:=157
abbrev N16:Nat:=158
abbrev N66:Nat:=159
abbrev N43:Nat:=168
abbrev N1:Nat:=173
abbrev Nj:Nat:=177
abbrev Ncp:Nat:=179
abbrev N1l:Nat:=180
abbrev N8s:Nat:=181
abbrev N7o:Nat:=182
abbrev N47:Nat:=183
abbrev N15:Nat:=184
abbrev N5y:Nat:=185
abbrev N69:Nat:=191
abbrev N5p:Nat:=192
abbrev N6e:Nat:=193
abbrev N2p:Nat:=194
abbrev N1v:Nat:=195
abbrev Nm:Nat:=196
abbrev Naw:Nat:=197
abbrev Nax:Nat:=198
abbrev N80:Nat:=199
abbrev N26:Nat:=200
abbrev N6d:Nat:=201
abbrev N4k:Nat:=202
abbrev N6g:Nat:=203
abbrev N3m:Nat:=204
abbrev N3n:Nat:=205
abbrev N82:Nat:=206
abbrev N83:Nat:=207
abbrev N4c:Nat:=208
abbrev N1w:Nat:=209
abbrev N6f:Nat:=210
abbrev N5v:Nat:=211
abbrev N2m:Nat:=212
abbrev N1t:Nat:=213
abbrev Naq:Nat:=214
abbrev Nar:Nat:=215
abbrev N7f:Nat:=216
abbrev N25:Nat:=217
abbrev N5u:Nat:=218
abbrev N1d:Nat:=219
abbrev N7h:Nat:=220
abbrev N7i:Nat:=221
abbrev N42:Nat:=222
abbrev N1j:Nat:=232
abbrev N8z:Nat:=236
abbrev N9z:Nat:=237
abbrev N86:Nat:=238
abbrev N12:Nat:=239
abbrev N2k:Nat:=240
abbrev N48:Nat:=241
abbrev N4l:Nat:=249
abbrev N2b:Nat:=250
abbrev N1z:Nat:=251
abbrev N49:Nat:=256
abbrev N9w:Nat:=257
abbrev N1u:Nat:=258
abbrev N1k:Nat:=266
abbrev N2a:Nat:=269
abbrev N1x:Nat:=270
abbrev N45:Nat:=278
abbrev N9u:Nat:=279
abbrev N1f:Nat:=284
abbrev Nbr:Nat:=285
abbrev N4i:Nat:=286
abbrev Ncr:Nat:=287
abbrev N3l:Nat:=288
abbrev N3:Nat:=289
abbrev N9y:Nat:=290
abbrev N85:Nat:=291
abbrev Np:Nat:=292
abbrev N5s:Nat:=293
abbrev Nco:Nat:=294
abbrev Nf:Nat:=295
abbrev N2l:Nat:=296
abbrev N3j:Nat:=297
abbrev Ncn:Nat:=298
abbrev N3k:Nat:=299
abbrev N9s:Nat:=300
abbrev N18:Nat:=301
abbrev N7k:Nat:=302
abbrev Na:Nat:=303
abbrev N44:Nat:=304
abbrev N5r:Nat:=305
abbrev N2o:Nat:=318
abbrev N8:Nat:=319
abbrev N5:Nat:=320
abbrev N8t:Nat:=321
abbrev N60:Nat:=322
abbrev N28:Nat:=323
abbrev Na0:Nat:=332
abbrev N8v:Nat:=333
abbrev N64:Nat:=334
abbrev N8r:Nat:=346
abbrev N5w:Nat:=347
abbrev N9x:Nat:=348
abbrev N6a:Nat:=349
abbrev N4j:Nat:=350
abbrev N1y:Nat:=351
abbrev N6b:Nat:=352
abbrev Nx:Nat:=353
abbrev Nk:Nat:=354
abbrev N9r:Nat:=355
abbrev N5q:Nat:=356
abbrev N2n:Nat:=357
abbrev Nd:Nat:=358
abbrev N24:Nat:=359
abbrev N11:Nat:=365
abbrev N7s:Nat:=366
abbrev N9v:Nat:=373
abbrev N7w:Nat:=374
abbrev N9t:Nat:=382
abbrev N7n:Nat:=383
abbrev N1o:Nat:=384
abbrev N8y:Nat:=385
abbrev N7:Nat:=387
def Y0:MC:=
(Zs [.mv 4 (ci 0)] [0,1] (Zs [mS 5 1,mS 6 0,nS 7 6,bS 8 .sub 5 7,mS 1 8] [1] (.seq (Zs [mS 9 1,bC 10 .lss 9 0] [1,10] (.cond (.s 10) (Zs [.mv 4 (.c (.int .i64 (-1)))] [4] .ret) .skip))
(Zs [mS 11 1,mS 4 11] [4] .ret))))
attribute [go_sem] Y0
def Mag:MC:=Y0
theorem C4e(xs:List Int)(left:Int)(h0:0≤left):Ctr Tryz.prog N4h [aL 1 (xs.map encI),aI left] [rI (szr xs.length left)]:=by
 refine cA Mag 0 12 [(.tmp 4,[false])] Tryz.func51 rfl rfl ?_;unfold Mag
 intro hb
 simp only[bdA,bdL,bdT,Kh,K1n,roomB,and_true,List.length_map]at hb
 obtain⟨⟨hl,-⟩,hn⟩:=hb
 simp only[go_sem]
 rw[wI (by omega) (by omega)]
 unfold szr
 refine⟨fun h=>?_,fun h=>?_⟩
 ·rw[if_neg (by omega)]
 ·rw[if_pos (by omega)]
def Mai:MC:=
(Zs [.nilo 2 0 1] [0] (Zs [mS 5 0,nS 6 5,.mk 7 0 1 8 [.sc (.int .i64 0)] (.s 6),mS 3 7] [0,3] (.seq (Zs [.mv 4 (ci 0)] [0,3,4] (.block 0 (.loop ([0,3,4],[]) (.seq (Zs [mS 8 4,mS 9 0,nS 10 9,bS 11 .lss 8 10] [0,3,4,11] (cX 11 0))
(.seq (.block 1 (pr [mS 14 3,mS 15 4,mS 16 0,mS 17 4,xS 18 1 16 17,lF 19 1 18,xS 20 1 14 15,sS 1 20 19] [0,3,4]))
(pr [mS 12 4,bC 13 .add 12 1,mS 4 13] [0,3,4]))))))
(Zs [mS 21 3,mS 2 21] [2] .ret))))
theorem C19(xs:List Int)(hs:xs.length≤1073741824):Ctr Tryz.prog Nv [aL 1 (xs.map encI)] [rL 1 (xs.map encI)]:=by
 refine cA Mai 1 22 [(.tmp 2,[true])] Tryz.func26 rfl rfl ?_;unfold Mai
 intro hb
 simp only[go_sem]
 refine⟨⟨by omega,by simp only[roomB];omega⟩,?_⟩
 refine K4 xs (fun k=>[(4,vI k)]) (fun k=>[(0,⟨0,.row true 1 (filled encI [tI 0] xs k)⟩)]) (fun _=>True) (by simp only[roomB];omega) ?_
 simp only[go_sem]
 refine⟨?_,trivial,?_,?_⟩
 ·simp only[go_sem,K17]
  all_goals rfl
 ·intro k x hx _ h0 h1 hw
  have h:k<xs.length:=by omega
  simp only[go_sem,K1 hx,K1 (K1g h),K1h (Nat.le_of_lt h),h0,h1,hw]
  exact K1i hx
 ·intro _
  simp only[go_sem,K1f]
def Mae:MC:=
(Zs [.mv 4 cF] [0,1] (.seq (Zs [mS 6 0,nS 7 6,mS 8 1,nS 9 8,bS 10 .neq 7 9] [0,1,10] (.cond (.s 10) (Zs [.mv 4 cF] [4] .ret) .skip))
(.seq (Zs [.mv 5 (ci 0)] [0,1,5] (.block 0 (.loop ([0,1,5],[]) (.seq (Zs [mS 11 5,mS 12 0,nS 13 12,bS 14 .lss 11 13] [0,1,5,14] (cX 14 0))
(.seq (.block 1 (.seq (.dreg [Zc [18,21,22,23,24] (mS 17 0),Zc [17,21,22,23,24] (mS 18 5),Zd [21,22,23,24] [0,1] (xS 19 1 17 18),Zd [21,22,23,24] [0,1,2] (lF 20 1 19),Zc [17,18,19,20,22] (mS 21 1),Zc [17,18,19,20,21] (mS 22 5),Zd [17,18,19,20] [4,5] (xS 23 1 21 22),Zd [17,18,19,20] [4,5,6] (lF 24 1 23),Ze (.range 8) (bS 25 .neq 20 24)] [0,1,5,25])
(.cond (.s 25) (Zs [.mv 4 cF] [4] .ret) .skip)))
(pr [mS 15 5,bC 16 .add 15 1,mS 5 16] [0,1,5]))))))
(Zs [.mv 4 cT] [4] .ret))))
theorem C27(xs ys:List Int):Ctr Tryz.prog N1i [aL 1 (xs.map encI),aL 1 (ys.map encI)] [rB (decide (xs=ys))]:=by
 refine cA Mae 0 26 [(.tmp 4,[false])] Tryz.func28 rfl rfl ?_;unfold Mae
 intro hb
 simp only[bdA,bdL,bdT,Kh,roomB,and_true,List.length_map]at hb
 obtain⟨⟨hl,-⟩,⟨hl2,-⟩⟩:=hb
 simp only[go_sem]
 refine⟨fun h=>K2l h,fun h=>?_⟩
 have hle:xs.length=ys.length:=by omega
 refine K4 xs (fun k=>[(5,vI k)]) (fun k=>[]) (fun k=>xs.take k=ys.take k) hl ?_
 simp only[go_sem]
 refine⟨?_,rfl,?_,?_⟩
 ·simp only[go_sem]
 ·intro k x hx he h0 h1 hw
  obtain⟨y,hy⟩:=K7 (show k<ys.length by omega)
  have h2:(k:Int)<ys.length:=by omega
  simp only[go_sem,K1 hx,K1 hy,h0,h1,h2,hw]
  exact⟨fun hn=>K3e hx hy hn,fun hn=>(Ko hx hy he).2 hn⟩
 ·intro he
  simp only[go_sem]
  exact K2k he hle
def M71:MC:=
(Zs [.box 1 0 (.s 0),.alloc 2 1 [pz,pz,pz]] [1,2] (Zs [.alloc 3 2 [pz,pz,pz]] [1,2,3] (Zs [fS 4 1 0,lF 5 1 4,fS 6 3 0,sS 1 6 5] [1,2,3] (Zs [fS 7 1 1,lF 8 1 7,fS 9 3 1,sS 1 9 8] [1,2,3] (Zs [fS 10 1 2,lF 11 1 10,fS 12 3 2,sS 1 12 11] [2,3] (Zs [lT 13 3 3,sS 3 2 13] [2] .ret))))))
theorem C14(x:GAddress):Ctr Tryz.prog N16 [aS x.enc] [rS x.enc]:=by
 refine cA M71 3 14 [(.cell 2 true 3,[false,false,false])] Tryz.func158 rfl rfl ?_;unfold M71
 intro hb
 simp only[go_sem]
def M6s:MC:=
(Zs [.box 2 0 (.s 0),.box 3 1 (.s 1),.mv 4 cF] [2,3] (.seq (Zs [fS 5 2 0,lF 6 1 5,fS 7 3 0,lF 8 1 7,bS 9 .neq 6 8] [2,3,9] (.cond (.s 9) (Zs [.mv 4 cF] [4] .ret) .skip))
(.seq (Zs [fS 10 2 1,lF 11 1 10,fS 12 3 1,lF 13 1 12,bS 14 .neq 11 13] [2,3,14] (.cond (.s 14) (Zs [.mv 4 cF] [4] .ret) .skip))
(.seq (Zs [fS 15 2 2,lF 16 1 15,fS 17 3 2,lF 18 1 17,bS 19 .neq 16 18] [19] (.cond (.s 19) (Zs [.mv 4 cF] [4] .ret) .skip))
(Zs [.mv 4 cT] [4] .ret)))))
theorem C13(x y:GAddress):Ctr Tryz.prog N15 [aS x.enc,aS y.enc] [rB (decide (x=y))]:=by
 refine cA M6s 2 20 [(.tmp 4,[false])] Tryz.func184 rfl rfl ?_;unfold M6s
 intro hb
 clear hb
 simp only[go_sem]
 refine⟨fun h=>?_,fun h_Host=>?_⟩
 ·symm
  rw[decide_eq_false_iff_not]
  rintro rfl
  exact h rfl
 refine⟨fun h=>?_,fun h_Path=>?_⟩
 ·symm
  rw[decide_eq_false_iff_not]
  rintro rfl
  exact h rfl
 refine⟨fun h=>?_,fun h_Query=>?_⟩
 ·symm
  rw[decide_eq_false_iff_not]
  rintro rfl
  exact h rfl
 cases x;cases y;simp_all
def Y1:MC:=
(Zs [.box 2 0 (.s 0),.mv 4 (ci 0)] [1,2] (Zs [fS 5 2 1,lF 6 1 5,mS 7 1,.call 8 [] (.f N4h) [.s 6,.s 7],mS 1 8] [1] (.seq (Zs [mS 9 1,bC 10 .lss 9 0] [1,10] (.cond (.s 10) (Zs [.mv 4 (.c (.int .i64 (-1)))] [4] .ret) .skip))
(Zs [mS 11 1,mS 4 11] [4] .ret))))
attribute [go_sem] Y1
def M58:MC:=Y1
theorem C4o(x:GResource)(left:Int)(h0:0≤left):Ctr Tryz.prog N62 [aS x.enc,aI left] [rI (szr x.size left)]:=by
 refine cA M58 1 12 [(.tmp 4,[false])] Tryz.func137 rfl rfl ?_;unfold M58
 intro hb
 simp only[go_sem]
 refine K0 (C4e x.Body left h0) ?_
 simp only[go_sem]
 intro _
 refine⟨fun h=>szr_bad' h0 h (by simp only[GResource.size];omega),fun h1=>?_⟩
 rfl
def M5c:MC:=
(Zs [.box 1 0 (.s 0),.alloc 2 1 [pz,.emp 1,pz,pz,pz]] [1,2] (Zs [.alloc 3 2 [pz,.emp 1,pz,pz,pz]] [1,2,3] (Zs [fS 4 1 0,lF 5 1 4,fS 6 3 0,sS 1 6 5] [1,2,3] (Zs [fS 7 1 1,lF 8 1 7,.call 9 [3] (.f Nv) [.s 8],fS 10 3 1,sS 1 10 9] [1,2,3] (Zs [fS 11 1 2,lT 12 3 11,.call 13 [] (.f N16) [.s 12],fS 14 3 2,sS 3 14 13] [2,3] (Zs [lT 15 5 3,sS 5 2 15] [2] .ret))))))
theorem C4p(x:GResource)(hs:x.size≤1073741824):Ctr Tryz.prog N66 [aS x.enc] [rS x.enc]:=by
 refine cA M5c 4 16 [(.cell 2 true 5,[false,true,false,false,false])] Tryz.func159 rfl rfl ?_;unfold M5c
 intro hb
 simp only[GResource.size]at hs
 simp only[go_sem]
 refine K0 (C19 x.Body (by omega)) ?_
 simp only[go_sem]
 try intros
 refine K0 (C14 x.To) ?_
 simp only[go_sem]
 try intros
def M54:MC:=
(Zs [.box 2 0 (.s 0),.box 3 1 (.s 1),.mv 4 cF] [2,3] (.seq (Zs [fS 5 2 0,lF 6 1 5,fS 7 3 0,lF 8 1 7,bS 9 .neq 6 8] [2,3,9] (.cond (.s 9) (Zs [.mv 4 cF] [4] .ret) .skip))
(.seq (Zs [fS 10 2 1,lF 11 1 10,fS 12 3 1,lF 13 1 12,.call 14 [] (.f N1i) [.s 11,.s 13],.un 15 .not (.s 14)] [2,3,15] (.cond (.s 15) (Zs [.mv 4 cF] [4] .ret) .skip))
(.seq (Zs [fS 16 2 2,lT 17 3 16,fS 18 3 2,lT 19 3 18,.call 20 [] (.f N15) [.s 17,.s 19],.un 21 .not (.s 20)] [21] (.cond (.s 21) (Zs [.mv 4 cF] [4] .ret) .skip))
(Zs [.mv 4 cT] [4] .ret)))))
theorem C4n(x y:GResource):Ctr Tryz.prog N5y [aS x.enc,aS y.enc] [rB (decide (x=y))]:=by
 refine cA M54 2 22 [(.tmp 4,[false])] Tryz.func185 rfl rfl ?_;unfold M54
 intro hb
 clear hb
 simp only[go_sem]
 refine⟨fun h=>?_,fun h_Kind=>?_⟩
 ·symm
  rw[decide_eq_false_iff_not]
  rintro rfl
  exact h rfl
 refine K0 (C27 x.Body y.Body) ?_
 simp only[go_sem]
 refine⟨fun h=>?_,fun h_Body=>?_⟩
 ·symm
  rw[decide_eq_false_iff_not]
  rintro rfl
  exact h rfl
 refine K0 (C13 x.To y.To) ?_
 simp only[go_sem]
 refine⟨fun h=>?_,fun h_To=>?_⟩
 ·symm
  rw[decide_eq_false_iff_not]
  rintro rfl
  exact h rfl
 cases x;cases y;simp_all
def Y2:MC:=
(Zs [.box 2 0 (.s 0),.mv 4 (ci 0)] [1,2] (Zs [fS 5 2 4,lT 6 5 5,mS 7 1,.call 8 [] (.f N62) [.s 6,.s 7],mS 1 8] [1] (.seq (Zs [mS 9 1,bC 10 .lss 9 0] [1,10] (.cond (.s 10) (Zs [.mv 4 (.c (.int .i64 (-1)))] [4] .ret) .skip))
(Zs [mS 11 1,mS 4 11] [4] .ret))))
attribute [go_sem] Y2
def M70:MC:=Y2
theorem Cd5(x:GVersion)(left:Int)(h0:0≤left):Ctr Tryz.prog N7v [aS x.enc,aI left] [rI (szr x.size left)]:=by
 refine cA M70 1 12 [(.tmp 4,[false])] Tryz.func53 rfl rfl ?_;unfold M70
 intro hb
 simp only[go_sem]
 refine K0 (C4o x.Resource left h0) ?_
 simp only[go_sem]
 intro _
 refine⟨fun h=>szr_bad' h0 h (by simp only[GVersion.size];omega),fun h1=>?_⟩
 rfl
def Y3:MC:=
(Zs [.box 1 0 (.s 0),.alloc 2 1 [pz,pz,pz,pz,pz,.emp 1,pz,pz,pz]] [1,2] (Zs [.alloc 3 2 [pz,pz,pz,pz,pz,.emp 1,pz,pz,pz]] [1,2,3] (Zs [fS 4 1 0,lT 5 3 4,.call 6 [] (.f N16) [.s 5],fS 7 3 0,sS 3 7 6] [1,2,3] (Zs [fS 8 1 3,lF 9 1 8,fS 10 3 3,sS 1 10 9] [1,2,3] (Zs [fS 11 1 4,lT 12 5 11,.call 13 [3] (.f N66) [.s 12],fS 14 3 4,sS 5 14 13] [2,3] (Zs [lT 15 9 3,sS 9 2 15] [2] .ret))))))
attribute [go_sem] Y3
def M75:MC:=Y3
theorem Cd8(x:GVersion)(hs:x.size≤1073741824):Ctr Tryz.prog N7z [aS x.enc] [rS x.enc]:=by
 refine cA M75 4 16 [(.cell 2 true 9,[false,false,false,false,false,true,false,false,false])] Tryz.func69 rfl rfl ?_;unfold M75
 intro hb
 simp only[GVersion.size]at hs
 simp only[go_sem]
 refine K0 (C14 x.Address) ?_
 simp only[go_sem]
 try intros
 refine K0 (C4p x.Resource (by omega)) ?_
 simp only[go_sem]
 try intros
def Y4:MC:=
(Zs [.box 2 0 (.s 0),.box 3 1 (.s 1),.mv 4 cF] [2,3] (.seq (Zs [fS 5 2 0,lT 6 3 5,fS 7 3 0,lT 8 3 7,.call 9 [] (.f N15) [.s 6,.s 8],.un 10 .not (.s 9)] [2,3,10] (.cond (.s 10) (Zs [.mv 4 cF] [4] .ret) .skip))
(.seq (Zs [fS 11 2 3,lF 12 1 11,fS 13 3 3,lF 14 1 13,bS 15 .neq 12 14] [2,3,15] (.cond (.s 15) (Zs [.mv 4 cF] [4] .ret) .skip))
(.seq (Zs [fS 16 2 4,lT 17 5 16,fS 18 3 4,lT 19 5 18,.call 20 [] (.f N5y) [.s 17,.s 19],.un 21 .not (.s 20)] [21] (.cond (.s 21) (Zs [.mv 4 cF] [4] .ret) .skip))
(Zs [.mv 4 cT] [4] .ret)))))
attribute [go_sem] Y4
def M6w:MC:=Y4
theorem Cd1(x y:GVersion):Ctr Tryz.prog N7q [aS x.enc,aS y.enc] [rB (decide (x=y))]:=by
 refine cA M6w 2 22 [(.tmp 4,[false])] Tryz.func86 rfl rfl ?_;unfold M6w
 intro hb
 clear hb
 simp only[go_sem]
 refine K0 (C13 x.Address y.Address) ?_
 simp only[go_sem]
 refine⟨fun h=>?_,fun h_Address=>?_⟩
 ·symm
  rw[decide_eq_false_iff_not]
  rintro rfl
  exact h rfl
 refine⟨fun h=>?_,fun h_From=>?_⟩
 ·symm
  rw[decide_eq_false_iff_not]
  rintro rfl
  exact h rfl
 refine K0 (C4n x.Resource y.Resource) ?_
 simp only[go_sem]
 refine⟨fun h=>?_,fun h_Resource=>?_⟩
 ·symm
  rw[decide_eq_false_iff_not]
  rintro rfl
  exact h rfl
 cases x;cases y;simp_all
def Y5(v0:Nat)(v1:Nat):MC:=
(Zs [.mv 4 (ci 0)] [0,1] (Zs [mS 6 1,mS 7 0,nS 8 7,bS 9 .sub 6 8,mS 1 9] [0,1] (.seq (Zs [mS 10 1,bC 11 .lss 10 0] [0,1,11] (.cond (.s 11) (Zs [.mv 4 (.c (.int .i64 (-1)))] [4] .ret) .skip))
(.seq (Zs [.mv 5 (ci 0)] [0,1,5] (.block 0 (.loop ([0,1,5],[]) (.seq (Zs [mS 12 5,mS 13 0,nS 14 13,bS 15 .lss 12 14] [0,1,5,15] (cX 15 0))
(.seq (.block 1 (Zs [mS 18 0,mS 19 5,xS 20 v0 18 19,lT 21 v0 20,mS 22 1,.call 23 [] (.f v1) [.s 21,.s 22],mS 1 23] [0,1,5] (Zs [mS 24 1,bC 25 .lss 24 0] [0,1,5,25] (.cond (.s 25) (Zs [.mv 4 (.c (.int .i64 (-1)))] [4] .ret) .skip))))
(pr [mS 16 5,bC 17 .add 16 1,mS 5 17] [0,1,5]))))))
(Zs [mS 26 1,mS 4 26] [4] .ret)))))
attribute [go_sem] Y5
def M59:MC:=Y5 9 N7v
theorem Cc6(xs:List GVersion)(left:Int)(h0:0≤left):Ctr Tryz.prog N63 [aL 9 (xs.map GVersion.enc),aI left] [rI (szr (xs.length+(xs.map GVersion.size).sum) left)]:=by
 refine cA M59 0 27 [(.tmp 4,[false])] Tryz.func46 rfl rfl ?_;unfold M59
 intro hb
 simp only[bdA,bdL,bdT,Kh,K1n,roomB,and_true,List.length_map]at hb
 obtain⟨⟨hl,-⟩,hn⟩:=hb
 simp only[go_sem]
 rw[wI (by omega) (by omega)]
 refine⟨fun h=>?_,fun h=>?_⟩
 ·exact szr_bad' (n:=xs.length) h0 ((K5y h0).2 (by omega)) (by omega)
 ·have hz:szr xs.length left=left-xs.length:=by unfold szr;rw[if_pos (by omega)]
  rw[←hz]at h ⊢
  refine K4 xs (fun k=>[(1,vI (szr (xs.length+((xs.take k).map GVersion.size).sum) left)),(5,vI k)]) (fun k=>[]) (fun k=>¬szr (xs.length+((xs.take k).map GVersion.size).sum) left<0) hl ?_
  simp only[go_sem]
  refine⟨?_,by simpa using h,?_,?_⟩
  ·simp only[go_sem,List.take_zero,List.map_nil,List.sum_nil,Nat.add_zero]
   all_goals rfl
  ·intro k x hx hs hk0 h1 hw
   obtain⟨a1,a2,a3⟩:=K1m (m:=x.size) h0 hs
   rw[Nat.add_assoc,←K6e hx]at a3
   simp only[go_sem,K1 hx,hk0,h1]
   refine K0 (Cd5 x _ a1) ?_
   rw[←a3]
   simp only[go_sem,hw]
   intro _
   refine⟨fun hn=>?_,fun hn=>hn⟩
   have:=K1w (f:=GVersion.size) xs (k+1)
   exact szr_bad' h0 hn (by omega)
  ·intro _
   simp only[go_sem,List.take_length]
def Y6(v0:Nat):MC:=
(Zs [.nilo 2 0 9] [0] (.seq (pr [mS 5 0,nS 6 5,.mk 7 0 9 88 [.sc (.int .i64 0),.sc (.int .i64 0),.sc (.int .i64 0),.sc (.int .i64 0),.sc (.int .i64 0),.sl 1 [],.sc (.int .i64 0),.sc (.int .i64 0),.sc (.int .i64 0)] (.s 6),mS 3 7] [0,3])
(.seq (Zs [.mv 4 (ci 0)] [0,3,4] (.block 0 (.loop ([0,3,4],[1]) (.seq (Zs [mS 8 4,mS 9 0,nS 10 9,bS 11 .lss 8 10] [0,3,4,11] (cX 11 0))
(.seq (.block 1 (pr [mS 14 3,mS 15 4,mS 16 0,mS 17 4,xS 18 9 16 17,lT 19 9 18,.call 20 [1] (.f v0) [.s 19],xS 21 9 14 15,sS 9 21 20] [0,3,4]))
(pr [mS 12 4,bC 13 .add 12 1,mS 4 13] [0,3,4]))))))
(Zs [mS 22 3,mS 2 22] [2] .ret))))
attribute [go_sem] Y6
def M5d:MC:=Y6 N7z
theorem Cc9(xs:List GVersion)(hs:xs.length+(xs.map GVersion.size).sum≤1073741824):Ctr Tryz.prog N67 [aL 9 (xs.map GVersion.enc)] [rL 9 (xs.map GVersion.enc)]:=by
 refine cA M5d 2 23 [(.tmp 2,[true])] Tryz.func63 rfl rfl ?_;unfold M5d
 intro hb
 simp only[go_sem]
 refine⟨⟨by omega,by simp only[roomB];omega⟩,?_⟩
 refine K4 xs (fun k=>[(4,vI k)]) (fun k=>[(0,⟨0,.row true 9 (filled GVersion.enc [tI 0,tI 0,tI 0,tI 0,tI 0,.sl 1 [],tI 0,tI 0,tI 0] xs k)⟩)]) (fun _=>True) (by simp only[roomB];omega) ?_
 simp only[go_sem]
 refine⟨?_,trivial,?_,?_⟩
 ·simp only[go_sem,K17]
  all_goals rfl
 ·intro k x hx _ h0 h1 hw
  have h:k<xs.length:=by omega
  simp only[go_sem,K1 hx,h0,h1]
  have hx1:=K23 (f:=GVersion.size) (Km hx)
  refine K0 (Cd8 x (by omega)) ?_
  simp only[go_sem,K1 (K1g h),K1h (Nat.le_of_lt h),h0,h1,hw]
  intros;exact K1i hx
 ·intro _
  simp only[go_sem,K1f]
def Y7(v0:Nat)(v1:Nat):MC:=
(Zs [.mv 4 cF] [0,1] (.seq (Zs [mS 6 0,nS 7 6,mS 8 1,nS 9 8,bS 10 .neq 7 9] [0,1,10] (.cond (.s 10) (Zs [.mv 4 cF] [4] .ret) .skip))
(.seq (Zs [.mv 5 (ci 0)] [0,1,5] (.block 0 (.loop ([0,1,5],[]) (.seq (Zs [mS 11 5,mS 12 0,nS 13 12,bS 14 .lss 11 13] [0,1,5,14] (cX 14 0))
(.seq (.block 1 (.seq (.dreg [Zc [18,21,22,23,24] (mS 17 0),Zc [17,21,22,23,24] (mS 18 5),Zd [21,22,23,24] [0,1] (xS 19 v0 17 18),Zd [21,22,23,24] [0,1,2] (lT 20 v0 19),Zc [17,18,19,20,22] (mS 21 1),Zc [17,18,19,20,21] (mS 22 5),Zd [17,18,19,20] [4,5] (xS 23 v0 21 22),Zd [17,18,19,20] [4,5,6] (lT 24 v0 23),Ze (.range 8) (.call 25 [] (.f v1) [.s 20,.s 24]),Ze (.range 9) (.un 26 .not (.s 25))] [0,1,5,26])
(.cond (.s 26) (Zs [.mv 4 cF] [4] .ret) .skip)))
(pr [mS 15 5,bC 16 .add 15 1,mS 5 16] [0,1,5]))))))
(Zs [.mv 4 cT] [4] .ret))))
attribute [go_sem] Y7
def M55:MC:=Y7 9 N7q
theorem Cc3(xs ys:List GVersion):Ctr Tryz.prog N5z [aL 9 (xs.map GVersion.enc),aL 9 (ys.map GVersion.enc)] [rB (decide (xs=ys))]:=by
 refine cA M55 0 27 [(.tmp 4,[false])] Tryz.func80 rfl rfl ?_;unfold M55
 intro hb
 simp only[bdA,bdL,bdT,Kh,roomB,and_true,List.length_map]at hb
 obtain⟨⟨hl,-⟩,⟨hl2,-⟩⟩:=hb
 simp only[go_sem]
 refine⟨fun h=>K2l h,fun h=>?_⟩
 have hle:xs.length=ys.length:=by omega
 refine K4 xs (fun k=>[(5,vI k)]) (fun k=>[]) (fun k=>xs.take k=ys.take k) hl ?_
 simp only[go_sem]
 refine⟨?_,rfl,?_,?_⟩
 ·simp only[go_sem]
 ·intro k x hx he h0 h1 hw
  obtain⟨y,hy⟩:=K7 (show k<ys.length by omega)
  have h2:(k:Int)<ys.length:=by omega
  simp only[go_sem,K1 hx,K1 hy,h0,h1,h2]
  refine K0 (Cd1 x y) ?_
  simp only[go_sem,hw]
  exact⟨fun hn=>K3e hx hy hn,fun hn=>(Ko hx hy he).2 hn⟩
 ·intro he
  simp only[go_sem]
  exact K2k he hle
def Y8:MC:=
(Zs [.box 1 0 (.s 0),.alloc 2 1 [pz,pz,pz,pz]] [1,2] (Zs [.alloc 3 2 [pz,pz,pz,pz]] [1,2,3] (Zs [fS 4 1 0,lF 5 1 4,fS 6 3 0,sS 1 6 5] [1,2,3] (Zs [fS 7 1 1,lF 8 1 7,fS 9 3 1,sS 1 9 8] [1,2,3] (Zs [fS 10 1 2,lF 11 1 10,fS 12 3 2,sS 1 12 11] [1,2,3] (Zs [fS 13 1 3,lF 14 1 13,fS 15 3 3,sS 1 15 14] [2,3] (Zs [lT 16 4 3,sS 4 2 16] [2] .ret)))))))
attribute [go_sem] Y8
def Mck:MC:=Y8
theorem Cel(x:GOp):Ctr Tryz.prog Ncq [aS x.enc] [rS x.enc]:=by
 refine cA Mck 3 17 [(.cell 2 true 4,[false,false,false,false])] Tryz.func153 rfl rfl ?_;unfold Mck
 intro hb
 simp only[go_sem]
def Y9:MC:=
(Zs [.box 2 0 (.s 0),.box 3 1 (.s 1),.mv 4 cF] [2,3] (.seq (Zs [fS 5 2 0,lF 6 1 5,fS 7 3 0,lF 8 1 7,bS 9 .neq 6 8] [2,3,9] (.cond (.s 9) (Zs [.mv 4 cF] [4] .ret) .skip))
(.seq (Zs [fS 10 2 1,lF 11 1 10,fS 12 3 1,lF 13 1 12,bS 14 .neq 11 13] [2,3,14] (.cond (.s 14) (Zs [.mv 4 cF] [4] .ret) .skip))
(.seq (Zs [fS 15 2 2,lF 16 1 15,fS 17 3 2,lF 18 1 17,bS 19 .neq 16 18] [2,3,19] (.cond (.s 19) (Zs [.mv 4 cF] [4] .ret) .skip))
(.seq (Zs [fS 20 2 3,lF 21 1 20,fS 22 3 3,lF 23 1 22,bS 24 .neq 21 23] [24] (.cond (.s 24) (Zs [.mv 4 cF] [4] .ret) .skip))
(Zs [.mv 4 cT] [4] .ret))))))
attribute [go_sem] Y9
def Mcj:MC:=Y9
theorem Cek(x y:GOp):Ctr Tryz.prog Ncp [aS x.enc,aS y.enc] [rB (decide (x=y))]:=by
 refine cA Mcj 2 25 [(.tmp 4,[false])] Tryz.func179 rfl rfl ?_;unfold Mcj
 intro hb
 clear hb
 simp only[go_sem]
 refine⟨fun h=>?_,fun h_Kind=>?_⟩
 ·symm
  rw[decide_eq_false_iff_not]
  rintro rfl
  exact h rfl
 refine⟨fun h=>?_,fun h_A=>?_⟩
 ·symm
  rw[decide_eq_false_iff_not]
  rintro rfl
  exact h rfl
 refine⟨fun h=>?_,fun h_B=>?_⟩
 ·symm
  rw[decide_eq_false_iff_not]
  rintro rfl
  exact h rfl
 refine⟨fun h=>?_,fun h_C=>?_⟩
 ·symm
  rw[decide_eq_false_iff_not]
  rintro rfl
  exact h rfl
 cases x;cases y;simp_all
def Mbo:MC:=Y0
theorem Cbf(xs:List GOp)(left:Int)(h0:0≤left):Ctr Tryz.prog N7u [aL 4 (xs.map GOp.enc),aI left] [rI (szr xs.length left)]:=by
 refine cA Mbo 0 12 [(.tmp 4,[false])] Tryz.func47 rfl rfl ?_;unfold Mbo
 intro hb
 simp only[bdA,bdL,bdT,Kh,K1n,roomB,and_true,List.length_map]at hb
 obtain⟨⟨hl,-⟩,hn⟩:=hb
 simp only[go_sem]
 rw[wI (by omega) (by omega)]
 unfold szr
 refine⟨fun h=>?_,fun h=>?_⟩
 ·rw[if_neg (by omega)]
 ·rw[if_pos (by omega)]
def Y10(v0:Nat):MC:=
(Zs [.nilo 2 0 4] [0] (Zs [mS 5 0,nS 6 5,.mk 7 0 4 32 [.sc (.int .i64 0),.sc (.int .i64 0),.sc (.int .i64 0),.sc (.int .i64 0)] (.s 6),mS 3 7] [0,3] (.seq (Zs [.mv 4 (ci 0)] [0,3,4] (.block 0 (.loop ([0,3,4],[]) (.seq (Zs [mS 8 4,mS 9 0,nS 10 9,bS 11 .lss 8 10] [0,3,4,11] (cX 11 0))
(.seq (.block 1 (pr [mS 14 3,mS 15 4,mS 16 0,mS 17 4,xS 18 4 16 17,lT 19 4 18,.call 20 [] (.f v0) [.s 19],xS 21 4 14 15,sS 4 21 20] [0,3,4]))
(pr [mS 12 4,bC 13 .add 12 1,mS 4 13] [0,3,4]))))))
(Zs [mS 22 3,mS 2 22] [2] .ret))))
attribute [go_sem] Y10
def Mbp:MC:=Y10 Ncq
theorem Cbi(xs:List GOp)(hs:xs.length≤1073741824):Ctr Tryz.prog N7y [aL 4 (xs.map GOp.enc)] [rL 4 (xs.map GOp.enc)]:=by
 refine cA Mbp 1 23 [(.tmp 2,[true])] Tryz.func64 rfl rfl ?_;unfold Mbp
 intro hb
 simp only[go_sem]
 refine⟨⟨by omega,by simp only[roomB];omega⟩,?_⟩
 refine K4 xs (fun k=>[(4,vI k)]) (fun k=>[(0,⟨0,.row true 4 (filled GOp.enc [tI 0,tI 0,tI 0,tI 0] xs k)⟩)]) (fun _=>True) (by simp only[roomB];omega) ?_
 simp only[go_sem]
 refine⟨?_,trivial,?_,?_⟩
 ·simp only[go_sem,K17]
  all_goals rfl
 ·intro k x hx _ h0 h1 hw
  have h:k<xs.length:=by omega
  simp only[go_sem,K1 hx,h0,h1]
  refine K0 (Cel x) ?_
  simp only[go_sem,K1 (K1g h),K1h (Nat.le_of_lt h),h0,h1,hw]
  intros;exact K1i hx
 ·intro _
  simp only[go_sem,K1f]
def Mbn:MC:=Y7 4 Ncp
theorem Cbc(xs ys:List GOp):Ctr Tryz.prog N7p [aL 4 (xs.map GOp.enc),aL 4 (ys.map GOp.enc)] [rB (decide (xs=ys))]:=by
 refine cA Mbn 0 27 [(.tmp 4,[false])] Tryz.func81 rfl rfl ?_;unfold Mbn
 intro hb
 simp only[bdA,bdL,bdT,Kh,roomB,and_true,List.length_map]at hb
 obtain⟨⟨hl,-⟩,⟨hl2,-⟩⟩:=hb
 simp only[go_sem]
 refine⟨fun h=>K2l h,fun h=>?_⟩
 have hle:xs.length=ys.length:=by omega
 refine K4 xs (fun k=>[(5,vI k)]) (fun k=>[]) (fun k=>xs.take k=ys.take k) hl ?_
 simp only[go_sem]
 refine⟨?_,rfl,?_,?_⟩
 ·simp only[go_sem]
 ·intro k x hx he h0 h1 hw
  obtain⟨y,hy⟩:=K7 (show k<ys.length by omega)
  have h2:(k:Int)<ys.length:=by omega
  simp only[go_sem,K1 hx,K1 hy,h0,h1,h2]
  refine K0 (Cek x y) ?_
  simp only[go_sem,hw]
  exact⟨fun hn=>K3e hx hy hn,fun hn=>(Ko hx hy he).2 hn⟩
 ·intro he
  simp only[go_sem]
  exact K2k he hle
def M9h:MC:=
(Zs [.box 1 0 (.s 0),.alloc 2 1 [pz,pz,pz,pz,pz]] [1,2] (Zs [.alloc 3 2 [pz,pz,pz,pz,pz]] [1,2,3] (Zs [fS 4 1 0,lF 5 1 4,fS 6 3 0,sS 1 6 5] [1,2,3] (Zs [fS 7 1 1,lT 8 3 7,.call 9 [] (.f N16) [.s 8],fS 10 3 1,sS 3 10 9] [1,2,3] (Zs [fS 11 1 4,lF 12 1 11,fS 13 3 4,sS 1 13 12] [2,3] (Zs [lT 14 5 3,sS 5 2 14] [2] .ret))))))
theorem Cdx(x:GEntry):Ctr Tryz.prog N9v [aS x.enc] [rS x.enc]:=by
 refine cA M9h 3 15 [(.cell 2 true 5,[false,false,false,false,false])] Tryz.func373 rfl rfl ?_;unfold M9h
 intro hb
 simp only[go_sem]
 refine K0 (C14 x.Address) ?_
 simp only[go_sem]
 try intros
def M9f:MC:=
(Zs [.box 2 0 (.s 0),.box 3 1 (.s 1),.mv 4 cF] [2,3] (.seq (Zs [fS 5 2 0,lF 6 1 5,fS 7 3 0,lF 8 1 7,bS 9 .neq 6 8] [2,3,9] (.cond (.s 9) (Zs [.mv 4 cF] [4] .ret) .skip))
(.seq (Zs [fS 10 2 1,lT 11 3 10,fS 12 3 1,lT 13 3 12,.call 14 [] (.f N15) [.s 11,.s 13],.un 15 .not (.s 14)] [2,3,15] (.cond (.s 15) (Zs [.mv 4 cF] [4] .ret) .skip))
(.seq (Zs [fS 16 2 4,lF 17 1 16,fS 18 3 4,lF 19 1 18,bS 20 .neq 17 19] [20] (.cond (.s 20) (Zs [.mv 4 cF] [4] .ret) .skip))
(Zs [.mv 4 cT] [4] .ret)))))
theorem Cdv(x y:GEntry):Ctr Tryz.prog N9t [aS x.enc,aS y.enc] [rB (decide (x=y))]:=by
 refine cA M9f 2 21 [(.tmp 4,[false])] Tryz.func382 rfl rfl ?_;unfold M9f
 intro hb
 clear hb
 simp only[go_sem]
 refine⟨fun h=>?_,fun h_Kind=>?_⟩
 ·symm
  rw[decide_eq_false_iff_not]
  rintro rfl
  exact h rfl
 refine K0 (C13 x.Address y.Address) ?_
 simp only[go_sem]
 refine⟨fun h=>?_,fun h_Address=>?_⟩
 ·symm
  rw[decide_eq_false_iff_not]
  rintro rfl
  exact h rfl
 refine⟨fun h=>?_,fun h_Value=>?_⟩
 ·symm
  rw[decide_eq_false_iff_not]
  rintro rfl
  exact h rfl
 cases x;cases y;simp_all
def M8h:MC:=Y0
theorem Cdk(xs:List GEntry)(left:Int)(h0:0≤left):Ctr Tryz.prog N8t [aL 5 (xs.map GEntry.enc),aI left] [rI (szr xs.length left)]:=by
 refine cA M8h 0 12 [(.tmp 4,[false])] Tryz.func321 rfl rfl ?_;unfold M8h
 intro hb
 simp only[bdA,bdL,bdT,Kh,K1n,roomB,and_true,List.length_map]at hb
 obtain⟨⟨hl,-⟩,hn⟩:=hb
 simp only[go_sem]
 rw[wI (by omega) (by omega)]
 unfold szr
 refine⟨fun h=>?_,fun h=>?_⟩
 ·rw[if_neg (by omega)]
 ·rw[if_pos (by omega)]
def Y11(v0:Nat):MC:=
(Zs [.nilo 2 0 5] [0] (Zs [mS 5 0,nS 6 5,.mk 7 0 5 40 [.sc (.int .i64 0),.sc (.int .i64 0),.sc (.int .i64 0),.sc (.int .i64 0),.sc (.int .i64 0)] (.s 6),mS 3 7] [0,3] (.seq (Zs [.mv 4 (ci 0)] [0,3,4] (.block 0 (.loop ([0,3,4],[]) (.seq (Zs [mS 8 4,mS 9 0,nS 10 9,bS 11 .lss 8 10] [0,3,4,11] (cX 11 0))
(.seq (.block 1 (pr [mS 14 3,mS 15 4,mS 16 0,mS 17 4,xS 18 5 16 17,lT 19 5 18,.call 20 [] (.f v0) [.s 19],xS 21 5 14 15,sS 5 21 20] [0,3,4]))
(pr [mS 12 4,bC 13 .add 12 1,mS 4 13] [0,3,4]))))))
(Zs [mS 22 3,mS 2 22] [2] .ret))))
attribute [go_sem] Y11
def M8j:MC:=Y11 N9v
theorem Cdm(xs:List GEntry)(hs:xs.length≤1073741824):Ctr Tryz.prog N8v [aL 5 (xs.map GEntry.enc)] [rL 5 (xs.map GEntry.enc)]:=by
 refine cA M8j 1 23 [(.tmp 2,[true])] Tryz.func333 rfl rfl ?_;unfold M8j
 intro hb
 simp only[go_sem]
 refine⟨⟨by omega,by simp only[roomB];omega⟩,?_⟩
 refine K4 xs (fun k=>[(4,vI k)]) (fun k=>[(0,⟨0,.row true 5 (filled GEntry.enc [tI 0,tI 0,tI 0,tI 0,tI 0] xs k)⟩)]) (fun _=>True) (by simp only[roomB];omega) ?_
 simp only[go_sem]
 refine⟨?_,trivial,?_,?_⟩
 ·simp only[go_sem,K17]
  all_goals rfl
 ·intro k x hx _ h0 h1 hw
  have h:k<xs.length:=by omega
  simp only[go_sem,K1 hx,h0,h1]
  refine K0 (Cdx x) ?_
  simp only[go_sem,K1 (K1g h),K1h (Nat.le_of_lt h),h0,h1,hw]
  intros;exact K1i hx
 ·intro _
  simp only[go_sem,K1f]
def M8f:MC:=Y7 5 N9t
theorem Cdi(xs ys:List GEntry):Ctr Tryz.prog N8r [aL 5 (xs.map GEntry.enc),aL 5 (ys.map GEntry.enc)] [rB (decide (xs=ys))]:=by
 refine cA M8f 0 27 [(.tmp 4,[false])] Tryz.func346 rfl rfl ?_;unfold M8f
 intro hb
 simp only[bdA,bdL,bdT,Kh,roomB,and_true,List.length_map]at hb
 obtain⟨⟨hl,-⟩,⟨hl2,-⟩⟩:=hb
 simp only[go_sem]
 refine⟨fun h=>K2l h,fun h=>?_⟩
 have hle:xs.length=ys.length:=by omega
 refine K4 xs (fun k=>[(5,vI k)]) (fun k=>[]) (fun k=>xs.take k=ys.take k) hl ?_
 simp only[go_sem]
 refine⟨?_,rfl,?_,?_⟩
 ·simp only[go_sem]
 ·intro k x hx he h0 h1 hw
  obtain⟨y,hy⟩:=K7 (show k<ys.length by omega)
  have h2:(k:Int)<ys.length:=by omega
  simp only[go_sem,K1 hx,K1 hy,h0,h1,h2]
  refine K0 (Cdv x y) ?_
  simp only[go_sem,hw]
  exact⟨fun hn=>K3e hx hy hn,fun hn=>(Ko hx hy he).2 hn⟩
 ·intro he
  simp only[go_sem]
  exact K2k he hle
def M6y:MC:=Y2
theorem Cd3(x:GCapture)(left:Int)(h0:0≤left):Ctr Tryz.prog N7s [aS x.enc,aI left] [rI (szr x.size left)]:=by
 refine cA M6y 1 12 [(.tmp 4,[false])] Tryz.func366 rfl rfl ?_;unfold M6y
 intro hb
 simp only[go_sem]
 refine K0 (C4o x.Resource left h0) ?_
 simp only[go_sem]
 intro _
 refine⟨fun h=>szr_bad' h0 h (by simp only[GCapture.size];omega),fun h1=>?_⟩
 rfl
def M73:MC:=Y3
theorem Cd6(x:GCapture)(hs:x.size≤1073741824):Ctr Tryz.prog N7w [aS x.enc] [rS x.enc]:=by
 refine cA M73 4 16 [(.cell 2 true 9,[false,false,false,false,false,true,false,false,false])] Tryz.func374 rfl rfl ?_;unfold M73
 intro hb
 simp only[GCapture.size]at hs
 simp only[go_sem]
 refine K0 (C14 x.Address) ?_
 simp only[go_sem]
 try intros
 refine K0 (C4p x.Resource (by omega)) ?_
 simp only[go_sem]
 try intros
def M6u:MC:=Y4
theorem Ccz(x y:GCapture):Ctr Tryz.prog N7n [aS x.enc,aS y.enc] [rB (decide (x=y))]:=by
 refine cA M6u 2 22 [(.tmp 4,[false])] Tryz.func383 rfl rfl ?_;unfold M6u
 intro hb
 clear hb
 simp only[go_sem]
 refine K0 (C13 x.Address y.Address) ?_
 simp only[go_sem]
 refine⟨fun h=>?_,fun h_Address=>?_⟩
 ·symm
  rw[decide_eq_false_iff_not]
  rintro rfl
  exact h rfl
 refine⟨fun h=>?_,fun h_Tick=>?_⟩
 ·symm
  rw[decide_eq_false_iff_not]
  rintro rfl
  exact h rfl
 refine K0 (C4n x.Resource y.Resource) ?_
 simp only[go_sem]
 refine⟨fun h=>?_,fun h_Resource=>?_⟩
 ·symm
  rw[decide_eq_false_iff_not]
  rintro rfl
  exact h rfl
 cases x;cases y;simp_all
def M56:MC:=Y5 9 N7s
theorem Cc4(xs:List GCapture)(left:Int)(h0:0≤left):Ctr Tryz.prog N60 [aL 9 (xs.map GCapture.enc),aI left] [rI (szr (xs.length+(xs.map GCapture.size).sum) left)]:=by
 refine cA M56 0 27 [(.tmp 4,[false])] Tryz.func322 rfl rfl ?_;unfold M56
 intro hb
 simp only[bdA,bdL,bdT,Kh,K1n,roomB,and_true,List.length_map]at hb
 obtain⟨⟨hl,-⟩,hn⟩:=hb
 simp only[go_sem]
 rw[wI (by omega) (by omega)]
 refine⟨fun h=>?_,fun h=>?_⟩
 ·exact szr_bad' (n:=xs.length) h0 ((K5y h0).2 (by omega)) (by omega)
 ·have hz:szr xs.length left=left-xs.length:=by unfold szr;rw[if_pos (by omega)]
  rw[←hz]at h ⊢
  refine K4 xs (fun k=>[(1,vI (szr (xs.length+((xs.take k).map GCapture.size).sum) left)),(5,vI k)]) (fun k=>[]) (fun k=>¬szr (xs.length+((xs.take k).map GCapture.size).sum) left<0) hl ?_
  simp only[go_sem]
  refine⟨?_,by simpa using h,?_,?_⟩
  ·simp only[go_sem,List.take_zero,List.map_nil,List.sum_nil,Nat.add_zero]
   all_goals rfl
  ·intro k x hx hs hk0 h1 hw
   obtain⟨a1,a2,a3⟩:=K1m (m:=x.size) h0 hs
   rw[Nat.add_assoc,←K6e hx]at a3
   simp only[go_sem,K1 hx,hk0,h1]
   refine K0 (Cd3 x _ a1) ?_
   rw[←a3]
   simp only[go_sem,hw]
   intro _
   refine⟨fun hn=>?_,fun hn=>hn⟩
   have:=K1w (f:=GCapture.size) xs (k+1)
   exact szr_bad' h0 hn (by omega)
  ·intro _
   simp only[go_sem,List.take_length]
def M5a:MC:=Y6 N7w
theorem Cc7(xs:List GCapture)(hs:xs.length+(xs.map GCapture.size).sum≤1073741824):Ctr Tryz.prog N64 [aL 9 (xs.map GCapture.enc)] [rL 9 (xs.map GCapture.enc)]:=by
 refine cA M5a 2 23 [(.tmp 2,[true])] Tryz.func334 rfl rfl ?_;unfold M5a
 intro hb
 simp only[go_sem]
 refine⟨⟨by omega,by simp only[roomB];omega⟩,?_⟩
 refine K4 xs (fun k=>[(4,vI k)]) (fun k=>[(0,⟨0,.row true 9 (filled GCapture.enc [tI 0,tI 0,tI 0,tI 0,tI 0,.sl 1 [],tI 0,tI 0,tI 0] xs k)⟩)]) (fun _=>True) (by simp only[roomB];omega) ?_
 simp only[go_sem]
 refine⟨?_,trivial,?_,?_⟩
 ·simp only[go_sem,K17]
  all_goals rfl
 ·intro k x hx _ h0 h1 hw
  have h:k<xs.length:=by omega
  simp only[go_sem,K1 hx,h0,h1]
  have hx1:=K23 (f:=GCapture.size) (Km hx)
  refine K0 (Cd6 x (by omega)) ?_
  simp only[go_sem,K1 (K1g h),K1h (Nat.le_of_lt h),h0,h1,hw]
  intros;exact K1i hx
 ·intro _
  simp only[go_sem,K1f]
def M52:MC:=Y7 9 N7n
theorem Cc1(xs ys:List GCapture):Ctr Tryz.prog N5w [aL 9 (xs.map GCapture.enc),aL 9 (ys.map GCapture.enc)] [rB (decide (xs=ys))]:=by
 refine cA M52 0 27 [(.tmp 4,[false])] Tryz.func347 rfl rfl ?_;unfold M52
 intro hb
 simp only[bdA,bdL,bdT,Kh,roomB,and_true,List.length_map]at hb
 obtain⟨⟨hl,-⟩,⟨hl2,-⟩⟩:=hb
 simp only[go_sem]
 refine⟨fun h=>K2l h,fun h=>?_⟩
 have hle:xs.length=ys.length:=by omega
 refine K4 xs (fun k=>[(5,vI k)]) (fun k=>[]) (fun k=>xs.take k=ys.take k) hl ?_
 simp only[go_sem]
 refine⟨?_,rfl,?_,?_⟩
 ·simp only[go_sem]
 ·intro k x hx he h0 h1 hw
  obtain⟨y,hy⟩:=K7 (show k<ys.length by omega)
  have h2:(k:Int)<ys.length:=by omega
  simp only[go_sem,K1 hx,K1 hy,h0,h1,h2]
  refine K0 (Ccz x y) ?_
  simp only[go_sem,hw]
  exact⟨fun hn=>K3e hx hy hn,fun hn=>(Ko hx hy he).2 hn⟩
 ·intro he
  simp only[go_sem]
  exact K2k he hle
def M3x:MC:=
(Zs [.box 1 0 (.s 0),.alloc 2 1 [pz,pz,pz,pz,pz]] [1,2] (Zs [.alloc 3 2 [pz,pz,pz,pz,pz]] [1,2,3] (Zs [fS 4 1 0,lF 5 1 4,fS 6 3 0,sS 1 6 5] [1,2,3] (Zs [fS 7 1 1,lF 8 1 7,fS 9 3 1,sS 1 9 8] [1,2,3] (Zs [fS 10 1 2,lF 11 1 10,fS 12 3 2,sS 1 12 11] [1,2,3] (Zs [fS 13 1 3,lF 14 1 13,fS 15 3 3,sS 1 15 14] [1,2,3] (Zs [fS 16 1 4,lF 17 1 16,fS 18 3 4,sS 1 18 17] [2,3] (Zs [lT 19 5 3,sS 5 2 19] [2] .ret))))))))
theorem Cbh(x:GExclusion):Ctr Tryz.prog N4a [aS x.enc] [rS x.enc]:=by
 refine cA M3x 3 20 [(.cell 2 true 5,[false,false,false,false,false])] Tryz.func70 rfl rfl ?_;unfold M3x
 intro hb
 simp only[go_sem]
def M3t:MC:=
(Zs [.box 2 0 (.s 0),.box 3 1 (.s 1),.mv 4 cF] [2,3] (.seq (Zs [fS 5 2 0,lF 6 1 5,fS 7 3 0,lF 8 1 7,bS 9 .neq 6 8] [2,3,9] (.cond (.s 9) (Zs [.mv 4 cF] [4] .ret) .skip))
(.seq (Zs [fS 10 2 1,lF 11 1 10,fS 12 3 1,lF 13 1 12,bS 14 .neq 11 13] [2,3,14] (.cond (.s 14) (Zs [.mv 4 cF] [4] .ret) .skip))
(.seq (Zs [fS 15 2 2,lF 16 1 15,fS 17 3 2,lF 18 1 17,bS 19 .neq 16 18] [2,3,19] (.cond (.s 19) (Zs [.mv 4 cF] [4] .ret) .skip))
(.seq (Zs [fS 20 2 3,lF 21 1 20,fS 22 3 3,lF 23 1 22,bS 24 .neq 21 23] [2,3,24] (.cond (.s 24) (Zs [.mv 4 cF] [4] .ret) .skip))
(.seq (Zs [fS 25 2 4,lF 26 1 25,fS 27 3 4,lF 28 1 27,bS 29 .neq 26 28] [29] (.cond (.s 29) (Zs [.mv 4 cF] [4] .ret) .skip))
(Zs [.mv 4 cT] [4] .ret)))))))
theorem Cbb(x y:GExclusion):Ctr Tryz.prog N46 [aS x.enc,aS y.enc] [rB (decide (x=y))]:=by
 refine cA M3t 2 30 [(.tmp 4,[false])] Tryz.func87 rfl rfl ?_;unfold M3t
 intro hb
 clear hb
 simp only[go_sem]
 refine⟨fun h=>?_,fun h_Host=>?_⟩
 ·symm
  rw[decide_eq_false_iff_not]
  rintro rfl
  exact h rfl
 refine⟨fun h=>?_,fun h_Path=>?_⟩
 ·symm
  rw[decide_eq_false_iff_not]
  rintro rfl
  exact h rfl
 refine⟨fun h=>?_,fun h_From=>?_⟩
 ·symm
  rw[decide_eq_false_iff_not]
  rintro rfl
  exact h rfl
 refine⟨fun h=>?_,fun h_Until=>?_⟩
 ·symm
  rw[decide_eq_false_iff_not]
  rintro rfl
  exact h rfl
 refine⟨fun h=>?_,fun h_Asked=>?_⟩
 ·symm
  rw[decide_eq_false_iff_not]
  rintro rfl
  exact h rfl
 cases x;cases y;simp_all
def M34:MC:=Y0
theorem Cb2(xs:List GExclusion)(left:Int)(h0:0≤left):Ctr Tryz.prog N3e [aL 5 (xs.map GExclusion.enc),aI left] [rI (szr xs.length left)]:=by
 refine cA M34 0 12 [(.tmp 4,[false])] Tryz.func49 rfl rfl ?_;unfold M34
 intro hb
 simp only[bdA,bdL,bdT,Kh,K1n,roomB,and_true,List.length_map]at hb
 obtain⟨⟨hl,-⟩,hn⟩:=hb
 simp only[go_sem]
 rw[wI (by omega) (by omega)]
 unfold szr
 refine⟨fun h=>?_,fun h=>?_⟩
 ·rw[if_neg (by omega)]
 ·rw[if_pos (by omega)]
def M37:MC:=Y11 N4a
theorem Cb4(xs:List GExclusion)(hs:xs.length≤1073741824):Ctr Tryz.prog N3g [aL 5 (xs.map GExclusion.enc)] [rL 5 (xs.map GExclusion.enc)]:=by
 refine cA M37 1 23 [(.tmp 2,[true])] Tryz.func66 rfl rfl ?_;unfold M37
 intro hb
 simp only[go_sem]
 refine⟨⟨by omega,by simp only[roomB];omega⟩,?_⟩
 refine K4 xs (fun k=>[(4,vI k)]) (fun k=>[(0,⟨0,.row true 5 (filled GExclusion.enc [tI 0,tI 0,tI 0,tI 0,tI 0] xs k)⟩)]) (fun _=>True) (by simp only[roomB];omega) ?_
 simp only[go_sem]
 refine⟨?_,trivial,?_,?_⟩
 ·simp only[go_sem,K17]
  all_goals rfl
 ·intro k x hx _ h0 h1 hw
  have h:k<xs.length:=by omega
  simp only[go_sem,K1 hx,h0,h1]
  refine K0 (Cbh x) ?_
  simp only[go_sem,K1 (K1g h),K1h (Nat.le_of_lt h),h0,h1,hw]
  intros;exact K1i hx
 ·intro _
  simp only[go_sem,K1f]
def M31:MC:=Y7 5 N46
theorem Cb0(xs ys:List GExclusion):Ctr Tryz.prog N3c [aL 5 (xs.map GExclusion.enc),aL 5 (ys.map GExclusion.enc)] [rB (decide (xs=ys))]:=by
 refine cA M31 0 27 [(.tmp 4,[false])] Tryz.func83 rfl rfl ?_;unfold M31
 intro hb
 simp only[bdA,bdL,bdT,Kh,roomB,and_true,List.length_map]at hb
 obtain⟨⟨hl,-⟩,⟨hl2,-⟩⟩:=hb
 simp only[go_sem]
 refine⟨fun h=>K2l h,fun h=>?_⟩
 have hle:xs.length=ys.length:=by omega
 refine K4 xs (fun k=>[(5,vI k)]) (fun k=>[]) (fun k=>xs.take k=ys.take k) hl ?_
 simp only[go_sem]
 refine⟨?_,rfl,?_,?_⟩
 ·simp only[go_sem]
 ·intro k x hx he h0 h1 hw
  obtain⟨y,hy⟩:=K7 (show k<ys.length by omega)
  have h2:(k:Int)<ys.length:=by omega
  simp only[go_sem,K1 hx,K1 hy,h0,h1,h2]
  refine K0 (Cbb x y) ?_
  simp only[go_sem,hw]
  exact⟨fun hn=>K3e hx hy hn,fun hn=>(Ko hx hy he).2 hn⟩
 ·intro he
  simp only[go_sem]
  exact K2k he hle
def M3y:MC:=Y8
theorem Cbj(x:GStatement):Ctr Tryz.prog N4b [aS x.enc] [rS x.enc]:=by
 refine cA M3y 3 17 [(.cell 2 true 4,[false,false,false,false])] Tryz.func157 rfl rfl ?_;unfold M3y
 intro hb
 simp only[go_sem]
def M3u:MC:=Y9
theorem Cbd(x y:GStatement):Ctr Tryz.prog N47 [aS x.enc,aS y.enc] [rB (decide (x=y))]:=by
 refine cA M3u 2 25 [(.tmp 4,[false])] Tryz.func183 rfl rfl ?_;unfold M3u
 intro hb
 clear hb
 simp only[go_sem]
 refine⟨fun h=>?_,fun h_Witness=>?_⟩
 ·symm
  rw[decide_eq_false_iff_not]
  rintro rfl
  exact h rfl
 refine⟨fun h=>?_,fun h_Digest=>?_⟩
 ·symm
  rw[decide_eq_false_iff_not]
  rintro rfl
  exact h rfl
 refine⟨fun h=>?_,fun h_Tick=>?_⟩
 ·symm
  rw[decide_eq_false_iff_not]
  rintro rfl
  exact h rfl
 refine⟨fun h=>?_,fun h_Seal=>?_⟩
 ·symm
  rw[decide_eq_false_iff_not]
  rintro rfl
  exact h rfl
 cases x;cases y;simp_all
def M35:MC:=Y0
theorem Cb3(xs:List GStatement)(left:Int)(h0:0≤left):Ctr Tryz.prog N3f [aL 4 (xs.map GStatement.enc),aI left] [rI (szr xs.length left)]:=by
 refine cA M35 0 12 [(.tmp 4,[false])] Tryz.func52 rfl rfl ?_;unfold M35
 intro hb
 simp only[bdA,bdL,bdT,Kh,K1n,roomB,and_true,List.length_map]at hb
 obtain⟨⟨hl,-⟩,hn⟩:=hb
 simp only[go_sem]
 rw[wI (by omega) (by omega)]
 unfold szr
 refine⟨fun h=>?_,fun h=>?_⟩
 ·rw[if_neg (by omega)]
 ·rw[if_pos (by omega)]
def M38:MC:=Y10 N4b
theorem Cb5(xs:List GStatement)(hs:xs.length≤1073741824):Ctr Tryz.prog N3h [aL 4 (xs.map GStatement.enc)] [rL 4 (xs.map GStatement.enc)]:=by
 refine cA M38 1 23 [(.tmp 2,[true])] Tryz.func68 rfl rfl ?_;unfold M38
 intro hb
 simp only[go_sem]
 refine⟨⟨by omega,by simp only[roomB];omega⟩,?_⟩
 refine K4 xs (fun k=>[(4,vI k)]) (fun k=>[(0,⟨0,.row true 4 (filled GStatement.enc [tI 0,tI 0,tI 0,tI 0] xs k)⟩)]) (fun _=>True) (by simp only[roomB];omega) ?_
 simp only[go_sem]
 refine⟨?_,trivial,?_,?_⟩
 ·simp only[go_sem,K17]
  all_goals rfl
 ·intro k x hx _ h0 h1 hw
  have h:k<xs.length:=by omega
  simp only[go_sem,K1 hx,h0,h1]
  refine K0 (Cbj x) ?_
  simp only[go_sem,K1 (K1g h),K1h (Nat.le_of_lt h),h0,h1,hw]
  intros;exact K1i hx
 ·intro _
  simp only[go_sem,K1f]
def M32:MC:=Y7 4 N47
theorem Cb1(xs ys:List GStatement):Ctr Tryz.prog N3d [aL 4 (xs.map GStatement.enc),aL 4 (ys.map GStatement.enc)] [rB (decide (xs=ys))]:=by
 refine cA M32 0 27 [(.tmp 4,[false])] Tryz.func85 rfl rfl ?_;unfold M32
 intro hb
 simp only[bdA,bdL,bdT,Kh,roomB,and_true,List.length_map]at hb
 obtain⟨⟨hl,-⟩,⟨hl2,-⟩⟩:=hb
 simp only[go_sem]
 refine⟨fun h=>K2l h,fun h=>?_⟩
 have hle:xs.length=ys.length:=by omega
 refine K4 xs (fun k=>[(5,vI k)]) (fun k=>[]) (fun k=>xs.take k=ys.take k) hl ?_
 simp only[go_sem]
 refine⟨?_,rfl,?_,?_⟩
 ·simp only[go_sem]
 ·intro k x hx he h0 h1 hw
  obtain⟨y,hy⟩:=K7 (show k<ys.length by omega)
  have h2:(k:Int)<ys.length:=by omega
  simp only[go_sem,K1 hx,K1 hy,h0,h1,h2]
  refine K0 (Cbd x y) ?_
  simp only[go_sem,hw]
  exact⟨fun hn=>K3e hx hy hn,fun hn=>(Ko hx hy he).2 hn⟩
 ·intro he
  simp only[go_sem]
  exact K2k he hle
def M6z:MC:=Y1
theorem Cd4(x:GLibrary)(left:Int)(h0:0≤left):Ctr Tryz.prog N7t [aS x.enc,aI left] [rI (szr x.size left)]:=by
 refine cA M6z 1 12 [(.tmp 4,[false])] Tryz.func136 rfl rfl ?_;unfold M6z
 intro hb
 simp only[go_sem]
 refine K0 (C4e x.Digests left h0) ?_
 simp only[go_sem]
 intro _
 refine⟨fun h=>szr_bad' h0 h (by simp only[GLibrary.size];omega),fun h1=>?_⟩
 rfl
def M74:MC:=
(Zs [.box 1 0 (.s 0),.alloc 2 1 [pz,.emp 1,.pl (.sc (.bool false)),.pl (.sc (.bool false))]] [1,2] (Zs [.alloc 3 2 [pz,.emp 1,.pl (.sc (.bool false)),.pl (.sc (.bool false))]] [1,2,3] (Zs [fS 4 1 0,lF 5 1 4,fS 6 3 0,sS 1 6 5] [1,2,3] (Zs [fS 7 1 1,lF 8 1 7,.call 9 [3] (.f Nv) [.s 8],fS 10 3 1,sS 1 10 9] [1,2,3] (Zs [fS 11 1 2,lF 12 1 11,fS 13 3 2,sS 1 13 12] [1,2,3] (Zs [fS 14 1 3,lF 15 1 14,fS 16 3 3,sS 1 16 15] [2,3] (Zs [lT 17 4 3,sS 4 2 17] [2] .ret)))))))
theorem Cd7(x:GLibrary)(hs:x.size≤1073741824):Ctr Tryz.prog N7x [aS x.enc] [rS x.enc]:=by
 refine cA M74 4 18 [(.cell 2 true 4,[false,true,false,false])] Tryz.func156 rfl rfl ?_;unfold M74
 intro hb
 simp only[GLibrary.size]at hs
 simp only[go_sem]
 refine K0 (C19 x.Digests (by omega)) ?_
 simp only[go_sem]
 try intros
def M6v:MC:=
(Zs [.box 2 0 (.s 0),.box 3 1 (.s 1),.mv 4 cF] [2,3] (.seq (Zs [fS 5 2 0,lF 6 1 5,fS 7 3 0,lF 8 1 7,bS 9 .neq 6 8] [2,3,9] (.cond (.s 9) (Zs [.mv 4 cF] [4] .ret) .skip))
(.seq (Zs [fS 10 2 1,lF 11 1 10,fS 12 3 1,lF 13 1 12,.call 14 [] (.f N1i) [.s 11,.s 13],.un 15 .not (.s 14)] [2,3,15] (.cond (.s 15) (Zs [.mv 4 cF] [4] .ret) .skip))
(.seq (Zs [fS 16 2 2,lF 17 1 16,fS 18 3 2,lF 19 1 18,.bin 20 true .neq (.s 17) (.s 19)] [2,3,20] (.cond (.s 20) (Zs [.mv 4 cF] [4] .ret) .skip))
(.seq (Zs [fS 21 2 3,lF 22 1 21,fS 23 3 3,lF 24 1 23,.bin 25 true .neq (.s 22) (.s 24)] [25] (.cond (.s 25) (Zs [.mv 4 cF] [4] .ret) .skip))
(Zs [.mv 4 cT] [4] .ret))))))
theorem Cd0(x y:GLibrary):Ctr Tryz.prog N7o [aS x.enc,aS y.enc] [rB (decide (x=y))]:=by
 refine cA M6v 2 26 [(.tmp 4,[false])] Tryz.func182 rfl rfl ?_;unfold M6v
 intro hb
 clear hb
 simp only[go_sem]
 refine⟨fun h=>?_,fun h_Id=>?_⟩
 ·symm
  rw[decide_eq_false_iff_not]
  rintro rfl
  exact h rfl
 refine K0 (C27 x.Digests y.Digests) ?_
 simp only[go_sem]
 refine⟨fun h=>?_,fun h_Digests=>?_⟩
 ·symm
  rw[decide_eq_false_iff_not]
  rintro rfl
  exact h rfl
 refine⟨fun h=>?_,fun h_Up=>?_⟩
 ·symm
  rw[decide_eq_false_iff_not]
  rintro rfl
  exact h rfl
 refine⟨fun h=>?_,fun h_Lies=>?_⟩
 ·symm
  rw[decide_eq_false_iff_not]
  rintro rfl
  exact h rfl
 cases x;cases y;simp_all
def M57:MC:=Y5 4 N7t
theorem Cc5(xs:List GLibrary)(left:Int)(h0:0≤left):Ctr Tryz.prog N61 [aL 4 (xs.map GLibrary.enc),aI left] [rI (szr (xs.length+(xs.map GLibrary.size).sum) left)]:=by
 refine cA M57 0 27 [(.tmp 4,[false])] Tryz.func50 rfl rfl ?_;unfold M57
 intro hb
 simp only[bdA,bdL,bdT,Kh,K1n,roomB,and_true,List.length_map]at hb
 obtain⟨⟨hl,-⟩,hn⟩:=hb
 simp only[go_sem]
 rw[wI (by omega) (by omega)]
 refine⟨fun h=>?_,fun h=>?_⟩
 ·exact szr_bad' (n:=xs.length) h0 ((K5y h0).2 (by omega)) (by omega)
 ·have hz:szr xs.length left=left-xs.length:=by unfold szr;rw[if_pos (by omega)]
  rw[←hz]at h ⊢
  refine K4 xs (fun k=>[(1,vI (szr (xs.length+((xs.take k).map GLibrary.size).sum) left)),(5,vI k)]) (fun k=>[]) (fun k=>¬szr (xs.length+((xs.take k).map GLibrary.size).sum) left<0) hl ?_
  simp only[go_sem]
  refine⟨?_,by simpa using h,?_,?_⟩
  ·simp only[go_sem,List.take_zero,List.map_nil,List.sum_nil,Nat.add_zero]
   all_goals rfl
  ·intro k x hx hs hk0 h1 hw
   obtain⟨a1,a2,a3⟩:=K1m (m:=x.size) h0 hs
   rw[Nat.add_assoc,←K6e hx]at a3
   simp only[go_sem,K1 hx,hk0,h1]
   refine K0 (Cd4 x _ a1) ?_
   rw[←a3]
   simp only[go_sem,hw]
   intro _
   refine⟨fun hn=>?_,fun hn=>hn⟩
   have:=K1w (f:=GLibrary.size) xs (k+1)
   exact szr_bad' h0 hn (by omega)
  ·intro _
   simp only[go_sem,List.take_length]
def M5b:MC:=
(Zs [.nilo 2 0 4] [0] (.seq (pr [mS 5 0,nS 6 5,.mk 7 0 4 40 [.sc (.int .i64 0),.sl 1 [],.sc (.bool false),.sc (.bool false)] (.s 6),mS 3 7] [0,3])
(.seq (Zs [.mv 4 (ci 0)] [0,3,4] (.block 0 (.loop ([0,3,4],[1]) (.seq (Zs [mS 8 4,mS 9 0,nS 10 9,bS 11 .lss 8 10] [0,3,4,11] (cX 11 0))
(.seq (.block 1 (pr [mS 14 3,mS 15 4,mS 16 0,mS 17 4,xS 18 4 16 17,lT 19 4 18,.call 20 [1] (.f N7x) [.s 19],xS 21 4 14 15,sS 4 21 20] [0,3,4]))
(pr [mS 12 4,bC 13 .add 12 1,mS 4 13] [0,3,4]))))))
(Zs [mS 22 3,mS 2 22] [2] .ret))))
theorem Cc8(xs:List GLibrary)(hs:xs.length+(xs.map GLibrary.size).sum≤1073741824):Ctr Tryz.prog N65 [aL 4 (xs.map GLibrary.enc)] [rL 4 (xs.map GLibrary.enc)]:=by
 refine cA M5b 2 23 [(.tmp 2,[true])] Tryz.func67 rfl rfl ?_;unfold M5b
 intro hb
 simp only[go_sem]
 refine⟨⟨by omega,by simp only[roomB];omega⟩,?_⟩
 refine K4 xs (fun k=>[(4,vI k)]) (fun k=>[(0,⟨0,.row true 4 (filled GLibrary.enc [tI 0,.sl 1 [],tB false,tB false] xs k)⟩)]) (fun _=>True) (by simp only[roomB];omega) ?_
 simp only[go_sem]
 refine⟨?_,trivial,?_,?_⟩
 ·simp only[go_sem,K17]
  all_goals rfl
 ·intro k x hx _ h0 h1 hw
  have h:k<xs.length:=by omega
  simp only[go_sem,K1 hx,h0,h1]
  have hx1:=K23 (f:=GLibrary.size) (Km hx)
  refine K0 (Cd7 x (by omega)) ?_
  simp only[go_sem,K1 (K1g h),K1h (Nat.le_of_lt h),h0,h1,hw]
  intros;exact K1i hx
 ·intro _
  simp only[go_sem,K1f]
def M53:MC:=Y7 4 N7o
theorem Cc2(xs ys:List GLibrary):Ctr Tryz.prog N5x [aL 4 (xs.map GLibrary.enc),aL 4 (ys.map GLibrary.enc)] [rB (decide (xs=ys))]:=by
 refine cA M53 0 27 [(.tmp 4,[false])] Tryz.func84 rfl rfl ?_;unfold M53
 intro hb
 simp only[bdA,bdL,bdT,Kh,roomB,and_true,List.length_map]at hb
 obtain⟨⟨hl,-⟩,⟨hl2,-⟩⟩:=hb
 simp only[go_sem]
 refine⟨fun h=>K2l h,fun h=>?_⟩
 have hle:xs.length=ys.length:=by omega
 refine K4 xs (fun k=>[(5,vI k)]) (fun k=>[]) (fun k=>xs.take k=ys.take k) hl ?_
 simp only[go_sem]
 refine⟨?_,rfl,?_,?_⟩
 ·simp only[go_sem]
 ·intro k x hx he h0 h1 hw
  obtain⟨y,hy⟩:=K7 (show k<ys.length by omega)
  have h2:(k:Int)<ys.length:=by omega
  simp only[go_sem,K1 hx,K1 hy,h0,h1,h2]
  refine K0 (Cd0 x y) ?_
  simp only[go_sem,hw]
  exact⟨fun hn=>K3e hx hy hn,fun hn=>(Ko hx hy he).2 hn⟩
 ·intro he
  simp only[go_sem]
  exact K2k he hle
def Y12(v0:Nat)(v1:Nat)(v2:Nat):MC:=
(Zs [.box 2 0 (.s 0),.mv 4 (ci 0)] [1,2] (Zs [fS 5 2 0,lF 6 1 5,mS 7 1,.call 8 [] (.f v0) [.s 6,.s 7],mS 1 8] [1,2] (.seq (Zs [mS 9 1,bC 10 .lss 9 0] [1,2,10] (.cond (.s 10) (Zs [.mv 4 (.c (.int .i64 (-1)))] [4] .ret) .skip))
(Zs [fS 11 2 1,lF 12 1 11,mS 13 1,.call 14 [] (.f v1) [.s 12,.s 13],mS 1 14] [1,2] (.seq (Zs [mS 15 1,bC 16 .lss 15 0] [1,2,16] (.cond (.s 16) (Zs [.mv 4 (.c (.int .i64 (-1)))] [4] .ret) .skip))
(Zs [fS 17 2 2,lF 18 1 17,mS 19 1,.call 20 [] (.f v2) [.s 18,.s 19],mS 1 20] [1] (.seq (Zs [mS 21 1,bC 22 .lss 21 0] [1,22] (.cond (.s 22) (Zs [.mv 4 (.c (.int .i64 (-1)))] [4] .ret) .skip))
(Zs [mS 23 1,mS 4 23] [4] .ret))))))))
attribute [go_sem] Y12
def M3v:MC:=Y12 N7u N8t N60
theorem Cbe(x:GContainer)(left:Int)(h0:0≤left):Ctr Tryz.prog N48 [aS x.enc,aI left] [rI (szr x.size left)]:=by
 refine cA M3v 1 24 [(.tmp 4,[false])] Tryz.func241 rfl rfl ?_;unfold M3v
 intro hb
 simp only[go_sem]
 refine K0 (Cbf x.Script left h0) ?_
 simp only[go_sem]
 intro _
 refine⟨fun h=>szr_bad' h0 h (by simp only[GContainer.size];omega),fun h1=>?_⟩
 obtain⟨a1,b1,e1⟩:=K1m (m:=x.Entries.length) h0 h1
 refine K0 (Cdk x.Entries _ a1) ?_
 rw[←e1]
 simp only[go_sem]
 intro _
 refine⟨fun h=>szr_bad' h0 h (by simp only[GContainer.size];omega),fun h2=>?_⟩
 obtain⟨a2,b2,e2⟩:=K1m (m:=x.Captures.length+(x.Captures.map GCapture.size).sum) h0 h2
 refine K0 (Cc4 x.Captures _ a2) ?_
 rw[←e2]
 simp only[go_sem]
 intro _
 refine⟨fun h=>szr_bad' h0 h (by simp only[GContainer.size];omega),fun h3=>?_⟩
 rfl
def M3w:MC:=
(Zs [.box 1 0 (.s 0),.alloc 2 1 [.emp 4,.emp 5,.emp 9,pz]] [1,2] (Zs [.alloc 3 2 [.emp 4,.emp 5,.emp 9,pz]] [1,2,3] (Zs [fS 4 1 0,lF 5 1 4,.call 6 [3] (.f N7y) [.s 5],fS 7 3 0,sS 1 7 6] [1,2,3] (Zs [fS 8 1 1,lF 9 1 8,.call 10 [4] (.f N8v) [.s 9],fS 11 3 1,sS 1 11 10] [1,2,3] (Zs [fS 12 1 2,lF 13 1 12,.call 14 [5] (.f N64) [.s 13],fS 15 3 2,sS 1 15 14] [1,2,3] (Zs [fS 16 1 3,lF 17 1 16,fS 18 3 3,sS 1 18 17] [2,3] (Zs [lT 19 4 3,sS 4 2 19] [2] .ret)))))))
theorem Cbg(x:GContainer)(hs:x.size≤1073741824):Ctr Tryz.prog N49 [aS x.enc] [rS x.enc]:=by
 refine cA M3w 6 20 [(.cell 2 true 4,[true,true,true,false])] Tryz.func256 rfl rfl ?_;unfold M3w
 intro hb
 simp only[GContainer.size]at hs
 simp only[go_sem]
 refine K0 (Cbi x.Script (by omega)) ?_
 simp only[go_sem]
 try intros
 refine K0 (Cdm x.Entries (by omega)) ?_
 simp only[go_sem]
 try intros
 refine K0 (Cc7 x.Captures (by omega)) ?_
 simp only[go_sem]
 try intros
def M3s:MC:=
(Zs [.box 2 0 (.s 0),.box 3 1 (.s 1),.mv 4 cF] [2,3] (.seq (Zs [fS 5 2 0,lF 6 1 5,fS 7 3 0,lF 8 1 7,.call 9 [] (.f N7p) [.s 6,.s 8],.un 10 .not (.s 9)] [2,3,10] (.cond (.s 10) (Zs [.mv 4 cF] [4] .ret) .skip))
(.seq (Zs [fS 11 2 1,lF 12 1 11,fS 13 3 1,lF 14 1 13,.call 15 [] (.f N8r) [.s 12,.s 14],.un 16 .not (.s 15)] [2,3,16] (.cond (.s 16) (Zs [.mv 4 cF] [4] .ret) .skip))
(.seq (Zs [fS 17 2 2,lF 18 1 17,fS 19 3 2,lF 20 1 19,.call 21 [] (.f N5w) [.s 18,.s 20],.un 22 .not (.s 21)] [2,3,22] (.cond (.s 22) (Zs [.mv 4 cF] [4] .ret) .skip))
(.seq (Zs [fS 23 2 3,lF 24 1 23,fS 25 3 3,lF 26 1 25,bS 27 .neq 24 26] [27] (.cond (.s 27) (Zs [.mv 4 cF] [4] .ret) .skip))
(Zs [.mv 4 cT] [4] .ret))))))
theorem Cba(x y:GContainer):Ctr Tryz.prog N45 [aS x.enc,aS y.enc] [rB (decide (x=y))]:=by
 refine cA M3s 2 28 [(.tmp 4,[false])] Tryz.func278 rfl rfl ?_;unfold M3s
 intro hb
 clear hb
 simp only[go_sem]
 refine K0 (Cbc x.Script y.Script) ?_
 simp only[go_sem]
 refine⟨fun h=>?_,fun h_Script=>?_⟩
 ·symm
  rw[decide_eq_false_iff_not]
  rintro rfl
  exact h rfl
 refine K0 (Cdi x.Entries y.Entries) ?_
 simp only[go_sem]
 refine⟨fun h=>?_,fun h_Entries=>?_⟩
 ·symm
  rw[decide_eq_false_iff_not]
  rintro rfl
  exact h rfl
 refine K0 (Cc1 x.Captures y.Captures) ?_
 simp only[go_sem]
 refine⟨fun h=>?_,fun h_Captures=>?_⟩
 ·symm
  rw[decide_eq_false_iff_not]
  rintro rfl
  exact h rfl
 refine⟨fun h=>?_,fun h_Root=>?_⟩
 ·symm
  rw[decide_eq_false_iff_not]
  rintro rfl
  exact h rfl
 cases x;cases y;simp_all
def M33:MC:=Y5 4 N48
theorem C2t(xs:List GContainer)(left:Int)(h0:0≤left):Ctr Tryz.prog N1m [aL 4 (xs.map GContainer.enc),aI left] [rI (szr (xs.length+(xs.map GContainer.size).sum) left)]:=by
 refine cA M33 0 27 [(.tmp 4,[false])] Tryz.func134 rfl rfl ?_;unfold M33
 intro hb
 simp only[bdA,bdL,bdT,Kh,K1n,roomB,and_true,List.length_map]at hb
 obtain⟨⟨hl,-⟩,hn⟩:=hb
 simp only[go_sem]
 rw[wI (by omega) (by omega)]
 refine⟨fun h=>?_,fun h=>?_⟩
 ·exact szr_bad' (n:=xs.length) h0 ((K5y h0).2 (by omega)) (by omega)
 ·have hz:szr xs.length left=left-xs.length:=by unfold szr;rw[if_pos (by omega)]
  rw[←hz]at h ⊢
  refine K4 xs (fun k=>[(1,vI (szr (xs.length+((xs.take k).map GContainer.size).sum) left)),(5,vI k)]) (fun k=>[]) (fun k=>¬szr (xs.length+((xs.take k).map GContainer.size).sum) left<0) hl ?_
  simp only[go_sem]
  refine⟨?_,by simpa using h,?_,?_⟩
  ·simp only[go_sem,List.take_zero,List.map_nil,List.sum_nil,Nat.add_zero]
   all_goals rfl
  ·intro k x hx hs hk0 h1 hw
   obtain⟨a1,a2,a3⟩:=K1m (m:=x.size) h0 hs
   rw[Nat.add_assoc,←K6e hx]at a3
   simp only[go_sem,K1 hx,hk0,h1]
   refine K0 (Cbe x _ a1) ?_
   rw[←a3]
   simp only[go_sem,hw]
   intro _
   refine⟨fun hn=>?_,fun hn=>hn⟩
   have:=K1w (f:=GContainer.size) xs (k+1)
   exact szr_bad' h0 hn (by omega)
  ·intro _
   simp only[go_sem,List.take_length]
def M36:MC:=
(Zs [.nilo 2 0 4] [0] (.seq (pr [mS 5 0,nS 6 5,.mk 7 0 4 80 [.sl 4 [],.sl 5 [],.sl 9 [],.sc (.int .i64 0)] (.s 6),mS 3 7] [0,3])
(.seq (Zs [.mv 4 (ci 0)] [0,3,4] (.block 0 (.loop ([0,3,4],[1,2,3]) (.seq (Zs [mS 8 4,mS 9 0,nS 10 9,bS 11 .lss 8 10] [0,3,4,11] (cX 11 0))
(.seq (.block 1 (pr [mS 14 3,mS 15 4,mS 16 0,mS 17 4,xS 18 4 16 17,lT 19 4 18,.call 20 [1,2,3] (.f N49) [.s 19],xS 21 4 14 15,sS 4 21 20] [0,3,4]))
(pr [mS 12 4,bC 13 .add 12 1,mS 4 13] [0,3,4]))))))
(Zs [mS 22 3,mS 2 22] [2] .ret))))
theorem C2u(xs:List GContainer)(hs:xs.length+(xs.map GContainer.size).sum≤1073741824):Ctr Tryz.prog N1n [aL 4 (xs.map GContainer.enc)] [rL 4 (xs.map GContainer.enc)]:=by
 refine cA M36 4 23 [(.tmp 2,[true])] Tryz.func154 rfl rfl ?_;unfold M36
 intro hb
 simp only[go_sem]
 refine⟨⟨by omega,by simp only[roomB];omega⟩,?_⟩
 refine K4 xs (fun k=>[(4,vI k)]) (fun k=>[(0,⟨0,.row true 4 (filled GContainer.enc [.sl 4 [],.sl 5 [],.sl 9 [],tI 0] xs k)⟩)]) (fun _=>True) (by simp only[roomB];omega) ?_
 simp only[go_sem]
 refine⟨?_,trivial,?_,?_⟩
 ·simp only[go_sem,K17]
  all_goals rfl
 ·intro k x hx _ h0 h1 hw
  have h:k<xs.length:=by omega
  simp only[go_sem,K1 hx,h0,h1]
  have hx1:=K23 (f:=GContainer.size) (Km hx)
  refine K0 (Cbg x (by omega)) ?_
  simp only[go_sem,K1 (K1g h),K1h (Nat.le_of_lt h),h0,h1,hw]
  intros;exact K1i hx
 ·intro _
  simp only[go_sem,K1f]
def M30:MC:=Y7 4 N45
theorem C2s(xs ys:List GContainer):Ctr Tryz.prog N1l [aL 4 (xs.map GContainer.enc),aL 4 (ys.map GContainer.enc)] [rB (decide (xs=ys))]:=by
 refine cA M30 0 27 [(.tmp 4,[false])] Tryz.func180 rfl rfl ?_;unfold M30
 intro hb
 simp only[bdA,bdL,bdT,Kh,roomB,and_true,List.length_map]at hb
 obtain⟨⟨hl,-⟩,⟨hl2,-⟩⟩:=hb
 simp only[go_sem]
 refine⟨fun h=>K2l h,fun h=>?_⟩
 have hle:xs.length=ys.length:=by omega
 refine K4 xs (fun k=>[(5,vI k)]) (fun k=>[]) (fun k=>xs.take k=ys.take k) hl ?_
 simp only[go_sem]
 refine⟨?_,rfl,?_,?_⟩
 ·simp only[go_sem]
 ·intro k x hx he h0 h1 hw
  obtain⟨y,hy⟩:=K7 (show k<ys.length by omega)
  have h2:(k:Int)<ys.length:=by omega
  simp only[go_sem,K1 hx,K1 hy,h0,h1,h2]
  refine K0 (Cba x y) ?_
  simp only[go_sem,hw]
  exact⟨fun hn=>K3e hx hy hn,fun hn=>(Ko hx hy he).2 hn⟩
 ·intro he
  simp only[go_sem]
  exact K2k he hle
def M9i:MC:=
(Zs [.box 1 0 (.s 0),.alloc 2 1 [pz,pz,pz,pz,pz,pz]] [1,2] (Zs [.alloc 3 2 [pz,pz,pz,pz,pz,pz]] [1,2,3] (Zs [fS 4 1 0,lT 5 3 4,.call 6 [] (.f N16) [.s 5],fS 7 3 0,sS 3 7 6] [1,2,3] (Zs [fS 8 1 3,lF 9 1 8,fS 10 3 3,sS 1 10 9] [1,2,3] (Zs [fS 11 1 4,lF 12 1 11,fS 13 3 4,sS 1 13 12] [1,2,3] (Zs [fS 14 1 5,lF 15 1 14,fS 16 3 5,sS 1 16 15] [2,3] (Zs [lT 17 6 3,sS 6 2 17] [2] .ret)))))))
theorem Cdy(x:GFound):Ctr Tryz.prog N9w [aS x.enc] [rS x.enc]:=by
 refine cA M9i 3 18 [(.cell 2 true 6,[false,false,false,false,false,false])] Tryz.func257 rfl rfl ?_;unfold M9i
 intro hb
 simp only[go_sem]
 refine K0 (C14 x.Address) ?_
 simp only[go_sem]
 try intros
def M9g:MC:=
(Zs [.box 2 0 (.s 0),.box 3 1 (.s 1),.mv 4 cF] [2,3] (.seq (Zs [fS 5 2 0,lT 6 3 5,fS 7 3 0,lT 8 3 7,.call 9 [] (.f N15) [.s 6,.s 8],.un 10 .not (.s 9)] [2,3,10] (.cond (.s 10) (Zs [.mv 4 cF] [4] .ret) .skip))
(.seq (Zs [fS 11 2 3,lF 12 1 11,fS 13 3 3,lF 14 1 13,bS 15 .neq 12 14] [2,3,15] (.cond (.s 15) (Zs [.mv 4 cF] [4] .ret) .skip))
(.seq (Zs [fS 16 2 4,lF 17 1 16,fS 18 3 4,lF 19 1 18,bS 20 .neq 17 19] [2,3,20] (.cond (.s 20) (Zs [.mv 4 cF] [4] .ret) .skip))
(.seq (Zs [fS 21 2 5,lF 22 1 21,fS 23 3 5,lF 24 1 23,bS 25 .neq 22 24] [25] (.cond (.s 25) (Zs [.mv 4 cF] [4] .ret) .skip))
(Zs [.mv 4 cT] [4] .ret))))))
theorem Cdw(x y:GFound):Ctr Tryz.prog N9u [aS x.enc,aS y.enc] [rB (decide (x=y))]:=by
 refine cA M9g 2 26 [(.tmp 4,[false])] Tryz.func279 rfl rfl ?_;unfold M9g
 intro hb
 clear hb
 simp only[go_sem]
 refine K0 (C13 x.Address y.Address) ?_
 simp only[go_sem]
 refine⟨fun h=>?_,fun h_Address=>?_⟩
 ·symm
  rw[decide_eq_false_iff_not]
  rintro rfl
  exact h rfl
 refine⟨fun h=>?_,fun h_Tick=>?_⟩
 ·symm
  rw[decide_eq_false_iff_not]
  rintro rfl
  exact h rfl
 refine⟨fun h=>?_,fun h_Container=>?_⟩
 ·symm
  rw[decide_eq_false_iff_not]
  rintro rfl
  exact h rfl
 refine⟨fun h=>?_,fun h_At=>?_⟩
 ·symm
  rw[decide_eq_false_iff_not]
  rintro rfl
  exact h rfl
 cases x;cases y;simp_all
def M8i:MC:=Y0
theorem Cdl(xs:List GFound)(left:Int)(h0:0≤left):Ctr Tryz.prog N8u [aL 6 (xs.map GFound.enc),aI left] [rI (szr xs.length left)]:=by
 refine cA M8i 0 12 [(.tmp 4,[false])] Tryz.func135 rfl rfl ?_;unfold M8i
 intro hb
 simp only[bdA,bdL,bdT,Kh,K1n,roomB,and_true,List.length_map]at hb
 obtain⟨⟨hl,-⟩,hn⟩:=hb
 simp only[go_sem]
 rw[wI (by omega) (by omega)]
 unfold szr
 refine⟨fun h=>?_,fun h=>?_⟩
 ·rw[if_neg (by omega)]
 ·rw[if_pos (by omega)]
def M8k:MC:=
(Zs [.nilo 2 0 6] [0] (Zs [mS 5 0,nS 6 5,.mk 7 0 6 48 [.sc (.int .i64 0),.sc (.int .i64 0),.sc (.int .i64 0),.sc (.int .i64 0),.sc (.int .i64 0),.sc (.int .i64 0)] (.s 6),mS 3 7] [0,3] (.seq (Zs [.mv 4 (ci 0)] [0,3,4] (.block 0 (.loop ([0,3,4],[]) (.seq (Zs [mS 8 4,mS 9 0,nS 10 9,bS 11 .lss 8 10] [0,3,4,11] (cX 11 0))
(.seq (.block 1 (pr [mS 14 3,mS 15 4,mS 16 0,mS 17 4,xS 18 6 16 17,lT 19 6 18,.call 20 [] (.f N9w) [.s 19],xS 21 6 14 15,sS 6 21 20] [0,3,4]))
(pr [mS 12 4,bC 13 .add 12 1,mS 4 13] [0,3,4]))))))
(Zs [mS 22 3,mS 2 22] [2] .ret))))
theorem Cdn(xs:List GFound)(hs:xs.length≤1073741824):Ctr Tryz.prog N8w [aL 6 (xs.map GFound.enc)] [rL 6 (xs.map GFound.enc)]:=by
 refine cA M8k 1 23 [(.tmp 2,[true])] Tryz.func155 rfl rfl ?_;unfold M8k
 intro hb
 simp only[go_sem]
 refine⟨⟨by omega,by simp only[roomB];omega⟩,?_⟩
 refine K4 xs (fun k=>[(4,vI k)]) (fun k=>[(0,⟨0,.row true 6 (filled GFound.enc [tI 0,tI 0,tI 0,tI 0,tI 0,tI 0] xs k)⟩)]) (fun _=>True) (by simp only[roomB];omega) ?_
 simp only[go_sem]
 refine⟨?_,trivial,?_,?_⟩
 ·simp only[go_sem,K17]
  all_goals rfl
 ·intro k x hx _ h0 h1 hw
  have h:k<xs.length:=by omega
  simp only[go_sem,K1 hx,h0,h1]
  refine K0 (Cdy x) ?_
  simp only[go_sem,K1 (K1g h),K1h (Nat.le_of_lt h),h0,h1,hw]
  intros;exact K1i hx
 ·intro _
  simp only[go_sem,K1f]
def M8g:MC:=Y7 6 N9u
theorem Cdj(xs ys:List GFound):Ctr Tryz.prog N8s [aL 6 (xs.map GFound.enc),aL 6 (ys.map GFound.enc)] [rB (decide (xs=ys))]:=by
 refine cA M8g 0 27 [(.tmp 4,[false])] Tryz.func181 rfl rfl ?_;unfold M8g
 intro hb
 simp only[bdA,bdL,bdT,Kh,roomB,and_true,List.length_map]at hb
 obtain⟨⟨hl,-⟩,⟨hl2,-⟩⟩:=hb
 simp only[go_sem]
 refine⟨fun h=>K2l h,fun h=>?_⟩
 have hle:xs.length=ys.length:=by omega
 refine K4 xs (fun k=>[(5,vI k)]) (fun k=>[]) (fun k=>xs.take k=ys.take k) hl ?_
 simp only[go_sem]
 refine⟨?_,rfl,?_,?_⟩
 ·simp only[go_sem]
 ·intro k x hx he h0 h1 hw
  obtain⟨y,hy⟩:=K7 (show k<ys.length by omega)
  have h2:(k:Int)<ys.length:=by omega
  simp only[go_sem,K1 hx,K1 hy,h0,h1,h2]
  refine K0 (Cdw x y) ?_
  simp only[go_sem,hw]
  exact⟨fun hn=>K3e hx hy hn,fun hn=>(Ko hx hy he).2 hn⟩
 ·intro he
  simp only[go_sem]
  exact K2k he hle
def Maf:MC:=Y12 N1m N8u N1m
theorem Cea(x:GDisk)(left:Int)(h0:0≤left):Ctr Tryz.prog Nau [aS x.enc,aI left] [rI (szr x.size left)]:=by
 refine cA Maf 1 24 [(.tmp 4,[false])] Tryz.func48 rfl rfl ?_;unfold Maf
 intro hb
 simp only[go_sem]
 refine K0 (C2t x.Containers left h0) ?_
 simp only[go_sem]
 intro _
 refine⟨fun h=>szr_bad' h0 h (by simp only[GDisk.size];omega),fun h1=>?_⟩
 obtain⟨a1,b1,e1⟩:=K1m (m:=x.Index.length) h0 h1
 refine K0 (Cdl x.Index _ a1) ?_
 rw[←e1]
 simp only[go_sem]
 intro _
 refine⟨fun h=>szr_bad' h0 h (by simp only[GDisk.size];omega),fun h2=>?_⟩
 obtain⟨a2,b2,e2⟩:=K1m (m:=x.Wanted.length+(x.Wanted.map GContainer.size).sum) h0 h2
 refine K0 (C2t x.Wanted _ a2) ?_
 rw[←e2]
 simp only[go_sem]
 intro _
 refine⟨fun h=>szr_bad' h0 h (by simp only[GDisk.size];omega),fun h3=>?_⟩
 rfl
def Mah:MC:=
(Zs [.box 1 0 (.s 0),.alloc 2 1 [.emp 4,.emp 6,.emp 4]] [1,2] (Zs [.alloc 3 2 [.emp 4,.emp 6,.emp 4]] [1,2,3] (Zs [fS 4 1 0,lF 5 1 4,.call 6 [3] (.f N1n) [.s 5],fS 7 3 0,sS 1 7 6] [1,2,3] (Zs [fS 8 1 1,lF 9 1 8,.call 10 [4] (.f N8w) [.s 9],fS 11 3 1,sS 1 11 10] [1,2,3] (Zs [fS 12 1 2,lF 13 1 12,.call 14 [5] (.f N1n) [.s 13],fS 15 3 2,sS 1 15 14] [2,3] (Zs [lT 16 3 3,sS 3 2 16] [2] .ret))))))
theorem Ceb(x:GDisk)(hs:x.size≤1073741824):Ctr Tryz.prog Nav [aS x.enc] [rS x.enc]:=by
 refine cA Mah 6 17 [(.cell 2 true 3,[true,true,true])] Tryz.func65 rfl rfl ?_;unfold Mah
 intro hb
 simp only[GDisk.size]at hs
 simp only[go_sem]
 refine K0 (C2u x.Containers (by omega)) ?_
 simp only[go_sem]
 try intros
 refine K0 (Cdn x.Index (by omega)) ?_
 simp only[go_sem]
 try intros
 refine K0 (C2u x.Wanted (by omega)) ?_
 simp only[go_sem]
 try intros
def Mad:MC:=
(Zs [.box 2 0 (.s 0),.box 3 1 (.s 1),.mv 4 cF] [2,3] (.seq (Zs [fS 5 2 0,lF 6 1 5,fS 7 3 0,lF 8 1 7,.call 9 [] (.f N1l) [.s 6,.s 8],.un 10 .not (.s 9)] [2,3,10] (.cond (.s 10) (Zs [.mv 4 cF] [4] .ret) .skip))
(.seq (Zs [fS 11 2 1,lF 12 1 11,fS 13 3 1,lF 14 1 13,.call 15 [] (.f N8s) [.s 12,.s 14],.un 16 .not (.s 15)] [2,3,16] (.cond (.s 16) (Zs [.mv 4 cF] [4] .ret) .skip))
(.seq (Zs [fS 17 2 2,lF 18 1 17,fS 19 3 2,lF 20 1 19,.call 21 [] (.f N1l) [.s 18,.s 20],.un 22 .not (.s 21)] [22] (.cond (.s 22) (Zs [.mv 4 cF] [4] .ret) .skip))
(Zs [.mv 4 cT] [4] .ret)))))
theorem Ce9(x y:GDisk):Ctr Tryz.prog Nas [aS x.enc,aS y.enc] [rB (decide (x=y))]:=by
 refine cA Mad 2 23 [(.tmp 4,[false])] Tryz.func82 rfl rfl ?_;unfold Mad
 intro hb
 clear hb
 simp only[go_sem]
 refine K0 (C2s x.Containers y.Containers) ?_
 simp only[go_sem]
 refine⟨fun h=>?_,fun h_Containers=>?_⟩
 ·symm
  rw[decide_eq_false_iff_not]
  rintro rfl
  exact h rfl
 refine K0 (Cdj x.Index y.Index) ?_
 simp only[go_sem]
 refine⟨fun h=>?_,fun h_Index=>?_⟩
 ·symm
  rw[decide_eq_false_iff_not]
  rintro rfl
  exact h rfl
 refine K0 (C2s x.Wanted y.Wanted) ?_
 simp only[go_sem]
 refine⟨fun h=>?_,fun h_Wanted=>?_⟩
 ·symm
  rw[decide_eq_false_iff_not]
  rintro rfl
  exact h rfl
 cases x;cases y;simp_all
def M6x:MC:=
(Zs [.box 2 0 (.s 0),.mv 4 (ci 0)] [1,2] (Zs [fS 5 2 0,lF 6 1 5,mS 7 1,.call 8 [] (.f N63) [.s 6,.s 7],mS 1 8] [1,2] (.seq (Zs [mS 9 1,bC 10 .lss 9 0] [1,2,10] (.cond (.s 10) (Zs [.mv 4 (.c (.int .i64 (-1)))] [4] .ret) .skip))
(Zs [fS 11 2 1,lF 12 1 11,mS 13 1,.call 14 [] (.f N7u) [.s 12,.s 13],mS 1 14] [1,2] (.seq (Zs [mS 15 1,bC 16 .lss 15 0] [1,2,16] (.cond (.s 16) (Zs [.mv 4 (.c (.int .i64 (-1)))] [4] .ret) .skip))
(Zs [fS 17 2 2,lT 18 3 17,mS 19 1,.call 20 [] (.f Nau) [.s 18,.s 19],mS 1 20] [1,2] (.seq (Zs [mS 21 1,bC 22 .lss 21 0] [1,2,22] (.cond (.s 22) (Zs [.mv 4 (.c (.int .i64 (-1)))] [4] .ret) .skip))
(Zs [fS 23 2 5,lF 24 1 23,mS 25 1,.call 26 [] (.f N3e) [.s 24,.s 25],mS 1 26] [1,2] (.seq (Zs [mS 27 1,bC 28 .lss 27 0] [1,2,28] (.cond (.s 28) (Zs [.mv 4 (.c (.int .i64 (-1)))] [4] .ret) .skip))
(Zs [fS 29 2 6,lF 30 1 29,mS 31 1,.call 32 [] (.f N61) [.s 30,.s 31],mS 1 32] [1,2] (.seq (Zs [mS 33 1,bC 34 .lss 33 0] [1,2,34] (.cond (.s 34) (Zs [.mv 4 (.c (.int .i64 (-1)))] [4] .ret) .skip))
(Zs [fS 35 2 7,lF 36 1 35,mS 37 1,.call 38 [] (.f N4h) [.s 36,.s 37],mS 1 38] [1,2] (.seq (Zs [mS 39 1,bC 40 .lss 39 0] [1,2,40] (.cond (.s 40) (Zs [.mv 4 (.c (.int .i64 (-1)))] [4] .ret) .skip))
(Zs [fS 41 2 8,lF 42 1 41,mS 43 1,.call 44 [] (.f N3f) [.s 42,.s 43],mS 1 44] [1] (.seq (Zs [mS 45 1,bC 46 .lss 45 0] [1,46] (.cond (.s 46) (Zs [.mv 4 (.c (.int .i64 (-1)))] [4] .ret) .skip))
(Zs [mS 47 1,mS 4 47] [4] .ret))))))))))))))))
theorem Cd2(x:GArchive)(left:Int)(h0:0≤left):Ctr Tryz.prog N7r [aS x.enc,aI left] [rI (szr x.size left)]:=by
 refine cA M6x 1 48 [(.tmp 4,[false])] Tryz.func8 rfl rfl ?_;unfold M6x
 intro hb
 simp only[go_sem]
 refine K0 (Cc6 x.Site left h0) ?_
 simp only[go_sem]
 intro _
 refine⟨fun h=>szr_bad' h0 h (by simp only[GArchive.size];omega),fun h1=>?_⟩
 obtain⟨a1,b1,e1⟩:=K1m (m:=x.Script.length) h0 h1
 refine K0 (Cbf x.Script _ a1) ?_
 rw[←e1]
 simp only[go_sem]
 intro _
 refine⟨fun h=>szr_bad' h0 h (by simp only[GArchive.size];omega),fun h2=>?_⟩
 obtain⟨a2,b2,e2⟩:=K1m (m:=x.Disk.size) h0 h2
 refine K0 (Cea x.Disk _ a2) ?_
 rw[←e2]
 simp only[go_sem]
 intro _
 refine⟨fun h=>szr_bad' h0 h (by simp only[GArchive.size];omega),fun h3=>?_⟩
 obtain⟨a3,b3,e3⟩:=K1m (m:=x.Exclusions.length) h0 h3
 refine K0 (Cb2 x.Exclusions _ a3) ?_
 rw[←e3]
 simp only[go_sem]
 intro _
 refine⟨fun h=>szr_bad' h0 h (by simp only[GArchive.size];omega),fun h4=>?_⟩
 obtain⟨a4,b4,e4⟩:=K1m (m:=x.Libraries.length+(x.Libraries.map GLibrary.size).sum) h0 h4
 refine K0 (Cc5 x.Libraries _ a4) ?_
 rw[←e4]
 simp only[go_sem]
 intro _
 refine⟨fun h=>szr_bad' h0 h (by simp only[GArchive.size];omega),fun h5=>?_⟩
 obtain⟨a5,b5,e5⟩:=K1m (m:=x.Keys.length) h0 h5
 refine K0 (C4e x.Keys _ a5) ?_
 rw[←e5]
 simp only[go_sem]
 intro _
 refine⟨fun h=>szr_bad' h0 h (by simp only[GArchive.size];omega),fun h6=>?_⟩
 obtain⟨a6,b6,e6⟩:=K1m (m:=x.Statements.length) h0 h6
 refine K0 (Cb3 x.Statements _ a6) ?_
 rw[←e6]
 simp only[go_sem]
 intro _
 refine⟨fun h=>szr_bad' h0 h (by simp only[GArchive.size];omega),fun h7=>?_⟩
 rfl
def M72:MC:=
(Zs [.box 1 0 (.s 0),.alloc 2 1 [.emp 9,.emp 4,.emp 4,.emp 6,.emp 4,.emp 5,.emp 4,.emp 1,.emp 4,pz]] [1,2] (Zs [.alloc 3 2 [.emp 9,.emp 4,.emp 4,.emp 6,.emp 4,.emp 5,.emp 4,.emp 1,.emp 4,pz]] [1,2,3] (Zs [fS 4 1 0,lF 5 1 4,.call 6 [3] (.f N67) [.s 5],fS 7 3 0,sS 1 7 6] [1,2,3] (Zs [fS 8 1 1,lF 9 1 8,.call 10 [4] (.f N7y) [.s 9],fS 11 3 1,sS 1 11 10] [1,2,3] (Zs [fS 12 1 2,lT 13 3 12,.call 14 [5,6,7] (.f Nav) [.s 13],fS 15 3 2,sS 3 15 14] [1,2,3] (Zs [fS 16 1 5,lF 17 1 16,.call 18 [8] (.f N3g) [.s 17],fS 19 3 5,sS 1 19 18] [1,2,3] (Zs [fS 20 1 6,lF 21 1 20,.call 22 [9] (.f N65) [.s 21],fS 23 3 6,sS 1 23 22] [1,2,3] (Zs [fS 24 1 7,lF 25 1 24,.call 26 [10] (.f Nv) [.s 25],fS 27 3 7,sS 1 27 26] [1,2,3] (Zs [fS 28 1 8,lF 29 1 28,.call 30 [11] (.f N3h) [.s 29],fS 31 3 8,sS 1 31 30] [1,2,3] (Zs [fS 32 1 9,lF 33 1 32,fS 34 3 9,sS 1 34 33] [2,3] (Zs [lT 35 10 3,sS 10 2 35] [2] .ret)))))))))))
theorem C29(x:GArchive)(hs:x.size≤1073741824):Ctr Tryz.prog N1h [aS x.enc] [rS x.enc]:=by
 refine cA M72 12 36 [(.cell 2 true 10,[true,true,true,true,true,true,true,true,true,false])] Tryz.func11 rfl rfl ?_;unfold M72
 intro hb
 simp only[GArchive.size]at hs
 simp only[go_sem]
 refine K0 (Cc9 x.Site (by omega)) ?_
 simp only[go_sem]
 try intros
 refine K0 (Cbi x.Script (by omega)) ?_
 simp only[go_sem]
 try intros
 refine K0 (Ceb x.Disk (by omega)) ?_
 simp only[go_sem]
 try intros
 refine K0 (Cb4 x.Exclusions (by omega)) ?_
 simp only[go_sem]
 try intros
 refine K0 (Cc8 x.Libraries (by omega)) ?_
 simp only[go_sem]
 try intros
 refine K0 (C19 x.Keys (by omega)) ?_
 simp only[go_sem]
 try intros
 refine K0 (Cb5 x.Statements (by omega)) ?_
 simp only[go_sem]
 try intros
def M6t:MC:=
(Zs [.box 2 0 (.s 0),.box 3 1 (.s 1),.mv 4 cF] [2,3] (.seq (Zs [fS 5 2 0,lF 6 1 5,fS 7 3 0,lF 8 1 7,.call 9 [] (.f N5z) [.s 6,.s 8],.un 10 .not (.s 9)] [2,3,10] (.cond (.s 10) (Zs [.mv 4 cF] [4] .ret) .skip))
(.seq (Zs [fS 11 2 1,lF 12 1 11,fS 13 3 1,lF 14 1 13,.call 15 [] (.f N7p) [.s 12,.s 14],.un 16 .not (.s 15)] [2,3,16] (.cond (.s 16) (Zs [.mv 4 cF] [4] .ret) .skip))
(.seq (Zs [fS 17 2 2,lT 18 3 17,fS 19 3 2,lT 20 3 19,.call 21 [] (.f Nas) [.s 18,.s 20],.un 22 .not (.s 21)] [2,3,22] (.cond (.s 22) (Zs [.mv 4 cF] [4] .ret) .skip))
(.seq (Zs [fS 23 2 5,lF 24 1 23,fS 25 3 5,lF 26 1 25,.call 27 [] (.f N3c) [.s 24,.s 26],.un 28 .not (.s 27)] [2,3,28] (.cond (.s 28) (Zs [.mv 4 cF] [4] .ret) .skip))
(.seq (Zs [fS 29 2 6,lF 30 1 29,fS 31 3 6,lF 32 1 31,.call 33 [] (.f N5x) [.s 30,.s 32],.un 34 .not (.s 33)] [2,3,34] (.cond (.s 34) (Zs [.mv 4 cF] [4] .ret) .skip))
(.seq (Zs [fS 35 2 7,lF 36 1 35,fS 37 3 7,lF 38 1 37,.call 39 [] (.f N1i) [.s 36,.s 38],.un 40 .not (.s 39)] [2,3,40] (.cond (.s 40) (Zs [.mv 4 cF] [4] .ret) .skip))
(.seq (Zs [fS 41 2 8,lF 42 1 41,fS 43 3 8,lF 44 1 43,.call 45 [] (.f N3d) [.s 42,.s 44],.un 46 .not (.s 45)] [2,3,46] (.cond (.s 46) (Zs [.mv 4 cF] [4] .ret) .skip))
(.seq (Zs [fS 47 2 9,lF 48 1 47,fS 49 3 9,lF 50 1 49,bS 51 .neq 48 50] [51] (.cond (.s 51) (Zs [.mv 4 cF] [4] .ret) .skip))
(Zs [.mv 4 cT] [4] .ret))))))))))
theorem Ccy(x y:GArchive):Ctr Tryz.prog N7m [aS x.enc,aS y.enc] [rB (decide (x=y))]:=by
 refine cA M6t 2 52 [(.tmp 4,[false])] Tryz.func14 rfl rfl ?_;unfold M6t
 intro hb
 clear hb
 simp only[go_sem]
 refine K0 (Cc3 x.Site y.Site) ?_
 simp only[go_sem]
 refine⟨fun h=>?_,fun h_Site=>?_⟩
 ·symm
  rw[decide_eq_false_iff_not]
  rintro rfl
  exact h rfl
 refine K0 (Cbc x.Script y.Script) ?_
 simp only[go_sem]
 refine⟨fun h=>?_,fun h_Script=>?_⟩
 ·symm
  rw[decide_eq_false_iff_not]
  rintro rfl
  exact h rfl
 refine K0 (Ce9 x.Disk y.Disk) ?_
 simp only[go_sem]
 refine⟨fun h=>?_,fun h_Disk=>?_⟩
 ·symm
  rw[decide_eq_false_iff_not]
  rintro rfl
  exact h rfl
 refine K0 (Cb0 x.Exclusions y.Exclusions) ?_
 simp only[go_sem]
 refine⟨fun h=>?_,fun h_Exclusions=>?_⟩
 ·symm
  rw[decide_eq_false_iff_not]
  rintro rfl
  exact h rfl
 refine K0 (Cc2 x.Libraries y.Libraries) ?_
 simp only[go_sem]
 refine⟨fun h=>?_,fun h_Libraries=>?_⟩
 ·symm
  rw[decide_eq_false_iff_not]
  rintro rfl
  exact h rfl
 refine K0 (C27 x.Keys y.Keys) ?_
 simp only[go_sem]
 refine⟨fun h=>?_,fun h_Keys=>?_⟩
 ·symm
  rw[decide_eq_false_iff_not]
  rintro rfl
  exact h rfl
 refine K0 (Cb1 x.Statements y.Statements) ?_
 simp only[go_sem]
 refine⟨fun h=>?_,fun h_Statements=>?_⟩
 ·symm
  rw[decide_eq_false_iff_not]
  rintro rfl
  exact h rfl
 refine⟨fun h=>?_,fun h_Now=>?_⟩
 ·symm
  rw[decide_eq_false_iff_not]
  rintro rfl
  exact h rfl
 cases x;cases y;simp_all
end Go.Proofs.YtjneccbpkckdfaaGreatR
namespace Go.Proofs.YtjneccbpkckdfaaGreatR
open Go Go.RowKit Go.Proofs
open Nat (reduceEqDiff reduceLT reduceLeDiff reduceAdd reduceMul)
open List (reduceReplicate)
def mkL{α:Type}(mk:α→Int→α)(c:α→Nat):List α→Int→List α
 | [],_=>[]
 |x::l,k=>mk x k::mkL mk c l (k+(c x:Nat))
def ctL{α:Type}(c:α→Nat)(l:List α):Nat:=(l.map c).sum
def iMk(_:Int)(k:Int):Int:=k
def iCt(_:Int):Nat:=1
def bMk(_:Bool)(k:Int):Bool:=k.tmod 3==0
section
variable {α:Type} {mk:α→Int→α} {c:α→Nat} {l:List α} {k:Int} {i:Nat} {x:α} {f:α→List T}
theorem Kf:∀ {l:List α} {k:Int},(mkL mk c l k).length=l.length
 | [],_=>rfl
 |x::l,k=>by simp[mkL,Kf (l:=l)]
theorem K3m{sz:Nat}{es:List α}{rs:List RV}(h:bdVA (oL sz (es.map f)::rs)):es.length≤roomB:=by
 simp only[bdVA,List.map_cons,bdL,bdT,List.length_map]at h
 exact h.1.1.1
theorem K4c{s:α→Nat}(h:∀x,c x≤16*(1+s x)):∀l:List α,ctL c l≤16*(l.length+(l.map s).sum)
 | []=>by simp[ctL]
 |x::l=>by
  have h1:=h x
  have h2:=K4c h l
  simp only[ctL,List.map_cons,List.sum_cons,List.length_cons]at*
  omega
theorem ctL_le'(h:∀x,c x≤16):∀l:List α,ctL c l≤16*l.length
 | []=>by simp[ctL]
 |x::l=>by
  have h1:=h x
  have h2:=ctL_le' h l
  simp only[ctL,List.map_cons,List.sum_cons,List.length_cons]at*
  omega
end
abbrev oS(ts:List T):RV:=⟨true,own ts⟩
attribute [go_sem] oS
attribute [go_sem] Kf
def GAddress.mkd(x:GAddress)(k:Int):GAddress:=⟨k,(k+1),(k+2)⟩
def GAddress.ct(x:GAddress):Nat:=3
def GResource.mkd(x:GResource)(k:Int):GResource:=⟨k,(mkL iMk iCt x.Body (k+1)),⟨((k+1)+(ctL iCt x.Body:Nat)),(((k+1)+(ctL iCt x.Body:Nat))+1),(((k+1)+(ctL iCt x.Body:Nat))+2)⟩⟩
def GResource.ct(x:GResource):Nat:=4+ctL iCt x.Body
theorem GResource.ct_le(x:GResource):x.ct≤16*(1+x.size):=by
 simp only[GResource.ct,GResource.size]
 have h0:=ctL_le' (c:=iCt) (fun y=>by simp only[iCt];omega) x.Body
 omega
def GResource.mks(x:GResource)(k:Int):GResource:={x with Body:=mkL iMk iCt x.Body (k)}
def GResource.cts(x:GResource):Nat:=ctL iCt x.Body
theorem GResource.cts_le(x:GResource):x.cts≤16*x.size:=by
 simp only[GResource.cts,GResource.size]
 have hBody:=ctL_le' (c:=iCt) (fun y=>by simp only[iCt];omega) x.Body
 omega
@[go_sem] theorem GResource.mks_len0 (x:GResource) (k:Int):((x.mks k).Body).length=x.Body.length:=Kf
def GPart.mkd(x:GPart)(k:Int):GPart:=⟨k,⟨(k+1),(mkL iMk iCt x.Resource.Body (k+2)),⟨((k+2)+(ctL iCt x.Resource.Body:Nat)),(((k+2)+(ctL iCt x.Resource.Body:Nat))+1),(((k+2)+(ctL iCt x.Resource.Body:Nat))+2)⟩⟩,(((k+2)+(ctL iCt x.Resource.Body:Nat))+3)⟩
def GPart.ct(x:GPart):Nat:=6+ctL iCt x.Resource.Body
theorem GPart.ct_le(x:GPart):x.ct≤16*(1+x.size):=by
 simp only[GPart.ct,GPart.size,GResource.size]
 have h0:=ctL_le' (c:=iCt) (fun y=>by simp only[iCt];omega) x.Resource.Body
 omega
def GPart.mks(x:GPart)(k:Int):GPart:={x with Resource:=x.Resource.mks (k)}
def GPart.cts(x:GPart):Nat:=x.Resource.cts
theorem GPart.cts_le(x:GPart):x.cts≤16*x.size:=by
 simp only[GPart.cts,GPart.size]
 have hResource:=GResource.cts_le x.Resource
 omega
@[go_sem] theorem GPart.mks_len0 (x:GPart) (k:Int):((x.mks k).Resource.Body).length=x.Resource.Body.length:=Kf
def GPiece.mkd(x:GPiece)(k:Int):GPiece:=⟨k,(k+1),(mkL iMk iCt x.New (k+2))⟩
def GPiece.ct(x:GPiece):Nat:=2+ctL iCt x.New
theorem GPiece.ct_le(x:GPiece):x.ct≤16*(1+x.size):=by
 simp only[GPiece.ct,GPiece.size]
 have h0:=ctL_le' (c:=iCt) (fun y=>by simp only[iCt];omega) x.New
 omega
def GPiece.mks(x:GPiece)(k:Int):GPiece:={x with New:=mkL iMk iCt x.New (k)}
def GPiece.cts(x:GPiece):Nat:=ctL iCt x.New
theorem GPiece.cts_le(x:GPiece):x.cts≤16*x.size:=by
 simp only[GPiece.cts,GPiece.size]
 have hNew:=ctL_le' (c:=iCt) (fun y=>by simp only[iCt];omega) x.New
 omega
@[go_sem] theorem GPiece.mks_len0 (x:GPiece) (k:Int):((x.mks k).New).length=x.New.length:=Kf
def GVersion.mkd(x:GVersion)(k:Int):GVersion:=⟨⟨k,(k+1),(k+2)⟩,(k+3),⟨(k+4),(mkL iMk iCt x.Resource.Body (k+5)),⟨((k+5)+(ctL iCt x.Resource.Body:Nat)),(((k+5)+(ctL iCt x.Resource.Body:Nat))+1),(((k+5)+(ctL iCt x.Resource.Body:Nat))+2)⟩⟩⟩
def GVersion.ct(x:GVersion):Nat:=8+ctL iCt x.Resource.Body
theorem GVersion.ct_le(x:GVersion):x.ct≤16*(1+x.size):=by
 simp only[GVersion.ct,GVersion.size,GResource.size]
 have h0:=ctL_le' (c:=iCt) (fun y=>by simp only[iCt];omega) x.Resource.Body
 omega
def GVersion.mks(x:GVersion)(k:Int):GVersion:={x with Resource:=x.Resource.mks (k)}
def GVersion.cts(x:GVersion):Nat:=x.Resource.cts
theorem GVersion.cts_le(x:GVersion):x.cts≤16*x.size:=by
 simp only[GVersion.cts,GVersion.size]
 have hResource:=GResource.cts_le x.Resource
 omega
@[go_sem] theorem GVersion.mks_len0 (x:GVersion) (k:Int):((x.mks k).Resource.Body).length=x.Resource.Body.length:=Kf
def GOp.mkd(x:GOp)(k:Int):GOp:=⟨k,(k+1),(k+2),(k+3)⟩
def GOp.ct(x:GOp):Nat:=4
def GState.mkd(x:GState)(k:Int):GState:=⟨k,(mkL iMk iCt x.Regs (k+1)),(mkL iMk iCt x.Slots ((k+1)+(ctL iCt x.Regs:Nat))),(mkL iMk iCt x.Nodes (((k+1)+(ctL iCt x.Regs:Nat))+(ctL iCt x.Slots:Nat)))⟩
def GState.ct(x:GState):Nat:=1+ctL iCt x.Regs+ctL iCt x.Slots+ctL iCt x.Nodes
theorem GState.ct_le(x:GState):x.ct≤16*(1+x.size):=by
 simp only[GState.ct,GState.size]
 have h0:=ctL_le' (c:=iCt) (fun y=>by simp only[iCt];omega) x.Regs
 have h1:=ctL_le' (c:=iCt) (fun y=>by simp only[iCt];omega) x.Slots
 have h2:=ctL_le' (c:=iCt) (fun y=>by simp only[iCt];omega) x.Nodes
 omega
def GState.mks(x:GState)(k:Int):GState:={x with Regs:=mkL iMk iCt x.Regs (k),Slots:=mkL iMk iCt x.Slots (k+(ctL iCt x.Regs:Nat)),Nodes:=mkL iMk iCt x.Nodes (k+(ctL iCt x.Regs:Nat)+(ctL iCt x.Slots:Nat))}
def GState.cts(x:GState):Nat:=ctL iCt x.Regs+ctL iCt x.Slots+ctL iCt x.Nodes
theorem GState.cts_le(x:GState):x.cts≤16*x.size:=by
 simp only[GState.cts,GState.size]
 have hRegs:=ctL_le' (c:=iCt) (fun y=>by simp only[iCt];omega) x.Regs
 have hSlots:=ctL_le' (c:=iCt) (fun y=>by simp only[iCt];omega) x.Slots
 have hNodes:=ctL_le' (c:=iCt) (fun y=>by simp only[iCt];omega) x.Nodes
 omega
@[go_sem] theorem GState.mks_len0 (x:GState) (k:Int):((x.mks k).Regs).length=x.Regs.length:=Kf
@[go_sem] theorem GState.mks_len1 (x:GState) (k:Int):((x.mks k).Slots).length=x.Slots.length:=Kf
@[go_sem] theorem GState.mks_len2 (x:GState) (k:Int):((x.mks k).Nodes).length=x.Nodes.length:=Kf
def GWant.mkd(x:GWant)(k:Int):GWant:=⟨k,⟨(k+1),(k+2),(k+3)⟩⟩
def GWant.ct(x:GWant):Nat:=4
def GEntry.mkd(x:GEntry)(k:Int):GEntry:=⟨k,⟨(k+1),(k+2),(k+3)⟩,(k+4)⟩
def GEntry.ct(x:GEntry):Nat:=5
def GCapture.mkd(x:GCapture)(k:Int):GCapture:=⟨⟨k,(k+1),(k+2)⟩,(k+3),⟨(k+4),(mkL iMk iCt x.Resource.Body (k+5)),⟨((k+5)+(ctL iCt x.Resource.Body:Nat)),(((k+5)+(ctL iCt x.Resource.Body:Nat))+1),(((k+5)+(ctL iCt x.Resource.Body:Nat))+2)⟩⟩⟩
def GCapture.ct(x:GCapture):Nat:=8+ctL iCt x.Resource.Body
theorem GCapture.ct_le(x:GCapture):x.ct≤16*(1+x.size):=by
 simp only[GCapture.ct,GCapture.size,GResource.size]
 have h0:=ctL_le' (c:=iCt) (fun y=>by simp only[iCt];omega) x.Resource.Body
 omega
def GCapture.mks(x:GCapture)(k:Int):GCapture:={x with Resource:=x.Resource.mks (k)}
def GCapture.cts(x:GCapture):Nat:=x.Resource.cts
theorem GCapture.cts_le(x:GCapture):x.cts≤16*x.size:=by
 simp only[GCapture.cts,GCapture.size]
 have hResource:=GResource.cts_le x.Resource
 omega
@[go_sem] theorem GCapture.mks_len0 (x:GCapture) (k:Int):((x.mks k).Resource.Body).length=x.Resource.Body.length:=Kf
def GChoice.mkd(x:GChoice)(k:Int):GChoice:=⟨k,(k+1)⟩
def GChoice.ct(x:GChoice):Nat:=2
def GWander.mks(x:GWander)(k:Int):GWander:={x with State:=x.State.mks (k),Choices:=mkL GChoice.mkd GChoice.ct x.Choices (k+(x.State.cts:Nat)),Labels:=mkL iMk iCt x.Labels (k+(x.State.cts:Nat)+(ctL GChoice.ct x.Choices:Nat))}
def GWander.cts(x:GWander):Nat:=x.State.cts+ctL GChoice.ct x.Choices+ctL iCt x.Labels
theorem GWander.cts_le(x:GWander):x.cts≤16*x.size:=by
 simp only[GWander.cts,GWander.size]
 have hState:=GState.cts_le x.State
 have hChoices:=ctL_le' (c:=GChoice.ct) (fun y=>by simp only[GChoice.ct];omega) x.Choices
 have hLabels:=ctL_le' (c:=iCt) (fun y=>by simp only[iCt];omega) x.Labels
 omega
@[go_sem] theorem GWander.mks_len0 (x:GWander) (k:Int):((x.mks k).State.Regs).length=x.State.Regs.length:=Kf
@[go_sem] theorem GWander.mks_len1 (x:GWander) (k:Int):((x.mks k).State.Slots).length=x.State.Slots.length:=Kf
@[go_sem] theorem GWander.mks_len2 (x:GWander) (k:Int):((x.mks k).State.Nodes).length=x.State.Nodes.length:=Kf
@[go_sem] theorem GWander.mks_len3 (x:GWander) (k:Int):((x.mks k).Choices).length=x.Choices.length:=Kf
@[go_sem] theorem GWander.mks_len4 (x:GWander) (k:Int):((x.mks k).Labels).length=x.Labels.length:=Kf
def GModel.mkd(x:GModel)(k:Int):GModel:=⟨k,(k+1),(k+2),(bMk x.Fits (k+3))⟩
def GModel.ct(x:GModel):Nat:=4
def GShown.mkd(x:GShown)(k:Int):GShown:=⟨k,⟨(k+1),(k+2),(k+3)⟩⟩
def GShown.ct(x:GShown):Nat:=4
def GLeaf.mkd(x:GLeaf)(k:Int):GLeaf:=⟨k,(k+1),(bMk x.Hidden (k+2)),(k+3)⟩
def GLeaf.ct(x:GLeaf):Nat:=4
def GEdition.mks(x:GEdition)(k:Int):GEdition:={x with Captures:=mkL GCapture.mkd GCapture.ct x.Captures (k),Hidden:=mkL GAddress.mkd GAddress.ct x.Hidden (k+(ctL GCapture.ct x.Captures:Nat))}
def GEdition.cts(x:GEdition):Nat:=ctL GCapture.ct x.Captures+ctL GAddress.ct x.Hidden
theorem GEdition.cts_le(x:GEdition):x.cts≤16*x.size:=by
 simp only[GEdition.cts,GEdition.size]
 have hCaptures:=K4c (c:=GCapture.ct) (s:=GCapture.size) GCapture.ct_le x.Captures
 have hHidden:=ctL_le' (c:=GAddress.ct) (fun y=>by simp only[GAddress.ct];omega) x.Hidden
 omega
@[go_sem] theorem GEdition.mks_len0 (x:GEdition) (k:Int):((x.mks k).Captures).length=x.Captures.length:=Kf
@[go_sem] theorem GEdition.mks_len1 (x:GEdition) (k:Int):((x.mks k).Hidden).length=x.Hidden.length:=Kf
def GExclusion.mkd(x:GExclusion)(k:Int):GExclusion:=⟨k,(k+1),(k+2),(k+3),(k+4)⟩
def GExclusion.ct(x:GExclusion):Nat:=5
def GStatement.mkd(x:GStatement)(k:Int):GStatement:=⟨k,(k+1),(k+2),(k+3)⟩
def GStatement.ct(x:GStatement):Nat:=4
def GLibrary.mkd(x:GLibrary)(k:Int):GLibrary:=⟨k,(mkL iMk iCt x.Digests (k+1)),(bMk x.Up ((k+1)+(ctL iCt x.Digests:Nat))),(bMk x.Lies (((k+1)+(ctL iCt x.Digests:Nat))+1))⟩
def GLibrary.ct(x:GLibrary):Nat:=3+ctL iCt x.Digests
theorem GLibrary.ct_le(x:GLibrary):x.ct≤16*(1+x.size):=by
 simp only[GLibrary.ct,GLibrary.size]
 have h0:=ctL_le' (c:=iCt) (fun y=>by simp only[iCt];omega) x.Digests
 omega
def GLibrary.mks(x:GLibrary)(k:Int):GLibrary:={x with Digests:=mkL iMk iCt x.Digests (k)}
def GLibrary.cts(x:GLibrary):Nat:=ctL iCt x.Digests
theorem GLibrary.cts_le(x:GLibrary):x.cts≤16*x.size:=by
 simp only[GLibrary.cts,GLibrary.size]
 have hDigests:=ctL_le' (c:=iCt) (fun y=>by simp only[iCt];omega) x.Digests
 omega
@[go_sem] theorem GLibrary.mks_len0 (x:GLibrary) (k:Int):((x.mks k).Digests).length=x.Digests.length:=Kf
def GContainer.mkd(x:GContainer)(k:Int):GContainer:=⟨(mkL GOp.mkd GOp.ct x.Script k),(mkL GEntry.mkd GEntry.ct x.Entries (k+(ctL GOp.ct x.Script:Nat))),(mkL GCapture.mkd GCapture.ct x.Captures ((k+(ctL GOp.ct x.Script:Nat))+(ctL GEntry.ct x.Entries:Nat))),(((k+(ctL GOp.ct x.Script:Nat))+(ctL GEntry.ct x.Entries:Nat))+(ctL GCapture.ct x.Captures:Nat))⟩
def GContainer.ct(x:GContainer):Nat:=1+ctL GOp.ct x.Script+ctL GEntry.ct x.Entries+ctL GCapture.ct x.Captures
theorem GContainer.ct_le(x:GContainer):x.ct≤16*(1+x.size):=by
 simp only[GContainer.ct,GContainer.size]
 have h0:=ctL_le' (c:=GOp.ct) (fun y=>by simp only[GOp.ct];omega) x.Script
 have h1:=ctL_le' (c:=GEntry.ct) (fun y=>by simp only[GEntry.ct];omega) x.Entries
 have h2:=K4c (c:=GCapture.ct) (s:=GCapture.size) GCapture.ct_le x.Captures
 omega
def GContainer.mks(x:GContainer)(k:Int):GContainer:={x with Script:=mkL GOp.mkd GOp.ct x.Script (k),Entries:=mkL GEntry.mkd GEntry.ct x.Entries (k+(ctL GOp.ct x.Script:Nat)),Captures:=mkL GCapture.mkd GCapture.ct x.Captures (k+(ctL GOp.ct x.Script:Nat)+(ctL GEntry.ct x.Entries:Nat))}
def GContainer.cts(x:GContainer):Nat:=ctL GOp.ct x.Script+ctL GEntry.ct x.Entries+ctL GCapture.ct x.Captures
theorem GContainer.cts_le(x:GContainer):x.cts≤16*x.size:=by
 simp only[GContainer.cts,GContainer.size]
 have hScript:=ctL_le' (c:=GOp.ct) (fun y=>by simp only[GOp.ct];omega) x.Script
 have hEntries:=ctL_le' (c:=GEntry.ct) (fun y=>by simp only[GEntry.ct];omega) x.Entries
 have hCaptures:=K4c (c:=GCapture.ct) (s:=GCapture.size) GCapture.ct_le x.Captures
 omega
@[go_sem] theorem GContainer.mks_len0 (x:GContainer) (k:Int):((x.mks k).Script).length=x.Script.length:=Kf
@[go_sem] theorem GContainer.mks_len1 (x:GContainer) (k:Int):((x.mks k).Entries).length=x.Entries.length:=Kf
@[go_sem] theorem GContainer.mks_len2 (x:GContainer) (k:Int):((x.mks k).Captures).length=x.Captures.length:=Kf
def GFound.mkd(x:GFound)(k:Int):GFound:=⟨⟨k,(k+1),(k+2)⟩,(k+3),(k+4),(k+5)⟩
def GFound.ct(x:GFound):Nat:=6
def GDisk.mks(x:GDisk)(k:Int):GDisk:={x with Containers:=mkL GContainer.mkd GContainer.ct x.Containers (k),Index:=mkL GFound.mkd GFound.ct x.Index (k+(ctL GContainer.ct x.Containers:Nat)),Wanted:=mkL GContainer.mkd GContainer.ct x.Wanted (k+(ctL GContainer.ct x.Containers:Nat)+(ctL GFound.ct x.Index:Nat))}
def GDisk.cts(x:GDisk):Nat:=ctL GContainer.ct x.Containers+ctL GFound.ct x.Index+ctL GContainer.ct x.Wanted
theorem GDisk.cts_le(x:GDisk):x.cts≤16*x.size:=by
 simp only[GDisk.cts,GDisk.size]
 have hContainers:=K4c (c:=GContainer.ct) (s:=GContainer.size) GContainer.ct_le x.Containers
 have hIndex:=ctL_le' (c:=GFound.ct) (fun y=>by simp only[GFound.ct];omega) x.Index
 have hWanted:=K4c (c:=GContainer.ct) (s:=GContainer.size) GContainer.ct_le x.Wanted
 omega
@[go_sem] theorem GDisk.mks_len0 (x:GDisk) (k:Int):((x.mks k).Containers).length=x.Containers.length:=Kf
@[go_sem] theorem GDisk.mks_len1 (x:GDisk) (k:Int):((x.mks k).Index).length=x.Index.length:=Kf
@[go_sem] theorem GDisk.mks_len2 (x:GDisk) (k:Int):((x.mks k).Wanted).length=x.Wanted.length:=Kf
def GArchive.mks(x:GArchive)(k:Int):GArchive:={x with Site:=mkL GVersion.mkd GVersion.ct x.Site (k),Script:=mkL GOp.mkd GOp.ct x.Script (k+(ctL GVersion.ct x.Site:Nat)),Disk:=x.Disk.mks (k+(ctL GVersion.ct x.Site:Nat)+(ctL GOp.ct x.Script:Nat)),Exclusions:=mkL GExclusion.mkd GExclusion.ct x.Exclusions (k+(ctL GVersion.ct x.Site:Nat)+(ctL GOp.ct x.Script:Nat)+(x.Disk.cts:Nat)),Libraries:=mkL GLibrary.mkd GLibrary.ct x.Libraries (k+(ctL GVersion.ct x.Site:Nat)+(ctL GOp.ct x.Script:Nat)+(x.Disk.cts:Nat)+(ctL GExclusion.ct x.Exclusions:Nat)),Keys:=mkL iMk iCt x.Keys (k+(ctL GVersion.ct x.Site:Nat)+(ctL GOp.ct x.Script:Nat)+(x.Disk.cts:Nat)+(ctL GExclusion.ct x.Exclusions:Nat)+(ctL GLibrary.ct x.Libraries:Nat)),Statements:=mkL GStatement.mkd GStatement.ct x.Statements (k+(ctL GVersion.ct x.Site:Nat)+(ctL GOp.ct x.Script:Nat)+(x.Disk.cts:Nat)+(ctL GExclusion.ct x.Exclusions:Nat)+(ctL GLibrary.ct x.Libraries:Nat)+(ctL iCt x.Keys:Nat))}
def GArchive.cts(x:GArchive):Nat:=ctL GVersion.ct x.Site+ctL GOp.ct x.Script+x.Disk.cts+ctL GExclusion.ct x.Exclusions+ctL GLibrary.ct x.Libraries+ctL iCt x.Keys+ctL GStatement.ct x.Statements
theorem GArchive.cts_le(x:GArchive):x.cts≤16*x.size:=by
 simp only[GArchive.cts,GArchive.size]
 have hSite:=K4c (c:=GVersion.ct) (s:=GVersion.size) GVersion.ct_le x.Site
 have hScript:=ctL_le' (c:=GOp.ct) (fun y=>by simp only[GOp.ct];omega) x.Script
 have hDisk:=GDisk.cts_le x.Disk
 have hExclusions:=ctL_le' (c:=GExclusion.ct) (fun y=>by simp only[GExclusion.ct];omega) x.Exclusions
 have hLibraries:=K4c (c:=GLibrary.ct) (s:=GLibrary.size) GLibrary.ct_le x.Libraries
 have hKeys:=ctL_le' (c:=iCt) (fun y=>by simp only[iCt];omega) x.Keys
 have hStatements:=ctL_le' (c:=GStatement.ct) (fun y=>by simp only[GStatement.ct];omega) x.Statements
 omega
@[go_sem] theorem GArchive.mks_len0 (x:GArchive) (k:Int):((x.mks k).Site).length=x.Site.length:=Kf
@[go_sem] theorem GArchive.mks_len1 (x:GArchive) (k:Int):((x.mks k).Script).length=x.Script.length:=Kf
@[go_sem] theorem GArchive.mks_len2 (x:GArchive) (k:Int):((x.mks k).Disk.Containers).length=x.Disk.Containers.length:=Kf
@[go_sem] theorem GArchive.mks_len3 (x:GArchive) (k:Int):((x.mks k).Disk.Index).length=x.Disk.Index.length:=Kf
@[go_sem] theorem GArchive.mks_len4 (x:GArchive) (k:Int):((x.mks k).Disk.Wanted).length=x.Disk.Wanted.length:=Kf
@[go_sem] theorem GArchive.mks_len5 (x:GArchive) (k:Int):((x.mks k).Exclusions).length=x.Exclusions.length:=Kf
@[go_sem] theorem GArchive.mks_len6 (x:GArchive) (k:Int):((x.mks k).Libraries).length=x.Libraries.length:=Kf
@[go_sem] theorem GArchive.mks_len7 (x:GArchive) (k:Int):((x.mks k).Keys).length=x.Keys.length:=Kf
@[go_sem] theorem GArchive.mks_len8 (x:GArchive) (k:Int):((x.mks k).Statements).length=x.Statements.length:=Kf
def GChange.mkd(x:GChange)(k:Int):GChange:=⟨k,(k+1)⟩
def GChange.ct(x:GChange):Nat:=2
def GPlayed.mks(x:GPlayed)(k:Int):GPlayed:={x with State:=x.State.mks (k)}
def GPlayed.cts(x:GPlayed):Nat:=x.State.cts
theorem GPlayed.cts_le(x:GPlayed):x.cts≤16*x.size:=by
 simp only[GPlayed.cts,GPlayed.size]
 have hState:=GState.cts_le x.State
 omega
@[go_sem] theorem GPlayed.mks_len0 (x:GPlayed) (k:Int):((x.mks k).State.Regs).length=x.State.Regs.length:=Kf
@[go_sem] theorem GPlayed.mks_len1 (x:GPlayed) (k:Int):((x.mks k).State.Slots).length=x.State.Slots.length:=Kf
@[go_sem] theorem GPlayed.mks_len2 (x:GPlayed) (k:Int):((x.mks k).State.Nodes).length=x.State.Nodes.length:=Kf
end Go.Proofs.YtjneccbpkckdfaaGreatR
namespace Go.Proofs.YtjneccbpkckdfaaGreatR
namespace Srt
structure Swo {α:Type} (lt:α→α→Bool):Prop where
 asy:∀x y,lt x y=true→lt y x=false
 neg:∀x y z,lt x z=true→lt x y=true∨lt y z=true
variable {α:Type} {lt:α→α→Bool}
theorem Swo.tr(h:Swo lt){x y z:α}(h1:lt x y=true)(h2:lt y z=true):lt x z=true:=by
 rcases h.neg x z y h1 with k|k
 ·exact k
 ·rw[h.asy y z h2]at k;cases k
theorem Swo.ntr(h:Swo lt){x y z:α}(h1:lt x y=false)(h2:lt y z=false):lt x z=false:=by
 cases k:lt x z
 ·rfl
 ·rcases h.neg x y z k with k|k<;>simp_all
theorem Swo.irr(h:Swo lt)(x:α):lt x x=false:=by
 cases k:lt x x
 ·rfl
 ·have:=h.asy x x k;simp_all
theorem Swo.lf(h:Swo lt){x y z:α}(h1:lt x y=true)(h2:lt z y=false):lt x z=true:=by
 rcases h.neg x z y h1 with k|k<;>simp_all
theorem Swo.fl(h:Swo lt){x y z:α}(h1:lt y x=false)(h2:lt y z=true):lt x z=true:=by
 rcases h.neg y x z h2 with k|k<;>simp_all
variable (lt)
def ins(x:α):List α→List α
 | []=>[x]
 |z::zs=>if lt x z then x::z::zs else z::ins x zs
def mrg(A B:List α):List α:=B.foldl (fun acc x=>ins lt x acc) A
def isort(l:List α):List α:=mrg lt [] l
def srt(l:List α):Prop:=l.Pairwise fun x y=>lt y x=false
variable {lt}
theorem K9a{x y:α}:∀ {l:List α},y∈ins lt x l↔y=x∨y∈l
 | []=>by simp[ins]
 |z::zs=>by
  simp only[ins]
  split
  ·simp
  ·rw[List.mem_cons,K9a,List.mem_cons]
   constructor<;>rintro (h|h|h)<;>simp[h]
theorem len_ins{x:α}:∀ {l:List α},(ins lt x l).length=l.length+1
 | []=>rfl
 |z::zs=>by
  simp only[ins]
  split
  ·rfl
  ·simp[len_ins]
theorem mrg_nil{A:List α}:mrg lt A []=A:=rfl
theorem K2c{A B:List α}{x:α}:mrg lt A (x::B)=mrg lt (ins lt x A) B:=rfl
theorem K32{A B C:List α}:mrg lt A (B++C)=mrg lt (mrg lt A B) C:=List.foldl_append
theorem mem_mrg{y:α}:∀ {B A:List α},y∈mrg lt A B↔y∈A∨y∈B
 | [],A=>by simp[mrg_nil]
 |x::B,A=>by
  rw[K2c,mem_mrg,K9a,List.mem_cons]
  exact⟨fun h=>h.elim (fun h=>h.elim (fun h=> .inr (.inl h)) .inl) (fun h=> .inr (.inr h)),fun h=>h.elim (fun h=> .inl (.inr h)) (fun h=>h.elim (fun h=> .inl (.inl h)) .inr)⟩
theorem len_mrg:∀ {B A:List α},(mrg lt A B).length=A.length+B.length
 | [],A=>rfl
 |x::B,A=>by
  rw[K2c,len_mrg,len_ins,List.length_cons];omega
theorem len_isort{l:List α}:(isort lt l).length=l.length:=by
 unfold isort;rw[len_mrg];simp
theorem Kal(h:Swo lt){x y:α}(hxy:lt x y=true):∀(A:List α),ins lt y (ins lt x A)=ins lt x (ins lt y A)
 | []=>by simp[ins,hxy,h.asy x y hxy]
 |z::zs=>by
  cases k1:lt x z<;>cases k2:lt y z
  ·simp[ins,k1,k2,Kal h hxy zs]
  ·rw[h.tr hxy k2]at k1;cases k1
  ·simp[ins,k1,k2,h.asy x y hxy]
  ·simp[ins,k1,k2,hxy,h.asy x y hxy]
theorem Kar(h:Swo lt){x:α}:∀ {s A:List α},(∀y∈s,lt x y=true)→mrg lt (ins lt x A) s=ins lt x (mrg lt A s)
 | [],A,_=>rfl
 |y::s,A,hs=>by
  rw[K2c,Kal h (hs y (by simp)),Kar h (fun z hz=>hs z (by simp[hz])),K2c]
theorem K6c{x:α}{l:List α}:srt lt (x::l)↔(∀y∈l,lt y x=false)∧srt lt l:=List.pairwise_cons
theorem srt_append{A B:List α}:srt lt (A++B)↔srt lt A∧srt lt B∧∀a∈A,∀b∈B,lt b a=false:=List.pairwise_append
theorem srt_ins(h:Swo lt){x:α}:∀ {l:List α},srt lt l→srt lt (ins lt x l)
 | [],_=>by simp[ins,srt]
 |z::zs,hs=>by
  obtain⟨h1,h2⟩:=K6c.1 hs
  simp only[ins]
  split
  ·rename_i k
   refine K6c.2 ⟨fun y hy=>?_,hs⟩
   rcases List.mem_cons.1 hy with rfl|hy
   ·exact h.asy _ _ k
   ·exact h.ntr (h1 y hy) (h.asy _ _ k)
  ·rename_i k
   refine K6c.2 ⟨fun y hy=>?_,srt_ins h h2⟩
   rcases K9a.1 hy with rfl|hy
   ·simpa using k
   ·exact h1 y hy
theorem srt_mrg(h:Swo lt):∀ {B A:List α},srt lt A→srt lt (mrg lt A B)
 | [],A,hA=>hA
 |x::B,A,hA=>srt_mrg h (B:=B) (srt_ins h hA)
theorem srt_isort(h:Swo lt)(l:List α):srt lt (isort lt l):=srt_mrg h List.Pairwise.nil
theorem K9v(h:Swo lt){x:α}:∀ {l:List α},srt lt l→∃s t,l=s++t∧ins lt x l=s++x::t∧∀y∈t,lt x y=true
 | [],_=>⟨[],[],rfl,rfl,by simp⟩
 |z::zs,hs=>by
  obtain⟨h1,h2⟩:=K6c.1 hs
  cases k:lt x z
  ·obtain⟨s,t,e,e2,h3⟩:=K9v h (x:=x) h2
   exact⟨z::s,t,by simp[e],by simp[ins,k,e2],h3⟩
  ·refine⟨[],z::zs,rfl,by simp[ins,k],fun y hy=>?_⟩
   rcases List.mem_cons.1 hy with rfl|hy
   ·exact k
   ·exact h.lf k (h1 y hy)
theorem mrg_ins(h:Swo lt){x:α}{A s:List α}(hs:srt lt s):mrg lt A (ins lt x s)=ins lt x (mrg lt A s):=by
 obtain⟨s1,s2,rfl,e,h2⟩:=K9v h (x:=x) hs
 rw[e,K32,K2c,Kar h h2,K32]
theorem isort_snoc{l:List α}{x:α}:isort lt (l++[x])=ins lt x (isort lt l):=by
 unfold isort;rw[K32];rfl
theorem mrg_isort(h:Swo lt){A:List α}(r:List α):mrg lt A (isort lt r)=mrg lt A r:=by
 suffices H:∀(n:Nat) (r:List α),r.length=n→mrg lt A (isort lt r)=mrg lt A r from H _ r rfl
 intro n
 induction n with
 |zero=>intro r hr;obtain rfl:=List.length_eq_zero_iff.1 hr;rfl
 |succ n ih=>
  intro r hr
  rcases List.eq_nil_or_concat r with rfl|⟨s,x,rfl⟩
  ·rfl
  ·rw[List.concat_eq_append]at*
   rw[isort_snoc,mrg_ins h (srt_isort h s),ih s (by simpa using hr),K32];rfl
theorem K6w(h:Swo lt)(l r:List α):isort lt (l++r)=mrg lt (isort lt l) (isort lt r):=by
 rw[mrg_isort h];unfold isort;rw[K32]
theorem Kam{b:α}{A2:List α}(h:∀a∈A2.head?,lt b a=true):∀(A1:List α),ins lt b (A1++A2)=ins lt b A1++A2
 | []=>by
  cases A2 with
  |nil=>rfl
  |cons z zs=>simp[ins,h z (by simp)]
 |z::zs=>by
  simp only[List.cons_append,ins]
  split
  ·rfl
  ·rw[Kam h zs,List.cons_append]
theorem K6v{b:α}{A2:List α}:∀ {A1:List α},(∀a∈A1,lt b a=false)→ins lt b (A1++A2)=A1++ins lt b A2
 | [],_=>rfl
 |z::zs,h=>by
  simp only[List.cons_append,ins,h z (by simp),K6v (A1:=zs) (fun a ha=>h a (by simp[ha]))]
  rfl
theorem ins_mid{x:α}{s t:List α}(h1:∀a∈s,lt x a=false)(h2:∀a∈t.head?,lt x a=true):ins lt x (s++t)=s++x::t:=by
 rw[K6v h1]
 cases t with
 |nil=>rfl
 |cons z zs=>simp[ins,h2 z (by simp)]
theorem Kaq{A2:List α}:∀ {B A1:List α},(∀b∈B,∀a∈A2.head?,lt b a=true)→mrg lt (A1++A2) B=mrg lt A1 B++A2
 | [],_,_=>rfl
 |b::B,A1,h=>by
  rw[K2c,Kam (h b (by simp)),Kaq (fun b hb=>h b (by simp[hb])),K2c]
theorem K70{A1:List α}:∀ {B A2:List α},(∀b∈B,∀a∈A1,lt b a=false)→mrg lt (A1++A2) B=A1++mrg lt A2 B
 | [],_,_=>rfl
 |b::B,A2,h=>by
  rw[K2c,K6v (h b (by simp)),K70 (fun b hb=>h b (by simp[hb])),K2c]
theorem mrg_nil_srt(h:Swo lt){l:List α}(hs:srt lt l):mrg lt [] l=l:=by
 suffices H:∀(l A:List α),srt lt (A++l)→mrg lt A l=A++l from H l [] (by simpa using hs)
 intro l
 induction l with
 |nil=>intro A _;simp[mrg_nil]
 |cons x l ih=>
  intro A hA
  have:=srt_append.1 hA
  rw[K2c,show ins lt x A=A++[x]from by
   have:=ins_mid (lt:=lt) (x:=x) (s:=A) (t:=[]) (fun a ha=>(srt_append.1 hA).2.2 a ha x (by simp)) (by simp)
   simpa using this,ih (A++[x]) (by simpa using hA)]
  simp
theorem K9x{A1 A2 B1 B2:List α}(h1:∀b∈B1,∀a∈A2.head?,lt b a=true)(h2:∀b∈B2,∀a∈A1,lt b a=false)(h3:∀b∈B2,∀a∈B1,lt b a=false):mrg lt (A1++A2) (B1++B2)=mrg lt A1 B1++mrg lt A2 B2:=by
 rw[K32,Kaq h1,K70]
 intro b hb a ha
 rcases mem_mrg.1 ha with k|k
 ·exact h2 b hb a k
 ·exact h3 b hb a k
def blk(lt:α→α→Bool)(s:Nat)(l:List α):List α:=
 if h:s=0∨l.length≤s then isort lt l else isort lt (l.take s)++blk lt s (l.drop s)
termination_by l.length
decreasing_by
 simp only[List.length_drop]
 omega
end Srt
end Go.Proofs.YtjneccbpkckdfaaGreatR
namespace Go.Proofs.YtjneccbpkckdfaaGreatR
open Go Go.RowKit Go.Proofs
open Nat (reduceEqDiff reduceLT reduceLeDiff reduceAdd reduceMul)
open List (reduceReplicate)
abbrev fI(f:FuncId):RV:=⟨false,[(false,.fn f [])]⟩
attribute [go_sem] fI
def two(A:List (List T))(e:List T)(B:List (List T))(e':List T)(C:List (List T)):List (List T):=A++e::(B++e'::C)
theorem K8z{A B C:List (List T)}{p q:Nat}(hp:A.length=p)(hq:p+1+B.length=q):
  (∀e e',(two A e B e' C)[p]? =some e)∧(∀e e',(two A e B e' C)[q]? =some e')∧
  (∀e e' u,(two A e B e' C).set p u=two A u B e' C)∧(∀e e' u,(two A e B e' C).set q u=two A e B u C)∧
  (∀e e',(two A e B e' C).length=A.length+B.length+C.length+2)∧
  (∀e e',(two A e B e' C).getD p []=e)∧(∀e e',(two A e B e' C).getD q []=e'):=by
 subst hp hq
 have h1:∀e e',(two A e B e' C)[A.length]? =some e:=fun e e'=>by simp[two]
 have h2:∀e e',(two A e B e' C)[A.length+1+B.length]? =some e':=fun e e'=>by
  unfold two
  rw[List.getElem?_append_right (by omega),show A.length+1+B.length-A.length=B.length+1 by omega,List.getElem?_cons_succ,List.getElem?_append_right (by omega),Nat.sub_self]
  rfl
 refine⟨h1,h2,fun e e' u=>by simp[two],fun e e' u=>?_,fun e e'=>by simp[two];omega,fun e e'=>by rw[List.getD_eq_getElem?_getD,h1];rfl,fun e e'=>by rw[List.getD_eq_getElem?_getD,h2];rfl⟩
 unfold two
 rw[List.set_append_right _ _ (by omega),show A.length+1+B.length-A.length=B.length+1 by omega,List.set_cons_succ,List.set_append_right _ _ (by omega),Nat.sub_self]
 rfl
def swp{α:Type}(P X M Y Q:List α)(i:Nat):List α:=(P++Y.take i)++(X.drop i++M++X.take i)++(Y.drop i++Q)
theorem swp_len{α:Type}{P X M Y Q:List α}{i:Nat}(h:X.length=Y.length):(swp P X M Y Q i).length=(P++X++M++Y++Q).length:=by
 simp[swp,List.length_take,List.length_drop];omega
theorem swp_two{α:Type}{P X M Y Q:List α}{i:Nat}{x y:α}{f:α→List T}(hx:X[i]? =some x)(hy:Y[i]? =some y):
  (swp P X M Y Q i).map f=two ((P++Y.take i).map f) (f x) ((X.drop (i+1)++M++X.take i).map f) (f y) ((Y.drop (i+1)++Q).map f)∧
  (swp P X M Y Q (i+1)).map f=two ((P++Y.take i).map f) (f y) ((X.drop (i+1)++M++X.take i).map f) (f x) ((Y.drop (i+1)++Q).map f):=by
 constructor
 ·simp[swp,two,K26 hx,K26 hy]
 ·simp[swp,two,Kk hx,Kk hy]
theorem wN{a b:Nat}(h:a+b≤9223372036854775807):IntKind.i64.wrap ((a:Int)+(b:Int))=((a+b:Nat):Int):=by
 rw[wI (by omega) (by omega)];omega
theorem wN1{a:Nat}(h:a+1≤9223372036854775807):IntKind.i64.wrap ((a:Int)+1)=((a+1:Nat):Int):=by
 rw[wI (by omega) (by omega)];omega
theorem wS{a b:Nat}(h:b≤a)(h2:a≤9223372036854775807):IntKind.i64.wrap ((a:Int)-(b:Int))=((a-b:Nat):Int):=by
 rw[wI (by omega) (by omega)];omega
theorem wS1{a:Nat}(h:1≤a)(h2:a≤9223372036854775807):IntKind.i64.wrap ((a:Int)-1)=((a-1:Nat):Int):=by
 rw[wI (by omega) (by omega)];omega
def Mr:MC:=
(Zs [.mv 10 (ci 0)] [0,1,2,3,10] (.block 0 (.loop ([0,1,2,3,10],[]) (.seq (Zs [mS 11 10,mS 12 3,bS 13 .lss 11 12] [0,1,2,3,10,13] (cX 13 0))
(.seq (.block 1 (.dreg [Zc [17,18,19,20,21,22,23,24,25,26,27,28,29,30,31,32,33,34,35] (mS 16 0),Zc [16,18,20,21,22,23,24,25,26,27,28,29,30,31,32,33,34,35] (mS 17 1),Zc [16,17,20,21,22,23,24,25,26,27,28,29,30,31,32,33,34,35] (mS 18 10),Zd [16,20,21,22,23,24,25,26,27,28,29,30,31,32,33,34,35] [1,2] (bS 19 .add 17 18),Zf [16,17,18,19,21,22,23,24,25,26,27,28,29,30,31,32,33,34,35,36] [0] (mS 20 0),Zf [16,17,18,19,20,22,24,25,26,27,28,29,30,31,32,33,34,35,36] [0] (mS 21 2),Zf [16,17,18,19,20,21,24,25,26,27,28,29,30,31,32,33,34,35,36] [0] (mS 22 10),Zg [16,17,18,19,20,24,25,26,27,28,29,30,31,32,33,34,35,36] [0] [5,6] (bS 23 .add 21 22),Zc [16,17,18,19,20,21,22,23,25,26,27,30,31,32,33,34,35] (mS 24 0),Zc [16,17,18,19,20,21,22,23,24,26,30,31,32,33,34,35] (mS 25 2),Zc [16,17,18,19,20,21,22,23,24,25,30,31,32,33,34,35] (mS 26 10),Zd [16,17,18,19,20,21,22,23,24,30,31,32,33,34,35] [9,10] (bS 27 .add 25 26),Zd [16,17,18,19,20,21,22,23,30,31,32,33,34,35] [8,9,10,11] (xS 28 6 24 27),Zd [16,17,18,19,20,21,22,23,30,31,32,33,34,35] [8,9,10,11,12] (lT 29 6 28),Zc [16,17,18,19,20,21,22,23,24,25,26,27,28,29,31,32,33] (mS 30 0),Zc [16,17,18,19,20,21,22,23,24,25,26,27,28,29,30,32] (mS 31 1),Zc [16,17,18,19,20,21,22,23,24,25,26,27,28,29,30,31] (mS 32 10),Zd [16,17,18,19,20,21,22,23,24,25,26,27,28,29,30] [15,16] (bS 33 .add 31 32),Zd [16,17,18,19,20,21,22,23,24,25,26,27,28,29] [14,15,16,17] (xS 34 6 30 33),Zd [16,17,18,19,20,21,22,23,24,25,26,27,28,29] [14,15,16,17,18] (lT 35 6 34),Zd [20,21,22,23] [0,1,2,3,8,9,10,11,12,13,14,15,16,17,18,19] (xS 36 6 16 19),{o:=sS 6 36 29,hs:=[20,21,22,23],ws:=[0],bf:=[0,1,2,3,8,9,10,11,12,13,14,15,16,17,18,19,20]},Ze (.range 22) (xS 37 6 20 23),{o:=sS 6 37 35,ws:=[0],bf:=(.range 23)}] [0,1,2,3,10]))
(pr [mS 14 10,bC 15 .add 14 1,mS 10 15] [0,1,2,3,10]))))))
theorem Cy(P X M Y Q:List GFound)(f:FuncId){a b n:Nat}(ha:P.length=a)(hb:(P++X++M).length=b)(hX:X.length=n)(hY:Y.length=n):CtrI Tryz.prog N7 [oL 6 ((P++X++M++Y++Q).map GFound.enc),iI a,iI b,iI n,fI f] [some (6,(P++Y++M++X++Q).map GFound.enc)] []:=by
 have hL0:(P++X++M++Y++Q).length=b+n+Q.length:=by rw[List.length_append,List.length_append,hb,hY]
 have hL1:(P++Y++M++X++Q).length=(P++X++M++Y++Q).length:=by simp;omega
 have hb':b=a+n+M.length:=by rw[←hb];simp;omega
 have hsw0:swp P X M Y Q 0=P++X++M++Y++Q:=by simp[swp]
 have hswn:swp P X M Y Q n=P++Y++M++X++Q:=by simp[swp,←hX,List.take_of_length_le (show Y.length≤X.length by omega),List.drop_of_length_le (show Y.length≤X.length by omega)]
 refine K3j (M:=Mr) (m:=0) (n:=38) (res:=[]) hmix Tryz.func387 rfl (by kernel_rfl) rfl (by kernel_rfl) (by kernel_rfl) (Nat.le_of_ble_eq_true rfl) rfl rfl ?_;unfold Mr
 intro hbd
 have hl:=K3m hbd
 clear hbd
 simp only[roomB]at hl
 rw[←hsw0,←hswn]
 rw[←hsw0,←hswn]at hL1
 rw[←hsw0]at hl hL0
 subst hX
 generalize hN:(swp P X M Y Q 0).length=N at*
 simp only[go_sem,hN]
 refine K4 X (fun i=>[(10,vI i)]) (fun i=>[(0,⟨1,.row true 6 ((swp P X M Y Q i).map GFound.enc)⟩)]) (fun _=>True) (by simp only[roomB];omega) ?_
 simp only[go_sem]
 refine⟨?_,trivial,?_,?_⟩
 ·simp only[go_sem]
 ·intro i x hx _ h0 h1 hw
  have hi:=Ka hx
  obtain⟨y,hy⟩:=K7 (show i<Y.length by omega)
  obtain⟨e1,e2⟩:=swp_two (P:=P) (M:=M) (Q:=Q) (f:=GFound.enc) hx hy
  have hlen:=swp_len (P:=P) (X:=X) (M:=M) (Y:=Y) (Q:=Q) (i:=i) hY.symm
  rw[e1,e2]
  generalize hAe:(P++Y.take i).map GFound.enc=A at e1 e2
  generalize hBe:(X.drop (i+1)++M++X.take i).map GFound.enc=B at e1 e2
  generalize hCe:(Y.drop (i+1)++Q).map GFound.enc=C at e1 e2
  have hA:A.length=a+i:=by subst hAe;simp;omega
  have hB:(a+i)+1+B.length=b+i:=by subst hBe;simp;omega
  have hC:C.length=Y.length-(i+1)+Q.length:=by subst hCe;simp
  obtain⟨g1,g2,s1,s2,hL,d1,d2⟩:=K8z (C:=C) hA hB
  have hL':∀e e',(two A e B e' C).length=N:=fun e e'=>by rw[hL];omega
  have k1:(0:Int)≤((a+i:Nat):Int):=by omega
  have k2:((a+i:Nat):Int)<(N:Int):=by omega
  have k3:(0:Int)≤((b+i:Nat):Int):=by omega
  have k4:((b+i:Nat):Int)<(N:Int):=by omega
  have k5:¬b+i=a+i:=by omega
  simp only[go_sem,g1,g2,s1,s2,hL',hw,h1,wN (a:=a) (b:=i) (by omega),wN (a:=b) (b:=i) (by omega),k1,k2,k3,k4]
 ·intro _
  simp only[go_sem]
def RotI(P X Y Q:List GFound)(m:Nat)(d:List GFound)(i j:Nat):Prop:=
 ∃C X' Y' D,d=P++C++X'++Y'++D++Q∧X'.length=i∧Y'.length=j∧P.length+C.length+i=m∧C++Y'++X'++D=Y++X∧0<i∧0<j
theorem RotI.gt{P X Y Q:List GFound}{m:Nat}{d:List GFound}{i j:Nat}(h:RotI P X Y Q m d i j)(hij:j<i):
  ∃P' X1 M Y' Q',d=P'++X1++M++Y'++Q'∧P'.length=m-i∧(P'++X1++M).length=m∧X1.length=j∧Y'.length=j∧RotI P X Y Q m (P'++Y'++M++X1++Q') (i-j) j:=by
 obtain⟨C,X',Y',D,rfl,rfl,rfl,h3,h4,h5,h6⟩:=h
 obtain⟨X1,X2,rfl,hX1⟩:∃X1 X2,X'=X1++X2∧X1.length=Y'.length:=⟨X'.take Y'.length,X'.drop Y'.length,(List.take_append_drop _ _).symm,by simp;omega⟩
 simp only[List.length_append]at*
 exact⟨P++C,X1,X2,Y',D++Q,by simp,by simp;omega,by simp;omega,hX1,rfl,C++Y',X2,X1,D,by simp,by omega,by omega,by simp;omega,by rw[←h4];simp,by omega,by omega⟩
theorem RotI.le{P X Y Q:List GFound}{m:Nat}{d:List GFound}{i j:Nat}(h:RotI P X Y Q m d i j)(hij:i<j):
  ∃P' X' M Y2 Q',d=P'++X'++M++Y2++Q'∧P'.length=m-i∧(P'++X'++M).length=m+j-i∧X'.length=i∧Y2.length=i∧RotI P X Y Q m (P'++Y2++M++X'++Q') i (j-i):=by
 obtain⟨C,X',Y',D,rfl,rfl,rfl,h3,h4,h5,h6⟩:=h
 obtain⟨Y1,Y2,rfl,hY2⟩:∃Y1 Y2,Y'=Y1++Y2∧Y2.length=X'.length:=⟨Y'.take (Y'.length-X'.length),Y'.drop (Y'.length-X'.length),(List.take_append_drop _ _).symm,by simp;omega⟩
 simp only[List.length_append]at*
 exact⟨P++C,X',Y1,Y2,D++Q,by simp,by simp;omega,by simp;omega,rfl,hY2,C,Y2,Y1,X'++D,by simp,by omega,by omega,by omega,by rw[←h4];simp,by omega,by omega⟩
theorem RotI.eq{P X Y Q:List GFound}{m:Nat}{d:List GFound}{i:Nat}(h:RotI P X Y Q m d i i):
  ∃P' X' Y' Q',d=P'++X'++[]++Y'++Q'∧P'.length=m-i∧(P'++X'++[]).length=m∧X'.length=i∧Y'.length=i∧P'++Y'++[]++X'++Q'=P++Y++X++Q:=by
 obtain⟨C,X',Y',D,rfl,rfl,h2,h3,h4,h5,h6⟩:=h
 refine⟨P++C,X',Y',D++Q,by simp,by simp;omega,by simp;omega,rfl,h2,?_⟩
 have:=congrArg (fun l=>P++(l++Q)) h4
 simpa using this
theorem RotI.len{P X Y Q:List GFound}{m:Nat}{d:List GFound}{i j:Nat}(h:RotI P X Y Q m d i j):d.length=(P++X++Y++Q).length∧i≤m∧m+j≤d.length∧0<i∧0<j:=by
 obtain⟨C,X',Y',D,rfl,rfl,rfl,h3,h4,h5,h6⟩:=h
 have:=congrArg List.length h4
 simp at this ⊢
 omega
theorem RotI.start{P X Y Q:List GFound}{m i j:Nat}(hm:P.length+X.length=m)(hi:X.length=i)(hj:Y.length=j)(hX:0<X.length)(hY:0<Y.length):RotI P X Y Q m (P++X++Y++Q) i j:=
 ⟨[],X,Y,[],by simp,hi,hj,by simp;omega,by simp,by omega,by omega⟩
def Mz:MC:=
(Zs [mS 12 2,mS 13 1,bS 14 .sub 12 13,mS 10 14] [0,2,3,4,10] (Zs [mS 15 3,mS 16 2,bS 17 .sub 15 16,mS 11 17] [0,2,4,10,11] (.seq (.block 0 (.loop ([0,2,4,10,11],[]) (.seq (Zs [mS 18 10,mS 19 11,bS 20 .neq 18 19] [0,2,4,10,11,20] (cX 20 0))
(.block 1 (Zs [mS 21 10,mS 22 11,bS 23 .gtr 21 22] [0,2,4,10,11,23] (.cond (.s 23) (Zs [mS 24 0,mS 25 2,mS 26 10,bS 27 .sub 25 26,mS 28 2,mS 29 11,mS 30 4,.callI 31 [] (.f N7) [.s 24,.s 27,.s 28,.s 29,.s 30] [0] []] [0,2,4,10,11] (pr [mS 32 10,mS 33 11,bS 34 .sub 32 33,mS 10 34] [0,2,4,10,11])) (Zs [mS 35 0,mS 36 2,mS 37 10,bS 38 .sub 36 37,mS 39 2,mS 40 11,bS 41 .add 39 40,mS 42 10,bS 43 .sub 41 42,mS 44 10,mS 45 4,.callI 46 [] (.f N7) [.s 35,.s 38,.s 43,.s 44,.s 45] [0] []] [0,2,4,10,11] (pr [mS 47 11,mS 48 10,bS 49 .sub 47 48,mS 11 49] [0,2,4,10,11]))))))))
(pr [mS 50 0,mS 51 2,mS 52 10,bS 53 .sub 51 52,mS 54 2,mS 55 10,mS 56 4,.callI 57 [] (.f N7) [.s 50,.s 53,.s 54,.s 55,.s 56] [0] []] []))))
theorem C6(P X Y Q:List GFound)(f:FuncId){a m b:Nat}(ha:P.length=a)(hm:(P++X).length=m)(hb:(P++X++Y).length=b)(hX:0<X.length)(hY:0<Y.length):CtrI Tryz.prog N11 [oL 6 ((P++X++Y++Q).map GFound.enc),iI a,iI m,iI b,fI f] [some (6,(P++Y++X++Q).map GFound.enc)] []:=by
 refine K3j (M:=Mz) (m:=0) (n:=58) (res:=[]) hmix Tryz.func365 rfl (by kernel_rfl) rfl (by kernel_rfl) (by kernel_rfl) (Nat.le_of_ble_eq_true rfl) rfl rfl ?_;unfold Mz
 intro hbd
 have hl:=K3m hbd
 clear hbd
 have hN2:(P++Y++X++Q).length=(P++X++Y++Q).length:=by simp;omega
 have hm':m=a+X.length:=by rw[←hm,←ha];simp
 have hb':b=m+Y.length:=by rw[←hb,←hm];simp;omega
 have hbN:b≤(P++X++Y++Q).length:=by rw[List.length_append,hb];omega
 generalize hN:(P++X++Y++Q).length=N at*
 simp only[roomB]at hl
 simp only[go_sem,hN,wS (a:=m) (b:=a) (by omega) (by omega),wS (a:=b) (b:=m) (by omega) (by omega)]
 refine Kl (ι:=List GFound×Nat×Nat) (fun s=>[(10,vI s.2.1),(11,vI s.2.2)]) (fun s=>[(0,⟨1,.row true 6 (s.1.map GFound.enc)⟩)]) (fun s=>RotI P X Y Q m s.1 s.2.1 s.2.2) (fun s=>s.2.1+s.2.2) (P++X++Y++Q,m-a,b-m) ?_
 simp only[go_sem]
 refine⟨?_,RotI.start (by omega) (show X.length=m-a by omega) (show Y.length=b-m by omega) hX hY,?_⟩
 ·simp only[go_sem]
 ·rintro ⟨d,i,j⟩ hI
  simp only at hI
  obtain⟨hd,h1,h2,h3,h4⟩:=hI.len
  rw[hN]at hd
  simp only[go_sem,hd]
  refine⟨fun hne=>⟨fun hgt=>?_,fun hle=>?_⟩,fun heq=>?_⟩
  ·obtain⟨P',X1,M,Y',Q',rfl,k1,k2,k3,k4,hR⟩:=hI.gt (by omega)
   have hd2:=hR.len.1
   rw[hN]at hd2
   rw[wS h1 (by omega)]
   apply K6 (Cy P' X1 M Y' Q' f k1 k2 k3 k4)
   simp only[go_sem,wS (a:=i) (b:=j) (by omega) (by omega)]
   exact⟨(_,i-j,j),⟨⟨rfl,rfl⟩,rfl⟩,hR,by show i-j+j<i+j;omega⟩
  ·obtain⟨P',X1,M,Y',Q',rfl,k1,k2,k3,k4,hR⟩:=hI.le (by omega)
   have hd2:=hR.len.1
   rw[hN]at hd2
   rw[wS h1 (by omega),wN (by omega),wS (a:=m+j) (b:=i) (by omega) (by omega)]
   apply K6 (Cy P' X1 M Y' Q' f k1 k2 k3 k4)
   simp only[go_sem,wS (a:=j) (b:=i) (by omega) (by omega)]
   exact⟨(_,i,j-i),⟨⟨rfl,rfl⟩,rfl⟩,hR,by show i+(j-i)<i+j;omega⟩
  ·obtain rfl:i=j:=by omega
   obtain⟨P',X1,Y',Q',rfl,k1,k2,k3,k4,hR⟩:=hI.eq
   rw[wS h1 (by omega)]
   apply K6 (Cy P' X1 [] Y' Q' f k1 k2 k3 k4)
   rw[hR]
   simp only[go_sem]
def ltc(c:GFound→GFound→Int)(x y:GFound):Bool:=decide (c x y<0)
def InsI(lt:GFound→GFound→Bool)(P S R:List GFound)(x:GFound)(d:List GFound)(j:Nat):Prop:=
 ∃s1 s2,d=P++s1++x::s2++R∧P.length+s1.length=j∧s1++s2=S∧∀y∈s2,lt x y=true
theorem InsI.len{lt:GFound→GFound→Bool}{P S R:List GFound}{x:GFound}{d:List GFound}{j:Nat}(h:InsI lt P S R x d j):d.length=P.length+S.length+1+R.length∧P.length≤j∧j≤P.length+S.length:=by
 obtain⟨s1,s2,rfl,rfl,rfl,h⟩:=h
 simp;omega
theorem InsI.done{lt:GFound→GFound→Bool}(hw:Srt.Swo lt){P S R:List GFound}{x:GFound}{d:List GFound}{j:Nat}(h:InsI lt P S R x d j)(hs:Srt.srt lt S)(hj:j=P.length∨∀z∈d[j-1]?,lt x z=false):d=P++Srt.ins lt x S++R:=by
 obtain⟨s1,s2,rfl,rfl,rfl,h⟩:=h
 rw[Srt.ins_mid]
 ·simp
 ·intro y hy
  rcases List.eq_nil_or_concat s1 with rfl|⟨s,z,rfl⟩
  ·simp at hy
  ·rcases hj with hj|hj
   ·simp at hj
   ·rw[List.concat_eq_append]at*
    have hz:lt x z=false:=hj z (by simp[])
    rcases List.mem_append.1 hy with k|k
    ·have:=(Srt.srt_append.1 (Srt.srt_append.1 hs).1).2.2 y k z (by simp)
     exact hw.ntr hz this
    ·obtain rfl:=List.mem_singleton.1 k
     exact hz
 ·intro y hy
  exact h y (List.mem_of_mem_head? hy)
theorem InsI.step{lt:GFound→GFound→Bool}{P S R:List GFound}{x:GFound}{d:List GFound}{j:Nat}(h:InsI lt P S R x d j)(hj:P.length<j):
  ∃A z C,d=A++z::([]++x::C)∧A.length=j-1∧d[j-1]? =some z∧(lt x z=true→InsI lt P S R x (A++x::([]++z::C)) (j-1)):=by
 obtain⟨s1,s2,rfl,rfl,rfl,h⟩:=h
 rcases List.eq_nil_or_concat s1 with rfl|⟨s,z,rfl⟩
 ·simp at hj
 ·rw[List.concat_eq_append]at*
  refine⟨P++s,z,s2++R,by simp,by simp,by simp[],fun hl=>⟨s,z::s2,by simp,by simp,by simp,?_⟩⟩
  intro y hy
  rcases List.mem_cons.1 hy with rfl|k
  ·exact hl
  ·exact h y k
def Ml:MC:=
(Zs [mS 10 1,bC 11 .add 10 1,mS 8 11] [0,1,2,3,8] (.block 0 (.loop ([0,1,2,3,8],[]) (.seq (Zs [mS 12 8,mS 13 2,bS 14 .lss 12 13] [0,1,2,3,8,14] (cX 14 0))
(.seq (.block 1 (Zs [mS 17 8,mS 9 17] [0,1,2,3,8,9] (.block 2 (.loop ([0,1,2,3,8,9],[]) (.seq (.seq (.dreg [Zc [19] (mS 18 9),Zc [18] (mS 19 1),Ze [0,1] (bS 20 .gtr 18 19),Ze [0,1,2] (mS 21 20),{o:=mS 22 3,g:=some (21,true),hs:=[23,24,25,26,27,28,29,30,31],bf:=(.range 4)},{o:=mS 23 0,g:=some (21,true),hs:=[22,24,27,28,29,30,31],bf:=(.range 4)},{o:=mS 24 9,g:=some (21,true),hs:=[22,23,27,28,29,30,31],bf:=(.range 4)},{o:=xS 25 6 23 24,g:=some (21,true),hs:=[22,27,28,29,30,31],bf:=[0,1,2,3,5,6]},{o:=lT 26 6 25,g:=some (21,true),hs:=[22,27,28,29,30,31],bf:=[0,1,2,3,5,6,7]},{o:=mS 27 0,g:=some (21,true),hs:=[22,23,24,25,26,28,29],bf:=(.range 4)},{o:=mS 28 9,g:=some (21,true),hs:=[22,23,24,25,26,27],bf:=(.range 4)},{o:=bC 29 .sub 28 1,g:=some (21,true),hs:=[22,23,24,25,26,27],bf:=[0,1,2,3,10]},{o:=xS 30 6 27 29,g:=some (21,true),hs:=[22,23,24,25,26],bf:=[0,1,2,3,9,10,11]},{o:=lT 31 6 30,g:=some (21,true),hs:=[22,23,24,25,26],bf:=[0,1,2,3,9,10,11,12]},{o:= .call 32 [] (.s 22) [.s 26,.s 31],g:=some (21,true),bf:=(.range 14)},{o:=bC 33 .lss 32 0,g:=some (21,true),bf:=(.range 15)},Ze (.range 16) (.pick 34 (.s 21) (.s 33) cF)] [0,1,2,3,8,9,34])
(cX 34 2))
(.seq (.block 3 (.dreg [Zc [38,39,40,41,42,43,44,45,46,47,48,49,50] (mS 37 0),Zc [37,39,40,41,42,43,44,45,46,47,48,49,50] (mS 38 9),Zf [37,38,40,41,42,43,44,45,46,47,48,49,50,51] [0] (mS 39 0),Zf [37,38,39,42,43,44,45,46,47,48,49,50,51] [0] (mS 40 9),Zg [37,38,39,42,43,44,45,46,47,48,49,50,51] [0] [3] (bC 41 .sub 40 1),Zc [37,38,39,40,41,43,44,47,48,49,50] (mS 42 0),Zc [37,38,39,40,41,42,47,48,49,50] (mS 43 9),Zd [37,38,39,40,41,42,47,48,49,50] [6] (bC 44 .sub 43 1),Zd [37,38,39,40,41,47,48,49,50] [5,6,7] (xS 45 6 42 44),Zd [37,38,39,40,41,47,48,49,50] [5,6,7,8] (lT 46 6 45),Zc [37,38,39,40,41,42,43,44,45,46,48] (mS 47 0),Zc [37,38,39,40,41,42,43,44,45,46,47] (mS 48 9),Zd [37,38,39,40,41,42,43,44,45,46] [10,11] (xS 49 6 47 48),Zd [37,38,39,40,41,42,43,44,45,46] [10,11,12] (lT 50 6 49),Zd [39,40,41] [0,1,5,6,7,8,9,10,11,12,13] (xS 51 6 37 38),{o:=sS 6 51 46,hs:=[39,40,41],ws:=[0],bf:=[0,1,5,6,7,8,9,10,11,12,13,14]},Ze (.range 16) (xS 52 6 39 41),{o:=sS 6 52 50,ws:=[0],bf:=(.range 17)}] [0,1,2,3,8,9]))
(pr [mS 35 9,bC 36 .sub 35 1,mS 9 36] [0,1,2,3,8,9])))))))
(pr [mS 15 8,bC 16 .add 15 1,mS 8 16] [0,1,2,3,8]))))))
theorem C1b(P X Q:List GFound)(f:FuncId)(c:GFound→GFound→Int)(hc:∀x y,Ctr Tryz.prog f [aS x.enc,aS y.enc] [rI (c x y)])(hw:Srt.Swo (ltc c)){a b:Nat}(ha:P.length=a)(hb:(P++X).length=b):CtrI Tryz.prog N8 [oL 6 ((P++X++Q).map GFound.enc),iI a,iI b,fI f] [some (6,(P++Srt.isort (ltc c) X++Q).map GFound.enc)] []:=by
 have hlk:∀k,(P++Srt.isort (ltc c) (X.take k)++(X.drop k++Q)).length=(P++X++Q).length:=fun k=>by simp[Srt.len_isort];omega
 refine K3j (M:=Ml) (m:=0) (n:=53) (res:=[]) hmix Tryz.func319 rfl (by kernel_rfl) rfl (by kernel_rfl) (by kernel_rfl) (Nat.le_of_ble_eq_true rfl) rfl rfl ?_;unfold Ml
 intro hbd
 have hl:=K3m hbd
 clear hbd
 have hb':b=a+X.length:=by rw[←hb,←ha];simp
 have hbN:b≤(P++X++Q).length:=by rw[List.length_append,hb];omega
 generalize hN:(P++X++Q).length=N at*
 simp only[roomB]at hl
 simp only[go_sem,hN,wN1 (a:=a) (by omega)]
 refine Kl (fun k:Nat=>[(8,vI ((a+k:Nat):Int))]) (fun k=>[(0,⟨1,.row true 6 ((P++Srt.isort (ltc c) (X.take k)++(X.drop k++Q)).map GFound.enc)⟩)]) (fun k=>1≤k∧(k≤X.length∨k=1)) (fun k=>X.length-k) 1 ?_
 simp only[go_sem]
 refine⟨?_,⟨by omega,by omega⟩,?_⟩
 ·simp only[go_sem]
  cases X with
  |nil=>simp[Srt.isort,Srt.mrg]
  |cons x X=>simp[Srt.isort,Srt.mrg,Srt.ins]
 ·rintro k ⟨h1,h2⟩
  simp only[go_sem]
  refine⟨fun hlt=>?_,fun hge=>?_⟩
  ·obtain⟨x,hx⟩:=K7 (show k<X.length by omega)
   refine Kl (ι:=List GFound×Nat) (fun s=>[(9,vI s.2)]) (fun s=>[(0,⟨1,.row true 6 (s.1.map GFound.enc)⟩)]) (fun s=>InsI (ltc c) P (Srt.isort (ltc c) (X.take k)) (X.drop (k+1)++Q) x s.1 s.2) (fun s=>s.2) (P++Srt.isort (ltc c) (X.take k)++(X.drop k++Q),a+k) ?_
   simp only[go_sem]
   refine⟨?_,⟨Srt.isort (ltc c) (X.take k),[],by simp[K26 hx],by simp[Srt.len_isort];omega,by simp,by simp⟩,?_⟩
   ·simp only[go_sem]
   ·rintro ⟨d,j⟩ hI
    simp only at hI
    obtain⟨hd,h3,h4⟩:=hI.len
    have hdN:d.length=N:=by
     have:=hlk k
     simp[K26 hx]at this hd
     omega
    have hdone:(j=P.length∨∀z∈d[j-1]?,ltc c x z=false)→d.map GFound.enc=(P++Srt.isort (ltc c) (X.take (k+1))++(X.drop (k+1)++Q)).map GFound.enc:=fun h=>by
     rw[hI.done hw (Srt.srt_isort hw _) h,Kk hx,Srt.isort_snoc]
    by_cases hj:P.length<j
    ·obtain⟨A,z,C,e,k1,k2,k3⟩:=hI.step hj
     have e':d.map GFound.enc=two (A.map GFound.enc) z.enc [] x.enc (C.map GFound.enc):=by subst e;simp[two]
     have e2:(A++x::([]++z::C)).map GFound.enc=two (A.map GFound.enc) x.enc [] z.enc (C.map GFound.enc):=by simp[two]
     obtain⟨g1,g2,s1,s2,hL,d1,d2⟩:=K8z (A:=A.map GFound.enc) (B:=[]) (C:=C.map GFound.enc) (p:=j-1) (q:=j) (by simpa using k1) (by simp;omega)
     have hL':∀u v,(two (A.map GFound.enc) u [] v (C.map GFound.enc)).length=N:=fun u v=>by
      rw[←hdN,hL,e];simp;omega
     rw[e']
     have j0:(j:Int)>(a:Int):=by omega
     have j1:(0:Int)≤(j:Int):=by omega
     have j2:(j:Int)<(N:Int):=by omega
     have j3:(0:Int)≤((j-1:Nat):Int):=by omega
     have j4:((j-1:Nat):Int)<(N:Int):=by omega
     simp only[go_sem,hL',g1,g2,j0,j1,j2,j3,j4,wS1 (a:=j) (by omega) (by omega)]
     apply K0 (hc x z)
     simp only[go_sem,hL',g1,g2,s1,s2,j1,j2,j3,j4,wS1 (a:=j) (by omega) (by omega),wN1 (a:=a+k) (by omega)]
     intro _
     refine⟨fun hn=>⟨(A++x::([]++z::C),j-1),⟨rfl,e2.symm⟩,k3 (by simpa[ltc]using hn),by show j-1<j;omega⟩,fun hn=>?_⟩
     have hz:ltc c x z=false:=by simpa[ltc]using hn
     have:=hdone (.inr (by rw[k2];intro y hy;obtain rfl:=Option.some.inj hy;exact hz))
     rw[e']at this
     exact⟨k+1,⟨rfl,this⟩,⟨by omega,by omega⟩,by omega⟩
    ·have j0:¬(j:Int)>(a:Int):=by omega
     simp only[go_sem,j0,wN1 (a:=a+k) (by omega)]
     have:=hdone (.inl (by omega))
     exact⟨k+1,⟨rfl,this⟩,⟨by omega,by omega⟩,by omega⟩
  ·have hk:X.length≤k:=by omega
   rw[List.take_of_length_le hk,List.drop_of_length_le hk,List.nil_append]
end Go.Proofs.YtjneccbpkckdfaaGreatR
namespace Go.Proofs.YtjneccbpkckdfaaGreatR
open Go Go.RowKit Go.Proofs
open Nat (reduceEqDiff reduceLT reduceLeDiff reduceAdd reduceMul)
open List (reduceReplicate)
namespace Srt
variable {α:Type} {lt:α→α→Bool}
theorem srt_at{l:List α}(h:srt lt l){i j:Nat}{x y:α}(hi:l[i]? =some x)(hj:l[j]? =some y)(hij:i<j):lt y x=false:=by
 obtain⟨h1,rfl⟩:=List.getElem?_eq_some_iff.1 hi
 obtain⟨h2,rfl⟩:=List.getElem?_eq_some_iff.1 hj
 exact(List.pairwise_iff_getElem.1 h) i j h1 h2 hij
theorem K2y(hw:Swo lt){l:List α}(h:srt lt l){i j:Nat}{x y:α}(hi:l[i]? =some x)(hj:l[j]? =some y)(hij:i≤j):lt y x=false:=by
 rcases Nat.lt_or_eq_of_le hij with k|rfl
 ·exact srt_at h hi hj k
 ·obtain rfl:=Option.some.inj (hi.symm.trans hj)
  exact hw.irr x
theorem K2o{l:List α}{u:Nat}{x:α}(h:x∈l.take u):∃i,i<u∧l[i]? =some x:=by
 obtain⟨i,hi⟩:=List.mem_iff_getElem?.1 h
 rw[List.getElem?_take]at hi
 split at hi
 ·exact⟨i,by assumption,hi⟩
 ·cases hi
theorem K39{l:List α}{u:Nat}{x:α}(h:x∈l.drop u):∃i,u≤i∧l[i]? =some x:=by
 obtain⟨i,hi⟩:=List.mem_iff_getElem?.1 h
 rw[List.getElem?_drop]at hi
 exact⟨u+i,by omega,hi⟩
theorem Kaj{l:List α}{u:Nat}{x:α}(h:x∈(l.drop u).head?):l[u]? =some x:=by
 rw[List.head?_drop]at h
 exact h
theorem mrg_sym(hw:Swo lt){X Y:List α}(hX:srt lt X)(hY:srt lt Y){u M:Nat}(huX:u≤X.length)(huM:u≤M)
  (h1:u=0∨Y.length≤M-u∨∃y x,Y[M-u]? =some y∧X[u-1]? =some x∧lt y x=false)
  (h2:u=M∨u=X.length∨∃y x,Y[M-1-u]? =some y∧X[u]? =some x∧lt y x=true):
  mrg lt X Y=mrg lt (X.take u) (Y.take (M-u))++mrg lt (X.drop u) (Y.drop (M-u)):=by
 conv=>lhs;rw[←List.take_append_drop u X,←List.take_append_drop (M-u) Y]
 refine K9x ?_ ?_ ?_
 ·intro b hb a ha
  obtain⟨i,hi,eb⟩:=K2o hb
  have ea:=Kaj ha
  have hlt:=Ka ea
  rcases h2 with h2|h2|⟨y,x,e1,e2,h2⟩
  ·omega
  ·omega
  ·obtain rfl:=Option.some.inj (e2.symm.trans ea)
   exact hw.fl (K2y hw hY eb e1 (by omega)) h2
 ·intro b hb a ha
  obtain⟨i,hi,eb⟩:=K39 hb
  obtain⟨k,hk,ea⟩:=K2o ha
  have hlt:=Ka eb
  rcases h1 with h1|h1|⟨y,x,e1,e2,h1⟩
  ·omega
  ·omega
  ·have p1:=K2y hw hY e1 eb (by omega)
   have p2:=K2y hw hX ea e2 (by omega)
   exact hw.ntr (hw.ntr p1 h1) p2
 ·intro b hb a ha
  obtain⟨i,hi,eb⟩:=K39 hb
  obtain⟨k,hk,ea⟩:=K2o ha
  exact srt_at hY ea eb (by omega)
theorem mrg_one(hw:Swo lt){x:α}{Y:List α}(hY:srt lt Y){u:Nat}(h1:∀y∈Y.take u,lt y x=true)(h2:∀y∈Y.drop u,lt y x=false):mrg lt [x] Y=Y.take u++x::Y.drop u:=by
 have e:=K9x (lt:=lt) (A1:=[]) (A2:=[x]) (B1:=Y.take u) (B2:=Y.drop u) (by simpa using h1) (by simp) (by
  intro b hb a ha
  obtain⟨i,hi,eb⟩:=K39 hb
  obtain⟨k,hk,ea⟩:=K2o ha
  exact srt_at hY ea eb (by omega))
 rw[List.take_append_drop,List.nil_append]at e
 rw[e,mrg_nil_srt hw (srt_append.1 ((List.take_append_drop u Y).symm▸hY)).1]
 have e2:=K70 (lt:=lt) (A1:=[x]) (A2:=[]) (B:=Y.drop u) (by simpa using h2)
 rw[List.append_nil]at e2
 rw[e2,mrg_nil_srt hw (srt_append.1 ((List.take_append_drop u Y).symm▸hY)).2.1]
 rfl
theorem mrg_last{y:α}{X:List α}{u:Nat}(h1:∀z∈X.take u,lt y z=false)(h2:∀z∈X.drop u,lt y z=true):mrg lt X [y]=X.take u++y::X.drop u:=by
 have:=ins_mid (lt:=lt) (x:=y) h1 (fun z hz=>h2 z (List.mem_of_mem_head? hz))
 rw[List.take_append_drop]at this
 exact this
theorem lo_of(hw:Swo lt){Y:List α}(hY:srt lt Y){w:Nat}{x y:α}(e:Y[w]? =some y)(h:lt y x=true):∀z∈Y.take (w+1),lt z x=true:=fun z hz=>by
 obtain⟨i,hi,ez⟩:=K2o hz
 exact hw.fl (K2y hw hY ez e (by omega)) h
theorem hi_of(hw:Swo lt){Y:List α}(hY:srt lt Y){w:Nat}{x y:α}(e:Y[w]? =some y)(h:lt y x=false):∀z∈Y.drop w,lt z x=false:=fun z hz=>by
 obtain⟨i,hi,ez⟩:=K39 hz
 exact hw.ntr (K2y hw hY e ez hi) h
theorem lo_of'(hw:Swo lt){X:List α}(hX:srt lt X){w:Nat}{x y:α}(e:X[w]? =some x)(h:lt y x=false):∀z∈X.take (w+1),lt y z=false:=fun z hz=>by
 obtain⟨i,hi,ez⟩:=K2o hz
 exact hw.ntr h (K2y hw hX ez e (by omega))
theorem hi_of'(hw:Swo lt){X:List α}(hX:srt lt X){w:Nat}{x y:α}(e:X[w]? =some x)(h:lt y x=true):∀z∈X.drop w,lt y z=true:=fun z hz=>by
 obtain⟨i,hi,ez⟩:=K39 hz
 exact hw.lf h (K2y hw hX e ez hi)
end Srt
theorem shr1{k:Int}:(if (1:Int)<0 then none else some (Value.int IntKind.u64 (k.fdiv (2^min (Int.toNat 1) 64))))=some (Value.int IntKind.u64 (k.fdiv 2)):=by rw[if_neg (by decide)];rfl
theorem u64_wrap{n:Int}(h1:0≤n)(h2:n≤9223372036854775807):IntKind.u64.wrap n=n:=by
 simp only[IntKind.wrap,IntKind.signed,IntKind.bits,Bool.false_and,Bool.false_eq_true,if_false]
 omega
theorem K5s{i j:Nat}(h:i+j≤9223372036854775807):(IntKind.u64.wrap (IntKind.i64.wrap ((i:Int)+(j:Int)))).fdiv 2=(((i+j)/2:Nat):Int):=by
 rw[wN h,u64_wrap (by omega) (by omega),Int.fdiv_eq_ediv_of_nonneg _ (by omega)]
 omega
theorem wK{k:Nat}(h:k≤9223372036854775807):IntKind.i64.wrap (k:Int)=(k:Int):=wI (by omega) (by omega)
def SymI(lt:GFound→GFound→Bool)(X Y:List GFound)(M u0 v0 u v:Nat):Prop:=
 u0≤u∧u≤v∧v≤v0∧(u=0∨Y.length≤M-u∨∃y x,Y[M-u]? =some y∧X[u-1]? =some x∧lt y x=false)∧
  (v=M∨v=X.length∨∃y x,Y[M-1-v]? =some y∧X[v]? =some x∧lt y x=true)
theorem SymI.fin{lt:GFound→GFound→Bool}(hw:Srt.Swo lt){X Y:List GFound}{M u0 v0 u:Nat}(h:SymI lt X Y M u0 v0 u u)(hX:Srt.srt lt X)(hY:Srt.srt lt Y)(q2:v0≤M)(q3:v0≤X.length)(q4:M≤u0+Y.length):
  ∃A1 A2 B1 B2,X=A1++A2∧Y=B1++B2∧A1.length=u∧B1.length=M-u∧u≤M∧Srt.mrg lt X Y=Srt.mrg lt A1 B1++Srt.mrg lt A2 B2∧Srt.srt lt A1∧Srt.srt lt A2∧Srt.srt lt B1∧Srt.srt lt B2:=by
 obtain⟨h1,h2,h3,h4,h5⟩:=h
 have e:=Srt.mrg_sym hw hX hY (by omega) (by omega) h4 h5
 have sX:=Srt.srt_append.1 ((List.take_append_drop u X).symm▸hX)
 have sY:=Srt.srt_append.1 ((List.take_append_drop (M-u) Y).symm▸hY)
 exact⟨X.take u,X.drop u,Y.take (M-u),Y.drop (M-u),(List.take_append_drop _ _).symm,(List.take_append_drop _ _).symm,by simp;omega,by simp;omega,by omega,e,sX.1,sX.2.1,sY.1,sY.2.1⟩
theorem sym7{u l2 k l4 M:Nat}(hk:k=M-u)(huM:u≤M)(hM:M=(u+l2+(k+l4))/2)(hX:2≤u+l2)(hY:2≤k+l4):
  (0<u∧0<l2∧0<k∧0<l4)∨(u=0∧0<l2∧0<k∧0<l4)∨(0<u∧l2=0∧0<k∧0<l4)∨(0<u∧0<l2∧k=0∧0<l4)∨(0<u∧0<l2∧0<k∧l4=0)∨(u=0∧0<l2∧0<k∧l4=0)∨(0<u∧l2=0∧k=0∧0<l4):=by omega
theorem K8{i j:Nat}(k:Nat)(h:j=i+k)(hk:0<k):(i:Int)<(j:Int):=by omega
theorem K15{i j:Nat}(k:Nat)(h:j=i+k)(hk:k=0):¬(i:Int)<(j:Int):=by omega
theorem symL(lt:GFound→GFound→Bool){P A1 A2 B1 B2 Q:List GFound}{a m b M u N n:Nat}(ha:P.length=a)(hA1:A1.length=u)(hB1:B1.length=M-u)(huM:u≤M)(hm:m=a+(A1++A2).length)(hb:b=m+(B1++B2).length)
  (hN:(P++(A1++A2)++(B1++B2)++Q).length=N) (hM:M=((A1++A2).length+(B1++B2).length)/2) (hn:(A1++A2).length+(B1++B2).length≤n+1) (h1:¬((m-a:Nat):Int)=1) (h2:¬((b-m:Nat):Int)=1) (hX:0<(A1++A2).length) (hY:0<(B1++B2).length):
  ((P++A1++B1++A2++(B2++Q)).length=N∧(P++A1++A2++B1++(B2++Q)).length=N∧(P++A1++B1++(A2++(B2++Q))).length=N∧(P++Srt.mrg lt A1 B1++A2++B2++Q).length=N∧(P++Srt.mrg lt A1 B1++(A2++(B2++Q))).length=N∧(P++Srt.mrg lt A1 B1++Srt.mrg lt A2 B2++Q).length=N)∧
  ((P++A1).length=a+u∧(P++A1++A2).length=m∧(P++A1++A2++B1).length=m+(M-u)∧(P++A1++B1).length=a+M∧(P++Srt.mrg lt A1 B1).length=a+M∧(P++Srt.mrg lt A1 B1++A2).length=m+(M-u)∧(P++Srt.mrg lt A1 B1++A2++B2).length=b)∧
  A1.length+B1.length≤n∧A2.length+B2.length≤n∧
  (m=a+u+A2.length∧m+(M-u)=m+B1.length∧a+u=a+A1.length∧a+M=a+u+B1.length∧m+(M-u)=a+M+A2.length∧b=m+(M-u)+B2.length)∧
  ((0<A1.length∧0<A2.length∧0<B1.length∧0<B2.length)∨(A1.length=0∧0<A2.length∧0<B1.length∧0<B2.length)∨(0<A1.length∧A2.length=0∧0<B1.length∧0<B2.length)∨(0<A1.length∧0<A2.length∧B1.length=0∧0<B2.length)∨(0<A1.length∧0<A2.length∧0<B1.length∧B2.length=0)∨(A1.length=0∧0<A2.length∧0<B1.length∧B2.length=0)∨(0<A1.length∧A2.length=0∧B1.length=0∧0<B2.length)):=by
 simp only[List.length_append,Srt.len_mrg]at*
 have h7:=sym7 (u:=A1.length) (l2:=A2.length) (k:=B1.length) (l4:=B2.length) (M:=M) (by omega) (by omega) (by omega) (by omega) (by omega)
 refine⟨⟨?_,?_,?_,?_,?_,?_⟩,⟨?_,?_,?_,?_,?_,?_,?_⟩,?_,?_,⟨?_,?_,?_,?_,?_,?_⟩,h7⟩<;>clear h7<;>omega
def Mu:MC:=
(.seq (Zs [mS 25 2,mS 26 1,bS 27 .sub 25 26,bC 28 .eql 27 1] [0,1,2,3,4,28] (.cond (.s 28) (Zs [mS 29 2,mS 10 29] [0,1,3,4,10] (Zs [mS 30 3,mS 11 30] [0,1,4,10,11] (.seq (.block 0 (.loop ([0,1,4,10,11],[]) (.seq (Zs [mS 31 10,mS 32 11,bS 33 .lss 31 32] [0,1,4,10,11,33] (cX 33 0))
(.block 1 (Zs [mS 34 10,mS 35 11,bS 36 .add 34 35,.convI 37 .u64 (.s 36),.bin 38 false .shr (.s 37) (.c (.int .u64 1)),.convI 39 .i64 (.s 38),mS 12 39] [0,1,4,10,11,12] (.seq (.dreg [Zc [41,42,43,44,45,46,47,48] (mS 40 4),Zc [40,42,45,46,47,48] (mS 41 0),Zc [40,41,45,46,47,48] (mS 42 12),Zd [40,45,46,47,48] [1,2] (xS 43 6 41 42),Zd [40,45,46,47,48] [1,2,3] (lT 44 6 43),Zc [40,41,42,43,44,46] (mS 45 0),Zc [40,41,42,43,44,45] (mS 46 1),Zd [40,41,42,43,44] [5,6] (xS 47 6 45 46),Zd [40,41,42,43,44] [5,6,7] (lT 48 6 47),Ze (.range 9) (.call 49 [] (.s 40) [.s 44,.s 48]),Ze (.range 10) (bC 50 .lss 49 0)] [0,1,4,10,11,12,50])
(.cond (.s 50) (pr [mS 51 12,bC 52 .add 51 1,mS 10 52] [0,1,4,10,11]) (pr [mS 53 12,mS 11 53] [0,1,4,10,11]))))))))
(.seq (Zs [mS 54 1,mS 13 54] [0,10,13] (.block 2 (.loop ([0,10,13],[]) (.seq (Zs [mS 55 13,mS 56 10,bC 57 .sub 56 1,bS 58 .lss 55 57] [0,10,13,58] (cX 58 2))
(.seq (.block 3 (.dreg [Zc [62,63,64,65,66,67,68,69,70,71,72,73,74] (mS 61 0),Zc [61,63,64,65,66,67,68,69,70,71,72,73,74] (mS 62 13),Zf [61,62,64,65,66,67,68,69,70,71,72,73,74,75] [0] (mS 63 0),Zf [61,62,63,66,67,68,69,70,71,72,73,74,75] [0] (mS 64 13),Zg [61,62,63,66,67,68,69,70,71,72,73,74,75] [0] [3] (bC 65 .add 64 1),Zc [61,62,63,64,65,67,68,71,72,73,74] (mS 66 0),Zc [61,62,63,64,65,66,71,72,73,74] (mS 67 13),Zd [61,62,63,64,65,66,71,72,73,74] [6] (bC 68 .add 67 1),Zd [61,62,63,64,65,71,72,73,74] [5,6,7] (xS 69 6 66 68),Zd [61,62,63,64,65,71,72,73,74] [5,6,7,8] (lT 70 6 69),Zc [61,62,63,64,65,66,67,68,69,70,72] (mS 71 0),Zc [61,62,63,64,65,66,67,68,69,70,71] (mS 72 13),Zd [61,62,63,64,65,66,67,68,69,70] [10,11] (xS 73 6 71 72),Zd [61,62,63,64,65,66,67,68,69,70] [10,11,12] (lT 74 6 73),Zd [63,64,65] [0,1,5,6,7,8,9,10,11,12,13] (xS 75 6 61 62),{o:=sS 6 75 70,hs:=[63,64,65],ws:=[0],bf:=[0,1,5,6,7,8,9,10,11,12,13,14]},Ze (.range 16) (xS 76 6 63 65),{o:=sS 6 76 74,ws:=[0],bf:=(.range 17)}] [0,10,13]))
(pr [mS 59 13,bC 60 .add 59 1,mS 13 60] [0,10,13]))))))
.ret)))) .skip))
(.seq (Zs [mS 77 3,mS 78 2,bS 79 .sub 77 78,bC 80 .eql 79 1] [0,1,2,3,4,80] (.cond (.s 80) (Zs [mS 81 1,mS 14 81] [0,2,4,14] (Zs [mS 82 2,mS 15 82] [0,2,4,14,15] (.seq (.block 4 (.loop ([0,2,4,14,15],[]) (.seq (Zs [mS 83 14,mS 84 15,bS 85 .lss 83 84] [0,2,4,14,15,85] (cX 85 4))
(.block 5 (Zs [mS 86 14,mS 87 15,bS 88 .add 86 87,.convI 89 .u64 (.s 88),.bin 90 false .shr (.s 89) (.c (.int .u64 1)),.convI 91 .i64 (.s 90),mS 16 91] [0,2,4,14,15,16] (.seq (.dreg [Zc [93,94,95,96,97,98,99,100] (mS 92 4),Zc [92,94,97,98,99,100] (mS 93 0),Zc [92,93,97,98,99,100] (mS 94 2),Zd [92,97,98,99,100] [1,2] (xS 95 6 93 94),Zd [92,97,98,99,100] [1,2,3] (lT 96 6 95),Zc [92,93,94,95,96,98] (mS 97 0),Zc [92,93,94,95,96,97] (mS 98 16),Zd [92,93,94,95,96] [5,6] (xS 99 6 97 98),Zd [92,93,94,95,96] [5,6,7] (lT 100 6 99),Ze (.range 9) (.call 101 [] (.s 92) [.s 96,.s 100]),Ze (.range 10) (bC 102 .lss 101 0),Ze (.range 11) (.un 103 .not (.s 102))] [0,2,4,14,15,16,103])
(.cond (.s 103) (pr [mS 104 16,bC 105 .add 104 1,mS 14 105] [0,2,4,14,15]) (pr [mS 106 16,mS 15 106] [0,2,4,14,15]))))))))
(.seq (Zs [mS 107 2,mS 17 107] [0,14,17] (.block 6 (.loop ([0,14,17],[]) (.seq (Zs [mS 108 17,mS 109 14,bS 110 .gtr 108 109] [0,14,17,110] (cX 110 6))
(.seq (.block 7 (.dreg [Zc [114,115,116,117,118,119,120,121,122,123,124,125,126] (mS 113 0),Zc [113,115,116,117,118,119,120,121,122,123,124,125,126] (mS 114 17),Zf [113,114,116,117,118,119,120,121,122,123,124,125,126,127] [0] (mS 115 0),Zf [113,114,115,118,119,120,121,122,123,124,125,126,127] [0] (mS 116 17),Zg [113,114,115,118,119,120,121,122,123,124,125,126,127] [0] [3] (bC 117 .sub 116 1),Zc [113,114,115,116,117,119,120,123,124,125,126] (mS 118 0),Zc [113,114,115,116,117,118,123,124,125,126] (mS 119 17),Zd [113,114,115,116,117,118,123,124,125,126] [6] (bC 120 .sub 119 1),Zd [113,114,115,116,117,123,124,125,126] [5,6,7] (xS 121 6 118 120),Zd [113,114,115,116,117,123,124,125,126] [5,6,7,8] (lT 122 6 121),Zc [113,114,115,116,117,118,119,120,121,122,124] (mS 123 0),Zc [113,114,115,116,117,118,119,120,121,122,123] (mS 124 17),Zd [113,114,115,116,117,118,119,120,121,122] [10,11] (xS 125 6 123 124),Zd [113,114,115,116,117,118,119,120,121,122] [10,11,12] (lT 126 6 125),Zd [115,116,117] [0,1,5,6,7,8,9,10,11,12,13] (xS 127 6 113 114),{o:=sS 6 127 122,hs:=[115,116,117],ws:=[0],bf:=[0,1,5,6,7,8,9,10,11,12,13,14]},Ze (.range 16) (xS 128 6 115 117),{o:=sS 6 128 126,ws:=[0],bf:=(.range 17)}] [0,14,17]))
(pr [mS 111 17,bC 112 .sub 111 1,mS 17 112] [0,14,17]))))))
.ret)))) .skip))
(Zs [mS 129 1,mS 130 3,bS 131 .add 129 130,.convI 132 .u64 (.s 131),.bin 133 false .shr (.s 132) (.c (.int .u64 1)),.convI 134 .i64 (.s 133),mS 18 134] [0,1,2,3,4,18] (Zs [mS 135 18,mS 136 2,bS 137 .add 135 136,mS 19 137] [0,1,2,3,4,18,19] (Zs [.mv 20 (ci 0),.mv 21 (ci 0)] [0,1,2,3,4,18,19] (.seq (Zs [mS 138 2,mS 139 18,bS 140 .gtr 138 139] [0,1,2,3,4,18,19,140] (.cond (.s 140) (Zs [mS 141 19,mS 142 3,bS 143 .sub 141 142,mS 20 143] [0,1,2,3,4,18,19,20] (pr [mS 144 18,mS 21 144] [0,1,2,3,4,18,19,20,21])) (Zs [mS 145 1,mS 20 145] [0,1,2,3,4,18,19,20] (pr [mS 146 2,mS 21 146] [0,1,2,3,4,18,19,20,21]))))
(Zs [mS 147 19,bC 148 .sub 147 1,mS 22 148] [0,1,2,3,4,18,19,20,21,22] (.seq (.block 8 (.loop ([0,1,2,3,4,18,19,20,21,22],[]) (.seq (Zs [mS 149 20,mS 150 21,bS 151 .lss 149 150] [0,1,2,3,4,18,19,20,21,22,151] (cX 151 8))
(.block 9 (Zs [mS 152 20,mS 153 21,bS 154 .add 152 153,.convI 155 .u64 (.s 154),.bin 156 false .shr (.s 155) (.c (.int .u64 1)),.convI 157 .i64 (.s 156),mS 23 157] [0,1,2,3,4,18,19,20,21,22,23] (.seq (.dreg [Zc [159,160,161,162,163,164,165,166,167,168] (mS 158 4),Zc [158,160,161,162,165,166,167,168] (mS 159 0),Zc [158,159,161,165,166,167,168] (mS 160 22),Zc [158,159,160,165,166,167,168] (mS 161 23),Zd [158,159,165,166,167,168] [2,3] (bS 162 .sub 160 161),Zd [158,165,166,167,168] [1,2,3,4] (xS 163 6 159 162),Zd [158,165,166,167,168] [1,2,3,4,5] (lT 164 6 163),Zc [158,159,160,161,162,163,164,166] (mS 165 0),Zc [158,159,160,161,162,163,164,165] (mS 166 23),Zd [158,159,160,161,162,163,164] [7,8] (xS 167 6 165 166),Zd [158,159,160,161,162,163,164] [7,8,9] (lT 168 6 167),Ze (.range 11) (.call 169 [] (.s 158) [.s 164,.s 168]),Ze (.range 12) (bC 170 .lss 169 0),Ze (.range 13) (.un 171 .not (.s 170))] [0,1,2,3,4,18,19,20,21,22,23,171])
(.cond (.s 171) (pr [mS 172 23,bC 173 .add 172 1,mS 20 173] [0,1,2,3,4,18,19,20,21,22]) (pr [mS 174 23,mS 21 174] [0,1,2,3,4,18,19,20,21,22]))))))))
(Zs [mS 175 19,mS 176 20,bS 177 .sub 175 176,mS 24 177] [0,1,2,3,4,18,20,24] (.seq (.seq (.reg [Za (mS 178 20),Za (mS 179 2),Za (bS 180 .lss 178 179),Za (mS 181 180),Zb 181 true (mS 182 2),Zb 181 true (mS 183 24),Zb 181 true (bS 184 .lss 182 183),Za (.pick 185 (.s 181) (.s 184) cF)] [0,1,2,3,4,18,20,24,185])
(.cond (.s 185) (pr [mS 186 0,mS 187 20,mS 188 2,mS 189 24,mS 190 4,.callI 191 [] (.f N11) [.s 186,.s 187,.s 188,.s 189,.s 190] [0] []] [0,1,3,4,18,20,24]) .skip))
(.seq (.seq (.reg [Za (mS 192 1),Za (mS 193 20),Za (bS 194 .lss 192 193),Za (mS 195 194),Zb 195 true (mS 196 20),Zb 195 true (mS 197 18),Zb 195 true (bS 198 .lss 196 197),Za (.pick 199 (.s 195) (.s 198) cF)] [0,1,3,4,18,20,24,199])
(.cond (.s 199) (pr [mS 200 0,mS 201 1,mS 202 20,mS 203 18,mS 204 4,.callI 205 [] (.f N5) [.s 200,.s 201,.s 202,.s 203,.s 204] [0] []] [0,3,4,18,24]) .skip))
(.seq (.reg [Za (mS 206 18),Za (mS 207 24),Za (bS 208 .lss 206 207),Za (mS 209 208),Zb 209 true (mS 210 24),Zb 209 true (mS 211 3),Zb 209 true (bS 212 .lss 210 211),Za (.pick 213 (.s 209) (.s 212) cF)] [0,3,4,18,24,213])
(.cond (.s 213) (pr [mS 214 0,mS 215 18,mS 216 24,mS 217 3,mS 218 4,.callI 219 [] (.f N5) [.s 214,.s 215,.s 216,.s 217,.s 218] [0] []] []) .skip)))))))))))))
set_option maxHeartbeats 4000000 in
theorem C1q(f:FuncId)(c:GFound→GFound→Int)(hc:∀x y,Ctr Tryz.prog f [aS x.enc,aS y.enc] [rI (c x y)])(hw:Srt.Swo (ltc c))(n:Nat):∀(P X Y Q:List GFound) {a m b:Nat},X.length+Y.length≤n→P.length=a→(P++X).length=m→(P++X++Y).length=b→0<X.length→0<Y.length→Srt.srt (ltc c) X→Srt.srt (ltc c) Y→
  CtrI Tryz.prog N5 [oL 6 ((P++X++Y++Q).map GFound.enc),iI a,iI m,iI b,fI f] [some (6,(P++Srt.mrg (ltc c) X Y++Q).map GFound.enc)] []:=by
 induction n with
 |zero=>intro P X Y Q a m b hn _ _ _ hX;omega
 |succ n ih=>
  intro P X Y Q a m b hn ha hm hb hX hY sX sY
  have hN2:(P++Srt.mrg (ltc c) X Y++Q).length=(P++X++Y++Q).length:=by simp[Srt.len_mrg];omega
  refine K3j (M:=Mu) (m:=0) (n:=220) (res:=[]) hmix Tryz.func320 rfl (by kernel_rfl) rfl (by kernel_rfl) (by kernel_rfl) (Nat.le_of_ble_eq_true rfl) rfl rfl ?_;unfold Mu
  intro hbd
  have hl:=K3m hbd
  clear hbd
  have hm':m=a+X.length:=by rw[←hm,←ha];simp
  have hb':b=m+Y.length:=by rw[←hb,←hm];simp;omega
  have hbN:b≤(P++X++Y++Q).length:=by rw[List.length_append,hb];omega
  generalize hN:(P++X++Y++Q).length=N at*
  simp only[roomB]at hl
  simp only[go_sem,hN,wS (a:=m) (b:=a) (by omega) (by omega)]
  refine⟨fun h1=>?_,fun h1=>?_⟩
  ·obtain⟨x,rfl⟩:∃x,X=[x]:=List.length_eq_one_iff.1 (by omega)
   simp only[List.length_cons,List.length_nil]at hm' hn
   have hxa:(P++[x]++Y++Q)[a]? =some x:=by rw[←ha];simp
   have hya:∀w,w<Y.length→(P++[x]++Y++Q)[m+w]? =Y[w]? :=fun w hw=>by
    rw[List.append_assoc,List.getElem?_append_right (by simp;omega),List.getElem?_append_left (by simp;omega)]
    congr 1;simp;omega
   refine Kl (ι:=Nat×Nat) (fun s=>[(10,vI ((m+s.1:Nat):Int)),(11,vI ((m+s.2:Nat):Int))]) (fun s=>[]) (fun s=>s.1≤s.2∧s.2≤Y.length∧(∀y∈Y.take s.1,ltc c y x=true)∧(∀y∈Y.drop s.2,ltc c y x=false)) (fun s=>s.2-s.1) (0,Y.length) ?_
   simp only[go_sem]
   refine⟨?_,⟨by omega,by omega,by simp,by simp⟩,?_⟩
   ·simp only[go_sem]
    exact⟨by omega,by omega⟩
   ·rintro ⟨u,v⟩ ⟨i1,i2,i3,i4⟩
    simp only at i1 i2 i3 i4
    simp only[go_sem,hN,shr1,K5s (i:=m+u) (j:=m+v) (by omega)]
    refine⟨fun hlt=>?_,fun hge=>?_⟩
    ·have hwx:(m+u+(m+v))/2=m+(u+v)/2:=by omega
     have w1:u≤(u+v)/2:=by omega
     have w2:(u+v)/2<v:=by omega
     rw[hwx]
     generalize (u+v)/2=w at w1 w2
     obtain⟨y,hy⟩:=K7 (show w<Y.length by omega)
     have hyw:=(hya w (by omega)).trans hy
     have k1:(0:Int)≤((m+w:Nat):Int):=by omega
     have k2:((m+w:Nat):Int)<(N:Int):=by omega
     have k3:(0:Int)≤(a:Int):=by omega
     have k4:(a:Int)<(N:Int):=by omega
     simp only[go_sem,wK (k:=m+w) (by omega),k1,k2,k3,k4,K1 hyw,K1 hxa]
     apply K0 (hc y x)
     simp only[go_sem,wN1 (a:=m+w) (by omega)]
     intro _
     refine⟨fun hn=>⟨(w+1,v),⟨rfl,rfl⟩,⟨by omega,i2,Srt.lo_of hw sY hy (by simpa[ltc]using hn),i4⟩,by omega⟩,fun hn=>⟨(u,w),⟨rfl,rfl⟩,⟨w1,by omega,i3,Srt.hi_of hw sY hy (by simpa[ltc]using hn)⟩,by omega⟩⟩
    ·obtain rfl:u=v:=by omega
     have hres:=Srt.mrg_one hw sY i3 i4
     have hlt:∀t,(P++(Y.take t++x::Y.drop t)++Q).length=N:=fun t=>by rw[←hN];simp;omega
     refine Kl (fun t:Nat=>[(13,vI ((a+t:Nat):Int))]) (fun t=>[(0,⟨1,.row true 6 ((P++(Y.take t++x::Y.drop t)++Q).map GFound.enc)⟩)]) (fun t=>t≤u) (fun t=>u-t) 0 ?_
     simp only[go_sem]
     refine⟨?_,by omega,?_⟩
     ·simp only[go_sem]
      simp
     ·intro t ht
      have hs1:IntKind.i64.wrap (((m+u:Nat):Int)-1)=((a+u:Nat):Int):=by
       rw[wI (by omega) (by omega)];omega
      by_cases htu:t<u
      ·obtain⟨y,hy⟩:=K7 (show t<Y.length by omega)
       have e1:(P++(Y.take t++x::Y.drop t)++Q).map GFound.enc=two ((P++Y.take t).map GFound.enc) x.enc [] y.enc ((Y.drop (t+1)++Q).map GFound.enc):=by simp[two,K26 hy]
       have e2:(P++(Y.take (t+1)++x::Y.drop (t+1))++Q).map GFound.enc=two ((P++Y.take t).map GFound.enc) y.enc [] x.enc ((Y.drop (t+1)++Q).map GFound.enc):=by simp[two,Kk hy]
       have hA:((P++Y.take t).map GFound.enc).length=a+t:=by simp;omega
       have hL0:∀p q,(two ((P++Y.take t).map GFound.enc) p [] q ((Y.drop (t+1)++Q).map GFound.enc)).length=N:=fun p q=>by
        rw[←hlt t];simp[two,K26 hy]
       generalize (P++Y.take t).map GFound.enc=A at*
       generalize (Y.drop (t+1)++Q).map GFound.enc=C at*
       obtain⟨g1,g2,s1,s2,hL,d1,d2⟩:=K8z (A:=A) (B:=[]) (C:=C) (p:=a+t) (q:=a+t+1) hA (by simp)
       have k1:(0:Int)≤((a+t:Nat):Int):=by omega
       have k2:((a+t:Nat):Int)<(N:Int):=by omega
       have k3:(0:Int)≤((a+t+1:Nat):Int):=by omega
       have k4:((a+t+1:Nat):Int)<(N:Int):=by omega
       have k5:((a+t:Nat):Int)<((a+u:Nat):Int):=by omega
       rw[e1]
       simp only[go_sem,hs1,hL0,g1,g2,s1,s2,k1,k2,k3,k4,k5,wN1 (a:=a+t) (by omega)]
       exact⟨t+1,⟨rfl,e2.symm⟩,by omega,by omega⟩
      ·obtain rfl:t=u:=by omega
       simp only[go_sem,hs1]
       rw[hres]
  ·simp only[go_sem,wS (a:=b) (b:=m) (by omega) (by omega)]
   refine⟨fun h2=>?_,fun h2=>?_⟩
   ·obtain⟨y,rfl⟩:∃y,Y=[y]:=List.length_eq_one_iff.1 (by omega)
    simp only[List.length_cons,List.length_nil]at hb' hn
    have hym:(P++X++[y]++Q)[m]? =some y:=by rw[←hm];simp
    have hxa:∀w,w<X.length→(P++X++[y]++Q)[a+w]? =X[w]? :=fun w hw=>by
     rw[List.append_assoc,List.append_assoc,List.getElem?_append_right (by omega),List.getElem?_append_left (by omega)]
     congr 1;omega
    refine Kl (ι:=Nat×Nat) (fun s=>[(14,vI ((a+s.1:Nat):Int)),(15,vI ((a+s.2:Nat):Int))]) (fun s=>[]) (fun s=>s.1≤s.2∧s.2≤X.length∧(∀z∈X.take s.1,ltc c y z=false)∧(∀z∈X.drop s.2,ltc c y z=true)) (fun s=>s.2-s.1) (0,X.length) ?_
    simp only[go_sem]
    refine⟨?_,⟨by omega,by omega,by simp,by simp⟩,?_⟩
    ·simp only[go_sem]
     exact⟨by omega,by omega⟩
    ·rintro ⟨u,v⟩ ⟨i1,i2,i3,i4⟩
     simp only at i1 i2 i3 i4
     simp only[go_sem,hN,shr1,K5s (i:=a+u) (j:=a+v) (by omega)]
     refine⟨fun hlt=>?_,fun hge=>?_⟩
     ·have hwx:(a+u+(a+v))/2=a+(u+v)/2:=by omega
      have w1:u≤(u+v)/2:=by omega
      have w2:(u+v)/2<v:=by omega
      rw[hwx]
      generalize (u+v)/2=w at w1 w2
      obtain⟨x,hx⟩:=K7 (show w<X.length by omega)
      have hxw:=(hxa w (by omega)).trans hx
      have k1:(0:Int)≤((a+w:Nat):Int):=by omega
      have k2:((a+w:Nat):Int)<(N:Int):=by omega
      have k3:(0:Int)≤(m:Int):=by omega
      have k4:(m:Int)<(N:Int):=by omega
      simp only[go_sem,wK (k:=a+w) (by omega),k1,k2,k3,k4,K1 hxw,K1 hym]
      apply K0 (hc y x)
      simp only[go_sem,wN1 (a:=a+w) (by omega)]
      intro _
      refine⟨fun hn=>⟨(w+1,v),⟨rfl,rfl⟩,⟨by omega,i2,Srt.lo_of' hw sX hx (by simpa[ltc]using hn),i4⟩,by omega⟩,fun hn=>⟨(u,w),⟨rfl,rfl⟩,⟨w1,by omega,i3,Srt.hi_of' hw sX hx (by simpa[ltc]using hn)⟩,by omega⟩⟩
     ·obtain rfl:u=v:=by omega
      have hres:=Srt.mrg_last i3 i4
      have hlt:∀t,(P++(X.take t++y::X.drop t)++Q).length=N:=fun t=>by rw[←hN];simp;omega
      refine Kl (fun t:Nat=>[(17,vI ((a+t:Nat):Int))]) (fun t=>[(0,⟨1,.row true 6 ((P++(X.take t++y::X.drop t)++Q).map GFound.enc)⟩)]) (fun t=>u≤t∧t≤X.length) (fun t=>t-u) X.length ?_
      simp only[go_sem]
      refine⟨?_,⟨i2,by omega⟩,?_⟩
      ·simp only[go_sem,hm']
       simp
      ·rintro t ⟨ht,ht2⟩
       by_cases htu:u<t
       ·obtain⟨t,rfl⟩:∃s,t=s+1:=⟨t-1,by omega⟩
        obtain⟨x,hx⟩:=K7 (show t<X.length by omega)
        have e1:(P++(X.take (t+1)++y::X.drop (t+1))++Q).map GFound.enc=two ((P++X.take t).map GFound.enc) x.enc [] y.enc ((X.drop (t+1)++Q).map GFound.enc):=by simp[two,Kk hx]
        have e2:(P++(X.take t++y::X.drop t)++Q).map GFound.enc=two ((P++X.take t).map GFound.enc) y.enc [] x.enc ((X.drop (t+1)++Q).map GFound.enc):=by simp[two,K26 hx]
        have hA:((P++X.take t).map GFound.enc).length=a+t:=by simp;omega
        have hL0:∀p q,(two ((P++X.take t).map GFound.enc) p [] q ((X.drop (t+1)++Q).map GFound.enc)).length=N:=fun p q=>by
         rw[←hlt t];simp[two,K26 hx]
        generalize (P++X.take t).map GFound.enc=A at*
        generalize (X.drop (t+1)++Q).map GFound.enc=C at*
        obtain⟨g1,g2,s1,s2,hL,d1,d2⟩:=K8z (A:=A) (B:=[]) (C:=C) (p:=a+t) (q:=a+t+1) hA (by simp)
        have k1:(0:Int)≤((a+t:Nat):Int):=by omega
        have k2:((a+t:Nat):Int)<(N:Int):=by omega
        have k3:(0:Int)≤((a+t+1:Nat):Int):=by omega
        have k4:((a+t+1:Nat):Int)<(N:Int):=by omega
        have k5:((a+t+1:Nat):Int)>((a+u:Nat):Int):=by omega
        have k6:IntKind.i64.wrap (((a+t+1:Nat):Int)-1)=((a+t:Nat):Int):=by
         rw[wI (by omega) (by omega)];omega
        rw[e1,show a+(t+1)=a+t+1 from rfl]
        simp only[go_sem,hL0,g1,g2,s1,s2,k1,k2,k3,k4,k5,k6]
        exact⟨t,⟨rfl,e2.symm⟩,⟨by omega,by omega⟩,by omega⟩
       ·obtain rfl:t=u:=by omega
        simp only[go_sem]
        rw[hres]
   ·obtain⟨M,hM⟩:∃M,M=(X.length+Y.length)/2:=⟨_,rfl⟩
    have hmid:(a+b)/2=a+M:=by omega
    have hxa:∀w,w<X.length→(P++X++Y++Q)[a+w]? =X[w]? :=fun w hw=>by
     rw[List.append_assoc,List.append_assoc,List.getElem?_append_right (by omega),List.getElem?_append_left (by omega)]
     congr 1;omega
    have hya:∀w,w<Y.length→(P++X++Y++Q)[m+w]? =Y[w]? :=fun w hw=>by
     rw[List.append_assoc,List.getElem?_append_right (by omega),List.getElem?_append_left (by omega)]
     congr 1;omega
    simp only[go_sem,shr1,K5s (i:=a) (j:=b) (by omega),hmid,wK (k:=a+M) (by omega),wN (a:=a+M) (b:=m) (by omega)]
    refine⟨fun h3=>?_,fun h3=>?_⟩
    ·have hs:IntKind.i64.wrap (((a+M+m:Nat):Int)-(b:Int))=((a+(M-Y.length):Nat):Int):=by
      rw[wI (by omega) (by omega)];omega
     simp only[go_sem,hs,wS1 (a:=a+M+m) (by omega) (by omega)]
     obtain⟨u0,hu0⟩:∃u,u=M-Y.length:=⟨_,rfl⟩
     obtain⟨v0,hv0⟩:∃v,v=M:=⟨_,rfl⟩
     rw[←hu0]
     have q1:u0≤v0:=by omega
     have q2:v0≤M:=by omega
     have q3:v0≤X.length:=by omega
     have q4:M≤u0+Y.length:=by omega
     have q5:u0=0∨Y.length≤M-u0:=by omega
     have q6:v0=M∨v0=X.length:=by omega
     have q7:a+M=a+v0:=by omega
     refine Kl (ι:=Nat×Nat) (fun s=>[(20,vI ((a+s.1:Nat):Int)),(21,vI ((a+s.2:Nat):Int))]) (fun s=>[]) (fun s=>SymI (ltc c) X Y M u0 v0 s.1 s.2) (fun s=>s.2-s.1) (u0,v0) ?_
     simp only[go_sem]
     refine⟨?_,⟨by omega,q1,by omega,q5.imp_right .inl,q6.imp_right .inl⟩,?_⟩
     ·simp only[go_sem]
      first|exact⟨by omega,by omega⟩|omega
     ·rintro ⟨u,v⟩ hI
      obtain⟨i1,i2,i3,i4,i5⟩:=hI
      simp only at i1 i2 i3 i4 i5
      simp only[go_sem,hN,shr1,K5s (i:=a+u) (j:=a+v) (by omega)]
      refine⟨fun hlt=>?_,fun hge=>?_⟩
      ·have hwx:(a+u+(a+v))/2=a+(u+v)/2:=by omega
       have w1:u≤(u+v)/2:=by omega
       have w2:(u+v)/2<v:=by omega
       rw[hwx]
       generalize (u+v)/2=w at w1 w2
       have hpc:IntKind.i64.wrap (((a+M+m-1:Nat):Int)-((a+w:Nat):Int))=((m+(M-1-w):Nat):Int):=by
        rw[wI (by omega) (by omega)];omega
       obtain⟨x,hx⟩:=K7 (show w<X.length by omega)
       obtain⟨y,hy⟩:=K7 (show M-1-w<Y.length by omega)
       have hxw:=(hxa w (by omega)).trans hx
       have hyw:=(hya (M-1-w) (by omega)).trans hy
       have k1:(0:Int)≤((a+w:Nat):Int):=by omega
       have k2:((a+w:Nat):Int)<(N:Int):=by omega
       have k3:(0:Int)≤((m+(M-1-w):Nat):Int):=by omega
       have k4:((m+(M-1-w):Nat):Int)<(N:Int):=by omega
       simp only[go_sem,wK (k:=a+w) (by omega),hpc,k1,k2,k3,k4,K1 hxw,K1 hyw]
       apply K0 (hc y x)
       simp only[go_sem,wN1 (a:=a+w) (by omega)]
       intro _
       refine⟨fun hn=>⟨(w+1,v),⟨rfl,rfl⟩,⟨by omega,by omega,i3,.inr (.inr ⟨y,x,by rw[show M-(w+1)=M-1-w by omega];exact hy,hx,by simpa[ltc]using hn⟩),i5⟩,by show v-(w+1)<v-u;omega⟩,fun hn=>⟨(u,w),⟨rfl,rfl⟩,⟨i1,w1,by omega,i4,.inr (.inr ⟨y,x,hy,hx,by simpa[ltc]using hn⟩)⟩,by show w-u<v-u;omega⟩⟩
      ·obtain rfl:u=v:=by omega
       obtain⟨A1,A2,B1,B2,rfl,rfl,hA1,hB1,huM,hres,t1,t2,t3,t4⟩:=SymI.fin hw ⟨i1,i2,i3,i4,i5⟩ sX sY q2 q3 q4
       have hend:IntKind.i64.wrap (((a+M+m:Nat):Int)-((a+u:Nat):Int))=((m+(M-u):Nat):Int):=by
        rw[wI (by omega) (by omega)];omega
       have r0:P++(A1++A2)++(B1++B2)++Q=(P++A1)++A2++B1++(B2++Q):=by simp
       have r1:(P++A1)++B1++A2++(B2++Q)=P++A1++B1++(A2++(B2++Q)):=by simp
       have r2:A2.length=0∨B1.length=0→P++(A1++A2)++(B1++B2)++Q=P++A1++B1++(A2++(B2++Q)):=fun h=>by
        rcases h with h|h
        ·rw[List.length_eq_zero_iff.1 h];simp
        ·rw[List.length_eq_zero_iff.1 h];simp
       have r3:A1.length=0∨B1.length=0→P++A1++B1++(A2++(B2++Q))=(P++Srt.mrg (ltc c) A1 B1)++A2++B2++Q:=fun h=>by
        rcases h with h|h
        ·rw[List.length_eq_zero_iff.1 h,Srt.mrg_nil_srt hw t3];simp
        ·rw[List.length_eq_zero_iff.1 h,Srt.mrg_nil];simp
       have r4:P++Srt.mrg (ltc c) A1 B1++(A2++(B2++Q))=(P++Srt.mrg (ltc c) A1 B1)++A2++B2++Q:=by simp
       have r5:A2.length=0∨B2.length=0→(P++Srt.mrg (ltc c) A1 B1)++A2++B2++Q=(P++Srt.mrg (ltc c) A1 B1)++Srt.mrg (ltc c) A2 B2++Q:=fun h=>by
        rcases h with h|h
        ·rw[List.length_eq_zero_iff.1 h,Srt.mrg_nil_srt hw t4];simp
        ·rw[List.length_eq_zero_iff.1 h,Srt.mrg_nil];simp
       have r6:P++Srt.mrg (ltc c) (A1++A2) (B1++B2)++Q=(P++Srt.mrg (ltc c) A1 B1)++Srt.mrg (ltc c) A2 B2++Q:=by rw[hres];simp
       obtain⟨⟨l0,l1,l2,l3,l4,l5⟩,⟨L1,L2,L3,L4,L5,L6,L7⟩,hn1,hn2,⟨eA,eB,eC,eD,eE,eF⟩,h7⟩:=symL (ltc c) ha hA1 hB1 huM hm' hb' hN hM hn h1 h2 hX hY
       clear hxa hya hres i4 i5
       rcases h7 with ⟨z1,z2,z3,z4⟩|⟨z1,z2,z3,z4⟩|⟨z1,z2,z3,z4⟩|⟨z1,z2,z3,z4⟩|⟨z1,z2,z3,z4⟩|⟨z1,z2,z3,z4⟩|⟨z1,z2,z3,z4⟩
       ·have fA:=K8 A2.length eA z2
        have fB:=K8 B1.length eB z3
        have fC:=K8 A1.length eC z1
        have fD:=K8 B1.length eD z3
        have fE:=K8 A2.length eE z2
        have fF:=K8 B2.length eF z4
        simp only[go_sem,hend,fA,fB,fC,fD,fE,fF]
        rw[r0]
        apply K6 (C6 (P++A1) A2 B1 (B2++Q) f L1 L2 L3 z2 z3)
        simp only[go_sem,fC,fD,l0]
        rw[r1]
        apply K6 (ih P A1 B1 (A2++(B2++Q)) hn1 ha L1 L4 z1 z3 t1 t3)
        simp only[go_sem,fE,fF,l4]
        rw[r4]
        apply K6 (ih (P++Srt.mrg (ltc c) A1 B1) A2 B2 Q hn2 L5 L6 L7 z2 z4 t2 t4)
        simp only[go_sem]
        rw[r6]
       ·have fA:=K8 A2.length eA z2
        have fB:=K8 B1.length eB z3
        have fC:=K15 A1.length eC z1
        have fD:=K8 B1.length eD z3
        have fE:=K8 A2.length eE z2
        have fF:=K8 B2.length eF z4
        simp only[go_sem,hend,fA,fB,fC,fD,fE,fF]
        rw[r0]
        apply K6 (C6 (P++A1) A2 B1 (B2++Q) f L1 L2 L3 z2 z3)
        simp only[go_sem,fC,fE,fF,l0]
        rw[r1]
        rw[r3 (.inl z1)]
        apply K6 (ih (P++Srt.mrg (ltc c) A1 B1) A2 B2 Q hn2 L5 L6 L7 z2 z4 t2 t4)
        simp only[go_sem]
        rw[r6]
       ·have fA:=K15 A2.length eA z2
        have fB:=K8 B1.length eB z3
        have fC:=K8 A1.length eC z1
        have fD:=K8 B1.length eD z3
        have fE:=K15 A2.length eE z2
        have fF:=K8 B2.length eF z4
        simp only[go_sem,hend,fA,fB,fC,fD,fE,fF]
        rw[r2 (.inl z2)]
        apply K6 (ih P A1 B1 (A2++(B2++Q)) hn1 ha L1 L4 z1 z3 t1 t3)
        simp only[go_sem,fE]
        rw[r4]
        rw[r5 (.inl z2)]
        rw[r6]
       ·have fA:=K8 A2.length eA z2
        have fB:=K15 B1.length eB z3
        have fC:=K8 A1.length eC z1
        have fD:=K15 B1.length eD z3
        have fE:=K8 A2.length eE z2
        have fF:=K8 B2.length eF z4
        simp only[go_sem,hend,fA,fB,fC,fD,fE,fF]
        rw[r2 (.inr z3)]
        rw[r3 (.inr z3)]
        apply K6 (ih (P++Srt.mrg (ltc c) A1 B1) A2 B2 Q hn2 L5 L6 L7 z2 z4 t2 t4)
        simp only[go_sem]
        rw[r6]
       ·have fA:=K8 A2.length eA z2
        have fB:=K8 B1.length eB z3
        have fC:=K8 A1.length eC z1
        have fD:=K8 B1.length eD z3
        have fE:=K8 A2.length eE z2
        have fF:=K15 B2.length eF z4
        simp only[go_sem,hend,fA,fB,fC,fD,fE,fF]
        rw[r0]
        apply K6 (C6 (P++A1) A2 B1 (B2++Q) f L1 L2 L3 z2 z3)
        simp only[go_sem,fC,fD,l0]
        rw[r1]
        apply K6 (ih P A1 B1 (A2++(B2++Q)) hn1 ha L1 L4 z1 z3 t1 t3)
        simp only[go_sem,fE,fF]
        rw[r4]
        rw[r5 (.inr z4)]
        rw[r6]
       ·have fA:=K8 A2.length eA z2
        have fB:=K8 B1.length eB z3
        have fC:=K15 A1.length eC z1
        have fD:=K8 B1.length eD z3
        have fE:=K8 A2.length eE z2
        have fF:=K15 B2.length eF z4
        simp only[go_sem,hend,fA,fB,fC,fD,fE,fF]
        rw[r0]
        apply K6 (C6 (P++A1) A2 B1 (B2++Q) f L1 L2 L3 z2 z3)
        simp only[go_sem,fC,fE,fF]
        rw[r1]
        rw[r3 (.inl z1)]
        rw[r5 (.inr z4)]
        rw[r6]
       ·have fA:=K15 A2.length eA z2
        have fB:=K15 B1.length eB z3
        have fC:=K8 A1.length eC z1
        have fD:=K15 B1.length eD z3
        have fE:=K15 A2.length eE z2
        have fF:=K8 B2.length eF z4
        simp only[go_sem,hend,fA,fB,fC,fD,fE,fF]
        rw[r2 (.inl z2)]
        rw[r3 (.inr z3)]
        rw[r5 (.inl z2)]
        rw[r6]
    ·simp only[go_sem,wS1 (a:=a+M+m) (by omega) (by omega)]
     obtain⟨u0,hu0⟩:∃u,u=0:=⟨_,rfl⟩
     obtain⟨v0,hv0⟩:∃v,v=X.length:=⟨_,rfl⟩
     have q1:u0≤v0:=by omega
     have q2:v0≤M:=by omega
     have q3:v0≤X.length:=by omega
     have q4:M≤u0+Y.length:=by omega
     have q5:u0=0∨Y.length≤M-u0:=by omega
     have q6:v0=M∨v0=X.length:=by omega
     refine Kl (ι:=Nat×Nat) (fun s=>[(20,vI ((a+s.1:Nat):Int)),(21,vI ((a+s.2:Nat):Int))]) (fun s=>[]) (fun s=>SymI (ltc c) X Y M u0 v0 s.1 s.2) (fun s=>s.2-s.1) (u0,v0) ?_
     simp only[go_sem]
     refine⟨?_,⟨by omega,q1,by omega,q5.imp_right .inl,q6.imp_right .inl⟩,?_⟩
     ·simp only[go_sem]
      first|exact⟨by omega,by omega⟩|omega
     ·rintro ⟨u,v⟩ hI
      obtain⟨i1,i2,i3,i4,i5⟩:=hI
      simp only at i1 i2 i3 i4 i5
      simp only[go_sem,hN,shr1,K5s (i:=a+u) (j:=a+v) (by omega)]
      refine⟨fun hlt=>?_,fun hge=>?_⟩
      ·have hwx:(a+u+(a+v))/2=a+(u+v)/2:=by omega
       have w1:u≤(u+v)/2:=by omega
       have w2:(u+v)/2<v:=by omega
       rw[hwx]
       generalize (u+v)/2=w at w1 w2
       have hpc:IntKind.i64.wrap (((a+M+m-1:Nat):Int)-((a+w:Nat):Int))=((m+(M-1-w):Nat):Int):=by
        rw[wI (by omega) (by omega)];omega
       obtain⟨x,hx⟩:=K7 (show w<X.length by omega)
       obtain⟨y,hy⟩:=K7 (show M-1-w<Y.length by omega)
       have hxw:=(hxa w (by omega)).trans hx
       have hyw:=(hya (M-1-w) (by omega)).trans hy
       have k1:(0:Int)≤((a+w:Nat):Int):=by omega
       have k2:((a+w:Nat):Int)<(N:Int):=by omega
       have k3:(0:Int)≤((m+(M-1-w):Nat):Int):=by omega
       have k4:((m+(M-1-w):Nat):Int)<(N:Int):=by omega
       simp only[go_sem,wK (k:=a+w) (by omega),hpc,k1,k2,k3,k4,K1 hxw,K1 hyw]
       apply K0 (hc y x)
       simp only[go_sem,wN1 (a:=a+w) (by omega)]
       intro _
       refine⟨fun hn=>⟨(w+1,v),⟨rfl,rfl⟩,⟨by omega,by omega,i3,.inr (.inr ⟨y,x,by rw[show M-(w+1)=M-1-w by omega];exact hy,hx,by simpa[ltc]using hn⟩),i5⟩,by show v-(w+1)<v-u;omega⟩,fun hn=>⟨(u,w),⟨rfl,rfl⟩,⟨i1,w1,by omega,i4,.inr (.inr ⟨y,x,hy,hx,by simpa[ltc]using hn⟩)⟩,by show w-u<v-u;omega⟩⟩
      ·obtain rfl:u=v:=by omega
       obtain⟨A1,A2,B1,B2,rfl,rfl,hA1,hB1,huM,hres,t1,t2,t3,t4⟩:=SymI.fin hw ⟨i1,i2,i3,i4,i5⟩ sX sY q2 q3 q4
       have hend:IntKind.i64.wrap (((a+M+m:Nat):Int)-((a+u:Nat):Int))=((m+(M-u):Nat):Int):=by
        rw[wI (by omega) (by omega)];omega
       have r0:P++(A1++A2)++(B1++B2)++Q=(P++A1)++A2++B1++(B2++Q):=by simp
       have r1:(P++A1)++B1++A2++(B2++Q)=P++A1++B1++(A2++(B2++Q)):=by simp
       have r2:A2.length=0∨B1.length=0→P++(A1++A2)++(B1++B2)++Q=P++A1++B1++(A2++(B2++Q)):=fun h=>by
        rcases h with h|h
        ·rw[List.length_eq_zero_iff.1 h];simp
        ·rw[List.length_eq_zero_iff.1 h];simp
       have r3:A1.length=0∨B1.length=0→P++A1++B1++(A2++(B2++Q))=(P++Srt.mrg (ltc c) A1 B1)++A2++B2++Q:=fun h=>by
        rcases h with h|h
        ·rw[List.length_eq_zero_iff.1 h,Srt.mrg_nil_srt hw t3];simp
        ·rw[List.length_eq_zero_iff.1 h,Srt.mrg_nil];simp
       have r4:P++Srt.mrg (ltc c) A1 B1++(A2++(B2++Q))=(P++Srt.mrg (ltc c) A1 B1)++A2++B2++Q:=by simp
       have r5:A2.length=0∨B2.length=0→(P++Srt.mrg (ltc c) A1 B1)++A2++B2++Q=(P++Srt.mrg (ltc c) A1 B1)++Srt.mrg (ltc c) A2 B2++Q:=fun h=>by
        rcases h with h|h
        ·rw[List.length_eq_zero_iff.1 h,Srt.mrg_nil_srt hw t4];simp
        ·rw[List.length_eq_zero_iff.1 h,Srt.mrg_nil];simp
       have r6:P++Srt.mrg (ltc c) (A1++A2) (B1++B2)++Q=(P++Srt.mrg (ltc c) A1 B1)++Srt.mrg (ltc c) A2 B2++Q:=by rw[hres];simp
       obtain⟨⟨l0,l1,l2,l3,l4,l5⟩,⟨L1,L2,L3,L4,L5,L6,L7⟩,hn1,hn2,⟨eA,eB,eC,eD,eE,eF⟩,h7⟩:=symL (ltc c) ha hA1 hB1 huM hm' hb' hN hM hn h1 h2 hX hY
       clear hxa hya hres i4 i5
       rcases h7 with ⟨z1,z2,z3,z4⟩|⟨z1,z2,z3,z4⟩|⟨z1,z2,z3,z4⟩|⟨z1,z2,z3,z4⟩|⟨z1,z2,z3,z4⟩|⟨z1,z2,z3,z4⟩|⟨z1,z2,z3,z4⟩
       ·have fA:=K8 A2.length eA z2
        have fB:=K8 B1.length eB z3
        have fC:=K8 A1.length eC z1
        have fD:=K8 B1.length eD z3
        have fE:=K8 A2.length eE z2
        have fF:=K8 B2.length eF z4
        simp only[go_sem,hend,fA,fB,fC,fD,fE,fF]
        rw[r0]
        apply K6 (C6 (P++A1) A2 B1 (B2++Q) f L1 L2 L3 z2 z3)
        simp only[go_sem,fC,fD,l0]
        rw[r1]
        apply K6 (ih P A1 B1 (A2++(B2++Q)) hn1 ha L1 L4 z1 z3 t1 t3)
        simp only[go_sem,fE,fF,l4]
        rw[r4]
        apply K6 (ih (P++Srt.mrg (ltc c) A1 B1) A2 B2 Q hn2 L5 L6 L7 z2 z4 t2 t4)
        simp only[go_sem]
        rw[r6]
       ·have fA:=K8 A2.length eA z2
        have fB:=K8 B1.length eB z3
        have fC:=K15 A1.length eC z1
        have fD:=K8 B1.length eD z3
        have fE:=K8 A2.length eE z2
        have fF:=K8 B2.length eF z4
        simp only[go_sem,hend,fA,fB,fC,fD,fE,fF]
        rw[r0]
        apply K6 (C6 (P++A1) A2 B1 (B2++Q) f L1 L2 L3 z2 z3)
        simp only[go_sem,fC,fE,fF,l0]
        rw[r1]
        rw[r3 (.inl z1)]
        apply K6 (ih (P++Srt.mrg (ltc c) A1 B1) A2 B2 Q hn2 L5 L6 L7 z2 z4 t2 t4)
        simp only[go_sem]
        rw[r6]
       ·have fA:=K15 A2.length eA z2
        have fB:=K8 B1.length eB z3
        have fC:=K8 A1.length eC z1
        have fD:=K8 B1.length eD z3
        have fE:=K15 A2.length eE z2
        have fF:=K8 B2.length eF z4
        simp only[go_sem,hend,fA,fB,fC,fD,fE,fF]
        rw[r2 (.inl z2)]
        apply K6 (ih P A1 B1 (A2++(B2++Q)) hn1 ha L1 L4 z1 z3 t1 t3)
        simp only[go_sem,fE]
        rw[r4]
        rw[r5 (.inl z2)]
        rw[r6]
       ·have fA:=K8 A2.length eA z2
        have fB:=K15 B1.length eB z3
        have fC:=K8 A1.length eC z1
        have fD:=K15 B1.length eD z3
        have fE:=K8 A2.length eE z2
        have fF:=K8 B2.length eF z4
        simp only[go_sem,hend,fA,fB,fC,fD,fE,fF]
        rw[r2 (.inr z3)]
        rw[r3 (.inr z3)]
        apply K6 (ih (P++Srt.mrg (ltc c) A1 B1) A2 B2 Q hn2 L5 L6 L7 z2 z4 t2 t4)
        simp only[go_sem]
        rw[r6]
       ·have fA:=K8 A2.length eA z2
        have fB:=K8 B1.length eB z3
        have fC:=K8 A1.length eC z1
        have fD:=K8 B1.length eD z3
        have fE:=K8 A2.length eE z2
        have fF:=K15 B2.length eF z4
        simp only[go_sem,hend,fA,fB,fC,fD,fE,fF]
        rw[r0]
        apply K6 (C6 (P++A1) A2 B1 (B2++Q) f L1 L2 L3 z2 z3)
        simp only[go_sem,fC,fD,l0]
        rw[r1]
        apply K6 (ih P A1 B1 (A2++(B2++Q)) hn1 ha L1 L4 z1 z3 t1 t3)
        simp only[go_sem,fE,fF]
        rw[r4]
        rw[r5 (.inr z4)]
        rw[r6]
       ·have fA:=K8 A2.length eA z2
        have fB:=K8 B1.length eB z3
        have fC:=K15 A1.length eC z1
        have fD:=K8 B1.length eD z3
        have fE:=K8 A2.length eE z2
        have fF:=K15 B2.length eF z4
        simp only[go_sem,hend,fA,fB,fC,fD,fE,fF]
        rw[r0]
        apply K6 (C6 (P++A1) A2 B1 (B2++Q) f L1 L2 L3 z2 z3)
        simp only[go_sem,fC,fE,fF]
        rw[r1]
        rw[r3 (.inl z1)]
        rw[r5 (.inr z4)]
        rw[r6]
       ·have fA:=K15 A2.length eA z2
        have fB:=K15 B1.length eB z3
        have fC:=K8 A1.length eC z1
        have fD:=K15 B1.length eD z3
        have fE:=K15 A2.length eE z2
        have fF:=K8 B2.length eF z4
        simp only[go_sem,hend,fA,fB,fC,fD,fE,fF]
        rw[r2 (.inl z2)]
        rw[r3 (.inr z3)]
        rw[r5 (.inl z2)]
        rw[r6]
end Go.Proofs.YtjneccbpkckdfaaGreatR
namespace Go.Proofs.YtjneccbpkckdfaaGreatR
open Go Go.RowKit Go.Proofs
open Nat (reduceEqDiff reduceLT reduceLeDiff reduceAdd reduceMul)
open List (reduceReplicate)
namespace Srt
variable {α:Type} {lt:α→α→Bool}
def blks(lt:α→α→Bool)(s:Nat):Nat→List α→List α
 |0,l=>l
 |k+1,l=>isort lt (l.take s)++blks lt s k (l.drop s)
theorem len_blks{s:Nat}:∀ {k:Nat} {l:List α},(blks lt s k l).length=l.length
 |0,l=>rfl
 |k+1,l=>by
  simp only[blks,List.length_append,len_isort,len_blks,List.length_take,List.length_drop];omega
theorem blks_snoc{s:Nat}:∀ {k:Nat} {l:List α},(k+1)*s≤l.length→∃A,A.length=k*s∧blks lt s k l=A++((l.drop (k*s)).take s++l.drop ((k+1)*s))∧blks lt s (k+1) l=A++(isort lt ((l.drop (k*s)).take s)++l.drop ((k+1)*s))
 |0,l,h=>⟨[],by simp,by simp[blks],by simp[blks]⟩
 |k+1,l,h=>by
  have h':(k+1)*s≤(l.drop s).length:=by
   rw[Nat.succ_mul]at h
   simp only[List.length_drop];omega
  obtain⟨A,hA,e1,e2⟩:=blks_snoc (k:=k) (l:=l.drop s) h'
  have d1:s+k*s=(k+1)*s:=by rw[Nat.succ_mul];omega
  have d2:s+(k+1)*s=(k+1+1)*s:=by rw[Nat.succ_mul (k+1)];omega
  have hs:s≤l.length:=by rw[Nat.succ_mul]at h;omega
  refine⟨isort lt (l.take s)++A,?_,?_,?_⟩
  ·rw[List.length_append,len_isort,List.length_take,Nat.min_eq_left hs,hA,d1]
  ·rw[blks,e1,List.drop_drop,List.drop_drop,d1,d2,List.append_assoc]
  ·rw[blks,e2,List.drop_drop,List.drop_drop,d1,d2,List.append_assoc]
theorem blks_last{s:Nat}:∀ {k:Nat} {l:List α},k*s≤l.length→l.length<(k+1)*s→∃A,A.length=k*s∧blks lt s k l=A++l.drop (k*s)∧blks lt s (k+1) l=A++isort lt (l.drop (k*s))
 |0,l,_,h=>by
  have h':l.length≤s:=by omega
  exact⟨[],by simp,by simp[blks],by simp[blks,List.take_of_length_le h',List.drop_of_length_le h']⟩
 |k+1,l,h0,h=>by
  have d1:s+k*s=(k+1)*s:=by rw[Nat.succ_mul];omega
  have d2:s+(k+1)*s=(k+1+1)*s:=by rw[Nat.succ_mul (k+1)];omega
  have h1:k*s+s≤l.length:=by rw[←Nat.succ_mul];exact h0
  have h2:l.length<k*s+s+s:=by rw[←Nat.succ_mul,←Nat.succ_mul];exact h
  obtain⟨A,hA,e1,e2⟩:=blks_last (k:=k) (l:=l.drop s) (Nat.le_trans (Nat.le_sub_of_add_le h1) (by rw[List.length_drop];exact Nat.le_refl _)) (by rw[List.length_drop,Nat.succ_mul];exact Nat.sub_lt_right_of_lt_add (Nat.le_trans (Nat.le_add_left _ _) h1) h2)
  have hs:s≤l.length:=Nat.le_trans (Nat.le_add_left _ _) h1
  refine⟨isort lt (l.take s)++A,?_,?_,?_⟩
  ·rw[List.length_append,len_isort,List.length_take,Nat.min_eq_left hs,hA,d1]
  ·rw[blks,e1,List.drop_drop,d1,List.append_assoc]
  ·rw[blks,e2,List.drop_drop,d1,List.append_assoc]
theorem blk_le{s:Nat}{l:List α}(h:l.length≤s):blk lt s l=isort lt l:=by
 rw[blk,dif_pos (.inr h)]
theorem K4t{s:Nat}{l:List α}:blk lt s l=isort lt (l.take s)++blk lt s (l.drop s):=by
 by_cases h:s=0∨l.length≤s
 ·rcases h with rfl|h
  ·simp[isort,mrg]
  ·rw[blk_le h,List.take_of_length_le h,List.drop_of_length_le h,blk_le (by simp)]
   simp[isort,mrg]
 ·rw[blk,dif_neg h]
theorem len_blk{s:Nat}:∀ {n:Nat} {l:List α},l.length≤n→(blk lt s l).length=l.length
 |0,l,h=>by rw[blk_le (by omega),len_isort]
 |n+1,l,h=>by
  by_cases h2:s=0∨l.length≤s
  ·rw[blk,dif_pos h2,len_isort]
  ·rw[K4t,List.length_append,len_isort,len_blk (n:=n) (by simp only[List.length_drop];omega),List.length_take,List.length_drop]
   omega
theorem blks_blk{s:Nat}:∀ {k:Nat} {l:List α},k*s≤l.length→l.length<(k+1)*s→blks lt s (k+1) l=blk lt s l
 |0,l,_,h=>by
  have h':l.length≤s:=by omega
  rw[blk_le h']
  simp[blks,List.take_of_length_le h',List.drop_of_length_le h']
 |k+1,l,h0,h=>by
  rw[Nat.succ_mul]at h0 h
  rw[blks,K4t,blks_blk (k:=k) (l:=l.drop s) (by rw[List.length_drop];omega) (by rw[List.length_drop];omega)]
def mix(lt:α→α→Bool)(s:Nat):Nat→List α→List α
 |0,l=>blk lt s l
 |k+1,l=>isort lt (l.take (2*s))++mix lt s k (l.drop (2*s))
theorem len_mix{s:Nat}:∀ {k:Nat} {l:List α},(mix lt s k l).length=l.length
 |0,l=>len_blk (Nat.le_refl _)
 |k+1,l=>by
  rw[mix,List.length_append,len_isort,len_mix,List.length_take,List.length_drop];omega
theorem mix_step(hw:Swo lt){s:Nat}:∀ {k:Nat} {l:List α},k*(2*s)+2*s≤l.length→∃P X Y Q,P.length=k*(2*s)∧X.length=s∧Y.length=s∧srt lt X∧srt lt Y∧mix lt s k l=P++X++Y++Q∧mix lt s (k+1) l=P++mrg lt X Y++Q
 |0,l,h=>by
  refine⟨[],isort lt (l.take s),isort lt ((l.drop s).take s),blk lt s (l.drop (2*s)),by simp,?_,?_,srt_isort hw _,srt_isort hw _,?_,?_⟩
  ·rw[len_isort,List.length_take];omega
  ·rw[len_isort,List.length_take,List.length_drop];omega
  ·rw[mix,K4t,K4t (l:=l.drop s),List.drop_drop,show s+s=2*s by omega]
   simp
  ·rw[←K6w hw,mix,mix,List.nil_append,←List.take_add,show s+s=2*s by omega]
 |k+1,l,h=>by
  have e:(k+1)*(2*s)=k*(2*s)+2*s:=Nat.succ_mul ..
  rw[e]at h
  obtain⟨P,X,Y,Q,h1,h2,h3,h4,h5,h6,h7⟩:=mix_step hw (s:=s) (k:=k) (l:=l.drop (2*s)) (by rw[List.length_drop];omega)
  refine⟨isort lt (l.take (2*s))++P,X,Y,Q,?_,h2,h3,h4,h5,?_,?_⟩
  ·rw[List.length_append,len_isort,h1,List.length_take,e];omega
  ·rw[mix,h6];simp
  ·rw[mix,h7];simp
theorem mix_end(hw:Swo lt){s:Nat}:∀ {k:Nat} {l:List α},k*(2*s)≤l.length→l.length<k*(2*s)+2*s→
  (k*(2*s)+s<l.length→∃P X Y,P.length=k*(2*s)∧X.length=s∧k*(2*s)+s+Y.length=l.length∧srt lt X∧srt lt Y∧mix lt s k l=P++X++Y∧blk lt (2*s) l=P++mrg lt X Y)∧
  (l.length≤k*(2*s)+s→mix lt s k l=blk lt (2*s) l)
 |0,l,h0,h=>by
  refine⟨fun h1=>⟨[],isort lt (l.take s),isort lt (l.drop s),by simp,?_,?_,srt_isort hw _,srt_isort hw _,?_,?_⟩,fun h1=>?_⟩
  ·rw[len_isort,List.length_take];omega
  ·rw[len_isort,List.length_drop];omega
  ·rw[mix,K4t,blk_le (l:=l.drop s) (by rw[List.length_drop];omega),List.nil_append]
  ·rw[←K6w hw,List.take_append_drop,blk_le (by omega),List.nil_append]
  ·rw[mix,blk_le (by omega),blk_le (by omega)]
 |k+1,l,h0,h=>by
  have e:(k+1)*(2*s)=k*(2*s)+2*s:=Nat.succ_mul ..
  rw[e]at h h0
  obtain⟨i1,i2⟩:=mix_end hw (s:=s) (k:=k) (l:=l.drop (2*s)) (by rw[List.length_drop];omega) (by rw[List.length_drop];omega)
  rw[List.length_drop]at i1 i2
  rw[e]
  refine⟨fun h1=>?_,fun h1=>?_⟩
  ·obtain⟨P,X,Y,h1,h2,h3,h4,h5,h6,h7⟩:=i1 (by omega)
   refine⟨isort lt (l.take (2*s))++P,X,Y,?_,h2,by omega,h4,h5,?_,?_⟩
   ·rw[List.length_append,len_isort,h1,List.length_take];omega
   ·rw[mix,h6];simp
   ·rw[K4t,h7];simp
  ·rw[mix,i2 (by omega),←K4t]
end Srt
def M10:MC:=
(Zs [.mv 6 (ci 20)] [0,1,2,6] (Zs [mS 10 6,.mv 7 (ci 0),mS 8 10] [0,1,2,6,7,8] (.seq (.block 0 (.loop ([0,1,2,6,7,8],[]) (.seq (Zs [mS 11 8,mS 12 1,bS 13 .leq 11 12] [0,1,2,6,7,8,13] (cX 13 0))
(.block 1 (Zs [mS 14 0,mS 15 7,mS 16 8,mS 17 2,.callI 18 [] (.f N8) [.s 14,.s 15,.s 16,.s 17] [0] []] [0,1,2,6,8] (Zs [mS 19 8,mS 7 19] [0,1,2,6,7,8] (pr [mS 20 8,mS 21 6,bS 22 .add 20 21,mS 8 22] [0,1,2,6,7,8])))))))
(Zs [mS 23 0,mS 24 7,mS 25 1,mS 26 2,.callI 27 [] (.f N8) [.s 23,.s 24,.s 25,.s 26] [0] []] [0,1,2,6] (.block 2 (.loop ([0,1,2,6],[]) (.seq (Zs [mS 28 6,mS 29 1,bS 30 .lss 28 29] [0,1,2,6,30] (cX 30 2))
(.block 3 (Zs [mS 31 6,.bin 32 false .mul (ci 2) (.s 31),.mv 7 (ci 0),mS 8 32] [0,1,2,6,7,8] (.seq (.block 4 (.loop ([0,1,2,6,7,8],[]) (.seq (Zs [mS 33 8,mS 34 1,bS 35 .leq 33 34] [0,1,2,6,7,8,35] (cX 35 4))
(.block 5 (Zs [mS 36 0,mS 37 7,mS 38 7,mS 39 6,bS 40 .add 38 39,mS 41 8,mS 42 2,.callI 43 [] (.f N5) [.s 36,.s 37,.s 40,.s 41,.s 42] [0] []] [0,1,2,6,8] (Zs [mS 44 8,mS 7 44] [0,1,2,6,7,8] (pr [mS 45 8,mS 46 6,.bin 47 false .mul (ci 2) (.s 46),bS 48 .add 45 47,mS 8 48] [0,1,2,6,7,8])))))))
(.seq (Zs [mS 49 7,mS 50 6,bS 51 .add 49 50,mS 9 51] [0,1,2,6,7,9] (Zs [mS 52 9,mS 53 1,bS 54 .lss 52 53] [0,1,2,6,7,9,54] (.cond (.s 54) (pr [mS 55 0,mS 56 7,mS 57 9,mS 58 1,mS 59 2,.callI 60 [] (.f N5) [.s 55,.s 56,.s 57,.s 58,.s 59] [0] []] [0,1,2,6]) .skip)))
(pr [mS 61 6,bC 62 .mul 61 2,mS 6 62] [0,1,2,6]))))))))))))
set_option maxHeartbeats 4000000 in
theorem C91(X:List GFound)(f:FuncId)(c:GFound→GFound→Int)(hc:∀x y,Ctr Tryz.prog f [aS x.enc,aS y.enc] [rI (c x y)])(hw:Srt.Swo (ltc c)):CtrI Tryz.prog N12 [oL 6 (X.map GFound.enc),iI X.length,fI f] [some (6,(Srt.isort (ltc c) X).map GFound.enc)] []:=by
 refine K3j (M:=M10) (m:=0) (n:=63) (res:=[]) hmix Tryz.func239 rfl (by kernel_rfl) rfl (by kernel_rfl) (by kernel_rfl) (Nat.le_of_ble_eq_true rfl) rfl rfl ?_;unfold M10
 intro hbd
 have hl:=K3m hbd
 clear hbd
 simp only[roomB]at hl
 simp only[go_sem]
 refine Kl (fun k:Nat=>[(7,vI ((k*20:Nat):Int)),(8,vI (((k+1)*20:Nat):Int))]) (fun k=>[(0,⟨1,.row true 6 ((Srt.blks (ltc c) 20 k X).map GFound.enc)⟩)]) (fun k=>k*20≤X.length) (fun k=>X.length-k*20) 0 ?_
 simp only[go_sem]
 refine⟨?_,by omega,?_⟩
 ·simp only[go_sem]
  exact⟨rfl,rfl⟩
 ·intro k hk
  simp only[go_sem,Srt.len_blks]
  refine⟨fun hlt=>?_,fun hge=>?_⟩
  ·obtain⟨A,hA,e1,e2⟩:=Srt.blks_snoc (lt:=ltc c) (s:=20) (k:=k) (l:=X) (by omega)
   have g1:=congrArg List.length e1
   have g2:=congrArg List.length e2
   rw[Srt.len_blks]at g1 g2
   rw[←List.append_assoc]at e1 e2 g1 g2
   rw[e1]
   apply K6 (C1b A _ _ f c hc hw hA (by simp[hA];omega))
   have w1:IntKind.i64.wrap ((((k+1)*20:Nat):Int)+20)=(((k+1+1)*20:Nat):Int):=by
    rw[wI (by omega) (by omega)];omega
   simp only[go_sem,w1]
   exact⟨k+1,⟨⟨rfl,rfl⟩,by rw[e2]⟩,by omega,by omega⟩
  ·obtain⟨A,hA,e1,e2⟩:=Srt.blks_last (lt:=ltc c) (s:=20) (k:=k) (l:=X) (by omega) (by omega)
   have g1:=congrArg List.length e1
   have g2:=congrArg List.length e2
   rw[Srt.len_blks]at g1 g2
   have e1':A++X.drop (k*20)=A++X.drop (k*20)++[]:=by simp
   rw[e1,e1']
   apply K6 (C1b A _ [] f c hc hw hA (by simp[hA];omega))
   rw[List.append_nil,←e2]
   rw[Srt.blks_blk (by omega) (by omega)]
   simp only[go_sem]
   refine Kl (fun s:Nat=>[(6,vI (s:Int))]) (fun s=>[(0,⟨1,.row true 6 ((Srt.blk (ltc c) s X).map GFound.enc)⟩)]) (fun s=>0<s∧s≤2*X.length+20) (fun s=>X.length-s) 20 ?_
   simp only[go_sem]
   refine⟨?_,⟨by omega,by omega⟩,?_⟩
   ·simp only[go_sem]
    first|rfl|exact⟨rfl,rfl⟩
   ·rintro s ⟨hs0,hs1⟩
    clear e1' e1 e2 g1 g2 hA A hge hk
    have w2:IntKind.i64.wrap (2*(s:Int))=((2*s:Nat):Int):=by rw[wI (by omega) (by omega)];omega
    have w3:IntKind.i64.wrap ((s:Int)*2)=((2*s:Nat):Int):=by rw[wI (by omega) (by omega)];omega
    simp only[go_sem,w2]
    refine⟨fun hlt=>?_,fun hge=>?_⟩
    ·refine Kl (fun k:Nat=>[(7,vI ((k*(2*s):Nat):Int)),(8,vI ((k*(2*s)+2*s:Nat):Int))]) (fun k=>[(0,⟨1,.row true 6 ((Srt.mix (ltc c) s k X).map GFound.enc)⟩)]) (fun k=>k*(2*s)≤X.length) (fun k=>X.length-k*(2*s)) 0 ?_
     simp only[go_sem]
     refine⟨?_,by omega,?_⟩
     ·simp only[go_sem]
      refine⟨⟨?_,?_⟩,rfl⟩
      ·rw[Nat.zero_mul];rfl
      ·rw[Nat.zero_mul,Nat.zero_add]
     ·intro k hk
      simp only[go_sem,Srt.len_mix,w3]
      refine⟨fun hle=>?_,fun hgt=>?_⟩
      ·obtain⟨P,A,B,Q,m1,m2,m3,m4,m5,m6,m7⟩:=Srt.mix_step hw (s:=s) (k:=k) (l:=X) (by omega)
       have g1:(P++A++B++Q).length=X.length:=by rw[←m6,Srt.len_mix]
       have g2:(P++Srt.mrg (ltc c) A B++Q).length=X.length:=by rw[←m7,Srt.len_mix]
       have wa:IntKind.i64.wrap (((k*(2*s):Nat):Int)+(s:Int))=((k*(2*s)+s:Nat):Int):=wN (by omega)
       have wb:IntKind.i64.wrap (((k*(2*s)+2*s:Nat):Int)+((2*s:Nat):Int))=(((k+1)*(2*s)+2*s:Nat):Int):=by
        rw[wN (by omega),Nat.succ_mul k (2*s)]
       rw[m6]
       simp only[go_sem,wa]
       apply K6 (C1q f c hc hw _ P A B Q (Nat.le_refl _) m1 (m:=k*(2*s)+s) (b:=k*(2*s)+2*s) (by rw[List.length_append];omega) (by rw[List.length_append,List.length_append];omega) (by omega) (by omega) m4 m5)
       simp only[go_sem]
       have hj:(k+1)*(2*s)=k*(2*s)+2*s:=Nat.succ_mul k (2*s)
       exact⟨k+1,⟨⟨by rw[hj],by rw[w2,wb]⟩,by rw[m7]⟩,by omega,by omega⟩
      ·obtain⟨i1,i2⟩:=Srt.mix_end hw (s:=s) (k:=k) (l:=X) hk (by omega)
       have wa:IntKind.i64.wrap (((k*(2*s):Nat):Int)+(s:Int))=((k*(2*s)+s:Nat):Int):=wN (by omega)
       simp only[go_sem,wa]
       refine⟨fun hlt2=>?_,fun hge2=>?_⟩
       ·obtain⟨P,A,B,m1,m2,m3,m4,m5,m6,m7⟩:=i1 (by omega)
        have g1:(P++A++B++[]).length=X.length:=by rw[List.append_nil,←m6,Srt.len_mix]
        have g2:(P++Srt.mrg (ltc c) A B++[]).length=X.length:=by rw[List.append_nil,←m7,Srt.len_blk (Nat.le_refl _)]
        rw[m6,←List.append_nil (P++A++B)]
        apply K6 (C1q f c hc hw _ P A B [] (Nat.le_refl _) m1 (m:=k*(2*s)+s) (b:=X.length) (by rw[List.length_append];omega) (by rw[List.length_append,List.length_append];omega) (by omega) (by omega) m4 m5)
        simp only[go_sem,w3]
        exact⟨2*s,⟨rfl,by rw[m7]⟩,⟨by omega,by omega⟩,by omega⟩
       ·exact⟨2*s,⟨rfl,by rw[i2 (by omega)]⟩,⟨by omega,by omega⟩,by omega⟩
    ·rw[Srt.blk_le (by omega)]
end Go.Proofs.YtjneccbpkckdfaaGreatR
namespace Go.Proofs.YtjneccbpkckdfaaGreatR
open Go Go.RowKit Go.Proofs
open Nat (reduceEqDiff reduceLT reduceLeDiff reduceAdd reduceMul)
open List (reduceReplicate)
def Mg:MC:=
(pr [mS 4 0,mS 5 0,nS 6 5,mS 7 1,.callI 8 [] (.f N12) [.s 4,.s 6,.s 7] [0] []] [])
theorem C87(X:List GFound)(f:FuncId)(c:GFound→GFound→Int)(hc:∀x y,Ctr Tryz.prog f [aS x.enc,aS y.enc] [rI (c x y)])(hw:Srt.Swo (ltc c)):CtrI Tryz.prog Nh [oL 6 (X.map GFound.enc),fI f] [some (6,(Srt.isort (ltc c) X).map GFound.enc)] []:=by
 refine K3j (M:=Mg) (m:=0) (n:=9) (res:=[]) hmix Tryz.func128 rfl (by kernel_rfl) rfl (by kernel_rfl) (by kernel_rfl) (Nat.le_of_ble_eq_true rfl) rfl rfl ?_;unfold Mg
 intro hbd
 have hl:=K3m hbd
 clear hbd
 simp only[roomB]at hl
 simp only[go_sem]
 apply K6 (C91 X f c hc hw)
 simp only[go_sem]
 try intros
 try trivial
end Go.Proofs.YtjneccbpkckdfaaGreatR
namespace Go.Proofs.YtjneccbpkckdfaaGreatR
open Go Go.RowKit Go.Proofs
open Nat (reduceEqDiff reduceLT reduceLeDiff reduceAdd reduceMul)
open List (reduceReplicate)
attribute [go_sem] eqB
def K4a(a b:GAddress):Bool:=decide (a.Host<b.Host∨a.Host=b.Host∧(a.Path<b.Path∨a.Path=b.Path∧a.Query<b.Query))
def cmpI(x y:Int):Int:=if x<y then -1 else if y<x then 1 else 0
def K5p(a b:GFound):Int:=if K4a a.Address b.Address=true then -1 else if K4a b.Address a.Address=true then 1 else cmpI a.Tick b.Tick
def K1s(a b:GFound):Bool:=decide (a.Address.Host<b.Address.Host∨a.Address.Host=b.Address.Host∧(a.Address.Path<b.Address.Path∨a.Address.Path=b.Address.Path∧(a.Address.Query<b.Address.Query∨a.Address.Query=b.Address.Query∧a.Tick<b.Tick)))
theorem K80:ltc K5p=K1s:=by
 funext a b
 unfold ltc K5p K1s K4a cmpI
 rw[Bool.eq_iff_iff]
 simp only[decide_eq_true_eq]
 split
 ·simp;omega
 ·split
  ·simp;omega
  ·split
   ·simp;omega
   ·split<;>simp<;>omega
theorem fndSwo:Srt.Swo (ltc K5p):=by
 rw[K80]
 constructor
 ·intro x y h
  simp only[K1s,decide_eq_true_eq,decide_eq_false_iff_not]at*
  omega
 ·intro x y z h
  simp only[K1s,decide_eq_true_eq]at*
  omega
def fnd1(i:Nat):Nat→List GCapture→List GFound
 |_,[]=>[]
 |k,c::cs=>⟨c.Address,c.Tick,i,k⟩::fnd1 i (k+1) cs
def fnds:Nat→List GContainer→List GFound
 |_,[]=>[]
 |i,x::xs=>fnd1 i 0 x.Captures++fnds (i+1) xs
theorem K9r{i:Nat}:∀ {cs:List GCapture} {k m:Nat} {c:GCapture},cs[k]? =some c→fnd1 i m (cs.take (k+1))=fnd1 i m (cs.take k)++[⟨c.Address,c.Tick,i,(m+k:Nat)⟩]
 | [],_,_,_,h=>by simp at h
 |c::cs,0,m,d,h=>by
  simp only[List.getElem?_cons_zero,Option.some.injEq]at h
  subst h
  simp[fnd1]
 |c::cs,k+1,m,d,h=>by
  simp only[List.getElem?_cons_succ]at h
  rw[List.take_succ_cons,List.take_succ_cons,fnd1,fnd1,K9r h,List.cons_append,show m+1+k=m+(k+1)by omega]
theorem K3k:∀ {l:List GContainer} {k m:Nat} {x:GContainer},l[k]? =some x→fnds m (l.take (k+1))=fnds m (l.take k)++fnd1 (m+k) 0 x.Captures
 | [],_,_,_,h=>by simp at h
 |c::cs,0,m,d,h=>by
  simp only[List.getElem?_cons_zero,Option.some.injEq]at h
  subst h
  simp[fnds]
 |c::cs,k+1,m,d,h=>by
  simp only[List.getElem?_cons_succ]at h
  rw[List.take_succ_cons,List.take_succ_cons,fnds,fnds,K3k h,List.append_assoc,show m+1+k=m+(k+1)by omega]
theorem K66{i:Nat}:∀ {cs:List GCapture} {k:Nat},(fnd1 i k cs).length=cs.length
 | [],_=>rfl
 |c::cs,k=>by rw[fnd1,List.length_cons,K66,List.length_cons]
theorem Kan:∀ {l:List GContainer} {m:Nat},(fnds m l).length=(l.map fun x=>x.Captures.length).sum
 | [],_=>rfl
 |x::l,m=>by rw[fnds,List.length_append,K66,Kan,List.map_cons,List.sum_cons]
def index(l:List GContainer):List GFound:=Srt.isort K1s (fnds 0 l)
theorem fndSwo':Srt.Swo K1s:=K80▸fndSwo
theorem Kbe{m:Nat}:∀ {l:List GContainer},(fnds m l).length≤(l.map GContainer.size).sum:=by
 intro l
 rw[Kan]
 induction l with
 |nil=>simp
 |cons x l ih=>simp only[List.map_cons,List.sum_cons,GContainer.size];omega
theorem K7n{l:List GContainer}{i k:Nat}{x:GContainer}(hx:l[i]? =some x):(fnds 0 (l.take i)++fnd1 i 0 (x.Captures.take k)).length≤(l.map GContainer.size).sum:=by
 have h1:(fnds 0 (l.take (i+1))).length≤(l.map GContainer.size).sum:=Nat.le_trans Kbe (K1w l (i+1))
 rw[K3k hx,List.length_append,K66]at h1
 rw[List.length_append,K66,List.length_take]
 omega
theorem K9s{l:List GContainer}{i k:Nat}{x:GContainer}{c:GCapture}(hc:x.Captures[k]? =some c):fnds 0 (l.take i)++fnd1 i 0 (x.Captures.take (k+1))=fnds 0 (l.take i)++fnd1 i 0 (x.Captures.take k)++[⟨c.Address,c.Tick,i,k⟩]:=by
 rw[K9r hc,List.append_assoc,Nat.zero_add]
theorem cutA{α:Type}{f:α→List T}{l:List α}{m:Nat}(h:m≤l.length):(if ((m:Int)-0).toNat=l.length then l.map f else List.take ((m:Int)-0).toNat (l.map f))=(l.take m).map f:=by
 rw[show((m:Int)-0).toNat=m by omega]
 split
 ·rename_i e;rw[List.take_of_length_le (by omega)]
 ·rw[List.map_take]
theorem cutB{α:Type}{f:α→List T}{l:List α}{m:Nat}(h:m≤l.length):(if m=0∧((l.length:Int)-(m:Int)).toNat=l.length then l.map f else List.take ((l.length:Int)-(m:Int)).toNat (List.drop m (l.map f)))=(l.drop m).map f:=by
 rw[show((l.length:Int)-(m:Int)).toNat=l.length-m by omega]
 split
 ·rename_i e;rw[e.1];rfl
 ·rw[List.take_of_length_le (by simp),List.map_drop]
namespace Srt
variable {α:Type} {lt:α→α→Bool}
theorem ins_at{l:List α}(hw:Swo lt)(hs:srt lt l){x:α}{n:Nat}(h1:∀z∈l.drop n,lt x z=true)(h2:n=0∨∃y,l[n-1]? =some y∧lt x y=false):ins lt x l=l.take n++[x]++l.drop n:=by
 have e:ins lt x (l.take n++l.drop n)=l.take n++x::l.drop n:=by
  refine ins_mid ?_ (fun a ha=>h1 a (List.mem_of_mem_head? ha))
  intro a ha
  rcases h2 with rfl|⟨y,hy,h⟩
  ·simp at ha
  ·obtain⟨i,hi⟩:=List.mem_iff_getElem?.1 ha
   rw[List.getElem?_take]at hi
   split at hi
   ·rename_i hlt
    by_cases hin:i=n-1
    ·subst hin
     obtain rfl:=Option.some.inj (hi.symm.trans hy)
     exact h
    ·obtain⟨h1,rfl⟩:=List.getElem?_eq_some_iff.1 hi
     obtain⟨h2,rfl⟩:=List.getElem?_eq_some_iff.1 hy
     exact hw.ntr h ((List.pairwise_iff_getElem.1 hs) i (n-1) h1 h2 (by omega))
   ·cases hi
 rw[List.take_append_drop]at e
 rw[e];simp
theorem drop_step{l:List α}{x:α}{n:Nat}{y:α}(hn:0<n)(hy:l[n-1]? =some y)(h:∀z∈l.drop n,lt x z=true)(hx:lt x y=true):∀z∈l.drop (n-1),lt x z=true:=by
 obtain⟨h1,rfl⟩:=List.getElem?_eq_some_iff.1 hy
 rw[List.drop_eq_getElem_cons h1,show n-1+1=n by omega]
 intro z hz
 rcases List.mem_cons.1 hz with rfl|hz
 ·exact hx
 ·exact h z hz
end Srt
def M2i:MC:=
(Zs [.box 2 0 (.s 0),.box 3 1 (.s 1),.mv 4 cF] [2,3] (.seq (.block 0 (Zs [fS 6 2 0,lF 7 1 6,fS 8 3 0,lF 9 1 8,bS 10 .neq 7 9,mS 5 10] [2,3,5] (.cond (.s 5) (Zs [fS 11 2 0,lF 12 1 11,fS 13 3 0,lF 14 1 13,bS 15 .lss 12 14,mS 4 15] [4] .ret) (Zs [fS 17 2 1,lF 18 1 17,fS 19 3 1,lF 20 1 19,bS 21 .neq 18 20,mS 16 21] [2,3,16] (.cond (.s 16) (Zs [fS 22 2 1,lF 23 1 22,fS 24 3 1,lF 25 1 24,bS 26 .lss 23 25,mS 4 26] [4] .ret) .skip)))))
(Zs [fS 27 2 2,lF 28 1 27,fS 29 3 2,lF 30 1 29,bS 31 .lss 28 30,mS 4 31] [4] .ret)))
theorem Ca2(a b:GAddress):Ctr Tryz.prog N1g [aS a.enc,aS b.enc] [rB (K4a a b)]:=by
 refine cA M2i 2 32 [(.tmp 4,[false])] Tryz.func130 rfl rfl ?_;unfold M2i
 intro hb
 clear hb
 simp only[go_sem]
 repeat' first
  |(refine And.intro ?_ ?_<;>intro h)
 all_goals (unfold K4a;first|(symm;rw[decide_eq_false_iff_not];omega)|(rw[Bool.eq_iff_iff];simp only[decide_eq_true_eq];omega))
def M2j:MC:=
(Zs [.box 2 0 (.s 0),.box 3 1 (.s 1),.mv 4 cF] [2,3] (.seq (Zs [fS 5 2 0,lF 6 1 5,fS 7 3 0,lF 8 1 7,bS 9 .neq 6 8] [2,3,9] (.cond (.s 9) (Zs [fS 10 2 0,lF 11 1 10,fS 12 3 0,lF 13 1 12,bS 14 .lss 11 13,mS 4 14] [4] .ret) .skip))
(.seq (Zs [fS 15 2 1,lF 16 1 15,fS 17 3 1,lF 18 1 17,bS 19 .neq 16 18] [2,3,19] (.cond (.s 19) (Zs [fS 20 2 1,lF 21 1 20,fS 22 3 1,lF 23 1 22,bS 24 .lss 21 23,mS 4 24] [4] .ret) .skip))
(Zs [fS 25 2 2,lF 26 1 25,fS 27 3 2,lF 28 1 27,bS 29 .lss 26 28,mS 4 29] [4] .ret))))
theorem Ca4(a b:GAddress):Ctr Tryz.prog N2o [aS a.enc,aS b.enc] [rB (K4a a b)]:=by
 refine cA M2j 2 30 [(.tmp 4,[false])] Tryz.func318 rfl rfl ?_;unfold M2j
 intro hb
 clear hb
 simp only[go_sem]
 repeat' first
  |(refine And.intro ?_ ?_<;>intro h)
 all_goals (unfold K4a;first|(symm;rw[decide_eq_false_iff_not];omega)|(rw[Bool.eq_iff_iff];simp only[decide_eq_true_eq];omega))
def M7e:MC:=
(Zs [.box 2 0 (.s 0),.box 3 1 (.s 1),.mv 4 cF] [2,3] (.seq (Zs [fS 5 2 0,lT 6 3 5,fS 7 3 0,lT 8 3 7,.eqA 9 true [.i .i64,.i .i64,.i .i64] (.s 6) (.s 8)] [2,3,9] (.cond (.s 9) (Zs [fS 10 2 0,lT 11 3 10,fS 12 3 0,lT 13 3 12,.call 14 [] (.f N2o) [.s 11,.s 13],mS 4 14] [4] .ret) .skip))
(Zs [fS 15 2 3,lF 16 1 15,fS 17 3 3,lF 18 1 17,bS 19 .lss 16 18,mS 4 19] [4] .ret)))
theorem Cdg(a b:GFound):Ctr Tryz.prog N86 [aS a.enc,aS b.enc] [rB (K1s a b)]:=by
 refine cA M7e 2 20 [(.tmp 4,[false])] Tryz.func238 rfl rfl ?_;unfold M7e
 intro hb
 clear hb
 simp only[go_sem]
 repeat' first
  |(refine And.intro ?_ ?_<;>intro h)
  |(apply K0 (Ca4 _ _);simp only[go_sem])
 all_goals (simp only[K1s,K4a];rw[Bool.eq_iff_iff];simp only[decide_eq_true_eq];simp at h;omega)
def M8b:MC:=
(Zs [.mv 2 cF] [0] (Zs [mS 3 0,mS 4 0,bS 5 .neq 3 4,mS 2 5] [2] .ret))
theorem Ceh(x:Int):Ctr Tryz.prog N2k [aI x] [rB false]:=by
 refine cA M8b 0 6 [(.tmp 2,[false])] Tryz.func240 rfl rfl ?_;unfold M8b
 intro hb
 clear hb
 simp only[go_sem]
def M4s:MC:=
(Zs [.mv 4 (ci 0)] [0,1] (Zs [mS 7 0,.call 8 [] (.f N2k) [.s 7],mS 5 8] [0,1,5] (Zs [mS 9 1,.call 10 [] (.f N2k) [.s 9],mS 6 10] [0,1,5,6] (.seq (Zs [mS 11 5] [0,1,6,11] (.cond (.s 11) (.seq (Zs [mS 12 6] [12] (.cond (.s 12) (Zs [.mv 4 (ci 0)] [4] .ret) .skip))
(Zs [.mv 4 (.c (.int .i64 (-1)))] [4] .ret)) .skip))
(.seq (Zs [mS 13 6] [0,1,13] (.cond (.s 13) (Zs [.mv 4 (ci 1)] [4] .ret) .skip))
(.seq (Zs [mS 14 0,mS 15 1,bS 16 .lss 14 15] [0,1,16] (.cond (.s 16) (Zs [.mv 4 (.c (.int .i64 (-1)))] [4] .ret) .skip))
(.seq (Zs [mS 17 0,mS 18 1,bS 19 .gtr 17 18] [19] (.cond (.s 19) (Zs [.mv 4 (ci 1)] [4] .ret) .skip))
(Zs [.mv 4 (ci 0)] [4] .ret))))))))
theorem Ce6(x y:Int):Ctr Tryz.prog N5n [aI x,aI y] [rI (cmpI x y)]:=by
 refine cA M4s 0 20 [(.tmp 4,[false])] Tryz.func131 rfl rfl ?_;unfold M4s
 intro hb
 clear hb
 simp only[go_sem]
 repeat' first
  |(refine And.intro ?_ ?_<;>intro h)
  |(apply K0 (Ceh _);simp only[go_sem])
 all_goals (unfold cmpI;first|rfl|(repeat' split)<;>first|rfl|omega)
def M2w:MC:=
(Zs [.box 2 0 (.s 0),.box 3 1 (.s 1),.mv 4 (ci 0)] [2,3] (.seq (.block 0 (Zs [fS 6 2 0,lT 7 3 6,fS 8 3 0,lT 9 3 8,.call 10 [] (.f N1g) [.s 7,.s 9],mS 5 10] [2,3,5] (.cond (.s 5) (Zs [.mv 4 (.c (.int .i64 (-1)))] [4] .ret) (Zs [fS 12 3 0,lT 13 3 12,fS 14 2 0,lT 15 3 14,.call 16 [] (.f N1g) [.s 13,.s 15],mS 11 16] [2,3,11] (.cond (.s 11) (Zs [.mv 4 (ci 1)] [4] .ret) .skip)))))
(Zs [fS 17 2 3,lF 18 1 17,fS 19 3 3,lF 20 1 19,.call 21 [] (.f N5n) [.s 18,.s 20],mS 4 21] [4] .ret)))
theorem Cay(a b:GFound):Ctr Tryz.prog N3a [aS a.enc,aS b.enc] [rI (K5p a b)]:=by
 refine cA M2w 2 22 [(.tmp 4,[false])] Tryz.func129 rfl rfl ?_;unfold M2w
 intro hb
 clear hb
 simp only[go_sem]
 repeat' first
  |(refine And.intro ?_ ?_<;>intro h)
  |(apply K0 (Ca2 _ _);simp only[go_sem])
  |(apply K0 (Ce6 _ _);simp only[go_sem])
 all_goals (unfold K5p;simp_all)
def M4t:MC:=
(Zs [.nilo 2 0 6] [0] (Zs [.nilo 3 0 6] [0,3] (.seq (Zs [mS 8 0,nS 9 8,.mv 10 (ci 0)] [3,8,9,10] (.block 0 (.loop ([3,8,9,10],[1,2,3]) (Zs [bS 11 .lss 10 9] [3,8,9,10,11] (.seq (cX 11 0)
(.seq (.block 1 (Zs [mS 12 10,xS 13 4 8 10,lT 14 4 13,.alloc 5 1 [.emp 4,.emp 5,.emp 9,pz],mS 4 12,sS 4 5 14] [3,4,5,8,9,10] (Zs [fS 15 5 2,lF 16 1 15,nS 17 16,.mv 18 (ci 0)] [3,4,8,9,10,16,17,18] (.block 2 (.loop ([3,4,8,9,10,16,17,18],[1,2,3]) (Zs [bS 19 .lss 18 17] [3,4,8,9,10,16,17,18,19] (.seq (cX 19 2)
(.seq (.block 3 (Zs [mS 20 18,xS 21 9 16 18,lT 22 9 21,.alloc 7 2 [pz,pz,pz,pz,pz,.emp 1,pz,pz,pz],mS 6 20,sS 9 7 22] [3,4,6,7,8,9,10,16,17,18] (pr [mS 23 3,fS 24 7 0,lT 25 3 24,fS 26 7 3,lF 27 1 26,mS 28 4,mS 29 6,.build 30 [pz,pz,pz,pz,pz,pz] [(0,3,.s 25),(3,1,.s 27),(4,1,.s 28),(5,1,.s 29)],.lit 31 3 6 48 [.s 30],.app 32 0 6 48 (.s 23) (.s 31),mS 3 32] [3,4,8,9,10,16,17,18])))
(pr [bC 33 .add 18 1,mS 18 33] [3,4,8,9,10,16,17,18])))))))))
(pr [bC 34 .add 10 1,mS 10 34] [3,8,9,10])))))))
(Zs [mS 35 3,.callI 36 [] (.f Nh) [.s 35,.f N3a] [0] []] [3] (Zs [mS 37 3,mS 2 37] [2] .ret)))))
theorem Cbs(l:List GContainer)(hs:l.length+(l.map GContainer.size).sum≤1073741824):Ctr Tryz.prog N5o [aL 4 (l.map GContainer.enc)] [rL 6 ((index l).map GFound.enc)]:=by
 refine cA M4t 4 38 [(.tmp 2,[true])] Tryz.func43 rfl rfl ?_;unfold M4t
 intro hb
 clear hb
 simp only[go_sem]
 refine K4 l (fun i=>[(3,.val false [.ref 0 0 6 0 (fnds 0 (l.take i)).length]),(10,vI i)]) (fun i=>[(0,⟨0,.row true 6 ((fnds 0 (l.take i)).map GFound.enc)⟩)]) (fun _=>True) (by simp only[roomB];omega) ?_
 simp only[go_sem]
 refine⟨?_,trivial,?_,?_⟩
 ·simp only[go_sem,List.take_zero]
  exact⟨rfl,rfl⟩
 ·intro i x hx _ h0 h1 hw
  have hx1:=K23 (f:=GContainer.size) (Km hx)
  have hi:=Ka hx
  have hxl:x.Captures.length≤x.size:=by simp only[GContainer.size];omega
  simp only[go_sem,K1 hx,h0,h1]
  refine K4 x.Captures (fun k=>[(3,.val false [.ref 0 0 6 0 (fnds 0 (l.take i)++fnd1 i 0 (x.Captures.take k)).length]),(18,vI k)]) (fun k=>[(0,⟨0,.row true 6 ((fnds 0 (l.take i)++fnd1 i 0 (x.Captures.take k)).map GFound.enc)⟩)]) (fun _=>True) (by simp only[roomB];omega) ?_
  simp only[go_sem]
  refine⟨?_,trivial,?_,?_⟩
  ·simp only[go_sem,List.take_zero]
   exact⟨by simp[fnd1],by simp[fnd1]⟩
  ·intro k c hc _ h2 h3 hw2
   have hn:=K7n (k:=k) hx
   simp only[go_sem,K1 hc,h2,h3,hw2,K9s hc]
   exact⟨by simp only[roomB];omega,by simp only[roomB];omega,by simp only[List.length_append,List.length_cons,List.length_nil],by simp[GFound.enc]⟩
  ·intro _
   simp only[go_sem,List.take_length,hw]
   exact⟨by rw[K3k hx,Nat.zero_add],by rw[K3k hx,Nat.zero_add]⟩
 ·intro _
  simp only[go_sem,List.take_length]
  apply K6 (C87 (fnds 0 l) _ K5p Cay fndSwo)
  simp only[go_sem]
  exact⟨Srt.len_isort.symm,by rw[index,K80]⟩
def M5e:MC:=
(Zs [.nilo 2 0 6] [0] (Zs [.lit 8 0 6 48 [],mS 3 8] [0,3] (.seq (Zs [.mv 4 (ci 0)] [0,3,4] (.block 0 (.loop ([0,3,4],[1,2,3]) (.seq (Zs [mS 9 4,mS 10 0,nS 11 10,bS 12 .lss 9 11] [0,3,4,12] (cX 12 0))
(.seq (.block 1 (Zs [.mv 5 (ci 0)] [0,3,4,5] (.block 2 (.loop ([0,3,4,5],[1,2,3]) (.seq (Zs [mS 15 5,mS 16 0,mS 17 4,xS 18 4 16 17,fS 19 18 2,lF 20 1 19,nS 21 20,bS 22 .lss 15 21] [0,3,4,5,22] (cX 22 2))
(.seq (.block 3 (.seq (.dreg [Zf [6,26,30,34,35,36,37,38,39,40,41,42,43,44] [1] (mS 25 0),Zf [6,25,30,34,35,36,37,38,39,40,41,42,43,44] [1] (mS 26 4),Zg [6,30,34,35,36,37,38,39,40,41,42,43,44] [1] [0,1] (xS 27 4 25 26),Zg [6,30,34,35,36,37,38,39,40,41,42,43,44] [1] [0,1,2] (fS 28 27 2),Zg [6,30,34,35,36,37,38,39,40,41,42,43,44] [1] (.range 4) (lF 29 1 28),Zf [6,25,26,27,28,29,34,35,36,37,38,39,40,41,42,43,44] [1] (mS 30 5),Zg [6,34,35,36,37,38,39,40,41,42,43,44] [1] (.range 6) (xS 31 9 29 30),Zg [6,34,35,36,37,38,39,40,41,42,43,44] [1] (.range 7) (fS 32 31 0),Zg [6,34,35,36,37,38,39,40,41,42,43,44] [1] (.range 8) (lT 33 3 32),Zf [6,25,26,27,28,29,30,31,32,33,35,39,43,44] [1] (mS 34 0),Zf [6,25,26,27,28,29,30,31,32,33,34,39,43,44] [1] (mS 35 4),Zg [6,25,26,27,28,29,30,31,32,33,39,43,44] [1] [9,10] (xS 36 4 34 35),Zg [6,25,26,27,28,29,30,31,32,33,39,43,44] [1] [9,10,11] (fS 37 36 2),Zg [6,25,26,27,28,29,30,31,32,33,39,43,44] [1] [9,10,11,12] (lF 38 1 37),Zf [6,25,26,27,28,29,30,31,32,33,34,35,36,37,38,43,44] [1] (mS 39 5),Zg [6,25,26,27,28,29,30,31,32,33,43,44] [1] [9,10,11,12,13,14] (xS 40 9 38 39),Zg [6,25,26,27,28,29,30,31,32,33,43,44] [1] [9,10,11,12,13,14,15] (fS 41 40 3),Zg [6,25,26,27,28,29,30,31,32,33,43,44] [1] [9,10,11,12,13,14,15,16] (lF 42 1 41),Zf [6,25,26,27,28,29,30,31,32,33,34,35,36,37,38,39,40,41,42,44] [1] (mS 43 4),Zf [6,25,26,27,28,29,30,31,32,33,34,35,36,37,38,39,40,41,42,43] [1] (mS 44 5),Zg [6] [1] (.range 20) (.build 45 [pz,pz,pz,pz,pz,pz] [(0,3,.s 33),(3,1,.s 42),(4,1,.s 43),(5,1,.s 44)]),{o:= .alloc 6 1 [pz,pz,pz,pz,pz,pz],hs:=[25,26,27,28,29,30,31,32,33,34,35,36,37,38,39,40,41,42,43,44,45],ws:=[1]},{o:=sS 6 6 45,ws:=[1],bf:=(.range 22)}] [0,3,4,5,6])
(Zs [mS 46 3,nS 47 46,mS 7 47] [0,3,4,5,6,7] (.seq (.block 4 (.loop ([0,3,4,5,6,7],[2,3]) (.seq (.seq (.dreg [Za (mS 48 7),Ze [0] (bC 49 .gtr 48 0),Ze [0,1] (mS 50 49),{o:=lT 51 6 6,g:=some (50,true),hs:=[52,53,54,55,56],bf:=[0,1,2]},{o:=mS 52 3,g:=some (50,true),hs:=[51,53,54],bf:=[0,1,2]},{o:=mS 53 7,g:=some (50,true),hs:=[51,52],bf:=[0,1,2]},{o:=bC 54 .sub 53 1,g:=some (50,true),hs:=[51,52],bf:=[0,1,2,5]},{o:=xS 55 6 52 54,g:=some (50,true),hs:=[51],bf:=[0,1,2,4,5,6]},{o:=lT 56 6 55,g:=some (50,true),hs:=[51],bf:=[0,1,2,4,5,6,7]},{o:= .call 57 [] (.f N86) [.s 51,.s 56],g:=some (50,true),bf:=(.range 9)},Ze (.range 10) (.pick 58 (.s 50) (.s 57) cF)] [0,3,4,5,6,7,58])
(cX 58 4))
(.block 5 (pr [mS 59 7,bC 60 .sub 59 1,mS 7 60] [0,3,4,5,6,7])))))
(.dreg [{o:= .lit 61 2 6 48 [],hs:=[62,63,64,66,67,69,70,71],ho:=[3],ws:=[2]},Zf [61,63,66,67,69,70,71] [2,3] (mS 62 3),Zf [61,62,66,67,69,70,71] [2,3] (mS 63 7),Zg [61,66,67,69,70,71] [2,3] [1,2] (.slc 64 6 (.s 62) none (some (.s 63)) none),{o:= .app 65 2 6 48 (.s 61) (.s 64),hs:=[66,67,69,70,71],ho:=[3],ws:=[2],bf:=(.range 4)},Zf [61,62,63,64,65,69,70,71] [2] (lT 66 6 6),{o:= .lit 67 3 6 48 [.s 66],hs:=[61,62,63,64,65,69,70,71],ho:=[2],ws:=[3],bf:=[5]},{o:= .app 68 2 6 48 (.s 65) (.s 67),hs:=[69,70,71],ws:=[2],bf:=(.range 7)},Zf [61,62,63,64,65,66,67,68,70] [2,3] (mS 69 3),Zf [61,62,63,64,65,66,67,68,69] [2,3] (mS 70 7),Zg [61,62,63,64,65,66,67,68] [2,3] [8,9] (.slc 71 6 (.s 69) (some (.s 70)) none none),{o:= .app 72 0 6 48 (.s 68) (.s 71),ws:=[0,2],bf:=(.range 11)},Ze (.range 12) (mS 3 72)] [0,3,4,5])))))
(pr [mS 23 5,bC 24 .add 23 1,mS 5 24] [0,3,4,5])))))))
(pr [mS 13 4,bC 14 .add 13 1,mS 4 14] [0,3,4]))))))
(Zs [mS 73 3,mS 2 73] [2] .ret))))
theorem Cca(l:List GContainer)(hs:l.length+(l.map GContainer.size).sum≤1073741824):Ctr Tryz.prog N68 [aL 4 (l.map GContainer.enc)] [rL 6 ((index l).map GFound.enc)]:=by
 refine cA M5e 4 74 [(.tmp 2,[true])] Tryz.func127 rfl rfl ?_;unfold M5e
 intro hb
 clear hb
 simp only[go_sem]
 refine K4 l (fun i=>[(3,.val false [.ref 0 0 6 0 (Srt.isort K1s (fnds 0 (l.take i))).length]),(4,vI i)]) (fun i=>[(0,⟨0,.row true 6 ((Srt.isort K1s (fnds 0 (l.take i))).map GFound.enc)⟩)]) (fun _=>True) (by simp only[roomB];omega) ?_
 simp only[go_sem]
 refine⟨?_,trivial,?_,?_⟩
 ·simp only[go_sem,List.take_zero]
  exact⟨rfl,rfl⟩
 ·intro i x hx _ h0 h1 hw
  have hx1:=K23 (f:=GContainer.size) (Km hx)
  have hi:=Ka hx
  have hxl:x.Captures.length≤x.size:=by simp only[GContainer.size];omega
  simp only[go_sem,h1]
  refine K4 x.Captures (fun k=>[(3,.val false [.ref 0 0 6 0 (Srt.isort K1s (fnds 0 (l.take i)++fnd1 i 0 (x.Captures.take k))).length]),(5,vI k)]) (fun k=>[(0,⟨0,.row true 6 ((Srt.isort K1s (fnds 0 (l.take i)++fnd1 i 0 (x.Captures.take k))).map GFound.enc)⟩)]) (fun _=>True) (by simp only[roomB];omega) ?_
  simp only[go_sem]
  refine⟨?_,trivial,?_,?_⟩
  ·simp only[go_sem,List.take_zero]
   exact⟨by simp[fnd1],by simp[fnd1]⟩
  ·intro k c hc _ h2 h3 hw2
   have hn:=K7n (k:=k) hx
   obtain⟨y,hy⟩:∃y:GFound,y=⟨c.Address,c.Tick,i,k⟩:=⟨_,rfl⟩
   obtain⟨out,hout⟩:∃out,out=Srt.isort K1s (fnds 0 (l.take i)++fnd1 i 0 (x.Captures.take k)):=⟨_,rfl⟩
   have hsr:Srt.srt K1s out:=hout▸Srt.srt_isort fndSwo' _
   have hol:out.length≤(l.map GContainer.size).sum:=by rw[hout,Srt.len_isort];exact hn
   have hst:Srt.isort K1s (fnds 0 (l.take i)++fnd1 i 0 (x.Captures.take (k+1)))=Srt.ins K1s y out:=by
    rw[K9s hc,Srt.isort_snoc,←hout,←hy]
   have hye:([tI c.Address.Host,tI c.Address.Path,tI c.Address.Query,tI c.Tick,tI (i:Int),tI (k:Int)]:List T)=y.enc:=by rw[hy];rfl
   rw[hst,←hout]
   simp only[go_sem,K1 hx,K1 hc,h0,h1,h2,h3,hw]
   refine Kl (fun n:Nat=>[(7,vI n)]) (fun n=>[]) (fun n=>n≤out.length∧∀z∈out.drop n,K1s y z=true) (fun n=>n) out.length ?_
   simp only[go_sem]
   refine⟨?_,⟨Nat.le_refl _,by simp⟩,?_⟩
   ·simp only[go_sem]
   ·rintro n ⟨hn1,hn2⟩
    simp only[go_sem]
    refine⟨fun hpos=>?_,fun hzero=>?_⟩
    ·obtain⟨m,hm⟩:∃m,m=n-1:=⟨_,rfl⟩
     obtain⟨z,hz⟩:=K7 (show m<out.length by omega)
     have e1:IntKind.i64.wrap ((n:Int)-1)=(m:Int):=by rw[wI (by omega) (by omega)];omega
     rw[e1]
     simp only[go_sem,K1 hz]
     refine⟨⟨by omega,by omega⟩,?_⟩
     apply K0 (Cdg ⟨c.Address,c.Tick,(i:Int),(k:Int)⟩ z)
     simp only[go_sem]
     rw[e1]
     refine⟨fun ht=>⟨m,rfl,⟨by omega,?_⟩,by omega⟩,fun hf=>?_⟩
     ·rw[hm]
      exact Srt.drop_step (by omega) (hm▸hz) hn2 (hy▸ht)
     ·have hstop:n=0∨∃y',out[n-1]? =some y'∧K1s y y'=false:= .inr ⟨z,hm▸hz,hy▸hf⟩
      rw[cutA hn1]
      refine⟨by omega,by omega,?_⟩
      have hA:(out.take n).length=n:=by rw[List.length_take];omega
      have hB:out.length=n+(out.drop n).length:=by rw[List.length_drop];omega
      have eC:=cutB (f:=GFound.enc) hn1
      have e5:List.map GFound.enc (out.take n)++[[T.sc (Value.int IntKind.i64 c.Address.Host),T.sc (Value.int IntKind.i64 c.Address.Path),T.sc (Value.int IntKind.i64 c.Address.Query),T.sc (Value.int IntKind.i64 c.Tick),T.sc (Value.int IntKind.i64 (i:Int)),T.sc (Value.int IntKind.i64 (k:Int))]]=(out.take n++[y]).map GFound.enc:=by rw[hy];simp[GFound.enc]
      have e6:((out.take n++[y]).map GFound.enc).length=(out.take n).length+1:=by simp
      simp only[go_sem,↓K30 (f:=GFound.enc) (fun _=>rfl) (out.take n),↓eC,↓e5,↓e6,↓K30 (f:=GFound.enc) (fun _=>rfl) (out.drop n)]
      rw[Srt.ins_at fndSwo' hsr hn2 hstop]
      simp only[roomB]
      exact⟨by omega,by omega,by omega,⟨by omega,by omega,by omega⟩,by omega,by omega,⟨by simp only[List.length_append,List.length_cons,List.length_nil],hw2⟩,by rw[←List.map_append]⟩
    ·have hstop:n=0∨∃y',out[n-1]? =some y'∧K1s y y'=false:= .inl (by omega)
     rw[cutA hn1]
     refine⟨by omega,by omega,?_⟩
     have hA:(out.take n).length=n:=by rw[List.length_take];omega
     have hB:out.length=n+(out.drop n).length:=by rw[List.length_drop];omega
     have eC:=cutB (f:=GFound.enc) hn1
     have e5:List.map GFound.enc (out.take n)++[[T.sc (Value.int IntKind.i64 c.Address.Host),T.sc (Value.int IntKind.i64 c.Address.Path),T.sc (Value.int IntKind.i64 c.Address.Query),T.sc (Value.int IntKind.i64 c.Tick),T.sc (Value.int IntKind.i64 (i:Int)),T.sc (Value.int IntKind.i64 (k:Int))]]=(out.take n++[y]).map GFound.enc:=by rw[hy];simp[GFound.enc]
     have e6:((out.take n++[y]).map GFound.enc).length=(out.take n).length+1:=by simp
     simp only[go_sem,↓K30 (f:=GFound.enc) (fun _=>rfl) (out.take n),↓eC,↓e5,↓e6,↓K30 (f:=GFound.enc) (fun _=>rfl) (out.drop n)]
     rw[Srt.ins_at fndSwo' hsr hn2 hstop]
     simp only[roomB]
     exact⟨by omega,by omega,by omega,⟨by omega,by omega,by omega⟩,by omega,by omega,⟨by simp only[List.length_append,List.length_cons,List.length_nil],hw2⟩,by rw[←List.map_append]⟩
  ·intro _
   simp only[go_sem,List.take_length,K1 hx,h0,h1,hw,Int.lt_irrefl]
   exact⟨by rw[K3k hx,Nat.zero_add],by rw[K3k hx,Nat.zero_add]⟩
 ·intro _
  simp only[go_sem,List.take_length]
  rfl
end Go.Proofs.YtjneccbpkckdfaaGreatR
namespace Go.Proofs.YtjneccbpkckdfaaGreatR
open Go Go.RowKit Go.Proofs
open Nat (reduceEqDiff reduceLT reduceLeDiff reduceAdd reduceMul)
open List (reduceReplicate)
theorem tt{p:Prop} [Decidable p] (h:p):true=decide p:=(decide_eq_true h).symm
theorem K52{α:Type}{p:α→Bool}{l:List α}{k:Nat}{x:α}(hx:l[k]? =some x)(h:(l.take k).any p=false)(hn:p x=false):(l.take (k+1)).any p=false:=by
 rw[Kk hx,List.any_append,h]
 simp[hn]
theorem Kaa{α:Type}{p:α→Bool}{l:List α}{k:Nat}{x:α}(hx:l[k]? =some x)(hn:p x=true):l.any p=true:=List.any_eq_true.2 ⟨x,Km hx,hn⟩
def idxF{α:Type}(p:α→Bool)(l:List α):Int:=if l.any p then(l.takeWhile fun x=> !p x).length else -1
theorem K6t{α:Type}{p:α→Bool}{l:List α}{k:Nat}{x:α}(hx:l[k]? =some x)(h:(l.take k).any p=false)(hn:p x=true):idxF p l=k:=by
 unfold idxF
 rw[Kaa hx hn,if_pos rfl]
 congr 1
 have e:l=l.take k++x::l.drop (k+1):=K22 hx
 rw[e,List.takeWhile_append_of_pos]
 ·simp[hn]
  have:=Ka hx
  omega
 ·intro a ha
  have:=List.any_eq_false.1 h a ha
  simpa using this
theorem K6u{α:Type}{p:α→Bool}{l:List α}(h:l.any p=false):idxF p l= -1:=by
 unfold idxF;rw[h];rfl
theorem K95{α:Type}{p:α→Bool}{l:List α}:decide (idxF p l≥0)=l.any p:=by
 unfold idxF
 cases l.any p<;>simp
def encS(s:ByteArray):List T:=[tS s]
attribute [go_sem] encS
abbrev aStr(s:ByteArray):Bool×List T:=(false,[tS s])
attribute [go_sem] aStr
def Y13(v0:Nat):MC:=
(Zs [.mv 4 (ci 0)] [0,1] (.seq (Zs [mS 6 0,nS 7 6,.mv 8 (ci 0)] [0,1,7,8] (.block 0 (.loop ([0,1,7,8],[]) (Zs [bS 9 .lss 8 7] [0,1,7,8,9] (.seq (cX 9 0)
(.seq (.block 1 (Zs [mS 10 8,mS 5 10] [0,1,5,7,8] (Zs [mS 11 1,mS 12 0,mS 13 5,xS 14 v0 12 13,lT 15 v0 14,.call 16 [] (.s 11) [.s 15]] [0,1,5,7,8,16] (.cond (.s 16) (Zs [mS 17 5,mS 4 17] [4] .ret) .skip))))
(pr [bC 18 .add 8 1,mS 8 18] [0,1,7,8])))))))
(Zs [.mv 4 (.c (.int .i64 (-1)))] [4] .ret)))
attribute [go_sem] Y13
def Mw:MC:=Y13 4
theorem C97(xs:List GOp)(f:FuncId)(cs:List T)(p:GOp→Bool)(hp:∀x,x∈xs→Ctr Tryz.prog f (aS (GOp.enc x)::cs.map (fun t=>(false,[t]))) [rB (p x)]):Ctr Tryz.prog Nx [aL 4 (xs.map GOp.enc),(false,[.fn f cs])] [rI (idxF p xs)]:=by
 refine cA Mw 0 19 [(.tmp 4,[false])] Tryz.func353 rfl rfl ?_;unfold Mw
 intro hb
 simp only[bdA,bdL,bdT,Kh,roomB,and_true,List.length_map]at hb
 obtain⟨⟨hl,-⟩,-⟩:=hb
 simp only[go_sem]
 refine K4 xs (fun k=>[(8,vI k)]) (fun k=>[]) (fun k=>(xs.take k).any p=false) hl ?_
 simp only[go_sem]
 refine⟨?_,by simp,?_,?_⟩
 ·simp only[go_sem]
 ·intro k x hx h h0 h1 hw
  simp only[go_sem,K1 hx,h0,h1]
  refine K0 (hp x (Km hx)) ?_
  simp only[go_sem,hw]
  exact⟨fun hn=>(K6t hx h hn).symm,fun hn=>K52 hx h hn⟩
 ·intro h
  simp only[go_sem]
  rw[List.take_length]at h
  rw[K6u h]
def Y14(v0:Nat):MC:=
(Zs [.mv 4 cF] [0,1] (Zs [mS 5 0,mS 6 1,.call 7 [] (.f v0) [.s 5,.s 6],bC 8 .geq 7 0,mS 4 8] [4] .ret))
attribute [go_sem] Y14
def Mn:MC:=Y14 Nx
theorem C6j(xs:List GOp)(f:FuncId)(cs:List T)(p:GOp→Bool)(hp:∀x,x∈xs→Ctr Tryz.prog f (aS (GOp.enc x)::cs.map (fun t=>(false,[t]))) [rB (p x)]):Ctr Tryz.prog Np [aL 4 (xs.map GOp.enc),(false,[.fn f cs])] [rB (xs.any p)]:=by
 refine cA Mn 0 9 [(.tmp 4,[false])] Tryz.func292 rfl rfl ?_;unfold Mn
 intro hb
 clear hb
 simp only[go_sem]
 refine K0 (C97 xs f cs p hp) ?_
 simp only[go_sem]
 intros
 exact K95
def Mi:MC:=Y13 9
theorem C4f(xs:List GCapture)(f:FuncId)(cs:List T)(p:GCapture→Bool)(hp:∀x,x∈xs→Ctr Tryz.prog f (aS (GCapture.enc x)::cs.map (fun t=>(false,[t]))) [rB (p x)]):Ctr Tryz.prog Nk [aL 9 (xs.map GCapture.enc),(false,[.fn f cs])] [rI (idxF p xs)]:=by
 refine cA Mi 0 19 [(.tmp 4,[false])] Tryz.func354 rfl rfl ?_;unfold Mi
 intro hb
 simp only[bdA,bdL,bdT,Kh,roomB,and_true,List.length_map]at hb
 obtain⟨⟨hl,-⟩,-⟩:=hb
 simp only[go_sem]
 refine K4 xs (fun k=>[(8,vI k)]) (fun k=>[]) (fun k=>(xs.take k).any p=false) hl ?_
 simp only[go_sem]
 refine⟨?_,by simp,?_,?_⟩
 ·simp only[go_sem]
 ·intro k x hx h h0 h1 hw
  simp only[go_sem,K1 hx,h0,h1]
  refine K0 (hp x (Km hx)) ?_
  simp only[go_sem,hw]
  exact⟨fun hn=>(K6t hx h hn).symm,fun hn=>K52 hx h hn⟩
 ·intro h
  simp only[go_sem]
  rw[List.take_length]at h
  rw[K6u h]
def Me:MC:=Y14 Nk
theorem C2q(xs:List GCapture)(f:FuncId)(cs:List T)(p:GCapture→Bool)(hp:∀x,x∈xs→Ctr Tryz.prog f (aS (GCapture.enc x)::cs.map (fun t=>(false,[t]))) [rB (p x)]):Ctr Tryz.prog Nf [aL 9 (xs.map GCapture.enc),(false,[.fn f cs])] [rB (xs.any p)]:=by
 refine cA Me 0 9 [(.tmp 4,[false])] Tryz.func295 rfl rfl ?_;unfold Me
 intro hb
 clear hb
 simp only[go_sem]
 refine K0 (C4f xs f cs p hp) ?_
 simp only[go_sem]
 intros
 exact K95
def Mc:MC:=Y13 5
theorem C3i(xs:List GExclusion)(f:FuncId)(cs:List T)(p:GExclusion→Bool)(hp:∀x,x∈xs→Ctr Tryz.prog f (aS (GExclusion.enc x)::cs.map (fun t=>(false,[t]))) [rB (p x)]):Ctr Tryz.prog Nd [aL 5 (xs.map GExclusion.enc),(false,[.fn f cs])] [rI (idxF p xs)]:=by
 refine cA Mc 0 19 [(.tmp 4,[false])] Tryz.func358 rfl rfl ?_;unfold Mc
 intro hb
 simp only[bdA,bdL,bdT,Kh,roomB,and_true,List.length_map]at hb
 obtain⟨⟨hl,-⟩,-⟩:=hb
 simp only[go_sem]
 refine K4 xs (fun k=>[(8,vI k)]) (fun k=>[]) (fun k=>(xs.take k).any p=false) hl ?_
 simp only[go_sem]
 refine⟨?_,by simp,?_,?_⟩
 ·simp only[go_sem]
 ·intro k x hx h h0 h1 hw
  simp only[go_sem,K1 hx,h0,h1]
  refine K0 (hp x (Km hx)) ?_
  simp only[go_sem,hw]
  exact⟨fun hn=>(K6t hx h hn).symm,fun hn=>K52 hx h hn⟩
 ·intro h
  simp only[go_sem]
  rw[List.take_length]at h
  rw[K6u h]
def M9:MC:=Y14 Nd
theorem C2g(xs:List GExclusion)(f:FuncId)(cs:List T)(p:GExclusion→Bool)(hp:∀x,x∈xs→Ctr Tryz.prog f (aS (GExclusion.enc x)::cs.map (fun t=>(false,[t]))) [rB (p x)]):Ctr Tryz.prog Na [aL 5 (xs.map GExclusion.enc),(false,[.fn f cs])] [rB (xs.any p)]:=by
 refine cA M9 0 9 [(.tmp 4,[false])] Tryz.func303 rfl rfl ?_;unfold M9
 intro hb
 clear hb
 simp only[go_sem]
 refine K0 (C3i xs f cs p hp) ?_
 simp only[go_sem]
 intros
 exact K95
def Mq:MC:=
(Zs [.mv 4 cF] [0,1] (.seq (Zs [mS 6 0,nS 7 6,mS 8 1,nS 9 8,bS 10 .neq 7 9] [0,1,10] (.cond (.s 10) (Zs [.mv 4 cF] [4] .ret) .skip))
(.seq (Zs [mS 11 0,nS 12 11,.mv 13 (ci 0)] [0,1,12,13] (.block 0 (.loop ([0,1,12,13],[]) (Zs [bS 14 .lss 13 12] [0,1,12,13,14] (.seq (cX 14 0)
(.seq (.block 1 (Zs [mS 15 13,mS 5 15] [0,1,5,12,13] (.seq (.dreg [Zc [17,20,21,22,23] (mS 16 0),Zc [16,20,21,22,23] (mS 17 5),Zd [20,21,22,23] [0,1] (xS 18 6 16 17),Zd [20,21,22,23] [0,1,2] (lT 19 6 18),Zc [16,17,18,19,21] (mS 20 1),Zc [16,17,18,19,20] (mS 21 5),Zd [16,17,18,19] [4,5] (xS 22 6 20 21),Zd [16,17,18,19] [4,5,6] (lT 23 6 22),Ze (.range 8) (.eqA 24 true [.i .i64,.i .i64,.i .i64,.i .i64,.i .i64,.i .i64] (.s 19) (.s 23))] [0,1,12,13,24])
(.cond (.s 24) (Zs [.mv 4 cF] [4] .ret) .skip))))
(pr [bC 25 .add 13 1,mS 13 25] [0,1,12,13])))))))
(Zs [.mv 4 cT] [4] .ret))))
theorem Ca3(xs ys:List GFound):Ctr Tryz.prog Ns [aL 6 (xs.map GFound.enc),aL 6 (ys.map GFound.enc)] [rB (decide (xs=ys))]:=by
 refine cA Mq 0 26 [(.tmp 4,[false])] Tryz.func123 rfl rfl ?_;unfold Mq
 intro hb
 simp only[bdA,bdL,bdT,Kh,roomB,and_true,List.length_map]at hb
 obtain⟨⟨hl,-⟩,⟨hl2,-⟩⟩:=hb
 simp only[go_sem]
 refine⟨fun h=>K2l h,fun h=>?_⟩
 have hle:xs.length=ys.length:=by omega
 refine K4 xs (fun k=>[(13,vI k)]) (fun k=>[]) (fun k=>xs.take k=ys.take k) hl ?_
 simp only[go_sem]
 refine⟨?_,rfl,?_,?_⟩
 ·simp only[go_sem]
 ·intro k x hx he h0 h1 hw
  obtain⟨y,hy⟩:=K7 (show k<ys.length by omega)
  have h2:(k:Int)<ys.length:=by omega
  simp only[go_sem,K1 hx,K1 hy,h0,h1,h2,hw,eqB]
  exact⟨fun hn=>K3e hx hy (by rintro rfl;simp at hn),fun hn=>(Ko hx hy he).2 (by exact GFound.eqv.2 (by simpa using hn))⟩
 ·intro he
  simp only[go_sem]
  exact K2k he hle
end Go.Proofs.YtjneccbpkckdfaaGreatR
