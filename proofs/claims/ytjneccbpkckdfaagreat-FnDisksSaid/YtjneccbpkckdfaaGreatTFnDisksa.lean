/- What the functions compute that the laws of FnDisks reach: contracts. Conditions stand in each theorem. -/
import Derived.Test.YtjneccbpkckdfaaGreatProg
import Derived.KernelRfl
import Derived.Test.YtjneccbpkckdfaaGreatRFnDisksc
set_option linter.unusedVariables false
set_option linter.unusedSimpArgs false
namespace Go.Proofs.YtjneccbpkckdfaaGreatR
open Go Go.RowKit
attribute [go_sem ↓] bk_bind K6g bk_ite K32
def Za(o:MO):MOp:={o:=o}
def Zb(k:Nat)(b:Bool)(o:MO):MOp:={o:=o,g:=some (k,b)}
def Zc(h:List Nat)(o:MO):MOp:={o:=o,hs:=h}
def Zd(h b:List Nat)(o:MO):MOp:={o:=o,hs:=h,bf:=b}
def Ze(b:List Nat)(o:MO):MOp:={o:=o,bf:=b}
def Zf(h g:List Nat)(o:MO):MOp:={o:=o,hs:=h,ho:=g}
def Zg(h g b:List Nat)(o:MO):MOp:={o:=o,hs:=h,ho:=g,bf:=b}
def pz:SC:= .pl (.sc (.int .i64 0))
def ci(n:Int):Od:= .c (.int .i64 n)
def cT:Od:= .c (.bool true)
def cF:Od:= .c (.bool false)
attribute [go_sem] Nat.reduceEqDiff Nat.reduceLT Nat.reduceLeDiff Nat.reduceAdd Nat.reduceMul reduceCtorEq List.reduceReplicate
attribute [go_sem ↓] reduceIte
attribute [go_sem] Za Zb Zc Zd Ze Zf Zg pz ci cT cF
def mS(d a:Nat):MO:= .mv d (.s a)
def lF(d k a:Nat):MO:= .load d false k (.s a)
def lT(d k a:Nat):MO:= .load d true k (.s a)
def fS(d a k:Nat):MO:= .fld d (.s a) k
def xS(d k a b:Nat):MO:= .idx d k (.s a) (.s b)
def nS(d a:Nat):MO:= .len d false (.s a)
def bS(d:Nat)(o:BinOp)(a b:Nat):MO:= .bin d false o (.s a) (.s b)
def bC(d:Nat)(o:BinOp)(a:Nat)(b:Int):MO:= .bin d false o (.s a) (.c (.int .i64 b))
def sS(k a b:Nat):MO:= .store k (.s a) (.s b)
def cX(a k:Nat):MC:= .cond (.s a) .skip (.exit k)
def Zs(l:List MO)(h:List Nat)(c:MC):MC:= .seq (pr l h) c
attribute [go_sem] mS lF lT fS xS nS bS bC sS cX Zs
open Nat (reduceEqDiff reduceLT reduceLeDiff reduceAdd reduceMul)
open List (reduceReplicate)
def encI(n:Int):List T:=[tI n]
def encB(b:Bool):List T:=[tB b]
theorem K2v{ts:List T}(h:IsT .int ts):∃n,ts=encI n:=h
theorem list_of{α:Type}{enc:α→List T}{ty:DT}(h:∀ {ts},IsT ty ts→∃x,ts=enc x):∀ {es:List (List T)},(∀x∈es,IsT ty x)→∃xs:List α,es=xs.map enc
 | [],_=>⟨[],rfl⟩
 |e::es,k=>by
  obtain⟨x,rfl⟩:=h (k e (by simp))
  obtain⟨xs,hx⟩:=list_of h (es:=es) fun y hy=>k y (by simp[hy])
  subst hx
  exact⟨x::xs,rfl⟩
structure GAddress where
 Host:Int
 Path:Int
 Query:Int
 deriving DecidableEq
def GAddress.enc(x:GAddress):List T:=[tI x.Host,tI x.Path,tI x.Query]
def GAddress.dt:DT:= .st (.fc .int (.fc .int (.fc .int .fn)))
theorem GAddress.of{ts:List T}(h:IsT GAddress.dt ts):∃x:GAddress,ts=x.enc:=by
 simp only[GAddress.dt,IsT]at h
 obtain⟨_,_,rfl,⟨v0,rfl⟩,_,_,rfl,⟨v1,rfl⟩,_,_,rfl,⟨v2,rfl⟩,rfl⟩:=h
 exact⟨⟨v0,v1,v2⟩,rfl⟩
theorem GAddress.eqv{x y:GAddress}:x=y↔x.Host=y.Host∧x.Path=y.Path∧x.Query=y.Query:=by
 constructor
 ·rintro rfl;simp
 ·intro h
  rcases x with ⟨aHost,aPath,aQuery⟩
  rcases y with ⟨bHost,bPath,bQuery⟩
  simp only at h
  obtain⟨rfl,rfl,rfl⟩:=h
  rfl
structure GResource where
 Kind:Int
 Body:List Int
 To:GAddress
 deriving DecidableEq
def GResource.enc(x:GResource):List T:=[tI x.Kind,.sl 1 (x.Body.map encI),tI x.To.Host,tI x.To.Path,tI x.To.Query]
def GResource.dt:DT:= .st (.fc .int (.fc (.sl .int) (.fc GAddress.dt .fn)))
theorem GResource.of{ts:List T}(h:IsT GResource.dt ts):∃x:GResource,ts=x.enc:=by
 simp only[GResource.dt,IsT]at h
 obtain⟨_,_,rfl,⟨v0,rfl⟩,_,_,rfl,⟨l1,rfl,k1⟩,_,_,rfl,k2,rfl⟩:=h
 obtain⟨v1,rfl⟩:=list_of K2v k1
 obtain⟨v2,rfl⟩:=GAddress.of k2
 exact⟨⟨v0,v1,v2⟩,rfl⟩
theorem GResource.eqv{x y:GResource}:x=y↔x.Kind=y.Kind∧x.Body=y.Body∧x.To.Host=y.To.Host∧x.To.Path=y.To.Path∧x.To.Query=y.To.Query:=by
 constructor
 ·rintro rfl;simp
 ·intro h
  rcases x with ⟨aKind,aBody,⟨aToHost,aToPath,aToQuery⟩⟩
  rcases y with ⟨bKind,bBody,⟨bToHost,bToPath,bToQuery⟩⟩
  simp only at h
  obtain⟨rfl,rfl,rfl,rfl,rfl⟩:=h
  rfl
def GResource.size(x:GResource):Nat:=(x.Body.length)
structure GPart where
 Digest:Int
 Resource:GResource
 Uses:Int
 deriving DecidableEq
def GPart.enc(x:GPart):List T:=[tI x.Digest,tI x.Resource.Kind,.sl 1 (x.Resource.Body.map encI),tI x.Resource.To.Host,tI x.Resource.To.Path,tI x.Resource.To.Query,tI x.Uses]
def GPart.dt:DT:= .st (.fc .int (.fc GResource.dt (.fc .int .fn)))
theorem GPart.of{ts:List T}(h:IsT GPart.dt ts):∃x:GPart,ts=x.enc:=by
 simp only[GPart.dt,IsT]at h
 obtain⟨_,_,rfl,⟨v0,rfl⟩,_,_,rfl,k1,_,_,rfl,⟨v2,rfl⟩,rfl⟩:=h
 obtain⟨v1,rfl⟩:=GResource.of k1
 exact⟨⟨v0,v1,v2⟩,rfl⟩
theorem GPart.eqv{x y:GPart}:x=y↔x.Digest=y.Digest∧x.Resource.Kind=y.Resource.Kind∧x.Resource.Body=y.Resource.Body∧x.Resource.To.Host=y.Resource.To.Host∧x.Resource.To.Path=y.Resource.To.Path∧x.Resource.To.Query=y.Resource.To.Query∧x.Uses=y.Uses:=by
 constructor
 ·rintro rfl;simp
 ·intro h
  rcases x with ⟨aDigest,⟨aResourceKind,aResourceBody,⟨aResourceToHost,aResourceToPath,aResourceToQuery⟩⟩,aUses⟩
  rcases y with ⟨bDigest,⟨bResourceKind,bResourceBody,⟨bResourceToHost,bResourceToPath,bResourceToQuery⟩⟩,bUses⟩
  simp only at h
  obtain⟨rfl,rfl,rfl,rfl,rfl,rfl,rfl⟩:=h
  rfl
def GPart.size(x:GPart):Nat:=(x.Resource.size)
structure GPiece where
 From:Int
 Count:Int
 New:List Int
 deriving DecidableEq
def GPiece.enc(x:GPiece):List T:=[tI x.From,tI x.Count,.sl 1 (x.New.map encI)]
def GPiece.dt:DT:= .st (.fc .int (.fc .int (.fc (.sl .int) .fn)))
theorem GPiece.of{ts:List T}(h:IsT GPiece.dt ts):∃x:GPiece,ts=x.enc:=by
 simp only[GPiece.dt,IsT]at h
 obtain⟨_,_,rfl,⟨v0,rfl⟩,_,_,rfl,⟨v1,rfl⟩,_,_,rfl,⟨l2,rfl,k2⟩,rfl⟩:=h
 obtain⟨v2,rfl⟩:=list_of K2v k2
 exact⟨⟨v0,v1,v2⟩,rfl⟩
theorem GPiece.eqv{x y:GPiece}:x=y↔x.From=y.From∧x.Count=y.Count∧x.New=y.New:=by
 constructor
 ·rintro rfl;simp
 ·intro h
  rcases x with ⟨aFrom,aCount,aNew⟩
  rcases y with ⟨bFrom,bCount,bNew⟩
  simp only at h
  obtain⟨rfl,rfl,rfl⟩:=h
  rfl
def GPiece.size(x:GPiece):Nat:=(x.New.length)
structure GVersion where
 Address:GAddress
 From:Int
 Resource:GResource
 deriving DecidableEq
def GVersion.enc(x:GVersion):List T:=[tI x.Address.Host,tI x.Address.Path,tI x.Address.Query,tI x.From,tI x.Resource.Kind,.sl 1 (x.Resource.Body.map encI),tI x.Resource.To.Host,tI x.Resource.To.Path,tI x.Resource.To.Query]
def GVersion.dt:DT:= .st (.fc GAddress.dt (.fc .int (.fc GResource.dt .fn)))
theorem GVersion.of{ts:List T}(h:IsT GVersion.dt ts):∃x:GVersion,ts=x.enc:=by
 simp only[GVersion.dt,IsT]at h
 obtain⟨_,_,rfl,k0,_,_,rfl,⟨v1,rfl⟩,_,_,rfl,k2,rfl⟩:=h
 obtain⟨v0,rfl⟩:=GAddress.of k0
 obtain⟨v2,rfl⟩:=GResource.of k2
 exact⟨⟨v0,v1,v2⟩,rfl⟩
theorem GVersion.eqv{x y:GVersion}:x=y↔x.Address.Host=y.Address.Host∧x.Address.Path=y.Address.Path∧x.Address.Query=y.Address.Query∧x.From=y.From∧x.Resource.Kind=y.Resource.Kind∧x.Resource.Body=y.Resource.Body∧x.Resource.To.Host=y.Resource.To.Host∧x.Resource.To.Path=y.Resource.To.Path∧x.Resource.To.Query=y.Resource.To.Query:=by
 constructor
 ·rintro rfl;simp
 ·intro h
  rcases x with ⟨⟨aAddressHost,aAddressPath,aAddressQuery⟩,aFrom,⟨aResourceKind,aResourceBody,⟨aResourceToHost,aResourceToPath,aResourceToQuery⟩⟩⟩
  rcases y with ⟨⟨bAddressHost,bAddressPath,bAddressQuery⟩,bFrom,⟨bResourceKind,bResourceBody,⟨bResourceToHost,bResourceToPath,bResourceToQuery⟩⟩⟩
  simp only at h
  obtain⟨rfl,rfl,rfl,rfl,rfl,rfl,rfl,rfl,rfl⟩:=h
  rfl
def GVersion.size(x:GVersion):Nat:=(x.Resource.size)
structure GOp where
 Kind:Int
 A:Int
 B:Int
 C:Int
 deriving DecidableEq
def GOp.enc(x:GOp):List T:=[tI x.Kind,tI x.A,tI x.B,tI x.C]
def GOp.dt:DT:= .st (.fc .int (.fc .int (.fc .int (.fc .int .fn))))
theorem GOp.of{ts:List T}(h:IsT GOp.dt ts):∃x:GOp,ts=x.enc:=by
 simp only[GOp.dt,IsT]at h
 obtain⟨_,_,rfl,⟨v0,rfl⟩,_,_,rfl,⟨v1,rfl⟩,_,_,rfl,⟨v2,rfl⟩,_,_,rfl,⟨v3,rfl⟩,rfl⟩:=h
 exact⟨⟨v0,v1,v2,v3⟩,rfl⟩
theorem GOp.eqv{x y:GOp}:x=y↔x.Kind=y.Kind∧x.A=y.A∧x.B=y.B∧x.C=y.C:=by
 constructor
 ·rintro rfl;simp
 ·intro h
  rcases x with ⟨aKind,aA,aB,aC⟩
  rcases y with ⟨bKind,bA,bB,bC⟩
  simp only at h
  obtain⟨rfl,rfl,rfl,rfl⟩:=h
  rfl
structure GState where
 Pc:Int
 Regs:List Int
 Slots:List Int
 Nodes:List Int
 deriving DecidableEq
def GState.enc(x:GState):List T:=[tI x.Pc,.sl 1 (x.Regs.map encI),.sl 1 (x.Slots.map encI),.sl 1 (x.Nodes.map encI)]
def GState.dt:DT:= .st (.fc .int (.fc (.sl .int) (.fc (.sl .int) (.fc (.sl .int) .fn))))
theorem GState.of{ts:List T}(h:IsT GState.dt ts):∃x:GState,ts=x.enc:=by
 simp only[GState.dt,IsT]at h
 obtain⟨_,_,rfl,⟨v0,rfl⟩,_,_,rfl,⟨l1,rfl,k1⟩,_,_,rfl,⟨l2,rfl,k2⟩,_,_,rfl,⟨l3,rfl,k3⟩,rfl⟩:=h
 obtain⟨v1,rfl⟩:=list_of K2v k1
 obtain⟨v2,rfl⟩:=list_of K2v k2
 obtain⟨v3,rfl⟩:=list_of K2v k3
 exact⟨⟨v0,v1,v2,v3⟩,rfl⟩
theorem GState.eqv{x y:GState}:x=y↔x.Pc=y.Pc∧x.Regs=y.Regs∧x.Slots=y.Slots∧x.Nodes=y.Nodes:=by
 constructor
 ·rintro rfl;simp
 ·intro h
  rcases x with ⟨aPc,aRegs,aSlots,aNodes⟩
  rcases y with ⟨bPc,bRegs,bSlots,bNodes⟩
  simp only at h
  obtain⟨rfl,rfl,rfl,rfl⟩:=h
  rfl
def GState.size(x:GState):Nat:=(x.Regs.length)+(x.Slots.length)+(x.Nodes.length)
structure GVisit where
 Site:List GVersion
 Tick:Int
 Seed:Int
 Inputs:List Int
 deriving DecidableEq
def GVisit.enc(x:GVisit):List T:=[.sl 9 (x.Site.map GVersion.enc),tI x.Tick,tI x.Seed,.sl 1 (x.Inputs.map encI)]
def GVisit.dt:DT:= .st (.fc (.sl GVersion.dt) (.fc .int (.fc .int (.fc (.sl .int) .fn))))
theorem GVisit.of{ts:List T}(h:IsT GVisit.dt ts):∃x:GVisit,ts=x.enc:=by
 simp only[GVisit.dt,IsT]at h
 obtain⟨_,_,rfl,⟨l0,rfl,k0⟩,_,_,rfl,⟨v1,rfl⟩,_,_,rfl,⟨v2,rfl⟩,_,_,rfl,⟨l3,rfl,k3⟩,rfl⟩:=h
 obtain⟨v0,rfl⟩:=list_of GVersion.of k0
 obtain⟨v3,rfl⟩:=list_of K2v k3
 exact⟨⟨v0,v1,v2,v3⟩,rfl⟩
theorem GVisit.eqv{x y:GVisit}:x=y↔x.Site=y.Site∧x.Tick=y.Tick∧x.Seed=y.Seed∧x.Inputs=y.Inputs:=by
 constructor
 ·rintro rfl;simp
 ·intro h
  rcases x with ⟨aSite,aTick,aSeed,aInputs⟩
  rcases y with ⟨bSite,bTick,bSeed,bInputs⟩
  simp only at h
  obtain⟨rfl,rfl,rfl,rfl⟩:=h
  rfl
def GVisit.size(x:GVisit):Nat:=(x.Site.length+(x.Site.map GVersion.size).sum)+(x.Inputs.length)
structure GWant where
 Kind:Int
 Address:GAddress
 deriving DecidableEq
def GWant.enc(x:GWant):List T:=[tI x.Kind,tI x.Address.Host,tI x.Address.Path,tI x.Address.Query]
def GWant.dt:DT:= .st (.fc .int (.fc GAddress.dt .fn))
theorem GWant.of{ts:List T}(h:IsT GWant.dt ts):∃x:GWant,ts=x.enc:=by
 simp only[GWant.dt,IsT]at h
 obtain⟨_,_,rfl,⟨v0,rfl⟩,_,_,rfl,k1,rfl⟩:=h
 obtain⟨v1,rfl⟩:=GAddress.of k1
 exact⟨⟨v0,v1⟩,rfl⟩
theorem GWant.eqv{x y:GWant}:x=y↔x.Kind=y.Kind∧x.Address.Host=y.Address.Host∧x.Address.Path=y.Address.Path∧x.Address.Query=y.Address.Query:=by
 constructor
 ·rintro rfl;simp
 ·intro h
  rcases x with ⟨aKind,⟨aAddressHost,aAddressPath,aAddressQuery⟩⟩
  rcases y with ⟨bKind,⟨bAddressHost,bAddressPath,bAddressQuery⟩⟩
  simp only at h
  obtain⟨rfl,rfl,rfl,rfl⟩:=h
  rfl
structure GEntry where
 Kind:Int
 Address:GAddress
 Value:Int
 deriving DecidableEq
def GEntry.enc(x:GEntry):List T:=[tI x.Kind,tI x.Address.Host,tI x.Address.Path,tI x.Address.Query,tI x.Value]
def GEntry.dt:DT:= .st (.fc .int (.fc GAddress.dt (.fc .int .fn)))
theorem GEntry.of{ts:List T}(h:IsT GEntry.dt ts):∃x:GEntry,ts=x.enc:=by
 simp only[GEntry.dt,IsT]at h
 obtain⟨_,_,rfl,⟨v0,rfl⟩,_,_,rfl,k1,_,_,rfl,⟨v2,rfl⟩,rfl⟩:=h
 obtain⟨v1,rfl⟩:=GAddress.of k1
 exact⟨⟨v0,v1,v2⟩,rfl⟩
theorem GEntry.eqv{x y:GEntry}:x=y↔x.Kind=y.Kind∧x.Address.Host=y.Address.Host∧x.Address.Path=y.Address.Path∧x.Address.Query=y.Address.Query∧x.Value=y.Value:=by
 constructor
 ·rintro rfl;simp
 ·intro h
  rcases x with ⟨aKind,⟨aAddressHost,aAddressPath,aAddressQuery⟩,aValue⟩
  rcases y with ⟨bKind,⟨bAddressHost,bAddressPath,bAddressQuery⟩,bValue⟩
  simp only at h
  obtain⟨rfl,rfl,rfl,rfl,rfl⟩:=h
  rfl
structure GCapture where
 Address:GAddress
 Tick:Int
 Resource:GResource
 deriving DecidableEq
def GCapture.enc(x:GCapture):List T:=[tI x.Address.Host,tI x.Address.Path,tI x.Address.Query,tI x.Tick,tI x.Resource.Kind,.sl 1 (x.Resource.Body.map encI),tI x.Resource.To.Host,tI x.Resource.To.Path,tI x.Resource.To.Query]
def GCapture.dt:DT:= .st (.fc GAddress.dt (.fc .int (.fc GResource.dt .fn)))
theorem GCapture.of{ts:List T}(h:IsT GCapture.dt ts):∃x:GCapture,ts=x.enc:=by
 simp only[GCapture.dt,IsT]at h
 obtain⟨_,_,rfl,k0,_,_,rfl,⟨v1,rfl⟩,_,_,rfl,k2,rfl⟩:=h
 obtain⟨v0,rfl⟩:=GAddress.of k0
 obtain⟨v2,rfl⟩:=GResource.of k2
 exact⟨⟨v0,v1,v2⟩,rfl⟩
theorem GCapture.eqv{x y:GCapture}:x=y↔x.Address.Host=y.Address.Host∧x.Address.Path=y.Address.Path∧x.Address.Query=y.Address.Query∧x.Tick=y.Tick∧x.Resource.Kind=y.Resource.Kind∧x.Resource.Body=y.Resource.Body∧x.Resource.To.Host=y.Resource.To.Host∧x.Resource.To.Path=y.Resource.To.Path∧x.Resource.To.Query=y.Resource.To.Query:=by
 constructor
 ·rintro rfl;simp
 ·intro h
  rcases x with ⟨⟨aAddressHost,aAddressPath,aAddressQuery⟩,aTick,⟨aResourceKind,aResourceBody,⟨aResourceToHost,aResourceToPath,aResourceToQuery⟩⟩⟩
  rcases y with ⟨⟨bAddressHost,bAddressPath,bAddressQuery⟩,bTick,⟨bResourceKind,bResourceBody,⟨bResourceToHost,bResourceToPath,bResourceToQuery⟩⟩⟩
  simp only at h
  obtain⟨rfl,rfl,rfl,rfl,rfl,rfl,rfl,rfl,rfl⟩:=h
  rfl
def GCapture.size(x:GCapture):Nat:=(x.Resource.size)
structure GChoice where
 Rule:Int
 At:Int
 deriving DecidableEq
def GChoice.enc(x:GChoice):List T:=[tI x.Rule,tI x.At]
def GChoice.dt:DT:= .st (.fc .int (.fc .int .fn))
theorem GChoice.of{ts:List T}(h:IsT GChoice.dt ts):∃x:GChoice,ts=x.enc:=by
 simp only[GChoice.dt,IsT]at h
 obtain⟨_,_,rfl,⟨v0,rfl⟩,_,_,rfl,⟨v1,rfl⟩,rfl⟩:=h
 exact⟨⟨v0,v1⟩,rfl⟩
theorem GChoice.eqv{x y:GChoice}:x=y↔x.Rule=y.Rule∧x.At=y.At:=by
 constructor
 ·rintro rfl;simp
 ·intro h
  rcases x with ⟨aRule,aAt⟩
  rcases y with ⟨bRule,bAt⟩
  simp only at h
  obtain⟨rfl,rfl⟩:=h
  rfl
structure GWander where
 State:GState
 Choices:List GChoice
 Labels:List Int
 Missing:Int
 deriving DecidableEq
def GWander.enc(x:GWander):List T:=[tI x.State.Pc,.sl 1 (x.State.Regs.map encI),.sl 1 (x.State.Slots.map encI),.sl 1 (x.State.Nodes.map encI),.sl 2 (x.Choices.map GChoice.enc),.sl 1 (x.Labels.map encI),tI x.Missing]
def GWander.dt:DT:= .st (.fc GState.dt (.fc (.sl GChoice.dt) (.fc (.sl .int) (.fc .int .fn))))
theorem GWander.of{ts:List T}(h:IsT GWander.dt ts):∃x:GWander,ts=x.enc:=by
 simp only[GWander.dt,IsT]at h
 obtain⟨_,_,rfl,k0,_,_,rfl,⟨l1,rfl,k1⟩,_,_,rfl,⟨l2,rfl,k2⟩,_,_,rfl,⟨v3,rfl⟩,rfl⟩:=h
 obtain⟨v0,rfl⟩:=GState.of k0
 obtain⟨v1,rfl⟩:=list_of GChoice.of k1
 obtain⟨v2,rfl⟩:=list_of K2v k2
 exact⟨⟨v0,v1,v2,v3⟩,rfl⟩
theorem GWander.eqv{x y:GWander}:x=y↔x.State.Pc=y.State.Pc∧x.State.Regs=y.State.Regs∧x.State.Slots=y.State.Slots∧x.State.Nodes=y.State.Nodes∧x.Choices=y.Choices∧x.Labels=y.Labels∧x.Missing=y.Missing:=by
 constructor
 ·rintro rfl;simp
 ·intro h
  rcases x with ⟨⟨aStatePc,aStateRegs,aStateSlots,aStateNodes⟩,aChoices,aLabels,aMissing⟩
  rcases y with ⟨⟨bStatePc,bStateRegs,bStateSlots,bStateNodes⟩,bChoices,bLabels,bMissing⟩
  simp only at h
  obtain⟨rfl,rfl,rfl,rfl,rfl,rfl,rfl⟩:=h
  rfl
def GWander.size(x:GWander):Nat:=(x.State.size)+(x.Choices.length)+(x.Labels.length)
structure GModel where
 Base:Int
 Step:Int
 Seen:Int
 Fits:Bool
 deriving DecidableEq
def GModel.enc(x:GModel):List T:=[tI x.Base,tI x.Step,tI x.Seen,tB x.Fits]
def GModel.dt:DT:= .st (.fc .int (.fc .int (.fc .int (.fc .bool .fn))))
theorem GModel.of{ts:List T}(h:IsT GModel.dt ts):∃x:GModel,ts=x.enc:=by
 simp only[GModel.dt,IsT]at h
 obtain⟨_,_,rfl,⟨v0,rfl⟩,_,_,rfl,⟨v1,rfl⟩,_,_,rfl,⟨v2,rfl⟩,_,_,rfl,⟨v3,rfl⟩,rfl⟩:=h
 exact⟨⟨v0,v1,v2,v3⟩,rfl⟩
theorem GModel.eqv{x y:GModel}:x=y↔x.Base=y.Base∧x.Step=y.Step∧x.Seen=y.Seen∧x.Fits=y.Fits:=by
 constructor
 ·rintro rfl;simp
 ·intro h
  rcases x with ⟨aBase,aStep,aSeen,aFits⟩
  rcases y with ⟨bBase,bStep,bSeen,bFits⟩
  simp only at h
  obtain⟨rfl,rfl,rfl,rfl⟩:=h
  rfl
structure GShown where
 Tick:Int
 Address:GAddress
 deriving DecidableEq
def GShown.enc(x:GShown):List T:=[tI x.Tick,tI x.Address.Host,tI x.Address.Path,tI x.Address.Query]
def GShown.dt:DT:= .st (.fc .int (.fc GAddress.dt .fn))
theorem GShown.of{ts:List T}(h:IsT GShown.dt ts):∃x:GShown,ts=x.enc:=by
 simp only[GShown.dt,IsT]at h
 obtain⟨_,_,rfl,⟨v0,rfl⟩,_,_,rfl,k1,rfl⟩:=h
 obtain⟨v1,rfl⟩:=GAddress.of k1
 exact⟨⟨v0,v1⟩,rfl⟩
theorem GShown.eqv{x y:GShown}:x=y↔x.Tick=y.Tick∧x.Address.Host=y.Address.Host∧x.Address.Path=y.Address.Path∧x.Address.Query=y.Address.Query:=by
 constructor
 ·rintro rfl;simp
 ·intro h
  rcases x with ⟨aTick,⟨aAddressHost,aAddressPath,aAddressQuery⟩⟩
  rcases y with ⟨bTick,⟨bAddressHost,bAddressPath,bAddressQuery⟩⟩
  simp only at h
  obtain⟨rfl,rfl,rfl,rfl⟩:=h
  rfl
structure GLeaf where
 Value:Int
 Salt:Int
 Hidden:Bool
 Seal:Int
 deriving DecidableEq
def GLeaf.enc(x:GLeaf):List T:=[tI x.Value,tI x.Salt,tB x.Hidden,tI x.Seal]
def GLeaf.dt:DT:= .st (.fc .int (.fc .int (.fc .bool (.fc .int .fn))))
theorem GLeaf.of{ts:List T}(h:IsT GLeaf.dt ts):∃x:GLeaf,ts=x.enc:=by
 simp only[GLeaf.dt,IsT]at h
 obtain⟨_,_,rfl,⟨v0,rfl⟩,_,_,rfl,⟨v1,rfl⟩,_,_,rfl,⟨v2,rfl⟩,_,_,rfl,⟨v3,rfl⟩,rfl⟩:=h
 exact⟨⟨v0,v1,v2,v3⟩,rfl⟩
theorem GLeaf.eqv{x y:GLeaf}:x=y↔x.Value=y.Value∧x.Salt=y.Salt∧x.Hidden=y.Hidden∧x.Seal=y.Seal:=by
 constructor
 ·rintro rfl;simp
 ·intro h
  rcases x with ⟨aValue,aSalt,aHidden,aSeal⟩
  rcases y with ⟨bValue,bSalt,bHidden,bSeal⟩
  simp only at h
  obtain⟨rfl,rfl,rfl,rfl⟩:=h
  rfl
structure GEdition where
 Captures:List GCapture
 From:Int
 Until:Int
 Hidden:List GAddress
 deriving DecidableEq
def GEdition.enc(x:GEdition):List T:=[.sl 9 (x.Captures.map GCapture.enc),tI x.From,tI x.Until,.sl 3 (x.Hidden.map GAddress.enc)]
def GEdition.dt:DT:= .st (.fc (.sl GCapture.dt) (.fc .int (.fc .int (.fc (.sl GAddress.dt) .fn))))
theorem GEdition.of{ts:List T}(h:IsT GEdition.dt ts):∃x:GEdition,ts=x.enc:=by
 simp only[GEdition.dt,IsT]at h
 obtain⟨_,_,rfl,⟨l0,rfl,k0⟩,_,_,rfl,⟨v1,rfl⟩,_,_,rfl,⟨v2,rfl⟩,_,_,rfl,⟨l3,rfl,k3⟩,rfl⟩:=h
 obtain⟨v0,rfl⟩:=list_of GCapture.of k0
 obtain⟨v3,rfl⟩:=list_of GAddress.of k3
 exact⟨⟨v0,v1,v2,v3⟩,rfl⟩
theorem GEdition.eqv{x y:GEdition}:x=y↔x.Captures=y.Captures∧x.From=y.From∧x.Until=y.Until∧x.Hidden=y.Hidden:=by
 constructor
 ·rintro rfl;simp
 ·intro h
  rcases x with ⟨aCaptures,aFrom,aUntil,aHidden⟩
  rcases y with ⟨bCaptures,bFrom,bUntil,bHidden⟩
  simp only at h
  obtain⟨rfl,rfl,rfl,rfl⟩:=h
  rfl
def GEdition.size(x:GEdition):Nat:=(x.Captures.length+(x.Captures.map GCapture.size).sum)+(x.Hidden.length)
structure GExclusion where
 Host:Int
 Path:Int
 From:Int
 Until:Int
 Asked:Int
 deriving DecidableEq
def GExclusion.enc(x:GExclusion):List T:=[tI x.Host,tI x.Path,tI x.From,tI x.Until,tI x.Asked]
def GExclusion.dt:DT:= .st (.fc .int (.fc .int (.fc .int (.fc .int (.fc .int .fn)))))
theorem GExclusion.of{ts:List T}(h:IsT GExclusion.dt ts):∃x:GExclusion,ts=x.enc:=by
 simp only[GExclusion.dt,IsT]at h
 obtain⟨_,_,rfl,⟨v0,rfl⟩,_,_,rfl,⟨v1,rfl⟩,_,_,rfl,⟨v2,rfl⟩,_,_,rfl,⟨v3,rfl⟩,_,_,rfl,⟨v4,rfl⟩,rfl⟩:=h
 exact⟨⟨v0,v1,v2,v3,v4⟩,rfl⟩
theorem GExclusion.eqv{x y:GExclusion}:x=y↔x.Host=y.Host∧x.Path=y.Path∧x.From=y.From∧x.Until=y.Until∧x.Asked=y.Asked:=by
 constructor
 ·rintro rfl;simp
 ·intro h
  rcases x with ⟨aHost,aPath,aFrom,aUntil,aAsked⟩
  rcases y with ⟨bHost,bPath,bFrom,bUntil,bAsked⟩
  simp only at h
  obtain⟨rfl,rfl,rfl,rfl,rfl⟩:=h
  rfl
structure GStatement where
 Witness:Int
 Digest:Int
 Tick:Int
 Seal:Int
 deriving DecidableEq
def GStatement.enc(x:GStatement):List T:=[tI x.Witness,tI x.Digest,tI x.Tick,tI x.Seal]
def GStatement.dt:DT:= .st (.fc .int (.fc .int (.fc .int (.fc .int .fn))))
theorem GStatement.of{ts:List T}(h:IsT GStatement.dt ts):∃x:GStatement,ts=x.enc:=by
 simp only[GStatement.dt,IsT]at h
 obtain⟨_,_,rfl,⟨v0,rfl⟩,_,_,rfl,⟨v1,rfl⟩,_,_,rfl,⟨v2,rfl⟩,_,_,rfl,⟨v3,rfl⟩,rfl⟩:=h
 exact⟨⟨v0,v1,v2,v3⟩,rfl⟩
theorem GStatement.eqv{x y:GStatement}:x=y↔x.Witness=y.Witness∧x.Digest=y.Digest∧x.Tick=y.Tick∧x.Seal=y.Seal:=by
 constructor
 ·rintro rfl;simp
 ·intro h
  rcases x with ⟨aWitness,aDigest,aTick,aSeal⟩
  rcases y with ⟨bWitness,bDigest,bTick,bSeal⟩
  simp only at h
  obtain⟨rfl,rfl,rfl,rfl⟩:=h
  rfl
structure GLibrary where
 Id:Int
 Digests:List Int
 Up:Bool
 Lies:Bool
 deriving DecidableEq
def GLibrary.enc(x:GLibrary):List T:=[tI x.Id,.sl 1 (x.Digests.map encI),tB x.Up,tB x.Lies]
def GLibrary.dt:DT:= .st (.fc .int (.fc (.sl .int) (.fc .bool (.fc .bool .fn))))
theorem GLibrary.of{ts:List T}(h:IsT GLibrary.dt ts):∃x:GLibrary,ts=x.enc:=by
 simp only[GLibrary.dt,IsT]at h
 obtain⟨_,_,rfl,⟨v0,rfl⟩,_,_,rfl,⟨l1,rfl,k1⟩,_,_,rfl,⟨v2,rfl⟩,_,_,rfl,⟨v3,rfl⟩,rfl⟩:=h
 obtain⟨v1,rfl⟩:=list_of K2v k1
 exact⟨⟨v0,v1,v2,v3⟩,rfl⟩
theorem GLibrary.eqv{x y:GLibrary}:x=y↔x.Id=y.Id∧x.Digests=y.Digests∧x.Up=y.Up∧x.Lies=y.Lies:=by
 constructor
 ·rintro rfl;simp
 ·intro h
  rcases x with ⟨aId,aDigests,aUp,aLies⟩
  rcases y with ⟨bId,bDigests,bUp,bLies⟩
  simp only at h
  obtain⟨rfl,rfl,rfl,rfl⟩:=h
  rfl
def GLibrary.size(x:GLibrary):Nat:=(x.Digests.length)
structure GContainer where
 Script:List GOp
 Entries:List GEntry
 Captures:List GCapture
 Root:Int
 deriving DecidableEq
def GContainer.enc(x:GContainer):List T:=[.sl 4 (x.Script.map GOp.enc),.sl 5 (x.Entries.map GEntry.enc),.sl 9 (x.Captures.map GCapture.enc),tI x.Root]
def GContainer.dt:DT:= .st (.fc (.sl GOp.dt) (.fc (.sl GEntry.dt) (.fc (.sl GCapture.dt) (.fc .int .fn))))
theorem GContainer.of{ts:List T}(h:IsT GContainer.dt ts):∃x:GContainer,ts=x.enc:=by
 simp only[GContainer.dt,IsT]at h
 obtain⟨_,_,rfl,⟨l0,rfl,k0⟩,_,_,rfl,⟨l1,rfl,k1⟩,_,_,rfl,⟨l2,rfl,k2⟩,_,_,rfl,⟨v3,rfl⟩,rfl⟩:=h
 obtain⟨v0,rfl⟩:=list_of GOp.of k0
 obtain⟨v1,rfl⟩:=list_of GEntry.of k1
 obtain⟨v2,rfl⟩:=list_of GCapture.of k2
 exact⟨⟨v0,v1,v2,v3⟩,rfl⟩
theorem GContainer.eqv{x y:GContainer}:x=y↔x.Script=y.Script∧x.Entries=y.Entries∧x.Captures=y.Captures∧x.Root=y.Root:=by
 constructor
 ·rintro rfl;simp
 ·intro h
  rcases x with ⟨aScript,aEntries,aCaptures,aRoot⟩
  rcases y with ⟨bScript,bEntries,bCaptures,bRoot⟩
  simp only at h
  obtain⟨rfl,rfl,rfl,rfl⟩:=h
  rfl
def GContainer.size(x:GContainer):Nat:=(x.Script.length)+(x.Entries.length)+(x.Captures.length+(x.Captures.map GCapture.size).sum)
structure GFound where
 Address:GAddress
 Tick:Int
 Container:Int
 At:Int
 deriving DecidableEq
def GFound.enc(x:GFound):List T:=[tI x.Address.Host,tI x.Address.Path,tI x.Address.Query,tI x.Tick,tI x.Container,tI x.At]
def GFound.dt:DT:= .st (.fc GAddress.dt (.fc .int (.fc .int (.fc .int .fn))))
theorem GFound.of{ts:List T}(h:IsT GFound.dt ts):∃x:GFound,ts=x.enc:=by
 simp only[GFound.dt,IsT]at h
 obtain⟨_,_,rfl,k0,_,_,rfl,⟨v1,rfl⟩,_,_,rfl,⟨v2,rfl⟩,_,_,rfl,⟨v3,rfl⟩,rfl⟩:=h
 obtain⟨v0,rfl⟩:=GAddress.of k0
 exact⟨⟨v0,v1,v2,v3⟩,rfl⟩
theorem GFound.eqv{x y:GFound}:x=y↔x.Address.Host=y.Address.Host∧x.Address.Path=y.Address.Path∧x.Address.Query=y.Address.Query∧x.Tick=y.Tick∧x.Container=y.Container∧x.At=y.At:=by
 constructor
 ·rintro rfl;simp
 ·intro h
  rcases x with ⟨⟨aAddressHost,aAddressPath,aAddressQuery⟩,aTick,aContainer,aAt⟩
  rcases y with ⟨⟨bAddressHost,bAddressPath,bAddressQuery⟩,bTick,bContainer,bAt⟩
  simp only at h
  obtain⟨rfl,rfl,rfl,rfl,rfl,rfl⟩:=h
  rfl
structure GDisk where
 Containers:List GContainer
 Index:List GFound
 Wanted:List GContainer
 deriving DecidableEq
def GDisk.enc(x:GDisk):List T:=[.sl 4 (x.Containers.map GContainer.enc),.sl 6 (x.Index.map GFound.enc),.sl 4 (x.Wanted.map GContainer.enc)]
def GDisk.dt:DT:= .st (.fc (.sl GContainer.dt) (.fc (.sl GFound.dt) (.fc (.sl GContainer.dt) .fn)))
theorem GDisk.of{ts:List T}(h:IsT GDisk.dt ts):∃x:GDisk,ts=x.enc:=by
 simp only[GDisk.dt,IsT]at h
 obtain⟨_,_,rfl,⟨l0,rfl,k0⟩,_,_,rfl,⟨l1,rfl,k1⟩,_,_,rfl,⟨l2,rfl,k2⟩,rfl⟩:=h
 obtain⟨v0,rfl⟩:=list_of GContainer.of k0
 obtain⟨v1,rfl⟩:=list_of GFound.of k1
 obtain⟨v2,rfl⟩:=list_of GContainer.of k2
 exact⟨⟨v0,v1,v2⟩,rfl⟩
theorem GDisk.eqv{x y:GDisk}:x=y↔x.Containers=y.Containers∧x.Index=y.Index∧x.Wanted=y.Wanted:=by
 constructor
 ·rintro rfl;simp
 ·intro h
  rcases x with ⟨aContainers,aIndex,aWanted⟩
  rcases y with ⟨bContainers,bIndex,bWanted⟩
  simp only at h
  obtain⟨rfl,rfl,rfl⟩:=h
  rfl
def GDisk.size(x:GDisk):Nat:=(x.Containers.length+(x.Containers.map GContainer.size).sum)+(x.Index.length)+(x.Wanted.length+(x.Wanted.map GContainer.size).sum)
structure GArchive where
 Site:List GVersion
 Script:List GOp
 Disk:GDisk
 Exclusions:List GExclusion
 Libraries:List GLibrary
 Keys:List Int
 Statements:List GStatement
 Now:Int
 deriving DecidableEq
def GArchive.enc(x:GArchive):List T:=[.sl 9 (x.Site.map GVersion.enc),.sl 4 (x.Script.map GOp.enc),.sl 4 (x.Disk.Containers.map GContainer.enc),.sl 6 (x.Disk.Index.map GFound.enc),.sl 4 (x.Disk.Wanted.map GContainer.enc),.sl 5 (x.Exclusions.map GExclusion.enc),.sl 4 (x.Libraries.map GLibrary.enc),.sl 1 (x.Keys.map encI),.sl 4 (x.Statements.map GStatement.enc),tI x.Now]
def GArchive.dt:DT:= .st (.fc (.sl GVersion.dt) (.fc (.sl GOp.dt) (.fc GDisk.dt (.fc (.sl GExclusion.dt) (.fc (.sl GLibrary.dt) (.fc (.sl .int) (.fc (.sl GStatement.dt) (.fc .int .fn))))))))
theorem GArchive.of{ts:List T}(h:IsT GArchive.dt ts):∃x:GArchive,ts=x.enc:=by
 simp only[GArchive.dt,IsT]at h
 obtain⟨_,_,rfl,⟨l0,rfl,k0⟩,_,_,rfl,⟨l1,rfl,k1⟩,_,_,rfl,k2,_,_,rfl,⟨l3,rfl,k3⟩,_,_,rfl,⟨l4,rfl,k4⟩,_,_,rfl,⟨l5,rfl,k5⟩,_,_,rfl,⟨l6,rfl,k6⟩,_,_,rfl,⟨v7,rfl⟩,rfl⟩:=h
 obtain⟨v0,rfl⟩:=list_of GVersion.of k0
 obtain⟨v1,rfl⟩:=list_of GOp.of k1
 obtain⟨v2,rfl⟩:=GDisk.of k2
 obtain⟨v3,rfl⟩:=list_of GExclusion.of k3
 obtain⟨v4,rfl⟩:=list_of GLibrary.of k4
 obtain⟨v5,rfl⟩:=list_of K2v k5
 obtain⟨v6,rfl⟩:=list_of GStatement.of k6
 exact⟨⟨v0,v1,v2,v3,v4,v5,v6,v7⟩,rfl⟩
theorem GArchive.eqv{x y:GArchive}:x=y↔x.Site=y.Site∧x.Script=y.Script∧x.Disk.Containers=y.Disk.Containers∧x.Disk.Index=y.Disk.Index∧x.Disk.Wanted=y.Disk.Wanted∧x.Exclusions=y.Exclusions∧x.Libraries=y.Libraries∧x.Keys=y.Keys∧x.Statements=y.Statements∧x.Now=y.Now:=by
 constructor
 ·rintro rfl;simp
 ·intro h
  rcases x with ⟨aSite,aScript,⟨aDiskContainers,aDiskIndex,aDiskWanted⟩,aExclusions,aLibraries,aKeys,aStatements,aNow⟩
  rcases y with ⟨bSite,bScript,⟨bDiskContainers,bDiskIndex,bDiskWanted⟩,bExclusions,bLibraries,bKeys,bStatements,bNow⟩
  simp only at h
  obtain⟨rfl,rfl,rfl,rfl,rfl,rfl,rfl,rfl,rfl,rfl⟩:=h
  rfl
def GArchive.size(x:GArchive):Nat:=(x.Site.length+(x.Site.map GVersion.size).sum)+(x.Script.length)+(x.Disk.size)+(x.Exclusions.length)+(x.Libraries.length+(x.Libraries.map GLibrary.size).sum)+(x.Keys.length)+(x.Statements.length)
structure GEvent where
 Kind:Int
 N:Int
 Inputs:List Int
 Version:GVersion
 Exclusion:GExclusion
 deriving DecidableEq
def GEvent.enc(x:GEvent):List T:=[tI x.Kind,tI x.N,.sl 1 (x.Inputs.map encI),tI x.Version.Address.Host,tI x.Version.Address.Path,tI x.Version.Address.Query,tI x.Version.From,tI x.Version.Resource.Kind,.sl 1 (x.Version.Resource.Body.map encI),tI x.Version.Resource.To.Host,tI x.Version.Resource.To.Path,tI x.Version.Resource.To.Query,tI x.Exclusion.Host,tI x.Exclusion.Path,tI x.Exclusion.From,tI x.Exclusion.Until,tI x.Exclusion.Asked]
def GEvent.dt:DT:= .st (.fc .int (.fc .int (.fc (.sl .int) (.fc GVersion.dt (.fc GExclusion.dt .fn)))))
theorem GEvent.of{ts:List T}(h:IsT GEvent.dt ts):∃x:GEvent,ts=x.enc:=by
 simp only[GEvent.dt,IsT]at h
 obtain⟨_,_,rfl,⟨v0,rfl⟩,_,_,rfl,⟨v1,rfl⟩,_,_,rfl,⟨l2,rfl,k2⟩,_,_,rfl,k3,_,_,rfl,k4,rfl⟩:=h
 obtain⟨v2,rfl⟩:=list_of K2v k2
 obtain⟨v3,rfl⟩:=GVersion.of k3
 obtain⟨v4,rfl⟩:=GExclusion.of k4
 exact⟨⟨v0,v1,v2,v3,v4⟩,rfl⟩
theorem GEvent.eqv{x y:GEvent}:x=y↔x.Kind=y.Kind∧x.N=y.N∧x.Inputs=y.Inputs∧x.Version.Address.Host=y.Version.Address.Host∧x.Version.Address.Path=y.Version.Address.Path∧x.Version.Address.Query=y.Version.Address.Query∧x.Version.From=y.Version.From∧x.Version.Resource.Kind=y.Version.Resource.Kind∧x.Version.Resource.Body=y.Version.Resource.Body∧x.Version.Resource.To.Host=y.Version.Resource.To.Host∧x.Version.Resource.To.Path=y.Version.Resource.To.Path∧x.Version.Resource.To.Query=y.Version.Resource.To.Query∧x.Exclusion.Host=y.Exclusion.Host∧x.Exclusion.Path=y.Exclusion.Path∧x.Exclusion.From=y.Exclusion.From∧x.Exclusion.Until=y.Exclusion.Until∧x.Exclusion.Asked=y.Exclusion.Asked:=by
 constructor
 ·rintro rfl;simp
 ·intro h
  rcases x with ⟨aKind,aN,aInputs,⟨⟨aVersionAddressHost,aVersionAddressPath,aVersionAddressQuery⟩,aVersionFrom,⟨aVersionResourceKind,aVersionResourceBody,⟨aVersionResourceToHost,aVersionResourceToPath,aVersionResourceToQuery⟩⟩⟩,⟨aExclusionHost,aExclusionPath,aExclusionFrom,aExclusionUntil,aExclusionAsked⟩⟩
  rcases y with ⟨bKind,bN,bInputs,⟨⟨bVersionAddressHost,bVersionAddressPath,bVersionAddressQuery⟩,bVersionFrom,⟨bVersionResourceKind,bVersionResourceBody,⟨bVersionResourceToHost,bVersionResourceToPath,bVersionResourceToQuery⟩⟩⟩,⟨bExclusionHost,bExclusionPath,bExclusionFrom,bExclusionUntil,bExclusionAsked⟩⟩
  simp only at h
  obtain⟨rfl,rfl,rfl,rfl,rfl,rfl,rfl,rfl,rfl,rfl,rfl,rfl,rfl,rfl,rfl,rfl,rfl⟩:=h
  rfl
def GEvent.size(x:GEvent):Nat:=(x.Inputs.length)+(x.Version.size)
structure GChange where
 Tick:Int
 Digest:Int
 deriving DecidableEq
def GChange.enc(x:GChange):List T:=[tI x.Tick,tI x.Digest]
def GChange.dt:DT:= .st (.fc .int (.fc .int .fn))
theorem GChange.of{ts:List T}(h:IsT GChange.dt ts):∃x:GChange,ts=x.enc:=by
 simp only[GChange.dt,IsT]at h
 obtain⟨_,_,rfl,⟨v0,rfl⟩,_,_,rfl,⟨v1,rfl⟩,rfl⟩:=h
 exact⟨⟨v0,v1⟩,rfl⟩
theorem GChange.eqv{x y:GChange}:x=y↔x.Tick=y.Tick∧x.Digest=y.Digest:=by
 constructor
 ·rintro rfl;simp
 ·intro h
  rcases x with ⟨aTick,aDigest⟩
  rcases y with ⟨bTick,bDigest⟩
  simp only at h
  obtain⟨rfl,rfl⟩:=h
  rfl
structure GPlayed where
 Code:Int
 At:Int
 State:GState
 deriving DecidableEq
def GPlayed.enc(x:GPlayed):List T:=[tI x.Code,tI x.At,tI x.State.Pc,.sl 1 (x.State.Regs.map encI),.sl 1 (x.State.Slots.map encI),.sl 1 (x.State.Nodes.map encI)]
def GPlayed.dt:DT:= .st (.fc .int (.fc .int (.fc GState.dt .fn)))
theorem GPlayed.of{ts:List T}(h:IsT GPlayed.dt ts):∃x:GPlayed,ts=x.enc:=by
 simp only[GPlayed.dt,IsT]at h
 obtain⟨_,_,rfl,⟨v0,rfl⟩,_,_,rfl,⟨v1,rfl⟩,_,_,rfl,k2,rfl⟩:=h
 obtain⟨v2,rfl⟩:=GState.of k2
 exact⟨⟨v0,v1,v2⟩,rfl⟩
theorem GPlayed.eqv{x y:GPlayed}:x=y↔x.Code=y.Code∧x.At=y.At∧x.State.Pc=y.State.Pc∧x.State.Regs=y.State.Regs∧x.State.Slots=y.State.Slots∧x.State.Nodes=y.State.Nodes:=by
 constructor
 ·rintro rfl;simp
 ·intro h
  rcases x with ⟨aCode,aAt,⟨aStatePc,aStateRegs,aStateSlots,aStateNodes⟩⟩
  rcases y with ⟨bCode,bAt,⟨bStatePc,bStateRegs,bStateSlots,bStateNodes⟩⟩
  simp only at h
  obtain⟨rfl,rfl,rfl,rfl,rfl,rfl⟩:=h
  rfl
def GPlayed.size(x:GPlayed):Nat:=(x.State.size)
attribute [go_sem] encI encB GAddress.enc GResource.enc GPart.enc GPiece.enc GVersion.enc GOp.enc GState.enc GVisit.enc GWant.enc GEntry.enc GCapture.enc GChoice.enc GWander.enc GModel.enc GShown.enc GLeaf.enc GEdition.enc GExclusion.enc GStatement.enc GLibrary.enc GContainer.enc GFound.enc GDisk.enc GArchive.enc GEvent.enc GChange.enc GPlayed.enc
end Go.Proofs.YtjneccbpkckdfaaGreatR
namespace Go.Proofs.YtjneccbpkckdfaaGreatR
open Go Go.RowKit
open Nat (reduceEqDiff reduceLT reduceLeDiff reduceAdd reduceMul)
open List (reduceReplicate)
def own:List T→List (Bool×T)
 | []=>[]
 |.sl k es::l=>(true,.sl k es)::own l
 |t::l=>(false,t)::own l
@[go_sem] theorem own_nil:own []=[]:=rfl
@[go_sem] theorem own_sl {k es l}:own (.sl k es::l)=(true,.sl k es)::own l:=rfl
@[go_sem] theorem own_sc {v l}:own (.sc v::l)=(false,.sc v)::own l:=rfl
abbrev rS(ts:List T):RV:=⟨true,own ts⟩
abbrev rL(k:Nat)(es:List (List T)):RV:=⟨false,[(true,.sl k es)]⟩
abbrev aS(ts:List T):Bool×List T:=(true,ts)
attribute [go_sem] rS rL aS
def filled{α:Type}(f:α→List T)(z:List T)(xs:List α)(k:Nat):List (List T):=(xs.take k).map f++List.replicate (xs.length-k) z
section
variable {α:Type} {f:α→List T} {z:List T} {xs:List α} {k:Nat}
@[go_sem] theorem filled_len (h:k≤xs.length):(filled f z xs k).length=xs.length:=by simp[filled];omega
end
theorem K71{α:Type}{xs ys:List α}{k:Nat}{x y:α}(hx:xs[k]? =some x)(hy:ys[k]? =some y)(h:xs.take k=ys.take k):xs.take (k+1)=ys.take (k+1)↔x=y:=by
 rw[Kt hx,Kt hy,h]
 simp
theorem ne_at{α:Type} [DecidableEq α] {xs ys:List α}{k:Nat}{x y:α}(hx:xs[k]? =some x)(hy:ys[k]? =some y)(h:¬x=y):false=decide (xs=ys):=by
 symm
 rw[decide_eq_false_iff_not]
 rintro rfl
 rw[hx]at hy
 exact h (Option.some.inj hy)
theorem ne_len{α:Type} [DecidableEq α] {xs ys:List α}(h:¬(xs.length:Int)=ys.length):false=decide (xs=ys):=by
 symm
 rw[decide_eq_false_iff_not]
 rintro rfl
 exact h rfl
theorem eq_all{α:Type} [DecidableEq α] {xs ys:List α}(he:xs.take xs.length=ys.take xs.length)(hl:xs.length=ys.length):true=decide (xs=ys):=by
 symm
 rw[decide_eq_true_iff]
 rw[List.take_length]at he
 rw[he,hl,List.take_length]
theorem K7l{α:Type}{f:α→Nat}(l:List α)(k:Nat):((l.take k).map f).sum≤(l.map f).sum:=by
 have h:(l.map f).sum=((l.take k).map f).sum+((l.drop k).map f).sum:=by
  rw[←List.sum_append,←List.map_append,List.take_append_drop]
 omega
theorem K1y{α:Type}{f:α→Nat}{l:List α}{x:α}(h:x∈l):f x≤(l.map f).sum:=by
 induction l with
 |nil=>simp at h
 |cons y l ih=>
  rcases List.mem_cons.1 h with rfl|h
  ·simp
  ·have:=ih h;simp;omega
theorem K4k{α:Type}{l:List α}{k:Nat}{x:α}(h:l[k]? =some x):(l.take k).length+1=(l.take (k+1)).length:=by
 rw[Kt h];simp
theorem K4l{α:Type}{f:α→List T}{l:List α}{k:Nat}{x:α}(h:l[k]? =some x):(l.take k).map f++[f x]=(l.take (k+1)).map f:=by
 rw[Kt h];simp
end Go.Proofs.YtjneccbpkckdfaaGreatR
namespace Go.Proofs.YtjneccbpkckdfaaGreatR
open Go Go.RowKit Go.Proofs
open Nat (reduceEqDiff reduceLT reduceLeDiff reduceAdd reduceMul)
open List (reduceReplicate)
theorem hmix:Tryz.prog.follows .mixedOrders=true:=by kernel_rfl
theorem cA{f:FuncId}{fn:Func}{c:Code}{args:List (Bool×List T)}{rs:List RV}(M:MC)(m n:Nat)(res:List (MR×List Bool))(hf:Tryz.prog.funcs[f]? =some fn)(hb:fn.body=some c)(hnt:fn.ntmps=n)
    (h : bdA args → wpC Tryz.prog M (kF res rs) (startS args n m)) (hname : (fn.name == "runtime.NumGoroutine") = false := by kernel_rfl) (hc : chkC Tryz.prog c M = true := by kernel_rfl) (hres : K1b Tryz.prog fn.results.toList (res.map (·.1)) = true := by kernel_rfl) (hn : args.length ≤ n := by exact Nat.le_of_ble_eq_true rfl) : Ctr Tryz.prog f args rs :=
  ctr_at hmix hf hb hname hnt hc hres hn h
abbrev Na3:Nat:=7
abbrev N9x:Nat:=35
abbrev N33:Nat:=36
abbrev N5n:Nat:=37
abbrev Ng:Nat:=38
abbrev N1i:Nat:=39
abbrev N2z:Nat:=40
abbrev N2n:Nat:=41
abbrev N4t:Nat:=42
abbrev Nu:Nat:=43
abbrev N5r:Nat:=44
abbrev N88:Nat:=45
abbrev N3l:Nat:=114
abbrev N2w:Nat:=115
abbrev N2v:Nat:=116
abbrev N24:Nat:=117
abbrev N29:Nat:=118
abbrev N1f:Nat:=119
abbrev N13:Nat:=120
abbrev N3:Nat:=121
abbrev N21:Nat:=122
abbrev Nd:Nat:=123
abbrev N5q:Nat:=124
abbrev N2e:Nat:=125
abbrev N2t:Nat:=126
abbrev N17:Nat:=127
abbrev Nl:Nat:=128
abbrev N3z:Nat:=129
abbrev N1u:Nat:=130
abbrev N5i:Nat:=131
abbrev N4y:Nat:=132
abbrev N1z:Nat:=133
abbrev N42:Nat:=138
abbrev N1p:Nat:=139
abbrev N1w:Nat:=141
abbrev N8a:Nat:=147
abbrev N1:Nat:=151
abbrev N7:Nat:=173
abbrev Ns:Nat:=174
abbrev N2m:Nat:=177
abbrev N5t:Nat:=193
abbrev N1k:Nat:=194
abbrev N4r:Nat:=195
abbrev N25:Nat:=196
abbrev N89:Nat:=197
abbrev N8b:Nat:=198
abbrev N2o:Nat:=200
abbrev N5w:Nat:=203
abbrev N6a:Nat:=206
abbrev N7c:Nat:=209
abbrev N9y:Nat:=210
abbrev N6o:Nat:=212
abbrev N4p:Nat:=213
abbrev N7d:Nat:=224
abbrev N0:Nat:=225
abbrev N1r:Nat:=226
abbrev N8c:Nat:=227
abbrev N11:Nat:=228
abbrev N5j:Nat:=229
abbrev N3g:Nat:=230
abbrev Nc:Nat:=231
abbrev N22:Nat:=232
abbrev Nf:Nat:=233
abbrev N2d:Nat:=234
abbrev N1j:Nat:=235
abbrev N1l:Nat:=236
abbrev N4a:Nat:=237
abbrev N6b:Nat:=238
abbrev N1d:Nat:=239
abbrev N3e:Nat:=240
abbrev N2c:Nat:=242
abbrev N2a:Nat:=243
abbrev N19:Nat:=244
abbrev N5p:Nat:=245
abbrev N4z:Nat:=249
abbrev N1e:Nat:=250
abbrev N1o:Nat:=251
abbrev N92:Nat:=258
abbrev N41:Nat:=266
abbrev N1v:Nat:=269
abbrev N5k:Nat:=270
abbrev N32:Nat:=284
abbrev N93:Nat:=285
abbrev N4x:Nat:=286
abbrev N6r:Nat:=287
abbrev N49:Nat:=290
abbrev Nw:Nat:=292
abbrev N5l:Nat:=293
abbrev N9o:Nat:=294
abbrev Ni:Nat:=295
abbrev N3f:Nat:=296
abbrev N9n:Nat:=298
abbrev N1y:Nat:=306
abbrev N48:Nat:=307
abbrev N7b:Nat:=308
abbrev N3k:Nat:=309
abbrev N6c:Nat:=310
abbrev Np:Nat:=311
abbrev N3y:Nat:=312
abbrev N2l:Nat:=313
abbrev N4q:Nat:=314
abbrev N2s:Nat:=315
abbrev N5m:Nat:=316
abbrev N5o:Nat:=317
abbrev N3i:Nat:=318
abbrev N8:Nat:=319
abbrev N2:Nat:=320
abbrev N1x:Nat:=323
abbrev N8d:Nat:=324
abbrev N2u:Nat:=325
abbrev N20:Nat:=326
abbrev N5s:Nat:=327
abbrev N5u:Nat:=328
abbrev N4u:Nat:=329
abbrev N3j:Nat:=330
abbrev N7e:Nat:=332
abbrev N7a:Nat:=348
abbrev N16:Nat:=353
abbrev Nn:Nat:=354
abbrev N94:Nat:=360
abbrev N8g:Nat:=361
abbrev Nt:Nat:=362
abbrev N9w:Nat:=363
abbrev N40:Nat:=364
abbrev N1c:Nat:=365
abbrev N69:Nat:=367
abbrev N5x:Nat:=368
abbrev N4s:Nat:=369
abbrev N3h:Nat:=370
abbrev N95:Nat:=371
abbrev N8f:Nat:=386
abbrev N6:Nat:=387
abbrev N43:Nat:=388
abbrev N8e:Nat:=395
end Go.Proofs.YtjneccbpkckdfaaGreatR
namespace Go.Proofs.YtjneccbpkckdfaaGreatR
open Go Go.RowKit Go.Proofs
open Nat (reduceEqDiff reduceLT reduceLeDiff reduceAdd reduceMul)
open List (reduceReplicate)
def encU(n:Int):List T:=[.sc (.int .u8 n)]
theorem u8_of{ts:List T}(h:IsT .u8 ts):∃n,ts=encU n:=h
def cur(b:List Int)(i:Nat)(h:Int):List T:=[.sl 1 (b.map encU),tI i,tI h]
def byts(b:List Int):Prop:=b.length≤1048576
def andI(x y:Int):Int:=IntKind.i64.wrap (BitVec.ofInt 64 x&&&BitVec.ofInt 64 y).toNat
theorem andI_255(x:Int):∃n:Nat,n<256∧andI x 255=n:=by
 have h:(BitVec.ofInt 64 x&&&BitVec.ofInt 64 255).toNat≤255:=by
  rw[BitVec.toNat_and]
  exact Nat.and_le_right
 exact⟨_,by omega,wI (by omega) (by omega)⟩
theorem fin255{b:List Int}{i n:Nat}{H Z:Int}(hi:i≤b.length):ExK (fun y:(Nat×Int)×Nat=>y.1.1≤b.length∧y.2<256) (fun y=>kV [(MR.tmp 2,[false])] [T.sl 1 (b.map encU),tI y.1.1,tI y.1.2] [rI y.2]) Xt.ret
  ⟨[(2,vI (andI Z 255))],n,[⟨1,.box [.pl (.sl 1 (b.map encU)),.pl (tI i),.pl (tI H)]⟩]⟩:=by
 obtain⟨n,hn,e⟩:=andI_255 Z
 rw[e]
 refine K8 ((i,H),n) ⟨hi,hn⟩ ?_
 simp only[go_sem]
def M7z:MC:=
(Zs [.mv 2 (ci 0)] [0] (Zs [mS 4 0,mS 5 0,.nilc 6 (.s 5),fS 7 6 2,lF 8 1 7,bC 9 .mul 8 6364136223846793005,bC 10 .add 9 1442695040888963407,.nilc 11 (.s 4),fS 12 11 2,sS 1 12 10] [0] (.seq (.dreg [Zc [18,19,20,21,22] (mS 13 0),Zd [18,19,20,21,22] [0] (.nilc 14 (.s 13)),Zd [18,19,20,21,22] [0,1] (fS 15 14 2),Zd [18,19,20,21,22] [0,1,2] (lF 16 1 15),Zd [18,19,20,21,22] (.range 4) (.bin 17 false .shr (.s 16) (.c (.int .u64 33))),Zc [13,14,15,16,17] (mS 18 0),Zd [13,14,15,16,17] [5] (.nilc 19 (.s 18)),Zd [13,14,15,16,17] [5,6] (fS 20 19 2),Zd [13,14,15,16,17] [5,6,7] (lF 21 1 20),Zd [13,14,15,16,17] [5,6,7,8] (.bin 22 false .shr (.s 21) (.c (.int .u64 47))),Ze (.range 10) (bS 23 .xor 17 22),Ze (.range 11) (bC 24 .and 23 255),Ze (.range 12) (mS 3 24)] [0,3])
(.seq (.seq (.dreg [Zc [29,30,31,32,33] (mS 25 0),Zd [29,30,31,32,33] [0] (.nilc 26 (.s 25)),Zd [29,30,31,32,33] [0,1] (fS 27 26 1),Zd [29,30,31,32,33] [0,1,2] (lF 28 1 27),Zc [25,26,27,28] (mS 29 0),Zd [25,26,27,28] [4] (.nilc 30 (.s 29)),Zd [25,26,27,28] [4,5] (fS 31 30 0),Zd [25,26,27,28] [4,5,6] (lF 32 1 31),Zd [25,26,27,28] [4,5,6,7] (nS 33 32),Ze (.range 9) (bS 34 .lss 28 33)] [0,3,34])
(.cond (.s 34) (.seq (.dreg [Zc [36,37,38,39,40,41,42,43,44,45,46] (mS 35 3),Zc [35,40,41,42,43] (mS 36 0),Zd [35,40,41,42,43] [1] (.nilc 37 (.s 36)),Zd [35,40,41,42,43] [1,2] (fS 38 37 0),Zd [35,40,41,42,43] [1,2,3] (lF 39 1 38),Zc [35,36,37,38,39] (mS 40 0),Zd [35,36,37,38,39] [5] (.nilc 41 (.s 40)),Zd [35,36,37,38,39] [5,6] (fS 42 41 1),Zd [35,36,37,38,39] [5,6,7] (lF 43 1 42),Zd [35] [1,2,3,4,5,6,7,8] (xS 44 1 39 43),Zd [35] [1,2,3,4,5,6,7,8,9] (lF 45 1 44),Zd [35] [1,2,3,4,5,6,7,8,9,10] (.convI 46 .i64 (.s 45)),Ze (.range 12) (bS 47 .add 35 46),Ze (.range 13) (bC 48 .and 47 255),Ze (.range 14) (mS 3 48)] [0,3])
(pr [mS 49 0,mS 50 0,.nilc 51 (.s 50),fS 52 51 1,lF 53 1 52,bC 54 .add 53 1,.nilc 55 (.s 49),fS 56 55 1,sS 1 56 54] [3])) .skip))
(Zs [mS 57 3,mS 2 57] [2] .ret)))))
set_option maxHeartbeats 1000000 in
theorem x_l1Byte(b:List Int)(i:Nat)(h:Int)(hi:i≤b.length)(hb:byts b):∃y:(Nat×Int)×Nat,(y.1.1≤b.length∧y.2<256)∧CtrB Tryz.prog N1y (cur b i h) [] (cur b y.1.1 y.1.2) [rI y.2]:=by
 refine K13 (M:=M7z) (m:=0) (n:=58) (res:=[(.tmp 2,[false])]) rfl hmix Tryz.func306 rfl (by kernel_rfl) rfl (by kernel_rfl) (by kernel_rfl) (Nat.le_of_ble_eq_true rfl) ((i,h),0) ⟨hi,by omega⟩ ?_;unfold M7z
 intro hb1 hb2
 clear hb1 hb2
 have hl:=hb
 unfold byts at hl
 simp only[cur]
 have q33:¬(33:Int)<0:=by omega
 have q47:¬(47:Int)<0:=by omega
 simp only[go_sem,encU,q33,q47]
 generalize IntKind.i64.wrap (IntKind.i64.wrap (h*6364136223846793005)+1442695040888963407)=H
 refine⟨fun hlt=>?_,fun hge=>fin255 hi⟩
 have hlt':i<b.length:=by omega
 obtain⟨x,hx⟩:=Ke hlt'
 have h0:(0:Int)≤(i:Int):=by omega
 have hw:IntKind.i64.wrap ((i:Int)+1)=((i+1:Nat):Int):=by rw[wI (by omega) (by omega)];omega
 simp only[go_sem,K4 hx,h0,hlt,hw]
 exact fin255 hlt'
def M73:MC:=
(Zs [.mv 4 (ci 0)] [0,1] (.seq (Zs [mS 8 1,bC 9 .leq 8 0] [0,1,9] (.cond (.s 9) (Zs [.mv 4 (ci 0)] [4] .ret) .skip))
(.seq (Zs [mS 10 1,bC 11 .leq 10 256] [0,1,11] (.cond (.s 11) (Zs [mS 12 0,.callB 13 [] (.f N1y) (.s 12) [],mS 14 1,bS 15 .rem 13 14,mS 4 15] [4] .ret) .skip))
(Zs [mS 16 0,.callB 17 [] (.f N1y) (.s 16) [],mS 5 17] [0,1,5] (Zs [mS 18 0,.callB 19 [] (.f N1y) (.s 18) [],mS 6 19] [0,1,5,6] (Zs [mS 20 0,.callB 21 [] (.f N1y) (.s 20) [],mS 7 21] [1,5,6,7] (Zs [mS 22 5,bC 23 .mul 22 65536,mS 24 6,bC 25 .mul 24 256,bS 26 .add 23 25,mS 27 7,bS 28 .add 26 27,mS 29 1,bS 30 .rem 28 29,mS 4 30] [4] .ret)))))))
theorem K9(b:List Int)(i:Nat)(h:Int)(k:Nat)(hi:i≤b.length)(hb:byts b)(hk:k≤256):∃y:(Nat×Int)×Nat,(y.1.1≤b.length∧(y.2<k∨k=0∧y.2=0))∧CtrB Tryz.prog N0 (cur b i h) [aI k] (cur b y.1.1 y.1.2) [rI y.2]:=by
 have hz:0<k∨k=0∧0=0:=by omega
 refine K13 (M:=M73) (m:=0) (n:=31) (res:=[(.tmp 4,[false])]) rfl hmix Tryz.func225 rfl (by kernel_rfl) rfl (by kernel_rfl) (by kernel_rfl) (Nat.le_of_ble_eq_true rfl) ((i,h),0) ⟨hi,hz⟩ ?_;unfold M73
 intro hb1 hb2
 clear hb1 hb2
 have hk':(k:Int)≤256:=by omega
 simp only[cur]
 simp only[go_sem,hk']
 refine⟨fun h0=>K8 ((i,h),0) ⟨hi,hz⟩ ?_,fun h0=>?_⟩
 ·simp only[go_sem]
 ·obtain⟨⟨⟨i',h'⟩,x⟩,⟨q1,q2⟩,hc⟩:=x_l1Byte b i h hi hb
  simp only[cur]at q1 q2 hc
  have hne:¬(k:Int)=0:=by omega
  apply K2 hc
  simp only[go_sem,hne]
  have e:(x:Int).tmod (k:Int)=((x%k:Nat):Int):=by
   rw[Int.tmod_eq_emod_of_nonneg (by omega)];omega
  have hm:x%k<k:=Nat.mod_lt _ (by omega)
  rw[e]
  refine K8 ((i',h'),x%k) ⟨q1,.inl hm⟩ ?_
  simp only[go_sem]
def M80:MC:=
(Zs [.mv 4 cF] [0,1] (Zs [mS 5 0,mS 6 1,.callB 7 [] (.f N0) (.s 5) [.s 6],bC 8 .eql 7 0,mS 4 8] [4] .ret))
theorem Kb8(b:List Int)(i:Nat)(h:Int)(k:Nat)(hi:i≤b.length)(hb:byts b)(hk:k≤256):∃y:(Nat×Int)×Bool,(y.1.1≤b.length∧True)∧CtrB Tryz.prog N4y (cur b i h) [aI k] (cur b y.1.1 y.1.2) [rB y.2]:=by
 refine K13 (M:=M80) (m:=0) (n:=9) (res:=[(.tmp 4,[false])]) rfl hmix Tryz.func132 rfl (by kernel_rfl) rfl (by kernel_rfl) (by kernel_rfl) (Nat.le_of_ble_eq_true rfl) ((i,h),false) ⟨hi,trivial⟩ ?_;unfold M80
 intro hb1 hb2
 clear hb1 hb2
 obtain⟨⟨⟨i',h'⟩,x⟩,⟨q1,q2⟩,hc⟩:=K9 b i h k hi hb hk
 simp only[cur]at q1 q2 hc ⊢
 simp only[go_sem]
 apply K2 hc
 simp only[go_sem]
 refine K8 ((i',h'),((x:Int)==0)) q1 ?_
 simp only[go_sem]
def M8y:MC:=
(Zs [.mv 4 (ci 0)] [0,1] (Zs [mS 5 1,mS 6 0,mS 7 1,nS 8 7,.callB 9 [] (.f N0) (.s 6) [.s 8],xS 10 1 5 9,lF 11 1 10,mS 4 11] [4] .ret))
theorem K9e(b:List Int)(i:Nat)(h:Int)(l:List Int)(hi:i≤b.length)(hb:byts b)(hk:l.length≤256)(h0:0<l.length):∃y:(Nat×Int)×Int,(y.1.1≤b.length∧y.2∈l)∧CtrB Tryz.prog N3k (cur b i h) [aL 1 (l.map encI)] (cur b y.1.1 y.1.2) [rI y.2]:=by
 have hm0:∃z,z∈l:=List.exists_mem_of_length_pos h0
 obtain⟨z,hz⟩:=hm0
 refine K13 (M:=M8y) (m:=0) (n:=12) (res:=[(.tmp 4,[false])]) rfl hmix Tryz.func309 rfl (by kernel_rfl) rfl (by kernel_rfl) (by kernel_rfl) (Nat.le_of_ble_eq_true rfl) ((i,h),z) ⟨hi,hz⟩ ?_;unfold M8y
 intro hb1 hb2
 clear hb1 hb2
 obtain⟨⟨⟨i',h'⟩,x⟩,⟨q1,q2⟩,hc⟩:=K9 b i h l.length hi hb hk
 simp only[cur]at q1 q2 hc ⊢
 simp only[go_sem]
 apply K2 hc
 have hx:x<l.length:=by omega
 obtain⟨v,hv⟩:=Ke hx
 have g0:(0:Int)≤(x:Int):=by omega
 have g1:(x:Int)<(l.length:Int):=by omega
 simp only[go_sem,K4 hv,g0,g1]
 refine K8 ((i',h'),v) ⟨q1,K10 hv⟩ ?_
 simp only[go_sem]
end Go.Proofs.YtjneccbpkckdfaaGreatR
namespace Go.Proofs.YtjneccbpkckdfaaGreatR
open Go Go.RowKit Go.Proofs
open Nat (reduceEqDiff reduceLT reduceLeDiff reduceAdd reduceMul)
open List (reduceReplicate)
theorem tt{p:Prop} [Decidable p] (h:p):true=decide p:=(decide_eq_true h).symm
theorem K4p{α:Type}{p:α→Bool}{l:List α}{k:Nat}{x:α}(hx:l[k]? =some x)(h:(l.take k).any p=false)(hn:p x=false):(l.take (k+1)).any p=false:=by
 rw[Kt hx,List.any_append,h]
 simp[hn]
theorem any_here{α:Type}{p:α→Bool}{l:List α}{k:Nat}{x:α}(hx:l[k]? =some x)(hn:p x=true):l.any p=true:=List.any_eq_true.2 ⟨x,K10 hx,hn⟩
def idxF{α:Type}(p:α→Bool)(l:List α):Int:=if l.any p then(l.takeWhile fun x=> !p x).length else -1
theorem K4r{α:Type}{p:α→Bool}{l:List α}{k:Nat}{x:α}(hx:l[k]? =some x)(h:(l.take k).any p=false)(hn:p x=true):idxF p l=k:=by
 unfold idxF
 rw[any_here hx hn,if_pos rfl]
 congr 1
 have e:l=l.take k++x::l.drop (k+1):=K21 hx
 rw[e,List.takeWhile_append_of_pos]
 ·simp[hn]
  have:=Kl hx
  omega
 ·intro a ha
  have:=List.any_eq_false.1 h a ha
  simpa using this
theorem K4s{α:Type}{p:α→Bool}{l:List α}(h:l.any p=false):idxF p l= -1:=by
 unfold idxF;rw[h];rfl
theorem K76{α:Type}{p:α→Bool}{l:List α}:decide (idxF p l≥0)=l.any p:=by
 unfold idxF
 cases l.any p<;>simp
def encS(s:ByteArray):List T:=[tS s]
attribute [go_sem] encS
abbrev aStr(s:ByteArray):Bool×List T:=(false,[tS s])
attribute [go_sem] aStr
def Y0(v0:Nat):MC:=
(Zs [.mv 4 (ci 0)] [0,1] (.seq (Zs [mS 6 0,nS 7 6,.mv 8 (ci 0)] [0,1,7,8] (.block 0 (.loop ([0,1,7,8],[]) (Zs [bS 9 .lss 8 7] [0,1,7,8,9] (.seq (cX 9 0)
(.seq (.block 1 (Zs [mS 10 8,mS 5 10] [0,1,5,7,8] (Zs [mS 11 1,mS 12 0,mS 13 5,xS 14 v0 12 13,lT 15 v0 14,.call 16 [] (.s 11) [.s 15]] [0,1,5,7,8,16] (.cond (.s 16) (Zs [mS 17 5,mS 4 17] [4] .ret) .skip))))
(pr [bC 18 .add 8 1,mS 8 18] [0,1,7,8])))))))
(Zs [.mv 4 (.c (.int .i64 (-1)))] [4] .ret)))
attribute [go_sem] Y0
def M15:MC:=Y0 4
theorem C6s(xs:List GOp)(f:FuncId)(cs:List T)(p:GOp→Bool)(hp:∀x,x∈xs→Ctr Tryz.prog f (aS (GOp.enc x)::cs.map (fun t=>(false,[t]))) [rB (p x)]):Ctr Tryz.prog N16 [aL 4 (xs.map GOp.enc),(false,[.fn f cs])] [rI (idxF p xs)]:=by
 refine cA M15 0 19 [(.tmp 4,[false])] Tryz.func353 rfl rfl ?_;unfold M15
 intro hb
 simp only[bdA,bdL,bdT,Ky,roomB,and_true,List.length_map]at hb
 obtain⟨⟨hl,-⟩,-⟩:=hb
 simp only[go_sem]
 refine K7 xs (fun k=>[(8,vI k)]) (fun k=>[]) (fun k=>(xs.take k).any p=false) hl ?_
 simp only[go_sem]
 refine⟨?_,by simp,?_,?_⟩
 ·simp only[go_sem]
 ·intro k x hx h h0 h1 hw
  simp only[go_sem,K4 hx,h0,h1]
  refine K0 (hp x (K10 hx)) ?_
  simp only[go_sem,hw]
  exact⟨fun hn=>(K4r hx h hn).symm,fun hn=>K4p hx h hn⟩
 ·intro h
  simp only[go_sem]
  rw[List.take_length]at h
  rw[K4s h]
def Y1(v0:Nat):MC:=
(Zs [.mv 4 cF] [0,1] (Zs [mS 5 0,mS 6 1,.call 7 [] (.f v0) [.s 5,.s 6],bC 8 .geq 7 0,mS 4 8] [4] .ret))
attribute [go_sem] Y1
def Mv:MC:=Y1 N16
theorem C5z(xs:List GOp)(f:FuncId)(cs:List T)(p:GOp→Bool)(hp:∀x,x∈xs→Ctr Tryz.prog f (aS (GOp.enc x)::cs.map (fun t=>(false,[t]))) [rB (p x)]):Ctr Tryz.prog Nw [aL 4 (xs.map GOp.enc),(false,[.fn f cs])] [rB (xs.any p)]:=by
 refine cA Mv 0 9 [(.tmp 4,[false])] Tryz.func292 rfl rfl ?_;unfold Mv
 intro hb
 clear hb
 simp only[go_sem]
 refine K0 (C6s xs f cs p hp) ?_
 simp only[go_sem]
 intros
 exact K76
def Mq:MC:=Y0 5
theorem C60(xs:List GEntry)(f:FuncId)(cs:List T)(p:GEntry→Bool)(hp:∀x,x∈xs→Ctr Tryz.prog f (aS (GEntry.enc x)::cs.map (fun t=>(false,[t]))) [rB (p x)]):Ctr Tryz.prog Nt [aL 5 (xs.map GEntry.enc),(false,[.fn f cs])] [rI (idxF p xs)]:=by
 refine cA Mq 0 19 [(.tmp 4,[false])] Tryz.func362 rfl rfl ?_;unfold Mq
 intro hb
 simp only[bdA,bdL,bdT,Ky,roomB,and_true,List.length_map]at hb
 obtain⟨⟨hl,-⟩,-⟩:=hb
 simp only[go_sem]
 refine K7 xs (fun k=>[(8,vI k)]) (fun k=>[]) (fun k=>(xs.take k).any p=false) hl ?_
 simp only[go_sem]
 refine⟨?_,by simp,?_,?_⟩
 ·simp only[go_sem]
 ·intro k x hx h h0 h1 hw
  simp only[go_sem,K4 hx,h0,h1]
  refine K0 (hp x (K10 hx)) ?_
  simp only[go_sem,hw]
  exact⟨fun hn=>(K4r hx h hn).symm,fun hn=>K4p hx h hn⟩
 ·intro h
  simp only[go_sem]
  rw[List.take_length]at h
  rw[K4s h]
def Mo:MC:=Y1 Nt
theorem C4d(xs:List GEntry)(f:FuncId)(cs:List T)(p:GEntry→Bool)(hp:∀x,x∈xs→Ctr Tryz.prog f (aS (GEntry.enc x)::cs.map (fun t=>(false,[t]))) [rB (p x)]):Ctr Tryz.prog Np [aL 5 (xs.map GEntry.enc),(false,[.fn f cs])] [rB (xs.any p)]:=by
 refine cA Mo 0 9 [(.tmp 4,[false])] Tryz.func311 rfl rfl ?_;unfold Mo
 intro hb
 clear hb
 simp only[go_sem]
 refine K0 (C60 xs f cs p hp) ?_
 simp only[go_sem]
 intros
 exact K76
def Mm:MC:=Y0 9
theorem C4v(xs:List GCapture)(f:FuncId)(cs:List T)(p:GCapture→Bool)(hp:∀x,x∈xs→Ctr Tryz.prog f (aS (GCapture.enc x)::cs.map (fun t=>(false,[t]))) [rB (p x)]):Ctr Tryz.prog Nn [aL 9 (xs.map GCapture.enc),(false,[.fn f cs])] [rI (idxF p xs)]:=by
 refine cA Mm 0 19 [(.tmp 4,[false])] Tryz.func354 rfl rfl ?_;unfold Mm
 intro hb
 simp only[bdA,bdL,bdT,Ky,roomB,and_true,List.length_map]at hb
 obtain⟨⟨hl,-⟩,-⟩:=hb
 simp only[go_sem]
 refine K7 xs (fun k=>[(8,vI k)]) (fun k=>[]) (fun k=>(xs.take k).any p=false) hl ?_
 simp only[go_sem]
 refine⟨?_,by simp,?_,?_⟩
 ·simp only[go_sem]
 ·intro k x hx h h0 h1 hw
  simp only[go_sem,K4 hx,h0,h1]
  refine K0 (hp x (K10 hx)) ?_
  simp only[go_sem,hw]
  exact⟨fun hn=>(K4r hx h hn).symm,fun hn=>K4p hx h hn⟩
 ·intro h
  simp only[go_sem]
  rw[List.take_length]at h
  rw[K4s h]
def Mh:MC:=Y1 Nn
theorem C3m(xs:List GCapture)(f:FuncId)(cs:List T)(p:GCapture→Bool)(hp:∀x,x∈xs→Ctr Tryz.prog f (aS (GCapture.enc x)::cs.map (fun t=>(false,[t]))) [rB (p x)]):Ctr Tryz.prog Ni [aL 9 (xs.map GCapture.enc),(false,[.fn f cs])] [rB (xs.any p)]:=by
 refine cA Mh 0 9 [(.tmp 4,[false])] Tryz.func295 rfl rfl ?_;unfold Mh
 intro hb
 clear hb
 simp only[go_sem]
 refine K0 (C4v xs f cs p hp) ?_
 simp only[go_sem]
 intros
 exact K76
def Mb:MC:=Y0 4
theorem C45(xs:List GContainer)(f:FuncId)(cs:List T)(p:GContainer→Bool)(hp:∀x,x∈xs→Ctr Tryz.prog f (aS (GContainer.enc x)::cs.map (fun t=>(false,[t]))) [rB (p x)]):Ctr Tryz.prog Nf [aL 4 (xs.map GContainer.enc),(false,[.fn f cs])] [rI (idxF p xs)]:=by
 refine cA Mb 0 19 [(.tmp 4,[false])] Tryz.func233 rfl rfl ?_;unfold Mb
 intro hb
 simp only[bdA,bdL,bdT,Ky,roomB,and_true,List.length_map]at hb
 obtain⟨⟨hl,-⟩,-⟩:=hb
 simp only[go_sem]
 refine K7 xs (fun k=>[(8,vI k)]) (fun k=>[]) (fun k=>(xs.take k).any p=false) hl ?_
 simp only[go_sem]
 refine⟨?_,by simp,?_,?_⟩
 ·simp only[go_sem]
 ·intro k x hx h h0 h1 hw
  simp only[go_sem,K4 hx,h0,h1]
  refine K0 (hp x (K10 hx)) ?_
  simp only[go_sem,hw]
  exact⟨fun hn=>(K4r hx h hn).symm,fun hn=>K4p hx h hn⟩
 ·intro h
  simp only[go_sem]
  rw[List.take_length]at h
  rw[K4s h]
def Ma:MC:=Y1 Nf
theorem C1g(xs:List GContainer)(f:FuncId)(cs:List T)(p:GContainer→Bool)(hp:∀x,x∈xs→Ctr Tryz.prog f (aS (GContainer.enc x)::cs.map (fun t=>(false,[t]))) [rB (p x)]):Ctr Tryz.prog N3 [aL 4 (xs.map GContainer.enc),(false,[.fn f cs])] [rB (xs.any p)]:=by
 refine cA Ma 0 9 [(.tmp 4,[false])] Tryz.func121 rfl rfl ?_;unfold Ma
 intro hb
 clear hb
 simp only[go_sem]
 refine K0 (C45 xs f cs p hp) ?_
 simp only[go_sem]
 intros
 exact K76
def Mz:MC:=
(Zs [.mv 4 cF] [0,1] (.seq (Zs [mS 6 0,nS 7 6,mS 8 1,nS 9 8,bS 10 .neq 7 9] [0,1,10] (.cond (.s 10) (Zs [.mv 4 cF] [4] .ret) .skip))
(.seq (Zs [mS 11 0,nS 12 11,.mv 13 (ci 0)] [0,1,12,13] (.block 0 (.loop ([0,1,12,13],[]) (Zs [bS 14 .lss 13 12] [0,1,12,13,14] (.seq (cX 14 0)
(.seq (.block 1 (Zs [mS 15 13,mS 5 15] [0,1,5,12,13] (.seq (.dreg [Zc [17,20,21,22,23] (mS 16 0),Zc [16,20,21,22,23] (mS 17 5),Zd [20,21,22,23] [0,1] (xS 18 6 16 17),Zd [20,21,22,23] [0,1,2] (lT 19 6 18),Zc [16,17,18,19,21] (mS 20 1),Zc [16,17,18,19,20] (mS 21 5),Zd [16,17,18,19] [4,5] (xS 22 6 20 21),Zd [16,17,18,19] [4,5,6] (lT 23 6 22),Ze (.range 8) (.eqA 24 true [.i .i64,.i .i64,.i .i64,.i .i64,.i .i64,.i .i64] (.s 19) (.s 23))] [0,1,12,13,24])
(.cond (.s 24) (Zs [.mv 4 cF] [4] .ret) .skip))))
(pr [bC 25 .add 13 1,mS 13 25] [0,1,12,13])))))))
(Zs [.mv 4 cT] [4] .ret))))
theorem C36(xs ys:List GFound):Ctr Tryz.prog Nd [aL 6 (xs.map GFound.enc),aL 6 (ys.map GFound.enc)] [rB (decide (xs=ys))]:=by
 refine cA Mz 0 26 [(.tmp 4,[false])] Tryz.func123 rfl rfl ?_;unfold Mz
 intro hb
 simp only[bdA,bdL,bdT,Ky,roomB,and_true,List.length_map]at hb
 obtain⟨⟨hl,-⟩,⟨hl2,-⟩⟩:=hb
 simp only[go_sem]
 refine⟨fun h=>ne_len h,fun h=>?_⟩
 have hle:xs.length=ys.length:=by omega
 refine K7 xs (fun k=>[(13,vI k)]) (fun k=>[]) (fun k=>xs.take k=ys.take k) hl ?_
 simp only[go_sem]
 refine⟨?_,rfl,?_,?_⟩
 ·simp only[go_sem]
 ·intro k x hx he h0 h1 hw
  obtain⟨y,hy⟩:=Ke (show k<ys.length by omega)
  have h2:(k:Int)<ys.length:=by omega
  simp only[go_sem,K4 hx,K4 hy,h0,h1,h2,hw,eqB]
  exact⟨fun hn=>ne_at hx hy (by rintro rfl;simp at hn),fun hn=>(K71 hx hy he).2 (by exact GFound.eqv.2 (by simpa using hn))⟩
 ·intro he
  simp only[go_sem]
  exact eq_all he hle
end Go.Proofs.YtjneccbpkckdfaaGreatR
namespace Go.Proofs.YtjneccbpkckdfaaGreatR
open Go Go.RowKit Go.Proofs
open Nat (reduceEqDiff reduceLT reduceLeDiff reduceAdd reduceMul)
open List (reduceReplicate)
attribute [go_sem] eqB
def M9m:MC:=
(Zs [.mv 6 cF] [0,1,2] (.seq (.reg [Za (mS 7 0),Za (mS 8 1),Za (bS 9 .geq 7 8),Za (mS 10 9),Zb 10 true (mS 11 0),Zb 10 true (mS 12 2),Zb 10 true (bS 13 .leq 11 12),Za (.pick 14 (.s 10) (.s 13) cF),Za (mS 6 14)] [6])
.ret))
theorem C5(x a b:Int):Ctr Tryz.prog N1 [aI x,aI a,aI b] [rB (decide (a≤x∧x≤b))]:=by
 refine cA M9m 0 15 [(.tmp 6,[false])] Tryz.func151 rfl rfl ?_;unfold M9m
 intro hb
 clear hb
 simp only[go_sem]
 exact⟨fun h=>by simp[h],fun h=>by simp;omega⟩
def Ma4:MC:=
(Zs [.mv 4 cF] [0,1] (.seq (.reg [Za (mS 5 0),Za (bC 6 .geq 5 0),Za (mS 7 6),Zb 7 true (mS 8 0),Zb 7 true (mS 9 1),Zb 7 true (bS 10 .lss 8 9),Za (.pick 11 (.s 7) (.s 10) cF),Za (mS 4 11)] [4])
.ret))
theorem Cak(x n:Int):Ctr Tryz.prog N32 [aI x,aI n] [rB (decide (0≤x∧x<n))]:=by
 refine cA Ma4 0 12 [(.tmp 4,[false])] Tryz.func284 rfl rfl ?_;unfold Ma4
 intro hb
 clear hb
 simp only[go_sem]
 exact⟨fun h=>by simp[h],fun h=>by simp;omega⟩
def M6v:MC:=
(Zs [.mv 6 cF] [0,1,2] (.seq (.reg [Za (mS 7 1),Za (mS 8 0),Za (bS 9 .leq 7 8),Za (mS 10 9),Zb 10 true (mS 11 0),Zb 10 true (mS 12 2),Zb 10 true (bS 13 .leq 11 12),Za (.pick 14 (.s 10) (.s 13) cF),Za (mS 6 14)] [6])
.ret))
theorem Cj(x a b:Int):Ctr Tryz.prog N7 [aI x,aI a,aI b] [rB (decide (a≤x∧x≤b))]:=by
 refine cA M6v 0 15 [(.tmp 6,[false])] Tryz.func173 rfl rfl ?_;unfold M6v
 intro hb
 clear hb
 simp only[go_sem]
 exact⟨fun h=>by simp[h],fun h=>by simp;omega⟩
def K1d(l:List Int)(a b:Int):Bool:=l.all fun x=>decide (a≤x∧x≤b)
theorem K2e{α:Type}{p:α→Bool}{l:List α}{k:Nat}{x:α}(hx:l[k]? =some x)(h:(l.take k).all p=true)(hn:p x=true):(l.take (k+1)).all p=true:=by
 rw[Kt hx,List.all_append,h];simp[hn]
theorem K73{α:Type}{p:α→Bool}{l:List α}{k:Nat}{x:α}(hx:l[k]? =some x)(hn:p x=false):false=l.all p:=by
 symm;rw[List.all_eq_false];exact⟨x,K10 hx,by simp[hn]⟩
def M8v:MC:=
(Zs [.mv 6 cF] [0,1,2] (.seq (Zs [mS 9 0,nS 10 9,.mv 11 (ci 0)] [1,2,9,10,11] (.block 0 (.loop ([1,2,9,10,11],[]) (Zs [bS 12 .lss 11 10] [1,2,9,10,11,12] (.seq (cX 12 0)
(.seq (.block 1 (Zs [xS 13 1 9 11,lF 14 1 13,mS 8 14] [1,2,8,9,10,11] (Zs [mS 15 8,mS 16 1,mS 17 2,.call 18 [] (.f N7) [.s 15,.s 16,.s 17],.un 19 .not (.s 18)] [1,2,9,10,11,19] (.cond (.s 19) (Zs [.mv 6 cF] [6] .ret) .skip))))
(pr [bC 20 .add 11 1,mS 11 20] [1,2,9,10,11])))))))
(Zs [.mv 6 cT] [6] .ret)))
theorem C8p(l:List Int)(a b:Int):Ctr Tryz.prog N92 [aL 1 (l.map encI),aI a,aI b] [rB (K1d l a b)]:=by
 refine cA M8v 0 21 [(.tmp 6,[false])] Tryz.func258 rfl rfl ?_;unfold M8v
 intro hb
 simp only[bdA,bdL,bdT,Ky,K9c,roomB,and_true,List.length_map]at hb
 obtain⟨⟨hl,-⟩,-⟩:=hb
 simp only[go_sem]
 refine K7 l (fun k=>[(11,vI k)]) (fun k=>[]) (fun k=>((l.take k).all fun x=>decide (a≤x∧x≤b))=true) hl ?_
 simp only[go_sem]
 refine⟨?_,by simp,?_,?_⟩
 ·simp only[go_sem]
 ·intro k x hx h h0 h1 hw
  simp only[go_sem,K4 hx,h0,h1]
  refine K0 (Cj _ _ _) ?_
  simp only[go_sem,hw]
  exact⟨fun hn=>K73 hx (by simpa using hn),fun hn=>K2e hx h (by simpa using hn)⟩
 ·intro h
  simp only[go_sem]
  rw[List.take_length]at h
  exact h.symm
def M79:MC:=
(Zs [.mv 2 cF] [0] (.seq (Zs [.mv 3 (ci 0)] [0,3] (.block 0 (.loop ([0,3],[]) (.seq (Zs [mS 4 3,mS 5 0,nS 6 5,bS 7 .lss 4 6] [0,3,7] (cX 7 0))
(.seq (.block 1 (Zs [mS 10 0,mS 11 3,xS 12 1 10 11,lF 13 1 12,.call 14 [] (.f N1) [.s 13,.c (.int .i64 0),.c (.int .i64 255)],.un 15 .not (.s 14)] [0,3,15] (.cond (.s 15) (Zs [.mv 2 cF] [2] .ret) .skip)))
(pr [mS 8 3,bC 9 .add 8 1,mS 3 9] [0,3]))))))
(Zs [.mv 2 cT] [2] .ret)))
theorem Ca2(l:List Int):Ctr Tryz.prog N7e [aL 1 (l.map encI)] [rB (K1d l 0 255)]:=by
 refine cA M79 0 16 [(.tmp 2,[false])] Tryz.func332 rfl rfl ?_;unfold M79
 intro hb
 simp only[bdA,bdL,bdT,Ky,roomB,and_true,List.length_map]at hb
 obtain⟨hl,-⟩:=hb
 simp only[go_sem]
 refine K7 l (fun k=>[(3,vI k)]) (fun k=>[]) (fun k=>((l.take k).all fun x=>decide (0≤x∧x≤255))=true) hl ?_
 simp only[go_sem]
 refine⟨?_,by simp,?_,?_⟩
 ·simp only[go_sem]
 ·intro k x hx h h0 h1 hw
  simp only[go_sem,K4 hx,h0,h1]
  refine K0 (C5 _ _ _) ?_
  simp only[go_sem,hw]
  exact⟨fun hn=>K73 hx (by simpa using hn),fun hn=>K2e hx h (by simpa using hn)⟩
 ·intro h
  simp only[go_sem]
  rw[List.take_length]at h
  exact h.symm
def K23(a:GAddress):Bool:=decide (1≤a.Host∧a.Host≤9)&&(decide (0≤a.Path∧a.Path≤99)&&decide (0≤a.Query∧a.Query≤99))
def Y2(v0:Nat):MC:=
(Zs [.box 1 0 (.s 0),.mv 2 cF] [1] (.seq (.reg [Za (fS 3 1 0),Za (lF 4 1 3),Za (.call 5 [] (.f v0) [.s 4,.c (.int .i64 1),.c (.int .i64 9)]),Za (mS 6 5),Zb 6 true (fS 7 1 1),Zb 6 true (lF 8 1 7),Zb 6 true (.call 9 [] (.f v0) [.s 8,.c (.int .i64 0),.c (.int .i64 99)]),Za (.pick 10 (.s 6) (.s 9) cF),Za (mS 11 10),Zb 11 true (fS 12 1 2),Zb 11 true (lF 13 1 12),Zb 11 true (.call 14 [] (.f v0) [.s 13,.c (.int .i64 0),.c (.int .i64 99)]),Za (.pick 15 (.s 11) (.s 14) cF),Za (mS 2 15)] [2])
.ret))
attribute [go_sem] Y2
def M62:MC:=Y2 N7
theorem C2x(a:GAddress):Ctr Tryz.prog N1v [aS a.enc] [rB (K23 a)]:=by
 refine cA M62 1 16 [(.tmp 2,[false])] Tryz.func269 rfl rfl ?_;unfold M62
 intro hb
 clear hb
 simp only[go_sem]
 refine K0 (Cj _ _ _) ?_
 simp only[go_sem]
 refine⟨fun h=>?_,fun h=>by unfold K23;rw[decide_eq_false h];rfl⟩
 refine K0 (Cj _ _ _) ?_
 simp only[go_sem]
 refine⟨fun h2=>?_,fun h2=>by unfold K23;rw[decide_eq_false h2];simp⟩
 refine K0 (Cj _ _ _) ?_
 simp only[go_sem]
 unfold K23;rw[decide_eq_true h,decide_eq_true h2];rfl
def M64:MC:=Y2 N1
theorem C1s(a:GAddress):Ctr Tryz.prog N1e [aS a.enc] [rB (K23 a)]:=by
 refine cA M64 1 16 [(.tmp 2,[false])] Tryz.func250 rfl rfl ?_;unfold M64
 intro hb
 clear hb
 simp only[go_sem]
 refine K0 (C5 _ _ _) ?_
 simp only[go_sem]
 refine⟨fun h=>?_,fun h=>by unfold K23;rw[decide_eq_false h];rfl⟩
 refine K0 (C5 _ _ _) ?_
 simp only[go_sem]
 refine⟨fun h2=>?_,fun h2=>by unfold K23;rw[decide_eq_false h2];simp⟩
 refine K0 (C5 _ _ _) ?_
 simp only[go_sem]
 unfold K23;rw[decide_eq_true h,decide_eq_true h2];rfl
def K1u(a:GAddress):Bool:=a.Host==0&&(a.Path==0&&a.Query==0)
def Kv(r:GResource):Bool:=
 if r.Kind=1∨r.Kind=2 then decide (r.Body.length≤6)&&(K1d r.Body 0 255&&K1u r.To)
 else if r.Kind=3 then decide (r.Body.length=0)&&K23 r.To
 else if r.Kind=4 then decide (r.Body.length=0)&&K1u r.To else false
def M54:MC:=
(Zs [.box 1 0 (.s 0),.mv 2 cF] [1] (.seq (Zs [fS 3 1 0,lF 4 1 3] [1,4] (.block 0 (.seq (Zs [bC 6 .eql 4 1,mS 5 6] [1,4,5] (.cond (.s 5) .skip (pr [bC 7 .eql 4 2,mS 5 7] [1,4,5])))
(.cond (.s 5) (.seq (.reg [Za (fS 8 1 1),Za (lF 9 1 8),Za (nS 10 9),Za (bC 11 .leq 10 6),Za (mS 12 11),Zb 12 true (fS 13 1 1),Zb 12 true (lF 14 1 13),Zb 12 true (.call 15 [] (.f N92) [.s 14,.c (.int .i64 0),.c (.int .i64 255)]),Za (.pick 16 (.s 12) (.s 15) cF),Za (mS 17 16),Zb 17 true (fS 18 1 2),Zb 17 true (lT 19 3 18),Zb 17 true (.build 20 [pz,pz,pz] []),Zb 17 true (.eqA 21 false [.i .i64,.i .i64,.i .i64] (.s 19) (.s 20)),Za (.pick 22 (.s 17) (.s 21) cF),Za (mS 2 22)] [2])
.ret) (Zs [bC 24 .eql 4 3,mS 23 24] [1,4,23] (.cond (.s 23) (.seq (.reg [Za (fS 25 1 1),Za (lF 26 1 25),Za (nS 27 26),Za (bC 28 .eql 27 0),Za (mS 29 28),Zb 29 true (fS 30 1 2),Zb 29 true (lT 31 3 30),Zb 29 true (.call 32 [] (.f N1v) [.s 31]),Za (.pick 33 (.s 29) (.s 32) cF),Za (mS 2 33)] [2])
.ret) (Zs [bC 35 .eql 4 4,mS 34 35] [1,34] (.cond (.s 34) (.seq (.reg [Za (fS 36 1 1),Za (lF 37 1 36),Za (nS 38 37),Za (bC 39 .eql 38 0),Za (mS 40 39),Zb 40 true (fS 41 1 2),Zb 40 true (lT 42 3 41),Zb 40 true (.build 43 [pz,pz,pz] []),Zb 40 true (.eqA 44 false [.i .i64,.i .i64,.i .i64] (.s 42) (.s 43)),Za (.pick 45 (.s 40) (.s 44) cF),Za (mS 2 45)] [2])
.ret) .skip))))))))
(Zs [.mv 2 cF] [2] .ret)))
theorem C97(r:GResource):Ctr Tryz.prog N5k [aS r.enc] [rB (Kv r)]:=by
 refine cA M54 1 46 [(.tmp 2,[false])] Tryz.func270 rfl rfl ?_;unfold M54
 intro hb
 clear hb
 have hcase:r.Kind=1∨r.Kind=2∨r.Kind=3∨r.Kind=4∨(¬r.Kind=1∧¬r.Kind=2∧¬r.Kind=3∧¬r.Kind=4):=by omega
 rcases hcase with hk|hk|hk|hk|⟨h1,h2,h3,h4⟩
 ·simp only[go_sem,hk]
  refine⟨fun h=>?_,fun h=>?_⟩
  ·have h':r.Body.length≤6:=by omega
   refine K0 (C8p _ _ _) ?_
   simp only[go_sem]
   exact⟨fun h2=>by simp[Kv,K1u,hk,h2,h'],fun h2=>by simp[Kv,K1u,hk,h2]⟩
  ·have h':¬r.Body.length≤6:=by omega
   simp[Kv,K1u,hk,h']
 ·simp only[go_sem,hk,Int.reduceEq]
  refine⟨fun h=>?_,fun h=>?_⟩
  ·have h':r.Body.length≤6:=by omega
   refine K0 (C8p _ _ _) ?_
   simp only[go_sem]
   exact⟨fun h2=>by simp[Kv,K1u,hk,h2,h'],fun h2=>by simp[Kv,K1u,hk,h2]⟩
  ·have h':¬r.Body.length≤6:=by omega
   simp[Kv,K1u,hk,h']
 ·simp only[go_sem,hk,Int.reduceEq]
  refine⟨fun h=>?_,fun h=>?_⟩
  ·have h':r.Body.length=0:=by omega
   refine K0 (C2x r.To) ?_
   simp only[go_sem]
   simp[Kv,hk,h']
  ·have h':¬r.Body.length=0:=by omega
   unfold Kv
   rw[if_neg (by omega),if_pos hk,decide_eq_false h']
   rfl
 ·simp only[go_sem,hk,Int.reduceEq]
  refine⟨fun h=>?_,fun h=>?_⟩
  ·have h':r.Body.length=0:=by omega
   unfold Kv
   rw[if_neg (by omega),if_neg (by omega),if_pos hk,decide_eq_true h']
   simp[K1u]
  ·have h':¬r.Body.length=0:=by omega
   unfold Kv
   rw[if_neg (by omega),if_neg (by omega),if_pos hk,decide_eq_false h']
   rfl
 ·simp only[go_sem,h1,h2,h3,h4]
  unfold Kv
  rw[if_neg (by omega),if_neg (by omega),if_neg (by omega)]
def M5d:MC:=
(Zs [.box 1 0 (.s 0),.mv 2 cF] [1] (.seq (.seq (.reg [Za (fS 3 1 0),Za (lF 4 1 3),Za (.call 5 [] (.f N1) [.s 4,.c (.int .i64 1),.c (.int .i64 4)]),Za (.un 6 .not (.s 5)),Za (mS 7 6),Zb 7 false (fS 8 1 1),Zb 7 false (lF 9 1 8),Zb 7 false (.call 10 [] (.f N7e) [.s 9]),Zb 7 false (.un 11 .not (.s 10)),Za (.pick 12 (.s 7) cT (.s 11)),Za (mS 13 12),Zb 13 false (fS 14 1 1),Zb 13 false (lF 15 1 14),Zb 13 false (nS 16 15),Zb 13 false (bC 17 .gtr 16 6),Za (.pick 18 (.s 13) cT (.s 17))] [1,18])
(.cond (.s 18) (Zs [.mv 2 cF] [2] .ret) .skip))
(.seq (Zs [fS 19 1 0,lF 20 1 19,bC 21 .eql 20 3] [1,21] (.cond (.s 21) (.seq (.reg [Za (fS 22 1 2),Za (lT 23 3 22),Za (.call 24 [] (.f N1e) [.s 23]),Za (mS 25 24),Zb 25 true (fS 26 1 1),Zb 25 true (lF 27 1 26),Zb 25 true (nS 28 27),Zb 25 true (bC 29 .eql 28 0),Za (.pick 30 (.s 25) (.s 29) cF),Za (mS 2 30)] [2])
.ret) .skip))
(.seq (.reg [Za (fS 31 1 2),Za (lT 32 3 31),Za (.build 33 [pz,pz,pz] []),Za (.eqA 34 false [.i .i64,.i .i64,.i .i64] (.s 32) (.s 33)),Za (mS 35 34),Zb 35 true (fS 36 1 0),Zb 35 true (lF 37 1 36),Zb 35 true (bC 38 .neq 37 4),Zb 35 true (mS 39 38),Zb 39 false (fS 40 1 1),Zb 39 false (lF 41 1 40),Zb 39 false (nS 42 41),Zb 39 false (bC 43 .eql 42 0),Zb 35 true (.pick 44 (.s 39) cT (.s 43)),Za (.pick 45 (.s 35) (.s 44) cF),Za (mS 2 45)] [2])
.ret))))
theorem C2f(r:GResource):Ctr Tryz.prog N1o [aS r.enc] [rB (Kv r)]:=by
 refine cA M5d 1 46 [(.tmp 2,[false])] Tryz.func251 rfl rfl ?_;unfold M5d
 intro hb
 clear hb
 simp only[go_sem]
 refine K0 (C5 _ _ _) ?_
 simp only[go_sem]
 refine⟨fun h=>?_,fun h=>?_⟩
 ·unfold Kv
  rw[if_neg (by omega),if_neg (by omega),if_neg (by omega)]
 ·refine K0 (Ca2 r.Body) ?_
  simp only[go_sem]
  refine⟨fun ha=>?_,fun ha=>⟨fun hl=>?_,fun hl=>⟨fun hk=>?_,fun hk=>?_⟩⟩⟩
  ·have h0:¬r.Body.length=0:=fun e=>by
    rw[List.eq_nil_of_length_eq_zero e]at ha
    simp[K1d]at ha
   simp[Kv,ha,h0]
  ·have h0:¬r.Body.length=0:=by omega
   have h1:¬r.Body.length≤6:=by omega
   simp[Kv,h0,h1]
  ·refine K0 (C1s r.To) ?_
   simp only[go_sem]
   refine⟨fun hi=>?_,fun hi=>by simp[Kv,hk,hi]⟩
   unfold Kv
   rw[if_neg (by omega),if_pos hk,hi,Bool.and_true,Bool.eq_iff_iff]
   simp
  ·have h1:r.Body.length≤6:=by omega
   refine⟨fun ht=>?_,fun ht=>?_⟩
   ·have hn:K1u r.To=true:=by
     unfold K1u
     exact(Bool.eq_false_or_eq_true _).resolve_right fun e=>ht e.symm
    refine⟨fun k4=>?_,fun k4=>?_⟩
    ·unfold Kv
     rw[if_pos (by omega),ha,hn,decide_eq_true h1]
     rfl
    ·unfold Kv
     rw[if_neg (by omega),if_neg hk,if_pos k4,hn,Bool.and_true,Bool.eq_iff_iff]
     simp
   ·have hn:K1u r.To=false:=ht.symm
    unfold Kv
    rw[hn,if_neg hk]
    split
    ·simp
    ·split<;>simp
end Go.Proofs.YtjneccbpkckdfaaGreatR
namespace Go.Proofs.YtjneccbpkckdfaaGreatR
open Go Go.RowKit Go.Proofs
open Nat (reduceEqDiff reduceLT reduceLeDiff reduceAdd reduceMul)
open List (reduceReplicate)
section
variable (b:List Int) (i:Nat) (h:Int) (hi:i≤b.length) (hb:byts b)
def M83:MC:=
(Zs [.alloc 2 1 [pz,pz,pz]] [0,2] (Zs [mS 3 0,.callB 4 [] (.f N0) (.s 3) [.c (.int .i64 3)],.bin 5 false .add (ci 1) (.s 4),mS 6 0,.callB 7 [] (.f N0) (.s 6) [.c (.int .i64 3)],mS 8 0,.callB 9 [] (.f N0) (.s 8) [.c (.int .i64 3)],.build 10 [pz,pz,pz] [(0,1,.s 5),(1,1,.s 7),(2,1,.s 9)],sS 3 2 10] [2] .ret))
include hi hb in
theorem K4o:∃y:(Nat×Int)×GAddress,(y.1.1≤b.length∧K23 y.2=true)∧CtrB Tryz.prog N1z (cur b i h) [] (cur b y.1.1 y.1.2) [rS y.2.enc]:=by
 refine K13 (M:=M83) (m:=1) (n:=11) (res:=[(.cell 2 true 3,[false,false,false])]) rfl hmix Tryz.func133 rfl (by kernel_rfl) rfl (by kernel_rfl) (by kernel_rfl) (Nat.le_of_ble_eq_true rfl) ((i,h),⟨1,0,0⟩) ⟨hi,rfl⟩ ?_;unfold M83
 intro hb1 hb2
 clear hb1 hb2
 simp only[cur]
 simp only[go_sem]
 obtain⟨⟨⟨i1,h1⟩,x1⟩,⟨q1,p1⟩,c1⟩:=K9 b i h 3 hi hb (by omega)
 try dsimp only at q1 p1 c1
 simp only[cur]at c1
 apply K2 c1
 simp only[go_sem]
 obtain⟨⟨⟨i2,h2⟩,x2⟩,⟨q2,p2⟩,c2⟩:=K9 b i1 h1 3 q1 hb (by omega)
 try dsimp only at q2 p2 c2
 simp only[cur]at c2
 apply K2 c2
 simp only[go_sem]
 obtain⟨⟨⟨i3,h3⟩,x3⟩,⟨q3,p3⟩,c3⟩:=K9 b i2 h2 3 q2 hb (by omega)
 try dsimp only at q3 p3 c3
 simp only[cur]at c3
 apply K2 c3
 simp only[go_sem]
 have w1:IntKind.i64.wrap (1+(x1:Int))=((1+x1:Nat):Int):=by rw[wI (by omega) (by omega)];omega
 simp only[w1]
 refine K8 ((i3,h3),⟨((1+x1:Nat):Int),x2,x3⟩) ⟨q3,by simp[K23];omega⟩ ?_
 simp only[go_sem]
def M90:MC:=
(Zs [.mv 2 (ci 0)] [0] (Zs [mS 3 0,.litP 4 1 8 [.c (.int .i64 (-1)),.c (.int .i64 0),.c (.int .i64 9),.c (.int .i64 10),.c (.int .i64 99),.c (.int .i64 100),.c (.int .i64 9223372036854775807),.c (.int .i64 (-9223372036854775808))],.callB 5 [] (.f N3k) (.s 3) [.s 4],mS 2 5] [2] .ret))
include hi hb in
theorem x_l4Raw:∃y:(Nat×Int)×Int,(y.1.1≤b.length∧True)∧CtrB Tryz.prog N6c (cur b i h) [] (cur b y.1.1 y.1.2) [rI y.2]:=by
 refine K13 (M:=M90) (m:=0) (n:=6) (res:=[(.tmp 2,[false])]) rfl hmix Tryz.func310 rfl (by kernel_rfl) rfl (by kernel_rfl) (by kernel_rfl) (Nat.le_of_ble_eq_true rfl) ((i,h),0) ⟨hi,trivial⟩ ?_;unfold M90
 intro hb1 hb2
 clear hb1 hb2
 simp only[cur]
 simp only[go_sem]
 refine⟨⟨by decide,by decide⟩,?_⟩
 obtain⟨⟨⟨i1,h1⟩,x1⟩,⟨q1,p1⟩,c1⟩:=K9e b i h [-1,0,9,10,99,100,9223372036854775807,-9223372036854775808] hi hb (by decide) (by decide)
 try dsimp only at q1 p1 c1
 simp only[cur]at c1
 apply K2 c1
 simp only[go_sem]
 refine K8 ((i1,h1),x1) q1 ?_
 simp only[go_sem]
def M84:MC:=
(Zs [.nilo 2 1 1] [0] (Zs [.lit 5 1 1 8 [],mS 3 5] [0,3] (.seq (Zs [mS 6 0,.callB 7 [] (.f N0) (.s 6) [.c (.int .i64 5)],mS 4 7] [0,3,4] (.block 0 (.loop ([0,3,4],[2]) (.seq (Zs [mS 8 4,bC 9 .gtr 8 0] [0,3,4,9] (cX 9 0))
(.seq (.block 1 (pr [mS 12 3,mS 13 0,.callB 14 [] (.f N0) (.s 13) [.c (.int .i64 9)],.lit 15 2 1 8 [.s 14],.app 16 1 1 8 (.s 12) (.s 15),mS 3 16] [0,3,4]))
(pr [mS 10 4,bC 11 .sub 10 1,mS 4 11] [0,3,4]))))))
(Zs [mS 17 3,mS 2 17] [2] .ret))))
include hi hb in
theorem x_l5Body:∃y:(Nat×Int)×List Int,(y.1.1≤b.length∧(y.2.length≤4∧∀v∈y.2,0≤v∧v≤8))∧CtrB Tryz.prog N8e (cur b i h) [] (cur b y.1.1 y.1.2) [rL 1 (y.2.map encI)]:=by
 refine K13 (M:=M84) (m:=2) (n:=18) (res:=[(.tmp 2,[true])]) rfl hmix Tryz.func395 rfl (by kernel_rfl) rfl (by kernel_rfl) (by kernel_rfl) (Nat.le_of_ble_eq_true rfl) ((i,h),[]) ⟨hi,by simp⟩ ?_;unfold M84
 intro hb1 hb2
 clear hb1 hb2
 simp only[cur]
 simp only[go_sem]
 obtain⟨⟨⟨i1,h1⟩,x1⟩,⟨q1,p1⟩,c1⟩:=K9 b i h 5 hi hb (by omega)
 try dsimp only at q1 p1 c1
 simp only[cur]at c1
 apply K2 c1
 simp only[go_sem]
 refine Ko (ι:=((Nat×Int)×List Int)×Nat) (fun t=>[(3,.val false [.ref 1 0 1 0 t.1.2.length]),(4,vI t.2)]) (fun t=>[(0,⟨1,.box [.pl (.sl 1 (b.map encU)),.pl (tI t.1.1.1),.pl (tI t.1.1.2)]⟩),(1,⟨0,.row true 1 (t.1.2.map encI)⟩)])
  (fun t=>t.1.1.1≤b.length∧t.1.2.length+t.2≤4∧∀v∈t.1.2,0≤v∧v≤8) (fun t=>t.2) (((i1,h1),[]),x1) ?_
 simp only[go_sem]
 refine⟨?_,⟨q1,by show 0+x1≤4;omega,by simp⟩,?_⟩
 ·simp only[go_sem]
  done
 ·rintro ⟨⟨⟨i2,h2⟩,l⟩,n⟩ ⟨a1,a2,a3⟩
  simp only at a1 a2 a3
  simp only[go_sem]
  refine⟨fun k=>?_,fun k=>?_⟩
  ·have hw:IntKind.i64.wrap ((n:Int)-1)=((n-1:Nat):Int):=by rw[wI (by omega) (by omega)];omega
   obtain⟨⟨⟨i3,h3⟩,x3⟩,⟨q3,p3⟩,c3⟩:=K9 b i2 h2 9 a1 hb (by omega)
   try dsimp only at q3 p3 c3
   simp only[cur]at c3
   apply K2 c3
   simp only[go_sem,hw]
   refine⟨by decide,by simp only[roomB];omega,(((i3,h3),l++[(x3:Int)]),n-1),by simp[encI],⟨q3,by simp;omega,?_⟩,by simp only;omega⟩
   intro v hv
   rcases List.mem_append.1 hv with hv|hv
   ·exact a3 v hv
   ·rw[List.mem_singleton.1 hv];omega
  ·refine K8 ((i2,h2),l) ⟨a1,Nat.le_trans (Nat.le_add_right _ _) a2,a3⟩ ?_
   simp only[go_sem]
def M86:MC:=
(Zs [.alloc 2 1 [pz,.emp 1,pz,pz,pz]] [0,2] (.seq (Zs [mS 3 0,.callB 4 [] (.f N0) (.s 3) [.c (.int .i64 6)]] [0,2,4] (.block 0 (Zs [bC 6 .eql 4 0,mS 5 6] [0,2,4,5] (.cond (.s 5) (Zs [mS 7 0,.callB 8 [] (.f N1z) (.s 7) [],.build 9 [pz,.emp 1,pz,pz,pz] [(0,1,.c (.int .i64 3)),(2,3,.s 8)],sS 5 2 9] [2] .ret) (Zs [bC 11 .eql 4 1,mS 10 11] [0,2,10] (.cond (.s 10) (Zs [.build 12 [pz,.emp 1,pz,pz,pz] [(0,1,.c (.int .i64 4))],sS 5 2 12] [2] .ret) .skip))))))
(Zs [mS 13 0,.callB 14 [] (.f N0) (.s 13) [.c (.int .i64 2)],.bin 15 false .add (ci 1) (.s 14),mS 16 0,.callB 17 [2] (.f N8e) (.s 16) [],.build 18 [pz,.emp 1,pz,pz,pz] [(0,1,.s 15),(1,1,.s 17)],sS 5 2 18] [2] .ret)))
include hi hb in
theorem x_l5Draw:∃y:(Nat×Int)×GResource,(y.1.1≤b.length∧Kv y.2=true)∧CtrB Tryz.prog N8f (cur b i h) [] (cur b y.1.1 y.1.2) [rS y.2.enc]:=by
 refine K13 (M:=M86) (m:=2) (n:=19) (res:=[(.cell 2 true 5,[false,true,false,false,false])]) rfl hmix Tryz.func386 rfl (by kernel_rfl) rfl (by kernel_rfl) (by kernel_rfl) (Nat.le_of_ble_eq_true rfl) ((i,h),⟨4,[],⟨0,0,0⟩⟩) ⟨hi,rfl⟩ ?_;unfold M86
 intro hb1 hb2
 clear hb1 hb2
 simp only[cur]
 simp only[go_sem]
 obtain⟨⟨⟨i1,h1⟩,x1⟩,⟨q1,p1⟩,c1⟩:=K9 b i h 6 hi hb (by omega)
 try dsimp only at q1 p1 c1
 simp only[cur]at c1
 apply K2 c1
 simp only[go_sem]
 refine⟨fun k=>?_,fun k=>⟨fun k=>?_,fun k=>?_⟩⟩
 ·obtain⟨⟨⟨i2,h2⟩,x2⟩,⟨q2,p2⟩,c2⟩:=K4o b i1 h1 q1 hb
  try dsimp only at q2 p2 c2
  simp only[cur]at c2
  apply K2 c2
  simp only[go_sem]
  refine K8 ((i2,h2),⟨3,[],x2⟩) ⟨q2,by simp[Kv,p2]⟩ ?_
  simp only[go_sem]
 ·refine K8 ((i1,h1),⟨4,[],⟨0,0,0⟩⟩) ⟨q1,rfl⟩ ?_
  simp only[go_sem]
 ·obtain⟨⟨⟨i2,h2⟩,x2⟩,⟨q2,p2⟩,c2⟩:=K9 b i1 h1 2 q1 hb (by omega)
  try dsimp only at q2 p2 c2
  simp only[cur]at c2
  apply K2 c2
  simp only[go_sem]
  obtain⟨⟨⟨i3,h3⟩,x3⟩,⟨q3,p3⟩,c3⟩:=x_l5Body b i2 h2 q2 hb
  try dsimp only at q3 p3 c3
  simp only[cur]at c3
  apply K2 c3
  simp only[go_sem]
  have w1:IntKind.i64.wrap (1+(x2:Int))=((1+x2:Nat):Int):=by rw[wI (by omega) (by omega)];omega
  simp only[w1]
  refine K8 ((i3,h3),⟨((1+x2:Nat):Int),x3,⟨0,0,0⟩⟩) ⟨q3,?_⟩ ?_
  ·have e:((1+x2:Nat):Int)=1∨((1+x2:Nat):Int)=2:=by omega
   have hl:x3.length≤6:=by omega
   have ha:K1d x3 0 255=true:=List.all_eq_true.2 fun v hv=>by have:=p3.2 v hv;simp;omega
   simp only[Kv,if_pos e,decide_eq_true hl,ha,Bool.true_and]
   rfl
  ·simp only[go_sem]
end
end Go.Proofs.YtjneccbpkckdfaaGreatR
namespace Go.Proofs.YtjneccbpkckdfaaGreatR
open Go Go.RowKit Go.Proofs
open Nat (reduceEqDiff reduceLT reduceLeDiff reduceAdd reduceMul)
open List (reduceReplicate)
end Go.Proofs.YtjneccbpkckdfaaGreatR
namespace Go.Proofs.YtjneccbpkckdfaaGreatR
open Go Go.RowKit Go.Proofs
open Nat (reduceEqDiff reduceLT reduceLeDiff reduceAdd reduceMul)
open List (reduceReplicate)
end Go.Proofs.YtjneccbpkckdfaaGreatR
namespace Go.Proofs.YtjneccbpkckdfaaGreatR
open Go Go.RowKit Go.Proofs
open Nat (reduceEqDiff reduceLT reduceLeDiff reduceAdd reduceMul)
open List (reduceReplicate)
end Go.Proofs.YtjneccbpkckdfaaGreatR
namespace Go.Proofs.YtjneccbpkckdfaaGreatR
open Go Go.RowKit Go.Proofs
open Nat (reduceEqDiff reduceLT reduceLeDiff reduceAdd reduceMul)
open List (reduceReplicate)
end Go.Proofs.YtjneccbpkckdfaaGreatR
namespace Go.Proofs.YtjneccbpkckdfaaGreatR
open Go Go.RowKit Go.Proofs
open Nat (reduceEqDiff reduceLT reduceLeDiff reduceAdd reduceMul)
open List (reduceReplicate)
attribute [go_sem] eqB
def Ku(xs:List GOp):List Int:=xs.flatMap fun o=>[o.Kind,o.A,o.B,o.C]
theorem K4y{l:List GOp}{k:Nat}{x:GOp}(h:l[k]? =some x):Ku (l.take (k+1))=Ku (l.take k)++[x.Kind,x.A,x.B,x.C]:=by
 rw[Kt h,Ku,List.flatMap_append];rfl
theorem K5o{l:List GOp}:(Ku l).length=4*l.length:=by
 induction l with
 |nil=>rfl
 |cons x l ih=>simp only[Ku,List.flatMap_cons,List.length_append,List.length_cons,List.length_nil]at ih ⊢;omega
def M5e:MC:=
(Zs [.nilo 2 0 1] [0] (Zs [.lit 5 0 1 8 [],mS 3 5] [0,3] (.seq (Zs [.mv 4 (ci 0)] [0,3,4] (.block 0 (.loop ([0,3,4],[1]) (.seq (Zs [mS 6 4,mS 7 0,nS 8 7,bS 9 .lss 6 8] [0,3,4,9] (cX 9 0))
(.seq (.block 1 (.dreg [Zf [13,14,15,16,17,18,19,20,21,22,23,24,25,26,27,28,29,30,31,32,33] [1] (mS 12 3),Zc [12,14,18,19,20,21,22,23,24,25,26,27,28,29,30,31,32] (mS 13 0),Zc [12,13,18,19,20,21,22,23,24,25,26,27,28,29,30,31,32] (mS 14 4),Zd [12,18,19,20,21,22,23,24,25,26,27,28,29,30,31,32] [1,2] (xS 15 4 13 14),Zd [12,18,19,20,21,22,23,24,25,26,27,28,29,30,31,32] [1,2,3] (fS 16 15 0),Zd [12,18,19,20,21,22,23,24,25,26,27,28,29,30,31,32] [1,2,3,4] (lF 17 1 16),Zc [12,13,14,15,16,17,19,23,24,25,26,27,28,29,30,31,32] (mS 18 0),Zc [12,13,14,15,16,17,18,23,24,25,26,27,28,29,30,31,32] (mS 19 4),Zd [12,13,14,15,16,17,23,24,25,26,27,28,29,30,31,32] [6,7] (xS 20 4 18 19),Zd [12,13,14,15,16,17,23,24,25,26,27,28,29,30,31,32] [6,7,8] (fS 21 20 1),Zd [12,13,14,15,16,17,23,24,25,26,27,28,29,30,31,32] [6,7,8,9] (lF 22 1 21),Zc [12,13,14,15,16,17,18,19,20,21,22,24,28,29,30,31,32] (mS 23 0),Zc [12,13,14,15,16,17,18,19,20,21,22,23,28,29,30,31,32] (mS 24 4),Zd [12,13,14,15,16,17,18,19,20,21,22,28,29,30,31,32] [11,12] (xS 25 4 23 24),Zd [12,13,14,15,16,17,18,19,20,21,22,28,29,30,31,32] [11,12,13] (fS 26 25 2),Zd [12,13,14,15,16,17,18,19,20,21,22,28,29,30,31,32] [11,12,13,14] (lF 27 1 26),Zc [12,13,14,15,16,17,18,19,20,21,22,23,24,25,26,27,29] (mS 28 0),Zc [12,13,14,15,16,17,18,19,20,21,22,23,24,25,26,27,28] (mS 29 4),Zd [12,13,14,15,16,17,18,19,20,21,22,23,24,25,26,27] [16,17] (xS 30 4 28 29),Zd [12,13,14,15,16,17,18,19,20,21,22,23,24,25,26,27] [16,17,18] (fS 31 30 3),Zd [12,13,14,15,16,17,18,19,20,21,22,23,24,25,26,27] [16,17,18,19] (lF 32 1 31),{o:= .lit 33 1 1 8 [.s 17,.s 22,.s 27,.s 32],hs:=[12],ws:=[1],bf:=[1,2,3,4,5,6,7,8,9,10,11,12,13,14,15,16,17,18,19,20]},{o:= .app 34 0 1 8 (.s 12) (.s 33),ws:=[0],bf:=(.range 22)},Ze (.range 23) (mS 3 34)] [0,3,4]))
(pr [mS 10 4,bC 11 .add 10 1,mS 4 11] [0,3,4]))))))
(Zs [mS 35 3,mS 2 35] [2] .ret))))
theorem C9d(xs:List GOp)(hN:xs.length≤1099511627776):Ctr Tryz.prog N5s [aL 4 (xs.map GOp.enc)] [rL 1 ((Ku xs).map encI)]:=by
 refine cA M5e 2 36 [(.tmp 2,[true])] Tryz.func327 rfl rfl ?_;unfold M5e
 intro hb
 simp only[bdA,bdL,bdT,Ky,roomB,and_true,List.length_map]at hb
 obtain⟨hl,-⟩:=hb
 simp only[go_sem]
 refine K7 xs (fun k=>[(3,.val false [.ref 0 0 1 0 (Ku (xs.take k)).length]),(4,vI k)]) (fun k=>[(0,⟨0,.row true 1 ((Ku (xs.take k)).map encI)⟩)]) (fun _=>True) hl ?_
 simp only[go_sem]
 refine⟨?_,trivial,?_,?_⟩
 ·simp only[go_sem,List.take_zero]
  exact⟨rfl,rfl⟩
 ·intro k x hx _ h0 h1 hw
  have hlt:=List.length_take_le k xs
  simp only[go_sem,K4 hx,h0,h1,hw,K4y hx,List.length_append,K5o]
  refine⟨⟨by simp,by decide⟩,by simp only[roomB];omega,by simp[encI]⟩
 ·intro _
  simp only[go_sem,List.take_length]
def M78:MC:=
(Zs [.mv 4 cF] [0,1] (.seq (Zs [mS 6 0,nS 7 6,mS 8 1,nS 9 8,bS 10 .neq 7 9] [0,1,10] (.cond (.s 10) (Zs [.mv 4 cF] [4] .ret) .skip))
(.seq (Zs [.mv 5 (ci 0)] [0,1,5] (.block 0 (.loop ([0,1,5],[]) (.seq (Zs [mS 11 5,mS 12 0,nS 13 12,bS 14 .lss 11 13] [0,1,5,14] (cX 14 0))
(.seq (.block 1 (.seq (.dreg [Zc [18,21,22,23,24] (mS 17 0),Zc [17,21,22,23,24] (mS 18 5),Zd [21,22,23,24] [0,1] (xS 19 6 17 18),Zd [21,22,23,24] [0,1,2] (lT 20 6 19),Zc [17,18,19,20,22] (mS 21 1),Zc [17,18,19,20,21] (mS 22 5),Zd [17,18,19,20] [4,5] (xS 23 6 21 22),Zd [17,18,19,20] [4,5,6] (lT 24 6 23),Ze (.range 8) (.eqA 25 true [.i .i64,.i .i64,.i .i64,.i .i64,.i .i64,.i .i64] (.s 20) (.s 24))] [0,1,5,25])
(.cond (.s 25) (Zs [.mv 4 cF] [4] .ret) .skip)))
(pr [mS 15 5,bC 16 .add 15 1,mS 5 16] [0,1,5]))))))
(Zs [.mv 4 cT] [4] .ret))))
theorem C6u(xs ys:List GFound):Ctr Tryz.prog N4a [aL 6 (xs.map GFound.enc),aL 6 (ys.map GFound.enc)] [rB (decide (xs=ys))]:=by
 refine cA M78 0 26 [(.tmp 4,[false])] Tryz.func237 rfl rfl ?_;unfold M78
 intro hb
 simp only[bdA,bdL,bdT,Ky,roomB,and_true,List.length_map]at hb
 obtain⟨⟨hl,-⟩,⟨hl2,-⟩⟩:=hb
 simp only[go_sem]
 refine⟨fun h=>ne_len h,fun h=>?_⟩
 have hle:xs.length=ys.length:=by omega
 refine K7 xs (fun k=>[(5,vI k)]) (fun k=>[]) (fun k=>xs.take k=ys.take k) hl ?_
 simp only[go_sem]
 refine⟨?_,rfl,?_,?_⟩
 ·simp only[go_sem]
 ·intro k x hx he h0 h1 hw
  obtain⟨y,hy⟩:=Ke (show k<ys.length by omega)
  have h2:(k:Int)<ys.length:=by omega
  simp only[go_sem,K4 hx,K4 hy,h0,h1,h2,hw]
  exact⟨fun hn=>ne_at hx hy (by rintro rfl;simp at hn),fun hn=>(K71 hx hy he).2 (by exact GFound.eqv.2 (by simpa using hn))⟩
 ·intro he
  simp only[go_sem]
  exact eq_all he hle
end Go.Proofs.YtjneccbpkckdfaaGreatR
namespace Go.Proofs.YtjneccbpkckdfaaGreatR
open Go Go.RowKit Go.Proofs
open Nat (reduceEqDiff reduceLT reduceLeDiff reduceAdd reduceMul)
open List (reduceReplicate)
theorem K4a{α:Type}{p:α→Bool}{l:List α}:(l.any fun x=> !p x)= !l.all p:=by
 induction l with
 |nil=>rfl
 |cons x l ih=>rw[List.any_cons,List.all_cons,ih];cases p x<;>rfl
def Kk{α:Type}(n:Nat)(p:α→Bool)(l:List α):Bool:=decide (l.length≤n)&&l.all p
theorem K6m{α:Type}{n:Nat}{p:α→Bool}{l:List α}(h:¬l.length≤n):false=Kk n p l:=by
 unfold Kk;rw[decide_eq_false h];rfl
theorem K5z{α:Type}{n:Nat}{p:α→Bool}{l:List α}(h:l.length≤n):(!l.any fun x=> !p x)=Kk n p l:=by
 unfold Kk;rw[decide_eq_true h,K4a,Bool.not_not];rfl
theorem K34{α:Type}{n:Nat}{p:α→Bool}{l:List α}{k:Nat}{x:α}(hx:l[k]? =some x)(h:p x=false):false=Kk n p l:=by
 unfold Kk;rw[←K73 hx h,Bool.and_false]
theorem K3y{α:Type}{n:Nat}{p:α→Bool}{l:List α}(h:l.all p=true):decide (l.length≤n)=Kk n p l:=by
 unfold Kk;rw[h,Bool.and_true]
theorem K77{n m:Nat}:decide ((n:Int)≤(m:Int))=decide (n≤m):=by
 rw[Bool.eq_iff_iff];simp only[decide_eq_true_eq];omega
def opOk(o:GOp):Bool:=decide ((0≤o.A∧o.A<4)∧(
 (o.Kind=1∧(1≤o.B∧o.B≤9)∧(0≤o.C∧o.C≤99))∨
 ((o.Kind=2∨o.Kind=3∨o.Kind=4)∧o.B=0∧o.C=0)∨
 (o.Kind=5∧(0≤o.B∧o.B<4)∧(0≤o.C∧o.C<4))∨
 (o.Kind=6∧(0≤o.B∧o.B<4)∧o.C=0)∨
 (o.Kind=7∧(1≤o.B∧o.B≤3)∧o.C=0)∨
 ((o.Kind=8∨o.Kind=9)∧(0≤o.B∧o.B<3)∧o.C=0)))
def Kz(l:List GOp):Bool:=Kk 16 opOk l
def M9j:MC:=
(Zs [.box 1 0 (.s 0),.mv 2 cF] [1] (.seq (Zs [fS 3 1 1,lF 4 1 3,.call 5 [] (.f N32) [.s 4,.c (.int .i64 4)],.un 6 .not (.s 5)] [1,6] (.cond (.s 6) (Zs [.mv 2 cF] [2] .ret) .skip))
(.seq (Zs [fS 7 1 0,lF 8 1 7] [1,8] (.block 0 (Zs [bC 10 .eql 8 1,mS 9 10] [1,8,9] (.cond (.s 9) (.seq (.reg [Za (fS 11 1 2),Za (lF 12 1 11),Za (.call 13 [] (.f N7) [.s 12,.c (.int .i64 1),.c (.int .i64 9)]),Za (mS 14 13),Zb 14 true (fS 15 1 3),Zb 14 true (lF 16 1 15),Zb 14 true (.call 17 [] (.f N7) [.s 16,.c (.int .i64 0),.c (.int .i64 99)]),Za (.pick 18 (.s 14) (.s 17) cF),Za (mS 2 18)] [2])
.ret) (.seq (Zs [bC 20 .eql 8 2,mS 19 20] [1,8,19] (.cond (.s 19) .skip (Zs [bC 21 .eql 8 3,mS 19 21] [1,8,19] (.cond (.s 19) .skip (pr [bC 22 .eql 8 4,mS 19 22] [1,8,19])))))
(.cond (.s 19) (.seq (.reg [Za (fS 23 1 2),Za (lF 24 1 23),Za (bC 25 .eql 24 0),Za (mS 26 25),Zb 26 true (fS 27 1 3),Zb 26 true (lF 28 1 27),Zb 26 true (bC 29 .eql 28 0),Za (.pick 30 (.s 26) (.s 29) cF),Za (mS 2 30)] [2])
.ret) (Zs [bC 32 .eql 8 5,mS 31 32] [1,8,31] (.cond (.s 31) (.seq (.reg [Za (fS 33 1 2),Za (lF 34 1 33),Za (.call 35 [] (.f N32) [.s 34,.c (.int .i64 4)]),Za (mS 36 35),Zb 36 true (fS 37 1 3),Zb 36 true (lF 38 1 37),Zb 36 true (.call 39 [] (.f N32) [.s 38,.c (.int .i64 4)]),Za (.pick 40 (.s 36) (.s 39) cF),Za (mS 2 40)] [2])
.ret) (Zs [bC 42 .eql 8 6,mS 41 42] [1,8,41] (.cond (.s 41) (.seq (.reg [Za (fS 43 1 2),Za (lF 44 1 43),Za (.call 45 [] (.f N32) [.s 44,.c (.int .i64 4)]),Za (mS 46 45),Zb 46 true (fS 47 1 3),Zb 46 true (lF 48 1 47),Zb 46 true (bC 49 .eql 48 0),Za (.pick 50 (.s 46) (.s 49) cF),Za (mS 2 50)] [2])
.ret) (Zs [bC 52 .eql 8 7,mS 51 52] [1,8,51] (.cond (.s 51) (.seq (.reg [Za (fS 53 1 2),Za (lF 54 1 53),Za (.call 55 [] (.f N7) [.s 54,.c (.int .i64 1),.c (.int .i64 3)]),Za (mS 56 55),Zb 56 true (fS 57 1 3),Zb 56 true (lF 58 1 57),Zb 56 true (bC 59 .eql 58 0),Za (.pick 60 (.s 56) (.s 59) cF),Za (mS 2 60)] [2])
.ret) (.seq (Zs [bC 62 .eql 8 8,mS 61 62] [1,8,61] (.cond (.s 61) .skip (pr [bC 63 .eql 8 9,mS 61 63] [1,61])))
(.cond (.s 61) (.seq (.reg [Za (fS 64 1 2),Za (lF 65 1 64),Za (.call 66 [] (.f N32) [.s 65,.c (.int .i64 3)]),Za (mS 67 66),Zb 67 true (fS 68 1 3),Zb 67 true (lF 69 1 68),Zb 67 true (bC 70 .eql 69 0),Za (.pick 71 (.s 67) (.s 70) cF),Za (mS 2 71)] [2])
.ret) .skip))))))))))))))
(Zs [.mv 2 cF] [2] .ret))))
theorem Caf(o:GOp):Ctr Tryz.prog N9o [aS o.enc] [rB (opOk o)]:=by
 refine cA M9j 1 72 [(.tmp 2,[false])] Tryz.func294 rfl rfl ?_;unfold M9j
 intro hb
 clear hb
 simp only[go_sem]
 repeat' first
  |(refine And.intro ?_ ?_<;>intro h)
  |(apply K0 (Cak _ _);simp only[go_sem])
  |(apply K0 (Cj _ _ _);simp only[go_sem])
 all_goals (unfold opOk;first|(symm;rw[decide_eq_false_iff_not];omega)|(symm;rw[decide_eq_true_eq];omega)|(rw[Bool.eq_iff_iff];simp only[decide_eq_true_eq,beq_iff_eq];omega))
def M8w:MC:=
(Zs [.box 1 0 (.s 0),.mv 2 cF] [1] (Zs [.mv 3 (ci 3)] [1,3] (.seq (Zs [fS 4 1 1,lF 5 1 4,mS 6 3,.call 7 [] (.f N1) [.s 5,.c (.int .i64 0),.s 6],.un 8 .not (.s 7)] [1,3,8] (.cond (.s 8) (Zs [.mv 2 cF] [2] .ret) .skip))
(.seq (Zs [fS 9 1 0,lF 10 1 9] [1,3,10] (.block 0 (Zs [bC 12 .eql 10 1,mS 11 12] [1,3,10,11] (.cond (.s 11) (.seq (.reg [Za (fS 13 1 2),Za (lF 14 1 13),Za (.call 15 [] (.f N1) [.s 14,.c (.int .i64 1),.c (.int .i64 9)]),Za (mS 16 15),Zb 16 true (fS 17 1 3),Zb 16 true (lF 18 1 17),Zb 16 true (.call 19 [] (.f N1) [.s 18,.c (.int .i64 0),.c (.int .i64 99)]),Za (.pick 20 (.s 16) (.s 19) cF),Za (mS 2 20)] [2])
.ret) (.seq (Zs [bC 22 .eql 10 2,mS 21 22] [1,3,10,21] (.cond (.s 21) .skip (Zs [bC 23 .eql 10 3,mS 21 23] [1,3,10,21] (.cond (.s 21) .skip (pr [bC 24 .eql 10 4,mS 21 24] [1,3,10,21])))))
(.cond (.s 21) (.seq (.reg [Za (fS 25 1 2),Za (lF 26 1 25),Za (bC 27 .eql 26 0),Za (mS 28 27),Zb 28 true (fS 29 1 3),Zb 28 true (lF 30 1 29),Zb 28 true (bC 31 .eql 30 0),Za (.pick 32 (.s 28) (.s 31) cF),Za (mS 2 32)] [2])
.ret) (Zs [bC 34 .eql 10 5,mS 33 34] [1,3,10,33] (.cond (.s 33) (.seq (.reg [Za (fS 35 1 2),Za (lF 36 1 35),Za (mS 37 3),Za (.call 38 [] (.f N1) [.s 36,.c (.int .i64 0),.s 37]),Za (mS 39 38),Zb 39 true (fS 40 1 3),Zb 39 true (lF 41 1 40),Zb 39 true (mS 42 3),Zb 39 true (.call 43 [] (.f N1) [.s 41,.c (.int .i64 0),.s 42]),Za (.pick 44 (.s 39) (.s 43) cF),Za (mS 2 44)] [2])
.ret) (Zs [bC 46 .eql 10 6,mS 45 46] [1,10,45] (.cond (.s 45) (.seq (.reg [Za (fS 47 1 2),Za (lF 48 1 47),Za (.call 49 [] (.f N1) [.s 48,.c (.int .i64 0),.c (.int .i64 3)]),Za (mS 50 49),Zb 50 true (fS 51 1 3),Zb 50 true (lF 52 1 51),Zb 50 true (bC 53 .eql 52 0),Za (.pick 54 (.s 50) (.s 53) cF),Za (mS 2 54)] [2])
.ret) (Zs [bC 56 .eql 10 7,mS 55 56] [1,10,55] (.cond (.s 55) (.seq (.reg [Za (fS 57 1 2),Za (lF 58 1 57),Za (.call 59 [] (.f N1) [.s 58,.c (.int .i64 1),.c (.int .i64 3)]),Za (mS 60 59),Zb 60 true (fS 61 1 3),Zb 60 true (lF 62 1 61),Zb 60 true (bC 63 .eql 62 0),Za (.pick 64 (.s 60) (.s 63) cF),Za (mS 2 64)] [2])
.ret) (.seq (Zs [bC 66 .eql 10 8,mS 65 66] [1,10,65] (.cond (.s 65) .skip (pr [bC 67 .eql 10 9,mS 65 67] [1,65])))
(.cond (.s 65) (.seq (.reg [Za (fS 68 1 2),Za (lF 69 1 68),Za (.call 70 [] (.f N1) [.s 69,.c (.int .i64 0),.c (.int .i64 2)]),Za (mS 71 70),Zb 71 true (fS 72 1 3),Zb 71 true (lF 73 1 72),Zb 71 true (bC 74 .eql 73 0),Za (.pick 75 (.s 71) (.s 74) cF),Za (mS 2 75)] [2])
.ret) .skip))))))))))))))
(Zs [.mv 2 cF] [2] .ret)))))
theorem Cab(o:GOp):Ctr Tryz.prog N93 [aS o.enc] [rB (opOk o)]:=by
 refine cA M8w 1 76 [(.tmp 2,[false])] Tryz.func285 rfl rfl ?_;unfold M8w
 intro hb
 clear hb
 simp only[go_sem]
 repeat' first
  |(refine And.intro ?_ ?_<;>intro h)
  |(apply K0 (C5 _ _ _);simp only[go_sem])
 all_goals (unfold opOk;first|(symm;rw[decide_eq_false_iff_not];omega)|(symm;rw[decide_eq_true_eq];omega)|(rw[Bool.eq_iff_iff];simp only[decide_eq_true_eq,beq_iff_eq];omega))
def M55:MC:=
(Zs [.box 1 0 (.s 0),.mv 2 cF] [1] (Zs [lT 3 4 1,.call 4 [] (.f N9o) [.s 3],.un 5 .not (.s 4),mS 2 5] [2] .ret))
theorem C98(o:GOp):Ctr Tryz.prog N5l [aS o.enc] [rB (!opOk o)]:=by
 refine cA M55 1 6 [(.tmp 2,[false])] Tryz.func293 rfl rfl ?_;unfold M55
 intro hb
 clear hb
 simp only[go_sem]
 apply K0 (Caf _)
 simp only[go_sem]
def M6h:MC:=
(Zs [.mv 2 cF] [0] (.seq (.reg [Za (mS 3 0),Za (nS 4 3),Za (bC 5 .leq 4 16),Za (mS 6 5),Zb 6 true (mS 7 0),Zb 6 true (.call 8 [] (.f Nw) [.s 7,.f N5l]),Zb 6 true (.un 9 .not (.s 8)),Za (.pick 10 (.s 6) (.s 9) cF),Za (mS 2 10)] [2])
.ret))
theorem C9r(l:List GOp):Ctr Tryz.prog N6o [aL 4 (l.map GOp.enc)] [rB (Kz l)]:=by
 refine cA M6h 0 11 [(.tmp 2,[false])] Tryz.func212 rfl rfl ?_;unfold M6h
 intro hb
 clear hb
 simp only[go_sem]
 refine⟨fun h=>?_,fun h=>K6m (by omega)⟩
 refine K0 (C5z l _ [] (fun o=> !opOk o) fun o _=>C98 o) ?_
 simp only[go_sem]
 exact K5z (by omega)
def M6l:MC:=
(Zs [.mv 2 cF] [0] (.seq (Zs [.mv 3 (ci 0)] [0,3] (.block 0 (.loop ([0,3],[]) (.seq (Zs [mS 4 3,mS 5 0,nS 6 5,bS 7 .lss 4 6] [0,3,7] (cX 7 0))
(.seq (.block 1 (Zs [mS 10 0,mS 11 3,xS 12 4 10 11,lT 13 4 12,.call 14 [] (.f N93) [.s 13],.un 15 .not (.s 14)] [0,3,15] (.cond (.s 15) (Zs [.mv 2 cF] [2] .ret) .skip)))
(pr [mS 8 3,bC 9 .add 8 1,mS 3 9] [0,3]))))))
(Zs [mS 16 0,nS 17 16,bC 18 .leq 17 16,mS 2 18] [2] .ret)))
theorem C23(l:List GOp):Ctr Tryz.prog N1k [aL 4 (l.map GOp.enc)] [rB (Kz l)]:=by
 refine cA M6l 0 19 [(.tmp 2,[false])] Tryz.func194 rfl rfl ?_;unfold M6l
 intro hb
 simp only[bdA,bdL,bdT,Ky,roomB,and_true,List.length_map]at hb
 have hl:=hb.1
 clear hb
 simp only[go_sem]
 refine K7 l (fun k=>[(3,vI k)]) (fun k=>[]) (fun k=>(l.take k).all opOk=true) hl ?_
 simp only[go_sem]
 refine⟨?_,by simp,?_,?_⟩
 ·simp only[go_sem]
 ·intro k x hx h h0 h1 hw
  simp only[go_sem,K4 hx,h0,h1]
  apply K0 (Cab _)
  simp only[go_sem,hw]
  exact⟨fun hn=>K34 hx hn,fun hn=>K2e hx h hn⟩
 ·intro h
  simp only[go_sem]
  rw[List.take_length]at h
  exact K77.trans (K3y h)
def asks(k:Int):Bool:=decide (1≤k∧k≤4)
def M9h:MC:=
(Zs [.mv 2 cF] [0] (Zs [mS 3 0,.call 4 [] (.f N7) [.s 3,.c (.int .i64 1),.c (.int .i64 4)],mS 2 4] [2] .ret))
theorem Cae(k:Int):Ctr Tryz.prog N9n [aI k] [rB (asks k)]:=by
 refine cA M9h 0 5 [(.tmp 2,[false])] Tryz.func298 rfl rfl ?_;unfold M9h
 intro hb
 clear hb
 simp only[go_sem]
 apply K0 (Cj _ _ _)
 simp only[go_sem]
 try rfl
def M9k:MC:=
(Zs [.mv 2 cF] [0] (Zs [mS 3 0,.call 4 [] (.f N1) [.s 3,.c (.int .i64 1),.c (.int .i64 4)],mS 2 4] [2] .ret))
theorem C9g(k:Int):Ctr Tryz.prog N6r [aI k] [rB (asks k)]:=by
 refine cA M9k 0 5 [(.tmp 2,[false])] Tryz.func287 rfl rfl ?_;unfold M9k
 intro hb
 clear hb
 simp only[go_sem]
 apply K0 (C5 _ _ _)
 simp only[go_sem]
 try rfl
def K3a(e:GEntry):Bool:=asks e.Kind&&(decide (0≤e.Value∧e.Value≤999)&&(if e.Kind=1 then K23 e.Address else K1u e.Address))
def K6l(l:List GEntry):Bool:=Kk 16 K3a l
def M3p:MC:=
(Zs [.box 1 0 (.s 0),.mv 2 cF] [1] (.seq (Zs [fS 3 1 0,lF 4 1 3,bC 5 .eql 4 1] [1,5] (.cond (.s 5) (.seq (.reg [Za (fS 6 1 1),Za (lT 7 3 6),Za (.call 8 [] (.f N1v) [.s 7]),Za (.un 9 .not (.s 8)),Za (mS 10 9),Zb 10 false (fS 11 1 4),Zb 10 false (lF 12 1 11),Zb 10 false (.call 13 [] (.f N7) [.s 12,.c (.int .i64 0),.c (.int .i64 999)]),Zb 10 false (.un 14 .not (.s 13)),Za (.pick 15 (.s 10) cT (.s 14)),Za (mS 2 15)] [2])
.ret) .skip))
(.seq (.reg [Za (fS 16 1 0),Za (lF 17 1 16),Za (.call 18 [] (.f N9n) [.s 17]),Za (.un 19 .not (.s 18)),Za (mS 20 19),Zb 20 false (fS 21 1 1),Zb 20 false (lT 22 3 21),Zb 20 false (.build 23 [pz,pz,pz] []),Zb 20 false (.eqA 24 true [.i .i64,.i .i64,.i .i64] (.s 22) (.s 23)),Za (.pick 25 (.s 20) cT (.s 24)),Za (mS 26 25),Zb 26 false (fS 27 1 4),Zb 26 false (lF 28 1 27),Zb 26 false (.call 29 [] (.f N7) [.s 28,.c (.int .i64 0),.c (.int .i64 999)]),Zb 26 false (.un 30 .not (.s 29)),Za (.pick 31 (.s 26) cT (.s 30)),Za (mS 2 31)] [2])
.ret)))
theorem C8h(e:GEntry):Ctr Tryz.prog N3y [aS e.enc] [rB (!K3a e)]:=by
 refine cA M3p 1 32 [(.tmp 2,[false])] Tryz.func312 rfl rfl ?_;unfold M3p
 intro hb
 clear hb
 simp only[go_sem]
 repeat' first
  |(refine And.intro ?_ ?_<;>intro h)
  |(apply K0 (C2x _);simp only[go_sem])
  |(apply K0 (Cae _);simp only[go_sem])
  |(apply K0 (Cj _ _ _);simp only[go_sem])
 all_goals (simp_all[K3a,asks,K1u];try omega)
def M52:MC:=
(Zs [.mv 2 cF] [0] (.seq (.reg [Za (mS 3 0),Za (nS 4 3),Za (bC 5 .leq 4 16),Za (mS 6 5),Zb 6 true (mS 7 0),Zb 6 true (.call 8 [] (.f Np) [.s 7,.f N3y]),Zb 6 true (.un 9 .not (.s 8)),Za (.pick 10 (.s 6) (.s 9) cF),Za (mS 2 10)] [2])
.ret))
theorem C96(l:List GEntry):Ctr Tryz.prog N5j [aL 5 (l.map GEntry.enc)] [rB (K6l l)]:=by
 refine cA M52 0 11 [(.tmp 2,[false])] Tryz.func229 rfl rfl ?_;unfold M52
 intro hb
 clear hb
 simp only[go_sem]
 refine⟨fun h=>?_,fun h=>K6m (by omega)⟩
 refine K0 (C4d l _ [] (fun o=> !K3a o) fun o _=>C8h o) ?_
 simp only[go_sem]
 exact K5z (by omega)
def M58:MC:=
(Zs [.mv 2 cF] [0] (.seq (Zs [.mv 3 (ci 0)] [0,3] (.block 0 (.loop ([0,3],[0]) (.seq (Zs [mS 5 3,mS 6 0,nS 7 6,bS 8 .lss 5 7] [0,3,8] (cX 8 0))
(.seq (.block 1 (Zs [mS 11 0,mS 12 3,xS 13 5 11 12,lT 14 5 13,.alloc 4 0 [pz,pz,pz,pz,pz],sS 5 4 14] [0,3,4] (.seq (.reg [Za (fS 15 4 0),Za (lF 16 1 15),Za (.call 17 [] (.f N6r) [.s 16]),Za (.un 18 .not (.s 17)),Za (mS 19 18),Zb 19 false (fS 20 4 4),Zb 19 false (lF 21 1 20),Zb 19 false (.call 22 [] (.f N1) [.s 21,.c (.int .i64 0),.c (.int .i64 999)]),Zb 19 false (.un 23 .not (.s 22)),Za (.pick 24 (.s 19) cT (.s 23)),Za (mS 25 24),Zb 25 false (fS 26 4 0),Zb 25 false (lF 27 1 26),Zb 25 false (bC 28 .eql 27 1),Zb 25 false (mS 29 28),Zb 29 true (fS 30 4 1),Zb 29 true (lT 31 3 30),Zb 29 true (.call 32 [] (.f N1e) [.s 31]),Zb 29 true (.un 33 .not (.s 32)),Zb 25 false (.pick 34 (.s 29) (.s 33) cF),Za (.pick 35 (.s 25) cT (.s 34)),Za (mS 36 35),Zb 36 false (fS 37 4 0),Zb 36 false (lF 38 1 37),Zb 36 false (bC 39 .neq 38 1),Zb 36 false (mS 40 39),Zb 40 true (fS 41 4 1),Zb 40 true (lT 42 3 41),Zb 40 true (.build 43 [pz,pz,pz] []),Zb 40 true (.eqA 44 true [.i .i64,.i .i64,.i .i64] (.s 42) (.s 43)),Zb 36 false (.pick 45 (.s 40) (.s 44) cF),Za (.pick 46 (.s 36) cT (.s 45))] [0,3,46])
(.cond (.s 46) (Zs [.mv 2 cF] [2] .ret) .skip))))
(pr [mS 9 3,bC 10 .add 9 1,mS 3 10] [0,3]))))))
(Zs [mS 47 0,nS 48 47,bC 49 .leq 48 16,mS 2 49] [2] .ret)))
theorem C9b(l:List GEntry):Ctr Tryz.prog N5o [aL 5 (l.map GEntry.enc)] [rB (K6l l)]:=by
 refine cA M58 1 50 [(.tmp 2,[false])] Tryz.func317 rfl rfl ?_;unfold M58
 intro hb
 simp only[bdA,bdL,bdT,Ky,roomB,and_true,List.length_map]at hb
 have hl:=hb.1
 clear hb
 simp only[go_sem]
 refine K7 l (fun k=>[(3,vI k)]) (fun k=>[]) (fun k=>(l.take k).all K3a=true) hl ?_
 simp only[go_sem]
 refine⟨?_,by simp,?_,?_⟩
 ·simp only[go_sem]
 ·intro k x hx hT h0 h1 hw
  have hy:K3a x=true→(l.take (k+1)).all K3a=true:=fun hn=>K2e hx hT hn
  have hn:K3a x=false→false=K6l l:=fun hn=>K34 hx hn
  clear hT
  simp only[go_sem,K4 hx,h0,h1]
  repeat' first
   |(refine And.intro ?_ ?_<;>intro h)
   |(apply K0 (C1s _);simp only[go_sem,hw])
   |(apply K0 (C9g _);simp only[go_sem])
   |(apply K0 (C5 _ _ _);simp only[go_sem,hw])
  all_goals first|(apply hy;clear hy hn hx hw;simp_all[K3a,K1u];done)|(apply hn;clear hy hn hx hw;simp_all[K3a,K1u];done)|(apply hn;clear hy hn hx hw;unfold K3a;rw[decide_eq_false (by assumption)];simp;done)
 ·intro h
  simp only[go_sem]
  rw[List.take_length]at h
  exact K77.trans (K3y h)
def K2y(c:GCapture):Bool:=K23 c.Address&&(decide (0≤c.Tick∧c.Tick≤2000)&&Kv c.Resource)
def K6i(l:List GCapture):Bool:=Kk 20 K2y l
def M39:MC:=
(Zs [.box 1 0 (.s 0),.mv 2 cF] [1] (.seq (.reg [Za (fS 3 1 0),Za (lT 4 3 3),Za (.call 5 [] (.f N1v) [.s 4]),Za (.un 6 .not (.s 5)),Za (mS 7 6),Zb 7 false (fS 8 1 3),Zb 7 false (lF 9 1 8),Zb 7 false (.call 10 [] (.f N7) [.s 9,.c (.int .i64 0),.c (.int .i64 2000)]),Zb 7 false (.un 11 .not (.s 10)),Za (.pick 12 (.s 7) cT (.s 11)),Za (mS 13 12),Zb 13 false (fS 14 1 4),Zb 13 false (lT 15 5 14),Zb 13 false (.call 16 [] (.f N5k) [.s 15]),Zb 13 false (.un 17 .not (.s 16)),Za (.pick 18 (.s 13) cT (.s 17)),Za (mS 2 18)] [2])
.ret))
theorem C7f(c:GCapture):Ctr Tryz.prog N3f [aS c.enc] [rB (!K2y c)]:=by
 refine cA M39 1 19 [(.tmp 2,[false])] Tryz.func296 rfl rfl ?_;unfold M39
 intro hb
 clear hb
 simp only[go_sem]
 repeat' first
  |(refine And.intro ?_ ?_<;>intro h)
  |(apply K0 (C2x _);simp only[go_sem])
  |(apply K0 (C97 _);simp only[go_sem])
  |(apply K0 (Cj _ _ _);simp only[go_sem])
 all_goals (simp_all[K2y];try omega)
def M4f:MC:=
(Zs [.mv 2 cF] [0] (.seq (.reg [Za (mS 3 0),Za (nS 4 3),Za (bC 5 .leq 4 20),Za (mS 6 5),Zb 6 true (mS 7 0),Zb 6 true (.call 8 [] (.f Ni) [.s 7,.f N3f]),Zb 6 true (.un 9 .not (.s 8)),Za (.pick 10 (.s 6) (.s 9) cF),Za (mS 2 10)] [2])
.ret))
theorem C8n(l:List GCapture):Ctr Tryz.prog N4p [aL 9 (l.map GCapture.enc)] [rB (K6i l)]:=by
 refine cA M4f 0 11 [(.tmp 2,[false])] Tryz.func213 rfl rfl ?_;unfold M4f
 intro hb
 clear hb
 simp only[go_sem]
 refine⟨fun h=>?_,fun h=>K6m (by omega)⟩
 refine K0 (C3m l _ [] (fun o=> !K2y o) fun o _=>C7f o) ?_
 simp only[go_sem]
 exact K5z (by omega)
def M4j:MC:=
(Zs [.mv 2 cF] [0] (.seq (Zs [.mv 3 (ci 0)] [0,3] (.block 0 (.loop ([0,3],[]) (.seq (Zs [mS 4 3,mS 5 0,nS 6 5,bS 7 .lss 4 6] [0,3,7] (cX 7 0))
(.seq (.block 1 (.seq (.reg [Za (mS 10 0),Za (mS 11 3),Za (xS 12 9 10 11),Za (fS 13 12 0),Za (lT 14 3 13),Za (.call 15 [] (.f N1e) [.s 14]),Za (.un 16 .not (.s 15)),Za (mS 17 16),Zb 17 false (mS 18 0),Zb 17 false (mS 19 3),Zb 17 false (xS 20 9 18 19),Zb 17 false (fS 21 20 3),Zb 17 false (lF 22 1 21),Zb 17 false (.call 23 [] (.f N1) [.s 22,.c (.int .i64 0),.c (.int .i64 2000)]),Zb 17 false (.un 24 .not (.s 23)),Za (.pick 25 (.s 17) cT (.s 24)),Za (mS 26 25),Zb 26 false (mS 27 0),Zb 26 false (mS 28 3),Zb 26 false (xS 29 9 27 28),Zb 26 false (fS 30 29 4),Zb 26 false (lT 31 5 30),Zb 26 false (.call 32 [] (.f N1o) [.s 31]),Zb 26 false (.un 33 .not (.s 32)),Za (.pick 34 (.s 26) cT (.s 33))] [0,3,34])
(.cond (.s 34) (Zs [.mv 2 cF] [2] .ret) .skip)))
(pr [mS 8 3,bC 9 .add 8 1,mS 3 9] [0,3]))))))
(Zs [mS 35 0,nS 36 35,bC 37 .leq 36 20,mS 2 37] [2] .ret)))
theorem C8r(l:List GCapture):Ctr Tryz.prog N4r [aL 9 (l.map GCapture.enc)] [rB (K6i l)]:=by
 refine cA M4j 0 38 [(.tmp 2,[false])] Tryz.func195 rfl rfl ?_;unfold M4j
 intro hb
 simp only[bdA,bdL,bdT,Ky,roomB,and_true,List.length_map]at hb
 have hl:=hb.1
 clear hb
 simp only[go_sem]
 refine K7 l (fun k=>[(3,vI k)]) (fun k=>[]) (fun k=>(l.take k).all K2y=true) hl ?_
 simp only[go_sem]
 refine⟨?_,by simp,?_,?_⟩
 ·simp only[go_sem]
 ·intro k x hx hT h0 h1 hw
  have hy:K2y x=true→(l.take (k+1)).all K2y=true:=fun hn=>K2e hx hT hn
  have hn:K2y x=false→false=K6i l:=fun hn=>K34 hx hn
  clear hT
  simp only[go_sem,K4 hx,h0,h1]
  repeat' first
   |(refine And.intro ?_ ?_<;>intro h)
   |(apply K0 (C1s _);simp only[go_sem,K4 hx,h0,h1])
   |(apply K0 (C2f _);simp only[go_sem,hw])
   |(apply K0 (C5 _ _ _);simp only[go_sem,K4 hx,h0,h1])
  all_goals first|(apply hy;clear hy hn hx hw;simp_all[K2y];done)|(apply hn;clear hy hn hx hw;simp_all[K2y];done)|(apply hn;clear hy hn hx hw;unfold K2y;rw[decide_eq_false (by assumption)];simp;done)
 ·intro h
  simp only[go_sem]
  rw[List.take_length]at h
  exact K77.trans (K3y h)
end Go.Proofs.YtjneccbpkckdfaaGreatR
namespace Go.Proofs.YtjneccbpkckdfaaGreatR
open Go Go.RowKit Go.Proofs
open Nat (reduceEqDiff reduceLT reduceLeDiff reduceAdd reduceMul)
open List (reduceReplicate)
def Y3(v0:Nat)(v1:Nat):MC:=
(Zs [.nilo 2 0 v0] [0] (.seq (.condN 3 4 (.s 0) (Zs [.nilo 2 0 v0] [2] .ret) .skip)
(Zs [.lit 5 0 v0 v1 [],mS 6 0,.app 7 0 v0 v1 (.s 5) (.s 6),mS 2 7] [2] .ret)))
attribute [go_sem] Y3
def M2i:MC:=Y3 1 8
theorem C8q(xs:List Int)(hs:xs.length≤1073741824):Ctr Tryz.prog N2m [aL 1 (xs.map encI)] [rL 1 (xs.map encI)]:=by
 refine cA M2i 1 8 [(.tmp 2,[true])] Tryz.func177 rfl rfl ?_;unfold M2i
 intro hb
 clear hb
 simp only[go_sem,↓K17 (f:=encI) (fun _=>rfl) xs]
 refine⟨fun h=>?_,?_⟩
 ·rw[h]
 ·simp only[roomB]
  first|done|omega|(refine⟨?_,?_⟩<;>first|omega|simp)
def M1h:MC:=Y3 4 32
theorem C50(xs:List GOp)(hs:xs.length≤1073741824):Ctr Tryz.prog Ns [aL 4 (xs.map GOp.enc)] [rL 4 (xs.map GOp.enc)]:=by
 refine cA M1h 1 8 [(.tmp 2,[true])] Tryz.func174 rfl rfl ?_;unfold M1h
 intro hb
 clear hb
 simp only[go_sem,↓K17 (f:=GOp.enc) (fun _=>rfl) xs]
 refine⟨fun h=>?_,?_⟩
 ·rw[h]
 ·simp only[roomB]
  first|done|omega|(refine⟨?_,?_⟩<;>first|omega|simp)
def Mx:MC:=Y3 5 40
theorem C35(xs:List GEntry)(hs:xs.length≤1073741824):Ctr Tryz.prog Nc [aL 5 (xs.map GEntry.enc)] [rL 5 (xs.map GEntry.enc)]:=by
 refine cA Mx 1 8 [(.tmp 2,[true])] Tryz.func231 rfl rfl ?_;unfold Mx
 intro hb
 clear hb
 simp only[go_sem,↓K17 (f:=GEntry.enc) (fun _=>rfl) xs]
 refine⟨fun h=>?_,?_⟩
 ·rw[h]
 ·simp only[roomB]
  first|done|omega|(refine⟨?_,?_⟩<;>first|omega|simp)
def My:MC:=Y3 6 48
theorem C7i(xs:List GFound)(hs:xs.length≤1073741824):Ctr Tryz.prog N11 [aL 6 (xs.map GFound.enc)] [rL 6 (xs.map GFound.enc)]:=by
 refine cA My 1 8 [(.tmp 2,[true])] Tryz.func228 rfl rfl ?_;unfold My
 intro hb
 clear hb
 simp only[go_sem,↓K17 (f:=GFound.enc) (fun _=>rfl) xs]
 refine⟨fun h=>?_,?_⟩
 ·rw[h]
 ·simp only[roomB]
  first|done|omega|(refine⟨?_,?_⟩<;>first|omega|simp)
end Go.Proofs.YtjneccbpkckdfaaGreatR
namespace Go.Proofs.YtjneccbpkckdfaaGreatR
open Go Go.RowKit Go.Proofs
open Nat (reduceEqDiff reduceLT reduceLeDiff reduceAdd reduceMul)
open List (reduceReplicate)
def M3v:MC:=
(Zs [.box 1 0 (.s 0),.alloc 2 1 [pz,.emp 1,pz,pz,pz]] [1,2] (Zs [fS 3 1 1,lF 4 1 3,.call 5 [2] (.f N2m) [.s 4],fS 6 1 1,sS 1 6 5] [1,2] (Zs [lT 7 5 1,sS 5 2 7] [2] .ret)))
theorem C8k(r:GResource)(hs:r.Body.length≤1073741824):Ctr Tryz.prog N41 [aS r.enc] [rS r.enc]:=by
 refine cA M3v 3 8 [(.cell 2 true 5,[false,true,false,false,false])] Tryz.func266 rfl rfl ?_;unfold M3v
 intro hb
 clear hb
 simp only[go_sem]
 refine K0 (C8q r.Body hs) ?_
 simp only[go_sem]
 try intros
 try trivial
def M85:MC:=
(Zs [.box 1 0 (.s 0),.alloc 2 1 [pz,.emp 1,pz,pz,pz]] [1,2] (.seq (.dreg [Zf [5,6,7,8,9,10] [2] (fS 3 1 0),Zg [5,6,7,8,9,10] [2] [0] (lF 4 1 3),{o:= .lit 5 2 1 8 [],hs:=[3,4,6,7,9,10],ws:=[2]},Zf [3,4,5,9,10] [2] (fS 6 1 1),Zg [3,4,5,9,10] [2] [3] (lF 7 1 6),{o:= .app 8 2 1 8 (.s 5) (.s 7),hs:=[3,4,9,10],ws:=[2],bf:=[2,3,4]},Zf [3,4,5,6,7,8] [2] (fS 9 1 2),Zg [3,4,5,6,7,8] [2] [6] (lT 10 3 9),Ze (.range 8) (.build 11 [pz,.emp 1,pz,pz,pz] [(0,1,.s 4),(1,1,.s 8),(2,3,.s 10)]),{o:=sS 5 2 11,ws:=[1,2],bf:=(.range 9)}] [2])
.ret))
theorem C7o(r:GResource)(hs:r.Body.length≤1073741824):Ctr Tryz.prog N4z [aS r.enc] [rS r.enc]:=by
 refine cA M85 3 12 [(.cell 2 true 5,[false,true,false,false,false])] Tryz.func249 rfl rfl ?_;unfold M85
 intro hb
 clear hb
 simp only[go_sem,↓K17 (f:=encI) (fun _=>rfl) r.Body]
 simp only[roomB]
 omega
def M3u:MC:=
(Zs [.nilo 2 0 9] [0] (Zs [.nilo 3 0 9] [0,3] (.seq (Zs [mS 6 0,nS 7 6,.mv 8 (ci 0)] [3,6,7,8] (.block 0 (.loop ([3,6,7,8],[1,2,3]) (Zs [bS 9 .lss 8 7] [3,6,7,8,9] (.seq (cX 9 0)
(.seq (.block 1 (Zs [xS 10 9 6 8,lT 11 9 10,.alloc 5 1 [pz,pz,pz,pz,pz,.emp 1,pz,pz,pz],sS 9 5 11] [3,5,6,7,8] (.dreg [Zf [13,14,15,16,17,18,19,20,21] [2,3] (mS 12 3),Zf [12,15,16,17,18,19] [2] (fS 13 5 0),Zg [12,15,16,17,18,19] [2] [1] (lT 14 3 13),Zf [12,13,14,17,18,19] [2] (fS 15 5 3),Zg [12,13,14,17,18,19] [2] [3] (lF 16 1 15),Zc [12,13,14,15,16] (fS 17 5 4),Zd [12,13,14,15,16] [5] (lT 18 5 17),{o:= .call 19 [2] (.f N41) [.s 18],hs:=[12,13,14,15,16],ws:=[2],bf:=[5,6]},Zd [12] [1,2,3,4,5,6,7] (.build 20 [pz,pz,pz,pz,pz,.emp 1,pz,pz,pz] [(0,3,.s 14),(3,1,.s 16),(4,5,.s 19)]),{o:= .lit 21 3 9 88 [.s 20],hs:=[12],ws:=[2,3],bf:=[1,2,3,4,5,6,7,8]},{o:= .app 22 0 9 88 (.s 12) (.s 21),ws:=[0,3],bf:=(.range 10)},Ze (.range 11) (mS 3 22)] [3,6,7,8])))
(pr [bC 23 .add 8 1,mS 8 23] [3,6,7,8])))))))
(Zs [mS 24 3,mS 2 24] [2] .ret))))
theorem C3o(xs:List GCapture)(hs:xs.length+(xs.map GCapture.size).sum≤1073741824):Ctr Tryz.prog N22 [aL 9 (xs.map GCapture.enc)] [rL 9 (xs.map GCapture.enc)]:=by
 refine cA M3u 4 25 [(.tmp 2,[true])] Tryz.func232 rfl rfl ?_;unfold M3u
 intro hb
 clear hb
 simp only[go_sem]
 refine K7 xs (fun k=>[(3,.val false [.ref 0 0 9 0 (xs.take k).length]),(8,vI k)]) (fun k=>[(0,⟨0,.row true 9 ((xs.take k).map GCapture.enc)⟩)]) (fun _=>True) (by simp only[roomB];omega) ?_
 simp only[go_sem]
 refine⟨?_,trivial,?_,?_⟩
 ·simp only[go_sem,List.take_zero]
 ·intro k x hx _ h0 h1 hw
  have hk:k<xs.length:=by omega
  have hlt:=List.length_take_le k xs
  have hx1:=K1y (f:=GCapture.size) (K10 hx)
  simp only[go_sem,K4 hx,h0,h1]
  refine K0 (C8k x.Resource (by simp only[GCapture.size,GResource.size]at hx1;omega)) ?_
  simp only[go_sem,hw]
  simp only[roomB]
  exact⟨by omega,by omega,fun _=>⟨K4k hx,K4l hx⟩⟩
 ·intro _
  simp only[go_sem,List.take_length]
def M72:MC:=
(Zs [.nilo 2 0 9] [0] (Zs [.lit 5 0 9 88 [],mS 3 5] [0,3] (.seq (Zs [.mv 4 (ci 0)] [0,3,4] (.block 0 (.loop ([0,3,4],[1,2]) (.seq (Zs [mS 6 4,mS 7 0,nS 8 7,bS 9 .lss 6 8] [0,3,4,9] (cX 9 0))
(.seq (.block 1 (.dreg [Zf [13,14,15,16,17,18,19,20,21,22,23,24,25,26,27,28,29,30] [1,2] (mS 12 3),Zf [12,14,18,19,20,21,22,23,24,25,26,27,28] [1] (mS 13 0),Zf [12,13,18,19,20,21,22,23,24,25,26,27,28] [1] (mS 14 4),Zg [12,18,19,20,21,22,23,24,25,26,27,28] [1] [1,2] (xS 15 9 13 14),Zg [12,18,19,20,21,22,23,24,25,26,27,28] [1] [1,2,3] (fS 16 15 0),Zg [12,18,19,20,21,22,23,24,25,26,27,28] [1] [1,2,3,4] (lT 17 3 16),Zf [12,13,14,15,16,17,19,23,24,25,26,27,28] [1] (mS 18 0),Zf [12,13,14,15,16,17,18,23,24,25,26,27,28] [1] (mS 19 4),Zg [12,13,14,15,16,17,23,24,25,26,27,28] [1] [6,7] (xS 20 9 18 19),Zg [12,13,14,15,16,17,23,24,25,26,27,28] [1] [6,7,8] (fS 21 20 3),Zg [12,13,14,15,16,17,23,24,25,26,27,28] [1] [6,7,8,9] (lF 22 1 21),Zc [12,13,14,15,16,17,18,19,20,21,22,24] (mS 23 0),Zc [12,13,14,15,16,17,18,19,20,21,22,23] (mS 24 4),Zd [12,13,14,15,16,17,18,19,20,21,22] [11,12] (xS 25 9 23 24),Zd [12,13,14,15,16,17,18,19,20,21,22] [11,12,13] (fS 26 25 4),Zd [12,13,14,15,16,17,18,19,20,21,22] [11,12,13,14] (lT 27 5 26),{o:= .call 28 [1] (.f N4z) [.s 27],hs:=[12,13,14,15,16,17,18,19,20,21,22],ws:=[1],bf:=[11,12,13,14,15]},Zd [12] [1,2,3,4,5,6,7,8,9,10,11,12,13,14,15,16] (.build 29 [pz,pz,pz,pz,pz,.emp 1,pz,pz,pz] [(0,3,.s 17),(3,1,.s 22),(4,5,.s 28)]),{o:= .lit 30 2 9 88 [.s 29],hs:=[12],ws:=[1,2],bf:=[1,2,3,4,5,6,7,8,9,10,11,12,13,14,15,16,17]},{o:= .app 31 0 9 88 (.s 12) (.s 30),ws:=[0,2],bf:=(.range 19)},Ze (.range 20) (mS 3 31)] [0,3,4]))
(pr [mS 10 4,bC 11 .add 10 1,mS 4 11] [0,3,4]))))))
(Zs [mS 32 3,mS 2 32] [2] .ret))))
theorem Ca1(xs:List GCapture)(hs:xs.length+(xs.map GCapture.size).sum≤1073741824):Ctr Tryz.prog N7c [aL 9 (xs.map GCapture.enc)] [rL 9 (xs.map GCapture.enc)]:=by
 refine cA M72 3 33 [(.tmp 2,[true])] Tryz.func209 rfl rfl ?_;unfold M72
 intro hb
 clear hb
 simp only[go_sem]
 refine K7 xs (fun k=>[(3,.val false [.ref 0 0 9 0 (xs.take k).length]),(4,vI k)]) (fun k=>[(0,⟨0,.row true 9 ((xs.take k).map GCapture.enc)⟩)]) (fun _=>True) (by simp only[roomB];omega) ?_
 simp only[go_sem]
 refine⟨?_,trivial,?_,?_⟩
 ·simp only[go_sem,List.take_zero]
 ·intro k x hx _ h0 h1 hw
  have hk:k<xs.length:=by omega
  have hlt:=List.length_take_le k xs
  have hx1:=K1y (f:=GCapture.size) (K10 hx)
  simp only[go_sem,K4 hx,h0,h1]
  refine K0 (C7o x.Resource (by simp only[GCapture.size,GResource.size]at hx1;omega)) ?_
  simp only[go_sem,hw]
  simp only[roomB]
  exact⟨by omega,by omega,fun _=>⟨K4k hx,K4l hx⟩⟩
 ·intro _
  simp only[go_sem,List.take_length]
end Go.Proofs.YtjneccbpkckdfaaGreatR
namespace Go.Proofs.YtjneccbpkckdfaaGreatR
open Go Go.RowKit Go.Proofs
open Nat (reduceEqDiff reduceLT reduceLeDiff reduceAdd reduceMul)
open List (reduceReplicate)
def modP(v:Int):Int:=(IntKind.i64.wrap (v.tmod 2147483647+2147483647)).tmod 2147483647
def hstep(h v:Int):Int:=(IntKind.i64.wrap (IntKind.i64.wrap (IntKind.i64.wrap (h*1000003)+modP v)+13)).tmod 2147483647
def hashL(l:List Int):Int:=l.foldl hstep 11
theorem K8f{l:List Int}{k:Nat}{x:Int}(h:l[k]? =some x):hashL (l.take (k+1))=hstep (hashL (l.take k)) x:=by
 rw[Kt h,hashL,List.foldl_append];rfl
theorem K42:¬(2147483647:Int)=0:=by decide
def Y4(v0:Nat):MC:=
(Zs [.mv 4 (ci 0)] [0,1] (.seq (Zs [mS 5 1,.call 6 [] (.f v0) [.s 5,.c (.int .i64 1),.c (.int .i64 1000000000000)],.un 7 .not (.s 6)] [0,1,7] (.cond (.s 7) (Zs [.mv 4 (ci 0)] [4] .ret) .skip))
(Zs [mS 8 0,mS 9 1,bS 10 .rem 8 9,mS 11 1,bS 12 .add 10 11,mS 13 1,bS 14 .rem 12 13,mS 4 14] [4] .ret)))
attribute [go_sem] Y4
def M5v:MC:=Y4 N1
theorem Caj(v:Int):Ctr Tryz.prog N5x [aI v,aI 2147483647] [rI (modP v)]:=by
 refine cA M5v 0 15 [(.tmp 4,[false])] Tryz.func368 rfl rfl ?_;unfold M5v
 intro hb
 clear hb
 simp only[go_sem]
 apply K0 (C5 _ _ _)
 simp only[go_sem,K42]
 refine And.intro ?_ ?_<;>intro h
 ·exact absurd (by decide) h
 ·rfl
def M9s:MC:=Y4 N7
theorem Cag(v:Int):Ctr Tryz.prog N9w [aI v,aI 2147483647] [rI (modP v)]:=by
 refine cA M9s 0 15 [(.tmp 4,[false])] Tryz.func363 rfl rfl ?_;unfold M9s
 intro hb
 clear hb
 simp only[go_sem]
 apply K0 (Cj _ _ _)
 simp only[go_sem,K42]
 refine And.intro ?_ ?_<;>intro h
 ·exact absurd (by decide) h
 ·rfl
def M9l:MC:=
(Zs [.mv 2 (ci 0)] [0] (Zs [.mv 3 (ci 11)] [0,3] (.seq (Zs [.mv 4 (ci 0)] [0,3,4] (.block 0 (.loop ([0,3,4],[]) (.seq (Zs [mS 5 4,mS 6 0,nS 7 6,bS 8 .lss 5 7] [0,3,4,8] (cX 8 0))
(.seq (.block 1 (pr [mS 11 3,bC 12 .mul 11 1000003,mS 13 0,mS 14 4,xS 15 1 13 14,lF 16 1 15,.call 17 [] (.f N5x) [.s 16,.c (.int .i64 2147483647)],bS 18 .add 12 17,bC 19 .add 18 13,bC 20 .rem 19 2147483647,mS 3 20] [0,3,4]))
(pr [mS 9 4,bC 10 .add 9 1,mS 4 10] [0,3,4]))))))
(Zs [mS 21 3,mS 2 21] [2] .ret))))
theorem C2h(l:List Int):Ctr Tryz.prog N20 [aL 1 (l.map encI)] [rI (hashL l)]:=by
 refine cA M9l 0 22 [(.tmp 2,[false])] Tryz.func326 rfl rfl ?_;unfold M9l
 intro hb
 simp only[bdA,bdL,bdT,Ky,roomB,and_true,List.length_map]at hb
 have hl:=hb.1
 clear hb
 simp only[go_sem]
 refine K7 l (fun k=>[(3,vI (hashL (l.take k))),(4,vI k)]) (fun k=>[]) (fun _=>True) hl ?_
 simp only[go_sem]
 refine⟨?_,trivial,?_,?_⟩
 ·simp only[go_sem,List.take_zero]
  rfl
 ·intro k x hx _ h0 h1 hw
  simp only[go_sem,K4 hx,h0,h1,K8f hx]
  apply K0 (Caj _)
  simp only[go_sem,hw,K42]
  try intro _
  rfl
 ·intro _
  simp only[go_sem,List.take_length]
def M9i:MC:=
(Zs [.mv 2 (ci 0)] [0] (Zs [.mv 3 (ci 11)] [0,3] (.seq (Zs [mS 6 0,nS 7 6,.mv 8 (ci 0)] [3,6,7,8] (.block 0 (.loop ([3,6,7,8],[]) (Zs [bS 9 .lss 8 7] [3,6,7,8,9] (.seq (cX 9 0)
(.seq (.block 1 (Zs [xS 10 1 6 8,lF 11 1 10,mS 5 11] [3,5,6,7,8] (pr [mS 12 3,bC 13 .mul 12 1000003,mS 14 5,.call 15 [] (.f N9w) [.s 14,.c (.int .i64 2147483647)],bS 16 .add 13 15,bC 17 .add 16 13,bC 18 .rem 17 2147483647,mS 3 18] [3,6,7,8])))
(pr [bC 19 .add 8 1,mS 8 19] [3,6,7,8])))))))
(Zs [mS 20 3,mS 2 20] [2] .ret))))
theorem C4b(l:List Int):Ctr Tryz.prog N2l [aL 1 (l.map encI)] [rI (hashL l)]:=by
 refine cA M9i 0 21 [(.tmp 2,[false])] Tryz.func313 rfl rfl ?_;unfold M9i
 intro hb
 simp only[bdA,bdL,bdT,Ky,roomB,and_true,List.length_map]at hb
 have hl:=hb.1
 clear hb
 simp only[go_sem]
 refine K7 l (fun k=>[(3,vI (hashL (l.take k))),(8,vI k)]) (fun k=>[]) (fun _=>True) hl ?_
 simp only[go_sem]
 refine⟨?_,trivial,?_,?_⟩
 ·simp only[go_sem,List.take_zero]
  rfl
 ·intro k x hx _ h0 h1 hw
  simp only[go_sem,K4 hx,h0,h1,K8f hx]
  apply K0 (Cag _)
  simp only[go_sem,hw,K42]
  try intro _
  rfl
 ·intro _
  simp only[go_sem,List.take_length]
def rootF:Nat→List Int→Int
 |0,_=>0
 |n+1,l=>match l with
  | []=>0
  | [x]=>x
  |x::y::l=>hashL [rootF n ((x::y::l).take ((l.length+3)/2)),rootF n ((x::y::l).drop ((l.length+3)/2))]
theorem K43:∀ {n m:Nat} {l:List Int},l.length≤n→l.length≤m→rootF n l=rootF m l
 |0,0,_,_,_=>rfl
 |0,m+1,l,h,_=>by
  obtain rfl:l=[]:=List.length_eq_zero_iff.1 (by omega)
  rfl
 |n+1,0,l,_,h=>by
  obtain rfl:l=[]:=List.length_eq_zero_iff.1 (by omega)
  rfl
 |n+1,m+1,[],_,_=>rfl
 |n+1,m+1,[x],_,_=>rfl
 |n+1,m+1,x::y::l,h,k=>by
  simp only[List.length_cons]at h k
  simp only[rootF]
  rw[K43 (n:=n) (m:=m) (by rw[List.length_take];simp only[List.length_cons];omega) (by rw[List.length_take];simp only[List.length_cons];omega),K43 (n:=n) (m:=m) (l:=(x::y::l).drop _) (by rw[List.length_drop];simp only[List.length_cons];omega) (by rw[List.length_drop];simp only[List.length_cons];omega)]
def rootL(l:List Int):Int:=rootF l.length l
theorem rootF_two{n x y:_}{l:List Int}:rootF (n+1) (x::y::l)=hashL [rootF n ((x::y::l).take ((l.length+3)/2)),rootF n ((x::y::l).drop ((l.length+3)/2))]:=rfl
theorem K9u{l:List Int}(h:2≤l.length):rootL l=hashL [rootL (l.take ((l.length+1)/2)),rootL (l.drop ((l.length+1)/2))]:=by
 match l,h with
 |x::y::l,h=>
  have e:(x::y::l).length+1=l.length+3:=by simp
  rw[e]
  unfold rootL
  rw[show(x::y::l).length=(l.length+1)+1 from by simp,rootF_two]
  rw[K43 (n:=l.length+1) (l:=(x::y::l).take _) (by rw[List.length_take];simp only[List.length_cons];omega) (Nat.le_refl _),K43 (n:=l.length+1) (l:=(x::y::l).drop _) (by rw[List.length_drop];simp only[List.length_cons];omega) (Nat.le_refl _)]
theorem two_ne:¬(2:Int)=0:=by decide
theorem cut_lo{α:Type}{f:α→List T}{l:List α}{m:Nat}(h:m≤l.length):(if ((m:Int)-0).toNat=l.length then l.map f else List.take ((m:Int)-0).toNat (l.map f))=(l.take m).map f:=by
 rw[show((m:Int)-0).toNat=m by omega]
 split
 ·rename_i e;rw[List.take_of_length_le (by omega)]
 ·rw[List.map_take]
theorem cut_hi{α:Type}{f:α→List T}{l:List α}{m:Nat}(h:m≤l.length):(if m=0∧((l.length:Int)-(m:Int)).toNat=l.length then l.map f else List.take ((l.length:Int)-(m:Int)).toNat (List.drop m (l.map f)))=(l.drop m).map f:=by
 rw[show((l.length:Int)-(m:Int)).toNat=l.length-m by omega]
 split
 ·rename_i e;rw[e.1];rfl
 ·rw[List.take_of_length_le (by simp),List.map_drop]
def Y5(v0:Nat)(v1:Nat):MC:=
(Zs [.mv 2 (ci 0)] [0] (.seq (Zs [mS 4 0,nS 5 4] [0,5] (.block 0 (Zs [bC 7 .eql 5 0,mS 6 7] [0,5,6] (.cond (.s 6) (Zs [.mv 2 (ci 0)] [2] .ret) (Zs [bC 9 .eql 5 1,mS 8 9] [0,8] (.cond (.s 8) (Zs [mS 10 0,.idx 11 1 (.s 10) (ci 0),lF 12 1 11,mS 2 12] [2] .ret) .skip))))))
(Zs [mS 13 0,nS 14 13,bC 15 .add 14 1,bC 16 .quo 15 2,mS 3 16] [0,3] (.seq (.dreg [Zc [18,21,22,23] (mS 17 0),Zc [17,21,22,23] (mS 18 3),Zd [21,22,23] [0,1] (.slc 19 1 (.s 17) none (some (.s 18)) none),Zd [21,22,23] [0,1,2] (.call 20 [] (.f v0) [.s 19]),Zc [17,18,19,20,22] (mS 21 0),Zc [17,18,19,20,21] (mS 22 3),Zd [17,18,19,20] [4,5] (.slc 23 1 (.s 21) (some (.s 22)) none none),Ze (.range 7) (.call 24 [] (.f v0) [.s 23]),{o:= .lit 25 0 1 8 [.s 20,.s 24],ws:=[0],bf:=(.range 8)},Ze (.range 9) (.call 26 [] (.f v1) [.s 25]),Ze (.range 10) (mS 2 26)] [2])
.ret))))
attribute [go_sem] Y5
def M2r:MC:=Y5 N2u N20
theorem C7m(n:Nat):∀(l:List Int),l.length≤n→Ctr Tryz.prog N2u [aL 1 (l.map encI)] [rI (rootL l)]:=by
 induction n with
 |zero=>
  intro l hn
  obtain rfl:l=[]:=List.length_eq_zero_iff.1 (by omega)
  refine cA M2r 1 27 [(.tmp 2,[false])] Tryz.func325 rfl rfl ?_;unfold M2r
  intro hb
  clear hb
  simp only[go_sem]
  rfl
 |succ n ih=>
  intro l hn
  refine cA M2r 1 27 [(.tmp 2,[false])] Tryz.func325 rfl rfl ?_;unfold M2r
  intro hb
  simp only[bdA,bdL,bdT,Ky,roomB,and_true,List.length_map]at hb
  have hl:=hb.1
  clear hb
  have hM1:IntKind.i64.wrap ((l.length:Int)+1)=((l.length+1:Nat):Int):=by rw[wI (by omega) (by omega)];omega
  have hM2:((l.length+1:Nat):Int).tdiv 2=(((l.length+1)/2:Nat):Int):=rfl
  have hM3:IntKind.i64.wrap ((((l.length+1)/2:Nat):Int))=(((l.length+1)/2:Nat):Int):=wI (by omega) (by omega)
  simp only[go_sem,two_ne,hM1,hM2,hM3]
  refine And.intro ?_ ?_<;>intro h
  ·obtain rfl:l=[]:=List.length_eq_zero_iff.1 (by omega)
   rfl
  refine And.intro ?_ ?_<;>intro h2
  ·match l,h2 with
   | [x],_=>simp only[go_sem];exact⟨by simp,rfl⟩
   |x::y::l,h2=>simp at h2;omega
  ·generalize hm:(l.length+1)/2=m at*
   rw[cut_lo (by omega)]
   refine⟨⟨by omega,by omega,by omega⟩,?_⟩
   apply K0 (ih _ (by rw[List.length_take];omega))
   simp only[go_sem]
   rw[cut_hi (by omega)]
   intros
   refine⟨⟨by omega,by omega⟩,?_⟩
   apply K0 (ih _ (by rw[List.length_drop];omega))
   simp only[go_sem]
   refine⟨by decide,?_⟩
   apply K0 (C2h [rootL (l.take m),rootL (l.drop m)])
   simp only[go_sem]
   intros
   rw[K9u (l:=l) (by omega),hm]
def M2q:MC:=Y5 N2s N2l
theorem C7l(n:Nat):∀(l:List Int),l.length≤n→Ctr Tryz.prog N2s [aL 1 (l.map encI)] [rI (rootL l)]:=by
 induction n with
 |zero=>
  intro l hn
  obtain rfl:l=[]:=List.length_eq_zero_iff.1 (by omega)
  refine cA M2q 1 27 [(.tmp 2,[false])] Tryz.func315 rfl rfl ?_;unfold M2q
  intro hb
  clear hb
  simp only[go_sem]
  rfl
 |succ n ih=>
  intro l hn
  refine cA M2q 1 27 [(.tmp 2,[false])] Tryz.func315 rfl rfl ?_;unfold M2q
  intro hb
  simp only[bdA,bdL,bdT,Ky,roomB,and_true,List.length_map]at hb
  have hl:=hb.1
  clear hb
  have hM1:IntKind.i64.wrap ((l.length:Int)+1)=((l.length+1:Nat):Int):=by rw[wI (by omega) (by omega)];omega
  have hM2:((l.length+1:Nat):Int).tdiv 2=(((l.length+1)/2:Nat):Int):=rfl
  have hM3:IntKind.i64.wrap ((((l.length+1)/2:Nat):Int))=(((l.length+1)/2:Nat):Int):=wI (by omega) (by omega)
  simp only[go_sem,two_ne,hM1,hM2,hM3]
  refine And.intro ?_ ?_<;>intro h
  ·obtain rfl:l=[]:=List.length_eq_zero_iff.1 (by omega)
   rfl
  refine And.intro ?_ ?_<;>intro h2
  ·match l,h2 with
   | [x],_=>simp only[go_sem];exact⟨by simp,rfl⟩
   |x::y::l,h2=>simp at h2;omega
  ·generalize hm:(l.length+1)/2=m at*
   rw[cut_lo (by omega)]
   refine⟨⟨by omega,by omega,by omega⟩,?_⟩
   apply K0 (ih _ (by rw[List.length_take];omega))
   simp only[go_sem]
   rw[cut_hi (by omega)]
   intros
   refine⟨⟨by omega,by omega⟩,?_⟩
   apply K0 (ih _ (by rw[List.length_drop];omega))
   simp only[go_sem]
   refine⟨by decide,?_⟩
   apply K0 (C4b [rootL (l.take m),rootL (l.drop m)])
   simp only[go_sem]
   intros
   rw[K9u (l:=l) (by omega),hm]
end Go.Proofs.YtjneccbpkckdfaaGreatR
namespace Go.Proofs.YtjneccbpkckdfaaGreatR
open Go Go.RowKit Go.Proofs
open Nat (reduceEqDiff reduceLT reduceLeDiff reduceAdd reduceMul)
open List (reduceReplicate)
def K2q(r:GResource):List Int:=[r.Kind,r.To.Host,r.To.Path,r.To.Query,r.Body.length]++r.Body
def K33(c:GCapture):List Int:=[c.Address.Host,c.Address.Path,c.Address.Query,c.Tick]++K2q c.Resource
theorem K7i(r:GResource):(K2q r).length=5+r.Body.length:=by simp[K2q];omega
def Y6:MC:=
(Zs [.box 1 0 (.s 0),.nilo 2 1 1] [1] (Zs [fS 3 1 0,lF 4 1 3,fS 5 1 2,fS 6 5 0,lF 7 1 6,fS 8 1 2,fS 9 8 1,lF 10 1 9,fS 11 1 2,fS 12 11 2,lF 13 1 12,fS 14 1 1,lF 15 1 14,nS 16 15,.lit 17 1 1 8 [.s 4,.s 7,.s 10,.s 13,.s 16],fS 18 1 1,lF 19 1 18,.app 20 1 1 8 (.s 17) (.s 19),mS 2 20] [2] .ret))
attribute [go_sem] Y6
def M3x:MC:=Y6
theorem C8m(r:GResource)(hs:r.Body.length≤1073741824):Ctr Tryz.prog N43 [aS r.enc] [rL 1 ((K2q r).map encI)]:=by
 refine cA M3x 2 21 [(.tmp 2,[true])] Tryz.func388 rfl rfl ?_;unfold M3x
 intro hb
 clear hb
 simp only[go_sem,↓K17 (f:=encI) (fun _=>rfl) r.Body]
 simp only[roomB]
 refine⟨by decide,by omega,?_⟩
 simp[K2q,encI]
 omega
def M3s:MC:=Y6
theorem C8j(r:GResource)(hs:r.Body.length≤1073741824):Ctr Tryz.prog N40 [aS r.enc] [rL 1 ((K2q r).map encI)]:=by
 refine cA M3s 2 21 [(.tmp 2,[true])] Tryz.func364 rfl rfl ?_;unfold M3s
 intro hb
 clear hb
 simp only[go_sem,↓K17 (f:=encI) (fun _=>rfl) r.Body]
 simp only[roomB]
 refine⟨by decide,by omega,?_⟩
 simp[K2q,encI]
 omega
def Y7(v0:Nat):MC:=
(Zs [.box 1 0 (.s 0),.nilo 2 1 1] [1] (.seq (.dreg [Zf [6,7,8,9,10,11,12,13,15,16,17] [2] (fS 3 1 0),Zg [6,7,8,9,10,11,12,13,15,16,17] [2] [0] (fS 4 3 0),Zg [6,7,8,9,10,11,12,13,15,16,17] [2] [0,1] (lF 5 1 4),Zf [3,4,5,9,10,11,12,13,15,16,17] [2] (fS 6 1 0),Zg [3,4,5,9,10,11,12,13,15,16,17] [2] [3] (fS 7 6 1),Zg [3,4,5,9,10,11,12,13,15,16,17] [2] [3,4] (lF 8 1 7),Zf [3,4,5,6,7,8,12,13,15,16,17] [2] (fS 9 1 0),Zg [3,4,5,6,7,8,12,13,15,16,17] [2] [6] (fS 10 9 2),Zg [3,4,5,6,7,8,12,13,15,16,17] [2] [6,7] (lF 11 1 10),Zf [3,4,5,6,7,8,9,10,11,15,16,17] [2] (fS 12 1 3),Zg [3,4,5,6,7,8,9,10,11,15,16,17] [2] [9] (lF 13 1 12),{o:= .lit 14 1 1 8 [.s 5,.s 8,.s 11,.s 13],hs:=[15,16,17],ho:=[2],ws:=[1],bf:=(.range 11)},Zf [3,4,5,6,7,8,9,10,11,12,13,14] [1] (fS 15 1 4),Zg [3,4,5,6,7,8,9,10,11,12,13,14] [1] [12] (lT 16 5 15),{o:= .call 17 [2] (.f v0) [.s 16],hs:=[3,4,5,6,7,8,9,10,11,12,13,14],ho:=[1],ws:=[2],bf:=[12,13]},{o:= .app 18 1 1 8 (.s 14) (.s 17),ws:=[1],bf:=(.range 15)},Ze (.range 16) (mS 2 18)] [2])
.ret))
attribute [go_sem] Y7
def M4k:MC:=Y7 N43
theorem C8s(c:GCapture)(hs:c.Resource.Body.length≤1073741824):Ctr Tryz.prog N4s [aS c.enc] [rL 1 ((K33 c).map encI)]:=by
 refine cA M4k 3 19 [(.tmp 2,[true])] Tryz.func369 rfl rfl ?_;unfold M4k
 intro hb
 clear hb
 simp only[go_sem]
 refine⟨by decide,?_⟩
 apply K0 (C8m c.Resource hs)
 simp only[go_sem,↓K17 (f:=encI) (fun _=>rfl) (K2q c.Resource),K7i]
 simp only[roomB]
 exact⟨by omega,fun _=>⟨by omega,by simp[K33,encI]⟩⟩
def M4g:MC:=Y7 N40
theorem C8o(c:GCapture)(hs:c.Resource.Body.length≤1073741824):Ctr Tryz.prog N4q [aS c.enc] [rL 1 ((K33 c).map encI)]:=by
 refine cA M4g 3 19 [(.tmp 2,[true])] Tryz.func314 rfl rfl ?_;unfold M4g
 intro hb
 clear hb
 simp only[go_sem]
 refine⟨by decide,?_⟩
 apply K0 (C8j c.Resource hs)
 simp only[go_sem,↓K17 (f:=encI) (fun _=>rfl) (K2q c.Resource),K7i]
 simp only[roomB]
 exact⟨by omega,fun _=>⟨by omega,by simp[K33,encI]⟩⟩
def K1m(l:List GEntry):List Int:=l.flatMap fun e=>[e.Kind,e.Address.Host,e.Address.Path,e.Address.Query,e.Value]
theorem K6k{l:List GEntry}{k:Nat}{x:GEntry}(h:l[k]? =some x):K1m (l.take (k+1))=K1m (l.take k)++[x.Kind,x.Address.Host,x.Address.Path,x.Address.Query,x.Value]:=by
 rw[Kt h,K1m,List.flatMap_append];rfl
theorem K7f{l:List GEntry}:(K1m l).length=5*l.length:=by
 induction l with
 |nil=>rfl
 |cons x l ih=>simp only[K1m,List.flatMap_cons,List.length_append,List.length_cons,List.length_nil]at ih ⊢;omega
def M5h:MC:=
(Zs [.nilo 2 0 1] [0] (Zs [.lit 6 0 1 8 [],mS 3 6] [0,3] (.seq (Zs [.mv 4 (ci 0)] [0,3,4] (.block 0 (.loop ([0,3,4],[1,2]) (.seq (Zs [mS 7 4,mS 8 0,nS 9 8,bS 10 .lss 7 9] [0,3,4,10] (cX 10 0))
(.seq (.block 1 (Zs [mS 13 0,mS 14 4,xS 15 5 13 14,lT 16 5 15,.alloc 5 1 [pz,pz,pz,pz,pz],sS 5 5 16] [0,3,4,5] (pr [mS 17 3,fS 18 5 0,lF 19 1 18,fS 20 5 1,fS 21 20 0,lF 22 1 21,fS 23 5 1,fS 24 23 1,lF 25 1 24,fS 26 5 1,fS 27 26 2,lF 28 1 27,fS 29 5 4,lF 30 1 29,.lit 31 2 1 8 [.s 19,.s 22,.s 25,.s 28,.s 30],.app 32 0 1 8 (.s 17) (.s 31),mS 3 32] [0,3,4])))
(pr [mS 11 4,bC 12 .add 11 1,mS 4 12] [0,3,4]))))))
(Zs [mS 33 3,mS 2 33] [2] .ret))))
theorem C9f(xs:List GEntry)(hN:xs.length≤1073741824):Ctr Tryz.prog N5u [aL 5 (xs.map GEntry.enc)] [rL 1 ((K1m xs).map encI)]:=by
 refine cA M5h 3 34 [(.tmp 2,[true])] Tryz.func328 rfl rfl ?_;unfold M5h
 intro hb
 simp only[bdA,bdL,bdT,Ky,roomB,and_true,List.length_map]at hb
 obtain⟨hl,-⟩:=hb
 simp only[go_sem]
 refine K7 xs (fun k=>[(3,.val false [.ref 0 0 1 0 (K1m (xs.take k)).length]),(4,vI k)]) (fun k=>[(0,⟨0,.row true 1 ((K1m (xs.take k)).map encI)⟩)]) (fun _=>True) hl ?_
 simp only[go_sem]
 refine⟨?_,trivial,?_,?_⟩
 ·simp only[go_sem,List.take_zero]
  exact⟨rfl,rfl⟩
 ·intro k x hx _ h0 h1 hw
  have hlt:=List.length_take_le k xs
  simp only[go_sem,K4 hx,h0,h1,hw,K6k hx,List.length_append,K7f]
  refine⟨⟨by simp,by decide⟩,by simp only[roomB];omega,by simp[encI]⟩
 ·intro _
  simp only[go_sem,List.take_length]
def K12(l:List GCapture):List Int:=l.map fun c=>hashL (K33 c)
theorem K5d{l:List GCapture}{k:Nat}{x:GCapture}(h:l[k]? =some x):K12 (l.take (k+1))=K12 (l.take k)++[hashL (K33 x)]:=by
 rw[Kt h,K12,List.map_append];rfl
theorem K6d{l:List GCapture}:(K12 l).length=l.length:=by simp[K12]
theorem body_le{xs:List GCapture}{x:GCapture}{k:Nat}{n:Nat}(hx:xs[k]? =some x)(hs:xs.length+(xs.map GCapture.size).sum≤n):x.Resource.Body.length≤n:=by
 have hx1:=K1y (f:=GCapture.size) (K10 hx)
 simp only[GCapture.size,GResource.size]at hx1 hs
 omega
def M4o:MC:=
(Zs [.nilo 2 0 1] [0] (Zs [.lit 5 0 1 8 [],mS 3 5] [0,3] (.seq (Zs [.mv 4 (ci 0)] [0,3,4] (.block 0 (.loop ([0,3,4],[1,2]) (.seq (Zs [mS 6 4,mS 7 0,nS 8 7,bS 9 .lss 6 8] [0,3,4,9] (cX 9 0))
(.seq (.block 1 (pr [mS 12 3,mS 13 0,mS 14 4,xS 15 9 13 14,lT 16 9 15,.call 17 [1] (.f N4s) [.s 16],.call 18 [] (.f N20) [.s 17],.lit 19 2 1 8 [.s 18],.app 20 0 1 8 (.s 12) (.s 19),mS 3 20] [0,3,4]))
(pr [mS 10 4,bC 11 .add 10 1,mS 4 11] [0,3,4]))))))
(Zs [mS 21 3,mS 2 21] [2] .ret))))
theorem C8u(xs:List GCapture)(hs:xs.length+(xs.map GCapture.size).sum≤1073741824):Ctr Tryz.prog N4u [aL 9 (xs.map GCapture.enc)] [rL 1 ((K12 xs).map encI)]:=by
 refine cA M4o 3 22 [(.tmp 2,[true])] Tryz.func329 rfl rfl ?_;unfold M4o
 intro hb
 clear hb
 simp only[go_sem]
 refine K7 xs (fun k=>[(3,.val false [.ref 0 0 1 0 (K12 (xs.take k)).length]),(4,vI k)]) (fun k=>[(0,⟨0,.row true 1 ((K12 (xs.take k)).map encI)⟩)]) (fun _=>True) (by simp only[roomB];omega) ?_
 simp only[go_sem]
 refine⟨?_,trivial,?_,?_⟩
 ·simp only[go_sem,List.take_zero]
  exact⟨rfl,rfl⟩
 ·intro k x hx _ h0 h1 hw
  have hlt:=List.length_take_le k xs
  simp only[go_sem,K4 hx,h0,h1,K5d hx,List.length_append]
  apply K0 (C8s x (body_le hx hs))
  simp only[go_sem]
  try intro _
  apply K0 (C2h (K33 x))
  simp only[go_sem,hw]
  simp only[roomB,K6d]
  exact⟨by omega,by omega,fun _=>by simp[encI]⟩
 ·intro _
  simp only[go_sem,List.take_length]
def K68(l:List GOp)(es:List GEntry)(cs:List GCapture):Int:=rootL [hashL (Ku l),hashL (K1m es),rootL (K12 cs)]
def M3d:MC:=
(Zs [.alloc 6 0 [.emp 4,.emp 5,.emp 9,pz]] [0,1,2,6] (Zs [.lit 8 1 4 32 [],mS 9 0,.app 10 1 4 32 (.s 8) (.s 9),.lit 11 2 5 40 [],mS 12 1,.app 13 2 5 40 (.s 11) (.s 12),mS 14 2,.call 15 [3] (.f N7c) [.s 14],.build 16 [.emp 4,.emp 5,.emp 9,pz] [(0,1,.s 10),(1,1,.s 13),(2,1,.s 15)],.alloc 7 4 [.emp 4,.emp 5,.emp 9,pz],sS 4 7 16] [0,1,2,6,7] (Zs [mS 17 0,.call 18 [5] (.f N5s) [.s 17],.call 19 [] (.f N20) [.s 18],mS 20 1,.call 21 [6] (.f N5u) [.s 20],.call 22 [] (.f N20) [.s 21],mS 23 2,.call 24 [7] (.f N4u) [.s 23],.call 25 [] (.f N2u) [.s 24],.lit 26 8 1 8 [.s 19,.s 22,.s 25],.call 27 [] (.f N2u) [.s 26],fS 28 7 3,sS 1 28 27] [6,7] (Zs [lT 29 4 7,sS 4 6 29] [6] .ret))))
theorem C1t(l:List GOp)(es:List GEntry)(cs:List GCapture)(h1:l.length≤1073741824)(h2:es.length≤1073741824)(hs:cs.length+(cs.map GCapture.size).sum≤1073741824):
  Ctr Tryz.prog N19 [aL 4 (l.map GOp.enc),aL 5 (es.map GEntry.enc),aL 9 (cs.map GCapture.enc)] [rS (GContainer.enc ⟨l,es,cs,K68 l es cs⟩)]:=by
 refine cA M3d 9 30 [(.cell 6 true 4,[true,true,true,false])] Tryz.func244 rfl rfl ?_;unfold M3d
 intro hb
 clear hb
 simp only[go_sem,↓K17 (f:=GOp.enc) (fun _=>rfl) l,↓K17 (f:=GEntry.enc) (fun _=>rfl) es]
 simp only[roomB]
 refine⟨by omega,by omega,?_⟩
 apply K0 (Ca1 cs hs)
 simp only[go_sem]
 intros
 apply K0 (C9d l (by omega))
 simp only[go_sem]
 apply K0 (C2h (Ku l))
 simp only[go_sem]
 apply K0 (C9f es h2)
 simp only[go_sem]
 apply K0 (C2h (K1m es))
 simp only[go_sem]
 apply K0 (C8u cs hs)
 simp only[go_sem]
 apply K0 (C7m _ (K12 cs) (Nat.le_refl _))
 simp only[go_sem]
 refine⟨by decide,?_⟩
 apply K0 (C7m _ [hashL (Ku l),hashL (K1m es),rootL (K12 cs)] (Nat.le_refl _))
 simp only[go_sem]
 intros
 rfl
def M74:MC:=
(Zs [.box 1 0 (.s 0),.alloc 2 1 [.emp 4,.emp 5,.emp 9,pz]] [1,2] (Zs [fS 4 1 0,lF 5 1 4,fS 6 1 1,lF 7 1 6,fS 8 1 2,lF 9 1 8,.call 10 [2,3,4] (.f N19) [.s 5,.s 7,.s 9],.alloc 3 5 [.emp 4,.emp 5,.emp 9,pz],sS 4 3 10] [1,2,3] (Zs [fS 11 1 3,lF 12 1 11,fS 13 3 3,sS 1 13 12] [2,3] (Zs [lT 14 4 3,sS 4 2 14] [2] .ret))))
theorem C46(x:GContainer)(hs:x.size≤1073741824):Ctr Tryz.prog N2d [aS x.enc] [rS x.enc]:=by
 refine cA M74 6 15 [(.cell 2 true 4,[true,true,true,false])] Tryz.func234 rfl rfl ?_;unfold M74
 intro hb
 clear hb
 simp only[GContainer.size]at hs
 simp only[go_sem]
 apply K0 (C1t x.Script x.Entries x.Captures (by omega) (by omega) (by omega))
 simp only[go_sem]
 try intros
 try trivial
def M30:MC:=
(Zs [.nilo 2 0 4] [0] (Zs [.nilo 3 0 4] [0,3] (.seq (Zs [mS 6 0,nS 7 6,.mv 8 (ci 0)] [3,6,7,8] (.block 0 (.loop ([3,6,7,8],[1,2,3,4,5]) (Zs [bS 9 .lss 8 7] [3,6,7,8,9] (.seq (cX 9 0)
(.seq (.block 1 (Zs [xS 10 4 6 8,lT 11 4 10,.alloc 5 1 [.emp 4,.emp 5,.emp 9,pz],sS 4 5 11] [3,5,6,7,8] (.dreg [Zf [13,14,15,16,17,18,19,20,21,22,23,24,25] [2,3,4,5] (mS 12 3),Zc [12,16,17,19,20,22,23] (fS 13 5 0),Zd [12,16,17,19,20,22,23] [1] (lF 14 1 13),{o:= .call 15 [2] (.f Ns) [.s 14],hs:=[12,16,17,19,20,22,23],ws:=[2],bf:=[1,2]},Zf [12,13,14,15,19,20,22,23] [2] (fS 16 5 1),Zg [12,13,14,15,19,20,22,23] [2] [4] (lF 17 1 16),{o:= .call 18 [3] (.f Nc) [.s 17],hs:=[12,19,20,22,23],ws:=[3],bf:=[1,2,3,4,5]},Zf [12,13,14,15,16,17,18,22,23] [2,3] (fS 19 5 2),Zg [12,13,14,15,16,17,18,22,23] [2,3] [7] (lF 20 1 19),{o:= .call 21 [4] (.f N22) [.s 20],hs:=[12,22,23],ws:=[4],bf:=[1,2,3,4,5,6,7,8]},Zf [12,13,14,15,16,17,18,19,20,21] [2,3,4] (fS 22 5 3),Zg [12,13,14,15,16,17,18,19,20,21] [2,3,4] [10] (lF 23 1 22),Zd [12] [1,2,3,4,5,6,7,8,9,10,11] (.build 24 [.emp 4,.emp 5,.emp 9,pz] [(0,1,.s 15),(1,1,.s 18),(2,1,.s 21),(3,1,.s 23)]),{o:= .lit 25 5 4 80 [.s 24],hs:=[12],ws:=[2,3,4,5],bf:=[1,2,3,4,5,6,7,8,9,10,11,12]},{o:= .app 26 0 4 80 (.s 12) (.s 25),ws:=[0,5],bf:=(.range 14)},Ze (.range 15) (mS 3 26)] [3,6,7,8])))
(pr [bC 27 .add 8 1,mS 8 27] [3,6,7,8])))))))
(Zs [mS 28 3,mS 2 28] [2] .ret))))
theorem C1q(xs:List GContainer)(hs:xs.length+(xs.map GContainer.size).sum≤1073741824):Ctr Tryz.prog N13 [aL 4 (xs.map GContainer.enc)] [rL 4 (xs.map GContainer.enc)]:=by
 refine cA M30 6 29 [(.tmp 2,[true])] Tryz.func120 rfl rfl ?_;unfold M30
 intro hb
 clear hb
 simp only[go_sem]
 refine K7 xs (fun k=>[(3,.val false [.ref 0 0 4 0 (xs.take k).length]),(8,vI k)]) (fun k=>[(0,⟨0,.row true 4 ((xs.take k).map GContainer.enc)⟩)]) (fun _=>True) (by simp only[roomB];omega) ?_
 simp only[go_sem]
 refine⟨?_,trivial,?_,?_⟩
 ·simp only[go_sem,List.take_zero]
 ·intro k x hx _ h0 h1 hw
  have hk:k<xs.length:=by omega
  have hlt:=List.length_take_le k xs
  have hx1:=K1y (f:=GContainer.size) (K10 hx)
  simp only[GContainer.size]at hx1
  simp only[go_sem,K4 hx,h0,h1]
  apply K0 (C50 x.Script (by omega))
  simp only[go_sem]
  try intro _
  apply K0 (C35 x.Entries (by omega))
  simp only[go_sem]
  try intro _
  apply K0 (C3o x.Captures (by omega))
  simp only[go_sem,hw]
  simp only[roomB]
  exact⟨by omega,by omega,fun _=>⟨K4k hx,K4l hx⟩⟩
 ·intro _
  simp only[go_sem,List.take_length]
end Go.Proofs.YtjneccbpkckdfaaGreatR
namespace Go.Proofs.YtjneccbpkckdfaaGreatR
open Go Go.RowKit Go.Proofs
open Nat (reduceEqDiff reduceLT reduceLeDiff reduceAdd reduceMul)
open List (reduceReplicate)
def M6i:MC:=
(Zs [.box 1 0 (.s 0),.alloc 2 1 [.emp 4,.emp 6,.emp 4]] [1,2] (.seq (.dreg [Zc [6,7,9,10] (fS 3 1 0),Zd [6,7,9,10] [0] (lF 4 1 3),{o:= .call 5 [2] (.f N13) [.s 4],hs:=[6,7,9,10],ws:=[2],bf:=[0,1]},Zf [3,4,5,9,10] [2] (fS 6 1 1),Zg [3,4,5,9,10] [2] [3] (lF 7 1 6),{o:= .call 8 [3] (.f N11) [.s 7],hs:=[9,10],ws:=[3],bf:=(.range 5)},Zf [3,4,5,6,7,8] [2,3] (fS 9 1 2),Zg [3,4,5,6,7,8] [2,3] [6] (lF 10 1 9),{o:= .call 11 [4] (.f N13) [.s 10],ws:=[4],bf:=(.range 8)},Ze (.range 9) (.build 12 [.emp 4,.emp 6,.emp 4] [(0,1,.s 5),(1,1,.s 8),(2,1,.s 11)]),{o:=sS 3 2 12,ws:=[1,2,3,4],bf:=(.range 10)}] [2])
.ret))
theorem C34(d:GDisk)(hs:d.size≤1073741824):Ctr Tryz.prog N24 [aS d.enc] [rS d.enc]:=by
 refine cA M6i 5 13 [(.cell 2 true 3,[true,true,true])] Tryz.func117 rfl rfl ?_;unfold M6i
 intro hb
 clear hb
 simp only[GDisk.size]at hs
 simp only[go_sem]
 apply K0 (C1q d.Containers (by omega))
 simp only[go_sem]
 apply K0 (C7i d.Index (by omega))
 simp only[go_sem]
 apply K0 (C1q d.Wanted (by omega))
 simp only[go_sem]
 try intros
 try trivial
def M76:MC:=
(Zs [.box 1 0 (.s 0),.alloc 2 1 [.emp 4,.emp 6,.emp 4]] [1,2] (Zs [.lit 6 2 6 48 [],fS 7 1 1,lF 8 1 7,.app 9 2 6 48 (.s 6) (.s 8),.buildO 10 [.emp 4,.emp 6,.emp 4] [(1,1,.s 9)] [some 3,none,some 4],.alloc 3 5 [.emp 4,.emp 6,.emp 4],sS 3 3 10] [1,2,3] (.seq (Zs [.mv 4 (ci 0)] [1,2,3,4] (.block 0 (.loop ([1,2,3,4],[6,7,8,9,10,11,12,13]) (.seq (Zs [mS 11 4,fS 12 1 0,lF 13 1 12,nS 14 13,bS 15 .lss 11 14] [1,2,3,4,15] (cX 15 0))
(.seq (.block 1 (.dreg [Zf [20,21,22,23,24,25,26] [6,7,8,9] (fS 18 3 0),Zg [20,21,22,23,24,25,26] [6,7,8,9] [0] (lF 19 1 18),Zc [18,19,22] (fS 20 1 0),Zd [18,19,22] [2] (lF 21 1 20),Zc [18,19,20,21] (mS 22 4),Zd [18,19] [2,3,4] (xS 23 4 21 22),Zd [18,19] [2,3,4,5] (lT 24 4 23),{o:= .call 25 [6,7,8] (.f N2d) [.s 24],hs:=[18,19],ws:=[6,7,8],bf:=[2,3,4,5,6]},{o:= .lit 26 9 4 80 [.s 25],hs:=[18,19],ws:=[6,7,8,9],bf:=[2,3,4,5,6,7]},{o:= .app 27 3 4 80 (.s 19) (.s 26),ws:=[3,9],bf:=(.range 9)},Ze (.range 10) (fS 28 3 0),{o:=sS 1 28 27,ws:=[3,5],bf:=(.range 11)}] [1,2,3,4]))
(pr [mS 16 4,bC 17 .add 16 1,mS 4 17] [1,2,3,4]))))))
(.seq (Zs [.mv 5 (ci 0)] [1,2,3,5] (.block 2 (.loop ([1,2,3,5],[6,7,8,9,10,11,12,13]) (.seq (Zs [mS 29 5,fS 30 1 2,lF 31 1 30,nS 32 31,bS 33 .lss 29 32] [1,2,3,5,33] (cX 33 2))
(.seq (.block 3 (.dreg [Zf [38,39,40,41,42,43,44] [10,11,12,13] (fS 36 3 2),Zg [38,39,40,41,42,43,44] [10,11,12,13] [0] (lF 37 1 36),Zc [36,37,40] (fS 38 1 2),Zd [36,37,40] [2] (lF 39 1 38),Zc [36,37,38,39] (mS 40 5),Zd [36,37] [2,3,4] (xS 41 4 39 40),Zd [36,37] [2,3,4,5] (lT 42 4 41),{o:= .call 43 [10,11,12] (.f N2d) [.s 42],hs:=[36,37],ws:=[10,11,12],bf:=[2,3,4,5,6]},{o:= .lit 44 13 4 80 [.s 43],hs:=[36,37],ws:=[10,11,12,13],bf:=[2,3,4,5,6,7]},{o:= .app 45 4 4 80 (.s 37) (.s 44),ws:=[4,13],bf:=(.range 9)},Ze (.range 10) (fS 46 3 2),{o:=sS 1 46 45,ws:=[4,5],bf:=(.range 11)}] [1,2,3,5]))
(pr [mS 34 5,bC 35 .add 34 1,mS 5 35] [1,2,3,5]))))))
(Zs [lT 47 3 3,sS 3 2 47] [2] .ret)))))
theorem C47(d:GDisk)(hs:d.size≤1073741824):Ctr Tryz.prog N2e [aS d.enc] [rS d.enc]:=by
 refine cA M76 14 48 [(.cell 2 true 3,[true,true,true])] Tryz.func125 rfl rfl ?_;unfold M76
 intro hb
 clear hb
 simp only[GDisk.size]at hs
 simp only[go_sem,↓K17 (f:=GFound.enc) (fun _=>rfl) d.Index]
 simp only[roomB]
 refine⟨by omega,?_⟩
 refine K7 d.Containers (fun k=>[(4,vI k)]) (fun k=>[(3,⟨0,.row true 4 ((d.Containers.take k).map GContainer.enc)⟩),(5,⟨0,.box [.ref 3 0 4 0 (d.Containers.take k).length,.ref 2 0 6 0 d.Index.length,.ref 4 0 4 0 0]⟩)]) (fun _=>True) (by simp only[roomB];omega) ?_
 simp only[go_sem]
 refine⟨?_,trivial,?_,?_⟩
 ·simp only[go_sem,List.take_zero]
 ·intro k x hx _ h0 h1 hw
  have hlt:=List.length_take_le k d.Containers
  have hk:k<d.Containers.length:=by omega
  have hx1:=K1y (f:=GContainer.size) (K10 hx)
  simp only[go_sem,K4 hx,h0,h1]
  apply K0 (C46 x (by omega))
  simp only[go_sem,hw]
  simp only[roomB]
  exact⟨by omega,by omega,fun _=>⟨K4l hx,K4k hx⟩⟩
 ·intro _
  simp only[go_sem,List.take_length]
  refine K7 d.Wanted (fun k=>[(5,vI k)]) (fun k=>[(4,⟨0,.row true 4 ((d.Wanted.take k).map GContainer.enc)⟩),(5,⟨0,.box [.ref 3 0 4 0 d.Containers.length,.ref 2 0 6 0 d.Index.length,.ref 4 0 4 0 (d.Wanted.take k).length]⟩)]) (fun _=>True) (by simp only[roomB];omega) ?_
  simp only[go_sem]
  refine⟨?_,trivial,?_,?_⟩
  ·simp only[go_sem,List.take_zero]
  ·intro k x hx _ h0 h1 hw
   have hlt:=List.length_take_le k d.Wanted
   have hk:k<d.Wanted.length:=by omega
   have hx1:=K1y (f:=GContainer.size) (K10 hx)
   simp only[go_sem,K4 hx,h0,h1]
   apply K0 (C46 x (by omega))
   simp only[go_sem,hw]
   simp only[roomB]
   exact⟨by omega,by omega,fun _=>⟨K4l hx,K4k hx⟩⟩
  ·intro _
   simp only[go_sem,List.take_length]
end Go.Proofs.YtjneccbpkckdfaaGreatR
namespace Go.Proofs.YtjneccbpkckdfaaGreatR
open Go Go.RowKit Go.Proofs
open Nat (reduceEqDiff reduceLT reduceLeDiff reduceAdd reduceMul)
open List (reduceReplicate)
def K30(v:GVersion):Bool:=K23 v.Address&&(decide (0≤v.From∧v.From≤1000)&&Kv v.Resource)
def K4j(l:List GVersion):Bool:=Kk 12 K30 l
def M7t:MC:=
(Zs [.mv 2 cF] [0] (.seq (Zs [.mv 3 (ci 0)] [0,3] (.block 0 (.loop ([0,3],[]) (.seq (Zs [mS 4 3,mS 5 0,nS 6 5,bS 7 .lss 4 6] [0,3,7] (cX 7 0))
(.seq (.block 1 (.seq (.reg [Za (mS 10 0),Za (mS 11 3),Za (xS 12 9 10 11),Za (fS 13 12 0),Za (lT 14 3 13),Za (.call 15 [] (.f N1e) [.s 14]),Za (.un 16 .not (.s 15)),Za (mS 17 16),Zb 17 false (mS 18 0),Zb 17 false (mS 19 3),Zb 17 false (xS 20 9 18 19),Zb 17 false (fS 21 20 3),Zb 17 false (lF 22 1 21),Zb 17 false (.call 23 [] (.f N1) [.s 22,.c (.int .i64 0),.c (.int .i64 1000)]),Zb 17 false (.un 24 .not (.s 23)),Za (.pick 25 (.s 17) cT (.s 24)),Za (mS 26 25),Zb 26 false (mS 27 0),Zb 26 false (mS 28 3),Zb 26 false (xS 29 9 27 28),Zb 26 false (fS 30 29 4),Zb 26 false (lT 31 5 30),Zb 26 false (.call 32 [] (.f N1o) [.s 31]),Zb 26 false (.un 33 .not (.s 32)),Za (.pick 34 (.s 26) cT (.s 33))] [0,3,34])
(.cond (.s 34) (Zs [.mv 2 cF] [2] .ret) .skip)))
(pr [mS 8 3,bC 9 .add 8 1,mS 3 9] [0,3]))))))
(Zs [mS 35 0,nS 36 35,bC 37 .leq 36 12,mS 2 37] [2] .ret)))
theorem Ca8(l:List GVersion):Ctr Tryz.prog N8a [aL 9 (l.map GVersion.enc)] [rB (K4j l)]:=by
 refine cA M7t 0 38 [(.tmp 2,[false])] Tryz.func147 rfl rfl ?_;unfold M7t
 intro hb
 simp only[bdA,bdL,bdT,Ky,roomB,and_true,List.length_map]at hb
 have hl:=hb.1
 clear hb
 simp only[go_sem]
 refine K7 l (fun k=>[(3,vI k)]) (fun k=>[]) (fun k=>(l.take k).all K30=true) hl ?_
 simp only[go_sem]
 refine⟨?_,by simp,?_,?_⟩
 ·simp only[go_sem]
 ·intro k x hx hT h0 h1 hw
  have hy:K30 x=true→(l.take (k+1)).all K30=true:=fun hn=>K2e hx hT hn
  have hn:K30 x=false→false=K4j l:=fun hn=>K34 hx hn
  clear hT
  simp only[go_sem,K4 hx,h0,h1]
  repeat' first
   |(refine And.intro ?_ ?_<;>intro h)
   |(apply K0 (C1s _);simp only[go_sem,K4 hx,h0,h1])
   |(apply K0 (C2f _);simp only[go_sem,hw])
   |(apply K0 (C5 _ _ _);simp only[go_sem,K4 hx,h0,h1])
  all_goals first|(apply hy;clear hy hn hx hw;simp_all[K30];done)|(apply hn;clear hy hn hx hw;simp_all[K30];done)|(apply hn;clear hy hn hx hw;unfold K30;rw[decide_eq_false (by assumption)];simp;done)
 ·intro h
  simp only[go_sem]
  rw[List.take_length]at h
  exact K77.trans (K3y h)
end Go.Proofs.YtjneccbpkckdfaaGreatR
namespace Go.Proofs.YtjneccbpkckdfaaGreatR
open Go Go.RowKit Go.Proofs
open Nat (reduceEqDiff reduceLT reduceLeDiff reduceAdd reduceMul)
open List (reduceReplicate)
theorem K2i{K A B C:Int}(hA:0≤A∧A<4)(h:(K=1∧(1≤B∧B≤9)∧(0≤C∧C≤99))∨((K=2∨K=3∨K=4)∧B=0∧C=0)∨(K=5∧(0≤B∧B<4)∧(0≤C∧C<4))∨(K=6∧(0≤B∧B<4)∧C=0)∨(K=7∧(1≤B∧B≤3)∧C=0)∨((K=8∨K=9)∧(0≤B∧B<3)∧C=0)):opOk ⟨K,A,B,C⟩=true:=by
 simp only[opOk,decide_eq_true_eq]
 exact⟨hA,h⟩
section
variable (b:List Int) (i:Nat) (h:Int) (hi:i≤b.length) (hb:byts b)
def M87:MC:=
(Zs [.nilo 2 1 9] [0] (Zs [.lit 5 1 9 88 [],mS 3 5] [0,3] (.seq (Zs [mS 6 0,.callB 7 [] (.f N0) (.s 6) [.c (.int .i64 9)],mS 4 7] [0,3,4] (.block 0 (.loop ([0,3,4],[2,3]) (.seq (Zs [mS 8 4,bC 9 .gtr 8 0] [0,3,4,9] (cX 9 0))
(.seq (.block 1 (pr [mS 12 3,mS 13 0,.callB 14 [] (.f N1z) (.s 13) [],mS 15 0,.callB 16 [] (.f N0) (.s 15) [.c (.int .i64 12)],mS 17 0,.callB 18 [2] (.f N8f) (.s 17) [],.build 19 [pz,pz,pz,pz,pz,.emp 1,pz,pz,pz] [(0,3,.s 14),(3,1,.s 16),(4,5,.s 18)],.lit 20 3 9 88 [.s 19],.app 21 1 9 88 (.s 12) (.s 20),mS 3 21] [0,3,4]))
(pr [mS 10 4,bC 11 .sub 10 1,mS 4 11] [0,3,4]))))))
(Zs [mS 22 3,mS 2 22] [2] .ret))))
include hi hb in
theorem x_l9Draw:∃y:(Nat×Int)×List GVersion,(y.1.1≤b.length∧(y.2.length≤8∧∀v∈y.2,K30 v=true))∧CtrB Tryz.prog N8g (cur b i h) [] (cur b y.1.1 y.1.2) [rL 9 (y.2.map GVersion.enc)]:=by
 refine K13 (M:=M87) (m:=3) (n:=23) (res:=[(.tmp 2,[true])]) rfl hmix Tryz.func361 rfl (by kernel_rfl) rfl (by kernel_rfl) (by kernel_rfl) (Nat.le_of_ble_eq_true rfl) ((i,h),[]) ⟨hi,by simp⟩ ?_;unfold M87
 intro hb1 hb2
 clear hb1 hb2
 simp only[cur]
 simp only[go_sem]
 obtain⟨⟨⟨i1,h1⟩,x1⟩,⟨q1,p1⟩,c1⟩:=K9 b i h 9 hi hb (by omega)
 try dsimp only at q1 p1 c1
 simp only[cur]at c1
 apply K2 c1
 simp only[go_sem]
 refine Ko (ι:=((Nat×Int)×List GVersion)×Nat) (fun t=>[(3,.val false [.ref 1 0 9 0 t.1.2.length]),(4,vI t.2)]) (fun t=>[(0,⟨1,.box [.pl (.sl 1 (b.map encU)),.pl (tI t.1.1.1),.pl (tI t.1.1.2)]⟩),(1,⟨0,.row true 9 (t.1.2.map GVersion.enc)⟩)])
  (fun t=>t.1.1.1≤b.length∧t.1.2.length+t.2≤8∧∀v∈t.1.2,K30 v=true) (fun t=>t.2) (((i1,h1),[]),x1) ?_
 simp only[go_sem]
 refine⟨?_,⟨q1,by show 0+x1≤8;omega,by simp⟩,?_⟩
 ·simp only[go_sem]
 ·rintro ⟨⟨⟨i2,h2⟩,l⟩,n⟩ ⟨a1,a2,a3⟩
  simp only at a1 a2 a3
  simp only[go_sem]
  refine⟨fun k=>?_,fun k=>?_⟩
  ·have hw:IntKind.i64.wrap ((n:Int)-1)=((n-1:Nat):Int):=by rw[wI (by omega) (by omega)];omega
   obtain⟨⟨⟨i3,h3⟩,x3⟩,⟨q3,p3⟩,c3⟩:=K4o b i2 h2 a1 hb
   try dsimp only at q3 p3 c3
   simp only[cur]at c3
   apply K2 c3
   simp only[go_sem]
   obtain⟨⟨⟨i4,h4⟩,x4⟩,⟨q4,p4⟩,c4⟩:=K9 b i3 h3 12 q3 hb (by omega)
   try dsimp only at q4 p4 c4
   simp only[cur]at c4
   apply K2 c4
   simp only[go_sem]
   obtain⟨⟨⟨i5,h5⟩,x5⟩,⟨q5,p5⟩,c5⟩:=x_l5Draw b i4 h4 q4 hb
   try dsimp only at q5 p5 c5
   simp only[cur]at c5
   apply K2 c5
   simp only[go_sem,hw]
   intros
   refine⟨by decide,by simp only[roomB];omega,(((i5,h5),l++[⟨x3,x4,x5⟩]),n-1),by simp[GVersion.enc],⟨q5,by simp;omega,?_⟩,by simp only;omega⟩
   intro v hv
   rcases List.mem_append.1 hv with hv|hv
   ·exact a3 v hv
   ·rw[List.mem_singleton.1 hv]
    have hx:0≤(x4:Int)∧(x4:Int)≤1000:=by omega
    simp only[K30,p3,p5,decide_eq_true hx,Bool.and_self]
  ·refine K8 ((i2,h2),l) ⟨a1,Nat.le_trans (Nat.le_add_right _ _) a2,a3⟩ ?_
   simp only[go_sem]
def M8x:MC:=
(Zs [.alloc 2 1 [pz,pz,pz,pz]] [0,2] (Zs [mS 4 0,.callB 5 [] (.f N0) (.s 4) [.c (.int .i64 9)],.bin 6 false .add (ci 1) (.s 5),mS 7 0,.callB 8 [] (.f N0) (.s 7) [.c (.int .i64 3)],.build 9 [pz,pz,pz,pz] [(0,1,.s 6),(1,1,.s 8)],.alloc 3 2 [pz,pz,pz,pz],sS 4 3 9] [0,2,3] (.seq (Zs [mS 10 0,.callB 11 [] (.f N4y) (.s 10) [.c (.int .i64 3)]] [0,2,3,11] (.cond (.s 11) (pr [fS 12 3 0,.store 1 (.s 12) (ci 1)] [0,2,3]) .skip))
(.seq (Zs [fS 13 3 0,lF 14 1 13] [0,2,3,14] (.block 0 (Zs [bC 16 .eql 14 1,mS 15 16] [0,2,3,14,15] (.cond (.s 15) (Zs [mS 17 0,.callB 18 [] (.f N0) (.s 17) [.c (.int .i64 3)],.bin 19 false .add (ci 1) (.s 18),fS 20 3 2,sS 1 20 19] [0,2,3] (pr [mS 21 0,.callB 22 [] (.f N0) (.s 21) [.c (.int .i64 3)],fS 23 3 3,sS 1 23 22] [2,3])) (Zs [bC 25 .eql 14 5,mS 24 25] [0,2,3,14,24] (.cond (.s 24) (Zs [mS 26 0,.callB 27 [] (.f N0) (.s 26) [.c (.int .i64 4)],fS 28 3 2,sS 1 28 27] [0,2,3] (pr [mS 29 0,.callB 30 [] (.f N0) (.s 29) [.c (.int .i64 4)],fS 31 3 3,sS 1 31 30] [2,3])) (Zs [bC 33 .eql 14 6,mS 32 33] [0,2,3,14,32] (.cond (.s 32) (pr [mS 34 0,.callB 35 [] (.f N0) (.s 34) [.c (.int .i64 4)],fS 36 3 2,sS 1 36 35] [2,3]) (Zs [bC 38 .eql 14 7,mS 37 38] [0,2,3,14,37] (.cond (.s 37) (pr [mS 39 0,.callB 40 [] (.f N0) (.s 39) [.c (.int .i64 3)],.bin 41 false .add (ci 1) (.s 40),fS 42 3 2,sS 1 42 41] [2,3]) (.seq (Zs [bC 44 .eql 14 8,mS 43 44] [0,2,3,14,43] (.cond (.s 43) .skip (pr [bC 45 .eql 14 9,mS 43 45] [0,2,3,43])))
(.cond (.s 43) (pr [mS 46 0,.callB 47 [] (.f N0) (.s 46) [.c (.int .i64 3)],fS 48 3 2,sS 1 48 47] [2,3]) .skip))))))))))))
(Zs [lT 49 4 3,sS 4 2 49] [2] .ret)))))
include hi hb in
theorem x_l10Op:∃y:(Nat×Int)×GOp,(y.1.1≤b.length∧opOk y.2=true)∧CtrB Tryz.prog N94 (cur b i h) [] (cur b y.1.1 y.1.2) [rS y.2.enc]:=by
 refine K13 (M:=M8x) (m:=2) (n:=50) (res:=[(.cell 2 true 4,[false,false,false,false])]) rfl hmix Tryz.func360 rfl (by kernel_rfl) rfl (by kernel_rfl) (by kernel_rfl) (Nat.le_of_ble_eq_true rfl) ((i,h),⟨2,0,0,0⟩) ⟨hi,rfl⟩ ?_;unfold M8x
 intro hb1 hb2
 clear hb1 hb2
 simp only[cur]
 simp only[go_sem]
 obtain⟨⟨⟨i1,h1⟩,x1⟩,⟨q1,p1⟩,c1⟩:=K9 b i h 9 hi hb (by omega)
 try dsimp only at q1 p1 c1
 simp only[cur]at c1
 apply K2 c1
 simp only[go_sem]
 obtain⟨⟨⟨i2,h2⟩,x2⟩,⟨q2,p2⟩,c2⟩:=K9 b i1 h1 3 q1 hb (by omega)
 try dsimp only at q2 p2 c2
 simp only[cur]at c2
 apply K2 c2
 simp only[go_sem]
 have w1:IntKind.i64.wrap (1+(x1:Int))=((1+x1:Nat):Int):=by rw[wI (by omega) (by omega)];omega
 simp only[w1]
 obtain⟨⟨⟨i3,h3⟩,x3⟩,⟨q3,p3⟩,c3⟩:=Kb8 b i2 h2 3 q2 hb (by omega)
 try dsimp only at q3 p3 c3
 simp only[cur]at c3
 apply K2 c3
 simp only[go_sem]
 refine⟨fun k=>?_,fun k=>?_⟩
 ·obtain⟨⟨⟨i4,h4⟩,x4⟩,⟨q4,p4⟩,c4⟩:=K9 b i3 h3 3 q3 hb (by omega)
  try dsimp only at q4 p4 c4
  simp only[cur]at c4
  apply K2 c4
  simp only[go_sem]
  have w4:IntKind.i64.wrap (1+(x4:Int))=((1+x4:Nat):Int):=by rw[wI (by omega) (by omega)];omega
  simp only[w4]
  obtain⟨⟨⟨i5,h5⟩,x5⟩,⟨q5,p5⟩,c5⟩:=K9 b i4 h4 3 q4 hb (by omega)
  try dsimp only at q5 p5 c5
  simp only[cur]at c5
  apply K2 c5
  simp only[go_sem]
  refine K8 ((i5,h5),⟨1,x2,((1+x4:Nat):Int),x5⟩) ⟨q5,K2i (by omega) (by omega)⟩ ?_
  simp only[go_sem]
 ·obtain⟨K,hK⟩:∃K:Int,K=((1+x1:Nat):Int):=⟨_,rfl⟩
  rw[←hK]
  have hKr:K=1∨K=2∨K=3∨K=4∨K=5∨K=6∨K=7∨K=8∨K=9:=by omega
  clear hK
  rcases hKr with rfl|rfl|rfl|rfl|rfl|rfl|rfl|rfl|rfl
  all_goals (simp only[go_sem,Int.reduceEq])
  ·obtain⟨⟨⟨i4,h4⟩,x4⟩,⟨q4,p4⟩,c4⟩:=K9 b i3 h3 3 q3 hb (by omega)
   try dsimp only at q4 p4 c4
   simp only[cur]at c4
   apply K2 c4
   simp only[go_sem]
   have w4:IntKind.i64.wrap (1+(x4:Int))=((1+x4:Nat):Int):=by rw[wI (by omega) (by omega)];omega
   simp only[w4]
   obtain⟨⟨⟨i5,h5⟩,x5⟩,⟨q5,p5⟩,c5⟩:=K9 b i4 h4 3 q4 hb (by omega)
   try dsimp only at q5 p5 c5
   simp only[cur]at c5
   apply K2 c5
   simp only[go_sem]
   refine K8 ((i5,h5),⟨1,x2,((1+x4:Nat):Int),x5⟩) ⟨q5,K2i (by omega) (by omega)⟩ ?_
   simp only[go_sem]
  ·refine K8 ((i3,h3),⟨2,x2,0,0⟩) ⟨q3,K2i (by omega) (by omega)⟩ ?_
   simp only[go_sem]
  ·refine K8 ((i3,h3),⟨3,x2,0,0⟩) ⟨q3,K2i (by omega) (by omega)⟩ ?_
   simp only[go_sem]
  ·refine K8 ((i3,h3),⟨4,x2,0,0⟩) ⟨q3,K2i (by omega) (by omega)⟩ ?_
   simp only[go_sem]
  ·obtain⟨⟨⟨i4,h4⟩,x4⟩,⟨q4,p4⟩,c4⟩:=K9 b i3 h3 4 q3 hb (by omega)
   try dsimp only at q4 p4 c4
   simp only[cur]at c4
   apply K2 c4
   simp only[go_sem]
   obtain⟨⟨⟨i5,h5⟩,x5⟩,⟨q5,p5⟩,c5⟩:=K9 b i4 h4 4 q4 hb (by omega)
   try dsimp only at q5 p5 c5
   simp only[cur]at c5
   apply K2 c5
   simp only[go_sem]
   refine K8 ((i5,h5),⟨5,x2,x4,x5⟩) ⟨q5,K2i (by omega) (by omega)⟩ ?_
   simp only[go_sem]
  ·obtain⟨⟨⟨i4,h4⟩,x4⟩,⟨q4,p4⟩,c4⟩:=K9 b i3 h3 4 q3 hb (by omega)
   try dsimp only at q4 p4 c4
   simp only[cur]at c4
   apply K2 c4
   simp only[go_sem]
   refine K8 ((i4,h4),⟨6,x2,x4,0⟩) ⟨q4,K2i (by omega) (by omega)⟩ ?_
   simp only[go_sem]
  ·obtain⟨⟨⟨i4,h4⟩,x4⟩,⟨q4,p4⟩,c4⟩:=K9 b i3 h3 3 q3 hb (by omega)
   try dsimp only at q4 p4 c4
   simp only[cur]at c4
   apply K2 c4
   simp only[go_sem]
   have w4:IntKind.i64.wrap (1+(x4:Int))=((1+x4:Nat):Int):=by rw[wI (by omega) (by omega)];omega
   simp only[w4]
   refine K8 ((i4,h4),⟨7,x2,((1+x4:Nat):Int),0⟩) ⟨q4,K2i (by omega) (by omega)⟩ ?_
   simp only[go_sem]
  ·obtain⟨⟨⟨i4,h4⟩,x4⟩,⟨q4,p4⟩,c4⟩:=K9 b i3 h3 3 q3 hb (by omega)
   try dsimp only at q4 p4 c4
   simp only[cur]at c4
   apply K2 c4
   simp only[go_sem]
   refine K8 ((i4,h4),⟨8,x2,x4,0⟩) ⟨q4,K2i (by omega) (by omega)⟩ ?_
   simp only[go_sem]
  ·obtain⟨⟨⟨i4,h4⟩,x4⟩,⟨q4,p4⟩,c4⟩:=K9 b i3 h3 3 q3 hb (by omega)
   try dsimp only at q4 p4 c4
   simp only[cur]at c4
   apply K2 c4
   simp only[go_sem]
   refine K8 ((i4,h4),⟨9,x2,x4,0⟩) ⟨q4,K2i (by omega) (by omega)⟩ ?_
   simp only[go_sem]
def M6z:MC:=
(Zs [.nilo 2 1 4] [0] (Zs [.lit 5 1 4 32 [],mS 3 5] [0,3] (.seq (Zs [mS 6 0,.callB 7 [] (.f N0) (.s 6) [.c (.int .i64 13)],mS 4 7] [0,3,4] (.block 0 (.loop ([0,3,4],[2]) (.seq (Zs [mS 8 4,bC 9 .gtr 8 0] [0,3,4,9] (cX 9 0))
(.seq (.block 1 (pr [mS 12 3,mS 13 0,.callB 14 [] (.f N94) (.s 13) [],.lit 15 2 4 32 [.s 14],.app 16 1 4 32 (.s 12) (.s 15),mS 3 16] [0,3,4]))
(pr [mS 10 4,bC 11 .sub 10 1,mS 4 11] [0,3,4]))))))
(Zs [mS 17 3,mS 2 17] [2] .ret))))
include hi hb in
theorem Ka0:∃y:(Nat×Int)×List GOp,(y.1.1≤b.length∧(y.2.length≤12∧∀v∈y.2,opOk v=true))∧CtrB Tryz.prog N48 (cur b i h) [] (cur b y.1.1 y.1.2) [rL 4 (y.2.map GOp.enc)]:=by
 refine K13 (M:=M6z) (m:=2) (n:=18) (res:=[(.tmp 2,[true])]) rfl hmix Tryz.func307 rfl (by kernel_rfl) rfl (by kernel_rfl) (by kernel_rfl) (Nat.le_of_ble_eq_true rfl) ((i,h),[]) ⟨hi,by simp⟩ ?_;unfold M6z
 intro hb1 hb2
 clear hb1 hb2
 simp only[cur]
 simp only[go_sem]
 obtain⟨⟨⟨i1,h1⟩,x1⟩,⟨q1,p1⟩,c1⟩:=K9 b i h 13 hi hb (by omega)
 try dsimp only at q1 p1 c1
 simp only[cur]at c1
 apply K2 c1
 simp only[go_sem]
 refine Ko (ι:=((Nat×Int)×List GOp)×Nat) (fun t=>[(3,.val false [.ref 1 0 4 0 t.1.2.length]),(4,vI t.2)]) (fun t=>[(0,⟨1,.box [.pl (.sl 1 (b.map encU)),.pl (tI t.1.1.1),.pl (tI t.1.1.2)]⟩),(1,⟨0,.row true 4 (t.1.2.map GOp.enc)⟩)])
  (fun t=>t.1.1.1≤b.length∧t.1.2.length+t.2≤12∧∀v∈t.1.2,opOk v=true) (fun t=>t.2) (((i1,h1),[]),x1) ?_
 simp only[go_sem]
 refine⟨?_,⟨q1,by show 0+x1≤12;omega,by simp⟩,?_⟩
 ·simp only[go_sem]
 ·rintro ⟨⟨⟨i2,h2⟩,l⟩,n⟩ ⟨a1,a2,a3⟩
  simp only at a1 a2 a3
  simp only[go_sem]
  refine⟨fun k=>?_,fun k=>?_⟩
  ·have hw:IntKind.i64.wrap ((n:Int)-1)=((n-1:Nat):Int):=by rw[wI (by omega) (by omega)];omega
   obtain⟨⟨⟨i3,h3⟩,x3⟩,⟨q3,p3⟩,c3⟩:=x_l10Op b i2 h2 a1 hb
   try dsimp only at q3 p3 c3
   simp only[cur]at c3
   apply K2 c3
   simp only[go_sem,hw]
   intros
   refine⟨by decide,by simp only[roomB];omega,(((i3,h3),l++[x3]),n-1),by simp[GOp.enc],⟨q3,by simp;omega,?_⟩,by simp only;omega⟩
   intro v hv
   rcases List.mem_append.1 hv with hv|hv
   ·exact a3 v hv
   ·rw[List.mem_singleton.1 hv];exact p3
  ·refine K8 ((i2,h2),l) ⟨a1,Nat.le_trans (Nat.le_add_right _ _) a2,a3⟩ ?_
   simp only[go_sem]
end
end Go.Proofs.YtjneccbpkckdfaaGreatR
namespace Go.Proofs.YtjneccbpkckdfaaGreatR
open Go Go.RowKit Go.Proofs
open Nat (reduceEqDiff reduceLT reduceLeDiff reduceAdd reduceMul)
open List (reduceReplicate)
def mkL{α:Type}(mk:α→Int→α)(c:α→Nat):List α→Int→List α
 | [],_=>[]
 |x::l,k=>mk x k::mkL mk c l (k+(c x:Nat))
def ctL{α:Type}(c:α→Nat)(l:List α):Nat:=(l.map c).sum
def iMk(_:Int)(k:Int):Int:=k
def iCt(_:Int):Nat:=1
def bMk(_:Bool)(k:Int):Bool:=k.tmod 3==0
section
variable {α:Type} {mk:α→Int→α} {c:α→Nat} {l:List α} {k:Int} {i:Nat} {x:α} {f:α→List T}
theorem Kh:∀ {l:List α} {k:Int},(mkL mk c l k).length=l.length
 | [],_=>rfl
 |x::l,k=>by simp[mkL,Kh (l:=l)]
theorem K37{sz:Nat}{es:List α}{rs:List RV}(h:bdVA (oL sz (es.map f)::rs)):es.length≤roomB:=by
 simp only[bdVA,List.map_cons,bdL,bdT,List.length_map]at h
 exact h.1.1.1
end
abbrev oS(ts:List T):RV:=⟨true,own ts⟩
attribute [go_sem] oS
attribute [go_sem] Kh
def GAddress.mkd(x:GAddress)(k:Int):GAddress:=⟨k,(k+1),(k+2)⟩
def GAddress.ct(x:GAddress):Nat:=3
def GResource.mkd(x:GResource)(k:Int):GResource:=⟨k,(mkL iMk iCt x.Body (k+1)),⟨((k+1)+(ctL iCt x.Body:Nat)),(((k+1)+(ctL iCt x.Body:Nat))+1),(((k+1)+(ctL iCt x.Body:Nat))+2)⟩⟩
def GResource.ct(x:GResource):Nat:=4+ctL iCt x.Body
def GResource.mks(x:GResource)(k:Int):GResource:={x with Body:=mkL iMk iCt x.Body (k)}
def GResource.cts(x:GResource):Nat:=ctL iCt x.Body
@[go_sem] theorem GResource.mks_len0 (x:GResource) (k:Int):((x.mks k).Body).length=x.Body.length:=Kh
def GPart.mkd(x:GPart)(k:Int):GPart:=⟨k,⟨(k+1),(mkL iMk iCt x.Resource.Body (k+2)),⟨((k+2)+(ctL iCt x.Resource.Body:Nat)),(((k+2)+(ctL iCt x.Resource.Body:Nat))+1),(((k+2)+(ctL iCt x.Resource.Body:Nat))+2)⟩⟩,(((k+2)+(ctL iCt x.Resource.Body:Nat))+3)⟩
def GPart.ct(x:GPart):Nat:=6+ctL iCt x.Resource.Body
def GPart.mks(x:GPart)(k:Int):GPart:={x with Resource:=x.Resource.mks (k)}
def GPart.cts(x:GPart):Nat:=x.Resource.cts
@[go_sem] theorem GPart.mks_len0 (x:GPart) (k:Int):((x.mks k).Resource.Body).length=x.Resource.Body.length:=Kh
def GPiece.mkd(x:GPiece)(k:Int):GPiece:=⟨k,(k+1),(mkL iMk iCt x.New (k+2))⟩
def GPiece.ct(x:GPiece):Nat:=2+ctL iCt x.New
def GPiece.mks(x:GPiece)(k:Int):GPiece:={x with New:=mkL iMk iCt x.New (k)}
def GPiece.cts(x:GPiece):Nat:=ctL iCt x.New
@[go_sem] theorem GPiece.mks_len0 (x:GPiece) (k:Int):((x.mks k).New).length=x.New.length:=Kh
def GVersion.mkd(x:GVersion)(k:Int):GVersion:=⟨⟨k,(k+1),(k+2)⟩,(k+3),⟨(k+4),(mkL iMk iCt x.Resource.Body (k+5)),⟨((k+5)+(ctL iCt x.Resource.Body:Nat)),(((k+5)+(ctL iCt x.Resource.Body:Nat))+1),(((k+5)+(ctL iCt x.Resource.Body:Nat))+2)⟩⟩⟩
def GVersion.ct(x:GVersion):Nat:=8+ctL iCt x.Resource.Body
def GVersion.mks(x:GVersion)(k:Int):GVersion:={x with Resource:=x.Resource.mks (k)}
def GVersion.cts(x:GVersion):Nat:=x.Resource.cts
@[go_sem] theorem GVersion.mks_len0 (x:GVersion) (k:Int):((x.mks k).Resource.Body).length=x.Resource.Body.length:=Kh
def GOp.mkd(x:GOp)(k:Int):GOp:=⟨k,(k+1),(k+2),(k+3)⟩
def GOp.ct(x:GOp):Nat:=4
def GState.mkd(x:GState)(k:Int):GState:=⟨k,(mkL iMk iCt x.Regs (k+1)),(mkL iMk iCt x.Slots ((k+1)+(ctL iCt x.Regs:Nat))),(mkL iMk iCt x.Nodes (((k+1)+(ctL iCt x.Regs:Nat))+(ctL iCt x.Slots:Nat)))⟩
def GState.ct(x:GState):Nat:=1+ctL iCt x.Regs+ctL iCt x.Slots+ctL iCt x.Nodes
def GState.mks(x:GState)(k:Int):GState:={x with Regs:=mkL iMk iCt x.Regs (k),Slots:=mkL iMk iCt x.Slots (k+(ctL iCt x.Regs:Nat)),Nodes:=mkL iMk iCt x.Nodes (k+(ctL iCt x.Regs:Nat)+(ctL iCt x.Slots:Nat))}
def GState.cts(x:GState):Nat:=ctL iCt x.Regs+ctL iCt x.Slots+ctL iCt x.Nodes
@[go_sem] theorem GState.mks_len0 (x:GState) (k:Int):((x.mks k).Regs).length=x.Regs.length:=Kh
@[go_sem] theorem GState.mks_len1 (x:GState) (k:Int):((x.mks k).Slots).length=x.Slots.length:=Kh
@[go_sem] theorem GState.mks_len2 (x:GState) (k:Int):((x.mks k).Nodes).length=x.Nodes.length:=Kh
def GWant.mkd(x:GWant)(k:Int):GWant:=⟨k,⟨(k+1),(k+2),(k+3)⟩⟩
def GWant.ct(x:GWant):Nat:=4
def GEntry.mkd(x:GEntry)(k:Int):GEntry:=⟨k,⟨(k+1),(k+2),(k+3)⟩,(k+4)⟩
def GEntry.ct(x:GEntry):Nat:=5
def GCapture.mkd(x:GCapture)(k:Int):GCapture:=⟨⟨k,(k+1),(k+2)⟩,(k+3),⟨(k+4),(mkL iMk iCt x.Resource.Body (k+5)),⟨((k+5)+(ctL iCt x.Resource.Body:Nat)),(((k+5)+(ctL iCt x.Resource.Body:Nat))+1),(((k+5)+(ctL iCt x.Resource.Body:Nat))+2)⟩⟩⟩
def GCapture.ct(x:GCapture):Nat:=8+ctL iCt x.Resource.Body
def GCapture.mks(x:GCapture)(k:Int):GCapture:={x with Resource:=x.Resource.mks (k)}
def GCapture.cts(x:GCapture):Nat:=x.Resource.cts
@[go_sem] theorem GCapture.mks_len0 (x:GCapture) (k:Int):((x.mks k).Resource.Body).length=x.Resource.Body.length:=Kh
def GChoice.mkd(x:GChoice)(k:Int):GChoice:=⟨k,(k+1)⟩
def GChoice.ct(x:GChoice):Nat:=2
def GWander.mks(x:GWander)(k:Int):GWander:={x with State:=x.State.mks (k),Choices:=mkL GChoice.mkd GChoice.ct x.Choices (k+(x.State.cts:Nat)),Labels:=mkL iMk iCt x.Labels (k+(x.State.cts:Nat)+(ctL GChoice.ct x.Choices:Nat))}
def GWander.cts(x:GWander):Nat:=x.State.cts+ctL GChoice.ct x.Choices+ctL iCt x.Labels
@[go_sem] theorem GWander.mks_len0 (x:GWander) (k:Int):((x.mks k).State.Regs).length=x.State.Regs.length:=Kh
@[go_sem] theorem GWander.mks_len1 (x:GWander) (k:Int):((x.mks k).State.Slots).length=x.State.Slots.length:=Kh
@[go_sem] theorem GWander.mks_len2 (x:GWander) (k:Int):((x.mks k).State.Nodes).length=x.State.Nodes.length:=Kh
@[go_sem] theorem GWander.mks_len3 (x:GWander) (k:Int):((x.mks k).Choices).length=x.Choices.length:=Kh
@[go_sem] theorem GWander.mks_len4 (x:GWander) (k:Int):((x.mks k).Labels).length=x.Labels.length:=Kh
def GModel.mkd(x:GModel)(k:Int):GModel:=⟨k,(k+1),(k+2),(bMk x.Fits (k+3))⟩
def GModel.ct(x:GModel):Nat:=4
def GShown.mkd(x:GShown)(k:Int):GShown:=⟨k,⟨(k+1),(k+2),(k+3)⟩⟩
def GShown.ct(x:GShown):Nat:=4
def GLeaf.mkd(x:GLeaf)(k:Int):GLeaf:=⟨k,(k+1),(bMk x.Hidden (k+2)),(k+3)⟩
def GLeaf.ct(x:GLeaf):Nat:=4
def GEdition.mks(x:GEdition)(k:Int):GEdition:={x with Captures:=mkL GCapture.mkd GCapture.ct x.Captures (k),Hidden:=mkL GAddress.mkd GAddress.ct x.Hidden (k+(ctL GCapture.ct x.Captures:Nat))}
def GEdition.cts(x:GEdition):Nat:=ctL GCapture.ct x.Captures+ctL GAddress.ct x.Hidden
@[go_sem] theorem GEdition.mks_len0 (x:GEdition) (k:Int):((x.mks k).Captures).length=x.Captures.length:=Kh
@[go_sem] theorem GEdition.mks_len1 (x:GEdition) (k:Int):((x.mks k).Hidden).length=x.Hidden.length:=Kh
def GExclusion.mkd(x:GExclusion)(k:Int):GExclusion:=⟨k,(k+1),(k+2),(k+3),(k+4)⟩
def GExclusion.ct(x:GExclusion):Nat:=5
def GStatement.mkd(x:GStatement)(k:Int):GStatement:=⟨k,(k+1),(k+2),(k+3)⟩
def GStatement.ct(x:GStatement):Nat:=4
def GLibrary.mkd(x:GLibrary)(k:Int):GLibrary:=⟨k,(mkL iMk iCt x.Digests (k+1)),(bMk x.Up ((k+1)+(ctL iCt x.Digests:Nat))),(bMk x.Lies (((k+1)+(ctL iCt x.Digests:Nat))+1))⟩
def GLibrary.ct(x:GLibrary):Nat:=3+ctL iCt x.Digests
def GLibrary.mks(x:GLibrary)(k:Int):GLibrary:={x with Digests:=mkL iMk iCt x.Digests (k)}
def GLibrary.cts(x:GLibrary):Nat:=ctL iCt x.Digests
@[go_sem] theorem GLibrary.mks_len0 (x:GLibrary) (k:Int):((x.mks k).Digests).length=x.Digests.length:=Kh
def GContainer.mkd(x:GContainer)(k:Int):GContainer:=⟨(mkL GOp.mkd GOp.ct x.Script k),(mkL GEntry.mkd GEntry.ct x.Entries (k+(ctL GOp.ct x.Script:Nat))),(mkL GCapture.mkd GCapture.ct x.Captures ((k+(ctL GOp.ct x.Script:Nat))+(ctL GEntry.ct x.Entries:Nat))),(((k+(ctL GOp.ct x.Script:Nat))+(ctL GEntry.ct x.Entries:Nat))+(ctL GCapture.ct x.Captures:Nat))⟩
def GContainer.ct(x:GContainer):Nat:=1+ctL GOp.ct x.Script+ctL GEntry.ct x.Entries+ctL GCapture.ct x.Captures
def GContainer.mks(x:GContainer)(k:Int):GContainer:={x with Script:=mkL GOp.mkd GOp.ct x.Script (k),Entries:=mkL GEntry.mkd GEntry.ct x.Entries (k+(ctL GOp.ct x.Script:Nat)),Captures:=mkL GCapture.mkd GCapture.ct x.Captures (k+(ctL GOp.ct x.Script:Nat)+(ctL GEntry.ct x.Entries:Nat))}
def GContainer.cts(x:GContainer):Nat:=ctL GOp.ct x.Script+ctL GEntry.ct x.Entries+ctL GCapture.ct x.Captures
@[go_sem] theorem GContainer.mks_len0 (x:GContainer) (k:Int):((x.mks k).Script).length=x.Script.length:=Kh
@[go_sem] theorem GContainer.mks_len1 (x:GContainer) (k:Int):((x.mks k).Entries).length=x.Entries.length:=Kh
@[go_sem] theorem GContainer.mks_len2 (x:GContainer) (k:Int):((x.mks k).Captures).length=x.Captures.length:=Kh
def GFound.mkd(x:GFound)(k:Int):GFound:=⟨⟨k,(k+1),(k+2)⟩,(k+3),(k+4),(k+5)⟩
def GFound.ct(x:GFound):Nat:=6
def GDisk.mks(x:GDisk)(k:Int):GDisk:={x with Containers:=mkL GContainer.mkd GContainer.ct x.Containers (k),Index:=mkL GFound.mkd GFound.ct x.Index (k+(ctL GContainer.ct x.Containers:Nat)),Wanted:=mkL GContainer.mkd GContainer.ct x.Wanted (k+(ctL GContainer.ct x.Containers:Nat)+(ctL GFound.ct x.Index:Nat))}
def GDisk.cts(x:GDisk):Nat:=ctL GContainer.ct x.Containers+ctL GFound.ct x.Index+ctL GContainer.ct x.Wanted
@[go_sem] theorem GDisk.mks_len0 (x:GDisk) (k:Int):((x.mks k).Containers).length=x.Containers.length:=Kh
@[go_sem] theorem GDisk.mks_len1 (x:GDisk) (k:Int):((x.mks k).Index).length=x.Index.length:=Kh
@[go_sem] theorem GDisk.mks_len2 (x:GDisk) (k:Int):((x.mks k).Wanted).length=x.Wanted.length:=Kh
def GArchive.mks(x:GArchive)(k:Int):GArchive:={x with Site:=mkL GVersion.mkd GVersion.ct x.Site (k),Script:=mkL GOp.mkd GOp.ct x.Script (k+(ctL GVersion.ct x.Site:Nat)),Disk:=x.Disk.mks (k+(ctL GVersion.ct x.Site:Nat)+(ctL GOp.ct x.Script:Nat)),Exclusions:=mkL GExclusion.mkd GExclusion.ct x.Exclusions (k+(ctL GVersion.ct x.Site:Nat)+(ctL GOp.ct x.Script:Nat)+(x.Disk.cts:Nat)),Libraries:=mkL GLibrary.mkd GLibrary.ct x.Libraries (k+(ctL GVersion.ct x.Site:Nat)+(ctL GOp.ct x.Script:Nat)+(x.Disk.cts:Nat)+(ctL GExclusion.ct x.Exclusions:Nat)),Keys:=mkL iMk iCt x.Keys (k+(ctL GVersion.ct x.Site:Nat)+(ctL GOp.ct x.Script:Nat)+(x.Disk.cts:Nat)+(ctL GExclusion.ct x.Exclusions:Nat)+(ctL GLibrary.ct x.Libraries:Nat)),Statements:=mkL GStatement.mkd GStatement.ct x.Statements (k+(ctL GVersion.ct x.Site:Nat)+(ctL GOp.ct x.Script:Nat)+(x.Disk.cts:Nat)+(ctL GExclusion.ct x.Exclusions:Nat)+(ctL GLibrary.ct x.Libraries:Nat)+(ctL iCt x.Keys:Nat))}
def GArchive.cts(x:GArchive):Nat:=ctL GVersion.ct x.Site+ctL GOp.ct x.Script+x.Disk.cts+ctL GExclusion.ct x.Exclusions+ctL GLibrary.ct x.Libraries+ctL iCt x.Keys+ctL GStatement.ct x.Statements
@[go_sem] theorem GArchive.mks_len0 (x:GArchive) (k:Int):((x.mks k).Site).length=x.Site.length:=Kh
@[go_sem] theorem GArchive.mks_len1 (x:GArchive) (k:Int):((x.mks k).Script).length=x.Script.length:=Kh
@[go_sem] theorem GArchive.mks_len2 (x:GArchive) (k:Int):((x.mks k).Disk.Containers).length=x.Disk.Containers.length:=Kh
@[go_sem] theorem GArchive.mks_len3 (x:GArchive) (k:Int):((x.mks k).Disk.Index).length=x.Disk.Index.length:=Kh
@[go_sem] theorem GArchive.mks_len4 (x:GArchive) (k:Int):((x.mks k).Disk.Wanted).length=x.Disk.Wanted.length:=Kh
@[go_sem] theorem GArchive.mks_len5 (x:GArchive) (k:Int):((x.mks k).Exclusions).length=x.Exclusions.length:=Kh
@[go_sem] theorem GArchive.mks_len6 (x:GArchive) (k:Int):((x.mks k).Libraries).length=x.Libraries.length:=Kh
@[go_sem] theorem GArchive.mks_len7 (x:GArchive) (k:Int):((x.mks k).Keys).length=x.Keys.length:=Kh
@[go_sem] theorem GArchive.mks_len8 (x:GArchive) (k:Int):((x.mks k).Statements).length=x.Statements.length:=Kh
def GChange.mkd(x:GChange)(k:Int):GChange:=⟨k,(k+1)⟩
def GChange.ct(x:GChange):Nat:=2
def GPlayed.mks(x:GPlayed)(k:Int):GPlayed:={x with State:=x.State.mks (k)}
def GPlayed.cts(x:GPlayed):Nat:=x.State.cts
@[go_sem] theorem GPlayed.mks_len0 (x:GPlayed) (k:Int):((x.mks k).State.Regs).length=x.State.Regs.length:=Kh
@[go_sem] theorem GPlayed.mks_len1 (x:GPlayed) (k:Int):((x.mks k).State.Slots).length=x.State.Slots.length:=Kh
@[go_sem] theorem GPlayed.mks_len2 (x:GPlayed) (k:Int):((x.mks k).State.Nodes).length=x.State.Nodes.length:=Kh
end Go.Proofs.YtjneccbpkckdfaaGreatR
namespace Go.Proofs.YtjneccbpkckdfaaGreatR
namespace Srt
structure Swo {α:Type} (lt:α→α→Bool):Prop where
 asy:∀x y,lt x y=true→lt y x=false
 neg:∀x y z,lt x z=true→lt x y=true∨lt y z=true
variable {α:Type} {lt:α→α→Bool}
theorem Swo.tr(h:Swo lt){x y z:α}(h1:lt x y=true)(h2:lt y z=true):lt x z=true:=by
 rcases h.neg x z y h1 with k|k
 ·exact k
 ·rw[h.asy y z h2]at k;cases k
theorem Swo.ntr(h:Swo lt){x y z:α}(h1:lt x y=false)(h2:lt y z=false):lt x z=false:=by
 cases k:lt x z
 ·rfl
 ·rcases h.neg x y z k with k|k<;>simp_all
theorem Swo.irr(h:Swo lt)(x:α):lt x x=false:=by
 cases k:lt x x
 ·rfl
 ·have:=h.asy x x k;simp_all
theorem Swo.lf(h:Swo lt){x y z:α}(h1:lt x y=true)(h2:lt z y=false):lt x z=true:=by
 rcases h.neg x z y h1 with k|k<;>simp_all
theorem Swo.fl(h:Swo lt){x y z:α}(h1:lt y x=false)(h2:lt y z=true):lt x z=true:=by
 rcases h.neg y x z h2 with k|k<;>simp_all
variable (lt)
def ins(x:α):List α→List α
 | []=>[x]
 |z::zs=>if lt x z then x::z::zs else z::ins x zs
def mrg(A B:List α):List α:=B.foldl (fun acc x=>ins lt x acc) A
def isort(l:List α):List α:=mrg lt [] l
def srt(l:List α):Prop:=l.Pairwise fun x y=>lt y x=false
variable {lt}
theorem K93{x y:α}:∀ {l:List α},y∈ins lt x l↔y=x∨y∈l
 | []=>by simp[ins]
 |z::zs=>by
  simp only[ins]
  split
  ·simp
  ·rw[List.mem_cons,K93,List.mem_cons]
   constructor<;>rintro (h|h|h)<;>simp[h]
theorem len_ins{x:α}:∀ {l:List α},(ins lt x l).length=l.length+1
 | []=>rfl
 |z::zs=>by
  simp only[ins]
  split
  ·rfl
  ·simp[len_ins]
theorem mrg_nil{A:List α}:mrg lt A []=A:=rfl
theorem K26{A B:List α}{x:α}:mrg lt A (x::B)=mrg lt (ins lt x A) B:=rfl
theorem K2p{A B C:List α}:mrg lt A (B++C)=mrg lt (mrg lt A B) C:=List.foldl_append
theorem mem_mrg{y:α}:∀ {B A:List α},y∈mrg lt A B↔y∈A∨y∈B
 | [],A=>by simp[mrg_nil]
 |x::B,A=>by
  rw[K26,mem_mrg,K93,List.mem_cons]
  exact⟨fun h=>h.elim (fun h=>h.elim (fun h=> .inr (.inl h)) .inl) (fun h=> .inr (.inr h)),fun h=>h.elim (fun h=> .inl (.inr h)) (fun h=>h.elim (fun h=> .inl (.inl h)) .inr)⟩
theorem len_mrg:∀ {B A:List α},(mrg lt A B).length=A.length+B.length
 | [],A=>rfl
 |x::B,A=>by
  rw[K26,len_mrg,len_ins,List.length_cons];omega
theorem len_isort{l:List α}:(isort lt l).length=l.length:=by
 unfold isort;rw[len_mrg];simp
theorem Kan(h:Swo lt){x y:α}(hxy:lt x y=true):∀(A:List α),ins lt y (ins lt x A)=ins lt x (ins lt y A)
 | []=>by simp[ins,hxy,h.asy x y hxy]
 |z::zs=>by
  cases k1:lt x z<;>cases k2:lt y z
  ·simp[ins,k1,k2,Kan h hxy zs]
  ·rw[h.tr hxy k2]at k1;cases k1
  ·simp[ins,k1,k2,h.asy x y hxy]
  ·simp[ins,k1,k2,hxy,h.asy x y hxy]
theorem Kas(h:Swo lt){x:α}:∀ {s A:List α},(∀y∈s,lt x y=true)→mrg lt (ins lt x A) s=ins lt x (mrg lt A s)
 | [],A,_=>rfl
 |y::s,A,hs=>by
  rw[K26,Kan h (hs y (by simp)),Kas h (fun z hz=>hs z (by simp[hz])),K26]
theorem K69{x:α}{l:List α}:srt lt (x::l)↔(∀y∈l,lt y x=false)∧srt lt l:=List.pairwise_cons
theorem srt_append{A B:List α}:srt lt (A++B)↔srt lt A∧srt lt B∧∀a∈A,∀b∈B,lt b a=false:=List.pairwise_append
theorem srt_ins(h:Swo lt){x:α}:∀ {l:List α},srt lt l→srt lt (ins lt x l)
 | [],_=>by simp[ins,srt]
 |z::zs,hs=>by
  obtain⟨h1,h2⟩:=K69.1 hs
  simp only[ins]
  split
  ·rename_i k
   refine K69.2 ⟨fun y hy=>?_,hs⟩
   rcases List.mem_cons.1 hy with rfl|hy
   ·exact h.asy _ _ k
   ·exact h.ntr (h1 y hy) (h.asy _ _ k)
  ·rename_i k
   refine K69.2 ⟨fun y hy=>?_,srt_ins h h2⟩
   rcases K93.1 hy with rfl|hy
   ·simpa using k
   ·exact h1 y hy
theorem srt_mrg(h:Swo lt):∀ {B A:List α},srt lt A→srt lt (mrg lt A B)
 | [],A,hA=>hA
 |x::B,A,hA=>srt_mrg h (B:=B) (srt_ins h hA)
theorem srt_isort(h:Swo lt)(l:List α):srt lt (isort lt l):=srt_mrg h List.Pairwise.nil
theorem K9p(h:Swo lt){x:α}:∀ {l:List α},srt lt l→∃s t,l=s++t∧ins lt x l=s++x::t∧∀y∈t,lt x y=true
 | [],_=>⟨[],[],rfl,rfl,by simp⟩
 |z::zs,hs=>by
  obtain⟨h1,h2⟩:=K69.1 hs
  cases k:lt x z
  ·obtain⟨s,t,e,e2,h3⟩:=K9p h (x:=x) h2
   exact⟨z::s,t,by simp[e],by simp[ins,k,e2],h3⟩
  ·refine⟨[],z::zs,rfl,by simp[ins,k],fun y hy=>?_⟩
   rcases List.mem_cons.1 hy with rfl|hy
   ·exact k
   ·exact h.lf k (h1 y hy)
theorem mrg_ins(h:Swo lt){x:α}{A s:List α}(hs:srt lt s):mrg lt A (ins lt x s)=ins lt x (mrg lt A s):=by
 obtain⟨s1,s2,rfl,e,h2⟩:=K9p h (x:=x) hs
 rw[e,K2p,K26,Kas h h2,K2p]
theorem isort_snoc{l:List α}{x:α}:isort lt (l++[x])=ins lt x (isort lt l):=by
 unfold isort;rw[K2p];rfl
theorem mrg_isort(h:Swo lt){A:List α}(r:List α):mrg lt A (isort lt r)=mrg lt A r:=by
 suffices H:∀(n:Nat) (r:List α),r.length=n→mrg lt A (isort lt r)=mrg lt A r from H _ r rfl
 intro n
 induction n with
 |zero=>intro r hr;obtain rfl:=List.length_eq_zero_iff.1 hr;rfl
 |succ n ih=>
  intro r hr
  rcases List.eq_nil_or_concat r with rfl|⟨s,x,rfl⟩
  ·rfl
  ·rw[List.concat_eq_append]at*
   rw[isort_snoc,mrg_ins h (srt_isort h s),ih s (by simpa using hr),K2p];rfl
theorem K6t(h:Swo lt)(l r:List α):isort lt (l++r)=mrg lt (isort lt l) (isort lt r):=by
 rw[mrg_isort h];unfold isort;rw[K2p]
theorem Kao{b:α}{A2:List α}(h:∀a∈A2.head?,lt b a=true):∀(A1:List α),ins lt b (A1++A2)=ins lt b A1++A2
 | []=>by
  cases A2 with
  |nil=>rfl
  |cons z zs=>simp[ins,h z (by simp)]
 |z::zs=>by
  simp only[List.cons_append,ins]
  split
  ·rfl
  ·rw[Kao h zs,List.cons_append]
theorem K6s{b:α}{A2:List α}:∀ {A1:List α},(∀a∈A1,lt b a=false)→ins lt b (A1++A2)=A1++ins lt b A2
 | [],_=>rfl
 |z::zs,h=>by
  simp only[List.cons_append,ins,h z (by simp),K6s (A1:=zs) (fun a ha=>h a (by simp[ha]))]
  rfl
theorem ins_mid{x:α}{s t:List α}(h1:∀a∈s,lt x a=false)(h2:∀a∈t.head?,lt x a=true):ins lt x (s++t)=s++x::t:=by
 rw[K6s h1]
 cases t with
 |nil=>rfl
 |cons z zs=>simp[ins,h2 z (by simp)]
theorem Kar{A2:List α}:∀ {B A1:List α},(∀b∈B,∀a∈A2.head?,lt b a=true)→mrg lt (A1++A2) B=mrg lt A1 B++A2
 | [],_,_=>rfl
 |b::B,A1,h=>by
  rw[K26,Kao (h b (by simp)),Kar (fun b hb=>h b (by simp[hb])),K26]
theorem K6v{A1:List α}:∀ {B A2:List α},(∀b∈B,∀a∈A1,lt b a=false)→mrg lt (A1++A2) B=A1++mrg lt A2 B
 | [],_,_=>rfl
 |b::B,A2,h=>by
  rw[K26,K6s (h b (by simp)),K6v (fun b hb=>h b (by simp[hb])),K26]
theorem mrg_nil_srt(h:Swo lt){l:List α}(hs:srt lt l):mrg lt [] l=l:=by
 suffices H:∀(l A:List α),srt lt (A++l)→mrg lt A l=A++l from H l [] (by simpa using hs)
 intro l
 induction l with
 |nil=>intro A _;simp[mrg_nil]
 |cons x l ih=>
  intro A hA
  have:=srt_append.1 hA
  rw[K26,show ins lt x A=A++[x]from by
   have:=ins_mid (lt:=lt) (x:=x) (s:=A) (t:=[]) (fun a ha=>(srt_append.1 hA).2.2 a ha x (by simp)) (by simp)
   simpa using this,ih (A++[x]) (by simpa using hA)]
  simp
theorem K9s{A1 A2 B1 B2:List α}(h1:∀b∈B1,∀a∈A2.head?,lt b a=true)(h2:∀b∈B2,∀a∈A1,lt b a=false)(h3:∀b∈B2,∀a∈B1,lt b a=false):mrg lt (A1++A2) (B1++B2)=mrg lt A1 B1++mrg lt A2 B2:=by
 rw[K2p,Kar h1,K6v]
 intro b hb a ha
 rcases mem_mrg.1 ha with k|k
 ·exact h2 b hb a k
 ·exact h3 b hb a k
def blk(lt:α→α→Bool)(s:Nat)(l:List α):List α:=
 if h:s=0∨l.length≤s then isort lt l else isort lt (l.take s)++blk lt s (l.drop s)
termination_by l.length
decreasing_by
 simp only[List.length_drop]
 omega
end Srt
end Go.Proofs.YtjneccbpkckdfaaGreatR
namespace Go.Proofs.YtjneccbpkckdfaaGreatR
open Go Go.RowKit Go.Proofs
open Nat (reduceEqDiff reduceLT reduceLeDiff reduceAdd reduceMul)
open List (reduceReplicate)
abbrev fI(f:FuncId):RV:=⟨false,[(false,.fn f [])]⟩
attribute [go_sem] fI
def two(A:List (List T))(e:List T)(B:List (List T))(e':List T)(C:List (List T)):List (List T):=A++e::(B++e'::C)
theorem K8s{A B C:List (List T)}{p q:Nat}(hp:A.length=p)(hq:p+1+B.length=q):
  (∀e e',(two A e B e' C)[p]? =some e)∧(∀e e',(two A e B e' C)[q]? =some e')∧
  (∀e e' u,(two A e B e' C).set p u=two A u B e' C)∧(∀e e' u,(two A e B e' C).set q u=two A e B u C)∧
  (∀e e',(two A e B e' C).length=A.length+B.length+C.length+2)∧
  (∀e e',(two A e B e' C).getD p []=e)∧(∀e e',(two A e B e' C).getD q []=e'):=by
 subst hp hq
 have h1:∀e e',(two A e B e' C)[A.length]? =some e:=fun e e'=>by simp[two]
 have h2:∀e e',(two A e B e' C)[A.length+1+B.length]? =some e':=fun e e'=>by
  unfold two
  rw[List.getElem?_append_right (by omega),show A.length+1+B.length-A.length=B.length+1 by omega,List.getElem?_cons_succ,List.getElem?_append_right (by omega),Nat.sub_self]
  rfl
 refine⟨h1,h2,fun e e' u=>by simp[two],fun e e' u=>?_,fun e e'=>by simp[two];omega,fun e e'=>by rw[List.getD_eq_getElem?_getD,h1];rfl,fun e e'=>by rw[List.getD_eq_getElem?_getD,h2];rfl⟩
 unfold two
 rw[List.set_append_right _ _ (by omega),show A.length+1+B.length-A.length=B.length+1 by omega,List.set_cons_succ,List.set_append_right _ _ (by omega),Nat.sub_self]
 rfl
def swp{α:Type}(P X M Y Q:List α)(i:Nat):List α:=(P++Y.take i)++(X.drop i++M++X.take i)++(Y.drop i++Q)
theorem swp_len{α:Type}{P X M Y Q:List α}{i:Nat}(h:X.length=Y.length):(swp P X M Y Q i).length=(P++X++M++Y++Q).length:=by
 simp[swp,List.length_take,List.length_drop];omega
theorem swp_two{α:Type}{P X M Y Q:List α}{i:Nat}{x y:α}{f:α→List T}(hx:X[i]? =some x)(hy:Y[i]? =some y):
  (swp P X M Y Q i).map f=two ((P++Y.take i).map f) (f x) ((X.drop (i+1)++M++X.take i).map f) (f y) ((Y.drop (i+1)++Q).map f)∧
  (swp P X M Y Q (i+1)).map f=two ((P++Y.take i).map f) (f y) ((X.drop (i+1)++M++X.take i).map f) (f x) ((Y.drop (i+1)++Q).map f):=by
 constructor
 ·simp[swp,two,K2b hx,K2b hy]
 ·simp[swp,two,Kt hx,Kt hy]
theorem wN{a b:Nat}(h:a+b≤9223372036854775807):IntKind.i64.wrap ((a:Int)+(b:Int))=((a+b:Nat):Int):=by
 rw[wI (by omega) (by omega)];omega
theorem wN1{a:Nat}(h:a+1≤9223372036854775807):IntKind.i64.wrap ((a:Int)+1)=((a+1:Nat):Int):=by
 rw[wI (by omega) (by omega)];omega
theorem wS{a b:Nat}(h:b≤a)(h2:a≤9223372036854775807):IntKind.i64.wrap ((a:Int)-(b:Int))=((a-b:Nat):Int):=by
 rw[wI (by omega) (by omega)];omega
theorem wS1{a:Nat}(h:1≤a)(h2:a≤9223372036854775807):IntKind.i64.wrap ((a:Int)-1)=((a-1:Nat):Int):=by
 rw[wI (by omega) (by omega)];omega
def M10:MC:=
(Zs [.mv 10 (ci 0)] [0,1,2,3,10] (.block 0 (.loop ([0,1,2,3,10],[]) (.seq (Zs [mS 11 10,mS 12 3,bS 13 .lss 11 12] [0,1,2,3,10,13] (cX 13 0))
(.seq (.block 1 (.dreg [Zc [17,18,19,20,21,22,23,24,25,26,27,28,29,30,31,32,33,34,35] (mS 16 0),Zc [16,18,20,21,22,23,24,25,26,27,28,29,30,31,32,33,34,35] (mS 17 1),Zc [16,17,20,21,22,23,24,25,26,27,28,29,30,31,32,33,34,35] (mS 18 10),Zd [16,20,21,22,23,24,25,26,27,28,29,30,31,32,33,34,35] [1,2] (bS 19 .add 17 18),Zf [16,17,18,19,21,22,23,24,25,26,27,28,29,30,31,32,33,34,35,36] [0] (mS 20 0),Zf [16,17,18,19,20,22,24,25,26,27,28,29,30,31,32,33,34,35,36] [0] (mS 21 2),Zf [16,17,18,19,20,21,24,25,26,27,28,29,30,31,32,33,34,35,36] [0] (mS 22 10),Zg [16,17,18,19,20,24,25,26,27,28,29,30,31,32,33,34,35,36] [0] [5,6] (bS 23 .add 21 22),Zc [16,17,18,19,20,21,22,23,25,26,27,30,31,32,33,34,35] (mS 24 0),Zc [16,17,18,19,20,21,22,23,24,26,30,31,32,33,34,35] (mS 25 2),Zc [16,17,18,19,20,21,22,23,24,25,30,31,32,33,34,35] (mS 26 10),Zd [16,17,18,19,20,21,22,23,24,30,31,32,33,34,35] [9,10] (bS 27 .add 25 26),Zd [16,17,18,19,20,21,22,23,30,31,32,33,34,35] [8,9,10,11] (xS 28 6 24 27),Zd [16,17,18,19,20,21,22,23,30,31,32,33,34,35] [8,9,10,11,12] (lT 29 6 28),Zc [16,17,18,19,20,21,22,23,24,25,26,27,28,29,31,32,33] (mS 30 0),Zc [16,17,18,19,20,21,22,23,24,25,26,27,28,29,30,32] (mS 31 1),Zc [16,17,18,19,20,21,22,23,24,25,26,27,28,29,30,31] (mS 32 10),Zd [16,17,18,19,20,21,22,23,24,25,26,27,28,29,30] [15,16] (bS 33 .add 31 32),Zd [16,17,18,19,20,21,22,23,24,25,26,27,28,29] [14,15,16,17] (xS 34 6 30 33),Zd [16,17,18,19,20,21,22,23,24,25,26,27,28,29] [14,15,16,17,18] (lT 35 6 34),Zd [20,21,22,23] [0,1,2,3,8,9,10,11,12,13,14,15,16,17,18,19] (xS 36 6 16 19),{o:=sS 6 36 29,hs:=[20,21,22,23],ws:=[0],bf:=[0,1,2,3,8,9,10,11,12,13,14,15,16,17,18,19,20]},Ze (.range 22) (xS 37 6 20 23),{o:=sS 6 37 35,ws:=[0],bf:=(.range 23)}] [0,1,2,3,10]))
(pr [mS 14 10,bC 15 .add 14 1,mS 10 15] [0,1,2,3,10]))))))
theorem C18(P X M Y Q:List GFound)(f:FuncId){a b n:Nat}(ha:P.length=a)(hb:(P++X++M).length=b)(hX:X.length=n)(hY:Y.length=n):CtrI Tryz.prog N6 [oL 6 ((P++X++M++Y++Q).map GFound.enc),iI a,iI b,iI n,fI f] [some (6,(P++Y++M++X++Q).map GFound.enc)] []:=by
 have hL0:(P++X++M++Y++Q).length=b+n+Q.length:=by rw[List.length_append,List.length_append,hb,hY]
 have hL1:(P++Y++M++X++Q).length=(P++X++M++Y++Q).length:=by simp;omega
 have hb':b=a+n+M.length:=by rw[←hb];simp;omega
 have hsw0:swp P X M Y Q 0=P++X++M++Y++Q:=by simp[swp]
 have hswn:swp P X M Y Q n=P++Y++M++X++Q:=by simp[swp,←hX,List.take_of_length_le (show Y.length≤X.length by omega),List.drop_of_length_le (show Y.length≤X.length by omega)]
 refine K44 (M:=M10) (m:=0) (n:=38) (res:=[]) hmix Tryz.func387 rfl (by kernel_rfl) rfl (by kernel_rfl) (by kernel_rfl) (Nat.le_of_ble_eq_true rfl) rfl rfl ?_;unfold M10
 intro hbd
 have hl:=K37 hbd
 clear hbd
 simp only[roomB]at hl
 rw[←hsw0,←hswn]
 rw[←hsw0,←hswn]at hL1
 rw[←hsw0]at hl hL0
 subst hX
 generalize hN:(swp P X M Y Q 0).length=N at*
 simp only[go_sem,hN]
 refine K7 X (fun i=>[(10,vI i)]) (fun i=>[(0,⟨1,.row true 6 ((swp P X M Y Q i).map GFound.enc)⟩)]) (fun _=>True) (by simp only[roomB];omega) ?_
 simp only[go_sem]
 refine⟨?_,trivial,?_,?_⟩
 ·simp only[go_sem]
 ·intro i x hx _ h0 h1 hw
  have hi:=Kl hx
  obtain⟨y,hy⟩:=Ke (show i<Y.length by omega)
  obtain⟨e1,e2⟩:=swp_two (P:=P) (M:=M) (Q:=Q) (f:=GFound.enc) hx hy
  have hlen:=swp_len (P:=P) (X:=X) (M:=M) (Y:=Y) (Q:=Q) (i:=i) hY.symm
  rw[e1,e2]
  generalize hAe:(P++Y.take i).map GFound.enc=A at e1 e2
  generalize hBe:(X.drop (i+1)++M++X.take i).map GFound.enc=B at e1 e2
  generalize hCe:(Y.drop (i+1)++Q).map GFound.enc=C at e1 e2
  have hA:A.length=a+i:=by subst hAe;simp;omega
  have hB:(a+i)+1+B.length=b+i:=by subst hBe;simp;omega
  have hC:C.length=Y.length-(i+1)+Q.length:=by subst hCe;simp
  obtain⟨g1,g2,s1,s2,hL,d1,d2⟩:=K8s (C:=C) hA hB
  have hL':∀e e',(two A e B e' C).length=N:=fun e e'=>by rw[hL];omega
  have k1:(0:Int)≤((a+i:Nat):Int):=by omega
  have k2:((a+i:Nat):Int)<(N:Int):=by omega
  have k3:(0:Int)≤((b+i:Nat):Int):=by omega
  have k4:((b+i:Nat):Int)<(N:Int):=by omega
  have k5:¬b+i=a+i:=by omega
  simp only[go_sem,g1,g2,s1,s2,hL',hw,h1,wN (a:=a) (b:=i) (by omega),wN (a:=b) (b:=i) (by omega),k1,k2,k3,k4]
 ·intro _
  simp only[go_sem]
def RotI(P X Y Q:List GFound)(m:Nat)(d:List GFound)(i j:Nat):Prop:=
 ∃C X' Y' D,d=P++C++X'++Y'++D++Q∧X'.length=i∧Y'.length=j∧P.length+C.length+i=m∧C++Y'++X'++D=Y++X∧0<i∧0<j
theorem RotI.gt{P X Y Q:List GFound}{m:Nat}{d:List GFound}{i j:Nat}(h:RotI P X Y Q m d i j)(hij:j<i):
  ∃P' X1 M Y' Q',d=P'++X1++M++Y'++Q'∧P'.length=m-i∧(P'++X1++M).length=m∧X1.length=j∧Y'.length=j∧RotI P X Y Q m (P'++Y'++M++X1++Q') (i-j) j:=by
 obtain⟨C,X',Y',D,rfl,rfl,rfl,h3,h4,h5,h6⟩:=h
 obtain⟨X1,X2,rfl,hX1⟩:∃X1 X2,X'=X1++X2∧X1.length=Y'.length:=⟨X'.take Y'.length,X'.drop Y'.length,(List.take_append_drop _ _).symm,by simp;omega⟩
 simp only[List.length_append]at*
 exact⟨P++C,X1,X2,Y',D++Q,by simp,by simp;omega,by simp;omega,hX1,rfl,C++Y',X2,X1,D,by simp,by omega,by omega,by simp;omega,by rw[←h4];simp,by omega,by omega⟩
theorem RotI.le{P X Y Q:List GFound}{m:Nat}{d:List GFound}{i j:Nat}(h:RotI P X Y Q m d i j)(hij:i<j):
  ∃P' X' M Y2 Q',d=P'++X'++M++Y2++Q'∧P'.length=m-i∧(P'++X'++M).length=m+j-i∧X'.length=i∧Y2.length=i∧RotI P X Y Q m (P'++Y2++M++X'++Q') i (j-i):=by
 obtain⟨C,X',Y',D,rfl,rfl,rfl,h3,h4,h5,h6⟩:=h
 obtain⟨Y1,Y2,rfl,hY2⟩:∃Y1 Y2,Y'=Y1++Y2∧Y2.length=X'.length:=⟨Y'.take (Y'.length-X'.length),Y'.drop (Y'.length-X'.length),(List.take_append_drop _ _).symm,by simp;omega⟩
 simp only[List.length_append]at*
 exact⟨P++C,X',Y1,Y2,D++Q,by simp,by simp;omega,by simp;omega,rfl,hY2,C,Y2,Y1,X'++D,by simp,by omega,by omega,by omega,by rw[←h4];simp,by omega,by omega⟩
theorem RotI.eq{P X Y Q:List GFound}{m:Nat}{d:List GFound}{i:Nat}(h:RotI P X Y Q m d i i):
  ∃P' X' Y' Q',d=P'++X'++[]++Y'++Q'∧P'.length=m-i∧(P'++X'++[]).length=m∧X'.length=i∧Y'.length=i∧P'++Y'++[]++X'++Q'=P++Y++X++Q:=by
 obtain⟨C,X',Y',D,rfl,rfl,h2,h3,h4,h5,h6⟩:=h
 refine⟨P++C,X',Y',D++Q,by simp,by simp;omega,by simp;omega,rfl,h2,?_⟩
 have:=congrArg (fun l=>P++(l++Q)) h4
 simpa using this
theorem RotI.len{P X Y Q:List GFound}{m:Nat}{d:List GFound}{i j:Nat}(h:RotI P X Y Q m d i j):d.length=(P++X++Y++Q).length∧i≤m∧m+j≤d.length∧0<i∧0<j:=by
 obtain⟨C,X',Y',D,rfl,rfl,rfl,h3,h4,h5,h6⟩:=h
 have:=congrArg List.length h4
 simp at this ⊢
 omega
theorem RotI.start{P X Y Q:List GFound}{m i j:Nat}(hm:P.length+X.length=m)(hi:X.length=i)(hj:Y.length=j)(hX:0<X.length)(hY:0<Y.length):RotI P X Y Q m (P++X++Y++Q) i j:=
 ⟨[],X,Y,[],by simp,hi,hj,by simp;omega,by simp,by omega,by omega⟩
def M1a:MC:=
(Zs [mS 12 2,mS 13 1,bS 14 .sub 12 13,mS 10 14] [0,2,3,4,10] (Zs [mS 15 3,mS 16 2,bS 17 .sub 15 16,mS 11 17] [0,2,4,10,11] (.seq (.block 0 (.loop ([0,2,4,10,11],[]) (.seq (Zs [mS 18 10,mS 19 11,bS 20 .neq 18 19] [0,2,4,10,11,20] (cX 20 0))
(.block 1 (Zs [mS 21 10,mS 22 11,bS 23 .gtr 21 22] [0,2,4,10,11,23] (.cond (.s 23) (Zs [mS 24 0,mS 25 2,mS 26 10,bS 27 .sub 25 26,mS 28 2,mS 29 11,mS 30 4,.callI 31 [] (.f N6) [.s 24,.s 27,.s 28,.s 29,.s 30] [0] []] [0,2,4,10,11] (pr [mS 32 10,mS 33 11,bS 34 .sub 32 33,mS 10 34] [0,2,4,10,11])) (Zs [mS 35 0,mS 36 2,mS 37 10,bS 38 .sub 36 37,mS 39 2,mS 40 11,bS 41 .add 39 40,mS 42 10,bS 43 .sub 41 42,mS 44 10,mS 45 4,.callI 46 [] (.f N6) [.s 35,.s 38,.s 43,.s 44,.s 45] [0] []] [0,2,4,10,11] (pr [mS 47 11,mS 48 10,bS 49 .sub 47 48,mS 11 49] [0,2,4,10,11]))))))))
(pr [mS 50 0,mS 51 2,mS 52 10,bS 53 .sub 51 52,mS 54 2,mS 55 10,mS 56 4,.callI 57 [] (.f N6) [.s 50,.s 53,.s 54,.s 55,.s 56] [0] []] []))))
theorem C4(P X Y Q:List GFound)(f:FuncId){a m b:Nat}(ha:P.length=a)(hm:(P++X).length=m)(hb:(P++X++Y).length=b)(hX:0<X.length)(hY:0<Y.length):CtrI Tryz.prog N1c [oL 6 ((P++X++Y++Q).map GFound.enc),iI a,iI m,iI b,fI f] [some (6,(P++Y++X++Q).map GFound.enc)] []:=by
 refine K44 (M:=M1a) (m:=0) (n:=58) (res:=[]) hmix Tryz.func365 rfl (by kernel_rfl) rfl (by kernel_rfl) (by kernel_rfl) (Nat.le_of_ble_eq_true rfl) rfl rfl ?_;unfold M1a
 intro hbd
 have hl:=K37 hbd
 clear hbd
 have hN2:(P++Y++X++Q).length=(P++X++Y++Q).length:=by simp;omega
 have hm':m=a+X.length:=by rw[←hm,←ha];simp
 have hb':b=m+Y.length:=by rw[←hb,←hm];simp;omega
 have hbN:b≤(P++X++Y++Q).length:=by rw[List.length_append,hb];omega
 generalize hN:(P++X++Y++Q).length=N at*
 simp only[roomB]at hl
 simp only[go_sem,hN,wS (a:=m) (b:=a) (by omega) (by omega),wS (a:=b) (b:=m) (by omega) (by omega)]
 refine Ko (ι:=List GFound×Nat×Nat) (fun s=>[(10,vI s.2.1),(11,vI s.2.2)]) (fun s=>[(0,⟨1,.row true 6 (s.1.map GFound.enc)⟩)]) (fun s=>RotI P X Y Q m s.1 s.2.1 s.2.2) (fun s=>s.2.1+s.2.2) (P++X++Y++Q,m-a,b-m) ?_
 simp only[go_sem]
 refine⟨?_,RotI.start (by omega) (show X.length=m-a by omega) (show Y.length=b-m by omega) hX hY,?_⟩
 ·simp only[go_sem]
 ·rintro ⟨d,i,j⟩ hI
  simp only at hI
  obtain⟨hd,h1,h2,h3,h4⟩:=hI.len
  rw[hN]at hd
  simp only[go_sem,hd]
  refine⟨fun hne=>⟨fun hgt=>?_,fun hle=>?_⟩,fun heq=>?_⟩
  ·obtain⟨P',X1,M,Y',Q',rfl,k1,k2,k3,k4,hR⟩:=hI.gt (by omega)
   have hd2:=hR.len.1
   rw[hN]at hd2
   rw[wS h1 (by omega)]
   apply Kg (C18 P' X1 M Y' Q' f k1 k2 k3 k4)
   simp only[go_sem,wS (a:=i) (b:=j) (by omega) (by omega)]
   exact⟨(_,i-j,j),⟨⟨rfl,rfl⟩,rfl⟩,hR,by show i-j+j<i+j;omega⟩
  ·obtain⟨P',X1,M,Y',Q',rfl,k1,k2,k3,k4,hR⟩:=hI.le (by omega)
   have hd2:=hR.len.1
   rw[hN]at hd2
   rw[wS h1 (by omega),wN (by omega),wS (a:=m+j) (b:=i) (by omega) (by omega)]
   apply Kg (C18 P' X1 M Y' Q' f k1 k2 k3 k4)
   simp only[go_sem,wS (a:=j) (b:=i) (by omega) (by omega)]
   exact⟨(_,i,j-i),⟨⟨rfl,rfl⟩,rfl⟩,hR,by show i+(j-i)<i+j;omega⟩
  ·obtain rfl:i=j:=by omega
   obtain⟨P',X1,Y',Q',rfl,k1,k2,k3,k4,hR⟩:=hI.eq
   rw[wS h1 (by omega)]
   apply Kg (C18 P' X1 [] Y' Q' f k1 k2 k3 k4)
   rw[hR]
   simp only[go_sem]
def ltc(c:GFound→GFound→Int)(x y:GFound):Bool:=decide (c x y<0)
def InsI(lt:GFound→GFound→Bool)(P S R:List GFound)(x:GFound)(d:List GFound)(j:Nat):Prop:=
 ∃s1 s2,d=P++s1++x::s2++R∧P.length+s1.length=j∧s1++s2=S∧∀y∈s2,lt x y=true
theorem InsI.len{lt:GFound→GFound→Bool}{P S R:List GFound}{x:GFound}{d:List GFound}{j:Nat}(h:InsI lt P S R x d j):d.length=P.length+S.length+1+R.length∧P.length≤j∧j≤P.length+S.length:=by
 obtain⟨s1,s2,rfl,rfl,rfl,h⟩:=h
 simp;omega
theorem InsI.done{lt:GFound→GFound→Bool}(hw:Srt.Swo lt){P S R:List GFound}{x:GFound}{d:List GFound}{j:Nat}(h:InsI lt P S R x d j)(hs:Srt.srt lt S)(hj:j=P.length∨∀z∈d[j-1]?,lt x z=false):d=P++Srt.ins lt x S++R:=by
 obtain⟨s1,s2,rfl,rfl,rfl,h⟩:=h
 rw[Srt.ins_mid]
 ·simp
 ·intro y hy
  rcases List.eq_nil_or_concat s1 with rfl|⟨s,z,rfl⟩
  ·simp at hy
  ·rcases hj with hj|hj
   ·simp at hj
   ·rw[List.concat_eq_append]at*
    have hz:lt x z=false:=hj z (by simp[])
    rcases List.mem_append.1 hy with k|k
    ·have:=(Srt.srt_append.1 (Srt.srt_append.1 hs).1).2.2 y k z (by simp)
     exact hw.ntr hz this
    ·obtain rfl:=List.mem_singleton.1 k
     exact hz
 ·intro y hy
  exact h y (List.mem_of_mem_head? hy)
theorem InsI.step{lt:GFound→GFound→Bool}{P S R:List GFound}{x:GFound}{d:List GFound}{j:Nat}(h:InsI lt P S R x d j)(hj:P.length<j):
  ∃A z C,d=A++z::([]++x::C)∧A.length=j-1∧d[j-1]? =some z∧(lt x z=true→InsI lt P S R x (A++x::([]++z::C)) (j-1)):=by
 obtain⟨s1,s2,rfl,rfl,rfl,h⟩:=h
 rcases List.eq_nil_or_concat s1 with rfl|⟨s,z,rfl⟩
 ·simp at hj
 ·rw[List.concat_eq_append]at*
  refine⟨P++s,z,s2++R,by simp,by simp,by simp[],fun hl=>⟨s,z::s2,by simp,by simp,by simp,?_⟩⟩
  intro y hy
  rcases List.mem_cons.1 hy with rfl|k
  ·exact hl
  ·exact h y k
def Mr:MC:=
(Zs [mS 10 1,bC 11 .add 10 1,mS 8 11] [0,1,2,3,8] (.block 0 (.loop ([0,1,2,3,8],[]) (.seq (Zs [mS 12 8,mS 13 2,bS 14 .lss 12 13] [0,1,2,3,8,14] (cX 14 0))
(.seq (.block 1 (Zs [mS 17 8,mS 9 17] [0,1,2,3,8,9] (.block 2 (.loop ([0,1,2,3,8,9],[]) (.seq (.seq (.dreg [Zc [19] (mS 18 9),Zc [18] (mS 19 1),Ze [0,1] (bS 20 .gtr 18 19),Ze [0,1,2] (mS 21 20),{o:=mS 22 3,g:=some (21,true),hs:=[23,24,25,26,27,28,29,30,31],bf:=(.range 4)},{o:=mS 23 0,g:=some (21,true),hs:=[22,24,27,28,29,30,31],bf:=(.range 4)},{o:=mS 24 9,g:=some (21,true),hs:=[22,23,27,28,29,30,31],bf:=(.range 4)},{o:=xS 25 6 23 24,g:=some (21,true),hs:=[22,27,28,29,30,31],bf:=[0,1,2,3,5,6]},{o:=lT 26 6 25,g:=some (21,true),hs:=[22,27,28,29,30,31],bf:=[0,1,2,3,5,6,7]},{o:=mS 27 0,g:=some (21,true),hs:=[22,23,24,25,26,28,29],bf:=(.range 4)},{o:=mS 28 9,g:=some (21,true),hs:=[22,23,24,25,26,27],bf:=(.range 4)},{o:=bC 29 .sub 28 1,g:=some (21,true),hs:=[22,23,24,25,26,27],bf:=[0,1,2,3,10]},{o:=xS 30 6 27 29,g:=some (21,true),hs:=[22,23,24,25,26],bf:=[0,1,2,3,9,10,11]},{o:=lT 31 6 30,g:=some (21,true),hs:=[22,23,24,25,26],bf:=[0,1,2,3,9,10,11,12]},{o:= .call 32 [] (.s 22) [.s 26,.s 31],g:=some (21,true),bf:=(.range 14)},{o:=bC 33 .lss 32 0,g:=some (21,true),bf:=(.range 15)},Ze (.range 16) (.pick 34 (.s 21) (.s 33) cF)] [0,1,2,3,8,9,34])
(cX 34 2))
(.seq (.block 3 (.dreg [Zc [38,39,40,41,42,43,44,45,46,47,48,49,50] (mS 37 0),Zc [37,39,40,41,42,43,44,45,46,47,48,49,50] (mS 38 9),Zf [37,38,40,41,42,43,44,45,46,47,48,49,50,51] [0] (mS 39 0),Zf [37,38,39,42,43,44,45,46,47,48,49,50,51] [0] (mS 40 9),Zg [37,38,39,42,43,44,45,46,47,48,49,50,51] [0] [3] (bC 41 .sub 40 1),Zc [37,38,39,40,41,43,44,47,48,49,50] (mS 42 0),Zc [37,38,39,40,41,42,47,48,49,50] (mS 43 9),Zd [37,38,39,40,41,42,47,48,49,50] [6] (bC 44 .sub 43 1),Zd [37,38,39,40,41,47,48,49,50] [5,6,7] (xS 45 6 42 44),Zd [37,38,39,40,41,47,48,49,50] [5,6,7,8] (lT 46 6 45),Zc [37,38,39,40,41,42,43,44,45,46,48] (mS 47 0),Zc [37,38,39,40,41,42,43,44,45,46,47] (mS 48 9),Zd [37,38,39,40,41,42,43,44,45,46] [10,11] (xS 49 6 47 48),Zd [37,38,39,40,41,42,43,44,45,46] [10,11,12] (lT 50 6 49),Zd [39,40,41] [0,1,5,6,7,8,9,10,11,12,13] (xS 51 6 37 38),{o:=sS 6 51 46,hs:=[39,40,41],ws:=[0],bf:=[0,1,5,6,7,8,9,10,11,12,13,14]},Ze (.range 16) (xS 52 6 39 41),{o:=sS 6 52 50,ws:=[0],bf:=(.range 17)}] [0,1,2,3,8,9]))
(pr [mS 35 9,bC 36 .sub 35 1,mS 9 36] [0,1,2,3,8,9])))))))
(pr [mS 15 8,bC 16 .add 15 1,mS 8 16] [0,1,2,3,8]))))))
theorem C1m(P X Q:List GFound)(f:FuncId)(c:GFound→GFound→Int)(hc:∀x y,Ctr Tryz.prog f [aS x.enc,aS y.enc] [rI (c x y)])(hw:Srt.Swo (ltc c)){a b:Nat}(ha:P.length=a)(hb:(P++X).length=b):CtrI Tryz.prog N8 [oL 6 ((P++X++Q).map GFound.enc),iI a,iI b,fI f] [some (6,(P++Srt.isort (ltc c) X++Q).map GFound.enc)] []:=by
 have hlk:∀k,(P++Srt.isort (ltc c) (X.take k)++(X.drop k++Q)).length=(P++X++Q).length:=fun k=>by simp[Srt.len_isort];omega
 refine K44 (M:=Mr) (m:=0) (n:=53) (res:=[]) hmix Tryz.func319 rfl (by kernel_rfl) rfl (by kernel_rfl) (by kernel_rfl) (Nat.le_of_ble_eq_true rfl) rfl rfl ?_;unfold Mr
 intro hbd
 have hl:=K37 hbd
 clear hbd
 have hb':b=a+X.length:=by rw[←hb,←ha];simp
 have hbN:b≤(P++X++Q).length:=by rw[List.length_append,hb];omega
 generalize hN:(P++X++Q).length=N at*
 simp only[roomB]at hl
 simp only[go_sem,hN,wN1 (a:=a) (by omega)]
 refine Ko (fun k:Nat=>[(8,vI ((a+k:Nat):Int))]) (fun k=>[(0,⟨1,.row true 6 ((P++Srt.isort (ltc c) (X.take k)++(X.drop k++Q)).map GFound.enc)⟩)]) (fun k=>1≤k∧(k≤X.length∨k=1)) (fun k=>X.length-k) 1 ?_
 simp only[go_sem]
 refine⟨?_,⟨by omega,by omega⟩,?_⟩
 ·simp only[go_sem]
  cases X with
  |nil=>simp[Srt.isort,Srt.mrg]
  |cons x X=>simp[Srt.isort,Srt.mrg,Srt.ins]
 ·rintro k ⟨h1,h2⟩
  simp only[go_sem]
  refine⟨fun hlt=>?_,fun hge=>?_⟩
  ·obtain⟨x,hx⟩:=Ke (show k<X.length by omega)
   refine Ko (ι:=List GFound×Nat) (fun s=>[(9,vI s.2)]) (fun s=>[(0,⟨1,.row true 6 (s.1.map GFound.enc)⟩)]) (fun s=>InsI (ltc c) P (Srt.isort (ltc c) (X.take k)) (X.drop (k+1)++Q) x s.1 s.2) (fun s=>s.2) (P++Srt.isort (ltc c) (X.take k)++(X.drop k++Q),a+k) ?_
   simp only[go_sem]
   refine⟨?_,⟨Srt.isort (ltc c) (X.take k),[],by simp[K2b hx],by simp[Srt.len_isort];omega,by simp,by simp⟩,?_⟩
   ·simp only[go_sem]
   ·rintro ⟨d,j⟩ hI
    simp only at hI
    obtain⟨hd,h3,h4⟩:=hI.len
    have hdN:d.length=N:=by
     have:=hlk k
     simp[K2b hx]at this hd
     omega
    have hdone:(j=P.length∨∀z∈d[j-1]?,ltc c x z=false)→d.map GFound.enc=(P++Srt.isort (ltc c) (X.take (k+1))++(X.drop (k+1)++Q)).map GFound.enc:=fun h=>by
     rw[hI.done hw (Srt.srt_isort hw _) h,Kt hx,Srt.isort_snoc]
    by_cases hj:P.length<j
    ·obtain⟨A,z,C,e,k1,k2,k3⟩:=hI.step hj
     have e':d.map GFound.enc=two (A.map GFound.enc) z.enc [] x.enc (C.map GFound.enc):=by subst e;simp[two]
     have e2:(A++x::([]++z::C)).map GFound.enc=two (A.map GFound.enc) x.enc [] z.enc (C.map GFound.enc):=by simp[two]
     obtain⟨g1,g2,s1,s2,hL,d1,d2⟩:=K8s (A:=A.map GFound.enc) (B:=[]) (C:=C.map GFound.enc) (p:=j-1) (q:=j) (by simpa using k1) (by simp;omega)
     have hL':∀u v,(two (A.map GFound.enc) u [] v (C.map GFound.enc)).length=N:=fun u v=>by
      rw[←hdN,hL,e];simp;omega
     rw[e']
     have j0:(j:Int)>(a:Int):=by omega
     have j1:(0:Int)≤(j:Int):=by omega
     have j2:(j:Int)<(N:Int):=by omega
     have j3:(0:Int)≤((j-1:Nat):Int):=by omega
     have j4:((j-1:Nat):Int)<(N:Int):=by omega
     simp only[go_sem,hL',g1,g2,j0,j1,j2,j3,j4,wS1 (a:=j) (by omega) (by omega)]
     apply K0 (hc x z)
     simp only[go_sem,hL',g1,g2,s1,s2,j1,j2,j3,j4,wS1 (a:=j) (by omega) (by omega),wN1 (a:=a+k) (by omega)]
     intro _
     refine⟨fun hn=>⟨(A++x::([]++z::C),j-1),⟨rfl,e2.symm⟩,k3 (by simpa[ltc]using hn),by show j-1<j;omega⟩,fun hn=>?_⟩
     have hz:ltc c x z=false:=by simpa[ltc]using hn
     have:=hdone (.inr (by rw[k2];intro y hy;obtain rfl:=Option.some.inj hy;exact hz))
     rw[e']at this
     exact⟨k+1,⟨rfl,this⟩,⟨by omega,by omega⟩,by omega⟩
    ·have j0:¬(j:Int)>(a:Int):=by omega
     simp only[go_sem,j0,wN1 (a:=a+k) (by omega)]
     have:=hdone (.inl (by omega))
     exact⟨k+1,⟨rfl,this⟩,⟨by omega,by omega⟩,by omega⟩
  ·have hk:X.length≤k:=by omega
   rw[List.take_of_length_le hk,List.drop_of_length_le hk,List.nil_append]
end Go.Proofs.YtjneccbpkckdfaaGreatR
namespace Go.Proofs.YtjneccbpkckdfaaGreatR
open Go Go.RowKit Go.Proofs
open Nat (reduceEqDiff reduceLT reduceLeDiff reduceAdd reduceMul)
open List (reduceReplicate)
namespace Srt
variable {α:Type} {lt:α→α→Bool}
theorem srt_at{l:List α}(h:srt lt l){i j:Nat}{x y:α}(hi:l[i]? =some x)(hj:l[j]? =some y)(hij:i<j):lt y x=false:=by
 obtain⟨h1,rfl⟩:=List.getElem?_eq_some_iff.1 hi
 obtain⟨h2,rfl⟩:=List.getElem?_eq_some_iff.1 hj
 exact(List.pairwise_iff_getElem.1 h) i j h1 h2 hij
theorem K2m(hw:Swo lt){l:List α}(h:srt lt l){i j:Nat}{x y:α}(hi:l[i]? =some x)(hj:l[j]? =some y)(hij:i≤j):lt y x=false:=by
 rcases Nat.lt_or_eq_of_le hij with k|rfl
 ·exact srt_at h hi hj k
 ·obtain rfl:=Option.some.inj (hi.symm.trans hj)
  exact hw.irr x
theorem K2h{l:List α}{u:Nat}{x:α}(h:x∈l.take u):∃i,i<u∧l[i]? =some x:=by
 obtain⟨i,hi⟩:=List.mem_iff_getElem?.1 h
 rw[List.getElem?_take]at hi
 split at hi
 ·exact⟨i,by assumption,hi⟩
 ·cases hi
theorem K2w{l:List α}{u:Nat}{x:α}(h:x∈l.drop u):∃i,u≤i∧l[i]? =some x:=by
 obtain⟨i,hi⟩:=List.mem_iff_getElem?.1 h
 rw[List.getElem?_drop]at hi
 exact⟨u+i,by omega,hi⟩
theorem Kal{l:List α}{u:Nat}{x:α}(h:x∈(l.drop u).head?):l[u]? =some x:=by
 rw[List.head?_drop]at h
 exact h
theorem mrg_sym(hw:Swo lt){X Y:List α}(hX:srt lt X)(hY:srt lt Y){u M:Nat}(huX:u≤X.length)(huM:u≤M)
  (h1:u=0∨Y.length≤M-u∨∃y x,Y[M-u]? =some y∧X[u-1]? =some x∧lt y x=false)
  (h2:u=M∨u=X.length∨∃y x,Y[M-1-u]? =some y∧X[u]? =some x∧lt y x=true):
  mrg lt X Y=mrg lt (X.take u) (Y.take (M-u))++mrg lt (X.drop u) (Y.drop (M-u)):=by
 conv=>lhs;rw[←List.take_append_drop u X,←List.take_append_drop (M-u) Y]
 refine K9s ?_ ?_ ?_
 ·intro b hb a ha
  obtain⟨i,hi,eb⟩:=K2h hb
  have ea:=Kal ha
  have hlt:=Kl ea
  rcases h2 with h2|h2|⟨y,x,e1,e2,h2⟩
  ·omega
  ·omega
  ·obtain rfl:=Option.some.inj (e2.symm.trans ea)
   exact hw.fl (K2m hw hY eb e1 (by omega)) h2
 ·intro b hb a ha
  obtain⟨i,hi,eb⟩:=K2w hb
  obtain⟨k,hk,ea⟩:=K2h ha
  have hlt:=Kl eb
  rcases h1 with h1|h1|⟨y,x,e1,e2,h1⟩
  ·omega
  ·omega
  ·have p1:=K2m hw hY e1 eb (by omega)
   have p2:=K2m hw hX ea e2 (by omega)
   exact hw.ntr (hw.ntr p1 h1) p2
 ·intro b hb a ha
  obtain⟨i,hi,eb⟩:=K2w hb
  obtain⟨k,hk,ea⟩:=K2h ha
  exact srt_at hY ea eb (by omega)
theorem mrg_one(hw:Swo lt){x:α}{Y:List α}(hY:srt lt Y){u:Nat}(h1:∀y∈Y.take u,lt y x=true)(h2:∀y∈Y.drop u,lt y x=false):mrg lt [x] Y=Y.take u++x::Y.drop u:=by
 have e:=K9s (lt:=lt) (A1:=[]) (A2:=[x]) (B1:=Y.take u) (B2:=Y.drop u) (by simpa using h1) (by simp) (by
  intro b hb a ha
  obtain⟨i,hi,eb⟩:=K2w hb
  obtain⟨k,hk,ea⟩:=K2h ha
  exact srt_at hY ea eb (by omega))
 rw[List.take_append_drop,List.nil_append]at e
 rw[e,mrg_nil_srt hw (srt_append.1 ((List.take_append_drop u Y).symm▸hY)).1]
 have e2:=K6v (lt:=lt) (A1:=[x]) (A2:=[]) (B:=Y.drop u) (by simpa using h2)
 rw[List.append_nil]at e2
 rw[e2,mrg_nil_srt hw (srt_append.1 ((List.take_append_drop u Y).symm▸hY)).2.1]
 rfl
theorem mrg_last{y:α}{X:List α}{u:Nat}(h1:∀z∈X.take u,lt y z=false)(h2:∀z∈X.drop u,lt y z=true):mrg lt X [y]=X.take u++y::X.drop u:=by
 have:=ins_mid (lt:=lt) (x:=y) h1 (fun z hz=>h2 z (List.mem_of_mem_head? hz))
 rw[List.take_append_drop]at this
 exact this
theorem lo_of(hw:Swo lt){Y:List α}(hY:srt lt Y){w:Nat}{x y:α}(e:Y[w]? =some y)(h:lt y x=true):∀z∈Y.take (w+1),lt z x=true:=fun z hz=>by
 obtain⟨i,hi,ez⟩:=K2h hz
 exact hw.fl (K2m hw hY ez e (by omega)) h
theorem hi_of(hw:Swo lt){Y:List α}(hY:srt lt Y){w:Nat}{x y:α}(e:Y[w]? =some y)(h:lt y x=false):∀z∈Y.drop w,lt z x=false:=fun z hz=>by
 obtain⟨i,hi,ez⟩:=K2w hz
 exact hw.ntr (K2m hw hY e ez hi) h
theorem lo_of'(hw:Swo lt){X:List α}(hX:srt lt X){w:Nat}{x y:α}(e:X[w]? =some x)(h:lt y x=false):∀z∈X.take (w+1),lt y z=false:=fun z hz=>by
 obtain⟨i,hi,ez⟩:=K2h hz
 exact hw.ntr h (K2m hw hX ez e (by omega))
theorem hi_of'(hw:Swo lt){X:List α}(hX:srt lt X){w:Nat}{x y:α}(e:X[w]? =some x)(h:lt y x=true):∀z∈X.drop w,lt y z=true:=fun z hz=>by
 obtain⟨i,hi,ez⟩:=K2w hz
 exact hw.lf h (K2m hw hX e ez hi)
end Srt
theorem shr1{k:Int}:(if (1:Int)<0 then none else some (Value.int IntKind.u64 (k.fdiv (2^min (Int.toNat 1) 64))))=some (Value.int IntKind.u64 (k.fdiv 2)):=by rw[if_neg (by decide)];rfl
theorem u64_wrap{n:Int}(h1:0≤n)(h2:n≤9223372036854775807):IntKind.u64.wrap n=n:=by
 simp only[IntKind.wrap,IntKind.signed,IntKind.bits,Bool.false_and,Bool.false_eq_true,if_false]
 omega
theorem K5j{i j:Nat}(h:i+j≤9223372036854775807):(IntKind.u64.wrap (IntKind.i64.wrap ((i:Int)+(j:Int)))).fdiv 2=(((i+j)/2:Nat):Int):=by
 rw[wN h,u64_wrap (by omega) (by omega),Int.fdiv_eq_ediv_of_nonneg _ (by omega)]
 omega
theorem wK{k:Nat}(h:k≤9223372036854775807):IntKind.i64.wrap (k:Int)=(k:Int):=wI (by omega) (by omega)
def SymI(lt:GFound→GFound→Bool)(X Y:List GFound)(M u0 v0 u v:Nat):Prop:=
 u0≤u∧u≤v∧v≤v0∧(u=0∨Y.length≤M-u∨∃y x,Y[M-u]? =some y∧X[u-1]? =some x∧lt y x=false)∧
  (v=M∨v=X.length∨∃y x,Y[M-1-v]? =some y∧X[v]? =some x∧lt y x=true)
theorem SymI.fin{lt:GFound→GFound→Bool}(hw:Srt.Swo lt){X Y:List GFound}{M u0 v0 u:Nat}(h:SymI lt X Y M u0 v0 u u)(hX:Srt.srt lt X)(hY:Srt.srt lt Y)(q2:v0≤M)(q3:v0≤X.length)(q4:M≤u0+Y.length):
  ∃A1 A2 B1 B2,X=A1++A2∧Y=B1++B2∧A1.length=u∧B1.length=M-u∧u≤M∧Srt.mrg lt X Y=Srt.mrg lt A1 B1++Srt.mrg lt A2 B2∧Srt.srt lt A1∧Srt.srt lt A2∧Srt.srt lt B1∧Srt.srt lt B2:=by
 obtain⟨h1,h2,h3,h4,h5⟩:=h
 have e:=Srt.mrg_sym hw hX hY (by omega) (by omega) h4 h5
 have sX:=Srt.srt_append.1 ((List.take_append_drop u X).symm▸hX)
 have sY:=Srt.srt_append.1 ((List.take_append_drop (M-u) Y).symm▸hY)
 exact⟨X.take u,X.drop u,Y.take (M-u),Y.drop (M-u),(List.take_append_drop _ _).symm,(List.take_append_drop _ _).symm,by simp;omega,by simp;omega,by omega,e,sX.1,sX.2.1,sY.1,sY.2.1⟩
theorem sym7{u l2 k l4 M:Nat}(hk:k=M-u)(huM:u≤M)(hM:M=(u+l2+(k+l4))/2)(hX:2≤u+l2)(hY:2≤k+l4):
  (0<u∧0<l2∧0<k∧0<l4)∨(u=0∧0<l2∧0<k∧0<l4)∨(0<u∧l2=0∧0<k∧0<l4)∨(0<u∧0<l2∧k=0∧0<l4)∨(0<u∧0<l2∧0<k∧l4=0)∨(u=0∧0<l2∧0<k∧l4=0)∨(0<u∧l2=0∧k=0∧0<l4):=by omega
theorem K6{i j:Nat}(k:Nat)(h:j=i+k)(hk:0<k):(i:Int)<(j:Int):=by omega
theorem K1e{i j:Nat}(k:Nat)(h:j=i+k)(hk:k=0):¬(i:Int)<(j:Int):=by omega
theorem symL(lt:GFound→GFound→Bool){P A1 A2 B1 B2 Q:List GFound}{a m b M u N n:Nat}(ha:P.length=a)(hA1:A1.length=u)(hB1:B1.length=M-u)(huM:u≤M)(hm:m=a+(A1++A2).length)(hb:b=m+(B1++B2).length)
  (hN:(P++(A1++A2)++(B1++B2)++Q).length=N) (hM:M=((A1++A2).length+(B1++B2).length)/2) (hn:(A1++A2).length+(B1++B2).length≤n+1) (h1:¬((m-a:Nat):Int)=1) (h2:¬((b-m:Nat):Int)=1) (hX:0<(A1++A2).length) (hY:0<(B1++B2).length):
  ((P++A1++B1++A2++(B2++Q)).length=N∧(P++A1++A2++B1++(B2++Q)).length=N∧(P++A1++B1++(A2++(B2++Q))).length=N∧(P++Srt.mrg lt A1 B1++A2++B2++Q).length=N∧(P++Srt.mrg lt A1 B1++(A2++(B2++Q))).length=N∧(P++Srt.mrg lt A1 B1++Srt.mrg lt A2 B2++Q).length=N)∧
  ((P++A1).length=a+u∧(P++A1++A2).length=m∧(P++A1++A2++B1).length=m+(M-u)∧(P++A1++B1).length=a+M∧(P++Srt.mrg lt A1 B1).length=a+M∧(P++Srt.mrg lt A1 B1++A2).length=m+(M-u)∧(P++Srt.mrg lt A1 B1++A2++B2).length=b)∧
  A1.length+B1.length≤n∧A2.length+B2.length≤n∧
  (m=a+u+A2.length∧m+(M-u)=m+B1.length∧a+u=a+A1.length∧a+M=a+u+B1.length∧m+(M-u)=a+M+A2.length∧b=m+(M-u)+B2.length)∧
  ((0<A1.length∧0<A2.length∧0<B1.length∧0<B2.length)∨(A1.length=0∧0<A2.length∧0<B1.length∧0<B2.length)∨(0<A1.length∧A2.length=0∧0<B1.length∧0<B2.length)∨(0<A1.length∧0<A2.length∧B1.length=0∧0<B2.length)∨(0<A1.length∧0<A2.length∧0<B1.length∧B2.length=0)∨(A1.length=0∧0<A2.length∧0<B1.length∧B2.length=0)∨(0<A1.length∧A2.length=0∧B1.length=0∧0<B2.length)):=by
 simp only[List.length_append,Srt.len_mrg]at*
 have h7:=sym7 (u:=A1.length) (l2:=A2.length) (k:=B1.length) (l4:=B2.length) (M:=M) (by omega) (by omega) (by omega) (by omega) (by omega)
 refine⟨⟨?_,?_,?_,?_,?_,?_⟩,⟨?_,?_,?_,?_,?_,?_,?_⟩,?_,?_,⟨?_,?_,?_,?_,?_,?_⟩,h7⟩<;>clear h7<;>omega
def M12:MC:=
(.seq (Zs [mS 25 2,mS 26 1,bS 27 .sub 25 26,bC 28 .eql 27 1] [0,1,2,3,4,28] (.cond (.s 28) (Zs [mS 29 2,mS 10 29] [0,1,3,4,10] (Zs [mS 30 3,mS 11 30] [0,1,4,10,11] (.seq (.block 0 (.loop ([0,1,4,10,11],[]) (.seq (Zs [mS 31 10,mS 32 11,bS 33 .lss 31 32] [0,1,4,10,11,33] (cX 33 0))
(.block 1 (Zs [mS 34 10,mS 35 11,bS 36 .add 34 35,.convI 37 .u64 (.s 36),.bin 38 false .shr (.s 37) (.c (.int .u64 1)),.convI 39 .i64 (.s 38),mS 12 39] [0,1,4,10,11,12] (.seq (.dreg [Zc [41,42,43,44,45,46,47,48] (mS 40 4),Zc [40,42,45,46,47,48] (mS 41 0),Zc [40,41,45,46,47,48] (mS 42 12),Zd [40,45,46,47,48] [1,2] (xS 43 6 41 42),Zd [40,45,46,47,48] [1,2,3] (lT 44 6 43),Zc [40,41,42,43,44,46] (mS 45 0),Zc [40,41,42,43,44,45] (mS 46 1),Zd [40,41,42,43,44] [5,6] (xS 47 6 45 46),Zd [40,41,42,43,44] [5,6,7] (lT 48 6 47),Ze (.range 9) (.call 49 [] (.s 40) [.s 44,.s 48]),Ze (.range 10) (bC 50 .lss 49 0)] [0,1,4,10,11,12,50])
(.cond (.s 50) (pr [mS 51 12,bC 52 .add 51 1,mS 10 52] [0,1,4,10,11]) (pr [mS 53 12,mS 11 53] [0,1,4,10,11]))))))))
(.seq (Zs [mS 54 1,mS 13 54] [0,10,13] (.block 2 (.loop ([0,10,13],[]) (.seq (Zs [mS 55 13,mS 56 10,bC 57 .sub 56 1,bS 58 .lss 55 57] [0,10,13,58] (cX 58 2))
(.seq (.block 3 (.dreg [Zc [62,63,64,65,66,67,68,69,70,71,72,73,74] (mS 61 0),Zc [61,63,64,65,66,67,68,69,70,71,72,73,74] (mS 62 13),Zf [61,62,64,65,66,67,68,69,70,71,72,73,74,75] [0] (mS 63 0),Zf [61,62,63,66,67,68,69,70,71,72,73,74,75] [0] (mS 64 13),Zg [61,62,63,66,67,68,69,70,71,72,73,74,75] [0] [3] (bC 65 .add 64 1),Zc [61,62,63,64,65,67,68,71,72,73,74] (mS 66 0),Zc [61,62,63,64,65,66,71,72,73,74] (mS 67 13),Zd [61,62,63,64,65,66,71,72,73,74] [6] (bC 68 .add 67 1),Zd [61,62,63,64,65,71,72,73,74] [5,6,7] (xS 69 6 66 68),Zd [61,62,63,64,65,71,72,73,74] [5,6,7,8] (lT 70 6 69),Zc [61,62,63,64,65,66,67,68,69,70,72] (mS 71 0),Zc [61,62,63,64,65,66,67,68,69,70,71] (mS 72 13),Zd [61,62,63,64,65,66,67,68,69,70] [10,11] (xS 73 6 71 72),Zd [61,62,63,64,65,66,67,68,69,70] [10,11,12] (lT 74 6 73),Zd [63,64,65] [0,1,5,6,7,8,9,10,11,12,13] (xS 75 6 61 62),{o:=sS 6 75 70,hs:=[63,64,65],ws:=[0],bf:=[0,1,5,6,7,8,9,10,11,12,13,14]},Ze (.range 16) (xS 76 6 63 65),{o:=sS 6 76 74,ws:=[0],bf:=(.range 17)}] [0,10,13]))
(pr [mS 59 13,bC 60 .add 59 1,mS 13 60] [0,10,13]))))))
.ret)))) .skip))
(.seq (Zs [mS 77 3,mS 78 2,bS 79 .sub 77 78,bC 80 .eql 79 1] [0,1,2,3,4,80] (.cond (.s 80) (Zs [mS 81 1,mS 14 81] [0,2,4,14] (Zs [mS 82 2,mS 15 82] [0,2,4,14,15] (.seq (.block 4 (.loop ([0,2,4,14,15],[]) (.seq (Zs [mS 83 14,mS 84 15,bS 85 .lss 83 84] [0,2,4,14,15,85] (cX 85 4))
(.block 5 (Zs [mS 86 14,mS 87 15,bS 88 .add 86 87,.convI 89 .u64 (.s 88),.bin 90 false .shr (.s 89) (.c (.int .u64 1)),.convI 91 .i64 (.s 90),mS 16 91] [0,2,4,14,15,16] (.seq (.dreg [Zc [93,94,95,96,97,98,99,100] (mS 92 4),Zc [92,94,97,98,99,100] (mS 93 0),Zc [92,93,97,98,99,100] (mS 94 2),Zd [92,97,98,99,100] [1,2] (xS 95 6 93 94),Zd [92,97,98,99,100] [1,2,3] (lT 96 6 95),Zc [92,93,94,95,96,98] (mS 97 0),Zc [92,93,94,95,96,97] (mS 98 16),Zd [92,93,94,95,96] [5,6] (xS 99 6 97 98),Zd [92,93,94,95,96] [5,6,7] (lT 100 6 99),Ze (.range 9) (.call 101 [] (.s 92) [.s 96,.s 100]),Ze (.range 10) (bC 102 .lss 101 0),Ze (.range 11) (.un 103 .not (.s 102))] [0,2,4,14,15,16,103])
(.cond (.s 103) (pr [mS 104 16,bC 105 .add 104 1,mS 14 105] [0,2,4,14,15]) (pr [mS 106 16,mS 15 106] [0,2,4,14,15]))))))))
(.seq (Zs [mS 107 2,mS 17 107] [0,14,17] (.block 6 (.loop ([0,14,17],[]) (.seq (Zs [mS 108 17,mS 109 14,bS 110 .gtr 108 109] [0,14,17,110] (cX 110 6))
(.seq (.block 7 (.dreg [Zc [114,115,116,117,118,119,120,121,122,123,124,125,126] (mS 113 0),Zc [113,115,116,117,118,119,120,121,122,123,124,125,126] (mS 114 17),Zf [113,114,116,117,118,119,120,121,122,123,124,125,126,127] [0] (mS 115 0),Zf [113,114,115,118,119,120,121,122,123,124,125,126,127] [0] (mS 116 17),Zg [113,114,115,118,119,120,121,122,123,124,125,126,127] [0] [3] (bC 117 .sub 116 1),Zc [113,114,115,116,117,119,120,123,124,125,126] (mS 118 0),Zc [113,114,115,116,117,118,123,124,125,126] (mS 119 17),Zd [113,114,115,116,117,118,123,124,125,126] [6] (bC 120 .sub 119 1),Zd [113,114,115,116,117,123,124,125,126] [5,6,7] (xS 121 6 118 120),Zd [113,114,115,116,117,123,124,125,126] [5,6,7,8] (lT 122 6 121),Zc [113,114,115,116,117,118,119,120,121,122,124] (mS 123 0),Zc [113,114,115,116,117,118,119,120,121,122,123] (mS 124 17),Zd [113,114,115,116,117,118,119,120,121,122] [10,11] (xS 125 6 123 124),Zd [113,114,115,116,117,118,119,120,121,122] [10,11,12] (lT 126 6 125),Zd [115,116,117] [0,1,5,6,7,8,9,10,11,12,13] (xS 127 6 113 114),{o:=sS 6 127 122,hs:=[115,116,117],ws:=[0],bf:=[0,1,5,6,7,8,9,10,11,12,13,14]},Ze (.range 16) (xS 128 6 115 117),{o:=sS 6 128 126,ws:=[0],bf:=(.range 17)}] [0,14,17]))
(pr [mS 111 17,bC 112 .sub 111 1,mS 17 112] [0,14,17]))))))
.ret)))) .skip))
(Zs [mS 129 1,mS 130 3,bS 131 .add 129 130,.convI 132 .u64 (.s 131),.bin 133 false .shr (.s 132) (.c (.int .u64 1)),.convI 134 .i64 (.s 133),mS 18 134] [0,1,2,3,4,18] (Zs [mS 135 18,mS 136 2,bS 137 .add 135 136,mS 19 137] [0,1,2,3,4,18,19] (Zs [.mv 20 (ci 0),.mv 21 (ci 0)] [0,1,2,3,4,18,19] (.seq (Zs [mS 138 2,mS 139 18,bS 140 .gtr 138 139] [0,1,2,3,4,18,19,140] (.cond (.s 140) (Zs [mS 141 19,mS 142 3,bS 143 .sub 141 142,mS 20 143] [0,1,2,3,4,18,19,20] (pr [mS 144 18,mS 21 144] [0,1,2,3,4,18,19,20,21])) (Zs [mS 145 1,mS 20 145] [0,1,2,3,4,18,19,20] (pr [mS 146 2,mS 21 146] [0,1,2,3,4,18,19,20,21]))))
(Zs [mS 147 19,bC 148 .sub 147 1,mS 22 148] [0,1,2,3,4,18,19,20,21,22] (.seq (.block 8 (.loop ([0,1,2,3,4,18,19,20,21,22],[]) (.seq (Zs [mS 149 20,mS 150 21,bS 151 .lss 149 150] [0,1,2,3,4,18,19,20,21,22,151] (cX 151 8))
(.block 9 (Zs [mS 152 20,mS 153 21,bS 154 .add 152 153,.convI 155 .u64 (.s 154),.bin 156 false .shr (.s 155) (.c (.int .u64 1)),.convI 157 .i64 (.s 156),mS 23 157] [0,1,2,3,4,18,19,20,21,22,23] (.seq (.dreg [Zc [159,160,161,162,163,164,165,166,167,168] (mS 158 4),Zc [158,160,161,162,165,166,167,168] (mS 159 0),Zc [158,159,161,165,166,167,168] (mS 160 22),Zc [158,159,160,165,166,167,168] (mS 161 23),Zd [158,159,165,166,167,168] [2,3] (bS 162 .sub 160 161),Zd [158,165,166,167,168] [1,2,3,4] (xS 163 6 159 162),Zd [158,165,166,167,168] [1,2,3,4,5] (lT 164 6 163),Zc [158,159,160,161,162,163,164,166] (mS 165 0),Zc [158,159,160,161,162,163,164,165] (mS 166 23),Zd [158,159,160,161,162,163,164] [7,8] (xS 167 6 165 166),Zd [158,159,160,161,162,163,164] [7,8,9] (lT 168 6 167),Ze (.range 11) (.call 169 [] (.s 158) [.s 164,.s 168]),Ze (.range 12) (bC 170 .lss 169 0),Ze (.range 13) (.un 171 .not (.s 170))] [0,1,2,3,4,18,19,20,21,22,23,171])
(.cond (.s 171) (pr [mS 172 23,bC 173 .add 172 1,mS 20 173] [0,1,2,3,4,18,19,20,21,22]) (pr [mS 174 23,mS 21 174] [0,1,2,3,4,18,19,20,21,22]))))))))
(Zs [mS 175 19,mS 176 20,bS 177 .sub 175 176,mS 24 177] [0,1,2,3,4,18,20,24] (.seq (.seq (.reg [Za (mS 178 20),Za (mS 179 2),Za (bS 180 .lss 178 179),Za (mS 181 180),Zb 181 true (mS 182 2),Zb 181 true (mS 183 24),Zb 181 true (bS 184 .lss 182 183),Za (.pick 185 (.s 181) (.s 184) cF)] [0,1,2,3,4,18,20,24,185])
(.cond (.s 185) (pr [mS 186 0,mS 187 20,mS 188 2,mS 189 24,mS 190 4,.callI 191 [] (.f N1c) [.s 186,.s 187,.s 188,.s 189,.s 190] [0] []] [0,1,3,4,18,20,24]) .skip))
(.seq (.seq (.reg [Za (mS 192 1),Za (mS 193 20),Za (bS 194 .lss 192 193),Za (mS 195 194),Zb 195 true (mS 196 20),Zb 195 true (mS 197 18),Zb 195 true (bS 198 .lss 196 197),Za (.pick 199 (.s 195) (.s 198) cF)] [0,1,3,4,18,20,24,199])
(.cond (.s 199) (pr [mS 200 0,mS 201 1,mS 202 20,mS 203 18,mS 204 4,.callI 205 [] (.f N2) [.s 200,.s 201,.s 202,.s 203,.s 204] [0] []] [0,3,4,18,24]) .skip))
(.seq (.reg [Za (mS 206 18),Za (mS 207 24),Za (bS 208 .lss 206 207),Za (mS 209 208),Zb 209 true (mS 210 24),Zb 209 true (mS 211 3),Zb 209 true (bS 212 .lss 210 211),Za (.pick 213 (.s 209) (.s 212) cF)] [0,3,4,18,24,213])
(.cond (.s 213) (pr [mS 214 0,mS 215 18,mS 216 24,mS 217 3,mS 218 4,.callI 219 [] (.f N2) [.s 214,.s 215,.s 216,.s 217,.s 218] [0] []] []) .skip)))))))))))))
set_option maxHeartbeats 4000000 in
theorem C27(f:FuncId)(c:GFound→GFound→Int)(hc:∀x y,Ctr Tryz.prog f [aS x.enc,aS y.enc] [rI (c x y)])(hw:Srt.Swo (ltc c))(n:Nat):∀(P X Y Q:List GFound) {a m b:Nat},X.length+Y.length≤n→P.length=a→(P++X).length=m→(P++X++Y).length=b→0<X.length→0<Y.length→Srt.srt (ltc c) X→Srt.srt (ltc c) Y→
  CtrI Tryz.prog N2 [oL 6 ((P++X++Y++Q).map GFound.enc),iI a,iI m,iI b,fI f] [some (6,(P++Srt.mrg (ltc c) X Y++Q).map GFound.enc)] []:=by
 induction n with
 |zero=>intro P X Y Q a m b hn _ _ _ hX;omega
 |succ n ih=>
  intro P X Y Q a m b hn ha hm hb hX hY sX sY
  have hN2:(P++Srt.mrg (ltc c) X Y++Q).length=(P++X++Y++Q).length:=by simp[Srt.len_mrg];omega
  refine K44 (M:=M12) (m:=0) (n:=220) (res:=[]) hmix Tryz.func320 rfl (by kernel_rfl) rfl (by kernel_rfl) (by kernel_rfl) (Nat.le_of_ble_eq_true rfl) rfl rfl ?_;unfold M12
  intro hbd
  have hl:=K37 hbd
  clear hbd
  have hm':m=a+X.length:=by rw[←hm,←ha];simp
  have hb':b=m+Y.length:=by rw[←hb,←hm];simp;omega
  have hbN:b≤(P++X++Y++Q).length:=by rw[List.length_append,hb];omega
  generalize hN:(P++X++Y++Q).length=N at*
  simp only[roomB]at hl
  simp only[go_sem,hN,wS (a:=m) (b:=a) (by omega) (by omega)]
  refine⟨fun h1=>?_,fun h1=>?_⟩
  ·obtain⟨x,rfl⟩:∃x,X=[x]:=List.length_eq_one_iff.1 (by omega)
   simp only[List.length_cons,List.length_nil]at hm' hn
   have hxa:(P++[x]++Y++Q)[a]? =some x:=by rw[←ha];simp
   have hya:∀w,w<Y.length→(P++[x]++Y++Q)[m+w]? =Y[w]? :=fun w hw=>by
    rw[List.append_assoc,List.getElem?_append_right (by simp;omega),List.getElem?_append_left (by simp;omega)]
    congr 1;simp;omega
   refine Ko (ι:=Nat×Nat) (fun s=>[(10,vI ((m+s.1:Nat):Int)),(11,vI ((m+s.2:Nat):Int))]) (fun s=>[]) (fun s=>s.1≤s.2∧s.2≤Y.length∧(∀y∈Y.take s.1,ltc c y x=true)∧(∀y∈Y.drop s.2,ltc c y x=false)) (fun s=>s.2-s.1) (0,Y.length) ?_
   simp only[go_sem]
   refine⟨?_,⟨by omega,by omega,by simp,by simp⟩,?_⟩
   ·simp only[go_sem]
    exact⟨by omega,by omega⟩
   ·rintro ⟨u,v⟩ ⟨i1,i2,i3,i4⟩
    simp only at i1 i2 i3 i4
    simp only[go_sem,hN,shr1,K5j (i:=m+u) (j:=m+v) (by omega)]
    refine⟨fun hlt=>?_,fun hge=>?_⟩
    ·have hwx:(m+u+(m+v))/2=m+(u+v)/2:=by omega
     have w1:u≤(u+v)/2:=by omega
     have w2:(u+v)/2<v:=by omega
     rw[hwx]
     generalize (u+v)/2=w at w1 w2
     obtain⟨y,hy⟩:=Ke (show w<Y.length by omega)
     have hyw:=(hya w (by omega)).trans hy
     have k1:(0:Int)≤((m+w:Nat):Int):=by omega
     have k2:((m+w:Nat):Int)<(N:Int):=by omega
     have k3:(0:Int)≤(a:Int):=by omega
     have k4:(a:Int)<(N:Int):=by omega
     simp only[go_sem,wK (k:=m+w) (by omega),k1,k2,k3,k4,K4 hyw,K4 hxa]
     apply K0 (hc y x)
     simp only[go_sem,wN1 (a:=m+w) (by omega)]
     intro _
     refine⟨fun hn=>⟨(w+1,v),⟨rfl,rfl⟩,⟨by omega,i2,Srt.lo_of hw sY hy (by simpa[ltc]using hn),i4⟩,by omega⟩,fun hn=>⟨(u,w),⟨rfl,rfl⟩,⟨w1,by omega,i3,Srt.hi_of hw sY hy (by simpa[ltc]using hn)⟩,by omega⟩⟩
    ·obtain rfl:u=v:=by omega
     have hres:=Srt.mrg_one hw sY i3 i4
     have hlt:∀t,(P++(Y.take t++x::Y.drop t)++Q).length=N:=fun t=>by rw[←hN];simp;omega
     refine Ko (fun t:Nat=>[(13,vI ((a+t:Nat):Int))]) (fun t=>[(0,⟨1,.row true 6 ((P++(Y.take t++x::Y.drop t)++Q).map GFound.enc)⟩)]) (fun t=>t≤u) (fun t=>u-t) 0 ?_
     simp only[go_sem]
     refine⟨?_,by omega,?_⟩
     ·simp only[go_sem]
      simp
     ·intro t ht
      have hs1:IntKind.i64.wrap (((m+u:Nat):Int)-1)=((a+u:Nat):Int):=by
       rw[wI (by omega) (by omega)];omega
      by_cases htu:t<u
      ·obtain⟨y,hy⟩:=Ke (show t<Y.length by omega)
       have e1:(P++(Y.take t++x::Y.drop t)++Q).map GFound.enc=two ((P++Y.take t).map GFound.enc) x.enc [] y.enc ((Y.drop (t+1)++Q).map GFound.enc):=by simp[two,K2b hy]
       have e2:(P++(Y.take (t+1)++x::Y.drop (t+1))++Q).map GFound.enc=two ((P++Y.take t).map GFound.enc) y.enc [] x.enc ((Y.drop (t+1)++Q).map GFound.enc):=by simp[two,Kt hy]
       have hA:((P++Y.take t).map GFound.enc).length=a+t:=by simp;omega
       have hL0:∀p q,(two ((P++Y.take t).map GFound.enc) p [] q ((Y.drop (t+1)++Q).map GFound.enc)).length=N:=fun p q=>by
        rw[←hlt t];simp[two,K2b hy]
       generalize (P++Y.take t).map GFound.enc=A at*
       generalize (Y.drop (t+1)++Q).map GFound.enc=C at*
       obtain⟨g1,g2,s1,s2,hL,d1,d2⟩:=K8s (A:=A) (B:=[]) (C:=C) (p:=a+t) (q:=a+t+1) hA (by simp)
       have k1:(0:Int)≤((a+t:Nat):Int):=by omega
       have k2:((a+t:Nat):Int)<(N:Int):=by omega
       have k3:(0:Int)≤((a+t+1:Nat):Int):=by omega
       have k4:((a+t+1:Nat):Int)<(N:Int):=by omega
       have k5:((a+t:Nat):Int)<((a+u:Nat):Int):=by omega
       rw[e1]
       simp only[go_sem,hs1,hL0,g1,g2,s1,s2,k1,k2,k3,k4,k5,wN1 (a:=a+t) (by omega)]
       exact⟨t+1,⟨rfl,e2.symm⟩,by omega,by omega⟩
      ·obtain rfl:t=u:=by omega
       simp only[go_sem,hs1]
       rw[hres]
  ·simp only[go_sem,wS (a:=b) (b:=m) (by omega) (by omega)]
   refine⟨fun h2=>?_,fun h2=>?_⟩
   ·obtain⟨y,rfl⟩:∃y,Y=[y]:=List.length_eq_one_iff.1 (by omega)
    simp only[List.length_cons,List.length_nil]at hb' hn
    have hym:(P++X++[y]++Q)[m]? =some y:=by rw[←hm];simp
    have hxa:∀w,w<X.length→(P++X++[y]++Q)[a+w]? =X[w]? :=fun w hw=>by
     rw[List.append_assoc,List.append_assoc,List.getElem?_append_right (by omega),List.getElem?_append_left (by omega)]
     congr 1;omega
    refine Ko (ι:=Nat×Nat) (fun s=>[(14,vI ((a+s.1:Nat):Int)),(15,vI ((a+s.2:Nat):Int))]) (fun s=>[]) (fun s=>s.1≤s.2∧s.2≤X.length∧(∀z∈X.take s.1,ltc c y z=false)∧(∀z∈X.drop s.2,ltc c y z=true)) (fun s=>s.2-s.1) (0,X.length) ?_
    simp only[go_sem]
    refine⟨?_,⟨by omega,by omega,by simp,by simp⟩,?_⟩
    ·simp only[go_sem]
     exact⟨by omega,by omega⟩
    ·rintro ⟨u,v⟩ ⟨i1,i2,i3,i4⟩
     simp only at i1 i2 i3 i4
     simp only[go_sem,hN,shr1,K5j (i:=a+u) (j:=a+v) (by omega)]
     refine⟨fun hlt=>?_,fun hge=>?_⟩
     ·have hwx:(a+u+(a+v))/2=a+(u+v)/2:=by omega
      have w1:u≤(u+v)/2:=by omega
      have w2:(u+v)/2<v:=by omega
      rw[hwx]
      generalize (u+v)/2=w at w1 w2
      obtain⟨x,hx⟩:=Ke (show w<X.length by omega)
      have hxw:=(hxa w (by omega)).trans hx
      have k1:(0:Int)≤((a+w:Nat):Int):=by omega
      have k2:((a+w:Nat):Int)<(N:Int):=by omega
      have k3:(0:Int)≤(m:Int):=by omega
      have k4:(m:Int)<(N:Int):=by omega
      simp only[go_sem,wK (k:=a+w) (by omega),k1,k2,k3,k4,K4 hxw,K4 hym]
      apply K0 (hc y x)
      simp only[go_sem,wN1 (a:=a+w) (by omega)]
      intro _
      refine⟨fun hn=>⟨(w+1,v),⟨rfl,rfl⟩,⟨by omega,i2,Srt.lo_of' hw sX hx (by simpa[ltc]using hn),i4⟩,by omega⟩,fun hn=>⟨(u,w),⟨rfl,rfl⟩,⟨w1,by omega,i3,Srt.hi_of' hw sX hx (by simpa[ltc]using hn)⟩,by omega⟩⟩
     ·obtain rfl:u=v:=by omega
      have hres:=Srt.mrg_last i3 i4
      have hlt:∀t,(P++(X.take t++y::X.drop t)++Q).length=N:=fun t=>by rw[←hN];simp;omega
      refine Ko (fun t:Nat=>[(17,vI ((a+t:Nat):Int))]) (fun t=>[(0,⟨1,.row true 6 ((P++(X.take t++y::X.drop t)++Q).map GFound.enc)⟩)]) (fun t=>u≤t∧t≤X.length) (fun t=>t-u) X.length ?_
      simp only[go_sem]
      refine⟨?_,⟨i2,by omega⟩,?_⟩
      ·simp only[go_sem,hm']
       simp
      ·rintro t ⟨ht,ht2⟩
       by_cases htu:u<t
       ·obtain⟨t,rfl⟩:∃s,t=s+1:=⟨t-1,by omega⟩
        obtain⟨x,hx⟩:=Ke (show t<X.length by omega)
        have e1:(P++(X.take (t+1)++y::X.drop (t+1))++Q).map GFound.enc=two ((P++X.take t).map GFound.enc) x.enc [] y.enc ((X.drop (t+1)++Q).map GFound.enc):=by simp[two,Kt hx]
        have e2:(P++(X.take t++y::X.drop t)++Q).map GFound.enc=two ((P++X.take t).map GFound.enc) y.enc [] x.enc ((X.drop (t+1)++Q).map GFound.enc):=by simp[two,K2b hx]
        have hA:((P++X.take t).map GFound.enc).length=a+t:=by simp;omega
        have hL0:∀p q,(two ((P++X.take t).map GFound.enc) p [] q ((X.drop (t+1)++Q).map GFound.enc)).length=N:=fun p q=>by
         rw[←hlt t];simp[two,K2b hx]
        generalize (P++X.take t).map GFound.enc=A at*
        generalize (X.drop (t+1)++Q).map GFound.enc=C at*
        obtain⟨g1,g2,s1,s2,hL,d1,d2⟩:=K8s (A:=A) (B:=[]) (C:=C) (p:=a+t) (q:=a+t+1) hA (by simp)
        have k1:(0:Int)≤((a+t:Nat):Int):=by omega
        have k2:((a+t:Nat):Int)<(N:Int):=by omega
        have k3:(0:Int)≤((a+t+1:Nat):Int):=by omega
        have k4:((a+t+1:Nat):Int)<(N:Int):=by omega
        have k5:((a+t+1:Nat):Int)>((a+u:Nat):Int):=by omega
        have k6:IntKind.i64.wrap (((a+t+1:Nat):Int)-1)=((a+t:Nat):Int):=by
         rw[wI (by omega) (by omega)];omega
        rw[e1,show a+(t+1)=a+t+1 from rfl]
        simp only[go_sem,hL0,g1,g2,s1,s2,k1,k2,k3,k4,k5,k6]
        exact⟨t,⟨rfl,e2.symm⟩,⟨by omega,by omega⟩,by omega⟩
       ·obtain rfl:t=u:=by omega
        simp only[go_sem]
        rw[hres]
   ·obtain⟨M,hM⟩:∃M,M=(X.length+Y.length)/2:=⟨_,rfl⟩
    have hmid:(a+b)/2=a+M:=by omega
    have hxa:∀w,w<X.length→(P++X++Y++Q)[a+w]? =X[w]? :=fun w hw=>by
     rw[List.append_assoc,List.append_assoc,List.getElem?_append_right (by omega),List.getElem?_append_left (by omega)]
     congr 1;omega
    have hya:∀w,w<Y.length→(P++X++Y++Q)[m+w]? =Y[w]? :=fun w hw=>by
     rw[List.append_assoc,List.getElem?_append_right (by omega),List.getElem?_append_left (by omega)]
     congr 1;omega
    simp only[go_sem,shr1,K5j (i:=a) (j:=b) (by omega),hmid,wK (k:=a+M) (by omega),wN (a:=a+M) (b:=m) (by omega)]
    refine⟨fun h3=>?_,fun h3=>?_⟩
    ·have hs:IntKind.i64.wrap (((a+M+m:Nat):Int)-(b:Int))=((a+(M-Y.length):Nat):Int):=by
      rw[wI (by omega) (by omega)];omega
     simp only[go_sem,hs,wS1 (a:=a+M+m) (by omega) (by omega)]
     obtain⟨u0,hu0⟩:∃u,u=M-Y.length:=⟨_,rfl⟩
     obtain⟨v0,hv0⟩:∃v,v=M:=⟨_,rfl⟩
     rw[←hu0]
     have q1:u0≤v0:=by omega
     have q2:v0≤M:=by omega
     have q3:v0≤X.length:=by omega
     have q4:M≤u0+Y.length:=by omega
     have q5:u0=0∨Y.length≤M-u0:=by omega
     have q6:v0=M∨v0=X.length:=by omega
     have q7:a+M=a+v0:=by omega
     refine Ko (ι:=Nat×Nat) (fun s=>[(20,vI ((a+s.1:Nat):Int)),(21,vI ((a+s.2:Nat):Int))]) (fun s=>[]) (fun s=>SymI (ltc c) X Y M u0 v0 s.1 s.2) (fun s=>s.2-s.1) (u0,v0) ?_
     simp only[go_sem]
     refine⟨?_,⟨by omega,q1,by omega,q5.imp_right .inl,q6.imp_right .inl⟩,?_⟩
     ·simp only[go_sem]
      first|exact⟨by omega,by omega⟩|omega
     ·rintro ⟨u,v⟩ hI
      obtain⟨i1,i2,i3,i4,i5⟩:=hI
      simp only at i1 i2 i3 i4 i5
      simp only[go_sem,hN,shr1,K5j (i:=a+u) (j:=a+v) (by omega)]
      refine⟨fun hlt=>?_,fun hge=>?_⟩
      ·have hwx:(a+u+(a+v))/2=a+(u+v)/2:=by omega
       have w1:u≤(u+v)/2:=by omega
       have w2:(u+v)/2<v:=by omega
       rw[hwx]
       generalize (u+v)/2=w at w1 w2
       have hpc:IntKind.i64.wrap (((a+M+m-1:Nat):Int)-((a+w:Nat):Int))=((m+(M-1-w):Nat):Int):=by
        rw[wI (by omega) (by omega)];omega
       obtain⟨x,hx⟩:=Ke (show w<X.length by omega)
       obtain⟨y,hy⟩:=Ke (show M-1-w<Y.length by omega)
       have hxw:=(hxa w (by omega)).trans hx
       have hyw:=(hya (M-1-w) (by omega)).trans hy
       have k1:(0:Int)≤((a+w:Nat):Int):=by omega
       have k2:((a+w:Nat):Int)<(N:Int):=by omega
       have k3:(0:Int)≤((m+(M-1-w):Nat):Int):=by omega
       have k4:((m+(M-1-w):Nat):Int)<(N:Int):=by omega
       simp only[go_sem,wK (k:=a+w) (by omega),hpc,k1,k2,k3,k4,K4 hxw,K4 hyw]
       apply K0 (hc y x)
       simp only[go_sem,wN1 (a:=a+w) (by omega)]
       intro _
       refine⟨fun hn=>⟨(w+1,v),⟨rfl,rfl⟩,⟨by omega,by omega,i3,.inr (.inr ⟨y,x,by rw[show M-(w+1)=M-1-w by omega];exact hy,hx,by simpa[ltc]using hn⟩),i5⟩,by show v-(w+1)<v-u;omega⟩,fun hn=>⟨(u,w),⟨rfl,rfl⟩,⟨i1,w1,by omega,i4,.inr (.inr ⟨y,x,hy,hx,by simpa[ltc]using hn⟩)⟩,by show w-u<v-u;omega⟩⟩
      ·obtain rfl:u=v:=by omega
       obtain⟨A1,A2,B1,B2,rfl,rfl,hA1,hB1,huM,hres,t1,t2,t3,t4⟩:=SymI.fin hw ⟨i1,i2,i3,i4,i5⟩ sX sY q2 q3 q4
       have hend:IntKind.i64.wrap (((a+M+m:Nat):Int)-((a+u:Nat):Int))=((m+(M-u):Nat):Int):=by
        rw[wI (by omega) (by omega)];omega
       have r0:P++(A1++A2)++(B1++B2)++Q=(P++A1)++A2++B1++(B2++Q):=by simp
       have r1:(P++A1)++B1++A2++(B2++Q)=P++A1++B1++(A2++(B2++Q)):=by simp
       have r2:A2.length=0∨B1.length=0→P++(A1++A2)++(B1++B2)++Q=P++A1++B1++(A2++(B2++Q)):=fun h=>by
        rcases h with h|h
        ·rw[List.length_eq_zero_iff.1 h];simp
        ·rw[List.length_eq_zero_iff.1 h];simp
       have r3:A1.length=0∨B1.length=0→P++A1++B1++(A2++(B2++Q))=(P++Srt.mrg (ltc c) A1 B1)++A2++B2++Q:=fun h=>by
        rcases h with h|h
        ·rw[List.length_eq_zero_iff.1 h,Srt.mrg_nil_srt hw t3];simp
        ·rw[List.length_eq_zero_iff.1 h,Srt.mrg_nil];simp
       have r4:P++Srt.mrg (ltc c) A1 B1++(A2++(B2++Q))=(P++Srt.mrg (ltc c) A1 B1)++A2++B2++Q:=by simp
       have r5:A2.length=0∨B2.length=0→(P++Srt.mrg (ltc c) A1 B1)++A2++B2++Q=(P++Srt.mrg (ltc c) A1 B1)++Srt.mrg (ltc c) A2 B2++Q:=fun h=>by
        rcases h with h|h
        ·rw[List.length_eq_zero_iff.1 h,Srt.mrg_nil_srt hw t4];simp
        ·rw[List.length_eq_zero_iff.1 h,Srt.mrg_nil];simp
       have r6:P++Srt.mrg (ltc c) (A1++A2) (B1++B2)++Q=(P++Srt.mrg (ltc c) A1 B1)++Srt.mrg (ltc c) A2 B2++Q:=by rw[hres];simp
       obtain⟨⟨l0,l1,l2,l3,l4,l5⟩,⟨L1,L2,L3,L4,L5,L6,L7⟩,hn1,hn2,⟨eA,eB,eC,eD,eE,eF⟩,h7⟩:=symL (ltc c) ha hA1 hB1 huM hm' hb' hN hM hn h1 h2 hX hY
       clear hxa hya hres i4 i5
       rcases h7 with ⟨z1,z2,z3,z4⟩|⟨z1,z2,z3,z4⟩|⟨z1,z2,z3,z4⟩|⟨z1,z2,z3,z4⟩|⟨z1,z2,z3,z4⟩|⟨z1,z2,z3,z4⟩|⟨z1,z2,z3,z4⟩
       ·have fA:=K6 A2.length eA z2
        have fB:=K6 B1.length eB z3
        have fC:=K6 A1.length eC z1
        have fD:=K6 B1.length eD z3
        have fE:=K6 A2.length eE z2
        have fF:=K6 B2.length eF z4
        simp only[go_sem,hend,fA,fB,fC,fD,fE,fF]
        rw[r0]
        apply Kg (C4 (P++A1) A2 B1 (B2++Q) f L1 L2 L3 z2 z3)
        simp only[go_sem,fC,fD,l0]
        rw[r1]
        apply Kg (ih P A1 B1 (A2++(B2++Q)) hn1 ha L1 L4 z1 z3 t1 t3)
        simp only[go_sem,fE,fF,l4]
        rw[r4]
        apply Kg (ih (P++Srt.mrg (ltc c) A1 B1) A2 B2 Q hn2 L5 L6 L7 z2 z4 t2 t4)
        simp only[go_sem]
        rw[r6]
       ·have fA:=K6 A2.length eA z2
        have fB:=K6 B1.length eB z3
        have fC:=K1e A1.length eC z1
        have fD:=K6 B1.length eD z3
        have fE:=K6 A2.length eE z2
        have fF:=K6 B2.length eF z4
        simp only[go_sem,hend,fA,fB,fC,fD,fE,fF]
        rw[r0]
        apply Kg (C4 (P++A1) A2 B1 (B2++Q) f L1 L2 L3 z2 z3)
        simp only[go_sem,fC,fE,fF,l0]
        rw[r1]
        rw[r3 (.inl z1)]
        apply Kg (ih (P++Srt.mrg (ltc c) A1 B1) A2 B2 Q hn2 L5 L6 L7 z2 z4 t2 t4)
        simp only[go_sem]
        rw[r6]
       ·have fA:=K1e A2.length eA z2
        have fB:=K6 B1.length eB z3
        have fC:=K6 A1.length eC z1
        have fD:=K6 B1.length eD z3
        have fE:=K1e A2.length eE z2
        have fF:=K6 B2.length eF z4
        simp only[go_sem,hend,fA,fB,fC,fD,fE,fF]
        rw[r2 (.inl z2)]
        apply Kg (ih P A1 B1 (A2++(B2++Q)) hn1 ha L1 L4 z1 z3 t1 t3)
        simp only[go_sem,fE]
        rw[r4]
        rw[r5 (.inl z2)]
        rw[r6]
       ·have fA:=K6 A2.length eA z2
        have fB:=K1e B1.length eB z3
        have fC:=K6 A1.length eC z1
        have fD:=K1e B1.length eD z3
        have fE:=K6 A2.length eE z2
        have fF:=K6 B2.length eF z4
        simp only[go_sem,hend,fA,fB,fC,fD,fE,fF]
        rw[r2 (.inr z3)]
        rw[r3 (.inr z3)]
        apply Kg (ih (P++Srt.mrg (ltc c) A1 B1) A2 B2 Q hn2 L5 L6 L7 z2 z4 t2 t4)
        simp only[go_sem]
        rw[r6]
       ·have fA:=K6 A2.length eA z2
        have fB:=K6 B1.length eB z3
        have fC:=K6 A1.length eC z1
        have fD:=K6 B1.length eD z3
        have fE:=K6 A2.length eE z2
        have fF:=K1e B2.length eF z4
        simp only[go_sem,hend,fA,fB,fC,fD,fE,fF]
        rw[r0]
        apply Kg (C4 (P++A1) A2 B1 (B2++Q) f L1 L2 L3 z2 z3)
        simp only[go_sem,fC,fD,l0]
        rw[r1]
        apply Kg (ih P A1 B1 (A2++(B2++Q)) hn1 ha L1 L4 z1 z3 t1 t3)
        simp only[go_sem,fE,fF]
        rw[r4]
        rw[r5 (.inr z4)]
        rw[r6]
       ·have fA:=K6 A2.length eA z2
        have fB:=K6 B1.length eB z3
        have fC:=K1e A1.length eC z1
        have fD:=K6 B1.length eD z3
        have fE:=K6 A2.length eE z2
        have fF:=K1e B2.length eF z4
        simp only[go_sem,hend,fA,fB,fC,fD,fE,fF]
        rw[r0]
        apply Kg (C4 (P++A1) A2 B1 (B2++Q) f L1 L2 L3 z2 z3)
        simp only[go_sem,fC,fE,fF]
        rw[r1]
        rw[r3 (.inl z1)]
        rw[r5 (.inr z4)]
        rw[r6]
       ·have fA:=K1e A2.length eA z2
        have fB:=K1e B1.length eB z3
        have fC:=K6 A1.length eC z1
        have fD:=K1e B1.length eD z3
        have fE:=K1e A2.length eE z2
        have fF:=K6 B2.length eF z4
        simp only[go_sem,hend,fA,fB,fC,fD,fE,fF]
        rw[r2 (.inl z2)]
        rw[r3 (.inr z3)]
        rw[r5 (.inl z2)]
        rw[r6]
    ·simp only[go_sem,wS1 (a:=a+M+m) (by omega) (by omega)]
     obtain⟨u0,hu0⟩:∃u,u=0:=⟨_,rfl⟩
     obtain⟨v0,hv0⟩:∃v,v=X.length:=⟨_,rfl⟩
     have q1:u0≤v0:=by omega
     have q2:v0≤M:=by omega
     have q3:v0≤X.length:=by omega
     have q4:M≤u0+Y.length:=by omega
     have q5:u0=0∨Y.length≤M-u0:=by omega
     have q6:v0=M∨v0=X.length:=by omega
     refine Ko (ι:=Nat×Nat) (fun s=>[(20,vI ((a+s.1:Nat):Int)),(21,vI ((a+s.2:Nat):Int))]) (fun s=>[]) (fun s=>SymI (ltc c) X Y M u0 v0 s.1 s.2) (fun s=>s.2-s.1) (u0,v0) ?_
     simp only[go_sem]
     refine⟨?_,⟨by omega,q1,by omega,q5.imp_right .inl,q6.imp_right .inl⟩,?_⟩
     ·simp only[go_sem]
      first|exact⟨by omega,by omega⟩|omega
     ·rintro ⟨u,v⟩ hI
      obtain⟨i1,i2,i3,i4,i5⟩:=hI
      simp only at i1 i2 i3 i4 i5
      simp only[go_sem,hN,shr1,K5j (i:=a+u) (j:=a+v) (by omega)]
      refine⟨fun hlt=>?_,fun hge=>?_⟩
      ·have hwx:(a+u+(a+v))/2=a+(u+v)/2:=by omega
       have w1:u≤(u+v)/2:=by omega
       have w2:(u+v)/2<v:=by omega
       rw[hwx]
       generalize (u+v)/2=w at w1 w2
       have hpc:IntKind.i64.wrap (((a+M+m-1:Nat):Int)-((a+w:Nat):Int))=((m+(M-1-w):Nat):Int):=by
        rw[wI (by omega) (by omega)];omega
       obtain⟨x,hx⟩:=Ke (show w<X.length by omega)
       obtain⟨y,hy⟩:=Ke (show M-1-w<Y.length by omega)
       have hxw:=(hxa w (by omega)).trans hx
       have hyw:=(hya (M-1-w) (by omega)).trans hy
       have k1:(0:Int)≤((a+w:Nat):Int):=by omega
       have k2:((a+w:Nat):Int)<(N:Int):=by omega
       have k3:(0:Int)≤((m+(M-1-w):Nat):Int):=by omega
       have k4:((m+(M-1-w):Nat):Int)<(N:Int):=by omega
       simp only[go_sem,wK (k:=a+w) (by omega),hpc,k1,k2,k3,k4,K4 hxw,K4 hyw]
       apply K0 (hc y x)
       simp only[go_sem,wN1 (a:=a+w) (by omega)]
       intro _
       refine⟨fun hn=>⟨(w+1,v),⟨rfl,rfl⟩,⟨by omega,by omega,i3,.inr (.inr ⟨y,x,by rw[show M-(w+1)=M-1-w by omega];exact hy,hx,by simpa[ltc]using hn⟩),i5⟩,by show v-(w+1)<v-u;omega⟩,fun hn=>⟨(u,w),⟨rfl,rfl⟩,⟨i1,w1,by omega,i4,.inr (.inr ⟨y,x,hy,hx,by simpa[ltc]using hn⟩)⟩,by show w-u<v-u;omega⟩⟩
      ·obtain rfl:u=v:=by omega
       obtain⟨A1,A2,B1,B2,rfl,rfl,hA1,hB1,huM,hres,t1,t2,t3,t4⟩:=SymI.fin hw ⟨i1,i2,i3,i4,i5⟩ sX sY q2 q3 q4
       have hend:IntKind.i64.wrap (((a+M+m:Nat):Int)-((a+u:Nat):Int))=((m+(M-u):Nat):Int):=by
        rw[wI (by omega) (by omega)];omega
       have r0:P++(A1++A2)++(B1++B2)++Q=(P++A1)++A2++B1++(B2++Q):=by simp
       have r1:(P++A1)++B1++A2++(B2++Q)=P++A1++B1++(A2++(B2++Q)):=by simp
       have r2:A2.length=0∨B1.length=0→P++(A1++A2)++(B1++B2)++Q=P++A1++B1++(A2++(B2++Q)):=fun h=>by
        rcases h with h|h
        ·rw[List.length_eq_zero_iff.1 h];simp
        ·rw[List.length_eq_zero_iff.1 h];simp
       have r3:A1.length=0∨B1.length=0→P++A1++B1++(A2++(B2++Q))=(P++Srt.mrg (ltc c) A1 B1)++A2++B2++Q:=fun h=>by
        rcases h with h|h
        ·rw[List.length_eq_zero_iff.1 h,Srt.mrg_nil_srt hw t3];simp
        ·rw[List.length_eq_zero_iff.1 h,Srt.mrg_nil];simp
       have r4:P++Srt.mrg (ltc c) A1 B1++(A2++(B2++Q))=(P++Srt.mrg (ltc c) A1 B1)++A2++B2++Q:=by simp
       have r5:A2.length=0∨B2.length=0→(P++Srt.mrg (ltc c) A1 B1)++A2++B2++Q=(P++Srt.mrg (ltc c) A1 B1)++Srt.mrg (ltc c) A2 B2++Q:=fun h=>by
        rcases h with h|h
        ·rw[List.length_eq_zero_iff.1 h,Srt.mrg_nil_srt hw t4];simp
        ·rw[List.length_eq_zero_iff.1 h,Srt.mrg_nil];simp
       have r6:P++Srt.mrg (ltc c) (A1++A2) (B1++B2)++Q=(P++Srt.mrg (ltc c) A1 B1)++Srt.mrg (ltc c) A2 B2++Q:=by rw[hres];simp
       obtain⟨⟨l0,l1,l2,l3,l4,l5⟩,⟨L1,L2,L3,L4,L5,L6,L7⟩,hn1,hn2,⟨eA,eB,eC,eD,eE,eF⟩,h7⟩:=symL (ltc c) ha hA1 hB1 huM hm' hb' hN hM hn h1 h2 hX hY
       clear hxa hya hres i4 i5
       rcases h7 with ⟨z1,z2,z3,z4⟩|⟨z1,z2,z3,z4⟩|⟨z1,z2,z3,z4⟩|⟨z1,z2,z3,z4⟩|⟨z1,z2,z3,z4⟩|⟨z1,z2,z3,z4⟩|⟨z1,z2,z3,z4⟩
       ·have fA:=K6 A2.length eA z2
        have fB:=K6 B1.length eB z3
        have fC:=K6 A1.length eC z1
        have fD:=K6 B1.length eD z3
        have fE:=K6 A2.length eE z2
        have fF:=K6 B2.length eF z4
        simp only[go_sem,hend,fA,fB,fC,fD,fE,fF]
        rw[r0]
        apply Kg (C4 (P++A1) A2 B1 (B2++Q) f L1 L2 L3 z2 z3)
        simp only[go_sem,fC,fD,l0]
        rw[r1]
        apply Kg (ih P A1 B1 (A2++(B2++Q)) hn1 ha L1 L4 z1 z3 t1 t3)
        simp only[go_sem,fE,fF,l4]
        rw[r4]
        apply Kg (ih (P++Srt.mrg (ltc c) A1 B1) A2 B2 Q hn2 L5 L6 L7 z2 z4 t2 t4)
        simp only[go_sem]
        rw[r6]
       ·have fA:=K6 A2.length eA z2
        have fB:=K6 B1.length eB z3
        have fC:=K1e A1.length eC z1
        have fD:=K6 B1.length eD z3
        have fE:=K6 A2.length eE z2
        have fF:=K6 B2.length eF z4
        simp only[go_sem,hend,fA,fB,fC,fD,fE,fF]
        rw[r0]
        apply Kg (C4 (P++A1) A2 B1 (B2++Q) f L1 L2 L3 z2 z3)
        simp only[go_sem,fC,fE,fF,l0]
        rw[r1]
        rw[r3 (.inl z1)]
        apply Kg (ih (P++Srt.mrg (ltc c) A1 B1) A2 B2 Q hn2 L5 L6 L7 z2 z4 t2 t4)
        simp only[go_sem]
        rw[r6]
       ·have fA:=K1e A2.length eA z2
        have fB:=K6 B1.length eB z3
        have fC:=K6 A1.length eC z1
        have fD:=K6 B1.length eD z3
        have fE:=K1e A2.length eE z2
        have fF:=K6 B2.length eF z4
        simp only[go_sem,hend,fA,fB,fC,fD,fE,fF]
        rw[r2 (.inl z2)]
        apply Kg (ih P A1 B1 (A2++(B2++Q)) hn1 ha L1 L4 z1 z3 t1 t3)
        simp only[go_sem,fE]
        rw[r4]
        rw[r5 (.inl z2)]
        rw[r6]
       ·have fA:=K6 A2.length eA z2
        have fB:=K1e B1.length eB z3
        have fC:=K6 A1.length eC z1
        have fD:=K1e B1.length eD z3
        have fE:=K6 A2.length eE z2
        have fF:=K6 B2.length eF z4
        simp only[go_sem,hend,fA,fB,fC,fD,fE,fF]
        rw[r2 (.inr z3)]
        rw[r3 (.inr z3)]
        apply Kg (ih (P++Srt.mrg (ltc c) A1 B1) A2 B2 Q hn2 L5 L6 L7 z2 z4 t2 t4)
        simp only[go_sem]
        rw[r6]
       ·have fA:=K6 A2.length eA z2
        have fB:=K6 B1.length eB z3
        have fC:=K6 A1.length eC z1
        have fD:=K6 B1.length eD z3
        have fE:=K6 A2.length eE z2
        have fF:=K1e B2.length eF z4
        simp only[go_sem,hend,fA,fB,fC,fD,fE,fF]
        rw[r0]
        apply Kg (C4 (P++A1) A2 B1 (B2++Q) f L1 L2 L3 z2 z3)
        simp only[go_sem,fC,fD,l0]
        rw[r1]
        apply Kg (ih P A1 B1 (A2++(B2++Q)) hn1 ha L1 L4 z1 z3 t1 t3)
        simp only[go_sem,fE,fF]
        rw[r4]
        rw[r5 (.inr z4)]
        rw[r6]
       ·have fA:=K6 A2.length eA z2
        have fB:=K6 B1.length eB z3
        have fC:=K1e A1.length eC z1
        have fD:=K6 B1.length eD z3
        have fE:=K6 A2.length eE z2
        have fF:=K1e B2.length eF z4
        simp only[go_sem,hend,fA,fB,fC,fD,fE,fF]
        rw[r0]
        apply Kg (C4 (P++A1) A2 B1 (B2++Q) f L1 L2 L3 z2 z3)
        simp only[go_sem,fC,fE,fF]
        rw[r1]
        rw[r3 (.inl z1)]
        rw[r5 (.inr z4)]
        rw[r6]
       ·have fA:=K1e A2.length eA z2
        have fB:=K1e B1.length eB z3
        have fC:=K6 A1.length eC z1
        have fD:=K1e B1.length eD z3
        have fE:=K1e A2.length eE z2
        have fF:=K6 B2.length eF z4
        simp only[go_sem,hend,fA,fB,fC,fD,fE,fF]
        rw[r2 (.inl z2)]
        rw[r3 (.inr z3)]
        rw[r5 (.inl z2)]
        rw[r6]
end Go.Proofs.YtjneccbpkckdfaaGreatR
namespace Go.Proofs.YtjneccbpkckdfaaGreatR
open Go Go.RowKit Go.Proofs
open Nat (reduceEqDiff reduceLT reduceLeDiff reduceAdd reduceMul)
open List (reduceReplicate)
namespace Srt
variable {α:Type} {lt:α→α→Bool}
def blks(lt:α→α→Bool)(s:Nat):Nat→List α→List α
 |0,l=>l
 |k+1,l=>isort lt (l.take s)++blks lt s k (l.drop s)
theorem len_blks{s:Nat}:∀ {k:Nat} {l:List α},(blks lt s k l).length=l.length
 |0,l=>rfl
 |k+1,l=>by
  simp only[blks,List.length_append,len_isort,len_blks,List.length_take,List.length_drop];omega
theorem blks_snoc{s:Nat}:∀ {k:Nat} {l:List α},(k+1)*s≤l.length→∃A,A.length=k*s∧blks lt s k l=A++((l.drop (k*s)).take s++l.drop ((k+1)*s))∧blks lt s (k+1) l=A++(isort lt ((l.drop (k*s)).take s)++l.drop ((k+1)*s))
 |0,l,h=>⟨[],by simp,by simp[blks],by simp[blks]⟩
 |k+1,l,h=>by
  have h':(k+1)*s≤(l.drop s).length:=by
   rw[Nat.succ_mul]at h
   simp only[List.length_drop];omega
  obtain⟨A,hA,e1,e2⟩:=blks_snoc (k:=k) (l:=l.drop s) h'
  have d1:s+k*s=(k+1)*s:=by rw[Nat.succ_mul];omega
  have d2:s+(k+1)*s=(k+1+1)*s:=by rw[Nat.succ_mul (k+1)];omega
  have hs:s≤l.length:=by rw[Nat.succ_mul]at h;omega
  refine⟨isort lt (l.take s)++A,?_,?_,?_⟩
  ·rw[List.length_append,len_isort,List.length_take,Nat.min_eq_left hs,hA,d1]
  ·rw[blks,e1,List.drop_drop,List.drop_drop,d1,d2,List.append_assoc]
  ·rw[blks,e2,List.drop_drop,List.drop_drop,d1,d2,List.append_assoc]
theorem blks_last{s:Nat}:∀ {k:Nat} {l:List α},k*s≤l.length→l.length<(k+1)*s→∃A,A.length=k*s∧blks lt s k l=A++l.drop (k*s)∧blks lt s (k+1) l=A++isort lt (l.drop (k*s))
 |0,l,_,h=>by
  have h':l.length≤s:=by omega
  exact⟨[],by simp,by simp[blks],by simp[blks,List.take_of_length_le h',List.drop_of_length_le h']⟩
 |k+1,l,h0,h=>by
  have d1:s+k*s=(k+1)*s:=by rw[Nat.succ_mul];omega
  have d2:s+(k+1)*s=(k+1+1)*s:=by rw[Nat.succ_mul (k+1)];omega
  have h1:k*s+s≤l.length:=by rw[←Nat.succ_mul];exact h0
  have h2:l.length<k*s+s+s:=by rw[←Nat.succ_mul,←Nat.succ_mul];exact h
  obtain⟨A,hA,e1,e2⟩:=blks_last (k:=k) (l:=l.drop s) (Nat.le_trans (Nat.le_sub_of_add_le h1) (by rw[List.length_drop];exact Nat.le_refl _)) (by rw[List.length_drop,Nat.succ_mul];exact Nat.sub_lt_right_of_lt_add (Nat.le_trans (Nat.le_add_left _ _) h1) h2)
  have hs:s≤l.length:=Nat.le_trans (Nat.le_add_left _ _) h1
  refine⟨isort lt (l.take s)++A,?_,?_,?_⟩
  ·rw[List.length_append,len_isort,List.length_take,Nat.min_eq_left hs,hA,d1]
  ·rw[blks,e1,List.drop_drop,d1,List.append_assoc]
  ·rw[blks,e2,List.drop_drop,d1,List.append_assoc]
theorem blk_le{s:Nat}{l:List α}(h:l.length≤s):blk lt s l=isort lt l:=by
 rw[blk,dif_pos (.inr h)]
theorem K4c{s:Nat}{l:List α}:blk lt s l=isort lt (l.take s)++blk lt s (l.drop s):=by
 by_cases h:s=0∨l.length≤s
 ·rcases h with rfl|h
  ·simp[isort,mrg]
  ·rw[blk_le h,List.take_of_length_le h,List.drop_of_length_le h,blk_le (by simp)]
   simp[isort,mrg]
 ·rw[blk,dif_neg h]
theorem len_blk{s:Nat}:∀ {n:Nat} {l:List α},l.length≤n→(blk lt s l).length=l.length
 |0,l,h=>by rw[blk_le (by omega),len_isort]
 |n+1,l,h=>by
  by_cases h2:s=0∨l.length≤s
  ·rw[blk,dif_pos h2,len_isort]
  ·rw[K4c,List.length_append,len_isort,len_blk (n:=n) (by simp only[List.length_drop];omega),List.length_take,List.length_drop]
   omega
theorem blks_blk{s:Nat}:∀ {k:Nat} {l:List α},k*s≤l.length→l.length<(k+1)*s→blks lt s (k+1) l=blk lt s l
 |0,l,_,h=>by
  have h':l.length≤s:=by omega
  rw[blk_le h']
  simp[blks,List.take_of_length_le h',List.drop_of_length_le h']
 |k+1,l,h0,h=>by
  rw[Nat.succ_mul]at h0 h
  rw[blks,K4c,blks_blk (k:=k) (l:=l.drop s) (by rw[List.length_drop];omega) (by rw[List.length_drop];omega)]
def mix(lt:α→α→Bool)(s:Nat):Nat→List α→List α
 |0,l=>blk lt s l
 |k+1,l=>isort lt (l.take (2*s))++mix lt s k (l.drop (2*s))
theorem len_mix{s:Nat}:∀ {k:Nat} {l:List α},(mix lt s k l).length=l.length
 |0,l=>len_blk (Nat.le_refl _)
 |k+1,l=>by
  rw[mix,List.length_append,len_isort,len_mix,List.length_take,List.length_drop];omega
theorem mix_step(hw:Swo lt){s:Nat}:∀ {k:Nat} {l:List α},k*(2*s)+2*s≤l.length→∃P X Y Q,P.length=k*(2*s)∧X.length=s∧Y.length=s∧srt lt X∧srt lt Y∧mix lt s k l=P++X++Y++Q∧mix lt s (k+1) l=P++mrg lt X Y++Q
 |0,l,h=>by
  refine⟨[],isort lt (l.take s),isort lt ((l.drop s).take s),blk lt s (l.drop (2*s)),by simp,?_,?_,srt_isort hw _,srt_isort hw _,?_,?_⟩
  ·rw[len_isort,List.length_take];omega
  ·rw[len_isort,List.length_take,List.length_drop];omega
  ·rw[mix,K4c,K4c (l:=l.drop s),List.drop_drop,show s+s=2*s by omega]
   simp
  ·rw[←K6t hw,mix,mix,List.nil_append,←List.take_add,show s+s=2*s by omega]
 |k+1,l,h=>by
  have e:(k+1)*(2*s)=k*(2*s)+2*s:=Nat.succ_mul ..
  rw[e]at h
  obtain⟨P,X,Y,Q,h1,h2,h3,h4,h5,h6,h7⟩:=mix_step hw (s:=s) (k:=k) (l:=l.drop (2*s)) (by rw[List.length_drop];omega)
  refine⟨isort lt (l.take (2*s))++P,X,Y,Q,?_,h2,h3,h4,h5,?_,?_⟩
  ·rw[List.length_append,len_isort,h1,List.length_take,e];omega
  ·rw[mix,h6];simp
  ·rw[mix,h7];simp
theorem mix_end(hw:Swo lt){s:Nat}:∀ {k:Nat} {l:List α},k*(2*s)≤l.length→l.length<k*(2*s)+2*s→
  (k*(2*s)+s<l.length→∃P X Y,P.length=k*(2*s)∧X.length=s∧k*(2*s)+s+Y.length=l.length∧srt lt X∧srt lt Y∧mix lt s k l=P++X++Y∧blk lt (2*s) l=P++mrg lt X Y)∧
  (l.length≤k*(2*s)+s→mix lt s k l=blk lt (2*s) l)
 |0,l,h0,h=>by
  refine⟨fun h1=>⟨[],isort lt (l.take s),isort lt (l.drop s),by simp,?_,?_,srt_isort hw _,srt_isort hw _,?_,?_⟩,fun h1=>?_⟩
  ·rw[len_isort,List.length_take];omega
  ·rw[len_isort,List.length_drop];omega
  ·rw[mix,K4c,blk_le (l:=l.drop s) (by rw[List.length_drop];omega),List.nil_append]
  ·rw[←K6t hw,List.take_append_drop,blk_le (by omega),List.nil_append]
  ·rw[mix,blk_le (by omega),blk_le (by omega)]
 |k+1,l,h0,h=>by
  have e:(k+1)*(2*s)=k*(2*s)+2*s:=Nat.succ_mul ..
  rw[e]at h h0
  obtain⟨i1,i2⟩:=mix_end hw (s:=s) (k:=k) (l:=l.drop (2*s)) (by rw[List.length_drop];omega) (by rw[List.length_drop];omega)
  rw[List.length_drop]at i1 i2
  rw[e]
  refine⟨fun h1=>?_,fun h1=>?_⟩
  ·obtain⟨P,X,Y,h1,h2,h3,h4,h5,h6,h7⟩:=i1 (by omega)
   refine⟨isort lt (l.take (2*s))++P,X,Y,?_,h2,by omega,h4,h5,?_,?_⟩
   ·rw[List.length_append,len_isort,h1,List.length_take];omega
   ·rw[mix,h6];simp
   ·rw[K4c,h7];simp
  ·rw[mix,i2 (by omega),←K4c]
end Srt
def M1b:MC:=
(Zs [.mv 6 (ci 20)] [0,1,2,6] (Zs [mS 10 6,.mv 7 (ci 0),mS 8 10] [0,1,2,6,7,8] (.seq (.block 0 (.loop ([0,1,2,6,7,8],[]) (.seq (Zs [mS 11 8,mS 12 1,bS 13 .leq 11 12] [0,1,2,6,7,8,13] (cX 13 0))
(.block 1 (Zs [mS 14 0,mS 15 7,mS 16 8,mS 17 2,.callI 18 [] (.f N8) [.s 14,.s 15,.s 16,.s 17] [0] []] [0,1,2,6,8] (Zs [mS 19 8,mS 7 19] [0,1,2,6,7,8] (pr [mS 20 8,mS 21 6,bS 22 .add 20 21,mS 8 22] [0,1,2,6,7,8])))))))
(Zs [mS 23 0,mS 24 7,mS 25 1,mS 26 2,.callI 27 [] (.f N8) [.s 23,.s 24,.s 25,.s 26] [0] []] [0,1,2,6] (.block 2 (.loop ([0,1,2,6],[]) (.seq (Zs [mS 28 6,mS 29 1,bS 30 .lss 28 29] [0,1,2,6,30] (cX 30 2))
(.block 3 (Zs [mS 31 6,.bin 32 false .mul (ci 2) (.s 31),.mv 7 (ci 0),mS 8 32] [0,1,2,6,7,8] (.seq (.block 4 (.loop ([0,1,2,6,7,8],[]) (.seq (Zs [mS 33 8,mS 34 1,bS 35 .leq 33 34] [0,1,2,6,7,8,35] (cX 35 4))
(.block 5 (Zs [mS 36 0,mS 37 7,mS 38 7,mS 39 6,bS 40 .add 38 39,mS 41 8,mS 42 2,.callI 43 [] (.f N2) [.s 36,.s 37,.s 40,.s 41,.s 42] [0] []] [0,1,2,6,8] (Zs [mS 44 8,mS 7 44] [0,1,2,6,7,8] (pr [mS 45 8,mS 46 6,.bin 47 false .mul (ci 2) (.s 46),bS 48 .add 45 47,mS 8 48] [0,1,2,6,7,8])))))))
(.seq (Zs [mS 49 7,mS 50 6,bS 51 .add 49 50,mS 9 51] [0,1,2,6,7,9] (Zs [mS 52 9,mS 53 1,bS 54 .lss 52 53] [0,1,2,6,7,9,54] (.cond (.s 54) (pr [mS 55 0,mS 56 7,mS 57 9,mS 58 1,mS 59 2,.callI 60 [] (.f N2) [.s 55,.s 56,.s 57,.s 58,.s 59] [0] []] [0,1,2,6]) .skip)))
(pr [mS 61 6,bC 62 .mul 61 2,mS 6 62] [0,1,2,6]))))))))))))
set_option maxHeartbeats 4000000 in
theorem C6p(X:List GFound)(f:FuncId)(c:GFound→GFound→Int)(hc:∀x y,Ctr Tryz.prog f [aS x.enc,aS y.enc] [rI (c x y)])(hw:Srt.Swo (ltc c)):CtrI Tryz.prog N1d [oL 6 (X.map GFound.enc),iI X.length,fI f] [some (6,(Srt.isort (ltc c) X).map GFound.enc)] []:=by
 refine K44 (M:=M1b) (m:=0) (n:=63) (res:=[]) hmix Tryz.func239 rfl (by kernel_rfl) rfl (by kernel_rfl) (by kernel_rfl) (Nat.le_of_ble_eq_true rfl) rfl rfl ?_;unfold M1b
 intro hbd
 have hl:=K37 hbd
 clear hbd
 simp only[roomB]at hl
 simp only[go_sem]
 refine Ko (fun k:Nat=>[(7,vI ((k*20:Nat):Int)),(8,vI (((k+1)*20:Nat):Int))]) (fun k=>[(0,⟨1,.row true 6 ((Srt.blks (ltc c) 20 k X).map GFound.enc)⟩)]) (fun k=>k*20≤X.length) (fun k=>X.length-k*20) 0 ?_
 simp only[go_sem]
 refine⟨?_,by omega,?_⟩
 ·simp only[go_sem]
  exact⟨rfl,rfl⟩
 ·intro k hk
  simp only[go_sem,Srt.len_blks]
  refine⟨fun hlt=>?_,fun hge=>?_⟩
  ·obtain⟨A,hA,e1,e2⟩:=Srt.blks_snoc (lt:=ltc c) (s:=20) (k:=k) (l:=X) (by omega)
   have g1:=congrArg List.length e1
   have g2:=congrArg List.length e2
   rw[Srt.len_blks]at g1 g2
   rw[←List.append_assoc]at e1 e2 g1 g2
   rw[e1]
   apply Kg (C1m A _ _ f c hc hw hA (by simp[hA];omega))
   have w1:IntKind.i64.wrap ((((k+1)*20:Nat):Int)+20)=(((k+1+1)*20:Nat):Int):=by
    rw[wI (by omega) (by omega)];omega
   simp only[go_sem,w1]
   exact⟨k+1,⟨⟨rfl,rfl⟩,by rw[e2]⟩,by omega,by omega⟩
  ·obtain⟨A,hA,e1,e2⟩:=Srt.blks_last (lt:=ltc c) (s:=20) (k:=k) (l:=X) (by omega) (by omega)
   have g1:=congrArg List.length e1
   have g2:=congrArg List.length e2
   rw[Srt.len_blks]at g1 g2
   have e1':A++X.drop (k*20)=A++X.drop (k*20)++[]:=by simp
   rw[e1,e1']
   apply Kg (C1m A _ [] f c hc hw hA (by simp[hA];omega))
   rw[List.append_nil,←e2]
   rw[Srt.blks_blk (by omega) (by omega)]
   simp only[go_sem]
   refine Ko (fun s:Nat=>[(6,vI (s:Int))]) (fun s=>[(0,⟨1,.row true 6 ((Srt.blk (ltc c) s X).map GFound.enc)⟩)]) (fun s=>0<s∧s≤2*X.length+20) (fun s=>X.length-s) 20 ?_
   simp only[go_sem]
   refine⟨?_,⟨by omega,by omega⟩,?_⟩
   ·simp only[go_sem]
    first|rfl|exact⟨rfl,rfl⟩
   ·rintro s ⟨hs0,hs1⟩
    clear e1' e1 e2 g1 g2 hA A hge hk
    have w2:IntKind.i64.wrap (2*(s:Int))=((2*s:Nat):Int):=by rw[wI (by omega) (by omega)];omega
    have w3:IntKind.i64.wrap ((s:Int)*2)=((2*s:Nat):Int):=by rw[wI (by omega) (by omega)];omega
    simp only[go_sem,w2]
    refine⟨fun hlt=>?_,fun hge=>?_⟩
    ·refine Ko (fun k:Nat=>[(7,vI ((k*(2*s):Nat):Int)),(8,vI ((k*(2*s)+2*s:Nat):Int))]) (fun k=>[(0,⟨1,.row true 6 ((Srt.mix (ltc c) s k X).map GFound.enc)⟩)]) (fun k=>k*(2*s)≤X.length) (fun k=>X.length-k*(2*s)) 0 ?_
     simp only[go_sem]
     refine⟨?_,by omega,?_⟩
     ·simp only[go_sem]
      refine⟨⟨?_,?_⟩,rfl⟩
      ·rw[Nat.zero_mul];rfl
      ·rw[Nat.zero_mul,Nat.zero_add]
     ·intro k hk
      simp only[go_sem,Srt.len_mix,w3]
      refine⟨fun hle=>?_,fun hgt=>?_⟩
      ·obtain⟨P,A,B,Q,m1,m2,m3,m4,m5,m6,m7⟩:=Srt.mix_step hw (s:=s) (k:=k) (l:=X) (by omega)
       have g1:(P++A++B++Q).length=X.length:=by rw[←m6,Srt.len_mix]
       have g2:(P++Srt.mrg (ltc c) A B++Q).length=X.length:=by rw[←m7,Srt.len_mix]
       have wa:IntKind.i64.wrap (((k*(2*s):Nat):Int)+(s:Int))=((k*(2*s)+s:Nat):Int):=wN (by omega)
       have wb:IntKind.i64.wrap (((k*(2*s)+2*s:Nat):Int)+((2*s:Nat):Int))=(((k+1)*(2*s)+2*s:Nat):Int):=by
        rw[wN (by omega),Nat.succ_mul k (2*s)]
       rw[m6]
       simp only[go_sem,wa]
       apply Kg (C27 f c hc hw _ P A B Q (Nat.le_refl _) m1 (m:=k*(2*s)+s) (b:=k*(2*s)+2*s) (by rw[List.length_append];omega) (by rw[List.length_append,List.length_append];omega) (by omega) (by omega) m4 m5)
       simp only[go_sem]
       have hj:(k+1)*(2*s)=k*(2*s)+2*s:=Nat.succ_mul k (2*s)
       exact⟨k+1,⟨⟨by rw[hj],by rw[w2,wb]⟩,by rw[m7]⟩,by omega,by omega⟩
      ·obtain⟨i1,i2⟩:=Srt.mix_end hw (s:=s) (k:=k) (l:=X) hk (by omega)
       have wa:IntKind.i64.wrap (((k*(2*s):Nat):Int)+(s:Int))=((k*(2*s)+s:Nat):Int):=wN (by omega)
       simp only[go_sem,wa]
       refine⟨fun hlt2=>?_,fun hge2=>?_⟩
       ·obtain⟨P,A,B,m1,m2,m3,m4,m5,m6,m7⟩:=i1 (by omega)
        have g1:(P++A++B++[]).length=X.length:=by rw[List.append_nil,←m6,Srt.len_mix]
        have g2:(P++Srt.mrg (ltc c) A B++[]).length=X.length:=by rw[List.append_nil,←m7,Srt.len_blk (Nat.le_refl _)]
        rw[m6,←List.append_nil (P++A++B)]
        apply Kg (C27 f c hc hw _ P A B [] (Nat.le_refl _) m1 (m:=k*(2*s)+s) (b:=X.length) (by rw[List.length_append];omega) (by rw[List.length_append,List.length_append];omega) (by omega) (by omega) m4 m5)
        simp only[go_sem,w3]
        exact⟨2*s,⟨rfl,by rw[m7]⟩,⟨by omega,by omega⟩,by omega⟩
       ·exact⟨2*s,⟨rfl,by rw[i2 (by omega)]⟩,⟨by omega,by omega⟩,by omega⟩
    ·rw[Srt.blk_le (by omega)]
end Go.Proofs.YtjneccbpkckdfaaGreatR
namespace Go.Proofs.YtjneccbpkckdfaaGreatR
open Go Go.RowKit Go.Proofs
open Nat (reduceEqDiff reduceLT reduceLeDiff reduceAdd reduceMul)
open List (reduceReplicate)
def Mk:MC:=
(pr [mS 4 0,mS 5 0,nS 6 5,mS 7 1,.callI 8 [] (.f N1d) [.s 4,.s 6,.s 7] [0] []] [])
theorem C6d(X:List GFound)(f:FuncId)(c:GFound→GFound→Int)(hc:∀x y,Ctr Tryz.prog f [aS x.enc,aS y.enc] [rI (c x y)])(hw:Srt.Swo (ltc c)):CtrI Tryz.prog Nl [oL 6 (X.map GFound.enc),fI f] [some (6,(Srt.isort (ltc c) X).map GFound.enc)] []:=by
 refine K44 (M:=Mk) (m:=0) (n:=9) (res:=[]) hmix Tryz.func128 rfl (by kernel_rfl) rfl (by kernel_rfl) (by kernel_rfl) (Nat.le_of_ble_eq_true rfl) rfl rfl ?_;unfold Mk
 intro hbd
 have hl:=K37 hbd
 clear hbd
 simp only[roomB]at hl
 simp only[go_sem]
 apply Kg (C6p X f c hc hw)
 simp only[go_sem]
 try intros
 try trivial
end Go.Proofs.YtjneccbpkckdfaaGreatR
