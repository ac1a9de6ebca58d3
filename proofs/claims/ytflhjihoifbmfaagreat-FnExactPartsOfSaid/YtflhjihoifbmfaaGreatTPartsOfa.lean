/- What the functions compute that the laws of PartsOf reach: contracts. Conditions stand in each theorem. -/
import Derived.Test.YtflhjihoifbmfaaGreatProg
import Derived.KernelRfl
import Derived.Shelf.Sort.Plain
import Derived.Ground.Names2Prog
import Derived.Shelf.Slices.CompactI
import Derived.Shelf.Slices.In.SortNone
import Derived.Test.YtflhjihoifbmfaaGreatRPartsOfc
set_option linter.unusedVariables false
set_option linter.unusedSimpArgs false
namespace Go.Proofs.YtflhjihoifbmfaaGreatR
open Go Go.RowKit
attribute [go_sem ↓] bk_bind K5u bk_ite K33
def Za(o:MO):MOp:={o:=o}
def Zb(k:Nat)(b:Bool)(o:MO):MOp:={o:=o,g:=some (k,b)}
def Zc(h:List Nat)(o:MO):MOp:={o:=o,hs:=h}
def Zd(h b:List Nat)(o:MO):MOp:={o:=o,hs:=h,bf:=b}
def Ze(b:List Nat)(o:MO):MOp:={o:=o,bf:=b}
def Zf(h g:List Nat)(o:MO):MOp:={o:=o,hs:=h,ho:=g}
def Zg(h g b:List Nat)(o:MO):MOp:={o:=o,hs:=h,ho:=g,bf:=b}
def pz:SC:= .pl (.sc (.int .i64 0))
def ci(n:Int):Od:= .c (.int .i64 n)
def cT:Od:= .c (.bool true)
def cF:Od:= .c (.bool false)
attribute [go_sem] Nat.reduceEqDiff Nat.reduceLT Nat.reduceLeDiff Nat.reduceAdd Nat.reduceMul reduceCtorEq List.reduceReplicate
attribute [go_sem ↓] reduceIte
attribute [go_sem] Za Zb Zc Zd Ze Zf Zg pz ci cT cF
def mS(d a:Nat):MO:= .mv d (.s a)
def lF(d k a:Nat):MO:= .load d false k (.s a)
def lT(d k a:Nat):MO:= .load d true k (.s a)
def fS(d a k:Nat):MO:= .fld d (.s a) k
def xS(d k a b:Nat):MO:= .idx d k (.s a) (.s b)
def nS(d a:Nat):MO:= .len d false (.s a)
def bS(d:Nat)(o:BinOp)(a b:Nat):MO:= .bin d false o (.s a) (.s b)
def bC(d:Nat)(o:BinOp)(a:Nat)(b:Int):MO:= .bin d false o (.s a) (.c (.int .i64 b))
def sS(k a b:Nat):MO:= .store k (.s a) (.s b)
def cX(a k:Nat):MC:= .cond (.s a) .skip (.exit k)
def Zs(l:List MO)(h:List Nat)(c:MC):MC:= .seq (pr l h) c
attribute [go_sem] mS lF lT fS xS nS bS bC sS cX Zs
open Nat (reduceEqDiff reduceLT reduceLeDiff reduceAdd reduceMul)
open List (reduceReplicate)
def encI(n:Int):List T:=[tI n]
def encB(b:Bool):List T:=[tB b]
theorem K2y{ts:List T}(h:IsT .int ts):∃n,ts=encI n:=h
theorem Km{α:Type}{enc:α→List T}{ty:DT}(h:∀ {ts},IsT ty ts→∃x,ts=enc x):∀ {es:List (List T)},(∀x∈es,IsT ty x)→∃xs:List α,es=xs.map enc
 | [],_=>⟨[],rfl⟩
 |e::es,k=>by
  obtain⟨x,rfl⟩:=h (k e (by simp))
  obtain⟨xs,hx⟩:=Km h (es:=es) fun y hy=>k y (by simp[hy])
  subst hx
  exact⟨x::xs,rfl⟩
structure GAddress where
 Host:Int
 Path:Int
 Query:Int
 deriving DecidableEq
def GAddress.enc(x:GAddress):List T:=[tI x.Host,tI x.Path,tI x.Query]
def GAddress.dt:DT:= .st (.fc .int (.fc .int (.fc .int .fn)))
theorem GAddress.of{ts:List T}(h:IsT GAddress.dt ts):∃x:GAddress,ts=x.enc:=by
 simp only[GAddress.dt,IsT]at h
 obtain⟨_,_,rfl,⟨v0,rfl⟩,_,_,rfl,⟨v1,rfl⟩,_,_,rfl,⟨v2,rfl⟩,rfl⟩:=h
 exact⟨⟨v0,v1,v2⟩,rfl⟩
theorem GAddress.eqv{x y:GAddress}:x=y↔x.Host=y.Host∧x.Path=y.Path∧x.Query=y.Query:=by
 constructor
 ·rintro rfl;simp
 ·intro h
  rcases x with ⟨aHost,aPath,aQuery⟩
  rcases y with ⟨bHost,bPath,bQuery⟩
  simp only at h
  obtain⟨rfl,rfl,rfl⟩:=h
  rfl
structure GResource where
 Kind:Int
 Body:List Int
 To:GAddress
 deriving DecidableEq
def GResource.enc(x:GResource):List T:=[tI x.Kind,.sl 1 (x.Body.map encI),tI x.To.Host,tI x.To.Path,tI x.To.Query]
def GResource.dt:DT:= .st (.fc .int (.fc (.sl .int) (.fc GAddress.dt .fn)))
theorem GResource.of{ts:List T}(h:IsT GResource.dt ts):∃x:GResource,ts=x.enc:=by
 simp only[GResource.dt,IsT]at h
 obtain⟨_,_,rfl,⟨v0,rfl⟩,_,_,rfl,⟨l1,rfl,k1⟩,_,_,rfl,k2,rfl⟩:=h
 obtain⟨v1,rfl⟩:=Km K2y k1
 obtain⟨v2,rfl⟩:=GAddress.of k2
 exact⟨⟨v0,v1,v2⟩,rfl⟩
theorem GResource.eqv{x y:GResource}:x=y↔x.Kind=y.Kind∧x.Body=y.Body∧x.To.Host=y.To.Host∧x.To.Path=y.To.Path∧x.To.Query=y.To.Query:=by
 constructor
 ·rintro rfl;simp
 ·intro h
  rcases x with ⟨aKind,aBody,⟨aToHost,aToPath,aToQuery⟩⟩
  rcases y with ⟨bKind,bBody,⟨bToHost,bToPath,bToQuery⟩⟩
  simp only at h
  obtain⟨rfl,rfl,rfl,rfl,rfl⟩:=h
  rfl
def GResource.size(x:GResource):Nat:=(x.Body.length)
structure GPart where
 Digest:Int
 Resource:GResource
 Uses:Int
 deriving DecidableEq
def GPart.enc(x:GPart):List T:=[tI x.Digest,tI x.Resource.Kind,.sl 1 (x.Resource.Body.map encI),tI x.Resource.To.Host,tI x.Resource.To.Path,tI x.Resource.To.Query,tI x.Uses]
def GPart.dt:DT:= .st (.fc .int (.fc GResource.dt (.fc .int .fn)))
theorem GPart.of{ts:List T}(h:IsT GPart.dt ts):∃x:GPart,ts=x.enc:=by
 simp only[GPart.dt,IsT]at h
 obtain⟨_,_,rfl,⟨v0,rfl⟩,_,_,rfl,k1,_,_,rfl,⟨v2,rfl⟩,rfl⟩:=h
 obtain⟨v1,rfl⟩:=GResource.of k1
 exact⟨⟨v0,v1,v2⟩,rfl⟩
theorem GPart.eqv{x y:GPart}:x=y↔x.Digest=y.Digest∧x.Resource.Kind=y.Resource.Kind∧x.Resource.Body=y.Resource.Body∧x.Resource.To.Host=y.Resource.To.Host∧x.Resource.To.Path=y.Resource.To.Path∧x.Resource.To.Query=y.Resource.To.Query∧x.Uses=y.Uses:=by
 constructor
 ·rintro rfl;simp
 ·intro h
  rcases x with ⟨aDigest,⟨aResourceKind,aResourceBody,⟨aResourceToHost,aResourceToPath,aResourceToQuery⟩⟩,aUses⟩
  rcases y with ⟨bDigest,⟨bResourceKind,bResourceBody,⟨bResourceToHost,bResourceToPath,bResourceToQuery⟩⟩,bUses⟩
  simp only at h
  obtain⟨rfl,rfl,rfl,rfl,rfl,rfl,rfl⟩:=h
  rfl
def GPart.size(x:GPart):Nat:=(x.Resource.size)
structure GPiece where
 From:Int
 Count:Int
 New:List Int
 deriving DecidableEq
def GPiece.enc(x:GPiece):List T:=[tI x.From,tI x.Count,.sl 1 (x.New.map encI)]
def GPiece.dt:DT:= .st (.fc .int (.fc .int (.fc (.sl .int) .fn)))
theorem GPiece.of{ts:List T}(h:IsT GPiece.dt ts):∃x:GPiece,ts=x.enc:=by
 simp only[GPiece.dt,IsT]at h
 obtain⟨_,_,rfl,⟨v0,rfl⟩,_,_,rfl,⟨v1,rfl⟩,_,_,rfl,⟨l2,rfl,k2⟩,rfl⟩:=h
 obtain⟨v2,rfl⟩:=Km K2y k2
 exact⟨⟨v0,v1,v2⟩,rfl⟩
theorem GPiece.eqv{x y:GPiece}:x=y↔x.From=y.From∧x.Count=y.Count∧x.New=y.New:=by
 constructor
 ·rintro rfl;simp
 ·intro h
  rcases x with ⟨aFrom,aCount,aNew⟩
  rcases y with ⟨bFrom,bCount,bNew⟩
  simp only at h
  obtain⟨rfl,rfl,rfl⟩:=h
  rfl
def GPiece.size(x:GPiece):Nat:=(x.New.length)
structure GVersion where
 Address:GAddress
 From:Int
 Resource:GResource
 deriving DecidableEq
def GVersion.enc(x:GVersion):List T:=[tI x.Address.Host,tI x.Address.Path,tI x.Address.Query,tI x.From,tI x.Resource.Kind,.sl 1 (x.Resource.Body.map encI),tI x.Resource.To.Host,tI x.Resource.To.Path,tI x.Resource.To.Query]
def GVersion.dt:DT:= .st (.fc GAddress.dt (.fc .int (.fc GResource.dt .fn)))
theorem GVersion.of{ts:List T}(h:IsT GVersion.dt ts):∃x:GVersion,ts=x.enc:=by
 simp only[GVersion.dt,IsT]at h
 obtain⟨_,_,rfl,k0,_,_,rfl,⟨v1,rfl⟩,_,_,rfl,k2,rfl⟩:=h
 obtain⟨v0,rfl⟩:=GAddress.of k0
 obtain⟨v2,rfl⟩:=GResource.of k2
 exact⟨⟨v0,v1,v2⟩,rfl⟩
theorem GVersion.eqv{x y:GVersion}:x=y↔x.Address.Host=y.Address.Host∧x.Address.Path=y.Address.Path∧x.Address.Query=y.Address.Query∧x.From=y.From∧x.Resource.Kind=y.Resource.Kind∧x.Resource.Body=y.Resource.Body∧x.Resource.To.Host=y.Resource.To.Host∧x.Resource.To.Path=y.Resource.To.Path∧x.Resource.To.Query=y.Resource.To.Query:=by
 constructor
 ·rintro rfl;simp
 ·intro h
  rcases x with ⟨⟨aAddressHost,aAddressPath,aAddressQuery⟩,aFrom,⟨aResourceKind,aResourceBody,⟨aResourceToHost,aResourceToPath,aResourceToQuery⟩⟩⟩
  rcases y with ⟨⟨bAddressHost,bAddressPath,bAddressQuery⟩,bFrom,⟨bResourceKind,bResourceBody,⟨bResourceToHost,bResourceToPath,bResourceToQuery⟩⟩⟩
  simp only at h
  obtain⟨rfl,rfl,rfl,rfl,rfl,rfl,rfl,rfl,rfl⟩:=h
  rfl
def GVersion.size(x:GVersion):Nat:=(x.Resource.size)
structure GOp where
 Kind:Int
 A:Int
 B:Int
 C:Int
 deriving DecidableEq
def GOp.enc(x:GOp):List T:=[tI x.Kind,tI x.A,tI x.B,tI x.C]
def GOp.dt:DT:= .st (.fc .int (.fc .int (.fc .int (.fc .int .fn))))
theorem GOp.of{ts:List T}(h:IsT GOp.dt ts):∃x:GOp,ts=x.enc:=by
 simp only[GOp.dt,IsT]at h
 obtain⟨_,_,rfl,⟨v0,rfl⟩,_,_,rfl,⟨v1,rfl⟩,_,_,rfl,⟨v2,rfl⟩,_,_,rfl,⟨v3,rfl⟩,rfl⟩:=h
 exact⟨⟨v0,v1,v2,v3⟩,rfl⟩
theorem GOp.eqv{x y:GOp}:x=y↔x.Kind=y.Kind∧x.A=y.A∧x.B=y.B∧x.C=y.C:=by
 constructor
 ·rintro rfl;simp
 ·intro h
  rcases x with ⟨aKind,aA,aB,aC⟩
  rcases y with ⟨bKind,bA,bB,bC⟩
  simp only at h
  obtain⟨rfl,rfl,rfl,rfl⟩:=h
  rfl
structure GState where
 Pc:Int
 Regs:List Int
 Slots:List Int
 Nodes:List Int
 deriving DecidableEq
def GState.enc(x:GState):List T:=[tI x.Pc,.sl 1 (x.Regs.map encI),.sl 1 (x.Slots.map encI),.sl 1 (x.Nodes.map encI)]
def GState.dt:DT:= .st (.fc .int (.fc (.sl .int) (.fc (.sl .int) (.fc (.sl .int) .fn))))
theorem GState.of{ts:List T}(h:IsT GState.dt ts):∃x:GState,ts=x.enc:=by
 simp only[GState.dt,IsT]at h
 obtain⟨_,_,rfl,⟨v0,rfl⟩,_,_,rfl,⟨l1,rfl,k1⟩,_,_,rfl,⟨l2,rfl,k2⟩,_,_,rfl,⟨l3,rfl,k3⟩,rfl⟩:=h
 obtain⟨v1,rfl⟩:=Km K2y k1
 obtain⟨v2,rfl⟩:=Km K2y k2
 obtain⟨v3,rfl⟩:=Km K2y k3
 exact⟨⟨v0,v1,v2,v3⟩,rfl⟩
theorem GState.eqv{x y:GState}:x=y↔x.Pc=y.Pc∧x.Regs=y.Regs∧x.Slots=y.Slots∧x.Nodes=y.Nodes:=by
 constructor
 ·rintro rfl;simp
 ·intro h
  rcases x with ⟨aPc,aRegs,aSlots,aNodes⟩
  rcases y with ⟨bPc,bRegs,bSlots,bNodes⟩
  simp only at h
  obtain⟨rfl,rfl,rfl,rfl⟩:=h
  rfl
def GState.size(x:GState):Nat:=(x.Regs.length)+(x.Slots.length)+(x.Nodes.length)
structure GVisit where
 Site:List GVersion
 Tick:Int
 Seed:Int
 Inputs:List Int
 deriving DecidableEq
def GVisit.enc(x:GVisit):List T:=[.sl 9 (x.Site.map GVersion.enc),tI x.Tick,tI x.Seed,.sl 1 (x.Inputs.map encI)]
def GVisit.dt:DT:= .st (.fc (.sl GVersion.dt) (.fc .int (.fc .int (.fc (.sl .int) .fn))))
theorem GVisit.of{ts:List T}(h:IsT GVisit.dt ts):∃x:GVisit,ts=x.enc:=by
 simp only[GVisit.dt,IsT]at h
 obtain⟨_,_,rfl,⟨l0,rfl,k0⟩,_,_,rfl,⟨v1,rfl⟩,_,_,rfl,⟨v2,rfl⟩,_,_,rfl,⟨l3,rfl,k3⟩,rfl⟩:=h
 obtain⟨v0,rfl⟩:=Km GVersion.of k0
 obtain⟨v3,rfl⟩:=Km K2y k3
 exact⟨⟨v0,v1,v2,v3⟩,rfl⟩
theorem GVisit.eqv{x y:GVisit}:x=y↔x.Site=y.Site∧x.Tick=y.Tick∧x.Seed=y.Seed∧x.Inputs=y.Inputs:=by
 constructor
 ·rintro rfl;simp
 ·intro h
  rcases x with ⟨aSite,aTick,aSeed,aInputs⟩
  rcases y with ⟨bSite,bTick,bSeed,bInputs⟩
  simp only at h
  obtain⟨rfl,rfl,rfl,rfl⟩:=h
  rfl
def GVisit.size(x:GVisit):Nat:=(x.Site.length+(x.Site.map GVersion.size).sum)+(x.Inputs.length)
structure GWant where
 Kind:Int
 Address:GAddress
 deriving DecidableEq
def GWant.enc(x:GWant):List T:=[tI x.Kind,tI x.Address.Host,tI x.Address.Path,tI x.Address.Query]
def GWant.dt:DT:= .st (.fc .int (.fc GAddress.dt .fn))
theorem GWant.of{ts:List T}(h:IsT GWant.dt ts):∃x:GWant,ts=x.enc:=by
 simp only[GWant.dt,IsT]at h
 obtain⟨_,_,rfl,⟨v0,rfl⟩,_,_,rfl,k1,rfl⟩:=h
 obtain⟨v1,rfl⟩:=GAddress.of k1
 exact⟨⟨v0,v1⟩,rfl⟩
theorem GWant.eqv{x y:GWant}:x=y↔x.Kind=y.Kind∧x.Address.Host=y.Address.Host∧x.Address.Path=y.Address.Path∧x.Address.Query=y.Address.Query:=by
 constructor
 ·rintro rfl;simp
 ·intro h
  rcases x with ⟨aKind,⟨aAddressHost,aAddressPath,aAddressQuery⟩⟩
  rcases y with ⟨bKind,⟨bAddressHost,bAddressPath,bAddressQuery⟩⟩
  simp only at h
  obtain⟨rfl,rfl,rfl,rfl⟩:=h
  rfl
structure GEntry where
 Kind:Int
 Address:GAddress
 Value:Int
 deriving DecidableEq
def GEntry.enc(x:GEntry):List T:=[tI x.Kind,tI x.Address.Host,tI x.Address.Path,tI x.Address.Query,tI x.Value]
def GEntry.dt:DT:= .st (.fc .int (.fc GAddress.dt (.fc .int .fn)))
theorem GEntry.of{ts:List T}(h:IsT GEntry.dt ts):∃x:GEntry,ts=x.enc:=by
 simp only[GEntry.dt,IsT]at h
 obtain⟨_,_,rfl,⟨v0,rfl⟩,_,_,rfl,k1,_,_,rfl,⟨v2,rfl⟩,rfl⟩:=h
 obtain⟨v1,rfl⟩:=GAddress.of k1
 exact⟨⟨v0,v1,v2⟩,rfl⟩
theorem GEntry.eqv{x y:GEntry}:x=y↔x.Kind=y.Kind∧x.Address.Host=y.Address.Host∧x.Address.Path=y.Address.Path∧x.Address.Query=y.Address.Query∧x.Value=y.Value:=by
 constructor
 ·rintro rfl;simp
 ·intro h
  rcases x with ⟨aKind,⟨aAddressHost,aAddressPath,aAddressQuery⟩,aValue⟩
  rcases y with ⟨bKind,⟨bAddressHost,bAddressPath,bAddressQuery⟩,bValue⟩
  simp only at h
  obtain⟨rfl,rfl,rfl,rfl,rfl⟩:=h
  rfl
structure GCapture where
 Address:GAddress
 Tick:Int
 Resource:GResource
 deriving DecidableEq
def GCapture.enc(x:GCapture):List T:=[tI x.Address.Host,tI x.Address.Path,tI x.Address.Query,tI x.Tick,tI x.Resource.Kind,.sl 1 (x.Resource.Body.map encI),tI x.Resource.To.Host,tI x.Resource.To.Path,tI x.Resource.To.Query]
def GCapture.dt:DT:= .st (.fc GAddress.dt (.fc .int (.fc GResource.dt .fn)))
theorem GCapture.of{ts:List T}(h:IsT GCapture.dt ts):∃x:GCapture,ts=x.enc:=by
 simp only[GCapture.dt,IsT]at h
 obtain⟨_,_,rfl,k0,_,_,rfl,⟨v1,rfl⟩,_,_,rfl,k2,rfl⟩:=h
 obtain⟨v0,rfl⟩:=GAddress.of k0
 obtain⟨v2,rfl⟩:=GResource.of k2
 exact⟨⟨v0,v1,v2⟩,rfl⟩
theorem GCapture.eqv{x y:GCapture}:x=y↔x.Address.Host=y.Address.Host∧x.Address.Path=y.Address.Path∧x.Address.Query=y.Address.Query∧x.Tick=y.Tick∧x.Resource.Kind=y.Resource.Kind∧x.Resource.Body=y.Resource.Body∧x.Resource.To.Host=y.Resource.To.Host∧x.Resource.To.Path=y.Resource.To.Path∧x.Resource.To.Query=y.Resource.To.Query:=by
 constructor
 ·rintro rfl;simp
 ·intro h
  rcases x with ⟨⟨aAddressHost,aAddressPath,aAddressQuery⟩,aTick,⟨aResourceKind,aResourceBody,⟨aResourceToHost,aResourceToPath,aResourceToQuery⟩⟩⟩
  rcases y with ⟨⟨bAddressHost,bAddressPath,bAddressQuery⟩,bTick,⟨bResourceKind,bResourceBody,⟨bResourceToHost,bResourceToPath,bResourceToQuery⟩⟩⟩
  simp only at h
  obtain⟨rfl,rfl,rfl,rfl,rfl,rfl,rfl,rfl,rfl⟩:=h
  rfl
def GCapture.size(x:GCapture):Nat:=(x.Resource.size)
structure GChoice where
 Rule:Int
 At:Int
 deriving DecidableEq
def GChoice.enc(x:GChoice):List T:=[tI x.Rule,tI x.At]
def GChoice.dt:DT:= .st (.fc .int (.fc .int .fn))
theorem GChoice.of{ts:List T}(h:IsT GChoice.dt ts):∃x:GChoice,ts=x.enc:=by
 simp only[GChoice.dt,IsT]at h
 obtain⟨_,_,rfl,⟨v0,rfl⟩,_,_,rfl,⟨v1,rfl⟩,rfl⟩:=h
 exact⟨⟨v0,v1⟩,rfl⟩
theorem GChoice.eqv{x y:GChoice}:x=y↔x.Rule=y.Rule∧x.At=y.At:=by
 constructor
 ·rintro rfl;simp
 ·intro h
  rcases x with ⟨aRule,aAt⟩
  rcases y with ⟨bRule,bAt⟩
  simp only at h
  obtain⟨rfl,rfl⟩:=h
  rfl
structure GWander where
 State:GState
 Choices:List GChoice
 Labels:List Int
 Missing:Int
 deriving DecidableEq
def GWander.enc(x:GWander):List T:=[tI x.State.Pc,.sl 1 (x.State.Regs.map encI),.sl 1 (x.State.Slots.map encI),.sl 1 (x.State.Nodes.map encI),.sl 2 (x.Choices.map GChoice.enc),.sl 1 (x.Labels.map encI),tI x.Missing]
def GWander.dt:DT:= .st (.fc GState.dt (.fc (.sl GChoice.dt) (.fc (.sl .int) (.fc .int .fn))))
theorem GWander.of{ts:List T}(h:IsT GWander.dt ts):∃x:GWander,ts=x.enc:=by
 simp only[GWander.dt,IsT]at h
 obtain⟨_,_,rfl,k0,_,_,rfl,⟨l1,rfl,k1⟩,_,_,rfl,⟨l2,rfl,k2⟩,_,_,rfl,⟨v3,rfl⟩,rfl⟩:=h
 obtain⟨v0,rfl⟩:=GState.of k0
 obtain⟨v1,rfl⟩:=Km GChoice.of k1
 obtain⟨v2,rfl⟩:=Km K2y k2
 exact⟨⟨v0,v1,v2,v3⟩,rfl⟩
theorem GWander.eqv{x y:GWander}:x=y↔x.State.Pc=y.State.Pc∧x.State.Regs=y.State.Regs∧x.State.Slots=y.State.Slots∧x.State.Nodes=y.State.Nodes∧x.Choices=y.Choices∧x.Labels=y.Labels∧x.Missing=y.Missing:=by
 constructor
 ·rintro rfl;simp
 ·intro h
  rcases x with ⟨⟨aStatePc,aStateRegs,aStateSlots,aStateNodes⟩,aChoices,aLabels,aMissing⟩
  rcases y with ⟨⟨bStatePc,bStateRegs,bStateSlots,bStateNodes⟩,bChoices,bLabels,bMissing⟩
  simp only at h
  obtain⟨rfl,rfl,rfl,rfl,rfl,rfl,rfl⟩:=h
  rfl
def GWander.size(x:GWander):Nat:=(x.State.size)+(x.Choices.length)+(x.Labels.length)
structure GModel where
 Base:Int
 Step:Int
 Seen:Int
 Fits:Bool
 deriving DecidableEq
def GModel.enc(x:GModel):List T:=[tI x.Base,tI x.Step,tI x.Seen,tB x.Fits]
def GModel.dt:DT:= .st (.fc .int (.fc .int (.fc .int (.fc .bool .fn))))
theorem GModel.of{ts:List T}(h:IsT GModel.dt ts):∃x:GModel,ts=x.enc:=by
 simp only[GModel.dt,IsT]at h
 obtain⟨_,_,rfl,⟨v0,rfl⟩,_,_,rfl,⟨v1,rfl⟩,_,_,rfl,⟨v2,rfl⟩,_,_,rfl,⟨v3,rfl⟩,rfl⟩:=h
 exact⟨⟨v0,v1,v2,v3⟩,rfl⟩
theorem GModel.eqv{x y:GModel}:x=y↔x.Base=y.Base∧x.Step=y.Step∧x.Seen=y.Seen∧x.Fits=y.Fits:=by
 constructor
 ·rintro rfl;simp
 ·intro h
  rcases x with ⟨aBase,aStep,aSeen,aFits⟩
  rcases y with ⟨bBase,bStep,bSeen,bFits⟩
  simp only at h
  obtain⟨rfl,rfl,rfl,rfl⟩:=h
  rfl
structure GShown where
 Tick:Int
 Address:GAddress
 deriving DecidableEq
def GShown.enc(x:GShown):List T:=[tI x.Tick,tI x.Address.Host,tI x.Address.Path,tI x.Address.Query]
def GShown.dt:DT:= .st (.fc .int (.fc GAddress.dt .fn))
theorem GShown.of{ts:List T}(h:IsT GShown.dt ts):∃x:GShown,ts=x.enc:=by
 simp only[GShown.dt,IsT]at h
 obtain⟨_,_,rfl,⟨v0,rfl⟩,_,_,rfl,k1,rfl⟩:=h
 obtain⟨v1,rfl⟩:=GAddress.of k1
 exact⟨⟨v0,v1⟩,rfl⟩
theorem GShown.eqv{x y:GShown}:x=y↔x.Tick=y.Tick∧x.Address.Host=y.Address.Host∧x.Address.Path=y.Address.Path∧x.Address.Query=y.Address.Query:=by
 constructor
 ·rintro rfl;simp
 ·intro h
  rcases x with ⟨aTick,⟨aAddressHost,aAddressPath,aAddressQuery⟩⟩
  rcases y with ⟨bTick,⟨bAddressHost,bAddressPath,bAddressQuery⟩⟩
  simp only at h
  obtain⟨rfl,rfl,rfl,rfl⟩:=h
  rfl
structure GLeaf where
 Value:Int
 Salt:Int
 Hidden:Bool
 Seal:Int
 deriving DecidableEq
def GLeaf.enc(x:GLeaf):List T:=[tI x.Value,tI x.Salt,tB x.Hidden,tI x.Seal]
def GLeaf.dt:DT:= .st (.fc .int (.fc .int (.fc .bool (.fc .int .fn))))
theorem GLeaf.of{ts:List T}(h:IsT GLeaf.dt ts):∃x:GLeaf,ts=x.enc:=by
 simp only[GLeaf.dt,IsT]at h
 obtain⟨_,_,rfl,⟨v0,rfl⟩,_,_,rfl,⟨v1,rfl⟩,_,_,rfl,⟨v2,rfl⟩,_,_,rfl,⟨v3,rfl⟩,rfl⟩:=h
 exact⟨⟨v0,v1,v2,v3⟩,rfl⟩
theorem GLeaf.eqv{x y:GLeaf}:x=y↔x.Value=y.Value∧x.Salt=y.Salt∧x.Hidden=y.Hidden∧x.Seal=y.Seal:=by
 constructor
 ·rintro rfl;simp
 ·intro h
  rcases x with ⟨aValue,aSalt,aHidden,aSeal⟩
  rcases y with ⟨bValue,bSalt,bHidden,bSeal⟩
  simp only at h
  obtain⟨rfl,rfl,rfl,rfl⟩:=h
  rfl
structure GEdition where
 Captures:List GCapture
 From:Int
 Until:Int
 Hidden:List GAddress
 deriving DecidableEq
def GEdition.enc(x:GEdition):List T:=[.sl 9 (x.Captures.map GCapture.enc),tI x.From,tI x.Until,.sl 3 (x.Hidden.map GAddress.enc)]
def GEdition.dt:DT:= .st (.fc (.sl GCapture.dt) (.fc .int (.fc .int (.fc (.sl GAddress.dt) .fn))))
theorem GEdition.of{ts:List T}(h:IsT GEdition.dt ts):∃x:GEdition,ts=x.enc:=by
 simp only[GEdition.dt,IsT]at h
 obtain⟨_,_,rfl,⟨l0,rfl,k0⟩,_,_,rfl,⟨v1,rfl⟩,_,_,rfl,⟨v2,rfl⟩,_,_,rfl,⟨l3,rfl,k3⟩,rfl⟩:=h
 obtain⟨v0,rfl⟩:=Km GCapture.of k0
 obtain⟨v3,rfl⟩:=Km GAddress.of k3
 exact⟨⟨v0,v1,v2,v3⟩,rfl⟩
theorem GEdition.eqv{x y:GEdition}:x=y↔x.Captures=y.Captures∧x.From=y.From∧x.Until=y.Until∧x.Hidden=y.Hidden:=by
 constructor
 ·rintro rfl;simp
 ·intro h
  rcases x with ⟨aCaptures,aFrom,aUntil,aHidden⟩
  rcases y with ⟨bCaptures,bFrom,bUntil,bHidden⟩
  simp only at h
  obtain⟨rfl,rfl,rfl,rfl⟩:=h
  rfl
def GEdition.size(x:GEdition):Nat:=(x.Captures.length+(x.Captures.map GCapture.size).sum)+(x.Hidden.length)
structure GExclusion where
 Host:Int
 Path:Int
 From:Int
 Until:Int
 Asked:Int
 deriving DecidableEq
def GExclusion.enc(x:GExclusion):List T:=[tI x.Host,tI x.Path,tI x.From,tI x.Until,tI x.Asked]
def GExclusion.dt:DT:= .st (.fc .int (.fc .int (.fc .int (.fc .int (.fc .int .fn)))))
theorem GExclusion.of{ts:List T}(h:IsT GExclusion.dt ts):∃x:GExclusion,ts=x.enc:=by
 simp only[GExclusion.dt,IsT]at h
 obtain⟨_,_,rfl,⟨v0,rfl⟩,_,_,rfl,⟨v1,rfl⟩,_,_,rfl,⟨v2,rfl⟩,_,_,rfl,⟨v3,rfl⟩,_,_,rfl,⟨v4,rfl⟩,rfl⟩:=h
 exact⟨⟨v0,v1,v2,v3,v4⟩,rfl⟩
theorem GExclusion.eqv{x y:GExclusion}:x=y↔x.Host=y.Host∧x.Path=y.Path∧x.From=y.From∧x.Until=y.Until∧x.Asked=y.Asked:=by
 constructor
 ·rintro rfl;simp
 ·intro h
  rcases x with ⟨aHost,aPath,aFrom,aUntil,aAsked⟩
  rcases y with ⟨bHost,bPath,bFrom,bUntil,bAsked⟩
  simp only at h
  obtain⟨rfl,rfl,rfl,rfl,rfl⟩:=h
  rfl
structure GStatement where
 Witness:Int
 Digest:Int
 Tick:Int
 Seal:Int
 deriving DecidableEq
def GStatement.enc(x:GStatement):List T:=[tI x.Witness,tI x.Digest,tI x.Tick,tI x.Seal]
def GStatement.dt:DT:= .st (.fc .int (.fc .int (.fc .int (.fc .int .fn))))
theorem GStatement.of{ts:List T}(h:IsT GStatement.dt ts):∃x:GStatement,ts=x.enc:=by
 simp only[GStatement.dt,IsT]at h
 obtain⟨_,_,rfl,⟨v0,rfl⟩,_,_,rfl,⟨v1,rfl⟩,_,_,rfl,⟨v2,rfl⟩,_,_,rfl,⟨v3,rfl⟩,rfl⟩:=h
 exact⟨⟨v0,v1,v2,v3⟩,rfl⟩
theorem GStatement.eqv{x y:GStatement}:x=y↔x.Witness=y.Witness∧x.Digest=y.Digest∧x.Tick=y.Tick∧x.Seal=y.Seal:=by
 constructor
 ·rintro rfl;simp
 ·intro h
  rcases x with ⟨aWitness,aDigest,aTick,aSeal⟩
  rcases y with ⟨bWitness,bDigest,bTick,bSeal⟩
  simp only at h
  obtain⟨rfl,rfl,rfl,rfl⟩:=h
  rfl
structure GLibrary where
 Id:Int
 Digests:List Int
 Up:Bool
 Lies:Bool
 deriving DecidableEq
def GLibrary.enc(x:GLibrary):List T:=[tI x.Id,.sl 1 (x.Digests.map encI),tB x.Up,tB x.Lies]
def GLibrary.dt:DT:= .st (.fc .int (.fc (.sl .int) (.fc .bool (.fc .bool .fn))))
theorem GLibrary.of{ts:List T}(h:IsT GLibrary.dt ts):∃x:GLibrary,ts=x.enc:=by
 simp only[GLibrary.dt,IsT]at h
 obtain⟨_,_,rfl,⟨v0,rfl⟩,_,_,rfl,⟨l1,rfl,k1⟩,_,_,rfl,⟨v2,rfl⟩,_,_,rfl,⟨v3,rfl⟩,rfl⟩:=h
 obtain⟨v1,rfl⟩:=Km K2y k1
 exact⟨⟨v0,v1,v2,v3⟩,rfl⟩
theorem GLibrary.eqv{x y:GLibrary}:x=y↔x.Id=y.Id∧x.Digests=y.Digests∧x.Up=y.Up∧x.Lies=y.Lies:=by
 constructor
 ·rintro rfl;simp
 ·intro h
  rcases x with ⟨aId,aDigests,aUp,aLies⟩
  rcases y with ⟨bId,bDigests,bUp,bLies⟩
  simp only at h
  obtain⟨rfl,rfl,rfl,rfl⟩:=h
  rfl
def GLibrary.size(x:GLibrary):Nat:=(x.Digests.length)
structure GContainer where
 Script:List GOp
 Entries:List GEntry
 Captures:List GCapture
 Root:Int
 deriving DecidableEq
def GContainer.enc(x:GContainer):List T:=[.sl 4 (x.Script.map GOp.enc),.sl 5 (x.Entries.map GEntry.enc),.sl 9 (x.Captures.map GCapture.enc),tI x.Root]
def GContainer.dt:DT:= .st (.fc (.sl GOp.dt) (.fc (.sl GEntry.dt) (.fc (.sl GCapture.dt) (.fc .int .fn))))
theorem GContainer.of{ts:List T}(h:IsT GContainer.dt ts):∃x:GContainer,ts=x.enc:=by
 simp only[GContainer.dt,IsT]at h
 obtain⟨_,_,rfl,⟨l0,rfl,k0⟩,_,_,rfl,⟨l1,rfl,k1⟩,_,_,rfl,⟨l2,rfl,k2⟩,_,_,rfl,⟨v3,rfl⟩,rfl⟩:=h
 obtain⟨v0,rfl⟩:=Km GOp.of k0
 obtain⟨v1,rfl⟩:=Km GEntry.of k1
 obtain⟨v2,rfl⟩:=Km GCapture.of k2
 exact⟨⟨v0,v1,v2,v3⟩,rfl⟩
theorem GContainer.eqv{x y:GContainer}:x=y↔x.Script=y.Script∧x.Entries=y.Entries∧x.Captures=y.Captures∧x.Root=y.Root:=by
 constructor
 ·rintro rfl;simp
 ·intro h
  rcases x with ⟨aScript,aEntries,aCaptures,aRoot⟩
  rcases y with ⟨bScript,bEntries,bCaptures,bRoot⟩
  simp only at h
  obtain⟨rfl,rfl,rfl,rfl⟩:=h
  rfl
def GContainer.size(x:GContainer):Nat:=(x.Script.length)+(x.Entries.length)+(x.Captures.length+(x.Captures.map GCapture.size).sum)
structure GFound where
 Address:GAddress
 Tick:Int
 Container:Int
 At:Int
 deriving DecidableEq
def GFound.enc(x:GFound):List T:=[tI x.Address.Host,tI x.Address.Path,tI x.Address.Query,tI x.Tick,tI x.Container,tI x.At]
def GFound.dt:DT:= .st (.fc GAddress.dt (.fc .int (.fc .int (.fc .int .fn))))
theorem GFound.of{ts:List T}(h:IsT GFound.dt ts):∃x:GFound,ts=x.enc:=by
 simp only[GFound.dt,IsT]at h
 obtain⟨_,_,rfl,k0,_,_,rfl,⟨v1,rfl⟩,_,_,rfl,⟨v2,rfl⟩,_,_,rfl,⟨v3,rfl⟩,rfl⟩:=h
 obtain⟨v0,rfl⟩:=GAddress.of k0
 exact⟨⟨v0,v1,v2,v3⟩,rfl⟩
theorem GFound.eqv{x y:GFound}:x=y↔x.Address.Host=y.Address.Host∧x.Address.Path=y.Address.Path∧x.Address.Query=y.Address.Query∧x.Tick=y.Tick∧x.Container=y.Container∧x.At=y.At:=by
 constructor
 ·rintro rfl;simp
 ·intro h
  rcases x with ⟨⟨aAddressHost,aAddressPath,aAddressQuery⟩,aTick,aContainer,aAt⟩
  rcases y with ⟨⟨bAddressHost,bAddressPath,bAddressQuery⟩,bTick,bContainer,bAt⟩
  simp only at h
  obtain⟨rfl,rfl,rfl,rfl,rfl,rfl⟩:=h
  rfl
structure GDisk where
 Containers:List GContainer
 Index:List GFound
 Wanted:List GContainer
 deriving DecidableEq
def GDisk.enc(x:GDisk):List T:=[.sl 4 (x.Containers.map GContainer.enc),.sl 6 (x.Index.map GFound.enc),.sl 4 (x.Wanted.map GContainer.enc)]
def GDisk.dt:DT:= .st (.fc (.sl GContainer.dt) (.fc (.sl GFound.dt) (.fc (.sl GContainer.dt) .fn)))
theorem GDisk.of{ts:List T}(h:IsT GDisk.dt ts):∃x:GDisk,ts=x.enc:=by
 simp only[GDisk.dt,IsT]at h
 obtain⟨_,_,rfl,⟨l0,rfl,k0⟩,_,_,rfl,⟨l1,rfl,k1⟩,_,_,rfl,⟨l2,rfl,k2⟩,rfl⟩:=h
 obtain⟨v0,rfl⟩:=Km GContainer.of k0
 obtain⟨v1,rfl⟩:=Km GFound.of k1
 obtain⟨v2,rfl⟩:=Km GContainer.of k2
 exact⟨⟨v0,v1,v2⟩,rfl⟩
theorem GDisk.eqv{x y:GDisk}:x=y↔x.Containers=y.Containers∧x.Index=y.Index∧x.Wanted=y.Wanted:=by
 constructor
 ·rintro rfl;simp
 ·intro h
  rcases x with ⟨aContainers,aIndex,aWanted⟩
  rcases y with ⟨bContainers,bIndex,bWanted⟩
  simp only at h
  obtain⟨rfl,rfl,rfl⟩:=h
  rfl
def GDisk.size(x:GDisk):Nat:=(x.Containers.length+(x.Containers.map GContainer.size).sum)+(x.Index.length)+(x.Wanted.length+(x.Wanted.map GContainer.size).sum)
structure GArchive where
 Site:List GVersion
 Script:List GOp
 Disk:GDisk
 Exclusions:List GExclusion
 Libraries:List GLibrary
 Keys:List Int
 Statements:List GStatement
 Now:Int
 deriving DecidableEq
def GArchive.enc(x:GArchive):List T:=[.sl 9 (x.Site.map GVersion.enc),.sl 4 (x.Script.map GOp.enc),.sl 4 (x.Disk.Containers.map GContainer.enc),.sl 6 (x.Disk.Index.map GFound.enc),.sl 4 (x.Disk.Wanted.map GContainer.enc),.sl 5 (x.Exclusions.map GExclusion.enc),.sl 4 (x.Libraries.map GLibrary.enc),.sl 1 (x.Keys.map encI),.sl 4 (x.Statements.map GStatement.enc),tI x.Now]
def GArchive.dt:DT:= .st (.fc (.sl GVersion.dt) (.fc (.sl GOp.dt) (.fc GDisk.dt (.fc (.sl GExclusion.dt) (.fc (.sl GLibrary.dt) (.fc (.sl .int) (.fc (.sl GStatement.dt) (.fc .int .fn))))))))
theorem GArchive.of{ts:List T}(h:IsT GArchive.dt ts):∃x:GArchive,ts=x.enc:=by
 simp only[GArchive.dt,IsT]at h
 obtain⟨_,_,rfl,⟨l0,rfl,k0⟩,_,_,rfl,⟨l1,rfl,k1⟩,_,_,rfl,k2,_,_,rfl,⟨l3,rfl,k3⟩,_,_,rfl,⟨l4,rfl,k4⟩,_,_,rfl,⟨l5,rfl,k5⟩,_,_,rfl,⟨l6,rfl,k6⟩,_,_,rfl,⟨v7,rfl⟩,rfl⟩:=h
 obtain⟨v0,rfl⟩:=Km GVersion.of k0
 obtain⟨v1,rfl⟩:=Km GOp.of k1
 obtain⟨v2,rfl⟩:=GDisk.of k2
 obtain⟨v3,rfl⟩:=Km GExclusion.of k3
 obtain⟨v4,rfl⟩:=Km GLibrary.of k4
 obtain⟨v5,rfl⟩:=Km K2y k5
 obtain⟨v6,rfl⟩:=Km GStatement.of k6
 exact⟨⟨v0,v1,v2,v3,v4,v5,v6,v7⟩,rfl⟩
theorem GArchive.eqv{x y:GArchive}:x=y↔x.Site=y.Site∧x.Script=y.Script∧x.Disk.Containers=y.Disk.Containers∧x.Disk.Index=y.Disk.Index∧x.Disk.Wanted=y.Disk.Wanted∧x.Exclusions=y.Exclusions∧x.Libraries=y.Libraries∧x.Keys=y.Keys∧x.Statements=y.Statements∧x.Now=y.Now:=by
 constructor
 ·rintro rfl;simp
 ·intro h
  rcases x with ⟨aSite,aScript,⟨aDiskContainers,aDiskIndex,aDiskWanted⟩,aExclusions,aLibraries,aKeys,aStatements,aNow⟩
  rcases y with ⟨bSite,bScript,⟨bDiskContainers,bDiskIndex,bDiskWanted⟩,bExclusions,bLibraries,bKeys,bStatements,bNow⟩
  simp only at h
  obtain⟨rfl,rfl,rfl,rfl,rfl,rfl,rfl,rfl,rfl,rfl⟩:=h
  rfl
def GArchive.size(x:GArchive):Nat:=(x.Site.length+(x.Site.map GVersion.size).sum)+(x.Script.length)+(x.Disk.size)+(x.Exclusions.length)+(x.Libraries.length+(x.Libraries.map GLibrary.size).sum)+(x.Keys.length)+(x.Statements.length)
structure GEvent where
 Kind:Int
 N:Int
 Inputs:List Int
 Version:GVersion
 Exclusion:GExclusion
 deriving DecidableEq
def GEvent.enc(x:GEvent):List T:=[tI x.Kind,tI x.N,.sl 1 (x.Inputs.map encI),tI x.Version.Address.Host,tI x.Version.Address.Path,tI x.Version.Address.Query,tI x.Version.From,tI x.Version.Resource.Kind,.sl 1 (x.Version.Resource.Body.map encI),tI x.Version.Resource.To.Host,tI x.Version.Resource.To.Path,tI x.Version.Resource.To.Query,tI x.Exclusion.Host,tI x.Exclusion.Path,tI x.Exclusion.From,tI x.Exclusion.Until,tI x.Exclusion.Asked]
def GEvent.dt:DT:= .st (.fc .int (.fc .int (.fc (.sl .int) (.fc GVersion.dt (.fc GExclusion.dt .fn)))))
theorem GEvent.of{ts:List T}(h:IsT GEvent.dt ts):∃x:GEvent,ts=x.enc:=by
 simp only[GEvent.dt,IsT]at h
 obtain⟨_,_,rfl,⟨v0,rfl⟩,_,_,rfl,⟨v1,rfl⟩,_,_,rfl,⟨l2,rfl,k2⟩,_,_,rfl,k3,_,_,rfl,k4,rfl⟩:=h
 obtain⟨v2,rfl⟩:=Km K2y k2
 obtain⟨v3,rfl⟩:=GVersion.of k3
 obtain⟨v4,rfl⟩:=GExclusion.of k4
 exact⟨⟨v0,v1,v2,v3,v4⟩,rfl⟩
theorem GEvent.eqv{x y:GEvent}:x=y↔x.Kind=y.Kind∧x.N=y.N∧x.Inputs=y.Inputs∧x.Version.Address.Host=y.Version.Address.Host∧x.Version.Address.Path=y.Version.Address.Path∧x.Version.Address.Query=y.Version.Address.Query∧x.Version.From=y.Version.From∧x.Version.Resource.Kind=y.Version.Resource.Kind∧x.Version.Resource.Body=y.Version.Resource.Body∧x.Version.Resource.To.Host=y.Version.Resource.To.Host∧x.Version.Resource.To.Path=y.Version.Resource.To.Path∧x.Version.Resource.To.Query=y.Version.Resource.To.Query∧x.Exclusion.Host=y.Exclusion.Host∧x.Exclusion.Path=y.Exclusion.Path∧x.Exclusion.From=y.Exclusion.From∧x.Exclusion.Until=y.Exclusion.Until∧x.Exclusion.Asked=y.Exclusion.Asked:=by
 constructor
 ·rintro rfl;simp
 ·intro h
  rcases x with ⟨aKind,aN,aInputs,⟨⟨aVersionAddressHost,aVersionAddressPath,aVersionAddressQuery⟩,aVersionFrom,⟨aVersionResourceKind,aVersionResourceBody,⟨aVersionResourceToHost,aVersionResourceToPath,aVersionResourceToQuery⟩⟩⟩,⟨aExclusionHost,aExclusionPath,aExclusionFrom,aExclusionUntil,aExclusionAsked⟩⟩
  rcases y with ⟨bKind,bN,bInputs,⟨⟨bVersionAddressHost,bVersionAddressPath,bVersionAddressQuery⟩,bVersionFrom,⟨bVersionResourceKind,bVersionResourceBody,⟨bVersionResourceToHost,bVersionResourceToPath,bVersionResourceToQuery⟩⟩⟩,⟨bExclusionHost,bExclusionPath,bExclusionFrom,bExclusionUntil,bExclusionAsked⟩⟩
  simp only at h
  obtain⟨rfl,rfl,rfl,rfl,rfl,rfl,rfl,rfl,rfl,rfl,rfl,rfl,rfl,rfl,rfl,rfl,rfl⟩:=h
  rfl
def GEvent.size(x:GEvent):Nat:=(x.Inputs.length)+(x.Version.size)
structure GChange where
 Tick:Int
 Digest:Int
 deriving DecidableEq
def GChange.enc(x:GChange):List T:=[tI x.Tick,tI x.Digest]
def GChange.dt:DT:= .st (.fc .int (.fc .int .fn))
theorem GChange.of{ts:List T}(h:IsT GChange.dt ts):∃x:GChange,ts=x.enc:=by
 simp only[GChange.dt,IsT]at h
 obtain⟨_,_,rfl,⟨v0,rfl⟩,_,_,rfl,⟨v1,rfl⟩,rfl⟩:=h
 exact⟨⟨v0,v1⟩,rfl⟩
theorem GChange.eqv{x y:GChange}:x=y↔x.Tick=y.Tick∧x.Digest=y.Digest:=by
 constructor
 ·rintro rfl;simp
 ·intro h
  rcases x with ⟨aTick,aDigest⟩
  rcases y with ⟨bTick,bDigest⟩
  simp only at h
  obtain⟨rfl,rfl⟩:=h
  rfl
structure GPlayed where
 Code:Int
 At:Int
 State:GState
 deriving DecidableEq
def GPlayed.enc(x:GPlayed):List T:=[tI x.Code,tI x.At,tI x.State.Pc,.sl 1 (x.State.Regs.map encI),.sl 1 (x.State.Slots.map encI),.sl 1 (x.State.Nodes.map encI)]
def GPlayed.dt:DT:= .st (.fc .int (.fc .int (.fc GState.dt .fn)))
theorem GPlayed.of{ts:List T}(h:IsT GPlayed.dt ts):∃x:GPlayed,ts=x.enc:=by
 simp only[GPlayed.dt,IsT]at h
 obtain⟨_,_,rfl,⟨v0,rfl⟩,_,_,rfl,⟨v1,rfl⟩,_,_,rfl,k2,rfl⟩:=h
 obtain⟨v2,rfl⟩:=GState.of k2
 exact⟨⟨v0,v1,v2⟩,rfl⟩
theorem GPlayed.eqv{x y:GPlayed}:x=y↔x.Code=y.Code∧x.At=y.At∧x.State.Pc=y.State.Pc∧x.State.Regs=y.State.Regs∧x.State.Slots=y.State.Slots∧x.State.Nodes=y.State.Nodes:=by
 constructor
 ·rintro rfl;simp
 ·intro h
  rcases x with ⟨aCode,aAt,⟨aStatePc,aStateRegs,aStateSlots,aStateNodes⟩⟩
  rcases y with ⟨bCode,bAt,⟨bStatePc,bStateRegs,bStateSlots,bStateNodes⟩⟩
  simp only at h
  obtain⟨rfl,rfl,rfl,rfl,rfl,rfl⟩:=h
  rfl
def GPlayed.size(x:GPlayed):Nat:=(x.State.size)
attribute [go_sem] encI encB GAddress.enc GResource.enc GPart.enc GPiece.enc GVersion.enc GOp.enc GState.enc GVisit.enc GWant.enc GEntry.enc GCapture.enc GChoice.enc GWander.enc GModel.enc GShown.enc GLeaf.enc GEdition.enc GExclusion.enc GStatement.enc GLibrary.enc GContainer.enc GFound.enc GDisk.enc GArchive.enc GEvent.enc GChange.enc GPlayed.enc
end Go.Proofs.YtflhjihoifbmfaaGreatR
namespace Go.Proofs.YtflhjihoifbmfaaGreatR
open Go Go.RowKit
open Nat (reduceEqDiff reduceLT reduceLeDiff reduceAdd reduceMul)
open List (reduceReplicate)
def szr(n:Nat)(left:Int):Int:=if (n:Int)≤left then left-n else -1
theorem K59{n:Nat}{left:Int}(_:0≤left):szr n left<0↔left<n:=by unfold szr;split<;>omega
theorem K1l{n m:Nat}{left:Int}(_:0≤left)(h1:¬szr n left<0):0≤szr n left∧szr n left≤left∧szr (n+m) left=szr m (szr n left):=by
 unfold szr at*
 split at h1
 ·rename_i h2
  simp only[h2,if_true]
  refine⟨by omega,by omega,?_⟩
  split<;>split<;>omega
 ·omega
def own:List T→List (Bool×T)
 | []=>[]
 |.sl k es::l=>(true,.sl k es)::own l
 |t::l=>(false,t)::own l
@[go_sem] theorem own_nil:own []=[]:=rfl
@[go_sem] theorem own_sl {k es l}:own (.sl k es::l)=(true,.sl k es)::own l:=rfl
@[go_sem] theorem own_sc {v l}:own (.sc v::l)=(false,.sc v)::own l:=rfl
abbrev rS(ts:List T):RV:=⟨true,own ts⟩
abbrev rL(k:Nat)(es:List (List T)):RV:=⟨false,[(true,.sl k es)]⟩
abbrev aS(ts:List T):Bool×List T:=(true,ts)
attribute [go_sem] rS rL aS
def filled{α:Type}(f:α→List T)(z:List T)(xs:List α)(k:Nat):List (List T):=(xs.take k).map f++List.replicate (xs.length-k) z
section
variable {α:Type} {f:α→List T} {z:List T} {xs:List α} {k:Nat}
@[go_sem] theorem K1h (h:k≤xs.length):(filled f z xs k).length=xs.length:=by simp[filled];omega
theorem K17:filled f z xs 0=List.replicate xs.length z:=by simp[filled]
theorem K1f:filled f z xs xs.length=xs.map f:=by simp[filled]
theorem K1g(h:k<xs.length):(filled f z xs k)[k]? =some z:=by
 unfold filled
 rw[List.getElem?_append_right (by simp;omega),List.getElem?_replicate,if_pos (by simp;omega)]
theorem K1i{x:α}(h:xs[k]? =some x):(filled f z xs k).set k (f x)=filled f z xs (k+1):=by
 have hk:=Kb h
 unfold filled
 rw[List.set_append_right _ _ (by simp;omega),Kn h]
 have e:xs.length-k=(xs.length-(k+1))+1:=by omega
 rw[e,List.replicate_succ]
 have e2:k-(List.map f (List.take k xs)).length=0:=by simp;omega
 rw[e2]
 simp
end
theorem Kt{α:Type}{xs ys:List α}{k:Nat}{x y:α}(hx:xs[k]? =some x)(hy:ys[k]? =some y)(h:xs.take k=ys.take k):xs.take (k+1)=ys.take (k+1)↔x=y:=by
 rw[Kn hx,Kn hy,h]
 simp
theorem K2v{α:Type} [DecidableEq α] {xs ys:List α}{k:Nat}{x y:α}(hx:xs[k]? =some x)(hy:ys[k]? =some y)(h:¬x=y):false=decide (xs=ys):=by
 symm
 rw[decide_eq_false_iff_not]
 rintro rfl
 rw[hx]at hy
 exact h (Option.some.inj hy)
theorem K2a{α:Type} [DecidableEq α] {xs ys:List α}(h:¬(xs.length:Int)=ys.length):false=decide (xs=ys):=by
 symm
 rw[decide_eq_false_iff_not]
 rintro rfl
 exact h rfl
theorem K28{α:Type} [DecidableEq α] {xs ys:List α}(he:xs.take xs.length=ys.take xs.length)(hl:xs.length=ys.length):true=decide (xs=ys):=by
 symm
 rw[decide_eq_true_iff]
 rw[List.take_length]at he
 rw[he,hl,List.take_length]
theorem szr_bad'{n N:Nat}{left:Int}(h0:0≤left)(h:szr n left<0)(hn:n≤N): -1=szr N left:=by
 rw[K59 h0]at h
 unfold szr
 rw[if_neg (by omega)]
theorem szr_ok{n:Nat}{left:Int}(h:¬szr n left<0):(n:Int)≤left:=by
 unfold szr at h
 split at h<;>omega
theorem K4h{α:Type}{f:α→Nat}{l:List α}{k:Nat}{x:α}(h:l[k]? =some x):((l.take (k+1)).map f).sum=((l.take k).map f).sum+f x:=by
 rw[Kn h];simp
theorem K18{α:Type}{f:α→Nat}(l:List α)(k:Nat):((l.take k).map f).sum≤(l.map f).sum:=by
 have h:(l.map f).sum=((l.take k).map f).sum+((l.drop k).map f).sum:=by
  rw[←List.sum_append,←List.map_append,List.take_append_drop]
 omega
theorem K1w{α:Type}{f:α→Nat}{l:List α}{x:α}(h:x∈l):f x≤(l.map f).sum:=by
 induction l with
 |nil=>simp at h
 |cons y l ih=>
  rcases List.mem_cons.1 h with rfl|h
  ·simp
  ·have:=ih h;simp;omega
theorem K5m{α:Type}{l:List α}{k:Nat}{x:α}(h:l[k]? =some x):(l.take k).length+1=(l.take (k+1)).length:=by
 rw[Kn h];simp
theorem K5n{α:Type}{f:α→List T}{l:List α}{k:Nat}{x:α}(h:l[k]? =some x):(l.take k).map f++[f x]=(l.take (k+1)).map f:=by
 rw[Kn h];simp
end Go.Proofs.YtflhjihoifbmfaaGreatR
namespace Go.Proofs.YtflhjihoifbmfaaGreatR
open Go Go.RowKit Go.Proofs
open Nat (reduceEqDiff reduceLT reduceLeDiff reduceAdd reduceMul)
open List (reduceReplicate)
theorem hmix:Tryz.prog.follows .mixedOrders=true:=by kernel_rfl
theorem cA{f:FuncId}{fn:Func}{c:Code}{args:List (Bool×List T)}{rs:List RV}(M:MC)(m n:Nat)(res:List (MR×List Bool))(hf:Tryz.prog.funcs[f]? =some fn)(hb:fn.body=some c)(hnt:fn.ntmps=n)
    (h : bdA args → wpC Tryz.prog M (kF res rs) (startS args n m)) (hname : (fn.name == "runtime.NumGoroutine") = false := by kernel_rfl) (hc : chkC Tryz.prog c M = true := by kernel_rfl) (hres : K1k Tryz.prog fn.results.toList (res.map (·.1)) = true := by kernel_rfl) (hn : args.length ≤ n := by exact Nat.le_of_ble_eq_true rfl) : Ctr Tryz.prog f args rs :=
  ctr_at hmix hf hb hname hnt hc hres hn h
abbrev N7e:Nat:=4
abbrev N5q:Nat:=7
abbrev Nr:Nat:=9
abbrev N5k:Nat:=11
abbrev N7j:Nat:=12
abbrev N33:Nat:=13
abbrev N1c:Nat:=14
abbrev N3k:Nat:=15
abbrev N5p:Nat:=16
abbrev N1m:Nat:=17
abbrev N1j:Nat:=19
abbrev N1i:Nat:=21
abbrev Nw:Nat:=25
abbrev N4r:Nat:=28
abbrev N5t:Nat:=29
abbrev N85:Nat:=30
abbrev N2v:Nat:=31
abbrev N4p:Nat:=32
abbrev N3t:Nat:=33
abbrev N2w:Nat:=34
abbrev N4v:Nat:=36
abbrev N5x:Nat:=37
abbrev N86:Nat:=38
abbrev N2x:Nat:=39
abbrev N4t:Nat:=40
abbrev N2y:Nat:=41
abbrev N4l:Nat:=43
abbrev N5n:Nat:=44
abbrev N83:Nat:=45
abbrev N2q:Nat:=46
abbrev N4k:Nat:=47
abbrev N2r:Nat:=48
abbrev N3p:Nat:=49
abbrev N7k:Nat:=50
abbrev N3g:Nat:=51
abbrev N7d:Nat:=52
abbrev N84:Nat:=53
abbrev N2u:Nat:=54
abbrev N34:Nat:=55
abbrev N6m:Nat:=56
abbrev N1s:Nat:=57
abbrev N2t:Nat:=58
abbrev N1t:Nat:=59
abbrev N6l:Nat:=60
abbrev N5u:Nat:=73
abbrev N17:Nat:=74
abbrev N6o:Nat:=75
abbrev N5s:Nat:=76
abbrev N5y:Nat:=80
abbrev N9r:Nat:=81
abbrev N18:Nat:=82
abbrev N6q:Nat:=83
abbrev N3n:Nat:=84
abbrev N5w:Nat:=85
abbrev N3o:Nat:=86
abbrev N5o:Nat:=88
abbrev N9q:Nat:=89
abbrev N16:Nat:=90
abbrev N6k:Nat:=91
abbrev N3i:Nat:=92
abbrev N5m:Nat:=93
abbrev N3j:Nat:=94
abbrev N6r:Nat:=95
abbrev N7l:Nat:=96
abbrev N35:Nat:=97
abbrev Nu:Nat:=98
abbrev N20:Nat:=99
abbrev N87:Nat:=100
abbrev N1k:Nat:=101
abbrev N2n:Nat:=102
abbrev N2p:Nat:=103
abbrev N1l:Nat:=104
abbrev N32:Nat:=105
abbrev N1y:Nat:=106
abbrev N82:Nat:=107
abbrev N4:Nat:=108
abbrev Nt:Nat:=109
abbrev N1e:Nat:=110
abbrev N10:Nat:=111
abbrev N4n:Nat:=112
abbrev N14:Nat:=118
abbrev Nz:Nat:=133
abbrev N4q:Nat:=143
abbrev N3l:Nat:=144
abbrev Nq:Nat:=145
abbrev N4u:Nat:=146
abbrev N3m:Nat:=147
abbrev N7i:Nat:=148
abbrev Np:Nat:=149
abbrev N3h:Nat:=150
abbrev N7g:Nat:=151
abbrev N7m:Nat:=152
abbrev N4w:Nat:=153
abbrev N4x:Nat:=154
abbrev N9s:Nat:=155
abbrev N2z:Nat:=156
abbrev Nf:Nat:=157
abbrev N4h:Nat:=158
abbrev N4i:Nat:=159
abbrev N9p:Nat:=160
abbrev N2o:Nat:=161
abbrev Na:Nat:=162
abbrev N6i:Nat:=163
abbrev N1g:Nat:=166
abbrev N4m:Nat:=167
abbrev N2s:Nat:=168
abbrev N5z:Nat:=171
abbrev N5j:Nat:=183
abbrev N6n:Nat:=193
abbrev N4o:Nat:=194
abbrev N6p:Nat:=195
abbrev N4s:Nat:=196
abbrev N6j:Nat:=197
abbrev N4j:Nat:=198
abbrev N60:Nat:=199
abbrev N7n:Nat:=200
abbrev Nal:Nat:=201
abbrev N6:Nat:=202
abbrev N2m:Nat:=203
abbrev N13:Nat:=204
abbrev N4g:Nat:=205
abbrev N95:Nat:=206
abbrev Nak:Nat:=207
abbrev N5r:Nat:=221
abbrev N7h:Nat:=222
abbrev N5v:Nat:=223
abbrev N7f:Nat:=224
abbrev N5l:Nat:=225
abbrev N1z:Nat:=226
abbrev Nl:Nat:=227
abbrev N1x:Nat:=228
abbrev N3:Nat:=234
abbrev N0:Nat:=235
abbrev Nk:Nat:=237
abbrev N2:Nat:=238
def Y0:MC:=
(Zs [.mv 4 (ci 0)] [0,1] (Zs [mS 5 1,mS 6 0,nS 7 6,bS 8 .sub 5 7,mS 1 8] [1] (.seq (Zs [mS 9 1,bC 10 .lss 9 0] [1,10] (.cond (.s 10) (Zs [.mv 4 (.c (.int .i64 (-1)))] [4] .ret) .skip))
(Zs [mS 11 1,mS 4 11] [4] .ret))))
attribute [go_sem] Y0
def M7w:MC:=Y0
theorem C3r(xs:List Int)(left:Int)(h0:0≤left):Ctr Tryz.prog N3t [aL 1 (xs.map encI),aI left] [rI (szr xs.length left)]:=by
 refine cA M7w 0 12 [(.tmp 4,[false])] Tryz.func33 rfl rfl ?_;unfold M7w
 intro hb
 simp only[bdA,bdL,bdT,Ki,K1m,roomB,and_true,List.length_map]at hb
 obtain⟨⟨hl,-⟩,hn⟩:=hb
 simp only[go_sem]
 rw[wI (by omega) (by omega)]
 unfold szr
 refine⟨fun h=>?_,fun h=>?_⟩
 ·rw[if_neg (by omega)]
 ·rw[if_pos (by omega)]
def M7y:MC:=
(Zs [.nilo 2 0 1] [0] (Zs [mS 5 0,nS 6 5,.mk 7 0 1 8 [.sc (.int .i64 0)] (.s 6),mS 3 7] [0,3] (.seq (Zs [.mv 4 (ci 0)] [0,3,4] (.block 0 (.loop ([0,3,4],[]) (.seq (Zs [mS 8 4,mS 9 0,nS 10 9,bS 11 .lss 8 10] [0,3,4,11] (cX 11 0))
(.seq (.block 1 (pr [mS 14 3,mS 15 4,mS 16 0,mS 17 4,xS 18 1 16 17,lF 19 1 18,xS 20 1 14 15,sS 1 20 19] [0,3,4]))
(pr [mS 12 4,bC 13 .add 12 1,mS 4 13] [0,3,4]))))))
(Zs [mS 21 3,mS 2 21] [2] .ret))))
theorem C3s(xs:List Int)(hs:xs.length≤1073741824):Ctr Tryz.prog N1j [aL 1 (xs.map encI)] [rL 1 (xs.map encI)]:=by
 refine cA M7y 1 22 [(.tmp 2,[true])] Tryz.func19 rfl rfl ?_;unfold M7y
 intro hb
 simp only[go_sem]
 refine⟨⟨by omega,by simp only[roomB];omega⟩,?_⟩
 refine K5 xs (fun k=>[(4,vI k)]) (fun k=>[(0,⟨0,.row true 1 (filled encI [tI 0] xs k)⟩)]) (fun _=>True) (by simp only[roomB];omega) ?_
 simp only[go_sem]
 refine⟨?_,trivial,?_,?_⟩
 ·simp only[go_sem,K17]
  all_goals rfl
 ·intro k x hx _ h0 h1 hw
  have h:k<xs.length:=by omega
  simp only[go_sem,K7 hx,K7 (K1g h),K1h (Nat.le_of_lt h),h0,h1,hw]
  exact K1i hx
 ·intro _
  simp only[go_sem,K1f]
def M7t:MC:=
(Zs [.mv 4 cF] [0,1] (.seq (Zs [mS 6 0,nS 7 6,mS 8 1,nS 9 8,bS 10 .neq 7 9] [0,1,10] (.cond (.s 10) (Zs [.mv 4 cF] [4] .ret) .skip))
(.seq (Zs [.mv 5 (ci 0)] [0,1,5] (.block 0 (.loop ([0,1,5],[]) (.seq (Zs [mS 11 5,mS 12 0,nS 13 12,bS 14 .lss 11 13] [0,1,5,14] (cX 14 0))
(.seq (.block 1 (.seq (.dreg [Zc [18,21,22,23,24] (mS 17 0),Zc [17,21,22,23,24] (mS 18 5),Zd [21,22,23,24] [0,1] (xS 19 1 17 18),Zd [21,22,23,24] [0,1,2] (lF 20 1 19),Zc [17,18,19,20,22] (mS 21 1),Zc [17,18,19,20,21] (mS 22 5),Zd [17,18,19,20] [4,5] (xS 23 1 21 22),Zd [17,18,19,20] [4,5,6] (lF 24 1 23),Ze (.range 8) (bS 25 .neq 20 24)] [0,1,5,25])
(.cond (.s 25) (Zs [.mv 4 cF] [4] .ret) .skip)))
(pr [mS 15 5,bC 16 .add 15 1,mS 5 16] [0,1,5]))))))
(Zs [.mv 4 cT] [4] .ret))))
theorem C3q(xs ys:List Int):Ctr Tryz.prog N1i [aL 1 (xs.map encI),aL 1 (ys.map encI)] [rB (decide (xs=ys))]:=by
 refine cA M7t 0 26 [(.tmp 4,[false])] Tryz.func21 rfl rfl ?_;unfold M7t
 intro hb
 simp only[bdA,bdL,bdT,Ki,roomB,and_true,List.length_map]at hb
 obtain⟨⟨hl,-⟩,⟨hl2,-⟩⟩:=hb
 simp only[go_sem]
 refine⟨fun h=>K2a h,fun h=>?_⟩
 have hle:xs.length=ys.length:=by omega
 refine K5 xs (fun k=>[(5,vI k)]) (fun k=>[]) (fun k=>xs.take k=ys.take k) hl ?_
 simp only[go_sem]
 refine⟨?_,rfl,?_,?_⟩
 ·simp only[go_sem]
 ·intro k x hx he h0 h1 hw
  obtain⟨y,hy⟩:=Kh (show k<ys.length by omega)
  have h2:(k:Int)<ys.length:=by omega
  simp only[go_sem,K7 hx,K7 hy,h0,h1,h2,hw]
  exact⟨fun hn=>K2v hx hy hn,fun hn=>(Kt hx hy he).2 hn⟩
 ·intro he
  simp only[go_sem]
  exact K28 he hle
def M5c:MC:=
(Zs [.box 1 0 (.s 0),.alloc 2 1 [pz,pz,pz]] [1,2] (Zs [.alloc 3 2 [pz,pz,pz]] [1,2,3] (Zs [fS 4 1 0,lF 5 1 4,fS 6 3 0,sS 1 6 5] [1,2,3] (Zs [fS 7 1 1,lF 8 1 7,fS 9 3 1,sS 1 9 8] [1,2,3] (Zs [fS 10 1 2,lF 11 1 10,fS 12 3 2,sS 1 12 11] [2,3] (Zs [lT 13 3 3,sS 3 2 13] [2] .ret))))))
theorem Cn(x:GAddress):Ctr Tryz.prog Nq [aS x.enc] [rS x.enc]:=by
 refine cA M5c 3 14 [(.cell 2 true 3,[false,false,false])] Tryz.func145 rfl rfl ?_;unfold M5c
 intro hb
 simp only[go_sem]
def M51:MC:=
(Zs [.box 2 0 (.s 0),.box 3 1 (.s 1),.mv 4 cF] [2,3] (.seq (Zs [fS 5 2 0,lF 6 1 5,fS 7 3 0,lF 8 1 7,bS 9 .neq 6 8] [2,3,9] (.cond (.s 9) (Zs [.mv 4 cF] [4] .ret) .skip))
(.seq (Zs [fS 10 2 1,lF 11 1 10,fS 12 3 1,lF 13 1 12,bS 14 .neq 11 13] [2,3,14] (.cond (.s 14) (Zs [.mv 4 cF] [4] .ret) .skip))
(.seq (Zs [fS 15 2 2,lF 16 1 15,fS 17 3 2,lF 18 1 17,bS 19 .neq 16 18] [19] (.cond (.s 19) (Zs [.mv 4 cF] [4] .ret) .skip))
(Zs [.mv 4 cT] [4] .ret)))))
theorem Cm(x y:GAddress):Ctr Tryz.prog Np [aS x.enc,aS y.enc] [rB (decide (x=y))]:=by
 refine cA M51 2 20 [(.tmp 4,[false])] Tryz.func149 rfl rfl ?_;unfold M51
 intro hb
 clear hb
 simp only[go_sem]
 refine⟨fun h=>?_,fun h_Host=>?_⟩
 ·symm
  rw[decide_eq_false_iff_not]
  rintro rfl
  exact h rfl
 refine⟨fun h=>?_,fun h_Path=>?_⟩
 ·symm
  rw[decide_eq_false_iff_not]
  rintro rfl
  exact h rfl
 refine⟨fun h=>?_,fun h_Query=>?_⟩
 ·symm
  rw[decide_eq_false_iff_not]
  rintro rfl
  exact h rfl
 cases x;cases y;simp_all
def Y1:MC:=
(Zs [.box 2 0 (.s 0),.mv 4 (ci 0)] [1,2] (Zs [fS 5 2 1,lF 6 1 5,mS 7 1,.call 8 [] (.f N3t) [.s 6,.s 7],mS 1 8] [1] (.seq (Zs [mS 9 1,bC 10 .lss 9 0] [1,10] (.cond (.s 10) (Zs [.mv 4 (.c (.int .i64 (-1)))] [4] .ret) .skip))
(Zs [mS 11 1,mS 4 11] [4] .ret))))
attribute [go_sem] Y1
def M48:MC:=Y1
theorem C3v(x:GResource)(left:Int)(h0:0≤left):Ctr Tryz.prog N4q [aS x.enc,aI left] [rI (szr x.size left)]:=by
 refine cA M48 1 12 [(.tmp 4,[false])] Tryz.func143 rfl rfl ?_;unfold M48
 intro hb
 simp only[go_sem]
 refine K0 (C3r x.Body left h0) ?_
 simp only[go_sem]
 intro _
 refine⟨fun h=>szr_bad' h0 h (by simp only[GResource.size];omega),fun h1=>?_⟩
 rfl
def M4c:MC:=
(Zs [.box 1 0 (.s 0),.alloc 2 1 [pz,.emp 1,pz,pz,pz]] [1,2] (Zs [.alloc 3 2 [pz,.emp 1,pz,pz,pz]] [1,2,3] (Zs [fS 4 1 0,lF 5 1 4,fS 6 3 0,sS 1 6 5] [1,2,3] (Zs [fS 7 1 1,lF 8 1 7,.call 9 [3] (.f N1j) [.s 8],fS 10 3 1,sS 1 10 9] [1,2,3] (Zs [fS 11 1 2,lT 12 3 11,.call 13 [] (.f Nq) [.s 12],fS 14 3 2,sS 3 14 13] [2,3] (Zs [lT 15 5 3,sS 5 2 15] [2] .ret))))))
theorem C3w(x:GResource)(hs:x.size≤1073741824):Ctr Tryz.prog N4u [aS x.enc] [rS x.enc]:=by
 refine cA M4c 4 16 [(.cell 2 true 5,[false,true,false,false,false])] Tryz.func146 rfl rfl ?_;unfold M4c
 intro hb
 simp only[GResource.size]at hs
 simp only[go_sem]
 refine K0 (C3s x.Body (by omega)) ?_
 simp only[go_sem]
 try intros
 refine K0 (Cn x.To) ?_
 simp only[go_sem]
 try intros
def M42:MC:=
(Zs [.box 2 0 (.s 0),.box 3 1 (.s 1),.mv 4 cF] [2,3] (.seq (Zs [fS 5 2 0,lF 6 1 5,fS 7 3 0,lF 8 1 7,bS 9 .neq 6 8] [2,3,9] (.cond (.s 9) (Zs [.mv 4 cF] [4] .ret) .skip))
(.seq (Zs [fS 10 2 1,lF 11 1 10,fS 12 3 1,lF 13 1 12,.call 14 [] (.f N1i) [.s 11,.s 13],.un 15 .not (.s 14)] [2,3,15] (.cond (.s 15) (Zs [.mv 4 cF] [4] .ret) .skip))
(.seq (Zs [fS 16 2 2,lT 17 3 16,fS 18 3 2,lT 19 3 18,.call 20 [] (.f Np) [.s 17,.s 19],.un 21 .not (.s 20)] [21] (.cond (.s 21) (Zs [.mv 4 cF] [4] .ret) .skip))
(Zs [.mv 4 cT] [4] .ret)))))
theorem C1d(x y:GResource):Ctr Tryz.prog N1e [aS x.enc,aS y.enc] [rB (decide (x=y))]:=by
 refine cA M42 2 22 [(.tmp 4,[false])] Tryz.func110 rfl rfl ?_;unfold M42
 intro hb
 clear hb
 simp only[go_sem]
 refine⟨fun h=>?_,fun h_Kind=>?_⟩
 ·symm
  rw[decide_eq_false_iff_not]
  rintro rfl
  exact h rfl
 refine K0 (C3q x.Body y.Body) ?_
 simp only[go_sem]
 refine⟨fun h=>?_,fun h_Body=>?_⟩
 ·symm
  rw[decide_eq_false_iff_not]
  rintro rfl
  exact h rfl
 refine K0 (Cm x.To y.To) ?_
 simp only[go_sem]
 refine⟨fun h=>?_,fun h_To=>?_⟩
 ·symm
  rw[decide_eq_false_iff_not]
  rintro rfl
  exact h rfl
 cases x;cases y;simp_all
def Y2(v0:Nat)(v1:Nat)(v2:Nat):MC:=
(Zs [.box 2 0 (.s 0),.box 3 1 (.s 1),.mv 4 cF] [2,3] (.seq (Zs [fS 5 2 0,lF 6 1 5,fS 7 3 0,lF 8 1 7,bS 9 .neq 6 8] [2,3,9] (.cond (.s 9) (Zs [.mv 4 cF] [4] .ret) .skip))
(.seq (Zs [fS 10 2 1,lT 11 v0 10,fS 12 3 1,lT 13 v0 12,.call 14 [] (.f v1) [.s 11,.s 13],.un 15 .not (.s 14)] [2,3,15] (.cond (.s 15) (Zs [.mv 4 cF] [4] .ret) .skip))
(.seq (Zs [fS 16 2 v2,lF 17 1 16,fS 18 3 v2,lF 19 1 18,bS 20 .neq 17 19] [20] (.cond (.s 20) (Zs [.mv 4 cF] [4] .ret) .skip))
(Zs [.mv 4 cT] [4] .ret)))))
attribute [go_sem] Y2
def M7u:MC:=Y2 5 N1e 6
theorem Caz(x y:GPart):Ctr Tryz.prog N84 [aS x.enc,aS y.enc] [rB (decide (x=y))]:=by
 refine cA M7u 2 21 [(.tmp 4,[false])] Tryz.func53 rfl rfl ?_;unfold M7u
 intro hb
 clear hb
 simp only[go_sem]
 refine⟨fun h=>?_,fun h_Digest=>?_⟩
 ·symm
  rw[decide_eq_false_iff_not]
  rintro rfl
  exact h rfl
 refine K0 (C1d x.Resource y.Resource) ?_
 simp only[go_sem]
 refine⟨fun h=>?_,fun h_Resource=>?_⟩
 ·symm
  rw[decide_eq_false_iff_not]
  rintro rfl
  exact h rfl
 refine⟨fun h=>?_,fun h_Uses=>?_⟩
 ·symm
  rw[decide_eq_false_iff_not]
  rintro rfl
  exact h rfl
 cases x;cases y;simp_all
def Y3(v0:Nat)(v1:Nat):MC:=
(Zs [.mv 4 cF] [0,1] (.seq (Zs [mS 6 0,nS 7 6,mS 8 1,nS 9 8,bS 10 .neq 7 9] [0,1,10] (.cond (.s 10) (Zs [.mv 4 cF] [4] .ret) .skip))
(.seq (Zs [.mv 5 (ci 0)] [0,1,5] (.block 0 (.loop ([0,1,5],[]) (.seq (Zs [mS 11 5,mS 12 0,nS 13 12,bS 14 .lss 11 13] [0,1,5,14] (cX 14 0))
(.seq (.block 1 (.seq (.dreg [Zc [18,21,22,23,24] (mS 17 0),Zc [17,21,22,23,24] (mS 18 5),Zd [21,22,23,24] [0,1] (xS 19 v0 17 18),Zd [21,22,23,24] [0,1,2] (lT 20 v0 19),Zc [17,18,19,20,22] (mS 21 1),Zc [17,18,19,20,21] (mS 22 5),Zd [17,18,19,20] [4,5] (xS 23 v0 21 22),Zd [17,18,19,20] [4,5,6] (lT 24 v0 23),Ze (.range 8) (.call 25 [] (.f v1) [.s 20,.s 24]),Ze (.range 9) (.un 26 .not (.s 25))] [0,1,5,26])
(.cond (.s 26) (Zs [.mv 4 cF] [4] .ret) .skip)))
(pr [mS 15 5,bC 16 .add 15 1,mS 5 16] [0,1,5]))))))
(Zs [.mv 4 cT] [4] .ret))))
attribute [go_sem] Y3
def M73:MC:=Y3 7 N84
theorem C30(xs ys:List GPart):Ctr Tryz.prog N1c [aL 7 (xs.map GPart.enc),aL 7 (ys.map GPart.enc)] [rB (decide (xs=ys))]:=by
 refine cA M73 0 27 [(.tmp 4,[false])] Tryz.func14 rfl rfl ?_;unfold M73
 intro hb
 simp only[bdA,bdL,bdT,Ki,roomB,and_true,List.length_map]at hb
 obtain⟨⟨hl,-⟩,⟨hl2,-⟩⟩:=hb
 simp only[go_sem]
 refine⟨fun h=>K2a h,fun h=>?_⟩
 have hle:xs.length=ys.length:=by omega
 refine K5 xs (fun k=>[(5,vI k)]) (fun k=>[]) (fun k=>xs.take k=ys.take k) hl ?_
 simp only[go_sem]
 refine⟨?_,rfl,?_,?_⟩
 ·simp only[go_sem]
 ·intro k x hx he h0 h1 hw
  obtain⟨y,hy⟩:=Kh (show k<ys.length by omega)
  have h2:(k:Int)<ys.length:=by omega
  simp only[go_sem,K7 hx,K7 hy,h0,h1,h2]
  refine K0 (Caz x y) ?_
  simp only[go_sem,hw]
  exact⟨fun hn=>K2v hx hy hn,fun hn=>(Kt hx hy he).2 hn⟩
 ·intro he
  simp only[go_sem]
  exact K28 he hle
def Y4:MC:=
(Zs [.box 2 0 (.s 0),.mv 4 (ci 0)] [1,2] (Zs [fS 5 2 4,lT 6 5 5,mS 7 1,.call 8 [] (.f N4q) [.s 6,.s 7],mS 1 8] [1] (.seq (Zs [mS 9 1,bC 10 .lss 9 0] [1,10] (.cond (.s 10) (Zs [.mv 4 (.c (.int .i64 (-1)))] [4] .ret) .skip))
(Zs [mS 11 1,mS 4 11] [4] .ret))))
attribute [go_sem] Y4
def M5b:MC:=Y4
theorem Ca2(x:GVersion)(left:Int)(h0:0≤left):Ctr Tryz.prog N5u [aS x.enc,aI left] [rI (szr x.size left)]:=by
 refine cA M5b 1 12 [(.tmp 4,[false])] Tryz.func73 rfl rfl ?_;unfold M5b
 intro hb
 simp only[go_sem]
 refine K0 (C3v x.Resource left h0) ?_
 simp only[go_sem]
 intro _
 refine⟨fun h=>szr_bad' h0 h (by simp only[GVersion.size];omega),fun h1=>?_⟩
 rfl
def Y5:MC:=
(Zs [.box 1 0 (.s 0),.alloc 2 1 [pz,pz,pz,pz,pz,.emp 1,pz,pz,pz]] [1,2] (Zs [.alloc 3 2 [pz,pz,pz,pz,pz,.emp 1,pz,pz,pz]] [1,2,3] (Zs [fS 4 1 0,lT 5 3 4,.call 6 [] (.f Nq) [.s 5],fS 7 3 0,sS 3 7 6] [1,2,3] (Zs [fS 8 1 3,lF 9 1 8,fS 10 3 3,sS 1 10 9] [1,2,3] (Zs [fS 11 1 4,lT 12 5 11,.call 13 [3] (.f N4u) [.s 12],fS 14 3 4,sS 5 14 13] [2,3] (Zs [lT 15 9 3,sS 9 2 15] [2] .ret))))))
attribute [go_sem] Y5
def M5g:MC:=Y5
theorem Ca5(x:GVersion)(hs:x.size≤1073741824):Ctr Tryz.prog N5y [aS x.enc] [rS x.enc]:=by
 refine cA M5g 4 16 [(.cell 2 true 9,[false,false,false,false,false,true,false,false,false])] Tryz.func80 rfl rfl ?_;unfold M5g
 intro hb
 simp only[GVersion.size]at hs
 simp only[go_sem]
 refine K0 (Cn x.Address) ?_
 simp only[go_sem]
 try intros
 refine K0 (C3w x.Resource (by omega)) ?_
 simp only[go_sem]
 try intros
def Y6:MC:=
(Zs [.box 2 0 (.s 0),.box 3 1 (.s 1),.mv 4 cF] [2,3] (.seq (Zs [fS 5 2 0,lT 6 3 5,fS 7 3 0,lT 8 3 7,.call 9 [] (.f Np) [.s 6,.s 8],.un 10 .not (.s 9)] [2,3,10] (.cond (.s 10) (Zs [.mv 4 cF] [4] .ret) .skip))
(.seq (Zs [fS 11 2 3,lF 12 1 11,fS 13 3 3,lF 14 1 13,bS 15 .neq 12 14] [2,3,15] (.cond (.s 15) (Zs [.mv 4 cF] [4] .ret) .skip))
(.seq (Zs [fS 16 2 4,lT 17 5 16,fS 18 3 4,lT 19 5 18,.call 20 [] (.f N1e) [.s 17,.s 19],.un 21 .not (.s 20)] [21] (.cond (.s 21) (Zs [.mv 4 cF] [4] .ret) .skip))
(Zs [.mv 4 cT] [4] .ret)))))
attribute [go_sem] Y6
def M55:MC:=Y6
theorem C9x(x y:GVersion):Ctr Tryz.prog N5o [aS x.enc,aS y.enc] [rB (decide (x=y))]:=by
 refine cA M55 2 22 [(.tmp 4,[false])] Tryz.func88 rfl rfl ?_;unfold M55
 intro hb
 clear hb
 simp only[go_sem]
 refine K0 (Cm x.Address y.Address) ?_
 simp only[go_sem]
 refine⟨fun h=>?_,fun h_Address=>?_⟩
 ·symm
  rw[decide_eq_false_iff_not]
  rintro rfl
  exact h rfl
 refine⟨fun h=>?_,fun h_From=>?_⟩
 ·symm
  rw[decide_eq_false_iff_not]
  rintro rfl
  exact h rfl
 refine K0 (C1d x.Resource y.Resource) ?_
 simp only[go_sem]
 refine⟨fun h=>?_,fun h_Resource=>?_⟩
 ·symm
  rw[decide_eq_false_iff_not]
  rintro rfl
  exact h rfl
 cases x;cases y;simp_all
def Y7(v0:Nat)(v1:Nat):MC:=
(Zs [.mv 4 (ci 0)] [0,1] (Zs [mS 6 1,mS 7 0,nS 8 7,bS 9 .sub 6 8,mS 1 9] [0,1] (.seq (Zs [mS 10 1,bC 11 .lss 10 0] [0,1,11] (.cond (.s 11) (Zs [.mv 4 (.c (.int .i64 (-1)))] [4] .ret) .skip))
(.seq (Zs [.mv 5 (ci 0)] [0,1,5] (.block 0 (.loop ([0,1,5],[]) (.seq (Zs [mS 12 5,mS 13 0,nS 14 13,bS 15 .lss 12 14] [0,1,5,15] (cX 15 0))
(.seq (.block 1 (Zs [mS 18 0,mS 19 5,xS 20 v0 18 19,lT 21 v0 20,mS 22 1,.call 23 [] (.f v1) [.s 21,.s 22],mS 1 23] [0,1,5] (Zs [mS 24 1,bC 25 .lss 24 0] [0,1,5,25] (.cond (.s 25) (Zs [.mv 4 (.c (.int .i64 (-1)))] [4] .ret) .skip))))
(pr [mS 16 5,bC 17 .add 16 1,mS 5 17] [0,1,5]))))))
(Zs [mS 26 1,mS 4 26] [4] .ret)))))
attribute [go_sem] Y7
def M49:MC:=Y7 9 N5u
theorem C9e(xs:List GVersion)(left:Int)(h0:0≤left):Ctr Tryz.prog N4r [aL 9 (xs.map GVersion.enc),aI left] [rI (szr (xs.length+(xs.map GVersion.size).sum) left)]:=by
 refine cA M49 0 27 [(.tmp 4,[false])] Tryz.func28 rfl rfl ?_;unfold M49
 intro hb
 simp only[bdA,bdL,bdT,Ki,K1m,roomB,and_true,List.length_map]at hb
 obtain⟨⟨hl,-⟩,hn⟩:=hb
 simp only[go_sem]
 rw[wI (by omega) (by omega)]
 refine⟨fun h=>?_,fun h=>?_⟩
 ·exact szr_bad' (n:=xs.length) h0 ((K59 h0).2 (by omega)) (by omega)
 ·have hz:szr xs.length left=left-xs.length:=by unfold szr;rw[if_pos (by omega)]
  rw[←hz]at h ⊢
  refine K5 xs (fun k=>[(1,vI (szr (xs.length+((xs.take k).map GVersion.size).sum) left)),(5,vI k)]) (fun k=>[]) (fun k=>¬szr (xs.length+((xs.take k).map GVersion.size).sum) left<0) hl ?_
  simp only[go_sem]
  refine⟨?_,by simpa using h,?_,?_⟩
  ·simp only[go_sem,List.take_zero,List.map_nil,List.sum_nil,Nat.add_zero]
   all_goals rfl
  ·intro k x hx hs hk0 h1 hw
   obtain⟨a1,a2,a3⟩:=K1l (m:=x.size) h0 hs
   rw[Nat.add_assoc,←K4h hx]at a3
   simp only[go_sem,K7 hx,hk0,h1]
   refine K0 (Ca2 x _ a1) ?_
   rw[←a3]
   simp only[go_sem,hw]
   intro _
   refine⟨fun hn=>?_,fun hn=>hn⟩
   have:=K18 (f:=GVersion.size) xs (k+1)
   exact szr_bad' h0 hn (by omega)
  ·intro _
   simp only[go_sem,List.take_length]
def Y8(v0:Nat):MC:=
(Zs [.nilo 2 0 9] [0] (.seq (pr [mS 5 0,nS 6 5,.mk 7 0 9 88 [.sc (.int .i64 0),.sc (.int .i64 0),.sc (.int .i64 0),.sc (.int .i64 0),.sc (.int .i64 0),.sl 1 [],.sc (.int .i64 0),.sc (.int .i64 0),.sc (.int .i64 0)] (.s 6),mS 3 7] [0,3])
(.seq (Zs [.mv 4 (ci 0)] [0,3,4] (.block 0 (.loop ([0,3,4],[1]) (.seq (Zs [mS 8 4,mS 9 0,nS 10 9,bS 11 .lss 8 10] [0,3,4,11] (cX 11 0))
(.seq (.block 1 (pr [mS 14 3,mS 15 4,mS 16 0,mS 17 4,xS 18 9 16 17,lT 19 9 18,.call 20 [1] (.f v0) [.s 19],xS 21 9 14 15,sS 9 21 20] [0,3,4]))
(pr [mS 12 4,bC 13 .add 12 1,mS 4 13] [0,3,4]))))))
(Zs [mS 22 3,mS 2 22] [2] .ret))))
attribute [go_sem] Y8
def M4d:MC:=Y8 N5y
theorem C9h(xs:List GVersion)(hs:xs.length+(xs.map GVersion.size).sum≤1073741824):Ctr Tryz.prog N4v [aL 9 (xs.map GVersion.enc)] [rL 9 (xs.map GVersion.enc)]:=by
 refine cA M4d 2 23 [(.tmp 2,[true])] Tryz.func36 rfl rfl ?_;unfold M4d
 intro hb
 simp only[go_sem]
 refine⟨⟨by omega,by simp only[roomB];omega⟩,?_⟩
 refine K5 xs (fun k=>[(4,vI k)]) (fun k=>[(0,⟨0,.row true 9 (filled GVersion.enc [tI 0,tI 0,tI 0,tI 0,tI 0,.sl 1 [],tI 0,tI 0,tI 0] xs k)⟩)]) (fun _=>True) (by simp only[roomB];omega) ?_
 simp only[go_sem]
 refine⟨?_,trivial,?_,?_⟩
 ·simp only[go_sem,K17]
  all_goals rfl
 ·intro k x hx _ h0 h1 hw
  have h:k<xs.length:=by omega
  simp only[go_sem,K7 hx,h0,h1]
  have hx1:=K1w (f:=GVersion.size) (K1e hx)
  refine K0 (Ca5 x (by omega)) ?_
  simp only[go_sem,K7 (K1g h),K1h (Nat.le_of_lt h),h0,h1,hw]
  intros;exact K1i hx
 ·intro _
  simp only[go_sem,K1f]
def M43:MC:=Y3 9 N5o
theorem C99(xs ys:List GVersion):Ctr Tryz.prog N4l [aL 9 (xs.map GVersion.enc),aL 9 (ys.map GVersion.enc)] [rB (decide (xs=ys))]:=by
 refine cA M43 0 27 [(.tmp 4,[false])] Tryz.func43 rfl rfl ?_;unfold M43
 intro hb
 simp only[bdA,bdL,bdT,Ki,roomB,and_true,List.length_map]at hb
 obtain⟨⟨hl,-⟩,⟨hl2,-⟩⟩:=hb
 simp only[go_sem]
 refine⟨fun h=>K2a h,fun h=>?_⟩
 have hle:xs.length=ys.length:=by omega
 refine K5 xs (fun k=>[(5,vI k)]) (fun k=>[]) (fun k=>xs.take k=ys.take k) hl ?_
 simp only[go_sem]
 refine⟨?_,rfl,?_,?_⟩
 ·simp only[go_sem]
 ·intro k x hx he h0 h1 hw
  obtain⟨y,hy⟩:=Kh (show k<ys.length by omega)
  have h2:(k:Int)<ys.length:=by omega
  simp only[go_sem,K7 hx,K7 hy,h0,h1,h2]
  refine K0 (C9x x y) ?_
  simp only[go_sem,hw]
  exact⟨fun hn=>K2v hx hy hn,fun hn=>(Kt hx hy he).2 hn⟩
 ·intro he
  simp only[go_sem]
  exact K28 he hle
def Y9:MC:=
(Zs [.box 1 0 (.s 0),.alloc 2 1 [pz,pz,pz,pz]] [1,2] (Zs [.alloc 3 2 [pz,pz,pz,pz]] [1,2,3] (Zs [fS 4 1 0,lF 5 1 4,fS 6 3 0,sS 1 6 5] [1,2,3] (Zs [fS 7 1 1,lF 8 1 7,fS 9 3 1,sS 1 9 8] [1,2,3] (Zs [fS 10 1 2,lF 11 1 10,fS 12 3 2,sS 1 12 11] [1,2,3] (Zs [fS 13 1 3,lF 14 1 13,fS 15 3 3,sS 1 15 14] [2,3] (Zs [lT 16 4 3,sS 4 2 16] [2] .ret)))))))
attribute [go_sem] Y9
def M9m:MC:=Y9
theorem Cb6(x:GOp):Ctr Tryz.prog N9r [aS x.enc] [rS x.enc]:=by
 refine cA M9m 3 17 [(.cell 2 true 4,[false,false,false,false])] Tryz.func81 rfl rfl ?_;unfold M9m
 intro hb
 simp only[go_sem]
def Y10:MC:=
(Zs [.box 2 0 (.s 0),.box 3 1 (.s 1),.mv 4 cF] [2,3] (.seq (Zs [fS 5 2 0,lF 6 1 5,fS 7 3 0,lF 8 1 7,bS 9 .neq 6 8] [2,3,9] (.cond (.s 9) (Zs [.mv 4 cF] [4] .ret) .skip))
(.seq (Zs [fS 10 2 1,lF 11 1 10,fS 12 3 1,lF 13 1 12,bS 14 .neq 11 13] [2,3,14] (.cond (.s 14) (Zs [.mv 4 cF] [4] .ret) .skip))
(.seq (Zs [fS 15 2 2,lF 16 1 15,fS 17 3 2,lF 18 1 17,bS 19 .neq 16 18] [2,3,19] (.cond (.s 19) (Zs [.mv 4 cF] [4] .ret) .skip))
(.seq (Zs [fS 20 2 3,lF 21 1 20,fS 22 3 3,lF 23 1 22,bS 24 .neq 21 23] [24] (.cond (.s 24) (Zs [.mv 4 cF] [4] .ret) .skip))
(Zs [.mv 4 cT] [4] .ret))))))
attribute [go_sem] Y10
def M9l:MC:=Y10
theorem Cb5(x y:GOp):Ctr Tryz.prog N9q [aS x.enc,aS y.enc] [rB (decide (x=y))]:=by
 refine cA M9l 2 25 [(.tmp 4,[false])] Tryz.func89 rfl rfl ?_;unfold M9l
 intro hb
 clear hb
 simp only[go_sem]
 refine⟨fun h=>?_,fun h_Kind=>?_⟩
 ·symm
  rw[decide_eq_false_iff_not]
  rintro rfl
  exact h rfl
 refine⟨fun h=>?_,fun h_A=>?_⟩
 ·symm
  rw[decide_eq_false_iff_not]
  rintro rfl
  exact h rfl
 refine⟨fun h=>?_,fun h_B=>?_⟩
 ·symm
  rw[decide_eq_false_iff_not]
  rintro rfl
  exact h rfl
 refine⟨fun h=>?_,fun h_C=>?_⟩
 ·symm
  rw[decide_eq_false_iff_not]
  rintro rfl
  exact h rfl
 cases x;cases y;simp_all
def M93:MC:=Y0
theorem C8u(xs:List GOp)(left:Int)(h0:0≤left):Ctr Tryz.prog N5t [aL 4 (xs.map GOp.enc),aI left] [rI (szr xs.length left)]:=by
 refine cA M93 0 12 [(.tmp 4,[false])] Tryz.func29 rfl rfl ?_;unfold M93
 intro hb
 simp only[bdA,bdL,bdT,Ki,K1m,roomB,and_true,List.length_map]at hb
 obtain⟨⟨hl,-⟩,hn⟩:=hb
 simp only[go_sem]
 rw[wI (by omega) (by omega)]
 unfold szr
 refine⟨fun h=>?_,fun h=>?_⟩
 ·rw[if_neg (by omega)]
 ·rw[if_pos (by omega)]
def Y11(v0:Nat):MC:=
(Zs [.nilo 2 0 4] [0] (Zs [mS 5 0,nS 6 5,.mk 7 0 4 32 [.sc (.int .i64 0),.sc (.int .i64 0),.sc (.int .i64 0),.sc (.int .i64 0)] (.s 6),mS 3 7] [0,3] (.seq (Zs [.mv 4 (ci 0)] [0,3,4] (.block 0 (.loop ([0,3,4],[]) (.seq (Zs [mS 8 4,mS 9 0,nS 10 9,bS 11 .lss 8 10] [0,3,4,11] (cX 11 0))
(.seq (.block 1 (pr [mS 14 3,mS 15 4,mS 16 0,mS 17 4,xS 18 4 16 17,lT 19 4 18,.call 20 [] (.f v0) [.s 19],xS 21 4 14 15,sS 4 21 20] [0,3,4]))
(pr [mS 12 4,bC 13 .add 12 1,mS 4 13] [0,3,4]))))))
(Zs [mS 22 3,mS 2 22] [2] .ret))))
attribute [go_sem] Y11
def M94:MC:=Y11 N9r
theorem C8x(xs:List GOp)(hs:xs.length≤1073741824):Ctr Tryz.prog N5x [aL 4 (xs.map GOp.enc)] [rL 4 (xs.map GOp.enc)]:=by
 refine cA M94 1 23 [(.tmp 2,[true])] Tryz.func37 rfl rfl ?_;unfold M94
 intro hb
 simp only[go_sem]
 refine⟨⟨by omega,by simp only[roomB];omega⟩,?_⟩
 refine K5 xs (fun k=>[(4,vI k)]) (fun k=>[(0,⟨0,.row true 4 (filled GOp.enc [tI 0,tI 0,tI 0,tI 0] xs k)⟩)]) (fun _=>True) (by simp only[roomB];omega) ?_
 simp only[go_sem]
 refine⟨?_,trivial,?_,?_⟩
 ·simp only[go_sem,K17]
  all_goals rfl
 ·intro k x hx _ h0 h1 hw
  have h:k<xs.length:=by omega
  simp only[go_sem,K7 hx,h0,h1]
  refine K0 (Cb6 x) ?_
  simp only[go_sem,K7 (K1g h),K1h (Nat.le_of_lt h),h0,h1,hw]
  intros;exact K1i hx
 ·intro _
  simp only[go_sem,K1f]
def M92:MC:=Y3 4 N9q
theorem C8q(xs ys:List GOp):Ctr Tryz.prog N5n [aL 4 (xs.map GOp.enc),aL 4 (ys.map GOp.enc)] [rB (decide (xs=ys))]:=by
 refine cA M92 0 27 [(.tmp 4,[false])] Tryz.func44 rfl rfl ?_;unfold M92
 intro hb
 simp only[bdA,bdL,bdT,Ki,roomB,and_true,List.length_map]at hb
 obtain⟨⟨hl,-⟩,⟨hl2,-⟩⟩:=hb
 simp only[go_sem]
 refine⟨fun h=>K2a h,fun h=>?_⟩
 have hle:xs.length=ys.length:=by omega
 refine K5 xs (fun k=>[(5,vI k)]) (fun k=>[]) (fun k=>xs.take k=ys.take k) hl ?_
 simp only[go_sem]
 refine⟨?_,rfl,?_,?_⟩
 ·simp only[go_sem]
 ·intro k x hx he h0 h1 hw
  obtain⟨y,hy⟩:=Kh (show k<ys.length by omega)
  have h2:(k:Int)<ys.length:=by omega
  simp only[go_sem,K7 hx,K7 hy,h0,h1,h2]
  refine K0 (Cb5 x y) ?_
  simp only[go_sem,hw]
  exact⟨fun hn=>K2v hx hy hn,fun hn=>(Kt hx hy he).2 hn⟩
 ·intro he
  simp only[go_sem]
  exact K28 he hle
def M75:MC:=
(Zs [.box 1 0 (.s 0),.alloc 2 1 [pz,pz,pz,pz,pz]] [1,2] (Zs [.alloc 3 2 [pz,pz,pz,pz,pz]] [1,2,3] (Zs [fS 4 1 0,lF 5 1 4,fS 6 3 0,sS 1 6 5] [1,2,3] (Zs [fS 7 1 1,lT 8 3 7,.call 9 [] (.f Nq) [.s 8],fS 10 3 1,sS 3 10 9] [1,2,3] (Zs [fS 11 1 4,lF 12 1 11,fS 13 3 4,sS 1 13 12] [2,3] (Zs [lT 14 5 3,sS 5 2 14] [2] .ret))))))
theorem Caq(x:GEntry):Ctr Tryz.prog N7h [aS x.enc] [rS x.enc]:=by
 refine cA M75 3 15 [(.cell 2 true 5,[false,false,false,false,false])] Tryz.func222 rfl rfl ?_;unfold M75
 intro hb
 simp only[go_sem]
 refine K0 (Cn x.Address) ?_
 simp only[go_sem]
 try intros
def M71:MC:=Y2 3 Np 4
theorem Cao(x y:GEntry):Ctr Tryz.prog N7f [aS x.enc,aS y.enc] [rB (decide (x=y))]:=by
 refine cA M71 2 21 [(.tmp 4,[false])] Tryz.func224 rfl rfl ?_;unfold M71
 intro hb
 clear hb
 simp only[go_sem]
 refine⟨fun h=>?_,fun h_Kind=>?_⟩
 ·symm
  rw[decide_eq_false_iff_not]
  rintro rfl
  exact h rfl
 refine K0 (Cm x.Address y.Address) ?_
 simp only[go_sem]
 refine⟨fun h=>?_,fun h_Address=>?_⟩
 ·symm
  rw[decide_eq_false_iff_not]
  rintro rfl
  exact h rfl
 refine⟨fun h=>?_,fun h_Value=>?_⟩
 ·symm
  rw[decide_eq_false_iff_not]
  rintro rfl
  exact h rfl
 cases x;cases y;simp_all
def M6c:MC:=Y0
theorem Cad(xs:List GEntry)(left:Int)(h0:0≤left):Ctr Tryz.prog N6n [aL 5 (xs.map GEntry.enc),aI left] [rI (szr xs.length left)]:=by
 refine cA M6c 0 12 [(.tmp 4,[false])] Tryz.func193 rfl rfl ?_;unfold M6c
 intro hb
 simp only[bdA,bdL,bdT,Ki,K1m,roomB,and_true,List.length_map]at hb
 obtain⟨⟨hl,-⟩,hn⟩:=hb
 simp only[go_sem]
 rw[wI (by omega) (by omega)]
 unfold szr
 refine⟨fun h=>?_,fun h=>?_⟩
 ·rw[if_neg (by omega)]
 ·rw[if_pos (by omega)]
def Y12(v0:Nat):MC:=
(Zs [.nilo 2 0 5] [0] (Zs [mS 5 0,nS 6 5,.mk 7 0 5 40 [.sc (.int .i64 0),.sc (.int .i64 0),.sc (.int .i64 0),.sc (.int .i64 0),.sc (.int .i64 0)] (.s 6),mS 3 7] [0,3] (.seq (Zs [.mv 4 (ci 0)] [0,3,4] (.block 0 (.loop ([0,3,4],[]) (.seq (Zs [mS 8 4,mS 9 0,nS 10 9,bS 11 .lss 8 10] [0,3,4,11] (cX 11 0))
(.seq (.block 1 (pr [mS 14 3,mS 15 4,mS 16 0,mS 17 4,xS 18 5 16 17,lT 19 5 18,.call 20 [] (.f v0) [.s 19],xS 21 5 14 15,sS 5 21 20] [0,3,4]))
(pr [mS 12 4,bC 13 .add 12 1,mS 4 13] [0,3,4]))))))
(Zs [mS 22 3,mS 2 22] [2] .ret))))
attribute [go_sem] Y12
def M6e:MC:=Y12 N7h
theorem Caf(xs:List GEntry)(hs:xs.length≤1073741824):Ctr Tryz.prog N6p [aL 5 (xs.map GEntry.enc)] [rL 5 (xs.map GEntry.enc)]:=by
 refine cA M6e 1 23 [(.tmp 2,[true])] Tryz.func195 rfl rfl ?_;unfold M6e
 intro hb
 simp only[go_sem]
 refine⟨⟨by omega,by simp only[roomB];omega⟩,?_⟩
 refine K5 xs (fun k=>[(4,vI k)]) (fun k=>[(0,⟨0,.row true 5 (filled GEntry.enc [tI 0,tI 0,tI 0,tI 0,tI 0] xs k)⟩)]) (fun _=>True) (by simp only[roomB];omega) ?_
 simp only[go_sem]
 refine⟨?_,trivial,?_,?_⟩
 ·simp only[go_sem,K17]
  all_goals rfl
 ·intro k x hx _ h0 h1 hw
  have h:k<xs.length:=by omega
  simp only[go_sem,K7 hx,h0,h1]
  refine K0 (Caq x) ?_
  simp only[go_sem,K7 (K1g h),K1h (Nat.le_of_lt h),h0,h1,hw]
  intros;exact K1i hx
 ·intro _
  simp only[go_sem,K1f]
def M67:MC:=Y3 5 N7f
theorem Ca9(xs ys:List GEntry):Ctr Tryz.prog N6j [aL 5 (xs.map GEntry.enc),aL 5 (ys.map GEntry.enc)] [rB (decide (xs=ys))]:=by
 refine cA M67 0 27 [(.tmp 4,[false])] Tryz.func197 rfl rfl ?_;unfold M67
 intro hb
 simp only[bdA,bdL,bdT,Ki,roomB,and_true,List.length_map]at hb
 obtain⟨⟨hl,-⟩,⟨hl2,-⟩⟩:=hb
 simp only[go_sem]
 refine⟨fun h=>K2a h,fun h=>?_⟩
 have hle:xs.length=ys.length:=by omega
 refine K5 xs (fun k=>[(5,vI k)]) (fun k=>[]) (fun k=>xs.take k=ys.take k) hl ?_
 simp only[go_sem]
 refine⟨?_,rfl,?_,?_⟩
 ·simp only[go_sem]
 ·intro k x hx he h0 h1 hw
  obtain⟨y,hy⟩:=Kh (show k<ys.length by omega)
  have h2:(k:Int)<ys.length:=by omega
  simp only[go_sem,K7 hx,K7 hy,h0,h1,h2]
  refine K0 (Cao x y) ?_
  simp only[go_sem,hw]
  exact⟨fun hn=>K2v hx hy hn,fun hn=>(Kt hx hy he).2 hn⟩
 ·intro he
  simp only[go_sem]
  exact K28 he hle
def M59:MC:=Y4
theorem Ca0(x:GCapture)(left:Int)(h0:0≤left):Ctr Tryz.prog N5r [aS x.enc,aI left] [rI (szr x.size left)]:=by
 refine cA M59 1 12 [(.tmp 4,[false])] Tryz.func221 rfl rfl ?_;unfold M59
 intro hb
 simp only[go_sem]
 refine K0 (C3v x.Resource left h0) ?_
 simp only[go_sem]
 intro _
 refine⟨fun h=>szr_bad' h0 h (by simp only[GCapture.size];omega),fun h1=>?_⟩
 rfl
def M5e:MC:=Y5
theorem Ca3(x:GCapture)(hs:x.size≤1073741824):Ctr Tryz.prog N5v [aS x.enc] [rS x.enc]:=by
 refine cA M5e 4 16 [(.cell 2 true 9,[false,false,false,false,false,true,false,false,false])] Tryz.func223 rfl rfl ?_;unfold M5e
 intro hb
 simp only[GCapture.size]at hs
 simp only[go_sem]
 refine K0 (Cn x.Address) ?_
 simp only[go_sem]
 try intros
 refine K0 (C3w x.Resource (by omega)) ?_
 simp only[go_sem]
 try intros
def M53:MC:=Y6
theorem C9v(x y:GCapture):Ctr Tryz.prog N5l [aS x.enc,aS y.enc] [rB (decide (x=y))]:=by
 refine cA M53 2 22 [(.tmp 4,[false])] Tryz.func225 rfl rfl ?_;unfold M53
 intro hb
 clear hb
 simp only[go_sem]
 refine K0 (Cm x.Address y.Address) ?_
 simp only[go_sem]
 refine⟨fun h=>?_,fun h_Address=>?_⟩
 ·symm
  rw[decide_eq_false_iff_not]
  rintro rfl
  exact h rfl
 refine⟨fun h=>?_,fun h_Tick=>?_⟩
 ·symm
  rw[decide_eq_false_iff_not]
  rintro rfl
  exact h rfl
 refine K0 (C1d x.Resource y.Resource) ?_
 simp only[go_sem]
 refine⟨fun h=>?_,fun h_Resource=>?_⟩
 ·symm
  rw[decide_eq_false_iff_not]
  rintro rfl
  exact h rfl
 cases x;cases y;simp_all
def M46:MC:=Y7 9 N5r
theorem C9c(xs:List GCapture)(left:Int)(h0:0≤left):Ctr Tryz.prog N4o [aL 9 (xs.map GCapture.enc),aI left] [rI (szr (xs.length+(xs.map GCapture.size).sum) left)]:=by
 refine cA M46 0 27 [(.tmp 4,[false])] Tryz.func194 rfl rfl ?_;unfold M46
 intro hb
 simp only[bdA,bdL,bdT,Ki,K1m,roomB,and_true,List.length_map]at hb
 obtain⟨⟨hl,-⟩,hn⟩:=hb
 simp only[go_sem]
 rw[wI (by omega) (by omega)]
 refine⟨fun h=>?_,fun h=>?_⟩
 ·exact szr_bad' (n:=xs.length) h0 ((K59 h0).2 (by omega)) (by omega)
 ·have hz:szr xs.length left=left-xs.length:=by unfold szr;rw[if_pos (by omega)]
  rw[←hz]at h ⊢
  refine K5 xs (fun k=>[(1,vI (szr (xs.length+((xs.take k).map GCapture.size).sum) left)),(5,vI k)]) (fun k=>[]) (fun k=>¬szr (xs.length+((xs.take k).map GCapture.size).sum) left<0) hl ?_
  simp only[go_sem]
  refine⟨?_,by simpa using h,?_,?_⟩
  ·simp only[go_sem,List.take_zero,List.map_nil,List.sum_nil,Nat.add_zero]
   all_goals rfl
  ·intro k x hx hs hk0 h1 hw
   obtain⟨a1,a2,a3⟩:=K1l (m:=x.size) h0 hs
   rw[Nat.add_assoc,←K4h hx]at a3
   simp only[go_sem,K7 hx,hk0,h1]
   refine K0 (Ca0 x _ a1) ?_
   rw[←a3]
   simp only[go_sem,hw]
   intro _
   refine⟨fun hn=>?_,fun hn=>hn⟩
   have:=K18 (f:=GCapture.size) xs (k+1)
   exact szr_bad' h0 hn (by omega)
  ·intro _
   simp only[go_sem,List.take_length]
def M4a:MC:=Y8 N5v
theorem C9f(xs:List GCapture)(hs:xs.length+(xs.map GCapture.size).sum≤1073741824):Ctr Tryz.prog N4s [aL 9 (xs.map GCapture.enc)] [rL 9 (xs.map GCapture.enc)]:=by
 refine cA M4a 2 23 [(.tmp 2,[true])] Tryz.func196 rfl rfl ?_;unfold M4a
 intro hb
 simp only[go_sem]
 refine⟨⟨by omega,by simp only[roomB];omega⟩,?_⟩
 refine K5 xs (fun k=>[(4,vI k)]) (fun k=>[(0,⟨0,.row true 9 (filled GCapture.enc [tI 0,tI 0,tI 0,tI 0,tI 0,.sl 1 [],tI 0,tI 0,tI 0] xs k)⟩)]) (fun _=>True) (by simp only[roomB];omega) ?_
 simp only[go_sem]
 refine⟨?_,trivial,?_,?_⟩
 ·simp only[go_sem,K17]
  all_goals rfl
 ·intro k x hx _ h0 h1 hw
  have h:k<xs.length:=by omega
  simp only[go_sem,K7 hx,h0,h1]
  have hx1:=K1w (f:=GCapture.size) (K1e hx)
  refine K0 (Ca3 x (by omega)) ?_
  simp only[go_sem,K7 (K1g h),K1h (Nat.le_of_lt h),h0,h1,hw]
  intros;exact K1i hx
 ·intro _
  simp only[go_sem,K1f]
def M40:MC:=Y3 9 N5l
theorem C97(xs ys:List GCapture):Ctr Tryz.prog N4j [aL 9 (xs.map GCapture.enc),aL 9 (ys.map GCapture.enc)] [rB (decide (xs=ys))]:=by
 refine cA M40 0 27 [(.tmp 4,[false])] Tryz.func198 rfl rfl ?_;unfold M40
 intro hb
 simp only[bdA,bdL,bdT,Ki,roomB,and_true,List.length_map]at hb
 obtain⟨⟨hl,-⟩,⟨hl2,-⟩⟩:=hb
 simp only[go_sem]
 refine⟨fun h=>K2a h,fun h=>?_⟩
 have hle:xs.length=ys.length:=by omega
 refine K5 xs (fun k=>[(5,vI k)]) (fun k=>[]) (fun k=>xs.take k=ys.take k) hl ?_
 simp only[go_sem]
 refine⟨?_,rfl,?_,?_⟩
 ·simp only[go_sem]
 ·intro k x hx he h0 h1 hw
  obtain⟨y,hy⟩:=Kh (show k<ys.length by omega)
  have h2:(k:Int)<ys.length:=by omega
  simp only[go_sem,K7 hx,K7 hy,h0,h1,h2]
  refine K0 (C9v x y) ?_
  simp only[go_sem,hw]
  exact⟨fun hn=>K2v hx hy hn,fun hn=>(Kt hx hy he).2 hn⟩
 ·intro he
  simp only[go_sem]
  exact K28 he hle
def M3d:MC:=
(Zs [.box 1 0 (.s 0),.alloc 2 1 [pz,pz,pz,pz,pz]] [1,2] (Zs [.alloc 3 2 [pz,pz,pz,pz,pz]] [1,2,3] (Zs [fS 4 1 0,lF 5 1 4,fS 6 3 0,sS 1 6 5] [1,2,3] (Zs [fS 7 1 1,lF 8 1 7,fS 9 3 1,sS 1 9 8] [1,2,3] (Zs [fS 10 1 2,lF 11 1 10,fS 12 3 2,sS 1 12 11] [1,2,3] (Zs [fS 13 1 3,lF 14 1 13,fS 15 3 3,sS 1 15 14] [1,2,3] (Zs [fS 16 1 4,lF 17 1 16,fS 18 3 4,sS 1 18 17] [2,3] (Zs [lT 19 5 3,sS 5 2 19] [2] .ret))))))))
theorem C8w(x:GExclusion):Ctr Tryz.prog N3n [aS x.enc] [rS x.enc]:=by
 refine cA M3d 3 20 [(.cell 2 true 5,[false,false,false,false,false])] Tryz.func84 rfl rfl ?_;unfold M3d
 intro hb
 simp only[go_sem]
def M38:MC:=
(Zs [.box 2 0 (.s 0),.box 3 1 (.s 1),.mv 4 cF] [2,3] (.seq (Zs [fS 5 2 0,lF 6 1 5,fS 7 3 0,lF 8 1 7,bS 9 .neq 6 8] [2,3,9] (.cond (.s 9) (Zs [.mv 4 cF] [4] .ret) .skip))
(.seq (Zs [fS 10 2 1,lF 11 1 10,fS 12 3 1,lF 13 1 12,bS 14 .neq 11 13] [2,3,14] (.cond (.s 14) (Zs [.mv 4 cF] [4] .ret) .skip))
(.seq (Zs [fS 15 2 2,lF 16 1 15,fS 17 3 2,lF 18 1 17,bS 19 .neq 16 18] [2,3,19] (.cond (.s 19) (Zs [.mv 4 cF] [4] .ret) .skip))
(.seq (Zs [fS 20 2 3,lF 21 1 20,fS 22 3 3,lF 23 1 22,bS 24 .neq 21 23] [2,3,24] (.cond (.s 24) (Zs [.mv 4 cF] [4] .ret) .skip))
(.seq (Zs [fS 25 2 4,lF 26 1 25,fS 27 3 4,lF 28 1 27,bS 29 .neq 26 28] [29] (.cond (.s 29) (Zs [.mv 4 cF] [4] .ret) .skip))
(Zs [.mv 4 cT] [4] .ret)))))))
theorem C8p(x y:GExclusion):Ctr Tryz.prog N3i [aS x.enc,aS y.enc] [rB (decide (x=y))]:=by
 refine cA M38 2 30 [(.tmp 4,[false])] Tryz.func92 rfl rfl ?_;unfold M38
 intro hb
 clear hb
 simp only[go_sem]
 refine⟨fun h=>?_,fun h_Host=>?_⟩
 ·symm
  rw[decide_eq_false_iff_not]
  rintro rfl
  exact h rfl
 refine⟨fun h=>?_,fun h_Path=>?_⟩
 ·symm
  rw[decide_eq_false_iff_not]
  rintro rfl
  exact h rfl
 refine⟨fun h=>?_,fun h_From=>?_⟩
 ·symm
  rw[decide_eq_false_iff_not]
  rintro rfl
  exact h rfl
 refine⟨fun h=>?_,fun h_Until=>?_⟩
 ·symm
  rw[decide_eq_false_iff_not]
  rintro rfl
  exact h rfl
 refine⟨fun h=>?_,fun h_Asked=>?_⟩
 ·symm
  rw[decide_eq_false_iff_not]
  rintro rfl
  exact h rfl
 cases x;cases y;simp_all
def M2g:MC:=Y0
theorem C8f(xs:List GExclusion)(left:Int)(h0:0≤left):Ctr Tryz.prog N2v [aL 5 (xs.map GExclusion.enc),aI left] [rI (szr xs.length left)]:=by
 refine cA M2g 0 12 [(.tmp 4,[false])] Tryz.func31 rfl rfl ?_;unfold M2g
 intro hb
 simp only[bdA,bdL,bdT,Ki,K1m,roomB,and_true,List.length_map]at hb
 obtain⟨⟨hl,-⟩,hn⟩:=hb
 simp only[go_sem]
 rw[wI (by omega) (by omega)]
 unfold szr
 refine⟨fun h=>?_,fun h=>?_⟩
 ·rw[if_neg (by omega)]
 ·rw[if_pos (by omega)]
def M2j:MC:=Y12 N3n
theorem C8h(xs:List GExclusion)(hs:xs.length≤1073741824):Ctr Tryz.prog N2x [aL 5 (xs.map GExclusion.enc)] [rL 5 (xs.map GExclusion.enc)]:=by
 refine cA M2j 1 23 [(.tmp 2,[true])] Tryz.func39 rfl rfl ?_;unfold M2j
 intro hb
 simp only[go_sem]
 refine⟨⟨by omega,by simp only[roomB];omega⟩,?_⟩
 refine K5 xs (fun k=>[(4,vI k)]) (fun k=>[(0,⟨0,.row true 5 (filled GExclusion.enc [tI 0,tI 0,tI 0,tI 0,tI 0] xs k)⟩)]) (fun _=>True) (by simp only[roomB];omega) ?_
 simp only[go_sem]
 refine⟨?_,trivial,?_,?_⟩
 ·simp only[go_sem,K17]
  all_goals rfl
 ·intro k x hx _ h0 h1 hw
  have h:k<xs.length:=by omega
  simp only[go_sem,K7 hx,h0,h1]
  refine K0 (C8w x) ?_
  simp only[go_sem,K7 (K1g h),K1h (Nat.le_of_lt h),h0,h1,hw]
  intros;exact K1i hx
 ·intro _
  simp only[go_sem,K1f]
def M2a:MC:=Y3 5 N3i
theorem C8a(xs ys:List GExclusion):Ctr Tryz.prog N2q [aL 5 (xs.map GExclusion.enc),aL 5 (ys.map GExclusion.enc)] [rB (decide (xs=ys))]:=by
 refine cA M2a 0 27 [(.tmp 4,[false])] Tryz.func46 rfl rfl ?_;unfold M2a
 intro hb
 simp only[bdA,bdL,bdT,Ki,roomB,and_true,List.length_map]at hb
 obtain⟨⟨hl,-⟩,⟨hl2,-⟩⟩:=hb
 simp only[go_sem]
 refine⟨fun h=>K2a h,fun h=>?_⟩
 have hle:xs.length=ys.length:=by omega
 refine K5 xs (fun k=>[(5,vI k)]) (fun k=>[]) (fun k=>xs.take k=ys.take k) hl ?_
 simp only[go_sem]
 refine⟨?_,rfl,?_,?_⟩
 ·simp only[go_sem]
 ·intro k x hx he h0 h1 hw
  obtain⟨y,hy⟩:=Kh (show k<ys.length by omega)
  have h2:(k:Int)<ys.length:=by omega
  simp only[go_sem,K7 hx,K7 hy,h0,h1,h2]
  refine K0 (C8p x y) ?_
  simp only[go_sem,hw]
  exact⟨fun hn=>K2v hx hy hn,fun hn=>(Kt hx hy he).2 hn⟩
 ·intro he
  simp only[go_sem]
  exact K28 he hle
def M3e:MC:=Y9
theorem C8y(x:GStatement):Ctr Tryz.prog N3o [aS x.enc] [rS x.enc]:=by
 refine cA M3e 3 17 [(.cell 2 true 4,[false,false,false,false])] Tryz.func86 rfl rfl ?_;unfold M3e
 intro hb
 simp only[go_sem]
def M39:MC:=Y10
theorem C8r(x y:GStatement):Ctr Tryz.prog N3j [aS x.enc,aS y.enc] [rB (decide (x=y))]:=by
 refine cA M39 2 25 [(.tmp 4,[false])] Tryz.func94 rfl rfl ?_;unfold M39
 intro hb
 clear hb
 simp only[go_sem]
 refine⟨fun h=>?_,fun h_Witness=>?_⟩
 ·symm
  rw[decide_eq_false_iff_not]
  rintro rfl
  exact h rfl
 refine⟨fun h=>?_,fun h_Digest=>?_⟩
 ·symm
  rw[decide_eq_false_iff_not]
  rintro rfl
  exact h rfl
 refine⟨fun h=>?_,fun h_Tick=>?_⟩
 ·symm
  rw[decide_eq_false_iff_not]
  rintro rfl
  exact h rfl
 refine⟨fun h=>?_,fun h_Seal=>?_⟩
 ·symm
  rw[decide_eq_false_iff_not]
  rintro rfl
  exact h rfl
 cases x;cases y;simp_all
def M2h:MC:=Y0
theorem C8g(xs:List GStatement)(left:Int)(h0:0≤left):Ctr Tryz.prog N2w [aL 4 (xs.map GStatement.enc),aI left] [rI (szr xs.length left)]:=by
 refine cA M2h 0 12 [(.tmp 4,[false])] Tryz.func34 rfl rfl ?_;unfold M2h
 intro hb
 simp only[bdA,bdL,bdT,Ki,K1m,roomB,and_true,List.length_map]at hb
 obtain⟨⟨hl,-⟩,hn⟩:=hb
 simp only[go_sem]
 rw[wI (by omega) (by omega)]
 unfold szr
 refine⟨fun h=>?_,fun h=>?_⟩
 ·rw[if_neg (by omega)]
 ·rw[if_pos (by omega)]
def M2k:MC:=Y11 N3o
theorem C8i(xs:List GStatement)(hs:xs.length≤1073741824):Ctr Tryz.prog N2y [aL 4 (xs.map GStatement.enc)] [rL 4 (xs.map GStatement.enc)]:=by
 refine cA M2k 1 23 [(.tmp 2,[true])] Tryz.func41 rfl rfl ?_;unfold M2k
 intro hb
 simp only[go_sem]
 refine⟨⟨by omega,by simp only[roomB];omega⟩,?_⟩
 refine K5 xs (fun k=>[(4,vI k)]) (fun k=>[(0,⟨0,.row true 4 (filled GStatement.enc [tI 0,tI 0,tI 0,tI 0] xs k)⟩)]) (fun _=>True) (by simp only[roomB];omega) ?_
 simp only[go_sem]
 refine⟨?_,trivial,?_,?_⟩
 ·simp only[go_sem,K17]
  all_goals rfl
 ·intro k x hx _ h0 h1 hw
  have h:k<xs.length:=by omega
  simp only[go_sem,K7 hx,h0,h1]
  refine K0 (C8y x) ?_
  simp only[go_sem,K7 (K1g h),K1h (Nat.le_of_lt h),h0,h1,hw]
  intros;exact K1i hx
 ·intro _
  simp only[go_sem,K1f]
def M2b:MC:=Y3 4 N3j
theorem C8b(xs ys:List GStatement):Ctr Tryz.prog N2r [aL 4 (xs.map GStatement.enc),aL 4 (ys.map GStatement.enc)] [rB (decide (xs=ys))]:=by
 refine cA M2b 0 27 [(.tmp 4,[false])] Tryz.func48 rfl rfl ?_;unfold M2b
 intro hb
 simp only[bdA,bdL,bdT,Ki,roomB,and_true,List.length_map]at hb
 obtain⟨⟨hl,-⟩,⟨hl2,-⟩⟩:=hb
 simp only[go_sem]
 refine⟨fun h=>K2a h,fun h=>?_⟩
 have hle:xs.length=ys.length:=by omega
 refine K5 xs (fun k=>[(5,vI k)]) (fun k=>[]) (fun k=>xs.take k=ys.take k) hl ?_
 simp only[go_sem]
 refine⟨?_,rfl,?_,?_⟩
 ·simp only[go_sem]
 ·intro k x hx he h0 h1 hw
  obtain⟨y,hy⟩:=Kh (show k<ys.length by omega)
  have h2:(k:Int)<ys.length:=by omega
  simp only[go_sem,K7 hx,K7 hy,h0,h1,h2]
  refine K0 (C8r x y) ?_
  simp only[go_sem,hw]
  exact⟨fun hn=>K2v hx hy hn,fun hn=>(Kt hx hy he).2 hn⟩
 ·intro he
  simp only[go_sem]
  exact K28 he hle
def M5a:MC:=Y1
theorem Ca1(x:GLibrary)(left:Int)(h0:0≤left):Ctr Tryz.prog N5s [aS x.enc,aI left] [rI (szr x.size left)]:=by
 refine cA M5a 1 12 [(.tmp 4,[false])] Tryz.func76 rfl rfl ?_;unfold M5a
 intro hb
 simp only[go_sem]
 refine K0 (C3r x.Digests left h0) ?_
 simp only[go_sem]
 intro _
 refine⟨fun h=>szr_bad' h0 h (by simp only[GLibrary.size];omega),fun h1=>?_⟩
 rfl
def M5f:MC:=
(Zs [.box 1 0 (.s 0),.alloc 2 1 [pz,.emp 1,.pl (.sc (.bool false)),.pl (.sc (.bool false))]] [1,2] (Zs [.alloc 3 2 [pz,.emp 1,.pl (.sc (.bool false)),.pl (.sc (.bool false))]] [1,2,3] (Zs [fS 4 1 0,lF 5 1 4,fS 6 3 0,sS 1 6 5] [1,2,3] (Zs [fS 7 1 1,lF 8 1 7,.call 9 [3] (.f N1j) [.s 8],fS 10 3 1,sS 1 10 9] [1,2,3] (Zs [fS 11 1 2,lF 12 1 11,fS 13 3 2,sS 1 13 12] [1,2,3] (Zs [fS 14 1 3,lF 15 1 14,fS 16 3 3,sS 1 16 15] [2,3] (Zs [lT 17 4 3,sS 4 2 17] [2] .ret)))))))
theorem Ca4(x:GLibrary)(hs:x.size≤1073741824):Ctr Tryz.prog N5w [aS x.enc] [rS x.enc]:=by
 refine cA M5f 4 18 [(.cell 2 true 4,[false,true,false,false])] Tryz.func85 rfl rfl ?_;unfold M5f
 intro hb
 simp only[GLibrary.size]at hs
 simp only[go_sem]
 refine K0 (C3s x.Digests (by omega)) ?_
 simp only[go_sem]
 try intros
def M54:MC:=
(Zs [.box 2 0 (.s 0),.box 3 1 (.s 1),.mv 4 cF] [2,3] (.seq (Zs [fS 5 2 0,lF 6 1 5,fS 7 3 0,lF 8 1 7,bS 9 .neq 6 8] [2,3,9] (.cond (.s 9) (Zs [.mv 4 cF] [4] .ret) .skip))
(.seq (Zs [fS 10 2 1,lF 11 1 10,fS 12 3 1,lF 13 1 12,.call 14 [] (.f N1i) [.s 11,.s 13],.un 15 .not (.s 14)] [2,3,15] (.cond (.s 15) (Zs [.mv 4 cF] [4] .ret) .skip))
(.seq (Zs [fS 16 2 2,lF 17 1 16,fS 18 3 2,lF 19 1 18,.bin 20 true .neq (.s 17) (.s 19)] [2,3,20] (.cond (.s 20) (Zs [.mv 4 cF] [4] .ret) .skip))
(.seq (Zs [fS 21 2 3,lF 22 1 21,fS 23 3 3,lF 24 1 23,.bin 25 true .neq (.s 22) (.s 24)] [25] (.cond (.s 25) (Zs [.mv 4 cF] [4] .ret) .skip))
(Zs [.mv 4 cT] [4] .ret))))))
theorem C9w(x y:GLibrary):Ctr Tryz.prog N5m [aS x.enc,aS y.enc] [rB (decide (x=y))]:=by
 refine cA M54 2 26 [(.tmp 4,[false])] Tryz.func93 rfl rfl ?_;unfold M54
 intro hb
 clear hb
 simp only[go_sem]
 refine⟨fun h=>?_,fun h_Id=>?_⟩
 ·symm
  rw[decide_eq_false_iff_not]
  rintro rfl
  exact h rfl
 refine K0 (C3q x.Digests y.Digests) ?_
 simp only[go_sem]
 refine⟨fun h=>?_,fun h_Digests=>?_⟩
 ·symm
  rw[decide_eq_false_iff_not]
  rintro rfl
  exact h rfl
 refine⟨fun h=>?_,fun h_Up=>?_⟩
 ·symm
  rw[decide_eq_false_iff_not]
  rintro rfl
  exact h rfl
 refine⟨fun h=>?_,fun h_Lies=>?_⟩
 ·symm
  rw[decide_eq_false_iff_not]
  rintro rfl
  exact h rfl
 cases x;cases y;simp_all
def M47:MC:=Y7 4 N5s
theorem C9d(xs:List GLibrary)(left:Int)(h0:0≤left):Ctr Tryz.prog N4p [aL 4 (xs.map GLibrary.enc),aI left] [rI (szr (xs.length+(xs.map GLibrary.size).sum) left)]:=by
 refine cA M47 0 27 [(.tmp 4,[false])] Tryz.func32 rfl rfl ?_;unfold M47
 intro hb
 simp only[bdA,bdL,bdT,Ki,K1m,roomB,and_true,List.length_map]at hb
 obtain⟨⟨hl,-⟩,hn⟩:=hb
 simp only[go_sem]
 rw[wI (by omega) (by omega)]
 refine⟨fun h=>?_,fun h=>?_⟩
 ·exact szr_bad' (n:=xs.length) h0 ((K59 h0).2 (by omega)) (by omega)
 ·have hz:szr xs.length left=left-xs.length:=by unfold szr;rw[if_pos (by omega)]
  rw[←hz]at h ⊢
  refine K5 xs (fun k=>[(1,vI (szr (xs.length+((xs.take k).map GLibrary.size).sum) left)),(5,vI k)]) (fun k=>[]) (fun k=>¬szr (xs.length+((xs.take k).map GLibrary.size).sum) left<0) hl ?_
  simp only[go_sem]
  refine⟨?_,by simpa using h,?_,?_⟩
  ·simp only[go_sem,List.take_zero,List.map_nil,List.sum_nil,Nat.add_zero]
   all_goals rfl
  ·intro k x hx hs hk0 h1 hw
   obtain⟨a1,a2,a3⟩:=K1l (m:=x.size) h0 hs
   rw[Nat.add_assoc,←K4h hx]at a3
   simp only[go_sem,K7 hx,hk0,h1]
   refine K0 (Ca1 x _ a1) ?_
   rw[←a3]
   simp only[go_sem,hw]
   intro _
   refine⟨fun hn=>?_,fun hn=>hn⟩
   have:=K18 (f:=GLibrary.size) xs (k+1)
   exact szr_bad' h0 hn (by omega)
  ·intro _
   simp only[go_sem,List.take_length]
def M4b:MC:=
(Zs [.nilo 2 0 4] [0] (.seq (pr [mS 5 0,nS 6 5,.mk 7 0 4 40 [.sc (.int .i64 0),.sl 1 [],.sc (.bool false),.sc (.bool false)] (.s 6),mS 3 7] [0,3])
(.seq (Zs [.mv 4 (ci 0)] [0,3,4] (.block 0 (.loop ([0,3,4],[1]) (.seq (Zs [mS 8 4,mS 9 0,nS 10 9,bS 11 .lss 8 10] [0,3,4,11] (cX 11 0))
(.seq (.block 1 (pr [mS 14 3,mS 15 4,mS 16 0,mS 17 4,xS 18 4 16 17,lT 19 4 18,.call 20 [1] (.f N5w) [.s 19],xS 21 4 14 15,sS 4 21 20] [0,3,4]))
(pr [mS 12 4,bC 13 .add 12 1,mS 4 13] [0,3,4]))))))
(Zs [mS 22 3,mS 2 22] [2] .ret))))
theorem C9g(xs:List GLibrary)(hs:xs.length+(xs.map GLibrary.size).sum≤1073741824):Ctr Tryz.prog N4t [aL 4 (xs.map GLibrary.enc)] [rL 4 (xs.map GLibrary.enc)]:=by
 refine cA M4b 2 23 [(.tmp 2,[true])] Tryz.func40 rfl rfl ?_;unfold M4b
 intro hb
 simp only[go_sem]
 refine⟨⟨by omega,by simp only[roomB];omega⟩,?_⟩
 refine K5 xs (fun k=>[(4,vI k)]) (fun k=>[(0,⟨0,.row true 4 (filled GLibrary.enc [tI 0,.sl 1 [],tB false,tB false] xs k)⟩)]) (fun _=>True) (by simp only[roomB];omega) ?_
 simp only[go_sem]
 refine⟨?_,trivial,?_,?_⟩
 ·simp only[go_sem,K17]
  all_goals rfl
 ·intro k x hx _ h0 h1 hw
  have h:k<xs.length:=by omega
  simp only[go_sem,K7 hx,h0,h1]
  have hx1:=K1w (f:=GLibrary.size) (K1e hx)
  refine K0 (Ca4 x (by omega)) ?_
  simp only[go_sem,K7 (K1g h),K1h (Nat.le_of_lt h),h0,h1,hw]
  intros;exact K1i hx
 ·intro _
  simp only[go_sem,K1f]
def M41:MC:=Y3 4 N5m
theorem C98(xs ys:List GLibrary):Ctr Tryz.prog N4k [aL 4 (xs.map GLibrary.enc),aL 4 (ys.map GLibrary.enc)] [rB (decide (xs=ys))]:=by
 refine cA M41 0 27 [(.tmp 4,[false])] Tryz.func47 rfl rfl ?_;unfold M41
 intro hb
 simp only[bdA,bdL,bdT,Ki,roomB,and_true,List.length_map]at hb
 obtain⟨⟨hl,-⟩,⟨hl2,-⟩⟩:=hb
 simp only[go_sem]
 refine⟨fun h=>K2a h,fun h=>?_⟩
 have hle:xs.length=ys.length:=by omega
 refine K5 xs (fun k=>[(5,vI k)]) (fun k=>[]) (fun k=>xs.take k=ys.take k) hl ?_
 simp only[go_sem]
 refine⟨?_,rfl,?_,?_⟩
 ·simp only[go_sem]
 ·intro k x hx he h0 h1 hw
  obtain⟨y,hy⟩:=Kh (show k<ys.length by omega)
  have h2:(k:Int)<ys.length:=by omega
  simp only[go_sem,K7 hx,K7 hy,h0,h1,h2]
  refine K0 (C9w x y) ?_
  simp only[go_sem,hw]
  exact⟨fun hn=>K2v hx hy hn,fun hn=>(Kt hx hy he).2 hn⟩
 ·intro he
  simp only[go_sem]
  exact K28 he hle
def Y13(v0:Nat)(v1:Nat)(v2:Nat):MC:=
(Zs [.box 2 0 (.s 0),.mv 4 (ci 0)] [1,2] (Zs [fS 5 2 0,lF 6 1 5,mS 7 1,.call 8 [] (.f v0) [.s 6,.s 7],mS 1 8] [1,2] (.seq (Zs [mS 9 1,bC 10 .lss 9 0] [1,2,10] (.cond (.s 10) (Zs [.mv 4 (.c (.int .i64 (-1)))] [4] .ret) .skip))
(Zs [fS 11 2 1,lF 12 1 11,mS 13 1,.call 14 [] (.f v1) [.s 12,.s 13],mS 1 14] [1,2] (.seq (Zs [mS 15 1,bC 16 .lss 15 0] [1,2,16] (.cond (.s 16) (Zs [.mv 4 (.c (.int .i64 (-1)))] [4] .ret) .skip))
(Zs [fS 17 2 2,lF 18 1 17,mS 19 1,.call 20 [] (.f v2) [.s 18,.s 19],mS 1 20] [1] (.seq (Zs [mS 21 1,bC 22 .lss 21 0] [1,22] (.cond (.s 22) (Zs [.mv 4 (.c (.int .i64 (-1)))] [4] .ret) .skip))
(Zs [mS 23 1,mS 4 23] [4] .ret))))))))
attribute [go_sem] Y13
def M3b:MC:=Y13 N5t N6n N4o
theorem C8t(x:GContainer)(left:Int)(h0:0≤left):Ctr Tryz.prog N3l [aS x.enc,aI left] [rI (szr x.size left)]:=by
 refine cA M3b 1 24 [(.tmp 4,[false])] Tryz.func144 rfl rfl ?_;unfold M3b
 intro hb
 simp only[go_sem]
 refine K0 (C8u x.Script left h0) ?_
 simp only[go_sem]
 intro _
 refine⟨fun h=>szr_bad' h0 h (by simp only[GContainer.size];omega),fun h1=>?_⟩
 obtain⟨a1,b1,e1⟩:=K1l (m:=x.Entries.length) h0 h1
 refine K0 (Cad x.Entries _ a1) ?_
 rw[←e1]
 simp only[go_sem]
 intro _
 refine⟨fun h=>szr_bad' h0 h (by simp only[GContainer.size];omega),fun h2=>?_⟩
 obtain⟨a2,b2,e2⟩:=K1l (m:=x.Captures.length+(x.Captures.map GCapture.size).sum) h0 h2
 refine K0 (C9c x.Captures _ a2) ?_
 rw[←e2]
 simp only[go_sem]
 intro _
 refine⟨fun h=>szr_bad' h0 h (by simp only[GContainer.size];omega),fun h3=>?_⟩
 rfl
def M3c:MC:=
(Zs [.box 1 0 (.s 0),.alloc 2 1 [.emp 4,.emp 5,.emp 9,pz]] [1,2] (Zs [.alloc 3 2 [.emp 4,.emp 5,.emp 9,pz]] [1,2,3] (Zs [fS 4 1 0,lF 5 1 4,.call 6 [3] (.f N5x) [.s 5],fS 7 3 0,sS 1 7 6] [1,2,3] (Zs [fS 8 1 1,lF 9 1 8,.call 10 [4] (.f N6p) [.s 9],fS 11 3 1,sS 1 11 10] [1,2,3] (Zs [fS 12 1 2,lF 13 1 12,.call 14 [5] (.f N4s) [.s 13],fS 15 3 2,sS 1 15 14] [1,2,3] (Zs [fS 16 1 3,lF 17 1 16,fS 18 3 3,sS 1 18 17] [2,3] (Zs [lT 19 4 3,sS 4 2 19] [2] .ret)))))))
theorem C8v(x:GContainer)(hs:x.size≤1073741824):Ctr Tryz.prog N3m [aS x.enc] [rS x.enc]:=by
 refine cA M3c 6 20 [(.cell 2 true 4,[true,true,true,false])] Tryz.func147 rfl rfl ?_;unfold M3c
 intro hb
 simp only[GContainer.size]at hs
 simp only[go_sem]
 refine K0 (C8x x.Script (by omega)) ?_
 simp only[go_sem]
 try intros
 refine K0 (Caf x.Entries (by omega)) ?_
 simp only[go_sem]
 try intros
 refine K0 (C9f x.Captures (by omega)) ?_
 simp only[go_sem]
 try intros
def M37:MC:=
(Zs [.box 2 0 (.s 0),.box 3 1 (.s 1),.mv 4 cF] [2,3] (.seq (Zs [fS 5 2 0,lF 6 1 5,fS 7 3 0,lF 8 1 7,.call 9 [] (.f N5n) [.s 6,.s 8],.un 10 .not (.s 9)] [2,3,10] (.cond (.s 10) (Zs [.mv 4 cF] [4] .ret) .skip))
(.seq (Zs [fS 11 2 1,lF 12 1 11,fS 13 3 1,lF 14 1 13,.call 15 [] (.f N6j) [.s 12,.s 14],.un 16 .not (.s 15)] [2,3,16] (.cond (.s 16) (Zs [.mv 4 cF] [4] .ret) .skip))
(.seq (Zs [fS 17 2 2,lF 18 1 17,fS 19 3 2,lF 20 1 19,.call 21 [] (.f N4j) [.s 18,.s 20],.un 22 .not (.s 21)] [2,3,22] (.cond (.s 22) (Zs [.mv 4 cF] [4] .ret) .skip))
(.seq (Zs [fS 23 2 3,lF 24 1 23,fS 25 3 3,lF 26 1 25,bS 27 .neq 24 26] [27] (.cond (.s 27) (Zs [.mv 4 cF] [4] .ret) .skip))
(Zs [.mv 4 cT] [4] .ret))))))
theorem C8o(x y:GContainer):Ctr Tryz.prog N3h [aS x.enc,aS y.enc] [rB (decide (x=y))]:=by
 refine cA M37 2 28 [(.tmp 4,[false])] Tryz.func150 rfl rfl ?_;unfold M37
 intro hb
 clear hb
 simp only[go_sem]
 refine K0 (C8q x.Script y.Script) ?_
 simp only[go_sem]
 refine⟨fun h=>?_,fun h_Script=>?_⟩
 ·symm
  rw[decide_eq_false_iff_not]
  rintro rfl
  exact h rfl
 refine K0 (Ca9 x.Entries y.Entries) ?_
 simp only[go_sem]
 refine⟨fun h=>?_,fun h_Entries=>?_⟩
 ·symm
  rw[decide_eq_false_iff_not]
  rintro rfl
  exact h rfl
 refine K0 (C97 x.Captures y.Captures) ?_
 simp only[go_sem]
 refine⟨fun h=>?_,fun h_Captures=>?_⟩
 ·symm
  rw[decide_eq_false_iff_not]
  rintro rfl
  exact h rfl
 refine⟨fun h=>?_,fun h_Root=>?_⟩
 ·symm
  rw[decide_eq_false_iff_not]
  rintro rfl
  exact h rfl
 cases x;cases y;simp_all
def M2f:MC:=Y7 4 N3l
theorem C22(xs:List GContainer)(left:Int)(h0:0≤left):Ctr Tryz.prog N17 [aL 4 (xs.map GContainer.enc),aI left] [rI (szr (xs.length+(xs.map GContainer.size).sum) left)]:=by
 refine cA M2f 0 27 [(.tmp 4,[false])] Tryz.func74 rfl rfl ?_;unfold M2f
 intro hb
 simp only[bdA,bdL,bdT,Ki,K1m,roomB,and_true,List.length_map]at hb
 obtain⟨⟨hl,-⟩,hn⟩:=hb
 simp only[go_sem]
 rw[wI (by omega) (by omega)]
 refine⟨fun h=>?_,fun h=>?_⟩
 ·exact szr_bad' (n:=xs.length) h0 ((K59 h0).2 (by omega)) (by omega)
 ·have hz:szr xs.length left=left-xs.length:=by unfold szr;rw[if_pos (by omega)]
  rw[←hz]at h ⊢
  refine K5 xs (fun k=>[(1,vI (szr (xs.length+((xs.take k).map GContainer.size).sum) left)),(5,vI k)]) (fun k=>[]) (fun k=>¬szr (xs.length+((xs.take k).map GContainer.size).sum) left<0) hl ?_
  simp only[go_sem]
  refine⟨?_,by simpa using h,?_,?_⟩
  ·simp only[go_sem,List.take_zero,List.map_nil,List.sum_nil,Nat.add_zero]
   all_goals rfl
  ·intro k x hx hs hk0 h1 hw
   obtain⟨a1,a2,a3⟩:=K1l (m:=x.size) h0 hs
   rw[Nat.add_assoc,←K4h hx]at a3
   simp only[go_sem,K7 hx,hk0,h1]
   refine K0 (C8t x _ a1) ?_
   rw[←a3]
   simp only[go_sem,hw]
   intro _
   refine⟨fun hn=>?_,fun hn=>hn⟩
   have:=K18 (f:=GContainer.size) xs (k+1)
   exact szr_bad' h0 hn (by omega)
  ·intro _
   simp only[go_sem,List.take_length]
def M2i:MC:=
(Zs [.nilo 2 0 4] [0] (.seq (pr [mS 5 0,nS 6 5,.mk 7 0 4 80 [.sl 4 [],.sl 5 [],.sl 9 [],.sc (.int .i64 0)] (.s 6),mS 3 7] [0,3])
(.seq (Zs [.mv 4 (ci 0)] [0,3,4] (.block 0 (.loop ([0,3,4],[1,2,3]) (.seq (Zs [mS 8 4,mS 9 0,nS 10 9,bS 11 .lss 8 10] [0,3,4,11] (cX 11 0))
(.seq (.block 1 (pr [mS 14 3,mS 15 4,mS 16 0,mS 17 4,xS 18 4 16 17,lT 19 4 18,.call 20 [1,2,3] (.f N3m) [.s 19],xS 21 4 14 15,sS 4 21 20] [0,3,4]))
(pr [mS 12 4,bC 13 .add 12 1,mS 4 13] [0,3,4]))))))
(Zs [mS 22 3,mS 2 22] [2] .ret))))
theorem C23(xs:List GContainer)(hs:xs.length+(xs.map GContainer.size).sum≤1073741824):Ctr Tryz.prog N18 [aL 4 (xs.map GContainer.enc)] [rL 4 (xs.map GContainer.enc)]:=by
 refine cA M2i 4 23 [(.tmp 2,[true])] Tryz.func82 rfl rfl ?_;unfold M2i
 intro hb
 simp only[go_sem]
 refine⟨⟨by omega,by simp only[roomB];omega⟩,?_⟩
 refine K5 xs (fun k=>[(4,vI k)]) (fun k=>[(0,⟨0,.row true 4 (filled GContainer.enc [.sl 4 [],.sl 5 [],.sl 9 [],tI 0] xs k)⟩)]) (fun _=>True) (by simp only[roomB];omega) ?_
 simp only[go_sem]
 refine⟨?_,trivial,?_,?_⟩
 ·simp only[go_sem,K17]
  all_goals rfl
 ·intro k x hx _ h0 h1 hw
  have h:k<xs.length:=by omega
  simp only[go_sem,K7 hx,h0,h1]
  have hx1:=K1w (f:=GContainer.size) (K1e hx)
  refine K0 (C8v x (by omega)) ?_
  simp only[go_sem,K7 (K1g h),K1h (Nat.le_of_lt h),h0,h1,hw]
  intros;exact K1i hx
 ·intro _
  simp only[go_sem,K1f]
def M29:MC:=Y3 4 N3h
theorem C21(xs ys:List GContainer):Ctr Tryz.prog N16 [aL 4 (xs.map GContainer.enc),aL 4 (ys.map GContainer.enc)] [rB (decide (xs=ys))]:=by
 refine cA M29 0 27 [(.tmp 4,[false])] Tryz.func90 rfl rfl ?_;unfold M29
 intro hb
 simp only[bdA,bdL,bdT,Ki,roomB,and_true,List.length_map]at hb
 obtain⟨⟨hl,-⟩,⟨hl2,-⟩⟩:=hb
 simp only[go_sem]
 refine⟨fun h=>K2a h,fun h=>?_⟩
 have hle:xs.length=ys.length:=by omega
 refine K5 xs (fun k=>[(5,vI k)]) (fun k=>[]) (fun k=>xs.take k=ys.take k) hl ?_
 simp only[go_sem]
 refine⟨?_,rfl,?_,?_⟩
 ·simp only[go_sem]
 ·intro k x hx he h0 h1 hw
  obtain⟨y,hy⟩:=Kh (show k<ys.length by omega)
  have h2:(k:Int)<ys.length:=by omega
  simp only[go_sem,K7 hx,K7 hy,h0,h1,h2]
  refine K0 (C8o x y) ?_
  simp only[go_sem,hw]
  exact⟨fun hn=>K2v hx hy hn,fun hn=>(Kt hx hy he).2 hn⟩
 ·intro he
  simp only[go_sem]
  exact K28 he hle
def M76:MC:=
(Zs [.box 1 0 (.s 0),.alloc 2 1 [pz,pz,pz,pz,pz,pz]] [1,2] (Zs [.alloc 3 2 [pz,pz,pz,pz,pz,pz]] [1,2,3] (Zs [fS 4 1 0,lT 5 3 4,.call 6 [] (.f Nq) [.s 5],fS 7 3 0,sS 3 7 6] [1,2,3] (Zs [fS 8 1 3,lF 9 1 8,fS 10 3 3,sS 1 10 9] [1,2,3] (Zs [fS 11 1 4,lF 12 1 11,fS 13 3 4,sS 1 13 12] [1,2,3] (Zs [fS 14 1 5,lF 15 1 14,fS 16 3 5,sS 1 16 15] [2,3] (Zs [lT 17 6 3,sS 6 2 17] [2] .ret)))))))
theorem Car(x:GFound):Ctr Tryz.prog N7i [aS x.enc] [rS x.enc]:=by
 refine cA M76 3 18 [(.cell 2 true 6,[false,false,false,false,false,false])] Tryz.func148 rfl rfl ?_;unfold M76
 intro hb
 simp only[go_sem]
 refine K0 (Cn x.Address) ?_
 simp only[go_sem]
 try intros
def M72:MC:=
(Zs [.box 2 0 (.s 0),.box 3 1 (.s 1),.mv 4 cF] [2,3] (.seq (Zs [fS 5 2 0,lT 6 3 5,fS 7 3 0,lT 8 3 7,.call 9 [] (.f Np) [.s 6,.s 8],.un 10 .not (.s 9)] [2,3,10] (.cond (.s 10) (Zs [.mv 4 cF] [4] .ret) .skip))
(.seq (Zs [fS 11 2 3,lF 12 1 11,fS 13 3 3,lF 14 1 13,bS 15 .neq 12 14] [2,3,15] (.cond (.s 15) (Zs [.mv 4 cF] [4] .ret) .skip))
(.seq (Zs [fS 16 2 4,lF 17 1 16,fS 18 3 4,lF 19 1 18,bS 20 .neq 17 19] [2,3,20] (.cond (.s 20) (Zs [.mv 4 cF] [4] .ret) .skip))
(.seq (Zs [fS 21 2 5,lF 22 1 21,fS 23 3 5,lF 24 1 23,bS 25 .neq 22 24] [25] (.cond (.s 25) (Zs [.mv 4 cF] [4] .ret) .skip))
(Zs [.mv 4 cT] [4] .ret))))))
theorem Cap(x y:GFound):Ctr Tryz.prog N7g [aS x.enc,aS y.enc] [rB (decide (x=y))]:=by
 refine cA M72 2 26 [(.tmp 4,[false])] Tryz.func151 rfl rfl ?_;unfold M72
 intro hb
 clear hb
 simp only[go_sem]
 refine K0 (Cm x.Address y.Address) ?_
 simp only[go_sem]
 refine⟨fun h=>?_,fun h_Address=>?_⟩
 ·symm
  rw[decide_eq_false_iff_not]
  rintro rfl
  exact h rfl
 refine⟨fun h=>?_,fun h_Tick=>?_⟩
 ·symm
  rw[decide_eq_false_iff_not]
  rintro rfl
  exact h rfl
 refine⟨fun h=>?_,fun h_Container=>?_⟩
 ·symm
  rw[decide_eq_false_iff_not]
  rintro rfl
  exact h rfl
 refine⟨fun h=>?_,fun h_At=>?_⟩
 ·symm
  rw[decide_eq_false_iff_not]
  rintro rfl
  exact h rfl
 cases x;cases y;simp_all
def M6d:MC:=Y0
theorem Cae(xs:List GFound)(left:Int)(h0:0≤left):Ctr Tryz.prog N6o [aL 6 (xs.map GFound.enc),aI left] [rI (szr xs.length left)]:=by
 refine cA M6d 0 12 [(.tmp 4,[false])] Tryz.func75 rfl rfl ?_;unfold M6d
 intro hb
 simp only[bdA,bdL,bdT,Ki,K1m,roomB,and_true,List.length_map]at hb
 obtain⟨⟨hl,-⟩,hn⟩:=hb
 simp only[go_sem]
 rw[wI (by omega) (by omega)]
 unfold szr
 refine⟨fun h=>?_,fun h=>?_⟩
 ·rw[if_neg (by omega)]
 ·rw[if_pos (by omega)]
def M6f:MC:=
(Zs [.nilo 2 0 6] [0] (Zs [mS 5 0,nS 6 5,.mk 7 0 6 48 [.sc (.int .i64 0),.sc (.int .i64 0),.sc (.int .i64 0),.sc (.int .i64 0),.sc (.int .i64 0),.sc (.int .i64 0)] (.s 6),mS 3 7] [0,3] (.seq (Zs [.mv 4 (ci 0)] [0,3,4] (.block 0 (.loop ([0,3,4],[]) (.seq (Zs [mS 8 4,mS 9 0,nS 10 9,bS 11 .lss 8 10] [0,3,4,11] (cX 11 0))
(.seq (.block 1 (pr [mS 14 3,mS 15 4,mS 16 0,mS 17 4,xS 18 6 16 17,lT 19 6 18,.call 20 [] (.f N7i) [.s 19],xS 21 6 14 15,sS 6 21 20] [0,3,4]))
(pr [mS 12 4,bC 13 .add 12 1,mS 4 13] [0,3,4]))))))
(Zs [mS 22 3,mS 2 22] [2] .ret))))
theorem Cag(xs:List GFound)(hs:xs.length≤1073741824):Ctr Tryz.prog N6q [aL 6 (xs.map GFound.enc)] [rL 6 (xs.map GFound.enc)]:=by
 refine cA M6f 1 23 [(.tmp 2,[true])] Tryz.func83 rfl rfl ?_;unfold M6f
 intro hb
 simp only[go_sem]
 refine⟨⟨by omega,by simp only[roomB];omega⟩,?_⟩
 refine K5 xs (fun k=>[(4,vI k)]) (fun k=>[(0,⟨0,.row true 6 (filled GFound.enc [tI 0,tI 0,tI 0,tI 0,tI 0,tI 0] xs k)⟩)]) (fun _=>True) (by simp only[roomB];omega) ?_
 simp only[go_sem]
 refine⟨?_,trivial,?_,?_⟩
 ·simp only[go_sem,K17]
  all_goals rfl
 ·intro k x hx _ h0 h1 hw
  have h:k<xs.length:=by omega
  simp only[go_sem,K7 hx,h0,h1]
  refine K0 (Car x) ?_
  simp only[go_sem,K7 (K1g h),K1h (Nat.le_of_lt h),h0,h1,hw]
  intros;exact K1i hx
 ·intro _
  simp only[go_sem,K1f]
def M68:MC:=Y3 6 N7g
theorem Caa(xs ys:List GFound):Ctr Tryz.prog N6k [aL 6 (xs.map GFound.enc),aL 6 (ys.map GFound.enc)] [rB (decide (xs=ys))]:=by
 refine cA M68 0 27 [(.tmp 4,[false])] Tryz.func91 rfl rfl ?_;unfold M68
 intro hb
 simp only[bdA,bdL,bdT,Ki,roomB,and_true,List.length_map]at hb
 obtain⟨⟨hl,-⟩,⟨hl2,-⟩⟩:=hb
 simp only[go_sem]
 refine⟨fun h=>K2a h,fun h=>?_⟩
 have hle:xs.length=ys.length:=by omega
 refine K5 xs (fun k=>[(5,vI k)]) (fun k=>[]) (fun k=>xs.take k=ys.take k) hl ?_
 simp only[go_sem]
 refine⟨?_,rfl,?_,?_⟩
 ·simp only[go_sem]
 ·intro k x hx he h0 h1 hw
  obtain⟨y,hy⟩:=Kh (show k<ys.length by omega)
  have h2:(k:Int)<ys.length:=by omega
  simp only[go_sem,K7 hx,K7 hy,h0,h1,h2]
  refine K0 (Cap x y) ?_
  simp only[go_sem,hw]
  exact⟨fun hn=>K2v hx hy hn,fun hn=>(Kt hx hy he).2 hn⟩
 ·intro he
  simp only[go_sem]
  exact K28 he hle
def M7v:MC:=Y13 N17 N6o N17
theorem Cb0(x:GDisk)(left:Int)(h0:0≤left):Ctr Tryz.prog N85 [aS x.enc,aI left] [rI (szr x.size left)]:=by
 refine cA M7v 1 24 [(.tmp 4,[false])] Tryz.func30 rfl rfl ?_;unfold M7v
 intro hb
 simp only[go_sem]
 refine K0 (C22 x.Containers left h0) ?_
 simp only[go_sem]
 intro _
 refine⟨fun h=>szr_bad' h0 h (by simp only[GDisk.size];omega),fun h1=>?_⟩
 obtain⟨a1,b1,e1⟩:=K1l (m:=x.Index.length) h0 h1
 refine K0 (Cae x.Index _ a1) ?_
 rw[←e1]
 simp only[go_sem]
 intro _
 refine⟨fun h=>szr_bad' h0 h (by simp only[GDisk.size];omega),fun h2=>?_⟩
 obtain⟨a2,b2,e2⟩:=K1l (m:=x.Wanted.length+(x.Wanted.map GContainer.size).sum) h0 h2
 refine K0 (C22 x.Wanted _ a2) ?_
 rw[←e2]
 simp only[go_sem]
 intro _
 refine⟨fun h=>szr_bad' h0 h (by simp only[GDisk.size];omega),fun h3=>?_⟩
 rfl
def M7x:MC:=
(Zs [.box 1 0 (.s 0),.alloc 2 1 [.emp 4,.emp 6,.emp 4]] [1,2] (Zs [.alloc 3 2 [.emp 4,.emp 6,.emp 4]] [1,2,3] (Zs [fS 4 1 0,lF 5 1 4,.call 6 [3] (.f N18) [.s 5],fS 7 3 0,sS 1 7 6] [1,2,3] (Zs [fS 8 1 1,lF 9 1 8,.call 10 [4] (.f N6q) [.s 9],fS 11 3 1,sS 1 11 10] [1,2,3] (Zs [fS 12 1 2,lF 13 1 12,.call 14 [5] (.f N18) [.s 13],fS 15 3 2,sS 1 15 14] [2,3] (Zs [lT 16 3 3,sS 3 2 16] [2] .ret))))))
theorem Cb1(x:GDisk)(hs:x.size≤1073741824):Ctr Tryz.prog N86 [aS x.enc] [rS x.enc]:=by
 refine cA M7x 6 17 [(.cell 2 true 3,[true,true,true])] Tryz.func38 rfl rfl ?_;unfold M7x
 intro hb
 simp only[GDisk.size]at hs
 simp only[go_sem]
 refine K0 (C23 x.Containers (by omega)) ?_
 simp only[go_sem]
 try intros
 refine K0 (Cag x.Index (by omega)) ?_
 simp only[go_sem]
 try intros
 refine K0 (C23 x.Wanted (by omega)) ?_
 simp only[go_sem]
 try intros
def M7s:MC:=
(Zs [.box 2 0 (.s 0),.box 3 1 (.s 1),.mv 4 cF] [2,3] (.seq (Zs [fS 5 2 0,lF 6 1 5,fS 7 3 0,lF 8 1 7,.call 9 [] (.f N16) [.s 6,.s 8],.un 10 .not (.s 9)] [2,3,10] (.cond (.s 10) (Zs [.mv 4 cF] [4] .ret) .skip))
(.seq (Zs [fS 11 2 1,lF 12 1 11,fS 13 3 1,lF 14 1 13,.call 15 [] (.f N6k) [.s 12,.s 14],.un 16 .not (.s 15)] [2,3,16] (.cond (.s 16) (Zs [.mv 4 cF] [4] .ret) .skip))
(.seq (Zs [fS 17 2 2,lF 18 1 17,fS 19 3 2,lF 20 1 19,.call 21 [] (.f N16) [.s 18,.s 20],.un 22 .not (.s 21)] [22] (.cond (.s 22) (Zs [.mv 4 cF] [4] .ret) .skip))
(Zs [.mv 4 cT] [4] .ret)))))
theorem Cay(x y:GDisk):Ctr Tryz.prog N83 [aS x.enc,aS y.enc] [rB (decide (x=y))]:=by
 refine cA M7s 2 23 [(.tmp 4,[false])] Tryz.func45 rfl rfl ?_;unfold M7s
 intro hb
 clear hb
 simp only[go_sem]
 refine K0 (C21 x.Containers y.Containers) ?_
 simp only[go_sem]
 refine⟨fun h=>?_,fun h_Containers=>?_⟩
 ·symm
  rw[decide_eq_false_iff_not]
  rintro rfl
  exact h rfl
 refine K0 (Caa x.Index y.Index) ?_
 simp only[go_sem]
 refine⟨fun h=>?_,fun h_Index=>?_⟩
 ·symm
  rw[decide_eq_false_iff_not]
  rintro rfl
  exact h rfl
 refine K0 (C21 x.Wanted y.Wanted) ?_
 simp only[go_sem]
 refine⟨fun h=>?_,fun h_Wanted=>?_⟩
 ·symm
  rw[decide_eq_false_iff_not]
  rintro rfl
  exact h rfl
 cases x;cases y;simp_all
def M58:MC:=
(Zs [.box 2 0 (.s 0),.mv 4 (ci 0)] [1,2] (Zs [fS 5 2 0,lF 6 1 5,mS 7 1,.call 8 [] (.f N4r) [.s 6,.s 7],mS 1 8] [1,2] (.seq (Zs [mS 9 1,bC 10 .lss 9 0] [1,2,10] (.cond (.s 10) (Zs [.mv 4 (.c (.int .i64 (-1)))] [4] .ret) .skip))
(Zs [fS 11 2 1,lF 12 1 11,mS 13 1,.call 14 [] (.f N5t) [.s 12,.s 13],mS 1 14] [1,2] (.seq (Zs [mS 15 1,bC 16 .lss 15 0] [1,2,16] (.cond (.s 16) (Zs [.mv 4 (.c (.int .i64 (-1)))] [4] .ret) .skip))
(Zs [fS 17 2 2,lT 18 3 17,mS 19 1,.call 20 [] (.f N85) [.s 18,.s 19],mS 1 20] [1,2] (.seq (Zs [mS 21 1,bC 22 .lss 21 0] [1,2,22] (.cond (.s 22) (Zs [.mv 4 (.c (.int .i64 (-1)))] [4] .ret) .skip))
(Zs [fS 23 2 5,lF 24 1 23,mS 25 1,.call 26 [] (.f N2v) [.s 24,.s 25],mS 1 26] [1,2] (.seq (Zs [mS 27 1,bC 28 .lss 27 0] [1,2,28] (.cond (.s 28) (Zs [.mv 4 (.c (.int .i64 (-1)))] [4] .ret) .skip))
(Zs [fS 29 2 6,lF 30 1 29,mS 31 1,.call 32 [] (.f N4p) [.s 30,.s 31],mS 1 32] [1,2] (.seq (Zs [mS 33 1,bC 34 .lss 33 0] [1,2,34] (.cond (.s 34) (Zs [.mv 4 (.c (.int .i64 (-1)))] [4] .ret) .skip))
(Zs [fS 35 2 7,lF 36 1 35,mS 37 1,.call 38 [] (.f N3t) [.s 36,.s 37],mS 1 38] [1,2] (.seq (Zs [mS 39 1,bC 40 .lss 39 0] [1,2,40] (.cond (.s 40) (Zs [.mv 4 (.c (.int .i64 (-1)))] [4] .ret) .skip))
(Zs [fS 41 2 8,lF 42 1 41,mS 43 1,.call 44 [] (.f N2w) [.s 42,.s 43],mS 1 44] [1] (.seq (Zs [mS 45 1,bC 46 .lss 45 0] [1,46] (.cond (.s 46) (Zs [.mv 4 (.c (.int .i64 (-1)))] [4] .ret) .skip))
(Zs [mS 47 1,mS 4 47] [4] .ret))))))))))))))))
theorem C9z(x:GArchive)(left:Int)(h0:0≤left):Ctr Tryz.prog N5q [aS x.enc,aI left] [rI (szr x.size left)]:=by
 refine cA M58 1 48 [(.tmp 4,[false])] Tryz.func7 rfl rfl ?_;unfold M58
 intro hb
 simp only[go_sem]
 refine K0 (C9e x.Site left h0) ?_
 simp only[go_sem]
 intro _
 refine⟨fun h=>szr_bad' h0 h (by simp only[GArchive.size];omega),fun h1=>?_⟩
 obtain⟨a1,b1,e1⟩:=K1l (m:=x.Script.length) h0 h1
 refine K0 (C8u x.Script _ a1) ?_
 rw[←e1]
 simp only[go_sem]
 intro _
 refine⟨fun h=>szr_bad' h0 h (by simp only[GArchive.size];omega),fun h2=>?_⟩
 obtain⟨a2,b2,e2⟩:=K1l (m:=x.Disk.size) h0 h2
 refine K0 (Cb0 x.Disk _ a2) ?_
 rw[←e2]
 simp only[go_sem]
 intro _
 refine⟨fun h=>szr_bad' h0 h (by simp only[GArchive.size];omega),fun h3=>?_⟩
 obtain⟨a3,b3,e3⟩:=K1l (m:=x.Exclusions.length) h0 h3
 refine K0 (C8f x.Exclusions _ a3) ?_
 rw[←e3]
 simp only[go_sem]
 intro _
 refine⟨fun h=>szr_bad' h0 h (by simp only[GArchive.size];omega),fun h4=>?_⟩
 obtain⟨a4,b4,e4⟩:=K1l (m:=x.Libraries.length+(x.Libraries.map GLibrary.size).sum) h0 h4
 refine K0 (C9d x.Libraries _ a4) ?_
 rw[←e4]
 simp only[go_sem]
 intro _
 refine⟨fun h=>szr_bad' h0 h (by simp only[GArchive.size];omega),fun h5=>?_⟩
 obtain⟨a5,b5,e5⟩:=K1l (m:=x.Keys.length) h0 h5
 refine K0 (C3r x.Keys _ a5) ?_
 rw[←e5]
 simp only[go_sem]
 intro _
 refine⟨fun h=>szr_bad' h0 h (by simp only[GArchive.size];omega),fun h6=>?_⟩
 obtain⟨a6,b6,e6⟩:=K1l (m:=x.Statements.length) h0 h6
 refine K0 (C8g x.Statements _ a6) ?_
 rw[←e6]
 simp only[go_sem]
 intro _
 refine⟨fun h=>szr_bad' h0 h (by simp only[GArchive.size];omega),fun h7=>?_⟩
 rfl
def M5d:MC:=
(Zs [.box 1 0 (.s 0),.alloc 2 1 [.emp 9,.emp 4,.emp 4,.emp 6,.emp 4,.emp 5,.emp 4,.emp 1,.emp 4,pz]] [1,2] (Zs [.alloc 3 2 [.emp 9,.emp 4,.emp 4,.emp 6,.emp 4,.emp 5,.emp 4,.emp 1,.emp 4,pz]] [1,2,3] (Zs [fS 4 1 0,lF 5 1 4,.call 6 [3] (.f N4v) [.s 5],fS 7 3 0,sS 1 7 6] [1,2,3] (Zs [fS 8 1 1,lF 9 1 8,.call 10 [4] (.f N5x) [.s 9],fS 11 3 1,sS 1 11 10] [1,2,3] (Zs [fS 12 1 2,lT 13 3 12,.call 14 [5,6,7] (.f N86) [.s 13],fS 15 3 2,sS 3 15 14] [1,2,3] (Zs [fS 16 1 5,lF 17 1 16,.call 18 [8] (.f N2x) [.s 17],fS 19 3 5,sS 1 19 18] [1,2,3] (Zs [fS 20 1 6,lF 21 1 20,.call 22 [9] (.f N4t) [.s 21],fS 23 3 6,sS 1 23 22] [1,2,3] (Zs [fS 24 1 7,lF 25 1 24,.call 26 [10] (.f N1j) [.s 25],fS 27 3 7,sS 1 27 26] [1,2,3] (Zs [fS 28 1 8,lF 29 1 28,.call 30 [11] (.f N2y) [.s 29],fS 31 3 8,sS 1 31 30] [1,2,3] (Zs [fS 32 1 9,lF 33 1 32,fS 34 3 9,sS 1 34 33] [2,3] (Zs [lT 35 10 3,sS 10 2 35] [2] .ret)))))))))))
theorem C12(x:GArchive)(hs:x.size≤1073741824):Ctr Tryz.prog Nr [aS x.enc] [rS x.enc]:=by
 refine cA M5d 12 36 [(.cell 2 true 10,[true,true,true,true,true,true,true,true,true,false])] Tryz.func9 rfl rfl ?_;unfold M5d
 intro hb
 simp only[GArchive.size]at hs
 simp only[go_sem]
 refine K0 (C9h x.Site (by omega)) ?_
 simp only[go_sem]
 try intros
 refine K0 (C8x x.Script (by omega)) ?_
 simp only[go_sem]
 try intros
 refine K0 (Cb1 x.Disk (by omega)) ?_
 simp only[go_sem]
 try intros
 refine K0 (C8h x.Exclusions (by omega)) ?_
 simp only[go_sem]
 try intros
 refine K0 (C9g x.Libraries (by omega)) ?_
 simp only[go_sem]
 try intros
 refine K0 (C3s x.Keys (by omega)) ?_
 simp only[go_sem]
 try intros
 refine K0 (C8i x.Statements (by omega)) ?_
 simp only[go_sem]
 try intros
def M52:MC:=
(Zs [.box 2 0 (.s 0),.box 3 1 (.s 1),.mv 4 cF] [2,3] (.seq (Zs [fS 5 2 0,lF 6 1 5,fS 7 3 0,lF 8 1 7,.call 9 [] (.f N4l) [.s 6,.s 8],.un 10 .not (.s 9)] [2,3,10] (.cond (.s 10) (Zs [.mv 4 cF] [4] .ret) .skip))
(.seq (Zs [fS 11 2 1,lF 12 1 11,fS 13 3 1,lF 14 1 13,.call 15 [] (.f N5n) [.s 12,.s 14],.un 16 .not (.s 15)] [2,3,16] (.cond (.s 16) (Zs [.mv 4 cF] [4] .ret) .skip))
(.seq (Zs [fS 17 2 2,lT 18 3 17,fS 19 3 2,lT 20 3 19,.call 21 [] (.f N83) [.s 18,.s 20],.un 22 .not (.s 21)] [2,3,22] (.cond (.s 22) (Zs [.mv 4 cF] [4] .ret) .skip))
(.seq (Zs [fS 23 2 5,lF 24 1 23,fS 25 3 5,lF 26 1 25,.call 27 [] (.f N2q) [.s 24,.s 26],.un 28 .not (.s 27)] [2,3,28] (.cond (.s 28) (Zs [.mv 4 cF] [4] .ret) .skip))
(.seq (Zs [fS 29 2 6,lF 30 1 29,fS 31 3 6,lF 32 1 31,.call 33 [] (.f N4k) [.s 30,.s 32],.un 34 .not (.s 33)] [2,3,34] (.cond (.s 34) (Zs [.mv 4 cF] [4] .ret) .skip))
(.seq (Zs [fS 35 2 7,lF 36 1 35,fS 37 3 7,lF 38 1 37,.call 39 [] (.f N1i) [.s 36,.s 38],.un 40 .not (.s 39)] [2,3,40] (.cond (.s 40) (Zs [.mv 4 cF] [4] .ret) .skip))
(.seq (Zs [fS 41 2 8,lF 42 1 41,fS 43 3 8,lF 44 1 43,.call 45 [] (.f N2r) [.s 42,.s 44],.un 46 .not (.s 45)] [2,3,46] (.cond (.s 46) (Zs [.mv 4 cF] [4] .ret) .skip))
(.seq (Zs [fS 47 2 9,lF 48 1 47,fS 49 3 9,lF 50 1 49,bS 51 .neq 48 50] [51] (.cond (.s 51) (Zs [.mv 4 cF] [4] .ret) .skip))
(Zs [.mv 4 cT] [4] .ret))))))))))
theorem C9u(x y:GArchive):Ctr Tryz.prog N5k [aS x.enc,aS y.enc] [rB (decide (x=y))]:=by
 refine cA M52 2 52 [(.tmp 4,[false])] Tryz.func11 rfl rfl ?_;unfold M52
 intro hb
 clear hb
 simp only[go_sem]
 refine K0 (C99 x.Site y.Site) ?_
 simp only[go_sem]
 refine⟨fun h=>?_,fun h_Site=>?_⟩
 ·symm
  rw[decide_eq_false_iff_not]
  rintro rfl
  exact h rfl
 refine K0 (C8q x.Script y.Script) ?_
 simp only[go_sem]
 refine⟨fun h=>?_,fun h_Script=>?_⟩
 ·symm
  rw[decide_eq_false_iff_not]
  rintro rfl
  exact h rfl
 refine K0 (Cay x.Disk y.Disk) ?_
 simp only[go_sem]
 refine⟨fun h=>?_,fun h_Disk=>?_⟩
 ·symm
  rw[decide_eq_false_iff_not]
  rintro rfl
  exact h rfl
 refine K0 (C8a x.Exclusions y.Exclusions) ?_
 simp only[go_sem]
 refine⟨fun h=>?_,fun h_Exclusions=>?_⟩
 ·symm
  rw[decide_eq_false_iff_not]
  rintro rfl
  exact h rfl
 refine K0 (C98 x.Libraries y.Libraries) ?_
 simp only[go_sem]
 refine⟨fun h=>?_,fun h_Libraries=>?_⟩
 ·symm
  rw[decide_eq_false_iff_not]
  rintro rfl
  exact h rfl
 refine K0 (C3q x.Keys y.Keys) ?_
 simp only[go_sem]
 refine⟨fun h=>?_,fun h_Keys=>?_⟩
 ·symm
  rw[decide_eq_false_iff_not]
  rintro rfl
  exact h rfl
 refine K0 (C8b x.Statements y.Statements) ?_
 simp only[go_sem]
 refine⟨fun h=>?_,fun h_Statements=>?_⟩
 ·symm
  rw[decide_eq_false_iff_not]
  rintro rfl
  exact h rfl
 refine⟨fun h=>?_,fun h_Now=>?_⟩
 ·symm
  rw[decide_eq_false_iff_not]
  rintro rfl
  exact h rfl
 cases x;cases y;simp_all
end Go.Proofs.YtflhjihoifbmfaaGreatR
namespace Go.Proofs.YtflhjihoifbmfaaGreatR
open Go Go.RowKit Go.Proofs
open Nat (reduceEqDiff reduceLT reduceLeDiff reduceAdd reduceMul)
open List (reduceReplicate)
theorem tt{p:Prop} [Decidable p] (h:p):true=decide p:=(decide_eq_true h).symm
theorem K87{α:Type}{p:α→Bool}{l:List α}{k:Nat}{x:α}(hx:l[k]? =some x)(h:(l.take k).any p=false)(hn:p x=false):(l.take (k+1)).any p=false:=by
 rw[Kn hx,List.any_append,h]
 simp[hn]
theorem any_here{α:Type}{p:α→Bool}{l:List α}{k:Nat}{x:α}(hx:l[k]? =some x)(hn:p x=true):l.any p=true:=List.any_eq_true.2 ⟨x,K1e hx,hn⟩
def idxF{α:Type}(p:α→Bool)(l:List α):Int:=if l.any p then(l.takeWhile fun x=> !p x).length else -1
theorem K8f{α:Type}{p:α→Bool}{l:List α}{k:Nat}{x:α}(hx:l[k]? =some x)(h:(l.take k).any p=false)(hn:p x=true):idxF p l=k:=by
 unfold idxF
 rw[any_here hx hn,if_pos rfl]
 congr 1
 have e:l=l.take k++x::l.drop (k+1):=K1z hx
 rw[e,List.takeWhile_append_of_pos]
 ·simp[hn]
  have:=Kb hx
  omega
 ·intro a ha
  have:=List.any_eq_false.1 h a ha
  simpa using this
theorem K8g{α:Type}{p:α→Bool}{l:List α}(h:l.any p=false):idxF p l= -1:=by
 unfold idxF;rw[h];rfl
def encS(s:ByteArray):List T:=[tS s]
attribute [go_sem] encS
abbrev aStr(s:ByteArray):Bool×List T:=(false,[tS s])
attribute [go_sem] aStr
def M9:MC:=
(Zs [.mv 4 (ci 0)] [0,1] (.seq (Zs [mS 6 0,nS 7 6,.mv 8 (ci 0)] [0,1,7,8] (.block 0 (.loop ([0,1,7,8],[]) (Zs [bS 9 .lss 8 7] [0,1,7,8,9] (.seq (cX 9 0)
(.seq (.block 1 (Zs [mS 10 8,mS 5 10] [0,1,5,7,8] (Zs [mS 11 1,mS 12 0,mS 13 5,xS 14 7 12 13,lT 15 7 14,.call 16 [] (.s 11) [.s 15]] [0,1,5,7,8,16] (.cond (.s 16) (Zs [mS 17 5,mS 4 17] [4] .ret) .skip))))
(pr [bC 18 .add 8 1,mS 8 18] [0,1,7,8])))))))
(Zs [.mv 4 (.c (.int .i64 (-1)))] [4] .ret)))
theorem C61(xs:List GPart)(f:FuncId)(cs:List T)(p:GPart→Bool)(hp:∀x,x∈xs→Ctr Tryz.prog f (aS (GPart.enc x)::cs.map (fun t=>(false,[t]))) [rB (p x)]):Ctr Tryz.prog Na [aL 7 (xs.map GPart.enc),(false,[.fn f cs])] [rI (idxF p xs)]:=by
 refine cA M9 0 19 [(.tmp 4,[false])] Tryz.func162 rfl rfl ?_;unfold M9
 intro hb
 simp only[bdA,bdL,bdT,Ki,roomB,and_true,List.length_map]at hb
 obtain⟨⟨hl,-⟩,-⟩:=hb
 simp only[go_sem]
 refine K5 xs (fun k=>[(8,vI k)]) (fun k=>[]) (fun k=>(xs.take k).any p=false) hl ?_
 simp only[go_sem]
 refine⟨?_,by simp,?_,?_⟩
 ·simp only[go_sem]
 ·intro k x hx h h0 h1 hw
  simp only[go_sem,K7 hx,h0,h1]
  refine K0 (hp x (K1e hx)) ?_
  simp only[go_sem,hw]
  exact⟨fun hn=>(K8f hx h hn).symm,fun hn=>K87 hx h hn⟩
 ·intro h
  simp only[go_sem]
  rw[List.take_length]at h
  rw[K8g h]
def Mc:MC:=
(Zs [.mv 4 cF] [0,1] (.seq (Zs [mS 6 0,nS 7 6,mS 8 1,nS 9 8,bS 10 .neq 7 9] [0,1,10] (.cond (.s 10) (Zs [.mv 4 cF] [4] .ret) .skip))
(.seq (Zs [mS 11 0,nS 12 11,.mv 13 (ci 0)] [0,1,12,13] (.block 0 (.loop ([0,1,12,13],[]) (Zs [bS 14 .lss 13 12] [0,1,12,13,14] (.seq (cX 14 0)
(.seq (.block 1 (Zs [mS 15 13,mS 5 15] [0,1,5,12,13] (.seq (.dreg [Zc [17,20,21,22,23] (mS 16 0),Zc [16,20,21,22,23] (mS 17 5),Zd [20,21,22,23] [0,1] (xS 18 6 16 17),Zd [20,21,22,23] [0,1,2] (lT 19 6 18),Zc [16,17,18,19,21] (mS 20 1),Zc [16,17,18,19,20] (mS 21 5),Zd [16,17,18,19] [4,5] (xS 22 6 20 21),Zd [16,17,18,19] [4,5,6] (lT 23 6 22),Ze (.range 8) (.eqA 24 true [.i .i64,.i .i64,.i .i64,.i .i64,.i .i64,.i .i64] (.s 19) (.s 23))] [0,1,12,13,24])
(.cond (.s 24) (Zs [.mv 4 cF] [4] .ret) .skip))))
(pr [bC 25 .add 13 1,mS 13 25] [0,1,12,13])))))))
(Zs [.mv 4 cT] [4] .ret))))
theorem C7p(xs ys:List GFound):Ctr Tryz.prog Nf [aL 6 (xs.map GFound.enc),aL 6 (ys.map GFound.enc)] [rB (decide (xs=ys))]:=by
 refine cA Mc 0 26 [(.tmp 4,[false])] Tryz.func157 rfl rfl ?_;unfold Mc
 intro hb
 simp only[bdA,bdL,bdT,Ki,roomB,and_true,List.length_map]at hb
 obtain⟨⟨hl,-⟩,⟨hl2,-⟩⟩:=hb
 simp only[go_sem]
 refine⟨fun h=>K2a h,fun h=>?_⟩
 have hle:xs.length=ys.length:=by omega
 refine K5 xs (fun k=>[(13,vI k)]) (fun k=>[]) (fun k=>xs.take k=ys.take k) hl ?_
 simp only[go_sem]
 refine⟨?_,rfl,?_,?_⟩
 ·simp only[go_sem]
 ·intro k x hx he h0 h1 hw
  obtain⟨y,hy⟩:=Kh (show k<ys.length by omega)
  have h2:(k:Int)<ys.length:=by omega
  simp only[go_sem,K7 hx,K7 hy,h0,h1,h2,hw,eqB]
  exact⟨fun hn=>K2v hx hy (by rintro rfl;simp at hn),fun hn=>(Kt hx hy he).2 (by exact GFound.eqv.2 (by simpa using hn))⟩
 ·intro he
  simp only[go_sem]
  exact K28 he hle
end Go.Proofs.YtflhjihoifbmfaaGreatR
namespace Go.Proofs.YtflhjihoifbmfaaGreatR
open Go Go.RowKit Go.Proofs
open Nat (reduceEqDiff reduceLT reduceLeDiff reduceAdd reduceMul)
open List (reduceReplicate)
attribute [go_sem] eqB
def M9o:MC:=
(Zs [.mv 6 cF] [0,1,2] (.seq (.reg [Za (mS 7 0),Za (mS 8 1),Za (bS 9 .geq 7 8),Za (mS 10 9),Zb 10 true (mS 11 0),Zb 10 true (mS 12 2),Zb 10 true (bS 13 .leq 11 12),Za (.pick 14 (.s 10) (.s 13) cF),Za (mS 6 14)] [6])
.ret))
theorem Cx(x a b:Int):Ctr Tryz.prog N14 [aI x,aI a,aI b] [rB (decide (a≤x∧x≤b))]:=by
 refine cA M9o 0 15 [(.tmp 6,[false])] Tryz.func118 rfl rfl ?_;unfold M9o
 intro hb
 clear hb
 simp only[go_sem]
 exact⟨fun h=>by simp[h],fun h=>by simp;omega⟩
def M6x:MC:=
(Zs [.mv 6 cF] [0,1,2] (.seq (.reg [Za (mS 7 1),Za (mS 8 0),Za (bS 9 .leq 7 8),Za (mS 10 9),Zb 10 true (mS 11 0),Zb 10 true (mS 12 2),Zb 10 true (bS 13 .leq 11 12),Za (.pick 14 (.s 10) (.s 13) cF),Za (mS 6 14)] [6])
.ret))
theorem Cb(x a b:Int):Ctr Tryz.prog Nz [aI x,aI a,aI b] [rB (decide (a≤x∧x≤b))]:=by
 refine cA M6x 0 15 [(.tmp 6,[false])] Tryz.func133 rfl rfl ?_;unfold M6x
 intro hb
 clear hb
 simp only[go_sem]
 exact⟨fun h=>by simp[h],fun h=>by simp;omega⟩
def allIn(l:List Int)(a b:Int):Bool:=l.all fun x=>decide (a≤x∧x≤b)
theorem K8y{α:Type}{p:α→Bool}{l:List α}{k:Nat}{x:α}(hx:l[k]? =some x)(h:(l.take k).all p=true)(hn:p x=true):(l.take (k+1)).all p=true:=by
 rw[Kn hx,List.all_append,h];simp[hn]
theorem all_not{α:Type}{p:α→Bool}{l:List α}{k:Nat}{x:α}(hx:l[k]? =some x)(hn:p x=false):false=l.all p:=by
 symm;rw[List.all_eq_false];exact⟨x,K1e hx,by simp[hn]⟩
def M91:MC:=
(Zs [.mv 6 cF] [0,1,2] (.seq (Zs [mS 9 0,nS 10 9,.mv 11 (ci 0)] [1,2,9,10,11] (.block 0 (.loop ([1,2,9,10,11],[]) (Zs [bS 12 .lss 11 10] [1,2,9,10,11,12] (.seq (cX 12 0)
(.seq (.block 1 (Zs [xS 13 1 9 11,lF 14 1 13,mS 8 14] [1,2,8,9,10,11] (Zs [mS 15 8,mS 16 1,mS 17 2,.call 18 [] (.f Nz) [.s 15,.s 16,.s 17],.un 19 .not (.s 18)] [1,2,9,10,11,19] (.cond (.s 19) (Zs [.mv 6 cF] [6] .ret) .skip))))
(pr [bC 20 .add 11 1,mS 11 20] [1,2,9,10,11])))))))
(Zs [.mv 6 cT] [6] .ret)))
theorem C8n(l:List Int)(a b:Int):Ctr Tryz.prog N95 [aL 1 (l.map encI),aI a,aI b] [rB (allIn l a b)]:=by
 refine cA M91 0 21 [(.tmp 6,[false])] Tryz.func206 rfl rfl ?_;unfold M91
 intro hb
 simp only[bdA,bdL,bdT,Ki,K1m,roomB,and_true,List.length_map]at hb
 obtain⟨⟨hl,-⟩,-⟩:=hb
 simp only[go_sem]
 refine K5 l (fun k=>[(11,vI k)]) (fun k=>[]) (fun k=>((l.take k).all fun x=>decide (a≤x∧x≤b))=true) hl ?_
 simp only[go_sem]
 refine⟨?_,by simp,?_,?_⟩
 ·simp only[go_sem]
 ·intro k x hx h h0 h1 hw
  simp only[go_sem,K7 hx,h0,h1]
  refine K0 (Cb _ _ _) ?_
  simp only[go_sem,hw]
  exact⟨fun hn=>all_not hx (by simpa using hn),fun hn=>K8y hx h (by simpa using hn)⟩
 ·intro h
  simp only[go_sem]
  rw[List.take_length]at h
  exact h.symm
def M7c:MC:=
(Zs [.mv 2 cF] [0] (.seq (Zs [.mv 3 (ci 0)] [0,3] (.block 0 (.loop ([0,3],[]) (.seq (Zs [mS 4 3,mS 5 0,nS 6 5,bS 7 .lss 4 6] [0,3,7] (cX 7 0))
(.seq (.block 1 (Zs [mS 10 0,mS 11 3,xS 12 1 10 11,lF 13 1 12,.call 14 [] (.f N14) [.s 13,.c (.int .i64 0),.c (.int .i64 255)],.un 15 .not (.s 14)] [0,3,15] (.cond (.s 15) (Zs [.mv 2 cF] [2] .ret) .skip)))
(pr [mS 8 3,bC 9 .add 8 1,mS 3 9] [0,3]))))))
(Zs [.mv 2 cT] [2] .ret)))
theorem Cav(l:List Int):Ctr Tryz.prog N7n [aL 1 (l.map encI)] [rB (allIn l 0 255)]:=by
 refine cA M7c 0 16 [(.tmp 2,[false])] Tryz.func200 rfl rfl ?_;unfold M7c
 intro hb
 simp only[bdA,bdL,bdT,Ki,roomB,and_true,List.length_map]at hb
 obtain⟨hl,-⟩:=hb
 simp only[go_sem]
 refine K5 l (fun k=>[(3,vI k)]) (fun k=>[]) (fun k=>((l.take k).all fun x=>decide (0≤x∧x≤255))=true) hl ?_
 simp only[go_sem]
 refine⟨?_,by simp,?_,?_⟩
 ·simp only[go_sem]
 ·intro k x hx h h0 h1 hw
  simp only[go_sem,K7 hx,h0,h1]
  refine K0 (Cx _ _ _) ?_
  simp only[go_sem,hw]
  exact⟨fun hn=>all_not hx (by simpa using hn),fun hn=>K8y hx h (by simpa using hn)⟩
 ·intro h
  simp only[go_sem]
  rw[List.take_length]at h
  exact h.symm
def K3f(a:GAddress):Bool:=decide (1≤a.Host∧a.Host≤9)&&(decide (0≤a.Path∧a.Path≤99)&&decide (0≤a.Query∧a.Query≤99))
def Y14(v0:Nat):MC:=
(Zs [.box 1 0 (.s 0),.mv 2 cF] [1] (.seq (.reg [Za (fS 3 1 0),Za (lF 4 1 3),Za (.call 5 [] (.f v0) [.s 4,.c (.int .i64 1),.c (.int .i64 9)]),Za (mS 6 5),Zb 6 true (fS 7 1 1),Zb 6 true (lF 8 1 7),Zb 6 true (.call 9 [] (.f v0) [.s 8,.c (.int .i64 0),.c (.int .i64 99)]),Za (.pick 10 (.s 6) (.s 9) cF),Za (mS 11 10),Zb 11 true (fS 12 1 2),Zb 11 true (lF 13 1 12),Zb 11 true (.call 14 [] (.f v0) [.s 13,.c (.int .i64 0),.c (.int .i64 99)]),Za (.pick 15 (.s 11) (.s 14) cF),Za (mS 2 15)] [2])
.ret))
attribute [go_sem] Y14
def M4z:MC:=Y14 Nz
theorem C9t(a:GAddress):Ctr Tryz.prog N5j [aS a.enc] [rB (K3f a)]:=by
 refine cA M4z 1 16 [(.tmp 2,[false])] Tryz.func183 rfl rfl ?_;unfold M4z
 intro hb
 clear hb
 simp only[go_sem]
 refine K0 (Cb _ _ _) ?_
 simp only[go_sem]
 refine⟨fun h=>?_,fun h=>by unfold K3f;rw[decide_eq_false h];rfl⟩
 refine K0 (Cb _ _ _) ?_
 simp only[go_sem]
 refine⟨fun h2=>?_,fun h2=>by unfold K3f;rw[decide_eq_false h2];simp⟩
 refine K0 (Cb _ _ _) ?_
 simp only[go_sem]
 unfold K3f;rw[decide_eq_true h,decide_eq_true h2];rfl
def M5h:MC:=Y14 N14
theorem Ca6(a:GAddress):Ctr Tryz.prog N5z [aS a.enc] [rB (K3f a)]:=by
 refine cA M5h 1 16 [(.tmp 2,[false])] Tryz.func171 rfl rfl ?_;unfold M5h
 intro hb
 clear hb
 simp only[go_sem]
 refine K0 (Cx _ _ _) ?_
 simp only[go_sem]
 refine⟨fun h=>?_,fun h=>by unfold K3f;rw[decide_eq_false h];rfl⟩
 refine K0 (Cx _ _ _) ?_
 simp only[go_sem]
 refine⟨fun h2=>?_,fun h2=>by unfold K3f;rw[decide_eq_false h2];simp⟩
 refine K0 (Cx _ _ _) ?_
 simp only[go_sem]
 unfold K3f;rw[decide_eq_true h,decide_eq_true h2];rfl
def K2g(a:GAddress):Bool:=a.Host==0&&(a.Path==0&&a.Query==0)
def K1a(r:GResource):Bool:=
 if r.Kind=1∨r.Kind=2 then decide (r.Body.length≤6)&&(allIn r.Body 0 255&&K2g r.To)
 else if r.Kind=3 then decide (r.Body.length=0)&&K3f r.To
 else if r.Kind=4 then decide (r.Body.length=0)&&K2g r.To else false
def M3z:MC:=
(Zs [.box 1 0 (.s 0),.mv 2 cF] [1] (.seq (Zs [fS 3 1 0,lF 4 1 3] [1,4] (.block 0 (.seq (Zs [bC 6 .eql 4 1,mS 5 6] [1,4,5] (.cond (.s 5) .skip (pr [bC 7 .eql 4 2,mS 5 7] [1,4,5])))
(.cond (.s 5) (.seq (.reg [Za (fS 8 1 1),Za (lF 9 1 8),Za (nS 10 9),Za (bC 11 .leq 10 6),Za (mS 12 11),Zb 12 true (fS 13 1 1),Zb 12 true (lF 14 1 13),Zb 12 true (.call 15 [] (.f N95) [.s 14,.c (.int .i64 0),.c (.int .i64 255)]),Za (.pick 16 (.s 12) (.s 15) cF),Za (mS 17 16),Zb 17 true (fS 18 1 2),Zb 17 true (lT 19 3 18),Zb 17 true (.build 20 [pz,pz,pz] []),Zb 17 true (.eqA 21 false [.i .i64,.i .i64,.i .i64] (.s 19) (.s 20)),Za (.pick 22 (.s 17) (.s 21) cF),Za (mS 2 22)] [2])
.ret) (Zs [bC 24 .eql 4 3,mS 23 24] [1,4,23] (.cond (.s 23) (.seq (.reg [Za (fS 25 1 1),Za (lF 26 1 25),Za (nS 27 26),Za (bC 28 .eql 27 0),Za (mS 29 28),Zb 29 true (fS 30 1 2),Zb 29 true (lT 31 3 30),Zb 29 true (.call 32 [] (.f N5j) [.s 31]),Za (.pick 33 (.s 29) (.s 32) cF),Za (mS 2 33)] [2])
.ret) (Zs [bC 35 .eql 4 4,mS 34 35] [1,34] (.cond (.s 34) (.seq (.reg [Za (fS 36 1 1),Za (lF 37 1 36),Za (nS 38 37),Za (bC 39 .eql 38 0),Za (mS 40 39),Zb 40 true (fS 41 1 2),Zb 40 true (lT 42 3 41),Zb 40 true (.build 43 [pz,pz,pz] []),Zb 40 true (.eqA 44 false [.i .i64,.i .i64,.i .i64] (.s 42) (.s 43)),Za (.pick 45 (.s 40) (.s 44) cF),Za (mS 2 45)] [2])
.ret) .skip))))))))
(Zs [.mv 2 cF] [2] .ret)))
theorem C3u(r:GResource):Ctr Tryz.prog N4i [aS r.enc] [rB (K1a r)]:=by
 refine cA M3z 1 46 [(.tmp 2,[false])] Tryz.func159 rfl rfl ?_;unfold M3z
 intro hb
 clear hb
 have hcase:r.Kind=1∨r.Kind=2∨r.Kind=3∨r.Kind=4∨(¬r.Kind=1∧¬r.Kind=2∧¬r.Kind=3∧¬r.Kind=4):=by omega
 rcases hcase with hk|hk|hk|hk|⟨h1,h2,h3,h4⟩
 ·simp only[go_sem,hk]
  refine⟨fun h=>?_,fun h=>?_⟩
  ·have h':r.Body.length≤6:=by omega
   refine K0 (C8n _ _ _) ?_
   simp only[go_sem]
   exact⟨fun h2=>by simp[K1a,K2g,hk,h2,h'],fun h2=>by simp[K1a,K2g,hk,h2]⟩
  ·have h':¬r.Body.length≤6:=by omega
   simp[K1a,K2g,hk,h']
 ·simp only[go_sem,hk,Int.reduceEq]
  refine⟨fun h=>?_,fun h=>?_⟩
  ·have h':r.Body.length≤6:=by omega
   refine K0 (C8n _ _ _) ?_
   simp only[go_sem]
   exact⟨fun h2=>by simp[K1a,K2g,hk,h2,h'],fun h2=>by simp[K1a,K2g,hk,h2]⟩
  ·have h':¬r.Body.length≤6:=by omega
   simp[K1a,K2g,hk,h']
 ·simp only[go_sem,hk,Int.reduceEq]
  refine⟨fun h=>?_,fun h=>?_⟩
  ·have h':r.Body.length=0:=by omega
   refine K0 (C9t r.To) ?_
   simp only[go_sem]
   simp[K1a,hk,h']
  ·have h':¬r.Body.length=0:=by omega
   unfold K1a
   rw[if_neg (by omega),if_pos hk,decide_eq_false h']
   rfl
 ·simp only[go_sem,hk,Int.reduceEq]
  refine⟨fun h=>?_,fun h=>?_⟩
  ·have h':r.Body.length=0:=by omega
   unfold K1a
   rw[if_neg (by omega),if_neg (by omega),if_pos hk,decide_eq_true h']
   simp[K2g]
  ·have h':¬r.Body.length=0:=by omega
   unfold K1a
   rw[if_neg (by omega),if_neg (by omega),if_pos hk,decide_eq_false h']
   rfl
 ·simp only[go_sem,h1,h2,h3,h4]
  unfold K1a
  rw[if_neg (by omega),if_neg (by omega),if_neg (by omega)]
def M4f:MC:=
(Zs [.box 1 0 (.s 0),.mv 2 cF] [1] (.seq (.seq (.reg [Za (fS 3 1 0),Za (lF 4 1 3),Za (.call 5 [] (.f N14) [.s 4,.c (.int .i64 1),.c (.int .i64 4)]),Za (.un 6 .not (.s 5)),Za (mS 7 6),Zb 7 false (fS 8 1 1),Zb 7 false (lF 9 1 8),Zb 7 false (.call 10 [] (.f N7n) [.s 9]),Zb 7 false (.un 11 .not (.s 10)),Za (.pick 12 (.s 7) cT (.s 11)),Za (mS 13 12),Zb 13 false (fS 14 1 1),Zb 13 false (lF 15 1 14),Zb 13 false (nS 16 15),Zb 13 false (bC 17 .gtr 16 6),Za (.pick 18 (.s 13) cT (.s 17))] [1,18])
(.cond (.s 18) (Zs [.mv 2 cF] [2] .ret) .skip))
(.seq (Zs [fS 19 1 0,lF 20 1 19,bC 21 .eql 20 3] [1,21] (.cond (.s 21) (.seq (.reg [Za (fS 22 1 2),Za (lT 23 3 22),Za (.call 24 [] (.f N5z) [.s 23]),Za (mS 25 24),Zb 25 true (fS 26 1 1),Zb 25 true (lF 27 1 26),Zb 25 true (nS 28 27),Zb 25 true (bC 29 .eql 28 0),Za (.pick 30 (.s 25) (.s 29) cF),Za (mS 2 30)] [2])
.ret) .skip))
(.seq (.reg [Za (fS 31 1 2),Za (lT 32 3 31),Za (.build 33 [pz,pz,pz] []),Za (.eqA 34 false [.i .i64,.i .i64,.i .i64] (.s 32) (.s 33)),Za (mS 35 34),Zb 35 true (fS 36 1 0),Zb 35 true (lF 37 1 36),Zb 35 true (bC 38 .neq 37 4),Zb 35 true (mS 39 38),Zb 39 false (fS 40 1 1),Zb 39 false (lF 41 1 40),Zb 39 false (nS 42 41),Zb 39 false (bC 43 .eql 42 0),Zb 35 true (.pick 44 (.s 39) cT (.s 43)),Za (.pick 45 (.s 35) (.s 44) cF),Za (mS 2 45)] [2])
.ret))))
theorem C9j(r:GResource):Ctr Tryz.prog N4x [aS r.enc] [rB (K1a r)]:=by
 refine cA M4f 1 46 [(.tmp 2,[false])] Tryz.func154 rfl rfl ?_;unfold M4f
 intro hb
 clear hb
 simp only[go_sem]
 refine K0 (Cx _ _ _) ?_
 simp only[go_sem]
 refine⟨fun h=>?_,fun h=>?_⟩
 ·unfold K1a
  rw[if_neg (by omega),if_neg (by omega),if_neg (by omega)]
 ·refine K0 (Cav r.Body) ?_
  simp only[go_sem]
  refine⟨fun ha=>?_,fun ha=>⟨fun hl=>?_,fun hl=>⟨fun hk=>?_,fun hk=>?_⟩⟩⟩
  ·have h0:¬r.Body.length=0:=fun e=>by
    rw[List.eq_nil_of_length_eq_zero e]at ha
    simp[allIn]at ha
   simp[K1a,ha,h0]
  ·have h0:¬r.Body.length=0:=by omega
   have h1:¬r.Body.length≤6:=by omega
   simp[K1a,h0,h1]
  ·refine K0 (Ca6 r.To) ?_
   simp only[go_sem]
   refine⟨fun hi=>?_,fun hi=>by simp[K1a,hk,hi]⟩
   unfold K1a
   rw[if_neg (by omega),if_pos hk,hi,Bool.and_true,Bool.eq_iff_iff]
   simp
  ·have h1:r.Body.length≤6:=by omega
   refine⟨fun ht=>?_,fun ht=>?_⟩
   ·have hn:K2g r.To=true:=by
     unfold K2g
     exact(Bool.eq_false_or_eq_true _).resolve_right fun e=>ht e.symm
    refine⟨fun k4=>?_,fun k4=>?_⟩
    ·unfold K1a
     rw[if_pos (by omega),ha,hn,decide_eq_true h1]
     rfl
    ·unfold K1a
     rw[if_neg (by omega),if_neg hk,if_pos k4,hn,Bool.and_true,Bool.eq_iff_iff]
     simp
   ·have hn:K2g r.To=false:=ht.symm
    unfold K1a
    rw[hn,if_neg hk]
    split
    ·simp
    ·split<;>simp
end Go.Proofs.YtflhjihoifbmfaaGreatR
namespace Go.Proofs.YtflhjihoifbmfaaGreatR
open Go Go.RowKit Go.Proofs
open Nat (reduceEqDiff reduceLT reduceLeDiff reduceAdd reduceMul)
open List (reduceReplicate)
def M1f:MC:=
(Zs [.nilo 2 0 1] [0] (.seq (.condN 3 4 (.s 0) (Zs [.nilo 2 0 1] [2] .ret) .skip)
(Zs [.lit 5 0 1 8 [],mS 6 0,.app 7 0 1 8 (.s 5) (.s 6),mS 2 7] [2] .ret)))
theorem C8z(xs:List Int)(hs:xs.length≤1073741824):Ctr Tryz.prog N1g [aL 1 (xs.map encI)] [rL 1 (xs.map encI)]:=by
 refine cA M1f 1 8 [(.tmp 2,[true])] Tryz.func166 rfl rfl ?_;unfold M1f
 intro hb
 clear hb
 simp only[go_sem,↓K37 (f:=encI) (fun _=>rfl) xs]
 refine⟨fun h=>?_,?_⟩
 ·rw[h]
 ·simp only[roomB]
  first|done|omega|(refine⟨?_,?_⟩<;>first|omega|simp)
end Go.Proofs.YtflhjihoifbmfaaGreatR
namespace Go.Proofs.YtflhjihoifbmfaaGreatR
open Go Go.RowKit Go.Proofs
open Nat (reduceEqDiff reduceLT reduceLeDiff reduceAdd reduceMul)
open List (reduceReplicate)
def M28:MC:=
(Zs [.box 1 0 (.s 0),.alloc 2 1 [pz,.emp 1,pz,pz,pz]] [1,2] (Zs [fS 3 1 1,lF 4 1 3,.call 5 [2] (.f N1g) [.s 4],fS 6 1 1,sS 1 6 5] [1,2] (Zs [lT 7 5 1,sS 5 2 7] [2] .ret)))
theorem Cs(r:GResource)(hs:r.Body.length≤1073741824):Ctr Tryz.prog Nt [aS r.enc] [rS r.enc]:=by
 refine cA M28 3 8 [(.cell 2 true 5,[false,true,false,false,false])] Tryz.func109 rfl rfl ?_;unfold M28
 intro hb
 clear hb
 simp only[go_sem]
 refine K0 (C8z r.Body hs) ?_
 simp only[go_sem]
 try intros
 try trivial
def M7z:MC:=
(Zs [.box 1 0 (.s 0),.alloc 2 1 [pz,.emp 1,pz,pz,pz]] [1,2] (.seq (.dreg [Zf [5,6,7,8,9,10] [2] (fS 3 1 0),Zg [5,6,7,8,9,10] [2] [0] (lF 4 1 3),{o:= .lit 5 2 1 8 [],hs:=[3,4,6,7,9,10],ws:=[2]},Zf [3,4,5,9,10] [2] (fS 6 1 1),Zg [3,4,5,9,10] [2] [3] (lF 7 1 6),{o:= .app 8 2 1 8 (.s 5) (.s 7),hs:=[3,4,9,10],ws:=[2],bf:=[2,3,4]},Zf [3,4,5,6,7,8] [2] (fS 9 1 2),Zg [3,4,5,6,7,8] [2] [6] (lT 10 3 9),Ze (.range 8) (.build 11 [pz,.emp 1,pz,pz,pz] [(0,1,.s 4),(1,1,.s 8),(2,3,.s 10)]),{o:=sS 5 2 11,ws:=[1,2],bf:=(.range 9)}] [2])
.ret))
theorem C1h(r:GResource)(hs:r.Body.length≤1073741824):Ctr Tryz.prog N1k [aS r.enc] [rS r.enc]:=by
 refine cA M7z 3 12 [(.cell 2 true 5,[false,true,false,false,false])] Tryz.func101 rfl rfl ?_;unfold M7z
 intro hb
 clear hb
 simp only[go_sem,↓K37 (f:=encI) (fun _=>rfl) r.Body]
 simp only[roomB]
 omega
def M27:MC:=
(Zs [.nilo 2 0 9] [0] (Zs [.nilo 3 0 9] [0,3] (.seq (Zs [mS 6 0,nS 7 6,.mv 8 (ci 0)] [3,6,7,8] (.block 0 (.loop ([3,6,7,8],[1,2,3]) (Zs [bS 9 .lss 8 7] [3,6,7,8,9] (.seq (cX 9 0)
(.seq (.block 1 (Zs [xS 10 9 6 8,lT 11 9 10,.alloc 5 1 [pz,pz,pz,pz,pz,.emp 1,pz,pz,pz],sS 9 5 11] [3,5,6,7,8] (.dreg [Zf [13,14,15,16,17,18,19,20,21] [2,3] (mS 12 3),Zf [12,15,16,17,18,19] [2] (fS 13 5 0),Zg [12,15,16,17,18,19] [2] [1] (lT 14 3 13),Zf [12,13,14,17,18,19] [2] (fS 15 5 3),Zg [12,13,14,17,18,19] [2] [3] (lF 16 1 15),Zc [12,13,14,15,16] (fS 17 5 4),Zd [12,13,14,15,16] [5] (lT 18 5 17),{o:= .call 19 [2] (.f Nt) [.s 18],hs:=[12,13,14,15,16],ws:=[2],bf:=[5,6]},Zd [12] [1,2,3,4,5,6,7] (.build 20 [pz,pz,pz,pz,pz,.emp 1,pz,pz,pz] [(0,3,.s 14),(3,1,.s 16),(4,5,.s 19)]),{o:= .lit 21 3 9 88 [.s 20],hs:=[12],ws:=[2,3],bf:=[1,2,3,4,5,6,7,8]},{o:= .app 22 0 9 88 (.s 12) (.s 21),ws:=[0,3],bf:=(.range 10)},Ze (.range 11) (mS 3 22)] [3,6,7,8])))
(pr [bC 23 .add 8 1,mS 8 23] [3,6,7,8])))))))
(Zs [mS 24 3,mS 2 24] [2] .ret))))
theorem C15(xs:List GCapture)(hs:xs.length+(xs.map GCapture.size).sum≤1073741824):Ctr Tryz.prog N2p [aL 9 (xs.map GCapture.enc)] [rL 9 (xs.map GCapture.enc)]:=by
 refine cA M27 4 25 [(.tmp 2,[true])] Tryz.func103 rfl rfl ?_;unfold M27
 intro hb
 clear hb
 simp only[go_sem]
 refine K5 xs (fun k=>[(3,.val false [.ref 0 0 9 0 (xs.take k).length]),(8,vI k)]) (fun k=>[(0,⟨0,.row true 9 ((xs.take k).map GCapture.enc)⟩)]) (fun _=>True) (by simp only[roomB];omega) ?_
 simp only[go_sem]
 refine⟨?_,trivial,?_,?_⟩
 ·simp only[go_sem,List.take_zero]
 ·intro k x hx _ h0 h1 hw
  have hk:k<xs.length:=by omega
  have hlt:=List.length_take_le k xs
  have hx1:=K1w (f:=GCapture.size) (K1e hx)
  simp only[go_sem,K7 hx,h0,h1]
  refine K0 (Cs x.Resource (by simp only[GCapture.size,GResource.size]at hx1;omega)) ?_
  simp only[go_sem,hw]
  simp only[roomB]
  exact⟨by omega,by omega,fun _=>⟨K5m hx,K5n hx⟩⟩
 ·intro _
  simp only[go_sem,List.take_length]
def M7a:MC:=
(Zs [.nilo 2 0 9] [0] (Zs [.lit 5 0 9 88 [],mS 3 5] [0,3] (.seq (Zs [.mv 4 (ci 0)] [0,3,4] (.block 0 (.loop ([0,3,4],[1,2]) (.seq (Zs [mS 6 4,mS 7 0,nS 8 7,bS 9 .lss 6 8] [0,3,4,9] (cX 9 0))
(.seq (.block 1 (.dreg [Zf [13,14,15,16,17,18,19,20,21,22,23,24,25,26,27,28,29,30] [1,2] (mS 12 3),Zf [12,14,18,19,20,21,22,23,24,25,26,27,28] [1] (mS 13 0),Zf [12,13,18,19,20,21,22,23,24,25,26,27,28] [1] (mS 14 4),Zg [12,18,19,20,21,22,23,24,25,26,27,28] [1] [1,2] (xS 15 9 13 14),Zg [12,18,19,20,21,22,23,24,25,26,27,28] [1] [1,2,3] (fS 16 15 0),Zg [12,18,19,20,21,22,23,24,25,26,27,28] [1] [1,2,3,4] (lT 17 3 16),Zf [12,13,14,15,16,17,19,23,24,25,26,27,28] [1] (mS 18 0),Zf [12,13,14,15,16,17,18,23,24,25,26,27,28] [1] (mS 19 4),Zg [12,13,14,15,16,17,23,24,25,26,27,28] [1] [6,7] (xS 20 9 18 19),Zg [12,13,14,15,16,17,23,24,25,26,27,28] [1] [6,7,8] (fS 21 20 3),Zg [12,13,14,15,16,17,23,24,25,26,27,28] [1] [6,7,8,9] (lF 22 1 21),Zc [12,13,14,15,16,17,18,19,20,21,22,24] (mS 23 0),Zc [12,13,14,15,16,17,18,19,20,21,22,23] (mS 24 4),Zd [12,13,14,15,16,17,18,19,20,21,22] [11,12] (xS 25 9 23 24),Zd [12,13,14,15,16,17,18,19,20,21,22] [11,12,13] (fS 26 25 4),Zd [12,13,14,15,16,17,18,19,20,21,22] [11,12,13,14] (lT 27 5 26),{o:= .call 28 [1] (.f N1k) [.s 27],hs:=[12,13,14,15,16,17,18,19,20,21,22],ws:=[1],bf:=[11,12,13,14,15]},Zd [12] [1,2,3,4,5,6,7,8,9,10,11,12,13,14,15,16] (.build 29 [pz,pz,pz,pz,pz,.emp 1,pz,pz,pz] [(0,3,.s 17),(3,1,.s 22),(4,5,.s 28)]),{o:= .lit 30 2 9 88 [.s 29],hs:=[12],ws:=[1,2],bf:=[1,2,3,4,5,6,7,8,9,10,11,12,13,14,15,16,17]},{o:= .app 31 0 9 88 (.s 12) (.s 30),ws:=[0,2],bf:=(.range 19)},Ze (.range 20) (mS 3 31)] [0,3,4]))
(pr [mS 10 4,bC 11 .add 10 1,mS 4 11] [0,3,4]))))))
(Zs [mS 32 3,mS 2 32] [2] .ret))))
theorem C31(xs:List GCapture)(hs:xs.length+(xs.map GCapture.size).sum≤1073741824):Ctr Tryz.prog N7l [aL 9 (xs.map GCapture.enc)] [rL 9 (xs.map GCapture.enc)]:=by
 refine cA M7a 3 33 [(.tmp 2,[true])] Tryz.func96 rfl rfl ?_;unfold M7a
 intro hb
 clear hb
 simp only[go_sem]
 refine K5 xs (fun k=>[(3,.val false [.ref 0 0 9 0 (xs.take k).length]),(4,vI k)]) (fun k=>[(0,⟨0,.row true 9 ((xs.take k).map GCapture.enc)⟩)]) (fun _=>True) (by simp only[roomB];omega) ?_
 simp only[go_sem]
 refine⟨?_,trivial,?_,?_⟩
 ·simp only[go_sem,List.take_zero]
 ·intro k x hx _ h0 h1 hw
  have hk:k<xs.length:=by omega
  have hlt:=List.length_take_le k xs
  have hx1:=K1w (f:=GCapture.size) (K1e hx)
  simp only[go_sem,K7 hx,h0,h1]
  refine K0 (C1h x.Resource (by simp only[GCapture.size,GResource.size]at hx1;omega)) ?_
  simp only[go_sem,hw]
  simp only[roomB]
  exact⟨by omega,by omega,fun _=>⟨K5m hx,K5n hx⟩⟩
 ·intro _
  simp only[go_sem,List.take_length]
end Go.Proofs.YtflhjihoifbmfaaGreatR
namespace Go.Proofs.YtflhjihoifbmfaaGreatR
open Go Go.RowKit Go.Proofs
open Nat (reduceEqDiff reduceLT reduceLeDiff reduceAdd reduceMul)
open List (reduceReplicate)
end Go.Proofs.YtflhjihoifbmfaaGreatR
namespace Go.Proofs.YtflhjihoifbmfaaGreatR
open Go Go.RowKit Go.Proofs
open Nat (reduceEqDiff reduceLT reduceLeDiff reduceAdd reduceMul)
open List (reduceReplicate)
def M50:MC:=
(Zs [.nilo 2 0 7] [0] (Zs [.nilo 3 0 7] [0,3] (.seq (Zs [mS 6 0,nS 7 6,.mv 8 (ci 0)] [3,6,7,8] (.block 0 (.loop ([3,6,7,8],[1,2,3]) (Zs [bS 9 .lss 8 7] [3,6,7,8,9] (.seq (cX 9 0)
(.seq (.block 1 (Zs [xS 10 7 6 8,lT 11 7 10,.alloc 5 1 [pz,pz,.emp 1,pz,pz,pz,pz],sS 7 5 11] [3,5,6,7,8] (.dreg [Zf [13,14,15,16,17,18,19,20,21] [2,3] (mS 12 3),Zf [12,15,16,17,18,19] [2] (fS 13 5 0),Zg [12,15,16,17,18,19] [2] [1] (lF 14 1 13),Zc [12,13,14,18,19] (fS 15 5 1),Zd [12,13,14,18,19] [3] (lT 16 5 15),{o:= .call 17 [2] (.f Nt) [.s 16],hs:=[12,13,14,18,19],ws:=[2],bf:=[3,4]},Zf [12,13,14,15,16,17] [2] (fS 18 5 6),Zg [12,13,14,15,16,17] [2] [6] (lF 19 1 18),Zd [12] [1,2,3,4,5,6,7] (.build 20 [pz,pz,.emp 1,pz,pz,pz,pz] [(0,1,.s 14),(1,5,.s 17),(6,1,.s 19)]),{o:= .lit 21 3 7 72 [.s 20],hs:=[12],ws:=[2,3],bf:=[1,2,3,4,5,6,7,8]},{o:= .app 22 0 7 72 (.s 12) (.s 21),ws:=[0,3],bf:=(.range 10)},Ze (.range 11) (mS 3 22)] [3,6,7,8])))
(pr [bC 23 .add 8 1,mS 8 23] [3,6,7,8])))))))
(Zs [mS 24 3,mS 2 24] [2] .ret))))
theorem C11(xs:List GPart)(hs:xs.length+(xs.map GPart.size).sum≤1073741824):Ctr Tryz.prog N1l [aL 7 (xs.map GPart.enc)] [rL 7 (xs.map GPart.enc)]:=by
 refine cA M50 4 25 [(.tmp 2,[true])] Tryz.func104 rfl rfl ?_;unfold M50
 intro hb
 clear hb
 simp only[go_sem]
 refine K5 xs (fun k=>[(3,.val false [.ref 0 0 7 0 (xs.take k).length]),(8,vI k)]) (fun k=>[(0,⟨0,.row true 7 ((xs.take k).map GPart.enc)⟩)]) (fun _=>True) (by simp only[roomB];omega) ?_
 simp only[go_sem]
 refine⟨?_,trivial,?_,?_⟩
 ·simp only[go_sem,List.take_zero]
  try exact⟨rfl,rfl⟩
 ·intro k x hx _ h0 h1 hw
  have hk:k<xs.length:=by omega
  have hlt:=List.length_take_le k xs
  have hx1:=K1w (f:=GPart.size) (K1e hx)
  simp only[go_sem,K7 hx,h0,h1]
  refine K0 (Cs x.Resource (by simp only[GPart.size,GResource.size]at hx1;omega)) ?_
  simp only[go_sem,hw]
  simp only[roomB]
  exact⟨by omega,by omega,fun _=>⟨K5m hx,K5n hx⟩⟩
 ·intro _
  simp only[go_sem,List.take_length]
def M80:MC:=
(Zs [.nilo 2 0 7] [0] (Zs [.lit 5 0 7 72 [],mS 3 5] [0,3] (.seq (Zs [.mv 4 (ci 0)] [0,3,4] (.block 0 (.loop ([0,3,4],[1,2]) (.seq (Zs [mS 6 4,mS 7 0,nS 8 7,bS 9 .lss 6 8] [0,3,4,9] (cX 9 0))
(.seq (.block 1 (.dreg [Zf [13,14,15,16,17,18,19,20,21,22,23,24,25,26,27,28,29,30] [1,2] (mS 12 3),Zf [12,14,18,19,20,21,22,23,24,25,26,27,28] [1] (mS 13 0),Zf [12,13,18,19,20,21,22,23,24,25,26,27,28] [1] (mS 14 4),Zg [12,18,19,20,21,22,23,24,25,26,27,28] [1] [1,2] (xS 15 7 13 14),Zg [12,18,19,20,21,22,23,24,25,26,27,28] [1] [1,2,3] (fS 16 15 0),Zg [12,18,19,20,21,22,23,24,25,26,27,28] [1] [1,2,3,4] (lF 17 1 16),Zc [12,13,14,15,16,17,19,24,25,26,27,28] (mS 18 0),Zc [12,13,14,15,16,17,18,24,25,26,27,28] (mS 19 4),Zd [12,13,14,15,16,17,24,25,26,27,28] [6,7] (xS 20 7 18 19),Zd [12,13,14,15,16,17,24,25,26,27,28] [6,7,8] (fS 21 20 1),Zd [12,13,14,15,16,17,24,25,26,27,28] [6,7,8,9] (lT 22 5 21),{o:= .call 23 [1] (.f N1k) [.s 22],hs:=[12,13,14,15,16,17,24,25,26,27,28],ws:=[1],bf:=[6,7,8,9,10]},Zf [12,13,14,15,16,17,18,19,20,21,22,23,25] [1] (mS 24 0),Zf [12,13,14,15,16,17,18,19,20,21,22,23,24] [1] (mS 25 4),Zg [12,13,14,15,16,17,18,19,20,21,22,23] [1] [12,13] (xS 26 7 24 25),Zg [12,13,14,15,16,17,18,19,20,21,22,23] [1] [12,13,14] (fS 27 26 6),Zg [12,13,14,15,16,17,18,19,20,21,22,23] [1] [12,13,14,15] (lF 28 1 27),Zd [12] [1,2,3,4,5,6,7,8,9,10,11,12,13,14,15,16] (.build 29 [pz,pz,.emp 1,pz,pz,pz,pz] [(0,1,.s 17),(1,5,.s 23),(6,1,.s 28)]),{o:= .lit 30 2 7 72 [.s 29],hs:=[12],ws:=[1,2],bf:=[1,2,3,4,5,6,7,8,9,10,11,12,13,14,15,16,17]},{o:= .app 31 0 7 72 (.s 12) (.s 30),ws:=[0,2],bf:=(.range 19)},Ze (.range 20) (mS 3 31)] [0,3,4]))
(pr [mS 10 4,bC 11 .add 10 1,mS 4 11] [0,3,4]))))))
(Zs [mS 32 3,mS 2 32] [2] .ret))))
theorem C7(xs:List GPart)(hs:xs.length+(xs.map GPart.size).sum≤1073741824):Ctr Tryz.prog Nu [aL 7 (xs.map GPart.enc)] [rL 7 (xs.map GPart.enc)]:=by
 refine cA M80 3 33 [(.tmp 2,[true])] Tryz.func98 rfl rfl ?_;unfold M80
 intro hb
 clear hb
 simp only[go_sem]
 refine K5 xs (fun k=>[(3,.val false [.ref 0 0 7 0 (xs.take k).length]),(4,vI k)]) (fun k=>[(0,⟨0,.row true 7 ((xs.take k).map GPart.enc)⟩)]) (fun _=>True) (by simp only[roomB];omega) ?_
 simp only[go_sem]
 refine⟨?_,trivial,?_,?_⟩
 ·simp only[go_sem,List.take_zero]
  try exact⟨rfl,rfl⟩
 ·intro k x hx _ h0 h1 hw
  have hk:k<xs.length:=by omega
  have hlt:=List.length_take_le k xs
  have hx1:=K1w (f:=GPart.size) (K1e hx)
  simp only[go_sem,K7 hx,h0,h1]
  refine K0 (C1h x.Resource (by simp only[GPart.size,GResource.size]at hx1;omega)) ?_
  simp only[go_sem,hw,K7 hx,h0,h1]
  simp only[roomB]
  exact⟨by omega,by omega,fun _=>⟨K5m hx,K5n hx⟩⟩
 ·intro _
  simp only[go_sem,List.take_length]
end Go.Proofs.YtflhjihoifbmfaaGreatR
namespace Go.Proofs.YtflhjihoifbmfaaGreatR
open Go Go.RowKit Go.Proofs
open Nat (reduceEqDiff reduceLT reduceLeDiff reduceAdd reduceMul)
open List (reduceReplicate)
def mkL{α:Type}(mk:α→Int→α)(c:α→Nat):List α→Int→List α
 | [],_=>[]
 |x::l,k=>mk x k::mkL mk c l (k+(c x:Nat))
def ctL{α:Type}(c:α→Nat)(l:List α):Nat:=(l.map c).sum
def iMk(_:Int)(k:Int):Int:=k
def iCt(_:Int):Nat:=1
def bMk(_:Bool)(k:Int):Bool:=k.tmod 3==0
section
variable {α:Type} {mk:α→Int→α} {c:α→Nat} {l:List α} {k:Int} {i:Nat} {x:α} {f:α→List T}
theorem K29:mkL mk c [] k=[]:=rfl
theorem K1v:ctL c []=0:=rfl
theorem Kj(h:l[i]? =some x):ctL c (l.take (i+1))=ctL c (l.take i)+c x:=K4h h
theorem Kv(i:Nat):ctL c (l.take i)≤ctL c l:=K18 l i
theorem K9:∀ {l:List α} {k:Int},(mkL mk c l k).length=l.length
 | [],_=>rfl
 |x::l,k=>by simp[mkL,K9 (l:=l)]
theorem K5i:∀ {l m:List α} {k:Int},mkL mk c (l++m) k=mkL mk c l k++mkL mk c m (k+(ctL c l:Nat))
 | [],m,k=>by simp[mkL,ctL]
 |x::l,m,k=>by
  simp only[List.cons_append,mkL,K5i (l:=l),ctL,List.map_cons,List.sum_cons]
  rw[show k+(c x:Nat)+(((l.map c).sum:Nat):Int)=k+((c x+(l.map c).sum:Nat):Int)by omega]
theorem mkL_snoc(h:l[i]? =some x):mkL mk c (l.take (i+1)) k=mkL mk c (l.take i) k++[mk x (k+(ctL c (l.take i):Nat))]:=by
 rw[Kn h,K5i];rfl
theorem mkL_get(h:l[i]? =some x):(mkL mk c l k)[i]? =some (mk x (k+(ctL c (l.take i):Nat))):=by
 have hi:=Kb h
 have e:mkL mk c l k=mkL mk c (l.take i) k++mkL mk c (l.drop i) (k+(ctL c (l.take i):Nat)):=by
  rw[←K5i,List.take_append_drop]
 rw[e,List.getElem?_append_right (by rw[K9];simp;omega),K9,List.length_take,Nat.min_eq_left (Nat.le_of_lt hi),Nat.sub_self,K13 h]
 rfl
def mid(A:List (List T))(e:List T)(B:List (List T)):List (List T):=A++e::B
theorem K2o(h:l[i]? =some x):(mkL mk c (l.take i) k).map f++(l.drop i).map f=mid ((mkL mk c (l.take i) k).map f) (f x) ((l.drop (i+1)).map f):=by
 rw[K13 h];rfl
theorem K2n(h:l[i]? =some x):(∀e,(mid ((mkL mk c (l.take i) k).map f) e ((l.drop (i+1)).map f))[i]? =some e)∧
  (∀e e',(mid ((mkL mk c (l.take i) k).map f) e ((l.drop (i+1)).map f)).set i e'=mid ((mkL mk c (l.take i) k).map f) e' ((l.drop (i+1)).map f))∧
  (∀e,(mid ((mkL mk c (l.take i) k).map f) e ((l.drop (i+1)).map f)).length=l.length)∧
  (∀e,(mid ((mkL mk c (l.take i) k).map f) e ((l.drop (i+1)).map f)).getD i []=e):=by
 have hi:=Kb h
 have hl:((mkL mk c (l.take i) k).map f).length=i:=by rw[List.length_map,K9];simp;omega
 generalize (mkL mk c (l.take i) k).map f=A at hl
 subst hl
 have h1:∀e,(mid A e ((l.drop (A.length+1)).map f))[A.length]? =some e:=fun e=>by simp[mid]
 refine⟨h1,fun e e'=>by simp[mid],fun e=>by simp[mid];omega,fun e=>by rw[List.getD_eq_getElem?_getD,h1];rfl⟩
theorem K1y(h:l[i]? =some x):mid ((mkL mk c (l.take i) k).map f) (f (mk x (k+(ctL c (l.take i):Nat)))) ((l.drop (i+1)).map f)=(mkL mk c (l.take (i+1)) k).map f++(l.drop (i+1)).map f:=by
 rw[mkL_snoc h];simp[mid]
theorem Ku{sz:Nat}{es:List α}{rs:List RV}(h:bdVA (oL sz (es.map f)::rs)):es.length≤roomB:=by
 simp only[bdVA,List.map_cons,bdL,bdT,List.length_map]at h
 exact h.1.1.1
theorem waK{K K':Int}(h:K=K')(h1:0≤K')(h2:K'≤9223372036854775807):IntKind.i64.wrap K=K':=by
 subst h;rw[wI (by omega) (by omega)]
theorem K3d{s:α→Nat}(h:∀x,c x≤16*(1+s x)):∀l:List α,ctL c l≤16*(l.length+(l.map s).sum)
 | []=>by simp[ctL]
 |x::l=>by
  have h1:=h x
  have h2:=K3d h l
  simp only[ctL,List.map_cons,List.sum_cons,List.length_cons]at*
  omega
theorem ctL_le'(h:∀x,c x≤16):∀l:List α,ctL c l≤16*l.length
 | []=>by simp[ctL]
 |x::l=>by
  have h1:=h x
  have h2:=ctL_le' h l
  simp only[ctL,List.map_cons,List.sum_cons,List.length_cons]at*
  omega
end
abbrev oS(ts:List T):RV:=⟨true,own ts⟩
attribute [go_sem] oS
theorem three_ne:¬(3:Int)=0:=by decide
attribute [go_sem] K9
def M6b:MC:=
(Zs [.mv 4 (ci 0)] [0,1] (.seq (Zs [.mv 5 (ci 0)] [0,1,5] (.block 0 (.loop ([0,1,5],[]) (.seq (Zs [mS 6 5,mS 7 0,nS 8 7,bS 9 .lss 6 8] [0,1,5,9] (cX 9 0))
(.seq (.block 1 (Zs [mS 12 0,mS 13 5,mS 14 1,xS 15 1 12 13,sS 1 15 14] [0,1,5] (pr [mS 16 1,bC 17 .add 16 1,mS 1 17] [0,1,5])))
(pr [mS 10 5,bC 11 .add 10 1,mS 5 11] [0,1,5]))))))
(Zs [mS 18 1,mS 4 18] [4] .ret)))
theorem Cv(xs:List Int)(k:Int)(hk:0≤k)(hN:k+(ctL iCt xs:Nat)≤4611686018427387904):CtrI Tryz.prog Nw [oL 1 (xs.map encI),iI k] [some (1,(mkL iMk iCt xs k).map encI)] [rI (k+(ctL iCt xs:Nat))]:=by
 refine Kw (M:=M6b) (m:=0) (n:=19) (res:=[(.tmp 4,[false])]) hmix Tryz.func25 rfl (by kernel_rfl) rfl (by kernel_rfl) (by kernel_rfl) (Nat.le_of_ble_eq_true rfl) rfl rfl ?_;unfold M6b
 intro hb
 have hl:=Ku hb
 clear hb
 simp only[go_sem]
 refine K5 xs (fun i=>[(1,vI (k+(ctL iCt (xs.take i):Nat))),(5,vI i)]) (fun i=>[(0,⟨1,.row true 1 ((mkL iMk iCt (xs.take i) k).map encI++(xs.drop i).map encI)⟩)]) (fun _=>True) hl ?_
 simp only[go_sem]
 refine⟨?_,trivial,?_,?_⟩
 ·simp only[go_sem,List.take_zero,List.drop_zero,K29,K1v]
  all_goals simp
 ·intro i x hx _ h0 h1 hw
  have hR:=K2o (mk:=iMk) (c:=iCt) (k:=k) (f:=encI) hx
  have hA:=K2n (mk:=iMk) (c:=iCt) (k:=k) (f:=encI) hx
  generalize hAe:(mkL iMk iCt (xs.take i) k).map encI=A at hR hA
  generalize hBe:(xs.drop (i+1)).map encI=B at hR hA
  obtain⟨hg,hs,hl,hd⟩:=hA
  have hc:=Kv (c:=iCt) (i+1) (l:=xs)
  rw[Kj hx]at hc
  have hK0:0≤k+((ctL iCt (xs.take i):Nat):Int):=by omega
  have hK1:k+((ctL iCt (xs.take i):Nat):Int)+(iCt x:Nat)≤4611686018427387904:=by omega
  generalize hK:k+((ctL iCt (xs.take i):Nat):Int)=K at hK0 hK1
  simp only[iCt]at hK1
  simp only[go_sem,hw,hR,hg,hs,hl,h0,h1,waK (K:=K+1) (K':=K+1) (by omega) (by omega) (by omega)]
  subst hK hAe hBe
  refine⟨?_,K1y hx⟩
  rw[Kj hx]
  simp only[iCt]
  omega
 ·intro _
  simp only[go_sem,List.take_length,List.drop_length,List.map_nil,List.append_nil,K9]
def M69:MC:=
(Zs [.mv 4 (ci 0)] [0,1] (.seq (Zs [.mv 5 (ci 0)] [0,1,5] (.block 0 (.loop ([0,1,5],[]) (.seq (Zs [mS 6 5,mS 7 0,nS 8 7,bS 9 .lss 6 8] [0,1,5,9] (cX 9 0))
(.seq (.block 1 (.seq (Zs [mS 12 0,mS 13 5,xS 14 1 12 13,lF 15 1 14,mS 16 1,bS 17 .neq 15 16] [0,1,5,17] (.cond (.s 17) (Zs [.mv 4 (.c (.int .i64 (-1)))] [4] .ret) .skip))
(pr [mS 18 1,bC 19 .add 18 1,mS 1 19] [0,1,5])))
(pr [mS 10 5,bC 11 .add 10 1,mS 5 11] [0,1,5]))))))
(Zs [mS 20 1,mS 4 20] [4] .ret)))
theorem Cab(xs:List Int)(k:Int)(hk:0≤k)(hN:k+(ctL iCt xs:Nat)≤4611686018427387904):Ctr Tryz.prog N6l [aL 1 ((mkL iMk iCt xs k).map encI),aI k] [rI (k+(ctL iCt xs:Nat))]:=by
 refine cA M69 0 21 [(.tmp 4,[false])] Tryz.func60 rfl rfl ?_;unfold M69
 intro hb
 simp only[bdA,bdL,bdT,Ki,K1m,roomB,and_true,List.length_map]at hb
 have hl:=hb.1.1
 rw[K9]at hl
 clear hb
 simp only[go_sem]
 refine K5 xs (fun i=>[(1,vI (k+(ctL iCt (xs.take i):Nat))),(5,vI i)]) (fun i=>[]) (fun _=>True) hl ?_
 simp only[go_sem]
 refine⟨?_,trivial,?_,?_⟩
 ·simp only[go_sem,List.take_zero,K1v]
  all_goals simp
 ·intro i x hx _ h0 h1 hw
  have hg:=mkL_get (mk:=iMk) (c:=iCt) (k:=k) hx
  have hc:=Kv (c:=iCt) (i+1) (l:=xs)
  rw[Kj hx]at hc
  have hK0:0≤k+((ctL iCt (xs.take i):Nat):Int):=by omega
  have hK1:k+((ctL iCt (xs.take i):Nat):Int)+(iCt x:Nat)≤4611686018427387904:=by omega
  generalize hK:k+((ctL iCt (xs.take i):Nat):Int)=K at hK0 hK1 hg
  simp only[iCt]at hK1
  simp only[go_sem,hw,K7 hg,h0,h1,K9,iMk,waK (K:=K+1) (K':=K+1) (by omega) (by omega) (by omega)]
  rw[Kj hx]
  simp only[iCt]
  omega
 ·intro _
  simp only[go_sem,List.take_length,K9]
def GAddress.mkd(x:GAddress)(k:Int):GAddress:=⟨k,(k+1),(k+2)⟩
def GAddress.ct(x:GAddress):Nat:=3
def GResource.mkd(x:GResource)(k:Int):GResource:=⟨k,(mkL iMk iCt x.Body (k+1)),⟨((k+1)+(ctL iCt x.Body:Nat)),(((k+1)+(ctL iCt x.Body:Nat))+1),(((k+1)+(ctL iCt x.Body:Nat))+2)⟩⟩
def GResource.ct(x:GResource):Nat:=4+ctL iCt x.Body
theorem GResource.ct_le(x:GResource):x.ct≤16*(1+x.size):=by
 simp only[GResource.ct,GResource.size]
 have h0:=ctL_le' (c:=iCt) (fun y=>by simp only[iCt];omega) x.Body
 omega
def GResource.mks(x:GResource)(k:Int):GResource:={x with Body:=mkL iMk iCt x.Body (k)}
def GResource.cts(x:GResource):Nat:=ctL iCt x.Body
theorem GResource.cts_le(x:GResource):x.cts≤16*x.size:=by
 simp only[GResource.cts,GResource.size]
 have hBody:=ctL_le' (c:=iCt) (fun y=>by simp only[iCt];omega) x.Body
 omega
@[go_sem] theorem GResource.mks_len0 (x:GResource) (k:Int):((x.mks k).Body).length=x.Body.length:=K9
def GPart.mkd(x:GPart)(k:Int):GPart:=⟨k,⟨(k+1),(mkL iMk iCt x.Resource.Body (k+2)),⟨((k+2)+(ctL iCt x.Resource.Body:Nat)),(((k+2)+(ctL iCt x.Resource.Body:Nat))+1),(((k+2)+(ctL iCt x.Resource.Body:Nat))+2)⟩⟩,(((k+2)+(ctL iCt x.Resource.Body:Nat))+3)⟩
def GPart.ct(x:GPart):Nat:=6+ctL iCt x.Resource.Body
theorem GPart.ct_le(x:GPart):x.ct≤16*(1+x.size):=by
 simp only[GPart.ct,GPart.size,GResource.size]
 have h0:=ctL_le' (c:=iCt) (fun y=>by simp only[iCt];omega) x.Resource.Body
 omega
def M57:MC:=
(Zs [.mv 4 (ci 0)] [0,1] (.seq (Zs [.mv 5 (ci 0)] [0,1,5] (.block 0 (.loop ([0,1,5],[1]) (.seq (Zs [mS 6 5,mS 7 0,nS 8 7,bS 9 .lss 6 8] [0,1,5,9] (cX 9 0))
(.seq (.block 1 (Zs [mS 12 0,mS 13 5,mS 14 1,xS 15 7 12 13,fS 16 15 0,sS 1 16 14] [0,1,5] (Zs [mS 17 1,bC 18 .add 17 1,mS 1 18] [0,1,5] (Zs [mS 19 0,mS 20 5,mS 21 1,xS 22 7 19 20,fS 23 22 1,fS 24 23 0,sS 1 24 21] [0,1,5] (Zs [mS 25 1,bC 26 .add 25 1,mS 1 26] [0,1,5] (Zs [mS 27 0,mS 28 5,xS 29 7 27 28,fS 30 29 1,fS 31 30 1,.loadT 32 1 (.s 31),mS 33 1,.callI 34 [] (.f Nw) [.s 32,.s 33] [1] [0],mS 1 34] [0,1,5] (Zs [mS 35 0,mS 36 5,mS 37 1,xS 38 7 35 36,fS 39 38 1,fS 40 39 2,fS 41 40 0,sS 1 41 37] [0,1,5] (Zs [mS 42 1,bC 43 .add 42 1,mS 1 43] [0,1,5] (Zs [mS 44 0,mS 45 5,mS 46 1,xS 47 7 44 45,fS 48 47 1,fS 49 48 2,fS 50 49 1,sS 1 50 46] [0,1,5] (Zs [mS 51 1,bC 52 .add 51 1,mS 1 52] [0,1,5] (Zs [mS 53 0,mS 54 5,mS 55 1,xS 56 7 53 54,fS 57 56 1,fS 58 57 2,fS 59 58 2,sS 1 59 55] [0,1,5] (Zs [mS 60 1,bC 61 .add 60 1,mS 1 61] [0,1,5] (Zs [mS 62 0,mS 63 5,mS 64 1,xS 65 7 62 63,fS 66 65 6,sS 1 66 64] [0,1,5] (pr [mS 67 1,bC 68 .add 67 1,mS 1 68] [0,1,5]))))))))))))))
(pr [mS 10 5,bC 11 .add 10 1,mS 5 11] [0,1,5]))))))
(Zs [mS 69 1,mS 4 69] [4] .ret)))
theorem C9y(xs:List GPart)(k:Int)(hk:0≤k)(hN:k+(ctL GPart.ct xs:Nat)≤4611686018427387904):CtrI Tryz.prog N5p [oL 7 (xs.map GPart.enc),iI k] [some (7,(mkL GPart.mkd GPart.ct xs k).map GPart.enc)] [rI (k+(ctL GPart.ct xs:Nat))]:=by
 refine Kw (M:=M57) (m:=1) (n:=70) (res:=[(.tmp 4,[false])]) hmix Tryz.func16 rfl (by kernel_rfl) rfl (by kernel_rfl) (by kernel_rfl) (Nat.le_of_ble_eq_true rfl) rfl rfl ?_;unfold M57
 intro hb
 have hl:=Ku hb
 clear hb
 simp only[go_sem]
 refine K5 xs (fun i=>[(1,vI (k+(ctL GPart.ct (xs.take i):Nat))),(5,vI i)]) (fun i=>[(0,⟨1,.row true 7 ((mkL GPart.mkd GPart.ct (xs.take i) k).map GPart.enc++(xs.drop i).map GPart.enc)⟩)]) (fun _=>True) hl ?_
 simp only[go_sem]
 refine⟨?_,trivial,?_,?_⟩
 ·simp only[go_sem,List.take_zero,List.drop_zero,K29,K1v]
  all_goals simp
 ·intro i x hx _ h0 h1 hw
  have hR:=K2o (mk:=GPart.mkd) (c:=GPart.ct) (k:=k) (f:=GPart.enc) hx
  have hA:=K2n (mk:=GPart.mkd) (c:=GPart.ct) (k:=k) (f:=GPart.enc) hx
  generalize hAe:(mkL GPart.mkd GPart.ct (xs.take i) k).map GPart.enc=A at hR hA
  generalize hBe:(xs.drop (i+1)).map GPart.enc=B at hR hA
  obtain⟨hg,hs,hl,hd⟩:=hA
  have hc:=Kv (c:=GPart.ct) (i+1) (l:=xs)
  rw[Kj hx]at hc
  have hK0:0≤k+((ctL GPart.ct (xs.take i):Nat):Int):=by omega
  have hK1:k+((ctL GPart.ct (xs.take i):Nat):Int)+(GPart.ct x:Nat)≤4611686018427387904:=by omega
  generalize hK:k+((ctL GPart.ct (xs.take i):Nat):Int)=K at hK0 hK1
  simp only[GPart.ct]at hK1
  simp only[go_sem,hR,hg,hs,hl,h0,h1,waK (K:=K+1) (K':=K+1) (by omega) (by omega) (by omega),waK (K:=K+1+1) (K':=K+2) (by omega) (by omega) (by omega)]
  refine K8 (Cv x.Resource.Body (K+2) (by omega) (by omega)) ?_
  have hK1:0≤K+2+(ctL iCt x.Resource.Body:Nat):=by omega
  generalize eK1:K+2+((ctL iCt x.Resource.Body:Nat):Int)=K1 at hK1
  simp only[go_sem,hw,hg,hs,hl,hd,h0,h1,waK (K:=K1+1) (K':=K1+1) (by omega) (by omega) (by omega),waK (K:=K1+1+1) (K':=K1+2) (by omega) (by omega) (by omega),waK (K:=K1+2+1) (K':=K1+3) (by omega) (by omega) (by omega),waK (K:=K1+3+1) (K':=K1+4) (by omega) (by omega) (by omega)]
  subst eK1
  subst hK hAe hBe
  refine⟨?_,K1y hx⟩
  rw[Kj hx]
  simp only[GPart.ct]
  omega
 ·intro _
  simp only[go_sem,List.take_length,List.drop_length,List.map_nil,List.append_nil,K9]
def M56:MC:=
(Zs [.mv 4 (ci 0)] [0,1] (.seq (Zs [.mv 5 (ci 0)] [0,1,5] (.block 0 (.loop ([0,1,5],[]) (.seq (Zs [mS 6 5,mS 7 0,nS 8 7,bS 9 .lss 6 8] [0,1,5,9] (cX 9 0))
(.seq (.block 1 (.seq (Zs [mS 12 0,mS 13 5,xS 14 7 12 13,fS 15 14 0,lF 16 1 15,mS 17 1,bS 18 .neq 16 17] [0,1,5,18] (.cond (.s 18) (Zs [.mv 4 (.c (.int .i64 (-1)))] [4] .ret) .skip))
(Zs [mS 19 1,bC 20 .add 19 1,mS 1 20] [0,1,5] (.seq (Zs [mS 21 0,mS 22 5,xS 23 7 21 22,fS 24 23 1,fS 25 24 0,lF 26 1 25,mS 27 1,bS 28 .neq 26 27] [0,1,5,28] (.cond (.s 28) (Zs [.mv 4 (.c (.int .i64 (-1)))] [4] .ret) .skip))
(Zs [mS 29 1,bC 30 .add 29 1,mS 1 30] [0,1,5] (Zs [mS 31 0,mS 32 5,xS 33 7 31 32,fS 34 33 1,fS 35 34 1,lF 36 1 35,mS 37 1,.call 38 [] (.f N6l) [.s 36,.s 37],mS 1 38] [0,1,5] (.seq (Zs [mS 39 1,bC 40 .lss 39 0] [0,1,5,40] (.cond (.s 40) (Zs [.mv 4 (.c (.int .i64 (-1)))] [4] .ret) .skip))
(.seq (Zs [mS 41 0,mS 42 5,xS 43 7 41 42,fS 44 43 1,fS 45 44 2,fS 46 45 0,lF 47 1 46,mS 48 1,bS 49 .neq 47 48] [0,1,5,49] (.cond (.s 49) (Zs [.mv 4 (.c (.int .i64 (-1)))] [4] .ret) .skip))
(Zs [mS 50 1,bC 51 .add 50 1,mS 1 51] [0,1,5] (.seq (Zs [mS 52 0,mS 53 5,xS 54 7 52 53,fS 55 54 1,fS 56 55 2,fS 57 56 1,lF 58 1 57,mS 59 1,bS 60 .neq 58 59] [0,1,5,60] (.cond (.s 60) (Zs [.mv 4 (.c (.int .i64 (-1)))] [4] .ret) .skip))
(Zs [mS 61 1,bC 62 .add 61 1,mS 1 62] [0,1,5] (.seq (Zs [mS 63 0,mS 64 5,xS 65 7 63 64,fS 66 65 1,fS 67 66 2,fS 68 67 2,lF 69 1 68,mS 70 1,bS 71 .neq 69 70] [0,1,5,71] (.cond (.s 71) (Zs [.mv 4 (.c (.int .i64 (-1)))] [4] .ret) .skip))
(Zs [mS 72 1,bC 73 .add 72 1,mS 1 73] [0,1,5] (.seq (Zs [mS 74 0,mS 75 5,xS 76 7 74 75,fS 77 76 6,lF 78 1 77,mS 79 1,bS 80 .neq 78 79] [0,1,5,80] (.cond (.s 80) (Zs [.mv 4 (.c (.int .i64 (-1)))] [4] .ret) .skip))
(pr [mS 81 1,bC 82 .add 81 1,mS 1 82] [0,1,5])))))))))))))))
(pr [mS 10 5,bC 11 .add 10 1,mS 5 11] [0,1,5]))))))
(Zs [mS 83 1,mS 4 83] [4] .ret)))
theorem C4y(xs:List GPart)(k:Int)(hk:0≤k)(hN:k+(ctL GPart.ct xs:Nat)≤4611686018427387904):Ctr Tryz.prog N1m [aL 7 ((mkL GPart.mkd GPart.ct xs k).map GPart.enc),aI k] [rI (k+(ctL GPart.ct xs:Nat))]:=by
 refine cA M56 0 84 [(.tmp 4,[false])] Tryz.func17 rfl rfl ?_;unfold M56
 intro hb
 simp only[bdA,bdL,bdT,Ki,K1m,roomB,and_true,List.length_map]at hb
 have hl:=hb.1.1
 rw[K9]at hl
 clear hb
 simp only[go_sem]
 refine K5 xs (fun i=>[(1,vI (k+(ctL GPart.ct (xs.take i):Nat))),(5,vI i)]) (fun i=>[]) (fun _=>True) hl ?_
 simp only[go_sem]
 refine⟨?_,trivial,?_,?_⟩
 ·simp only[go_sem,List.take_zero,K1v]
  all_goals simp
 ·intro i x hx _ h0 h1 hw
  have hg:=mkL_get (mk:=GPart.mkd) (c:=GPart.ct) (k:=k) hx
  have hc:=Kv (c:=GPart.ct) (i+1) (l:=xs)
  rw[Kj hx]at hc
  have hK0:0≤k+((ctL GPart.ct (xs.take i):Nat):Int):=by omega
  have hK1:k+((ctL GPart.ct (xs.take i):Nat):Int)+(GPart.ct x:Nat)≤4611686018427387904:=by omega
  generalize hK:k+((ctL GPart.ct (xs.take i):Nat):Int)=K at hK0 hK1 hg
  simp only[GPart.ct]at hK1
  try simp only[go_sem,K7 hg,h0,h1,K9,GPart.mkd,waK (K:=K+1) (K':=K+1) (by omega) (by omega) (by omega),waK (K:=K+1+1) (K':=K+2) (by omega) (by omega) (by omega)]
  refine K0 (Cab x.Resource.Body (K+2) (by omega) (by omega)) ?_
  have hK1:0≤K+2+(ctL iCt x.Resource.Body:Nat):=by omega
  generalize eK1:K+2+((ctL iCt x.Resource.Body:Nat):Int)=K1 at hK1
  have nK1:¬K1<0:=by omega
  simp only[go_sem,hw,K7 hg,h0,h1,K9,GPart.mkd,nK1,eK1]
  intro _
  simp only[go_sem,waK (K:=K1+1) (K':=K1+1) (by omega) (by omega) (by omega),waK (K:=K1+1+1) (K':=K1+2) (by omega) (by omega) (by omega),waK (K:=K1+2+1) (K':=K1+3) (by omega) (by omega) (by omega),waK (K:=K1+3+1) (K':=K1+4) (by omega) (by omega) (by omega)]
  subst eK1
  rw[Kj hx]
  simp only[GPart.ct]
  omega
 ·intro _
  simp only[go_sem,List.take_length,K9]
def GPart.mks(x:GPart)(k:Int):GPart:={x with Resource:=x.Resource.mks (k)}
def GPart.cts(x:GPart):Nat:=x.Resource.cts
theorem GPart.cts_le(x:GPart):x.cts≤16*x.size:=by
 simp only[GPart.cts,GPart.size]
 have hResource:=GResource.cts_le x.Resource
 omega
@[go_sem] theorem GPart.mks_len0 (x:GPart) (k:Int):((x.mks k).Resource.Body).length=x.Resource.Body.length:=K9
def GPiece.mkd(x:GPiece)(k:Int):GPiece:=⟨k,(k+1),(mkL iMk iCt x.New (k+2))⟩
def GPiece.ct(x:GPiece):Nat:=2+ctL iCt x.New
theorem GPiece.ct_le(x:GPiece):x.ct≤16*(1+x.size):=by
 simp only[GPiece.ct,GPiece.size]
 have h0:=ctL_le' (c:=iCt) (fun y=>by simp only[iCt];omega) x.New
 omega
def GPiece.mks(x:GPiece)(k:Int):GPiece:={x with New:=mkL iMk iCt x.New (k)}
def GPiece.cts(x:GPiece):Nat:=ctL iCt x.New
theorem GPiece.cts_le(x:GPiece):x.cts≤16*x.size:=by
 simp only[GPiece.cts,GPiece.size]
 have hNew:=ctL_le' (c:=iCt) (fun y=>by simp only[iCt];omega) x.New
 omega
@[go_sem] theorem GPiece.mks_len0 (x:GPiece) (k:Int):((x.mks k).New).length=x.New.length:=K9
def GVersion.mkd(x:GVersion)(k:Int):GVersion:=⟨⟨k,(k+1),(k+2)⟩,(k+3),⟨(k+4),(mkL iMk iCt x.Resource.Body (k+5)),⟨((k+5)+(ctL iCt x.Resource.Body:Nat)),(((k+5)+(ctL iCt x.Resource.Body:Nat))+1),(((k+5)+(ctL iCt x.Resource.Body:Nat))+2)⟩⟩⟩
def GVersion.ct(x:GVersion):Nat:=8+ctL iCt x.Resource.Body
theorem GVersion.ct_le(x:GVersion):x.ct≤16*(1+x.size):=by
 simp only[GVersion.ct,GVersion.size,GResource.size]
 have h0:=ctL_le' (c:=iCt) (fun y=>by simp only[iCt];omega) x.Resource.Body
 omega
def Y15:MC:=
(Zs [.mv 4 (ci 0)] [0,1] (.seq (Zs [.mv 5 (ci 0)] [0,1,5] (.block 0 (.loop ([0,1,5],[1]) (.seq (Zs [mS 6 5,mS 7 0,nS 8 7,bS 9 .lss 6 8] [0,1,5,9] (cX 9 0))
(.seq (.block 1 (Zs [mS 12 0,mS 13 5,mS 14 1,xS 15 9 12 13,fS 16 15 0,fS 17 16 0,sS 1 17 14] [0,1,5] (Zs [mS 18 1,bC 19 .add 18 1,mS 1 19] [0,1,5] (Zs [mS 20 0,mS 21 5,mS 22 1,xS 23 9 20 21,fS 24 23 0,fS 25 24 1,sS 1 25 22] [0,1,5] (Zs [mS 26 1,bC 27 .add 26 1,mS 1 27] [0,1,5] (Zs [mS 28 0,mS 29 5,mS 30 1,xS 31 9 28 29,fS 32 31 0,fS 33 32 2,sS 1 33 30] [0,1,5] (Zs [mS 34 1,bC 35 .add 34 1,mS 1 35] [0,1,5] (Zs [mS 36 0,mS 37 5,mS 38 1,xS 39 9 36 37,fS 40 39 3,sS 1 40 38] [0,1,5] (Zs [mS 41 1,bC 42 .add 41 1,mS 1 42] [0,1,5] (Zs [mS 43 0,mS 44 5,mS 45 1,xS 46 9 43 44,fS 47 46 4,fS 48 47 0,sS 1 48 45] [0,1,5] (Zs [mS 49 1,bC 50 .add 49 1,mS 1 50] [0,1,5] (Zs [mS 51 0,mS 52 5,xS 53 9 51 52,fS 54 53 4,fS 55 54 1,.loadT 56 1 (.s 55),mS 57 1,.callI 58 [] (.f Nw) [.s 56,.s 57] [1] [0],mS 1 58] [0,1,5] (Zs [mS 59 0,mS 60 5,mS 61 1,xS 62 9 59 60,fS 63 62 4,fS 64 63 2,fS 65 64 0,sS 1 65 61] [0,1,5] (Zs [mS 66 1,bC 67 .add 66 1,mS 1 67] [0,1,5] (Zs [mS 68 0,mS 69 5,mS 70 1,xS 71 9 68 69,fS 72 71 4,fS 73 72 2,fS 74 73 1,sS 1 74 70] [0,1,5] (Zs [mS 75 1,bC 76 .add 75 1,mS 1 76] [0,1,5] (Zs [mS 77 0,mS 78 5,mS 79 1,xS 80 9 77 78,fS 81 80 4,fS 82 81 2,fS 83 82 2,sS 1 83 79] [0,1,5] (pr [mS 84 1,bC 85 .add 84 1,mS 1 85] [0,1,5]))))))))))))))))))
(pr [mS 10 5,bC 11 .add 10 1,mS 5 11] [0,1,5]))))))
(Zs [mS 86 1,mS 4 86] [4] .ret)))
attribute [go_sem] Y15
def M2e:MC:=Y15
theorem C8e(xs:List GVersion)(k:Int)(hk:0≤k)(hN:k+(ctL GVersion.ct xs:Nat)≤4611686018427387904):CtrI Tryz.prog N2u [oL 9 (xs.map GVersion.enc),iI k] [some (9,(mkL GVersion.mkd GVersion.ct xs k).map GVersion.enc)] [rI (k+(ctL GVersion.ct xs:Nat))]:=by
 refine Kw (M:=M2e) (m:=1) (n:=87) (res:=[(.tmp 4,[false])]) hmix Tryz.func54 rfl (by kernel_rfl) rfl (by kernel_rfl) (by kernel_rfl) (Nat.le_of_ble_eq_true rfl) rfl rfl ?_;unfold M2e
 intro hb
 have hl:=Ku hb
 clear hb
 simp only[go_sem]
 refine K5 xs (fun i=>[(1,vI (k+(ctL GVersion.ct (xs.take i):Nat))),(5,vI i)]) (fun i=>[(0,⟨1,.row true 9 ((mkL GVersion.mkd GVersion.ct (xs.take i) k).map GVersion.enc++(xs.drop i).map GVersion.enc)⟩)]) (fun _=>True) hl ?_
 simp only[go_sem]
 refine⟨?_,trivial,?_,?_⟩
 ·simp only[go_sem,List.take_zero,List.drop_zero,K29,K1v]
  all_goals simp
 ·intro i x hx _ h0 h1 hw
  have hR:=K2o (mk:=GVersion.mkd) (c:=GVersion.ct) (k:=k) (f:=GVersion.enc) hx
  have hA:=K2n (mk:=GVersion.mkd) (c:=GVersion.ct) (k:=k) (f:=GVersion.enc) hx
  generalize hAe:(mkL GVersion.mkd GVersion.ct (xs.take i) k).map GVersion.enc=A at hR hA
  generalize hBe:(xs.drop (i+1)).map GVersion.enc=B at hR hA
  obtain⟨hg,hs,hl,hd⟩:=hA
  have hc:=Kv (c:=GVersion.ct) (i+1) (l:=xs)
  rw[Kj hx]at hc
  have hK0:0≤k+((ctL GVersion.ct (xs.take i):Nat):Int):=by omega
  have hK1:k+((ctL GVersion.ct (xs.take i):Nat):Int)+(GVersion.ct x:Nat)≤4611686018427387904:=by omega
  generalize hK:k+((ctL GVersion.ct (xs.take i):Nat):Int)=K at hK0 hK1
  simp only[GVersion.ct]at hK1
  simp only[go_sem,hR,hg,hs,hl,h0,h1,waK (K:=K+1) (K':=K+1) (by omega) (by omega) (by omega),waK (K:=K+1+1) (K':=K+2) (by omega) (by omega) (by omega),waK (K:=K+2+1) (K':=K+3) (by omega) (by omega) (by omega),waK (K:=K+3+1) (K':=K+4) (by omega) (by omega) (by omega),waK (K:=K+4+1) (K':=K+5) (by omega) (by omega) (by omega)]
  refine K8 (Cv x.Resource.Body (K+5) (by omega) (by omega)) ?_
  have hK1:0≤K+5+(ctL iCt x.Resource.Body:Nat):=by omega
  generalize eK1:K+5+((ctL iCt x.Resource.Body:Nat):Int)=K1 at hK1
  simp only[go_sem,hw,hg,hs,hl,hd,h0,h1,waK (K:=K1+1) (K':=K1+1) (by omega) (by omega) (by omega),waK (K:=K1+1+1) (K':=K1+2) (by omega) (by omega) (by omega),waK (K:=K1+2+1) (K':=K1+3) (by omega) (by omega) (by omega)]
  subst eK1
  subst hK hAe hBe
  refine⟨?_,K1y hx⟩
  rw[Kj hx]
  simp only[GVersion.ct]
  omega
 ·intro _
  simp only[go_sem,List.take_length,List.drop_length,List.map_nil,List.append_nil,K9]
def GVersion.mks(x:GVersion)(k:Int):GVersion:={x with Resource:=x.Resource.mks (k)}
def GVersion.cts(x:GVersion):Nat:=x.Resource.cts
theorem GVersion.cts_le(x:GVersion):x.cts≤16*x.size:=by
 simp only[GVersion.cts,GVersion.size]
 have hResource:=GResource.cts_le x.Resource
 omega
@[go_sem] theorem GVersion.mks_len0 (x:GVersion) (k:Int):((x.mks k).Resource.Body).length=x.Resource.Body.length:=K9
def GOp.mkd(x:GOp)(k:Int):GOp:=⟨k,(k+1),(k+2),(k+3)⟩
def GOp.ct(x:GOp):Nat:=4
def Y16:MC:=
(Zs [.mv 4 (ci 0)] [0,1] (.seq (Zs [.mv 5 (ci 0)] [0,1,5] (.block 0 (.loop ([0,1,5],[]) (.seq (Zs [mS 6 5,mS 7 0,nS 8 7,bS 9 .lss 6 8] [0,1,5,9] (cX 9 0))
(.seq (.block 1 (Zs [mS 12 0,mS 13 5,mS 14 1,xS 15 4 12 13,fS 16 15 0,sS 1 16 14] [0,1,5] (Zs [mS 17 1,bC 18 .add 17 1,mS 1 18] [0,1,5] (Zs [mS 19 0,mS 20 5,mS 21 1,xS 22 4 19 20,fS 23 22 1,sS 1 23 21] [0,1,5] (Zs [mS 24 1,bC 25 .add 24 1,mS 1 25] [0,1,5] (Zs [mS 26 0,mS 27 5,mS 28 1,xS 29 4 26 27,fS 30 29 2,sS 1 30 28] [0,1,5] (Zs [mS 31 1,bC 32 .add 31 1,mS 1 32] [0,1,5] (Zs [mS 33 0,mS 34 5,mS 35 1,xS 36 4 33 34,fS 37 36 3,sS 1 37 35] [0,1,5] (pr [mS 38 1,bC 39 .add 38 1,mS 1 39] [0,1,5])))))))))
(pr [mS 10 5,bC 11 .add 10 1,mS 5 11] [0,1,5]))))))
(Zs [mS 40 1,mS 4 40] [4] .ret)))
attribute [go_sem] Y16
def M74:MC:=Y16
theorem C6v(xs:List GOp)(k:Int)(hk:0≤k)(hN:k+(ctL GOp.ct xs:Nat)≤4611686018427387904):CtrI Tryz.prog N34 [oL 4 (xs.map GOp.enc),iI k] [some (4,(mkL GOp.mkd GOp.ct xs k).map GOp.enc)] [rI (k+(ctL GOp.ct xs:Nat))]:=by
 refine Kw (M:=M74) (m:=0) (n:=41) (res:=[(.tmp 4,[false])]) hmix Tryz.func55 rfl (by kernel_rfl) rfl (by kernel_rfl) (by kernel_rfl) (Nat.le_of_ble_eq_true rfl) rfl rfl ?_;unfold M74
 intro hb
 have hl:=Ku hb
 clear hb
 simp only[go_sem]
 refine K5 xs (fun i=>[(1,vI (k+(ctL GOp.ct (xs.take i):Nat))),(5,vI i)]) (fun i=>[(0,⟨1,.row true 4 ((mkL GOp.mkd GOp.ct (xs.take i) k).map GOp.enc++(xs.drop i).map GOp.enc)⟩)]) (fun _=>True) hl ?_
 simp only[go_sem]
 refine⟨?_,trivial,?_,?_⟩
 ·simp only[go_sem,List.take_zero,List.drop_zero,K29,K1v]
  all_goals simp
 ·intro i x hx _ h0 h1 hw
  have hR:=K2o (mk:=GOp.mkd) (c:=GOp.ct) (k:=k) (f:=GOp.enc) hx
  have hA:=K2n (mk:=GOp.mkd) (c:=GOp.ct) (k:=k) (f:=GOp.enc) hx
  generalize hAe:(mkL GOp.mkd GOp.ct (xs.take i) k).map GOp.enc=A at hR hA
  generalize hBe:(xs.drop (i+1)).map GOp.enc=B at hR hA
  obtain⟨hg,hs,hl,hd⟩:=hA
  have hc:=Kv (c:=GOp.ct) (i+1) (l:=xs)
  rw[Kj hx]at hc
  have hK0:0≤k+((ctL GOp.ct (xs.take i):Nat):Int):=by omega
  have hK1:k+((ctL GOp.ct (xs.take i):Nat):Int)+(GOp.ct x:Nat)≤4611686018427387904:=by omega
  generalize hK:k+((ctL GOp.ct (xs.take i):Nat):Int)=K at hK0 hK1
  simp only[GOp.ct]at hK1
  simp only[go_sem,hw,hR,hg,hs,hl,h0,h1,waK (K:=K+1) (K':=K+1) (by omega) (by omega) (by omega),waK (K:=K+1+1) (K':=K+2) (by omega) (by omega) (by omega),waK (K:=K+2+1) (K':=K+3) (by omega) (by omega) (by omega),waK (K:=K+3+1) (K':=K+4) (by omega) (by omega) (by omega)]
  subst hK hAe hBe
  refine⟨?_,K1y hx⟩
  rw[Kj hx]
  simp only[GOp.ct]
  omega
 ·intro _
  simp only[go_sem,List.take_length,List.drop_length,List.map_nil,List.append_nil,K9]
def GState.mkd(x:GState)(k:Int):GState:=⟨k,(mkL iMk iCt x.Regs (k+1)),(mkL iMk iCt x.Slots ((k+1)+(ctL iCt x.Regs:Nat))),(mkL iMk iCt x.Nodes (((k+1)+(ctL iCt x.Regs:Nat))+(ctL iCt x.Slots:Nat)))⟩
def GState.ct(x:GState):Nat:=1+ctL iCt x.Regs+ctL iCt x.Slots+ctL iCt x.Nodes
theorem GState.ct_le(x:GState):x.ct≤16*(1+x.size):=by
 simp only[GState.ct,GState.size]
 have h0:=ctL_le' (c:=iCt) (fun y=>by simp only[iCt];omega) x.Regs
 have h1:=ctL_le' (c:=iCt) (fun y=>by simp only[iCt];omega) x.Slots
 have h2:=ctL_le' (c:=iCt) (fun y=>by simp only[iCt];omega) x.Nodes
 omega
def GState.mks(x:GState)(k:Int):GState:={x with Regs:=mkL iMk iCt x.Regs (k),Slots:=mkL iMk iCt x.Slots (k+(ctL iCt x.Regs:Nat)),Nodes:=mkL iMk iCt x.Nodes (k+(ctL iCt x.Regs:Nat)+(ctL iCt x.Slots:Nat))}
def GState.cts(x:GState):Nat:=ctL iCt x.Regs+ctL iCt x.Slots+ctL iCt x.Nodes
theorem GState.cts_le(x:GState):x.cts≤16*x.size:=by
 simp only[GState.cts,GState.size]
 have hRegs:=ctL_le' (c:=iCt) (fun y=>by simp only[iCt];omega) x.Regs
 have hSlots:=ctL_le' (c:=iCt) (fun y=>by simp only[iCt];omega) x.Slots
 have hNodes:=ctL_le' (c:=iCt) (fun y=>by simp only[iCt];omega) x.Nodes
 omega
@[go_sem] theorem GState.mks_len0 (x:GState) (k:Int):((x.mks k).Regs).length=x.Regs.length:=K9
@[go_sem] theorem GState.mks_len1 (x:GState) (k:Int):((x.mks k).Slots).length=x.Slots.length:=K9
@[go_sem] theorem GState.mks_len2 (x:GState) (k:Int):((x.mks k).Nodes).length=x.Nodes.length:=K9
def GWant.mkd(x:GWant)(k:Int):GWant:=⟨k,⟨(k+1),(k+2),(k+3)⟩⟩
def GWant.ct(x:GWant):Nat:=4
def GEntry.mkd(x:GEntry)(k:Int):GEntry:=⟨k,⟨(k+1),(k+2),(k+3)⟩,(k+4)⟩
def GEntry.ct(x:GEntry):Nat:=5
def M44:MC:=
(Zs [.mv 4 (ci 0)] [0,1] (.seq (Zs [.mv 5 (ci 0)] [0,1,5] (.block 0 (.loop ([0,1,5],[]) (.seq (Zs [mS 6 5,mS 7 0,nS 8 7,bS 9 .lss 6 8] [0,1,5,9] (cX 9 0))
(.seq (.block 1 (Zs [mS 12 0,mS 13 5,mS 14 1,xS 15 5 12 13,fS 16 15 0,sS 1 16 14] [0,1,5] (Zs [mS 17 1,bC 18 .add 17 1,mS 1 18] [0,1,5] (Zs [mS 19 0,mS 20 5,mS 21 1,xS 22 5 19 20,fS 23 22 1,fS 24 23 0,sS 1 24 21] [0,1,5] (Zs [mS 25 1,bC 26 .add 25 1,mS 1 26] [0,1,5] (Zs [mS 27 0,mS 28 5,mS 29 1,xS 30 5 27 28,fS 31 30 1,fS 32 31 1,sS 1 32 29] [0,1,5] (Zs [mS 33 1,bC 34 .add 33 1,mS 1 34] [0,1,5] (Zs [mS 35 0,mS 36 5,mS 37 1,xS 38 5 35 36,fS 39 38 1,fS 40 39 2,sS 1 40 37] [0,1,5] (Zs [mS 41 1,bC 42 .add 41 1,mS 1 42] [0,1,5] (Zs [mS 43 0,mS 44 5,mS 45 1,xS 46 5 43 44,fS 47 46 4,sS 1 47 45] [0,1,5] (pr [mS 48 1,bC 49 .add 48 1,mS 1 49] [0,1,5])))))))))))
(pr [mS 10 5,bC 11 .add 10 1,mS 5 11] [0,1,5]))))))
(Zs [mS 50 1,mS 4 50] [4] .ret)))
theorem C9a(xs:List GEntry)(k:Int)(hk:0≤k)(hN:k+(ctL GEntry.ct xs:Nat)≤4611686018427387904):CtrI Tryz.prog N4m [oL 5 (xs.map GEntry.enc),iI k] [some (5,(mkL GEntry.mkd GEntry.ct xs k).map GEntry.enc)] [rI (k+(ctL GEntry.ct xs:Nat))]:=by
 refine Kw (M:=M44) (m:=0) (n:=51) (res:=[(.tmp 4,[false])]) hmix Tryz.func167 rfl (by kernel_rfl) rfl (by kernel_rfl) (by kernel_rfl) (Nat.le_of_ble_eq_true rfl) rfl rfl ?_;unfold M44
 intro hb
 have hl:=Ku hb
 clear hb
 simp only[go_sem]
 refine K5 xs (fun i=>[(1,vI (k+(ctL GEntry.ct (xs.take i):Nat))),(5,vI i)]) (fun i=>[(0,⟨1,.row true 5 ((mkL GEntry.mkd GEntry.ct (xs.take i) k).map GEntry.enc++(xs.drop i).map GEntry.enc)⟩)]) (fun _=>True) hl ?_
 simp only[go_sem]
 refine⟨?_,trivial,?_,?_⟩
 ·simp only[go_sem,List.take_zero,List.drop_zero,K29,K1v]
  all_goals simp
 ·intro i x hx _ h0 h1 hw
  have hR:=K2o (mk:=GEntry.mkd) (c:=GEntry.ct) (k:=k) (f:=GEntry.enc) hx
  have hA:=K2n (mk:=GEntry.mkd) (c:=GEntry.ct) (k:=k) (f:=GEntry.enc) hx
  generalize hAe:(mkL GEntry.mkd GEntry.ct (xs.take i) k).map GEntry.enc=A at hR hA
  generalize hBe:(xs.drop (i+1)).map GEntry.enc=B at hR hA
  obtain⟨hg,hs,hl,hd⟩:=hA
  have hc:=Kv (c:=GEntry.ct) (i+1) (l:=xs)
  rw[Kj hx]at hc
  have hK0:0≤k+((ctL GEntry.ct (xs.take i):Nat):Int):=by omega
  have hK1:k+((ctL GEntry.ct (xs.take i):Nat):Int)+(GEntry.ct x:Nat)≤4611686018427387904:=by omega
  generalize hK:k+((ctL GEntry.ct (xs.take i):Nat):Int)=K at hK0 hK1
  simp only[GEntry.ct]at hK1
  simp only[go_sem,hw,hR,hg,hs,hl,h0,h1,waK (K:=K+1) (K':=K+1) (by omega) (by omega) (by omega),waK (K:=K+1+1) (K':=K+2) (by omega) (by omega) (by omega),waK (K:=K+2+1) (K':=K+3) (by omega) (by omega) (by omega),waK (K:=K+3+1) (K':=K+4) (by omega) (by omega) (by omega),waK (K:=K+4+1) (K':=K+5) (by omega) (by omega) (by omega)]
  subst hK hAe hBe
  refine⟨?_,K1y hx⟩
  rw[Kj hx]
  simp only[GEntry.ct]
  omega
 ·intro _
  simp only[go_sem,List.take_length,List.drop_length,List.map_nil,List.append_nil,K9]
def GCapture.mkd(x:GCapture)(k:Int):GCapture:=⟨⟨k,(k+1),(k+2)⟩,(k+3),⟨(k+4),(mkL iMk iCt x.Resource.Body (k+5)),⟨((k+5)+(ctL iCt x.Resource.Body:Nat)),(((k+5)+(ctL iCt x.Resource.Body:Nat))+1),(((k+5)+(ctL iCt x.Resource.Body:Nat))+2)⟩⟩⟩
def GCapture.ct(x:GCapture):Nat:=8+ctL iCt x.Resource.Body
theorem GCapture.ct_le(x:GCapture):x.ct≤16*(1+x.size):=by
 simp only[GCapture.ct,GCapture.size,GResource.size]
 have h0:=ctL_le' (c:=iCt) (fun y=>by simp only[iCt];omega) x.Resource.Body
 omega
def M2c:MC:=Y15
theorem C8c(xs:List GCapture)(k:Int)(hk:0≤k)(hN:k+(ctL GCapture.ct xs:Nat)≤4611686018427387904):CtrI Tryz.prog N2s [oL 9 (xs.map GCapture.enc),iI k] [some (9,(mkL GCapture.mkd GCapture.ct xs k).map GCapture.enc)] [rI (k+(ctL GCapture.ct xs:Nat))]:=by
 refine Kw (M:=M2c) (m:=1) (n:=87) (res:=[(.tmp 4,[false])]) hmix Tryz.func168 rfl (by kernel_rfl) rfl (by kernel_rfl) (by kernel_rfl) (Nat.le_of_ble_eq_true rfl) rfl rfl ?_;unfold M2c
 intro hb
 have hl:=Ku hb
 clear hb
 simp only[go_sem]
 refine K5 xs (fun i=>[(1,vI (k+(ctL GCapture.ct (xs.take i):Nat))),(5,vI i)]) (fun i=>[(0,⟨1,.row true 9 ((mkL GCapture.mkd GCapture.ct (xs.take i) k).map GCapture.enc++(xs.drop i).map GCapture.enc)⟩)]) (fun _=>True) hl ?_
 simp only[go_sem]
 refine⟨?_,trivial,?_,?_⟩
 ·simp only[go_sem,List.take_zero,List.drop_zero,K29,K1v]
  all_goals simp
 ·intro i x hx _ h0 h1 hw
  have hR:=K2o (mk:=GCapture.mkd) (c:=GCapture.ct) (k:=k) (f:=GCapture.enc) hx
  have hA:=K2n (mk:=GCapture.mkd) (c:=GCapture.ct) (k:=k) (f:=GCapture.enc) hx
  generalize hAe:(mkL GCapture.mkd GCapture.ct (xs.take i) k).map GCapture.enc=A at hR hA
  generalize hBe:(xs.drop (i+1)).map GCapture.enc=B at hR hA
  obtain⟨hg,hs,hl,hd⟩:=hA
  have hc:=Kv (c:=GCapture.ct) (i+1) (l:=xs)
  rw[Kj hx]at hc
  have hK0:0≤k+((ctL GCapture.ct (xs.take i):Nat):Int):=by omega
  have hK1:k+((ctL GCapture.ct (xs.take i):Nat):Int)+(GCapture.ct x:Nat)≤4611686018427387904:=by omega
  generalize hK:k+((ctL GCapture.ct (xs.take i):Nat):Int)=K at hK0 hK1
  simp only[GCapture.ct]at hK1
  simp only[go_sem,hR,hg,hs,hl,h0,h1,waK (K:=K+1) (K':=K+1) (by omega) (by omega) (by omega),waK (K:=K+1+1) (K':=K+2) (by omega) (by omega) (by omega),waK (K:=K+2+1) (K':=K+3) (by omega) (by omega) (by omega),waK (K:=K+3+1) (K':=K+4) (by omega) (by omega) (by omega),waK (K:=K+4+1) (K':=K+5) (by omega) (by omega) (by omega)]
  refine K8 (Cv x.Resource.Body (K+5) (by omega) (by omega)) ?_
  have hK1:0≤K+5+(ctL iCt x.Resource.Body:Nat):=by omega
  generalize eK1:K+5+((ctL iCt x.Resource.Body:Nat):Int)=K1 at hK1
  simp only[go_sem,hw,hg,hs,hl,hd,h0,h1,waK (K:=K1+1) (K':=K1+1) (by omega) (by omega) (by omega),waK (K:=K1+1+1) (K':=K1+2) (by omega) (by omega) (by omega),waK (K:=K1+2+1) (K':=K1+3) (by omega) (by omega) (by omega)]
  subst eK1
  subst hK hAe hBe
  refine⟨?_,K1y hx⟩
  rw[Kj hx]
  simp only[GCapture.ct]
  omega
 ·intro _
  simp only[go_sem,List.take_length,List.drop_length,List.map_nil,List.append_nil,K9]
def GCapture.mks(x:GCapture)(k:Int):GCapture:={x with Resource:=x.Resource.mks (k)}
def GCapture.cts(x:GCapture):Nat:=x.Resource.cts
theorem GCapture.cts_le(x:GCapture):x.cts≤16*x.size:=by
 simp only[GCapture.cts,GCapture.size]
 have hResource:=GResource.cts_le x.Resource
 omega
@[go_sem] theorem GCapture.mks_len0 (x:GCapture) (k:Int):((x.mks k).Resource.Body).length=x.Resource.Body.length:=K9
def GChoice.mkd(x:GChoice)(k:Int):GChoice:=⟨k,(k+1)⟩
def GChoice.ct(x:GChoice):Nat:=2
def GWander.mks(x:GWander)(k:Int):GWander:={x with State:=x.State.mks (k),Choices:=mkL GChoice.mkd GChoice.ct x.Choices (k+(x.State.cts:Nat)),Labels:=mkL iMk iCt x.Labels (k+(x.State.cts:Nat)+(ctL GChoice.ct x.Choices:Nat))}
def GWander.cts(x:GWander):Nat:=x.State.cts+ctL GChoice.ct x.Choices+ctL iCt x.Labels
theorem GWander.cts_le(x:GWander):x.cts≤16*x.size:=by
 simp only[GWander.cts,GWander.size]
 have hState:=GState.cts_le x.State
 have hChoices:=ctL_le' (c:=GChoice.ct) (fun y=>by simp only[GChoice.ct];omega) x.Choices
 have hLabels:=ctL_le' (c:=iCt) (fun y=>by simp only[iCt];omega) x.Labels
 omega
@[go_sem] theorem GWander.mks_len0 (x:GWander) (k:Int):((x.mks k).State.Regs).length=x.State.Regs.length:=K9
@[go_sem] theorem GWander.mks_len1 (x:GWander) (k:Int):((x.mks k).State.Slots).length=x.State.Slots.length:=K9
@[go_sem] theorem GWander.mks_len2 (x:GWander) (k:Int):((x.mks k).State.Nodes).length=x.State.Nodes.length:=K9
@[go_sem] theorem GWander.mks_len3 (x:GWander) (k:Int):((x.mks k).Choices).length=x.Choices.length:=K9
@[go_sem] theorem GWander.mks_len4 (x:GWander) (k:Int):((x.mks k).Labels).length=x.Labels.length:=K9
def GModel.mkd(x:GModel)(k:Int):GModel:=⟨k,(k+1),(k+2),(bMk x.Fits (k+3))⟩
def GModel.ct(x:GModel):Nat:=4
def GShown.mkd(x:GShown)(k:Int):GShown:=⟨k,⟨(k+1),(k+2),(k+3)⟩⟩
def GShown.ct(x:GShown):Nat:=4
def GLeaf.mkd(x:GLeaf)(k:Int):GLeaf:=⟨k,(k+1),(bMk x.Hidden (k+2)),(k+3)⟩
def GLeaf.ct(x:GLeaf):Nat:=4
def GEdition.mks(x:GEdition)(k:Int):GEdition:={x with Captures:=mkL GCapture.mkd GCapture.ct x.Captures (k),Hidden:=mkL GAddress.mkd GAddress.ct x.Hidden (k+(ctL GCapture.ct x.Captures:Nat))}
def GEdition.cts(x:GEdition):Nat:=ctL GCapture.ct x.Captures+ctL GAddress.ct x.Hidden
theorem GEdition.cts_le(x:GEdition):x.cts≤16*x.size:=by
 simp only[GEdition.cts,GEdition.size]
 have hCaptures:=K3d (c:=GCapture.ct) (s:=GCapture.size) GCapture.ct_le x.Captures
 have hHidden:=ctL_le' (c:=GAddress.ct) (fun y=>by simp only[GAddress.ct];omega) x.Hidden
 omega
@[go_sem] theorem GEdition.mks_len0 (x:GEdition) (k:Int):((x.mks k).Captures).length=x.Captures.length:=K9
@[go_sem] theorem GEdition.mks_len1 (x:GEdition) (k:Int):((x.mks k).Hidden).length=x.Hidden.length:=K9
def GExclusion.mkd(x:GExclusion)(k:Int):GExclusion:=⟨k,(k+1),(k+2),(k+3),(k+4)⟩
def GExclusion.ct(x:GExclusion):Nat:=5
def M1q:MC:=
(Zs [.mv 4 (ci 0)] [0,1] (.seq (Zs [.mv 5 (ci 0)] [0,1,5] (.block 0 (.loop ([0,1,5],[]) (.seq (Zs [mS 6 5,mS 7 0,nS 8 7,bS 9 .lss 6 8] [0,1,5,9] (cX 9 0))
(.seq (.block 1 (Zs [mS 12 0,mS 13 5,mS 14 1,xS 15 5 12 13,fS 16 15 0,sS 1 16 14] [0,1,5] (Zs [mS 17 1,bC 18 .add 17 1,mS 1 18] [0,1,5] (Zs [mS 19 0,mS 20 5,mS 21 1,xS 22 5 19 20,fS 23 22 1,sS 1 23 21] [0,1,5] (Zs [mS 24 1,bC 25 .add 24 1,mS 1 25] [0,1,5] (Zs [mS 26 0,mS 27 5,mS 28 1,xS 29 5 26 27,fS 30 29 2,sS 1 30 28] [0,1,5] (Zs [mS 31 1,bC 32 .add 31 1,mS 1 32] [0,1,5] (Zs [mS 33 0,mS 34 5,mS 35 1,xS 36 5 33 34,fS 37 36 3,sS 1 37 35] [0,1,5] (Zs [mS 38 1,bC 39 .add 38 1,mS 1 39] [0,1,5] (Zs [mS 40 0,mS 41 5,mS 42 1,xS 43 5 40 41,fS 44 43 4,sS 1 44 42] [0,1,5] (pr [mS 45 1,bC 46 .add 45 1,mS 1 46] [0,1,5])))))))))))
(pr [mS 10 5,bC 11 .add 10 1,mS 5 11] [0,1,5]))))))
(Zs [mS 47 1,mS 4 47] [4] .ret)))
theorem C6u(xs:List GExclusion)(k:Int)(hk:0≤k)(hN:k+(ctL GExclusion.ct xs:Nat)≤4611686018427387904):CtrI Tryz.prog N1s [oL 5 (xs.map GExclusion.enc),iI k] [some (5,(mkL GExclusion.mkd GExclusion.ct xs k).map GExclusion.enc)] [rI (k+(ctL GExclusion.ct xs:Nat))]:=by
 refine Kw (M:=M1q) (m:=0) (n:=48) (res:=[(.tmp 4,[false])]) hmix Tryz.func57 rfl (by kernel_rfl) rfl (by kernel_rfl) (by kernel_rfl) (Nat.le_of_ble_eq_true rfl) rfl rfl ?_;unfold M1q
 intro hb
 have hl:=Ku hb
 clear hb
 simp only[go_sem]
 refine K5 xs (fun i=>[(1,vI (k+(ctL GExclusion.ct (xs.take i):Nat))),(5,vI i)]) (fun i=>[(0,⟨1,.row true 5 ((mkL GExclusion.mkd GExclusion.ct (xs.take i) k).map GExclusion.enc++(xs.drop i).map GExclusion.enc)⟩)]) (fun _=>True) hl ?_
 simp only[go_sem]
 refine⟨?_,trivial,?_,?_⟩
 ·simp only[go_sem,List.take_zero,List.drop_zero,K29,K1v]
  all_goals simp
 ·intro i x hx _ h0 h1 hw
  have hR:=K2o (mk:=GExclusion.mkd) (c:=GExclusion.ct) (k:=k) (f:=GExclusion.enc) hx
  have hA:=K2n (mk:=GExclusion.mkd) (c:=GExclusion.ct) (k:=k) (f:=GExclusion.enc) hx
  generalize hAe:(mkL GExclusion.mkd GExclusion.ct (xs.take i) k).map GExclusion.enc=A at hR hA
  generalize hBe:(xs.drop (i+1)).map GExclusion.enc=B at hR hA
  obtain⟨hg,hs,hl,hd⟩:=hA
  have hc:=Kv (c:=GExclusion.ct) (i+1) (l:=xs)
  rw[Kj hx]at hc
  have hK0:0≤k+((ctL GExclusion.ct (xs.take i):Nat):Int):=by omega
  have hK1:k+((ctL GExclusion.ct (xs.take i):Nat):Int)+(GExclusion.ct x:Nat)≤4611686018427387904:=by omega
  generalize hK:k+((ctL GExclusion.ct (xs.take i):Nat):Int)=K at hK0 hK1
  simp only[GExclusion.ct]at hK1
  simp only[go_sem,hw,hR,hg,hs,hl,h0,h1,waK (K:=K+1) (K':=K+1) (by omega) (by omega) (by omega),waK (K:=K+1+1) (K':=K+2) (by omega) (by omega) (by omega),waK (K:=K+2+1) (K':=K+3) (by omega) (by omega) (by omega),waK (K:=K+3+1) (K':=K+4) (by omega) (by omega) (by omega),waK (K:=K+4+1) (K':=K+5) (by omega) (by omega) (by omega)]
  subst hK hAe hBe
  refine⟨?_,K1y hx⟩
  rw[Kj hx]
  simp only[GExclusion.ct]
  omega
 ·intro _
  simp only[go_sem,List.take_length,List.drop_length,List.map_nil,List.append_nil,K9]
def GStatement.mkd(x:GStatement)(k:Int):GStatement:=⟨k,(k+1),(k+2),(k+3)⟩
def GStatement.ct(x:GStatement):Nat:=4
def M1r:MC:=Y16
theorem C6w(xs:List GStatement)(k:Int)(hk:0≤k)(hN:k+(ctL GStatement.ct xs:Nat)≤4611686018427387904):CtrI Tryz.prog N1t [oL 4 (xs.map GStatement.enc),iI k] [some (4,(mkL GStatement.mkd GStatement.ct xs k).map GStatement.enc)] [rI (k+(ctL GStatement.ct xs:Nat))]:=by
 refine Kw (M:=M1r) (m:=0) (n:=41) (res:=[(.tmp 4,[false])]) hmix Tryz.func59 rfl (by kernel_rfl) rfl (by kernel_rfl) (by kernel_rfl) (Nat.le_of_ble_eq_true rfl) rfl rfl ?_;unfold M1r
 intro hb
 have hl:=Ku hb
 clear hb
 simp only[go_sem]
 refine K5 xs (fun i=>[(1,vI (k+(ctL GStatement.ct (xs.take i):Nat))),(5,vI i)]) (fun i=>[(0,⟨1,.row true 4 ((mkL GStatement.mkd GStatement.ct (xs.take i) k).map GStatement.enc++(xs.drop i).map GStatement.enc)⟩)]) (fun _=>True) hl ?_
 simp only[go_sem]
 refine⟨?_,trivial,?_,?_⟩
 ·simp only[go_sem,List.take_zero,List.drop_zero,K29,K1v]
  all_goals simp
 ·intro i x hx _ h0 h1 hw
  have hR:=K2o (mk:=GStatement.mkd) (c:=GStatement.ct) (k:=k) (f:=GStatement.enc) hx
  have hA:=K2n (mk:=GStatement.mkd) (c:=GStatement.ct) (k:=k) (f:=GStatement.enc) hx
  generalize hAe:(mkL GStatement.mkd GStatement.ct (xs.take i) k).map GStatement.enc=A at hR hA
  generalize hBe:(xs.drop (i+1)).map GStatement.enc=B at hR hA
  obtain⟨hg,hs,hl,hd⟩:=hA
  have hc:=Kv (c:=GStatement.ct) (i+1) (l:=xs)
  rw[Kj hx]at hc
  have hK0:0≤k+((ctL GStatement.ct (xs.take i):Nat):Int):=by omega
  have hK1:k+((ctL GStatement.ct (xs.take i):Nat):Int)+(GStatement.ct x:Nat)≤4611686018427387904:=by omega
  generalize hK:k+((ctL GStatement.ct (xs.take i):Nat):Int)=K at hK0 hK1
  simp only[GStatement.ct]at hK1
  simp only[go_sem,hw,hR,hg,hs,hl,h0,h1,waK (K:=K+1) (K':=K+1) (by omega) (by omega) (by omega),waK (K:=K+1+1) (K':=K+2) (by omega) (by omega) (by omega),waK (K:=K+2+1) (K':=K+3) (by omega) (by omega) (by omega),waK (K:=K+3+1) (K':=K+4) (by omega) (by omega) (by omega)]
  subst hK hAe hBe
  refine⟨?_,K1y hx⟩
  rw[Kj hx]
  simp only[GStatement.ct]
  omega
 ·intro _
  simp only[go_sem,List.take_length,List.drop_length,List.map_nil,List.append_nil,K9]
def GLibrary.mkd(x:GLibrary)(k:Int):GLibrary:=⟨k,(mkL iMk iCt x.Digests (k+1)),(bMk x.Up ((k+1)+(ctL iCt x.Digests:Nat))),(bMk x.Lies (((k+1)+(ctL iCt x.Digests:Nat))+1))⟩
def GLibrary.ct(x:GLibrary):Nat:=3+ctL iCt x.Digests
theorem GLibrary.ct_le(x:GLibrary):x.ct≤16*(1+x.size):=by
 simp only[GLibrary.ct,GLibrary.size]
 have h0:=ctL_le' (c:=iCt) (fun y=>by simp only[iCt];omega) x.Digests
 omega
def M2d:MC:=
(Zs [.mv 4 (ci 0)] [0,1] (.seq (Zs [.mv 5 (ci 0)] [0,1,5] (.block 0 (.loop ([0,1,5],[1]) (.seq (Zs [mS 6 5,mS 7 0,nS 8 7,bS 9 .lss 6 8] [0,1,5,9] (cX 9 0))
(.seq (.block 1 (Zs [mS 12 0,mS 13 5,mS 14 1,xS 15 4 12 13,fS 16 15 0,sS 1 16 14] [0,1,5] (Zs [mS 17 1,bC 18 .add 17 1,mS 1 18] [0,1,5] (Zs [mS 19 0,mS 20 5,xS 21 4 19 20,fS 22 21 1,.loadT 23 1 (.s 22),mS 24 1,.callI 25 [] (.f Nw) [.s 23,.s 24] [1] [0],mS 1 25] [0,1,5] (Zs [mS 26 0,mS 27 5,mS 28 1,bC 29 .rem 28 3,bC 30 .eql 29 0,xS 31 4 26 27,fS 32 31 2,sS 1 32 30] [0,1,5] (Zs [mS 33 1,bC 34 .add 33 1,mS 1 34] [0,1,5] (Zs [mS 35 0,mS 36 5,mS 37 1,bC 38 .rem 37 3,bC 39 .eql 38 0,xS 40 4 35 36,fS 41 40 3,sS 1 41 39] [0,1,5] (pr [mS 42 1,bC 43 .add 42 1,mS 1 43] [0,1,5]))))))))
(pr [mS 10 5,bC 11 .add 10 1,mS 5 11] [0,1,5]))))))
(Zs [mS 44 1,mS 4 44] [4] .ret)))
theorem C8d(xs:List GLibrary)(k:Int)(hk:0≤k)(hN:k+(ctL GLibrary.ct xs:Nat)≤4611686018427387904):CtrI Tryz.prog N2t [oL 4 (xs.map GLibrary.enc),iI k] [some (4,(mkL GLibrary.mkd GLibrary.ct xs k).map GLibrary.enc)] [rI (k+(ctL GLibrary.ct xs:Nat))]:=by
 refine Kw (M:=M2d) (m:=1) (n:=45) (res:=[(.tmp 4,[false])]) hmix Tryz.func58 rfl (by kernel_rfl) rfl (by kernel_rfl) (by kernel_rfl) (Nat.le_of_ble_eq_true rfl) rfl rfl ?_;unfold M2d
 intro hb
 have hl:=Ku hb
 clear hb
 simp only[go_sem]
 refine K5 xs (fun i=>[(1,vI (k+(ctL GLibrary.ct (xs.take i):Nat))),(5,vI i)]) (fun i=>[(0,⟨1,.row true 4 ((mkL GLibrary.mkd GLibrary.ct (xs.take i) k).map GLibrary.enc++(xs.drop i).map GLibrary.enc)⟩)]) (fun _=>True) hl ?_
 simp only[go_sem]
 refine⟨?_,trivial,?_,?_⟩
 ·simp only[go_sem,List.take_zero,List.drop_zero,K29,K1v]
  all_goals simp
 ·intro i x hx _ h0 h1 hw
  have hR:=K2o (mk:=GLibrary.mkd) (c:=GLibrary.ct) (k:=k) (f:=GLibrary.enc) hx
  have hA:=K2n (mk:=GLibrary.mkd) (c:=GLibrary.ct) (k:=k) (f:=GLibrary.enc) hx
  generalize hAe:(mkL GLibrary.mkd GLibrary.ct (xs.take i) k).map GLibrary.enc=A at hR hA
  generalize hBe:(xs.drop (i+1)).map GLibrary.enc=B at hR hA
  obtain⟨hg,hs,hl,hd⟩:=hA
  have hc:=Kv (c:=GLibrary.ct) (i+1) (l:=xs)
  rw[Kj hx]at hc
  have hK0:0≤k+((ctL GLibrary.ct (xs.take i):Nat):Int):=by omega
  have hK1:k+((ctL GLibrary.ct (xs.take i):Nat):Int)+(GLibrary.ct x:Nat)≤4611686018427387904:=by omega
  generalize hK:k+((ctL GLibrary.ct (xs.take i):Nat):Int)=K at hK0 hK1
  simp only[GLibrary.ct]at hK1
  simp only[go_sem,hR,hg,hs,hl,h0,h1,waK (K:=K+1) (K':=K+1) (by omega) (by omega) (by omega)]
  refine K8 (Cv x.Digests (K+1) (by omega) (by omega)) ?_
  have hK1:0≤K+1+(ctL iCt x.Digests:Nat):=by omega
  generalize eK1:K+1+((ctL iCt x.Digests:Nat):Int)=K1 at hK1
  simp only[go_sem,hw,hg,hs,hl,hd,h0,h1,three_ne,waK (K:=K1+1) (K':=K1+1) (by omega) (by omega) (by omega),waK (K:=K1+1+1) (K':=K1+2) (by omega) (by omega) (by omega)]
  subst eK1
  subst hK hAe hBe
  refine⟨?_,K1y hx⟩
  rw[Kj hx]
  simp only[GLibrary.ct]
  omega
 ·intro _
  simp only[go_sem,List.take_length,List.drop_length,List.map_nil,List.append_nil,K9]
def GLibrary.mks(x:GLibrary)(k:Int):GLibrary:={x with Digests:=mkL iMk iCt x.Digests (k)}
def GLibrary.cts(x:GLibrary):Nat:=ctL iCt x.Digests
theorem GLibrary.cts_le(x:GLibrary):x.cts≤16*x.size:=by
 simp only[GLibrary.cts,GLibrary.size]
 have hDigests:=ctL_le' (c:=iCt) (fun y=>by simp only[iCt];omega) x.Digests
 omega
@[go_sem] theorem GLibrary.mks_len0 (x:GLibrary) (k:Int):((x.mks k).Digests).length=x.Digests.length:=K9
def GContainer.mkd(x:GContainer)(k:Int):GContainer:=⟨(mkL GOp.mkd GOp.ct x.Script k),(mkL GEntry.mkd GEntry.ct x.Entries (k+(ctL GOp.ct x.Script:Nat))),(mkL GCapture.mkd GCapture.ct x.Captures ((k+(ctL GOp.ct x.Script:Nat))+(ctL GEntry.ct x.Entries:Nat))),(((k+(ctL GOp.ct x.Script:Nat))+(ctL GEntry.ct x.Entries:Nat))+(ctL GCapture.ct x.Captures:Nat))⟩
def GContainer.ct(x:GContainer):Nat:=1+ctL GOp.ct x.Script+ctL GEntry.ct x.Entries+ctL GCapture.ct x.Captures
theorem GContainer.ct_le(x:GContainer):x.ct≤16*(1+x.size):=by
 simp only[GContainer.ct,GContainer.size]
 have h0:=ctL_le' (c:=GOp.ct) (fun y=>by simp only[GOp.ct];omega) x.Script
 have h1:=ctL_le' (c:=GEntry.ct) (fun y=>by simp only[GEntry.ct];omega) x.Entries
 have h2:=K3d (c:=GCapture.ct) (s:=GCapture.size) GCapture.ct_le x.Captures
 omega
def M1p:MC:=
(Zs [.mv 4 (ci 0)] [0,1] (.seq (Zs [.mv 5 (ci 0)] [0,1,5] (.block 0 (.loop ([0,1,5],[1,2,3]) (.seq (Zs [mS 6 5,mS 7 0,nS 8 7,bS 9 .lss 6 8] [0,1,5,9] (cX 9 0))
(.seq (.block 1 (Zs [mS 12 0,mS 13 5,xS 14 4 12 13,fS 15 14 0,.loadT 16 1 (.s 15),mS 17 1,.callI 18 [] (.f N34) [.s 16,.s 17] [1] [0],mS 1 18] [0,1,5] (Zs [mS 19 0,mS 20 5,xS 21 4 19 20,fS 22 21 1,.loadT 23 2 (.s 22),mS 24 1,.callI 25 [] (.f N4m) [.s 23,.s 24] [2] [0],mS 1 25] [0,1,5] (Zs [mS 26 0,mS 27 5,xS 28 4 26 27,fS 29 28 2,.loadT 30 3 (.s 29),mS 31 1,.callI 32 [] (.f N2s) [.s 30,.s 31] [3] [0],mS 1 32] [0,1,5] (Zs [mS 33 0,mS 34 5,mS 35 1,xS 36 4 33 34,fS 37 36 3,sS 1 37 35] [0,1,5] (pr [mS 38 1,bC 39 .add 38 1,mS 1 39] [0,1,5]))))))
(pr [mS 10 5,bC 11 .add 10 1,mS 5 11] [0,1,5]))))))
(Zs [mS 40 1,mS 4 40] [4] .ret)))
theorem C1n(xs:List GContainer)(k:Int)(hk:0≤k)(hN:k+(ctL GContainer.ct xs:Nat)≤4611686018427387904):CtrI Tryz.prog N10 [oL 4 (xs.map GContainer.enc),iI k] [some (4,(mkL GContainer.mkd GContainer.ct xs k).map GContainer.enc)] [rI (k+(ctL GContainer.ct xs:Nat))]:=by
 refine Kw (M:=M1p) (m:=3) (n:=41) (res:=[(.tmp 4,[false])]) hmix Tryz.func111 rfl (by kernel_rfl) rfl (by kernel_rfl) (by kernel_rfl) (Nat.le_of_ble_eq_true rfl) rfl rfl ?_;unfold M1p
 intro hb
 have hl:=Ku hb
 clear hb
 simp only[go_sem]
 refine K5 xs (fun i=>[(1,vI (k+(ctL GContainer.ct (xs.take i):Nat))),(5,vI i)]) (fun i=>[(0,⟨1,.row true 4 ((mkL GContainer.mkd GContainer.ct (xs.take i) k).map GContainer.enc++(xs.drop i).map GContainer.enc)⟩)]) (fun _=>True) hl ?_
 simp only[go_sem]
 refine⟨?_,trivial,?_,?_⟩
 ·simp only[go_sem,List.take_zero,List.drop_zero,K29,K1v]
  all_goals simp
 ·intro i x hx _ h0 h1 hw
  have hR:=K2o (mk:=GContainer.mkd) (c:=GContainer.ct) (k:=k) (f:=GContainer.enc) hx
  have hA:=K2n (mk:=GContainer.mkd) (c:=GContainer.ct) (k:=k) (f:=GContainer.enc) hx
  generalize hAe:(mkL GContainer.mkd GContainer.ct (xs.take i) k).map GContainer.enc=A at hR hA
  generalize hBe:(xs.drop (i+1)).map GContainer.enc=B at hR hA
  obtain⟨hg,hs,hl,hd⟩:=hA
  have hc:=Kv (c:=GContainer.ct) (i+1) (l:=xs)
  rw[Kj hx]at hc
  have hK0:0≤k+((ctL GContainer.ct (xs.take i):Nat):Int):=by omega
  have hK1:k+((ctL GContainer.ct (xs.take i):Nat):Int)+(GContainer.ct x:Nat)≤4611686018427387904:=by omega
  generalize hK:k+((ctL GContainer.ct (xs.take i):Nat):Int)=K at hK0 hK1
  simp only[GContainer.ct]at hK1
  simp only[go_sem,hR,hg,hl,h0,h1]
  refine K8 (C6v x.Script K (by omega) (by omega)) ?_
  have hK1:0≤K+(ctL GOp.ct x.Script:Nat):=by omega
  generalize eK1:K+((ctL GOp.ct x.Script:Nat):Int)=K1 at hK1
  simp only[go_sem,hg,hs,hl,hd,h0,h1]
  refine K8 (C9a x.Entries K1 (by omega) (by omega)) ?_
  have hK2:0≤K1+(ctL GEntry.ct x.Entries:Nat):=by omega
  generalize eK2:K1+((ctL GEntry.ct x.Entries:Nat):Int)=K2 at hK2
  simp only[go_sem,hg,hs,hl,hd,h0,h1]
  refine K8 (C8c x.Captures K2 (by omega) (by omega)) ?_
  have hK3:0≤K2+(ctL GCapture.ct x.Captures:Nat):=by omega
  generalize eK3:K2+((ctL GCapture.ct x.Captures:Nat):Int)=K3 at hK3
  simp only[go_sem,hw,hg,hs,hl,hd,h0,h1,waK (K:=K3+1) (K':=K3+1) (by omega) (by omega) (by omega)]
  subst eK3
  subst eK2
  subst eK1
  subst hK hAe hBe
  refine⟨?_,K1y hx⟩
  rw[Kj hx]
  simp only[GContainer.ct]
  omega
 ·intro _
  simp only[go_sem,List.take_length,List.drop_length,List.map_nil,List.append_nil,K9]
def GContainer.mks(x:GContainer)(k:Int):GContainer:={x with Script:=mkL GOp.mkd GOp.ct x.Script (k),Entries:=mkL GEntry.mkd GEntry.ct x.Entries (k+(ctL GOp.ct x.Script:Nat)),Captures:=mkL GCapture.mkd GCapture.ct x.Captures (k+(ctL GOp.ct x.Script:Nat)+(ctL GEntry.ct x.Entries:Nat))}
def GContainer.cts(x:GContainer):Nat:=ctL GOp.ct x.Script+ctL GEntry.ct x.Entries+ctL GCapture.ct x.Captures
theorem GContainer.cts_le(x:GContainer):x.cts≤16*x.size:=by
 simp only[GContainer.cts,GContainer.size]
 have hScript:=ctL_le' (c:=GOp.ct) (fun y=>by simp only[GOp.ct];omega) x.Script
 have hEntries:=ctL_le' (c:=GEntry.ct) (fun y=>by simp only[GEntry.ct];omega) x.Entries
 have hCaptures:=K3d (c:=GCapture.ct) (s:=GCapture.size) GCapture.ct_le x.Captures
 omega
@[go_sem] theorem GContainer.mks_len0 (x:GContainer) (k:Int):((x.mks k).Script).length=x.Script.length:=K9
@[go_sem] theorem GContainer.mks_len1 (x:GContainer) (k:Int):((x.mks k).Entries).length=x.Entries.length:=K9
@[go_sem] theorem GContainer.mks_len2 (x:GContainer) (k:Int):((x.mks k).Captures).length=x.Captures.length:=K9
def GFound.mkd(x:GFound)(k:Int):GFound:=⟨⟨k,(k+1),(k+2)⟩,(k+3),(k+4),(k+5)⟩
def GFound.ct(x:GFound):Nat:=6
def M45:MC:=
(Zs [.mv 4 (ci 0)] [0,1] (.seq (Zs [.mv 5 (ci 0)] [0,1,5] (.block 0 (.loop ([0,1,5],[]) (.seq (Zs [mS 6 5,mS 7 0,nS 8 7,bS 9 .lss 6 8] [0,1,5,9] (cX 9 0))
(.seq (.block 1 (Zs [mS 12 0,mS 13 5,mS 14 1,xS 15 6 12 13,fS 16 15 0,fS 17 16 0,sS 1 17 14] [0,1,5] (Zs [mS 18 1,bC 19 .add 18 1,mS 1 19] [0,1,5] (Zs [mS 20 0,mS 21 5,mS 22 1,xS 23 6 20 21,fS 24 23 0,fS 25 24 1,sS 1 25 22] [0,1,5] (Zs [mS 26 1,bC 27 .add 26 1,mS 1 27] [0,1,5] (Zs [mS 28 0,mS 29 5,mS 30 1,xS 31 6 28 29,fS 32 31 0,fS 33 32 2,sS 1 33 30] [0,1,5] (Zs [mS 34 1,bC 35 .add 34 1,mS 1 35] [0,1,5] (Zs [mS 36 0,mS 37 5,mS 38 1,xS 39 6 36 37,fS 40 39 3,sS 1 40 38] [0,1,5] (Zs [mS 41 1,bC 42 .add 41 1,mS 1 42] [0,1,5] (Zs [mS 43 0,mS 44 5,mS 45 1,xS 46 6 43 44,fS 47 46 4,sS 1 47 45] [0,1,5] (Zs [mS 48 1,bC 49 .add 48 1,mS 1 49] [0,1,5] (Zs [mS 50 0,mS 51 5,mS 52 1,xS 53 6 50 51,fS 54 53 5,sS 1 54 52] [0,1,5] (pr [mS 55 1,bC 56 .add 55 1,mS 1 56] [0,1,5])))))))))))))
(pr [mS 10 5,bC 11 .add 10 1,mS 5 11] [0,1,5]))))))
(Zs [mS 57 1,mS 4 57] [4] .ret)))
theorem C9b(xs:List GFound)(k:Int)(hk:0≤k)(hN:k+(ctL GFound.ct xs:Nat)≤4611686018427387904):CtrI Tryz.prog N4n [oL 6 (xs.map GFound.enc),iI k] [some (6,(mkL GFound.mkd GFound.ct xs k).map GFound.enc)] [rI (k+(ctL GFound.ct xs:Nat))]:=by
 refine Kw (M:=M45) (m:=0) (n:=58) (res:=[(.tmp 4,[false])]) hmix Tryz.func112 rfl (by kernel_rfl) rfl (by kernel_rfl) (by kernel_rfl) (Nat.le_of_ble_eq_true rfl) rfl rfl ?_;unfold M45
 intro hb
 have hl:=Ku hb
 clear hb
 simp only[go_sem]
 refine K5 xs (fun i=>[(1,vI (k+(ctL GFound.ct (xs.take i):Nat))),(5,vI i)]) (fun i=>[(0,⟨1,.row true 6 ((mkL GFound.mkd GFound.ct (xs.take i) k).map GFound.enc++(xs.drop i).map GFound.enc)⟩)]) (fun _=>True) hl ?_
 simp only[go_sem]
 refine⟨?_,trivial,?_,?_⟩
 ·simp only[go_sem,List.take_zero,List.drop_zero,K29,K1v]
  all_goals simp
 ·intro i x hx _ h0 h1 hw
  have hR:=K2o (mk:=GFound.mkd) (c:=GFound.ct) (k:=k) (f:=GFound.enc) hx
  have hA:=K2n (mk:=GFound.mkd) (c:=GFound.ct) (k:=k) (f:=GFound.enc) hx
  generalize hAe:(mkL GFound.mkd GFound.ct (xs.take i) k).map GFound.enc=A at hR hA
  generalize hBe:(xs.drop (i+1)).map GFound.enc=B at hR hA
  obtain⟨hg,hs,hl,hd⟩:=hA
  have hc:=Kv (c:=GFound.ct) (i+1) (l:=xs)
  rw[Kj hx]at hc
  have hK0:0≤k+((ctL GFound.ct (xs.take i):Nat):Int):=by omega
  have hK1:k+((ctL GFound.ct (xs.take i):Nat):Int)+(GFound.ct x:Nat)≤4611686018427387904:=by omega
  generalize hK:k+((ctL GFound.ct (xs.take i):Nat):Int)=K at hK0 hK1
  simp only[GFound.ct]at hK1
  simp only[go_sem,hw,hR,hg,hs,hl,h0,h1,waK (K:=K+1) (K':=K+1) (by omega) (by omega) (by omega),waK (K:=K+1+1) (K':=K+2) (by omega) (by omega) (by omega),waK (K:=K+2+1) (K':=K+3) (by omega) (by omega) (by omega),waK (K:=K+3+1) (K':=K+4) (by omega) (by omega) (by omega),waK (K:=K+4+1) (K':=K+5) (by omega) (by omega) (by omega),waK (K:=K+5+1) (K':=K+6) (by omega) (by omega) (by omega)]
  subst hK hAe hBe
  refine⟨?_,K1y hx⟩
  rw[Kj hx]
  simp only[GFound.ct]
  omega
 ·intro _
  simp only[go_sem,List.take_length,List.drop_length,List.map_nil,List.append_nil,K9]
def GDisk.mks(x:GDisk)(k:Int):GDisk:={x with Containers:=mkL GContainer.mkd GContainer.ct x.Containers (k),Index:=mkL GFound.mkd GFound.ct x.Index (k+(ctL GContainer.ct x.Containers:Nat)),Wanted:=mkL GContainer.mkd GContainer.ct x.Wanted (k+(ctL GContainer.ct x.Containers:Nat)+(ctL GFound.ct x.Index:Nat))}
def GDisk.cts(x:GDisk):Nat:=ctL GContainer.ct x.Containers+ctL GFound.ct x.Index+ctL GContainer.ct x.Wanted
theorem GDisk.cts_le(x:GDisk):x.cts≤16*x.size:=by
 simp only[GDisk.cts,GDisk.size]
 have hContainers:=K3d (c:=GContainer.ct) (s:=GContainer.size) GContainer.ct_le x.Containers
 have hIndex:=ctL_le' (c:=GFound.ct) (fun y=>by simp only[GFound.ct];omega) x.Index
 have hWanted:=K3d (c:=GContainer.ct) (s:=GContainer.size) GContainer.ct_le x.Wanted
 omega
@[go_sem] theorem GDisk.mks_len0 (x:GDisk) (k:Int):((x.mks k).Containers).length=x.Containers.length:=K9
@[go_sem] theorem GDisk.mks_len1 (x:GDisk) (k:Int):((x.mks k).Index).length=x.Index.length:=K9
@[go_sem] theorem GDisk.mks_len2 (x:GDisk) (k:Int):((x.mks k).Wanted).length=x.Wanted.length:=K9
def M6a:MC:=
(Zs [.box 2 3 (.s 0),.mv 4 (ci 0)] [1,2] (Zs [fS 5 2 0,lF 6 1 5,mS 7 1,.callI 8 [] (.f N10) [.s 6,.s 7] [0] [],mS 1 8] [1,2] (Zs [fS 9 2 1,lF 10 1 9,mS 11 1,.callI 12 [] (.f N4n) [.s 10,.s 11] [1] [],mS 1 12] [1,2] (Zs [fS 13 2 2,lF 14 1 13,mS 15 1,.callI 16 [] (.f N10) [.s 14,.s 15] [2] [],mS 1 16] [1] (Zs [mS 17 1,mS 4 17] [4] .ret)))))
theorem Cac(x:GDisk)(k:Int)(hk:0≤k)(hN:k+(x.cts:Nat)≤4611686018427387904):CtrI Tryz.prog N6m [oS x.enc,iI k] [some (4,(x.mks k).Containers.map GContainer.enc),some (6,(x.mks k).Index.map GFound.enc),some (4,(x.mks k).Wanted.map GContainer.enc)] [rI (k+(x.cts:Nat))]:=by
 refine Kw (M:=M6a) (m:=1) (n:=18) (res:=[(.tmp 4,[false])]) hmix Tryz.func56 rfl (by kernel_rfl) rfl (by kernel_rfl) (by kernel_rfl) (Nat.le_of_ble_eq_true rfl) rfl rfl ?_;unfold M6a
 intro hb
 clear hb
 simp only[GDisk.cts]at hN ⊢
 simp only[go_sem]
 refine K8 (C1n x.Containers (k) (by omega) (by omega)) ?_
 simp only[go_sem]
 refine K8 (C9b x.Index (k+(ctL GContainer.ct x.Containers:Nat)) (by omega) (by omega)) ?_
 simp only[go_sem]
 refine K8 (C1n x.Wanted (k+(ctL GContainer.ct x.Containers:Nat)+(ctL GFound.ct x.Index:Nat)) (by omega) (by omega)) ?_
 simp only[go_sem]
 all_goals (try omega)
 repeat' (first|rfl|omega|refine And.intro ?_ ?_)
def GArchive.mks(x:GArchive)(k:Int):GArchive:={x with Site:=mkL GVersion.mkd GVersion.ct x.Site (k),Script:=mkL GOp.mkd GOp.ct x.Script (k+(ctL GVersion.ct x.Site:Nat)),Disk:=x.Disk.mks (k+(ctL GVersion.ct x.Site:Nat)+(ctL GOp.ct x.Script:Nat)),Exclusions:=mkL GExclusion.mkd GExclusion.ct x.Exclusions (k+(ctL GVersion.ct x.Site:Nat)+(ctL GOp.ct x.Script:Nat)+(x.Disk.cts:Nat)),Libraries:=mkL GLibrary.mkd GLibrary.ct x.Libraries (k+(ctL GVersion.ct x.Site:Nat)+(ctL GOp.ct x.Script:Nat)+(x.Disk.cts:Nat)+(ctL GExclusion.ct x.Exclusions:Nat)),Keys:=mkL iMk iCt x.Keys (k+(ctL GVersion.ct x.Site:Nat)+(ctL GOp.ct x.Script:Nat)+(x.Disk.cts:Nat)+(ctL GExclusion.ct x.Exclusions:Nat)+(ctL GLibrary.ct x.Libraries:Nat)),Statements:=mkL GStatement.mkd GStatement.ct x.Statements (k+(ctL GVersion.ct x.Site:Nat)+(ctL GOp.ct x.Script:Nat)+(x.Disk.cts:Nat)+(ctL GExclusion.ct x.Exclusions:Nat)+(ctL GLibrary.ct x.Libraries:Nat)+(ctL iCt x.Keys:Nat))}
def GArchive.cts(x:GArchive):Nat:=ctL GVersion.ct x.Site+ctL GOp.ct x.Script+x.Disk.cts+ctL GExclusion.ct x.Exclusions+ctL GLibrary.ct x.Libraries+ctL iCt x.Keys+ctL GStatement.ct x.Statements
theorem GArchive.cts_le(x:GArchive):x.cts≤16*x.size:=by
 simp only[GArchive.cts,GArchive.size]
 have hSite:=K3d (c:=GVersion.ct) (s:=GVersion.size) GVersion.ct_le x.Site
 have hScript:=ctL_le' (c:=GOp.ct) (fun y=>by simp only[GOp.ct];omega) x.Script
 have hDisk:=GDisk.cts_le x.Disk
 have hExclusions:=ctL_le' (c:=GExclusion.ct) (fun y=>by simp only[GExclusion.ct];omega) x.Exclusions
 have hLibraries:=K3d (c:=GLibrary.ct) (s:=GLibrary.size) GLibrary.ct_le x.Libraries
 have hKeys:=ctL_le' (c:=iCt) (fun y=>by simp only[iCt];omega) x.Keys
 have hStatements:=ctL_le' (c:=GStatement.ct) (fun y=>by simp only[GStatement.ct];omega) x.Statements
 omega
@[go_sem] theorem GArchive.mks_len0 (x:GArchive) (k:Int):((x.mks k).Site).length=x.Site.length:=K9
@[go_sem] theorem GArchive.mks_len1 (x:GArchive) (k:Int):((x.mks k).Script).length=x.Script.length:=K9
@[go_sem] theorem GArchive.mks_len2 (x:GArchive) (k:Int):((x.mks k).Disk.Containers).length=x.Disk.Containers.length:=K9
@[go_sem] theorem GArchive.mks_len3 (x:GArchive) (k:Int):((x.mks k).Disk.Index).length=x.Disk.Index.length:=K9
@[go_sem] theorem GArchive.mks_len4 (x:GArchive) (k:Int):((x.mks k).Disk.Wanted).length=x.Disk.Wanted.length:=K9
@[go_sem] theorem GArchive.mks_len5 (x:GArchive) (k:Int):((x.mks k).Exclusions).length=x.Exclusions.length:=K9
@[go_sem] theorem GArchive.mks_len6 (x:GArchive) (k:Int):((x.mks k).Libraries).length=x.Libraries.length:=K9
@[go_sem] theorem GArchive.mks_len7 (x:GArchive) (k:Int):((x.mks k).Keys).length=x.Keys.length:=K9
@[go_sem] theorem GArchive.mks_len8 (x:GArchive) (k:Int):((x.mks k).Statements).length=x.Statements.length:=K9
def M3a:MC:=
(Zs [.box 2 9 (.s 0),.mv 4 (ci 0)] [1,2] (Zs [fS 5 2 0,lF 6 1 5,mS 7 1,.callI 8 [] (.f N2u) [.s 6,.s 7] [0] [],mS 1 8] [1,2] (Zs [fS 9 2 1,lF 10 1 9,mS 11 1,.callI 12 [] (.f N34) [.s 10,.s 11] [1] [],mS 1 12] [1,2] (Zs [fS 13 2 2,lT 14 3 13,mS 15 1,.callI 16 [] (.f N6m) [.s 14,.s 15] [2,3,4] [],mS 1 16] [1,2] (Zs [fS 17 2 5,lF 18 1 17,mS 19 1,.callI 20 [] (.f N1s) [.s 18,.s 19] [5] [],mS 1 20] [1,2] (Zs [fS 21 2 6,lF 22 1 21,mS 23 1,.callI 24 [] (.f N2t) [.s 22,.s 23] [6] [],mS 1 24] [1,2] (Zs [fS 25 2 7,lF 26 1 25,mS 27 1,.callI 28 [] (.f Nw) [.s 26,.s 27] [7] [],mS 1 28] [1,2] (Zs [fS 29 2 8,lF 30 1 29,mS 31 1,.callI 32 [] (.f N1t) [.s 30,.s 31] [8] [],mS 1 32] [1] (Zs [mS 33 1,mS 4 33] [4] .ret)))))))))
theorem C8s(x:GArchive)(k:Int)(hk:0≤k)(hN:k+(x.cts:Nat)≤4611686018427387904):CtrI Tryz.prog N3k [oS x.enc,iI k] [some (9,(x.mks k).Site.map GVersion.enc),some (4,(x.mks k).Script.map GOp.enc),some (4,(x.mks k).Disk.Containers.map GContainer.enc),some (6,(x.mks k).Disk.Index.map GFound.enc),some (4,(x.mks k).Disk.Wanted.map GContainer.enc),some (5,(x.mks k).Exclusions.map GExclusion.enc),some (4,(x.mks k).Libraries.map GLibrary.enc),some (1,(x.mks k).Keys.map encI),some (4,(x.mks k).Statements.map GStatement.enc)] [rI (k+(x.cts:Nat))]:=by
 refine Kw (M:=M3a) (m:=1) (n:=34) (res:=[(.tmp 4,[false])]) hmix Tryz.func15 rfl (by kernel_rfl) rfl (by kernel_rfl) (by kernel_rfl) (Nat.le_of_ble_eq_true rfl) rfl rfl ?_;unfold M3a
 intro hb
 clear hb
 simp only[GArchive.cts]at hN ⊢
 simp only[go_sem]
 refine K8 (C8e x.Site (k) (by omega) (by omega)) ?_
 simp only[go_sem]
 refine K8 (C6v x.Script (k+(ctL GVersion.ct x.Site:Nat)) (by omega) (by omega)) ?_
 simp only[go_sem]
 refine K8 (Cac x.Disk (k+(ctL GVersion.ct x.Site:Nat)+(ctL GOp.ct x.Script:Nat)) (by omega) (by omega)) ?_
 simp only[go_sem]
 refine K8 (C6u x.Exclusions (k+(ctL GVersion.ct x.Site:Nat)+(ctL GOp.ct x.Script:Nat)+(x.Disk.cts:Nat)) (by omega) (by omega)) ?_
 simp only[go_sem]
 refine K8 (C8d x.Libraries (k+(ctL GVersion.ct x.Site:Nat)+(ctL GOp.ct x.Script:Nat)+(x.Disk.cts:Nat)+(ctL GExclusion.ct x.Exclusions:Nat)) (by omega) (by omega)) ?_
 simp only[go_sem]
 refine K8 (Cv x.Keys (k+(ctL GVersion.ct x.Site:Nat)+(ctL GOp.ct x.Script:Nat)+(x.Disk.cts:Nat)+(ctL GExclusion.ct x.Exclusions:Nat)+(ctL GLibrary.ct x.Libraries:Nat)) (by omega) (by omega)) ?_
 simp only[go_sem]
 refine K8 (C6w x.Statements (k+(ctL GVersion.ct x.Site:Nat)+(ctL GOp.ct x.Script:Nat)+(x.Disk.cts:Nat)+(ctL GExclusion.ct x.Exclusions:Nat)+(ctL GLibrary.ct x.Libraries:Nat)+(ctL iCt x.Keys:Nat)) (by omega) (by omega)) ?_
 simp only[go_sem]
 all_goals (try omega)
 repeat' (first|rfl|omega|refine And.intro ?_ ?_)
def GChange.mkd(x:GChange)(k:Int):GChange:=⟨k,(k+1)⟩
def GChange.ct(x:GChange):Nat:=2
def GPlayed.mks(x:GPlayed)(k:Int):GPlayed:={x with State:=x.State.mks (k)}
def GPlayed.cts(x:GPlayed):Nat:=x.State.cts
theorem GPlayed.cts_le(x:GPlayed):x.cts≤16*x.size:=by
 simp only[GPlayed.cts,GPlayed.size]
 have hState:=GState.cts_le x.State
 omega
@[go_sem] theorem GPlayed.mks_len0 (x:GPlayed) (k:Int):((x.mks k).State.Regs).length=x.State.Regs.length:=K9
@[go_sem] theorem GPlayed.mks_len1 (x:GPlayed) (k:Int):((x.mks k).State.Slots).length=x.State.Slots.length:=K9
@[go_sem] theorem GPlayed.mks_len2 (x:GPlayed) (k:Int):((x.mks k).State.Nodes).length=x.State.Nodes.length:=K9
end Go.Proofs.YtflhjihoifbmfaaGreatR
namespace Go.Proofs
open Go.Shelf
end Go.Proofs
namespace Go.Proofs.YtflhjihoifbmfaaGreatR
open Go Go.RowKit Go.Proofs
open Nat (reduceEqDiff reduceLT reduceLeDiff reduceAdd reduceMul)
open List (reduceReplicate)
end Go.Proofs.YtflhjihoifbmfaaGreatR
namespace Go.Proofs.YtflhjihoifbmfaaGreatR
namespace Srt
structure Swo {α:Type} (lt:α→α→Bool):Prop where
 asy:∀x y,lt x y=true→lt y x=false
 neg:∀x y z,lt x z=true→lt x y=true∨lt y z=true
variable {α:Type} {lt:α→α→Bool}
theorem Swo.tr(h:Swo lt){x y z:α}(h1:lt x y=true)(h2:lt y z=true):lt x z=true:=by
 rcases h.neg x z y h1 with k|k
 ·exact k
 ·rw[h.asy y z h2]at k;cases k
theorem Swo.ntr(h:Swo lt){x y z:α}(h1:lt x y=false)(h2:lt y z=false):lt x z=false:=by
 cases k:lt x z
 ·rfl
 ·rcases h.neg x y z k with k|k<;>simp_all
theorem Swo.irr(h:Swo lt)(x:α):lt x x=false:=by
 cases k:lt x x
 ·rfl
 ·have:=h.asy x x k;simp_all
theorem Swo.lf(h:Swo lt){x y z:α}(h1:lt x y=true)(h2:lt z y=false):lt x z=true:=by
 rcases h.neg x z y h1 with k|k<;>simp_all
theorem Swo.fl(h:Swo lt){x y z:α}(h1:lt y x=false)(h2:lt y z=true):lt x z=true:=by
 rcases h.neg y x z h2 with k|k<;>simp_all
variable (lt)
def ins(x:α):List α→List α
 | []=>[x]
 |z::zs=>if lt x z then x::z::zs else z::ins x zs
def mrg(A B:List α):List α:=B.foldl (fun acc x=>ins lt x acc) A
def isort(l:List α):List α:=mrg lt [] l
def srt(l:List α):Prop:=l.Pairwise fun x y=>lt y x=false
variable {lt}
theorem K7z{x y:α}:∀ {l:List α},y∈ins lt x l↔y=x∨y∈l
 | []=>by simp[ins]
 |z::zs=>by
  simp only[ins]
  split
  ·simp
  ·rw[List.mem_cons,K7z,List.mem_cons]
   constructor<;>rintro (h|h|h)<;>simp[h]
theorem len_ins{x:α}:∀ {l:List α},(ins lt x l).length=l.length+1
 | []=>rfl
 |z::zs=>by
  simp only[ins]
  split
  ·rfl
  ·simp[len_ins]
theorem mrg_nil{A:List α}:mrg lt A []=A:=rfl
theorem K25{A B:List α}{x:α}:mrg lt A (x::B)=mrg lt (ins lt x A) B:=rfl
theorem K2u{A B C:List α}:mrg lt A (B++C)=mrg lt (mrg lt A B) C:=List.foldl_append
theorem mem_mrg{y:α}:∀ {B A:List α},y∈mrg lt A B↔y∈A∨y∈B
 | [],A=>by simp[mrg_nil]
 |x::B,A=>by
  rw[K25,mem_mrg,K7z,List.mem_cons]
  exact⟨fun h=>h.elim (fun h=>h.elim (fun h=> .inr (.inl h)) .inl) (fun h=> .inr (.inr h)),fun h=>h.elim (fun h=> .inl (.inr h)) (fun h=>h.elim (fun h=> .inl (.inl h)) .inr)⟩
theorem len_mrg:∀ {B A:List α},(mrg lt A B).length=A.length+B.length
 | [],A=>rfl
 |x::B,A=>by
  rw[K25,len_mrg,len_ins,List.length_cons];omega
theorem len_isort{l:List α}:(isort lt l).length=l.length:=by
 unfold isort;rw[len_mrg];simp
theorem K99(h:Swo lt){x y:α}(hxy:lt x y=true):∀(A:List α),ins lt y (ins lt x A)=ins lt x (ins lt y A)
 | []=>by simp[ins,hxy,h.asy x y hxy]
 |z::zs=>by
  cases k1:lt x z<;>cases k2:lt y z
  ·simp[ins,k1,k2,K99 h hxy zs]
  ·rw[h.tr hxy k2]at k1;cases k1
  ·simp[ins,k1,k2,h.asy x y hxy]
  ·simp[ins,k1,k2,hxy,h.asy x y hxy]
theorem K9f(h:Swo lt){x:α}:∀ {s A:List α},(∀y∈s,lt x y=true)→mrg lt (ins lt x A) s=ins lt x (mrg lt A s)
 | [],A,_=>rfl
 |y::s,A,hs=>by
  rw[K25,K99 h (hs y (by simp)),K9f h (fun z hz=>hs z (by simp[hz])),K25]
theorem K5o{x:α}{l:List α}:srt lt (x::l)↔(∀y∈l,lt y x=false)∧srt lt l:=List.pairwise_cons
theorem srt_append{A B:List α}:srt lt (A++B)↔srt lt A∧srt lt B∧∀a∈A,∀b∈B,lt b a=false:=List.pairwise_append
theorem srt_ins(h:Swo lt){x:α}:∀ {l:List α},srt lt l→srt lt (ins lt x l)
 | [],_=>by simp[ins,srt]
 |z::zs,hs=>by
  obtain⟨h1,h2⟩:=K5o.1 hs
  simp only[ins]
  split
  ·rename_i k
   refine K5o.2 ⟨fun y hy=>?_,hs⟩
   rcases List.mem_cons.1 hy with rfl|hy
   ·exact h.asy _ _ k
   ·exact h.ntr (h1 y hy) (h.asy _ _ k)
  ·rename_i k
   refine K5o.2 ⟨fun y hy=>?_,srt_ins h h2⟩
   rcases K7z.1 hy with rfl|hy
   ·simpa using k
   ·exact h1 y hy
theorem srt_mrg(h:Swo lt):∀ {B A:List α},srt lt A→srt lt (mrg lt A B)
 | [],A,hA=>hA
 |x::B,A,hA=>srt_mrg h (B:=B) (srt_ins h hA)
theorem srt_isort(h:Swo lt)(l:List α):srt lt (isort lt l):=srt_mrg h List.Pairwise.nil
theorem K8i(h:Swo lt){x:α}:∀ {l:List α},srt lt l→∃s t,l=s++t∧ins lt x l=s++x::t∧∀y∈t,lt x y=true
 | [],_=>⟨[],[],rfl,rfl,by simp⟩
 |z::zs,hs=>by
  obtain⟨h1,h2⟩:=K5o.1 hs
  cases k:lt x z
  ·obtain⟨s,t,e,e2,h3⟩:=K8i h (x:=x) h2
   exact⟨z::s,t,by simp[e],by simp[ins,k,e2],h3⟩
  ·refine⟨[],z::zs,rfl,by simp[ins,k],fun y hy=>?_⟩
   rcases List.mem_cons.1 hy with rfl|hy
   ·exact k
   ·exact h.lf k (h1 y hy)
theorem mrg_ins(h:Swo lt){x:α}{A s:List α}(hs:srt lt s):mrg lt A (ins lt x s)=ins lt x (mrg lt A s):=by
 obtain⟨s1,s2,rfl,e,h2⟩:=K8i h (x:=x) hs
 rw[e,K2u,K25,K9f h h2,K2u]
theorem isort_snoc{l:List α}{x:α}:isort lt (l++[x])=ins lt x (isort lt l):=by
 unfold isort;rw[K2u];rfl
theorem mrg_isort(h:Swo lt){A:List α}(r:List α):mrg lt A (isort lt r)=mrg lt A r:=by
 suffices H:∀(n:Nat) (r:List α),r.length=n→mrg lt A (isort lt r)=mrg lt A r from H _ r rfl
 intro n
 induction n with
 |zero=>intro r hr;obtain rfl:=List.length_eq_zero_iff.1 hr;rfl
 |succ n ih=>
  intro r hr
  rcases List.eq_nil_or_concat r with rfl|⟨s,x,rfl⟩
  ·rfl
  ·rw[List.concat_eq_append]at*
   rw[isort_snoc,mrg_ins h (srt_isort h s),ih s (by simpa using hr),K2u];rfl
theorem K60(h:Swo lt)(l r:List α):isort lt (l++r)=mrg lt (isort lt l) (isort lt r):=by
 rw[mrg_isort h];unfold isort;rw[K2u]
theorem K9a{b:α}{A2:List α}(h:∀a∈A2.head?,lt b a=true):∀(A1:List α),ins lt b (A1++A2)=ins lt b A1++A2
 | []=>by
  cases A2 with
  |nil=>rfl
  |cons z zs=>simp[ins,h z (by simp)]
 |z::zs=>by
  simp only[List.cons_append,ins]
  split
  ·rfl
  ·rw[K9a h zs,List.cons_append]
theorem K5z{b:α}{A2:List α}:∀ {A1:List α},(∀a∈A1,lt b a=false)→ins lt b (A1++A2)=A1++ins lt b A2
 | [],_=>rfl
 |z::zs,h=>by
  simp only[List.cons_append,ins,h z (by simp),K5z (A1:=zs) (fun a ha=>h a (by simp[ha]))]
  rfl
theorem ins_mid{x:α}{s t:List α}(h1:∀a∈s,lt x a=false)(h2:∀a∈t.head?,lt x a=true):ins lt x (s++t)=s++x::t:=by
 rw[K5z h1]
 cases t with
 |nil=>rfl
 |cons z zs=>simp[ins,h2 z (by simp)]
theorem K9e{A2:List α}:∀ {B A1:List α},(∀b∈B,∀a∈A2.head?,lt b a=true)→mrg lt (A1++A2) B=mrg lt A1 B++A2
 | [],_,_=>rfl
 |b::B,A1,h=>by
  rw[K25,K9a (h b (by simp)),K9e (fun b hb=>h b (by simp[hb])),K25]
theorem K62{A1:List α}:∀ {B A2:List α},(∀b∈B,∀a∈A1,lt b a=false)→mrg lt (A1++A2) B=A1++mrg lt A2 B
 | [],_,_=>rfl
 |b::B,A2,h=>by
  rw[K25,K5z (h b (by simp)),K62 (fun b hb=>h b (by simp[hb])),K25]
theorem mrg_nil_srt(h:Swo lt){l:List α}(hs:srt lt l):mrg lt [] l=l:=by
 suffices H:∀(l A:List α),srt lt (A++l)→mrg lt A l=A++l from H l [] (by simpa using hs)
 intro l
 induction l with
 |nil=>intro A _;simp[mrg_nil]
 |cons x l ih=>
  intro A hA
  have:=srt_append.1 hA
  rw[K25,show ins lt x A=A++[x]from by
   have:=ins_mid (lt:=lt) (x:=x) (s:=A) (t:=[]) (fun a ha=>(srt_append.1 hA).2.2 a ha x (by simp)) (by simp)
   simpa using this,ih (A++[x]) (by simpa using hA)]
  simp
theorem K8k{A1 A2 B1 B2:List α}(h1:∀b∈B1,∀a∈A2.head?,lt b a=true)(h2:∀b∈B2,∀a∈A1,lt b a=false)(h3:∀b∈B2,∀a∈B1,lt b a=false):mrg lt (A1++A2) (B1++B2)=mrg lt A1 B1++mrg lt A2 B2:=by
 rw[K2u,K9e h1,K62]
 intro b hb a ha
 rcases mem_mrg.1 ha with k|k
 ·exact h2 b hb a k
 ·exact h3 b hb a k
def blk(lt:α→α→Bool)(s:Nat)(l:List α):List α:=
 if h:s=0∨l.length≤s then isort lt l else isort lt (l.take s)++blk lt s (l.drop s)
termination_by l.length
decreasing_by
 simp only[List.length_drop]
 omega
end Srt
end Go.Proofs.YtflhjihoifbmfaaGreatR
namespace Go.Proofs.YtflhjihoifbmfaaGreatR
open Go Go.RowKit Go.Proofs
open Nat (reduceEqDiff reduceLT reduceLeDiff reduceAdd reduceMul)
open List (reduceReplicate)
abbrev fI(f:FuncId):RV:=⟨false,[(false,.fn f [])]⟩
attribute [go_sem] fI
def two(A:List (List T))(e:List T)(B:List (List T))(e':List T)(C:List (List T)):List (List T):=A++e::(B++e'::C)
theorem K7q{A B C:List (List T)}{p q:Nat}(hp:A.length=p)(hq:p+1+B.length=q):
  (∀e e',(two A e B e' C)[p]? =some e)∧(∀e e',(two A e B e' C)[q]? =some e')∧
  (∀e e' u,(two A e B e' C).set p u=two A u B e' C)∧(∀e e' u,(two A e B e' C).set q u=two A e B u C)∧
  (∀e e',(two A e B e' C).length=A.length+B.length+C.length+2)∧
  (∀e e',(two A e B e' C).getD p []=e)∧(∀e e',(two A e B e' C).getD q []=e'):=by
 subst hp hq
 have h1:∀e e',(two A e B e' C)[A.length]? =some e:=fun e e'=>by simp[two]
 have h2:∀e e',(two A e B e' C)[A.length+1+B.length]? =some e':=fun e e'=>by
  unfold two
  rw[List.getElem?_append_right (by omega),show A.length+1+B.length-A.length=B.length+1 by omega,List.getElem?_cons_succ,List.getElem?_append_right (by omega),Nat.sub_self]
  rfl
 refine⟨h1,h2,fun e e' u=>by simp[two],fun e e' u=>?_,fun e e'=>by simp[two];omega,fun e e'=>by rw[List.getD_eq_getElem?_getD,h1];rfl,fun e e'=>by rw[List.getD_eq_getElem?_getD,h2];rfl⟩
 unfold two
 rw[List.set_append_right _ _ (by omega),show A.length+1+B.length-A.length=B.length+1 by omega,List.set_cons_succ,List.set_append_right _ _ (by omega),Nat.sub_self]
 rfl
def swp{α:Type}(P X M Y Q:List α)(i:Nat):List α:=(P++Y.take i)++(X.drop i++M++X.take i)++(Y.drop i++Q)
theorem swp_len{α:Type}{P X M Y Q:List α}{i:Nat}(h:X.length=Y.length):(swp P X M Y Q i).length=(P++X++M++Y++Q).length:=by
 simp[swp,List.length_take,List.length_drop];omega
theorem swp_two{α:Type}{P X M Y Q:List α}{i:Nat}{x y:α}{f:α→List T}(hx:X[i]? =some x)(hy:Y[i]? =some y):
  (swp P X M Y Q i).map f=two ((P++Y.take i).map f) (f x) ((X.drop (i+1)++M++X.take i).map f) (f y) ((Y.drop (i+1)++Q).map f)∧
  (swp P X M Y Q (i+1)).map f=two ((P++Y.take i).map f) (f y) ((X.drop (i+1)++M++X.take i).map f) (f x) ((Y.drop (i+1)++Q).map f):=by
 constructor
 ·simp[swp,two,K13 hx,K13 hy]
 ·simp[swp,two,Kn hx,Kn hy]
theorem wN{a b:Nat}(h:a+b≤9223372036854775807):IntKind.i64.wrap ((a:Int)+(b:Int))=((a+b:Nat):Int):=by
 rw[wI (by omega) (by omega)];omega
theorem wN1{a:Nat}(h:a+1≤9223372036854775807):IntKind.i64.wrap ((a:Int)+1)=((a+1:Nat):Int):=by
 rw[wI (by omega) (by omega)];omega
theorem wS{a b:Nat}(h:b≤a)(h2:a≤9223372036854775807):IntKind.i64.wrap ((a:Int)-(b:Int))=((a-b:Nat):Int):=by
 rw[wI (by omega) (by omega)];omega
theorem wS1{a:Nat}(h:1≤a)(h2:a≤9223372036854775807):IntKind.i64.wrap ((a:Int)-1)=((a-1:Nat):Int):=by
 rw[wI (by omega) (by omega)];omega
def Me:MC:=
(Zs [.mv 10 (ci 0)] [0,1,2,3,10] (.block 0 (.loop ([0,1,2,3,10],[]) (.seq (Zs [mS 11 10,mS 12 3,bS 13 .lss 11 12] [0,1,2,3,10,13] (cX 13 0))
(.seq (.block 1 (.dreg [Zc [17,18,19,20,21,22,23,24,25,26,27,28,29,30,31,32,33,34,35] (mS 16 0),Zc [16,18,20,21,22,23,24,25,26,27,28,29,30,31,32,33,34,35] (mS 17 1),Zc [16,17,20,21,22,23,24,25,26,27,28,29,30,31,32,33,34,35] (mS 18 10),Zd [16,20,21,22,23,24,25,26,27,28,29,30,31,32,33,34,35] [1,2] (bS 19 .add 17 18),Zf [16,17,18,19,21,22,23,24,25,26,27,28,29,30,31,32,33,34,35,36] [0] (mS 20 0),Zf [16,17,18,19,20,22,24,25,26,27,28,29,30,31,32,33,34,35,36] [0] (mS 21 2),Zf [16,17,18,19,20,21,24,25,26,27,28,29,30,31,32,33,34,35,36] [0] (mS 22 10),Zg [16,17,18,19,20,24,25,26,27,28,29,30,31,32,33,34,35,36] [0] [5,6] (bS 23 .add 21 22),Zc [16,17,18,19,20,21,22,23,25,26,27,30,31,32,33,34,35] (mS 24 0),Zc [16,17,18,19,20,21,22,23,24,26,30,31,32,33,34,35] (mS 25 2),Zc [16,17,18,19,20,21,22,23,24,25,30,31,32,33,34,35] (mS 26 10),Zd [16,17,18,19,20,21,22,23,24,30,31,32,33,34,35] [9,10] (bS 27 .add 25 26),Zd [16,17,18,19,20,21,22,23,30,31,32,33,34,35] [8,9,10,11] (xS 28 6 24 27),Zd [16,17,18,19,20,21,22,23,30,31,32,33,34,35] [8,9,10,11,12] (lT 29 6 28),Zc [16,17,18,19,20,21,22,23,24,25,26,27,28,29,31,32,33] (mS 30 0),Zc [16,17,18,19,20,21,22,23,24,25,26,27,28,29,30,32] (mS 31 1),Zc [16,17,18,19,20,21,22,23,24,25,26,27,28,29,30,31] (mS 32 10),Zd [16,17,18,19,20,21,22,23,24,25,26,27,28,29,30] [15,16] (bS 33 .add 31 32),Zd [16,17,18,19,20,21,22,23,24,25,26,27,28,29] [14,15,16,17] (xS 34 6 30 33),Zd [16,17,18,19,20,21,22,23,24,25,26,27,28,29] [14,15,16,17,18] (lT 35 6 34),Zd [20,21,22,23] [0,1,2,3,8,9,10,11,12,13,14,15,16,17,18,19] (xS 36 6 16 19),{o:=sS 6 36 29,hs:=[20,21,22,23],ws:=[0],bf:=[0,1,2,3,8,9,10,11,12,13,14,15,16,17,18,19,20]},Ze (.range 22) (xS 37 6 20 23),{o:=sS 6 37 35,ws:=[0],bf:=(.range 23)}] [0,1,2,3,10]))
(pr [mS 14 10,bC 15 .add 14 1,mS 10 15] [0,1,2,3,10]))))))
theorem Ch(P X M Y Q:List GFound)(f:FuncId){a b n:Nat}(ha:P.length=a)(hb:(P++X++M).length=b)(hX:X.length=n)(hY:Y.length=n):CtrI Tryz.prog N2 [oL 6 ((P++X++M++Y++Q).map GFound.enc),iI a,iI b,iI n,fI f] [some (6,(P++Y++M++X++Q).map GFound.enc)] []:=by
 have hL0:(P++X++M++Y++Q).length=b+n+Q.length:=by rw[List.length_append,List.length_append,hb,hY]
 have hL1:(P++Y++M++X++Q).length=(P++X++M++Y++Q).length:=by simp;omega
 have hb':b=a+n+M.length:=by rw[←hb];simp;omega
 have hsw0:swp P X M Y Q 0=P++X++M++Y++Q:=by simp[swp]
 have hswn:swp P X M Y Q n=P++Y++M++X++Q:=by simp[swp,←hX,List.take_of_length_le (show Y.length≤X.length by omega),List.drop_of_length_le (show Y.length≤X.length by omega)]
 refine Kw (M:=Me) (m:=0) (n:=38) (res:=[]) hmix Tryz.func238 rfl (by kernel_rfl) rfl (by kernel_rfl) (by kernel_rfl) (Nat.le_of_ble_eq_true rfl) rfl rfl ?_;unfold Me
 intro hbd
 have hl:=Ku hbd
 clear hbd
 simp only[roomB]at hl
 rw[←hsw0,←hswn]
 rw[←hsw0,←hswn]at hL1
 rw[←hsw0]at hl hL0
 subst hX
 generalize hN:(swp P X M Y Q 0).length=N at*
 simp only[go_sem,hN]
 refine K5 X (fun i=>[(10,vI i)]) (fun i=>[(0,⟨1,.row true 6 ((swp P X M Y Q i).map GFound.enc)⟩)]) (fun _=>True) (by simp only[roomB];omega) ?_
 simp only[go_sem]
 refine⟨?_,trivial,?_,?_⟩
 ·simp only[go_sem]
 ·intro i x hx _ h0 h1 hw
  have hi:=Kb hx
  obtain⟨y,hy⟩:=Kh (show i<Y.length by omega)
  obtain⟨e1,e2⟩:=swp_two (P:=P) (M:=M) (Q:=Q) (f:=GFound.enc) hx hy
  have hlen:=swp_len (P:=P) (X:=X) (M:=M) (Y:=Y) (Q:=Q) (i:=i) hY.symm
  rw[e1,e2]
  generalize hAe:(P++Y.take i).map GFound.enc=A at e1 e2
  generalize hBe:(X.drop (i+1)++M++X.take i).map GFound.enc=B at e1 e2
  generalize hCe:(Y.drop (i+1)++Q).map GFound.enc=C at e1 e2
  have hA:A.length=a+i:=by subst hAe;simp;omega
  have hB:(a+i)+1+B.length=b+i:=by subst hBe;simp;omega
  have hC:C.length=Y.length-(i+1)+Q.length:=by subst hCe;simp
  obtain⟨g1,g2,s1,s2,hL,d1,d2⟩:=K7q (C:=C) hA hB
  have hL':∀e e',(two A e B e' C).length=N:=fun e e'=>by rw[hL];omega
  have k1:(0:Int)≤((a+i:Nat):Int):=by omega
  have k2:((a+i:Nat):Int)<(N:Int):=by omega
  have k3:(0:Int)≤((b+i:Nat):Int):=by omega
  have k4:((b+i:Nat):Int)<(N:Int):=by omega
  have k5:¬b+i=a+i:=by omega
  simp only[go_sem,g1,g2,s1,s2,hL',hw,h1,wN (a:=a) (b:=i) (by omega),wN (a:=b) (b:=i) (by omega),k1,k2,k3,k4]
 ·intro _
  simp only[go_sem]
def RotI(P X Y Q:List GFound)(m:Nat)(d:List GFound)(i j:Nat):Prop:=
 ∃C X' Y' D,d=P++C++X'++Y'++D++Q∧X'.length=i∧Y'.length=j∧P.length+C.length+i=m∧C++Y'++X'++D=Y++X∧0<i∧0<j
theorem RotI.gt{P X Y Q:List GFound}{m:Nat}{d:List GFound}{i j:Nat}(h:RotI P X Y Q m d i j)(hij:j<i):
  ∃P' X1 M Y' Q',d=P'++X1++M++Y'++Q'∧P'.length=m-i∧(P'++X1++M).length=m∧X1.length=j∧Y'.length=j∧RotI P X Y Q m (P'++Y'++M++X1++Q') (i-j) j:=by
 obtain⟨C,X',Y',D,rfl,rfl,rfl,h3,h4,h5,h6⟩:=h
 obtain⟨X1,X2,rfl,hX1⟩:∃X1 X2,X'=X1++X2∧X1.length=Y'.length:=⟨X'.take Y'.length,X'.drop Y'.length,(List.take_append_drop _ _).symm,by simp;omega⟩
 simp only[List.length_append]at*
 exact⟨P++C,X1,X2,Y',D++Q,by simp,by simp;omega,by simp;omega,hX1,rfl,C++Y',X2,X1,D,by simp,by omega,by omega,by simp;omega,by rw[←h4];simp,by omega,by omega⟩
theorem RotI.le{P X Y Q:List GFound}{m:Nat}{d:List GFound}{i j:Nat}(h:RotI P X Y Q m d i j)(hij:i<j):
  ∃P' X' M Y2 Q',d=P'++X'++M++Y2++Q'∧P'.length=m-i∧(P'++X'++M).length=m+j-i∧X'.length=i∧Y2.length=i∧RotI P X Y Q m (P'++Y2++M++X'++Q') i (j-i):=by
 obtain⟨C,X',Y',D,rfl,rfl,rfl,h3,h4,h5,h6⟩:=h
 obtain⟨Y1,Y2,rfl,hY2⟩:∃Y1 Y2,Y'=Y1++Y2∧Y2.length=X'.length:=⟨Y'.take (Y'.length-X'.length),Y'.drop (Y'.length-X'.length),(List.take_append_drop _ _).symm,by simp;omega⟩
 simp only[List.length_append]at*
 exact⟨P++C,X',Y1,Y2,D++Q,by simp,by simp;omega,by simp;omega,rfl,hY2,C,Y2,Y1,X'++D,by simp,by omega,by omega,by omega,by rw[←h4];simp,by omega,by omega⟩
theorem RotI.eq{P X Y Q:List GFound}{m:Nat}{d:List GFound}{i:Nat}(h:RotI P X Y Q m d i i):
  ∃P' X' Y' Q',d=P'++X'++[]++Y'++Q'∧P'.length=m-i∧(P'++X'++[]).length=m∧X'.length=i∧Y'.length=i∧P'++Y'++[]++X'++Q'=P++Y++X++Q:=by
 obtain⟨C,X',Y',D,rfl,rfl,h2,h3,h4,h5,h6⟩:=h
 refine⟨P++C,X',Y',D++Q,by simp,by simp;omega,by simp;omega,rfl,h2,?_⟩
 have:=congrArg (fun l=>P++(l++Q)) h4
 simpa using this
theorem RotI.len{P X Y Q:List GFound}{m:Nat}{d:List GFound}{i j:Nat}(h:RotI P X Y Q m d i j):d.length=(P++X++Y++Q).length∧i≤m∧m+j≤d.length∧0<i∧0<j:=by
 obtain⟨C,X',Y',D,rfl,rfl,rfl,h3,h4,h5,h6⟩:=h
 have:=congrArg List.length h4
 simp at this ⊢
 omega
theorem RotI.start{P X Y Q:List GFound}{m i j:Nat}(hm:P.length+X.length=m)(hi:X.length=i)(hj:Y.length=j)(hX:0<X.length)(hY:0<Y.length):RotI P X Y Q m (P++X++Y++Q) i j:=
 ⟨[],X,Y,[],by simp,hi,hj,by simp;omega,by simp,by omega,by omega⟩
def Mi:MC:=
(Zs [mS 12 2,mS 13 1,bS 14 .sub 12 13,mS 10 14] [0,2,3,4,10] (Zs [mS 15 3,mS 16 2,bS 17 .sub 15 16,mS 11 17] [0,2,4,10,11] (.seq (.block 0 (.loop ([0,2,4,10,11],[]) (.seq (Zs [mS 18 10,mS 19 11,bS 20 .neq 18 19] [0,2,4,10,11,20] (cX 20 0))
(.block 1 (Zs [mS 21 10,mS 22 11,bS 23 .gtr 21 22] [0,2,4,10,11,23] (.cond (.s 23) (Zs [mS 24 0,mS 25 2,mS 26 10,bS 27 .sub 25 26,mS 28 2,mS 29 11,mS 30 4,.callI 31 [] (.f N2) [.s 24,.s 27,.s 28,.s 29,.s 30] [0] []] [0,2,4,10,11] (pr [mS 32 10,mS 33 11,bS 34 .sub 32 33,mS 10 34] [0,2,4,10,11])) (Zs [mS 35 0,mS 36 2,mS 37 10,bS 38 .sub 36 37,mS 39 2,mS 40 11,bS 41 .add 39 40,mS 42 10,bS 43 .sub 41 42,mS 44 10,mS 45 4,.callI 46 [] (.f N2) [.s 35,.s 38,.s 43,.s 44,.s 45] [0] []] [0,2,4,10,11] (pr [mS 47 11,mS 48 10,bS 49 .sub 47 48,mS 11 49] [0,2,4,10,11]))))))))
(pr [mS 50 0,mS 51 2,mS 52 10,bS 53 .sub 51 52,mS 54 2,mS 55 10,mS 56 4,.callI 57 [] (.f N2) [.s 50,.s 53,.s 54,.s 55,.s 56] [0] []] []))))
theorem C1(P X Y Q:List GFound)(f:FuncId){a m b:Nat}(ha:P.length=a)(hm:(P++X).length=m)(hb:(P++X++Y).length=b)(hX:0<X.length)(hY:0<Y.length):CtrI Tryz.prog Nk [oL 6 ((P++X++Y++Q).map GFound.enc),iI a,iI m,iI b,fI f] [some (6,(P++Y++X++Q).map GFound.enc)] []:=by
 refine Kw (M:=Mi) (m:=0) (n:=58) (res:=[]) hmix Tryz.func237 rfl (by kernel_rfl) rfl (by kernel_rfl) (by kernel_rfl) (Nat.le_of_ble_eq_true rfl) rfl rfl ?_;unfold Mi
 intro hbd
 have hl:=Ku hbd
 clear hbd
 have hN2:(P++Y++X++Q).length=(P++X++Y++Q).length:=by simp;omega
 have hm':m=a+X.length:=by rw[←hm,←ha];simp
 have hb':b=m+Y.length:=by rw[←hb,←hm];simp;omega
 have hbN:b≤(P++X++Y++Q).length:=by rw[List.length_append,hb];omega
 generalize hN:(P++X++Y++Q).length=N at*
 simp only[roomB]at hl
 simp only[go_sem,hN,wS (a:=m) (b:=a) (by omega) (by omega),wS (a:=b) (b:=m) (by omega) (by omega)]
 refine K10 (ι:=List GFound×Nat×Nat) (fun s=>[(10,vI s.2.1),(11,vI s.2.2)]) (fun s=>[(0,⟨1,.row true 6 (s.1.map GFound.enc)⟩)]) (fun s=>RotI P X Y Q m s.1 s.2.1 s.2.2) (fun s=>s.2.1+s.2.2) (P++X++Y++Q,m-a,b-m) ?_
 simp only[go_sem]
 refine⟨?_,RotI.start (by omega) (show X.length=m-a by omega) (show Y.length=b-m by omega) hX hY,?_⟩
 ·simp only[go_sem]
 ·rintro ⟨d,i,j⟩ hI
  simp only at hI
  obtain⟨hd,h1,h2,h3,h4⟩:=hI.len
  rw[hN]at hd
  simp only[go_sem,hd]
  refine⟨fun hne=>⟨fun hgt=>?_,fun hle=>?_⟩,fun heq=>?_⟩
  ·obtain⟨P',X1,M,Y',Q',rfl,k1,k2,k3,k4,hR⟩:=hI.gt (by omega)
   have hd2:=hR.len.1
   rw[hN]at hd2
   rw[wS h1 (by omega)]
   apply K8 (Ch P' X1 M Y' Q' f k1 k2 k3 k4)
   simp only[go_sem,wS (a:=i) (b:=j) (by omega) (by omega)]
   exact⟨(_,i-j,j),⟨⟨rfl,rfl⟩,rfl⟩,hR,by show i-j+j<i+j;omega⟩
  ·obtain⟨P',X1,M,Y',Q',rfl,k1,k2,k3,k4,hR⟩:=hI.le (by omega)
   have hd2:=hR.len.1
   rw[hN]at hd2
   rw[wS h1 (by omega),wN (by omega),wS (a:=m+j) (b:=i) (by omega) (by omega)]
   apply K8 (Ch P' X1 M Y' Q' f k1 k2 k3 k4)
   simp only[go_sem,wS (a:=j) (b:=i) (by omega) (by omega)]
   exact⟨(_,i,j-i),⟨⟨rfl,rfl⟩,rfl⟩,hR,by show i+(j-i)<i+j;omega⟩
  ·obtain rfl:i=j:=by omega
   obtain⟨P',X1,Y',Q',rfl,k1,k2,k3,k4,hR⟩:=hI.eq
   rw[wS h1 (by omega)]
   apply K8 (Ch P' X1 [] Y' Q' f k1 k2 k3 k4)
   rw[hR]
   simp only[go_sem]
def ltc(c:GFound→GFound→Int)(x y:GFound):Bool:=decide (c x y<0)
def InsI(lt:GFound→GFound→Bool)(P S R:List GFound)(x:GFound)(d:List GFound)(j:Nat):Prop:=
 ∃s1 s2,d=P++s1++x::s2++R∧P.length+s1.length=j∧s1++s2=S∧∀y∈s2,lt x y=true
theorem InsI.len{lt:GFound→GFound→Bool}{P S R:List GFound}{x:GFound}{d:List GFound}{j:Nat}(h:InsI lt P S R x d j):d.length=P.length+S.length+1+R.length∧P.length≤j∧j≤P.length+S.length:=by
 obtain⟨s1,s2,rfl,rfl,rfl,h⟩:=h
 simp;omega
theorem InsI.done{lt:GFound→GFound→Bool}(hw:Srt.Swo lt){P S R:List GFound}{x:GFound}{d:List GFound}{j:Nat}(h:InsI lt P S R x d j)(hs:Srt.srt lt S)(hj:j=P.length∨∀z∈d[j-1]?,lt x z=false):d=P++Srt.ins lt x S++R:=by
 obtain⟨s1,s2,rfl,rfl,rfl,h⟩:=h
 rw[Srt.ins_mid]
 ·simp
 ·intro y hy
  rcases List.eq_nil_or_concat s1 with rfl|⟨s,z,rfl⟩
  ·simp at hy
  ·rcases hj with hj|hj
   ·simp at hj
   ·rw[List.concat_eq_append]at*
    have hz:lt x z=false:=hj z (by simp[])
    rcases List.mem_append.1 hy with k|k
    ·have:=(Srt.srt_append.1 (Srt.srt_append.1 hs).1).2.2 y k z (by simp)
     exact hw.ntr hz this
    ·obtain rfl:=List.mem_singleton.1 k
     exact hz
 ·intro y hy
  exact h y (List.mem_of_mem_head? hy)
theorem InsI.step{lt:GFound→GFound→Bool}{P S R:List GFound}{x:GFound}{d:List GFound}{j:Nat}(h:InsI lt P S R x d j)(hj:P.length<j):
  ∃A z C,d=A++z::([]++x::C)∧A.length=j-1∧d[j-1]? =some z∧(lt x z=true→InsI lt P S R x (A++x::([]++z::C)) (j-1)):=by
 obtain⟨s1,s2,rfl,rfl,rfl,h⟩:=h
 rcases List.eq_nil_or_concat s1 with rfl|⟨s,z,rfl⟩
 ·simp at hj
 ·rw[List.concat_eq_append]at*
  refine⟨P++s,z,s2++R,by simp,by simp,by simp[],fun hl=>⟨s,z::s2,by simp,by simp,by simp,?_⟩⟩
  intro y hy
  rcases List.mem_cons.1 hy with rfl|k
  ·exact hl
  ·exact h y k
def M8:MC:=
(Zs [mS 10 1,bC 11 .add 10 1,mS 8 11] [0,1,2,3,8] (.block 0 (.loop ([0,1,2,3,8],[]) (.seq (Zs [mS 12 8,mS 13 2,bS 14 .lss 12 13] [0,1,2,3,8,14] (cX 14 0))
(.seq (.block 1 (Zs [mS 17 8,mS 9 17] [0,1,2,3,8,9] (.block 2 (.loop ([0,1,2,3,8,9],[]) (.seq (.seq (.dreg [Zc [19] (mS 18 9),Zc [18] (mS 19 1),Ze [0,1] (bS 20 .gtr 18 19),Ze [0,1,2] (mS 21 20),{o:=mS 22 3,g:=some (21,true),hs:=[23,24,25,26,27,28,29,30,31],bf:=(.range 4)},{o:=mS 23 0,g:=some (21,true),hs:=[22,24,27,28,29,30,31],bf:=(.range 4)},{o:=mS 24 9,g:=some (21,true),hs:=[22,23,27,28,29,30,31],bf:=(.range 4)},{o:=xS 25 6 23 24,g:=some (21,true),hs:=[22,27,28,29,30,31],bf:=[0,1,2,3,5,6]},{o:=lT 26 6 25,g:=some (21,true),hs:=[22,27,28,29,30,31],bf:=[0,1,2,3,5,6,7]},{o:=mS 27 0,g:=some (21,true),hs:=[22,23,24,25,26,28,29],bf:=(.range 4)},{o:=mS 28 9,g:=some (21,true),hs:=[22,23,24,25,26,27],bf:=(.range 4)},{o:=bC 29 .sub 28 1,g:=some (21,true),hs:=[22,23,24,25,26,27],bf:=[0,1,2,3,10]},{o:=xS 30 6 27 29,g:=some (21,true),hs:=[22,23,24,25,26],bf:=[0,1,2,3,9,10,11]},{o:=lT 31 6 30,g:=some (21,true),hs:=[22,23,24,25,26],bf:=[0,1,2,3,9,10,11,12]},{o:= .call 32 [] (.s 22) [.s 26,.s 31],g:=some (21,true),bf:=(.range 14)},{o:=bC 33 .lss 32 0,g:=some (21,true),bf:=(.range 15)},Ze (.range 16) (.pick 34 (.s 21) (.s 33) cF)] [0,1,2,3,8,9,34])
(cX 34 2))
(.seq (.block 3 (.dreg [Zc [38,39,40,41,42,43,44,45,46,47,48,49,50] (mS 37 0),Zc [37,39,40,41,42,43,44,45,46,47,48,49,50] (mS 38 9),Zf [37,38,40,41,42,43,44,45,46,47,48,49,50,51] [0] (mS 39 0),Zf [37,38,39,42,43,44,45,46,47,48,49,50,51] [0] (mS 40 9),Zg [37,38,39,42,43,44,45,46,47,48,49,50,51] [0] [3] (bC 41 .sub 40 1),Zc [37,38,39,40,41,43,44,47,48,49,50] (mS 42 0),Zc [37,38,39,40,41,42,47,48,49,50] (mS 43 9),Zd [37,38,39,40,41,42,47,48,49,50] [6] (bC 44 .sub 43 1),Zd [37,38,39,40,41,47,48,49,50] [5,6,7] (xS 45 6 42 44),Zd [37,38,39,40,41,47,48,49,50] [5,6,7,8] (lT 46 6 45),Zc [37,38,39,40,41,42,43,44,45,46,48] (mS 47 0),Zc [37,38,39,40,41,42,43,44,45,46,47] (mS 48 9),Zd [37,38,39,40,41,42,43,44,45,46] [10,11] (xS 49 6 47 48),Zd [37,38,39,40,41,42,43,44,45,46] [10,11,12] (lT 50 6 49),Zd [39,40,41] [0,1,5,6,7,8,9,10,11,12,13] (xS 51 6 37 38),{o:=sS 6 51 46,hs:=[39,40,41],ws:=[0],bf:=[0,1,5,6,7,8,9,10,11,12,13,14]},Ze (.range 16) (xS 52 6 39 41),{o:=sS 6 52 50,ws:=[0],bf:=(.range 17)}] [0,1,2,3,8,9]))
(pr [mS 35 9,bC 36 .sub 35 1,mS 9 36] [0,1,2,3,8,9])))))))
(pr [mS 15 8,bC 16 .add 15 1,mS 8 16] [0,1,2,3,8]))))))
theorem Cy(P X Q:List GFound)(f:FuncId)(c:GFound→GFound→Int)(hc:∀x y,Ctr Tryz.prog f [aS x.enc,aS y.enc] [rI (c x y)])(hw:Srt.Swo (ltc c)){a b:Nat}(ha:P.length=a)(hb:(P++X).length=b):CtrI Tryz.prog N3 [oL 6 ((P++X++Q).map GFound.enc),iI a,iI b,fI f] [some (6,(P++Srt.isort (ltc c) X++Q).map GFound.enc)] []:=by
 have hlk:∀k,(P++Srt.isort (ltc c) (X.take k)++(X.drop k++Q)).length=(P++X++Q).length:=fun k=>by simp[Srt.len_isort];omega
 refine Kw (M:=M8) (m:=0) (n:=53) (res:=[]) hmix Tryz.func234 rfl (by kernel_rfl) rfl (by kernel_rfl) (by kernel_rfl) (Nat.le_of_ble_eq_true rfl) rfl rfl ?_;unfold M8
 intro hbd
 have hl:=Ku hbd
 clear hbd
 have hb':b=a+X.length:=by rw[←hb,←ha];simp
 have hbN:b≤(P++X++Q).length:=by rw[List.length_append,hb];omega
 generalize hN:(P++X++Q).length=N at*
 simp only[roomB]at hl
 simp only[go_sem,hN,wN1 (a:=a) (by omega)]
 refine K10 (fun k:Nat=>[(8,vI ((a+k:Nat):Int))]) (fun k=>[(0,⟨1,.row true 6 ((P++Srt.isort (ltc c) (X.take k)++(X.drop k++Q)).map GFound.enc)⟩)]) (fun k=>1≤k∧(k≤X.length∨k=1)) (fun k=>X.length-k) 1 ?_
 simp only[go_sem]
 refine⟨?_,⟨by omega,by omega⟩,?_⟩
 ·simp only[go_sem]
  cases X with
  |nil=>simp[Srt.isort,Srt.mrg]
  |cons x X=>simp[Srt.isort,Srt.mrg,Srt.ins]
 ·rintro k ⟨h1,h2⟩
  simp only[go_sem]
  refine⟨fun hlt=>?_,fun hge=>?_⟩
  ·obtain⟨x,hx⟩:=Kh (show k<X.length by omega)
   refine K10 (ι:=List GFound×Nat) (fun s=>[(9,vI s.2)]) (fun s=>[(0,⟨1,.row true 6 (s.1.map GFound.enc)⟩)]) (fun s=>InsI (ltc c) P (Srt.isort (ltc c) (X.take k)) (X.drop (k+1)++Q) x s.1 s.2) (fun s=>s.2) (P++Srt.isort (ltc c) (X.take k)++(X.drop k++Q),a+k) ?_
   simp only[go_sem]
   refine⟨?_,⟨Srt.isort (ltc c) (X.take k),[],by simp[K13 hx],by simp[Srt.len_isort];omega,by simp,by simp⟩,?_⟩
   ·simp only[go_sem]
   ·rintro ⟨d,j⟩ hI
    simp only at hI
    obtain⟨hd,h3,h4⟩:=hI.len
    have hdN:d.length=N:=by
     have:=hlk k
     simp[K13 hx]at this hd
     omega
    have hdone:(j=P.length∨∀z∈d[j-1]?,ltc c x z=false)→d.map GFound.enc=(P++Srt.isort (ltc c) (X.take (k+1))++(X.drop (k+1)++Q)).map GFound.enc:=fun h=>by
     rw[hI.done hw (Srt.srt_isort hw _) h,Kn hx,Srt.isort_snoc]
    by_cases hj:P.length<j
    ·obtain⟨A,z,C,e,k1,k2,k3⟩:=hI.step hj
     have e':d.map GFound.enc=two (A.map GFound.enc) z.enc [] x.enc (C.map GFound.enc):=by subst e;simp[two]
     have e2:(A++x::([]++z::C)).map GFound.enc=two (A.map GFound.enc) x.enc [] z.enc (C.map GFound.enc):=by simp[two]
     obtain⟨g1,g2,s1,s2,hL,d1,d2⟩:=K7q (A:=A.map GFound.enc) (B:=[]) (C:=C.map GFound.enc) (p:=j-1) (q:=j) (by simpa using k1) (by simp;omega)
     have hL':∀u v,(two (A.map GFound.enc) u [] v (C.map GFound.enc)).length=N:=fun u v=>by
      rw[←hdN,hL,e];simp;omega
     rw[e']
     have j0:(j:Int)>(a:Int):=by omega
     have j1:(0:Int)≤(j:Int):=by omega
     have j2:(j:Int)<(N:Int):=by omega
     have j3:(0:Int)≤((j-1:Nat):Int):=by omega
     have j4:((j-1:Nat):Int)<(N:Int):=by omega
     simp only[go_sem,hL',g1,g2,j0,j1,j2,j3,j4,wS1 (a:=j) (by omega) (by omega)]
     apply K0 (hc x z)
     simp only[go_sem,hL',g1,g2,s1,s2,j1,j2,j3,j4,wS1 (a:=j) (by omega) (by omega),wN1 (a:=a+k) (by omega)]
     intro _
     refine⟨fun hn=>⟨(A++x::([]++z::C),j-1),⟨rfl,e2.symm⟩,k3 (by simpa[ltc]using hn),by show j-1<j;omega⟩,fun hn=>?_⟩
     have hz:ltc c x z=false:=by simpa[ltc]using hn
     have:=hdone (.inr (by rw[k2];intro y hy;obtain rfl:=Option.some.inj hy;exact hz))
     rw[e']at this
     exact⟨k+1,⟨rfl,this⟩,⟨by omega,by omega⟩,by omega⟩
    ·have j0:¬(j:Int)>(a:Int):=by omega
     simp only[go_sem,j0,wN1 (a:=a+k) (by omega)]
     have:=hdone (.inl (by omega))
     exact⟨k+1,⟨rfl,this⟩,⟨by omega,by omega⟩,by omega⟩
  ·have hk:X.length≤k:=by omega
   rw[List.take_of_length_le hk,List.drop_of_length_le hk,List.nil_append]
end Go.Proofs.YtflhjihoifbmfaaGreatR
