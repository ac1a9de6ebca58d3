/- A pure semantics of the program's operations over trees, proved against the model. No condition. -/
import Derived.Below
import Derived.Calls
import Derived.Laws.Closers25b
import Derived.Deep.AppendSrc
import Derived.Deep.Draws
import Derived.ChangeKeysEq
import Derived.Laws.IdiomStrings
import Derived.Laws.BytesArg
import Derived.Laws.CopyRow
import Derived.Laws.Tables
import Derived.Great.FillDense
import Derived.Laws.MakeOwn
import Derived.Laws.AppendOwn
import Derived.Great.BuildSlice
set_option linter.unusedVariables false
set_option linter.unusedSimpArgs false
namespace Go.Proofs.YtjneccbpkckdfaaGreatR
open Go
def wfB:Value→Bool
 |.int k n=>decide (k.min≤n)&&decide (n≤k.max)
 |.string s=>decide (s.size≤9223372036854775807)
 |_=>true
def oneW(v:Value):Bool:=v.oneCell'&&wfB v
theorem K63{v:Value}(h:oneW v=true):v.oneCell'=true:=by simp only[oneW,Bool.and_eq_true]at h;exact h.1
theorem K29{v:Value}(h:oneW v=true):wfB v=true:=by simp only[oneW,Bool.and_eq_true]at h;exact h.2
theorem K1n{k:IntKind}{n:Int}(h:k.min≤n∧n≤k.max):oneW (.int k n)=true:=by simp[oneW,wfB,Value.oneCell',h.1,h.2]
theorem K6x(b:Bool):oneW (.bool b)=true:=rfl
theorem K64{s:ByteArray}(h:s.size≤9223372036854775807):oneW (.string s)=true:=by simp only[oneW,wfB,Value.oneCell',Bool.true_and];exact decide_eq_true h
theorem K3r{k:IntKind}{n:Int}(h:wfB (.int k n)=true):k.min≤n∧n≤k.max:=by simpa[wfB]using h
theorem K8y:IntKind.i64.min= -9223372036854775808:=rfl
theorem K8x:IntKind.i64.max=9223372036854775807:=rfl
inductive T where
 |sc (v:Value)
 |sl (sz:Nat) (es:List (List T))
 |pb (ts:List T)
 |fn (g:FuncId) (cs:List T)
 deriving Inhabited
inductive SC where
 | pl (t : T)                            -- content that nobody writes any more
 | bor (t : T)                           -- content that may lie inside an object of the call's own
 | emp (sz : Nat)                        -- a slice of length 0 and capacity 0
 | ref (id ver sz lo n : Nat)            -- a slice of an object, n elements from lo on
 | clo (g : FuncId) (bs : List (Nat × Nat))   -- a function value that has captured boxes
 deriving Inhabited
inductive Ad where
 |bx (id ver k:Nat)
 |el (id ver sz i k:Nat)
 |ex (bo:Bool) (sz:Nat) (es:List (List T)) (i k:Nat)
 |pb (ts:List T) (k:Nat)
 deriving Inhabited
inductive SV where
 |undef
 | skp                                   -- an operation that was not wanted
 |val (agg:Bool) (cs:List SC)
 |adr (a:Ad)
 |tup (vs:List (Bool×List SC))
 | arr (id ver k n : Nat)                -- a slice of all cells of an array that lies in a variable
 deriving Inhabited
inductive OC where
 |none
 |row (deep:Bool) (sz:Nat) (es:List (List T))
 |lent (sz:Nat) (es:List (List T))
 |box (cs:List SC)
 | hole (sz : Nat) (es : List (List T)) (i k id2 v2 : Nat)   -- a row of one's own, of which one cell is an object of its own for a while
 deriving Inhabited
structure OV where
 ver:Nat
 oc:OC
 deriving Inhabited
structure St where
 s:List (Nat×SV)
 n:Nat
 o:List OV
def lk(k:Nat):List (Nat×SV)→SV
 | []=> .undef
 |x::l=>if k=x.1 then x.2 else lk k l
def ins(k:Nat)(v:SV)(l:List (Nat×SV)):List (Nat×SV):=(k,v)::l
def St.get(σ:St)(k:Nat):SV:=lk k σ.s
def St.ob(σ:St)(id:Nat):OV:=σ.o.getD id ⟨0,.none⟩
def rv(v:Nat):Nat:=if v=1 then 1 else 0
def St.nw(σ:St)(id:Nat):Nat:=(σ.ob id).ver+2
structure Ef where
 d:Option (Nat×SV)
 obs:List (Nat×OV)
def St.app(σ:St)(e:Ef):St:=
 ⟨match e.d with|some (k,v)=>if k<σ.n then ins k v σ.s else σ.s|none=>σ.s,σ.n,e.obs.foldl (fun o x=>o.set x.1 x.2) σ.o⟩
inductive Od where
 |s (k:Nat)
 |c (v:Value)
 |ca (vs:List Value)
 |nil (sz:Nat)
 |f (g:FuncId)
 deriving Inhabited
def St.ev(σ:St):Od→SV
 |.s k=>σ.get k
 |.c v=> .val false [.pl (.sc v)]
 |.ca vs=> .val true (vs.map fun v=> .pl (.sc v))
 |.nil sz=> .val false [.emp sz]
 |.f g=> .val false [.clo g []]
def SV.def_:SV→Option SV
 |.undef=>none
 |v=>some v
def St.evd(σ:St)(x:Od):Option SV:=(σ.ev x).def_
def SV.one:SV→Option SC
 |.val false [c]=>some c
 |_=>none
def SV.all:SV→Option (Bool×List SC)
 |.val a cs=>some (a,cs)
 |_=>none
def SC.sca:SC→Option Value
 |.pl (.sc v)=>some v
 |.bor (.sc v)=>some v
 |_=>none
def St.sca(σ:St)(x:Od):Option Value:=(σ.ev x).one.bind SC.sca
def vInt:Value→Option Int
 |.int .i64 n=>some n
 |_=>none
def vBool:Value→Option Bool
 |.bool b=>some b
 |_=>none
def vStr:Value→Option ByteArray
 |.string s=>some s
 |_=>none
def St.int(σ:St)(x:Od):Option Int:=(σ.sca x).bind vInt
def St.opt(σ:St)(x:Option Od)(d:Int):Option Int:=match x with
 |some l=>σ.int l
 |none=>some d
def cut(lo n:Nat)(es:List (List T)):List (List T):=if lo=0∧n=es.length then es else(es.drop lo).take n
def St.rows(σ:St):SC→Option (Nat×List (List T))
 |.pl (.sl sz es)=>some (sz,es)
 |.bor (.sl sz es)=>some (sz,es)
 |.emp sz=>some (sz,[])
 |.ref id ver sz lo n=>match σ.ob id with
  |⟨v,.row _ sz' es⟩=>if v=ver∧sz=sz'∧lo+n≤es.length then some (sz,cut lo n es)else none
  |⟨v,.lent sz' es⟩=>if v=ver∧sz=sz'∧lo+n≤es.length then some (sz,cut lo n es)else none
  |_=>none
 |_=>none
def St.con1(σ:St):SC→Option T
 |.pl t=>some t
 |.bor t=>some t
 |.emp sz=>some (.sl sz [])
 |.ref id ver sz lo n=>(σ.rows (.ref id ver sz lo n)).map fun x=> .sl x.1 x.2
 |.clo g []=>some (.fn g [])
 |_=>none
def K1{α:Type}:List (Option α)→Option (List α)
 | []=>some []
 |some a::l=>(K1 l).map (a:: ·)
 |none::_=>none
def St.boxed(σ:St)(id ver:Nat):Option T:=match σ.ob id with
 |⟨v,.box cs⟩=>if v=ver then(K1 (cs.map σ.con1)).map .pb else none
 |_=>none
def St.con(σ:St):SC→Option T
 |.clo g bs=>(K1 (bs.map fun b=>σ.boxed b.1 b.2)).map (.fn g)
 |c=>σ.con1 c
inductive Kd where
 |neu
 |own (id:Nat)
 |shr
 deriving Inhabited
def St.emb(σ:St):SC→Option (T×Kd)
 |.pl (.sc v)=>some (.sc v,.neu)
 |.bor (.sc v)=>some (.sc v,.neu)
 |.emp sz=>some (.sl sz [],.neu)
 |.ref id ver sz lo n=>match σ.ob id with
  |⟨v,.row true sz' es⟩=>if v=ver∧sz=sz'∧lo=0∧n=es.length then some (.sl sz es,.own id)else none
  |_=>none
 |.pl t=>some (t,.shr)
 |.bor t=>some (t,.shr)
 |_=>none
def neuO(l:List Kd):Bool:=l.all fun| .shr=>false|_=>true
def neuS(l:List Kd):Bool:=l.all fun| .own _=>false|_=>true
def owns(l:List Kd):List Nat:=l.filterMap fun| .own id=>some id|_=>none
def St.lend(σ:St)(ids:List Nat):List (Nat×OV):=ids.map fun id=>(id,match σ.ob id with
 |⟨v,.row _ sz es⟩=>⟨v,.lent sz es⟩
 |o=>o)
def binI(op:BinOp)(k:IntKind)(x y:Int):Option Value:=
 match op with
 |.add=>some (.int k (k.wrap (x+y)))
 |.sub=>some (.int k (k.wrap (x-y)))
 |.mul=>some (.int k (k.wrap (x*y)))
 |.quo=>if y=0 then none else some (.int k (k.wrap (x.tdiv y)))
 |.rem=>if y=0 then none else some (.int k (x.tmod y))
 |.or=>some (.int k (k.wrap (BitVec.ofInt k.bits x|||BitVec.ofInt k.bits y).toNat))
 |.and=>some (.int k (k.wrap (BitVec.ofInt k.bits x&&&BitVec.ofInt k.bits y).toNat))
 |.xor=>some (.int k (k.wrap (BitVec.ofInt k.bits x ^^^ BitVec.ofInt k.bits y).toNat))
 |.eql=>some (.bool (x==y))
 |.neq=>some (.bool (x != y))
 |.lss=>some (.bool (decide (x<y)))
 |.leq=>some (.bool (decide (x≤y)))
 |.gtr=>some (.bool (decide (x>y)))
 |.geq=>some (.bool (decide (x≥y)))
 |_=>none
def binS(op:BinOp)(x y:ByteArray):Option Value:=
 match op with
 |.add=>if x.size+y.size≤9223372036854775807 then some (.string (x++y))else none
 |.eql=>some (.bool (x.toList==y.toList))
 |.neq=>some (.bool !(x.toList==y.toList))
 |_=>none
def binV(bt:Bool)(op:BinOp):Value→Value→Option Value
 |.int k x,.int k' y=>match op with
  |.shl=>if y<0 then none else some (.int k (k.wrap (x*2^(min y.toNat k.bits))))
  |.shr=>if y<0 then none else some (.int k (x.fdiv (2^(min y.toNat k.bits))))
  |_=>if k=k' then binI op k x y else none
 |.string x,.string y=>binS op x y
 |.bool x,.bool y=>if bt then(match op with| .eql=>some (.bool (x==y))| .neq=>some (.bool !(x==y))|_=>none)else none
 |_,_=>none
def unV(op:UnOp):Value→Option Value
 |.bool b=>match op with| .not=>some (.bool !b)|_=>none
 |.int k n=>match op with| .neg=>some (.int k (k.wrap (0-n)))|_=>none
 |_=>none
def K94(mx:Bool):Value→Value→Option Value
 |.int .i64 x,.int .i64 y=>some (.int .i64 (if mx then(if y>x then y else x)else(if y<x then y else x)))
 |_,_=>none
inductive KK where
 |i (k:IntKind)
 |b
 |s
 deriving DecidableEq,Inhabited
def eqB:List KK→List Value→List Value→Option Bool
 | [],[],[]=>some true
 |.i k::ks,.int k1 a::u,.int k2 b::v=>if k1=k∧k2=k then(eqB ks u v).map fun r=>(a==b)&&r else none
 |.b::ks,.bool a::u,.bool b::v=>(eqB ks u v).map fun r=>(a==b)&&r
 |.s::ks,.string a::u,.string b::v=>(eqB ks u v).map fun r=>(a.toList==b.toList)&&r
 |_,_,_=>none
inductive MO where
 |mv (d:Nat) (x:Od)
 |bin (d:Nat) (bt:Bool) (op:BinOp) (x y:Od)
 |eqA (d:Nat) (ne:Bool) (ks:List KK) (x y:Od)
 |un (d:Nat) (op:UnOp) (x:Od)
 |mm (d:Nat) (mx:Bool) (x y:Od)
 |pick (d:Nat) (c a b:Od)
 |len (d:Nat) (str:Bool) (x:Od)
 |alloc (d id:Nat) (zs:List SC)
 |box (d id:Nat) (x:Od)
 |build (d:Nat) (zs:List SC) (ps:List (Nat×Nat×Od))
 |lit (d id sz:Nat) (bytes:Nat) (xs:List Od)
 |load (d:Nat) (agg:Bool) (n:Nat) (a:Od)
 |store (n:Nat) (a x:Od)
 |fld (d:Nat) (a:Od) (off:Nat)
 |idx (d sz:Nat) (x i:Od)
 |idxA (d sz n:Nat) (a i:Od)
 |fldv (d:Nat) (x:Od) (off n:Nat) (agg:Bool)
 |idxs (d:Nat) (x i:Od)
 |mk (d id sz bytes:Nat) (z:List T) (x:Od)
 |app (d id sz bytes:Nat) (x y:Od)
 |slc (d sz:Nat) (x:Od) (lo hi mx:Option Od)
 |slcs (d:Nat) (x:Od) (lo hi:Option Od)
 |ext (d:Nat) (x:Od) (i:Nat)
 |clos (d:Nat) (g:FuncId) (bs:List Nat)
 | closF (d : Nat) (g : FuncId) (k : Nat)      -- a function value whose captured variable nobody writes any more: the variable is given up
 |nilc (d:Nat) (x:Od)
 |convI (d:Nat) (k:IntKind) (x:Od)
 |convS (d:Nat) (x:Od)
 |nilo (d id sz:Nat)
 |call (d:Nat) (ids:List Nat) (f:Od) (xs:List Od)
 | buildO (d : Nat) (zs : List SC) (ps : List (Nat × Nat × Od)) (ns : List (Option Nat))   -- empty parts become rows of one's own
 | loadT (d id2 : Nat) (a : Od)                                            -- a nested row is taken out
 | loadM (d n : Nat) (ids : List Nat) (id : Nat) (a : Od)                  -- an element of a row of one's own is taken out whole; the row is given up
 | callI (d : Nat) (ids : List Nat) (f : Od) (xs : List Od) (ios bks : List Nat)   -- a call that turns objects of the caller's
 | sliA (d n : Nat) (a : Od)                                               -- a variable's array as a slice
 | appA (d id bytes : Nat) (x y : Od)                                      -- such a slice appended to nothing
 | litP (d sz bytes : Nat) (xs : List Od)                                  -- a literal that nobody writes later: it is nobody's own
 | nilp (d : Nat) (ne : Bool) (x : Od)                                     -- a pointer held against nil
 | callP (d : Nat) (f p : Od) (xs : List Od)                               -- a call that is handed the address of a variable, and yields the address of a part of it, or nil
 | callN (d id : Nat) (f : Od) (xs : List Od)                               -- a call that yields the address of a new variable
 | callB (d : Nat) (ids : List Nat) (f p : Od) (xs : List Od)              -- a call that is handed the address of a variable of the caller's, and turns it
 deriving Inhabited
def St.adr(σ:St)(x:Od):Option Ad:=match σ.ev x with
 |.adr a=>some a
 |.val false [.pl (.pb ts)]=>some (.pb ts 0)
 |_=>none
def vw(t:T):SC:=match t with
 |.sc v=> .pl (.sc v)
 |t=> .bor t
def sub{α:Type}(k n:Nat)(l:List α):Option (List α):=if k+n≤l.length then some ((l.drop k).take n)else none
def splice{α:Type}(k:Nat)(l xs:List α):List α:=l.take k++xs++l.drop (k+xs.length)
def St.load(σ:St)(n:Nat):Ad→Option (List SC)
 |.bx id ver k=>match σ.ob id with
  |⟨v,.box cs⟩=>if v=ver then sub k n cs else none
  |_=>none
 |.el id ver sz i k=>match σ.ob id with
  |⟨v,.row _ sz' es⟩=>if v=ver∧sz=sz' then(es[i]?).bind fun e=>(sub k n e).map (·.map vw)else none
  |⟨v,.lent sz' es⟩=>if v=ver∧sz=sz' then(es[i]?).bind fun e=>(sub k n e).map (·.map vw)else none
  |_=>none
 |.ex bo _ es i k=>(es[i]?).bind fun e=>(sub k n e).map (·.map (if bo then vw else .pl))
 |.pb ts k=>(sub k n ts).map (·.map .pl)
def SC.frz:SC→Option T
 |.pl t=>some t
 |.bor (.sc v)=>some (.sc v)
 |_=>none
def St.froz(σ:St)(id ver:Nat):Option T:=match σ.ob id with
 |⟨v,.box cs⟩=>if v=ver then(K1 (cs.map SC.frz)).map .pb else none
 |_=>none
def St.fill(σ:St):List SC→List (Nat×Nat×Od)→Option (List SC)
 |zs,[]=>some zs
 |zs,(off,n,x)::ps=>match (σ.ev x).all with
  |some (_,cs)=>if cs.length=n∧off+n≤zs.length then σ.fill (splice off zs cs) ps else none
  |none=>none
def St.embs(σ:St)(cs:List SC):Option (List T×List Kd):=(K1 (cs.map σ.emb)).map fun l=>(l.map (·.1),l.flatMap fun x=>[x.2])
def flat(es:List (List T)):Bool:=es.all fun e=>e.all fun| .sc _=>true|_=>false
def St.appTo(σ:St)(sz:Nat):SC→Option (Option Nat×Bool×List (List T))
 |.emp sz'=>if sz=sz' then some (none,true,[])else none
 |.ref id v sz' lo n=>match σ.ob id with
  |⟨v',.row dp sz'' es⟩=>if v=v'∧sz=sz'∧sz=sz''∧lo=0∧n≤es.length then some (some id,dp,cut 0 n es)else none
  |_=>none
 |_=>none
def St.drop(σ:St):Option Nat→List (Nat×OV)
 |some id=>[(id,⟨(σ.ob id).ver,.none⟩)]
 |none=>[]
def St.whole(σ:St):SC→Option (Nat×Bool)
 |.ref id v _ lo n=>match σ.ob id with
  |⟨v',.row dp _ es⟩=>if v=v'∧lo=0∧n=es.length then some (id,dp)else none
  |_=>none
 |_=>none
def roomB:Nat:=140737488355328
def capB:Nat:=9223372036854775807
def Ln(n cap:Nat):Prop:=n≤cap∧n≤roomB∧cap≤capB
theorem Ln.z(cap:Nat)(h:cap≤capB:=by exact Nat.zero_le _):Ln 0 cap:=⟨Nat.zero_le _,Nat.zero_le _,h⟩
theorem Ln.mono{n m cap:Nat}(h:Ln n cap)(hm:m≤n):Ln m cap:=⟨Nat.le_trans hm h.1,Nat.le_trans hm h.2.1,h.2.2⟩
def byteOf:List T→Option UInt8
 | [.sc (.int .u8 n)]=>if 0≤n∧n<256 then some (UInt8.ofNat n.toNat)else none
 |_=>none
def eff(o:MO)(σ:St):Option Ef:=
 match o with
 |.mv d x=>(σ.evd x).map fun v=>⟨some (d,v),[]⟩
 |.bin d bt op x y=>(σ.sca x).bind fun a=>(σ.sca y).bind fun b=>(binV bt op a b).map fun v=>⟨some (d,.val false [.pl (.sc v)]),[]⟩
 |.eqA d ne ks x y=>(σ.ev x).all.bind fun a=>(σ.ev y).all.bind fun b=>(K1 (a.2.map SC.sca)).bind fun u=>(K1 (b.2.map SC.sca)).bind fun v=>
   if a.1=true∧b.1=true then(eqB ks u v).map fun r=>⟨some (d,.val false [.pl (.sc (.bool (ne != r)))]),[]⟩else none
 |.un d op x=>(σ.sca x).bind fun a=>(unV op a).map fun v=>⟨some (d,.val false [.pl (.sc v)]),[]⟩
 |.mm d mx x y=>(σ.sca x).bind fun a=>(σ.sca y).bind fun b=>(K94 mx a b).map fun v=>⟨some (d,.val false [.pl (.sc v)]),[]⟩
 |.pick d c a b=>((σ.sca c).bind vBool).bind fun t=>(σ.evd (if t then a else b)).map fun v=>⟨some (d,v),[]⟩
 |.len d str x=>(σ.ev x).one.bind fun c=>if str then(c.sca.bind vStr).map fun s=>⟨some (d,.val false [.pl (.sc (.int .i64 s.size))]),[]⟩
  else(σ.rows c).map fun r=>⟨some (d,.val false [.pl (.sc (.int .i64 r.2.length))]),[]⟩
 |.alloc d id zs=>if id<σ.o.length then some ⟨some (d,.adr (.bx id (σ.nw id) 0)),[(id,⟨σ.nw id,.box zs⟩)]⟩else none
 |.box d id x=>(σ.ev x).all.bind fun a=>if id<σ.o.length then some ⟨some (d,.adr (.bx id (σ.nw id) 0)),[(id,⟨σ.nw id,.box a.2⟩)]⟩else none
 |.build d zs ps=>(σ.fill zs ps).map fun cs=>⟨some (d,.val true cs),[]⟩
 |.lit d id sz bytes xs=>(K1 (xs.map fun x=>(σ.ev x).all.bind fun a=>σ.embs a.2)).bind fun l=>
   let es:=l.map (·.1)
   let ks:=l.flatMap (·.2)
   if id<σ.o.length∧(es.all fun e=>e.length=sz)∧(owns ks).Nodup∧¬id∈owns ks∧es.length*bytes≤roomB then
    if neuO ks then some ⟨some (d,.val false [.ref id (σ.nw id) sz 0 es.length]),(id,⟨σ.nw id,.row true sz es⟩)::σ.lend (owns ks)⟩
    else if neuS ks then some ⟨some (d,.val false [.ref id (σ.nw id) sz 0 es.length]),[(id,⟨σ.nw id,.row false sz es⟩)]⟩else none
   else none
 |.litP d sz bytes xs=>(K1 (xs.map fun x=>(σ.ev x).all.bind fun a=>σ.embs a.2)).bind fun l=>
   let es:=l.map (·.1)
   if (es.all fun e=>e.length=sz)∧flat es∧neuS (l.flatMap (·.2))∧es.length*bytes≤roomB then some ⟨some (d,.val false [.pl (.sl sz es)]),[]⟩else none
 |.load d agg n a=>(σ.adr a).bind fun a=>(σ.load n a).bind fun cs=>if agg=true∨n=1 then some ⟨some (d,.val agg cs),[]⟩else none
 |.store n a x=>(σ.adr a).bind fun a=>(σ.ev x).all.bind fun v=>if v.2.length=n then match a with
   |.bx id ver k=>match σ.ob id with
    |⟨v',.box cs⟩=>if v'=ver∧k+n≤cs.length then some ⟨none,[(id,⟨ver,.box (splice k cs v.2)⟩)]⟩else none
    |_=>none
   |.el id ver sz i k=>match σ.ob id with
    |⟨v',.row dp sz' es⟩=>if v'=ver∧sz=sz' then(es[i]?).bind fun e=>(σ.embs v.2).bind fun t=>
      if k+n≤e.length∧(owns t.2).Nodup∧¬id∈owns t.2∧(if dp then neuO t.2 else neuS t.2)then
       some ⟨none,(id,⟨ver,.row dp sz (es.set i (splice k e t.1))⟩)::σ.lend (owns t.2)⟩else none else none
    |_=>none
   |_=>none else none
 |.fld d a off=>(σ.adr a).bind fun a=>match a with
  |.bx id ver k=>some ⟨some (d,.adr (.bx id ver (k+off))),[]⟩
  |.el id ver sz i k=>some ⟨some (d,.adr (.el id ver sz i (k+off))),[]⟩
  |.ex bo sz es i k=>some ⟨some (d,.adr (.ex bo sz es i (k+off))),[]⟩
  |.pb ts k=>some ⟨some (d,.adr (.pb ts (k+off))),[]⟩
 |.idx d sz x i=>(σ.ev x).one.bind fun c=>(σ.int i).bind fun i=>(σ.rows c).bind fun r=>if r.1=sz∧0≤i∧i<r.2.length then match c with
  |.pl _=>some ⟨some (d,.adr (.ex false sz r.2 i.toNat 0)),[]⟩
  |.bor _=>some ⟨some (d,.adr (.ex true sz r.2 i.toNat 0)),[]⟩
  |.ref id ver _ lo _=>some ⟨some (d,.adr (.el id ver sz (lo+i.toNat) 0)),[]⟩
  |_=>none else none
 |.idxA d sz n a i=>(σ.adr a).bind fun a=>(σ.int i).bind fun i=>match a with
  |.bx id ver k=>if 0≤i∧i<n then some ⟨some (d,.adr (.bx id ver (k+i.toNat*sz))),[]⟩else none
  |_=>none
 |.fldv d x off n agg=>(σ.ev x).all.bind fun a=>(sub off n a.2).bind fun cs=>if a.1=true∧(agg=true∨n=1)then some ⟨some (d,.val agg cs),[]⟩else none
 |.idxs d x i=>((σ.sca x).bind vStr).bind fun s=>(σ.int i).bind fun i=>if 0≤i then(s[i.toNat]?).map fun b=>⟨some (d,.val false [.pl (.sc (.int .u8 b.toNat))]),[]⟩else none
 |.mk d id sz bytes z x=>(σ.int x).bind fun n=>if id<σ.o.length∧z.length=sz∧0≤n∧n*bytes≤(roomB:Int)then
   some ⟨some (d,.val false [.ref id (σ.nw id) sz 0 n.toNat]),[(id,⟨σ.nw id,.row true sz (List.replicate n.toNat z)⟩)]⟩else none
 |.app d id sz bytes x y=>(σ.ev x).one.bind fun c=>(σ.ev y).one.bind fun c'=>(σ.rows c').bind fun r=>(σ.appTo sz c).bind fun b=>
   if r.1=sz∧id<σ.o.length∧(b.2.2.length+r.2.length)*bytes≤roomB then
    if flat r.2 then some ⟨some (d,.val false [.ref id (σ.nw id) sz 0 (b.2.2.length+r.2.length)]),σ.drop b.1++[(id,⟨σ.nw id,.row b.2.1 sz (b.2.2++r.2)⟩)]⟩
    else match σ.whole c' with
     |some (id',true)=>if id'≠id∧b.1≠some id'∧b.2.1=true then
       some ⟨some (d,.val false [.ref id (σ.nw id) sz 0 (b.2.2.length+r.2.length)]),σ.drop b.1++(id,⟨σ.nw id,.row true sz (b.2.2++r.2)⟩)::σ.lend [id']⟩else none
     |_=>if b.2.2=[]∨b.2.1=false then
       some ⟨some (d,.val false [.ref id (σ.nw id) sz 0 (b.2.2.length+r.2.length)]),σ.drop b.1++[(id,⟨σ.nw id,.row false sz (b.2.2++r.2)⟩)]⟩else none
   else none
 |.slc d sz x lo hi mx=>(σ.ev x).one.bind fun c=>(σ.opt lo 0).bind fun lo=>(σ.rows c).bind fun r=>
   (σ.opt hi r.2.length).bind fun hi=>match mx with
    |some m=>(σ.int m).bind fun m=>if lo=0∧hi=0∧m=0 then some ⟨some (d,.val false [.emp sz]),[]⟩else none
    |none=>if r.1=sz∧0≤lo∧lo≤hi∧hi≤r.2.length then match c with
     |.ref id ver sz' lo' _=>some ⟨some (d,.val false [.ref id ver sz' (lo'+lo.toNat) (hi-lo).toNat]),[]⟩
     |.pl _=>some ⟨some (d,.val false [.pl (.sl sz (cut lo.toNat (hi-lo).toNat r.2))]),[]⟩
     |.bor _=>some ⟨some (d,.val false [.bor (.sl sz (cut lo.toNat (hi-lo).toNat r.2))]),[]⟩
     |.emp _=>some ⟨some (d,.val false [.emp sz]),[]⟩
     |_=>none else none
 |.slcs d x lo hi=>((σ.sca x).bind vStr).bind fun s=>(σ.opt lo 0).bind fun lo=>
   (σ.opt hi s.size).bind fun hi=>
    if 0≤lo∧lo≤hi∧hi≤s.size then some ⟨some (d,.val false [.pl (.sc (.string (s.extract lo.toNat hi.toNat)))]),[]⟩else none
 |.ext d x i=>match σ.ev x with
  |.tup vs=>(vs[i]?).map fun v=>⟨some (d,.val v.1 v.2),[]⟩
  |_=>none
 |.clos d g bs=>(K1 (bs.map fun k=>match σ.get k with| .adr (.bx id ver 0)=>some (id,ver)|_=>none)).map fun l=>⟨some (d,.val false [.clo g l]),[]⟩
 |.closF d g k=>match σ.get k with
  |.adr (.bx id ver 0)=>(σ.froz id ver).map fun t=>⟨some (d,.val false [.pl (.fn g [t])]),[(id,⟨ver,.none⟩)]⟩
  |_=>none
 |.nilc d x=>(σ.adr x).map fun a=>⟨some (d,.adr a),[]⟩
 |.convS d x=>(σ.ev x).one.bind fun c=>(σ.rows c).bind fun r=>if r.1=1 then(K1 (r.2.map byteOf)).map fun l=>⟨some (d,.val false [.pl (.sc (.string ⟨l.toArray⟩))]),[]⟩else none
 |.nilo d id sz=>if id<σ.o.length then some ⟨some (d,.val false [.ref id (σ.nw id) sz 0 0]),[(id,⟨σ.nw id,.row true sz []⟩)]⟩else none
 |.convI d k x=>(σ.sca x).bind fun v=>match v with
  |.int _ n=>some ⟨some (d,.val false [.pl (.sc (.int k (k.wrap n)))]),[]⟩
  |_=>none
 |.call ..=>none
 |.loadT ..=>none
 |.loadM ..=>none
 |.callI ..=>none
 |.buildO ..=>none
 |.callB ..=>none
 |.callP ..=>none
 |.callN ..=>none
 |.sliA d n a=>(σ.adr a).bind fun a=>match a with
  |.bx id ver k=>some ⟨some (d,.arr id ver k n),[]⟩
  |_=>none
 |.appA d id bytes x y=>(σ.ev x).one.bind fun c=>match c with
  |.emp 1=>match σ.ev y with
   |.arr id2 ver k n=>match σ.ob id2 with
    |⟨v,.box cs⟩=>if v=ver∧k+n≤cs.length∧0<n∧id<σ.o.length∧n*bytes≤roomB then
      (K1 (((cs.drop k).take n).map SC.sca)).map fun l=>⟨some (d,.val false [.ref id (σ.nw id) 1 0 l.length]),[(id,⟨σ.nw id,.row true 1 (l.map fun v=>[.sc v])⟩)]⟩else none
    |_=>none
   |_=>none
  |_=>none
 |.nilp d ne x=>match σ.ev x with
  |.adr (.bx _ _ _)=>some ⟨some (d,.val false [.pl (.sc (.bool ne))]),[]⟩
  |.val false [.pl (.sc (.pointer none))]=>some ⟨some (d,.val false [.pl (.sc (.bool !ne))]),[]⟩
  |_=>none
structure RV where
 agg:Bool
 cs:List (Bool×T)
 deriving Inhabited
inductive Md where
 |e
 |b
 |a
 deriving DecidableEq,Inhabited
def Md.join:Md→Md→Md
 |.a,_=> .a
 |_,.a=> .a
 |.b,_=> .b
 |_,.b=> .b
 |.e,.e=> .e
def SC.md(σ:St):SC→Md
 |.pl _=> .e
 |.bor (.sc _)=> .e
 |.bor _=> .b
 |.emp _=> .e
 |.ref id ..=>match (σ.ob id).oc with
  |.lent ..=> .b
  |_=> .a
 |.clo _ []=> .e
 |.clo _ _=> .a
def mdAll(σ:St):List SC→Md
 | []=> .e
 |c::cs=>(c.md σ).join (mdAll σ cs)
def SV.md(σ:St):SV→Md
 |.val _ cs=>mdAll σ cs
 |.adr (.pb ..)=> .e
 |_=> .a
def St.mode(σ:St):List Od→Md
 | []=> .e
 |x::xs=>((σ.ev x).md σ).join (σ.mode xs)
def extC(m:Md):T→Option SC
 |.sc v=>some (.pl (.sc v))
 |t=>match m with
  |.e=>some (.pl t)
  |.b=>some (.bor t)
  |.a=>none
def place(σ:St)(m:Md):List Nat→List (Bool×T)→Option (List SC×List (Nat×OV)×List Nat)
 |ids,[]=>some ([],[],ids)
 |ids,(false,t)::l=>(extC m t).bind fun c=>(place σ m ids l).map fun x=>(c::x.1,x.2.1,x.2.2)
 |id::ids,(true,.sl sz es)::l=>if id<σ.o.length then
   (place σ m ids l).map fun x=>(.ref id (σ.nw id) sz 0 es.length::x.1,(id,⟨σ.nw id,.row true sz es⟩)::x.2.1,x.2.2)else none
 |_,(true,_)::_=>none
def K15(σ:St)(m:Md):List Nat→List RV→Option (List (Bool×List SC)×List (Nat×OV)×List Nat)
 |ids,[]=>some ([],[],ids)
 |ids,r::rs=>(place σ m ids r.cs).bind fun x=>(K15 σ m x.2.2 rs).map fun y=>((r.agg,x.1)::y.1,x.2.1++y.2.1,y.2.2)
def K1f:List (Bool×List SC)→SV
 | [v]=> .val v.1 v.2
 |vs=> .tup vs
def distinct:List Nat→Bool
 | []=>true
 |k::l=> !l.contains k&&distinct l
def K66(σ:St)(m:Md)(d:Nat)(ids:List Nat)(rs:List RV):Option Ef:=
 if distinct ids then(K15 σ m ids rs).map fun x=>⟨some (d,K1f x.1),x.2.1⟩else none
def SV.arg(σ:St):SV→Option (Bool×List T)
 |.val a cs=>(K1 (cs.map σ.con)).map fun ts=>(a,ts)
 |.adr (.bx id ver 0)=>(σ.boxed id ver).map fun t=>(false,[t])
 |.adr (.pb ts 0)=>some (false,[.pb ts])
 |_=>none
def St.args(σ:St)(xs:List Od):Option (List (Bool×List T)):=K1 (xs.map fun x=>(σ.ev x).arg σ)
def St.callee(σ:St)(f:Od):Option (FuncId×List (Bool×List T)):=match (σ.ev f).one with
 |some (.clo g bs)=>(K1 (bs.map fun b=>σ.boxed b.1 b.2)).map fun l=>(g,l.map fun t=>(false,[t]))
 |some (.pl (.fn g cs))=>some (g,cs.map fun t=>(false,[t]))
 |some (.bor (.fn g cs))=>some (g,cs.map fun t=>(false,[t]))
 |_=>none
def TabW:World→Prop:=fun _=>True
end Go.Proofs.YtjneccbpkckdfaaGreatR
namespace Go.Proofs.YtjneccbpkckdfaaGreatR
open Go Go.RowKit
mutual
def Rd(w:World)(X:Nat→Prop):T→Value→Prop
 |.sc v0,v=>v=v0∧oneW v=true
 |.sl sz es,v=>∃A cap,v= .slice A es.length cap∧Ln es.length cap∧(es=[]∨∃b off,A=some ⟨b,off,none⟩∧X b∧b<w.heap.size∧RdRow w X sz b off es)
 |.pb ts,v=>∃b,v= .pointer (some ⟨b,0,none⟩)∧X b∧b<w.heap.size∧RdEl w X b 0 ts
 |.fn g cs,v=>∃cvs:List Value,v= .func (.func g) #[] cvs.toArray∧RdL w X cs cvs
def RdRow(w:World)(X:Nat→Prop)(sz b:Nat):Nat→List (List T)→Prop
 |_,[]=>True
 |off,e::es=>e.length=sz∧RdEl w X b off e∧RdRow w X sz b (off+sz) es
def RdEl(w:World)(X:Nat→Prop)(b:Nat):Nat→List T→Prop
 |_,[]=>True
 |off,t::ts=>(∃v,w.cell? ⟨b,off,none⟩=some v∧Rd w X t v)∧RdEl w X b (off+1) ts
def RdL(w:World)(X:Nat→Prop):List T→List Value→Prop
 | [],[]=>True
 |t::ts,v::vs=>Rd w X t v∧RdL w X ts vs
 |_,_=>False
end
mutual
def Ow(w:World):T→Value→List Nat→Prop
 |.sc v0,v,F=>v=v0∧oneW v=true∧F=[]
 |.sl sz es,v,F=>∃A cap,v= .slice A es.length cap∧Ln es.length cap∧
   ((cap=0∧es=[]∧F=[])∨∃b off row ty G,A=some ⟨b,off,none⟩∧w.heap[b]? =some (.cells row ty (0,0))∧off+cap*sz≤row.size∧OwRow w sz b off es G∧F=b::G)
 |.pb _,_,_=>False
 |.fn _ _,_,_=>False
def OwRow(w:World)(sz b:Nat):Nat→List (List T)→List Nat→Prop
 |_,[],G=>G=[]
 |off,e::es,G=>e.length=sz∧∃G1 G2,OwEl w b off e G1∧OwRow w sz b (off+sz) es G2∧G=G1++G2
def OwEl(w:World)(b:Nat):Nat→List T→List Nat→Prop
 |_,[],G=>G=[]
 |off,t::ts,G=>∃v G1 G2,w.cell? ⟨b,off,none⟩=some v∧Ow w t v G1∧OwEl w b (off+1) ts G2∧G=G1++G2
end
theorem Kf{w w':World}{b:Nat}(h:w'.heap[b]? =w.heap[b]?)(o:Nat):w'.cell? ⟨b,o,none⟩=w.cell? ⟨b,o,none⟩:=by
 simp only[World.cell?,h]
theorem K1g{w:World}{b:Nat}{o:Obj}(h:w.heap[b]? =some o):b<w.heap.size:=(Array.getElem?_eq_some_iff.1 h).1
def Kp(w w':World)(X X':Nat→Prop):Prop:=w.heap.size≤w'.heap.size∧∀b,X b→b<w.heap.size→w'.heap[b]? =w.heap[b]? ∧X' b
mutual
theorem Rd.keep{w w':World}{X X':Nat→Prop}(h:Kp w w' X X'):∀(t:T) (v:Value),Rd w X t v→Rd w' X' t v
 |.sc _,_,hr=>by simpa only[Rd]using hr
 |.sl sz es,v,hr=>by
  simp only[Rd]at hr ⊢
  obtain⟨A,cap,hv,hl,h1⟩:=hr
  refine⟨A,cap,hv,hl,?_⟩
  rcases h1 with h1|⟨b,off,hA,hX,hb,hrow⟩
  ·exact .inl h1
  ·exact .inr ⟨b,off,hA,(h.2 b hX hb).2,Nat.lt_of_lt_of_le hb h.1,RdRow.move h es off off (fun j _=>Kf (h.2 b hX hb).1 _) hrow⟩
 |.pb ts,v,hr=>by
  simp only[Rd]at hr ⊢
  obtain⟨b,hv,hX,hb,hrow⟩:=hr
  exact⟨b,hv,(h.2 b hX hb).2,Nat.lt_of_lt_of_le hb h.1,RdEl.move h ts 0 0 (fun j _=>Kf (h.2 b hX hb).1 _) hrow⟩
 |.fn g cs,v,hr=>by
  simp only[Rd]at hr ⊢
  obtain⟨cvs,hv,hl⟩:=hr
  exact⟨cvs,hv,RdL.keep h cs cvs hl⟩
theorem RdRow.move{w w':World}{X X':Nat→Prop}(h:Kp w w' X X'){sz b b':Nat}:∀(es:List (List T)) (off off':Nat),
  (∀j,j<es.length*sz→w'.cell? ⟨b',off'+j,none⟩=w.cell? ⟨b,off+j,none⟩)→RdRow w X sz b off es→RdRow w' X' sz b' off' es
 | [],_,_,_,_=>by simp only[RdRow]
 |e::es,off,off',hc,hr=>by
  simp only[RdRow]at hr ⊢
  have hm:(e::es).length*sz=sz+es.length*sz:=by rw[List.length_cons,Nat.add_mul,Nat.one_mul,Nat.add_comm]
  refine⟨hr.1,RdEl.move h e off off' (fun j hj=>hc j (by rw[hm];omega)) hr.2.1,RdRow.move h es (off+sz) (off'+sz) (fun j hj=>?_) hr.2.2⟩
  have:=hc (sz+j) (by rw[hm];omega)
  rw[←Nat.add_assoc,←Nat.add_assoc]at this
  exact this
theorem RdEl.move{w w':World}{X X':Nat→Prop}(h:Kp w w' X X'){b b':Nat}:∀(ts:List T) (off off':Nat),
  (∀j,j<ts.length→w'.cell? ⟨b',off'+j,none⟩=w.cell? ⟨b,off+j,none⟩)→RdEl w X b off ts→RdEl w' X' b' off' ts
 | [],_,_,_,_=>by simp only[RdEl]
 |t::ts,off,off',hc,hr=>by
  simp only[RdEl]at hr ⊢
  obtain⟨⟨v,hv,ht⟩,hr⟩:=hr
  refine⟨⟨v,(hc 0 (by simp)).trans hv,Rd.keep h t v ht⟩,RdEl.move h ts (off+1) (off'+1) (fun j hj=>?_) hr⟩
  have:=hc (1+j) (by simp;omega)
  rw[←Nat.add_assoc,←Nat.add_assoc]at this
  exact this
theorem RdL.keep{w w':World}{X X':Nat→Prop}(h:Kp w w' X X'):∀(ts:List T) (vs:List Value),RdL w X ts vs→RdL w' X' ts vs
 | [],[],_=>by simp only[RdL]
 |t::ts,v::vs,hr=>by
  simp only[RdL]at hr ⊢
  exact⟨Rd.keep h t v hr.1,RdL.keep h ts vs hr.2⟩
 | [],_::_,hr=>by simp only[RdL]at hr
 |_::_,[],hr=>by simp only[RdL]at hr
end
mutual
theorem Ow.keep{w w':World}:∀(t:T) (v:Value) (F:List Nat),(∀b∈F,w'.heap[b]? =w.heap[b]?)→Ow w t v F→Ow w' t v F
 |.sc _,_,_,_,hr=>by simpa only[Ow]using hr
 |.sl sz es,v,F,h,hr=>by
  simp only[Ow]at hr ⊢
  obtain⟨A,cap,hv,hl,h1⟩:=hr
  refine⟨A,cap,hv,hl,?_⟩
  rcases h1 with h1|⟨b,off,row,ty,G,hA,hb,hs,hrow,hF⟩
  ·exact .inl h1
  ·subst hF
   have hb':=h b (by simp)
   exact .inr ⟨b,off,row,ty,G,hA,hb'.trans hb,hs,OwRow.move es off off G (fun j _=>Kf hb' _) (fun b' hb''=>h b' (by simp[hb''])) hrow,rfl⟩
 |.pb _,_,_,_,hr=>by simp only[Ow]at hr
 |.fn _ _,_,_,_,hr=>by simp only[Ow]at hr
theorem OwRow.move{w w':World}{sz b b':Nat}:∀(es:List (List T)) (off off':Nat) (G:List Nat),
  (∀j,j<es.length*sz→w'.cell? ⟨b',off'+j,none⟩=w.cell? ⟨b,off+j,none⟩)→(∀b∈G,w'.heap[b]? =w.heap[b]?)→OwRow w sz b off es G→OwRow w' sz b' off' es G
 | [],_,_,_,_,_,hr=>by simpa only[OwRow]using hr
 |e::es,off,off',G,hc,h,hr=>by
  simp only[OwRow]at hr ⊢
  obtain⟨hl,G1,G2,h1,h2,rfl⟩:=hr
  have hm:(e::es).length*sz=sz+es.length*sz:=by rw[List.length_cons,Nat.add_mul,Nat.one_mul,Nat.add_comm]
  refine⟨hl,G1,G2,OwEl.move e off off' G1 (fun j hj=>hc j (by rw[hm];omega)) (fun b hb=>h b (by simp[hb])) h1,OwRow.move es (off+sz) (off'+sz) G2 (fun j hj=>?_) (fun b hb=>h b (by simp[hb])) h2,rfl⟩
  have:=hc (sz+j) (by rw[hm];omega)
  rw[←Nat.add_assoc,←Nat.add_assoc]at this
  exact this
theorem OwEl.move{w w':World}{b b':Nat}:∀(ts:List T) (off off':Nat) (G:List Nat),
  (∀j,j<ts.length→w'.cell? ⟨b',off'+j,none⟩=w.cell? ⟨b,off+j,none⟩)→(∀b∈G,w'.heap[b]? =w.heap[b]?)→OwEl w b off ts G→OwEl w' b' off' ts G
 | [],_,_,_,_,_,hr=>by simpa only[OwEl]using hr
 |t::ts,off,off',G,hc,h,hr=>by
  simp only[OwEl]at hr ⊢
  obtain⟨v,G1,G2,hv,h1,h2,rfl⟩:=hr
  refine⟨v,G1,G2,(hc 0 (by simp)).trans hv,Ow.keep t v G1 (fun b hb=>h b (by simp[hb])) h1,OwEl.move ts (off+1) (off'+1) G2 (fun j hj=>?_) (fun b hb=>h b (by simp[hb])) h2,rfl⟩
  have:=hc (1+j) (by simp;omega)
  rw[←Nat.add_assoc,←Nat.add_assoc]at this
  exact this
end
mutual
theorem Ow.rd{w:World}{X:Nat→Prop}:∀(t:T) (v:Value) (F:List Nat),(∀b∈F,X b)→Ow w t v F→Rd w X t v
 |.sc _,_,_,_,hr=>by simp only[Ow]at hr;simp only[Rd];exact⟨hr.1,hr.2.1⟩
 |.sl sz es,v,F,h,hr=>by
  simp only[Ow]at hr;simp only[Rd]
  obtain⟨A,cap,hv,hl,h1⟩:=hr
  refine⟨A,cap,hv,hl,?_⟩
  rcases h1 with h1|⟨b,off,row,ty,G,hA,hb,hs,hrow,hF⟩
  ·exact .inl h1.2.1
  ·subst hF
   exact .inr ⟨b,off,hA,h b (by simp),K1g hb,OwRow.rd es off G (fun b' hb'=>h b' (by simp[hb'])) hrow⟩
 |.pb _,_,_,_,hr=>by simp only[Ow]at hr
 |.fn _ _,_,_,_,hr=>by simp only[Ow]at hr
theorem OwRow.rd{w:World}{X:Nat→Prop}{sz b:Nat}:∀(es:List (List T)) (off:Nat) (G:List Nat),(∀b∈G,X b)→OwRow w sz b off es G→RdRow w X sz b off es
 | [],_,_,_,_=>by simp only[RdRow]
 |e::es,off,G,h,hr=>by
  simp only[OwRow]at hr;simp only[RdRow]
  obtain⟨hl,G1,G2,h1,h2,rfl⟩:=hr
  exact⟨hl,OwEl.rd e off G1 (fun b hb=>h b (by simp[hb])) h1,OwRow.rd es (off+sz) G2 (fun b hb=>h b (by simp[hb])) h2⟩
theorem OwEl.rd{w:World}{X:Nat→Prop}{b:Nat}:∀(ts:List T) (off:Nat) (G:List Nat),(∀b∈G,X b)→OwEl w b off ts G→RdEl w X b off ts
 | [],_,_,_,_=>by simp only[RdEl]
 |t::ts,off,G,h,hr=>by
  simp only[OwEl]at hr;simp only[RdEl]
  obtain⟨v,G1,G2,hv,h1,h2,rfl⟩:=hr
  exact⟨⟨v,hv,Ow.rd t v G1 (fun b hb=>h b (by simp[hb])) h1⟩,OwEl.rd ts (off+1) G2 (fun b hb=>h b (by simp[hb])) h2⟩
end
mutual
theorem Ow.lt{w:World}:∀(t:T) (v:Value) (F:List Nat),Ow w t v F→∀b∈F,b<w.heap.size
 |.sc _,_,_,hr=>by simp only[Ow]at hr;simp[hr.2.2]
 |.sl sz es,v,F,hr=>by
  simp only[Ow]at hr
  obtain⟨A,cap,hv,hl,h1⟩:=hr
  rcases h1 with h1|⟨b,off,row,ty,G,hA,hb,hs,hrow,hF⟩
  ·simp[h1.2.2]
  ·subst hF
   intro b' hb'
   rcases List.mem_cons.1 hb' with rfl|hb'
   ·exact K1g hb
   ·exact OwRow.lt es off G hrow b' hb'
 |.pb _,_,_,hr=>by simp only[Ow]at hr
 |.fn _ _,_,_,hr=>by simp only[Ow]at hr
theorem OwRow.lt{w:World}{sz b:Nat}:∀(es:List (List T)) (off:Nat) (G:List Nat),OwRow w sz b off es G→∀b∈G,b<w.heap.size
 | [],_,_,hr=>by simp only[OwRow]at hr;simp[hr]
 |e::es,off,G,hr=>by
  simp only[OwRow]at hr
  obtain⟨hl,G1,G2,h1,h2,rfl⟩:=hr
  intro b' hb'
  rcases List.mem_append.1 hb' with hb'|hb'
  ·exact OwEl.lt e off G1 h1 b' hb'
  ·exact OwRow.lt es (off+sz) G2 h2 b' hb'
theorem OwEl.lt{w:World}{b:Nat}:∀(ts:List T) (off:Nat) (G:List Nat),OwEl w b off ts G→∀b∈G,b<w.heap.size
 | [],_,_,hr=>by simp only[OwEl]at hr;simp[hr]
 |t::ts,off,G,hr=>by
  simp only[OwEl]at hr
  obtain⟨v,G1,G2,hv,h1,h2,rfl⟩:=hr
  intro b' hb'
  rcases List.mem_append.1 hb' with hb'|hb'
  ·exact Ow.lt t v G1 h1 b' hb'
  ·exact OwEl.lt ts (off+1) G2 h2 b' hb'
end
mutual
def bdT:T→Prop
 |.sc v=>wfB v=true
 |.sl _ es=>es.length≤roomB∧bdR es
 |.pb ts=>bdL ts
 |.fn _ cs=>bdL cs
def bdR:List (List T)→Prop
 | []=>True
 |e::es=>bdL e∧bdR es
def bdL:List T→Prop
 | []=>True
 |t::ts=>bdT t∧bdL ts
end
mutual
theorem Rd.bd{w:World}{X:Nat→Prop}:∀(t:T) (v:Value),Rd w X t v→bdT t
 |.sc _,_,h=>by simp only[Rd]at h;simp only[bdT];rw[←h.1];exact K29 h.2
 |.sl _ es,_,h=>by
  simp only[Rd]at h;simp only[bdT]
  obtain⟨A,cap,hv,hl,h⟩:=h
  refine⟨hl.2.1,?_⟩
  rcases h with h|⟨b,off,_,_,_,h⟩
  ·subst h;simp only[bdR]
  ·exact RdRow.bd es off h
 |.pb ts,_,h=>by
  simp only[Rd]at h;simp only[bdT]
  obtain⟨b,_,_,_,h⟩:=h
  exact RdEl.bd ts 0 h
 |.fn _ cs,_,h=>by
  simp only[Rd]at h;simp only[bdT]
  obtain⟨cvs,_,h⟩:=h
  exact RdL.bd cs cvs h
theorem RdRow.bd{w:World}{X:Nat→Prop}{sz b:Nat}:∀(es:List (List T)) (off:Nat),RdRow w X sz b off es→bdR es
 | [],_,_=>by simp only[bdR]
 |e::es,off,h=>by
  simp only[RdRow]at h;simp only[bdR]
  exact⟨RdEl.bd e off h.2.1,RdRow.bd es _ h.2.2⟩
theorem RdEl.bd{w:World}{X:Nat→Prop}{b:Nat}:∀(ts:List T) (off:Nat),RdEl w X b off ts→bdL ts
 | [],_,_=>by simp only[bdL]
 |t::ts,off,h=>by
  simp only[RdEl]at h;simp only[bdL]
  obtain⟨⟨v,_,h1⟩,h2⟩:=h
  exact⟨Rd.bd t v h1,RdEl.bd ts _ h2⟩
theorem RdL.bd{w:World}{X:Nat→Prop}:∀(ts:List T) (vs:List Value),RdL w X ts vs→bdL ts
 | [],[],_=>by simp only[bdL]
 |t::ts,v::vs,h=>by
  simp only[RdL]at h;simp only[bdL]
  exact⟨Rd.bd t v h.1,RdL.bd ts vs h.2⟩
 | [],_::_,h=>by simp only[RdL]at h
 |_::_,[],h=>by simp only[RdL]at h
end
theorem bdR_iff{es:List (List T)}:bdR es↔∀e∈es,bdL e:=by
 induction es with
 |nil=>simp[bdR]
 |cons e es ih=>simp[bdR,ih]
theorem K1x{w:World}{X:Nat→Prop}{b:Nat}:∀(l m:List T) (off:Nat),RdEl w X b off (l++m)↔RdEl w X b off l∧RdEl w X b (off+l.length) m
 | [],m,off=>by simp[RdEl]
 |t::l,m,off=>by
  simp only[List.cons_append,RdEl,K1x l m (off+1),List.length_cons,and_assoc]
  rw[show off+1+l.length=off+(l.length+1)by omega]
theorem K1q{w:World}{X:Nat→Prop}{sz b:Nat}:∀(l m:List (List T)) (off:Nat),RdRow w X sz b off (l++m)↔RdRow w X sz b off l∧RdRow w X sz b (off+l.length*sz) m
 | [],m,off=>by simp[RdRow]
 |e::l,m,off=>by
  simp only[List.cons_append,RdRow,K1q l m (off+sz),List.length_cons,and_assoc]
  rw[show off+sz+l.length*sz=off+(l.length+1)*sz by rw[Nat.add_mul];omega]
theorem K1w{w:World}{b:Nat}:∀(l m:List T) (off:Nat) (G:List Nat),OwEl w b off (l++m) G↔∃G1 G2,OwEl w b off l G1∧OwEl w b (off+l.length) m G2∧G=G1++G2
 | [],m,off,G=>by simp[OwEl]
 |t::l,m,off,G=>by
  simp only[List.cons_append,OwEl,List.length_cons]
  have e:off+1+l.length=off+(l.length+1):=by omega
  constructor
  ·rintro ⟨v,G1,G2,hv,h1,h2,rfl⟩
   obtain⟨G3,G4,h3,h4,rfl⟩:=(K1w l m (off+1) G2).1 h2
   exact⟨G1++G3,G4,⟨v,G1,G3,hv,h1,h3,rfl⟩,e▸h4,by simp⟩
  ·rintro ⟨_,G4,⟨v,G1,G3,hv,h1,h3,rfl⟩,h4,rfl⟩
   exact⟨v,G1,G3++G4,hv,h1,(K1w l m (off+1) _).2 ⟨G3,G4,h3,e▸h4,rfl⟩,by simp⟩
theorem K11{w:World}{sz b:Nat}:∀(l m:List (List T)) (off:Nat) (G:List Nat),OwRow w sz b off (l++m) G↔∃G1 G2,OwRow w sz b off l G1∧OwRow w sz b (off+l.length*sz) m G2∧G=G1++G2
 | [],m,off,G=>by simp[OwRow]
 |t::l,m,off,G=>by
  simp only[List.cons_append,OwRow,List.length_cons]
  have e:off+sz+l.length*sz=off+(l.length+1)*sz:=by rw[Nat.add_mul];omega
  constructor
  ·rintro ⟨hl,G1,G2,h1,h2,rfl⟩
   obtain⟨G3,G4,h3,h4,rfl⟩:=(K11 l m (off+sz) G2).1 h2
   exact⟨G1++G3,G4,⟨hl,G1,G3,h1,h3,rfl⟩,e▸h4,by simp⟩
  ·rintro ⟨_,G4,⟨hl,G1,G3,h1,h3,rfl⟩,h4,rfl⟩
   exact⟨hl,G1,G3++G4,h1,(K11 l m (off+sz) _).2 ⟨G3,G4,h3,e▸h4,rfl⟩,by simp⟩
theorem K21{α:Type}{l:List α}{i:Nat}{e:α}(h:l[i]? =some e):l=l.take i++e::l.drop (i+1):=by
 obtain⟨hi,rfl⟩:=List.getElem?_eq_some_iff.1 h
 rw[←List.drop_eq_getElem_cons hi,List.take_append_drop]
theorem Kl{α:Type}{l:List α}{i:Nat}{e:α}(h:l[i]? =some e):i<l.length:=(List.getElem?_eq_some_iff.1 h).1
theorem RdRow.at_{w:World}{X:Nat→Prop}{sz b off:Nat}{es:List (List T)}(h:RdRow w X sz b off es){i:Nat}{e:List T}(hi:es[i]? =some e):
  e.length=sz∧RdEl w X b (off+i*sz) e:=by
 rw[K21 hi]at h
 have h:=((K1q _ _ _).1 h).2
 rw[List.length_take,Nat.min_eq_left (Nat.le_of_lt (Kl hi))]at h
 simp only[RdRow]at h
 exact⟨h.1,h.2.1⟩
theorem RdEl.at_{w:World}{X:Nat→Prop}{b off:Nat}{ts:List T}(h:RdEl w X b off ts){i:Nat}{t:T}(hi:ts[i]? =some t):
  ∃v,w.cell? ⟨b,off+i,none⟩=some v∧Rd w X t v:=by
 rw[K21 hi]at h
 have h:=((K1x _ _ _).1 h).2
 rw[List.length_take,Nat.min_eq_left (Nat.le_of_lt (Kl hi))]at h
 simp only[RdEl]at h
 exact h.1
theorem RdEl.sub_{w:World}{X:Nat→Prop}{b off:Nat}{ts:List T}(h:RdEl w X b off ts)(k n:Nat)(hk:k+n≤ts.length):RdEl w X b (off+k) ((ts.drop k).take n):=by
 rw[←List.take_append_drop k ts]at h
 have h:=((K1x _ _ _).1 h).2
 rw[List.length_take,Nat.min_eq_left (by omega)]at h
 rw[←List.take_append_drop n (ts.drop k)]at h
 exact((K1x _ _ _).1 h).1
theorem RdRow.sub_{w:World}{X:Nat→Prop}{sz b off:Nat}{es:List (List T)}(h:RdRow w X sz b off es)(k n:Nat)(hk:k+n≤es.length):RdRow w X sz b (off+k*sz) ((es.drop k).take n):=by
 rw[←List.take_append_drop k es]at h
 have h:=((K1q _ _ _).1 h).2
 rw[List.length_take,Nat.min_eq_left (by omega)]at h
 rw[←List.take_append_drop n (es.drop k)]at h
 exact((K1q _ _ _).1 h).1
theorem RdRow.len{w:World}{X:Nat→Prop}{sz b:Nat}:∀(es:List (List T)) (off:Nat),RdRow w X sz b off es→∀e∈es,e.length=sz
 | [],_,_=>by simp
 |e::es,off,h=>by
  simp only[RdRow]at h
  intro e' he'
  rcases List.mem_cons.1 he' with rfl|he'
  ·exact h.1
  ·exact RdRow.len es (off+sz) h.2.2 e' he'
end Go.Proofs.YtjneccbpkckdfaaGreatR
namespace Go.Proofs.YtjneccbpkckdfaaGreatR
open Go Go.RowKit
structure ZZ where
 p:Nat→Prop
 h:Nat→Value
instance:CoeFun ZZ fun _=>Nat→Prop:=⟨ZZ.p⟩
structure Gh where
 H:Nat→Nat→Value
 F:Nat→List Nat
 Z:ZZ
def Xe(g:Gh)(b:Nat):Prop:=¬g.Z b∧∀id,b∉g.F id
def Xb(g:Gh)(b:Nat):Prop:=¬g.Z b∧∀id,(g.F id).head? ≠some b
theorem Xe.xb{g:Gh}{b:Nat}(h:Xe g b):Xb g b:=⟨h.1,fun id e=>h.2 id (by
 cases hf:g.F id with
 |nil=>simp[hf]at e
 |cons x l=>simp[hf]at e;simp[e])⟩
def Win(sz lo n:Nat)(h v:Value):Prop:=∃A len cap A' c',h= .slice A len cap∧v= .slice A' n c'∧lo+n≤len∧n≤c'∧lo+c'=cap∧
 (c'=0∨A'=A.map fun a=>⟨a.block,a.off+lo*sz,none⟩)∧(c'=0∨∀a,A=some a→a.spot=none)
def CellR(w:World)(V:Nat→Nat)(g:Gh):SC→Value→Prop
 |.pl t,v=>Rd w (Xe g) t v
 |.bor t,v=>Rd w (Xb g) t v
 |.emp _,v=>∃A,v= .slice A 0 0
 |.ref id ver sz lo n,v=>ver≤V id∧Win sz lo n (g.H id ver) v
 |.clo f bs,v=>v= .func (.func f) #[] (bs.map fun b=>g.H b.1 b.2).toArray∧∀b∈bs,b.2≤V b.1
def CellsR(w:World)(V:Nat→Nat)(g:Gh):List SC→List Value→Prop
 | [],[]=>True
 |c::cs,v::vs=>CellR w V g c v∧CellsR w V g cs vs
 |_,_=>False
def AdR(w:World)(V:Nat→Nat)(g:Gh):Ad→Value→Prop
 |.bx id ver k,v=>ver≤V id∧∃b,g.H id ver= .pointer (some ⟨b,0,none⟩)∧v= .pointer (some ⟨b,k,none⟩)
 |.el id ver sz i k,v=>ver≤V id∧∃b off len cap,g.H id ver= .slice (some ⟨b,off,none⟩) len cap∧v= .pointer (some ⟨b,off+i*sz+k,none⟩)
 |.ex bo sz es i k,v=>∃b off,v= .pointer (some ⟨b,off+i*sz+k,none⟩)∧(if bo then Xb g b∧RdRow w (Xb g) sz b off es else Xe g b∧RdRow w (Xe g) sz b off es)∧b<w.heap.size
 |.pb ts k,v=>∃b,v= .pointer (some ⟨b,k,none⟩)∧Xe g b∧b<w.heap.size∧RdEl w (Xe g) b 0 ts
def ValR(w:World)(V:Nat→Nat)(g:Gh)(agg:Bool)(cs:List SC)(v:Value):Prop:=
 if agg then ∃vs:List Value,v= .agg vs.toArray∧CellsR w V g cs vs else ∃c,cs=[c]∧CellR w V g c v
def ValsR(w:World)(V:Nat→Nat)(g:Gh):List (Bool×List SC)→List Value→Prop
 | [],[]=>True
 |x::xs,v::vs=>ValR w V g x.1 x.2 v∧ValsR w V g xs vs
 |_,_=>False
def SlotR(w:World)(V:Nat→Nat)(g:Gh):SV→Value→Prop
 |.undef,_=>True
 |.skp,v=>v=undef
 |.val agg cs,v=>ValR w V g agg cs v
 |.adr a,v=>AdR w V g a v
 |.tup xs,v=>∃vs:List Value,v= .tuple vs.toArray∧ValsR w V g xs vs
 |.arr id ver k n,v=>∃b,AdR w V g (.bx id ver k) (.pointer (some ⟨b,k,none⟩))∧v= .slice (some ⟨b,k,none⟩) n n
def ObjR(w:World)(V:Nat→Nat)(g:Gh)(id:Nat)(v:Nat):OC→Prop
 |.none=>g.F id=[]
 |.row dp sz es=>∃A cap,g.H id v= .slice A es.length cap∧Ln es.length cap∧
   ((cap=0∧es=[]∧g.F id=[])∨∃b off row ty G,A=some ⟨b,off,none⟩∧w.heap[b]? =some (.cells row ty (0,0))∧off+cap*sz≤row.size∧
    (if dp then OwRow w sz b off es G else RdRow w (Xb g) sz b off es∧G=[])∧g.F id=b::G)
 |.lent sz es=>g.F id=[]∧Rd w (Xb g) (.sl sz es) (g.H id v)
 |.box cs=>∃b ty,∃vs:List Value,g.H id v= .pointer (some ⟨b,0,none⟩)∧w.heap[b]? =some (.cells vs.toArray ty (0,0))∧CellsR w V g cs vs∧g.F id=[b]
 |.hole sz es i k id2 v2=>∃A cap b off row ty e Ga Gb Gc Gd,g.H id v= .slice A es.length cap∧Ln es.length cap∧A=some ⟨b,off,none⟩∧w.heap[b]? =some (.cells row ty (0,0))∧off+cap*sz≤row.size∧
   es[i]? =some e∧e.length=sz∧k<sz∧OwRow w sz b off (es.take i) Ga∧OwEl w b (off+i*sz) (e.take k) Gb∧w.cell? ⟨b,off+i*sz+k,none⟩=some (g.H id2 v2)∧
   OwEl w b (off+i*sz+k+1) (e.drop (k+1)) Gc∧OwRow w sz b (off+(i+1)*sz) (es.drop (i+1)) Gd∧v2≤V id2∧g.F id=b::(Ga++Gb++Gc++Gd)
def St.V(σ:St)(id:Nat):Nat:=(σ.ob id).ver
structure Bel (B:Nat→Prop) (w w':World):Prop where
 os:w'.os=w.os
 tape:w'.tape=w.tape
 output:w'.output=w.output
 size:w.heap.size≤w'.heap.size
 block:∀k,B k→w'.heap[k]? =w.heap[k]?
theorem Bel.refl(B:Nat→Prop)(w:World):Bel B w w:=⟨rfl,rfl,rfl,Nat.le_refl _,fun _ _=>rfl⟩
theorem Bel.trans{B:Nat→Prop}{a b c:World}(h:Bel B a b)(k:Bel B b c):Bel B a c:=
 ⟨k.os.trans h.os,k.tape.trans h.tape,k.output.trans h.output,Nat.le_trans h.size k.size,fun i hi=>(k.block i hi).trans (h.block i hi)⟩
theorem Bel.mono{B B':Nat→Prop}{w w':World}(h:Bel B w w')(hB:∀b,B' b→B b):Bel B' w w':=⟨h.os,h.tape,h.output,h.size,fun k hk=>h.block k (hB k hk)⟩
theorem Bel.drew{B:Nat→Prop}{a w:World}(h:Bel B a w):Bel B a w.drew:=⟨h.os,h.tape,h.output,h.size,h.block⟩
theorem Bel.alloc{B:Nat→Prop}{a w:World}(h:Bel B a w)(hB:∀b,B b→b<w.heap.size)(o:Obj):Bel B a (w.alloc o):=
 h.trans ⟨rfl,rfl,rfl,by simp,fun k hk=>Below.heap_alloc _ _ _ (hB k hk)⟩
theorem Bel.below{n:Nat}{w w':World}(h:Bel (· <n) w w'):Below n w w':=⟨h.os,h.tape,h.output,h.size,h.block⟩
theorem K5b{n:Nat}{w w':World}(h:Below n w w'):Bel (· <n) w w':=⟨h.os,h.tape,h.output,h.size,h.block⟩
structure Rel (base:Nat→Prop) (Z:ZZ) (w0 w:World) (σ:St) (ts:Array Value) (g:Gh):Prop where
 len:σ.n=ts.size
 slot:∀k,SlotR w σ.V g (σ.get k) (ts.getD k undef)
 obj:∀id,ObjR w σ.V g id (σ.ob id).ver (σ.ob id).oc
 nd:∀id,(g.F id).Nodup
 dj:∀b i j,b∈g.F i→b∈g.F j→i=j
 frs:∀i b,b∈g.F i→¬base b∧b<w.heap.size
 grew:Bel base w0 w
 bs:∀b,base b→b<w.heap.size
 zz:g.Z=Z
 zb:∀b,Z b→base b
 tb:∀w,Bel base w0 w→TabW w
 pin:∀id,σ.V id=1→g.H id 1=g.Z.h id
structure Tr (w w':World) (V V':Nat→Nat) (g g':Gh):Prop where
 size:w.heap.size≤w'.heap.size
 ver:∀id,V id≤V' id
 hd:∀id v,v≤V id→g'.H id v=g.H id v
 xb:∀b,b<w.heap.size→Xb g b→w'.heap[b]? =w.heap[b]? ∧Xb g' b
 xe:∀b,b<w.heap.size→Xe g b→Xe g' b
 z:g'.Z=g.Z
section
variable {w w':World} {V V':Nat→Nat} {g g':Gh}
theorem Tr.kb(h:Tr w w' V V' g g'):Kp w w' (Xb g) (Xb g'):=⟨h.size,fun b hx hb=>h.xb b hb hx⟩
theorem Tr.ke(h:Tr w w' V V' g g'):Kp w w' (Xe g) (Xe g'):=⟨h.size,fun b hx hb=>⟨(h.xb b hb hx.xb).1,h.xe b hb hx⟩⟩
theorem Tr.cell(h:Tr w w' V V' g g'):∀(c:SC) (v:Value),CellR w V g c v→CellR w' V' g' c v
 |.pl t,v,hc=>Rd.keep h.ke t v hc
 |.bor t,v,hc=>Rd.keep h.kb t v hc
 |.emp _,_,hc=>hc
 |.ref id ver sz lo n,v,hc=>by
  simp only[CellR]at hc ⊢
  exact⟨Nat.le_trans hc.1 (h.ver id),(h.hd id ver hc.1).symm▸hc.2⟩
 |.clo f bs,v,hc=>by
  simp only[CellR]at hc ⊢
  refine⟨?_,fun b hb=>Nat.le_trans (hc.2 b hb) (h.ver b.1)⟩
  rw[hc.1]
  congr 2
  exact List.map_congr_left fun b hb=>(h.hd b.1 b.2 (hc.2 b hb)).symm
theorem Tr.cells(h:Tr w w' V V' g g'):∀(cs:List SC) (vs:List Value),CellsR w V g cs vs→CellsR w' V' g' cs vs
 | [],[],_=>trivial
 |c::cs,v::vs,hc=>⟨h.cell c v hc.1,h.cells cs vs hc.2⟩
 | [],_::_,hc=>hc.elim
 |_::_,[],hc=>hc.elim
theorem Tr.adr(h:Tr w w' V V' g g'):∀(a:Ad) (v:Value),AdR w V g a v→AdR w' V' g' a v
 |.bx id ver k,v,ha=>by
  simp only[AdR]at ha ⊢
  exact⟨Nat.le_trans ha.1 (h.ver id),(h.hd id ver ha.1).symm▸ha.2⟩
 |.el id ver sz i k,v,ha=>by
  simp only[AdR]at ha ⊢
  exact⟨Nat.le_trans ha.1 (h.ver id),(h.hd id ver ha.1).symm▸ha.2⟩
 |.ex bo sz es i k,v,ha=>by
  simp only[AdR]at ha ⊢
  obtain⟨b,off,hv,hr,hb⟩:=ha
  refine⟨b,off,hv,?_,Nat.lt_of_lt_of_le hb h.size⟩
  cases bo with
  |true=>
   simp only[if_true]at hr ⊢
   exact⟨(h.xb b hb hr.1).2,RdRow.move h.kb es off off (fun j _=>Kf (h.xb b hb hr.1).1 _) hr.2⟩
  |false=>
   simp only[Bool.false_eq_true,if_false]at hr ⊢
   exact⟨h.xe b hb hr.1,RdRow.move h.ke es off off (fun j _=>Kf (h.xb b hb hr.1.xb).1 _) hr.2⟩
 |.pb ts k,v,ha=>by
  simp only[AdR]at ha ⊢
  obtain⟨b,hv,hx,hb,hr⟩:=ha
  exact⟨b,hv,h.xe b hb hx,Nat.lt_of_lt_of_le hb h.size,RdEl.move h.ke ts 0 0 (fun j _=>Kf (h.xb b hb hx.xb).1 _) hr⟩
theorem Tr.val(h:Tr w w' V V' g g')(agg:Bool)(cs:List SC)(v:Value)(hc:ValR w V g agg cs v):ValR w' V' g' agg cs v:=by
 unfold ValR at hc ⊢
 cases agg with
 |true=>simp only[if_true]at hc ⊢;obtain⟨vs,hv,hc⟩:=hc;exact⟨vs,hv,h.cells cs vs hc⟩
 |false=>simp only[Bool.false_eq_true,if_false]at hc ⊢;obtain⟨c,hv,hc⟩:=hc;exact⟨c,hv,h.cell c v hc⟩
theorem Tr.vals(h:Tr w w' V V' g g'):∀(xs:List (Bool×List SC)) (vs:List Value),ValsR w V g xs vs→ValsR w' V' g' xs vs
 | [],[],_=>trivial
 |x::xs,v::vs,hc=>⟨h.val x.1 x.2 v hc.1,h.vals xs vs hc.2⟩
 | [],_::_,hc=>hc.elim
 |_::_,[],hc=>hc.elim
theorem Tr.slot(h:Tr w w' V V' g g'):∀(s:SV) (v:Value),SlotR w V g s v→SlotR w' V' g' s v
 |.undef,_,_=>trivial
 |.skp,_,hs=>hs
 |.val agg cs,v,hs=>h.val agg cs v hs
 |.adr a,v,hs=>h.adr a v hs
 |.tup xs,v,hs=>by
  obtain⟨vs,hv,hs⟩:=hs
  exact⟨vs,hv,h.vals xs vs hs⟩
 |.arr id ver k n,v,hs=>by
  obtain⟨b,hb,hv⟩:=hs
  exact⟨b,h.adr (.bx id ver k) _ hb,hv⟩
theorem Tr.obj(h:Tr w w' V V' g g')(id v:Nat)(hv:v≤V id)(hF:g'.F id=g.F id)(hb:∀b∈g.F id,w'.heap[b]? =w.heap[b]?):∀(o:OC),ObjR w V g id v o→ObjR w' V' g' id v o
 |.none,ho=>by simp only[ObjR]at ho ⊢;rw[hF];exact ho
 |.row dp sz es,ho=>by
  simp only[ObjR]at ho ⊢
  obtain⟨A,cap,hH,hl,ho⟩:=ho
  refine⟨A,cap,(h.hd id v hv).trans hH,hl,?_⟩
  rcases ho with ho|⟨b,off,row,ty,G,hA,hc,hs,hr,hG⟩
  ·exact .inl ⟨ho.1,ho.2.1,hF.trans ho.2.2⟩
  ·have hb':=hb b (by rw[hG];simp)
   refine .inr ⟨b,off,row,ty,G,hA,hb'.trans hc,hs,?_,hF.trans hG⟩
   cases dp with
   |true=>
    simp only[if_true]at hr ⊢
    exact OwRow.move es off off G (fun j _=>Kf hb' _) (fun b' hb''=>hb b' (by rw[hG];simp[hb''])) hr
   |false=>
    simp only[Bool.false_eq_true,if_false]at hr ⊢
    exact⟨RdRow.move h.kb es off off (fun j _=>Kf hb' _) hr.1,hr.2⟩
 |.lent sz es,ho=>by
  simp only[ObjR]at ho ⊢
  exact⟨hF.trans ho.1,(h.hd id v hv).symm▸Rd.keep h.kb _ _ ho.2⟩
 |.box cs,ho=>by
  simp only[ObjR]at ho ⊢
  obtain⟨b,ty,vs,hH,hc,hr,hG⟩:=ho
  exact⟨b,ty,vs,(h.hd id v hv).trans hH,(hb b (by rw[hG];simp)).trans hc,h.cells cs vs hr,hF.trans hG⟩
 |.hole sz es i k id2 v2,ho=>by
  simp only[ObjR]at ho ⊢
  obtain⟨A,cap,b,off,row,ty,e,Ga,Gb,Gc,Gd,hH,hl,hA,hc,hs,he,hel,hk,h1,h2,h3,h4,h5,hv2,hG⟩:=ho
  have hb':=hb b (by rw[hG];simp)
  refine⟨A,cap,b,off,row,ty,e,Ga,Gb,Gc,Gd,(h.hd id v hv).trans hH,hl,hA,hb'.trans hc,hs,he,hel,hk,?_,?_,?_,?_,?_,Nat.le_trans hv2 (h.ver id2),hF.trans hG⟩
  ·exact OwRow.move _ _ _ _ (fun j _=>Kf hb' _) (fun b' h'=>hb b' (by rw[hG];simp[h'])) h1
  ·exact OwEl.move _ _ _ _ (fun j _=>Kf hb' _) (fun b' h'=>hb b' (by rw[hG];simp[h'])) h2
  ·rw[h.hd id2 v2 hv2];exact(Kf hb' _).trans h3
  ·exact OwEl.move _ _ _ _ (fun j _=>Kf hb' _) (fun b' h'=>hb b' (by rw[hG];simp[h'])) h4
  ·exact OwRow.move _ _ _ _ (fun j _=>Kf hb' _) (fun b' h'=>hb b' (by rw[hG];simp[h'])) h5
end
theorem Tr.refl(w:World)(V:Nat→Nat)(g:Gh):Tr w w V V g g:=⟨Nat.le_refl _,fun _=>Nat.le_refl _,fun _ _ _=>rfl,fun _ _ h=>⟨rfl,h⟩,fun _ _ h=>h,rfl⟩
end Go.Proofs.YtjneccbpkckdfaaGreatR
namespace Go.Proofs.YtjneccbpkckdfaaGreatR
open Go Go.RowKit
def eqV:Value→Value→Bool
 |.int k a,.int k' b=>k==k'&&a==b&&wfB (.int k a)
 |.bool a,.bool b=>a==b
 |.string a,.string b=>a.data==b.data&&wfB (.string a)
 |.pointer none,.pointer none=>true
 |_,_=>false
theorem K8b{u v:Value}(h:eqV u v=true):u=v∧oneW v=true:=by
 unfold eqV at h
 split at h
 ·simp only[Bool.and_eq_true,beq_iff_eq]at h
  obtain⟨⟨rfl,rfl⟩,h2⟩:=h
  exact⟨rfl,by unfold oneW;rw[h2];rfl⟩
 ·simp only[beq_iff_eq]at h
  subst h;exact⟨rfl,rfl⟩
 ·rename_i s t
  simp only[Bool.and_eq_true,beq_iff_eq]at h
  obtain⟨h1,h2⟩:=h
  cases s;cases t;simp only at h1;subst h1
  exact⟨rfl,by unfold oneW;rw[h2];rfl⟩
 ·exact⟨rfl,rfl⟩
 ·simp at h
def eqVs:List Value→List Value→Bool
 | [],[]=>true
 |u::us,v::vs=>eqV u v&&eqVs us vs
 |_,_=>false
theorem eqVs_eq:∀ {us vs:List Value},eqVs us vs=true→us=vs∧∀v∈vs,oneW v=true
 | [],[],_=>⟨rfl,by simp⟩
 |u::us,v::vs,h=>by
  simp only[eqVs,Bool.and_eq_true]at h
  obtain⟨rfl,h1⟩:=K8b h.1
  obtain⟨rfl,h2⟩:=eqVs_eq h.2
  exact⟨rfl,by simpa using ⟨h1,h2⟩⟩
 | [],_::_,h=>by simp[eqVs]at h
 |_::_,[],h=>by simp[eqVs]at h
def K3:Operand→Od→Bool
 |.tmp t,.s k=>t==k
 |.const v,.c v'=>eqV v v'
 |.const (.agg vs),.ca vs'=>eqVs vs.toList vs'
 |.const (.slice none 0 0),.nil _=>true
 |.func f,.f g=>f==g
 |_,_=>false
section
variable {base:Nat→Prop} {Z:ZZ} {w0 w:World} {σ:St} {g:Gh}
theorem K6e(V:Nat→Nat):∀(vs:List Value),(∀v∈vs,oneW v=true)→CellsR w V g (vs.map fun v=> .pl (.sc v)) vs
 | [],_=>trivial
 |v::vs,h=>⟨by simp only[CellR,Rd];exact⟨trivial,h v (by simp)⟩,K6e V vs fun u hu=>h u (by simp[hu])⟩
theorem Rel.ev{a:Act}(R:Rel base Z w0 w σ a.tmps g){y:Operand}{x:Od}(h:K3 y x=true):SlotR w σ.V g (σ.ev x) (a.eval y):=by
 cases y with
 |tmp t=>
  cases x<;>simp only[K3,Bool.false_eq_true]at h
  rename_i k
  obtain rfl:=beq_iff_eq.1 h
  exact R.slot t
 |const v=>
  cases x with
  |c v'=>
   simp only[K3]at h
   obtain⟨rfl,h1⟩:=K8b h
   simp only[St.ev,SlotR,ValR,Act.eval,Bool.false_eq_true,if_false]
   exact⟨_,rfl,by simp only[CellR,Rd];exact⟨trivial,h1⟩⟩
  |ca vs'=>
   cases v<;>simp only[K3,Bool.false_eq_true]at h
   rename_i vs
   obtain⟨rfl,h1⟩:=eqVs_eq h
   simp only[St.ev,SlotR,ValR,Act.eval,if_true]
   exact⟨_,by simp,K6e _ _ h1⟩
  |nil sz=>
   have hv:v= .slice none 0 0:=by
    unfold K3 at h
    split at h<;>simp_all
   subst hv
   simp only[St.ev,SlotR,ValR,Act.eval,Bool.false_eq_true,if_false]
   exact⟨_,rfl,none,rfl⟩
  |s k=>simp[K3]at h
  |f g=>simp[K3]at h
 |global k=>cases x<;>simp[K3]at h
 |func f=>
  cases x<;>simp only[K3,Bool.false_eq_true]at h
  obtain rfl:=beq_iff_eq.1 h
  simp only[St.ev,SlotR,ValR,Act.eval,Bool.false_eq_true,if_false]
  exact⟨_,rfl,by simp[CellR]⟩
theorem K2f{s:SV}{c:SC}(h:s.one=some c):s= .val false [c]:=by
 unfold SV.one at h
 split at h<;>simp_all
theorem K25{s:SV}{x:Bool×List SC}(h:s.all=some x):s= .val x.1 x.2:=by
 unfold SV.all at h
 split at h<;>simp_all
 subst h;exact⟨rfl,rfl⟩
theorem SlotR.one_{V:Nat→Nat}{s:SV}{v:Value}{c:SC}(h:SlotR w V g s v)(h1:s.one=some c):CellR w V g c v:=by
 rw[K2f h1]at h
 simp only[SlotR,ValR,Bool.false_eq_true,if_false]at h
 obtain⟨c',hc,h⟩:=h
 simp only[List.cons.injEq,and_true]at hc
 exact hc▸h
theorem K67{V:Nat→Nat}{c:SC}{v u:Value}(h:CellR w V g c v)(hs:c.sca=some u):v=u∧oneW v=true:=by
 unfold SC.sca at hs
 split at hs<;>simp at hs
 ·subst hs;simpa only[CellR,Rd]using h
 ·subst hs;simpa only[CellR,Rd]using h
theorem Rel.sca{a:Act}(R:Rel base Z w0 w σ a.tmps g){y:Operand}{x:Od}(h:K3 y x=true){u:Value}(hs:σ.sca x=some u):a.eval y=u∧oneW u=true:=by
 unfold St.sca at hs
 obtain⟨c,hc,hs⟩:=Option.bind_eq_some_iff.1 hs
 obtain⟨h1,h2⟩:=K67 ((R.ev h).one_ hc) hs
 exact⟨h1,h1▸h2⟩
theorem Rel.int{a:Act}(R:Rel base Z w0 w σ a.tmps g){y:Operand}{x:Od}(h:K3 y x=true){n:Int}(hs:σ.int x=some n):a.eval y= .int .i64 n:=by
 unfold St.int at hs
 obtain⟨c,hc,hs⟩:=Option.bind_eq_some_iff.1 hs
 rw[(R.sca h hc).1]
 unfold vInt at hs
 split at hs<;>simp_all
theorem lk_ins(k d:Nat)(v:SV)(l:List (Nat×SV)):lk k (ins d v l)=if d=k then v else lk k l:=by
 simp only[ins,lk]
 by_cases h:k=d
 ·subst h;simp
 ·have h':¬d=k:=fun e=>h e.symm
  simp[h,h']
theorem K2o(σ:St)(d k:Nat)(s:SV)(obs:List (Nat×OV)):(σ.app ⟨some (d,s),obs⟩).get k=if d=k∧k<σ.n then s else σ.get k:=by
 simp only[St.app,St.get]
 by_cases h:d<σ.n
 ·rw[if_pos h,lk_ins]
  by_cases hd:d=k
  ·subst hd;simp[h]
  ·simp[hd]
 ·rw[if_neg h,if_neg]
  rintro ⟨rfl,h'⟩
  exact h h'
theorem K91(σ:St)(e:Ef):(σ.app e).n=σ.n:=rfl
theorem K4e(ts:Array Value)(d k:Nat)(v:Value):(ts.setIfInBounds d v).getD k undef=if d=k∧k<ts.size then v else ts.getD k undef:=by
 simp only[Array.getD_eq_getD_getElem?,Array.getElem?_setIfInBounds]
 by_cases h:d=k
 ·subst h
  by_cases hk:d<ts.size<;>simp[hk]
 ·simp[h]
theorem K27(a:Act)(d:Option Tmp)(v:Value):(a.put d v).tmps=match d with|some d=>a.tmps.setIfInBounds d v|none=>a.tmps:=by
 cases d<;>rfl
theorem Rel.fill{a:Act}(R:Rel base Z w0 w σ a.tmps g)(d:Nat)(s:SV)(v:Value)(h:SlotR w σ.V g s v):Rel base Z w0 w (σ.app ⟨some (d,s),[]⟩) (a.put (some d) v).tmps g:=by
 refine⟨?_,?_,R.obj,R.nd,R.dj,R.frs,R.grew,R.bs,R.zz,R.zb,R.tb,fun id h=>R.pin id h⟩
 ·rw[K91,K27];simpa using R.len
 ·intro k
  rw[K2o,K27,K4e,R.len]
  by_cases hk:d=k∧k<a.tmps.size
  ·rw[if_pos hk,if_pos hk];exact h
  ·rw[if_neg hk,if_neg hk];exact R.slot k
def Good(P:Program)(o:Oper)(a:Act)(base:Nat→Prop)(Z:ZZ)(w0 w:World)(σ':St):Prop:=
 ∃nx w',(execOp a.eval o).run P w= .ok nx w'∧∃g',match nx with
  |.value v=>Rel base Z w0 w' σ' (a.put o.dst v).tmps g'
  |.skip=>Rel base Z w0 w' σ' (a.put o.dst undef).tmps g'
  |_=>False
theorem K18{P:Program}{o:Oper}{a:Act}{σ:St}(R:Rel base Z w0 w σ a.tmps g){d:Nat}(hd:o.dst=some d){s:SV}{v:Value}
  (hr:(execOp a.eval o).run P w= .ok (.value v) w) (h:SlotR w σ.V g s v):Good P o a base Z w0 w (σ.app ⟨some (d,s),[]⟩):=
 ⟨_,w,hr,g,by simp only[hd];exact R.fill d s v h⟩
end
theorem K2d{P:Program}{w w':World}{s:Sem Value}{v:Value}(h:s.run P w= .ok v w'):(do let x ←s;pure (Next.value x):Sem Next).run P w= .ok (.value v) w':=by
 simp[h]
theorem K1s{w:World}{V:Nat→Nat}{g:Gh}{v:Value}(h:oneW v=true):SlotR w V g (.val false [.pl (.sc v)]) v:=by
 simp only[SlotR,ValR,Bool.false_eq_true,if_false]
 exact⟨_,rfl,by simp only[CellR,Rd];exact⟨trivial,h⟩⟩
theorem K81{P:Program}{w:World}{t:TypeId}(hu:P.underlying t=some .bool)(n:Nat)(a b:Bool):(Op.equalIn (n+1) t (.bool a) (.bool b)).run P w= .ok (a==b) w:=by
 simp only[Op.equalIn,Sem.run_bind,run_underlying hu,Result.andThen_ok]
 rfl
theorem K5n{P:Program}{w:World}{t:TypeId}(hu:P.underlying t=some .bool)(a b:Bool):(Op.equal t (.bool a) (.bool b)).run P w= .ok (a==b) w:=K81 hu 9999 a b
theorem run_binV{P:Program}{w:World}{bt:Bool}{op:BinOp}{t:TypeId}{x y v:Value}(hb:bt=true→P.underlying t=some .bool)(h:binV bt op x y=some v):(binOp op t x y).run P w= .ok v w∧v.oneCell'=true:=by
 unfold binV at h
 split at h
 ·rename_i k a k' b
  split at h
  ·split at h<;>simp at h
   subst h
   rename_i hy
   simp[binOp,Op.shift,hy,Value.oneCell']
  ·split at h<;>simp at h
   subst h
   rename_i hy
   simp[binOp,Op.shift,hy,Value.oneCell']
  ·rename_i h1 h2
   split at h
   ·rename_i hk
    subst hk
    unfold binI at h
    cases op<;>simp at h h1 h2<;>(try subst h)<;>(try simp[binOp,Op.intArith,Op.intBits,Op.intCmp,Value.oneCell'])
    ·obtain⟨hb,rfl⟩:=h
     simp[Op.intDiv,hb]
    ·obtain⟨hb,rfl⟩:=h
     simp[Op.intDiv,hb]
   ·simp at h
 ·rename_i a b
  unfold binS at h
  cases op<;>simp at h
  ·obtain⟨hl,rfl⟩:=h
   have h':¬(((a.size+b.size:Nat):Int)>IntKind.i64.max):=by
    have:IntKind.i64.max=9223372036854775807:=by decide
    rw[this];omega
   refine⟨?_,rfl⟩
   show(if ((a.size+b.size:Nat):Int)>IntKind.i64.max then _ else _:Sem Value).run P w=_
   rw[if_neg h']
   rfl
  ·subst h
   exact⟨rfl,rfl⟩
  ·subst h
   exact⟨rfl,rfl⟩
 ·rename_i a b
  split at h
  ·rename_i ht
   have hu:=hb ht
   split at h<;>simp at h
   ·subst h
    refine⟨?_,rfl⟩
    show(do pure (.bool (←Op.equal t (.bool a) (.bool b))):Sem Value).run P w=_
    simp only[Sem.run_bind,K5n hu,Result.andThen_ok,Sem.run_pure]
   ·subst h
    refine⟨?_,rfl⟩
    show(do pure (.bool (!(←Op.equal t (.bool a) (.bool b)))):Sem Value).run P w=_
    simp only[Sem.run_bind,K5n hu,Result.andThen_ok,Sem.run_pure]
  ·simp at h
 ·simp at h
theorem Kbl{k:IntKind}{a b:Int}(ha:k.min≤a∧a≤k.max):k.min≤a.tmod b∧a.tmod b≤k.max:=by
 have h0:k.min≤0∧0≤k.max:=by cases k<;>decide
 have hn:(a.tmod b).natAbs≤a.natAbs:=by rw[Int.natAbs_tmod];exact Nat.mod_le _ _
 rcases Int.le_total 0 a with h|h
 ·have h2:0≤a.tmod b:=Int.tmod_nonneg _ h
  omega
 ·have e:a.tmod b= -((-a).tmod b):=by rw[Int.neg_tmod];omega
  have h2:0≤(-a).tmod b:=Int.tmod_nonneg _ (by omega)
  omega
theorem Kbb{k:IntKind}{a:Int}(ha:k.min≤a∧a≤k.max)(m:Nat):k.min≤a.fdiv (2^m)∧a.fdiv (2^m)≤k.max:=by
 have h0:k.min≤0∧0≤k.max:=by cases k<;>decide
 have hp:(0:Int)<2^m:=Int.pow_pos (by decide)
 have e:a.fdiv (2^m)=a/(2^m):=Int.fdiv_eq_ediv_of_nonneg _ (Int.le_of_lt hp)
 rw[e]
 rcases Int.le_total 0 a with h|h
 ·have h1:=Int.ediv_le_self (2^m:Int) h
  have h2:=Int.ediv_nonneg h (Int.le_of_lt hp)
  omega
 ·have h1:a/(2^m:Int)≤0:=by
   have:=Int.ediv_le_ediv hp h
   simpa using this
  have h2:a≤a/(2^m:Int):=by
   refine(Int.le_ediv_iff_mul_le hp).2 ?_
   have h3:(-a)*1≤(-a)*(2^m:Int):=Int.mul_le_mul_of_nonneg_left (by omega) (by omega)
   simp only[Int.neg_mul,Int.mul_one]at h3
   omega
  omega
theorem binV_wf{bt:Bool}{op:BinOp}{x y v:Value}(h:binV bt op x y=some v)(hx:wfB x=true)(h1:v.oneCell'=true):oneW v=true:=by
 unfold oneW
 rw[h1,Bool.true_and]
 unfold binV at h
 split at h
 ·rename_i k a k' b
  have ha:=K3r hx
  split at h
  ·split at h<;>simp at h
   subst h
   exact K29 (K1n (wrap_within _ _))
  ·split at h<;>simp at h
   subst h
   exact K29 (K1n (Kbb ha _))
  ·split at h
   ·unfold binI at h
    cases op<;>simp at h<;>(try subst h)<;>(try exact K29 (K1n (wrap_within _ _)))<;>(try rfl)
    ·obtain⟨_,rfl⟩:=h
     exact K29 (K1n (wrap_within _ _))
    ·obtain⟨_,rfl⟩:=h
     exact K29 (K1n (Kbl ha))
   ·simp at h
 ·unfold binS at h
  cases op<;>simp at h
  ·obtain⟨hl,rfl⟩:=h
   exact K29 (K64 (by rw[ByteArray.size_append];omega))
  ·subst h;rfl
  ·subst h;rfl
 ·split at h
  ·split at h<;>simp at h<;>subst h<;>rfl
  ·simp at h
 ·simp at h
theorem Kbh{P:Program}{w:World}{op:BinOp}{t:TypeId}{x y:Operand}{a b:Value}(h1:a.oneCell'=true)(hn:a≠ .nilIface):(eqGuard op t x y a b).run P w= .ok () w:=by
 unfold eqGuard
 repeat' split
 all_goals first
  |rfl
  |(exfalso;simp_all[Value.oneCell'];done)
theorem binV_left{bt:Bool}{op:BinOp}{x y v:Value}(h:binV bt op x y=some v):x≠ .nilIface:=by
 intro e;subst e;simp[binV]at h
theorem run_unV{P:Program}{w:World}{op:UnOp}{x v:Value}(h:unV op x=some v):(Op.unary op x).run P w= .ok v w∧oneW v=true:=by
 unfold unV at h
 split at h
 ·split at h<;>simp at h
  subst h;exact⟨rfl,rfl⟩
 ·split at h<;>simp at h
  subst h;exact⟨by simp[Op.unary,Op.intArith],K1n (wrap_within _ _)⟩
 ·simp at h
section
variable {P:Program} {base:Nat→Prop} {Z:ZZ} {w0 w:World} {σ:St} {g:Gh} {o:Oper} {a:Act}
theorem Kad{x:Od}{v:SV}(h:σ.evd x=some v):σ.ev x=v:=by
 unfold St.evd SV.def_ at h
 split at h<;>simp_all
theorem good_mv(R:Rel base Z w0 w σ a.tmps g){d:Nat}{x:Od}{y:Operand}(hd:o.dst=some d)(ho:o.op= .move y∨o.op= .assign y)(hx:K3 y x=true){e:Ef}(he:eff (.mv d x) σ=some e):
  Good P o a base Z w0 w (σ.app e):=by
 simp only[eff]at he
 obtain⟨v,hv,rfl⟩:=Option.map_eq_some_iff.1 he
 rw[←Kad hv]
 exact K18 R hd (by rcases ho with ho|ho<;>simp[execOp,ho]) (R.ev hx)
theorem good_bin(R:Rel base Z w0 w σ a.tmps g){d:Nat}{bt:Bool}{op:BinOp}{x y:Od}{x' y':Operand}{t u:TypeId}(hd:o.dst=some d)(ho:o.op= .binOp op t x' y' u)(hx:K3 x' x=true)(hy:K3 y' y=true)
  (hb:bt=true→P.underlying t=some .bool) {e:Ef} (he:eff (.bin d bt op x y) σ=some e):Good P o a base Z w0 w (σ.app e):=by
 simp only[eff]at he
 obtain⟨va,ha,he⟩:=Option.bind_eq_some_iff.1 he
 obtain⟨vb,hvb,he⟩:=Option.bind_eq_some_iff.1 he
 obtain⟨v,hv,rfl⟩:=Option.map_eq_some_iff.1 he
 obtain⟨h1,h1'⟩:=R.sca hx ha
 obtain⟨h2,h2'⟩:=R.sca hy hvb
 obtain⟨hr,hv1⟩:=run_binV (w:=w) (t:=t) hb hv
 refine K18 R hd ?_ (K1s (binV_wf hv (K29 h1') hv1))
 simp only[execOp,ho,h1,h2,Sem.run_bind,Kbh (K63 h1') (binV_left hv),Result.andThen_ok,hr,Sem.run_pure]
theorem good_un(R:Rel base Z w0 w σ a.tmps g){d:Nat}{op:UnOp}{x:Od}{x':Operand}{t:TypeId}(hd:o.dst=some d)(ho:o.op= .unOp op t x')(hx:K3 x' x=true){e:Ef}(he:eff (.un d op x) σ=some e):
  Good P o a base Z w0 w (σ.app e):=by
 simp only[eff]at he
 obtain⟨va,ha,he⟩:=Option.bind_eq_some_iff.1 he
 obtain⟨v,hv,rfl⟩:=Option.map_eq_some_iff.1 he
 obtain⟨hr,hv1⟩:=run_unV (P:=P) (w:=w) hv
 refine K18 R hd ?_ (K1s hv1)
 simp only[execOp,ho,(R.sca hx ha).1,Sem.run_bind,hr,Result.andThen_ok,Sem.run_pure]
theorem good_pick(R:Rel base Z w0 w σ a.tmps g){d:Nat}{c x y:Od}{c' x' y':Operand}(hd:o.dst=some d)(ho:o.op= .pick c' x' y')(hc:K3 c' c=true)(hx:K3 x' x=true)(hy:K3 y' y=true){e:Ef}
  (he:eff (.pick d c x y) σ=some e):Good P o a base Z w0 w (σ.app e):=by
 simp only[eff]at he
 obtain⟨t,ht,he⟩:=Option.bind_eq_some_iff.1 he
 obtain⟨u,hu,rfl⟩:=Option.map_eq_some_iff.1 he
 obtain⟨v,hv,hb⟩:=Option.bind_eq_some_iff.1 ht
 rw[←Kad hu]
 have hbv:v= .bool t:=by unfold vBool at hb;split at hb<;>simp_all
 have h1:=(R.sca hc hv).1
 refine K18 R hd (v:=if t then a.eval x' else a.eval y') ?_ ?_
 ·simp[execOp,ho,h1,hbv,asBool]
 ·cases t
  ·exact R.ev hy
  ·exact R.ev hx
theorem Ks(R:Rel base Z w0 w σ a.tmps g){d:Nat}(hd:o.dst=some d){s:Sem Value}{v:Value}(hx:execOp a.eval o=(do let x ←s;pure (Next.value x)))(hs:s.run P w= .ok v w){sv:SV}(h:SlotR w σ.V g sv v):
  Good P o a base Z w0 w (σ.app ⟨some (d,sv),[]⟩):=K18 R hd (by rw[hx];exact K2d hs) h
theorem K1k{P:Program}{w w':World}{c:Call}{b:Builtin}{ty:TypeId}{ρ:Operand→Value}{s:Sem Value}{v:Value}(hc:c.callee= .builtin b)
  (hb:∀cs,builtin b c.argTypes ty cs (c.args.map ρ)=(do pure (.value (←s)))) (hs:s.run P w= .ok v w'):(do let d ←resolve ρ c ty;invoke d.target d.args:Sem Next).run P w= .ok (.value v) w':=by
 simp only[resolve,hc,pure_bind,invoke,hb,Sem.run_bind,hs,Result.andThen_ok,Sem.run_pure]
theorem good_mm(R:Rel base Z w0 w σ a.tmps g){d:Nat}{mx:Bool}{x y:Od}{x' y':Operand}{c:Call}(hd:o.dst=some d)(ho:o.op= .call c)(hc:c.callee= .builtin (if mx then .max else .min))(ha:c.args= #[x',y'])
  (hx:K3 x' x=true) (hy:K3 y' y=true) {e:Ef} (he:eff (.mm d mx x y) σ=some e):Good P o a base Z w0 w (σ.app e):=by
 simp only[eff]at he
 obtain⟨va,hva,he⟩:=Option.bind_eq_some_iff.1 he
 obtain⟨vb,hvb,he⟩:=Option.bind_eq_some_iff.1 he
 obtain⟨v,hv,rfl⟩:=Option.map_eq_some_iff.1 he
 obtain⟨h1,k1⟩:=R.sca hx hva
 obtain⟨h2,k2⟩:=R.sca hy hvb
 unfold K94 at hv
 split at hv<;>simp at hv
 subst hv
 have r1:=K3r (K29 k1)
 have r2:=K3r (K29 k2)
 refine K18 R hd ?_ (K1s (v:= .int .i64 _) (K1n (by split<;>split<;>assumption)))
 simp only[execOp,ho]
 cases mx
 ·refine K1k (by simpa using hc) (s:=Builtin.min_ c.argTypes o.type (c.args.map a.eval)) (fun _=>rfl) ?_
  simp[ha,h1,h2,Builtin.min_,Builtin.min2]
 ·refine K1k (by simpa using hc) (s:=Builtin.max_ c.argTypes o.type (c.args.map a.eval)) (fun _=>rfl) ?_
  simp[ha,h1,h2,Builtin.max_,Builtin.max2]
end
end Go.Proofs.YtjneccbpkckdfaaGreatR
namespace Go.Proofs.YtjneccbpkckdfaaGreatR
open Go Go.RowKit
def aggD:TypeDesc→Bool
 |.struct _| .array _ _=>true
 |_=>false
def Ty(P:Program)(t:TypeId)(agg:Bool)(n:Nat):Prop:=∃i d,P.info? t=some i∧P.underlying t=some d∧aggD d=agg∧i.size=n
def Sl(P:Program)(t e:TypeId)(sz bytes:Nat):Prop:=∃i,P.underlying t=some (.slice e)∧P.info? e=some i∧i.size=sz∧i.bytes=bytes
section
variable {P:Program} {base:Nat→Prop} {Z:ZZ} {w0 w:World} {σ:St} {g:Gh} {o:Oper} {a:Act} {V:Nat→Nat}
theorem Ty.isAgg{t:TypeId}{agg:Bool}{n:Nat}(h:Ty P t agg n)(w:World):(isAgg t).run P w= .ok agg w:=by
 obtain⟨i,d,_,hu,hd,_⟩:=h
 unfold Go.isAgg
 rw[Sem.run_bind,run_underlying hu w]
 cases d<;>simp_all[aggD]
theorem Ty.sizeOf{t:TypeId}{agg:Bool}{n:Nat}(h:Ty P t agg n)(w:World):(sizeOf t).run P w= .ok n w:=by
 obtain⟨i,d,hi,_,_,hs⟩:=h
 simp[Go.sizeOf,typeInfo,hi,hs]
theorem K19(b o j:Nat):(⟨b,o,none⟩:Addr).add j=⟨b,o+j,none⟩:=by unfold Addr.add;split<;>simp_all
theorem K3n{t:TypeId}{agg:Bool}{n:Nat}(h:Ty P t agg n){b o:Nat}{vs:List Value}(hn:vs.length=n)(hc:∀j u,vs[j]? =some u→w.cell? ⟨b,o+j,none⟩=some u)(h1:agg=true∨n=1):
  (loadVar t ⟨b,o,none⟩).run P w= .ok (if agg then .agg vs.toArray else vs.getD 0 undef) w:=by
 unfold loadVar
 simp only[Sem.run_bind,h.isAgg,Result.andThen_ok]
 cases agg with
 |true=>
  have hl:=run_loadCells_list (P:=P) w ⟨b,o,none⟩ vs (fun j u hu=>by rw[K19];exact hc j u hu)
  rw[hn]at hl
  simp[h.sizeOf,hl]
 |false=>
  have hn1:n=1:=by simpa using h1
  subst hn1
  obtain⟨u,rfl⟩:=List.length_eq_one_iff.1 hn
  have:=hc 0 u rfl
  simp only[Nat.add_zero]at this
  simp[this]
theorem RdEl.vals{X:Nat→Prop}{b:Nat}:∀(ts:List T) (off:Nat),RdEl w X b off ts→∃vs:List Value,vs.length=ts.length∧(∀j u,vs[j]? =some u→w.cell? ⟨b,off+j,none⟩=some u)∧RdL w X ts vs
 | [],_,_=>⟨[],rfl,by simp,by simp[RdL]⟩
 |t::ts,off,h=>by
  simp only[RdEl]at h
  obtain⟨⟨v,hv,ht⟩,h⟩:=h
  obtain⟨vs,hl,hc,hr⟩:=RdEl.vals ts (off+1) h
  refine⟨v::vs,by simp[hl],?_,by simp only[RdL];exact⟨ht,hr⟩⟩
  intro j u hu
  cases j with
  |zero=>simp at hu;subst hu;exact hv
  |succ j=>
   have:=hc j u (by simpa using hu)
   rw[show off+(j+1)=off+1+j by omega]
   exact this
theorem cell_vw(t:T)(v:Value)(h:Rd w (Xb g) t v):CellR w V g (vw t) v:=by
 unfold vw
 split
 ·simp only[CellR,Rd]at h ⊢;exact h
 ·simpa only[CellR]using h
theorem K7o:∀(ts:List T) (vs:List Value),RdL w (Xb g) ts vs→CellsR w V g (ts.map vw) vs
 | [],[],_=>trivial
 |t::ts,v::vs,h=>by
  simp only[RdL]at h
  exact⟨cell_vw t v h.1,K7o ts vs h.2⟩
 | [],_::_,h=>by simp only[RdL]at h
 |_::_,[],h=>by simp only[RdL]at h
theorem K5t:∀(ts:List T) (vs:List Value),RdL w (Xe g) ts vs→CellsR w V g (ts.map .pl) vs
 | [],[],_=>trivial
 |t::ts,v::vs,h=>by
  simp only[RdL]at h
  exact⟨h.1,K5t ts vs h.2⟩
 | [],_::_,h=>by simp only[RdL]at h
 |_::_,[],h=>by simp only[RdL]at h
theorem K4m{α:Type}{k n:Nat}{l m:List α}(h:sub k n l=some m):k+n≤l.length∧m=(l.drop k).take n∧m.length=n:=by
 unfold sub at h
 split at h<;>simp at h
 subst h
 exact⟨by assumption,rfl,by simp;omega⟩
theorem CellsR.len:∀ {cs:List SC} {vs:List Value},CellsR w V g cs vs→cs.length=vs.length
 | [],[],_=>rfl
 |_::_,_::_,h=>by simp[CellsR.len h.2]
 | [],_::_,h=>h.elim
 |_::_,[],h=>h.elim
theorem CellsR.drop_:∀(k:Nat) {cs:List SC} {vs:List Value},CellsR w V g cs vs→CellsR w V g (cs.drop k) (vs.drop k)
 |0,_,_,h=>h
 |_+1,[],[],_=>trivial
 |k+1,_::_,_::_,h=>CellsR.drop_ k h.2
 |_+1,[],_::_,h=>h.elim
 |_+1,_::_,[],h=>h.elim
theorem CellsR.take_:∀(k:Nat) {cs:List SC} {vs:List Value},CellsR w V g cs vs→CellsR w V g (cs.take k) (vs.take k)
 |0,_,_,_=>by simp[CellsR]
 |_+1,[],[],_=>trivial
 |k+1,_::_,_::_,h=>⟨h.1,CellsR.take_ k h.2⟩
 |_+1,[],_::_,h=>h.elim
 |_+1,_::_,[],h=>h.elim
theorem CellsR.app:∀ {cs ds:List SC} {vs us:List Value},CellsR w V g cs vs→CellsR w V g ds us→CellsR w V g (cs++ds) (vs++us)
 | [],_,[],_,_,h=>h
 |_::_,_,_::_,_,h,h'=>⟨h.1,CellsR.app h.2 h'⟩
 | [],_,_::_,_,h,_=>h.elim
 |_::_,_,[],_,h,_=>h.elim
theorem Rel.inner{ts:Array Value}(R:Rel base Z w0 w σ ts g){id b:Nat}{G:List Nat}(hF:g.F id=b::G):∀b'∈G,Xb g b':=by
 intro b' hb'
 have h0:b'∈g.F id:=by rw[hF];simp[hb']
 refine⟨fun hz=>?_,fun id' h=>?_⟩
 ·rw[R.zz]at hz
  exact(R.frs id b' h0).1 (R.zb b' hz)
 have h2:b'∈g.F id':=List.mem_of_mem_head? h
 have h3:b'∈g.F id:=by rw[hF];simp[hb']
 obtain rfl:=R.dj b' id id' h3 h2
 rw[hF]at h
 simp at h
 subst h
 have:=R.nd id
 rw[hF]at this
 exact(List.nodup_cons.1 this).1 hb'
theorem Rel.shown{ts:Array Value}(R:Rel base Z w0 w σ ts g){id:Nat}{es:List (List T)}{sz:Nat}(h:(∃dp,(σ.ob id).oc= .row dp sz es)∨(σ.ob id).oc= .lent sz es):
  ∃A cap,g.H id (σ.ob id).ver= .slice A es.length cap∧Ln es.length cap∧(es=[]∨∃b off,A=some ⟨b,off,none⟩∧b<w.heap.size∧RdRow w (Xb g) sz b off es):=by
 have ho:=R.obj id
 rcases h with ⟨dp,h⟩|h
 ·rw[h]at ho
  simp only[ObjR]at ho
  obtain⟨A,cap,hH,hl,ho⟩:=ho
  refine⟨A,cap,hH,hl,?_⟩
  rcases ho with ho|⟨b,off,row,ty,G,hA,hc,hs,hr,hG⟩
  ·exact .inl ho.2.1
  ·refine .inr ⟨b,off,hA,K1g hc,?_⟩
   cases dp with
   |true=>simp only[if_true]at hr;exact OwRow.rd es off G (R.inner hG) hr
   |false=>simp only[Bool.false_eq_true,if_false]at hr;exact hr.1
 ·rw[h]at ho
  simp only[ObjR,Rd]at ho
  obtain⟨_,A,cap,hH,hl,ho⟩:=ho
  refine⟨A,cap,hH,hl,?_⟩
  rcases ho with ho|⟨b,off,hA,_,hb,hr⟩
  ·exact .inl ho
  ·exact .inr ⟨b,off,hA,hb,hr⟩
theorem Rel.load{ts:Array Value}(R:Rel base Z w0 w σ ts g){n:Nat}{ad:Ad}{v:Value}(h:AdR w σ.V g ad v){cs:List SC}(hl:σ.load n ad=some cs):
  ∃b o,∃vs:List Value,v= .pointer (some ⟨b,o,none⟩)∧vs.length=n∧(∀j u,vs[j]? =some u→w.cell? ⟨b,o+j,none⟩=some u)∧CellsR w σ.V g cs vs:=by
 cases ad with
 |bx id ver k=>
  simp only[St.load]at hl
  simp only[AdR]at h
  obtain⟨_,b,hH,hv⟩:=h
  split at hl
  ·rename_i v' cs' hob
   split at hl
   rotate_left
   ·simp at hl
   rename_i hver
   subst hver
   have ho:=R.obj id
   rw[hob]at ho
   simp only[ObjR]at ho
   obtain⟨b',ty,vs,hH',hc,hr,_⟩:=ho
   rw[hH']at hH
   simp only[Value.pointer.injEq,Option.some.injEq,Addr.mk.injEq,and_true]at hH
   subst hH
   obtain⟨hk,rfl,hlen⟩:=K4m hl
   have hlv:=hr.len
   refine⟨b',k,(vs.drop k).take n,hv,by simp;omega,?_,(hr.drop_ k).take_ n⟩
   intro j u hu
   rw[List.getElem?_take]at hu
   split at hu
   ·rw[List.getElem?_drop]at hu
    simp[World.cell?,hc,hu]
   ·simp at hu
  ·simp at hl
 |el id ver sz i k=>
  simp only[St.load]at hl
  simp only[AdR]at h
  obtain⟨_,b,off,len,cap,hH,hv⟩:=h
  have main:∀(sz':Nat) (es:List (List T)),((∃dp,(σ.ob id).oc= .row dp sz' es)∨(σ.ob id).oc= .lent sz' es)→(σ.ob id).ver=ver→sz=sz'→
    ((es[i]?).bind fun e=>(sub k n e).map (·.map vw))=some cs→∃b o,∃vs:List Value,v= .pointer (some ⟨b,o,none⟩)∧vs.length=n∧(∀j u,vs[j]? =some u→w.cell? ⟨b,o+j,none⟩=some u)∧CellsR w σ.V g cs vs:=by
   intro sz' es hob hver hsz hh
   subst hsz hver
   obtain⟨e,he,hh⟩:=Option.bind_eq_some_iff.1 hh
   obtain⟨ts',hts,rfl⟩:=Option.map_eq_some_iff.1 hh
   obtain⟨A,cap',hH',_,hrow⟩:=R.shown hob
   rw[hH']at hH
   simp only[Value.slice.injEq]at hH
   obtain⟨rfl,_,_⟩:=hH
   rcases hrow with rfl|⟨b',off',hA,_,hrow⟩
   ·simp at he
   ·simp only[Option.some.injEq,Addr.mk.injEq,and_true]at hA
    obtain⟨rfl,rfl⟩:=hA
    obtain⟨_,hel⟩:=hrow.at_ he
    obtain⟨hk,rfl,hlen⟩:=K4m hts
    obtain⟨vs,hvl,hvc,hvr⟩:=RdEl.vals _ _ (hel.sub_ k n hk)
    refine⟨b,off+i*sz+k,vs,hv,by rw[hvl,hlen],hvc,K7o _ _ hvr⟩
  split at hl
  ·rename_i v' dp sz' es hob
   split at hl
   rotate_left
   ·simp at hl
   rename_i hh
   exact main sz' es (.inl ⟨dp,by rw[hob]⟩) (by rw[hob];exact hh.1) hh.2 hl
  ·rename_i v' sz' es hob
   split at hl
   rotate_left
   ·simp at hl
   rename_i hh
   exact main sz' es (.inr (by rw[hob])) (by rw[hob];exact hh.1) hh.2 hl
  ·simp at hl
 |ex bo sz es i k=>
  simp only[St.load]at hl
  simp only[AdR]at h
  obtain⟨b,off,hv,hr,_⟩:=h
  obtain⟨e,he,hl⟩:=Option.bind_eq_some_iff.1 hl
  obtain⟨ts',hts,rfl⟩:=Option.map_eq_some_iff.1 hl
  obtain⟨hk,rfl,hlen⟩:=K4m hts
  cases bo with
  |true=>
   simp only[if_true]at hr ⊢
   obtain⟨vs,hvl,hvc,hvr⟩:=RdEl.vals _ _ ((hr.2.at_ he).2.sub_ k n hk)
   exact⟨b,off+i*sz+k,vs,hv,by rw[hvl,hlen],hvc,K7o _ _ hvr⟩
  |false=>
   simp only[Bool.false_eq_true,if_false]at hr ⊢
   obtain⟨vs,hvl,hvc,hvr⟩:=RdEl.vals _ _ ((hr.2.at_ he).2.sub_ k n hk)
   exact⟨b,off+i*sz+k,vs,hv,by rw[hvl,hlen],hvc,K5t _ _ hvr⟩
 |pb ts' k=>
  simp only[St.load]at hl
  simp only[AdR]at h
  obtain⟨b,hv,_,_,hr⟩:=h
  obtain⟨ts'',hts,rfl⟩:=Option.map_eq_some_iff.1 hl
  obtain⟨hk,rfl,hlen⟩:=K4m hts
  obtain⟨vs,hvl,hvc,hvr⟩:=RdEl.vals _ _ (hr.sub_ k n hk)
  exact⟨b,0+k,vs,by simpa using hv,by rw[hvl,hlen],hvc,K5t _ _ hvr⟩
theorem Rel.adr(R:Rel base Z w0 w σ a.tmps g){y:Operand}{x:Od}(h:K3 y x=true){ad:Ad}(ha:σ.adr x=some ad):AdR w σ.V g ad (a.eval y):=by
 have he:=R.ev h
 unfold St.adr at ha
 split at ha
 ·rename_i ad' hs
  simp at ha;subst ha
  rw[hs]at he
  exact he
 ·rename_i ts hs
  simp at ha;subst ha
  rw[hs]at he
  simp only[SlotR,ValR,Bool.false_eq_true,if_false]at he
  obtain⟨c,hc,he⟩:=he
  simp at hc;subst hc
  simp only[CellR,Rd]at he
  obtain⟨b,hv,hx,hb,hr⟩:=he
  exact⟨b,hv,hx,hb,hr⟩
 ·simp at ha
theorem AdR.ptr{ad:Ad}{v:Value}(h:AdR w V g ad v):∃b o,v= .pointer (some ⟨b,o,none⟩):=by
 cases ad<;>simp only[AdR]at h
 ·obtain⟨_,b,_,hv⟩:=h;exact⟨_,_,hv⟩
 ·obtain⟨_,b,off,_,_,_,hv⟩:=h;exact⟨_,_,hv⟩
 ·obtain⟨b,off,hv,_⟩:=h;exact⟨_,_,hv⟩
 ·obtain⟨b,hv,_⟩:=h;exact⟨_,_,hv⟩
theorem good_load(R:Rel base Z w0 w σ a.tmps g){d n:Nat}{agg:Bool}{x:Od}{x':Operand}{t:TypeId}(hd:o.dst=some d)(ho:o.op= .load t x')(hx:K3 x' x=true)(ht:Ty P t agg n){e:Ef}
  (he:eff (.load d agg n x) σ=some e):Good P o a base Z w0 w (σ.app e):=by
 simp only[eff]at he
 obtain⟨ad,had,he⟩:=Option.bind_eq_some_iff.1 he
 obtain⟨cs,hcs,he⟩:=Option.bind_eq_some_iff.1 he
 split at he<;>simp at he
 rename_i h1
 subst he
 obtain⟨b,o',vs,hv,hn,hc,hr⟩:=R.load (R.adr hx had) hcs
 refine Ks R hd (s:=Instr.loadAt t (a.eval x')) (by simp[execOp,ho]) (v:=if agg then .agg vs.toArray else vs.getD 0 undef) ?_ ?_
 ·simp only[Instr.loadAt,hv,Instr.sureAddr,Sem.run_bind,Sem.run_pure,Result.andThen_ok]
  exact K3n ht hn hc h1
 ·simp only[SlotR,ValR]
  cases agg with
  |true=>simp only[if_true];exact⟨vs,rfl,hr⟩
  |false=>
   simp only[Bool.false_eq_true,if_false]
   have hn1:n=1:=by simpa using h1
   subst hn1
   obtain⟨u,rfl⟩:=List.length_eq_one_iff.1 hn
   cases cs with
   |nil=>exact hr.elim
   |cons c cs=>
    cases cs with
    |nil=>exact⟨c,rfl,hr.1⟩
    |cons c' cs=>exact hr.2.elim
theorem good_fld(R:Rel base Z w0 w σ a.tmps g){d off:Nat}{x:Od}{x':Operand}{t:TypeId}{f:Nat}{fs:Array Field}{fd:Field}{i:TypeInfo}(hd:o.dst=some d)(ho:o.op= .fieldAddr t x' f)(hx:K3 x' x=true)
  (hu:P.underlying t=some (.struct fs)) (hf:fs[f]? =some fd) (hi:P.info? fd.type=some i) (hz:i.size≠0) (hoff:fd.offset=off) {e:Ef} (he:eff (.fld d x off) σ=some e):Good P o a base Z w0 w (σ.app e):=by
 simp only[eff]at he
 obtain⟨ad,had,he⟩:=Option.bind_eq_some_iff.1 he
 have hA:=R.adr hx had
 obtain⟨b,o',hv⟩:=hA.ptr
 have hrun:(Instr.fieldAt t (a.eval x') f).run P w= .ok (.pointer (some ⟨b,o'+off,none⟩)) w:=by
  simp[Instr.fieldAt,run_underlying hu,hf,hv,Instr.sureAddr,fieldPlace,sizeOf,typeInfo,hi,hz,K19,hoff]
 have hx:execOp a.eval o=(do let x ←Instr.fieldAt t (a.eval x') f;pure (Next.value x)):=by simp[execOp,ho]
 cases ad<;>simp at he<;>subst he<;>refine Ks R hd hx hrun ?_<;>simp only[SlotR,AdR]at hA ⊢
 ·rw[hv]at hA
  obtain⟨h1,b',hH,hp⟩:=hA
  simp at hp
  obtain⟨rfl,rfl⟩:=hp
  exact⟨h1,b,hH,rfl⟩
 ·rw[hv]at hA
  obtain⟨h1,b',off',len,cap,hH,hp⟩:=hA
  simp at hp
  obtain⟨rfl,rfl⟩:=hp
  exact⟨h1,b,off',len,cap,hH,by simp[Nat.add_assoc]⟩
 ·rw[hv]at hA
  obtain⟨b',off',hp,hr⟩:=hA
  simp at hp
  obtain⟨rfl,rfl⟩:=hp
  exact⟨b,off',by simp[Nat.add_assoc],hr⟩
 ·rw[hv]at hA
  obtain⟨b',hp,hr⟩:=hA
  simp at hp
  obtain⟨rfl,rfl⟩:=hp
  exact⟨b,rfl,hr⟩
end
end Go.Proofs.YtjneccbpkckdfaaGreatR
namespace Go.Proofs.YtjneccbpkckdfaaGreatR
open Go Go.RowKit
section
variable {P:Program} {base:Nat→Prop} {Z:ZZ} {w0 w:World} {σ:St} {g:Gh} {o:Oper} {a:Act} {V:Nat→Nat}
theorem K5e{lo n:Nat}{es:List (List T)}(h:lo+n≤es.length):(cut lo n es).length=n:=by
 unfold cut
 split
 ·rename_i hh;exact hh.2.symm
 ·simp;omega
theorem cut_row{X:Nat→Prop}{sz b off lo n:Nat}{es:List (List T)}(h:RdRow w X sz b off es)(hl:lo+n≤es.length):RdRow w X sz b (off+lo*sz) (cut lo n es):=by
 unfold cut
 split
 ·rename_i hh;simpa[hh.1]using h
 ·exact h.sub_ lo n hl
theorem Rel.rows{ts:Array Value}(R:Rel base Z w0 w σ ts g){c:SC}{v:Value}(h:CellR w σ.V g c v){r:Nat×List (List T)}(hr:σ.rows c=some r):
  ∃A cap,v= .slice A r.2.length cap∧Ln r.2.length cap∧(r.2=[]∨∃b off,A=some ⟨b,off,none⟩∧b<w.heap.size∧RdRow w (Xb g) r.1 b off r.2):=by
 unfold St.rows at hr
 split at hr
 ·simp at hr;subst hr;simp only[CellR,Rd]at h
  obtain⟨A,cap,hv,hl,h⟩:=h
  refine⟨A,cap,hv,hl,?_⟩
  rcases h with h|⟨b,off,hA,hX,hb,h⟩
  ·exact .inl h
  ·exact .inr ⟨b,off,hA,hb,RdRow.move ⟨Nat.le_refl _,fun b hb _=>⟨rfl,hb.xb⟩⟩ _ off off (fun _ _=>rfl) h⟩
 ·simp at hr;subst hr;simp only[CellR,Rd]at h
  obtain⟨A,cap,hv,hl,h⟩:=h
  refine⟨A,cap,hv,hl,?_⟩
  rcases h with h|⟨b,off,hA,hX,hb,h⟩
  ·exact .inl h
  ·exact .inr ⟨b,off,hA,hb,h⟩
 ·simp at hr;subst hr;simp only[CellR]at h
  obtain⟨A,hv⟩:=h
  exact⟨A,0,hv,Ln.z _,.inl rfl⟩
 ·rename_i id ver sz lo n
  simp only[CellR]at h
  obtain⟨_,A,len,cap,A',c',hH,hv,hn,hnc,hcc,hA',_⟩:=h
  have main:∀(sz':Nat) (es:List (List T)),((∃dp,(σ.ob id).oc= .row dp sz' es)∨(σ.ob id).oc= .lent sz' es)→(σ.ob id).ver=ver→sz=sz'→lo+n≤es.length→r=(sz,cut lo n es)→
    ∃A cap,v= .slice A r.2.length cap∧Ln r.2.length cap∧(r.2=[]∨∃b off,A=some ⟨b,off,none⟩∧b<w.heap.size∧RdRow w (Xb g) r.1 b off r.2):=by
   clear hr
   intro sz' es hob hver hsz hle hr
   subst hsz hver hr
   obtain⟨A2,cap2,hH2,hbd,hrow⟩:=R.shown hob
   rw[hH2]at hH
   simp only[Value.slice.injEq]at hH
   obtain⟨rfl,_,_⟩:=hH
   refine⟨A',c',by rw[K5e hle];exact hv,by rw[K5e hle];exact⟨hnc,by have:=hbd.2;omega⟩,?_⟩
   rcases hrow with rfl|⟨b,off,rfl,hb,hrow⟩
   ·left
    simp at hle
    simp[cut,hle]
   ·by_cases h0:n=0
    ·left
     have:=K5e hle
     rw[h0]at this
     exact List.length_eq_zero_iff.1 (by rw[h0];exact this)
    ·right
     rcases hA' with hA'|hA'
     ·omega
     ·exact⟨b,off+lo*sz,by simpa using hA',hb,cut_row hrow hle⟩
  split at hr
  ·rename_i v' dp sz' es hob
   split at hr
   rotate_left
   ·simp at hr
   rename_i hh
   simp at hr
   exact main sz' es (.inl ⟨dp,by rw[hob]⟩) (by rw[hob];exact hh.1) hh.2.1 hh.2.2 hr.symm
  ·rename_i v' sz' es hob
   split at hr
   rotate_left
   ·simp at hr
   rename_i hh
   simp at hr
   exact main sz' es (.inr (by rw[hob])) (by rw[hob];exact hh.1) hh.2.1 hh.2.2 hr.symm
  ·simp at hr
 ·simp at hr
theorem rows_pl{t:T}{r:Nat×List (List T)}(h:σ.rows (.pl t)=some r):t= .sl r.1 r.2:=by
 cases t<;>simp[St.rows]at h
 subst h;rfl
theorem Kaw{t:T}{r:Nat×List (List T)}(h:σ.rows (.bor t)=some r):t= .sl r.1 r.2:=by
 cases t<;>simp[St.rows]at h
 subst h;rfl
theorem Kax{id ver sz lo n:Nat}{r:Nat×List (List T)}(h:σ.rows (.ref id ver sz lo n)=some r):r.1=sz:=by
 simp only[St.rows]at h
 split at h
 ·split at h<;>simp at h
  rw[←h]
 ·split at h<;>simp at h
  rw[←h]
 ·simp at h
theorem good_len(R:Rel base Z w0 w σ a.tmps g){d:Nat}{str:Bool}{x:Od}{x':Operand}{c:Call}{t:TypeId}(hd:o.dst=some d)(ho:o.op= .call c)(hc:c.callee= .builtin .len)(ha:c.args= #[x'])(hat:c.argTypes= #[t])
  (ht:if str then P.underlying t=some .string else ∃e,P.underlying t=some (.slice e)) (hx:K3 x' x=true) {e:Ef} (he:eff (.len d str x) σ=some e):Good P o a base Z w0 w (σ.app e):=by
 simp only[eff]at he
 obtain⟨cell,hcell,he⟩:=Option.bind_eq_some_iff.1 he
 have hC:=(R.ev hx).one_ hcell
 cases str with
 |true=>
  simp only[if_true]at he ht
  obtain⟨s,hs,rfl⟩:=Option.map_eq_some_iff.1 he
  obtain⟨v,hv,hs⟩:=Option.bind_eq_some_iff.1 hs
  have hvs:v= .string s:=by unfold vStr at hs;split at hs<;>simp_all
  obtain⟨hC,hW⟩:=K67 hC hv
  have hS:s.size≤9223372036854775807:=by rw[hC,hvs]at hW;simpa[oneW,wfB,Value.oneCell']using hW
  refine K18 R hd ?_ (K1s (v:= .int .i64 s.size) (K1n (by rw[K8y,K8x];omega)))
  simp only[execOp,ho]
  refine K1k hc (s:=Builtin.len_ c.argTypes o.type (c.args.map a.eval)) (fun _=>rfl) ?_
  simp[ha,hat,Builtin.len_,run_underlying ht,hC,hvs,goInt]
 |false=>
  simp only[Bool.false_eq_true,if_false]at he ht
  obtain⟨r,hr,rfl⟩:=Option.map_eq_some_iff.1 he
  obtain⟨A,cap,hv,hln,_⟩:=R.rows hC hr
  obtain⟨et,hu⟩:=ht
  have hS:r.2.length≤140737488355328:=hln.2.1
  refine K18 R hd ?_ (K1s (v:= .int .i64 r.2.length) (K1n (by rw[K8y,K8x];omega)))
  simp only[execOp,ho]
  refine K1k hc (s:=Builtin.len_ c.argTypes o.type (c.args.map a.eval)) (fun _=>rfl) ?_
  simp[ha,hat,Builtin.len_,run_underlying hu,hv,goInt]
theorem good_idx(R:Rel base Z w0 w σ a.tmps g){d sz bytes:Nat}{x i:Od}{x' i':Operand}{t et:TypeId}(hd:o.dst=some d)(ho:o.op= .indexAddr t x' i')(hx:K3 x' x=true)(hi:K3 i' i=true)
  (ht:Sl P t et sz bytes) {e:Ef} (he:eff (.idx d sz x i) σ=some e):Good P o a base Z w0 w (σ.app e):=by
 simp only[eff]at he
 obtain⟨c,hc,he⟩:=Option.bind_eq_some_iff.1 he
 obtain⟨n,hn,he⟩:=Option.bind_eq_some_iff.1 he
 obtain⟨r,hr,he⟩:=Option.bind_eq_some_iff.1 he
 split at he
 rotate_left
 ·simp at he
 rename_i hh
 obtain⟨hsz,h0,hlt⟩:=hh
 subst hsz
 have hC:=(R.ev hx).one_ hc
 obtain⟨A,cap,hv,hcap,hrow⟩:=R.rows hC hr
 have hne:r.2≠[]:=by intro h;rw[h]at hlt;simp at hlt;omega
 obtain⟨b,off,hA,hb,hrow⟩:=hrow.resolve_left hne
 subst hA
 obtain⟨inf,hu,hinf,hsize,_⟩:=ht
 have hrun:(Instr.indexAt t (a.eval x') (a.eval i')).run P w= .ok (.pointer (some ⟨b,off+n.toNat*r.1,none⟩)) w:=by
  simp[Instr.indexAt,R.int hi hn,asIntOf,run_underlying hu,hv,h0,hlt,sizeOf,typeInfo,hinf,hsize,K19]
 have hex:execOp a.eval o=(do let x ←Instr.indexAt t (a.eval x') (a.eval i');pure (Next.value x)):=by simp[execOp,ho]
 have hread:∀ {X:Nat→Prop},Rd w X (.sl r.1 r.2) (a.eval x')→X b∧RdRow w X r.1 b off r.2:=by
  intro X hC
  simp only[Rd]at hC
  obtain⟨A2,cap2,hv2,_,hC⟩:=hC
  rw[hv]at hv2
  simp only[Value.slice.injEq]at hv2
  obtain⟨rfl,_,_⟩:=hv2
  obtain⟨b2,off2,hA2,hX,hb2,hC⟩:=hC.resolve_left hne
  simp at hA2
  obtain⟨rfl,rfl⟩:=hA2
  exact⟨hX,hC⟩
 split at he<;>simp at he<;>subst he
 ·refine Ks R hd hex hrun ?_
  rw[rows_pl hr]at hC
  have:=hread hC
  simp only[SlotR,AdR]
  exact⟨b,off,by simp,by simp only[Bool.false_eq_true,if_false];exact this,hb⟩
 ·refine Ks R hd hex hrun ?_
  rw[Kaw hr]at hC
  have:=hread hC
  simp only[SlotR,AdR]
  exact⟨b,off,by simp,by simp only[if_true];exact this,hb⟩
 ·refine Ks R hd hex hrun ?_
  have hsz':=Kax hr
  simp only[CellR]at hC
  obtain⟨hver,A2,len,cap2,A',c',hH,hv2,hn2,hnc,hcc,hA',hsp⟩:=hC
  rw[hv]at hv2
  simp only[Value.slice.injEq]at hv2
  obtain⟨rfl,hl2,rfl⟩:=hv2
  simp only[SlotR,AdR]
  have hc0:¬cap=0:=by
   intro h
   have:r.2.length=0:=by omega
   exact hne (List.length_eq_zero_iff.1 this)
  have hA3:=hA'.resolve_left hc0
  cases A2 with
  |none=>simp at hA3
  |some ad=>
   have hsp':=hsp.resolve_left hc0 ad rfl
   simp at hA3
   obtain⟨hb',ho'⟩:=hA3
   refine⟨hver,ad.block,ad.off,len,cap2,?_,?_⟩
   ·rw[hH];cases ad;simp at hsp';subst hsp';rfl
   ·rw[hb',ho',hsz'];simp[Nat.add_mul,Nat.add_assoc]
theorem good_idxA(R:Rel base Z w0 w σ a.tmps g){d sz n:Nat}{x i:Od}{x' i':Operand}{t et:TypeId}{inf:TypeInfo}(hd:o.dst=some d)(ho:o.op= .indexAddr t x' i')(hx:K3 x' x=true)(hi:K3 i' i=true)
  (hu:P.underlying t=some (.array n et)) (hinf:P.info? et=some inf) (hsize:inf.size=sz) {e:Ef} (he:eff (.idxA d sz n x i) σ=some e):Good P o a base Z w0 w (σ.app e):=by
 simp only[eff]at he
 obtain⟨ad,had,he⟩:=Option.bind_eq_some_iff.1 he
 obtain⟨k,hk,he⟩:=Option.bind_eq_some_iff.1 he
 have hA:=R.adr hx had
 split at he
 rotate_left
 ·simp at he
 split at he
 rotate_left
 ·simp at he
 rename_i idb vb kb _ hh
 simp at he;subst he
 simp only[AdR]at hA
 obtain⟨h1,b,hH,hv⟩:=hA
 refine Ks R hd (s:=Instr.indexAt t (a.eval x') (a.eval i')) (v:= .pointer (some ⟨b,kb+k.toNat*sz,none⟩)) (by simp[execOp,ho]) ?_ ?_
 ·simp[Instr.indexAt,R.int hi hk,asIntOf,run_underlying hu,hv,hh,sizeOf,typeInfo,hinf,hsize,K19,Instr.sureAddr]
 ·simp only[SlotR,AdR]
  exact⟨h1,b,hH,rfl⟩
theorem good_nilc(R:Rel base Z w0 w σ a.tmps g){d:Nat}{x:Od}{x':Operand}(hd:o.dst=some d)(ho:o.op= .nilCheck x')(hx:K3 x' x=true){e:Ef}(he:eff (.nilc d x) σ=some e):Good P o a base Z w0 w (σ.app e):=by
 simp only[eff]at he
 obtain⟨ad,had,rfl⟩:=Option.map_eq_some_iff.1 he
 have hA:=R.adr hx had
 obtain⟨b,o',hv⟩:=hA.ptr
 refine K18 R hd (v:=a.eval x') (by simp[execOp,ho,hv]) hA
theorem ValsR.at_:∀ {xs:List (Bool×List SC)} {vs:List Value},ValsR w V g xs vs→∀ {i:Nat} {x:Bool×List SC},xs[i]? =some x→∃v,vs[i]? =some v∧ValR w V g x.1 x.2 v
 | [],[],_,i,x,h=>by simp at h
 |y::ys,v::vs,hr,i,x,h=>by
  cases i with
  |zero=>simp at h;subst h;exact⟨v,rfl,hr.1⟩
  |succ i=>simp at h;obtain⟨u,hu,h⟩:=ValsR.at_ hr.2 h;exact⟨u,by simpa using hu,h⟩
 | [],_::_,hr,_,_,_=>hr.elim
 |_::_,[],hr,_,_,_=>hr.elim
theorem good_ext(R:Rel base Z w0 w σ a.tmps g){d i:Nat}{x:Od}{x':Operand}(hd:o.dst=some d)(ho:o.op= .extract x' i)(hx:K3 x' x=true){e:Ef}(he:eff (.ext d x i) σ=some e):Good P o a base Z w0 w (σ.app e):=by
 simp only[eff]at he
 split at he
 rotate_left
 ·simp at he
 rename_i vs hs
 obtain⟨v,hv,rfl⟩:=Option.map_eq_some_iff.1 he
 have hE:=R.ev hx
 rw[hs]at hE
 simp only[SlotR]at hE
 obtain⟨us,hu,hr⟩:=hE
 obtain⟨u,hu',h⟩:=hr.at_ hv
 refine Ks R hd (s:=Instr.extract (a.eval x') i) (v:=u) (by simp[execOp,ho]) ?_ h
 simp[Instr.extract,hu,hu']
theorem good_convI(R:Rel base Z w0 w σ a.tmps g){d:Nat}{k:IntKind}{x:Od}{x':Operand}{t u:TypeId}{ds:TypeDesc}(hd:o.dst=some d)(ho:o.op= .convert t u x')(hx:K3 x' x=true)(hs:P.underlying t=some ds)
  (hu:P.underlying u=some (.int k)) {e:Ef} (he:eff (.convI d k x) σ=some e):Good P o a base Z w0 w (σ.app e):=by
 simp only[eff]at he
 obtain⟨v,hv,he⟩:=Option.bind_eq_some_iff.1 he
 split at he<;>simp at he
 subst he
 rename_i k' n
 refine Ks R hd (s:=convert t u (a.eval x')) (v:= .int k (k.wrap n)) (by simp[execOp,ho]) ?_ (K1s (K1n (wrap_within _ _)))
 rw[(R.sca hx hv).1]
 simp only[convert,Sem.run_bind,run_underlying hs,run_underlying hu,Result.andThen_ok]
 rfl
theorem byteOf_ok{e:List T}{b:UInt8}(h:byteOf e=some b):e=[.sc (.int .u8 b.toNat)]:=by
 unfold byteOf at h
 split at h
 ·rename_i n
  obtain⟨h1,h2⟩:=Option.ite_none_right_eq_some.1 h
  simp only[Option.some.injEq]at h2
  subst h2
  congr 3
  simp only[UInt8.toNat_ofNat']
  omega
 ·simp at h
theorem K9g{α β:Type}{f:α→Option β}:∀ {xs:List α} {l:List β},K1 (xs.map f)=some l→l.length=xs.length∧∀(i:Nat) (y:β),l[i]? =some y→∃x,xs[i]? =some x∧f x=some y
 | [],l,h=>by simp[K1]at h;subst h;simp
 |x::xs,l,h=>by
  simp only[List.map_cons]at h
  cases hx:f x with
  |none=>rw[hx]at h;simp[K1]at h
  |some y=>
   rw[hx]at h
   simp only[K1]at h
   obtain⟨l',h',rfl⟩:=Option.map_eq_some_iff.1 h
   obtain⟨h1,h2⟩:=K9g h'
   refine⟨by simp[h1],fun i z hz=>?_⟩
   cases i with
   |zero=>simp at hz;subst hz;exact⟨x,rfl,hx⟩
   |succ i=>simpa using h2 i z (by simpa using hz)
theorem good_convS(R:Rel base Z w0 w σ a.tmps g){d:Nat}{x:Od}{x':Operand}{t u et:TypeId}(hd:o.dst=some d)(ho:o.op= .convert t u x')(hx:K3 x' x=true)(hs:P.underlying t=some (.slice et))
  (hbt:P.underlying et=some (.int .u8)) (hu:P.underlying u=some .string) {e:Ef} (he:eff (.convS d x) σ=some e):Good P o a base Z w0 w (σ.app e):=by
 simp only[eff]at he
 obtain⟨cell,hcell,he⟩:=Option.bind_eq_some_iff.1 he
 obtain⟨r,hr,he⟩:=Option.bind_eq_some_iff.1 he
 obtain⟨h1,he⟩:=Option.ite_none_right_eq_some.1 he
 obtain⟨l,hl,rfl⟩:=Option.map_eq_some_iff.1 he
 have hC:=(R.ev hx).one_ hcell
 obtain⟨A,cap,hv,hln,hrow⟩:=R.rows hC hr
 obtain⟨hlen,hat⟩:=K9g hl
 have hroom:l.length≤140737488355328:=by rw[hlen];exact hln.2.1
 have hsz:(⟨l.toArray⟩:ByteArray).size≤9223372036854775807:=by
  have e1:(⟨l.toArray⟩:ByteArray).size=l.length:=by simp[ByteArray.size]
  omega
 refine Ks R hd (s:=convert t u (a.eval x')) (v:= .string ⟨l.toArray⟩) (by simp[execOp,ho]) ?_ (K1s (K64 hsz))
 rw[hv,←hlen]
 rcases hrow with h0|⟨b,off,hA,hb,hrow⟩
 ·have hl0:l=[]:=by
   apply List.eq_nil_of_length_eq_zero
   rw[hlen,h0];rfl
  subst hl0
  cases A with
  |none=>
   have:=Go.run_convert_bytes_nil (P:=P) w t et hs hbt 0 cap u hu
   exact this
  |some a0=>
   exact Go.run_convert_bytes_back (P:=P) w t u et a0 cap [] hs hbt hu (fun j hj=>by simp at hj)
 ·subst hA
  refine Go.run_convert_bytes_back (P:=P) w t u et ⟨b,off,none⟩ cap l hs hbt hu fun j hj=>?_
  obtain⟨e',he',hbyte⟩:=hat j l[j] (List.getElem?_eq_getElem hj)
  have hb1:=byteOf_ok hbyte
  subst hb1
  have h2:=(hrow.at_ he').2
  rw[h1]at h2
  simp only[RdEl,Rd,and_true]at h2
  obtain⟨v,hv1,rfl,_⟩:=h2
  have e1:(⟨b,off,none⟩:Addr).add j=⟨b,off+j,none⟩:=by
   by_cases h0:j=0<;>simp[Addr.add,h0]
  rw[e1,←hv1,Nat.mul_one]
theorem good_idxs(R:Rel base Z w0 w σ a.tmps g){d:Nat}{x i:Od}{x' i':Operand}{t:TypeId}(hd:o.dst=some d)(ho:o.op= .index t x' i')(hx:K3 x' x=true)(hi:K3 i' i=true)(hu:P.underlying t=some .string){e:Ef}
  (he:eff (.idxs d x i) σ=some e):Good P o a base Z w0 w (σ.app e):=by
 simp only[eff]at he
 obtain⟨s,hs,he⟩:=Option.bind_eq_some_iff.1 he
 obtain⟨v,hv,hs⟩:=Option.bind_eq_some_iff.1 hs
 obtain⟨n,hn,he⟩:=Option.bind_eq_some_iff.1 he
 have hvs:v= .string s:=by unfold vStr at hs;split at hs<;>simp_all
 split at he
 rotate_left
 ·simp at he
 rename_i h0
 obtain⟨b,hb,rfl⟩:=Option.map_eq_some_iff.1 he
 refine Ks R hd (s:=Instr.index t (a.eval x') (a.eval i')) (v:= .int .u8 b.toNat) (by simp[execOp,ho]) ?_ (K1s (K1n (by have:=b.toNat_lt;have e1:IntKind.u8.min=0:=rfl;have e2:IntKind.u8.max=255:=rfl;rw[e1,e2];omega)))
 simp[Instr.index,R.int hi hn,asIntOf,run_underlying hu,(R.sca hx hv).1,hvs,h0,hb]
theorem good_clos(R:Rel base Z w0 w σ a.tmps g){d:Nat}{f:FuncId}{bs:List Nat}{first captured:Array Operand}(hd:o.dst=some d)(ho:o.op= .makeFunc (.func f) first captured)(h1:first= #[])
  (h2:captured.toList=bs.map fun k=> .tmp k) {e:Ef} (he:eff (.clos d f bs) σ=some e):Good P o a base Z w0 w (σ.app e):=by
 simp only[eff]at he
 obtain⟨l,hl,rfl⟩:=Option.map_eq_some_iff.1 he
 refine K18 R hd (v:= .func (.func f) #[] (captured.map a.eval)) (by simp[execOp,ho,Instr.makeFunc,h1]) ?_
 simp only[SlotR,ValR,Bool.false_eq_true,if_false]
 refine⟨_,rfl,?_⟩
 simp only[CellR]
 have key:∀(bs:List Nat) (l:List (Nat×Nat)),(K1 (bs.map fun k=>match σ.get k with| .adr (.bx id ver 0)=>some (id,ver)|_=>none))=some l→
   (bs.map fun k=>a.eval (.tmp k))=(l.map fun b=>g.H b.1 b.2)∧∀b∈l,b.2≤σ.V b.1:=by
  intro bs
  induction bs with
  |nil=>intro l h;simp[K1]at h;subst h;simp
  |cons k bs ih=>
   intro l h
   simp only[List.map_cons]at h
   have hS:=R.slot k
   split at h
   ·rename_i id ver hk
    rw[hk]at hS
    simp only[K1]at h
    obtain⟨l',hl',rfl⟩:=Option.map_eq_some_iff.1 h
    obtain⟨i1,i2⟩:=ih l' hl'
    simp only[SlotR,AdR]at hS
    obtain⟨h1,b,hH,hv⟩:=hS
    refine⟨?_,?_⟩
    ·simp only[List.map_cons,i1,List.cons.injEq,and_true]
     rw[hH];exact hv
    ·intro b hb
     rcases List.mem_cons.1 hb with rfl|hb
     ·exact h1
     ·exact i2 b hb
   ·simp[K1]at h
 obtain⟨k1,k2⟩:=key bs l hl
 refine⟨?_,k2⟩
 rw[←k1]
 congr 1
 apply Array.ext'
 rw[Array.toList_map,h2]
 simp
theorem Rel.forget1{ts:Array Value}(R:Rel base Z w0 w σ ts g)(id:Nat):Rel base Z w0 w ⟨σ.s,σ.n,σ.o.set id ⟨(σ.ob id).ver,.none⟩⟩ ts ⟨g.H,fun i=>if i=id then []else g.F i,g.Z⟩:=by
 obtain⟨τ,hτ⟩:∃τ:St,τ=⟨σ.s,σ.n,σ.o.set id ⟨(σ.ob id).ver,.none⟩⟩:=⟨_,rfl⟩
 have hob:∀i,τ.ob i=if i=id then⟨(σ.ob id).ver,.none⟩else σ.ob i:=fun i=>by
  subst hτ
  simp only[St.ob,List.getD_eq_getElem?_getD,List.getElem?_set]
  by_cases hi:i=id
  ·subst hi
   rw[if_pos rfl,if_pos rfl]
   by_cases hl:i<σ.o.length
   ·simp[hl]
   ·simp[hl]
  ·rw[if_neg (Ne.symm hi),if_neg hi]
 have hget:∀k,τ.get k=σ.get k:=fun k=>by subst hτ;rfl
 have hn:τ.n=σ.n:=by subst hτ;rfl
 rw[←hτ]
 have hV:τ.V=σ.V:=by
  funext i
  simp only[St.V,hob]
  split
  ·rename_i h;subst h;rfl
  ·rfl
 have hF:∀i b,b∈(if i=id then []else g.F i)→b∈g.F i:=by
  intro i b hb
  split at hb
  ·simp at hb
  ·exact hb
 have hh:∀i b,(if i=id then []else g.F i).head? =some b→(g.F i).head? =some b:=by
  intro i b hb
  split at hb
  ·simp at hb
  ·exact hb
 have tr:Tr w w σ.V τ.V g ⟨g.H,fun i=>if i=id then []else g.F i,g.Z⟩:=by
  refine⟨Nat.le_refl _,fun i=>by rw[hV];exact Nat.le_refl _,fun _ _ _=>rfl,fun b _ hb=>⟨rfl,hb.1,fun i he=>hb.2 i (hh i b he)⟩,fun b _ hb=>⟨hb.1,fun i he=>hb.2 i (hF i b he)⟩,rfl⟩
 refine⟨hn.trans R.len,fun k=>?_,fun i=>?_,fun i=>?_,fun b i j hi hj=>R.dj b i j (hF i b hi) (hF j b hj),fun i b hi=>R.frs i b (hF i b hi),R.grew,R.bs,R.zz,R.zb,R.tb,fun i h=>R.pin i (by rw[←hV];exact h)⟩
 ·rw[hget]
  exact tr.slot _ _ (R.slot k)
 ·rw[hob]
  by_cases hc:i=id
  ·rw[if_pos hc]
   simp only[ObjR,if_pos hc]
  ·rw[if_neg hc]
   exact tr.obj i _ (Nat.le_refl _) (by simp only[if_neg hc]) (fun _ _=>rfl) _ (R.obj i)
 ·simp only
  split
  ·exact List.nodup_nil
  ·exact R.nd i
theorem good_closF(R:Rel base Z w0 w σ a.tmps g){d:Nat}{f:FuncId}{k:Nat}{first captured:Array Operand}(hd:o.dst=some d)(ho:o.op= .makeFunc (.func f) first captured)(h1:first= #[])
  (h2:captured.toList=[k].map fun k=> .tmp k) {e:Ef} (he:eff (.closF d f k) σ=some e):Good P o a base Z w0 w (σ.app e):=by
 simp only[eff]at he
 have hS:=R.slot k
 split at he
 rotate_left
 ·simp at he
 rename_i id ver hk
 obtain⟨t,ht,rfl⟩:=Option.map_eq_some_iff.1 he
 rw[hk]at hS
 simp only[SlotR,AdR]at hS
 obtain⟨_,b0,hH0,hv⟩:=hS
 unfold St.froz at ht
 split at ht
 rotate_left
 ·simp at ht
 rename_i v cs hob
 obtain⟨hver,ht2⟩:=Option.ite_none_right_eq_some.1 ht
 subst hver
 obtain⟨l,hl,rfl⟩:=Option.map_eq_some_iff.1 ht2
 have hO:=R.obj id
 rw[hob]at hO
 simp only[ObjR]at hO
 obtain⟨b,ty,vs,hH,hc,hr,hFb⟩:=hO
 obtain rfl:b=b0:=by rw[hH]at hH0;simpa using hH0
 have R':=R.forget1 id
 have hver:(σ.ob id).ver=v:=by rw[hob]
 rw[hver]at R'
 have hX:Xe ⟨g.H,fun i=>if i=id then []else g.F i,g.Z⟩ b:=by
  have hbF:b∈g.F id:=by rw[hFb];simp
  refine⟨fun hz=>(R.frs id b hbF).1 (R.zb b (by rw[←R.zz];exact hz)),fun i hi=>?_⟩
  simp only at hi
  split at hi
  ·simp at hi
  ·rename_i hne
   exact hne (R.dj b i id hi hbF)
 have hK:Kp w w (Xe g) (Xe ⟨g.H,fun i=>if i=id then []else g.F i,g.Z⟩):=by
  refine⟨Nat.le_refl _,fun b' hx _=>⟨rfl,hx.1,fun i hi=>?_⟩⟩
  simp only at hi
  split at hi
  ·simp at hi
  ·exact hx.2 i hi
 have key:∀(cs:List SC) (us:List Value) (l:List T) (off:Nat),CellsR w σ.V g cs us→K1 (cs.map SC.frz)=some l→(∀j u,us[j]? =some u→vs[off+j]? =some u)→RdEl w (Xe ⟨g.H,fun i=>if i=id then []else g.F i,g.Z⟩) b off l:=by
  intro cs
  induction cs with
  |nil=>intro us l off _ h _;simp[K1]at h;subst h;simp only[RdEl]
  |cons c cs ih=>
   intro us l off hr h hu
   cases us with
   |nil=>exact hr.elim
   |cons u us=>
    simp only[List.map_cons]at h
    cases hc1:c.frz with
    |none=>rw[hc1]at h;simp[K1]at h
    |some t=>
    rw[hc1]at h
    simp only[K1]at h
    obtain⟨l',hl',rfl⟩:=Option.map_eq_some_iff.1 h
    simp only[RdEl]
    refine⟨⟨u,?_,?_⟩,ih us l' (off+1) hr.2 hl' (fun j u' hj=>?_)⟩
    ·have:=hu 0 u rfl
     simpa[World.cell?,hc]using this
    ·have hcr:=hr.1
     unfold SC.frz at hc1
     split at hc1
     ·obtain rfl:=Option.some.inj hc1
      exact Rd.keep hK _ _ hcr
     ·obtain rfl:=Option.some.inj hc1
      simp only[CellR,Rd]at hcr ⊢
      exact hcr
     ·simp at hc1
    ·rw[show off+1+j=off+(j+1)by omega]
     exact hu (j+1) u' (by simpa using hj)
 have hcap:captured.map a.eval= #[.pointer (some ⟨b,0,none⟩)]:=by
  apply Array.ext'
  rw[Array.toList_map,h2]
  simp only[List.map_cons,List.map_nil]
  exact congrArg (fun x=>[x]) hv
 refine K18 R' hd (v:= .func (.func f) #[] (captured.map a.eval)) (by simp[execOp,ho,Instr.makeFunc,h1]) ?_
 simp only[SlotR,ValR,Bool.false_eq_true,if_false]
 refine⟨_,rfl,?_⟩
 simp only[CellR]
 unfold Rd
 refine⟨[.pointer (some ⟨b,0,none⟩)],by rw[hcap],?_⟩
 simp only[RdL,and_true]
 unfold Rd
 exact⟨b,rfl,hX,K1g hc,key cs vs l 0 hr hl (fun j u h=>by simpa using h)⟩
end
end Go.Proofs.YtjneccbpkckdfaaGreatR
namespace Go.Proofs.YtjneccbpkckdfaaGreatR
open Go Go.RowKit
section
variable {P:Program} {base:Nat→Prop} {Z:ZZ} {w0 w:World} {σ:St} {g:Gh} {o:Oper} {a:Act} {V:Nat→Nat}
theorem foldl_set(i:Nat)(d:OV):∀(obs:List (Nat×OV)) (l:List OV),(obs.foldl (fun o x=>o.set x.1 x.2) l).getD i d=obs.foldl (fun acc x=>if x.1=i∧i<l.length then x.2 else acc) (l.getD i d)
 | [],l=>rfl
 |x::obs,l=>by
  simp only[List.foldl_cons]
  rw[foldl_set i d obs (l.set x.1 x.2)]
  simp only[List.length_set]
  congr 1
  simp only[List.getD_eq_getElem?_getD,List.getElem?_set]
  by_cases h:x.1=i
  ·by_cases hi:i<l.length<;>simp[h,hi]
  ·simp[h]
theorem K20(σ:St)(d:Option (Nat×SV))(obs:List (Nat×OV))(i:Nat):(σ.app ⟨d,obs⟩).ob i=obs.foldl (fun acc x=>if x.1=i∧i<σ.o.length then x.2 else acc) (σ.ob i):=by
 unfold St.ob
 exact foldl_set i ⟨0,.none⟩ obs σ.o
theorem K3s{σ:St}{i:Nat}(h:σ.o.length≤i):σ.ob i=⟨0,.none⟩:=by
 simp[St.ob,List.getD_eq_getElem?_getD,List.getElem?_eq_none h]
theorem K6o(f:Nat→OV)(i n:Nat):∀(ks:List Nat) (acc:OV),(ks.map fun k=>(k,f k)).foldl (fun acc (x:Nat×OV)=>if x.1=i∧i<n then x.2 else acc) acc=if i∈ks∧i<n then f i else acc
 | [],acc=>by simp
 |k::ks,acc=>by
  simp only[List.map_cons,List.foldl_cons,K6o f i n ks,List.mem_cons]
  by_cases hk:k=i
  ·subst hk
   by_cases hn:k<n<;>simp[hn]
  ·have hk':¬i=k:=fun e=>hk e.symm
   simp[hk,hk']
def lentOf(o:OV):OV:=match o with
 |⟨v,.row _ sz es⟩=>⟨v,.lent sz es⟩
 |o=>o
theorem ob_lend(σ:St)(ks:List Nat)(i:Nat)(acc:OV)(hacc:i∈ks→acc=σ.ob i):(σ.lend ks).foldl (fun acc x=>if x.1=i∧i<σ.o.length then x.2 else acc) acc=if i∈ks then lentOf (σ.ob i)else acc:=by
 have:=K6o (fun id=>lentOf (σ.ob id)) i σ.o.length ks acc
 unfold St.lend
 refine this.trans ?_
 by_cases hi:i∈ks
 ·by_cases hl:i<σ.o.length
  ·simp[hi,hl]
  ·simp only[hi,hl,and_false,if_false,if_true]
   rw[hacc hi,K3s (Nat.le_of_not_lt hl)];rfl
 ·simp[hi]
theorem K40(o:OV):(lentOf o).ver=o.ver:=by
 unfold lentOf;split<;>rfl
theorem Rel.turn(R:Rel base Z w0 w σ a.tmps g)(d:Option (Nat×SV))(obs:List (Nat×OV))(w':World)(g':Gh)(dst:Option Tmp)(v:Value)
  (tr:Tr w w' σ.V (σ.app ⟨d,obs⟩).V g g')
  (hs:match d with|some (d,s)=>dst=some d∧SlotR w' (σ.app ⟨some (d,s),obs⟩).V g' s v|none=>dst=none)
  (hv1:∀id,(σ.app ⟨d,obs⟩).V id=1→σ.V id=1)
  (hob:∀id,((σ.app ⟨d,obs⟩).ob id=σ.ob id∧g'.F id=g.F id∧∀b∈g.F id,w'.heap[b]? =w.heap[b]?)∨ObjR w' (σ.app ⟨d,obs⟩).V g' id ((σ.app ⟨d,obs⟩).ob id).ver ((σ.app ⟨d,obs⟩).ob id).oc)
  (nd:∀id,(g'.F id).Nodup) (dj:∀b i j,b∈g'.F i→b∈g'.F j→i=j) (frs:∀i b,b∈g'.F i→¬base b∧b<w'.heap.size) (gr:Bel base w0 w'):
  Rel base Z w0 w' (σ.app ⟨d,obs⟩) (a.put dst v).tmps g':=by
 refine⟨?_,?_,?_,nd,dj,frs,gr,fun b hb=>Nat.lt_of_lt_of_le (R.bs b hb) tr.size,tr.z.trans R.zz,R.zb,R.tb,fun id h=>by rw[tr.hd id 1 (by rw[hv1 id h];exact Nat.le_refl _),tr.z];exact R.pin id (hv1 id h)⟩
 ·rw[K91,R.len,K27]
  cases dst<;>simp
 ·intro k
  cases d with
  |none=>
   simp only at hs
   subst hs
   exact tr.slot _ _ (R.slot k)
  |some x=>
   obtain⟨d,s⟩:=x
   obtain⟨rfl,hs⟩:=hs
   rw[K2o,K27,K4e,R.len]
   by_cases hk:d=k∧k<a.tmps.size
   ·rw[if_pos hk,if_pos hk];exact hs
   ·rw[if_neg hk,if_neg hk];exact tr.slot _ _ (R.slot k)
 ·intro id
  rcases hob id with ⟨h1,h2,h3⟩|h
  ·rw[h1]
   exact tr.obj id _ (Nat.le_refl _) h2 h3 _ (R.obj id)
  ·exact h
theorem redist{ts:Array Value}(R:Rel base Z w0 w σ ts g){w':World}{g':Gh}{id:Nat}{L:List Nat}(h1:∀i,i≠id→g'.F i=g.F i∨g'.F i=[])(h2:g'.F id=L)(h3:L.Nodup)
  (h4:∀b∈L,(w.heap.size≤b∧b<w'.heap.size)∨∃j,b∈g.F j∧(j=id∨g'.F j=[])) (hsz:w.heap.size≤w'.heap.size):
  (∀id,(g'.F id).Nodup)∧(∀b i j,b∈g'.F i→b∈g'.F j→i=j)∧(∀i b,b∈g'.F i→¬base b∧b<w'.heap.size):=by
 have key:∀b i,i≠id→b∈g'.F i→b∈L→False:=by
  intro b i hi hb hL
  have hbi:b∈g.F i:=by rcases h1 i hi with h|h<;>rw[h]at hb<;>simp_all
  rcases h4 b hL with h|⟨j,hj,h⟩
  ·have:=(R.frs i b hbi).2;omega
  ·obtain rfl:=R.dj b i j hbi hj
   rcases h with h|h
   ·exact hi h
   ·rw[h]at hb;simp at hb
 refine⟨?_,?_,?_⟩
 ·intro i
  by_cases hi:i=id
  ·subst hi;rw[h2];exact h3
  ·rcases h1 i hi with h|h<;>rw[h]
   ·exact R.nd i
   ·simp
 ·intro b i j hbi hbj
  by_cases hi:i=id
  ·by_cases hj:j=id
   ·rw[hi,hj]
   ·subst hi;rw[h2]at hbi;exact(key b j hj hbj hbi).elim
  ·by_cases hj:j=id
   ·subst hj;rw[h2]at hbj;exact(key b i hi hbi hbj).elim
   ·have h5:b∈g.F i:=by rcases h1 i hi with h|h<;>rw[h]at hbi<;>simp_all
    have h6:b∈g.F j:=by rcases h1 j hj with h|h<;>rw[h]at hbj<;>simp_all
    exact R.dj b i j h5 h6
 ·intro i b hb
  by_cases hi:i=id
  ·subst hi;rw[h2]at hb
   rcases h4 b hb with h|⟨j,hj,_⟩
   ·exact⟨fun hb=>by have:=R.bs _ hb;omega,h.2⟩
   ·have:=R.frs j b hj;exact⟨this.1,by omega⟩
  ·have h5:b∈g.F i:=by rcases h1 i hi with h|h<;>rw[h]at hb<;>simp_all
   have:=R.frs i b h5;exact⟨this.1,by omega⟩
theorem K4w{w':World}{V':Nat→Nat}{g':Gh}{id:Nat}{L:List Nat}(hZ:g'.Z=g.Z)(h1:∀i,i≠id→g'.F i=g.F i∨g'.F i=[])(h2:g'.F id=L)
  (h4:∀b∈L,w.heap.size≤b∨∃j,b∈g.F j) (h5:∀b,L.head? =some b→w.heap.size≤b∨∃j,(g.F j).head? =some b)
  (hsz:w.heap.size≤w'.heap.size) (hw:∀b,b<w.heap.size→Xb g b→w'.heap[b]? =w.heap[b]?) (hV:∀id,V id≤V' id) (hH:∀id v,v≤V id→g'.H id v=g.H id v):Tr w w' V V' g g':=by
 refine⟨hsz,hV,hH,fun b hb hx=>⟨hw b hb hx,by rw[hZ];exact hx.1,?_⟩,fun b hb hx=>⟨by rw[hZ];exact hx.1,?_⟩,hZ⟩
 ·intro i hi
  by_cases hid:i=id
  ·subst hid;rw[h2]at hi
   rcases h5 b hi with h|⟨j,hj⟩
   ·omega
   ·exact hx.2 j hj
  ·rcases h1 i hid with h|h<;>rw[h]at hi
   ·exact hx.2 i hi
   ·simp at hi
 ·intro i hi
  by_cases hid:i=id
  ·subst hid;rw[h2]at hi
   rcases h4 b hi with h|⟨j,hj⟩
   ·omega
   ·exact hx.2 j hj
  ·rcases h1 i hid with h|h<;>rw[h]at hi
   ·exact hx.2 i hi
   ·simp at hi
def Gh.mk'(g:Gh)(id nv:Nat)(hv:Value)(L:List Nat)(ks:List Nat):Gh:=
 ⟨fun i v=>if i=id∧v=nv then hv else g.H i v,fun i=>if i=id then L else if i∈ks then []else g.F i,g.Z⟩
theorem mk'_H{id nv:Nat}{hv:Value}{L ks:List Nat}(h:V id<nv):∀i v,v≤V i→(g.mk' id nv hv L ks).H i v=g.H i v:=by
 intro i v hv'
 simp only[Gh.mk']
 rw[if_neg]
 rintro ⟨rfl,rfl⟩
 omega
theorem mk'_F1{id nv:Nat}{hv:Value}{L ks:List Nat}:∀i,i≠id→(g.mk' id nv hv L ks).F i=g.F i∨(g.mk' id nv hv L ks).F i=[]:=by
 intro i hi
 simp only[Gh.mk',if_neg hi]
 by_cases h:i∈ks<;>simp[h]
theorem mk'_F2{id nv:Nat}{hv:Value}{L ks:List Nat}:(g.mk' id nv hv L ks).F id=L:=by simp[Gh.mk']
theorem mk'_H2{id nv:Nat}{hv:Value}{L ks:List Nat}:(g.mk' id nv hv L ks).H id nv=hv:=by simp[Gh.mk']
theorem Rel.new1(R:Rel base Z w0 w σ a.tmps g){id d:Nat}{oc:OC}{s:SV}{hv v:Value}{o':Obj}(hid:id<σ.o.length)
  (hs:∀(g':Gh) (V':Nat→Nat),V' id=σ.nw id→g'.H id (σ.nw id)=hv→SlotR (w.alloc o') V' g' s v)
  (hobj:∀(g':Gh),Tr w (w.alloc o') σ.V (σ.app ⟨some (d,s),[(id,⟨σ.nw id,oc⟩)]⟩).V g g'→g'.H id (σ.nw id)=hv→g'.F id=[w.heap.size]→ObjR (w.alloc o') (σ.app ⟨some (d,s),[(id,⟨σ.nw id,oc⟩)]⟩).V g' id (σ.nw id) oc):
  ∃g',Rel base Z w0 (w.alloc o') (σ.app ⟨some (d,s),[(id,⟨σ.nw id,oc⟩)]⟩) (a.put (some d) v).tmps g':=by
 have hob:∀i,(σ.app ⟨some (d,s),[(id,⟨σ.nw id,oc⟩)]⟩).ob i=if i=id then⟨σ.nw id,oc⟩else σ.ob i:=by
  intro i
  rw[K20]
  simp only[List.foldl_cons,List.foldl_nil]
  by_cases hi:id=i
  ·subst hi;simp[hid]
  ·have hi':¬i=id:=fun e=>hi e.symm
   simp[hi,hi']
 have hV:∀i,σ.V i≤(σ.app ⟨some (d,s),[(id,⟨σ.nw id,oc⟩)]⟩).V i:=by
  intro i
  simp only[St.V,hob]
  split
  ·rename_i h;subst h;simp[St.nw]
  ·exact Nat.le_refl _
 have hv1:∀i,(σ.app ⟨some (d,s),[(id,⟨σ.nw id,oc⟩)]⟩).V i=1→σ.V i=1:=by
  intro i
  simp only[St.V,hob]
  split
  ·simp[St.nw]
  ·exact fun h=>h
 have hnv:σ.V id<σ.nw id:=by simp[St.V,St.nw]
 have hheap:∀b,b<w.heap.size→(w.alloc o').heap[b]? =w.heap[b]? :=fun b hb=>Below.heap_alloc w o' b hb
 have tr:Tr w (w.alloc o') σ.V (σ.app ⟨some (d,s),[(id,⟨σ.nw id,oc⟩)]⟩).V g (g.mk' id (σ.nw id) hv [w.heap.size] []):=
  K4w rfl mk'_F1 mk'_F2 (by simp) (by simp) (by simp) (fun b hb _=>hheap b hb) hV (mk'_H hnv)
 obtain⟨nd,dj,frs⟩:=redist R (w':=w.alloc o') (g':=g.mk' id (σ.nw id) hv [w.heap.size] []) (id:=id) mk'_F1 mk'_F2 (by simp) (by simp) (by simp)
 refine⟨_,R.turn (some (d,s)) [(id,⟨σ.nw id,oc⟩)] (w.alloc o') _ (some d) v tr ⟨rfl,hs _ _ (by simp[St.V,hob]) mk'_H2⟩ hv1 ?_ nd dj frs (R.grew.alloc R.bs o')⟩
 intro i
 by_cases hi:i=id
 ·subst hi
  right
  rw[hob]
  simp only[if_true]
  exact hobj _ tr mk'_H2 mk'_F2
 ·left
  rw[hob,if_neg hi]
  exact⟨rfl,by simp[Gh.mk',hi],fun b hb=>hheap b (R.frs i b hb).2⟩
theorem CellsR.zeros{w:World}{V:Nat→Nat}{g:Gh}:∀(zs:List SC) (vs:List Value),(∀p∈zs.zip vs,(∃v,p.1= .pl (.sc v)∧p.2=v∧oneW v=true)∨(∃sz,p.1= .emp sz∧p.2= .slice none 0 0))→zs.length=vs.length→CellsR w V g zs vs
 | [],[],_,_=>trivial
 |z::zs,v::vs,h,hl=>by
  refine⟨?_,CellsR.zeros zs vs (fun p hp=>h p (by simp[hp])) (by simpa using hl)⟩
  rcases h (z,v) (by simp)with ⟨u,h1,h2,h3⟩|⟨sz,h1,h2⟩
  ·simp only at h1 h2;subst h1 h2;simp only[CellR,Rd];exact⟨trivial,h3⟩
  ·simp only at h1 h2;subst h1 h2;simp only[CellR];exact⟨none,rfl⟩
 | [],_::_,_,hl=>by simp at hl
 |_::_,[],_,hl=>by simp at hl
def chkZ:List SC→List Value→Bool
 | [],[]=>true
 |.pl (.sc v)::zs,u::us=>eqV u v&&chkZ zs us
 |.emp _::zs,.slice none 0 0::us=>chkZ zs us
 |_,_=>false
theorem K3w{w:World}{V:Nat→Nat}{g:Gh}:∀ {zs:List SC} {us:List Value},chkZ zs us=true→CellsR w V g zs us
 | [],[],_=>trivial
 |.pl (.sc v)::zs,u::us,h=>by
  simp only[chkZ,Bool.and_eq_true]at h
  obtain⟨rfl,h1⟩:=K8b h.1
  exact⟨by simp only[CellR,Rd];exact⟨trivial,h1⟩,K3w h.2⟩
 |.emp _::zs,u::us,h=>by
  have hu:u= .slice none 0 0∧chkZ zs us=true:=by
   unfold chkZ at h
   split at h<;>simp_all
  obtain⟨rfl,h⟩:=hu
  exact⟨by simp only[CellR];exact⟨none,rfl⟩,K3w h⟩
 | [],_::_,h=>by simp[chkZ]at h
 |.bor _::_,_,h=>by simp[chkZ]at h
 |.ref ..::_,_,h=>by simp[chkZ]at h
 |.clo ..::_,_,h=>by simp[chkZ]at h
 |.pl (.sl ..)::_,_,h=>by simp[chkZ]at h
 |.pl (.pb ..)::_,_,h=>by simp[chkZ]at h
 |.pl (.fn ..)::_,_,h=>by simp[chkZ]at h
 |.pl (.sc _)::_,[],h=>by simp[chkZ]at h
 |.emp _::_,[],h=>by simp[chkZ]at h
theorem good_alloc(R:Rel base Z w0 w σ a.tmps g){d id:Nat}{zs:List SC}{t:TypeId}{z:Value}(hd:o.dst=some d)(ho:o.op= .alloc t)(hz:(P.info? t).bind (·.zero)=some z)(hc:chkZ zs z.cells.toList=true){e:Ef}
  (he:eff (.alloc d id zs) σ=some e):Good P o a base Z w0 w (σ.app e):=by
 simp only[eff]at he
 split at he<;>simp at he
 rename_i hid
 subst he
 obtain⟨i,hi,hz'⟩:=Option.bind_eq_some_iff.1 hz
 have hrun:(execOp a.eval o).run P w= .ok (.value (.pointer (some ⟨w.heap.size,0,none⟩))) (w.alloc (.cells z.cells t (0,0))):=by
  simp only[execOp,ho]
  refine K2d ?_
  simp[Instr.alloc,zeroValue,typeInfo,hi,hz',newVar,newRow]
 obtain⟨g',hR⟩:=R.new1 (d:=d) (s:= .adr (.bx id (σ.nw id) 0)) (v:= .pointer (some ⟨w.heap.size,0,none⟩)) (hv:= .pointer (some ⟨w.heap.size,0,none⟩)) (oc:= .box zs) (o':= .cells z.cells t (0,0)) hid
  (by intro g' V' h1 h2;simp only[SlotR,AdR];exact⟨by omega,_,h2,rfl⟩)
  (by
   intro g' tr h1 h2
   simp only[ObjR]
   exact⟨w.heap.size,t,z.cells.toList,h1,heap_alloc_new w _,K3w hc,h2⟩)
 exact⟨_,_,hrun,g',by simp only[hd];exact hR⟩
theorem ValR.cells_{w:World}{V:Nat→Nat}{g:Gh}{agg:Bool}{cs:List SC}{v:Value}(h:ValR w V g agg cs v)(h1:agg=false→v.oneCell'=true):∃vs:List Value,v.cells=vs.toArray∧CellsR w V g cs vs:=by
 unfold ValR at h
 cases agg with
 |true=>simp only[if_true]at h;obtain⟨vs,rfl,h⟩:=h;exact⟨vs,rfl,h⟩
 |false=>
  simp only[Bool.false_eq_true,if_false]at h
  obtain⟨c,rfl,h⟩:=h
  refine⟨[v],?_,h,trivial⟩
  have:=h1 rfl
  cases v<;>simp_all[Value.cells,Value.oneCell']
theorem CellR.one{w:World}{V:Nat→Nat}{g:Gh}:∀ {c:SC} {v:Value},CellR w V g c v→v.oneCell'=true:=by
 have rd:∀ {X:Nat→Prop} {t:T} {v:Value},Rd w X t v→v.oneCell'=true:=by
  intro X t v h
  cases t<;>simp only[Rd]at h
  ·exact K63 h.2
  ·obtain⟨A,cap,rfl,_⟩:=h;rfl
  ·obtain⟨b,rfl,_⟩:=h;rfl
  ·obtain⟨cvs,rfl,_⟩:=h;rfl
 intro c v h
 cases c<;>simp only[CellR]at h
 ·exact rd h
 ·exact rd h
 ·obtain⟨A,rfl⟩:=h;rfl
 ·obtain⟨_,_,_,_,_,_,_,rfl,_⟩:=h;rfl
 ·rw[h.1];rfl
theorem CellsR.one{w:World}{V:Nat→Nat}{g:Gh}:∀ {cs:List SC} {vs:List Value},CellsR w V g cs vs→∀v∈vs,v.oneCell'=true
 | [],[],_=>by simp
 |c::cs,v::vs,h=>by
  intro u hu
  rcases List.mem_cons.1 hu with rfl|hu
  ·exact h.1.one
  ·exact CellsR.one h.2 u hu
 | [],_::_,h=>h.elim
 |_::_,[],h=>h.elim
theorem ValR.cells'{w:World}{V:Nat→Nat}{g:Gh}{agg:Bool}{cs:List SC}{v:Value}(h:ValR w V g agg cs v):∃vs:List Value,v.cells=vs.toArray∧CellsR w V g cs vs:=by
 refine h.cells_ fun ha=>?_
 unfold ValR at h
 subst ha
 simp only[Bool.false_eq_true,if_false]at h
 obtain⟨c,_,h⟩:=h
 exact h.one
theorem good_box(R:Rel base Z w0 w σ a.tmps g){d id:Nat}{x:Od}{x':Operand}{t:TypeId}(hd:o.dst=some d)(ho:o.op= .box t x')(hx:K3 x' x=true){e:Ef}
  (he:eff (.box d id x) σ=some e):Good P o a base Z w0 w (σ.app e):=by
 simp only[eff]at he
 obtain⟨ac,hac,he⟩:=Option.bind_eq_some_iff.1 he
 split at he<;>simp at he
 rename_i hid
 subst he
 have hE:=R.ev hx
 rw[K25 hac]at hE
 simp only[SlotR]at hE
 obtain⟨vs,hvs,hcs⟩:=hE.cells'
 have hrun:(execOp a.eval o).run P w= .ok (.value (.pointer (some ⟨w.heap.size,0,none⟩))) (w.alloc (.cells vs.toArray t (0,0))):=by
  simp only[execOp,ho]
  refine K2d ?_
  simp[Instr.box,newVar,newRow,hvs]
 obtain⟨g',hR⟩:=R.new1 (d:=d) (s:= .adr (.bx id (σ.nw id) 0)) (v:= .pointer (some ⟨w.heap.size,0,none⟩)) (hv:= .pointer (some ⟨w.heap.size,0,none⟩)) (oc:= .box ac.2) (o':= .cells vs.toArray t (0,0)) hid
  (by intro g' V' h1 h2;simp only[SlotR,AdR];exact⟨by omega,_,h2,rfl⟩)
  (by
   intro g' tr h1 h2
   simp only[ObjR]
   exact⟨w.heap.size,t,vs,h1,heap_alloc_new w _,tr.cells _ _ hcs,h2⟩)
 exact⟨_,_,hrun,g',by simp only[hd];exact hR⟩
end
end Go.Proofs.YtjneccbpkckdfaaGreatR
namespace Go.Proofs.YtjneccbpkckdfaaGreatR
open Go Go.RowKit
section
variable {P:Program} {base:Nat→Prop} {Z:ZZ} {w0 w:World} {σ:St} {g:Gh} {o:Oper} {a:Act} {V:Nat→Nat}
def OwL(w:World):List T→List Value→List Nat→Prop
 | [],[],G=>G=[]
 |t::ts,v::vs,G=>∃G1 G2,Ow w t v G1∧OwL w ts vs G2∧G=G1++G2
 |_,_,_=>False
theorem OwL.el{w':World}{b:Nat}:∀ {ts:List T} {vs:List Value} {G:List Nat} (o:Nat),OwL w ts vs G→(∀j u,vs[j]? =some u→w'.cell? ⟨b,o+j,none⟩=some u)→(∀b∈G,w'.heap[b]? =w.heap[b]?)→OwEl w' b o ts G
 | [],[],G,o,h,_,_=>by simpa only[OwL,OwEl]using h
 |t::ts,v::vs,G,o,h,hc,hb=>by
  simp only[OwL]at h
  obtain⟨G1,G2,h1,h2,rfl⟩:=h
  simp only[OwEl]
  refine⟨v,G1,G2,by simpa using hc 0 v rfl,Ow.keep t v G1 (fun b hb'=>hb b (by simp[hb'])) h1,h2.el (o+1) (fun j u hu=>?_) (fun b hb'=>hb b (by simp[hb'])),rfl⟩
  rw[show o+1+j=o+(j+1)by omega]
  exact hc (j+1) u (by simpa using hu)
 | [],_::_,_,_,h,_,_=>by simp only[OwL]at h
 |_::_,[],_,_,h,_,_=>by simp only[OwL]at h
theorem RdL.el{w':World}{X X':Nat→Prop}{b:Nat}(hk:Kp w w' X X'):∀ {ts:List T} {vs:List Value} (o:Nat),RdL w X ts vs→(∀j u,vs[j]? =some u→w'.cell? ⟨b,o+j,none⟩=some u)→RdEl w' X' b o ts
 | [],[],o,_,_=>by simp only[RdEl]
 |t::ts,v::vs,o,h,hc=>by
  simp only[RdL]at h
  simp only[RdEl]
  refine⟨⟨v,by simpa using hc 0 v rfl,Rd.keep hk t v h.1⟩,RdL.el hk (o+1) h.2 (fun j u hu=>?_)⟩
  rw[show o+1+j=o+(j+1)by omega]
  exact hc (j+1) u (by simpa using hu)
 | [],_::_,_,h,_=>by simp only[RdL]at h
 |_::_,[],_,h,_=>by simp only[RdL]at h
theorem Rel.emb{ts:Array Value}(R:Rel base Z w0 w σ ts g){c:SC}{v:Value}(h:CellR w σ.V g c v){t:T}{k:Kd}(he:σ.emb c=some (t,k)):
  (k= .neu∧Ow w t v []∧Rd w (Xb g) t v)∨(∃id F',k= .own id∧Ow w t v F'∧F'.Sublist (g.F id)∧∃dp sz es,(σ.ob id).oc= .row dp sz es)∨(k= .shr∧Rd w (Xb g) t v):=by
 unfold St.emb at he
 split at he
 ·simp at he;obtain⟨rfl,rfl⟩:=he
  left
  simp only[CellR,Rd]at h
  exact⟨rfl,by simp only[Ow];exact⟨h.1,h.2,trivial⟩,by simp only[Rd];exact h⟩
 ·simp at he;obtain⟨rfl,rfl⟩:=he
  left
  simp only[CellR,Rd]at h
  exact⟨rfl,by simp only[Ow];exact⟨h.1,h.2,trivial⟩,by simp only[Rd];exact h⟩
 ·simp at he;obtain⟨rfl,rfl⟩:=he
  left
  simp only[CellR]at h
  obtain⟨A,rfl⟩:=h
  exact⟨rfl,by unfold Ow;exact⟨A,0,rfl,Ln.z _,.inl ⟨rfl,rfl,rfl⟩⟩,by unfold Rd;exact⟨A,0,rfl,Ln.z _,.inl rfl⟩⟩
 ·rename_i id ver sz lo n
  split at he
  rotate_left
  ·simp at he
  rename_i v' sz' es hob
  split at he
  rotate_left
  ·simp at he
  rename_i hh
  simp at he
  obtain⟨rfl,rfl⟩:=he
  obtain⟨rfl,rfl,rfl,rfl⟩:=hh
  right;left
  have ho:=R.obj id
  rw[hob]at ho
  simp only[ObjR]at ho
  simp only[CellR]at h
  obtain⟨_,A,len,cap,A',c',hH,hv,hn,hnc,hcc,hA',hsp⟩:=h
  obtain⟨A2,cap2,hH2,hl2,ho⟩:=ho
  rw[hH2]at hH
  simp only[Value.slice.injEq]at hH
  obtain⟨rfl,rfl,rfl⟩:=hH
  by_cases hc0:c'=0
  ·refine⟨id,[],rfl,?_,List.nil_sublist _,true,sz,es,by rw[hob]⟩
   have:es=[]:=List.length_eq_zero_iff.1 (by omega)
   unfold Ow
   exact⟨A',c',hv,⟨hnc,hl2.2.1,by have:=hl2.2.2;omega⟩,.inl ⟨hc0,this,rfl⟩⟩
  ·refine⟨id,g.F id,rfl,?_,List.Sublist.refl _,true,sz,es,by rw[hob]⟩
   unfold Ow
   refine⟨A',c',hv,⟨hnc,hl2.2.1,by have:=hl2.2.2;omega⟩,?_⟩
   rcases ho with ho|⟨b,off,row,ty,G,hA,hc,hs,hr,hG⟩
   ·omega
   ·subst hA
    right
    have hA3:=hA'.resolve_left hc0
    refine⟨b,off,row,ty,G,by simpa using hA3,hc,?_,by simpa using hr,hG⟩
    have:c'*sz≤cap2*sz:=Nat.mul_le_mul_right _ (by omega)
    omega
 ·simp at he;obtain⟨rfl,rfl⟩:=he
  right;right
  simp only[CellR]at h
  exact⟨rfl,Rd.keep ⟨Nat.le_refl _,fun b hb _=>⟨rfl,hb.xb⟩⟩ _ _ h⟩
 ·simp at he;obtain⟨rfl,rfl⟩:=he
  right;right
  simp only[CellR]at h
  exact⟨rfl,h⟩
 ·simp at he
theorem Rel.embO{ts:Array Value}(R:Rel base Z w0 w σ ts g):∀ {cs:List SC} {vs:List Value},CellsR w σ.V g cs vs→∀ {l:List (T×Kd)},K1 (cs.map σ.emb)=some l→neuO (l.flatMap fun x=>[x.2])=true→
  ∃G,OwL w (l.map (·.1)) vs G∧G.Sublist ((owns (l.flatMap fun x=>[x.2])).flatMap g.F)∧∀i∈owns (l.flatMap fun x=>[x.2]),∃dp sz es,(σ.ob i).oc= .row dp sz es
 | [],[],_,l,h,_=>by
  simp[K1]at h;subst h
  exact⟨[],by simp[OwL],by simp,by simp[owns]⟩
 |c::cs,v::vs,hr,l,h,hk=>by
  simp only[List.map_cons]at h
  cases hc:σ.emb c with
  |none=>simp[hc,K1]at h
  |some x=>
   simp only[hc,K1]at h
   obtain⟨l',hl',rfl⟩:=Option.map_eq_some_iff.1 h
   obtain⟨t,k⟩:=x
   simp only[List.flatMap_cons,neuO,List.all_append,Bool.and_eq_true]at hk
   obtain⟨G,h1,h2,h3⟩:=Rel.embO R hr.2 hl' hk.2
   rcases R.emb hr.1 hc with ⟨rfl,ho,_⟩|⟨id,F',rfl,ho,hs,hrow⟩|⟨rfl,_⟩
   ·refine⟨G,?_,?_,?_⟩
    ·simp only[List.map_cons,OwL];exact⟨[],G,ho,h1,rfl⟩
    ·simpa[owns]using h2
    ·simpa[owns]using h3
   ·refine⟨F'++G,?_,?_,?_⟩
    ·simp only[List.map_cons,OwL];exact⟨F',G,ho,h1,rfl⟩
    ·simpa[owns]using hs.append h2
    ·intro i hi
     simp only[owns,List.flatMap_cons,List.filterMap_append,List.filterMap_cons,List.filterMap_nil,List.mem_append,List.mem_cons,List.not_mem_nil,or_false]at hi
     rcases hi with rfl|hi
     ·exact hrow
     ·exact h3 i hi
   ·simp at hk
 | [],_::_,hr,_,_,_=>hr.elim
 |_::_,[],hr,_,_,_=>hr.elim
theorem Rel.embS{ts:Array Value}(R:Rel base Z w0 w σ ts g):∀ {cs:List SC} {vs:List Value},CellsR w σ.V g cs vs→∀ {l:List (T×Kd)},K1 (cs.map σ.emb)=some l→neuS (l.flatMap fun x=>[x.2])=true→
  RdL w (Xb g) (l.map (·.1)) vs
 | [],[],_,l,h,_=>by
  simp[K1]at h;subst h
  simp[RdL]
 |c::cs,v::vs,hr,l,h,hk=>by
  simp only[List.map_cons]at h
  cases hc:σ.emb c with
  |none=>simp[hc,K1]at h
  |some x=>
   simp only[hc,K1]at h
   obtain⟨l',hl',rfl⟩:=Option.map_eq_some_iff.1 h
   obtain⟨t,k⟩:=x
   simp only[List.flatMap_cons,neuS,List.all_append,Bool.and_eq_true]at hk
   have ih:=Rel.embS R hr.2 hl' hk.2
   simp only[List.map_cons,RdL]
   rcases R.emb hr.1 hc with ⟨rfl,_,ho⟩|⟨id,F',rfl,ho,hs,hrow⟩|⟨rfl,ho⟩
   ·exact⟨ho,ih⟩
   ·simp at hk
   ·exact⟨ho,ih⟩
 | [],_::_,hr,_,_,_=>hr.elim
 |_::_,[],hr,_,_,_=>hr.elim
theorem K3i{α:Type}:∀ {l:List (Option α)} {m:List α},K1 l=some m→l.length=m.length
 | [],m,h=>by simp[K1]at h;subst h;rfl
 |some a::l,m,h=>by
  simp only[K1]at h
  obtain⟨m',h',rfl⟩:=Option.map_eq_some_iff.1 h
  simp[K3i h']
 |none::_,_,h=>by simp[K1]at h
theorem Rel.flat_nodup{ts:Array Value}(R:Rel base Z w0 w σ ts g):∀(ks:List Nat),ks.Nodup→(ks.flatMap g.F).Nodup
 | [],_=>by simp
 |k::ks,h=>by
  rw[List.flatMap_cons,List.nodup_append]
  refine⟨R.nd k,R.flat_nodup ks (List.nodup_cons.1 h).2,?_⟩
  intro b hb b' hb' e
  subst e
  obtain⟨j,hj,hb'⟩:=List.mem_flatMap.1 hb'
  obtain rfl:=R.dj b k j hb hb'
  exact(List.nodup_cons.1 h).1 hj
theorem K6z{t:TypeId}{agg:Bool}{n:Nat}(h:Ty P t agg n){b o':Nat}{v:Value}{vs:List Value}(hv:v.cells=vs.toArray)(hn:vs.length=n)(h1:∀u∈vs,u.oneCell'=true){row:Array Value}{ty:TypeId}
  (hr:w.heap[b]? =some (.cells row ty (0,0))) (hl:o'+n≤row.size):
  (storeVar t ⟨b,o',none⟩ v).run P w= .ok () (w.setRow b (row.toList.take o'++vs++row.toList.drop (o'+n)).toArray):=by
 have:=run_storeCells_at (P:=P) b o' ty vs 0 row w hr (by omega) h1
 simp only[Nat.add_zero]at this
 rw[hn]at this
 simp only[storeVar,Sem.run_bind,h.sizeOf,Result.andThen_ok,hv]
 simpa[hn]using this
end
end Go.Proofs.YtjneccbpkckdfaaGreatR
namespace Go.Proofs.YtjneccbpkckdfaaGreatR
open Go Go.RowKit
section
variable {P:Program} {base:Nat→Prop} {Z:ZZ} {w0 w:World} {σ:St} {g:Gh} {o:Oper} {a:Act} {V:Nat→Nat}
theorem K8o{α:Type}{k:Nat}{l xs:List α}(h:k+xs.length≤l.length):(splice k l xs).length=l.length:=by
 simp[splice];omega
theorem CellsR.splice_{cs xs:List SC}{vs us:List Value}(k:Nat)(h:CellsR w V g cs vs)(h':CellsR w V g xs us):CellsR w V g (splice k cs xs) (splice k vs us):=by
 unfold splice
 rw[h'.len]
 exact((h.take_ k).app h').app (h.drop_ _)
theorem setRow_other'{b k:Nat}{cs:Array Value}(h:k≠b):(w.setRow b cs).heap[k]? =w.heap[k]? :=setRow_other w b k cs h
theorem K4b{base:Nat→Prop}(h:Bel base w0 w){b:Nat}(hb:¬base b)(cs:Array Value):Bel base w0 (w.setRow b cs):=
 h.trans ⟨rfl,rfl,rfl,by simp,fun k hk=>setRow_other w b k cs (fun e=>hb (e▸hk))⟩
theorem Kam{id b:Nat}{G:List Nat}(h:g.F id=b::G){b':Nat}(hx:Xb g b'):b'≠b:=by
 intro e;subst e;exact hx.2 id (by simp[h])
theorem Ka3(R:Rel base Z w0 w σ a.tmps g){n id ver k:Nat}{x y:Od}{x' y':Operand}{t:TypeId}{agg:Bool}(hd:o.dst=none)(ho:o.op= .store t x' y')(hx:K3 x' x=true)(hy:K3 y' y=true)(ht:Ty P t agg n)
  (had:σ.adr x=some (.bx id ver k)) {v:Bool×List SC} (hv:(σ.ev y).all=some v) (hn:v.2.length=n) {cs:List SC} (hob:σ.ob id=⟨ver,.box cs⟩) (hk:k+n≤cs.length):
  Good P o a base Z w0 w (σ.app ⟨none,[(id,⟨ver,.box (splice k cs v.2)⟩)]⟩):=by
 have hA:=R.adr hx had
 simp only[AdR]at hA
 obtain⟨_,b,hH,hp⟩:=hA
 have hE:=R.ev hy
 rw[K25 hv]at hE
 simp only[SlotR]at hE
 obtain⟨us,hus,hcs⟩:=hE.cells'
 have hO:=R.obj id
 rw[hob]at hO
 simp only[ObjR]at hO
 obtain⟨b',ty,vs,hH',hrow,hbox,hF⟩:=hO
 rw[hH']at hH
 simp only[Value.pointer.injEq,Option.some.injEq,Addr.mk.injEq,and_true]at hH
 subst hH
 have hun:us.length=n:=by rw[←hcs.len,hn]
 have hvl:=hbox.len
 have hrun:=K6z (P:=P) ht (b:=b') (o':=k) hus hun hcs.one hrow (by simp;omega)
 have hrow':(vs.toArray.toList.take k++us++vs.toArray.toList.drop (k+n))=splice k vs us:=by simp[splice,hun]
 rw[hrow']at hrun
 have hrun':(execOp a.eval o).run P w= .ok .skip (w.setRow b' (splice k vs us).toArray):=by
  simp only[execOp,ho,Instr.storeAt,hp,Instr.sureAddr,Sem.run_bind,Sem.run_pure,Result.andThen_ok,hrun]
 have hidl:id<σ.o.length:=by
  rcases Nat.lt_or_ge id σ.o.length with h|h
  ·exact h
  ·rw[K3s h]at hob;simp at hob
 have hob':∀i,(σ.app ⟨none,[(id,⟨ver,.box (splice k cs v.2)⟩)]⟩).ob i=if i=id then⟨ver,.box (splice k cs v.2)⟩else σ.ob i:=by
  intro i
  rw[K20]
  simp only[List.foldl_cons,List.foldl_nil]
  by_cases hi:id=i
  ·subst hi;simp[hidl]
  ·have hi':¬i=id:=fun e=>hi e.symm
   simp[hi,hi']
 have hV:(σ.app ⟨none,[(id,⟨ver,.box (splice k cs v.2)⟩)]⟩).V=σ.V:=by
  funext i
  simp only[St.V,hob']
  split
  ·rename_i h;subst h;rw[hob]
  ·rfl
 have tr:Tr w (w.setRow b' (splice k vs us).toArray) σ.V (σ.app ⟨none,[(id,⟨ver,.box (splice k cs v.2)⟩)]⟩).V g g:=
  ⟨by simp,fun i=>by rw[hV];exact Nat.le_refl _,fun _ _ _=>rfl,fun b hb hxb=>⟨setRow_other' (Kam hF hxb),hxb⟩,fun _ _ h=>h,rfl⟩
 refine⟨.skip,_,hrun',g,?_⟩
 simp only[hd]
 refine R.turn none _ _ g none undef tr rfl (fun i h=>by rw[hV]at h;exact h) ?_ R.nd R.dj (fun i b hb=>by simpa using R.frs i b hb) (K4b R.grew (R.frs id b' (by rw[hF];simp)).1 _)
 intro i
 by_cases hi:i=id
 ·subst hi
  right
  rw[hob',if_pos rfl]
  simp only[ObjR]
  exact⟨b',ty,splice k vs us,hH',setRow_heap w b' _ _ ty (0,0) hrow,tr.cells _ _ (hbox.splice_ k hcs),hF⟩
 ·left
  rw[hob',if_neg hi]
  refine⟨rfl,rfl,fun b hb=>setRow_other' ?_⟩
  intro e;subst e
  exact hi (R.dj b i id hb (by rw[hF];simp))
theorem K4z{α:Type}{l:List α}{i:Nat}(x:α)(h:i<l.length):l.set i x=l.take i++x::l.drop (i+1):=List.set_eq_take_append_cons_drop▸by simp[h]
theorem K6j{cs:List SC}{r:List T×List Kd}(h:σ.embs cs=some r):∃l,K1 (cs.map σ.emb)=some l∧r.1=l.map (·.1)∧r.2=l.flatMap fun x=>[x.2]:=by
 unfold St.embs at h
 obtain⟨l,hl,rfl⟩:=Option.map_eq_some_iff.1 h
 exact⟨l,hl,rfl,rfl⟩
theorem Rel.lentOf{ts:Array Value}(R:Rel base Z w0 w σ ts g){w':World}{V':Nat→Nat}{g':Gh}(tr:Tr w w' σ.V V' g g'){j:Nat}{dp:Bool}{sz:Nat}{es:List (List T)}(hrow:(σ.ob j).oc= .row dp sz es)
  (hF:g'.F j=[]) (hk:∀b,(g.F j).head? =some b→w'.heap[b]? =w.heap[b]? ∧Xb g' b):ObjR w' V' g' j (Go.Proofs.YtjneccbpkckdfaaGreatR.lentOf (σ.ob j)).ver (Go.Proofs.YtjneccbpkckdfaaGreatR.lentOf (σ.ob j)).oc:=by
 have ho:=R.obj j
 rw[hrow]at ho
 rw[K40]
 have hl:(Go.Proofs.YtjneccbpkckdfaaGreatR.lentOf (σ.ob j)).oc= .lent sz es:=by
  unfold Go.Proofs.YtjneccbpkckdfaaGreatR.lentOf
  cases h:σ.ob j with
  |mk v oc=>rw[h]at hrow;simp only at hrow;subst hrow;rfl
 rw[hl]
 simp only[ObjR]at ho ⊢
 refine⟨hF,?_⟩
 obtain⟨A,cap,hH,hle,ho⟩:=ho
 rw[tr.hd j (σ.ob j).ver (Nat.le_refl _),hH]
 unfold Rd
 refine⟨A,cap,rfl,hle,?_⟩
 rcases ho with ho|⟨b,off,row,ty,G,hA,hc,hs,hr,hG⟩
 ·exact .inl ho.2.1
 ·have hb:=hk b (by rw[hG];rfl)
  refine .inr ⟨b,off,hA,hb.2,Nat.lt_of_lt_of_le (K1g hc) tr.size,?_⟩
  refine RdRow.move tr.kb es off off (fun i _=>Kf hb.1 _) ?_
  cases dp with
  |true=>simp only[if_true]at hr;exact OwRow.rd es off G (R.inner hG) hr
  |false=>simp only[Bool.false_eq_true,if_false]at hr;exact hr.1
theorem nodup_mid{α:Type}{b:α}{G1 Ga Gm Gc G4 Ge:List α}(h:(b::(G1++(Ga++(Gm++Gc)++G4))).Nodup)(hE:Ge.Nodup)(hd:∀x∈Ge,x∉b::(G1++(Ga++(Gm++Gc)++G4))):(b::(G1++(Ga++(Ge++Gc)++G4))).Nodup:=by
 have h0:(b::(G1++(Ga++(Gc++G4)))).Nodup:=by
  refine List.Sublist.nodup ?_ h
  refine List.Sublist.cons_cons _ (List.Sublist.append (List.Sublist.refl _) ?_)
  rw[List.append_assoc]
  refine List.Sublist.append (List.Sublist.refl _) ?_
  rw[List.append_assoc]
  exact List.sublist_append_right _ _
 have hp:(b::(G1++(Ga++(Ge++Gc)++G4))).Perm (Ge++b::(G1++(Ga++(Gc++G4)))):=by
  have e1:b::(G1++(Ga++(Ge++Gc)++G4))=(b::(G1++Ga))++(Ge++(Gc++G4)):=by simp
  have e2:Ge++b::(G1++(Ga++(Gc++G4)))=Ge++((b::(G1++Ga))++(Gc++G4)):=by simp
  rw[e1,e2]
  exact List.perm_append_comm_assoc _ _ _
 refine hp.nodup_iff.2 (List.nodup_append.2 ⟨hE,h0,?_⟩)
 intro x hx y hy e
 subst e
 refine hd x hx ?_
 simp only[List.mem_cons,List.mem_append]at hy ⊢
 rcases hy with h|h|h|h|h
 ·exact .inl h
 ·exact .inr (.inl h)
 ·exact .inr (.inr (.inl (.inl h)))
 ·exact .inr (.inr (.inl (.inr (.inr h))))
 ·exact .inr (.inr (.inr h))
theorem Ka4(R:Rel base Z w0 w σ a.tmps g){n id ver sz i k:Nat}{x y:Od}{x' y':Operand}{t:TypeId}{agg:Bool}(hd:o.dst=none)(ho:o.op= .store t x' y')(hx:K3 x' x=true)(hy:K3 y' y=true)(ht:Ty P t agg n)
  (had:σ.adr x=some (.el id ver sz i k)) {v:Bool×List SC} (hv:(σ.ev y).all=some v) (hn:v.2.length=n) {dp:Bool} {es:List (List T)} (hob:σ.ob id=⟨ver,.row dp sz es⟩) {e:List T} (he:es[i]? =some e)
  {r:List T×List Kd} (hr:σ.embs v.2=some r) (hk:k+n≤e.length) (hnd:(owns r.2).Nodup) (hni:¬id∈owns r.2) (hkd:(if dp then neuO r.2 else neuS r.2)=true):
  Good P o a base Z w0 w (σ.app ⟨none,(id,⟨ver,.row dp sz (es.set i (splice k e r.1))⟩)::σ.lend (owns r.2)⟩):=by
 have hA:=R.adr hx had
 simp only[AdR]at hA
 obtain⟨_,b,off,len,cap,hH,hp⟩:=hA
 have hE:=R.ev hy
 rw[K25 hv]at hE
 simp only[SlotR]at hE
 obtain⟨us,hus,hcs⟩:=hE.cells'
 have hO:=R.obj id
 rw[hob]at hO
 simp only[ObjR]at hO
 obtain⟨A2,cap2,hHo,hcap,hO⟩:=hO
 rw[hHo]at hH
 simp only[Value.slice.injEq]at hH
 obtain⟨rfl,rfl,rfl⟩:=hH
 have hne:es≠[]:=by intro h;rw[h]at he;simp at he
 rcases hO with hO|⟨b2,off2,row,ty,G,hA2,hrow,hsz,hrd,hF⟩
 ·exact(hne hO.2.1).elim
 simp at hA2
 obtain⟨rfl,rfl⟩:=hA2
 obtain⟨l,hl,hl1,hl2⟩:=K6j hr
 have hun:us.length=n:=by rw[←hcs.len,hn]
 have hrl:r.1.length=n:=by rw[hl1,List.length_map,←K3i hl,List.length_map,hn]
 have hi:=Kl he
 have helen:e.length=sz:=by
  cases dp with
  |true=>simp only[if_true]at hrd;exact(RdRow.at_ (OwRow.rd (X:=fun _=>True) es off G (fun _ _=>trivial) hrd) he).1
  |false=>simp only[Bool.false_eq_true,if_false]at hrd;exact(hrd.1.at_ he).1
 have hpos:i*sz+sz≤es.length*sz:=by rw[←Nat.succ_mul];exact Nat.mul_le_mul_right _ hi
 have hcapsz:es.length*sz≤cap2*sz:=Nat.mul_le_mul_right _ hcap.1
 have hrun:=K6z (P:=P) ht (b:=b) (o':=off+i*sz+k) hus hun hcs.one hrow (by omega)
 have hrun':(execOp a.eval o).run P w= .ok .skip (w.setRow b (row.toList.take (off+i*sz+k)++us++row.toList.drop (off+i*sz+k+n)).toArray):=by
  simp only[execOp,ho,Instr.storeAt,hp,Instr.sureAddr,Sem.run_bind,Sem.run_pure,Result.andThen_ok,hrun]
 generalize hw':w.setRow b (row.toList.take (off+i*sz+k)++us++row.toList.drop (off+i*sz+k+n)).toArray=w' at hrun'
 have hsize:w'.heap.size=w.heap.size:=by rw[←hw'];simp
 have hother:∀b',b'≠b→w'.heap[b']? =w.heap[b']? :=fun b' h=>by rw[←hw'];exact setRow_other' h
 have hnew:w'.heap[b]? =some (.cells (row.toList.take (off+i*sz+k)++us++row.toList.drop (off+i*sz+k+n)).toArray ty (0,0)):=by rw[←hw'];exact setRow_heap w b _ _ ty (0,0) hrow
 have hcell:∀j,w'.cell? ⟨b,j,none⟩=if j<off+i*sz+k then w.cell? ⟨b,j,none⟩else if j<off+i*sz+k+n then us[j-(off+i*sz+k)]? else w.cell? ⟨b,j,none⟩:=by
  intro j
  have e1:w.cell? ⟨b,j,none⟩=row.toList[j]? :=by simp[World.cell?,hrow]
  rw[e1]
  have e2:w'.cell? ⟨b,j,none⟩=(row.toList.take (off+i*sz+k)++us++row.toList.drop (off+i*sz+k+n))[j]? :=by simp[World.cell?,hnew]
  rw[e2,List.append_assoc,List.getElem?_append]
  have ht:(row.toList.take (off+i*sz+k)).length=off+i*sz+k:=by simp;omega
  rw[ht]
  split
  ·rw[List.getElem?_take];simp_all
  ·rw[List.getElem?_append,hun]
   split
   ·rw[if_pos (by omega)]
   ·rw[if_neg (by omega),List.getElem?_drop];congr 1;omega
 have hidl:id<σ.o.length:=by
  rcases Nat.lt_or_ge id σ.o.length with h|h
  ·exact h
  ·rw[K3s h]at hob;simp at hob
 have hob':∀j,(σ.app ⟨none,(id,⟨ver,.row dp sz (es.set i (splice k e r.1))⟩)::σ.lend (owns r.2)⟩).ob j=if j∈owns r.2 then lentOf (σ.ob j)else if j=id then⟨ver,.row dp sz (es.set i (splice k e r.1))⟩else σ.ob j:=by
  intro j
  rw[K20,List.foldl_cons,ob_lend]
  ·by_cases hj:j∈owns r.2
   ·simp[hj]
   ·by_cases hji:id=j
    ·subst hji;simp[hj,hidl]
    ·have:¬j=id:=fun e=>hji e.symm
     simp[hj,hji,this]
  ·intro hj
   have:id≠j:=fun e=>hni (e▸hj)
   simp[this]
 have hV:(σ.app ⟨none,(id,⟨ver,.row dp sz (es.set i (splice k e r.1))⟩)::σ.lend (owns r.2)⟩).V=σ.V:=by
  funext j
  simp only[St.V,hob']
  split
  ·exact K40 _
  ·split
   ·rename_i h;subst h;rw[hob]
   ·rfl
 obtain⟨L,hL2,hLown,hLrow⟩:∃L:List Nat,((b::L).Nodup)∧(∀b'∈L,∃j,b'∈g.F j∧(j=id∨j∈owns r.2))∧
   (∀(g':Gh),Tr w w' σ.V σ.V g g'→if dp then OwRow w' sz b off (es.set i (splice k e r.1)) L else RdRow w' (Xb g') sz b off (es.set i (splice k e r.1))∧L=[]):=by
  have hsplit:e=e.take k++((e.drop k).take n++e.drop (k+n)):=by
   rw[←List.drop_drop,List.take_append_drop,List.take_append_drop]
  have hkl:(e.take k).length=k:=by simp;omega
  have hnl:((e.drop k).take n).length=n:=by simp;omega
  cases dp with
  |true=>
   simp only[if_true]at hrd hkd
   rw[hl2]at hkd hnd hni
   obtain⟨Ge,hGe,hGs,hGr⟩:=R.embO hcs hl hkd
   rw[K21 he]at hrd
   obtain⟨G1,G2,h1,h2,rfl⟩:=(K11 _ _ _ _).1 hrd
   have htl:(es.take i).length=i:=by simp;omega
   rw[htl]at h2
   simp only[OwRow]at h2
   obtain⟨_,G3,G4,h3,h4,rfl⟩:=h2
   rw[hsplit]at h3
   obtain⟨Ga,Gb,ha,hb,rfl⟩:=(K1w _ _ _ _).1 h3
   obtain⟨Gm,Gc,hm,hc,rfl⟩:=(K1w _ _ _ _).1 hb
   have hnodF:=R.nd id
   rw[hF]at hnodF
   have hGe_other:∀b'∈Ge,∃j∈owns (l.flatMap fun x=>[x.2]),b'∈g.F j:=fun b' hb'=>List.mem_flatMap.1 (hGs.subset hb')
   have hGe_ne:∀b'∈Ge,b'∉g.F id:=by
    intro b' hb' hbi
    obtain⟨j,hj,hbj⟩:=hGe_other b' hb'
    obtain rfl:=R.dj b' j id hbj hbi
    exact hni hj
   have hGeN:Ge.Nodup:=hGs.nodup (R.flat_nodup _ hnd)
   refine⟨G1++(Ga++(Ge++Gc)++G4),?_,?_,?_⟩
   ·have hFm:∀b',b'∈b::(G1++(Ga++(Gm++Gc)++G4))→b'∈g.F id:=fun b' h=>by rw[hF];exact h
    have hdis:∀b'∈Ge,b'∉b::(G1++(Ga++(Gm++Gc)++G4)):=fun b' h h'=>hGe_ne b' h (hFm b' h')
    exact nodup_mid hnodF hGeN hdis
   ·intro b' hb'
    simp only[List.mem_append]at hb'
    rcases hb' with h|(h|h|h)|h
    ·exact⟨id,by rw[hF];simp[h],.inl rfl⟩
    ·exact⟨id,by rw[hF];simp[h],.inl rfl⟩
    ·obtain⟨j,hj,hbj⟩:=hGe_other b' h
     exact⟨j,hbj,.inr (by rw[hl2];exact hj)⟩
    ·exact⟨id,by rw[hF];simp[h],.inl rfl⟩
    ·exact⟨id,by rw[hF];simp[h],.inl rfl⟩
   ·intro g' _
    have hbn:∀b',b'∈G1++(Ga++(Gm++Gc)++G4)→b'≠b:=by
     intro b' h e'
     subst e'
     exact(List.nodup_cons.1 hnodF).1 h
    simp only[if_true]
    rw[K4z _ hi]
    refine(K11 _ _ _ _).2 ⟨G1,Ga++(Ge++Gc)++G4,?_,?_,by simp⟩
    ·refine OwRow.move _ off off G1 (fun j hj=>?_) (fun b' hb'=>hother b' (hbn b' (by simp[hb']))) h1
     rw[htl]at hj
     rw[hcell,if_pos (by omega)]
    ·rw[htl]
     simp only[OwRow]
     refine⟨by rw[K8o (by rw[hrl];exact hk),helen],Ga++(Ge++Gc),G4,?_,?_,by simp⟩
     ·unfold splice
      rw[List.append_assoc]
      refine(K1w _ _ _ _).2 ⟨Ga,Ge++Gc,?_,?_,rfl⟩
      ·refine OwEl.move _ _ _ Ga (fun j hj=>?_) (fun b' hb'=>hother b' (hbn b' (by simp[hb']))) ha
       rw[hkl]at hj
       rw[hcell,if_pos (by omega)]
      ·rw[hkl]
       refine(K1w _ _ _ _).2 ⟨Ge,Gc,?_,?_,rfl⟩
       ·rw[hl1]
        refine OwL.el _ hGe (fun j u hu=>?_) (fun b' hb'=>hother b' ?_)
        ·have hj:j<us.length:=Kl hu
         rw[hcell,if_neg (by omega),if_pos (by omega)]
         rw[←hu];congr 1;omega
        ·intro e';subst e'
         exact hGe_ne b' hb' (by rw[hF];simp)
       ·rw[hrl]
        rw[hkl,hnl]at hc
        refine OwEl.move _ _ _ Gc (fun j hj=>?_) (fun b' hb'=>hother b' (hbn b' (by simp[hb']))) hc
        rw[hcell,if_neg (by omega),if_neg (by omega)]
     ·refine OwRow.move _ _ _ G4 (fun j hj=>?_) (fun b' hb'=>hother b' (hbn b' (by simp[hb']))) h4
      rw[hcell,if_neg (by omega),if_neg (by omega)]
  |false=>
   simp only[Bool.false_eq_true,if_false]at hrd hkd
   obtain⟨hrd,rfl⟩:=hrd
   rw[hl2]at hkd
   have hRd:=R.embS hcs hl hkd
   refine⟨[],by simp,by simp,?_⟩
   intro g' tr
   simp only[Bool.false_eq_true,if_false,and_true]
   rw[K21 he]at hrd
   obtain⟨h1,h2⟩:=(K1q _ _ _).1 hrd
   have htl:(es.take i).length=i:=by simp;omega
   rw[htl]at h2
   simp only[RdRow]at h2
   obtain⟨_,h3,h4⟩:=h2
   rw[hsplit]at h3
   obtain⟨ha,hb⟩:=(K1x _ _ _).1 h3
   obtain⟨hm,hc⟩:=(K1x _ _ _).1 hb
   rw[K4z _ hi]
   refine(K1q _ _ _).2 ⟨?_,?_⟩
   ·refine RdRow.move tr.kb _ off off (fun j hj=>?_) h1
    rw[htl]at hj
    rw[hcell,if_pos (by omega)]
   ·rw[htl]
    simp only[RdRow]
    refine⟨by rw[K8o (by rw[hrl];exact hk),helen],?_,?_⟩
    ·unfold splice
     rw[List.append_assoc]
     refine(K1x _ _ _).2 ⟨?_,?_⟩
     ·refine RdEl.move tr.kb _ _ _ (fun j hj=>?_) ha
      rw[hkl]at hj
      rw[hcell,if_pos (by omega)]
     ·rw[hkl]
      refine(K1x _ _ _).2 ⟨?_,?_⟩
      ·rw[hl1]
       refine RdL.el tr.kb _ hRd (fun j u hu=>?_)
       have hj:j<us.length:=Kl hu
       rw[hcell,if_neg (by omega),if_pos (by omega)]
       rw[←hu];congr 1;omega
      ·rw[hrl]
       rw[hkl,hnl]at hc
       refine RdEl.move tr.kb _ _ _ (fun j hj=>?_) hc
       rw[hcell,if_neg (by omega),if_neg (by omega)]
    ·refine RdRow.move tr.kb _ _ _ (fun j hj=>?_) h4
     rw[hcell,if_neg (by omega),if_neg (by omega)]
 have hF1:∀j,j≠id→(Gh.mk g.H (fun j=>if j=id then b::L else if j∈owns r.2 then []else g.F j) g.Z).F j=g.F j∨(Gh.mk g.H (fun j=>if j=id then b::L else if j∈owns r.2 then []else g.F j) g.Z).F j=[]:=by
  intro j hj
  simp only[if_neg hj]
  by_cases h:j∈owns r.2<;>simp[h]
 have hF2:(Gh.mk g.H (fun j=>if j=id then b::L else if j∈owns r.2 then []else g.F j) g.Z).F id=b::L:=by simp
 have hFo:∀j,j≠id→j∈owns r.2→(Gh.mk g.H (fun j=>if j=id then b::L else if j∈owns r.2 then []else g.F j) g.Z).F j=[]:=by
  intro j h1 h2;simp[h1,h2]
 have hFk:∀j,j≠id→¬j∈owns r.2→(Gh.mk g.H (fun j=>if j=id then b::L else if j∈owns r.2 then []else g.F j) g.Z).F j=g.F j:=by
  intro j h1 h2;simp[h1,h2]
 generalize hg':(Gh.mk g.H (fun j=>if j=id then b::L else if j∈owns r.2 then []else g.F j) g.Z)=g' at hF1 hF2 hFo hFk
 have hH':g'.H=g.H:=by rw[←hg']
 have hZ':g'.Z=g.Z:=by rw[←hg']
 have hLb:∀b'∈b::L,∃j,b'∈g.F j∧(j=id∨g'.F j=[]):=by
  intro b' hb'
  rcases List.mem_cons.1 hb' with rfl|hb'
  ·exact⟨id,by rw[hF];simp,.inl rfl⟩
  ·obtain⟨j,hj,h⟩:=hLown b' hb'
   rcases h with rfl|h
   ·exact⟨j,hj,.inl rfl⟩
   ·refine⟨j,hj,.inr (hFo j ?_ h)⟩
    intro e;subst e;exact hni h
 have tr:Tr w w' σ.V σ.V g g':=by
  refine K4w hZ' hF1 hF2 (fun b' hb'=>?_) (fun b' hb'=>?_) (by omega) (fun b' hb' hx=>hother b' (Kam hF hx)) (fun _=>Nat.le_refl _) (fun _ _ _=>by rw[hH'])
  ·obtain⟨j,hj,_⟩:=hLb b' hb';exact .inr ⟨j,hj⟩
  ·simp at hb';subst hb';exact .inr ⟨id,by rw[hF];rfl⟩
 obtain⟨nd,dj,frs⟩:=redist R (w':=w') hF1 hF2 hL2 (fun b' hb'=> .inr (hLb b' hb')) (by omega)
 refine⟨.skip,w',hrun',g',?_⟩
 simp only[hd]
 refine R.turn none _ w' g' none undef (by rw[hV];exact tr) rfl (fun i h=>by rw[hV]at h;exact h) ?_ nd dj frs (by rw[←hw'];exact K4b R.grew (R.frs id b (by rw[hF];simp)).1 _)
 intro j
 by_cases hji:j=id
 ·subst hji
  right
  rw[hob',if_neg hni,if_pos rfl,hV]
  simp only[ObjR]
  refine⟨some ⟨b,off,none⟩,cap2,by rw[hH'];simpa using hHo,by simpa using hcap,.inr ⟨b,off,_,ty,L,rfl,hnew,?_,?_,hF2⟩⟩
  ·simp;omega
  ·have:=hLrow g' tr
   cases dp<;>simpa using this
 ·by_cases hjo:j∈owns r.2
  ·right
   rw[hob',if_pos hjo,hV]
   have hdp:dp=true:=by
    cases dp with
    |true=>rfl
    |false=>
     simp only[Bool.false_eq_true,if_false]at hkd
     exfalso
     obtain⟨k,hk,hko⟩:=List.mem_filterMap.1 hjo
     have:=List.all_eq_true.1 hkd k hk
     cases k<;>simp at hko this
   subst hdp
   simp only[if_true]at hkd
   rw[hl2]at hkd
   obtain⟨_,_,_,hrows⟩:=R.embO hcs hl hkd
   obtain⟨dp',sz',es',hrow'⟩:=hrows j (by rw[←hl2];exact hjo)
   refine R.lentOf (by exact tr) hrow' (hFo j hji hjo) fun b' hb'=>?_
   have hb'F:b'∈g.F j:=List.mem_of_mem_head? hb'
   refine⟨hother b' (by intro e;subst e;exact hji (R.dj b' j id hb'F (by rw[hF];simp))),fun hz=>by rw[hZ',R.zz]at hz;exact(R.frs j b' hb'F).1 (R.zb b' hz),?_⟩
   intro i hi
   by_cases hii:i=id
   ·subst hii
    rw[hF2]at hi
    simp at hi
    subst hi
    exact hji (R.dj b j i hb'F (by rw[hF];simp))
   ·rcases hF1 i hii with h|h
    ·rw[h]at hi
     obtain rfl:=R.dj b' j i hb'F (List.mem_of_mem_head? hi)
     rw[hFo j hji hjo]at h
     rw[←h]at hb'F;simp at hb'F
    ·rw[h]at hi;simp at hi
  ·left
   rw[hob',if_neg hjo,if_neg hji]
   refine⟨rfl,hFk j hji hjo,fun b' hb'=>hother b' ?_⟩
   intro e;subst e
   exact hji (R.dj b' j id hb' (by rw[hF];simp))
end
end Go.Proofs.YtjneccbpkckdfaaGreatR
namespace Go.Proofs.YtjneccbpkckdfaaGreatR
open Go Go.RowKit
section
variable {P:Program} {base:Nat→Prop} {Z:ZZ} {w0 w:World} {σ:St} {g:Gh} {o:Oper} {a:Act} {V:Nat→Nat}
theorem K8e(R:Rel base Z w0 w σ a.tmps g){n:Nat}{x y:Od}{x' y':Operand}{t:TypeId}{agg:Bool}(hd:o.dst=none)(ho:o.op= .store t x' y')(hx:K3 x' x=true)(hy:K3 y' y=true)(ht:Ty P t agg n){e:Ef}
  (he:eff (.store n x y) σ=some e):Good P o a base Z w0 w (σ.app e):=by
 simp only[eff]at he
 obtain⟨ad,had,he⟩:=Option.bind_eq_some_iff.1 he
 obtain⟨v,hv,he⟩:=Option.bind_eq_some_iff.1 he
 split at he
 rotate_left
 ·simp at he
 rename_i hn
 cases ad with
 |bx id ver k=>
  simp only at he
  cases hob:σ.ob id with
  |mk v' oc=>
   rw[hob]at he
   cases oc<;>simp only at he<;>try (simp at he;done)
   rename_i cs
   split at he<;>simp at he
   rename_i hh
   obtain⟨rfl,hk⟩:=hh
   subst he
   exact Ka3 R hd ho hx hy ht had hv hn hob hk
 |el id ver sz i k=>
  simp only at he
  cases hob:σ.ob id with
  |mk v' oc=>
   rw[hob]at he
   cases oc<;>simp only at he<;>try (simp at he;done)
   rename_i dp sz' es
   split at he
   rotate_left
   ·simp at he
   rename_i hh
   obtain⟨rfl,rfl⟩:=hh
   obtain⟨el,hel,he⟩:=Option.bind_eq_some_iff.1 he
   obtain⟨r,hr,he⟩:=Option.bind_eq_some_iff.1 he
   obtain⟨⟨hk,hnd,hni,hkd⟩,he⟩:=Option.ite_none_right_eq_some.1 he
   simp only[Option.some.injEq]at he
   subst he
   exact Ka4 R hd ho hx hy ht had hv hn hob hel hr hk hnd hni hkd
 |ex bo sz es i k=>simp at he
 |pb ts k=>simp at he
def placed(P:Program)(t:TypeId):Option ((Nat→Option (Nat×Nat))×Array Value):=
 match P.info? t,P.underlying t with
 |some it,some (.array _ e)=>
  match it.zero,P.info? e with
  |some z,some ie=>some (fun i=>some (i*ie.size,ie.size),z.cells)
  |_,_=>none
 |some it,some (.struct fields)=>
  match it.zero,fields.toList.mapM (fun f=>(P.info? f.type).map fun i=>(f.offset,i.size))with
  |some z,some places=>some ((places.toArray[·]?),z.cells)
  |_,_=>none
 |_,_=>none
theorem built_of{t:TypeId}{pl:Nat→Option (Nat×Nat)}{z:Array Value}(h:placed P t=some (pl,z))(parts:List (Nat×Value)):P.built t parts=Instr.fill pl z parts:=by
 unfold placed at h
 unfold Program.built
 split at h
 ·split at h<;>simp at h
  obtain⟨rfl,rfl⟩:=h
  simp_all
 ·split at h<;>simp at h
  obtain⟨rfl,rfl⟩:=h
  simp_all
 ·simp at h
def K31(pl:Nat→Option (Nat×Nat)):List (Nat×Operand)→List (Nat×Nat×Od)→Bool
 | [],[]=>true
 |(i,x)::l,(off,n,y)::m=>(match pl i with|some (o',n')=>o'==off&&n'==n|none=>false)&&K3 x y&&K31 pl l m
 |_,_=>false
theorem Kbd(off:Nat)(l:List Value)(cells:List Value)(h:off+l.length≤cells.length):l.zipIdx.foldl (fun cs (x:Value×Nat)=>cs.setIfInBounds (off+x.2) x.1) cells.toArray=(splice off cells l).toArray:=by
 obtain⟨h1,h2⟩:=Great.foldl_set off l 0 cells.toArray
 apply Array.ext_getElem?
 intro k
 rw[h2 k]
 simp only[Nat.add_zero,List.size_toArray,List.getElem?_toArray,splice]
 rw[List.append_assoc,List.getElem?_append,List.length_take,Nat.min_eq_left (by omega)]
 by_cases hk:k<off
 ·rw[if_neg (by omega),if_pos hk,List.getElem?_take,if_pos hk]
 ·rw[if_neg hk,List.getElem?_append]
  by_cases hk2:k<off+l.length
  ·rw[if_pos (by omega),if_pos (by omega)]
  ·rw[if_neg (by omega),if_neg (by omega),List.getElem?_drop];congr 1;omega
theorem Kae(R:Rel base Z w0 w σ a.tmps g){pl:Nat→Option (Nat×Nat)}:∀ {l:List (Nat×Operand)} {m:List (Nat×Nat×Od)} {zs cs:List SC} {vs:List Value},K31 pl l m=true→CellsR w σ.V g zs vs→σ.fill zs m=some cs→
  ∃us:List Value,Instr.fill pl vs.toArray (l.map fun x=>(x.1,a.eval x.2))=some us.toArray∧CellsR w σ.V g cs us
 | [],[],zs,cs,vs,_,hz,hf=>by
  simp only[St.fill,Option.some.injEq]at hf
  subst hf
  exact⟨vs,rfl,hz⟩
 |(i,x)::l,(off,n,y)::m,zs,cs,vs,hc,hz,hf=>by
  simp only[K31,Bool.and_eq_true]at hc
  obtain⟨⟨h1,h2⟩,h3⟩:=hc
  simp only[St.fill]at hf
  split at hf
  rotate_left
  ·simp at hf
  rename_i ag cs' hall
  split at hf
  rotate_left
  ·simp at hf
  rename_i hh
  have hE:=R.ev h2
  rw[K25 hall]at hE
  simp only[SlotR]at hE
  obtain⟨us,hus,hcs⟩:=hE.cells'
  have hpl:pl i=some (off,n):=by
   split at h1
   ·rename_i hp;simp at h1;rw[hp,h1.1,h1.2]
   ·simp at h1
  have hlen:=hcs.len
  have hzl:=hz.len
  obtain⟨us',hf',hcs'⟩:=Kae R h3 (hz.splice_ off hcs) hf
  refine⟨us',?_,hcs'⟩
  have hsz:(a.eval x).cells.size=n:=by rw[hus];simp;omega
  have hfold:(a.eval x).cells.zipIdx.foldl (fun (cs:Array Value) (x:Value×Nat)=>cs.setIfInBounds (off+x.2) x.1) vs.toArray=(splice off vs us).toArray:=by
   rw[hus,←Kbd off us vs (by omega),←Array.foldl_toList]
   simp
  simp only[List.map_cons,Instr.fill,hpl]
  rw[if_neg (by rw[hsz];simp;omega)]
  rw[hfold]
  exact hf'
 | [],_::_,_,_,_,hc,_,_=>by simp[K31]at hc
 |_::_,[],_,_,_,hc,_,_=>by simp[K31]at hc
theorem good_build(R:Rel base Z w0 w σ a.tmps g){d:Nat}{zs:List SC}{ps:List (Nat×Nat×Od)}{parts:Array (Nat×Operand)}{t:TypeId}{pl:Nat→Option (Nat×Nat)}{z:Array Value}(hd:o.dst=some d)(ho:o.op= .build t parts)
  (hp:placed P t=some (pl,z)) (hz:chkZ zs z.toList=true) (hc:K31 pl parts.toList ps=true) {e:Ef} (he:eff (.build d zs ps) σ=some e):Good P o a base Z w0 w (σ.app e):=by
 simp only[eff]at he
 obtain⟨cs,hcs,rfl⟩:=Option.map_eq_some_iff.1 he
 obtain⟨us,hf,hr⟩:=Kae R hc (K3w hz) hcs
 refine Ks R hd (s:=Instr.build t (parts.map fun (i,x)=>(i,a.eval x))) (by simp[execOp,ho]) (v:= .agg us.toArray) ?_ ?_
 ·refine run_build w t _ _ ?_
  rw[built_of hp,Array.toList_map]
  simpa using hf
 ·simp only[SlotR,ValR,if_true]
  exact⟨us,rfl,hr⟩
theorem CellsR.sub_{cs cs':List SC}{vs:List Value}{k n:Nat}(h:CellsR w V g cs vs)(hs:sub k n cs=some cs'):CellsR w V g cs' ((vs.drop k).take n)∧cs'.length=n∧k+n≤vs.length:=by
 obtain⟨h1,rfl,h2⟩:=K4m hs
 exact⟨(h.drop_ k).take_ n,h2,by rw[←h.len];exact h1⟩
theorem good_fldv(R:Rel base Z w0 w σ a.tmps g){d off n:Nat}{agg:Bool}{x:Od}{x':Operand}{t:TypeId}{f:Nat}{fs:Array Field}{fd:Field}(hd:o.dst=some d)(ho:o.op= .field t x' f)(hx:K3 x' x=true)
  (hu:P.underlying t=some (.struct fs)) (hf:fs[f]? =some fd) (ht:Ty P fd.type agg n) (hoff:fd.offset=off) {e:Ef} (he:eff (.fldv d x off n agg) σ=some e):Good P o a base Z w0 w (σ.app e):=by
 simp only[eff]at he
 obtain⟨v,hv,he⟩:=Option.bind_eq_some_iff.1 he
 obtain⟨cs,hcs,he⟩:=Option.bind_eq_some_iff.1 he
 split at he<;>simp at he
 rename_i hh
 subst he
 have hE:=R.ev hx
 rw[K25 hv]at hE
 simp only[SlotR,ValR,hh.1,if_true]at hE
 obtain⟨vs,hvs,hr⟩:=hE
 obtain⟨hr',hn,hk⟩:=hr.sub_ hcs
 have hext:vs.toArray.extract off (off+n)=((vs.drop off).take n).toArray:=by
  simp
 refine Ks R hd (s:=Instr.field t (a.eval x') f) (by simp[execOp,ho]) (v:=if agg then .agg ((vs.drop off).take n).toArray else((vs.drop off).take n).getD 0 undef) ?_ ?_
 ·simp only[Instr.field,Sem.run_bind,run_underlying hu,Result.andThen_ok,hf,hvs,asAgg,Sem.run_pure,part,ht.isAgg]
  cases agg with
  |true=>simp[ht.sizeOf,hoff]
  |false=>
   have hn1:n=1:=by simpa using hh.2
   subst hn1
   simp only[Bool.false_eq_true,if_false,hoff,List.getElem?_toArray]
   have:off<vs.length:=by omega
   simp[this]
 ·simp only[SlotR,ValR]
  cases agg with
  |true=>simp only[if_true];exact⟨_,rfl,hr'⟩
  |false=>
   simp only[Bool.false_eq_true,if_false]
   have hn1:n=1:=by simpa using hh.2
   subst hn1
   obtain⟨c,rfl⟩:=List.length_eq_one_iff.1 hn
   obtain⟨u,hu'⟩:=List.length_eq_one_iff.1 (hr'.len.symm.trans hn)
   rw[hu']at hr' ⊢
   exact⟨c,rfl,hr'.1⟩
theorem K2r{y:Nat}{code:BoundsCode}{n:Int}(h:0≤n∧n≤y):(Instr.sliceBound (.int .i64 n) y code).run P w= .ok n.toNat w:=by
 simp[Instr.sliceBound,asIntOf,h]
end
end Go.Proofs.YtjneccbpkckdfaaGreatR
namespace Go.Proofs.YtjneccbpkckdfaaGreatR
open Go Go.RowKit
section
variable {P:Program} {base:Nat→Prop} {Z:ZZ} {w0 w:World} {σ:St} {g:Gh} {o:Oper} {a:Act} {V:Nat→Nat}
def K1c:Option Operand→Option Od→Bool
 |none,none=>true
 |some x,some y=>K3 x y
 |_,_=>false
theorem K8i{lo:Option Od}{dflt l:Int}(h1:σ.opt lo dflt=some l)(R:Rel base Z w0 w σ a.tmps g){lo':Option Operand}(hlo:K1c lo' lo=true):
  (lo'=none∧lo=none∧l=dflt)∨∃y',lo'=some y'∧lo.isSome=true∧a.eval y'= .int .i64 l:=by
 cases lo with
 |none=>
  cases lo'<;>simp only[K1c,Bool.false_eq_true]at hlo
  simp[St.opt]at h1
  exact .inl ⟨rfl,rfl,h1.symm⟩
 |some y=>
  cases lo'<;>simp only[K1c,Bool.false_eq_true]at hlo
  simp only[St.opt]at h1
  exact .inr ⟨_,rfl,rfl,R.int hlo h1⟩
theorem K7j{lo hi:Option Od}{l h:Int}{len cap:Nat}(h1:σ.opt lo 0=some l)(h2:σ.opt hi (len:Int)=some h)
  (R:Rel base Z w0 w σ a.tmps g) {lo' hi':Option Operand} (hlo:K1c lo' lo=true) (hhi:K1c hi' hi=true) {isSl:Bool}
  (hb:0≤l∧l≤h∧h≤len) (hcap:len≤cap):
  (Instr.sliceBounds isSl len cap (lo'.map a.eval) (hi'.map a.eval) none).run P w= .ok (l.toNat,h.toNat,cap) w:=by
 have b1:∀code,(Instr.sliceBound (.int .i64 h) cap code).run P w= .ok h.toNat w:=fun code=>K2r (by omega)
 have b2:∀code,(Instr.sliceBound (.int .i64 l) h.toNat code).run P w= .ok l.toNat w:=fun code=>K2r (by omega)
 have b3:∀code,(Instr.sliceBound (.int .i64 l) len code).run P w= .ok l.toNat w:=fun code=>K2r (by omega)
 rcases K8i h1 R hlo with ⟨rfl,_,rfl⟩|⟨y,rfl,_,hy⟩<;>rcases K8i h2 R hhi with ⟨rfl,_,rfl⟩|⟨y2,rfl,_,hy2⟩<;>simp[Instr.sliceBounds, *]
theorem Kbg{lo hi:Option Od}{len cap:Nat}(h1:σ.opt lo 0=some 0)(h2:σ.opt hi (len:Int)=some 0)(hs:hi.isSome=true)
  (R:Rel base Z w0 w σ a.tmps g) {lo' hi':Option Operand} (hlo:K1c lo' lo=true) (hhi:K1c hi' hi=true) {isSl:Bool}:
  (Instr.sliceBounds isSl len cap (lo'.map a.eval) (hi'.map a.eval) (some (.int .i64 0))).run P w= .ok (0,0,0) w:=by
 have b1:∀n code,(Instr.sliceBound (.int .i64 0) n code).run P w= .ok 0 w:=fun n code=>K2r (by omega)
 rcases K8i h1 R hlo with ⟨rfl,_,_⟩|⟨y,rfl,_,hy⟩<;>rcases K8i h2 R hhi with ⟨rfl,rfl,_⟩|⟨y2,rfl,_,hy2⟩<;>simp_all[Instr.sliceBounds]
theorem good_slcs(R:Rel base Z w0 w σ a.tmps g){d:Nat}{x:Od}{x':Operand}{lo hi:Option Od}{lo' hi':Option Operand}{t:TypeId}(hd:o.dst=some d)(ho:o.op= .slice t x' lo' hi' none)(hx:K3 x' x=true)(hlo:K1c lo' lo=true)
  (hhi:K1c hi' hi=true) (hu:P.underlying t=some .string) {e:Ef} (he:eff (.slcs d x lo hi) σ=some e):Good P o a base Z w0 w (σ.app e):=by
 simp only[eff]at he
 obtain⟨s,hs,he⟩:=Option.bind_eq_some_iff.1 he
 obtain⟨v,hv,hs⟩:=Option.bind_eq_some_iff.1 hs
 obtain⟨l,hl,he⟩:=Option.bind_eq_some_iff.1 he
 obtain⟨h,hh,he⟩:=Option.bind_eq_some_iff.1 he
 obtain⟨hb,he⟩:=Option.ite_none_right_eq_some.1 he
 simp only[Option.some.injEq]at he
 subst he
 have hvs:v= .string s:=by unfold vStr at hs;split at hs<;>simp_all
 have hW:s.size≤9223372036854775807:=by have:=(R.sca hx hv).2;rw[hvs]at this;simpa[oneW,wfB,Value.oneCell']using this
 refine Ks R hd (s:=Instr.sliceAt t (a.eval x') (lo'.map a.eval) (hi'.map a.eval) none) (v:= .string (s.extract l.toNat h.toNat)) (by simp[execOp,ho]) ?_ (K1s (K64 (by rw[ByteArray.size_extract];omega)))
 simp only[Instr.sliceAt,Instr.slice,Sem.run_bind,run_underlying hu,Result.andThen_ok,(R.sca hx hv).1,hvs]
 have:=K7j (P:=P) hl hh R hlo hhi (isSl:=false) hb (Nat.le_refl _)
 simp[this]
theorem good_slc(R:Rel base Z w0 w σ a.tmps g){d sz bytes:Nat}{x:Od}{x':Operand}{lo hi mx:Option Od}{lo' hi' mx':Option Operand}{t et:TypeId}(hd:o.dst=some d)(ho:o.op= .slice t x' lo' hi' mx')(hx:K3 x' x=true)
  (hlo:K1c lo' lo=true) (hhi:K1c hi' hi=true) (hmx:K1c mx' mx=true) (hmh:mx.isSome=true→hi.isSome=true) (ht:Sl P t et sz bytes) {e:Ef} (he:eff (.slc d sz x lo hi mx) σ=some e):Good P o a base Z w0 w (σ.app e):=by
 simp only[eff]at he
 obtain⟨c,hc,he⟩:=Option.bind_eq_some_iff.1 he
 obtain⟨l,hl,he⟩:=Option.bind_eq_some_iff.1 he
 obtain⟨r,hr,he⟩:=Option.bind_eq_some_iff.1 he
 obtain⟨h,hh,he⟩:=Option.bind_eq_some_iff.1 he
 obtain⟨inf,hu,hinf,hsize,_⟩:=ht
 have hC:=(R.ev hx).one_ hc
 obtain⟨A,cap,hv,hcap,hrow⟩:=R.rows hC hr
 have hex:execOp a.eval o=(do let x ←Instr.sliceAt t (a.eval x') (lo'.map a.eval) (hi'.map a.eval) (mx'.map a.eval);pure (Next.value x)):=by simp[execOp,ho]
 cases mx with
 |some m=>
  cases mx' with
  |none=>simp[K1c]at hmx
  |some m'=>
  simp only[K1c]at hmx
  simp only at he
  obtain⟨m0,hm0,he⟩:=Option.bind_eq_some_iff.1 he
  obtain⟨⟨e1,e2,e3⟩,hf⟩:=Option.ite_none_right_eq_some.1 he
  clear he
  subst e1 e2 e3
  simp only[Option.some.injEq]at hf
  subst hf
  refine Ks R hd hex (v:= .slice A 0 0) ?_ ?_
  ·have hM:=R.int hmx hm0
   have hb:=Kbg (P:=P) (len:=r.2.length) (cap:=cap) (isSl:=true) hl hh (hmh rfl) R hlo hhi
   rw[←hM]at hb
   simp[Instr.sliceAt,Instr.slice,run_underlying hu,hv,hb,sizeOf,typeInfo,hinf]
  ·simp only[SlotR,ValR,Bool.false_eq_true,if_false]
   exact⟨_,rfl,by simp only[CellR];exact⟨A,rfl⟩⟩
 |none=>
  cases mx' with
  |some m'=>simp[K1c]at hmx
  |none=>
  simp only at he
  obtain⟨⟨hsz,hb⟩,he⟩:=Option.ite_none_right_eq_some.1 he
  have hbd:=K7j (P:=P) (len:=r.2.length) (cap:=cap) hl hh R hlo hhi (isSl:=true) hb hcap.1
  have hrun:(Instr.sliceAt t (a.eval x') (lo'.map a.eval) (hi'.map a.eval) ((none:Option Operand).map a.eval)).run P w= .ok (.slice (if cap=l.toNat then A else A.map (·.add (l.toNat*sz))) (h.toNat-l.toNat) (cap-l.toNat)) w:=by
   simp[Instr.sliceAt,Instr.slice,run_underlying hu,hv,hbd,sizeOf,typeInfo,hinf,hsize]
  have hhl:(h-l).toNat=h.toNat-l.toNat:=by omega
  subst hsz
  have hread:∀ {X:Nat→Prop},Rd w X (.sl r.1 r.2) (a.eval x')→Rd w X (.sl r.1 (cut l.toNat (h-l).toNat r.2)) (.slice (if cap=l.toNat then A else A.map (·.add (l.toNat*r.1))) (h.toNat-l.toNat) (cap-l.toNat)):=by
   intro X hC
   have hcl:(cut l.toNat (h-l).toNat r.2).length=h.toNat-l.toNat:=by rw[K5e (by omega)];exact hhl
   simp only[Rd]at hC ⊢
   obtain⟨A2,cap2,hv2,_,hC⟩:=hC
   rw[hv]at hv2
   simp only[Value.slice.injEq]at hv2
   obtain⟨rfl,_,rfl⟩:=hv2
   have hc1:=hcap.1
   have hc2:=hcap.2
   refine⟨_,_,by rw[hcl],by rw[hcl];exact⟨by omega,by omega⟩,?_⟩
   rcases hC with hC|⟨b2,off2,hA2,hX,hb2,hC⟩
   ·left
    exact List.length_eq_zero_iff.1 (by rw[hcl];rw[hC]at hb;simp at hb;omega)
   ·by_cases h0:cap=l.toNat
    ·left
     exact List.length_eq_zero_iff.1 (by rw[hcl];omega)
    ·right
     subst hA2
     refine⟨b2,off2+l.toNat*r.1,by simp[h0,K19],hX,hb2,cut_row hC (by omega)⟩
  cases c with
  |pl t0=>
   simp at he;subst he
   rw[rows_pl hr]at hC
   refine Ks R hd hex hrun ?_
   simp only[SlotR,ValR,Bool.false_eq_true,if_false]
   exact⟨_,rfl,hread hC⟩
  |bor t0=>
   simp at he;subst he
   rw[Kaw hr]at hC
   refine Ks R hd hex hrun ?_
   simp only[SlotR,ValR,Bool.false_eq_true,if_false]
   exact⟨_,rfl,hread hC⟩
  |emp sz'=>
   simp at he;subst he
   simp only[CellR]at hC
   obtain⟨A2,hv2⟩:=hC
   rw[hv]at hv2
   simp only[Value.slice.injEq]at hv2
   obtain⟨rfl,hl0,rfl⟩:=hv2
   refine Ks R hd hex hrun ?_
   simp only[SlotR,ValR,Bool.false_eq_true,if_false]
   refine⟨_,rfl,?_⟩
   simp only[CellR]
   have e1:h.toNat-l.toNat=0:=by omega
   have e2:0-l.toNat=0:=by omega
   rw[e1,e2]
   exact⟨_,rfl⟩
  |ref id ver sz' lo0 n0=>
   simp at he;subst he
   have hsz':=Kax hr
   simp only[CellR]at hC
   obtain⟨hver,A2,len,cap2,A',c',hH,hv2,hn2,hnc,hcc,hA',hsp⟩:=hC
   rw[hv]at hv2
   simp only[Value.slice.injEq]at hv2
   obtain⟨rfl,hl2,rfl⟩:=hv2
   refine Ks R hd hex hrun ?_
   simp only[SlotR,ValR,Bool.false_eq_true,if_false]
   refine⟨_,rfl,?_⟩
   simp only[CellR]
   refine⟨hver,A2,len,cap2,_,_,hH,by rw[hhl],by omega,by omega,by omega,?_,hsp.imp (fun h=>by omega) (fun h=>h)⟩
   by_cases h0:cap=l.toNat
   ·left;omega
   ·right
    rw[if_neg h0]
    have hc0:¬cap=0:=by omega
    rw[hA'.resolve_left hc0]
    cases A2 with
    |none=>rfl
    |some ad=>simp[K19,Nat.add_mul,hsz',Nat.add_assoc]
  |clo f bs=>simp at he
def chkT:List T→List Value→Bool
 | [],[]=>true
 |.sc v::ts,u::us=>eqV u v&&chkT ts us
 |.sl _ []::ts,.slice none 0 0::us=>chkT ts us
 |_,_=>false
theorem K8t{b:Nat}:∀ {ts:List T} {us:List Value} {off:Nat},chkT ts us=true→(∀j u,us[j]? =some u→w.cell? ⟨b,off+j,none⟩=some u)→OwEl w b off ts []
 | [],[],_,_,_=>by simp only[OwEl]
 |.sc v::ts,u::us,off,h,hc=>by
  simp only[chkT,Bool.and_eq_true]at h
  obtain⟨rfl,h1⟩:=K8b h.1
  simp only[OwEl]
  refine⟨u,[],[],by simpa using hc 0 u rfl,by simp only[Ow];exact⟨trivial,h1,trivial⟩,K8t h.2 (fun j u' hu=>?_),rfl⟩
  rw[show off+1+j=off+(j+1)by omega]
  exact hc (j+1) u' (by simpa using hu)
 |.sl sz []::ts,v::us,off,h,hc=>by
  have hv:v= .slice none 0 0∧chkT ts us=true:=by
   unfold chkT at h
   split at h<;>simp_all
  obtain⟨rfl,h⟩:=hv
  unfold OwEl
  refine⟨.slice none 0 0,[],[],by simpa using hc 0 _ rfl,by unfold Ow;exact⟨none,0,rfl,Ln.z _,.inl ⟨rfl,rfl,rfl⟩⟩,K8t h (fun j u' hu=>?_),rfl⟩
  rw[show off+1+j=off+(j+1)by omega]
  exact hc (j+1) u' (by simpa using hu)
 | [],_::_,_,h,_=>by simp[chkT]at h
 |.sl _ (_::_)::_,_,_,h,_=>by simp[chkT]at h
 |.pb _::_,_,_,h,_=>by simp[chkT]at h
 |.fn ..::_,_,_,h,_=>by simp[chkT]at h
 |.sc _::_,[],_,h,_=>by simp[chkT]at h
 |.sl _ []::_,[],_,h,_=>by simp[chkT]at h
theorem K5w:∀ {ts:List T} {us:List Value},chkT ts us=true→ts.length=us.length
 | [],[],_=>rfl
 |.sc v::ts,u::us,h=>by
  simp only[chkT,Bool.and_eq_true]at h
  simp[K5w h.2]
 |.sl sz []::ts,v::us,h=>by
  have hv:v= .slice none 0 0∧chkT ts us=true:=by
   unfold chkT at h
   split at h<;>simp_all
  simp[K5w hv.2]
 | [],_::_,h=>by simp[chkT]at h
 |.sl _ (_::_)::_,_,h=>by simp[chkT]at h
 |.pb _::_,_,h=>by simp[chkT]at h
 |.fn ..::_,_,h=>by simp[chkT]at h
 |.sc _::_,[],h=>by simp[chkT]at h
 |.sl _ []::_,[],h=>by simp[chkT]at h
theorem Ka1{b:Nat}{z:List T}{zs:Array Value}(hz:chkT z zs.toList=true){N:Nat}(hc:∀j,j<N*z.length→w.cell? ⟨b,j,none⟩=some (zs[j%zs.size]!)):∀n k,k+n=N→OwRow w z.length b (k*z.length) (List.replicate n z) []
 |0,_,_=>by simp only[List.replicate,OwRow]
 |n+1,k,hk=>by
  simp only[List.replicate,OwRow]
  have hl:=K5w hz
  simp at hl
  refine⟨trivial,[],[],K8t hz (fun j u hu=>?_),?_,rfl⟩
  ·have hj:j<zs.size:=by simpa using Kl hu
   have hkm:(k+1)*z.length≤N*z.length:=Nat.mul_le_mul_right _ (by omega)
   have hkm':(k+1)*z.length=k*z.length+z.length:=by rw[Nat.add_mul,Nat.one_mul]
   rw[hc _ (by omega)]
   have:(k*z.length+j)%zs.size=j:=by rw[hl,Nat.mul_add_mod_of_lt hj]
   rw[this]
   rw[Array.getElem?_toList]at hu
   rw[Array.getElem!_eq_getD,Array.getD_eq_getD_getElem?,hu]
   rfl
  ·have:=Ka1 hz hc n (k+1) (by omega)
   rw[Nat.add_mul,Nat.one_mul]at this
   exact this
theorem good_mk(R:Rel base Z w0 w σ a.tmps g){d id sz bytes:Nat}{z:List T}{x:Od}{x' y':Operand}{t et:TypeId}{inf:TypeInfo}{zv:Value}(hd:o.dst=some d)(ho:o.op= .makeSlice t x' y')(hx:K3 x' x=true)(hy:K3 y' x=true)
  (hu:P.underlying t=some (.slice et)) (hinf:P.info? et=some inf) (hsize:inf.size=sz) (hbytes:inf.bytes=bytes) (hb1:1≤bytes) (hzv:inf.zero=some zv) (hz:chkT z zv.cells.toList=true) {e:Ef} (he:eff (.mk d id sz bytes z x) σ=some e):Good P o a base Z w0 w (σ.app e):=by
 simp only[eff]at he
 obtain⟨n,hn,he⟩:=Option.bind_eq_some_iff.1 he
 obtain⟨⟨hid,hzl,h0,hroom⟩,he⟩:=Option.ite_none_right_eq_some.1 he
 simp only[Option.some.injEq]at he
 subst he
 subst hsize hbytes
 have hcl:=K5w hz
 have hnb:n≤n*inf.bytes:=by
  have h1:n*1≤n*(inf.bytes:Int):=Int.mul_le_mul_of_nonneg_left (by omega) h0
  omega
 have hroom':n*(inf.bytes:Int)≤140737488355328:=by simpa[roomB]using hroom
 have hrun:(execOp a.eval o).run P w= .ok (.value (.slice (some ⟨w.heap.size,0,none⟩) n.toNat n.toNat)) (w.alloc (.cells (madeCells zv.cells (n.toNat*inf.size)) et)):=by
  simp only[execOp,ho]
  refine K2d ?_
  rw[R.int hx hn,R.int hy hn]
  exact run_make w t et inf zv hu hinf hzv .i64 .i64 n n h0 (Int.le_refl _) (by rw[Int.mul_comm];omega) (by omega)
 have hnB:n.toNat≤roomB:=by
  have h1:n*1≤n*inf.bytes:=Int.mul_le_mul_of_nonneg_left (by omega) h0
  omega
 obtain⟨g',hR⟩:=R.new1 (d:=d) (s:= .val false [.ref id (σ.nw id) inf.size 0 n.toNat]) (v:= .slice (some ⟨w.heap.size,0,none⟩) n.toNat n.toNat) (hv:= .slice (some ⟨w.heap.size,0,none⟩) n.toNat n.toNat)
  (oc:= .row true inf.size (List.replicate n.toNat z)) (o':= .cells (madeCells zv.cells (n.toNat*inf.size)) et) hid
  (by
   intro g' V' h1 h2
   simp only[SlotR,ValR,Bool.false_eq_true,if_false]
   refine⟨_,rfl,?_⟩
   simp only[CellR]
   exact⟨by omega,some ⟨w.heap.size,0,none⟩,n.toNat,n.toNat,some ⟨w.heap.size,0,none⟩,n.toNat,h2,rfl,by omega,Nat.le_refl _,by omega,.inr (by simp),.inr (by simp)⟩)
  (by
   intro g' tr h1 h2
   simp only[ObjR]
   refine⟨some ⟨w.heap.size,0,none⟩,n.toNat,by simpa using h1,⟨by simp,by simpa using hnB,by simp only[roomB]at hnB;simp only[capB];omega⟩,.inr ⟨w.heap.size,0,madeCells zv.cells (n.toNat*inf.size),et,[],rfl,heap_alloc_new w _,by rw[size_madeCells];omega,?_,h2⟩⟩
   simp only[if_true]
   have:=Ka1 (w:=w.alloc (.cells (madeCells zv.cells (n.toNat*inf.size)) et)) (b:=w.heap.size) hz (N:=n.toNat) (fun j hj=>?_) n.toNat 0 (by omega)
   ·rw[hzl]at this;simpa using this
   ·rw[hzl]at hj
    simp only[World.cell?]
    rw[heap_alloc_new]
    simp[madeCells,hj])
 exact⟨_,_,hrun,g',by simp only[hd];exact hR⟩
end
end Go.Proofs.YtjneccbpkckdfaaGreatR
namespace Go.Proofs.YtjneccbpkckdfaaGreatR
open Go Go.RowKit
section
variable {P:Program} {base:Nat→Prop} {Z:ZZ} {w0 w:World} {σ:St} {g:Gh} {o:Oper} {a:Act} {V:Nat→Nat}
theorem Rel.newL(R:Rel base Z w0 w σ a.tmps g){id d:Nat}{oc:OC}{s:SV}{hv v:Value}{w':World}{ks:List Nat}{dr:Option Nat}{L:List Nat}{obs:List (Nat×OV)}
  (hob:∀i,(σ.app ⟨some (d,s),obs⟩).ob i=if i=id then⟨σ.nw id,oc⟩else if i∈ks then Go.Proofs.YtjneccbpkckdfaaGreatR.lentOf (σ.ob i)else if dr=some i then⟨(σ.ob i).ver,.none⟩else σ.ob i)
  (hsz:w.heap.size≤w'.heap.size) (hother:∀b,b<w.heap.size→(∀j,dr=some j→(g.F j).head? ≠some b)→w'.heap[b]? =w.heap[b]?) (gr:Bel base w0 w')
  (hdrks:∀j,dr=some j→¬j∈ks) (hidks:¬id∈ks)
  (hrows:∀j∈ks,∃dp sz es,(σ.ob j).oc= .row dp sz es)
  (hL:L.Nodup) (hLo:∀b∈L,(w.heap.size≤b∧b<w'.heap.size)∨∃j,b∈g.F j∧(dr=some j∨j∈ks))
  (hLh:∀b,L.head? =some b→w.heap.size≤b∨∃j,dr=some j∧(g.F j).head? =some b)
  (hs:∀(g':Gh) (V':Nat→Nat),V' id=σ.nw id→g'.H id (σ.nw id)=hv→SlotR w' V' g' s v)
  (hobj:∀(g':Gh) (V':Nat→Nat),Tr w w' σ.V V' g g'→g'.H id (σ.nw id)=hv→g'.F id=L→ObjR w' V' g' id (σ.nw id) oc):
  ∃g',Rel base Z w0 w' (σ.app ⟨some (d,s),obs⟩) (a.put (some d) v).tmps g':=by
 have hV:∀i,σ.V i≤(σ.app ⟨some (d,s),obs⟩).V i:=by
  intro i
  simp only[St.V,hob]
  split
  ·rename_i h;subst h;simp[St.nw]
  ·split
   ·rw[K40];exact Nat.le_refl _
   ·split<;>exact Nat.le_refl _
 have hv1:∀i,(σ.app ⟨some (d,s),obs⟩).V i=1→σ.V i=1:=by
  intro i
  simp only[St.V,hob]
  split
  ·simp[St.nw]
  ·split
   ·rw[K40];exact fun h=>h
   ·split<;>exact fun h=>h
 have hnv:σ.V id<σ.nw id:=by simp[St.V,St.nw]
 have hF1:=mk'_F1 (g:=g) (id:=id) (nv:=σ.nw id) (hv:=hv) (L:=L) (ks:=ks++dr.toList)
 have hF2:=mk'_F2 (g:=g) (id:=id) (nv:=σ.nw id) (hv:=hv) (L:=L) (ks:=ks++dr.toList)
 have hFk:∀j,j≠id→¬j∈ks→dr≠some j→(g.mk' id (σ.nw id) hv L (ks++dr.toList)).F j=g.F j:=by
  intro j h1 h2 h3
  simp only[Gh.mk',if_neg h1]
  rw[if_neg]
  simp only[List.mem_append,not_or]
  exact⟨h2,fun h=>h3 (Option.mem_toList.1 h)⟩
 have hFo:∀j,j≠id→(j∈ks∨dr=some j)→(g.mk' id (σ.nw id) hv L (ks++dr.toList)).F j=[]:=by
  intro j h1 h2
  simp only[Gh.mk',if_neg h1]
  rw[if_pos]
  simp only[List.mem_append]
  rcases h2 with h2|h2
  ·exact .inl h2
  ·exact .inr (Option.mem_toList.2 h2)
 have hH2:(g.mk' id (σ.nw id) hv L (ks++dr.toList)).H id (σ.nw id)=hv:=mk'_H2
 have hH1:=mk'_H (g:=g) (hv:=hv) (L:=L) (ks:=ks++dr.toList) hnv
 have hZ':(g.mk' id (σ.nw id) hv L (ks++dr.toList)).Z=g.Z:=rfl
 generalize g.mk' id (σ.nw id) hv L (ks++dr.toList)=g' at hF1 hF2 hFk hFo hH2 hH1 hZ'
 have hLb:∀b∈L,(w.heap.size≤b∧b<w'.heap.size)∨∃j,b∈g.F j∧(j=id∨g'.F j=[]):=by
  intro b hb
  rcases hLo b hb with h|⟨j,hj,h⟩
  ·exact .inl h
  ·right
   refine⟨j,hj,?_⟩
   by_cases hji:j=id
   ·exact .inl hji
   ·exact .inr (hFo j hji h.symm)
 have tr:Tr w w' σ.V (σ.app ⟨some (d,s),obs⟩).V g g':=by
  refine K4w hZ' hF1 hF2 (fun b hb=>?_) (fun b hb=>?_) hsz (fun b hb hx=>hother b hb fun j _=>hx.2 j) hV hH1
  ·rcases hLb b hb with h|⟨j,hj,_⟩
   ·exact .inl h.1
   ·exact .inr ⟨j,hj⟩
  ·rcases hLh b hb with h|⟨j,_,hj⟩
   ·exact .inl h
   ·exact .inr ⟨j,hj⟩
 obtain⟨nd,dj,frs⟩:=redist R (w':=w') hF1 hF2 hL hLb hsz
 refine⟨g',R.turn (some (d,s)) obs w' g' (some d) v tr ⟨rfl,hs _ _ (by simp[St.V,hob]) hH2⟩ hv1 ?_ nd dj frs gr⟩
 intro i
 by_cases hi:i=id
 ·subst hi
  right
  rw[hob,if_pos rfl]
  exact hobj _ _ tr hH2 hF2
 ·by_cases hk:i∈ks
  ·right
   rw[hob,if_neg hi,if_pos hk]
   obtain⟨dp,sz,es,hrow⟩:=hrows i hk
   refine R.lentOf tr hrow (hFo i hi (.inl hk)) fun b hb=>?_
   have hbF:b∈g.F i:=List.mem_of_mem_head? hb
   have hne:∀j,dr=some j→(g.F j).head? ≠some b:=by
    intro j hj hb'
    obtain rfl:=R.dj b i j hbF (List.mem_of_mem_head? hb')
    exact hdrks i hj hk
   refine⟨hother b (R.frs i b hbF).2 hne,fun hz=>by rw[hZ',R.zz]at hz;exact(R.frs i b hbF).1 (R.zb b hz),?_⟩
   intro j hj
   by_cases hji:j=id
   ·subst hji
    rw[hF2]at hj
    rcases hLh b hj with h|⟨j',hj',hb'⟩
    ·have:=(R.frs i b hbF).2;omega
    ·exact hne j' hj' hb'
   ·rcases hF1 j hji with h|h
    ·rw[h]at hj
     obtain rfl:=R.dj b i j hbF (List.mem_of_mem_head? hj)
     rw[hFo i hi (.inl hk)]at h
     rw[←h]at hbF;simp at hbF
    ·rw[h]at hj;simp at hj
  ·by_cases hd:dr=some i
   ·right
    rw[hob,if_neg hi,if_neg hk,if_pos hd]
    simp only[ObjR]
    exact hFo i hi (.inr hd)
   ·left
    rw[hob,if_neg hi,if_neg hk,if_neg hd]
    refine⟨rfl,hFk i hi hk hd,fun b hb=>hother b (R.frs i b hb).2 fun j hj hb'=>?_⟩
    obtain rfl:=R.dj b i j hb (List.mem_of_mem_head? hb')
    exact hd hj
theorem Rd.one{X:Nat→Prop}{t:T}{v:Value}(h:Rd w X t v):v.oneCell'=true:=by
 cases t<;>simp only[Rd]at h
 ·exact K63 h.2
 ·obtain⟨A,cap,rfl,_⟩:=h;rfl
 ·obtain⟨b,rfl,_⟩:=h;rfl
 ·obtain⟨cvs,rfl,_⟩:=h;rfl
theorem RdEl.cells{X:Nat→Prop}{b:Nat}:∀(ts:List T) (off:Nat),RdEl w X b off ts→∃vs:List Value,vs.length=ts.length∧(∀j,j<vs.length→w.cell? ⟨b,off+j,none⟩=vs[j]?)∧∀u∈vs,u.oneCell'=true
 | [],_,_=>⟨[],rfl,by simp,by simp⟩
 |t::ts,off,h=>by
  simp only[RdEl]at h
  obtain⟨⟨v,hv,ht⟩,h⟩:=h
  obtain⟨vs,hl,hc,hr⟩:=RdEl.cells ts (off+1) h
  refine⟨v::vs,by simp[hl],?_,by simpa using ⟨ht.one,hr⟩⟩
  intro j hj
  cases j with
  |zero=>simpa using hv
  |succ j=>
   have:=hc j (by simpa using hj)
   rw[show off+(j+1)=off+1+j by omega]
   simpa using this
theorem RdRow.cells{X:Nat→Prop}{sz b:Nat}:∀(es:List (List T)) (off:Nat),RdRow w X sz b off es→∃vs:List Value,vs.length=es.length*sz∧(∀j,j<vs.length→w.cell? ⟨b,off+j,none⟩=vs[j]?)∧∀u∈vs,u.oneCell'=true
 | [],_,_=>⟨[],by simp,by simp,by simp⟩
 |e::es,off,h=>by
  simp only[RdRow]at h
  obtain⟨hl,h1,h2⟩:=h
  obtain⟨vs,hvl,hvc,hvo⟩:=RdEl.cells e off h1
  obtain⟨us,hul,huc,huo⟩:=RdRow.cells es (off+sz) h2
  refine⟨vs++us,by simp[hvl,hul,hl,Nat.add_mul];omega,?_,?_⟩
  ·intro j hj
   rw[List.getElem?_append]
   split
   ·exact hvc j (by assumption)
   ·have hj':j-vs.length<us.length:=by simp at hj;omega
    rw[←huc _ hj']
    congr 2
    omega
  ·intro u hu
   rcases List.mem_append.1 hu with h|h
   ·exact hvo u h
   ·exact huo u h
theorem Kag{X:Nat→Prop}{sz b:Nat}:∀ {es:List (List T)} {off:Nat},flat es=true→RdRow w X sz b off es→OwRow w sz b off es []
 | [],_,_,_=>by simp only[OwRow]
 |e::es,off,hf,h=>by
  simp only[flat,List.all_cons,Bool.and_eq_true]at hf
  simp only[RdRow]at h
  simp only[OwRow]
  refine⟨h.1,[],[],?_,Kag (by simpa[flat]using hf.2) h.2.2,rfl⟩
  have el:∀(ts:List T) (off:Nat),(ts.all fun| .sc _=>true|_=>false)=true→RdEl w X b off ts→OwEl w b off ts []:=by
   intro ts
   induction ts with
   |nil=>intro off _ _;simp only[OwEl]
   |cons t ts ih=>
    intro off hf h
    simp only[List.all_cons,Bool.and_eq_true]at hf
    simp only[RdEl]at h
    simp only[OwEl]
    obtain⟨⟨v,hv,ht⟩,h⟩:=h
    refine⟨v,[],[],hv,?_,ih _ hf.2 h,rfl⟩
    cases t with
    |sc u=>simp only[Rd]at ht;simp only[Ow];exact⟨ht.1,ht.2,trivial⟩
    |_=>simp at hf
  exact el e off hf.1 h.2.1
theorem Rel.appd(R:Rel base Z w0 w σ a.tmps g){d id sz:Nat}{dr:Option Nat}{dp:Bool}{es:List (List T)}{ks:List Nat}{w':World}{B O cap:Nat}{row:Array Value}{ty:TypeId}{G:List Nat}(hid:id<σ.o.length)
  (hsz:w.heap.size≤w'.heap.size) (hother:∀b,b<w.heap.size→(∀j,dr=some j→(g.F j).head? ≠some b)→w'.heap[b]? =w.heap[b]?) (gr:Bel base w0 w')
  (hB:w'.heap[B]? =some (.cells row ty (0,0))) (hrow:O+cap*sz≤row.size) (hn:Ln es.length cap)
  (hBn:w.heap.size≤B∨∃j,dr=some j∧(g.F j).head? =some B)
  (hG:(B::G).Nodup) (hGo:∀b∈G,∃j,b∈g.F j∧(dr=some j∨j∈ks))
  (hdrks:∀j,dr=some j→¬j∈ks) (hidks:¬id∈ks)
  (hrows:∀j∈ks,∃dp sz es,(σ.ob j).oc= .row dp sz es)
  (hrd:∀(g':Gh) (V':Nat→Nat),Tr w w' σ.V V' g g'→if dp then OwRow w' sz B O es G else RdRow w' (Xb g') sz B O es∧G=[]):
  ∃g',Rel base Z w0 w' (σ.app ⟨some (d,.val false [.ref id (σ.nw id) sz 0 es.length]),σ.drop dr++(id,⟨σ.nw id,.row dp sz es⟩)::σ.lend ks⟩) (a.put (some d) (.slice (some ⟨B,O,none⟩) es.length cap)).tmps g':=by
 refine R.newL (hv:= .slice (some ⟨B,O,none⟩) es.length cap) (ks:=ks) (dr:=dr) (L:=B::G) (oc:= .row dp sz es) ?_ hsz hother gr hdrks hidks hrows hG ?_ ?_ ?_ ?_
 ·intro i
  rw[K20,List.foldl_append,List.foldl_cons]
  have hdrop:(σ.drop dr).foldl (fun acc x=>if x.1=i∧i<σ.o.length then x.2 else acc) (σ.ob i)=if dr=some i then⟨(σ.ob i).ver,.none⟩else σ.ob i:=by
   cases dr with
   |none=>simp[St.drop]
   |some j=>
    simp only[St.drop,List.foldl_cons,List.foldl_nil,Option.some.injEq]
    by_cases hj:j=i
    ·subst hj
     by_cases hl:j<σ.o.length
     ·simp[hl]
     ·rw[K3s (Nat.le_of_not_lt hl)];simp[hl]
    ·simp[hj]
  rw[hdrop,ob_lend]
  ·by_cases hi:i=id
   ·subst hi;simp[hidks,hid]
   ·have hi':¬id=i:=fun e=>hi e.symm
    by_cases hk:i∈ks<;>simp[hi,hi',hk]
  ·intro hi
   have h1:¬id=i:=fun e=>hidks (e▸hi)
   have h2:¬dr=some i:=fun e=>hdrks i e hi
   simp[h1,h2]
 ·intro b hb
  rcases List.mem_cons.1 hb with rfl|hb
  ·rcases hBn with h|⟨j,hj,hh⟩
   ·exact .inl ⟨h,K1g hB⟩
   ·exact .inr ⟨j,List.mem_of_mem_head? hh,.inl hj⟩
  ·exact .inr (hGo b hb)
 ·intro b hb
  simp at hb
  subst hb
  exact hBn
 ·intro g' V' h1 h2
  simp only[SlotR,ValR,Bool.false_eq_true,if_false]
  refine⟨_,rfl,?_⟩
  simp only[CellR]
  exact⟨by omega,some ⟨B,O,none⟩,es.length,cap,some ⟨B,O,none⟩,cap,h2,rfl,by omega,hn.1,by omega,.inr (by simp),.inr (by simp)⟩
 ·intro g' V' tr h1 h2
  simp only[ObjR]
  exact⟨some ⟨B,O,none⟩,cap,h1,hn,.inr ⟨B,O,row,ty,G,rfl,hB,hrow,hrd g' V' tr,h2⟩⟩
theorem cut_take{n:Nat}{es:List (List T)}(_:n≤es.length):cut 0 n es=es.take n:=by
 unfold cut
 split
 ·rename_i hh;rw[hh.2];simp
 ·simp
theorem Rel.dest{ts:Array Value}(R:Rel base Z w0 w σ ts g){c:SC}{v:Value}(h:CellR w σ.V g c v){sz:Nat}{b:Option Nat×Bool×List (List T)}(hb:σ.appTo sz c=some b):
  ∃A cap,v= .slice A b.2.2.length cap∧Ln b.2.2.length cap∧((cap=0∧b.2.2=[])∨∃id bk off row ty G1 G,b.1=some id∧A=some ⟨bk,off,none⟩∧w.heap[bk]? =some (.cells row ty (0,0))∧off+cap*sz≤row.size∧
   (if b.2.1 then OwRow w sz bk off b.2.2 G1 else RdRow w (Xb g) sz bk off b.2.2∧G1=[])∧g.F id=bk::G∧G1.Sublist G):=by
 unfold St.appTo at hb
 split at hb
 ·split at hb<;>simp at hb
  subst hb
  simp only[CellR]at h
  obtain⟨A,hv⟩:=h
  exact⟨A,0,hv,Ln.z _,.inl ⟨rfl,rfl⟩⟩
 ·rename_i id v0 sz' lo n
  split at hb
  rotate_left
  ·simp at hb
  rename_i v' dp sz'' es hob
  split at hb<;>simp at hb
  rename_i hh
  obtain⟨rfl,rfl,rfl,rfl,hn⟩:=hh
  subst hb
  have ho:=R.obj id
  rw[hob]at ho
  simp only[ObjR]at ho
  simp only[CellR]at h
  obtain⟨_,A,len,cap,A',c',hH,hv,hln,hnc,hcc,hA',hsp⟩:=h
  obtain⟨A2,cap2,hH2,hl2,ho⟩:=ho
  rw[hH2]at hH
  simp only[Value.slice.injEq]at hH
  obtain⟨rfl,rfl,rfl⟩:=hH
  have hcl:(cut 0 n es).length=n:=K5e (by omega)
  refine⟨A',c',by simp only[hcl];exact hv,by simp only[hcl];exact⟨hnc,by have:=hl2.2;omega,by have:=hl2.2;omega⟩,?_⟩
  by_cases hc0:c'=0
  ·left
   exact⟨hc0,List.length_eq_zero_iff.1 (by simp only[hcl];omega)⟩
  ·right
   rcases ho with ho|⟨b,off,row,ty,G,hA,hc,hs,hr,hG⟩
   ·omega
   ·subst hA
    have hA3:=hA'.resolve_left hc0
    have hcs:c'*sz≤cap2*sz:=Nat.mul_le_mul_right _ (by omega)
    simp only[cut_take hn]
    cases dp with
    |true=>
     simp only[if_true]at hr
     rw[←List.take_append_drop n es]at hr
     obtain⟨G1,G2,h1,h2,rfl⟩:=(K11 _ _ _ _).1 hr
     exact⟨id,b,off,row,ty,G1,G1++G2,rfl,by simpa using hA3,hc,by omega,by simpa using h1,hG,List.sublist_append_left _ _⟩
    |false=>
     simp only[Bool.false_eq_true,if_false]at hr
     obtain⟨hr,rfl⟩:=hr
     rw[←List.take_append_drop n es]at hr
     exact⟨id,b,off,row,ty,[],[],rfl,by simpa using hA3,hc,by omega,by simpa using ((K1q _ _ _).1 hr).1,hG,List.Sublist.refl _⟩
 ·simp at hb
theorem Rel.src{ts:Array Value}(R:Rel base Z w0 w σ ts g){c:SC}{v:Value}(h:CellR w σ.V g c v){r:Nat×List (List T)}(hr:σ.rows c=some r){tx e':TypeId}(hk:P.underlying tx=some (.slice e')):
  ∃news,Src P r.1 tx v r.2.length news w∧news.length=r.2.length*r.1∧
   (∀(w':World) (X':Nat→Prop) (b' off':Nat),Kp w w' (Xb g) X'→(∀j,j<r.2.length*r.1→w'.cell? ⟨b',off'+j,none⟩=news[j]?)→RdRow w' X' r.1 b' off' r.2)∧
   (∀(G:List Nat),(r.2=[]→G=[])→(∀len cap b off,v= .slice (some ⟨b,off,none⟩) len cap→r.2≠[]→OwRow w r.1 b off r.2 G)→∀(w':World) (b' off':Nat),(∀b∈G,w'.heap[b]? =w.heap[b]?)→
    (∀j,j<r.2.length*r.1→w'.cell? ⟨b',off'+j,none⟩=news[j]?)→OwRow w' r.1 b' off' r.2 G):=by
 obtain⟨A,cap,hv,hl,hrow⟩:=R.rows h hr
 by_cases h0:r.2=[]
 ·refine⟨[],?_,by simp[h0],?_,?_⟩
  ·rw[hv,h0]
   cases A with
   |none=>exact Src.ofNil w hk cap
   |some ad=>exact Src.ofSlice w hk ad 0 cap [] (by simp) (by simp) (by simp)
  ·intro w' X' b' off' _ _;rw[h0];simp only[RdRow]
  ·intro G hG _ w' b' off' _ _;rw[h0,hG h0];simp only[OwRow]
 ·obtain⟨b,off,hA,hb,hrow⟩:=hrow.resolve_left h0
  obtain⟨news,hnl,hnc,hn1⟩:=hrow.cells
  refine⟨news,?_,hnl,?_,?_⟩
  ·rw[hv,hA]
   refine Src.ofSlice w hk ⟨b,off,none⟩ r.2.length cap news hnl (fun j u hu=>?_) hn1
   rw[K19,hnc j (Kl hu),hu]
  ·intro w' X' b' off' hk hc
   exact RdRow.move hk r.2 off off' (fun j hj=>by rw[hc j hj,hnc j (by omega)]) hrow
  ·intro G _ hG w' b' off' hk hc
   refine OwRow.move r.2 off off' G (fun j hj=>by rw[hc j hj,hnc j (by omega)]) hk (hG r.2.length cap b off (by rw[hv,hA]) h0)
theorem Rel.whole{ts:Array Value}(R:Rel base Z w0 w σ ts g){c:SC}{v:Value}(h:CellR w σ.V g c v){r:Nat×List (List T)}(hr:σ.rows c=some r){id:Nat}(hw:σ.whole c=some (id,true)):
  (∃dp sz es,(σ.ob id).oc= .row dp sz es)∧∃G,(r.2=[]→G=[])∧(∀b∈G,b∈g.F id∧(g.F id).head? ≠some b)∧G.Nodup∧∀len cap b off,v= .slice (some ⟨b,off,none⟩) len cap→r.2≠[]→OwRow w r.1 b off r.2 G:=by
 unfold St.whole at hw
 split at hw
 rotate_left
 ·simp at hw
 rename_i id v0 sz0 lo n
 split at hw
 rotate_left
 ·simp at hw
 rename_i v' dp sz' es hob
 split at hw<;>simp at hw
 rename_i hh
 obtain⟨rfl,rfl,rfl⟩:=hh
 obtain⟨rfl,rfl⟩:=hw
 refine⟨⟨true,sz',es,by rw[hob]⟩,?_⟩
 simp only[St.rows,hob]at hr
 split at hr
 rotate_left
 ·simp at hr
 rename_i hh
 obtain⟨_,rfl,_⟩:=hh
 simp only[Option.some.injEq]at hr
 subst hr
 have ho:=R.obj id
 rw[hob]at ho
 simp only[ObjR]at ho
 simp only[CellR]at h
 obtain⟨_,A,len,cap,A',c',hH,hv,hln,hnc,hcc,hA',hsp⟩:=h
 obtain⟨A2,cap2,hH2,hl2,ho⟩:=ho
 rw[hH2]at hH
 simp only[Value.slice.injEq]at hH
 obtain⟨rfl,rfl,rfl⟩:=hH
 have hcut:cut 0 es.length es=es:=by simp[cut]
 simp only[hcut]
 rcases ho with ho|⟨b,off,row,ty,G,hA,hc,hs,hr,hG⟩
 ·exact⟨[],fun _=>rfl,by simp,List.nodup_nil,fun _ _ _ _ _ hne=>(hne ho.2.1).elim⟩
 ·simp only[if_true]at hr
  have hnd:=R.nd id
  rw[hG]at hnd
  by_cases hes:es=[]
  ·exact⟨[],fun _=>rfl,by simp,List.nodup_nil,fun _ _ _ _ _ hne=>(hne hes).elim⟩
  refine⟨G,fun h=>(hes h).elim,fun b' hb'=>⟨by rw[hG];simp[hb'],?_⟩,(List.nodup_cons.1 hnd).2,?_⟩
  ·rw[hG]
   simp only[List.head?_cons,ne_eq,Option.some.injEq]
   intro e;subst e
   exact(List.nodup_cons.1 hnd).1 hb'
  ·intro len' cap' b2 off2 hv2 _
   rw[hv]at hv2
   simp only[Value.slice.injEq]at hv2
   obtain⟨hA2,_,_⟩:=hv2
   have hc0:¬c'=0:=by
    intro h;apply hes;exact List.length_eq_zero_iff.1 (by omega)
   have:=hA'.resolve_left hc0
   rw[this,hA]at hA2
   simp at hA2
   obtain⟨rfl,rfl⟩:=hA2
   exact hr
theorem run_append_room'(t tx ty e:TypeId)(i:TypeInfo)(ht:P.underlying t=some (.slice e))(hi:P.info? e=some i)(b off sLen sCap:Nat)(x:Value)(n:Nat)(news:List Value)(hs:Src P i.size tx x n news w)
  (hroom:sLen+n≤sCap) {row:Array Value} {ety:TypeId} (hr:w.heap[b]? =some (.cells row ety (0,0))) (hl:off+(sLen+n)*i.size≤row.size):
  (Builtin.append_ #[t,tx] ty #[.slice (some ⟨b,off,none⟩) sLen sCap,x]).run P w=
   .ok (.slice (some ⟨b,off,none⟩) (sLen+n) sCap) (w.setRow b (row.toList.take (off+sLen*i.size)++news++row.toList.drop (off+sLen*i.size+news.length)).toArray):=by
 have hnl:=hs.newsLen
 have hst:=run_storeCells_at (P:=P) b (off+sLen*i.size) ety news 0 row w hr (by rw[hnl];rw[Nat.add_mul]at hl;omega) hs.one
 simp only[Nat.add_zero]at hst
 rcases hs.kind with ⟨e',hk⟩|hk<;>simp[Builtin.append_,run_underlying ht,run_underlying hk,sizeOf,typeInfo,hi,hs.len,hroom,hs.cells,Addr.add_lit,hst]
theorem K8l(t tx ty e:TypeId)(i:TypeInfo)(ht:P.underlying t=some (.slice e))(hi:P.info? e=some i)(A:Option Addr)(x:Value)(hs:Src P i.size tx x 0 [] w):
  (Builtin.append_ #[t,tx] ty #[.slice A 0 0,x]).run P w= .ok (.slice A 0 0) w:=by
 rcases hs.kind with ⟨e',hk⟩|hk<;>cases A<;>simp[Builtin.append_,run_underlying ht,run_underlying hk,sizeOf,typeInfo,hi,hs.len,hs.cells,storeCells]
end
end Go.Proofs.YtjneccbpkckdfaaGreatR
namespace Go.Proofs.YtjneccbpkckdfaaGreatR
open Go Go.RowKit
section
variable {P:Program} {base:Nat→Prop} {Z:ZZ} {w0 w:World} {σ:St} {g:Gh} {o:Oper} {a:Act} {V:Nat→Nat}
theorem K3u(w:World)(o:Obj):(w.drew.alloc o).heap[w.heap.size]? =some o:=heap_alloc_new w.drew o
theorem K3b(w:World)(o:Obj)(b:Nat)(h:b<w.heap.size):(w.drew.alloc o).heap[b]? =w.heap[b]? :=Below.heap_alloc w.drew o b h
theorem Rel.app_run{ts:Array Value}(R:Rel base Z w0 w σ ts g){A:Option Addr}{cap sz:Nat}{es:List (List T)}{dp:Bool}{dr:Option Nat}(hle:Ln es.length cap)
  (hde:(cap=0∧es=[])∨∃id bk off row ty G1 G,dr=some id∧A=some ⟨bk,off,none⟩∧w.heap[bk]? =some (.cells row ty (0,0))∧off+cap*sz≤row.size∧
   (if dp then OwRow w sz bk off es G1 else RdRow w (Xb g) sz bk off es∧G1=[])∧g.F id=bk::G∧G1.Sublist G)
  {t tx ty e:TypeId} {i:TypeInfo} {z:Value} (ht:P.underlying t=some (.slice e)) (hi:P.info? e=some i) (hz:i.zero=some z) (hzs:z.cells.size=i.size) {x:Value} {m:Nat} {news:List Value} (hs:Src P i.size tx x m news w) (hsz:i.size=sz)
  (hb1:1≤i.bytes) (hroom:(es.length+m)*i.bytes≤roomB):
  ∃w' v',(Builtin.append_ #[t,tx] ty #[.slice A es.length cap,x]).run P w= .ok v' w'∧Bel base w0 w'∧w.heap.size≤w'.heap.size∧(∀b,b<w.heap.size→(∀j,dr=some j→(g.F j).head? ≠some b)→w'.heap[b]? =w.heap[b]?)∧
   ((es=[]∧m=0∧v'= .slice A 0 0∧w'=w)∨∃B O cap' row ty G1,v'= .slice (some ⟨B,O,none⟩) (es.length+m) cap'∧w'.heap[B]? =some (.cells row ty (0,0))∧O+cap'*sz≤row.size∧(es.length+m≤cap'∧cap'≤capB)∧
    (w.heap.size≤B∨∃j,dr=some j∧(g.F j).head? =some B)∧(B::G1).Nodup∧(∀b∈G1,∃j,dr=some j∧b∈g.F j∧(g.F j).head? ≠some b)∧
    (dp=true→OwRow w' sz B O es G1)∧(∀X',dp=false→Kp w w' (Xb g) X'→RdRow w' X' sz B O es)∧(dp=false→G1=[])∧
    (∀j,j<m*sz→w'.cell? ⟨B,O+es.length*sz+j,none⟩=news[j]?)):=by
 subst hsz
 have hnl:=hs.newsLen
 have hneed:es.length+m≤140737488355328:=by
  have h1:(es.length+m)*1≤(es.length+m)*i.bytes:=Nat.mul_le_mul_left _ hb1
  simp only[roomB]at hroom
  omega
 have grow:∀(olds:List Value) (hol:olds.length=es.length*i.size) (G1:List Nat),(Builtin.firstCells i.size es.length (.slice A es.length cap)).run P w.drew= .ok olds.toArray w.drew→cap<es.length+m→
   G1.Nodup→(∀b∈G1,∃j,dr=some j∧b∈g.F j∧(g.F j).head? ≠some b)→
   (∀w':World,(∀b,b<w.heap.size→w'.heap[b]? =w.heap[b]?)→∀B,(∀j,j<es.length*i.size→w'.cell? ⟨B,0+j,none⟩=olds[j]?)→(dp=true→OwRow w' i.size B 0 es G1)∧(∀X',dp=false→Kp w w' (Xb g) X'→RdRow w' X' i.size B 0 es))→
   (dp=false→G1=[])→
   ∃w' v',(Builtin.append_ #[t,tx] ty #[.slice A es.length cap,x]).run P w= .ok v' w'∧Bel base w0 w'∧w.heap.size≤w'.heap.size∧(∀b,b<w.heap.size→(∀j,dr=some j→(g.F j).head? ≠some b)→w'.heap[b]? =w.heap[b]?)∧
   ((es=[]∧m=0∧v'= .slice A 0 0∧w'=w)∨∃B O cap' row ty G1,v'= .slice (some ⟨B,O,none⟩) (es.length+m) cap'∧w'.heap[B]? =some (.cells row ty (0,0))∧O+cap'*i.size≤row.size∧(es.length+m≤cap'∧cap'≤capB)∧
    (w.heap.size≤B∨∃j,dr=some j∧(g.F j).head? =some B)∧(B::G1).Nodup∧(∀b∈G1,∃j,dr=some j∧b∈g.F j∧(g.F j).head? ≠some b)∧
    (dp=true→OwRow w' i.size B O es G1)∧(∀X',dp=false→Kp w w' (Xb g) X'→RdRow w' X' i.size B O es)∧(dp=false→G1=[])∧
    (∀j,j<m*i.size→w'.cell? ⟨B,O+es.length*i.size+j,none⟩=news[j]?)):=by
  intro olds hol G1 hfc hg hGn hGo hrows hdG
  have hfit:Builtin.nextslicecap (es.length+m) cap*i.bytes≤281474976710656:=growslice_fits hg (by simpa[roomB]using hroom)
  have hrun:=run_append_grow_src (P:=P) w t tx ty e i z ht hi hz A es.length cap olds hfc x m news hs hg (by omega) hfit
  have hge:es.length+m≤grownCap w (es.length+m) cap e∧grownCap w (es.length+m) cap e≤capB:=⟨grownCap_ge w (es.length+m) cap e,by have:=grownCap_le_maxLen w (es.length+m) cap e (by unfold maxLen;omega);unfold maxLen at this;simp only[capB];omega⟩
  generalize grownCap w (es.length+m) cap e=nc at hrun hge
  refine⟨_,_,hrun,(R.grew.drew).alloc (by simpa using R.bs) _,by simp,fun b hb _=>K3b w _ b hb,.inr ⟨w.heap.size,0,nc,_,e,G1,rfl,heap_alloc_new w.drew _,?_,hge,.inl (Nat.le_refl _),?_,hGo,?_,?_,hdG,?_⟩⟩
  ·have hzc:(Builtin.zeroCells z.cells (nc-(es.length+m))).size=(nc-(es.length+m))*z.cells.size:=by simp[Builtin.zeroCells]
   have h1:nc*i.size=(es.length+m)*i.size+(nc-(es.length+m))*i.size:=by rw[←Nat.add_mul];congr 1;have:=hge.1;omega
   rw[Array.size_append,hzc,hzs,h1,Nat.add_mul]
   simp[hol,hnl]
  ·refine List.nodup_cons.2 ⟨fun hb=>?_,hGn⟩
   obtain⟨j,_,hj,_⟩:=hGo _ hb
   have:=(R.frs j _ hj).2;omega
  ·exact(hrows _ (fun b hb=>K3b w _ b hb) w.heap.size (fun j hj=>by
    simp only[World.cell?,K3u]
    rw[Array.getElem?_append_left (by simp;omega)]
    simp[List.getElem?_append_left (show j<olds.length by omega)])).1
  ·exact(hrows _ (fun b hb=>K3b w _ b hb) w.heap.size (fun j hj=>by
    simp only[World.cell?,K3u]
    rw[Array.getElem?_append_left (by simp;omega)]
    simp[List.getElem?_append_left (show j<olds.length by omega)])).2
  ·intro j hj
   simp only[World.cell?,K3u]
   rw[Array.getElem?_append_left (by simp only[List.size_toArray,List.length_append];omega)]
   simp only[List.getElem?_toArray]
   rw[List.getElem?_append_right (by omega),show 0+es.length*i.size+j-olds.length=j by omega]
   rfl
 rcases hde with ⟨rfl,hes⟩|⟨id,bk,off,row,ety,G1,G,hdr,rfl,hcell,hrow,hown,hF,hsub⟩
 ·by_cases hm:m=0
  ·subst hm hes
   have hnews:news=[]:=List.length_eq_zero_iff.1 (by rw[hnl];simp)
   subst hnews
   exact⟨w,_,K8l t tx ty e i ht hi A x hs,R.grew,Nat.le_refl _,fun _ _ _=>rfl,.inl ⟨rfl,rfl,rfl,rfl⟩⟩
  ·subst hes
   refine grow [] (by simp) [] ?_ (by simp;omega) List.nodup_nil (by simp) ?_ (fun _=>rfl)
   ·cases A with
    |none=>exact run_firstCells_none w.drew i.size 0 0 0
    |some ad=>exact run_firstCells_some w.drew i.size 0 ad 0 0 [] (by simp) (by simp)
   ·intro w' _ B _
    exact⟨fun _=>by simp only[OwRow],fun _ _ _=>by simp only[RdRow]⟩
 ·have hfid:=R.nd id
  rw[hF]at hfid
  have hGn:G1.Nodup:=hsub.nodup (List.nodup_cons.1 hfid).2
  have hGo:∀b∈G1,∃j,dr=some j∧b∈g.F j∧(g.F j).head? ≠some b:=by
   intro b hb
   refine⟨id,hdr,by rw[hF];simp[hsub.subset hb],?_⟩
   rw[hF]
   simp only[List.head?_cons,ne_eq,Option.some.injEq]
   intro e;subst e
   exact(List.nodup_cons.1 hfid).1 (hsub.subset hb)
  have hG1l:∀b∈G1,b<w.heap.size:=by
   intro b hb
   obtain⟨j,_,hj,_⟩:=hGo b hb
   exact(R.frs j b hj).2
  have hbk:bk∉G1:=fun h=>(List.nodup_cons.1 hfid).1 (hsub.subset h)
  have hrd:RdRow w (fun _=>True) i.size bk off es:=by
   cases dp with
   |true=>simp only[if_true]at hown;exact OwRow.rd es off G1 (fun _ _=>trivial) hown
   |false=>simp only[Bool.false_eq_true,if_false]at hown;exact RdRow.move ⟨Nat.le_refl _,fun _ _ _=>⟨rfl,trivial⟩⟩ es off off (fun _ _=>rfl) hown.1
  obtain⟨olds,hol,hoc,ho1⟩:=hrd.cells
  by_cases hroom':es.length+m≤cap
  ·have hcs:(es.length+m)*i.size≤cap*i.size:=Nat.mul_le_mul_right _ hroom'
   have hrun:=run_append_room' (P:=P) (w:=w) t tx ty e i ht hi bk off es.length cap x m news hs hroom' hcell (by omega)
   rw[Nat.add_mul]at hcs
   have hnew:(w.setRow bk (row.toList.take (off+es.length*i.size)++news++row.toList.drop (off+es.length*i.size+news.length)).toArray).heap[bk]? =some (.cells (row.toList.take (off+es.length*i.size)++news++row.toList.drop (off+es.length*i.size+news.length)).toArray ety (0,0)):=setRow_heap w bk _ _ ety (0,0) hcell
   have htl:(row.toList.take (off+es.length*i.size)).length=off+es.length*i.size:=by simp;omega
   have hcold:∀j,j<es.length*i.size→(w.setRow bk (row.toList.take (off+es.length*i.size)++news++row.toList.drop (off+es.length*i.size+news.length)).toArray).cell? ⟨bk,off+j,none⟩=w.cell? ⟨bk,off+j,none⟩:=by
    intro j hj
    simp only[World.cell?,hnew,hcell,List.getElem?_toArray]
    have e1:off+j<off+es.length*i.size:=by omega
    rw[List.append_assoc,List.getElem?_append_left (by omega),List.getElem?_take,if_pos e1,Array.getElem?_toList]
   refine⟨_,_,hrun,K4b R.grew (R.frs id bk (by rw[hF];simp)).1 _,by simp,fun b hb hne=>setRow_other' (fun e=>hne id hdr (by rw[hF,e];rfl)),.inr ⟨bk,off,cap,_,ety,G1,rfl,hnew,?_,⟨hroom',hle.2.2⟩,.inr ⟨id,hdr,by rw[hF];rfl⟩,List.nodup_cons.2 ⟨hbk,hGn⟩,hGo,?_,?_,?_,?_⟩⟩
   ·simp[htl];omega
   ·intro hdp
    subst hdp
    simp only[if_true]at hown
    refine OwRow.move es off off G1 hcold (fun b hb=>setRow_other' ?_) hown
    intro e;subst e;exact hbk hb
   ·intro X' hdp hkp
    subst hdp
    simp only[Bool.false_eq_true,if_false]at hown
    exact RdRow.move hkp es off off hcold hown.1
   ·intro hdp
    subst hdp
    simp only[Bool.false_eq_true,if_false]at hown
    exact hown.2
   ·intro j hj
    simp only[World.cell?,hnew,List.getElem?_toArray]
    rw[List.append_assoc,List.getElem?_append_right (by omega),htl,show off+es.length*i.size+j-(off+es.length*i.size)=j by omega,List.getElem?_append_left (by omega)]
    rfl
  ·refine grow olds hol G1 ?_ (by omega) hGn hGo ?_ ?_
   ·exact run_firstCells_some w.drew i.size es.length ⟨bk,off,none⟩ es.length cap olds hol (fun j u hu=>by
     rw[K19]
     exact(hoc j (Kl hu)).trans hu)
   ·intro w' hw' B hc
    refine⟨fun hdp=>?_,fun X' hdp hkp=>?_⟩
    ·subst hdp
     simp only[if_true]at hown
     exact OwRow.move es off 0 G1 (fun j hj=>by rw[hc j hj,hoc j (by omega)]) (fun b hb=>hw' b (hG1l b hb)) hown
    ·subst hdp
     simp only[Bool.false_eq_true,if_false]at hown
     exact RdRow.move hkp es off 0 (fun j hj=>by rw[hc j hj,hoc j (by omega)]) hown.1
   ·intro hdp
    subst hdp
    simp only[Bool.false_eq_true,if_false]at hown
    exact hown.2
end
end Go.Proofs.YtjneccbpkckdfaaGreatR
namespace Go.Proofs.YtjneccbpkckdfaaGreatR
open Go Go.RowKit
section
variable {P:Program} {base:Nat→Prop} {Z:ZZ} {w0 w:World} {σ:St} {g:Gh} {o:Oper} {a:Act} {V:Nat→Nat}
def El(P:Program)(t e:TypeId)(sz bytes:Nat):Prop:=∃i z,P.underlying t=some (.slice e)∧P.info? e=some i∧i.size=sz∧i.bytes=bytes∧1≤bytes∧i.zero=some z∧z.cells.size=sz
theorem flat_nil:flat []=true:=rfl
theorem good_app(R:Rel base Z w0 w σ a.tmps g){d id sz bytes:Nat}{x y:Od}{x' y':Operand}{c:Call}{t tx et e':TypeId}(hd:o.dst=some d)(ho:o.op= .call c)(hc:c.callee= .builtin .append)(ha:c.args= #[x',y'])(hat:c.argTypes= #[t,tx])
  (hx:K3 x' x=true) (hy:K3 y' y=true) (ht:El P t et sz bytes) (hk:P.underlying tx=some (.slice e')) {e:Ef} (he:eff (.app d id sz bytes x y) σ=some e):Good P o a base Z w0 w (σ.app e):=by
 simp only[eff]at he
 obtain⟨c1,hc1,he1⟩:=Option.bind_eq_some_iff.1 he
 obtain⟨c2,hc2,he2⟩:=Option.bind_eq_some_iff.1 he1
 obtain⟨r,hr,he3⟩:=Option.bind_eq_some_iff.1 he2
 obtain⟨b,hb,he4⟩:=Option.bind_eq_some_iff.1 he3
 obtain⟨⟨hrs,hid,hroom⟩,he5⟩:=Option.ite_none_right_eq_some.1 he4
 clear he he1 he2 he3 he4
 obtain⟨i,z,hu,hi,hsz,hby,hb1,hz,hzs⟩:=ht
 have hC1:=(R.ev hx).one_ hc1
 have hC2:=(R.ev hy).one_ hc2
 obtain⟨A,cap,hv1,hle,hde⟩:=R.dest hC1 hb
 obtain⟨news,hsrc,hnl,hsR,hsO⟩:=R.src hC2 hr hk
 rw[hrs]at hsrc hnl hsR hsO
 subst hsz hby
 obtain⟨w',v',hrun,hgr,hsz',hoth,hres⟩:=R.app_run hle hde (ty:=o.type) hu hi hz hzs hsrc rfl hb1 hroom
 have hrun':(execOp a.eval o).run P w= .ok (.value v') w':=by
  simp only[execOp,ho]
  refine K1k hc (s:=Builtin.append_ c.argTypes o.type (c.args.map a.eval)) (fun _=>rfl) ?_
  rw[ha,hat]
  simpa[hv1]using hrun
 have main:∀(dp:Bool) (ks:List Nat) (Gs:List Nat),(dp=true→b.2.1=true∨b.2.2=[])→(dp=true→Gs.Nodup∧(∀b'∈Gs,∃j∈ks,b'∈g.F j∧(g.F j).head? ≠some b')∧∀(w':World) (b' off':Nat),(∀b∈Gs,w'.heap[b]? =w.heap[b]?)→
    (∀j,j<r.2.length*i.size→w'.cell? ⟨b',off'+j,none⟩=news[j]?)→OwRow w' i.size b' off' r.2 Gs)→(dp=false→b.2.1=false∨b.2.2=[])→(dp=false→ks=[])→
   (∀j,b.1=some j→¬j∈ks)→¬id∈ks→(∀j∈ks,∃dp sz es,(σ.ob j).oc= .row dp sz es)→(∀es:List (List T),es.length=0→r.2=es→ks=[])→
   Good P o a base Z w0 w (σ.app ⟨some (d,.val false [.ref id (σ.nw id) i.size 0 (b.2.2.length+r.2.length)]),σ.drop b.1++(id,⟨σ.nw id,.row dp i.size (b.2.2++r.2)⟩)::σ.lend ks⟩):=by
  intro dp ks Gs h1 h2 h3 h4 h5 h6 h7 h8
  refine⟨_,w',hrun',?_⟩
  simp only[hd]
  have hlen:b.2.2.length+r.2.length=(b.2.2++r.2).length:=by simp
  have hlenB:(b.2.2++r.2).length≤roomB:=by
   rw[←hlen]
   exact Nat.le_trans (by rw[Nat.mul_comm];exact Nat.le_mul_of_pos_left _ hb1) hroom
  rcases hres with ⟨hes,hm,rfl,rfl⟩|⟨B,O,cap',row,ty,G1,rfl,hB,hrow,hn,hBn,hGn,hGo,hO1,hR1,hG1,hnew⟩
  ·have hr0:r.2=[]:=List.length_eq_zero_iff.1 hm
   have hks:=h8 [] rfl hr0
   subst hks
   have hfin:=R.newL (d:=d) (id:=id) (oc:= .row dp i.size (b.2.2++r.2)) (s:= .val false [.ref id (σ.nw id) i.size 0 (b.2.2.length+r.2.length)]) (hv:= .slice A 0 0) (v:= .slice A 0 0) (w':=w') (ks:=[]) (dr:=b.1) (L:=[]) (obs:=σ.drop b.1++[(id,⟨σ.nw id,.row dp i.size (b.2.2++r.2)⟩)])
    ?_ hsz' hoth hgr (by simp) (by simp) (by simp) List.nodup_nil (by simp) (by simp) ?_ ?_
   ·exact hfin
   ·intro j
    rw[K20,List.foldl_append,List.foldl_cons,List.foldl_nil]
    have hdrop:(σ.drop b.1).foldl (fun acc x=>if x.1=j∧j<σ.o.length then x.2 else acc) (σ.ob j)=if b.1=some j then⟨(σ.ob j).ver,.none⟩else σ.ob j:=by
     cases b.1 with
     |none=>simp[St.drop]
     |some j'=>
      simp only[St.drop,List.foldl_cons,List.foldl_nil,Option.some.injEq]
      by_cases hj:j'=j
      ·subst hj
       by_cases hl:j'<σ.o.length
       ·simp[hl]
       ·rw[K3s (Nat.le_of_not_lt hl)];simp[hl]
      ·simp[hj]
    rw[hdrop]
    by_cases hji:j=id
    ·subst hji;simp[hid]
    ·have hji':¬id=j:=fun e=>hji e.symm
     simp[hji,hji']
   ·intro g' V' e1 e2
    simp only[SlotR,ValR,Bool.false_eq_true,if_false]
    refine⟨_,rfl,?_⟩
    simp only[CellR]
    exact⟨by omega,A,0,0,A,0,e2,by rw[hes,hr0];rfl,by rw[hes,hr0];simp,by rw[hes,hr0];simp,by omega,.inl rfl,.inl rfl⟩
   ·intro g' V' tr e1 e2
    simp only[ObjR]
    refine⟨A,0,by rw[hes,hr0];exact e1,by rw[hes,hr0];exact Ln.z _,.inl ⟨rfl,by rw[hes,hr0];rfl,e2⟩⟩
  ·rw[hlen]at hn ⊢
   refine R.appd (dr:=b.1) (G:=if dp then G1++Gs else []) hid hsz' hoth hgr hB hrow ⟨hn.1,hlenB,hn.2⟩ hBn ?_ ?_ h5 h6 h7 ?_
   ·cases dp with
    |false=>simp
    |true=>
     obtain⟨g1,g2,_⟩:=h2 rfl
     simp only[if_true]
     rw[←List.cons_append]
     refine List.nodup_append.2 ⟨hGn,g1,?_⟩
     intro u hu u' hu' e
     subst e
     obtain⟨j,hj,hbj,hhd⟩:=g2 u hu'
     rcases List.mem_cons.1 hu with rfl|hu
     ·rcases hBn with h|⟨j',hj',hh⟩
      ·have:=(R.frs j _ hbj).2;omega
      ·obtain rfl:=R.dj _ j j' hbj (List.mem_of_mem_head? hh)
       exact h5 j hj' hj
     ·obtain⟨j',hj',hbj',_⟩:=hGo u hu
      obtain rfl:=R.dj _ j j' hbj hbj'
      exact h5 j hj' hj
   ·intro u hu
    cases dp with
    |false=>simp at hu
    |true=>
     obtain⟨_,g2,_⟩:=h2 rfl
     simp only[if_true,List.mem_append]at hu
     rcases hu with hu|hu
     ·obtain⟨j',hj',hbj',_⟩:=hGo u hu
      exact⟨j',hbj',.inl hj'⟩
     ·obtain⟨j,hj,hbj,_⟩:=g2 u hu
      exact⟨j,hbj,.inr hj⟩
   ·intro g' V' tr
    cases dp with
    |false=>
     simp only[Bool.false_eq_true,if_false,and_true]
     refine(K1q _ _ _).2 ⟨?_,hsR w' _ B _ tr.kb hnew⟩
     rcases h3 rfl with h|h
     ·exact hR1 _ h tr.kb
     ·rw[h];simp only[RdRow]
    |true=>
     simp only[if_true]
     obtain⟨_,g2,g3⟩:=h2 rfl
     refine(K11 _ _ _ _).2 ⟨G1,Gs,?_,?_,rfl⟩
     ·cases hbt:b.2.1 with
      |true=>exact hO1 hbt
      |false=>
       rw[hG1 hbt]
       have:=(h1 rfl).resolve_left (by rw[hbt];simp)
       rw[this];simp only[OwRow]
     ·refine g3 w' B _ (fun u hu=>?_) hnew
      obtain⟨j,hj,hbj,_⟩:=g2 u hu
      refine hoth u (R.frs j u hbj).2 fun j' hj' hh=>?_
      obtain rfl:=R.dj _ j j' hbj (List.mem_of_mem_head? hh)
      exact h5 j hj' hj
 by_cases hf:flat r.2=true
 ·rw[if_pos hf]at he5
  simp only[Option.some.injEq]at he5
  subst he5
  have hown:∀len cap bk off,a.eval y'= .slice (some ⟨bk,off,none⟩) len cap→r.2≠[]→OwRow w i.size bk off r.2 []:=by
   intro len cap' bk off hv hne
   obtain⟨A2,cap2,hv2,_,hrow⟩:=R.rows hC2 hr
   obtain⟨b2,off2,hA2,_,hrow⟩:=hrow.resolve_left hne
   rw[hv,hA2]at hv2
   simp at hv2
   obtain⟨⟨rfl,rfl⟩,_⟩:=hv2
   rw[hrs]at hrow
   exact Kag hf hrow
  exact main b.2.1 [] [] (fun h=> .inl h) (fun _=>⟨List.nodup_nil,by simp,fun w' b' off' _ hc=>hsO [] (fun _=>rfl) hown w' b' off' (by simp) hc⟩) (fun h=> .inl h) (fun _=>rfl) (by simp) (by simp) (by simp) (fun _ _ _=>rfl)
 ·rw[if_neg hf]at he5
  have hne:r.2≠[]:=by intro h;rw[h]at hf;exact hf flat_nil
  split at he5
  ·rename_i id' hw
   obtain⟨⟨k1,k2,k3⟩,he5⟩:=Option.ite_none_right_eq_some.1 he5
   simp only[Option.some.injEq]at he5
   subst he5
   obtain⟨hrow,G,hG0,hGF,hGn,hGo⟩:=R.whole hC2 hr hw
   rw[hrs]at hGo
   exact main true [id'] G (fun _=> .inl k3) (fun _=>⟨hGn,fun b' hb'=>⟨id',by simp,hGF b' hb'⟩,fun w' b' off' hs hc=>hsO G hG0 hGo w' b' off' hs hc⟩) (by simp) (by simp) (by intro j hj;simp;intro e;subst e;exact k2 hj) (by simp;exact fun e=>k1 e.symm) (by simpa using hrow)
    (fun es hes h=>by rw[List.length_eq_zero_iff]at hes;rw[hes]at h;exact(hne h).elim)
  ·obtain⟨k1,he5⟩:=Option.ite_none_right_eq_some.1 he5
   simp only[Option.some.injEq]at he5
   subst he5
   exact main false [] [] (by simp) (by simp) (fun _=>k1.symm) (fun _=>rfl) (by simp) (by simp) (by simp) (fun _ _ _=>rfl)
theorem Kay{V:Nat→Nat}:∀ {cs:List SC} {vs:List Value} {l:List Value},CellsR w V g cs vs→K1 (cs.map SC.sca)=some l→vs=l∧∀v∈l,oneW v=true
 | [],[],l,_,h=>by simp[K1]at h;subst h;exact⟨rfl,by simp⟩
 |c::cs,v::vs,l,hr,h=>by
  simp only[List.map_cons]at h
  cases hc:c.sca with
  |none=>rw[hc]at h;simp[K1]at h
  |some u=>
   rw[hc]at h
   simp only[K1]at h
   obtain⟨l',h1,rfl⟩:=Option.map_eq_some_iff.1 h
   obtain⟨rfl,h3⟩:=K67 hr.1 hc
   obtain⟨rfl,h4⟩:=Kay hr.2 h1
   exact⟨rfl,fun y hy=>by rcases List.mem_cons.1 hy with rfl|hy;exact h3;exact h4 y hy⟩
 | [],_::_,_,hr,_=>hr.elim
 |_::_,[],_,hr,_=>hr.elim
theorem ow_scas{w':World}{B:Nat}:∀ {l:List Value} {O:Nat},(∀v∈l,oneW v=true)→(∀j,j<l.length→w'.cell? ⟨B,O+j,none⟩=l[j]?)→OwRow w' 1 B O (l.map fun v=>[T.sc v]) []
 | [],O,_,_=>by simp only[List.map_nil,OwRow]
 |v::l,O,h1,h2=>by
  simp only[List.map_cons,OwRow]
  have h3:=h2 0 (by simp)
  refine⟨rfl,[],[],?_,ow_scas (fun u hu=>h1 u (List.mem_cons_of_mem _ hu)) (fun j hj=>?_),rfl⟩
  ·simp only[OwEl]
   exact⟨v,[],[],by simpa using h3,by simp only[Ow];exact⟨trivial,h1 v (List.mem_cons_self ..),trivial⟩,rfl,rfl⟩
  ·have:=h2 (j+1) (by simpa using hj)
   rw[show O+1+j=O+(j+1)by omega]
   simpa using this
theorem good_appA(R:Rel base Z w0 w σ a.tmps g){d id bytes:Nat}{x y:Od}{x' y':Operand}{c:Call}{t tx et e':TypeId}(hd:o.dst=some d)(ho:o.op= .call c)(hc:c.callee= .builtin .append)(ha:c.args= #[x',y'])(hat:c.argTypes= #[t,tx])
  (hx:K3 x' x=true) (hy:K3 y' y=true) (ht:El P t et 1 bytes) (hk:P.underlying tx=some (.slice e')) {e:Ef} (he:eff (.appA d id bytes x y) σ=some e):Good P o a base Z w0 w (σ.app e):=by
 simp only[eff]at he
 obtain⟨c1,hc1,he⟩:=Option.bind_eq_some_iff.1 he
 split at he
 rotate_left
 ·simp at he
 split at he
 rotate_left
 ·simp at he
 rename_i id2 ver k n hy2
 split at he
 rotate_left
 ·simp at he
 rename_i v cs hob
 obtain⟨⟨hvv,hkn,hn0,hid,hroom⟩,he2⟩:=Option.ite_none_right_eq_some.1 he
 clear he
 subst hvv
 obtain⟨l,hl,rfl⟩:=Option.map_eq_some_iff.1 he2
 obtain⟨i,z,hu,hi,hsz,hby,hb1,hz,hzs⟩:=ht
 have hC1:=(R.ev hx).one_ hc1
 simp only[CellR]at hC1
 obtain⟨A,hv1⟩:=hC1
 have hE:=R.ev hy
 rw[hy2]at hE
 simp only[SlotR,AdR]at hE
 obtain⟨b,⟨_,b',hH,hbb⟩,hv2⟩:=hE
 simp only[Value.pointer.injEq,Option.some.injEq,Addr.mk.injEq,and_true]at hbb
 subst hbb
 have hO:=R.obj id2
 rw[hob]at hO
 simp only[ObjR]at hO
 obtain⟨b2,ty2,vs,hH2,hheap,hcells,hF⟩:=hO
 rw[hH]at hH2
 simp only[Value.pointer.injEq,Option.some.injEq,Addr.mk.injEq,and_true]at hH2
 subst hH2
 have hlen:=hcells.len
 obtain⟨hnews,hone⟩:=Kay ((hcells.drop_ k).take_ n) hl
 have hll:l.length=n:=by rw[←hnews,List.length_take,List.length_drop];omega
 subst hby
 have hsrc:Src P 1 tx (a.eval y') n l w:=by
  rw[hv2]
  refine Src.ofSlice w hk ⟨b,k,none⟩ n n l (by omega) (fun j u hj=>?_) (fun v hv=>K63 (hone v hv))
  rw[K19]
  simp only[World.cell?,hheap,List.getElem?_toArray]
  rw[←hnews,List.getElem?_take]at hj
  split at hj
  ·rw[List.getElem?_drop]at hj;exact hj
  ·cases hj
 rw[←hsz]at hsrc
 obtain⟨w',v',hrun,hgr,hsz',hoth,hres⟩:=R.app_run (es:=[]) (dp:=true) (dr:=none) (cap:=0) (A:=A) (sz:=i.size) (Ln.z _) (.inl ⟨rfl,rfl⟩) (ty:=o.type) hu hi hz (by rw[hsz];exact hzs) hsrc rfl hb1 (by simpa using hroom)
 have hrun':(execOp a.eval o).run P w= .ok (.value v') w':=by
  simp only[execOp,ho]
  refine K1k hc (s:=Builtin.append_ c.argTypes o.type (c.args.map a.eval)) (fun _=>rfl) ?_
  rw[ha,hat]
  simpa[hv1]using hrun
 refine⟨_,w',hrun',?_⟩
 simp only[hd]
 rcases hres with ⟨_,hm,_,_⟩|⟨B,O,cap',row,ty,G1,rfl,hB,hrow,hn,hBn,hGn,hGo,hO1,hR1,hG1,hnew⟩
 ·omega
 ·have hfin:=R.appd (d:=d) (id:=id) (sz:=1) (dr:=none) (dp:=true) (es:=l.map fun v=>[T.sc v]) (ks:=[]) (w':=w') (B:=B) (O:=O) (cap:=cap') (row:=row) (ty:=ty) (G:=[]) hid hsz' hoth hgr hB (by rw[←hsz];exact hrow) ⟨by simp only[List.length_map];simp only[List.length_nil]at hn;omega,by
    simp only[List.length_map]
    have:n*1≤n*i.bytes:=Nat.mul_le_mul_left _ hb1
    omega,hn.2⟩ hBn (by simp) (by simp) (by simp) (by simp) (by simp) (fun g' V' _=>by
    simp only[if_true]
    refine ow_scas hone fun j hj=>?_
    have:=hnew j (by rw[hsz];omega)
    simpa using this)
  simp only[List.length_map,St.drop,St.lend,List.map_nil,List.nil_append]at hfin
  simp only[List.length_nil,Nat.zero_add]
  rw[hll]at hfin ⊢
  exact hfin
end
end Go.Proofs.YtjneccbpkckdfaaGreatR
namespace Go.Proofs.YtjneccbpkckdfaaGreatR
open Go Go.RowKit
section
variable {P:Program} {base:Nat→Prop} {Z:ZZ} {w0 w:World} {σ:St} {g:Gh} {o:Oper} {a:Act} {V:Nat→Nat}
def K28:Nat→List (Nat×Operand)→List Od→Bool
 |_,[],[]=>true
 |i,(j,x)::l,y::m=>j==i&&K3 x y&&K28 (i+1) l m
 |_,_,_=>false
theorem K5v:∀ {k:Nat} {l:List (Nat×Operand)} {m:List Od},K28 k l m=true→l.length=m.length
 |_,[],[],_=>rfl
 |k,(j,x)::l,y::m,h=>by
  simp only[K28,Bool.and_eq_true]at h
  simp[K5v h.2]
 |_,[],_::_,h=>by simp[K28]at h
 |_,_::_,[],h=>by simp[K28]at h
theorem K57(l m:List Kd):owns (l++m)=owns l++owns m:=by simp[owns]
theorem Rel.lit(R:Rel base Z w0 w σ a.tmps g){sz:Nat}:∀ {k:Nat} {parts:List (Nat×Operand)} {xs:List Od} {l:List (List T×List Kd)},K28 k parts xs=true→
  K1 (xs.map fun x=>(σ.ev x).all.bind fun a=>σ.embs a.2)=some l→(∀e∈l.map (·.1),e.length=sz)→
  ∃vs:List Value,vs.length=xs.length∧l.length=xs.length∧parts.map (fun x=>(x.1,a.eval x.2))=(vs.zipIdx k).map (fun x=>(x.2,x.1))∧(∀v∈vs,v.cells.size=sz)∧
   (neuO (l.flatMap (·.2))=true→∃G:List Nat,G.Sublist ((owns (l.flatMap (·.2))).flatMap g.F)∧(∀i∈owns (l.flatMap (·.2)),∃dp sz es,(σ.ob i).oc= .row dp sz es)∧
    ∀(w':World) (B off:Nat),(∀j u,(vs.flatMap fun v=>v.cells.toList)[j]? =some u→w'.cell? ⟨B,off+j,none⟩=some u)→(∀b∈G,w'.heap[b]? =w.heap[b]?)→OwRow w' sz B off (l.map (·.1)) G)∧
   (neuS (l.flatMap (·.2))=true→∀(w':World) (X':Nat→Prop) (B off:Nat),Kp w w' (Xb g) X'→(∀j u,(vs.flatMap fun v=>v.cells.toList)[j]? =some u→w'.cell? ⟨B,off+j,none⟩=some u)→RdRow w' X' sz B off (l.map (·.1)))
 |k,[],[],l,_,h,_=>by
  simp[K1]at h;subst h
  exact⟨[],rfl,rfl,rfl,by simp,fun _=>⟨[],by simp,by simp[owns],fun _ _ _ _ _=>by simp[OwRow]⟩,fun _ _ _ _ _ _ _=>by simp[RdRow]⟩
 |k,(j,x)::parts,y::xs,l,hc,h,hsz=>by
  simp only[K28,Bool.and_eq_true]at hc
  obtain⟨⟨h1,h2⟩,h3⟩:=hc
  obtain rfl:=beq_iff_eq.1 h1
  simp only[List.map_cons]at h
  cases hy:(σ.ev y).all with
  |none=>simp[hy,K1]at h
  |some ac=>
  cases hemb:σ.embs ac.2 with
  |none=>simp[hy,hemb,K1]at h
  |some r=>
  simp only[hy,hemb,Option.bind_some,K1]at h
  obtain⟨l',hl',rfl⟩:=Option.map_eq_some_iff.1 h
  simp only[List.map_cons,List.mem_cons,forall_eq_or_imp]at hsz
  obtain⟨vs,hvl,hll,hp,hvs,hO,hS⟩:=Rel.lit R h3 hl' hsz.2
  have hE:=R.ev h2
  rw[K25 hy]at hE
  simp only[SlotR]at hE
  obtain⟨us,hus,hcs⟩:=hE.cells'
  obtain⟨m,hm,hm1,hm2⟩:=K6j hemb
  have hul:us.length=sz:=by
   rw[←hcs.len,←hsz.1,hm1,List.length_map,←K3i hm,List.length_map]
  refine⟨a.eval x::vs,by simp[hvl],by simp[hll],by simp[hp],?_,?_,?_⟩
  ·intro v hv
   rcases List.mem_cons.1 hv with rfl|hv
   ·rw[hus];simp[hul]
   ·exact hvs v hv
  ·intro hn
   simp only[List.flatMap_cons,neuO,List.all_append,Bool.and_eq_true]at hn
   obtain⟨G2,hs2,hr2,hO2⟩:=hO hn.2
   have hn1:=hn.1
   rw[hm2]at hn1
   obtain⟨G1,hG1,hs1,hr1⟩:=R.embO hcs hm hn1
   rw[←hm2]at hs1 hr1
   refine⟨G1++G2,?_,?_,?_⟩
   ·rw[List.flatMap_cons,K57,List.flatMap_append]
    exact hs1.append hs2
   ·intro i hi
    rw[List.flatMap_cons,K57,List.mem_append]at hi
    rcases hi with hi|hi
    ·exact hr1 i hi
    ·exact hr2 i hi
   ·intro w' B off hcell hb
    simp only[List.map_cons,OwRow]
    refine⟨hsz.1,G1,G2,?_,?_,rfl⟩
    ·rw[hm1]
     refine OwL.el off hG1 (fun j u hu=>hcell j u ?_) (fun b hb'=>hb b (by simp[hb']))
     rw[List.flatMap_cons,hus,List.getElem?_append_left (by simpa using Kl hu)]
     exact hu
    ·refine hO2 w' B (off+sz) (fun j u hu=>?_) (fun b hb'=>hb b (by simp[hb']))
     rw[Nat.add_assoc]
     refine hcell (sz+j) u ?_
     rw[List.flatMap_cons,hus,List.getElem?_append_right (by simp;omega)]
     simp only
     rw[hul,Nat.add_sub_cancel_left]
     exact hu
  ·intro hn w' X' B off hk hcell
   simp only[List.flatMap_cons,neuS,List.all_append,Bool.and_eq_true]at hn
   have hn1:=hn.1
   rw[hm2]at hn1
   have hRd:=R.embS hcs hm hn1
   simp only[List.map_cons,RdRow]
   refine⟨hsz.1,?_,?_⟩
   ·rw[hm1]
    refine RdL.el hk off hRd (fun j u hu=>hcell j u ?_)
    rw[List.flatMap_cons,hus,List.getElem?_append_left (by simpa using Kl hu)]
    exact hu
   ·refine hS hn.2 w' X' B (off+sz) hk (fun j u hu=>?_)
    rw[Nat.add_assoc]
    refine hcell (sz+j) u ?_
    rw[List.flatMap_cons,hus,List.getElem?_append_right (by simp;omega)]
    simp only
    rw[hul,Nat.add_sub_cancel_left]
    exact hu
 |_,[],_::_,_,hc,_,_=>by simp[K28]at hc
 |_,_::_,[],_,hc,_,_=>by simp[K28]at hc
theorem K4x(w:World)(t e:TypeId)(ie:TypeInfo)(hu:P.underlying t=some (.slice e))(hie:P.info? e=some ie):(Instr.buildSlice t 0 #[]).run P w= .ok (.slice (some ⟨w.heap.size,0,none⟩) 0 0) (w.alloc (.cells #[] e)):=by
 simp[Instr.buildSlice,run_underlying hu,sizeOf,typeInfo,hie,Instr.fill,newRow,Array.range_zero']
theorem good_lit(R:Rel base Z w0 w σ a.tmps g){d id sz bytes len:Nat}{xs:List Od}{parts:Array (Nat×Operand)}{t et:TypeId}{ie:TypeInfo}{z:Value}(hd:o.dst=some d)(ho:o.op= .buildSlice t len parts)(hlen:len=xs.length)
  (hc:K28 0 parts.toList xs=true) (hu:P.underlying t=some (.slice et)) (hie:P.info? et=some ie) (hz:ie.zero=some z) (hsz:ie.size=sz) (hpos:0<sz) (hsmall:len*sz≤2^24) {e:Ef} (he:eff (.lit d id sz bytes xs) σ=some e):
  Good P o a base Z w0 w (σ.app e):=by
 simp only[eff]at he
 obtain⟨l,hl,he1⟩:=Option.bind_eq_some_iff.1 he
 obtain⟨⟨hid,hall,hnd,hni,_⟩,he2⟩:=Option.ite_none_right_eq_some.1 he1
 clear he he1
 subst hsz
 have hall':∀e∈l.map (·.1),e.length=ie.size:=by
  intro e he
  simpa using List.all_eq_true.1 hall e he
 obtain⟨vs,hvl,hll,hp,hvs,hO,hS⟩:=R.lit hc hl hall'
 have hmul:(vs.flatMap fun v=>v.cells.toList).length=vs.length*ie.size:=by
  clear hp hO hS hvl
  induction vs with
  |nil=>simp
  |cons v vs ih=>
   have h1:=hvs v (by simp)
   have h2:=ih (fun u hu=>hvs u (by simp[hu]))
   rw[List.flatMap_cons,List.length_append,h2,Array.length_toList,h1,List.length_cons,Nat.add_mul,Nat.one_mul,Nat.add_comm]
 have hrun:(Instr.buildSlice t len (parts.map fun (i,x)=>(i,a.eval x))).run P w= .ok (.slice (some ⟨w.heap.size,0,none⟩) len len) (w.alloc (.cells (vs.flatMap fun v=>v.cells.toList).toArray et)):=by
  by_cases h0:xs=[]
  ·subst h0
   have hv0:vs=[]:=List.length_eq_zero_iff.1 (by rw[hvl];rfl)
   have hpz:parts= #[]:=by
    have:=K5v hc
    apply Array.ext'
    exact List.length_eq_zero_iff.1 (by simpa using this)
   subst hlen hv0 hpz
   simpa using K4x (P:=P) w t et ie hu hie
  ·have hlp:0<len:=by
    rw[hlen];exact List.length_pos_iff.2 h0
   have:=Nat.mul_pos hlp hpos
   refine run_buildSlice w t et len _ _ ie z hu hie hz (by omega) (by omega) ?_
   have e1:(parts.map fun (i,x)=>(i,a.eval x)).toList=(vs.zipIdx 0).map fun x=>(x.2,x.1):=by
    rw[Array.toList_map,←hp]
   rw[e1]
   exact Great.fill_whole hpos vs _ hvs (by simp[hvl,hlen])
 have hrun':(execOp a.eval o).run P w= .ok (.value (.slice (some ⟨w.heap.size,0,none⟩) (l.map (·.1)).length (l.map (·.1)).length)) (w.alloc (.cells (vs.flatMap fun v=>v.cells.toList).toArray et)):=by
  simp only[execOp,ho]
  refine K2d ?_
  rw[hrun,List.length_map,hll,hlen]
 have hcell:∀j u,(vs.flatMap fun v=>v.cells.toList)[j]? =some u→(w.alloc (.cells (vs.flatMap fun v=>v.cells.toList).toArray et)).cell? ⟨w.heap.size,0+j,none⟩=some u:=by
  intro j u hu
  simp only[World.cell?]
  rw[heap_alloc_new]
  simpa using hu
 have hn0:(0:Nat)+(l.map (·.1)).length*ie.size≤(vs.flatMap fun v=>v.cells.toList).toArray.size:=by
  simp only[List.size_toArray,hmul,List.length_map]
  rw[hll,hvl];omega
 have hln:(l.map (·.1)).length≤roomB:=by
  rw[List.length_map,hll,←hlen]
  have:len*1≤len*ie.size:=Nat.mul_le_mul_left _ hpos
  simp only[roomB]
  omega
 refine⟨_,_,hrun',?_⟩
 simp only[hd]
 split at he2
 ·rename_i hneu
  simp only[Option.some.injEq]at he2
  subst he2
  obtain⟨G,hGs,hGr,hGO⟩:=hO hneu
  have hGo:∀b∈G,∃j,b∈g.F j∧(none=some j∨j∈owns (l.flatMap (·.2))):=by
   intro b hb
   obtain⟨j,hj,hbj⟩:=List.mem_flatMap.1 (hGs.subset hb)
   exact⟨j,hbj,.inr hj⟩
  have hGl:∀b∈G,b<w.heap.size:=by
   intro b hb
   obtain⟨j,hbj,_⟩:=hGo b hb
   exact(R.frs j b hbj).2
  exact R.appd (dr:=none) (dp:=true) (G:=G) hid (by simp) (fun b hb _=>Below.heap_alloc w _ b hb) (R.grew.alloc R.bs _) (heap_alloc_new w _) hn0 ⟨Nat.le_refl _,hln,Nat.le_trans hln (by decide)⟩ (.inl (Nat.le_refl _))
   (List.nodup_cons.2 ⟨fun hb=>by have:=hGl _ hb;omega,hGs.nodup (R.flat_nodup _ hnd)⟩) hGo (by simp) hni hGr
   (fun g' V' tr=>by
    simp only[if_true]
    exact hGO _ _ 0 hcell (fun b hb=>Below.heap_alloc w _ b (hGl b hb)))
 ·obtain⟨hneu,he3⟩:=Option.ite_none_right_eq_some.1 he2
  simp only[Option.some.injEq]at he3
  subst he3
  exact R.appd (dr:=none) (dp:=false) (ks:=[]) (G:=[]) hid (by simp) (fun b hb _=>Below.heap_alloc w _ b hb) (R.grew.alloc R.bs _) (heap_alloc_new w _) hn0 ⟨Nat.le_refl _,hln,Nat.le_trans hln (by decide)⟩ (.inl (Nat.le_refl _))
   (by simp) (by simp) (by simp) (by simp) (by simp)
   (fun g' V' tr=>by
    simp only[Bool.false_eq_true,if_false,and_true]
    exact hS hneu _ _ _ 0 tr.kb hcell)
theorem flat_row{w:World}{X X':Nat→Prop}{sz b:Nat}:∀ {es:List (List T)} {off:Nat},flat es=true→RdRow w X sz b off es→RdRow w X' sz b off es:=by
 have el:∀ {e:List T} {off:Nat},(e.all fun| .sc _=>true|_=>false)=true→RdEl w X b off e→RdEl w X' b off e:=by
  intro e
  induction e with
  |nil=>intro off _ _;trivial
  |cons t e ih=>
   intro off h hr
   simp only[List.all_cons,Bool.and_eq_true]at h
   obtain⟨⟨v,h1,h2⟩,h3⟩:=hr
   refine⟨⟨v,h1,?_⟩,ih h.2 h3⟩
   cases t with
   |sc u=>exact h2
   |sl _ _=>simp at h
   |pb _=>simp at h
   |fn _ _=>simp at h
 intro es
 induction es with
 |nil=>intro off _ _;trivial
 |cons e es ih=>
  intro off h hr
  simp only[flat,List.all_cons,Bool.and_eq_true]at h
  obtain⟨h1,h2,h3⟩:=hr
  exact⟨h1,el h.1 h2,ih h.2 h3⟩
theorem good_litP(R:Rel base Z w0 w σ a.tmps g){d sz bytes len:Nat}{xs:List Od}{parts:Array (Nat×Operand)}{t et:TypeId}{ie:TypeInfo}{z:Value}(hd:o.dst=some d)(ho:o.op= .buildSlice t len parts)(hlen:len=xs.length)
  (hc:K28 0 parts.toList xs=true) (hu:P.underlying t=some (.slice et)) (hie:P.info? et=some ie) (hz:ie.zero=some z) (hsz:ie.size=sz) (hpos:0<sz) (hsmall:len*sz≤2^24) {e:Ef} (he:eff (.litP d sz bytes xs) σ=some e):
  Good P o a base Z w0 w (σ.app e):=by
 simp only[eff]at he
 obtain⟨l,hl,he1⟩:=Option.bind_eq_some_iff.1 he
 obtain⟨⟨hall,hfl,hneu,_⟩,he2⟩:=Option.ite_none_right_eq_some.1 he1
 clear he he1
 subst hsz
 have hall':∀e∈l.map (·.1),e.length=ie.size:=by
  intro e he
  simpa using List.all_eq_true.1 hall e he
 obtain⟨vs,hvl,hll,hp,hvs,hO,hS⟩:=R.lit hc hl hall'
 have hmul:(vs.flatMap fun v=>v.cells.toList).length=vs.length*ie.size:=by
  clear hp hO hS hvl
  induction vs with
  |nil=>simp
  |cons v vs ih=>
   have h1:=hvs v (by simp)
   have h2:=ih (fun u hu=>hvs u (by simp[hu]))
   rw[List.flatMap_cons,List.length_append,h2,Array.length_toList,h1,List.length_cons,Nat.add_mul,Nat.one_mul,Nat.add_comm]
 have hrun:(Instr.buildSlice t len (parts.map fun (i,x)=>(i,a.eval x))).run P w= .ok (.slice (some ⟨w.heap.size,0,none⟩) len len) (w.alloc (.cells (vs.flatMap fun v=>v.cells.toList).toArray et)):=by
  by_cases h0:xs=[]
  ·subst h0
   have hv0:vs=[]:=List.length_eq_zero_iff.1 (by rw[hvl];rfl)
   have hpz:parts= #[]:=by
    have:=K5v hc
    apply Array.ext'
    exact List.length_eq_zero_iff.1 (by simpa using this)
   subst hlen hv0 hpz
   simpa using K4x (P:=P) w t et ie hu hie
  ·have hlp:0<len:=by
    rw[hlen];exact List.length_pos_iff.2 h0
   have:=Nat.mul_pos hlp hpos
   refine run_buildSlice w t et len _ _ ie z hu hie hz (by omega) (by omega) ?_
   have e1:(parts.map fun (i,x)=>(i,a.eval x)).toList=(vs.zipIdx 0).map fun x=>(x.2,x.1):=by
    rw[Array.toList_map,←hp]
   rw[e1]
   exact Great.fill_whole hpos vs _ hvs (by simp[hvl,hlen])
 have hrun':(execOp a.eval o).run P w= .ok (.value (.slice (some ⟨w.heap.size,0,none⟩) (l.map (·.1)).length (l.map (·.1)).length)) (w.alloc (.cells (vs.flatMap fun v=>v.cells.toList).toArray et)):=by
  simp only[execOp,ho]
  refine K2d ?_
  rw[hrun,List.length_map,hll,hlen]
 have hcell:∀j u,(vs.flatMap fun v=>v.cells.toList)[j]? =some u→(w.alloc (.cells (vs.flatMap fun v=>v.cells.toList).toArray et)).cell? ⟨w.heap.size,0+j,none⟩=some u:=by
  intro j u hu
  simp only[World.cell?]
  rw[heap_alloc_new]
  simpa using hu
 have hn0:(0:Nat)+(l.map (·.1)).length*ie.size≤(vs.flatMap fun v=>v.cells.toList).toArray.size:=by
  simp only[List.size_toArray,hmul,List.length_map]
  rw[hll,hvl];omega
 have hln:(l.map (·.1)).length≤roomB:=by
  rw[List.length_map,hll,←hlen]
  have:len*1≤len*ie.size:=Nat.mul_le_mul_left _ hpos
  simp only[roomB]
  omega
 refine⟨_,_,hrun',?_⟩
 simp only[hd]
 simp only[Option.some.injEq]at he2
 subst he2
 have hob:∀id,(σ.app ⟨some (d,.val false [.pl (.sl ie.size (l.map (·.1)))]),[]⟩).ob id=σ.ob id:=fun id=>rfl
 have hV:(σ.app ⟨some (d,.val false [.pl (.sl ie.size (l.map (·.1)))]),[]⟩).V=σ.V:=rfl
 have hw:∀b,b<w.heap.size→(w.alloc (.cells (vs.flatMap fun v=>v.cells.toList).toArray et)).heap[b]? =w.heap[b]? :=fun b hb=>Below.heap_alloc w _ b hb
 have hsz:w.heap.size≤(w.alloc (.cells (vs.flatMap fun v=>v.cells.toList).toArray et)).heap.size:=by
  simp
 have tr:Tr w (w.alloc (.cells (vs.flatMap fun v=>v.cells.toList).toArray et)) σ.V (σ.app ⟨some (d,.val false [.pl (.sl ie.size (l.map (·.1)))]),[]⟩).V g g:=
  ⟨hsz,fun id=>by rw[hV];exact Nat.le_refl _,fun _ _ _=>rfl,fun b hb hx=>⟨hw b hb,hx⟩,fun b _ hx=>hx,rfl⟩
 refine⟨g,R.turn (some (d,.val false [.pl (.sl ie.size (l.map (·.1)))])) [] _ g (some d) _ tr ⟨rfl,?_⟩ (fun id h=>by rw[hV]at h;exact h) (fun id=> .inl ⟨hob id,rfl,fun b hb=>hw b (R.frs id b hb).2⟩) R.nd R.dj (fun i b hb=>⟨(R.frs i b hb).1,Nat.lt_of_lt_of_le (R.frs i b hb).2 hsz⟩) (R.grew.alloc R.bs _)⟩
 simp only[SlotR,ValR,Bool.false_eq_true,if_false]
 refine⟨_,rfl,?_⟩
 simp only[CellR,Rd]
 have hXe:Xe g w.heap.size:=by
  refine⟨fun hz=>?_,fun id hb=>?_⟩
  ·have:=R.bs _ (R.zb _ (R.zz▸hz));omega
  ·have:=(R.frs id _ hb).2;omega
 refine⟨_,_,rfl,⟨Nat.le_refl _,hln,Nat.le_trans hln (by decide)⟩,.inr ⟨_,_,rfl,hXe,?_,?_⟩⟩
 ·exact K1g (heap_alloc_new w _)
 ·exact flat_row hfl (hS hneu (w.alloc (.cells (vs.flatMap fun v=>v.cells.toList).toArray et)) (Xb g) w.heap.size 0 tr.kb hcell)
theorem K9m(R:Rel base Z w0 w σ a.tmps g){d id sz:Nat}{x':Operand}(hd:o.dst=some d)(ho:o.op= .move x'∨o.op= .assign x')(hx:K3 x' (.nil sz)=true){e:Ef}(he:eff (.nilo d id sz) σ=some e):Good P o a base Z w0 w (σ.app e):=by
 simp only[eff]at he
 obtain⟨hid,he⟩:=Option.ite_none_right_eq_some.1 he
 simp only[Option.some.injEq]at he
 subst he
 have hv:a.eval x'= .slice none 0 0:=by
  cases x'<;>simp only[K3,Bool.false_eq_true]at hx
  split at hx<;>simp_all[Act.eval]
 have hrun:(execOp a.eval o).run P w= .ok (.value (.slice none 0 0)) w:=by
  rcases ho with ho|ho<;>simp[execOp,ho,hv]
 refine⟨_,w,hrun,?_⟩
 simp only[hd]
 refine R.newL (d:=d) (id:=id) (oc:= .row true sz []) (s:= .val false [.ref id (σ.nw id) sz 0 0]) (hv:= .slice none 0 0) (v:= .slice none 0 0) (w':=w) (ks:=[]) (dr:=none) (L:=[]) (obs:=[(id,⟨σ.nw id,.row true sz []⟩)])
  ?_ (Nat.le_refl _) (fun _ _ _=>rfl) R.grew (by simp) (by simp) (by simp) List.nodup_nil (by simp) (by simp) ?_ ?_
 ·intro j
  rw[K20,List.foldl_cons,List.foldl_nil]
  by_cases hji:j=id
  ·subst hji;simp[hid]
  ·have hji':¬id=j:=fun e=>hji e.symm
   simp[hji,hji']
 ·intro g' V' e1 e2
  simp only[SlotR,ValR,Bool.false_eq_true,if_false]
  refine⟨_,rfl,?_⟩
  simp only[CellR]
  exact⟨by omega,none,0,0,none,0,e2,rfl,by omega,by omega,by omega,.inl rfl,.inl rfl⟩
 ·intro g' V' tr e1 e2
  simp only[ObjR]
  exact⟨none,0,e1,Ln.z _,.inl ⟨rfl,trivial,e2⟩⟩
end
end Go.Proofs.YtjneccbpkckdfaaGreatR
namespace Go.Proofs.YtjneccbpkckdfaaGreatR
open Go Go.RowKit
structure Le (σ σ':St):Prop where
 slot:∀k,σ.get k= .undef∨σ.get k=σ'.get k
 obj:∀id,(σ.ob id).oc= .none∨σ.ob id=σ'.ob id
 n:σ.n=σ'.n
 m:σ.o.length=σ'.o.length
section
variable {σ σ':St}
theorem Le.refl(σ:St):Le σ σ:=⟨fun _=> .inr rfl,fun _=> .inr rfl,rfl,rfl⟩
theorem Le.trans{a b c:St}(h:Le a b)(k:Le b c):Le a c:=by
 refine⟨fun i=>?_,fun i=>?_,h.n.trans k.n,h.m.trans k.m⟩
 ·rcases h.slot i with h1|h1
  ·exact .inl h1
  ·rw[h1];exact k.slot i
 ·rcases h.obj i with h1|h1
  ·exact .inl h1
  ·rw[h1];exact k.obj i
theorem Le.ev(h:Le σ σ')(x:Od):σ.ev x= .undef∨σ.ev x=σ'.ev x:=by
 cases x with
 |s k=>exact h.slot k
 |_=>exact .inr rfl
theorem Le.evd(h:Le σ σ'){x:Od}{v:SV}(e:σ.evd x=some v):σ'.evd x=some v:=by
 unfold St.evd at*
 rcases h.ev x with h1|h1
 ·rw[h1]at e;simp[SV.def_]at e
 ·rw[←h1];exact e
theorem Le.one(h:Le σ σ'){x:Od}{c:SC}(e:(σ.ev x).one=some c):(σ'.ev x).one=some c:=by
 rcases h.ev x with h1|h1
 ·rw[h1]at e;simp[SV.one]at e
 ·rw[←h1];exact e
theorem Le.all(h:Le σ σ'){x:Od}{c:Bool×List SC}(e:(σ.ev x).all=some c):(σ'.ev x).all=some c:=by
 rcases h.ev x with h1|h1
 ·rw[h1]at e;simp[SV.all]at e
 ·rw[←h1];exact e
theorem Le.sca(h:Le σ σ'){x:Od}{v:Value}(e:σ.sca x=some v):σ'.sca x=some v:=by
 unfold St.sca at*
 obtain⟨c,h1,h2⟩:=Option.bind_eq_some_iff.1 e
 rw[h.one h1];exact h2
theorem Le.int(h:Le σ σ'){x:Od}{v:Int}(e:σ.int x=some v):σ'.int x=some v:=by
 unfold St.int at*
 obtain⟨c,h1,h2⟩:=Option.bind_eq_some_iff.1 e
 rw[h.sca h1];exact h2
theorem Le.opt(h:Le σ σ'){x:Option Od}{d v:Int}(e:σ.opt x d=some v):σ'.opt x d=some v:=by
 unfold St.opt at*
 cases x with
 |none=>exact e
 |some l=>exact h.int e
theorem Le.adr(h:Le σ σ'){x:Od}{a:Ad}(e:σ.adr x=some a):σ'.adr x=some a:=by
 unfold St.adr at*
 rcases h.ev x with h1|h1
 ·rw[h1]at e;simp at e
 ·rw[←h1];exact e
theorem Le.rows(h:Le σ σ'){c:SC}{r:Nat×List (List T)}(e:σ.rows c=some r):σ'.rows c=some r:=by
 cases c with
 |ref id ver sz lo n=>
  simp only[St.rows]at*
  rcases h.obj id with h1|h1
  ·cases hob:σ.ob id with
   |mk v oc=>rw[hob]at h1 e;simp only at h1;subst h1;simp at e
  ·rw[←h1];exact e
 |pl t=>cases t<;>exact e
 |bor t=>cases t<;>exact e
 |_=>exact e
theorem Le.con1(h:Le σ σ'){c:SC}{t:T}(e:σ.con1 c=some t):σ'.con1 c=some t:=by
 cases c with
 |ref id ver sz lo n=>
  simp only[St.con1]at*
  obtain⟨r,h1,h2⟩:=Option.map_eq_some_iff.1 e
  rw[h.rows h1];simp[h2]
 |clo g bs=>cases bs<;>exact e
 |_=>exact e
theorem K1o{α β:Type}{f f':α→Option β}(h:∀a b,f a=some b→f' a=some b):∀ {l:List α} {r:List β},K1 (l.map f)=some r→K1 (l.map f')=some r
 | [],r,e=>e
 |a::l,r,e=>by
  simp only[List.map_cons]at*
  cases hf:f a with
  |none=>rw[hf]at e;simp[K1]at e
  |some b=>
   rw[hf]at e
   rw[h a b hf]
   simp only[K1]at*
   obtain⟨r',h1,h2⟩:=Option.map_eq_some_iff.1 e
   rw[K1o h h1];simp[h2]
theorem Le.boxed(h:Le σ σ'){id ver:Nat}{t:T}(e:σ.boxed id ver=some t):σ'.boxed id ver=some t:=by
 unfold St.boxed at*
 rcases h.obj id with h1|h1
 ·cases hob:σ.ob id with
  |mk v oc=>rw[hob]at h1 e;simp only at h1;subst h1;simp at e
 ·rw[←h1]
  split at e
  ·rename_i v cs hob
   split at e
   ·rename_i hv
    rw[if_pos hv]
    obtain⟨r,h2,h3⟩:=Option.map_eq_some_iff.1 e
    rw[K1o (fun a b=>h.con1) h2];simp[h3]
   ·simp at e
  ·simp at e
theorem Le.con(h:Le σ σ'){c:SC}{t:T}(e:σ.con c=some t):σ'.con c=some t:=by
 cases c with
 |clo g bs=>
  simp only[St.con]at*
  obtain⟨r,h2,h3⟩:=Option.map_eq_some_iff.1 e
  rw[K1o (fun a b=>h.boxed) h2];simp[h3]
 |pl t=>exact h.con1 (c:= .pl t) e
 |bor t=>exact h.con1 (c:= .bor t) e
 |emp sz=>exact h.con1 (c:= .emp sz) e
 |ref id ver sz lo n=>exact h.con1 (c:= .ref id ver sz lo n) e
theorem Le.emb(h:Le σ σ'){c:SC}{t:T×Kd}(e:σ.emb c=some t):σ'.emb c=some t:=by
 cases c with
 |ref id ver sz lo n=>
  simp only[St.emb]at*
  rcases h.obj id with h1|h1
  ·cases hob:σ.ob id with
   |mk v oc=>rw[hob]at h1 e;simp only at h1;subst h1;simp at e
  ·rw[←h1];exact e
 |pl t=>cases t<;>exact e
 |bor t=>cases t<;>exact e
 |_=>exact e
theorem Le.embs(h:Le σ σ'){cs:List SC}{r:List T×List Kd}(e:σ.embs cs=some r):σ'.embs cs=some r:=by
 unfold St.embs at*
 obtain⟨l,h1,h2⟩:=Option.map_eq_some_iff.1 e
 rw[K1o (fun a b=>h.emb) h1];simp[h2]
theorem emb_own{c:SC}{t:T}{id:Nat}(e:σ.emb c=some (t,.own id)):(σ.ob id).oc≠ .none:=by
 unfold St.emb at e
 split at e<;>try (simp at e;done)
 split at e
 ·rename_i hob
  split at e<;>simp at e
  obtain⟨_,rfl⟩:=e
  rw[hob];simp
 ·simp at e
theorem K54{α:Type}:∀ {l:List (Option α)} {r:List α},K1 l=some r→∀a∈r,some a∈l
 | [],r,e,a,h=>by simp[K1]at e;subst e;simp at h
 |none::_,r,e,_,_=>by simp[K1]at e
 |some b::l,r,e,a,h=>by
  simp only[K1]at e
  obtain⟨r',h1,rfl⟩:=Option.map_eq_some_iff.1 e
  rcases List.mem_cons.1 h with rfl|h
  ·simp
  ·simp[K54 h1 a h]
theorem Kac{cs:List SC}{r:List T×List Kd}(e:σ.embs cs=some r){id:Nat}(h:id∈owns r.2):(σ.ob id).oc≠ .none:=by
 obtain⟨l,h1,_,h2⟩:=K6j e
 rw[h2]at h
 obtain⟨k,hk,hid⟩:=List.mem_filterMap.1 h
 obtain⟨x,hx,hk⟩:=List.mem_flatMap.1 hk
 simp at hk
 subst hk
 have:=K54 h1 x hx
 obtain⟨c,_,hc⟩:=List.mem_map.1 this
 obtain⟨t,kd⟩:=x
 cases kd<;>simp at hid
 subst hid
 exact emb_own hc
theorem Le.lend(h:Le σ σ'){ks:List Nat}(hk:∀id∈ks,(σ.ob id).oc≠ .none):σ'.lend ks=σ.lend ks:=by
 unfold St.lend
 refine List.map_congr_left fun id hid=>?_
 rw[(h.obj id).resolve_left (hk id hid)]
theorem Le.load(h:Le σ σ'){n:Nat}{a:Ad}{cs:List SC}(e:σ.load n a=some cs):σ'.load n a=some cs:=by
 cases a with
 |bx id ver k=>
  simp only[St.load]at*
  rcases h.obj id with h1|h1
  ·cases hob:σ.ob id with
   |mk v oc=>rw[hob]at h1 e;simp only at h1;subst h1;simp at e
  ·rw[←h1];exact e
 |el id ver sz i k=>
  simp only[St.load]at*
  rcases h.obj id with h1|h1
  ·cases hob:σ.ob id with
   |mk v oc=>rw[hob]at h1 e;simp only at h1;subst h1;simp at e
  ·rw[←h1];exact e
 |_=>exact e
theorem Le.fill(h:Le σ σ'):∀ {ps:List (Nat×Nat×Od)} {zs cs:List SC},σ.fill zs ps=some cs→σ'.fill zs ps=some cs
 | [],zs,cs,e=>e
 |(off,n,x)::ps,zs,cs,e=>by
  simp only[St.fill]at*
  split at e
  rotate_left
  ·simp at e
  rename_i ag cs' hx
  rw[h.all hx]
  simp only
  split at e
  ·rename_i hh;rw[if_pos hh];exact h.fill e
  ·simp at e
theorem Le.appTo(h:Le σ σ'){sz:Nat}{c:SC}{r:Option Nat×Bool×List (List T)}(e:σ.appTo sz c=some r):σ'.appTo sz c=some r∧σ'.drop r.1=σ.drop r.1:=by
 cases c with
 |ref id v sz' lo n=>
  simp only[St.appTo]at*
  rcases h.obj id with h1|h1
  ·cases hob:σ.ob id with
   |mk v oc=>rw[hob]at h1 e;simp only at h1;subst h1;simp at e
  ·rw[←h1]
   refine⟨e,?_⟩
   split at e
   ·split at e<;>simp at e
    subst e
    simp[St.drop,h1]
   ·simp at e
 |emp sz'=>
  refine⟨e,?_⟩
  simp only[St.appTo]at e
  split at e<;>simp at e
  subst e
  rfl
 |_=>simp[St.appTo]at e
theorem Le.whole(h:Le σ σ'){c:SC}{r:Nat×List (List T)}(e:σ.rows c=some r):σ'.whole c=σ.whole c:=by
 cases c with
 |ref id v sz' lo n=>
  simp only[St.rows,St.whole]at*
  rcases h.obj id with h1|h1
  ·cases hob:σ.ob id with
   |mk v oc=>rw[hob]at h1 e;simp only at h1;subst h1;simp at e
  ·rw[←h1]
 |_=>rfl
theorem whole_some{c:SC}{id:Nat}{dp:Bool}(e:σ.whole c=some (id,dp)):(σ.ob id).oc≠ .none:=by
 unfold St.whole at e
 split at e
 ·split at e
  ·rename_i hob
   split at e<;>simp at e
   obtain⟨rfl,_⟩:=e
   rw[hob];simp
  ·simp at e
 ·simp at e
def creates:MO→List Nat
 |.alloc _ id _| .box _ id _| .nilo _ id _| .lit _ id ..| .mk _ id ..| .app _ id ..| .appA _ id ..=>[id]
 |.call _ ids ..=>ids
 |.callI _ ids ..=>ids
 |.callB _ ids ..=>ids
 |.callN _ id ..=>[id]
 |.loadT _ id _=>[id]
 |.loadM _ _ ids _ _=>ids
 |.buildO _ _ _ ns=>ns.filterMap fun x=>x
 |_=>[]
theorem K3k{id:Nat}(h:(σ.ob id).ver=(σ'.ob id).ver):σ'.nw id=σ.nw id:=by unfold St.nw;rw[h]
theorem eff_mono{o:MO}{e:Ef}(h:Le σ σ')(hc:∀id∈creates o,(σ.ob id).ver=(σ'.ob id).ver)(he:eff o σ=some e):eff o σ'=some e:=by
 cases o with
 |mv d x=>
  simp only[eff]at*
  obtain⟨v,h1,rfl⟩:=Option.map_eq_some_iff.1 he
  rw[h.evd h1];rfl
 |bin d bt op x y=>
  simp only[eff]at*
  obtain⟨a,h1,he⟩:=Option.bind_eq_some_iff.1 he
  obtain⟨b,h2,he⟩:=Option.bind_eq_some_iff.1 he
  rw[h.sca h1,Option.bind_some,h.sca h2];exact he
 |eqA d ne ks x y=>
  simp only[eff]at*
  obtain⟨a,h1,he⟩:=Option.bind_eq_some_iff.1 he
  obtain⟨b,h2,he⟩:=Option.bind_eq_some_iff.1 he
  rw[h.all h1,Option.bind_some,h.all h2];exact he
 |un d op x=>
  simp only[eff]at*
  obtain⟨a,h1,he⟩:=Option.bind_eq_some_iff.1 he
  rw[h.sca h1];exact he
 |mm d mx x y=>
  simp only[eff]at*
  obtain⟨a,h1,he⟩:=Option.bind_eq_some_iff.1 he
  obtain⟨b,h2,he⟩:=Option.bind_eq_some_iff.1 he
  rw[h.sca h1,Option.bind_some,h.sca h2];exact he
 |pick d c a b=>
  simp only[eff]at*
  obtain⟨t,h1,he⟩:=Option.bind_eq_some_iff.1 he
  obtain⟨v,h2,h1⟩:=Option.bind_eq_some_iff.1 h1
  obtain⟨u,h3,rfl⟩:=Option.map_eq_some_iff.1 he
  rw[h.sca h2,Option.bind_some,h1,Option.bind_some,h.evd h3];rfl
 |len d str x=>
  simp only[eff]at*
  obtain⟨c,h1,he⟩:=Option.bind_eq_some_iff.1 he
  rw[h.one h1,Option.bind_some]
  cases str with
  |true=>exact he
  |false=>
   simp only[Bool.false_eq_true,if_false]at*
   obtain⟨r,h2,rfl⟩:=Option.map_eq_some_iff.1 he
   rw[h.rows h2];rfl
 |alloc d id zs=>
  simp only[eff,←h.m,K3k (hc id (by simp[creates]))]at*
  exact he
 |nilo d id sz=>
  simp only[eff,←h.m,K3k (hc id (by simp[creates]))]at*
  exact he
 |box d id x=>
  simp only[eff,←h.m,K3k (hc id (by simp[creates]))]at*
  obtain⟨a,h1,he⟩:=Option.bind_eq_some_iff.1 he
  rw[h.all h1];exact he
 |build d zs ps=>
  simp only[eff]at*
  obtain⟨a,h1,rfl⟩:=Option.map_eq_some_iff.1 he
  rw[h.fill h1];rfl
 |lit d id sz bytes xs=>
  simp only[eff,←h.m,K3k (hc id (by simp[creates]))]at*
  obtain⟨l,h1,he⟩:=Option.bind_eq_some_iff.1 he
  have h2:=K1o (f':=fun x=>(σ'.ev x).all.bind fun a=>σ'.embs a.2) (fun x b hb=>by
   obtain⟨a,h2,h3⟩:=Option.bind_eq_some_iff.1 hb
   rw[h.all h2];exact h.embs h3) h1
  rw[h2,Option.bind_some]
  have h3:σ'.lend (owns (l.flatMap (·.2)))=σ.lend (owns (l.flatMap (·.2))):=by
   refine h.lend fun id hid=>?_
   unfold owns at hid
   obtain⟨k,hk,hkid⟩:=List.mem_filterMap.1 hid
   obtain⟨x,hx,hk⟩:=List.mem_flatMap.1 hk
   obtain⟨y,_,hy⟩:=List.mem_map.1 (K54 h1 x hx)
   obtain⟨a,_,h4⟩:=Option.bind_eq_some_iff.1 hy
   exact Kac h4 (List.mem_filterMap.2 ⟨k,hk,hkid⟩)
  rw[h3];exact he
 |litP d sz bytes xs=>
  simp only[eff]at*
  obtain⟨l,h1,he⟩:=Option.bind_eq_some_iff.1 he
  have h2:=K1o (f':=fun x=>(σ'.ev x).all.bind fun a=>σ'.embs a.2) (fun x b hb=>by
   obtain⟨a,h2,h3⟩:=Option.bind_eq_some_iff.1 hb
   rw[h.all h2];exact h.embs h3) h1
  rw[h2,Option.bind_some]
  exact he
 |load d agg n a=>
  simp only[eff]at*
  obtain⟨ad,h1,he⟩:=Option.bind_eq_some_iff.1 he
  obtain⟨cs,h2,he⟩:=Option.bind_eq_some_iff.1 he
  rw[h.adr h1,Option.bind_some,h.load h2];exact he
 |store n a x=>
  simp only[eff]at he ⊢
  obtain⟨ad,h1,he1⟩:=Option.bind_eq_some_iff.1 he
  obtain⟨v,h2,he2⟩:=Option.bind_eq_some_iff.1 he1
  rw[h.adr h1,Option.bind_some,h.all h2,Option.bind_some]
  obtain⟨hn,he3⟩:=Option.ite_none_right_eq_some.1 he2
  clear he he1 he2
  rw[if_pos hn]
  cases ad with
  |bx id ver k=>
   simp only at he3 ⊢
   rcases h.obj id with h3|h3
   ·cases hob:σ.ob id with
    |mk v oc=>rw[hob]at h3 he3;simp only at h3;subst h3;simp at he3
   ·rw[←h3];exact he3
  |el id ver sz i k=>
   simp only at he3 ⊢
   rcases h.obj id with h3|h3
   ·cases hob:σ.ob id with
    |mk v oc=>rw[hob]at h3 he3;simp only at h3;subst h3;simp at he3
   ·rw[←h3]
    cases hob:σ.ob id with
    |mk v' oc=>
     rw[hob]at he3
     cases oc<;>simp only at he3 ⊢<;>try (simp at he3;done)
     obtain⟨hh,he4⟩:=Option.ite_none_right_eq_some.1 he3
     obtain⟨el,h4,he5⟩:=Option.bind_eq_some_iff.1 he4
     obtain⟨r,h5,he6⟩:=Option.bind_eq_some_iff.1 he5
     rw[if_pos hh,h4,Option.bind_some,h.embs h5,Option.bind_some,h.lend fun id hid=>Kac h5 hid]
     exact he6
  |_=>simp at he3
 |fld d a off=>
  simp only[eff]at*
  obtain⟨ad,h1,he⟩:=Option.bind_eq_some_iff.1 he
  rw[h.adr h1];exact he
 |idx d sz x i=>
  simp only[eff]at*
  obtain⟨c,h1,he⟩:=Option.bind_eq_some_iff.1 he
  obtain⟨k,h2,he⟩:=Option.bind_eq_some_iff.1 he
  obtain⟨r,h3,he⟩:=Option.bind_eq_some_iff.1 he
  rw[h.one h1,Option.bind_some,h.int h2,Option.bind_some,h.rows h3];exact he
 |idxA d sz n a i=>
  simp only[eff]at*
  obtain⟨ad,h1,he⟩:=Option.bind_eq_some_iff.1 he
  obtain⟨k,h2,he⟩:=Option.bind_eq_some_iff.1 he
  rw[h.adr h1,Option.bind_some,h.int h2];exact he
 |fldv d x off n agg=>
  simp only[eff]at*
  obtain⟨a,h1,he⟩:=Option.bind_eq_some_iff.1 he
  rw[h.all h1];exact he
 |idxs d x i=>
  simp only[eff]at*
  obtain⟨s,h1,he⟩:=Option.bind_eq_some_iff.1 he
  obtain⟨v,h0,h1⟩:=Option.bind_eq_some_iff.1 h1
  obtain⟨k,h2,he⟩:=Option.bind_eq_some_iff.1 he
  rw[h.sca h0,Option.bind_some,h1,Option.bind_some,h.int h2];exact he
 |mk d id sz bytes z x=>
  simp only[eff,←h.m,K3k (hc id (by simp[creates]))]at*
  obtain⟨k,h2,he⟩:=Option.bind_eq_some_iff.1 he
  rw[h.int h2];exact he
 |app d id sz bytes x y=>
  simp only[eff,←h.m,K3k (hc id (by simp[creates]))]at*
  obtain⟨c,h1,he⟩:=Option.bind_eq_some_iff.1 he
  obtain⟨c',h2,he⟩:=Option.bind_eq_some_iff.1 he
  obtain⟨r,h3,he⟩:=Option.bind_eq_some_iff.1 he
  obtain⟨b,h4,he⟩:=Option.bind_eq_some_iff.1 he
  rw[h.one h1,Option.bind_some,h.one h2,Option.bind_some,h.rows h3,Option.bind_some,(h.appTo h4).1,Option.bind_some,(h.appTo h4).2,h.whole h3]
  split at he
  ·rename_i hh
   rw[if_pos hh]
   split at he
   ·rename_i hf;rw[if_pos hf];exact he
   ·rename_i hf
    rw[if_neg hf]
    split at he
    ·rename_i hw
     rw[h.lend (ks:=[_]) (by simpa using whole_some hw)]
     exact he
    ·exact he
  ·simp at he
 |slc d sz x lo hi mx=>
  simp only[eff]at*
  obtain⟨c,h1,he⟩:=Option.bind_eq_some_iff.1 he
  obtain⟨l,h2,he⟩:=Option.bind_eq_some_iff.1 he
  obtain⟨r,h3,he⟩:=Option.bind_eq_some_iff.1 he
  obtain⟨u,h4,he⟩:=Option.bind_eq_some_iff.1 he
  have h2':=h.opt h2
  have h4':=h.opt h4
  rw[h.one h1,Option.bind_some,h2',Option.bind_some,h.rows h3,Option.bind_some,h4',Option.bind_some]
  cases mx with
  |none=>exact he
  |some m=>
   simp only at*
   obtain⟨m0,h5,he⟩:=Option.bind_eq_some_iff.1 he
   rw[h.int h5];exact he
 |slcs d x lo hi=>
  simp only[eff]at*
  obtain⟨s,h1,he⟩:=Option.bind_eq_some_iff.1 he
  obtain⟨v,h0,h1⟩:=Option.bind_eq_some_iff.1 h1
  obtain⟨l,h2,he⟩:=Option.bind_eq_some_iff.1 he
  obtain⟨u,h4,he⟩:=Option.bind_eq_some_iff.1 he
  have h2':=h.opt h2
  have h4':=h.opt h4
  rw[h.sca h0,Option.bind_some,h1,Option.bind_some,h2',Option.bind_some,h4'];exact he
 |ext d x i=>
  simp only[eff]at*
  rcases h.ev x with h1|h1
  ·rw[h1]at he;simp at he
  ·rw[←h1];exact he
 |clos d g bs=>
  simp only[eff]at*
  obtain⟨l,h1,rfl⟩:=Option.map_eq_some_iff.1 he
  rw[K1o (fun k b hb=>by
   rcases h.slot k with h2|h2
   ·rw[h2]at hb;simp at hb
   ·rw[←h2];exact hb) h1];rfl
 |closF d g k=>
  simp only[eff]at*
  rcases h.slot k with h2|h2
  ·rw[h2]at he;simp at he
  ·rw[←h2]
   split at he
   ·rename_i id ver hk
    obtain⟨t,ht,rfl⟩:=Option.map_eq_some_iff.1 he
    rw[show σ'.froz id ver=some t from by
     rcases h.obj id with h3|h3
     ·unfold St.froz at ht
      split at ht
      ·rename_i hob
       rw[hob]at h3
       simp at h3
      ·simp at ht
     ·unfold St.froz at ht ⊢
      rw[←h3];exact ht]
    rfl
   ·simp at he
 |nilc d x=>
  simp only[eff]at*
  obtain⟨ad,h1,rfl⟩:=Option.map_eq_some_iff.1 he
  rw[h.adr h1];rfl
 |convS d x=>
  simp only[eff]at*
  obtain⟨c,h1,he⟩:=Option.bind_eq_some_iff.1 he
  obtain⟨r,h2,he⟩:=Option.bind_eq_some_iff.1 he
  rw[h.one h1,Option.bind_some,h.rows h2];exact he
 |convI d k x=>
  simp only[eff]at*
  obtain⟨ad,h1,he⟩:=Option.bind_eq_some_iff.1 he
  rw[h.sca h1];exact he
 |call d ids f xs=>simp[eff]at he
 |loadT d i x=>simp[eff]at he
 |loadM d n is i x=>simp[eff]at he
 |buildO d zs ps ns=>simp[eff]at he
 |callI d ids f xs ios bks=>simp[eff]at he
 |callB d ids f p xs=>simp[eff]at he
 |callP d f p xs=>simp[eff]at he
 |callN d id f xs=>simp[eff]at he
 |sliA d n a=>
  simp only[eff]at*
  obtain⟨ad,h1,he⟩:=Option.bind_eq_some_iff.1 he
  rw[h.adr h1];exact he
 |nilp d ne x=>
  simp only[eff]at*
  rcases h.ev x with h1|h1
  ·rw[h1]at he;simp at he
  ·rw[←h1];exact he
 |appA d id bytes x y=>
  have hnw:=K3k (hc id (by simp[creates]))
  simp only[eff]at*
  obtain⟨c,h1,he⟩:=Option.bind_eq_some_iff.1 he
  rw[h.one h1,Option.bind_some]
  rcases h.ev y with h2|h2
  ·rw[h2]at he
   split at he
   ·simp at he
   ·simp at he
  ·rw[←h2]
   split at he
   rotate_left
   ·simp at he
   split at he
   rotate_left
   ·simp at he
   rename_i id2 ver k n hy
   split at he
   rotate_left
   ·simp at he
   rename_i v cs hob
   have h3:σ'.ob id2=⟨v,.box cs⟩:=by
    rcases h.obj id2 with h4|h4
    ·rw[hob]at h4;cases h4
    ·rw[←h4,hob]
   simp only[hy,h3,hnw,←h.m]
   exact he
end
end Go.Proofs.YtjneccbpkckdfaaGreatR
namespace Go.Proofs.YtjneccbpkckdfaaGreatR
open Go Go.RowKit
def sel(s:List (Nat×SV)):List Nat→List (Nat×SV)
 | []=>[]
 |k::ks=>match lk k s with
  |.undef=>sel s ks
  |v=>(k,v)::sel s ks
def St.only(σ:St)(ks:List Nat):St:=⟨sel σ.s ks,σ.n,σ.o⟩
def SC.re(σ:St):SC→Option SC
 |.ref id ver sz lo n=>if ver=(σ.ob id).ver then some (.ref id (rv ver) sz lo n)else none
 |.clo f bs=>if bs.all fun b=>b.2==(σ.ob b.1).ver then some (.clo f (bs.map fun b=>(b.1,rv b.2)))else none
 |c=>some c
def Ad.re(σ:St):Ad→Option Ad
 |.bx id ver k=>if ver=(σ.ob id).ver then some (.bx id (rv ver) k)else none
 |.el id ver sz i k=>if ver=(σ.ob id).ver then some (.el id (rv ver) sz i k)else none
 |a=>some a
def SV.re(σ:St):SV→Option SV
 |.undef=>some .undef
 |.skp=>some .skp
 |.val a cs=>(K1 (cs.map (SC.re σ))).map (.val a)
 |.adr a=>(a.re σ).map .adr
 |.tup vs=>(K1 (vs.map fun v=>(K1 (v.2.map (SC.re σ))).map fun cs=>(v.1,cs))).map .tup
 |.arr id ver k n=>if ver=(σ.ob id).ver then some (.arr id (rv ver) k n)else none
def OV.re(σ:St)(o:OV):Option OV:=match o.oc with
 |.box cs=>(K1 (cs.map (SC.re σ))).map fun cs=>⟨rv o.ver,.box cs⟩
 |.hole ..=>none
 |oc=>some ⟨rv o.ver,oc⟩
def St.re(σ:St):Option St:=(K1 (σ.s.map fun x=>(x.2.re σ).map fun v=>(x.1,v))).bind fun s=>(K1 (σ.o.map (OV.re σ))).map fun o=>⟨s,σ.n,o⟩
section
variable {P:Program} {base:Nat→Prop} {Z:ZZ} {w0 w:World} {σ σ':St} {g:Gh} {ts:Array Value}
theorem K6u(p:Nat→Bool)(k:Nat):∀(l:List (Nat×SV)),lk k (l.filter fun x=>p x.1)=if p k then lk k l else .undef
 | []=>by simp[lk]
 |x::l=>by
  rw[List.filter_cons]
  by_cases hk:k=x.1
  ·subst hk
   by_cases hp:p x.1
   ·simp[hp,lk]
   ·simp[hp,K6u p]
  ·by_cases hp:p x.1<;>simp[hp,lk,hk,K6u p]
theorem lk_sel(s:List (Nat×SV))(k:Nat):∀ks:List Nat,lk k (sel s ks)=if ks.contains k then lk k s else .undef
 | []=>by simp[sel,lk]
 |j::ks=>by
  have ih:=lk_sel s k ks
  unfold sel
  by_cases hk:k=j
  ·subst hk
   simp only[List.contains_cons,beq_self_eq_true,Bool.true_or,if_true]
   split
   ·rename_i h
    rw[ih,h]
    split<;>rfl
   ·simp[lk]
  ·have hk':(k==j)=false:=by simp[hk]
   simp only[List.contains_cons,hk',Bool.false_or]
   split
   ·exact ih
   ·simp only[lk,hk,if_false]
    exact ih
theorem get_only(ks:List Nat)(k:Nat):(σ.only ks).get k=if ks.contains k then σ.get k else .undef:=lk_sel σ.s k ks
theorem Rel.only(R:Rel base Z w0 w σ ts g)(ks:List Nat):Rel base Z w0 w (σ.only ks) ts g:=by
 refine⟨R.len,fun k=>?_,R.obj,R.nd,R.dj,R.frs,R.grew,R.bs,R.zz,R.zb,R.tb,R.pin⟩
 rw[get_only]
 split
 ·exact R.slot k
 ·trivial
def Gh.re(g:Gh)(σ:St):Gh:=⟨fun id _=>g.H id (σ.ob id).ver,g.F,g.Z⟩
theorem re_cell{c c':SC}{v:Value}(h:CellR w σ.V g c v)(hc:c.re σ=some c'):CellR w (fun id=>rv (σ.V id)) (g.re σ) c' v:=by
 unfold SC.re at hc
 split at hc
 ·split at hc<;>simp at hc
  rename_i hv
  subst hc hv
  simp only[CellR]at h ⊢
  exact⟨Nat.le_refl _,h.2⟩
 ·split at hc<;>simp at hc
  rename_i hv
  subst hc
  simp only[CellR]at h ⊢
  refine⟨?_,fun b hb=>by obtain⟨b0,hb0,rfl⟩:=List.mem_map.1 hb;have:=beq_iff_eq.1 (List.all_eq_true.1 hv b0 hb0);simp only[St.V,this];exact Nat.le_refl _⟩
  rw[h.1]
  congr 2
  rw[List.map_map]
  refine List.map_congr_left fun b hb=>?_
  have:=List.all_eq_true.1 hv b hb
  simp only[Function.comp,Gh.re]
  rw[beq_iff_eq.1 this]
 ·rename_i h1 h2
  simp at hc;subst hc
  cases c<;>first
   |exact h
   |exact(h1 _ _ _ _ _ rfl).elim
   |exact(h2 _ _ rfl).elim
theorem K7z:∀ {cs cs':List SC} {vs:List Value},CellsR w σ.V g cs vs→K1 (cs.map (SC.re σ))=some cs'→CellsR w (fun id=>rv (σ.V id)) (g.re σ) cs' vs
 | [],cs',[],_,h=>by simp[K1]at h;subst h;trivial
 |c::cs,cs',v::vs,hr,h=>by
  simp only[List.map_cons]at h
  cases hc:c.re σ with
  |none=>rw[hc]at h;simp[K1]at h
  |some c'=>
   rw[hc]at h
   simp only[K1]at h
   obtain⟨cs2,h2,rfl⟩:=Option.map_eq_some_iff.1 h
   exact⟨re_cell hr.1 hc,K7z hr.2 h2⟩
 | [],_,_::_,hr,_=>hr.elim
 |_::_,_,[],hr,_=>hr.elim
theorem re_val{a:Bool}{cs cs':List SC}{v:Value}(h:ValR w σ.V g a cs v)(hc:K1 (cs.map (SC.re σ))=some cs'):ValR w (fun id=>rv (σ.V id)) (g.re σ) a cs' v:=by
 unfold ValR at*
 cases a with
 |true=>simp only[if_true]at *;obtain⟨vs,hv,h⟩:=h;exact⟨vs,hv,K7z h hc⟩
 |false=>
  simp only[Bool.false_eq_true,if_false]at*
  obtain⟨c,rfl,h⟩:=h
  simp only[List.map_cons,List.map_nil]at hc
  cases hcc:c.re σ with
  |none=>rw[hcc]at hc;simp[K1]at hc
  |some c'=>
   rw[hcc]at hc
   simp[K1]at hc
   exact⟨c',hc.symm,re_cell h hcc⟩
theorem re_vals:∀ {xs:List (Bool×List SC)} {xs':List (Bool×List SC)} {vs:List Value},ValsR w σ.V g xs vs→K1 (xs.map fun v=>(K1 (v.2.map (SC.re σ))).map fun cs=>(v.1,cs))=some xs'→ValsR w (fun id=>rv (σ.V id)) (g.re σ) xs' vs
 | [],_,[],_,h=>by simp[K1]at h;subst h;trivial
 |x::xs,_,v::vs,hr,h=>by
  simp only[List.map_cons]at h
  cases hc:K1 (x.2.map (SC.re σ))with
  |none=>rw[hc]at h;simp[K1]at h
  |some c'=>
   rw[hc]at h
   simp only[Option.map_some,K1]at h
   obtain⟨cs2,h2,rfl⟩:=Option.map_eq_some_iff.1 h
   exact⟨re_val hr.1 hc,re_vals hr.2 h2⟩
 | [],_,_::_,hr,_=>hr.elim
 |_::_,_,[],hr,_=>hr.elim
theorem re_slot{s s':SV}{v:Value}(h:SlotR w σ.V g s v)(hs:s.re σ=some s'):SlotR w (fun id=>rv (σ.V id)) (g.re σ) s' v:=by
 cases s with
 |undef=>simp[SV.re]at hs;subst hs;trivial
 |skp=>simp[SV.re]at hs;subst hs;exact h
 |val a cs=>
  simp only[SV.re]at hs
  obtain⟨cs',h1,rfl⟩:=Option.map_eq_some_iff.1 hs
  exact re_val h h1
 |adr a=>
  simp only[SV.re]at hs
  obtain⟨a',h1,rfl⟩:=Option.map_eq_some_iff.1 hs
  simp only[SlotR]at h ⊢
  cases a with
  |bx id ver k=>
   simp only[Ad.re]at h1
   split at h1<;>simp at h1
   rename_i hv
   subst h1 hv
   exact⟨Nat.le_refl _,h.2⟩
  |el id ver sz i k=>
   simp only[Ad.re]at h1
   split at h1<;>simp at h1
   rename_i hv
   subst h1 hv
   exact⟨Nat.le_refl _,h.2⟩
  |ex bo sz es i k=>simp only[Ad.re,Option.some.injEq]at h1;subst h1;exact h
  |pb ts k=>simp only[Ad.re,Option.some.injEq]at h1;subst h1;exact h
 |tup vs=>
  simp only[SV.re]at hs
  obtain⟨vs',h1,rfl⟩:=Option.map_eq_some_iff.1 hs
  obtain⟨us,hv,h⟩:=h
  exact⟨us,hv,re_vals h h1⟩
 |arr id ver k n=>
  simp only[SV.re]at hs
  split at hs<;>simp at hs
  rename_i hv
  subst hs hv
  obtain⟨b,⟨h1,h2⟩,h3⟩:=h
  exact⟨b,⟨Nat.le_refl _,h2⟩,h3⟩
theorem K88{α β:Type}{f:α→Option β}:∀ {l:List α} {r:List β},K1 (l.map f)=some r→∀i:Nat,(l[i]?).bind f=r[i]?
 | [],r,h,i=>by simp[K1]at h;subst h;simp
 |a::l,r,h,i=>by
  simp only[List.map_cons]at h
  cases hf:f a with
  |none=>rw[hf]at h;simp[K1]at h
  |some b=>
   rw[hf]at h
   simp only[K1]at h
   obtain⟨r',h1,rfl⟩:=Option.map_eq_some_iff.1 h
   cases i with
   |zero=>simp[hf]
   |succ i=>simpa using K88 h1 i
theorem lk_re:∀ {l l':List (Nat×SV)},K1 (l.map fun x=>(x.2.re σ).map fun v=>(x.1,v))=some l'→∀k,(lk k l).re σ=some (lk k l')
 | [],l',h,k=>by simp[K1]at h;subst h;rfl
 |x::l,l',h,k=>by
  simp only[List.map_cons]at h
  cases hf:x.2.re σ with
  |none=>rw[hf]at h;simp[K1]at h
  |some b=>
   rw[hf]at h
   simp only[Option.map_some,K1]at h
   obtain⟨r',h1,rfl⟩:=Option.map_eq_some_iff.1 h
   simp only[lk]
   by_cases hk:k=x.1
   ·simp[hk,hf]
   ·simp[hk,lk_re h1 k]
theorem Rel.re(R:Rel base Z w0 w σ ts g)(h:σ.re=some σ'):Rel base Z w0 w σ' ts (g.re σ):=by
 unfold St.re at h
 obtain⟨s',hs,h⟩:=Option.bind_eq_some_iff.1 h
 obtain⟨o',ho,rfl⟩:=Option.map_eq_some_iff.1 h
 have hlen:=K3i ho
 simp at hlen
 have hob:∀id,(σ.ob id).re σ=some (St.ob ⟨s',σ.n,o'⟩ id):=by
  intro id
  have:=K88 ho id
  simp only[St.ob,List.getD_eq_getElem?_getD]
  cases h1:σ.o[id]? with
  |none=>
   rw[h1]at this
   simp at this
   simp[OV.re,this,rv]
  |some x=>
   rw[h1]at this
   simp only[Option.bind_some]at this
   simp only[Option.getD_some]
   have hid:id<o'.length:=by rw[←hlen];exact Kl h1
   rw[this]
   simp[hid]
 have hver:∀id,(St.ob ⟨s',σ.n,o'⟩ id).ver=rv (σ.ob id).ver:=by
  intro id
  have:=hob id
  unfold OV.re at this
  split at this
  ·obtain⟨_,_,h2⟩:=Option.map_eq_some_iff.1 this
   rw[←h2]
  ·simp at this
  ·simp at this
   rw[←this]
 have hV:St.V ⟨s',σ.n,o'⟩=fun id=>rv (σ.V id):=funext hver
 refine⟨R.len,fun k=>?_,fun id=>?_,R.nd,R.dj,R.frs,R.grew,R.bs,R.zz,R.zb,R.tb,fun id h=>?_⟩
 rotate_right
 ·have h1:σ.V id=1:=by
   rw[hV]at h
   simp only[rv]at h
   split at h
   ·assumption
   ·simp at h
  have:=R.pin id h1
  simp only[Gh.re]
  rw[←this]
  simp only[St.V]at h1
  rw[h1]
 ·rw[hV]
  exact re_slot (R.slot k) (lk_re hs k)
 ·rw[hV,hver]
  have h1:=hob id
  have h2:=R.obj id
  cases hoc:σ.ob id with
  |mk v oc=>
   rw[hoc]at h1 h2
   have hHv:∀u,(g.re σ).H id u=g.H id v:=by intro u;simp[Gh.re,hoc]
   cases oc with
   |none=>simp[OV.re]at h1;rw[←h1];exact h2
   |row dp sz es=>
    simp[OV.re]at h1;rw[←h1]
    simp only[ObjR]at h2 ⊢
    rw[hHv]
    exact h2
   |lent sz es=>
    simp[OV.re]at h1;rw[←h1]
    simp only[ObjR]at h2 ⊢
    rw[hHv]
    exact h2
   |box cs=>
    simp only[OV.re]at h1
    obtain⟨cs',h3,h4⟩:=Option.map_eq_some_iff.1 h1
    rw[←h4]
    simp only[ObjR]at h2 ⊢
    obtain⟨b,ty,vs,hH,hc,hr,hF⟩:=h2
    exact⟨b,ty,vs,by rw[hHv];exact hH,hc,K7z hr h3,hF⟩
   |hole sz es i k id2 v2=>simp[OV.re]at h1
end
end Go.Proofs.YtjneccbpkckdfaaGreatR
