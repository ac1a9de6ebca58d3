/- What the functions compute that the laws of FaultOf reach: contracts. Conditions stand in each theorem. -/
import Derived.Shelf.Sort.Plain
import Derived.Ground.Names2Prog
import Derived.Shelf.Slices.CompactI
import Derived.Shelf.Slices.In.SortNone
import Derived.Test.YtpeabgkoknjojaaGreatDoorTFaultOfa
set_option linter.unusedVariables false
set_option linter.unusedSimpArgs false
namespace Go.Proofs.YtpeabgkoknjojaaGreatDoorR
open Go Go.RowKit Go.Proofs
open Nat (reduceEqDiff reduceLT reduceLeDiff reduceAdd reduceMul)
open List (reduceReplicate)
namespace Srt
variable {α:Type} {lt:α→α→Bool}
theorem srt_at{l:List α}(h:srt lt l){i j:Nat}{x y:α}(hi:l[i]? =some x)(hj:l[j]? =some y)(hij:i<j):lt y x=false:=by
 obtain⟨h1,rfl⟩:=List.getElem?_eq_some_iff.1 hi
 obtain⟨h2,rfl⟩:=List.getElem?_eq_some_iff.1 hj
 exact(List.pairwise_iff_getElem.1 h) i j h1 h2 hij
theorem K38(hw:Swo lt){l:List α}(h:srt lt l){i j:Nat}{x y:α}(hi:l[i]? =some x)(hj:l[j]? =some y)(hij:i≤j):lt y x=false:=by
 rcases Nat.lt_or_eq_of_le hij with k|rfl
 ·exact srt_at h hi hj k
 ·obtain rfl:=Option.some.inj (hi.symm.trans hj)
  exact hw.irr x
theorem K30{l:List α}{u:Nat}{x:α}(h:x∈l.take u):∃i,i<u∧l[i]? =some x:=by
 obtain⟨i,hi⟩:=List.mem_iff_getElem?.1 h
 rw[List.getElem?_take]at hi
 split at hi
 ·exact⟨i,by assumption,hi⟩
 ·cases hi
theorem K3j{l:List α}{u:Nat}{x:α}(h:x∈l.drop u):∃i,u≤i∧l[i]? =some x:=by
 obtain⟨i,hi⟩:=List.mem_iff_getElem?.1 h
 rw[List.getElem?_drop]at hi
 exact⟨u+i,by omega,hi⟩
theorem Kbg{l:List α}{u:Nat}{x:α}(h:x∈(l.drop u).head?):l[u]? =some x:=by
 rw[List.head?_drop]at h
 exact h
theorem mrg_sym(hw:Swo lt){X Y:List α}(hX:srt lt X)(hY:srt lt Y){u M:Nat}(huX:u≤X.length)(huM:u≤M)
  (h1:u=0∨Y.length≤M-u∨∃y x,Y[M-u]? =some y∧X[u-1]? =some x∧lt y x=false)
  (h2:u=M∨u=X.length∨∃y x,Y[M-1-u]? =some y∧X[u]? =some x∧lt y x=true):
  mrg lt X Y=mrg lt (X.take u) (Y.take (M-u))++mrg lt (X.drop u) (Y.drop (M-u)):=by
 conv=>lhs;rw[←List.take_append_drop u X,←List.take_append_drop (M-u) Y]
 refine Kap ?_ ?_ ?_
 ·intro b hb a ha
  obtain⟨i,hi,eb⟩:=K30 hb
  have ea:=Kbg ha
  have hlt:=K9 ea
  rcases h2 with h2|h2|⟨y,x,e1,e2,h2⟩
  ·omega
  ·omega
  ·obtain rfl:=Option.some.inj (e2.symm.trans ea)
   exact hw.fl (K38 hw hY eb e1 (by omega)) h2
 ·intro b hb a ha
  obtain⟨i,hi,eb⟩:=K3j hb
  obtain⟨k,hk,ea⟩:=K30 ha
  have hlt:=K9 eb
  rcases h1 with h1|h1|⟨y,x,e1,e2,h1⟩
  ·omega
  ·omega
  ·have p1:=K38 hw hY e1 eb (by omega)
   have p2:=K38 hw hX ea e2 (by omega)
   exact hw.ntr (hw.ntr p1 h1) p2
 ·intro b hb a ha
  obtain⟨i,hi,eb⟩:=K3j hb
  obtain⟨k,hk,ea⟩:=K30 ha
  exact srt_at hY ea eb (by omega)
theorem mrg_one(hw:Swo lt){x:α}{Y:List α}(hY:srt lt Y){u:Nat}(h1:∀y∈Y.take u,lt y x=true)(h2:∀y∈Y.drop u,lt y x=false):mrg lt [x] Y=Y.take u++x::Y.drop u:=by
 have e:=Kap (lt:=lt) (A1:=[]) (A2:=[x]) (B1:=Y.take u) (B2:=Y.drop u) (by simpa using h1) (by simp) (by
  intro b hb a ha
  obtain⟨i,hi,eb⟩:=K3j hb
  obtain⟨k,hk,ea⟩:=K30 ha
  exact srt_at hY ea eb (by omega))
 rw[List.take_append_drop,List.nil_append]at e
 rw[e,mrg_nil_srt hw (srt_append.1 ((List.take_append_drop u Y).symm▸hY)).1]
 have e2:=K7p (lt:=lt) (A1:=[x]) (A2:=[]) (B:=Y.drop u) (by simpa using h2)
 rw[List.append_nil]at e2
 rw[e2,mrg_nil_srt hw (srt_append.1 ((List.take_append_drop u Y).symm▸hY)).2.1]
 rfl
theorem mrg_last{y:α}{X:List α}{u:Nat}(h1:∀z∈X.take u,lt y z=false)(h2:∀z∈X.drop u,lt y z=true):mrg lt X [y]=X.take u++y::X.drop u:=by
 have:=ins_mid (lt:=lt) (x:=y) h1 (fun z hz=>h2 z (List.mem_of_mem_head? hz))
 rw[List.take_append_drop]at this
 exact this
theorem lo_of(hw:Swo lt){Y:List α}(hY:srt lt Y){w:Nat}{x y:α}(e:Y[w]? =some y)(h:lt y x=true):∀z∈Y.take (w+1),lt z x=true:=fun z hz=>by
 obtain⟨i,hi,ez⟩:=K30 hz
 exact hw.fl (K38 hw hY ez e (by omega)) h
theorem hi_of(hw:Swo lt){Y:List α}(hY:srt lt Y){w:Nat}{x y:α}(e:Y[w]? =some y)(h:lt y x=false):∀z∈Y.drop w,lt z x=false:=fun z hz=>by
 obtain⟨i,hi,ez⟩:=K3j hz
 exact hw.ntr (K38 hw hY e ez hi) h
theorem lo_of'(hw:Swo lt){X:List α}(hX:srt lt X){w:Nat}{x y:α}(e:X[w]? =some x)(h:lt y x=false):∀z∈X.take (w+1),lt y z=false:=fun z hz=>by
 obtain⟨i,hi,ez⟩:=K30 hz
 exact hw.ntr h (K38 hw hX ez e (by omega))
theorem hi_of'(hw:Swo lt){X:List α}(hX:srt lt X){w:Nat}{x y:α}(e:X[w]? =some x)(h:lt y x=true):∀z∈X.drop w,lt y z=true:=fun z hz=>by
 obtain⟨i,hi,ez⟩:=K3j hz
 exact hw.lf h (K38 hw hX e ez hi)
end Srt
theorem shr1{k:Int}:(if (1:Int)<0 then none else some (Value.int IntKind.u64 (k.fdiv (2^min (Int.toNat 1) 64))))=some (Value.int IntKind.u64 (k.fdiv 2)):=by rw[if_neg (by decide)];rfl
theorem u64_wrap{n:Int}(h1:0≤n)(h2:n≤9223372036854775807):IntKind.u64.wrap n=n:=by
 simp only[IntKind.wrap,IntKind.signed,IntKind.bits,Bool.false_and,Bool.false_eq_true,if_false]
 omega
theorem K6h{i j:Nat}(h:i+j≤9223372036854775807):(IntKind.u64.wrap (IntKind.i64.wrap ((i:Int)+(j:Int)))).fdiv 2=(((i+j)/2:Nat):Int):=by
 rw[wN h,u64_wrap (by omega) (by omega),Int.fdiv_eq_ediv_of_nonneg _ (by omega)]
 omega
theorem wK{k:Nat}(h:k≤9223372036854775807):IntKind.i64.wrap (k:Int)=(k:Int):=wI (by omega) (by omega)
def SymI(lt:GFound→GFound→Bool)(X Y:List GFound)(M u0 v0 u v:Nat):Prop:=
 u0≤u∧u≤v∧v≤v0∧(u=0∨Y.length≤M-u∨∃y x,Y[M-u]? =some y∧X[u-1]? =some x∧lt y x=false)∧
  (v=M∨v=X.length∨∃y x,Y[M-1-v]? =some y∧X[v]? =some x∧lt y x=true)
theorem SymI.fin{lt:GFound→GFound→Bool}(hw:Srt.Swo lt){X Y:List GFound}{M u0 v0 u:Nat}(h:SymI lt X Y M u0 v0 u u)(hX:Srt.srt lt X)(hY:Srt.srt lt Y)(q2:v0≤M)(q3:v0≤X.length)(q4:M≤u0+Y.length):
  ∃A1 A2 B1 B2,X=A1++A2∧Y=B1++B2∧A1.length=u∧B1.length=M-u∧u≤M∧Srt.mrg lt X Y=Srt.mrg lt A1 B1++Srt.mrg lt A2 B2∧Srt.srt lt A1∧Srt.srt lt A2∧Srt.srt lt B1∧Srt.srt lt B2:=by
 obtain⟨h1,h2,h3,h4,h5⟩:=h
 have e:=Srt.mrg_sym hw hX hY (by omega) (by omega) h4 h5
 have sX:=Srt.srt_append.1 ((List.take_append_drop u X).symm▸hX)
 have sY:=Srt.srt_append.1 ((List.take_append_drop (M-u) Y).symm▸hY)
 exact⟨X.take u,X.drop u,Y.take (M-u),Y.drop (M-u),(List.take_append_drop _ _).symm,(List.take_append_drop _ _).symm,by simp;omega,by simp;omega,by omega,e,sX.1,sX.2.1,sY.1,sY.2.1⟩
theorem sym7{u l2 k l4 M:Nat}(hk:k=M-u)(huM:u≤M)(hM:M=(u+l2+(k+l4))/2)(hX:2≤u+l2)(hY:2≤k+l4):
  (0<u∧0<l2∧0<k∧0<l4)∨(u=0∧0<l2∧0<k∧0<l4)∨(0<u∧l2=0∧0<k∧0<l4)∨(0<u∧0<l2∧k=0∧0<l4)∨(0<u∧0<l2∧0<k∧l4=0)∨(u=0∧0<l2∧0<k∧l4=0)∨(0<u∧l2=0∧k=0∧0<l4):=by omega
theorem K6{i j:Nat}(k:Nat)(h:j=i+k)(hk:0<k):(i:Int)<(j:Int):=by omega
theorem K1c{i j:Nat}(k:Nat)(h:j=i+k)(hk:k=0):¬(i:Int)<(j:Int):=by omega
theorem symL(lt:GFound→GFound→Bool){P A1 A2 B1 B2 Q:List GFound}{a m b M u N n:Nat}(ha:P.length=a)(hA1:A1.length=u)(hB1:B1.length=M-u)(huM:u≤M)(hm:m=a+(A1++A2).length)(hb:b=m+(B1++B2).length)
  (hN:(P++(A1++A2)++(B1++B2)++Q).length=N) (hM:M=((A1++A2).length+(B1++B2).length)/2) (hn:(A1++A2).length+(B1++B2).length≤n+1) (h1:¬((m-a:Nat):Int)=1) (h2:¬((b-m:Nat):Int)=1) (hX:0<(A1++A2).length) (hY:0<(B1++B2).length):
  ((P++A1++B1++A2++(B2++Q)).length=N∧(P++A1++A2++B1++(B2++Q)).length=N∧(P++A1++B1++(A2++(B2++Q))).length=N∧(P++Srt.mrg lt A1 B1++A2++B2++Q).length=N∧(P++Srt.mrg lt A1 B1++(A2++(B2++Q))).length=N∧(P++Srt.mrg lt A1 B1++Srt.mrg lt A2 B2++Q).length=N)∧
  ((P++A1).length=a+u∧(P++A1++A2).length=m∧(P++A1++A2++B1).length=m+(M-u)∧(P++A1++B1).length=a+M∧(P++Srt.mrg lt A1 B1).length=a+M∧(P++Srt.mrg lt A1 B1++A2).length=m+(M-u)∧(P++Srt.mrg lt A1 B1++A2++B2).length=b)∧
  A1.length+B1.length≤n∧A2.length+B2.length≤n∧
  (m=a+u+A2.length∧m+(M-u)=m+B1.length∧a+u=a+A1.length∧a+M=a+u+B1.length∧m+(M-u)=a+M+A2.length∧b=m+(M-u)+B2.length)∧
  ((0<A1.length∧0<A2.length∧0<B1.length∧0<B2.length)∨(A1.length=0∧0<A2.length∧0<B1.length∧0<B2.length)∨(0<A1.length∧A2.length=0∧0<B1.length∧0<B2.length)∨(0<A1.length∧0<A2.length∧B1.length=0∧0<B2.length)∨(0<A1.length∧0<A2.length∧0<B1.length∧B2.length=0)∨(A1.length=0∧0<A2.length∧0<B1.length∧B2.length=0)∨(0<A1.length∧A2.length=0∧B1.length=0∧0<B2.length)):=by
 simp only[List.length_append,Srt.len_mrg]at*
 have h7:=sym7 (u:=A1.length) (l2:=A2.length) (k:=B1.length) (l4:=B2.length) (M:=M) (by omega) (by omega) (by omega) (by omega) (by omega)
 refine⟨⟨?_,?_,?_,?_,?_,?_⟩,⟨?_,?_,?_,?_,?_,?_,?_⟩,?_,?_,⟨?_,?_,?_,?_,?_,?_⟩,h7⟩<;>clear h7<;>omega
def M1k:MC:=
(.seq (Zs [mS 25 2,mS 26 1,bS 27 .sub 25 26,bC 28 .eql 27 1] [0,1,2,3,4,28] (.cond (.s 28) (Zs [mS 29 2,mS 10 29] [0,1,3,4,10] (Zs [mS 30 3,mS 11 30] [0,1,4,10,11] (.seq (.block 0 (.loop ([0,1,4,10,11],[]) (.seq (Zs [mS 31 10,mS 32 11,bS 33 .lss 31 32] [0,1,4,10,11,33] (cX 33 0))
(.block 1 (Zs [mS 34 10,mS 35 11,bS 36 .add 34 35,.convI 37 .u64 (.s 36),.bin 38 false .shr (.s 37) (.c (.int .u64 1)),.convI 39 .i64 (.s 38),mS 12 39] [0,1,4,10,11,12] (.seq (.dreg [Zc [41,42,43,44,45,46,47,48] (mS 40 4),Zc [40,42,45,46,47,48] (mS 41 0),Zc [40,41,45,46,47,48] (mS 42 12),Zd [40,45,46,47,48] [1,2] (xS 43 6 41 42),Zd [40,45,46,47,48] [1,2,3] (lT 44 6 43),Zc [40,41,42,43,44,46] (mS 45 0),Zc [40,41,42,43,44,45] (mS 46 1),Zd [40,41,42,43,44] [5,6] (xS 47 6 45 46),Zd [40,41,42,43,44] [5,6,7] (lT 48 6 47),Ze (.range 9) (.call 49 [] (.s 40) [.s 44,.s 48]),Ze (.range 10) (bC 50 .lss 49 0)] [0,1,4,10,11,12,50])
(.cond (.s 50) (pr [mS 51 12,bC 52 .add 51 1,mS 10 52] [0,1,4,10,11]) (pr [mS 53 12,mS 11 53] [0,1,4,10,11]))))))))
(.seq (Zs [mS 54 1,mS 13 54] [0,10,13] (.block 2 (.loop ([0,10,13],[]) (.seq (Zs [mS 55 13,mS 56 10,bC 57 .sub 56 1,bS 58 .lss 55 57] [0,10,13,58] (cX 58 2))
(.seq (.block 3 (.dreg [Zc [62,63,64,65,66,67,68,69,70,71,72,73,74] (mS 61 0),Zc [61,63,64,65,66,67,68,69,70,71,72,73,74] (mS 62 13),Zf [61,62,64,65,66,67,68,69,70,71,72,73,74,75] [0] (mS 63 0),Zf [61,62,63,66,67,68,69,70,71,72,73,74,75] [0] (mS 64 13),Zg [61,62,63,66,67,68,69,70,71,72,73,74,75] [0] [3] (bC 65 .add 64 1),Zc [61,62,63,64,65,67,68,71,72,73,74] (mS 66 0),Zc [61,62,63,64,65,66,71,72,73,74] (mS 67 13),Zd [61,62,63,64,65,66,71,72,73,74] [6] (bC 68 .add 67 1),Zd [61,62,63,64,65,71,72,73,74] [5,6,7] (xS 69 6 66 68),Zd [61,62,63,64,65,71,72,73,74] [5,6,7,8] (lT 70 6 69),Zc [61,62,63,64,65,66,67,68,69,70,72] (mS 71 0),Zc [61,62,63,64,65,66,67,68,69,70,71] (mS 72 13),Zd [61,62,63,64,65,66,67,68,69,70] [10,11] (xS 73 6 71 72),Zd [61,62,63,64,65,66,67,68,69,70] [10,11,12] (lT 74 6 73),Zd [63,64,65] [0,1,5,6,7,8,9,10,11,12,13] (xS 75 6 61 62),{o:=sS 6 75 70,hs:=[63,64,65],ws:=[0],bf:=[0,1,5,6,7,8,9,10,11,12,13,14]},Ze (.range 16) (xS 76 6 63 65),{o:=sS 6 76 74,ws:=[0],bf:=(.range 17)}] [0,10,13]))
(pr [mS 59 13,bC 60 .add 59 1,mS 13 60] [0,10,13]))))))
.ret)))) .skip))
(.seq (Zs [mS 77 3,mS 78 2,bS 79 .sub 77 78,bC 80 .eql 79 1] [0,1,2,3,4,80] (.cond (.s 80) (Zs [mS 81 1,mS 14 81] [0,2,4,14] (Zs [mS 82 2,mS 15 82] [0,2,4,14,15] (.seq (.block 4 (.loop ([0,2,4,14,15],[]) (.seq (Zs [mS 83 14,mS 84 15,bS 85 .lss 83 84] [0,2,4,14,15,85] (cX 85 4))
(.block 5 (Zs [mS 86 14,mS 87 15,bS 88 .add 86 87,.convI 89 .u64 (.s 88),.bin 90 false .shr (.s 89) (.c (.int .u64 1)),.convI 91 .i64 (.s 90),mS 16 91] [0,2,4,14,15,16] (.seq (.dreg [Zc [93,94,95,96,97,98,99,100] (mS 92 4),Zc [92,94,97,98,99,100] (mS 93 0),Zc [92,93,97,98,99,100] (mS 94 2),Zd [92,97,98,99,100] [1,2] (xS 95 6 93 94),Zd [92,97,98,99,100] [1,2,3] (lT 96 6 95),Zc [92,93,94,95,96,98] (mS 97 0),Zc [92,93,94,95,96,97] (mS 98 16),Zd [92,93,94,95,96] [5,6] (xS 99 6 97 98),Zd [92,93,94,95,96] [5,6,7] (lT 100 6 99),Ze (.range 9) (.call 101 [] (.s 92) [.s 96,.s 100]),Ze (.range 10) (bC 102 .lss 101 0),Ze (.range 11) (.un 103 .not (.s 102))] [0,2,4,14,15,16,103])
(.cond (.s 103) (pr [mS 104 16,bC 105 .add 104 1,mS 14 105] [0,2,4,14,15]) (pr [mS 106 16,mS 15 106] [0,2,4,14,15]))))))))
(.seq (Zs [mS 107 2,mS 17 107] [0,14,17] (.block 6 (.loop ([0,14,17],[]) (.seq (Zs [mS 108 17,mS 109 14,bS 110 .gtr 108 109] [0,14,17,110] (cX 110 6))
(.seq (.block 7 (.dreg [Zc [114,115,116,117,118,119,120,121,122,123,124,125,126] (mS 113 0),Zc [113,115,116,117,118,119,120,121,122,123,124,125,126] (mS 114 17),Zf [113,114,116,117,118,119,120,121,122,123,124,125,126,127] [0] (mS 115 0),Zf [113,114,115,118,119,120,121,122,123,124,125,126,127] [0] (mS 116 17),Zg [113,114,115,118,119,120,121,122,123,124,125,126,127] [0] [3] (bC 117 .sub 116 1),Zc [113,114,115,116,117,119,120,123,124,125,126] (mS 118 0),Zc [113,114,115,116,117,118,123,124,125,126] (mS 119 17),Zd [113,114,115,116,117,118,123,124,125,126] [6] (bC 120 .sub 119 1),Zd [113,114,115,116,117,123,124,125,126] [5,6,7] (xS 121 6 118 120),Zd [113,114,115,116,117,123,124,125,126] [5,6,7,8] (lT 122 6 121),Zc [113,114,115,116,117,118,119,120,121,122,124] (mS 123 0),Zc [113,114,115,116,117,118,119,120,121,122,123] (mS 124 17),Zd [113,114,115,116,117,118,119,120,121,122] [10,11] (xS 125 6 123 124),Zd [113,114,115,116,117,118,119,120,121,122] [10,11,12] (lT 126 6 125),Zd [115,116,117] [0,1,5,6,7,8,9,10,11,12,13] (xS 127 6 113 114),{o:=sS 6 127 122,hs:=[115,116,117],ws:=[0],bf:=[0,1,5,6,7,8,9,10,11,12,13,14]},Ze (.range 16) (xS 128 6 115 117),{o:=sS 6 128 126,ws:=[0],bf:=(.range 17)}] [0,14,17]))
(pr [mS 111 17,bC 112 .sub 111 1,mS 17 112] [0,14,17]))))))
.ret)))) .skip))
(Zs [mS 129 1,mS 130 3,bS 131 .add 129 130,.convI 132 .u64 (.s 131),.bin 133 false .shr (.s 132) (.c (.int .u64 1)),.convI 134 .i64 (.s 133),mS 18 134] [0,1,2,3,4,18] (Zs [mS 135 18,mS 136 2,bS 137 .add 135 136,mS 19 137] [0,1,2,3,4,18,19] (Zs [.mv 20 (ci 0),.mv 21 (ci 0)] [0,1,2,3,4,18,19] (.seq (Zs [mS 138 2,mS 139 18,bS 140 .gtr 138 139] [0,1,2,3,4,18,19,140] (.cond (.s 140) (Zs [mS 141 19,mS 142 3,bS 143 .sub 141 142,mS 20 143] [0,1,2,3,4,18,19,20] (pr [mS 144 18,mS 21 144] [0,1,2,3,4,18,19,20,21])) (Zs [mS 145 1,mS 20 145] [0,1,2,3,4,18,19,20] (pr [mS 146 2,mS 21 146] [0,1,2,3,4,18,19,20,21]))))
(Zs [mS 147 19,bC 148 .sub 147 1,mS 22 148] [0,1,2,3,4,18,19,20,21,22] (.seq (.block 8 (.loop ([0,1,2,3,4,18,19,20,21,22],[]) (.seq (Zs [mS 149 20,mS 150 21,bS 151 .lss 149 150] [0,1,2,3,4,18,19,20,21,22,151] (cX 151 8))
(.block 9 (Zs [mS 152 20,mS 153 21,bS 154 .add 152 153,.convI 155 .u64 (.s 154),.bin 156 false .shr (.s 155) (.c (.int .u64 1)),.convI 157 .i64 (.s 156),mS 23 157] [0,1,2,3,4,18,19,20,21,22,23] (.seq (.dreg [Zc [159,160,161,162,163,164,165,166,167,168] (mS 158 4),Zc [158,160,161,162,165,166,167,168] (mS 159 0),Zc [158,159,161,165,166,167,168] (mS 160 22),Zc [158,159,160,165,166,167,168] (mS 161 23),Zd [158,159,165,166,167,168] [2,3] (bS 162 .sub 160 161),Zd [158,165,166,167,168] [1,2,3,4] (xS 163 6 159 162),Zd [158,165,166,167,168] [1,2,3,4,5] (lT 164 6 163),Zc [158,159,160,161,162,163,164,166] (mS 165 0),Zc [158,159,160,161,162,163,164,165] (mS 166 23),Zd [158,159,160,161,162,163,164] [7,8] (xS 167 6 165 166),Zd [158,159,160,161,162,163,164] [7,8,9] (lT 168 6 167),Ze (.range 11) (.call 169 [] (.s 158) [.s 164,.s 168]),Ze (.range 12) (bC 170 .lss 169 0),Ze (.range 13) (.un 171 .not (.s 170))] [0,1,2,3,4,18,19,20,21,22,23,171])
(.cond (.s 171) (pr [mS 172 23,bC 173 .add 172 1,mS 20 173] [0,1,2,3,4,18,19,20,21,22]) (pr [mS 174 23,mS 21 174] [0,1,2,3,4,18,19,20,21,22]))))))))
(Zs [mS 175 19,mS 176 20,bS 177 .sub 175 176,mS 24 177] [0,1,2,3,4,18,20,24] (.seq (.seq (.reg [Za (mS 178 20),Za (mS 179 2),Za (bS 180 .lss 178 179),Za (mS 181 180),Zb 181 true (mS 182 2),Zb 181 true (mS 183 24),Zb 181 true (bS 184 .lss 182 183),Za (.pick 185 (.s 181) (.s 184) cF)] [0,1,2,3,4,18,20,24,185])
(.cond (.s 185) (pr [mS 186 0,mS 187 20,mS 188 2,mS 189 24,mS 190 4,.callI 191 [] (.f N1s) [.s 186,.s 187,.s 188,.s 189,.s 190] [0] []] [0,1,3,4,18,20,24]) .skip))
(.seq (.seq (.reg [Za (mS 192 1),Za (mS 193 20),Za (bS 194 .lss 192 193),Za (mS 195 194),Zb 195 true (mS 196 20),Zb 195 true (mS 197 18),Zb 195 true (bS 198 .lss 196 197),Za (.pick 199 (.s 195) (.s 198) cF)] [0,1,3,4,18,20,24,199])
(.cond (.s 199) (pr [mS 200 0,mS 201 1,mS 202 20,mS 203 18,mS 204 4,.callI 205 [] (.f N5) [.s 200,.s 201,.s 202,.s 203,.s 204] [0] []] [0,3,4,18,24]) .skip))
(.seq (.reg [Za (mS 206 18),Za (mS 207 24),Za (bS 208 .lss 206 207),Za (mS 209 208),Zb 209 true (mS 210 24),Zb 209 true (mS 211 3),Zb 209 true (bS 212 .lss 210 211),Za (.pick 213 (.s 209) (.s 212) cF)] [0,3,4,18,24,213])
(.cond (.s 213) (pr [mS 214 0,mS 215 18,mS 216 24,mS 217 3,mS 218 4,.callI 219 [] (.f N5) [.s 214,.s 215,.s 216,.s 217,.s 218] [0] []] []) .skip)))))))))))))
set_option maxHeartbeats 4000000 in
theorem C35(f:FuncId)(c:GFound→GFound→Int)(hc:∀x y,Ctr Tryz.prog f [aS x.enc,aS y.enc] [rI (c x y)])(hw:Srt.Swo (ltc c))(n:Nat):∀(P X Y Q:List GFound) {a m b:Nat},X.length+Y.length≤n→P.length=a→(P++X).length=m→(P++X++Y).length=b→0<X.length→0<Y.length→Srt.srt (ltc c) X→Srt.srt (ltc c) Y→
  CtrI Tryz.prog N5 [oL 6 ((P++X++Y++Q).map GFound.enc),iI a,iI m,iI b,fI f] [some (6,(P++Srt.mrg (ltc c) X Y++Q).map GFound.enc)] []:=by
 induction n with
 |zero=>intro P X Y Q a m b hn _ _ _ hX;omega
 |succ n ih=>
  intro P X Y Q a m b hn ha hm hb hX hY sX sY
  have hN2:(P++Srt.mrg (ltc c) X Y++Q).length=(P++X++Y++Q).length:=by simp[Srt.len_mrg];omega
  refine K56 (M:=M1k) (m:=0) (n:=220) (res:=[]) hmix Tryz.func254 rfl (by kernel_rfl) rfl (by kernel_rfl) (by kernel_rfl) (Nat.le_of_ble_eq_true rfl) rfl rfl ?_;unfold M1k
  intro hbd
  have hl:=K3x hbd
  clear hbd
  have hm':m=a+X.length:=by rw[←hm,←ha];simp
  have hb':b=m+Y.length:=by rw[←hb,←hm];simp;omega
  have hbN:b≤(P++X++Y++Q).length:=by rw[List.length_append,hb];omega
  generalize hN:(P++X++Y++Q).length=N at*
  simp only[roomB]at hl
  simp only[go_sem,hN,wS (a:=m) (b:=a) (by omega) (by omega)]
  refine⟨fun h1=>?_,fun h1=>?_⟩
  ·obtain⟨x,rfl⟩:∃x,X=[x]:=List.length_eq_one_iff.1 (by omega)
   simp only[List.length_cons,List.length_nil]at hm' hn
   have hxa:(P++[x]++Y++Q)[a]? =some x:=by rw[←ha];simp
   have hya:∀w,w<Y.length→(P++[x]++Y++Q)[m+w]? =Y[w]? :=fun w hw=>by
    rw[List.append_assoc,List.getElem?_append_right (by simp;omega),List.getElem?_append_left (by simp;omega)]
    congr 1;simp;omega
   refine Kq (ι:=Nat×Nat) (fun s=>[(10,vI ((m+s.1:Nat):Int)),(11,vI ((m+s.2:Nat):Int))]) (fun s=>[]) (fun s=>s.1≤s.2∧s.2≤Y.length∧(∀y∈Y.take s.1,ltc c y x=true)∧(∀y∈Y.drop s.2,ltc c y x=false)) (fun s=>s.2-s.1) (0,Y.length) ?_
   simp only[go_sem]
   refine⟨?_,⟨by omega,by omega,by simp,by simp⟩,?_⟩
   ·simp only[go_sem]
    exact⟨by omega,by omega⟩
   ·rintro ⟨u,v⟩ ⟨i1,i2,i3,i4⟩
    simp only at i1 i2 i3 i4
    simp only[go_sem,hN,shr1,K6h (i:=m+u) (j:=m+v) (by omega)]
    refine⟨fun hlt=>?_,fun hge=>?_⟩
    ·have hwx:(m+u+(m+v))/2=m+(u+v)/2:=by omega
     have w1:u≤(u+v)/2:=by omega
     have w2:(u+v)/2<v:=by omega
     rw[hwx]
     generalize (u+v)/2=w at w1 w2
     obtain⟨y,hy⟩:=K5 (show w<Y.length by omega)
     have hyw:=(hya w (by omega)).trans hy
     have k1:(0:Int)≤((m+w:Nat):Int):=by omega
     have k2:((m+w:Nat):Int)<(N:Int):=by omega
     have k3:(0:Int)≤(a:Int):=by omega
     have k4:(a:Int)<(N:Int):=by omega
     simp only[go_sem,wK (k:=m+w) (by omega),k1,k2,k3,k4,K1 hyw,K1 hxa]
     apply K0 (hc y x)
     simp only[go_sem,wN1 (a:=m+w) (by omega)]
     intro _
     refine⟨fun hn=>⟨(w+1,v),⟨rfl,rfl⟩,⟨by omega,i2,Srt.lo_of hw sY hy (by simpa[ltc]using hn),i4⟩,by omega⟩,fun hn=>⟨(u,w),⟨rfl,rfl⟩,⟨w1,by omega,i3,Srt.hi_of hw sY hy (by simpa[ltc]using hn)⟩,by omega⟩⟩
    ·obtain rfl:u=v:=by omega
     have hres:=Srt.mrg_one hw sY i3 i4
     have hlt:∀t,(P++(Y.take t++x::Y.drop t)++Q).length=N:=fun t=>by rw[←hN];simp;omega
     refine Kq (fun t:Nat=>[(13,vI ((a+t:Nat):Int))]) (fun t=>[(0,⟨1,.row true 6 ((P++(Y.take t++x::Y.drop t)++Q).map GFound.enc)⟩)]) (fun t=>t≤u) (fun t=>u-t) 0 ?_
     simp only[go_sem]
     refine⟨?_,by omega,?_⟩
     ·simp only[go_sem]
      simp
     ·intro t ht
      have hs1:IntKind.i64.wrap (((m+u:Nat):Int)-1)=((a+u:Nat):Int):=by
       rw[wI (by omega) (by omega)];omega
      by_cases htu:t<u
      ·obtain⟨y,hy⟩:=K5 (show t<Y.length by omega)
       have e1:(P++(Y.take t++x::Y.drop t)++Q).map GFound.enc=two ((P++Y.take t).map GFound.enc) x.enc [] y.enc ((Y.drop (t+1)++Q).map GFound.enc):=by simp[two,K1t hy]
       have e2:(P++(Y.take (t+1)++x::Y.drop (t+1))++Q).map GFound.enc=two ((P++Y.take t).map GFound.enc) y.enc [] x.enc ((Y.drop (t+1)++Q).map GFound.enc):=by simp[two,K8 hy]
       have hA:((P++Y.take t).map GFound.enc).length=a+t:=by simp;omega
       have hL0:∀p q,(two ((P++Y.take t).map GFound.enc) p [] q ((Y.drop (t+1)++Q).map GFound.enc)).length=N:=fun p q=>by
        rw[←hlt t];simp[two,K1t hy]
       generalize (P++Y.take t).map GFound.enc=A at*
       generalize (Y.drop (t+1)++Q).map GFound.enc=C at*
       obtain⟨g1,g2,s1,s2,hL,d1,d2⟩:=K9x (A:=A) (B:=[]) (C:=C) (p:=a+t) (q:=a+t+1) hA (by simp)
       have k1:(0:Int)≤((a+t:Nat):Int):=by omega
       have k2:((a+t:Nat):Int)<(N:Int):=by omega
       have k3:(0:Int)≤((a+t+1:Nat):Int):=by omega
       have k4:((a+t+1:Nat):Int)<(N:Int):=by omega
       have k5:((a+t:Nat):Int)<((a+u:Nat):Int):=by omega
       rw[e1]
       simp only[go_sem,hs1,hL0,g1,g2,s1,s2,k1,k2,k3,k4,k5,wN1 (a:=a+t) (by omega)]
       exact⟨t+1,⟨rfl,e2.symm⟩,by omega,by omega⟩
      ·obtain rfl:t=u:=by omega
       simp only[go_sem,hs1]
       rw[hres]
  ·simp only[go_sem,wS (a:=b) (b:=m) (by omega) (by omega)]
   refine⟨fun h2=>?_,fun h2=>?_⟩
   ·obtain⟨y,rfl⟩:∃y,Y=[y]:=List.length_eq_one_iff.1 (by omega)
    simp only[List.length_cons,List.length_nil]at hb' hn
    have hym:(P++X++[y]++Q)[m]? =some y:=by rw[←hm];simp
    have hxa:∀w,w<X.length→(P++X++[y]++Q)[a+w]? =X[w]? :=fun w hw=>by
     rw[List.append_assoc,List.append_assoc,List.getElem?_append_right (by omega),List.getElem?_append_left (by omega)]
     congr 1;omega
    refine Kq (ι:=Nat×Nat) (fun s=>[(14,vI ((a+s.1:Nat):Int)),(15,vI ((a+s.2:Nat):Int))]) (fun s=>[]) (fun s=>s.1≤s.2∧s.2≤X.length∧(∀z∈X.take s.1,ltc c y z=false)∧(∀z∈X.drop s.2,ltc c y z=true)) (fun s=>s.2-s.1) (0,X.length) ?_
    simp only[go_sem]
    refine⟨?_,⟨by omega,by omega,by simp,by simp⟩,?_⟩
    ·simp only[go_sem]
     exact⟨by omega,by omega⟩
    ·rintro ⟨u,v⟩ ⟨i1,i2,i3,i4⟩
     simp only at i1 i2 i3 i4
     simp only[go_sem,hN,shr1,K6h (i:=a+u) (j:=a+v) (by omega)]
     refine⟨fun hlt=>?_,fun hge=>?_⟩
     ·have hwx:(a+u+(a+v))/2=a+(u+v)/2:=by omega
      have w1:u≤(u+v)/2:=by omega
      have w2:(u+v)/2<v:=by omega
      rw[hwx]
      generalize (u+v)/2=w at w1 w2
      obtain⟨x,hx⟩:=K5 (show w<X.length by omega)
      have hxw:=(hxa w (by omega)).trans hx
      have k1:(0:Int)≤((a+w:Nat):Int):=by omega
      have k2:((a+w:Nat):Int)<(N:Int):=by omega
      have k3:(0:Int)≤(m:Int):=by omega
      have k4:(m:Int)<(N:Int):=by omega
      simp only[go_sem,wK (k:=a+w) (by omega),k1,k2,k3,k4,K1 hxw,K1 hym]
      apply K0 (hc y x)
      simp only[go_sem,wN1 (a:=a+w) (by omega)]
      intro _
      refine⟨fun hn=>⟨(w+1,v),⟨rfl,rfl⟩,⟨by omega,i2,Srt.lo_of' hw sX hx (by simpa[ltc]using hn),i4⟩,by omega⟩,fun hn=>⟨(u,w),⟨rfl,rfl⟩,⟨w1,by omega,i3,Srt.hi_of' hw sX hx (by simpa[ltc]using hn)⟩,by omega⟩⟩
     ·obtain rfl:u=v:=by omega
      have hres:=Srt.mrg_last i3 i4
      have hlt:∀t,(P++(X.take t++y::X.drop t)++Q).length=N:=fun t=>by rw[←hN];simp;omega
      refine Kq (fun t:Nat=>[(17,vI ((a+t:Nat):Int))]) (fun t=>[(0,⟨1,.row true 6 ((P++(X.take t++y::X.drop t)++Q).map GFound.enc)⟩)]) (fun t=>u≤t∧t≤X.length) (fun t=>t-u) X.length ?_
      simp only[go_sem]
      refine⟨?_,⟨i2,by omega⟩,?_⟩
      ·simp only[go_sem,hm']
       simp
      ·rintro t ⟨ht,ht2⟩
       by_cases htu:u<t
       ·obtain⟨t,rfl⟩:∃s,t=s+1:=⟨t-1,by omega⟩
        obtain⟨x,hx⟩:=K5 (show t<X.length by omega)
        have e1:(P++(X.take (t+1)++y::X.drop (t+1))++Q).map GFound.enc=two ((P++X.take t).map GFound.enc) x.enc [] y.enc ((X.drop (t+1)++Q).map GFound.enc):=by simp[two,K8 hx]
        have e2:(P++(X.take t++y::X.drop t)++Q).map GFound.enc=two ((P++X.take t).map GFound.enc) y.enc [] x.enc ((X.drop (t+1)++Q).map GFound.enc):=by simp[two,K1t hx]
        have hA:((P++X.take t).map GFound.enc).length=a+t:=by simp;omega
        have hL0:∀p q,(two ((P++X.take t).map GFound.enc) p [] q ((X.drop (t+1)++Q).map GFound.enc)).length=N:=fun p q=>by
         rw[←hlt t];simp[two,K1t hx]
        generalize (P++X.take t).map GFound.enc=A at*
        generalize (X.drop (t+1)++Q).map GFound.enc=C at*
        obtain⟨g1,g2,s1,s2,hL,d1,d2⟩:=K9x (A:=A) (B:=[]) (C:=C) (p:=a+t) (q:=a+t+1) hA (by simp)
        have k1:(0:Int)≤((a+t:Nat):Int):=by omega
        have k2:((a+t:Nat):Int)<(N:Int):=by omega
        have k3:(0:Int)≤((a+t+1:Nat):Int):=by omega
        have k4:((a+t+1:Nat):Int)<(N:Int):=by omega
        have k5:((a+t+1:Nat):Int)>((a+u:Nat):Int):=by omega
        have k6:IntKind.i64.wrap (((a+t+1:Nat):Int)-1)=((a+t:Nat):Int):=by
         rw[wI (by omega) (by omega)];omega
        rw[e1,show a+(t+1)=a+t+1 from rfl]
        simp only[go_sem,hL0,g1,g2,s1,s2,k1,k2,k3,k4,k5,k6]
        exact⟨t,⟨rfl,e2.symm⟩,⟨by omega,by omega⟩,by omega⟩
       ·obtain rfl:t=u:=by omega
        simp only[go_sem]
        rw[hres]
   ·obtain⟨M,hM⟩:∃M,M=(X.length+Y.length)/2:=⟨_,rfl⟩
    have hmid:(a+b)/2=a+M:=by omega
    have hxa:∀w,w<X.length→(P++X++Y++Q)[a+w]? =X[w]? :=fun w hw=>by
     rw[List.append_assoc,List.append_assoc,List.getElem?_append_right (by omega),List.getElem?_append_left (by omega)]
     congr 1;omega
    have hya:∀w,w<Y.length→(P++X++Y++Q)[m+w]? =Y[w]? :=fun w hw=>by
     rw[List.append_assoc,List.getElem?_append_right (by omega),List.getElem?_append_left (by omega)]
     congr 1;omega
    simp only[go_sem,shr1,K6h (i:=a) (j:=b) (by omega),hmid,wK (k:=a+M) (by omega),wN (a:=a+M) (b:=m) (by omega)]
    refine⟨fun h3=>?_,fun h3=>?_⟩
    ·have hs:IntKind.i64.wrap (((a+M+m:Nat):Int)-(b:Int))=((a+(M-Y.length):Nat):Int):=by
      rw[wI (by omega) (by omega)];omega
     simp only[go_sem,hs,wS1 (a:=a+M+m) (by omega) (by omega)]
     obtain⟨u0,hu0⟩:∃u,u=M-Y.length:=⟨_,rfl⟩
     obtain⟨v0,hv0⟩:∃v,v=M:=⟨_,rfl⟩
     rw[←hu0]
     have q1:u0≤v0:=by omega
     have q2:v0≤M:=by omega
     have q3:v0≤X.length:=by omega
     have q4:M≤u0+Y.length:=by omega
     have q5:u0=0∨Y.length≤M-u0:=by omega
     have q6:v0=M∨v0=X.length:=by omega
     have q7:a+M=a+v0:=by omega
     refine Kq (ι:=Nat×Nat) (fun s=>[(20,vI ((a+s.1:Nat):Int)),(21,vI ((a+s.2:Nat):Int))]) (fun s=>[]) (fun s=>SymI (ltc c) X Y M u0 v0 s.1 s.2) (fun s=>s.2-s.1) (u0,v0) ?_
     simp only[go_sem]
     refine⟨?_,⟨by omega,q1,by omega,q5.imp_right .inl,q6.imp_right .inl⟩,?_⟩
     ·simp only[go_sem]
      first|exact⟨by omega,by omega⟩|omega
     ·rintro ⟨u,v⟩ hI
      obtain⟨i1,i2,i3,i4,i5⟩:=hI
      simp only at i1 i2 i3 i4 i5
      simp only[go_sem,hN,shr1,K6h (i:=a+u) (j:=a+v) (by omega)]
      refine⟨fun hlt=>?_,fun hge=>?_⟩
      ·have hwx:(a+u+(a+v))/2=a+(u+v)/2:=by omega
       have w1:u≤(u+v)/2:=by omega
       have w2:(u+v)/2<v:=by omega
       rw[hwx]
       generalize (u+v)/2=w at w1 w2
       have hpc:IntKind.i64.wrap (((a+M+m-1:Nat):Int)-((a+w:Nat):Int))=((m+(M-1-w):Nat):Int):=by
        rw[wI (by omega) (by omega)];omega
       obtain⟨x,hx⟩:=K5 (show w<X.length by omega)
       obtain⟨y,hy⟩:=K5 (show M-1-w<Y.length by omega)
       have hxw:=(hxa w (by omega)).trans hx
       have hyw:=(hya (M-1-w) (by omega)).trans hy
       have k1:(0:Int)≤((a+w:Nat):Int):=by omega
       have k2:((a+w:Nat):Int)<(N:Int):=by omega
       have k3:(0:Int)≤((m+(M-1-w):Nat):Int):=by omega
       have k4:((m+(M-1-w):Nat):Int)<(N:Int):=by omega
       simp only[go_sem,wK (k:=a+w) (by omega),hpc,k1,k2,k3,k4,K1 hxw,K1 hyw]
       apply K0 (hc y x)
       simp only[go_sem,wN1 (a:=a+w) (by omega)]
       intro _
       refine⟨fun hn=>⟨(w+1,v),⟨rfl,rfl⟩,⟨by omega,by omega,i3,.inr (.inr ⟨y,x,by rw[show M-(w+1)=M-1-w by omega];exact hy,hx,by simpa[ltc]using hn⟩),i5⟩,by show v-(w+1)<v-u;omega⟩,fun hn=>⟨(u,w),⟨rfl,rfl⟩,⟨i1,w1,by omega,i4,.inr (.inr ⟨y,x,hy,hx,by simpa[ltc]using hn⟩)⟩,by show w-u<v-u;omega⟩⟩
      ·obtain rfl:u=v:=by omega
       obtain⟨A1,A2,B1,B2,rfl,rfl,hA1,hB1,huM,hres,t1,t2,t3,t4⟩:=SymI.fin hw ⟨i1,i2,i3,i4,i5⟩ sX sY q2 q3 q4
       have hend:IntKind.i64.wrap (((a+M+m:Nat):Int)-((a+u:Nat):Int))=((m+(M-u):Nat):Int):=by
        rw[wI (by omega) (by omega)];omega
       have r0:P++(A1++A2)++(B1++B2)++Q=(P++A1)++A2++B1++(B2++Q):=by simp
       have r1:(P++A1)++B1++A2++(B2++Q)=P++A1++B1++(A2++(B2++Q)):=by simp
       have r2:A2.length=0∨B1.length=0→P++(A1++A2)++(B1++B2)++Q=P++A1++B1++(A2++(B2++Q)):=fun h=>by
        rcases h with h|h
        ·rw[List.length_eq_zero_iff.1 h];simp
        ·rw[List.length_eq_zero_iff.1 h];simp
       have r3:A1.length=0∨B1.length=0→P++A1++B1++(A2++(B2++Q))=(P++Srt.mrg (ltc c) A1 B1)++A2++B2++Q:=fun h=>by
        rcases h with h|h
        ·rw[List.length_eq_zero_iff.1 h,Srt.mrg_nil_srt hw t3];simp
        ·rw[List.length_eq_zero_iff.1 h,Srt.mrg_nil];simp
       have r4:P++Srt.mrg (ltc c) A1 B1++(A2++(B2++Q))=(P++Srt.mrg (ltc c) A1 B1)++A2++B2++Q:=by simp
       have r5:A2.length=0∨B2.length=0→(P++Srt.mrg (ltc c) A1 B1)++A2++B2++Q=(P++Srt.mrg (ltc c) A1 B1)++Srt.mrg (ltc c) A2 B2++Q:=fun h=>by
        rcases h with h|h
        ·rw[List.length_eq_zero_iff.1 h,Srt.mrg_nil_srt hw t4];simp
        ·rw[List.length_eq_zero_iff.1 h,Srt.mrg_nil];simp
       have r6:P++Srt.mrg (ltc c) (A1++A2) (B1++B2)++Q=(P++Srt.mrg (ltc c) A1 B1)++Srt.mrg (ltc c) A2 B2++Q:=by rw[hres];simp
       obtain⟨⟨l0,l1,l2,l3,l4,l5⟩,⟨L1,L2,L3,L4,L5,L6,L7⟩,hn1,hn2,⟨eA,eB,eC,eD,eE,eF⟩,h7⟩:=symL (ltc c) ha hA1 hB1 huM hm' hb' hN hM hn h1 h2 hX hY
       clear hxa hya hres i4 i5
       rcases h7 with ⟨z1,z2,z3,z4⟩|⟨z1,z2,z3,z4⟩|⟨z1,z2,z3,z4⟩|⟨z1,z2,z3,z4⟩|⟨z1,z2,z3,z4⟩|⟨z1,z2,z3,z4⟩|⟨z1,z2,z3,z4⟩
       ·have fA:=K6 A2.length eA z2
        have fB:=K6 B1.length eB z3
        have fC:=K6 A1.length eC z1
        have fD:=K6 B1.length eD z3
        have fE:=K6 A2.length eE z2
        have fF:=K6 B2.length eF z4
        simp only[go_sem,hend,fA,fB,fC,fD,fE,fF]
        rw[r0]
        apply Ka (C7 (P++A1) A2 B1 (B2++Q) f L1 L2 L3 z2 z3)
        simp only[go_sem,fC,fD,l0]
        rw[r1]
        apply Ka (ih P A1 B1 (A2++(B2++Q)) hn1 ha L1 L4 z1 z3 t1 t3)
        simp only[go_sem,fE,fF,l4]
        rw[r4]
        apply Ka (ih (P++Srt.mrg (ltc c) A1 B1) A2 B2 Q hn2 L5 L6 L7 z2 z4 t2 t4)
        simp only[go_sem]
        rw[r6]
       ·have fA:=K6 A2.length eA z2
        have fB:=K6 B1.length eB z3
        have fC:=K1c A1.length eC z1
        have fD:=K6 B1.length eD z3
        have fE:=K6 A2.length eE z2
        have fF:=K6 B2.length eF z4
        simp only[go_sem,hend,fA,fB,fC,fD,fE,fF]
        rw[r0]
        apply Ka (C7 (P++A1) A2 B1 (B2++Q) f L1 L2 L3 z2 z3)
        simp only[go_sem,fC,fE,fF,l0]
        rw[r1]
        rw[r3 (.inl z1)]
        apply Ka (ih (P++Srt.mrg (ltc c) A1 B1) A2 B2 Q hn2 L5 L6 L7 z2 z4 t2 t4)
        simp only[go_sem]
        rw[r6]
       ·have fA:=K1c A2.length eA z2
        have fB:=K6 B1.length eB z3
        have fC:=K6 A1.length eC z1
        have fD:=K6 B1.length eD z3
        have fE:=K1c A2.length eE z2
        have fF:=K6 B2.length eF z4
        simp only[go_sem,hend,fA,fB,fC,fD,fE,fF]
        rw[r2 (.inl z2)]
        apply Ka (ih P A1 B1 (A2++(B2++Q)) hn1 ha L1 L4 z1 z3 t1 t3)
        simp only[go_sem,fE]
        rw[r4]
        rw[r5 (.inl z2)]
        rw[r6]
       ·have fA:=K6 A2.length eA z2
        have fB:=K1c B1.length eB z3
        have fC:=K6 A1.length eC z1
        have fD:=K1c B1.length eD z3
        have fE:=K6 A2.length eE z2
        have fF:=K6 B2.length eF z4
        simp only[go_sem,hend,fA,fB,fC,fD,fE,fF]
        rw[r2 (.inr z3)]
        rw[r3 (.inr z3)]
        apply Ka (ih (P++Srt.mrg (ltc c) A1 B1) A2 B2 Q hn2 L5 L6 L7 z2 z4 t2 t4)
        simp only[go_sem]
        rw[r6]
       ·have fA:=K6 A2.length eA z2
        have fB:=K6 B1.length eB z3
        have fC:=K6 A1.length eC z1
        have fD:=K6 B1.length eD z3
        have fE:=K6 A2.length eE z2
        have fF:=K1c B2.length eF z4
        simp only[go_sem,hend,fA,fB,fC,fD,fE,fF]
        rw[r0]
        apply Ka (C7 (P++A1) A2 B1 (B2++Q) f L1 L2 L3 z2 z3)
        simp only[go_sem,fC,fD,l0]
        rw[r1]
        apply Ka (ih P A1 B1 (A2++(B2++Q)) hn1 ha L1 L4 z1 z3 t1 t3)
        simp only[go_sem,fE,fF]
        rw[r4]
        rw[r5 (.inr z4)]
        rw[r6]
       ·have fA:=K6 A2.length eA z2
        have fB:=K6 B1.length eB z3
        have fC:=K1c A1.length eC z1
        have fD:=K6 B1.length eD z3
        have fE:=K6 A2.length eE z2
        have fF:=K1c B2.length eF z4
        simp only[go_sem,hend,fA,fB,fC,fD,fE,fF]
        rw[r0]
        apply Ka (C7 (P++A1) A2 B1 (B2++Q) f L1 L2 L3 z2 z3)
        simp only[go_sem,fC,fE,fF]
        rw[r1]
        rw[r3 (.inl z1)]
        rw[r5 (.inr z4)]
        rw[r6]
       ·have fA:=K1c A2.length eA z2
        have fB:=K1c B1.length eB z3
        have fC:=K6 A1.length eC z1
        have fD:=K1c B1.length eD z3
        have fE:=K1c A2.length eE z2
        have fF:=K6 B2.length eF z4
        simp only[go_sem,hend,fA,fB,fC,fD,fE,fF]
        rw[r2 (.inl z2)]
        rw[r3 (.inr z3)]
        rw[r5 (.inl z2)]
        rw[r6]
    ·simp only[go_sem,wS1 (a:=a+M+m) (by omega) (by omega)]
     obtain⟨u0,hu0⟩:∃u,u=0:=⟨_,rfl⟩
     obtain⟨v0,hv0⟩:∃v,v=X.length:=⟨_,rfl⟩
     have q1:u0≤v0:=by omega
     have q2:v0≤M:=by omega
     have q3:v0≤X.length:=by omega
     have q4:M≤u0+Y.length:=by omega
     have q5:u0=0∨Y.length≤M-u0:=by omega
     have q6:v0=M∨v0=X.length:=by omega
     refine Kq (ι:=Nat×Nat) (fun s=>[(20,vI ((a+s.1:Nat):Int)),(21,vI ((a+s.2:Nat):Int))]) (fun s=>[]) (fun s=>SymI (ltc c) X Y M u0 v0 s.1 s.2) (fun s=>s.2-s.1) (u0,v0) ?_
     simp only[go_sem]
     refine⟨?_,⟨by omega,q1,by omega,q5.imp_right .inl,q6.imp_right .inl⟩,?_⟩
     ·simp only[go_sem]
      first|exact⟨by omega,by omega⟩|omega
     ·rintro ⟨u,v⟩ hI
      obtain⟨i1,i2,i3,i4,i5⟩:=hI
      simp only at i1 i2 i3 i4 i5
      simp only[go_sem,hN,shr1,K6h (i:=a+u) (j:=a+v) (by omega)]
      refine⟨fun hlt=>?_,fun hge=>?_⟩
      ·have hwx:(a+u+(a+v))/2=a+(u+v)/2:=by omega
       have w1:u≤(u+v)/2:=by omega
       have w2:(u+v)/2<v:=by omega
       rw[hwx]
       generalize (u+v)/2=w at w1 w2
       have hpc:IntKind.i64.wrap (((a+M+m-1:Nat):Int)-((a+w:Nat):Int))=((m+(M-1-w):Nat):Int):=by
        rw[wI (by omega) (by omega)];omega
       obtain⟨x,hx⟩:=K5 (show w<X.length by omega)
       obtain⟨y,hy⟩:=K5 (show M-1-w<Y.length by omega)
       have hxw:=(hxa w (by omega)).trans hx
       have hyw:=(hya (M-1-w) (by omega)).trans hy
       have k1:(0:Int)≤((a+w:Nat):Int):=by omega
       have k2:((a+w:Nat):Int)<(N:Int):=by omega
       have k3:(0:Int)≤((m+(M-1-w):Nat):Int):=by omega
       have k4:((m+(M-1-w):Nat):Int)<(N:Int):=by omega
       simp only[go_sem,wK (k:=a+w) (by omega),hpc,k1,k2,k3,k4,K1 hxw,K1 hyw]
       apply K0 (hc y x)
       simp only[go_sem,wN1 (a:=a+w) (by omega)]
       intro _
       refine⟨fun hn=>⟨(w+1,v),⟨rfl,rfl⟩,⟨by omega,by omega,i3,.inr (.inr ⟨y,x,by rw[show M-(w+1)=M-1-w by omega];exact hy,hx,by simpa[ltc]using hn⟩),i5⟩,by show v-(w+1)<v-u;omega⟩,fun hn=>⟨(u,w),⟨rfl,rfl⟩,⟨i1,w1,by omega,i4,.inr (.inr ⟨y,x,hy,hx,by simpa[ltc]using hn⟩)⟩,by show w-u<v-u;omega⟩⟩
      ·obtain rfl:u=v:=by omega
       obtain⟨A1,A2,B1,B2,rfl,rfl,hA1,hB1,huM,hres,t1,t2,t3,t4⟩:=SymI.fin hw ⟨i1,i2,i3,i4,i5⟩ sX sY q2 q3 q4
       have hend:IntKind.i64.wrap (((a+M+m:Nat):Int)-((a+u:Nat):Int))=((m+(M-u):Nat):Int):=by
        rw[wI (by omega) (by omega)];omega
       have r0:P++(A1++A2)++(B1++B2)++Q=(P++A1)++A2++B1++(B2++Q):=by simp
       have r1:(P++A1)++B1++A2++(B2++Q)=P++A1++B1++(A2++(B2++Q)):=by simp
       have r2:A2.length=0∨B1.length=0→P++(A1++A2)++(B1++B2)++Q=P++A1++B1++(A2++(B2++Q)):=fun h=>by
        rcases h with h|h
        ·rw[List.length_eq_zero_iff.1 h];simp
        ·rw[List.length_eq_zero_iff.1 h];simp
       have r3:A1.length=0∨B1.length=0→P++A1++B1++(A2++(B2++Q))=(P++Srt.mrg (ltc c) A1 B1)++A2++B2++Q:=fun h=>by
        rcases h with h|h
        ·rw[List.length_eq_zero_iff.1 h,Srt.mrg_nil_srt hw t3];simp
        ·rw[List.length_eq_zero_iff.1 h,Srt.mrg_nil];simp
       have r4:P++Srt.mrg (ltc c) A1 B1++(A2++(B2++Q))=(P++Srt.mrg (ltc c) A1 B1)++A2++B2++Q:=by simp
       have r5:A2.length=0∨B2.length=0→(P++Srt.mrg (ltc c) A1 B1)++A2++B2++Q=(P++Srt.mrg (ltc c) A1 B1)++Srt.mrg (ltc c) A2 B2++Q:=fun h=>by
        rcases h with h|h
        ·rw[List.length_eq_zero_iff.1 h,Srt.mrg_nil_srt hw t4];simp
        ·rw[List.length_eq_zero_iff.1 h,Srt.mrg_nil];simp
       have r6:P++Srt.mrg (ltc c) (A1++A2) (B1++B2)++Q=(P++Srt.mrg (ltc c) A1 B1)++Srt.mrg (ltc c) A2 B2++Q:=by rw[hres];simp
       obtain⟨⟨l0,l1,l2,l3,l4,l5⟩,⟨L1,L2,L3,L4,L5,L6,L7⟩,hn1,hn2,⟨eA,eB,eC,eD,eE,eF⟩,h7⟩:=symL (ltc c) ha hA1 hB1 huM hm' hb' hN hM hn h1 h2 hX hY
       clear hxa hya hres i4 i5
       rcases h7 with ⟨z1,z2,z3,z4⟩|⟨z1,z2,z3,z4⟩|⟨z1,z2,z3,z4⟩|⟨z1,z2,z3,z4⟩|⟨z1,z2,z3,z4⟩|⟨z1,z2,z3,z4⟩|⟨z1,z2,z3,z4⟩
       ·have fA:=K6 A2.length eA z2
        have fB:=K6 B1.length eB z3
        have fC:=K6 A1.length eC z1
        have fD:=K6 B1.length eD z3
        have fE:=K6 A2.length eE z2
        have fF:=K6 B2.length eF z4
        simp only[go_sem,hend,fA,fB,fC,fD,fE,fF]
        rw[r0]
        apply Ka (C7 (P++A1) A2 B1 (B2++Q) f L1 L2 L3 z2 z3)
        simp only[go_sem,fC,fD,l0]
        rw[r1]
        apply Ka (ih P A1 B1 (A2++(B2++Q)) hn1 ha L1 L4 z1 z3 t1 t3)
        simp only[go_sem,fE,fF,l4]
        rw[r4]
        apply Ka (ih (P++Srt.mrg (ltc c) A1 B1) A2 B2 Q hn2 L5 L6 L7 z2 z4 t2 t4)
        simp only[go_sem]
        rw[r6]
       ·have fA:=K6 A2.length eA z2
        have fB:=K6 B1.length eB z3
        have fC:=K1c A1.length eC z1
        have fD:=K6 B1.length eD z3
        have fE:=K6 A2.length eE z2
        have fF:=K6 B2.length eF z4
        simp only[go_sem,hend,fA,fB,fC,fD,fE,fF]
        rw[r0]
        apply Ka (C7 (P++A1) A2 B1 (B2++Q) f L1 L2 L3 z2 z3)
        simp only[go_sem,fC,fE,fF,l0]
        rw[r1]
        rw[r3 (.inl z1)]
        apply Ka (ih (P++Srt.mrg (ltc c) A1 B1) A2 B2 Q hn2 L5 L6 L7 z2 z4 t2 t4)
        simp only[go_sem]
        rw[r6]
       ·have fA:=K1c A2.length eA z2
        have fB:=K6 B1.length eB z3
        have fC:=K6 A1.length eC z1
        have fD:=K6 B1.length eD z3
        have fE:=K1c A2.length eE z2
        have fF:=K6 B2.length eF z4
        simp only[go_sem,hend,fA,fB,fC,fD,fE,fF]
        rw[r2 (.inl z2)]
        apply Ka (ih P A1 B1 (A2++(B2++Q)) hn1 ha L1 L4 z1 z3 t1 t3)
        simp only[go_sem,fE]
        rw[r4]
        rw[r5 (.inl z2)]
        rw[r6]
       ·have fA:=K6 A2.length eA z2
        have fB:=K1c B1.length eB z3
        have fC:=K6 A1.length eC z1
        have fD:=K1c B1.length eD z3
        have fE:=K6 A2.length eE z2
        have fF:=K6 B2.length eF z4
        simp only[go_sem,hend,fA,fB,fC,fD,fE,fF]
        rw[r2 (.inr z3)]
        rw[r3 (.inr z3)]
        apply Ka (ih (P++Srt.mrg (ltc c) A1 B1) A2 B2 Q hn2 L5 L6 L7 z2 z4 t2 t4)
        simp only[go_sem]
        rw[r6]
       ·have fA:=K6 A2.length eA z2
        have fB:=K6 B1.length eB z3
        have fC:=K6 A1.length eC z1
        have fD:=K6 B1.length eD z3
        have fE:=K6 A2.length eE z2
        have fF:=K1c B2.length eF z4
        simp only[go_sem,hend,fA,fB,fC,fD,fE,fF]
        rw[r0]
        apply Ka (C7 (P++A1) A2 B1 (B2++Q) f L1 L2 L3 z2 z3)
        simp only[go_sem,fC,fD,l0]
        rw[r1]
        apply Ka (ih P A1 B1 (A2++(B2++Q)) hn1 ha L1 L4 z1 z3 t1 t3)
        simp only[go_sem,fE,fF]
        rw[r4]
        rw[r5 (.inr z4)]
        rw[r6]
       ·have fA:=K6 A2.length eA z2
        have fB:=K6 B1.length eB z3
        have fC:=K1c A1.length eC z1
        have fD:=K6 B1.length eD z3
        have fE:=K6 A2.length eE z2
        have fF:=K1c B2.length eF z4
        simp only[go_sem,hend,fA,fB,fC,fD,fE,fF]
        rw[r0]
        apply Ka (C7 (P++A1) A2 B1 (B2++Q) f L1 L2 L3 z2 z3)
        simp only[go_sem,fC,fE,fF]
        rw[r1]
        rw[r3 (.inl z1)]
        rw[r5 (.inr z4)]
        rw[r6]
       ·have fA:=K1c A2.length eA z2
        have fB:=K1c B1.length eB z3
        have fC:=K6 A1.length eC z1
        have fD:=K1c B1.length eD z3
        have fE:=K1c A2.length eE z2
        have fF:=K6 B2.length eF z4
        simp only[go_sem,hend,fA,fB,fC,fD,fE,fF]
        rw[r2 (.inl z2)]
        rw[r3 (.inr z3)]
        rw[r5 (.inl z2)]
        rw[r6]
end Go.Proofs.YtpeabgkoknjojaaGreatDoorR
namespace Go.Proofs.YtpeabgkoknjojaaGreatDoorR
open Go Go.RowKit Go.Proofs
open Nat (reduceEqDiff reduceLT reduceLeDiff reduceAdd reduceMul)
open List (reduceReplicate)
namespace Srt
variable {α:Type} {lt:α→α→Bool}
def blks(lt:α→α→Bool)(s:Nat):Nat→List α→List α
 |0,l=>l
 |k+1,l=>isort lt (l.take s)++blks lt s k (l.drop s)
theorem len_blks{s:Nat}:∀ {k:Nat} {l:List α},(blks lt s k l).length=l.length
 |0,l=>rfl
 |k+1,l=>by
  simp only[blks,List.length_append,len_isort,len_blks,List.length_take,List.length_drop];omega
theorem blks_snoc{s:Nat}:∀ {k:Nat} {l:List α},(k+1)*s≤l.length→∃A,A.length=k*s∧blks lt s k l=A++((l.drop (k*s)).take s++l.drop ((k+1)*s))∧blks lt s (k+1) l=A++(isort lt ((l.drop (k*s)).take s)++l.drop ((k+1)*s))
 |0,l,h=>⟨[],by simp,by simp[blks],by simp[blks]⟩
 |k+1,l,h=>by
  have h':(k+1)*s≤(l.drop s).length:=by
   rw[Nat.succ_mul]at h
   simp only[List.length_drop];omega
  obtain⟨A,hA,e1,e2⟩:=blks_snoc (k:=k) (l:=l.drop s) h'
  have d1:s+k*s=(k+1)*s:=by rw[Nat.succ_mul];omega
  have d2:s+(k+1)*s=(k+1+1)*s:=by rw[Nat.succ_mul (k+1)];omega
  have hs:s≤l.length:=by rw[Nat.succ_mul]at h;omega
  refine⟨isort lt (l.take s)++A,?_,?_,?_⟩
  ·rw[List.length_append,len_isort,List.length_take,Nat.min_eq_left hs,hA,d1]
  ·rw[blks,e1,List.drop_drop,List.drop_drop,d1,d2,List.append_assoc]
  ·rw[blks,e2,List.drop_drop,List.drop_drop,d1,d2,List.append_assoc]
theorem blks_last{s:Nat}:∀ {k:Nat} {l:List α},k*s≤l.length→l.length<(k+1)*s→∃A,A.length=k*s∧blks lt s k l=A++l.drop (k*s)∧blks lt s (k+1) l=A++isort lt (l.drop (k*s))
 |0,l,_,h=>by
  have h':l.length≤s:=by omega
  exact⟨[],by simp,by simp[blks],by simp[blks,List.take_of_length_le h',List.drop_of_length_le h']⟩
 |k+1,l,h0,h=>by
  have d1:s+k*s=(k+1)*s:=by rw[Nat.succ_mul];omega
  have d2:s+(k+1)*s=(k+1+1)*s:=by rw[Nat.succ_mul (k+1)];omega
  have h1:k*s+s≤l.length:=by rw[←Nat.succ_mul];exact h0
  have h2:l.length<k*s+s+s:=by rw[←Nat.succ_mul,←Nat.succ_mul];exact h
  obtain⟨A,hA,e1,e2⟩:=blks_last (k:=k) (l:=l.drop s) (Nat.le_trans (Nat.le_sub_of_add_le h1) (by rw[List.length_drop];exact Nat.le_refl _)) (by rw[List.length_drop,Nat.succ_mul];exact Nat.sub_lt_right_of_lt_add (Nat.le_trans (Nat.le_add_left _ _) h1) h2)
  have hs:s≤l.length:=Nat.le_trans (Nat.le_add_left _ _) h1
  refine⟨isort lt (l.take s)++A,?_,?_,?_⟩
  ·rw[List.length_append,len_isort,List.length_take,Nat.min_eq_left hs,hA,d1]
  ·rw[blks,e1,List.drop_drop,d1,List.append_assoc]
  ·rw[blks,e2,List.drop_drop,d1,List.append_assoc]
theorem blk_le{s:Nat}{l:List α}(h:l.length≤s):blk lt s l=isort lt l:=by
 rw[blk,dif_pos (.inr h)]
theorem K5e{s:Nat}{l:List α}:blk lt s l=isort lt (l.take s)++blk lt s (l.drop s):=by
 by_cases h:s=0∨l.length≤s
 ·rcases h with rfl|h
  ·simp[isort,mrg]
  ·rw[blk_le h,List.take_of_length_le h,List.drop_of_length_le h,blk_le (by simp)]
   simp[isort,mrg]
 ·rw[blk,dif_neg h]
theorem len_blk{s:Nat}:∀ {n:Nat} {l:List α},l.length≤n→(blk lt s l).length=l.length
 |0,l,h=>by rw[blk_le (by omega),len_isort]
 |n+1,l,h=>by
  by_cases h2:s=0∨l.length≤s
  ·rw[blk,dif_pos h2,len_isort]
  ·rw[K5e,List.length_append,len_isort,len_blk (n:=n) (by simp only[List.length_drop];omega),List.length_take,List.length_drop]
   omega
theorem blks_blk{s:Nat}:∀ {k:Nat} {l:List α},k*s≤l.length→l.length<(k+1)*s→blks lt s (k+1) l=blk lt s l
 |0,l,_,h=>by
  have h':l.length≤s:=by omega
  rw[blk_le h']
  simp[blks,List.take_of_length_le h',List.drop_of_length_le h']
 |k+1,l,h0,h=>by
  rw[Nat.succ_mul]at h0 h
  rw[blks,K5e,blks_blk (k:=k) (l:=l.drop s) (by rw[List.length_drop];omega) (by rw[List.length_drop];omega)]
def mix(lt:α→α→Bool)(s:Nat):Nat→List α→List α
 |0,l=>blk lt s l
 |k+1,l=>isort lt (l.take (2*s))++mix lt s k (l.drop (2*s))
theorem len_mix{s:Nat}:∀ {k:Nat} {l:List α},(mix lt s k l).length=l.length
 |0,l=>len_blk (Nat.le_refl _)
 |k+1,l=>by
  rw[mix,List.length_append,len_isort,len_mix,List.length_take,List.length_drop];omega
theorem mix_step(hw:Swo lt){s:Nat}:∀ {k:Nat} {l:List α},k*(2*s)+2*s≤l.length→∃P X Y Q,P.length=k*(2*s)∧X.length=s∧Y.length=s∧srt lt X∧srt lt Y∧mix lt s k l=P++X++Y++Q∧mix lt s (k+1) l=P++mrg lt X Y++Q
 |0,l,h=>by
  refine⟨[],isort lt (l.take s),isort lt ((l.drop s).take s),blk lt s (l.drop (2*s)),by simp,?_,?_,srt_isort hw _,srt_isort hw _,?_,?_⟩
  ·rw[len_isort,List.length_take];omega
  ·rw[len_isort,List.length_take,List.length_drop];omega
  ·rw[mix,K5e,K5e (l:=l.drop s),List.drop_drop,show s+s=2*s by omega]
   simp
  ·rw[←K7n hw,mix,mix,List.nil_append,←List.take_add,show s+s=2*s by omega]
 |k+1,l,h=>by
  have e:(k+1)*(2*s)=k*(2*s)+2*s:=Nat.succ_mul ..
  rw[e]at h
  obtain⟨P,X,Y,Q,h1,h2,h3,h4,h5,h6,h7⟩:=mix_step hw (s:=s) (k:=k) (l:=l.drop (2*s)) (by rw[List.length_drop];omega)
  refine⟨isort lt (l.take (2*s))++P,X,Y,Q,?_,h2,h3,h4,h5,?_,?_⟩
  ·rw[List.length_append,len_isort,h1,List.length_take,e];omega
  ·rw[mix,h6];simp
  ·rw[mix,h7];simp
theorem mix_end(hw:Swo lt){s:Nat}:∀ {k:Nat} {l:List α},k*(2*s)≤l.length→l.length<k*(2*s)+2*s→
  (k*(2*s)+s<l.length→∃P X Y,P.length=k*(2*s)∧X.length=s∧k*(2*s)+s+Y.length=l.length∧srt lt X∧srt lt Y∧mix lt s k l=P++X++Y∧blk lt (2*s) l=P++mrg lt X Y)∧
  (l.length≤k*(2*s)+s→mix lt s k l=blk lt (2*s) l)
 |0,l,h0,h=>by
  refine⟨fun h1=>⟨[],isort lt (l.take s),isort lt (l.drop s),by simp,?_,?_,srt_isort hw _,srt_isort hw _,?_,?_⟩,fun h1=>?_⟩
  ·rw[len_isort,List.length_take];omega
  ·rw[len_isort,List.length_drop];omega
  ·rw[mix,K5e,blk_le (l:=l.drop s) (by rw[List.length_drop];omega),List.nil_append]
  ·rw[←K7n hw,List.take_append_drop,blk_le (by omega),List.nil_append]
  ·rw[mix,blk_le (by omega),blk_le (by omega)]
 |k+1,l,h0,h=>by
  have e:(k+1)*(2*s)=k*(2*s)+2*s:=Nat.succ_mul ..
  rw[e]at h h0
  obtain⟨i1,i2⟩:=mix_end hw (s:=s) (k:=k) (l:=l.drop (2*s)) (by rw[List.length_drop];omega) (by rw[List.length_drop];omega)
  rw[List.length_drop]at i1 i2
  rw[e]
  refine⟨fun h1=>?_,fun h1=>?_⟩
  ·obtain⟨P,X,Y,h1,h2,h3,h4,h5,h6,h7⟩:=i1 (by omega)
   refine⟨isort lt (l.take (2*s))++P,X,Y,?_,h2,by omega,h4,h5,?_,?_⟩
   ·rw[List.length_append,len_isort,h1,List.length_take];omega
   ·rw[mix,h6];simp
   ·rw[K5e,h7];simp
  ·rw[mix,i2 (by omega),←K5e]
end Srt
def M1r:MC:=
(Zs [.mv 6 (ci 20)] [0,1,2,6] (Zs [mS 10 6,.mv 7 (ci 0),mS 8 10] [0,1,2,6,7,8] (.seq (.block 0 (.loop ([0,1,2,6,7,8],[]) (.seq (Zs [mS 11 8,mS 12 1,bS 13 .leq 11 12] [0,1,2,6,7,8,13] (cX 13 0))
(.block 1 (Zs [mS 14 0,mS 15 7,mS 16 8,mS 17 2,.callI 18 [] (.f N9) [.s 14,.s 15,.s 16,.s 17] [0] []] [0,1,2,6,8] (Zs [mS 19 8,mS 7 19] [0,1,2,6,7,8] (pr [mS 20 8,mS 21 6,bS 22 .add 20 21,mS 8 22] [0,1,2,6,7,8])))))))
(Zs [mS 23 0,mS 24 7,mS 25 1,mS 26 2,.callI 27 [] (.f N9) [.s 23,.s 24,.s 25,.s 26] [0] []] [0,1,2,6] (.block 2 (.loop ([0,1,2,6],[]) (.seq (Zs [mS 28 6,mS 29 1,bS 30 .lss 28 29] [0,1,2,6,30] (cX 30 2))
(.block 3 (Zs [mS 31 6,.bin 32 false .mul (ci 2) (.s 31),.mv 7 (ci 0),mS 8 32] [0,1,2,6,7,8] (.seq (.block 4 (.loop ([0,1,2,6,7,8],[]) (.seq (Zs [mS 33 8,mS 34 1,bS 35 .leq 33 34] [0,1,2,6,7,8,35] (cX 35 4))
(.block 5 (Zs [mS 36 0,mS 37 7,mS 38 7,mS 39 6,bS 40 .add 38 39,mS 41 8,mS 42 2,.callI 43 [] (.f N5) [.s 36,.s 37,.s 40,.s 41,.s 42] [0] []] [0,1,2,6,8] (Zs [mS 44 8,mS 7 44] [0,1,2,6,7,8] (pr [mS 45 8,mS 46 6,.bin 47 false .mul (ci 2) (.s 46),bS 48 .add 45 47,mS 8 48] [0,1,2,6,7,8])))))))
(.seq (Zs [mS 49 7,mS 50 6,bS 51 .add 49 50,mS 9 51] [0,1,2,6,7,9] (Zs [mS 52 9,mS 53 1,bS 54 .lss 52 53] [0,1,2,6,7,9,54] (.cond (.s 54) (pr [mS 55 0,mS 56 7,mS 57 9,mS 58 1,mS 59 2,.callI 60 [] (.f N5) [.s 55,.s 56,.s 57,.s 58,.s 59] [0] []] [0,1,2,6]) .skip)))
(pr [mS 61 6,bC 62 .mul 61 2,mS 6 62] [0,1,2,6]))))))))))))
set_option maxHeartbeats 4000000 in
theorem Cdh(X:List GFound)(f:FuncId)(c:GFound→GFound→Int)(hc:∀x y,Ctr Tryz.prog f [aS x.enc,aS y.enc] [rI (c x y)])(hw:Srt.Swo (ltc c)):CtrI Tryz.prog N1t [oL 6 (X.map GFound.enc),iI X.length,fI f] [some (6,(Srt.isort (ltc c) X).map GFound.enc)] []:=by
 refine K56 (M:=M1r) (m:=0) (n:=63) (res:=[]) hmix Tryz.func207 rfl (by kernel_rfl) rfl (by kernel_rfl) (by kernel_rfl) (Nat.le_of_ble_eq_true rfl) rfl rfl ?_;unfold M1r
 intro hbd
 have hl:=K3x hbd
 clear hbd
 simp only[roomB]at hl
 simp only[go_sem]
 refine Kq (fun k:Nat=>[(7,vI ((k*20:Nat):Int)),(8,vI (((k+1)*20:Nat):Int))]) (fun k=>[(0,⟨1,.row true 6 ((Srt.blks (ltc c) 20 k X).map GFound.enc)⟩)]) (fun k=>k*20≤X.length) (fun k=>X.length-k*20) 0 ?_
 simp only[go_sem]
 refine⟨?_,by omega,?_⟩
 ·simp only[go_sem]
  exact⟨rfl,rfl⟩
 ·intro k hk
  simp only[go_sem,Srt.len_blks]
  refine⟨fun hlt=>?_,fun hge=>?_⟩
  ·obtain⟨A,hA,e1,e2⟩:=Srt.blks_snoc (lt:=ltc c) (s:=20) (k:=k) (l:=X) (by omega)
   have g1:=congrArg List.length e1
   have g2:=congrArg List.length e2
   rw[Srt.len_blks]at g1 g2
   rw[←List.append_assoc]at e1 e2 g1 g2
   rw[e1]
   apply Ka (C2c A _ _ f c hc hw hA (by simp[hA];omega))
   have w1:IntKind.i64.wrap ((((k+1)*20:Nat):Int)+20)=(((k+1+1)*20:Nat):Int):=by
    rw[wI (by omega) (by omega)];omega
   simp only[go_sem,w1]
   exact⟨k+1,⟨⟨rfl,rfl⟩,by rw[e2]⟩,by omega,by omega⟩
  ·obtain⟨A,hA,e1,e2⟩:=Srt.blks_last (lt:=ltc c) (s:=20) (k:=k) (l:=X) (by omega) (by omega)
   have g1:=congrArg List.length e1
   have g2:=congrArg List.length e2
   rw[Srt.len_blks]at g1 g2
   have e1':A++X.drop (k*20)=A++X.drop (k*20)++[]:=by simp
   rw[e1,e1']
   apply Ka (C2c A _ [] f c hc hw hA (by simp[hA];omega))
   rw[List.append_nil,←e2]
   rw[Srt.blks_blk (by omega) (by omega)]
   simp only[go_sem]
   refine Kq (fun s:Nat=>[(6,vI (s:Int))]) (fun s=>[(0,⟨1,.row true 6 ((Srt.blk (ltc c) s X).map GFound.enc)⟩)]) (fun s=>0<s∧s≤2*X.length+20) (fun s=>X.length-s) 20 ?_
   simp only[go_sem]
   refine⟨?_,⟨by omega,by omega⟩,?_⟩
   ·simp only[go_sem]
    first|rfl|exact⟨rfl,rfl⟩
   ·rintro s ⟨hs0,hs1⟩
    clear e1' e1 e2 g1 g2 hA A hge hk
    have w2:IntKind.i64.wrap (2*(s:Int))=((2*s:Nat):Int):=by rw[wI (by omega) (by omega)];omega
    have w3:IntKind.i64.wrap ((s:Int)*2)=((2*s:Nat):Int):=by rw[wI (by omega) (by omega)];omega
    simp only[go_sem,w2]
    refine⟨fun hlt=>?_,fun hge=>?_⟩
    ·refine Kq (fun k:Nat=>[(7,vI ((k*(2*s):Nat):Int)),(8,vI ((k*(2*s)+2*s:Nat):Int))]) (fun k=>[(0,⟨1,.row true 6 ((Srt.mix (ltc c) s k X).map GFound.enc)⟩)]) (fun k=>k*(2*s)≤X.length) (fun k=>X.length-k*(2*s)) 0 ?_
     simp only[go_sem]
     refine⟨?_,by omega,?_⟩
     ·simp only[go_sem]
      refine⟨⟨?_,?_⟩,rfl⟩
      ·rw[Nat.zero_mul];rfl
      ·rw[Nat.zero_mul,Nat.zero_add]
     ·intro k hk
      simp only[go_sem,Srt.len_mix,w3]
      refine⟨fun hle=>?_,fun hgt=>?_⟩
      ·obtain⟨P,A,B,Q,m1,m2,m3,m4,m5,m6,m7⟩:=Srt.mix_step hw (s:=s) (k:=k) (l:=X) (by omega)
       have g1:(P++A++B++Q).length=X.length:=by rw[←m6,Srt.len_mix]
       have g2:(P++Srt.mrg (ltc c) A B++Q).length=X.length:=by rw[←m7,Srt.len_mix]
       have wa:IntKind.i64.wrap (((k*(2*s):Nat):Int)+(s:Int))=((k*(2*s)+s:Nat):Int):=wN (by omega)
       have wb:IntKind.i64.wrap (((k*(2*s)+2*s:Nat):Int)+((2*s:Nat):Int))=(((k+1)*(2*s)+2*s:Nat):Int):=by
        rw[wN (by omega),Nat.succ_mul k (2*s)]
       rw[m6]
       simp only[go_sem,wa]
       apply Ka (C35 f c hc hw _ P A B Q (Nat.le_refl _) m1 (m:=k*(2*s)+s) (b:=k*(2*s)+2*s) (by rw[List.length_append];omega) (by rw[List.length_append,List.length_append];omega) (by omega) (by omega) m4 m5)
       simp only[go_sem]
       have hj:(k+1)*(2*s)=k*(2*s)+2*s:=Nat.succ_mul k (2*s)
       exact⟨k+1,⟨⟨by rw[hj],by rw[w2,wb]⟩,by rw[m7]⟩,by omega,by omega⟩
      ·obtain⟨i1,i2⟩:=Srt.mix_end hw (s:=s) (k:=k) (l:=X) hk (by omega)
       have wa:IntKind.i64.wrap (((k*(2*s):Nat):Int)+(s:Int))=((k*(2*s)+s:Nat):Int):=wN (by omega)
       simp only[go_sem,wa]
       refine⟨fun hlt2=>?_,fun hge2=>?_⟩
       ·obtain⟨P,A,B,m1,m2,m3,m4,m5,m6,m7⟩:=i1 (by omega)
        have g1:(P++A++B++[]).length=X.length:=by rw[List.append_nil,←m6,Srt.len_mix]
        have g2:(P++Srt.mrg (ltc c) A B++[]).length=X.length:=by rw[List.append_nil,←m7,Srt.len_blk (Nat.le_refl _)]
        rw[m6,←List.append_nil (P++A++B)]
        apply Ka (C35 f c hc hw _ P A B [] (Nat.le_refl _) m1 (m:=k*(2*s)+s) (b:=X.length) (by rw[List.length_append];omega) (by rw[List.length_append,List.length_append];omega) (by omega) (by omega) m4 m5)
        simp only[go_sem,w3]
        exact⟨2*s,⟨rfl,by rw[m7]⟩,⟨by omega,by omega⟩,by omega⟩
       ·exact⟨2*s,⟨rfl,by rw[i2 (by omega)]⟩,⟨by omega,by omega⟩,by omega⟩
    ·rw[Srt.blk_le (by omega)]
end Go.Proofs.YtpeabgkoknjojaaGreatDoorR
namespace Go.Proofs.YtpeabgkoknjojaaGreatDoorR
open Go Go.RowKit Go.Proofs
open Nat (reduceEqDiff reduceLT reduceLeDiff reduceAdd reduceMul)
open List (reduceReplicate)
def Mq:MC:=
(pr [mS 4 0,mS 5 0,nS 6 5,mS 7 1,.callI 8 [] (.f N1t) [.s 4,.s 6,.s 7] [0] []] [])
theorem Ccd(X:List GFound)(f:FuncId)(c:GFound→GFound→Int)(hc:∀x y,Ctr Tryz.prog f [aS x.enc,aS y.enc] [rI (c x y)])(hw:Srt.Swo (ltc c)):CtrI Tryz.prog Nr [oL 6 (X.map GFound.enc),fI f] [some (6,(Srt.isort (ltc c) X).map GFound.enc)] []:=by
 refine K56 (M:=Mq) (m:=0) (n:=9) (res:=[]) hmix Tryz.func162 rfl (by kernel_rfl) rfl (by kernel_rfl) (by kernel_rfl) (Nat.le_of_ble_eq_true rfl) rfl rfl ?_;unfold Mq
 intro hbd
 have hl:=K3x hbd
 clear hbd
 simp only[roomB]at hl
 simp only[go_sem]
 apply Ka (Cdh X f c hc hw)
 simp only[go_sem]
 try intros
 try trivial
end Go.Proofs.YtpeabgkoknjojaaGreatDoorR
namespace Go.Proofs.YtpeabgkoknjojaaGreatDoorR
open Go Go.RowKit Go.Proofs
open Nat (reduceEqDiff reduceLT reduceLeDiff reduceAdd reduceMul)
open List (reduceReplicate)
attribute [go_sem] eqB
def K4q(a b:GAddress):Bool:=decide (a.Host<b.Host∨a.Host=b.Host∧(a.Path<b.Path∨a.Path=b.Path∧a.Query<b.Query))
def cmpI(x y:Int):Int:=if x<y then -1 else if y<x then 1 else 0
def K6e(a b:GFound):Int:=if K4q a.Address b.Address=true then -1 else if K4q b.Address a.Address=true then 1 else cmpI a.Tick b.Tick
def K24(a b:GFound):Bool:=decide (a.Address.Host<b.Address.Host∨a.Address.Host=b.Address.Host∧(a.Address.Path<b.Address.Path∨a.Address.Path=b.Address.Path∧(a.Address.Query<b.Address.Query∨a.Address.Query=b.Address.Query∧a.Tick<b.Tick)))
theorem K8s:ltc K6e=K24:=by
 funext a b
 unfold ltc K6e K24 K4q cmpI
 rw[Bool.eq_iff_iff]
 simp only[decide_eq_true_eq]
 split
 ·simp;omega
 ·split
  ·simp;omega
  ·split
   ·simp;omega
   ·split<;>simp<;>omega
theorem fndSwo:Srt.Swo (ltc K6e):=by
 rw[K8s]
 constructor
 ·intro x y h
  simp only[K24,decide_eq_true_eq,decide_eq_false_iff_not]at*
  omega
 ·intro x y z h
  simp only[K24,decide_eq_true_eq]at*
  omega
def fnd1(i:Nat):Nat→List GCapture→List GFound
 |_,[]=>[]
 |k,c::cs=>⟨c.Address,c.Tick,i,k⟩::fnd1 i (k+1) cs
def fnds:Nat→List GContainer→List GFound
 |_,[]=>[]
 |i,x::xs=>fnd1 i 0 x.Captures++fnds (i+1) xs
theorem Kai{i:Nat}:∀ {cs:List GCapture} {k m:Nat} {c:GCapture},cs[k]? =some c→fnd1 i m (cs.take (k+1))=fnd1 i m (cs.take k)++[⟨c.Address,c.Tick,i,(m+k:Nat)⟩]
 | [],_,_,_,h=>by simp at h
 |c::cs,0,m,d,h=>by
  simp only[List.getElem?_cons_zero,Option.some.injEq]at h
  subst h
  simp[fnd1]
 |c::cs,k+1,m,d,h=>by
  simp only[List.getElem?_cons_succ]at h
  rw[List.take_succ_cons,List.take_succ_cons,fnd1,fnd1,Kai h,List.cons_append,show m+1+k=m+(k+1)by omega]
theorem K3u:∀ {l:List GContainer} {k m:Nat} {x:GContainer},l[k]? =some x→fnds m (l.take (k+1))=fnds m (l.take k)++fnd1 (m+k) 0 x.Captures
 | [],_,_,_,h=>by simp at h
 |c::cs,0,m,d,h=>by
  simp only[List.getElem?_cons_zero,Option.some.injEq]at h
  subst h
  simp[fnds]
 |c::cs,k+1,m,d,h=>by
  simp only[List.getElem?_cons_succ]at h
  rw[List.take_succ_cons,List.take_succ_cons,fnds,fnds,K3u h,List.append_assoc,show m+1+k=m+(k+1)by omega]
theorem K6z{i:Nat}:∀ {cs:List GCapture} {k:Nat},(fnd1 i k cs).length=cs.length
 | [],_=>rfl
 |c::cs,k=>by rw[fnd1,List.length_cons,K6z,List.length_cons]
theorem Kbm:∀ {l:List GContainer} {m:Nat},(fnds m l).length=(l.map fun x=>x.Captures.length).sum
 | [],_=>rfl
 |x::l,m=>by rw[fnds,List.length_append,K6z,Kbm,List.map_cons,List.sum_cons]
def index(l:List GContainer):List GFound:=Srt.isort K24 (fnds 0 l)
theorem fndSwo':Srt.Swo K24:=K8s▸fndSwo
theorem Kcg{m:Nat}:∀ {l:List GContainer},(fnds m l).length≤(l.map GContainer.size).sum:=by
 intro l
 rw[Kbm]
 induction l with
 |nil=>simp
 |cons x l ih=>simp only[List.map_cons,List.sum_cons,GContainer.size];omega
theorem K8a{l:List GContainer}{i k:Nat}{x:GContainer}(hx:l[i]? =some x):(fnds 0 (l.take i)++fnd1 i 0 (x.Captures.take k)).length≤(l.map GContainer.size).sum:=by
 have h1:(fnds 0 (l.take (i+1))).length≤(l.map GContainer.size).sum:=Nat.le_trans Kcg (K2a l (i+1))
 rw[K3u hx,List.length_append,K6z]at h1
 rw[List.length_append,K6z,List.length_take]
 omega
theorem Kaj{l:List GContainer}{i k:Nat}{x:GContainer}{c:GCapture}(hc:x.Captures[k]? =some c):fnds 0 (l.take i)++fnd1 i 0 (x.Captures.take (k+1))=fnds 0 (l.take i)++fnd1 i 0 (x.Captures.take k)++[⟨c.Address,c.Tick,i,k⟩]:=by
 rw[Kai hc,List.append_assoc,Nat.zero_add]
theorem cutA{α:Type}{f:α→List T}{l:List α}{m:Nat}(h:m≤l.length):(if ((m:Int)-0).toNat=l.length then l.map f else List.take ((m:Int)-0).toNat (l.map f))=(l.take m).map f:=by
 rw[show((m:Int)-0).toNat=m by omega]
 split
 ·rename_i e;rw[List.take_of_length_le (by omega)]
 ·rw[List.map_take]
theorem cutB{α:Type}{f:α→List T}{l:List α}{m:Nat}(h:m≤l.length):(if m=0∧((l.length:Int)-(m:Int)).toNat=l.length then l.map f else List.take ((l.length:Int)-(m:Int)).toNat (List.drop m (l.map f)))=(l.drop m).map f:=by
 rw[show((l.length:Int)-(m:Int)).toNat=l.length-m by omega]
 split
 ·rename_i e;rw[e.1];rfl
 ·rw[List.take_of_length_le (by simp),List.map_drop]
namespace Srt
variable {α:Type} {lt:α→α→Bool}
theorem ins_at{l:List α}(hw:Swo lt)(hs:srt lt l){x:α}{n:Nat}(h1:∀z∈l.drop n,lt x z=true)(h2:n=0∨∃y,l[n-1]? =some y∧lt x y=false):ins lt x l=l.take n++[x]++l.drop n:=by
 have e:ins lt x (l.take n++l.drop n)=l.take n++x::l.drop n:=by
  refine ins_mid ?_ (fun a ha=>h1 a (List.mem_of_mem_head? ha))
  intro a ha
  rcases h2 with rfl|⟨y,hy,h⟩
  ·simp at ha
  ·obtain⟨i,hi⟩:=List.mem_iff_getElem?.1 ha
   rw[List.getElem?_take]at hi
   split at hi
   ·rename_i hlt
    by_cases hin:i=n-1
    ·subst hin
     obtain rfl:=Option.some.inj (hi.symm.trans hy)
     exact h
    ·obtain⟨h1,rfl⟩:=List.getElem?_eq_some_iff.1 hi
     obtain⟨h2,rfl⟩:=List.getElem?_eq_some_iff.1 hy
     exact hw.ntr h ((List.pairwise_iff_getElem.1 hs) i (n-1) h1 h2 (by omega))
   ·cases hi
 rw[List.take_append_drop]at e
 rw[e];simp
theorem drop_step{l:List α}{x:α}{n:Nat}{y:α}(hn:0<n)(hy:l[n-1]? =some y)(h:∀z∈l.drop n,lt x z=true)(hx:lt x y=true):∀z∈l.drop (n-1),lt x z=true:=by
 obtain⟨h1,rfl⟩:=List.getElem?_eq_some_iff.1 hy
 rw[List.drop_eq_getElem_cons h1,show n-1+1=n by omega]
 intro z hz
 rcases List.mem_cons.1 hz with rfl|hz
 ·exact hx
 ·exact h z hz
end Srt
def M4j:MC:=
(Zs [.box 2 0 (.s 0),.box 3 1 (.s 1),.mv 4 cF] [2,3] (.seq (.block 0 (Zs [fS 6 2 0,lF 7 1 6,fS 8 3 0,lF 9 1 8,bS 10 .neq 7 9,mS 5 10] [2,3,5] (.cond (.s 5) (Zs [fS 11 2 0,lF 12 1 11,fS 13 3 0,lF 14 1 13,bS 15 .lss 12 14,mS 4 15] [4] .ret) (Zs [fS 17 2 1,lF 18 1 17,fS 19 3 1,lF 20 1 19,bS 21 .neq 18 20,mS 16 21] [2,3,16] (.cond (.s 16) (Zs [fS 22 2 1,lF 23 1 22,fS 24 3 1,lF 25 1 24,bS 26 .lss 23 25,mS 4 26] [4] .ret) .skip)))))
(Zs [fS 27 2 2,lF 28 1 27,fS 29 3 2,lF 30 1 29,bS 31 .lss 28 30,mS 4 31] [4] .ret)))
theorem Ceh(a b:GAddress):Ctr Tryz.prog N2o [aS a.enc,aS b.enc] [rB (K4q a b)]:=by
 refine cA M4j 2 32 [(.tmp 4,[false])] Tryz.func164 rfl rfl ?_;unfold M4j
 intro hb
 clear hb
 simp only[go_sem]
 repeat' first
  |(refine And.intro ?_ ?_<;>intro h)
 all_goals (unfold K4q;first|(symm;rw[decide_eq_false_iff_not];omega)|(rw[Bool.eq_iff_iff];simp only[decide_eq_true_eq];omega))
def M4o:MC:=
(Zs [.box 2 0 (.s 0),.box 3 1 (.s 1),.mv 4 cF] [2,3] (.seq (Zs [fS 5 2 0,lF 6 1 5,fS 7 3 0,lF 8 1 7,bS 9 .neq 6 8] [2,3,9] (.cond (.s 9) (Zs [fS 10 2 0,lF 11 1 10,fS 12 3 0,lF 13 1 12,bS 14 .lss 11 13,mS 4 14] [4] .ret) .skip))
(.seq (Zs [fS 15 2 1,lF 16 1 15,fS 17 3 1,lF 18 1 17,bS 19 .neq 16 18] [2,3,19] (.cond (.s 19) (Zs [fS 20 2 1,lF 21 1 20,fS 22 3 1,lF 23 1 22,bS 24 .lss 21 23,mS 4 24] [4] .ret) .skip))
(Zs [fS 25 2 2,lF 26 1 25,fS 27 3 2,lF 28 1 27,bS 29 .lss 26 28,mS 4 29] [4] .ret))))
theorem Ceo(a b:GAddress):Ctr Tryz.prog N4y [aS a.enc,aS b.enc] [rB (K4q a b)]:=by
 refine cA M4o 2 30 [(.tmp 4,[false])] Tryz.func194 rfl rfl ?_;unfold M4o
 intro hb
 clear hb
 simp only[go_sem]
 repeat' first
  |(refine And.intro ?_ ?_<;>intro h)
 all_goals (unfold K4q;first|(symm;rw[decide_eq_false_iff_not];omega)|(rw[Bool.eq_iff_iff];simp only[decide_eq_true_eq];omega))
def Mbn:MC:=
(Zs [.box 2 0 (.s 0),.box 3 1 (.s 1),.mv 4 cF] [2,3] (.seq (Zs [fS 5 2 0,lT 6 3 5,fS 7 3 0,lT 8 3 7,.eqA 9 true [.i .i64,.i .i64,.i .i64] (.s 6) (.s 8)] [2,3,9] (.cond (.s 9) (Zs [fS 10 2 0,lT 11 3 10,fS 12 3 0,lT 13 3 12,.call 14 [] (.f N4y) [.s 11,.s 13],mS 4 14] [4] .ret) .skip))
(Zs [fS 15 2 3,lF 16 1 15,fS 17 3 3,lF 18 1 17,bS 19 .lss 16 18,mS 4 19] [4] .ret)))
theorem Ciz(a b:GFound):Ctr Tryz.prog Ncb [aS a.enc,aS b.enc] [rB (K24 a b)]:=by
 refine cA Mbn 2 20 [(.tmp 4,[false])] Tryz.func148 rfl rfl ?_;unfold Mbn
 intro hb
 clear hb
 simp only[go_sem]
 repeat' first
  |(refine And.intro ?_ ?_<;>intro h)
  |(apply K0 (Ceo _ _);simp only[go_sem])
 all_goals (simp only[K24,K4q];rw[Bool.eq_iff_iff];simp only[decide_eq_true_eq];simp at h;omega)
def Mcg:MC:=
(Zs [.mv 2 cF] [0] (Zs [mS 3 0,mS 4 0,bS 5 .neq 3 4,mS 2 5] [2] .ret))
theorem Ckj(x:Int):Ctr Tryz.prog N4s [aI x] [rB false]:=by
 refine cA Mcg 0 6 [(.tmp 2,[false])] Tryz.func208 rfl rfl ?_;unfold Mcg
 intro hb
 clear hb
 simp only[go_sem]
def M8l:MC:=
(Zs [.mv 4 (ci 0)] [0,1] (Zs [mS 7 0,.call 8 [] (.f N4s) [.s 7],mS 5 8] [0,1,5] (Zs [mS 9 1,.call 10 [] (.f N4s) [.s 9],mS 6 10] [0,1,5,6] (.seq (Zs [mS 11 5] [0,1,6,11] (.cond (.s 11) (.seq (Zs [mS 12 6] [12] (.cond (.s 12) (Zs [.mv 4 (ci 0)] [4] .ret) .skip))
(Zs [.mv 4 (.c (.int .i64 (-1)))] [4] .ret)) .skip))
(.seq (Zs [mS 13 6] [0,1,13] (.cond (.s 13) (Zs [.mv 4 (ci 1)] [4] .ret) .skip))
(.seq (Zs [mS 14 0,mS 15 1,bS 16 .lss 14 15] [0,1,16] (.cond (.s 16) (Zs [.mv 4 (.c (.int .i64 (-1)))] [4] .ret) .skip))
(.seq (Zs [mS 17 0,mS 18 1,bS 19 .gtr 17 18] [19] (.cond (.s 19) (Zs [.mv 4 (ci 1)] [4] .ret) .skip))
(Zs [.mv 4 (ci 0)] [4] .ret))))))))
theorem Cjy(x y:Int):Ctr Tryz.prog N9l [aI x,aI y] [rI (cmpI x y)]:=by
 refine cA M8l 0 20 [(.tmp 4,[false])] Tryz.func165 rfl rfl ?_;unfold M8l
 intro hb
 clear hb
 simp only[go_sem]
 repeat' first
  |(refine And.intro ?_ ?_<;>intro h)
  |(apply K0 (Ckj _);simp only[go_sem])
 all_goals (unfold cmpI;first|rfl|(repeat' split)<;>first|rfl|omega)
def M5c:MC:=
(Zs [.box 2 0 (.s 0),.box 3 1 (.s 1),.mv 4 (ci 0)] [2,3] (.seq (.block 0 (Zs [fS 6 2 0,lT 7 3 6,fS 8 3 0,lT 9 3 8,.call 10 [] (.f N2o) [.s 7,.s 9],mS 5 10] [2,3,5] (.cond (.s 5) (Zs [.mv 4 (.c (.int .i64 (-1)))] [4] .ret) (Zs [fS 12 3 0,lT 13 3 12,fS 14 2 0,lT 15 3 14,.call 16 [] (.f N2o) [.s 13,.s 15],mS 11 16] [2,3,11] (.cond (.s 11) (Zs [.mv 4 (ci 1)] [4] .ret) .skip)))))
(Zs [fS 17 2 3,lF 18 1 17,fS 19 3 3,lF 20 1 19,.call 21 [] (.f N9l) [.s 18,.s 20],mS 4 21] [4] .ret)))
theorem Cg1(a b:GFound):Ctr Tryz.prog N5x [aS a.enc,aS b.enc] [rI (K6e a b)]:=by
 refine cA M5c 2 22 [(.tmp 4,[false])] Tryz.func163 rfl rfl ?_;unfold M5c
 intro hb
 clear hb
 simp only[go_sem]
 repeat' first
  |(refine And.intro ?_ ?_<;>intro h)
  |(apply K0 (Ceh _ _);simp only[go_sem])
  |(apply K0 (Cjy _ _);simp only[go_sem])
 all_goals (unfold K6e;simp_all)
def M8n:MC:=
(Zs [.nilo 2 0 6] [0] (Zs [.nilo 3 0 6] [0,3] (.seq (Zs [mS 8 0,nS 9 8,.mv 10 (ci 0)] [3,8,9,10] (.block 0 (.loop ([3,8,9,10],[1,2,3]) (Zs [bS 11 .lss 10 9] [3,8,9,10,11] (.seq (cX 11 0)
(.seq (.block 1 (Zs [mS 12 10,xS 13 4 8 10,lT 14 4 13,.alloc 5 1 [.emp 4,.emp 5,.emp 9,pz],mS 4 12,sS 4 5 14] [3,4,5,8,9,10] (Zs [fS 15 5 2,lF 16 1 15,nS 17 16,.mv 18 (ci 0)] [3,4,8,9,10,16,17,18] (.block 2 (.loop ([3,4,8,9,10,16,17,18],[1,2,3]) (Zs [bS 19 .lss 18 17] [3,4,8,9,10,16,17,18,19] (.seq (cX 19 2)
(.seq (.block 3 (Zs [mS 20 18,xS 21 9 16 18,lT 22 9 21,.alloc 7 2 [pz,pz,pz,pz,pz,.emp 1,pz,pz,pz],mS 6 20,sS 9 7 22] [3,4,6,7,8,9,10,16,17,18] (pr [mS 23 3,fS 24 7 0,lT 25 3 24,fS 26 7 3,lF 27 1 26,mS 28 4,mS 29 6,.build 30 [pz,pz,pz,pz,pz,pz] [(0,3,.s 25),(3,1,.s 27),(4,1,.s 28),(5,1,.s 29)],.lit 31 3 6 48 [.s 30],.app 32 0 6 48 (.s 23) (.s 31),mS 3 32] [3,4,8,9,10,16,17,18])))
(pr [bC 33 .add 18 1,mS 18 33] [3,4,8,9,10,16,17,18])))))))))
(pr [bC 34 .add 10 1,mS 10 34] [3,8,9,10])))))))
(Zs [mS 35 3,.callI 36 [] (.f Nr) [.s 35,.f N5x] [0] []] [3] (Zs [mS 37 3,mS 2 37] [2] .ret)))))
theorem C8c(l:List GContainer)(hs:l.length+(l.map GContainer.size).sum≤1073741824):Ctr Tryz.prog N3k [aL 4 (l.map GContainer.enc)] [rL 6 ((index l).map GFound.enc)]:=by
 refine cA M8n 4 38 [(.tmp 2,[true])] Tryz.func120 rfl rfl ?_;unfold M8n
 intro hb
 clear hb
 simp only[go_sem]
 refine K3 l (fun i=>[(3,.val false [.ref 0 0 6 0 (fnds 0 (l.take i)).length]),(10,vI i)]) (fun i=>[(0,⟨0,.row true 6 ((fnds 0 (l.take i)).map GFound.enc)⟩)]) (fun _=>True) (by simp only[roomB];omega) ?_
 simp only[go_sem]
 refine⟨?_,trivial,?_,?_⟩
 ·simp only[go_sem,List.take_zero]
  exact⟨rfl,rfl⟩
 ·intro i x hx _ h0 h1 hw
  have hx1:=K1i (f:=GContainer.size) (Ki hx)
  have hi:=K9 hx
  have hxl:x.Captures.length≤x.size:=by simp only[GContainer.size];omega
  simp only[go_sem,K1 hx,h0,h1]
  refine K3 x.Captures (fun k=>[(3,.val false [.ref 0 0 6 0 (fnds 0 (l.take i)++fnd1 i 0 (x.Captures.take k)).length]),(18,vI k)]) (fun k=>[(0,⟨0,.row true 6 ((fnds 0 (l.take i)++fnd1 i 0 (x.Captures.take k)).map GFound.enc)⟩)]) (fun _=>True) (by simp only[roomB];omega) ?_
  simp only[go_sem]
  refine⟨?_,trivial,?_,?_⟩
  ·simp only[go_sem,List.take_zero]
   exact⟨by simp[fnd1],by simp[fnd1]⟩
  ·intro k c hc _ h2 h3 hw2
   have hn:=K8a (k:=k) hx
   simp only[go_sem,K1 hc,h2,h3,hw2,Kaj hc]
   exact⟨by simp only[roomB];omega,by simp only[roomB];omega,by simp only[List.length_append,List.length_cons,List.length_nil],by simp[GFound.enc]⟩
  ·intro _
   simp only[go_sem,List.take_length,hw]
   exact⟨by rw[K3u hx,Nat.zero_add],by rw[K3u hx,Nat.zero_add]⟩
 ·intro _
  simp only[go_sem,List.take_length]
  apply Ka (Ccd (fnds 0 l) _ K6e Cg1 fndSwo)
  simp only[go_sem]
  exact⟨Srt.len_isort.symm,by rw[index,K8s]⟩
def M9b:MC:=
(Zs [.nilo 2 0 6] [0] (Zs [.lit 8 0 6 48 [],mS 3 8] [0,3] (.seq (Zs [.mv 4 (ci 0)] [0,3,4] (.block 0 (.loop ([0,3,4],[1,2,3]) (.seq (Zs [mS 9 4,mS 10 0,nS 11 10,bS 12 .lss 9 11] [0,3,4,12] (cX 12 0))
(.seq (.block 1 (Zs [.mv 5 (ci 0)] [0,3,4,5] (.block 2 (.loop ([0,3,4,5],[1,2,3]) (.seq (Zs [mS 15 5,mS 16 0,mS 17 4,xS 18 4 16 17,fS 19 18 2,lF 20 1 19,nS 21 20,bS 22 .lss 15 21] [0,3,4,5,22] (cX 22 2))
(.seq (.block 3 (.seq (.dreg [Zf [6,26,30,34,35,36,37,38,39,40,41,42,43,44] [1] (mS 25 0),Zf [6,25,30,34,35,36,37,38,39,40,41,42,43,44] [1] (mS 26 4),Zg [6,30,34,35,36,37,38,39,40,41,42,43,44] [1] [0,1] (xS 27 4 25 26),Zg [6,30,34,35,36,37,38,39,40,41,42,43,44] [1] [0,1,2] (fS 28 27 2),Zg [6,30,34,35,36,37,38,39,40,41,42,43,44] [1] (.range 4) (lF 29 1 28),Zf [6,25,26,27,28,29,34,35,36,37,38,39,40,41,42,43,44] [1] (mS 30 5),Zg [6,34,35,36,37,38,39,40,41,42,43,44] [1] (.range 6) (xS 31 9 29 30),Zg [6,34,35,36,37,38,39,40,41,42,43,44] [1] (.range 7) (fS 32 31 0),Zg [6,34,35,36,37,38,39,40,41,42,43,44] [1] (.range 8) (lT 33 3 32),Zf [6,25,26,27,28,29,30,31,32,33,35,39,43,44] [1] (mS 34 0),Zf [6,25,26,27,28,29,30,31,32,33,34,39,43,44] [1] (mS 35 4),Zg [6,25,26,27,28,29,30,31,32,33,39,43,44] [1] [9,10] (xS 36 4 34 35),Zg [6,25,26,27,28,29,30,31,32,33,39,43,44] [1] [9,10,11] (fS 37 36 2),Zg [6,25,26,27,28,29,30,31,32,33,39,43,44] [1] [9,10,11,12] (lF 38 1 37),Zf [6,25,26,27,28,29,30,31,32,33,34,35,36,37,38,43,44] [1] (mS 39 5),Zg [6,25,26,27,28,29,30,31,32,33,43,44] [1] [9,10,11,12,13,14] (xS 40 9 38 39),Zg [6,25,26,27,28,29,30,31,32,33,43,44] [1] [9,10,11,12,13,14,15] (fS 41 40 3),Zg [6,25,26,27,28,29,30,31,32,33,43,44] [1] [9,10,11,12,13,14,15,16] (lF 42 1 41),Zf [6,25,26,27,28,29,30,31,32,33,34,35,36,37,38,39,40,41,42,44] [1] (mS 43 4),Zf [6,25,26,27,28,29,30,31,32,33,34,35,36,37,38,39,40,41,42,43] [1] (mS 44 5),Zg [6] [1] (.range 20) (.build 45 [pz,pz,pz,pz,pz,pz] [(0,3,.s 33),(3,1,.s 42),(4,1,.s 43),(5,1,.s 44)]),{o:= .alloc 6 1 [pz,pz,pz,pz,pz,pz],hs:=[25,26,27,28,29,30,31,32,33,34,35,36,37,38,39,40,41,42,43,44,45],ws:=[1]},{o:=sS 6 6 45,ws:=[1],bf:=(.range 22)}] [0,3,4,5,6])
(Zs [mS 46 3,nS 47 46,mS 7 47] [0,3,4,5,6,7] (.seq (.block 4 (.loop ([0,3,4,5,6,7],[2,3]) (.seq (.seq (.dreg [Za (mS 48 7),Ze [0] (bC 49 .gtr 48 0),Ze [0,1] (mS 50 49),{o:=lT 51 6 6,g:=some (50,true),hs:=[52,53,54,55,56],bf:=[0,1,2]},{o:=mS 52 3,g:=some (50,true),hs:=[51,53,54],bf:=[0,1,2]},{o:=mS 53 7,g:=some (50,true),hs:=[51,52],bf:=[0,1,2]},{o:=bC 54 .sub 53 1,g:=some (50,true),hs:=[51,52],bf:=[0,1,2,5]},{o:=xS 55 6 52 54,g:=some (50,true),hs:=[51],bf:=[0,1,2,4,5,6]},{o:=lT 56 6 55,g:=some (50,true),hs:=[51],bf:=[0,1,2,4,5,6,7]},{o:= .call 57 [] (.f Ncb) [.s 51,.s 56],g:=some (50,true),bf:=(.range 9)},Ze (.range 10) (.pick 58 (.s 50) (.s 57) cF)] [0,3,4,5,6,7,58])
(cX 58 4))
(.block 5 (pr [mS 59 7,bC 60 .sub 59 1,mS 7 60] [0,3,4,5,6,7])))))
(.dreg [{o:= .lit 61 2 6 48 [],hs:=[62,63,64,66,67,69,70,71],ho:=[3],ws:=[2]},Zf [61,63,66,67,69,70,71] [2,3] (mS 62 3),Zf [61,62,66,67,69,70,71] [2,3] (mS 63 7),Zg [61,66,67,69,70,71] [2,3] [1,2] (.slc 64 6 (.s 62) none (some (.s 63)) none),{o:= .app 65 2 6 48 (.s 61) (.s 64),hs:=[66,67,69,70,71],ho:=[3],ws:=[2],bf:=(.range 4)},Zf [61,62,63,64,65,69,70,71] [2] (lT 66 6 6),{o:= .lit 67 3 6 48 [.s 66],hs:=[61,62,63,64,65,69,70,71],ho:=[2],ws:=[3],bf:=[5]},{o:= .app 68 2 6 48 (.s 65) (.s 67),hs:=[69,70,71],ws:=[2],bf:=(.range 7)},Zf [61,62,63,64,65,66,67,68,70] [2,3] (mS 69 3),Zf [61,62,63,64,65,66,67,68,69] [2,3] (mS 70 7),Zg [61,62,63,64,65,66,67,68] [2,3] [8,9] (.slc 71 6 (.s 69) (some (.s 70)) none none),{o:= .app 72 0 6 48 (.s 68) (.s 71),ws:=[0,2],bf:=(.range 11)},Ze (.range 12) (mS 3 72)] [0,3,4,5])))))
(pr [mS 23 5,bC 24 .add 23 1,mS 5 24] [0,3,4,5])))))))
(pr [mS 13 4,bC 14 .add 13 1,mS 4 14] [0,3,4]))))))
(Zs [mS 73 3,mS 2 73] [2] .ret))))
theorem C8j(l:List GContainer)(hs:l.length+(l.map GContainer.size).sum≤1073741824):Ctr Tryz.prog N3o [aL 4 (l.map GContainer.enc)] [rL 6 ((index l).map GFound.enc)]:=by
 refine cA M9b 4 74 [(.tmp 2,[true])] Tryz.func97 rfl rfl ?_;unfold M9b
 intro hb
 clear hb
 simp only[go_sem]
 refine K3 l (fun i=>[(3,.val false [.ref 0 0 6 0 (Srt.isort K24 (fnds 0 (l.take i))).length]),(4,vI i)]) (fun i=>[(0,⟨0,.row true 6 ((Srt.isort K24 (fnds 0 (l.take i))).map GFound.enc)⟩)]) (fun _=>True) (by simp only[roomB];omega) ?_
 simp only[go_sem]
 refine⟨?_,trivial,?_,?_⟩
 ·simp only[go_sem,List.take_zero]
  exact⟨rfl,rfl⟩
 ·intro i x hx _ h0 h1 hw
  have hx1:=K1i (f:=GContainer.size) (Ki hx)
  have hi:=K9 hx
  have hxl:x.Captures.length≤x.size:=by simp only[GContainer.size];omega
  simp only[go_sem,h1]
  refine K3 x.Captures (fun k=>[(3,.val false [.ref 0 0 6 0 (Srt.isort K24 (fnds 0 (l.take i)++fnd1 i 0 (x.Captures.take k))).length]),(5,vI k)]) (fun k=>[(0,⟨0,.row true 6 ((Srt.isort K24 (fnds 0 (l.take i)++fnd1 i 0 (x.Captures.take k))).map GFound.enc)⟩)]) (fun _=>True) (by simp only[roomB];omega) ?_
  simp only[go_sem]
  refine⟨?_,trivial,?_,?_⟩
  ·simp only[go_sem,List.take_zero]
   exact⟨by simp[fnd1],by simp[fnd1]⟩
  ·intro k c hc _ h2 h3 hw2
   have hn:=K8a (k:=k) hx
   obtain⟨y,hy⟩:∃y:GFound,y=⟨c.Address,c.Tick,i,k⟩:=⟨_,rfl⟩
   obtain⟨out,hout⟩:∃out,out=Srt.isort K24 (fnds 0 (l.take i)++fnd1 i 0 (x.Captures.take k)):=⟨_,rfl⟩
   have hsr:Srt.srt K24 out:=hout▸Srt.srt_isort fndSwo' _
   have hol:out.length≤(l.map GContainer.size).sum:=by rw[hout,Srt.len_isort];exact hn
   have hst:Srt.isort K24 (fnds 0 (l.take i)++fnd1 i 0 (x.Captures.take (k+1)))=Srt.ins K24 y out:=by
    rw[Kaj hc,Srt.isort_snoc,←hout,←hy]
   have hye:([tI c.Address.Host,tI c.Address.Path,tI c.Address.Query,tI c.Tick,tI (i:Int),tI (k:Int)]:List T)=y.enc:=by rw[hy];rfl
   rw[hst,←hout]
   simp only[go_sem,K1 hx,K1 hc,h0,h1,h2,h3,hw]
   refine Kq (fun n:Nat=>[(7,vI n)]) (fun n=>[]) (fun n=>n≤out.length∧∀z∈out.drop n,K24 y z=true) (fun n=>n) out.length ?_
   simp only[go_sem]
   refine⟨?_,⟨Nat.le_refl _,by simp⟩,?_⟩
   ·simp only[go_sem]
   ·rintro n ⟨hn1,hn2⟩
    simp only[go_sem]
    refine⟨fun hpos=>?_,fun hzero=>?_⟩
    ·obtain⟨m,hm⟩:∃m,m=n-1:=⟨_,rfl⟩
     obtain⟨z,hz⟩:=K5 (show m<out.length by omega)
     have e1:IntKind.i64.wrap ((n:Int)-1)=(m:Int):=by rw[wI (by omega) (by omega)];omega
     rw[e1]
     simp only[go_sem,K1 hz]
     refine⟨⟨by omega,by omega⟩,?_⟩
     apply K0 (Ciz ⟨c.Address,c.Tick,(i:Int),(k:Int)⟩ z)
     simp only[go_sem]
     rw[e1]
     refine⟨fun ht=>⟨m,rfl,⟨by omega,?_⟩,by omega⟩,fun hf=>?_⟩
     ·rw[hm]
      exact Srt.drop_step (by omega) (hm▸hz) hn2 (hy▸ht)
     ·have hstop:n=0∨∃y',out[n-1]? =some y'∧K24 y y'=false:= .inr ⟨z,hm▸hz,hy▸hf⟩
      rw[cutA hn1]
      refine⟨by omega,by omega,?_⟩
      have hA:(out.take n).length=n:=by rw[List.length_take];omega
      have hB:out.length=n+(out.drop n).length:=by rw[List.length_drop];omega
      have eC:=cutB (f:=GFound.enc) hn1
      have e5:List.map GFound.enc (out.take n)++[[T.sc (Value.int IntKind.i64 c.Address.Host),T.sc (Value.int IntKind.i64 c.Address.Path),T.sc (Value.int IntKind.i64 c.Address.Query),T.sc (Value.int IntKind.i64 c.Tick),T.sc (Value.int IntKind.i64 (i:Int)),T.sc (Value.int IntKind.i64 (k:Int))]]=(out.take n++[y]).map GFound.enc:=by rw[hy];simp[GFound.enc]
      have e6:((out.take n++[y]).map GFound.enc).length=(out.take n).length+1:=by simp
      simp only[go_sem,↓Kt (f:=GFound.enc) (fun _=>rfl) (out.take n),↓eC,↓e5,↓e6,↓Kt (f:=GFound.enc) (fun _=>rfl) (out.drop n)]
      rw[Srt.ins_at fndSwo' hsr hn2 hstop]
      simp only[roomB]
      exact⟨by omega,by omega,by omega,⟨by omega,by omega,by omega⟩,by omega,by omega,⟨by simp only[List.length_append,List.length_cons,List.length_nil],hw2⟩,by rw[←List.map_append]⟩
    ·have hstop:n=0∨∃y',out[n-1]? =some y'∧K24 y y'=false:= .inl (by omega)
     rw[cutA hn1]
     refine⟨by omega,by omega,?_⟩
     have hA:(out.take n).length=n:=by rw[List.length_take];omega
     have hB:out.length=n+(out.drop n).length:=by rw[List.length_drop];omega
     have eC:=cutB (f:=GFound.enc) hn1
     have e5:List.map GFound.enc (out.take n)++[[T.sc (Value.int IntKind.i64 c.Address.Host),T.sc (Value.int IntKind.i64 c.Address.Path),T.sc (Value.int IntKind.i64 c.Address.Query),T.sc (Value.int IntKind.i64 c.Tick),T.sc (Value.int IntKind.i64 (i:Int)),T.sc (Value.int IntKind.i64 (k:Int))]]=(out.take n++[y]).map GFound.enc:=by rw[hy];simp[GFound.enc]
     have e6:((out.take n++[y]).map GFound.enc).length=(out.take n).length+1:=by simp
     simp only[go_sem,↓Kt (f:=GFound.enc) (fun _=>rfl) (out.take n),↓eC,↓e5,↓e6,↓Kt (f:=GFound.enc) (fun _=>rfl) (out.drop n)]
     rw[Srt.ins_at fndSwo' hsr hn2 hstop]
     simp only[roomB]
     exact⟨by omega,by omega,by omega,⟨by omega,by omega,by omega⟩,by omega,by omega,⟨by simp only[List.length_append,List.length_cons,List.length_nil],hw2⟩,by rw[←List.map_append]⟩
  ·intro _
   simp only[go_sem,List.take_length,K1 hx,h0,h1,hw,Int.lt_irrefl]
   exact⟨by rw[K3u hx,Nat.zero_add],by rw[K3u hx,Nat.zero_add]⟩
 ·intro _
  simp only[go_sem,List.take_length]
  rfl
end Go.Proofs.YtpeabgkoknjojaaGreatDoorR
namespace Go.Proofs.YtpeabgkoknjojaaGreatDoorR
open Go Go.RowKit Go.Proofs
open Nat (reduceEqDiff reduceLT reduceLeDiff reduceAdd reduceMul)
open List (reduceReplicate)
end Go.Proofs.YtpeabgkoknjojaaGreatDoorR
namespace Go.Proofs.YtpeabgkoknjojaaGreatDoorR
open Go Go.RowKit Go.Proofs
open Nat (reduceEqDiff reduceLT reduceLeDiff reduceAdd reduceMul)
open List (reduceReplicate)
end Go.Proofs.YtpeabgkoknjojaaGreatDoorR
namespace Go.Proofs.YtpeabgkoknjojaaGreatDoorR
open Go Go.RowKit Go.Proofs
open Nat (reduceEqDiff reduceLT reduceLeDiff reduceAdd reduceMul)
open List (reduceReplicate)
end Go.Proofs.YtpeabgkoknjojaaGreatDoorR
namespace Go.Proofs.YtpeabgkoknjojaaGreatDoorR
open Go Go.RowKit Go.Proofs
open Nat (reduceEqDiff reduceLT reduceLeDiff reduceAdd reduceMul)
open List (reduceReplicate)
end Go.Proofs.YtpeabgkoknjojaaGreatDoorR
namespace Go.Proofs.YtpeabgkoknjojaaGreatDoorR
open Go Go.RowKit Go.Proofs
open Nat (reduceEqDiff reduceLT reduceLeDiff reduceAdd reduceMul)
open List (reduceReplicate)
attribute [go_sem] eqB
def Ks(xs:List GOp):List Int:=xs.flatMap fun o=>[o.Kind,o.A,o.B,o.C]
theorem K5v{l:List GOp}{k:Nat}{x:GOp}(h:l[k]? =some x):Ks (l.take (k+1))=Ks (l.take k)++[x.Kind,x.A,x.B,x.C]:=by
 rw[K8 h,Ks,List.flatMap_append];rfl
theorem K6m{l:List GOp}:(Ks l).length=4*l.length:=by
 induction l with
 |nil=>rfl
 |cons x l ih=>simp only[Ks,List.flatMap_cons,List.length_append,List.length_cons,List.length_nil]at ih ⊢;omega
def M9h:MC:=
(Zs [.nilo 2 0 1] [0] (Zs [.lit 5 0 1 8 [],mS 3 5] [0,3] (.seq (Zs [.mv 4 (ci 0)] [0,3,4] (.block 0 (.loop ([0,3,4],[1]) (.seq (Zs [mS 6 4,mS 7 0,nS 8 7,bS 9 .lss 6 8] [0,3,4,9] (cX 9 0))
(.seq (.block 1 (.dreg [Zf [13,14,15,16,17,18,19,20,21,22,23,24,25,26,27,28,29,30,31,32,33] [1] (mS 12 3),Zc [12,14,18,19,20,21,22,23,24,25,26,27,28,29,30,31,32] (mS 13 0),Zc [12,13,18,19,20,21,22,23,24,25,26,27,28,29,30,31,32] (mS 14 4),Zd [12,18,19,20,21,22,23,24,25,26,27,28,29,30,31,32] [1,2] (xS 15 4 13 14),Zd [12,18,19,20,21,22,23,24,25,26,27,28,29,30,31,32] [1,2,3] (fS 16 15 0),Zd [12,18,19,20,21,22,23,24,25,26,27,28,29,30,31,32] [1,2,3,4] (lF 17 1 16),Zc [12,13,14,15,16,17,19,23,24,25,26,27,28,29,30,31,32] (mS 18 0),Zc [12,13,14,15,16,17,18,23,24,25,26,27,28,29,30,31,32] (mS 19 4),Zd [12,13,14,15,16,17,23,24,25,26,27,28,29,30,31,32] [6,7] (xS 20 4 18 19),Zd [12,13,14,15,16,17,23,24,25,26,27,28,29,30,31,32] [6,7,8] (fS 21 20 1),Zd [12,13,14,15,16,17,23,24,25,26,27,28,29,30,31,32] [6,7,8,9] (lF 22 1 21),Zc [12,13,14,15,16,17,18,19,20,21,22,24,28,29,30,31,32] (mS 23 0),Zc [12,13,14,15,16,17,18,19,20,21,22,23,28,29,30,31,32] (mS 24 4),Zd [12,13,14,15,16,17,18,19,20,21,22,28,29,30,31,32] [11,12] (xS 25 4 23 24),Zd [12,13,14,15,16,17,18,19,20,21,22,28,29,30,31,32] [11,12,13] (fS 26 25 2),Zd [12,13,14,15,16,17,18,19,20,21,22,28,29,30,31,32] [11,12,13,14] (lF 27 1 26),Zc [12,13,14,15,16,17,18,19,20,21,22,23,24,25,26,27,29] (mS 28 0),Zc [12,13,14,15,16,17,18,19,20,21,22,23,24,25,26,27,28] (mS 29 4),Zd [12,13,14,15,16,17,18,19,20,21,22,23,24,25,26,27] [16,17] (xS 30 4 28 29),Zd [12,13,14,15,16,17,18,19,20,21,22,23,24,25,26,27] [16,17,18] (fS 31 30 3),Zd [12,13,14,15,16,17,18,19,20,21,22,23,24,25,26,27] [16,17,18,19] (lF 32 1 31),{o:= .lit 33 1 1 8 [.s 17,.s 22,.s 27,.s 32],hs:=[12],ws:=[1],bf:=[1,2,3,4,5,6,7,8,9,10,11,12,13,14,15,16,17,18,19,20]},{o:= .app 34 0 1 8 (.s 12) (.s 33),ws:=[0],bf:=(.range 22)},Ze (.range 23) (mS 3 34)] [0,3,4]))
(pr [mS 10 4,bC 11 .add 10 1,mS 4 11] [0,3,4]))))))
(Zs [mS 35 3,mS 2 35] [2] .ret))))
theorem Chz(xs:List GOp)(hN:xs.length≤1099511627776):Ctr Tryz.prog Nab [aL 4 (xs.map GOp.enc)] [rL 1 ((Ks xs).map encI)]:=by
 refine cA M9h 2 36 [(.tmp 2,[true])] Tryz.func191 rfl rfl ?_;unfold M9h
 intro hb
 simp only[bdA,bdL,bdT,K7,roomB,and_true,List.length_map]at hb
 obtain⟨hl,-⟩:=hb
 simp only[go_sem]
 refine K3 xs (fun k=>[(3,.val false [.ref 0 0 1 0 (Ks (xs.take k)).length]),(4,vI k)]) (fun k=>[(0,⟨0,.row true 1 ((Ks (xs.take k)).map encI)⟩)]) (fun _=>True) hl ?_
 simp only[go_sem]
 refine⟨?_,trivial,?_,?_⟩
 ·simp only[go_sem,List.take_zero]
  exact⟨rfl,rfl⟩
 ·intro k x hx _ h0 h1 hw
  have hlt:=List.length_take_le k xs
  simp only[go_sem,K1 hx,h0,h1,hw,K5v hx,List.length_append,K6m]
  refine⟨⟨by simp,by decide⟩,by simp only[roomB];omega,by simp[encI]⟩
 ·intro _
  simp only[go_sem,List.take_length]
def Me2:MC:=
(Zs [.mv 4 cF] [0,1] (.seq (Zs [mS 6 0,nS 7 6,mS 8 1,nS 9 8,bS 10 .neq 7 9] [0,1,10] (.cond (.s 10) (Zs [.mv 4 cF] [4] .ret) .skip))
(.seq (Zs [.mv 5 (ci 0)] [0,1,5] (.block 0 (.loop ([0,1,5],[]) (.seq (Zs [mS 11 5,mS 12 0,nS 13 12,bS 14 .lss 11 13] [0,1,5,14] (cX 14 0))
(.seq (.block 1 (.seq (.dreg [Zc [18,21,22,23,24] (mS 17 0),Zc [17,21,22,23,24] (mS 18 5),Zd [21,22,23,24] [0,1] (xS 19 6 17 18),Zd [21,22,23,24] [0,1,2] (lT 20 6 19),Zc [17,18,19,20,22] (mS 21 1),Zc [17,18,19,20,21] (mS 22 5),Zd [17,18,19,20] [4,5] (xS 23 6 21 22),Zd [17,18,19,20] [4,5,6] (lT 24 6 23),Ze (.range 8) (.eqA 25 true [.i .i64,.i .i64,.i .i64,.i .i64,.i .i64,.i .i64] (.s 20) (.s 24))] [0,1,5,25])
(.cond (.s 25) (Zs [.mv 4 cF] [4] .ret) .skip)))
(pr [mS 15 5,bC 16 .add 15 1,mS 5 16] [0,1,5]))))))
(Zs [.mv 4 cT] [4] .ret))))
theorem Cdo(xs ys:List GFound):Ctr Tryz.prog N6e [aL 6 (xs.map GFound.enc),aL 6 (ys.map GFound.enc)] [rB (decide (xs=ys))]:=by
 refine cA Me2 0 26 [(.tmp 4,[false])] Tryz.func96 rfl rfl ?_;unfold Me2
 intro hb
 simp only[bdA,bdL,bdT,K7,roomB,and_true,List.length_map]at hb
 obtain⟨⟨hl,-⟩,⟨hl2,-⟩⟩:=hb
 simp only[go_sem]
 refine⟨fun h=>K2t h,fun h=>?_⟩
 have hle:xs.length=ys.length:=by omega
 refine K3 xs (fun k=>[(5,vI k)]) (fun k=>[]) (fun k=>xs.take k=ys.take k) hl ?_
 simp only[go_sem]
 refine⟨?_,rfl,?_,?_⟩
 ·simp only[go_sem]
 ·intro k x hx he h0 h1 hw
  obtain⟨y,hy⟩:=K5 (show k<ys.length by omega)
  have h2:(k:Int)<ys.length:=by omega
  simp only[go_sem,K1 hx,K1 hy,h0,h1,h2,hw]
  exact⟨fun hn=>K3d hx hy (by rintro rfl;simp at hn),fun hn=>(Ku hx hy he).2 (by exact GFound.eqv.2 (by simpa using hn))⟩
 ·intro he
  simp only[go_sem]
  exact K2s he hle
end Go.Proofs.YtpeabgkoknjojaaGreatDoorR
namespace Go.Proofs.YtpeabgkoknjojaaGreatDoorR
open Go Go.RowKit Go.Proofs
open Nat (reduceEqDiff reduceLT reduceLeDiff reduceAdd reduceMul)
open List (reduceReplicate)
theorem K5b{α:Type}{p:α→Bool}{l:List α}:(l.any fun x=> !p x)= !l.all p:=by
 induction l with
 |nil=>rfl
 |cons x l ih=>rw[List.any_cons,List.all_cons,ih];cases p x<;>rfl
def K17{α:Type}(n:Nat)(p:α→Bool)(l:List α):Bool:=decide (l.length≤n)&&l.all p
theorem K5n{α:Type}{n:Nat}{p:α→Bool}{l:List α}(h:¬l.length≤n):false=K17 n p l:=by
 unfold K17;rw[decide_eq_false h];rfl
theorem K4z{α:Type}{n:Nat}{p:α→Bool}{l:List α}(h:l.length≤n):(!l.any fun x=> !p x)=K17 n p l:=by
 unfold K17;rw[decide_eq_true h,K5b,Bool.not_not];rfl
theorem K3t{α:Type}{n:Nat}{p:α→Bool}{l:List α}{k:Nat}{x:α}(hx:l[k]? =some x)(h:p x=false):false=K17 n p l:=by
 unfold K17;rw[←K7w hx h,Bool.and_false]
theorem K4y{α:Type}{n:Nat}{p:α→Bool}{l:List α}(h:l.all p=true):decide (l.length≤n)=K17 n p l:=by
 unfold K17;rw[h,Bool.and_true]
theorem K6j{n m:Nat}:decide ((n:Int)≤(m:Int))=decide (n≤m):=by
 rw[Bool.eq_iff_iff];simp only[decide_eq_true_eq];omega
def opOk(o:GOp):Bool:=decide ((0≤o.A∧o.A<4)∧(
 (o.Kind=1∧(1≤o.B∧o.B≤9)∧(0≤o.C∧o.C≤99))∨
 ((o.Kind=2∨o.Kind=3∨o.Kind=4)∧o.B=0∧o.C=0)∨
 (o.Kind=5∧(0≤o.B∧o.B<4)∧(0≤o.C∧o.C<4))∨
 (o.Kind=6∧(0≤o.B∧o.B<4)∧o.C=0)∨
 (o.Kind=7∧(1≤o.B∧o.B≤3)∧o.C=0)∨
 ((o.Kind=8∨o.Kind=9)∧(0≤o.B∧o.B<3)∧o.C=0)))
def K1x(l:List GOp):Bool:=K17 16 opOk l
def Mi8:MC:=
(Zs [.box 1 0 (.s 0),.mv 2 cF] [1] (.seq (Zs [fS 3 1 1,lF 4 1 3,.call 5 [] (.f N2l) [.s 4,.c (.int .i64 4)],.un 6 .not (.s 5)] [1,6] (.cond (.s 6) (Zs [.mv 2 cF] [2] .ret) .skip))
(.seq (Zs [fS 7 1 0,lF 8 1 7] [1,8] (.block 0 (Zs [bC 10 .eql 8 1,mS 9 10] [1,8,9] (.cond (.s 9) (.seq (.reg [Za (fS 11 1 2),Za (lF 12 1 11),Za (.call 13 [] (.f N1) [.s 12,.c (.int .i64 1),.c (.int .i64 9)]),Za (mS 14 13),Zb 14 true (fS 15 1 3),Zb 14 true (lF 16 1 15),Zb 14 true (.call 17 [] (.f N1) [.s 16,.c (.int .i64 0),.c (.int .i64 99)]),Za (.pick 18 (.s 14) (.s 17) cF),Za (mS 2 18)] [2])
.ret) (.seq (Zs [bC 20 .eql 8 2,mS 19 20] [1,8,19] (.cond (.s 19) .skip (Zs [bC 21 .eql 8 3,mS 19 21] [1,8,19] (.cond (.s 19) .skip (pr [bC 22 .eql 8 4,mS 19 22] [1,8,19])))))
(.cond (.s 19) (.seq (.reg [Za (fS 23 1 2),Za (lF 24 1 23),Za (bC 25 .eql 24 0),Za (mS 26 25),Zb 26 true (fS 27 1 3),Zb 26 true (lF 28 1 27),Zb 26 true (bC 29 .eql 28 0),Za (.pick 30 (.s 26) (.s 29) cF),Za (mS 2 30)] [2])
.ret) (Zs [bC 32 .eql 8 5,mS 31 32] [1,8,31] (.cond (.s 31) (.seq (.reg [Za (fS 33 1 2),Za (lF 34 1 33),Za (.call 35 [] (.f N2l) [.s 34,.c (.int .i64 4)]),Za (mS 36 35),Zb 36 true (fS 37 1 3),Zb 36 true (lF 38 1 37),Zb 36 true (.call 39 [] (.f N2l) [.s 38,.c (.int .i64 4)]),Za (.pick 40 (.s 36) (.s 39) cF),Za (mS 2 40)] [2])
.ret) (Zs [bC 42 .eql 8 6,mS 41 42] [1,8,41] (.cond (.s 41) (.seq (.reg [Za (fS 43 1 2),Za (lF 44 1 43),Za (.call 45 [] (.f N2l) [.s 44,.c (.int .i64 4)]),Za (mS 46 45),Zb 46 true (fS 47 1 3),Zb 46 true (lF 48 1 47),Zb 46 true (bC 49 .eql 48 0),Za (.pick 50 (.s 46) (.s 49) cF),Za (mS 2 50)] [2])
.ret) (Zs [bC 52 .eql 8 7,mS 51 52] [1,8,51] (.cond (.s 51) (.seq (.reg [Za (fS 53 1 2),Za (lF 54 1 53),Za (.call 55 [] (.f N1) [.s 54,.c (.int .i64 1),.c (.int .i64 3)]),Za (mS 56 55),Zb 56 true (fS 57 1 3),Zb 56 true (lF 58 1 57),Zb 56 true (bC 59 .eql 58 0),Za (.pick 60 (.s 56) (.s 59) cF),Za (mS 2 60)] [2])
.ret) (.seq (Zs [bC 62 .eql 8 8,mS 61 62] [1,8,61] (.cond (.s 61) .skip (pr [bC 63 .eql 8 9,mS 61 63] [1,61])))
(.cond (.s 61) (.seq (.reg [Za (fS 64 1 2),Za (lF 65 1 64),Za (.call 66 [] (.f N2l) [.s 65,.c (.int .i64 3)]),Za (mS 67 66),Zb 67 true (fS 68 1 3),Zb 67 true (lF 69 1 68),Zb 67 true (bC 70 .eql 69 0),Za (.pick 71 (.s 67) (.s 70) cF),Za (mS 2 71)] [2])
.ret) .skip))))))))))))))
(Zs [.mv 2 cF] [2] .ret))))
theorem Ckk(o:GOp):Ctr Tryz.prog Nie [aS o.enc] [rB (opOk o)]:=by
 refine cA Mi8 1 72 [(.tmp 2,[false])] Tryz.func116 rfl rfl ?_;unfold Mi8
 intro hb
 clear hb
 simp only[go_sem]
 repeat' first
  |(refine And.intro ?_ ?_<;>intro h)
  |(apply K0 (Cce _ _);simp only[go_sem])
  |(apply K0 (C4 _ _ _);simp only[go_sem])
 all_goals (unfold opOk;first|(symm;rw[decide_eq_false_iff_not];omega)|(symm;rw[decide_eq_true_eq];omega)|(rw[Bool.eq_iff_iff];simp only[decide_eq_true_eq,beq_iff_eq];omega))
def Mha:MC:=
(Zs [.box 1 0 (.s 0),.mv 2 cF] [1] (Zs [.mv 3 (ci 3)] [1,3] (.seq (Zs [fS 4 1 1,lF 5 1 4,mS 6 3,.call 7 [] (.f N0) [.s 5,.c (.int .i64 0),.s 6],.un 8 .not (.s 7)] [1,3,8] (.cond (.s 8) (Zs [.mv 2 cF] [2] .ret) .skip))
(.seq (Zs [fS 9 1 0,lF 10 1 9] [1,3,10] (.block 0 (Zs [bC 12 .eql 10 1,mS 11 12] [1,3,10,11] (.cond (.s 11) (.seq (.reg [Za (fS 13 1 2),Za (lF 14 1 13),Za (.call 15 [] (.f N0) [.s 14,.c (.int .i64 1),.c (.int .i64 9)]),Za (mS 16 15),Zb 16 true (fS 17 1 3),Zb 16 true (lF 18 1 17),Zb 16 true (.call 19 [] (.f N0) [.s 18,.c (.int .i64 0),.c (.int .i64 99)]),Za (.pick 20 (.s 16) (.s 19) cF),Za (mS 2 20)] [2])
.ret) (.seq (Zs [bC 22 .eql 10 2,mS 21 22] [1,3,10,21] (.cond (.s 21) .skip (Zs [bC 23 .eql 10 3,mS 21 23] [1,3,10,21] (.cond (.s 21) .skip (pr [bC 24 .eql 10 4,mS 21 24] [1,3,10,21])))))
(.cond (.s 21) (.seq (.reg [Za (fS 25 1 2),Za (lF 26 1 25),Za (bC 27 .eql 26 0),Za (mS 28 27),Zb 28 true (fS 29 1 3),Zb 28 true (lF 30 1 29),Zb 28 true (bC 31 .eql 30 0),Za (.pick 32 (.s 28) (.s 31) cF),Za (mS 2 32)] [2])
.ret) (Zs [bC 34 .eql 10 5,mS 33 34] [1,3,10,33] (.cond (.s 33) (.seq (.reg [Za (fS 35 1 2),Za (lF 36 1 35),Za (mS 37 3),Za (.call 38 [] (.f N0) [.s 36,.c (.int .i64 0),.s 37]),Za (mS 39 38),Zb 39 true (fS 40 1 3),Zb 39 true (lF 41 1 40),Zb 39 true (mS 42 3),Zb 39 true (.call 43 [] (.f N0) [.s 41,.c (.int .i64 0),.s 42]),Za (.pick 44 (.s 39) (.s 43) cF),Za (mS 2 44)] [2])
.ret) (Zs [bC 46 .eql 10 6,mS 45 46] [1,10,45] (.cond (.s 45) (.seq (.reg [Za (fS 47 1 2),Za (lF 48 1 47),Za (.call 49 [] (.f N0) [.s 48,.c (.int .i64 0),.c (.int .i64 3)]),Za (mS 50 49),Zb 50 true (fS 51 1 3),Zb 50 true (lF 52 1 51),Zb 50 true (bC 53 .eql 52 0),Za (.pick 54 (.s 50) (.s 53) cF),Za (mS 2 54)] [2])
.ret) (Zs [bC 56 .eql 10 7,mS 55 56] [1,10,55] (.cond (.s 55) (.seq (.reg [Za (fS 57 1 2),Za (lF 58 1 57),Za (.call 59 [] (.f N0) [.s 58,.c (.int .i64 1),.c (.int .i64 3)]),Za (mS 60 59),Zb 60 true (fS 61 1 3),Zb 60 true (lF 62 1 61),Zb 60 true (bC 63 .eql 62 0),Za (.pick 64 (.s 60) (.s 63) cF),Za (mS 2 64)] [2])
.ret) (.seq (Zs [bC 66 .eql 10 8,mS 65 66] [1,10,65] (.cond (.s 65) .skip (pr [bC 67 .eql 10 9,mS 65 67] [1,65])))
(.cond (.s 65) (.seq (.reg [Za (fS 68 1 2),Za (lF 69 1 68),Za (.call 70 [] (.f N0) [.s 69,.c (.int .i64 0),.c (.int .i64 2)]),Za (mS 71 70),Zb 71 true (fS 72 1 3),Zb 71 true (lF 73 1 72),Zb 71 true (bC 74 .eql 73 0),Za (.pick 75 (.s 71) (.s 74) cF),Za (mS 2 75)] [2])
.ret) .skip))))))))))))))
(Zs [.mv 2 cF] [2] .ret)))))
theorem Cki(o:GOp):Ctr Tryz.prog Nhb [aS o.enc] [rB (opOk o)]:=by
 refine cA Mha 1 76 [(.tmp 2,[false])] Tryz.func93 rfl rfl ?_;unfold Mha
 intro hb
 clear hb
 simp only[go_sem]
 repeat' first
  |(refine And.intro ?_ ?_<;>intro h)
  |(apply K0 (C3 _ _ _);simp only[go_sem])
 all_goals (unfold opOk;first|(symm;rw[decide_eq_false_iff_not];omega)|(symm;rw[decide_eq_true_eq];omega)|(rw[Bool.eq_iff_iff];simp only[decide_eq_true_eq,beq_iff_eq];omega))
def Y17(v0:Nat)(v1:Nat):MC:=
(Zs [.box 1 0 (.s 0),.mv 2 cF] [1] (Zs [lT 3 v0 1,.call 4 [] (.f v1) [.s 3],.un 5 .not (.s 4),mS 2 5] [2] .ret))
attribute [go_sem] Y17
def M8t:MC:=Y17 4 Nie
theorem Chg(o:GOp):Ctr Tryz.prog N9q [aS o.enc] [rB (!opOk o)]:=by
 refine cA M8t 1 6 [(.tmp 2,[false])] Tryz.func115 rfl rfl ?_;unfold M8t
 intro hb
 clear hb
 simp only[go_sem]
 apply K0 (Ckk _)
 simp only[go_sem]
def Mci:MC:=
(Zs [.mv 2 cF] [0] (.seq (.reg [Za (mS 3 0),Za (nS 4 3),Za (bC 5 .leq 4 16),Za (mS 6 5),Zb 6 true (mS 7 0),Zb 6 true (.call 8 [] (.f N1b) [.s 7,.f N9q]),Zb 6 true (.un 9 .not (.s 8)),Za (.pick 10 (.s 6) (.s 9) cF),Za (mS 2 10)] [2])
.ret))
theorem C30(l:List GOp):Ctr Tryz.prog N28 [aL 4 (l.map GOp.enc)] [rB (K1x l)]:=by
 refine cA Mci 0 11 [(.tmp 2,[false])] Tryz.func63 rfl rfl ?_;unfold Mci
 intro hb
 clear hb
 simp only[go_sem]
 refine⟨fun h=>?_,fun h=>K5n (by omega)⟩
 refine K0 (Cal l _ [] (fun o=> !opOk o) fun o _=>Chg o) ?_
 simp only[go_sem]
 exact K4z (by omega)
def Mct:MC:=
(Zs [.mv 2 cF] [0] (.seq (Zs [.mv 3 (ci 0)] [0,3] (.block 0 (.loop ([0,3],[]) (.seq (Zs [mS 4 3,mS 5 0,nS 6 5,bS 7 .lss 4 6] [0,3,7] (cX 7 0))
(.seq (.block 1 (Zs [mS 10 0,mS 11 3,xS 12 4 10 11,lT 13 4 12,.call 14 [] (.f Nhb) [.s 13],.un 15 .not (.s 14)] [0,3,15] (.cond (.s 15) (Zs [.mv 2 cF] [2] .ret) .skip)))
(pr [mS 8 3,bC 9 .add 8 1,mS 3 9] [0,3]))))))
(Zs [mS 16 0,nS 17 16,bC 18 .leq 17 16,mS 2 18] [2] .ret)))
theorem C31(l:List GOp):Ctr Tryz.prog N2a [aL 4 (l.map GOp.enc)] [rB (K1x l)]:=by
 refine cA Mct 0 19 [(.tmp 2,[false])] Tryz.func45 rfl rfl ?_;unfold Mct
 intro hb
 simp only[bdA,bdL,bdT,K7,roomB,and_true,List.length_map]at hb
 have hl:=hb.1
 clear hb
 simp only[go_sem]
 refine K3 l (fun k=>[(3,vI k)]) (fun k=>[]) (fun k=>(l.take k).all opOk=true) hl ?_
 simp only[go_sem]
 refine⟨?_,by simp,?_,?_⟩
 ·simp only[go_sem]
 ·intro k x hx h h0 h1 hw
  simp only[go_sem,K1 hx,h0,h1]
  apply K0 (Cki _)
  simp only[go_sem,hw]
  exact⟨fun hn=>K3t hx hn,fun hn=>K2b hx h hn⟩
 ·intro h
  simp only[go_sem]
  rw[List.take_length]at h
  exact K6j.trans (K4y h)
def asks(k:Int):Bool:=decide (1≤k∧k≤4)
def Y18(v0:Nat)(v1:Nat):MC:=
(Zs [.mv 2 cF] [0] (Zs [mS 3 0,.call 4 [] (.f v0) [.s 3,.c (.int .i64 1),.c (.int .i64 v1)],mS 2 4] [2] .ret))
attribute [go_sem] Y18
def Mi6:MC:=Y18 N1 4
theorem Ci4(k:Int):Ctr Tryz.prog Ndi [aI k] [rB (asks k)]:=by
 refine cA Mi6 0 5 [(.tmp 2,[false])] Tryz.func244 rfl rfl ?_;unfold Mi6
 intro hb
 clear hb
 simp only[go_sem]
 apply K0 (C4 _ _ _)
 simp only[go_sem]
 try rfl
def Mib:MC:=Y18 N0 4
theorem Ci5(k:Int):Ctr Tryz.prog Ndj [aI k] [rB (asks k)]:=by
 refine cA Mib 0 5 [(.tmp 2,[false])] Tryz.func189 rfl rfl ?_;unfold Mib
 intro hb
 clear hb
 simp only[go_sem]
 apply K0 (C3 _ _ _)
 simp only[go_sem]
 try rfl
def K44(e:GEntry):Bool:=asks e.Kind&&(decide (0≤e.Value∧e.Value≤999)&&(if e.Kind=1 then K11 e.Address else K21 e.Address))
def K7i(l:List GEntry):Bool:=K17 16 K44 l
def M5a:MC:=
(Zs [.box 1 0 (.s 0),.mv 2 cF] [1] (.seq (Zs [fS 3 1 0,lF 4 1 3,bC 5 .eql 4 1] [1,5] (.cond (.s 5) (.seq (.reg [Za (fS 6 1 1),Za (lT 7 3 6),Za (.call 8 [] (.f N18) [.s 7]),Za (.un 9 .not (.s 8)),Za (mS 10 9),Zb 10 false (fS 11 1 4),Zb 10 false (lF 12 1 11),Zb 10 false (.call 13 [] (.f N1) [.s 12,.c (.int .i64 0),.c (.int .i64 999)]),Zb 10 false (.un 14 .not (.s 13)),Za (.pick 15 (.s 10) cT (.s 14)),Za (mS 2 15)] [2])
.ret) .skip))
(.seq (.reg [Za (fS 16 1 0),Za (lF 17 1 16),Za (.call 18 [] (.f Ndi) [.s 17]),Za (.un 19 .not (.s 18)),Za (mS 20 19),Zb 20 false (fS 21 1 1),Zb 20 false (lT 22 3 21),Zb 20 false (.build 23 [pz,pz,pz] []),Zb 20 false (.eqA 24 true [.i .i64,.i .i64,.i .i64] (.s 22) (.s 23)),Za (.pick 25 (.s 20) cT (.s 24)),Za (mS 26 25),Zb 26 false (fS 27 1 4),Zb 26 false (lF 28 1 27),Zb 26 false (.call 29 [] (.f N1) [.s 28,.c (.int .i64 0),.c (.int .i64 999)]),Zb 26 false (.un 30 .not (.s 29)),Za (.pick 31 (.s 26) cT (.s 30)),Za (mS 2 31)] [2])
.ret)))
theorem Cfz(e:GEntry):Ctr Tryz.prog N5v [aS e.enc] [rB (!K44 e)]:=by
 refine cA M5a 1 32 [(.tmp 2,[false])] Tryz.func243 rfl rfl ?_;unfold M5a
 intro hb
 clear hb
 simp only[go_sem]
 repeat' first
  |(refine And.intro ?_ ?_<;>intro h)
  |(apply K0 (C15 _);simp only[go_sem])
  |(apply K0 (Ci4 _);simp only[go_sem])
  |(apply K0 (C4 _ _ _);simp only[go_sem])
 all_goals (simp_all[K44,asks,K21];try omega)
def M8m:MC:=
(Zs [.mv 2 cF] [0] (.seq (.reg [Za (mS 3 0),Za (nS 4 3),Za (bC 5 .leq 4 16),Za (mS 6 5),Zb 6 true (mS 7 0),Zb 6 true (.call 8 [] (.f Ny) [.s 7,.f N5v]),Zb 6 true (.un 9 .not (.s 8)),Za (.pick 10 (.s 6) (.s 9) cF),Za (mS 2 10)] [2])
.ret))
theorem C8b(l:List GEntry):Ctr Tryz.prog N3j [aL 5 (l.map GEntry.enc)] [rB (K7i l)]:=by
 refine cA M8m 0 11 [(.tmp 2,[false])] Tryz.func204 rfl rfl ?_;unfold M8m
 intro hb
 clear hb
 simp only[go_sem]
 refine⟨fun h=>?_,fun h=>K5n (by omega)⟩
 refine K0 (C6i l _ [] (fun o=> !K44 o) fun o _=>Cfz o) ?_
 simp only[go_sem]
 exact K4z (by omega)
def M9a:MC:=
(Zs [.mv 2 cF] [0] (.seq (Zs [.mv 3 (ci 0)] [0,3] (.block 0 (.loop ([0,3],[0]) (.seq (Zs [mS 5 3,mS 6 0,nS 7 6,bS 8 .lss 5 7] [0,3,8] (cX 8 0))
(.seq (.block 1 (Zs [mS 11 0,mS 12 3,xS 13 5 11 12,lT 14 5 13,.alloc 4 0 [pz,pz,pz,pz,pz],sS 5 4 14] [0,3,4] (.seq (.reg [Za (fS 15 4 0),Za (lF 16 1 15),Za (.call 17 [] (.f Ndj) [.s 16]),Za (.un 18 .not (.s 17)),Za (mS 19 18),Zb 19 false (fS 20 4 4),Zb 19 false (lF 21 1 20),Zb 19 false (.call 22 [] (.f N0) [.s 21,.c (.int .i64 0),.c (.int .i64 999)]),Zb 19 false (.un 23 .not (.s 22)),Za (.pick 24 (.s 19) cT (.s 23)),Za (mS 25 24),Zb 25 false (fS 26 4 0),Zb 25 false (lF 27 1 26),Zb 25 false (bC 28 .eql 27 1),Zb 25 false (mS 29 28),Zb 29 true (fS 30 4 1),Zb 29 true (lT 31 3 30),Zb 29 true (.call 32 [] (.f Nz) [.s 31]),Zb 29 true (.un 33 .not (.s 32)),Zb 25 false (.pick 34 (.s 29) (.s 33) cF),Za (.pick 35 (.s 25) cT (.s 34)),Za (mS 36 35),Zb 36 false (fS 37 4 0),Zb 36 false (lF 38 1 37),Zb 36 false (bC 39 .neq 38 1),Zb 36 false (mS 40 39),Zb 40 true (fS 41 4 1),Zb 40 true (lT 42 3 41),Zb 40 true (.build 43 [pz,pz,pz] []),Zb 40 true (.eqA 44 true [.i .i64,.i .i64,.i .i64] (.s 42) (.s 43)),Zb 36 false (.pick 45 (.s 40) (.s 44) cF),Za (.pick 46 (.s 36) cT (.s 45))] [0,3,46])
(.cond (.s 46) (Zs [.mv 2 cF] [2] .ret) .skip))))
(pr [mS 9 3,bC 10 .add 9 1,mS 3 10] [0,3]))))))
(Zs [mS 47 0,nS 48 47,bC 49 .leq 48 16,mS 2 49] [2] .ret)))
theorem C8i(l:List GEntry):Ctr Tryz.prog N3n [aL 5 (l.map GEntry.enc)] [rB (K7i l)]:=by
 refine cA M9a 1 50 [(.tmp 2,[false])] Tryz.func145 rfl rfl ?_;unfold M9a
 intro hb
 simp only[bdA,bdL,bdT,K7,roomB,and_true,List.length_map]at hb
 have hl:=hb.1
 clear hb
 simp only[go_sem]
 refine K3 l (fun k=>[(3,vI k)]) (fun k=>[]) (fun k=>(l.take k).all K44=true) hl ?_
 simp only[go_sem]
 refine⟨?_,by simp,?_,?_⟩
 ·simp only[go_sem]
 ·intro k x hx hT h0 h1 hw
  have hy:K44 x=true→(l.take (k+1)).all K44=true:=fun hn=>K2b hx hT hn
  have hn:K44 x=false→false=K7i l:=fun hn=>K3t hx hn
  clear hT
  simp only[go_sem,K1 hx,h0,h1]
  repeat' first
   |(refine And.intro ?_ ?_<;>intro h)
   |(apply K0 (C16 _);simp only[go_sem,hw])
   |(apply K0 (Ci5 _);simp only[go_sem])
   |(apply K0 (C3 _ _ _);simp only[go_sem,hw])
  all_goals first|(apply hy;clear hy hn hx hw;simp_all[K44,K21];done)|(apply hn;clear hy hn hx hw;simp_all[K44,K21];done)|(apply hn;clear hy hn hx hw;unfold K44;rw[decide_eq_false (by assumption)];simp;done)
 ·intro h
  simp only[go_sem]
  rw[List.take_length]at h
  exact K6j.trans (K4y h)
def K41(c:GCapture):Bool:=K11 c.Address&&(decide (0≤c.Tick∧c.Tick≤2000)&&K14 c.Resource)
def K98(l:List GCapture):Bool:=K17 20 K41 l
def Y19(v0:Nat):MC:=
(Zs [.box 1 0 (.s 0),.mv 2 cF] [1] (.seq (.reg [Za (fS 3 1 0),Za (lT 4 3 3),Za (.call 5 [] (.f N18) [.s 4]),Za (.un 6 .not (.s 5)),Za (mS 7 6),Zb 7 false (fS 8 1 3),Zb 7 false (lF 9 1 8),Zb 7 false (.call 10 [] (.f N1) [.s 9,.c (.int .i64 0),.c (.int .i64 v0)]),Zb 7 false (.un 11 .not (.s 10)),Za (.pick 12 (.s 7) cT (.s 11)),Za (mS 13 12),Zb 13 false (fS 14 1 4),Zb 13 false (lT 15 5 14),Zb 13 false (.call 16 [] (.f N3l) [.s 15]),Zb 13 false (.un 17 .not (.s 16)),Za (.pick 18 (.s 13) cT (.s 17)),Za (mS 2 18)] [2])
.ret))
attribute [go_sem] Y19
def M4i:MC:=Y19 2000
theorem Ceg(c:GCapture):Ctr Tryz.prog N4t [aS c.enc] [rB (!K41 c)]:=by
 refine cA M4i 1 19 [(.tmp 2,[false])] Tryz.func246 rfl rfl ?_;unfold M4i
 intro hb
 clear hb
 simp only[go_sem]
 repeat' first
  |(refine And.intro ?_ ?_<;>intro h)
  |(apply K0 (C15 _);simp only[go_sem])
  |(apply K0 (C3g _);simp only[go_sem])
  |(apply K0 (C4 _ _ _);simp only[go_sem])
 all_goals (simp_all[K41];try omega)
def M6p:MC:=
(Zs [.mv 2 cF] [0] (.seq (.reg [Za (mS 3 0),Za (nS 4 3),Za (bC 5 .leq 4 20),Za (mS 6 5),Zb 6 true (mS 7 0),Zb 6 true (.call 8 [] (.f Nm) [.s 7,.f N4t]),Zb 6 true (.un 9 .not (.s 8)),Za (.pick 10 (.s 6) (.s 9) cF),Za (mS 2 10)] [2])
.ret))
theorem Cgh(l:List GCapture):Ctr Tryz.prog N7h [aL 9 (l.map GCapture.enc)] [rB (K98 l)]:=by
 refine cA M6p 0 11 [(.tmp 2,[false])] Tryz.func205 rfl rfl ?_;unfold M6p
 intro hb
 clear hb
 simp only[go_sem]
 refine⟨fun h=>?_,fun h=>K5n (by omega)⟩
 refine K0 (C53 l _ [] (fun o=> !K41 o) fun o _=>Ceg o) ?_
 simp only[go_sem]
 exact K4z (by omega)
def M78:MC:=
(Zs [.mv 2 cF] [0] (.seq (Zs [.mv 3 (ci 0)] [0,3] (.block 0 (.loop ([0,3],[]) (.seq (Zs [mS 4 3,mS 5 0,nS 6 5,bS 7 .lss 4 6] [0,3,7] (cX 7 0))
(.seq (.block 1 (.seq (.reg [Za (mS 10 0),Za (mS 11 3),Za (xS 12 9 10 11),Za (fS 13 12 0),Za (lT 14 3 13),Za (.call 15 [] (.f Nz) [.s 14]),Za (.un 16 .not (.s 15)),Za (mS 17 16),Zb 17 false (mS 18 0),Zb 17 false (mS 19 3),Zb 17 false (xS 20 9 18 19),Zb 17 false (fS 21 20 3),Zb 17 false (lF 22 1 21),Zb 17 false (.call 23 [] (.f N0) [.s 22,.c (.int .i64 0),.c (.int .i64 2000)]),Zb 17 false (.un 24 .not (.s 23)),Za (.pick 25 (.s 17) cT (.s 24)),Za (mS 26 25),Zb 26 false (mS 27 0),Zb 26 false (mS 28 3),Zb 26 false (xS 29 9 27 28),Zb 26 false (fS 30 29 4),Zb 26 false (lT 31 5 30),Zb 26 false (.call 32 [] (.f N2f) [.s 31]),Zb 26 false (.un 33 .not (.s 32)),Za (.pick 34 (.s 26) cT (.s 33))] [0,3,34])
(.cond (.s 34) (Zs [.mv 2 cF] [2] .ret) .skip)))
(pr [mS 8 3,bC 9 .add 8 1,mS 3 9] [0,3]))))))
(Zs [mS 35 0,nS 36 35,bC 37 .leq 36 20,mS 2 37] [2] .ret)))
theorem Ch1(l:List GCapture):Ctr Tryz.prog N7x [aL 9 (l.map GCapture.enc)] [rB (K98 l)]:=by
 refine cA M78 0 38 [(.tmp 2,[false])] Tryz.func146 rfl rfl ?_;unfold M78
 intro hb
 simp only[bdA,bdL,bdT,K7,roomB,and_true,List.length_map]at hb
 have hl:=hb.1
 clear hb
 simp only[go_sem]
 refine K3 l (fun k=>[(3,vI k)]) (fun k=>[]) (fun k=>(l.take k).all K41=true) hl ?_
 simp only[go_sem]
 refine⟨?_,by simp,?_,?_⟩
 ·simp only[go_sem]
 ·intro k x hx hT h0 h1 hw
  have hy:K41 x=true→(l.take (k+1)).all K41=true:=fun hn=>K2b hx hT hn
  have hn:K41 x=false→false=K98 l:=fun hn=>K3t hx hn
  clear hT
  simp only[go_sem,K1 hx,h0,h1]
  repeat' first
   |(refine And.intro ?_ ?_<;>intro h)
   |(apply K0 (C16 _);simp only[go_sem,K1 hx,h0,h1])
   |(apply K0 (C3h _);simp only[go_sem,hw])
   |(apply K0 (C3 _ _ _);simp only[go_sem,K1 hx,h0,h1])
  all_goals first|(apply hy;clear hy hn hx hw;simp_all[K41];done)|(apply hn;clear hy hn hx hw;simp_all[K41];done)|(apply hn;clear hy hn hx hw;unfold K41;rw[decide_eq_false (by assumption)];simp;done)
 ·intro h
  simp only[go_sem]
  rw[List.take_length]at h
  exact K6j.trans (K4y h)
end Go.Proofs.YtpeabgkoknjojaaGreatDoorR
namespace Go.Proofs.YtpeabgkoknjojaaGreatDoorR
open Go Go.RowKit Go.Proofs
open Nat (reduceEqDiff reduceLT reduceLeDiff reduceAdd reduceMul)
open List (reduceReplicate)
def Y20(v0:Nat)(v1:Nat):MC:=
(Zs [.nilo 2 0 v0] [0] (.seq (.condN 3 4 (.s 0) (Zs [.nilo 2 0 v0] [2] .ret) .skip)
(Zs [.lit 5 0 v0 v1 [],mS 6 0,.app 7 0 v0 v1 (.s 5) (.s 6),mS 2 7] [2] .ret)))
attribute [go_sem] Y20
def M3t:MC:=Y20 1 8
theorem C1d(xs:List Int)(hs:xs.length≤1073741824):Ctr Tryz.prog Nb [aL 1 (xs.map encI)] [rL 1 (xs.map encI)]:=by
 refine cA M3t 1 8 [(.tmp 2,[true])] Tryz.func209 rfl rfl ?_;unfold M3t
 intro hb
 clear hb
 simp only[go_sem,↓Kt (f:=encI) (fun _=>rfl) xs]
 refine⟨fun h=>?_,?_⟩
 ·rw[h]
 ·simp only[roomB]
  first|done|omega|(refine⟨?_,?_⟩<;>first|omega|simp)
def M27:MC:=Y20 4 32
theorem Chu(xs:List GOp)(hs:xs.length≤1073741824):Ctr Tryz.prog N29 [aL 4 (xs.map GOp.enc)] [rL 4 (xs.map GOp.enc)]:=by
 refine cA M27 1 8 [(.tmp 2,[true])] Tryz.func249 rfl rfl ?_;unfold M27
 intro hb
 clear hb
 simp only[go_sem,↓Kt (f:=GOp.enc) (fun _=>rfl) xs]
 refine⟨fun h=>?_,?_⟩
 ·rw[h]
 ·simp only[roomB]
  first|done|omega|(refine⟨?_,?_⟩<;>first|omega|simp)
def M1e:MC:=Y20 5 40
theorem Cem(xs:List GEntry)(hs:xs.length≤1073741824):Ctr Tryz.prog N1h [aL 5 (xs.map GEntry.enc)] [rL 5 (xs.map GEntry.enc)]:=by
 refine cA M1e 1 8 [(.tmp 2,[true])] Tryz.func250 rfl rfl ?_;unfold M1e
 intro hb
 clear hb
 simp only[go_sem,↓Kt (f:=GEntry.enc) (fun _=>rfl) xs]
 refine⟨fun h=>?_,?_⟩
 ·rw[h]
 ·simp only[roomB]
  first|done|omega|(refine⟨?_,?_⟩<;>first|omega|simp)
end Go.Proofs.YtpeabgkoknjojaaGreatDoorR
namespace Go.Proofs.YtpeabgkoknjojaaGreatDoorR
open Go Go.RowKit Go.Proofs
open Nat (reduceEqDiff reduceLT reduceLeDiff reduceAdd reduceMul)
open List (reduceReplicate)
def M5i:MC:=
(Zs [.box 1 0 (.s 0),.alloc 2 1 [pz,.emp 1,pz,pz,pz]] [1,2] (Zs [fS 3 1 1,lF 4 1 3,.call 5 [2] (.f Nb) [.s 4],fS 6 1 1,sS 1 6 5] [1,2] (Zs [lT 7 5 1,sS 5 2 7] [2] .ret)))
theorem Cg5(r:GResource)(hs:r.Body.length≤1073741824):Ctr Tryz.prog N60 [aS r.enc] [rS r.enc]:=by
 refine cA M5i 3 8 [(.cell 2 true 5,[false,true,false,false,false])] Tryz.func229 rfl rfl ?_;unfold M5i
 intro hb
 clear hb
 simp only[go_sem]
 refine K0 (C1d r.Body hs) ?_
 simp only[go_sem]
 try intros
 try trivial
def Mfh:MC:=
(Zs [.box 1 0 (.s 0),.alloc 2 1 [pz,.emp 1,pz,pz,pz]] [1,2] (.seq (.dreg [Zf [5,6,7,8,9,10] [2] (fS 3 1 0),Zg [5,6,7,8,9,10] [2] [0] (lF 4 1 3),{o:= .lit 5 2 1 8 [],hs:=[3,4,6,7,9,10],ws:=[2]},Zf [3,4,5,9,10] [2] (fS 6 1 1),Zg [3,4,5,9,10] [2] [3] (lF 7 1 6),{o:= .app 8 2 1 8 (.s 5) (.s 7),hs:=[3,4,9,10],ws:=[2],bf:=[2,3,4]},Zf [3,4,5,6,7,8] [2] (fS 9 1 2),Zg [3,4,5,6,7,8] [2] [6] (lT 10 3 9),Ze (.range 8) (.build 11 [pz,.emp 1,pz,pz,pz] [(0,1,.s 4),(1,1,.s 8),(2,3,.s 10)]),{o:=sS 5 2 11,ws:=[1,2],bf:=(.range 9)}] [2])
.ret))
theorem Ckf(r:GResource)(hs:r.Body.length≤1073741824):Ctr Tryz.prog Nfy [aS r.enc] [rS r.enc]:=by
 refine cA Mfh 3 12 [(.cell 2 true 5,[false,true,false,false,false])] Tryz.func152 rfl rfl ?_;unfold Mfh
 intro hb
 clear hb
 simp only[go_sem,↓Kt (f:=encI) (fun _=>rfl) r.Body]
 simp only[roomB]
 omega
def M5h:MC:=
(Zs [.nilo 2 0 9] [0] (Zs [.nilo 3 0 9] [0,3] (.seq (Zs [mS 6 0,nS 7 6,.mv 8 (ci 0)] [3,6,7,8] (.block 0 (.loop ([3,6,7,8],[1,2,3]) (Zs [bS 9 .lss 8 7] [3,6,7,8,9] (.seq (cX 9 0)
(.seq (.block 1 (Zs [xS 10 9 6 8,lT 11 9 10,.alloc 5 1 [pz,pz,pz,pz,pz,.emp 1,pz,pz,pz],sS 9 5 11] [3,5,6,7,8] (.dreg [Zf [13,14,15,16,17,18,19,20,21] [2,3] (mS 12 3),Zf [12,15,16,17,18,19] [2] (fS 13 5 0),Zg [12,15,16,17,18,19] [2] [1] (lT 14 3 13),Zf [12,13,14,17,18,19] [2] (fS 15 5 3),Zg [12,13,14,17,18,19] [2] [3] (lF 16 1 15),Zc [12,13,14,15,16] (fS 17 5 4),Zd [12,13,14,15,16] [5] (lT 18 5 17),{o:= .call 19 [2] (.f N60) [.s 18],hs:=[12,13,14,15,16],ws:=[2],bf:=[5,6]},Zd [12] [1,2,3,4,5,6,7] (.build 20 [pz,pz,pz,pz,pz,.emp 1,pz,pz,pz] [(0,3,.s 14),(3,1,.s 16),(4,5,.s 19)]),{o:= .lit 21 3 9 88 [.s 20],hs:=[12],ws:=[2,3],bf:=[1,2,3,4,5,6,7,8]},{o:= .app 22 0 9 88 (.s 12) (.s 21),ws:=[0,3],bf:=(.range 10)},Ze (.range 11) (mS 3 22)] [3,6,7,8])))
(pr [bC 23 .add 8 1,mS 8 23] [3,6,7,8])))))))
(Zs [mS 24 3,mS 2 24] [2] .ret))))
theorem C14(xs:List GCapture)(hs:xs.length+(xs.map GCapture.size).sum≤1073741824):Ctr Tryz.prog N24 [aL 9 (xs.map GCapture.enc)] [rL 9 (xs.map GCapture.enc)]:=by
 refine cA M5h 4 25 [(.tmp 2,[true])] Tryz.func178 rfl rfl ?_;unfold M5h
 intro hb
 clear hb
 simp only[go_sem]
 refine K3 xs (fun k=>[(3,.val false [.ref 0 0 9 0 (xs.take k).length]),(8,vI k)]) (fun k=>[(0,⟨0,.row true 9 ((xs.take k).map GCapture.enc)⟩)]) (fun _=>True) (by simp only[roomB];omega) ?_
 simp only[go_sem]
 refine⟨?_,trivial,?_,?_⟩
 ·simp only[go_sem,List.take_zero]
 ·intro k x hx _ h0 h1 hw
  have hk:k<xs.length:=by omega
  have hlt:=List.length_take_le k xs
  have hx1:=K1i (f:=GCapture.size) (Ki hx)
  simp only[go_sem,K1 hx,h0,h1]
  refine K0 (Cg5 x.Resource (by simp only[GCapture.size,GResource.size]at hx1;omega)) ?_
  simp only[go_sem,hw]
  simp only[roomB]
  exact⟨by omega,by omega,fun _=>⟨Kby hx,Kbz hx⟩⟩
 ·intro _
  simp only[go_sem,List.take_length]
def Me1:MC:=
(Zs [.nilo 2 0 9] [0] (Zs [.lit 5 0 9 88 [],mS 3 5] [0,3] (.seq (Zs [.mv 4 (ci 0)] [0,3,4] (.block 0 (.loop ([0,3,4],[1,2]) (.seq (Zs [mS 6 4,mS 7 0,nS 8 7,bS 9 .lss 6 8] [0,3,4,9] (cX 9 0))
(.seq (.block 1 (.dreg [Zf [13,14,15,16,17,18,19,20,21,22,23,24,25,26,27,28,29,30] [1,2] (mS 12 3),Zf [12,14,18,19,20,21,22,23,24,25,26,27,28] [1] (mS 13 0),Zf [12,13,18,19,20,21,22,23,24,25,26,27,28] [1] (mS 14 4),Zg [12,18,19,20,21,22,23,24,25,26,27,28] [1] [1,2] (xS 15 9 13 14),Zg [12,18,19,20,21,22,23,24,25,26,27,28] [1] [1,2,3] (fS 16 15 0),Zg [12,18,19,20,21,22,23,24,25,26,27,28] [1] [1,2,3,4] (lT 17 3 16),Zf [12,13,14,15,16,17,19,23,24,25,26,27,28] [1] (mS 18 0),Zf [12,13,14,15,16,17,18,23,24,25,26,27,28] [1] (mS 19 4),Zg [12,13,14,15,16,17,23,24,25,26,27,28] [1] [6,7] (xS 20 9 18 19),Zg [12,13,14,15,16,17,23,24,25,26,27,28] [1] [6,7,8] (fS 21 20 3),Zg [12,13,14,15,16,17,23,24,25,26,27,28] [1] [6,7,8,9] (lF 22 1 21),Zc [12,13,14,15,16,17,18,19,20,21,22,24] (mS 23 0),Zc [12,13,14,15,16,17,18,19,20,21,22,23] (mS 24 4),Zd [12,13,14,15,16,17,18,19,20,21,22] [11,12] (xS 25 9 23 24),Zd [12,13,14,15,16,17,18,19,20,21,22] [11,12,13] (fS 26 25 4),Zd [12,13,14,15,16,17,18,19,20,21,22] [11,12,13,14] (lT 27 5 26),{o:= .call 28 [1] (.f Nfy) [.s 27],hs:=[12,13,14,15,16,17,18,19,20,21,22],ws:=[1],bf:=[11,12,13,14,15]},Zd [12] [1,2,3,4,5,6,7,8,9,10,11,12,13,14,15,16] (.build 29 [pz,pz,pz,pz,pz,.emp 1,pz,pz,pz] [(0,3,.s 17),(3,1,.s 22),(4,5,.s 28)]),{o:= .lit 30 2 9 88 [.s 29],hs:=[12],ws:=[1,2],bf:=[1,2,3,4,5,6,7,8,9,10,11,12,13,14,15,16,17]},{o:= .app 31 0 9 88 (.s 12) (.s 30),ws:=[0,2],bf:=(.range 19)},Ze (.range 20) (mS 3 31)] [0,3,4]))
(pr [mS 10 4,bC 11 .add 10 1,mS 4 11] [0,3,4]))))))
(Zs [mS 32 3,mS 2 32] [2] .ret))))
theorem C1u(xs:List GCapture)(hs:xs.length+(xs.map GCapture.size).sum≤1073741824):Ctr Tryz.prog N2k [aL 9 (xs.map GCapture.enc)] [rL 9 (xs.map GCapture.enc)]:=by
 refine cA Me1 3 33 [(.tmp 2,[true])] Tryz.func102 rfl rfl ?_;unfold Me1
 intro hb
 clear hb
 simp only[go_sem]
 refine K3 xs (fun k=>[(3,.val false [.ref 0 0 9 0 (xs.take k).length]),(4,vI k)]) (fun k=>[(0,⟨0,.row true 9 ((xs.take k).map GCapture.enc)⟩)]) (fun _=>True) (by simp only[roomB];omega) ?_
 simp only[go_sem]
 refine⟨?_,trivial,?_,?_⟩
 ·simp only[go_sem,List.take_zero]
 ·intro k x hx _ h0 h1 hw
  have hk:k<xs.length:=by omega
  have hlt:=List.length_take_le k xs
  have hx1:=K1i (f:=GCapture.size) (Ki hx)
  simp only[go_sem,K1 hx,h0,h1]
  refine K0 (Ckf x.Resource (by simp only[GCapture.size,GResource.size]at hx1;omega)) ?_
  simp only[go_sem,hw]
  simp only[roomB]
  exact⟨by omega,by omega,fun _=>⟨Kby hx,Kbz hx⟩⟩
 ·intro _
  simp only[go_sem,List.take_length]
end Go.Proofs.YtpeabgkoknjojaaGreatDoorR
namespace Go.Proofs.YtpeabgkoknjojaaGreatDoorR
open Go Go.RowKit Go.Proofs
open Nat (reduceEqDiff reduceLT reduceLeDiff reduceAdd reduceMul)
open List (reduceReplicate)
def modP(v:Int):Int:=(IntKind.i64.wrap (v.tmod 2147483647+2147483647)).tmod 2147483647
def hstep(h v:Int):Int:=(IntKind.i64.wrap (IntKind.i64.wrap (IntKind.i64.wrap (h*1000003)+modP v)+13)).tmod 2147483647
def hashL(l:List Int):Int:=l.foldl hstep 11
theorem K9d{l:List Int}{k:Nat}{x:Int}(h:l[k]? =some x):hashL (l.take (k+1))=hstep (hashL (l.take k)) x:=by
 rw[K8 h,hashL,List.foldl_append];rfl
theorem K54:¬(2147483647:Int)=0:=by decide
def Y21(v0:Nat):MC:=
(Zs [.mv 4 (ci 0)] [0,1] (.seq (Zs [mS 5 1,.call 6 [] (.f v0) [.s 5,.c (.int .i64 1),.c (.int .i64 1000000000000)],.un 7 .not (.s 6)] [0,1,7] (.cond (.s 7) (Zs [.mv 4 (ci 0)] [4] .ret) .skip))
(Zs [mS 8 0,mS 9 1,bS 10 .rem 8 9,mS 11 1,bS 12 .add 10 11,mS 13 1,bS 14 .rem 12 13,mS 4 14] [4] .ret)))
attribute [go_sem] Y21
def Mji:MC:=Y21 N0
theorem Ckq(v:Int):Ctr Tryz.prog Njl [aI v,aI 2147483647] [rI (modP v)]:=by
 refine cA Mji 0 15 [(.tmp 4,[false])] Tryz.func236 rfl rfl ?_;unfold Mji
 intro hb
 clear hb
 simp only[go_sem]
 apply K0 (C3 _ _ _)
 simp only[go_sem,K54]
 refine And.intro ?_ ?_<;>intro h
 ·exact absurd (by decide) h
 ·rfl
def Mjf:MC:=Y21 N1
theorem Cko(v:Int):Ctr Tryz.prog Njj [aI v,aI 2147483647] [rI (modP v)]:=by
 refine cA Mjf 0 15 [(.tmp 4,[false])] Tryz.func270 rfl rfl ?_;unfold Mjf
 intro hb
 clear hb
 simp only[go_sem]
 apply K0 (C4 _ _ _)
 simp only[go_sem,K54]
 refine And.intro ?_ ?_<;>intro h
 ·exact absurd (by decide) h
 ·rfl
def Mic:MC:=
(Zs [.mv 2 (ci 0)] [0] (Zs [.mv 3 (ci 11)] [0,3] (.seq (Zs [.mv 4 (ci 0)] [0,3,4] (.block 0 (.loop ([0,3,4],[]) (.seq (Zs [mS 5 4,mS 6 0,nS 7 6,bS 8 .lss 5 7] [0,3,4,8] (cX 8 0))
(.seq (.block 1 (pr [mS 11 3,bC 12 .mul 11 1000003,mS 13 0,mS 14 4,xS 15 1 13 14,lF 16 1 15,.call 17 [] (.f Njl) [.s 16,.c (.int .i64 2147483647)],bS 18 .add 12 17,bC 19 .add 18 13,bC 20 .rem 19 2147483647,mS 3 20] [0,3,4]))
(pr [mS 9 4,bC 10 .add 9 1,mS 4 10] [0,3,4]))))))
(Zs [mS 21 3,mS 2 21] [2] .ret))))
theorem C3r(l:List Int):Ctr Tryz.prog N2s [aL 1 (l.map encI)] [rI (hashL l)]:=by
 refine cA Mic 0 22 [(.tmp 2,[false])] Tryz.func188 rfl rfl ?_;unfold Mic
 intro hb
 simp only[bdA,bdL,bdT,K7,roomB,and_true,List.length_map]at hb
 have hl:=hb.1
 clear hb
 simp only[go_sem]
 refine K3 l (fun k=>[(3,vI (hashL (l.take k))),(4,vI k)]) (fun k=>[]) (fun _=>True) hl ?_
 simp only[go_sem]
 refine⟨?_,trivial,?_,?_⟩
 ·simp only[go_sem,List.take_zero]
  rfl
 ·intro k x hx _ h0 h1 hw
  simp only[go_sem,K1 hx,h0,h1,K9d hx]
  apply K0 (Ckq _)
  simp only[go_sem,hw,K54]
  try intro _
  rfl
 ·intro _
  simp only[go_sem,List.take_length]
def Mi7:MC:=
(Zs [.mv 2 (ci 0)] [0] (Zs [.mv 3 (ci 11)] [0,3] (.seq (Zs [mS 6 0,nS 7 6,.mv 8 (ci 0)] [3,6,7,8] (.block 0 (.loop ([3,6,7,8],[]) (Zs [bS 9 .lss 8 7] [3,6,7,8,9] (.seq (cX 9 0)
(.seq (.block 1 (Zs [xS 10 1 6 8,lF 11 1 10,mS 5 11] [3,5,6,7,8] (pr [mS 12 3,bC 13 .mul 12 1000003,mS 14 5,.call 15 [] (.f Njj) [.s 14,.c (.int .i64 2147483647)],bS 16 .add 13 15,bC 17 .add 16 13,bC 18 .rem 17 2147483647,mS 3 18] [3,6,7,8])))
(pr [bC 19 .add 8 1,mS 8 19] [3,6,7,8])))))))
(Zs [mS 20 3,mS 2 20] [2] .ret))))
theorem C3q(l:List Int):Ctr Tryz.prog N2r [aL 1 (l.map encI)] [rI (hashL l)]:=by
 refine cA Mi7 0 21 [(.tmp 2,[false])] Tryz.func247 rfl rfl ?_;unfold Mi7
 intro hb
 simp only[bdA,bdL,bdT,K7,roomB,and_true,List.length_map]at hb
 have hl:=hb.1
 clear hb
 simp only[go_sem]
 refine K3 l (fun k=>[(3,vI (hashL (l.take k))),(8,vI k)]) (fun k=>[]) (fun _=>True) hl ?_
 simp only[go_sem]
 refine⟨?_,trivial,?_,?_⟩
 ·simp only[go_sem,List.take_zero]
  rfl
 ·intro k x hx _ h0 h1 hw
  simp only[go_sem,K1 hx,h0,h1,K9d hx]
  apply K0 (Cko _)
  simp only[go_sem,hw,K54]
  try intro _
  rfl
 ·intro _
  simp only[go_sem,List.take_length]
def rootF:Nat→List Int→Int
 |0,_=>0
 |n+1,l=>match l with
  | []=>0
  | [x]=>x
  |x::y::l=>hashL [rootF n ((x::y::l).take ((l.length+3)/2)),rootF n ((x::y::l).drop ((l.length+3)/2))]
theorem K55:∀ {n m:Nat} {l:List Int},l.length≤n→l.length≤m→rootF n l=rootF m l
 |0,0,_,_,_=>rfl
 |0,m+1,l,h,_=>by
  obtain rfl:l=[]:=List.length_eq_zero_iff.1 (by omega)
  rfl
 |n+1,0,l,_,h=>by
  obtain rfl:l=[]:=List.length_eq_zero_iff.1 (by omega)
  rfl
 |n+1,m+1,[],_,_=>rfl
 |n+1,m+1,[x],_,_=>rfl
 |n+1,m+1,x::y::l,h,k=>by
  simp only[List.length_cons]at h k
  simp only[rootF]
  rw[K55 (n:=n) (m:=m) (by rw[List.length_take];simp only[List.length_cons];omega) (by rw[List.length_take];simp only[List.length_cons];omega),K55 (n:=n) (m:=m) (l:=(x::y::l).drop _) (by rw[List.length_drop];simp only[List.length_cons];omega) (by rw[List.length_drop];simp only[List.length_cons];omega)]
def rootL(l:List Int):Int:=rootF l.length l
theorem rootF_two{n x y:_}{l:List Int}:rootF (n+1) (x::y::l)=hashL [rootF n ((x::y::l).take ((l.length+3)/2)),rootF n ((x::y::l).drop ((l.length+3)/2))]:=rfl
theorem Kar{l:List Int}(h:2≤l.length):rootL l=hashL [rootL (l.take ((l.length+1)/2)),rootL (l.drop ((l.length+1)/2))]:=by
 match l,h with
 |x::y::l,h=>
  have e:(x::y::l).length+1=l.length+3:=by simp
  rw[e]
  unfold rootL
  rw[show(x::y::l).length=(l.length+1)+1 from by simp,rootF_two]
  rw[K55 (n:=l.length+1) (l:=(x::y::l).take _) (by rw[List.length_take];simp only[List.length_cons];omega) (Nat.le_refl _),K55 (n:=l.length+1) (l:=(x::y::l).drop _) (by rw[List.length_drop];simp only[List.length_cons];omega) (Nat.le_refl _)]
theorem two_ne:¬(2:Int)=0:=by decide
theorem cut_lo{α:Type}{f:α→List T}{l:List α}{m:Nat}(h:m≤l.length):(if ((m:Int)-0).toNat=l.length then l.map f else List.take ((m:Int)-0).toNat (l.map f))=(l.take m).map f:=by
 rw[show((m:Int)-0).toNat=m by omega]
 split
 ·rename_i e;rw[List.take_of_length_le (by omega)]
 ·rw[List.map_take]
theorem cut_hi{α:Type}{f:α→List T}{l:List α}{m:Nat}(h:m≤l.length):(if m=0∧((l.length:Int)-(m:Int)).toNat=l.length then l.map f else List.take ((l.length:Int)-(m:Int)).toNat (List.drop m (l.map f)))=(l.drop m).map f:=by
 rw[show((l.length:Int)-(m:Int)).toNat=l.length-m by omega]
 split
 ·rename_i e;rw[e.1];rfl
 ·rw[List.take_of_length_le (by simp),List.map_drop]
def Y22(v0:Nat)(v1:Nat):MC:=
(Zs [.mv 2 (ci 0)] [0] (.seq (Zs [mS 4 0,nS 5 4] [0,5] (.block 0 (Zs [bC 7 .eql 5 0,mS 6 7] [0,5,6] (.cond (.s 6) (Zs [.mv 2 (ci 0)] [2] .ret) (Zs [bC 9 .eql 5 1,mS 8 9] [0,8] (.cond (.s 8) (Zs [mS 10 0,.idx 11 1 (.s 10) (ci 0),lF 12 1 11,mS 2 12] [2] .ret) .skip))))))
(Zs [mS 13 0,nS 14 13,bC 15 .add 14 1,bC 16 .quo 15 2,mS 3 16] [0,3] (.seq (.dreg [Zc [18,21,22,23] (mS 17 0),Zc [17,21,22,23] (mS 18 3),Zd [21,22,23] [0,1] (.slc 19 1 (.s 17) none (some (.s 18)) none),Zd [21,22,23] [0,1,2] (.call 20 [] (.f v0) [.s 19]),Zc [17,18,19,20,22] (mS 21 0),Zc [17,18,19,20,21] (mS 22 3),Zd [17,18,19,20] [4,5] (.slc 23 1 (.s 21) (some (.s 22)) none none),Ze (.range 7) (.call 24 [] (.f v0) [.s 23]),{o:= .lit 25 0 1 8 [.s 20,.s 24],ws:=[0],bf:=(.range 8)},Ze (.range 9) (.call 26 [] (.f v1) [.s 25]),Ze (.range 10) (mS 2 26)] [2])
.ret))))
attribute [go_sem] Y22
def M3y:MC:=Y22 N43 N2s
theorem Ceu(n:Nat):∀(l:List Int),l.length≤n→Ctr Tryz.prog N43 [aL 1 (l.map encI)] [rI (rootL l)]:=by
 induction n with
 |zero=>
  intro l hn
  obtain rfl:l=[]:=List.length_eq_zero_iff.1 (by omega)
  refine cA M3y 1 27 [(.tmp 2,[false])] Tryz.func190 rfl rfl ?_;unfold M3y
  intro hb
  clear hb
  simp only[go_sem]
  rfl
 |succ n ih=>
  intro l hn
  refine cA M3y 1 27 [(.tmp 2,[false])] Tryz.func190 rfl rfl ?_;unfold M3y
  intro hb
  simp only[bdA,bdL,bdT,K7,roomB,and_true,List.length_map]at hb
  have hl:=hb.1
  clear hb
  have hM1:IntKind.i64.wrap ((l.length:Int)+1)=((l.length+1:Nat):Int):=by rw[wI (by omega) (by omega)];omega
  have hM2:((l.length+1:Nat):Int).tdiv 2=(((l.length+1)/2:Nat):Int):=rfl
  have hM3:IntKind.i64.wrap ((((l.length+1)/2:Nat):Int))=(((l.length+1)/2:Nat):Int):=wI (by omega) (by omega)
  simp only[go_sem,two_ne,hM1,hM2,hM3]
  refine And.intro ?_ ?_<;>intro h
  ·obtain rfl:l=[]:=List.length_eq_zero_iff.1 (by omega)
   rfl
  refine And.intro ?_ ?_<;>intro h2
  ·match l,h2 with
   | [x],_=>simp only[go_sem];exact⟨by simp,rfl⟩
   |x::y::l,h2=>simp at h2;omega
  ·generalize hm:(l.length+1)/2=m at*
   rw[cut_lo (by omega)]
   refine⟨⟨by omega,by omega,by omega⟩,?_⟩
   apply K0 (ih _ (by rw[List.length_take];omega))
   simp only[go_sem]
   rw[cut_hi (by omega)]
   intros
   refine⟨⟨by omega,by omega⟩,?_⟩
   apply K0 (ih _ (by rw[List.length_drop];omega))
   simp only[go_sem]
   refine⟨by decide,?_⟩
   apply K0 (C3r [rootL (l.take m),rootL (l.drop m)])
   simp only[go_sem]
   intros
   rw[Kar (l:=l) (by omega),hm]
def M3x:MC:=Y22 N40 N2r
theorem Cet(n:Nat):∀(l:List Int),l.length≤n→Ctr Tryz.prog N40 [aL 1 (l.map encI)] [rI (rootL l)]:=by
 induction n with
 |zero=>
  intro l hn
  obtain rfl:l=[]:=List.length_eq_zero_iff.1 (by omega)
  refine cA M3x 1 27 [(.tmp 2,[false])] Tryz.func251 rfl rfl ?_;unfold M3x
  intro hb
  clear hb
  simp only[go_sem]
  rfl
 |succ n ih=>
  intro l hn
  refine cA M3x 1 27 [(.tmp 2,[false])] Tryz.func251 rfl rfl ?_;unfold M3x
  intro hb
  simp only[bdA,bdL,bdT,K7,roomB,and_true,List.length_map]at hb
  have hl:=hb.1
  clear hb
  have hM1:IntKind.i64.wrap ((l.length:Int)+1)=((l.length+1:Nat):Int):=by rw[wI (by omega) (by omega)];omega
  have hM2:((l.length+1:Nat):Int).tdiv 2=(((l.length+1)/2:Nat):Int):=rfl
  have hM3:IntKind.i64.wrap ((((l.length+1)/2:Nat):Int))=(((l.length+1)/2:Nat):Int):=wI (by omega) (by omega)
  simp only[go_sem,two_ne,hM1,hM2,hM3]
  refine And.intro ?_ ?_<;>intro h
  ·obtain rfl:l=[]:=List.length_eq_zero_iff.1 (by omega)
   rfl
  refine And.intro ?_ ?_<;>intro h2
  ·match l,h2 with
   | [x],_=>simp only[go_sem];exact⟨by simp,rfl⟩
   |x::y::l,h2=>simp at h2;omega
  ·generalize hm:(l.length+1)/2=m at*
   rw[cut_lo (by omega)]
   refine⟨⟨by omega,by omega,by omega⟩,?_⟩
   apply K0 (ih _ (by rw[List.length_take];omega))
   simp only[go_sem]
   rw[cut_hi (by omega)]
   intros
   refine⟨⟨by omega,by omega⟩,?_⟩
   apply K0 (ih _ (by rw[List.length_drop];omega))
   simp only[go_sem]
   refine⟨by decide,?_⟩
   apply K0 (C3q [rootL (l.take m),rootL (l.drop m)])
   simp only[go_sem]
   intros
   rw[Kar (l:=l) (by omega),hm]
end Go.Proofs.YtpeabgkoknjojaaGreatDoorR
namespace Go.Proofs.YtpeabgkoknjojaaGreatDoorR
open Go Go.RowKit Go.Proofs
open Nat (reduceEqDiff reduceLT reduceLeDiff reduceAdd reduceMul)
open List (reduceReplicate)
def K3e(r:GResource):List Int:=[r.Kind,r.To.Host,r.To.Path,r.To.Query,r.Body.length]++r.Body
def K3q(c:GCapture):List Int:=[c.Address.Host,c.Address.Path,c.Address.Query,c.Tick]++K3e c.Resource
theorem K8d(r:GResource):(K3e r).length=5+r.Body.length:=by simp[K3e];omega
def Y23:MC:=
(Zs [.box 1 0 (.s 0),.nilo 2 1 1] [1] (Zs [fS 3 1 0,lF 4 1 3,fS 5 1 2,fS 6 5 0,lF 7 1 6,fS 8 1 2,fS 9 8 1,lF 10 1 9,fS 11 1 2,fS 12 11 2,lF 13 1 12,fS 14 1 1,lF 15 1 14,nS 16 15,.lit 17 1 1 8 [.s 4,.s 7,.s 10,.s 13,.s 16],fS 18 1 1,lF 19 1 18,.app 20 1 1 8 (.s 17) (.s 19),mS 2 20] [2] .ret))
attribute [go_sem] Y23
def M5u:MC:=Y23
theorem Cgf(r:GResource)(hs:r.Body.length≤1073741824):Ctr Tryz.prog N69 [aS r.enc] [rL 1 ((K3e r).map encI)]:=by
 refine cA M5u 2 21 [(.tmp 2,[true])] Tryz.func266 rfl rfl ?_;unfold M5u
 intro hb
 clear hb
 simp only[go_sem,↓Kt (f:=encI) (fun _=>rfl) r.Body]
 simp only[roomB]
 refine⟨by decide,by omega,?_⟩
 simp[K3e,encI]
 omega
def M5f:MC:=Y23
theorem Cg4(r:GResource)(hs:r.Body.length≤1073741824):Ctr Tryz.prog N5z [aS r.enc] [rL 1 ((K3e r).map encI)]:=by
 refine cA M5f 2 21 [(.tmp 2,[true])] Tryz.func271 rfl rfl ?_;unfold M5f
 intro hb
 clear hb
 simp only[go_sem,↓Kt (f:=encI) (fun _=>rfl) r.Body]
 simp only[roomB]
 refine⟨by decide,by omega,?_⟩
 simp[K3e,encI]
 omega
def Y24(v0:Nat):MC:=
(Zs [.box 1 0 (.s 0),.nilo 2 1 1] [1] (.seq (.dreg [Zf [6,7,8,9,10,11,12,13,15,16,17] [2] (fS 3 1 0),Zg [6,7,8,9,10,11,12,13,15,16,17] [2] [0] (fS 4 3 0),Zg [6,7,8,9,10,11,12,13,15,16,17] [2] [0,1] (lF 5 1 4),Zf [3,4,5,9,10,11,12,13,15,16,17] [2] (fS 6 1 0),Zg [3,4,5,9,10,11,12,13,15,16,17] [2] [3] (fS 7 6 1),Zg [3,4,5,9,10,11,12,13,15,16,17] [2] [3,4] (lF 8 1 7),Zf [3,4,5,6,7,8,12,13,15,16,17] [2] (fS 9 1 0),Zg [3,4,5,6,7,8,12,13,15,16,17] [2] [6] (fS 10 9 2),Zg [3,4,5,6,7,8,12,13,15,16,17] [2] [6,7] (lF 11 1 10),Zf [3,4,5,6,7,8,9,10,11,15,16,17] [2] (fS 12 1 3),Zg [3,4,5,6,7,8,9,10,11,15,16,17] [2] [9] (lF 13 1 12),{o:= .lit 14 1 1 8 [.s 5,.s 8,.s 11,.s 13],hs:=[15,16,17],ho:=[2],ws:=[1],bf:=(.range 11)},Zf [3,4,5,6,7,8,9,10,11,12,13,14] [1] (fS 15 1 4),Zg [3,4,5,6,7,8,9,10,11,12,13,14] [1] [12] (lT 16 5 15),{o:= .call 17 [2] (.f v0) [.s 16],hs:=[3,4,5,6,7,8,9,10,11,12,13,14],ho:=[1],ws:=[2],bf:=[12,13]},{o:= .app 18 1 1 8 (.s 14) (.s 17),ws:=[1],bf:=(.range 15)},Ze (.range 16) (mS 2 18)] [2])
.ret))
attribute [go_sem] Y24
def M79:MC:=Y24 N69
theorem Ch2(c:GCapture)(hs:c.Resource.Body.length≤1073741824):Ctr Tryz.prog N7y [aS c.enc] [rL 1 ((K3q c).map encI)]:=by
 refine cA M79 3 19 [(.tmp 2,[true])] Tryz.func237 rfl rfl ?_;unfold M79
 intro hb
 clear hb
 simp only[go_sem]
 refine⟨by decide,?_⟩
 apply K0 (Cgf c.Resource hs)
 simp only[go_sem,↓Kt (f:=encI) (fun _=>rfl) (K3e c.Resource),K8d]
 simp only[roomB]
 exact⟨by omega,fun _=>⟨by omega,by simp[K3q,encI]⟩⟩
def M6q:MC:=Y24 N5z
theorem Cgi(c:GCapture)(hs:c.Resource.Body.length≤1073741824):Ctr Tryz.prog N7i [aS c.enc] [rL 1 ((K3q c).map encI)]:=by
 refine cA M6q 3 19 [(.tmp 2,[true])] Tryz.func248 rfl rfl ?_;unfold M6q
 intro hb
 clear hb
 simp only[go_sem]
 refine⟨by decide,?_⟩
 apply K0 (Cg4 c.Resource hs)
 simp only[go_sem,↓Kt (f:=encI) (fun _=>rfl) (K3e c.Resource),K8d]
 simp only[roomB]
 exact⟨by omega,fun _=>⟨by omega,by simp[K3q,encI]⟩⟩
def K1l(l:List GEntry):List Int:=l.flatMap fun e=>[e.Kind,e.Address.Host,e.Address.Path,e.Address.Query,e.Value]
theorem K7h{l:List GEntry}{k:Nat}{x:GEntry}(h:l[k]? =some x):K1l (l.take (k+1))=K1l (l.take k)++[x.Kind,x.Address.Host,x.Address.Path,x.Address.Query,x.Value]:=by
 rw[K8 h,K1l,List.flatMap_append];rfl
theorem K89{l:List GEntry}:(K1l l).length=5*l.length:=by
 induction l with
 |nil=>rfl
 |cons x l ih=>simp only[K1l,List.flatMap_cons,List.length_append,List.length_cons,List.length_nil]at ih ⊢;omega
def M9k:MC:=
(Zs [.nilo 2 0 1] [0] (Zs [.lit 6 0 1 8 [],mS 3 6] [0,3] (.seq (Zs [.mv 4 (ci 0)] [0,3,4] (.block 0 (.loop ([0,3,4],[1,2]) (.seq (Zs [mS 7 4,mS 8 0,nS 9 8,bS 10 .lss 7 9] [0,3,4,10] (cX 10 0))
(.seq (.block 1 (Zs [mS 13 0,mS 14 4,xS 15 5 13 14,lT 16 5 15,.alloc 5 1 [pz,pz,pz,pz,pz],sS 5 5 16] [0,3,4,5] (pr [mS 17 3,fS 18 5 0,lF 19 1 18,fS 20 5 1,fS 21 20 0,lF 22 1 21,fS 23 5 1,fS 24 23 1,lF 25 1 24,fS 26 5 1,fS 27 26 2,lF 28 1 27,fS 29 5 4,lF 30 1 29,.lit 31 2 1 8 [.s 19,.s 22,.s 25,.s 28,.s 30],.app 32 0 1 8 (.s 17) (.s 31),mS 3 32] [0,3,4])))
(pr [mS 11 4,bC 12 .add 11 1,mS 4 12] [0,3,4]))))))
(Zs [mS 33 3,mS 2 33] [2] .ret))))
theorem Ci2(xs:List GEntry)(hN:xs.length≤1073741824):Ctr Tryz.prog Nae [aL 5 (xs.map GEntry.enc)] [rL 1 ((K1l xs).map encI)]:=by
 refine cA M9k 3 34 [(.tmp 2,[true])] Tryz.func192 rfl rfl ?_;unfold M9k
 intro hb
 simp only[bdA,bdL,bdT,K7,roomB,and_true,List.length_map]at hb
 obtain⟨hl,-⟩:=hb
 simp only[go_sem]
 refine K3 xs (fun k=>[(3,.val false [.ref 0 0 1 0 (K1l (xs.take k)).length]),(4,vI k)]) (fun k=>[(0,⟨0,.row true 1 ((K1l (xs.take k)).map encI)⟩)]) (fun _=>True) hl ?_
 simp only[go_sem]
 refine⟨?_,trivial,?_,?_⟩
 ·simp only[go_sem,List.take_zero]
  exact⟨rfl,rfl⟩
 ·intro k x hx _ h0 h1 hw
  have hlt:=List.length_take_le k xs
  simp only[go_sem,K1 hx,h0,h1,hw,K7h hx,List.length_append,K89]
  refine⟨⟨by simp,by decide⟩,by simp only[roomB];omega,by simp[encI]⟩
 ·intro _
  simp only[go_sem,List.take_length]
def Kx(l:List GCapture):List Int:=l.map fun c=>hashL (K3q c)
theorem K68{l:List GCapture}{k:Nat}{x:GCapture}(h:l[k]? =some x):Kx (l.take (k+1))=Kx (l.take k)++[hashL (K3q x)]:=by
 rw[K8 h,Kx,List.map_append];rfl
theorem K79{l:List GCapture}:(Kx l).length=l.length:=by simp[Kx]
theorem body_le{xs:List GCapture}{x:GCapture}{k:Nat}{n:Nat}(hx:xs[k]? =some x)(hs:xs.length+(xs.map GCapture.size).sum≤n):x.Resource.Body.length≤n:=by
 have hx1:=K1i (f:=GCapture.size) (Ki hx)
 simp only[GCapture.size,GResource.size]at hx1 hs
 omega
def M7f:MC:=
(Zs [.nilo 2 0 1] [0] (Zs [.lit 5 0 1 8 [],mS 3 5] [0,3] (.seq (Zs [.mv 4 (ci 0)] [0,3,4] (.block 0 (.loop ([0,3,4],[1,2]) (.seq (Zs [mS 6 4,mS 7 0,nS 8 7,bS 9 .lss 6 8] [0,3,4,9] (cX 9 0))
(.seq (.block 1 (pr [mS 12 3,mS 13 0,mS 14 4,xS 15 9 13 14,lT 16 9 15,.call 17 [1] (.f N7y) [.s 16],.call 18 [] (.f N2s) [.s 17],.lit 19 2 1 8 [.s 18],.app 20 0 1 8 (.s 12) (.s 19),mS 3 20] [0,3,4]))
(pr [mS 10 4,bC 11 .add 10 1,mS 4 11] [0,3,4]))))))
(Zs [mS 21 3,mS 2 21] [2] .ret))))
theorem Ch5(xs:List GCapture)(hs:xs.length+(xs.map GCapture.size).sum≤1073741824):Ctr Tryz.prog N81 [aL 9 (xs.map GCapture.enc)] [rL 1 ((Kx xs).map encI)]:=by
 refine cA M7f 3 22 [(.tmp 2,[true])] Tryz.func193 rfl rfl ?_;unfold M7f
 intro hb
 clear hb
 simp only[go_sem]
 refine K3 xs (fun k=>[(3,.val false [.ref 0 0 1 0 (Kx (xs.take k)).length]),(4,vI k)]) (fun k=>[(0,⟨0,.row true 1 ((Kx (xs.take k)).map encI)⟩)]) (fun _=>True) (by simp only[roomB];omega) ?_
 simp only[go_sem]
 refine⟨?_,trivial,?_,?_⟩
 ·simp only[go_sem,List.take_zero]
  exact⟨rfl,rfl⟩
 ·intro k x hx _ h0 h1 hw
  have hlt:=List.length_take_le k xs
  simp only[go_sem,K1 hx,h0,h1,K68 hx,List.length_append]
  apply K0 (Ch2 x (body_le hx hs))
  simp only[go_sem]
  try intro _
  apply K0 (C3r (K3q x))
  simp only[go_sem,hw]
  simp only[roomB,K79]
  exact⟨by omega,by omega,fun _=>by simp[encI]⟩
 ·intro _
  simp only[go_sem,List.take_length]
def K94(l:List GOp)(es:List GEntry)(cs:List GCapture):Int:=rootL [hashL (Ks l),hashL (K1l es),rootL (Kx cs)]
def M4q:MC:=
(Zs [.alloc 6 0 [.emp 4,.emp 5,.emp 9,pz]] [0,1,2,6] (Zs [.lit 8 1 4 32 [],mS 9 0,.app 10 1 4 32 (.s 8) (.s 9),.lit 11 2 5 40 [],mS 12 1,.app 13 2 5 40 (.s 11) (.s 12),mS 14 2,.call 15 [3] (.f N2k) [.s 14],.build 16 [.emp 4,.emp 5,.emp 9,pz] [(0,1,.s 10),(1,1,.s 13),(2,1,.s 15)],.alloc 7 4 [.emp 4,.emp 5,.emp 9,pz],sS 4 7 16] [0,1,2,6,7] (Zs [mS 17 0,.call 18 [5] (.f Nab) [.s 17],.call 19 [] (.f N2s) [.s 18],mS 20 1,.call 21 [6] (.f Nae) [.s 20],.call 22 [] (.f N2s) [.s 21],mS 23 2,.call 24 [7] (.f N81) [.s 23],.call 25 [] (.f N43) [.s 24],.lit 26 8 1 8 [.s 19,.s 22,.s 25],.call 27 [] (.f N43) [.s 26],fS 28 7 3,sS 1 28 27] [6,7] (Zs [lT 29 4 7,sS 4 6 29] [6] .ret))))
theorem Ceq(l:List GOp)(es:List GEntry)(cs:List GCapture)(h1:l.length≤1073741824)(h2:es.length≤1073741824)(hs:cs.length+(cs.map GCapture.size).sum≤1073741824):
  Ctr Tryz.prog N50 [aL 4 (l.map GOp.enc),aL 5 (es.map GEntry.enc),aL 9 (cs.map GCapture.enc)] [rS (GContainer.enc ⟨l,es,cs,K94 l es cs⟩)]:=by
 refine cA M4q 9 30 [(.cell 6 true 4,[true,true,true,false])] Tryz.func147 rfl rfl ?_;unfold M4q
 intro hb
 clear hb
 simp only[go_sem,↓Kt (f:=GOp.enc) (fun _=>rfl) l,↓Kt (f:=GEntry.enc) (fun _=>rfl) es]
 simp only[roomB]
 refine⟨by omega,by omega,?_⟩
 apply K0 (C1u cs hs)
 simp only[go_sem]
 intros
 apply K0 (Chz l (by omega))
 simp only[go_sem]
 apply K0 (C3r (Ks l))
 simp only[go_sem]
 apply K0 (Ci2 es h2)
 simp only[go_sem]
 apply K0 (C3r (K1l es))
 simp only[go_sem]
 apply K0 (Ch5 cs hs)
 simp only[go_sem]
 apply K0 (Ceu _ (Kx cs) (Nat.le_refl _))
 simp only[go_sem]
 refine⟨by decide,?_⟩
 apply K0 (Ceu _ [hashL (Ks l),hashL (K1l es),rootL (Kx cs)] (Nat.le_refl _))
 simp only[go_sem]
 intros
 rfl
end Go.Proofs.YtpeabgkoknjojaaGreatDoorR
namespace Go.Proofs.YtpeabgkoknjojaaGreatDoorR
open Go Go.RowKit Go.Proofs
open Nat (reduceEqDiff reduceLT reduceLeDiff reduceAdd reduceMul)
open List (reduceReplicate)
end Go.Proofs.YtpeabgkoknjojaaGreatDoorR
namespace Go.Proofs.YtpeabgkoknjojaaGreatDoorR
open Go Go.RowKit Go.Proofs
open Nat (reduceEqDiff reduceLT reduceLeDiff reduceAdd reduceMul)
open List (reduceReplicate)
def M8v:MC:=
(Zs [.nilo 2 0 1] [0] (Zs [.nilo 3 0 1] [0,3] (.seq (Zs [mS 6 0,nS 7 6,.mv 8 (ci 0)] [3,6,7,8] (.block 0 (.loop ([3,6,7,8],[1,2]) (Zs [bS 9 .lss 8 7] [3,6,7,8,9] (.seq (cX 9 0)
(.seq (.block 1 (Zs [xS 10 4 6 8,lT 11 4 10,.alloc 5 1 [pz,pz,pz,pz],sS 4 5 11] [3,5,6,7,8] (pr [mS 12 3,fS 13 5 0,lF 14 1 13,fS 15 5 1,lF 16 1 15,fS 17 5 2,lF 18 1 17,fS 19 5 3,lF 20 1 19,.lit 21 2 1 8 [.s 14,.s 16,.s 18,.s 20],.app 22 0 1 8 (.s 12) (.s 21),mS 3 22] [3,6,7,8])))
(pr [bC 23 .add 8 1,mS 8 23] [3,6,7,8])))))))
(Zs [mS 24 3,mS 2 24] [2] .ret))))
theorem Chi(xs:List GOp)(hN:xs.length≤1099511627776):Ctr Tryz.prog N9s [aL 4 (xs.map GOp.enc)] [rL 1 ((Ks xs).map encI)]:=by
 refine cA M8v 3 25 [(.tmp 2,[true])] Tryz.func252 rfl rfl ?_;unfold M8v
 intro hb
 simp only[bdA,bdL,bdT,K7,roomB,and_true,List.length_map]at hb
 obtain⟨hl,-⟩:=hb
 simp only[go_sem]
 refine K3 xs (fun k=>[(3,.val false [.ref 0 0 1 0 (Ks (xs.take k)).length]),(8,vI k)]) (fun k=>[(0,⟨0,.row true 1 ((Ks (xs.take k)).map encI)⟩)]) (fun _=>True) hl ?_
 simp only[go_sem]
 refine⟨?_,trivial,?_,?_⟩
 ·simp only[go_sem,List.take_zero]
  exact⟨rfl,rfl⟩
 ·intro k x hx _ h0 h1 hw
  have hlt:=List.length_take_le k xs
  simp only[go_sem,K1 hx,h0,h1,hw,K5v hx,List.length_append,K6m]
  refine⟨⟨by simp,by decide⟩,by simp only[roomB];omega,by simp[encI]⟩
 ·intro _
  simp only[go_sem,List.take_length]
def M4l:MC:=
(Zs [.alloc 6 0 [.emp 4,.emp 5,.emp 9,pz]] [0,1,2,6] (Zs [.nilo 7 1 1,.nilo 8 2 1] [0,1,2,6,7,8] (.seq (Zs [mS 13 1,nS 14 13,.mv 15 (ci 0)] [0,1,2,6,7,8,13,14,15] (.block 0 (.loop ([0,1,2,6,7,8,13,14,15],[3,4,5,6,7,11,12]) (Zs [bS 16 .lss 15 14] [0,1,2,6,7,8,13,14,15,16] (.seq (cX 16 0)
(.seq (.block 1 (Zs [xS 17 5 13 15,lT 18 5 17,.alloc 10 3 [pz,pz,pz,pz,pz],sS 5 10 18] [0,1,2,6,7,8,10,13,14,15] (pr [mS 19 7,fS 20 10 0,lF 21 1 20,fS 22 10 1,fS 23 22 0,lF 24 1 23,fS 25 10 1,fS 26 25 1,lF 27 1 26,fS 28 10 1,fS 29 28 2,lF 30 1 29,fS 31 10 4,lF 32 1 31,.lit 33 4 1 8 [.s 21,.s 24,.s 27,.s 30,.s 32],.app 34 1 1 8 (.s 19) (.s 33),mS 7 34] [0,1,2,6,7,8,13,14,15])))
(pr [bC 35 .add 15 1,mS 15 35] [0,1,2,6,7,8,13,14,15])))))))
(.seq (Zs [mS 36 2,nS 37 36,.mv 38 (ci 0)] [0,1,2,6,7,8,36,37,38] (.block 2 (.loop ([0,1,2,6,7,8,36,37,38],[3,4,5,6,7,11,12]) (Zs [bS 39 .lss 38 37] [0,1,2,6,7,8,36,37,38,39] (.seq (cX 39 2)
(.seq (.block 3 (Zs [xS 40 9 36 38,lT 41 9 40,.alloc 12 5 [pz,pz,pz,pz,pz,.emp 1,pz,pz,pz],sS 9 12 41] [0,1,2,6,7,8,12,36,37,38] (pr [mS 42 8,lT 43 9 12,.call 44 [6] (.f N7i) [.s 43],.call 45 [] (.f N2r) [.s 44],.lit 46 7 1 8 [.s 45],.app 47 2 1 8 (.s 42) (.s 46),mS 8 47] [0,1,2,6,7,8,36,37,38])))
(pr [bC 48 .add 38 1,mS 38 48] [0,1,2,6,7,8,36,37,38])))))))
(Zs [mS 49 0,.call 50 [8] (.f N29) [.s 49],mS 51 1,.call 52 [9] (.f N1h) [.s 51],mS 53 2,.call 54 [10] (.f N24) [.s 53],mS 55 0,.call 56 [11] (.f N9s) [.s 55],.call 57 [] (.f N2r) [.s 56],mS 58 7,.call 59 [] (.f N2r) [.s 58],mS 60 8,.call 61 [] (.f N40) [.s 60],.lit 62 12 1 8 [.s 57,.s 59,.s 61],.call 63 [] (.f N40) [.s 62],.build 64 [.emp 4,.emp 5,.emp 9,pz] [(0,1,.s 50),(1,1,.s 52),(2,1,.s 54),(3,1,.s 63)],sS 4 6 64] [6] .ret)))))
theorem Cej(l:List GOp)(es:List GEntry)(cs:List GCapture)(h1:l.length≤1073741824)(h2:es.length≤1073741824)(hs:cs.length+(cs.map GCapture.size).sum≤1073741824):
  Ctr Tryz.prog N4v [aL 4 (l.map GOp.enc),aL 5 (es.map GEntry.enc),aL 9 (cs.map GCapture.enc)] [rS (GContainer.enc ⟨l,es,cs,K94 l es cs⟩)]:=by
 refine cA M4l 13 65 [(.cell 6 true 4,[true,true,true,false])] Tryz.func206 rfl rfl ?_;unfold M4l
 intro hb
 clear hb
 simp only[go_sem]
 refine K3 es (fun k=>[(7,.val false [.ref 1 0 1 0 (K1l (es.take k)).length]),(15,vI k)]) (fun k=>[(1,⟨0,.row true 1 ((K1l (es.take k)).map encI)⟩)]) (fun _=>True) (by simp only[roomB];omega) ?_
 simp only[go_sem]
 refine⟨?_,trivial,?_,?_⟩
 ·simp only[go_sem,List.take_zero]
  exact⟨rfl,rfl⟩
 ·intro k x hx _ h0 h1 hw
  have hlt:=List.length_take_le k es
  simp only[go_sem,K1 hx,h0,h1,hw,K7h hx,List.length_append,K89]
  refine⟨⟨by simp,by decide⟩,by simp only[roomB];omega,by simp[encI]⟩
 ·intro _
  simp only[go_sem,List.take_length]
  refine K3 cs (fun k=>[(8,.val false [.ref 2 0 1 0 (Kx (cs.take k)).length]),(38,vI k)]) (fun k=>[(2,⟨0,.row true 1 ((Kx (cs.take k)).map encI)⟩)]) (fun _=>True) (by simp only[roomB];omega) ?_
  simp only[go_sem]
  refine⟨?_,trivial,?_,?_⟩
  ·simp only[go_sem,List.take_zero]
   exact⟨rfl,rfl⟩
  ·intro k x hx _ h0 h1 hw
   have hlt:=List.length_take_le k cs
   simp only[go_sem,K1 hx,h0,h1,K68 hx,List.length_append]
   apply K0 (Cgi x (body_le hx hs))
   simp only[go_sem]
   try intro _
   apply K0 (C3q (K3q x))
   simp only[go_sem,hw]
   simp only[roomB,K79]
   exact⟨by omega,by omega,fun _=>by simp[encI]⟩
  ·intro _
   simp only[go_sem,List.take_length]
   apply K0 (Chu l (by omega))
   simp only[go_sem]
   intros
   apply K0 (Cem es (by omega))
   simp only[go_sem]
   intros
   apply K0 (C14 cs hs)
   simp only[go_sem]
   intros
   apply K0 (Chi l (by omega))
   simp only[go_sem]
   try intros
   apply K0 (C3q (Ks l))
   simp only[go_sem]
   try intros
   apply K0 (C3q (K1l es))
   simp only[go_sem]
   try intros
   apply K0 (Cet _ (Kx cs) (Nat.le_refl _))
   simp only[go_sem]
   try intros
   refine⟨by decide,?_⟩
   apply K0 (Cet _ [hashL (Ks l),hashL (K1l es),rootL (Kx cs)] (Nat.le_refl _))
   simp only[go_sem]
   intros
   rfl
def K16(x:GContainer):Bool:=K1x x.Script&&(K7i x.Entries&&(K98 x.Captures&&(K94 x.Script x.Entries x.Captures==x.Root)))
def Y25(v0:Nat)(v1:Nat)(v2:Nat)(v3:Nat):MC:=
(Zs [.box 1 0 (.s 0),.mv 2 cF] [1] (.seq (.dreg [Za (fS 3 1 0),Ze [0] (lF 4 1 3),Ze [0,1] (.call 5 [] (.f v0) [.s 4]),Ze [0,1,2] (mS 6 5),{o:=fS 7 1 1,g:=some (6,true),bf:=(.range 4)},{o:=lF 8 1 7,g:=some (6,true),bf:=(.range 5)},{o:= .call 9 [] (.f v1) [.s 8],g:=some (6,true),bf:=(.range 6)},Ze (.range 7) (.pick 10 (.s 6) (.s 9) cF),Ze (.range 8) (mS 11 10),{o:=fS 12 1 2,g:=some (11,true),bf:=(.range 9)},{o:=lF 13 1 12,g:=some (11,true),bf:=(.range 10)},{o:= .call 14 [] (.f v2) [.s 13],g:=some (11,true),bf:=(.range 11)},Ze (.range 12) (.pick 15 (.s 11) (.s 14) cF),Ze (.range 13) (mS 16 15),{o:=fS 17 1 0,g:=some (16,true),hs:=[19,20,21,22,25,26],bf:=(.range 14)},{o:=lF 18 1 17,g:=some (16,true),hs:=[19,20,21,22,25,26],bf:=(.range 15)},{o:=fS 19 1 1,g:=some (16,true),hs:=[17,18,21,22,25,26],bf:=(.range 14)},{o:=lF 20 1 19,g:=some (16,true),hs:=[17,18,21,22,25,26],bf:=[0,1,2,3,4,5,6,7,8,9,10,11,12,13,16]},{o:=fS 21 1 2,g:=some (16,true),hs:=[17,18,19,20,25,26],bf:=(.range 14)},{o:=lF 22 1 21,g:=some (16,true),hs:=[17,18,19,20,25,26],bf:=[0,1,2,3,4,5,6,7,8,9,10,11,12,13,18]},{o:= .call 23 [1,2,3] (.f v3) [.s 18,.s 20,.s 22],g:=some (16,true),hs:=[25,26],ws:=[1,2,3],bf:=(.range 20)},{o:= .fldv 24 (.s 23) 3 1 false,g:=some (16,true),hs:=[25,26],bf:=(.range 21)},{o:=fS 25 1 3,g:=some (16,true),hs:=[17,18,19,20,21,22,23,24],ho:=[1,2,3],bf:=(.range 14)},{o:=lF 26 1 25,g:=some (16,true),hs:=[17,18,19,20,21,22,23,24],ho:=[1,2,3],bf:=[0,1,2,3,4,5,6,7,8,9,10,11,12,13,22]},{o:=bS 27 .eql 24 26,g:=some (16,true),bf:=(.range 24)},Ze (.range 25) (.pick 28 (.s 16) (.s 27) cF),Ze (.range 26) (mS 2 28)] [2])
.ret))
attribute [go_sem] Y25
def M6u:MC:=Y25 N28 N3j N7h N4v
theorem Cgm(x:GContainer)(hs:x.size≤1073741824):Ctr Tryz.prog N7m [aS x.enc] [rB (K16 x)]:=by
 refine cA M6u 4 29 [(.tmp 2,[false])] Tryz.func161 rfl rfl ?_;unfold M6u
 intro hb
 clear hb
 simp only[GContainer.size]at hs
 simp only[go_sem]
 repeat' first
  |(refine And.intro ?_ ?_<;>intro h)
  |(apply K0 (C30 _);simp only[go_sem])
  |(apply K0 (C8b _);simp only[go_sem])
  |(apply K0 (Cgh _);simp only[go_sem])
  |(apply K0 (Cej x.Script x.Entries x.Captures (by omega) (by omega) (by omega));simp only[go_sem];intros)
 all_goals (unfold K16;simp_all)
def M7b:MC:=Y25 N2a N3n N7x N50
theorem C6k(x:GContainer)(hs:x.size≤1073741824):Ctr Tryz.prog N3c [aS x.enc] [rB (K16 x)]:=by
 refine cA M7b 4 29 [(.tmp 2,[false])] Tryz.func94 rfl rfl ?_;unfold M7b
 intro hb
 clear hb
 simp only[GContainer.size]at hs
 simp only[go_sem]
 repeat' first
  |(refine And.intro ?_ ?_<;>intro h)
  |(apply K0 (C31 _);simp only[go_sem])
  |(apply K0 (C8i _);simp only[go_sem])
  |(apply K0 (Ch1 _);simp only[go_sem])
  |(apply K0 (Ceq x.Script x.Entries x.Captures (by omega) (by omega) (by omega));simp only[go_sem];intros)
 all_goals (unfold K16;simp_all)
def M5g:MC:=Y17 4 N7m
theorem C55(x:GContainer)(hs:x.size≤1073741824):Ctr Tryz.prog N2v [aS x.enc] [rB (!K16 x)]:=by
 refine cA M5g 1 6 [(.tmp 2,[false])] Tryz.func117 rfl rfl ?_;unfold M5g
 intro hb
 clear hb
 simp only[go_sem]
 apply K0 (Cgm x hs)
 simp only[go_sem]
def whole(d:GDisk):Bool:=decide (d.Index=index d.Containers)
def K42(d:GDisk):Bool:=K17 6 K16 d.Containers&&(K17 1 K16 d.Wanted&&(whole d||(decide (0<d.Containers.length)&&decide (d.Index=index d.Containers.dropLast))))
theorem diskOk_no1{d:GDisk}{k:Nat}{x:GContainer}(hx:d.Containers[k]? =some x)(h:K16 x=false):false=K42 d:=by
 unfold K42;rw[←K3t (n:=6) hx h,Bool.false_and]
theorem diskOk_no2{d:GDisk}{k:Nat}{x:GContainer}(hx:d.Wanted[k]? =some x)(h:K16 x=false):false=K42 d:=by
 unfold K42;rw[←K3t (n:=1) hx h,Bool.false_and,Bool.and_false]
def Y26(v0:Nat)(v1:Nat):MC:=
(Zs [.box 1 0 (.s 0),.mv 2 cF] [1] (.seq (.dreg [Zf [5,6,7] [1] (fS 3 1 1),Zg [5,6,7] [1] [0] (lF 4 1 3),Zc [3,4] (fS 5 1 0),Zd [3,4] [2] (lF 6 1 5),{o:= .call 7 [1] (.f v0) [.s 6],hs:=[3,4],ws:=[1],bf:=[2,3]},Ze (.range 5) (.call 8 [] (.f v1) [.s 4,.s 7]),Ze (.range 6) (mS 2 8)] [2])
.ret))
attribute [go_sem] Y26
def M5d:MC:=Y26 N3k Nh
theorem Cdl(d:GDisk)(hs:d.size≤1073741824):Ctr Tryz.prog N2t [aS d.enc] [rB (whole d)]:=by
 refine cA M5d 2 9 [(.tmp 2,[false])] Tryz.func118 rfl rfl ?_;unfold M5d
 intro hb
 clear hb
 simp only[GDisk.size]at hs
 simp only[go_sem]
 apply K0 (C8c d.Containers (by omega))
 simp only[go_sem]
 intros
 apply K0 (C4g _ _)
 simp only[go_sem]
 intros
 rfl
def Mcz:MC:=Y26 N3o N6e
theorem Ccf(d:GDisk)(hs:d.size≤1073741824):Ctr Tryz.prog N52 [aS d.enc] [rB (whole d)]:=by
 refine cA Mcz 2 9 [(.tmp 2,[false])] Tryz.func95 rfl rfl ?_;unfold Mcz
 intro hb
 clear hb
 simp only[GDisk.size]at hs
 simp only[go_sem]
 apply K0 (C8j d.Containers (by omega))
 simp only[go_sem]
 intros
 apply K0 (Cdo _ _)
 simp only[go_sem]
 intros
 rfl
theorem K83{l:List GContainer}{n N:Nat}(h:l.length+(l.map GContainer.size).sum≤N):(l.take n).length+((l.take n).map GContainer.size).sum≤N:=by
 have h1:=List.length_take_le n l
 have h2:=K2a (f:=GContainer.size) l n
 have h3:(l.take n).length≤l.length:=by rw[List.length_take];omega
 omega
def Mew:MC:=
(Zs [.box 1 0 (.s 0),.mv 2 cF] [1] (Zs [fS 4 1 0,lF 5 1 4,nS 6 5,mS 3 6] [1,3] (.seq (.dreg [Za (mS 7 3),Ze [0] (bC 8 .leq 7 6),Ze [0,1] (mS 9 8),{o:=fS 10 1 0,g:=some (9,true),bf:=[0,1,2]},{o:=lF 11 1 10,g:=some (9,true),bf:=(.range 4)},{o:= .call 12 [] (.f N2) [.s 11,.f N2v],g:=some (9,true),bf:=(.range 5)},{o:= .un 13 .not (.s 12),g:=some (9,true),bf:=(.range 6)},Ze (.range 7) (.pick 14 (.s 9) (.s 13) cF),Ze (.range 8) (mS 15 14),{o:=fS 16 1 2,g:=some (15,true),bf:=(.range 9)},{o:=lF 17 1 16,g:=some (15,true),bf:=(.range 10)},{o:=nS 18 17,g:=some (15,true),bf:=(.range 11)},{o:=bC 19 .leq 18 1,g:=some (15,true),bf:=(.range 12)},Ze (.range 13) (.pick 20 (.s 15) (.s 19) cF),Ze (.range 14) (mS 21 20),{o:=fS 22 1 2,g:=some (21,true),bf:=(.range 15)},{o:=lF 23 1 22,g:=some (21,true),bf:=(.range 16)},{o:= .call 24 [] (.f N2) [.s 23,.f N2v],g:=some (21,true),bf:=(.range 17)},{o:= .un 25 .not (.s 24),g:=some (21,true),bf:=(.range 18)},Ze (.range 19) (.pick 26 (.s 21) (.s 25) cF),Ze (.range 20) (mS 27 26),{o:=lT 28 3 1,g:=some (27,true),bf:=(.range 21)},{o:= .call 29 [] (.f N2t) [.s 28],g:=some (27,true),bf:=(.range 22)},{o:=mS 30 29,g:=some (27,true),bf:=(.range 23)},{o:=mS 31 3,g:=some (30,false),bf:=(.range 24)},{o:=bC 32 .gtr 31 0,g:=some (30,false),bf:=(.range 25)},{o:=mS 33 32,g:=some (30,false),bf:=(.range 26)},{o:=fS 34 1 1,g:=some (33,true),hs:=[36,37,38,39,40,41],ho:=[1],bf:=(.range 27)},{o:=lF 35 1 34,g:=some (33,true),hs:=[36,37,38,39,40,41],ho:=[1],bf:=(.range 28)},{o:=fS 36 1 0,g:=some (33,true),hs:=[34,35,38,39],bf:=(.range 27)},{o:=lF 37 1 36,g:=some (33,true),hs:=[34,35,38,39],bf:=[0,1,2,3,4,5,6,7,8,9,10,11,12,13,14,15,16,17,18,19,20,21,22,23,24,25,26,29]},{o:=mS 38 3,g:=some (33,true),hs:=[34,35,36,37],bf:=(.range 27)},{o:=bC 39 .sub 38 1,g:=some (33,true),hs:=[34,35,36,37],bf:=[0,1,2,3,4,5,6,7,8,9,10,11,12,13,14,15,16,17,18,19,20,21,22,23,24,25,26,31]},{o:= .slc 40 4 (.s 37) none (some (.s 39)) none,g:=some (33,true),hs:=[34,35],bf:=[0,1,2,3,4,5,6,7,8,9,10,11,12,13,14,15,16,17,18,19,20,21,22,23,24,25,26,29,30,31,32]},{o:= .call 41 [1] (.f N3k) [.s 40],g:=some (33,true),hs:=[34,35],ws:=[1],bf:=[0,1,2,3,4,5,6,7,8,9,10,11,12,13,14,15,16,17,18,19,20,21,22,23,24,25,26,29,30,31,32,33]},{o:= .call 42 [] (.f Nh) [.s 35,.s 41],g:=some (33,true),bf:=(.range 35)},{o:= .pick 43 (.s 33) (.s 42) cF,g:=some (30,false),bf:=(.range 36)},{o:= .pick 44 (.s 30) cT (.s 43),g:=some (27,true),bf:=(.range 37)},Ze (.range 38) (.pick 45 (.s 27) (.s 44) cF),Ze (.range 39) (mS 2 45)] [2])
.ret)))
set_option maxHeartbeats 1000000 in
theorem Cjz(d:GDisk)(hs:d.size≤1073741824):Ctr Tryz.prog Nfi [aS d.enc] [rB (K42 d)]:=by
 refine cA Mew 2 46 [(.tmp 2,[false])] Tryz.func64 rfl rfl ?_;unfold Mew
 intro hb
 clear hb
 have hs':=hs
 simp only[GDisk.size]at hs
 have hx1:∀x∈d.Containers,x.size≤1073741824:=fun x hx=>by have:=K1i (f:=GContainer.size) hx;omega
 have hx2:∀x∈d.Wanted,x.size≤1073741824:=fun x hx=>by have:=K1i (f:=GContainer.size) hx;omega
 have hsz:d.Containers.length+(d.Containers.map GContainer.size).sum≤1073741824:=by omega
 have hw1:(d.Containers.length:Int)>0→IntKind.i64.wrap ((d.Containers.length:Int)-1)=((d.Containers.length-1:Nat):Int):=fun h=>by rw[wI (by omega) (by omega)];omega
 obtain⟨A,hA⟩:∃A,A=d.Containers.all K16:=⟨_,rfl⟩
 obtain⟨B,hB⟩:∃B,B=d.Wanted.all K16:=⟨_,rfl⟩
 have hC:(d.Containers.any fun x=> !K16 x)= !A:=by rw[K5b,hA]
 have hW:(d.Wanted.any fun x=> !K16 x)= !B:=by rw[K5b,hB]
 simp only[go_sem]
 repeat' first
  |(refine And.intro ?_ ?_<;>intro h)
  |(apply K0 (Ca d.Containers _ [] (fun x=> !K16 x) fun x hx=>C55 x (hx1 x hx));simp only[go_sem,hC])
  |(apply K0 (Ca d.Wanted _ [] (fun x=> !K16 x) fun x hx=>C55 x (hx2 x hx));simp only[go_sem,hW])
  |(apply K0 (Cdl d hs');simp only[go_sem])
  |(rw[hw1 (by assumption),cutA (by omega)];refine⟨⟨by omega,by omega,by omega⟩,?_⟩;apply K0 (C8c _ (K83 hsz));simp only[go_sem];intros;apply K0 (C4g _ _);simp only[go_sem];intros)
 all_goals (rw[K42,K17,K17,←hA,←hB,List.dropLast_eq_take];clear hC hW hA hB hx1 hx2 hw1 hsz hs hs';by_cases c1:d.Containers.length≤6<;>by_cases c2:d.Wanted.length≤1<;>by_cases c3:0<d.Containers.length<;>simp_all<;>omega)
def Mf9:MC:=
(Zs [.box 1 0 (.s 0),.mv 2 cF] [1] (.seq (Zs [.mv 3 (ci 0)] [1,3] (.block 0 (.loop ([1,3],[1]) (.seq (Zs [mS 6 3,fS 7 1 0,lF 8 1 7,nS 9 8,bS 10 .lss 6 9] [1,3,10] (cX 10 0))
(.seq (.block 1 (Zs [fS 13 1 0,lF 14 1 13,mS 15 3,xS 16 4 14 15,lT 17 4 16,.call 18 [] (.f N3c) [.s 17],.un 19 .not (.s 18)] [1,3,19] (.cond (.s 19) (Zs [.mv 2 cF] [2] .ret) .skip)))
(pr [mS 11 3,bC 12 .add 11 1,mS 3 12] [1,3]))))))
(.seq (Zs [.mv 4 (ci 0)] [1,4] (.block 2 (.loop ([1,4],[1]) (.seq (Zs [mS 20 4,fS 21 1 2,lF 22 1 21,nS 23 22,bS 24 .lss 20 23] [1,4,24] (cX 24 2))
(.seq (.block 3 (Zs [fS 27 1 2,lF 28 1 27,mS 29 4,xS 30 4 28 29,lT 31 4 30,.call 32 [] (.f N3c) [.s 31],.un 33 .not (.s 32)] [1,4,33] (.cond (.s 33) (Zs [.mv 2 cF] [2] .ret) .skip)))
(pr [mS 25 4,bC 26 .add 25 1,mS 4 26] [1,4]))))))
(Zs [fS 34 1 0,lF 35 1 34,nS 36 35,mS 5 36] [1,5] (.seq (.dreg [Za (mS 37 5),Ze [0] (bC 38 .leq 37 6),Ze [0,1] (mS 39 38),{o:=fS 40 1 2,g:=some (39,true),bf:=[0,1,2]},{o:=lF 41 1 40,g:=some (39,true),bf:=(.range 4)},{o:=nS 42 41,g:=some (39,true),bf:=(.range 5)},{o:=bC 43 .leq 42 1,g:=some (39,true),bf:=(.range 6)},Ze (.range 7) (.pick 44 (.s 39) (.s 43) cF),Ze (.range 8) (mS 45 44),{o:=lT 46 3 1,g:=some (45,true),bf:=(.range 9)},{o:= .call 47 [] (.f N52) [.s 46],g:=some (45,true),bf:=(.range 10)},{o:=mS 48 47,g:=some (45,true),bf:=(.range 11)},{o:=mS 49 5,g:=some (48,false),bf:=(.range 12)},{o:=bC 50 .gtr 49 0,g:=some (48,false),bf:=(.range 13)},{o:=mS 51 50,g:=some (48,false),bf:=(.range 14)},{o:=fS 52 1 1,g:=some (51,true),hs:=[54,55,56,57,58,59],ho:=[1],bf:=(.range 15)},{o:=lF 53 1 52,g:=some (51,true),hs:=[54,55,56,57,58,59],ho:=[1],bf:=(.range 16)},{o:=fS 54 1 0,g:=some (51,true),hs:=[52,53,56,57],bf:=(.range 15)},{o:=lF 55 1 54,g:=some (51,true),hs:=[52,53,56,57],bf:=[0,1,2,3,4,5,6,7,8,9,10,11,12,13,14,17]},{o:=mS 56 5,g:=some (51,true),hs:=[52,53,54,55],bf:=(.range 15)},{o:=bC 57 .sub 56 1,g:=some (51,true),hs:=[52,53,54,55],bf:=[0,1,2,3,4,5,6,7,8,9,10,11,12,13,14,19]},{o:= .slc 58 4 (.s 55) none (some (.s 57)) none,g:=some (51,true),hs:=[52,53],bf:=[0,1,2,3,4,5,6,7,8,9,10,11,12,13,14,17,18,19,20]},{o:= .call 59 [1] (.f N3o) [.s 58],g:=some (51,true),hs:=[52,53],ws:=[1],bf:=[0,1,2,3,4,5,6,7,8,9,10,11,12,13,14,17,18,19,20,21]},{o:= .call 60 [] (.f N6e) [.s 53,.s 59],g:=some (51,true),bf:=(.range 23)},{o:= .pick 61 (.s 51) (.s 60) cF,g:=some (48,false),bf:=(.range 24)},{o:= .pick 62 (.s 48) cT (.s 61),g:=some (45,true),bf:=(.range 25)},Ze (.range 26) (.pick 63 (.s 45) (.s 62) cF),Ze (.range 27) (mS 2 63)] [2])
.ret)))))
set_option maxHeartbeats 1000000 in
theorem Ck9(d:GDisk)(hs:d.size≤1073741824):Ctr Tryz.prog Nfs [aS d.enc] [rB (K42 d)]:=by
 refine cA Mf9 2 64 [(.tmp 2,[false])] Tryz.func46 rfl rfl ?_;unfold Mf9
 intro hb
 clear hb
 have hs':=hs
 simp only[GDisk.size]at hs
 have hx1:∀x∈d.Containers,x.size≤1073741824:=fun x hx=>by have:=K1i (f:=GContainer.size) hx;omega
 have hx2:∀x∈d.Wanted,x.size≤1073741824:=fun x hx=>by have:=K1i (f:=GContainer.size) hx;omega
 have hsz:d.Containers.length+(d.Containers.map GContainer.size).sum≤1073741824:=by omega
 have hw1:(d.Containers.length:Int)>0→IntKind.i64.wrap ((d.Containers.length:Int)-1)=((d.Containers.length-1:Nat):Int):=fun h=>by rw[wI (by omega) (by omega)];omega
 obtain⟨A,hA⟩:∃A,A=d.Containers.all K16:=⟨_,rfl⟩
 obtain⟨B,hB⟩:∃B,B=d.Wanted.all K16:=⟨_,rfl⟩
 have hC:(d.Containers.any fun x=> !K16 x)= !A:=by rw[K5b,hA]
 have hW:(d.Wanted.any fun x=> !K16 x)= !B:=by rw[K5b,hB]
 simp only[go_sem]
 refine K3 d.Containers (fun k=>[(3,vI k)]) (fun k=>[]) (fun k=>(d.Containers.take k).all K16=true) (by simp only[roomB];omega) ?_
 simp only[go_sem]
 refine⟨?_,by simp,?_,?_⟩
 ·simp only[go_sem]
 ·intro k x hx h h0 h1 hw
  simp only[go_sem,K1 hx,h0,h1]
  apply K0 (C6k x (hx1 x (Ki hx)))
  simp only[go_sem,hw]
  exact⟨fun hn=>diskOk_no1 hx hn,fun hn=>K2b hx h hn⟩
 ·intro hA'
  rw[List.take_length,←hA]at hA'
  simp only[go_sem]
  refine K3 d.Wanted (fun k=>[(4,vI k)]) (fun k=>[]) (fun k=>(d.Wanted.take k).all K16=true) (by simp only[roomB];omega) ?_
  simp only[go_sem]
  refine⟨?_,by simp,?_,?_⟩
  ·simp only[go_sem]
  ·intro k x hx h h0 h1 hw
   simp only[go_sem,K1 hx,h0,h1]
   apply K0 (C6k x (hx2 x (Ki hx)))
   simp only[go_sem,hw]
   exact⟨fun hn=>diskOk_no2 hx hn,fun hn=>K2b hx h hn⟩
  ·intro hB'
   rw[List.take_length,←hB]at hB'
   simp only[go_sem]
   repeat' first
    |(refine And.intro ?_ ?_<;>intro h)
    |(apply K0 (Ccf d hs');simp only[go_sem])
    |(rw[hw1 (by assumption),cutA (by omega)];refine⟨⟨by omega,by omega,by omega⟩,?_⟩;apply K0 (C8j _ (K83 hsz));simp only[go_sem];intros;apply K0 (Cdo _ _);simp only[go_sem];intros)
   all_goals (rw[K42,K17,K17,←hA,←hB,List.dropLast_eq_take];clear hC hW hA hB hx1 hx2 hw1 hsz hs hs';by_cases c1:d.Containers.length≤6<;>by_cases c2:d.Wanted.length≤1<;>by_cases c3:0<d.Containers.length<;>simp_all<;>omega)
end Go.Proofs.YtpeabgkoknjojaaGreatDoorR
namespace Go.Proofs.YtpeabgkoknjojaaGreatDoorR
open Go Go.RowKit Go.Proofs
open Nat (reduceEqDiff reduceLT reduceLeDiff reduceAdd reduceMul)
open List (reduceReplicate)
def K20(x:GExclusion):Bool:=decide ((1≤x.Host∧x.Host≤9)∧(-1≤x.Path∧x.Path≤99)∧(0≤x.From∧x.From≤x.Until)∧x.Until≤2000∧(0≤x.Asked∧x.Asked≤2000))
def M6v:MC:=
(Zs [.box 1 0 (.s 0),.mv 2 cF] [1] (.seq (.reg [Za (fS 3 1 0),Za (lF 4 1 3),Za (.call 5 [] (.f N1) [.s 4,.c (.int .i64 1),.c (.int .i64 9)]),Za (mS 6 5),Zb 6 true (fS 7 1 1),Zb 6 true (lF 8 1 7),Zb 6 true (.call 9 [] (.f N1) [.s 8,.c (.int .i64 (-1)),.c (.int .i64 99)]),Za (.pick 10 (.s 6) (.s 9) cF),Za (mS 11 10),Zb 11 true (fS 12 1 2),Zb 11 true (lF 13 1 12),Zb 11 true (fS 14 1 3),Zb 11 true (lF 15 1 14),Zb 11 true (.call 16 [] (.f N1) [.s 13,.c (.int .i64 0),.s 15]),Za (.pick 17 (.s 11) (.s 16) cF),Za (mS 18 17),Zb 18 true (fS 19 1 3),Zb 18 true (lF 20 1 19),Zb 18 true (bC 21 .leq 20 2000),Za (.pick 22 (.s 18) (.s 21) cF),Za (mS 23 22),Zb 23 true (fS 24 1 4),Zb 23 true (lF 25 1 24),Zb 23 true (.call 26 [] (.f N1) [.s 25,.c (.int .i64 0),.c (.int .i64 2000)]),Za (.pick 27 (.s 23) (.s 26) cF),Za (mS 2 27)] [2])
.ret))
theorem C6g(x:GExclusion):Ctr Tryz.prog N37 [aS x.enc] [rB (K20 x)]:=by
 refine cA M6v 1 28 [(.tmp 2,[false])] Tryz.func68 rfl rfl ?_;unfold M6v
 intro hb
 clear hb
 simp only[go_sem]
 repeat' first
  |(refine And.intro ?_ ?_<;>intro h)
  |(apply K0 (C4 _ _ _);simp only[go_sem])
 all_goals (unfold K20;first|(symm;rw[decide_eq_false_iff_not];omega)|(rw[Bool.eq_iff_iff];simp only[decide_eq_true_eq];omega))
def M7c:MC:=
(Zs [.box 1 0 (.s 0),.mv 2 cF] [1] (.seq (.reg [Za (fS 3 1 0),Za (lF 4 1 3),Za (.call 5 [] (.f N0) [.s 4,.c (.int .i64 1),.c (.int .i64 9)]),Za (mS 6 5),Zb 6 true (fS 7 1 1),Zb 6 true (lF 8 1 7),Zb 6 true (.call 9 [] (.f N0) [.s 8,.c (.int .i64 (-1)),.c (.int .i64 99)]),Za (.pick 10 (.s 6) (.s 9) cF),Za (mS 11 10),Zb 11 true (fS 12 1 2),Zb 11 true (lF 13 1 12),Zb 11 true (.call 14 [] (.f N0) [.s 13,.c (.int .i64 0),.c (.int .i64 2000)]),Za (.pick 15 (.s 11) (.s 14) cF),Za (mS 16 15),Zb 16 true (fS 17 1 3),Zb 16 true (lF 18 1 17),Zb 16 true (fS 19 1 2),Zb 16 true (lF 20 1 19),Zb 16 true (.call 21 [] (.f N0) [.s 18,.s 20,.c (.int .i64 2000)]),Za (.pick 22 (.s 16) (.s 21) cF),Za (mS 23 22),Zb 23 true (fS 24 1 4),Zb 23 true (lF 25 1 24),Zb 23 true (.call 26 [] (.f N0) [.s 25,.c (.int .i64 0),.c (.int .i64 2000)]),Za (.pick 27 (.s 23) (.s 26) cF),Za (mS 2 27)] [2])
.ret))
theorem C6l(x:GExclusion):Ctr Tryz.prog N3d [aS x.enc] [rB (K20 x)]:=by
 refine cA M7c 1 28 [(.tmp 2,[false])] Tryz.func42 rfl rfl ?_;unfold M7c
 intro hb
 clear hb
 simp only[go_sem]
 repeat' first
  |(refine And.intro ?_ ?_<;>intro h)
  |(apply K0 (C3 _ _ _);simp only[go_sem])
 all_goals (unfold K20;first|(symm;rw[decide_eq_false_iff_not];omega)|(rw[Bool.eq_iff_iff];simp only[decide_eq_true_eq];omega))
def hidesB(x:GExclusion)(c:GCapture):Bool:=K20 x&&decide (c.Address.Host=x.Host∧(x.Path= -1∨c.Address.Path=x.Path)∧x.From≤c.Tick∧c.Tick≤x.Until)
def K34(x:GExclusion)(c:GCapture)(now:Int):Bool:=decide (x.Asked≤now)&&hidesB x c
def M3s:MC:=
(Zs [.box 2 0 (.s 0),.box 3 1 (.s 1),.mv 4 cF] [2,3] (.seq (.reg [Za (lT 5 5 2),Za (.call 6 [] (.f N37) [.s 5]),Za (mS 7 6),Zb 7 true (fS 8 3 0),Zb 7 true (fS 9 8 0),Zb 7 true (lF 10 1 9),Zb 7 true (fS 11 2 0),Zb 7 true (lF 12 1 11),Zb 7 true (bS 13 .eql 10 12),Za (.pick 14 (.s 7) (.s 13) cF),Za (mS 15 14),Zb 15 true (fS 16 2 1),Zb 15 true (lF 17 1 16),Zb 15 true (.bin 18 false .eql (.s 17) (.c (.int .i64 (-1)))),Zb 15 true (mS 19 18),Zb 19 false (fS 20 3 0),Zb 19 false (fS 21 20 1),Zb 19 false (lF 22 1 21),Zb 19 false (fS 23 2 1),Zb 19 false (lF 24 1 23),Zb 19 false (bS 25 .eql 22 24),Zb 15 true (.pick 26 (.s 19) cT (.s 25)),Za (.pick 27 (.s 15) (.s 26) cF),Za (mS 28 27),Zb 28 true (fS 29 3 3),Zb 28 true (lF 30 1 29),Zb 28 true (fS 31 2 2),Zb 28 true (lF 32 1 31),Zb 28 true (fS 33 2 3),Zb 28 true (lF 34 1 33),Zb 28 true (.call 35 [] (.f N1) [.s 30,.s 32,.s 34]),Za (.pick 36 (.s 28) (.s 35) cF),Za (mS 4 36)] [4])
.ret))
theorem Ckg(x:GExclusion)(c:GCapture):Ctr Tryz.prog N3v [aS x.enc,aS c.enc] [rB (hidesB x c)]:=by
 refine cA M3s 2 37 [(.tmp 4,[false])] Tryz.func228 rfl rfl ?_;unfold M3s
 intro hb
 clear hb
 simp only[go_sem]
 repeat' first
  |(refine And.intro ?_ ?_<;>intro h)
  |(apply K0 (C6g _);simp only[go_sem])
  |(apply K0 (C4 _ _ _);simp only[go_sem])
 all_goals (unfold hidesB;first|(rw[‹K20 x=false›];rfl)|(rw[‹K20 x=true›,Bool.true_and];first|(symm;rw[decide_eq_false_iff_not];omega)|(rw[Bool.eq_iff_iff];simp only[decide_eq_true_eq];omega)))
def Mcy:MC:=
(Zs [.box 2 0 (.s 0),.box 3 1 (.s 1),.mv 4 cF] [2,3] (.seq (.reg [Za (lT 5 5 2),Za (.call 6 [] (.f N3d) [.s 5]),Za (mS 7 6),Zb 7 true (fS 8 2 0),Zb 7 true (lF 9 1 8),Zb 7 true (fS 10 3 0),Zb 7 true (fS 11 10 0),Zb 7 true (lF 12 1 11),Zb 7 true (bS 13 .eql 9 12),Za (.pick 14 (.s 7) (.s 13) cF),Za (mS 15 14),Zb 15 true (fS 16 2 1),Zb 15 true (lF 17 1 16),Zb 15 true (.bin 18 false .eql (.s 17) (.c (.int .i64 (-1)))),Zb 15 true (mS 19 18),Zb 19 false (fS 20 2 1),Zb 19 false (lF 21 1 20),Zb 19 false (fS 22 3 0),Zb 19 false (fS 23 22 1),Zb 19 false (lF 24 1 23),Zb 19 false (bS 25 .eql 21 24),Zb 15 true (.pick 26 (.s 19) cT (.s 25)),Za (.pick 27 (.s 15) (.s 26) cF),Za (mS 28 27),Zb 28 true (fS 29 3 3),Zb 28 true (lF 30 1 29),Zb 28 true (fS 31 2 2),Zb 28 true (lF 32 1 31),Zb 28 true (fS 33 2 3),Zb 28 true (lF 34 1 33),Zb 28 true (.call 35 [] (.f N0) [.s 30,.s 32,.s 34]),Za (.pick 36 (.s 28) (.s 35) cF),Za (mS 4 36)] [4])
.ret))
theorem Cje(x:GExclusion)(c:GCapture):Ctr Tryz.prog Ndd [aS x.enc,aS c.enc] [rB (hidesB x c)]:=by
 refine cA Mcy 2 37 [(.tmp 4,[false])] Tryz.func241 rfl rfl ?_;unfold Mcy
 intro hb
 clear hb
 simp only[go_sem]
 repeat' first
  |(refine And.intro ?_ ?_<;>intro h)
  |(apply K0 (C6l _);simp only[go_sem])
  |(apply K0 (C3 _ _ _);simp only[go_sem])
 all_goals (unfold hidesB;first|(rw[‹K20 x=false›];rfl)|(rw[‹K20 x=true›,Bool.true_and];first|(symm;rw[decide_eq_false_iff_not];omega)|(rw[Bool.eq_iff_iff];simp only[decide_eq_true_eq];omega)))
def M8o:MC:=
(Zs [.box 3 0 (.s 0),.box 4 1 (.s 1),.mv 6 cF] [2,3,4] (.seq (.reg [Za (mS 7 2),Za (fS 8 3 4),Za (lF 9 1 8),Za (bS 10 .geq 7 9),Za (mS 11 10),Zb 11 true (lT 12 5 3),Zb 11 true (lT 13 9 4),Zb 11 true (.call 14 [] (.f N3v) [.s 12,.s 13]),Za (.pick 15 (.s 11) (.s 14) cF),Za (mS 6 15)] [6])
.ret))
theorem Chc(x:GExclusion)(c:GCapture)(now:Int):Ctr Tryz.prog N9m [aS x.enc,aS c.enc,aI now] [rB (K34 x c now)]:=by
 refine cA M8o 2 16 [(.tmp 6,[false])] Tryz.func177 rfl rfl ?_;unfold M8o
 intro hb
 clear hb
 simp only[go_sem]
 repeat' first
  |(refine And.intro ?_ ?_<;>intro h)
  |(apply K0 (Ckg _ _);simp only[go_sem])
 all_goals (unfold K34;first|(rw[‹hidesB x c=false›];simp)|(simp;done)|(simp_all;done)|(intros;omega)|(simp_all;intros;omega))
def M9c:MC:=
(Zs [.box 3 0 (.s 0),.box 4 1 (.s 1),.mv 6 cF] [2,3,4] (.seq (.reg [Za (lT 7 5 3),Za (lT 8 9 4),Za (.call 9 [] (.f Ndd) [.s 7,.s 8]),Za (mS 10 9),Zb 10 true (mS 11 2),Zb 10 true (fS 12 3 4),Zb 10 true (lF 13 1 12),Zb 10 true (bS 14 .geq 11 13),Za (.pick 15 (.s 10) (.s 14) cF),Za (mS 6 15)] [6])
.ret))
theorem Chv(x:GExclusion)(c:GCapture)(now:Int):Ctr Tryz.prog Na7 [aS x.enc,aS c.enc,aI now] [rB (K34 x c now)]:=by
 refine cA M9c 2 16 [(.tmp 6,[false])] Tryz.func199 rfl rfl ?_;unfold M9c
 intro hb
 clear hb
 simp only[go_sem]
 repeat' first
  |(refine And.intro ?_ ?_<;>intro h)
  |(apply K0 (Cje _ _);simp only[go_sem])
 all_goals (unfold K34;first|(rw[‹hidesB x c=false›];simp)|(simp;done)|(simp_all;done)|(intros;omega)|(simp_all;intros;omega))
theorem cut_one{α:Type}{f:α→List T}{xs:List α}{k:Nat}{x:α}(hx:xs[k]? =some x):(if k=0∧(((k+1:Nat):Int)-(k:Int)).toNat=xs.length then xs.map f else List.take (((k+1:Nat):Int)-(k:Int)).toNat (List.drop k (xs.map f)))=[x].map f:=by
 have e:(((k+1:Nat):Int)-(k:Int)).toNat=1:=by omega
 have hk:=K9 hx
 rw[e]
 have hd:List.take 1 (List.drop k (xs.map f))=[x].map f:=by
  rw[←List.map_drop,K1t hx];rfl
 split
 ·rename_i h
  rw[h.1]at hd
  rw[←hd,List.drop_zero,List.take_of_length_le (by rw[List.length_map,←h.2];exact Nat.le_refl _)]
 ·exact hd
def K35(c:GCapture)(l:List GExclusion)(now:Int):Bool:=l.any fun x=>K34 x c now
def visible(cs:List GCapture)(l:List GExclusion)(now:Int):List GCapture:=cs.filter fun c=> !K35 c l now
theorem K4c{cs:List GCapture}{l:List GExclusion}{now:Int}{k:Nat}{c:GCapture}(h:cs[k]? =some c):visible (cs.take (k+1)) l now=if K35 c l now then visible (cs.take k) l now else visible (cs.take k) l now++[c]:=by
 unfold visible
 rw[K8 h,List.filter_append]
 cases hh:K35 c l now<;>simp[hh]
theorem K4p(cs:List GCapture)(l:List GExclusion)(now:Int):(visible cs l now).length≤cs.length:=List.length_filter_le _ _
theorem K4v{α:Type}{p:α→Bool}{f:α→Nat}:∀l:List α,((l.filter p).map f).sum≤(l.map f).sum
 | []=>by simp
 |x::l=>by
  have:=K4v (p:=p) (f:=f) l
  rw[List.filter_cons]
  split<;>simp<;>omega
def M6y:MC:=
(Zs [.box 3 0 (.s 0),.mv 4 cF] [1,2,3] (Zs [lT 5 5 3,lT 6 9 1,lF 7 1 2,.call 8 [] (.f N9m) [.s 5,.s 6,.s 7],mS 4 8] [4] .ret))
theorem Cgo(x:GExclusion)(c:GCapture)(now:Int):Ctr Tryz.prog N7o [aS x.enc,(false,[.pb c.enc]),(false,[.pb [tI now]])] [rB (K34 x c now)]:=by
 refine cA M6y 1 9 [(.tmp 4,[false])] Tryz.func176 rfl rfl ?_;unfold M6y
 intro hb
 clear hb
 simp only[go_sem]
 refine K0 (Chc _ _ _) ?_
 simp only[go_sem]
def May:MC:=
(Zs [.box 5 0 (.s 2),.nilo 6 1 9] [0,1,5] (Zs [.nilo 7 2 9] [0,1,5,7] (.seq (Zs [mS 10 0,nS 11 10,.mv 12 (ci 0)] [1,5,7,10,11,12] (.block 0 (.loop ([1,5,7,10,11,12],[1,3,4]) (Zs [bS 13 .lss 12 11] [1,5,7,10,11,12,13] (.seq (cX 13 0)
(.seq (.block 1 (Zs [xS 14 9 10 12,lT 15 9 14,.alloc 9 3 [pz,pz,pz,pz,pz,.emp 1,pz,pz,pz],sS 9 9 15] [1,5,7,9,10,11,12] (Zs [mS 16 1,.clos 17 N7o [9,5],.call 18 [] (.f N6) [.s 16,.s 17],.un 19 .not (.s 18)] [1,5,7,9,10,11,12,19] (.cond (.s 19) (pr [mS 20 7,lT 21 9 9,.lit 22 4 9 88 [.s 21],.app 23 2 9 88 (.s 20) (.s 22),mS 7 23] [1,5,7,10,11,12]) .skip))))
(pr [bC 24 .add 12 1,mS 12 24] [1,5,7,10,11,12])))))))
(Zs [mS 25 7,.call 26 [1] (.f N24) [.s 25],mS 6 26] [6] .ret))))
theorem Cai(cs:List GCapture)(l:List GExclusion)(now:Int)(hs:cs.length+(cs.map GCapture.size).sum≤1073741824):Ctr Tryz.prog N47 [aL 9 (cs.map GCapture.enc),aL 5 (l.map GExclusion.enc),aI now] [rL 9 ((visible cs l now).map GCapture.enc)]:=by
 refine cA May 5 27 [(.tmp 6,[true])] Tryz.func131 rfl rfl ?_;unfold May
 intro hb
 clear hb
 simp only[go_sem]
 refine K3 cs (fun k=>[(7,.val false [.ref 2 0 9 0 (visible (cs.take k) l now).length]),(12,vI k)]) (fun k=>[(2,⟨0,.row (visible (cs.take k) l now).isEmpty 9 ((visible (cs.take k) l now).map GCapture.enc)⟩)]) (fun _=>True) (by simp only[roomB];omega) ?_
 simp only[go_sem]
 refine⟨?_,trivial,?_,?_⟩
 ·simp only[go_sem,List.take_zero]
  exact⟨rfl,rfl,rfl⟩
 ·intro k x hx _ h0 h1 hw
  have hk:k<cs.length:=by omega
  have hlt:=List.length_take_le k cs
  have hv:=K4p (cs.take k) l now
  simp only[go_sem,K1 hx,h0,h1]
  refine K0 (C25 l _ [.pb x.enc,.pb [tI now]] (fun y=>K34 y x now) fun y _=>Cgo y x now) ?_
  simp only[go_sem,hw]
  refine⟨fun h=>?_,fun h=>?_⟩
  ·have hx2:K35 x l now=false:=h
   simp only[roomB,K4c hx,hx2,Bool.false_eq_true,if_false]
   refine⟨by omega,by omega,?_,by simp,by simp,by simp[GCapture.enc]⟩
   cases visible (cs.take k) l now<;>simp
  ·have hx2:K35 x l now=true:=h
   simp only[K4c hx,hx2,if_true]
   first|trivial|exact⟨rfl,rfl,rfl⟩|(refine⟨?_,?_⟩<;>rfl)
 ·intro _
  simp only[go_sem,List.take_length]
  refine K0 (C14 _ ?_) ?_
  ·have:=K4p cs l now
   have:=K4v (p:=fun c=> !K35 c l now) (f:=GCapture.size) cs
   unfold visible at*
   omega
  simp only[go_sem]
def Mbm:MC:=
(Zs [.box 3 0 (.s 0),.mv 6 cF] [1,2,3] (.seq (Zs [.mv 7 (ci 0)] [1,2,3,7] (.block 0 (.loop ([1,2,3,7],[]) (.seq (Zs [mS 8 7,mS 9 1,nS 10 9,bS 11 .lss 8 10] [1,2,3,7,11] (cX 11 0))
(.seq (.block 1 (.seq (.dreg [Zc [15,18,19] (mS 14 1),Zc [14,18,19] (mS 15 7),Zd [18,19] [0,1] (xS 16 5 14 15),Zd [18,19] [0,1,2] (lT 17 5 16),Zc [14,15,16,17,19] (lT 18 9 3),Zc [14,15,16,17,18] (mS 19 2),Ze (.range 6) (.call 20 [] (.f Na7) [.s 17,.s 18,.s 19])] [1,2,3,7,20])
(.cond (.s 20) (Zs [.mv 6 cT] [6] .ret) .skip)))
(pr [mS 12 7,bC 13 .add 12 1,mS 7 13] [1,2,3,7]))))))
(Zs [.mv 6 cF] [6] .ret)))
theorem Ciy(c:GCapture)(l:List GExclusion)(now:Int):Ctr Tryz.prog Nca [aS c.enc,aL 5 (l.map GExclusion.enc),aI now] [rB (K35 c l now)]:=by
 refine cA Mbm 1 21 [(.tmp 6,[false])] Tryz.func151 rfl rfl ?_;unfold Mbm
 intro hb
 simp only[bdA,bdL,bdT,K7,K15,roomB,and_true,List.length_map]at hb
 have hl:=hb.2.1.1
 clear hb
 simp only[go_sem]
 refine K3 l (fun k=>[(7,vI k)]) (fun k=>[]) (fun k=>((l.take k).any fun x=>K34 x c now)=false) hl ?_
 simp only[go_sem]
 refine⟨?_,by simp,?_,?_⟩
 ·simp only[go_sem]
 ·intro k x hx h h0 h1 hw
  simp only[go_sem,K1 hx,h0,h1]
  refine K0 (Chv _ _ _) ?_
  simp only[go_sem,hw]
  exact⟨fun hn=>(K8n hx hn).symm,fun hn=>K1k hx h hn⟩
 ·intro h
  simp only[go_sem]
  rw[List.take_length]at h
  exact h.symm
def Mbl:MC:=
(Zs [.nilo 6 0 9] [0,1,2] (Zs [.lit 9 0 9 88 [],mS 7 9] [0,1,2,7] (.seq (Zs [.mv 8 (ci 0)] [0,1,2,7,8] (.block 0 (.loop ([0,1,2,7,8],[1]) (.seq (Zs [mS 10 8,mS 11 0,nS 12 11,bS 13 .lss 10 12] [0,1,2,7,8,13] (cX 13 0))
(.seq (.block 1 (Zs [mS 16 0,mS 17 8,xS 18 9 16 17,lT 19 9 18,mS 20 1,mS 21 2,.call 22 [] (.f Nca) [.s 19,.s 20,.s 21],.un 23 .not (.s 22)] [0,1,2,7,8,23] (.cond (.s 23) (pr [mS 24 7,mS 25 0,mS 26 8,mS 27 8,bC 28 .add 27 1,.slc 29 9 (.s 25) (some (.s 26)) (some (.s 28)) none,.call 30 [1] (.f N2k) [.s 29],.app 31 0 9 88 (.s 24) (.s 30),mS 7 31] [0,1,2,7,8]) .skip)))
(pr [mS 14 8,bC 15 .add 14 1,mS 8 15] [0,1,2,7,8]))))))
(Zs [mS 32 7,mS 6 32] [6] .ret))))
theorem Caq(cs:List GCapture)(l:List GExclusion)(now:Int)(hs:cs.length+(cs.map GCapture.size).sum≤1073741824):Ctr Tryz.prog N4a [aL 9 (cs.map GCapture.enc),aL 5 (l.map GExclusion.enc),aI now] [rL 9 ((visible cs l now).map GCapture.enc)]:=by
 refine cA Mbl 2 33 [(.tmp 6,[true])] Tryz.func100 rfl rfl ?_;unfold Mbl
 intro hb
 clear hb
 simp only[go_sem]
 refine K3 cs (fun k=>[(7,.val false [.ref 0 0 9 0 (visible (cs.take k) l now).length]),(8,vI k)]) (fun k=>[(0,⟨0,.row true 9 ((visible (cs.take k) l now).map GCapture.enc)⟩)]) (fun _=>True) (by simp only[roomB];omega) ?_
 simp only[go_sem]
 refine⟨?_,trivial,?_,?_⟩
 ·simp only[go_sem,List.take_zero]
  exact⟨rfl,rfl⟩
 ·intro k x hx _ h0 h1 hw
  have hk:k<cs.length:=by omega
  have hlt:=List.length_take_le k cs
  have hv:=K4p (cs.take k) l now
  simp only[go_sem,K1 hx,h0,h1]
  refine K0 (Ciy _ _ _) ?_
  simp only[go_sem,hw]
  refine⟨fun h=>?_,fun h=>?_⟩
  ·rw[cut_one hx]
   refine⟨by omega,?_⟩
   refine K0 (C1u [x] ?_) ?_
   ·have hx1:=K1i (f:=GCapture.size) (Ki hx)
    simp only[List.length_cons,List.length_nil,List.map_cons,List.map_nil,List.sum_cons,List.sum_nil]
    omega
   simp only[go_sem,hw]
   simp only[roomB,K4c hx,h,Bool.false_eq_true,if_false]
   exact⟨by omega,fun _=>⟨by simp,by simp[GCapture.enc]⟩⟩
  ·simp only[K4c hx,h,if_true]
   first|trivial|exact⟨rfl,rfl⟩
 ·intro _
  simp only[go_sem,List.take_length]
end Go.Proofs.YtpeabgkoknjojaaGreatDoorR
namespace Go.Proofs.YtpeabgkoknjojaaGreatDoorR
open Go Go.RowKit Go.Proofs
open Nat (reduceEqDiff reduceLT reduceLeDiff reduceAdd reduceMul)
open List (reduceReplicate)
theorem addrB{x y:GAddress}:(x.Host==y.Host&&(x.Path==y.Path&&x.Query==y.Query))=decide (x=y):=by
 rw[Bool.eq_iff_iff];simp[GAddress.eqv]
def Mjg:MC:=
(Zs [.mv 4 (ci 0)] [0,1] (.seq (Zs [mS 5 1,mS 6 0,bS 7 .gtr 5 6] [0,1,7] (.cond (.s 7) (Zs [mS 8 1,mS 4 8] [4] .ret) .skip))
(Zs [mS 9 0,mS 4 9] [4] .ret)))
theorem Cjb(x y:Int):Ctr Tryz.prog Nes [aI x,aI y] [rI (if y>x then y else x)]:=by
 refine cA Mjg 0 10 [(.tmp 4,[false])] Tryz.func103 rfl rfl ?_;unfold Mjg
 intro hb
 clear hb
 simp only[go_sem]
 refine⟨fun h=>?_,fun h=>?_⟩
 ·rw[if_pos (by omega)]
 ·rw[if_neg (by omega)]
def Mjh:MC:=
(Zs [.mv 4 (ci 0)] [0,1] (.seq (Zs [mS 5 1,mS 6 0,bS 7 .lss 5 6] [0,1,7] (.cond (.s 7) (Zs [mS 8 1,mS 4 8] [4] .ret) .skip))
(Zs [mS 9 0,mS 4 9] [4] .ret)))
theorem Ckp(x y:Int):Ctr Tryz.prog Njk [aI x,aI y] [rI (if y<x then y else x)]:=by
 refine cA Mjh 0 10 [(.tmp 4,[false])] Tryz.func240 rfl rfl ?_;unfold Mjh
 intro hb
 clear hb
 simp only[go_sem]
 refine⟨fun h=>?_,fun h=>?_⟩
 ·rw[if_pos (by omega)]
 ·rw[if_neg (by omega)]
end Go.Proofs.YtpeabgkoknjojaaGreatDoorR
namespace Go.Proofs.YtpeabgkoknjojaaGreatDoorR
open Go Go.RowKit Go.Proofs
open Nat (reduceEqDiff reduceLT reduceLeDiff reduceAdd reduceMul)
open List (reduceReplicate)
def K10(l:List GContainer):List GCapture:=l.flatMap fun x=>x.Captures
theorem K2o{l:List GContainer}{k:Nat}{x:GContainer}(h:l[k]? =some x):K10 (l.take (k+1))=K10 (l.take k)++x.Captures:=by
 rw[K8 h,K10,List.flatMap_append];simp[K10]
theorem K5m:∀ {l:List GContainer},(K10 l).length+((K10 l).map GCapture.size).sum≤(l.map GContainer.size).sum
 | []=>by simp[K10]
 |x::l=>by
  have:=K5m (l:=l)
  simp only[K10,List.flatMap_cons,List.length_append,List.map_append,List.sum_append,List.map_cons,List.sum_cons,GContainer.size]at*
  omega
theorem K3r{l:List GContainer}{k:Nat}{x:GContainer}(h:l[k]? =some x):(K10 (l.take k)).length+x.Captures.length≤(l.map GContainer.size).sum:=by
 have h1:=K5m (l:=l.take (k+1))
 have h2:=K2a (f:=GContainer.size) l (k+1)
 rw[K2o h,List.length_append]at h1
 omega
theorem K3s{l:List GContainer}{k:Nat}{x:GContainer}(h:l[k]? =some x):x.Captures.length+(x.Captures.map GCapture.size).sum≤(l.map GContainer.size).sum:=by
 have h1:=K1i (f:=GContainer.size) (Ki h)
 simp only[GContainer.size]at h1 ⊢
 omega
def told(d:GDisk):List GContainer:=if whole d then d.Containers else d.Containers.dropLast
def Kv(a:GArchive):List GCapture:=K10 (told a.Disk)
theorem Kc6{d:GDisk}(h:whole d=true):told d=d.Containers:=by unfold told;rw[h];rfl
theorem K85{d:GDisk}(h:whole d=false):told d=d.Containers.take (d.Containers.length-1):=by unfold told;rw[h,List.dropLast_eq_take];rfl
theorem at_take{α:Type}{l:List α}{n k:Nat}{x:α}(h:(l.take n)[k]? =some x):l[k]? =some x:=by
 rw[List.getElem?_take]at h
 split at h
 ·exact h
 ·cases h
def M6o:MC:=
(Zs [.box 1 0 (.s 0),.nilo 2 1 9] [1] (Zs [fS 7 1 2,fS 8 7 0,lF 9 1 8,mS 3 9] [1,3] (.seq (.seq (.reg [Za (fS 10 1 2),Za (lT 11 3 10),Za (.call 12 [] (.f N2t) [.s 11]),Za (.un 13 .not (.s 12)),Za (mS 14 13),Zb 14 true (mS 15 3),Zb 14 true (nS 16 15),Zb 14 true (bC 17 .gtr 16 0),Za (.pick 18 (.s 14) (.s 17) cF)] [3,18])
(.cond (.s 18) (pr [mS 19 3,mS 20 3,nS 21 20,bC 22 .sub 21 1,.slc 23 4 (.s 19) none (some (.s 22)) none,mS 3 23] [3]) .skip))
(Zs [.nilo 4 1 9] [3,4] (.seq (Zs [mS 24 3,nS 25 24,.mv 26 (ci 0)] [4,24,25,26] (.block 0 (.loop ([4,24,25,26],[0,2,3]) (Zs [bS 27 .lss 26 25] [4,24,25,26,27] (.seq (cX 27 0)
(.seq (.block 1 (Zs [xS 28 4 24 26,lT 29 4 28,.alloc 6 2 [.emp 4,.emp 5,.emp 9,pz],sS 4 6 29] [4,6,24,25,26] (pr [mS 30 4,fS 31 6 2,lF 32 1 31,.call 33 [3] (.f N24) [.s 32],.app 34 1 9 88 (.s 30) (.s 33),mS 4 34] [4,24,25,26])))
(pr [bC 35 .add 26 1,mS 26 35] [4,24,25,26])))))))
(Zs [mS 36 4,mS 2 36] [2] .ret))))))
theorem Cgg(a:GArchive)(hs:a.size≤1073741824):Ctr Tryz.prog N7g [aS a.enc] [rL 9 ((Kv a).map GCapture.enc)]:=by
 refine cA M6o 4 37 [(.tmp 2,[true])] Tryz.func132 rfl rfl ?_;unfold M6o
 intro hb
 clear hb
 have hsd:a.Disk.size≤1073741824:=by simp only[GArchive.size]at hs;omega
 have hsz:a.Disk.Containers.length+(a.Disk.Containers.map GContainer.size).sum≤1073741824:=by simp only[GDisk.size]at hsd;omega
 have hsz2:=K83 (n:=a.Disk.Containers.length-1) hsz
 have hw1:(a.Disk.Containers.length:Int)>0→IntKind.i64.wrap ((a.Disk.Containers.length:Int)-1)=((a.Disk.Containers.length-1:Nat):Int):=fun h=>by rw[wI (by omega) (by omega)];omega
 simp only[go_sem]
 apply K0 (Cdl a.Disk hsd)
 simp only[go_sem]
 repeat' first
  |(refine And.intro ?_ ?_<;>intro h)
 ·rename_i hN
  have eL:(a.Disk.Containers.take (a.Disk.Containers.length-1)).length=a.Disk.Containers.length-1:=by rw[List.length_take];omega
  rw[hw1 h,cutA (by omega)]
  refine⟨⟨by omega,by omega,by omega⟩,?_⟩
  try simp only[go_sem,eL]
  refine K3 (a.Disk.Containers.take (a.Disk.Containers.length-1)) (fun k=>[(4,.val false [.ref 1 0 9 0 (K10 ((a.Disk.Containers.take (a.Disk.Containers.length-1)).take k)).length]),(26,vI k)]) (fun k=>[(1,⟨0,.row true 9 ((K10 ((a.Disk.Containers.take (a.Disk.Containers.length-1)).take k)).map GCapture.enc)⟩)]) (fun _=>True) (by simp only[roomB];omega) ?_
  simp only[go_sem]
  refine⟨?_,trivial,?_,?_⟩
  ·simp only[go_sem,List.take_zero]
   exact⟨rfl,rfl⟩
  ·intro k x hx _ h0 h1 hw
   have hq:=K3r hx
   have hq2:=K3s hx
   have hx3:a.Disk.Containers[k]? =some x:=at_take hx
   have hx2:(k:Int)<((a.Disk.Containers.length-1:Nat):Int):=by have:=K9 hx;rw[List.length_take]at this;omega
   have hx4:(k:Int)<a.Disk.Containers.length:=by have:=K9 hx3;omega
   simp only[go_sem,K1 hx,hx2,h0,h1]
   apply K0 (C14 x.Captures (by omega))
   by_cases hf:flat (x.Captures.map GCapture.enc)=true
   all_goals
    simp only[go_sem,hw,hf,K2o hx,List.length_append]
    simp only[roomB]
    exact⟨by omega,fun _=>by rw[List.map_append]⟩
  ·intro _
   simp only[go_sem,eL,Int.lt_irrefl,List.take_take,Nat.min_self]
   rw[Kv,K85 hN]
 ·rename_i hN
  have eL:True:=trivial
  have hC0:a.Disk.Containers=[]:=List.length_eq_zero_iff.1 (by omega)
  refine K3 (a.Disk.Containers) (fun k=>[(4,.val false [.ref 1 0 9 0 (K10 ((a.Disk.Containers).take k)).length]),(26,vI k)]) (fun k=>[(1,⟨0,.row true 9 ((K10 ((a.Disk.Containers).take k)).map GCapture.enc)⟩)]) (fun _=>True) (by simp only[roomB];omega) ?_
  simp only[go_sem]
  refine⟨?_,trivial,?_,?_⟩
  ·simp only[go_sem,List.take_zero]
   exact⟨rfl,rfl⟩
  ·intro k x hx _ h0 h1 hw
   have hq:=K3r hx
   have hq2:=K3s hx
   have hx3:a.Disk.Containers[k]? =some x:=hx
   have hx2:(k:Int)<(a.Disk.Containers.length:Int):=by have:=K9 hx;omega
   have hx4:(k:Int)<a.Disk.Containers.length:=by have:=K9 hx3;omega
   simp only[go_sem,K1 hx,hx2,h0]
   apply K0 (C14 x.Captures (by omega))
   by_cases hf:flat (x.Captures.map GCapture.enc)=true
   all_goals
    simp only[go_sem,hw,hf,K2o hx,List.length_append]
    simp only[roomB]
    exact⟨by omega,fun _=>by rw[List.map_append]⟩
  ·intro _
   simp only[go_sem,List.take_length,Int.lt_irrefl]
   rw[Kv,K85 hN,hC0]
   rfl
 ·have eL:True:=trivial
  refine K3 (a.Disk.Containers) (fun k=>[(4,.val false [.ref 1 0 9 0 (K10 ((a.Disk.Containers).take k)).length]),(26,vI k)]) (fun k=>[(1,⟨0,.row true 9 ((K10 ((a.Disk.Containers).take k)).map GCapture.enc)⟩)]) (fun _=>True) (by simp only[roomB];omega) ?_
  simp only[go_sem]
  refine⟨?_,trivial,?_,?_⟩
  ·simp only[go_sem,List.take_zero]
   exact⟨rfl,rfl⟩
  ·intro k x hx _ h0 h1 hw
   have hq:=K3r hx
   have hq2:=K3s hx
   have hx3:a.Disk.Containers[k]? =some x:=hx
   have hx2:(k:Int)<(a.Disk.Containers.length:Int):=by have:=K9 hx;omega
   have hx4:(k:Int)<a.Disk.Containers.length:=by have:=K9 hx3;omega
   simp only[go_sem,K1 hx,hx2,h0]
   apply K0 (C14 x.Captures (by omega))
   by_cases hf:flat (x.Captures.map GCapture.enc)=true
   all_goals
    simp only[go_sem,hw,hf,K2o hx,List.length_append]
    simp only[roomB]
    exact⟨by omega,fun _=>by rw[List.map_append]⟩
  ·intro _
   simp only[go_sem,List.take_length,Int.lt_irrefl]
   rw[Kv,Kc6 h]
def M77:MC:=
(Zs [.box 1 0 (.s 0),.nilo 2 1 9] [1] (Zs [fS 6 1 2,fS 7 6 0,lF 8 1 7,nS 9 8,mS 3 9] [1,3] (.seq (.seq (.reg [Za (fS 10 1 2),Za (lT 11 3 10),Za (.call 12 [] (.f N52) [.s 11]),Za (.un 13 .not (.s 12)),Za (mS 14 13),Zb 14 true (mS 15 3),Zb 14 true (bC 16 .gtr 15 0),Za (.pick 17 (.s 14) (.s 16) cF)] [1,3,17])
(.cond (.s 17) (pr [mS 18 3,bC 19 .sub 18 1,mS 3 19] [1,3]) .skip))
(Zs [.lit 20 1 9 88 [],mS 4 20] [1,3,4] (.seq (Zs [.mv 5 (ci 0)] [1,3,4,5] (.block 0 (.loop ([1,3,4,5],[2]) (.seq (Zs [mS 21 5,mS 22 3,bS 23 .lss 21 22] [1,3,4,5,23] (cX 23 0))
(.seq (.block 1 (pr [mS 26 4,fS 27 1 2,fS 28 27 0,lF 29 1 28,mS 30 5,xS 31 4 29 30,fS 32 31 2,lF 33 1 32,.call 34 [2] (.f N2k) [.s 33],.app 35 1 9 88 (.s 26) (.s 34),mS 4 35] [1,3,4,5]))
(pr [mS 24 5,bC 25 .add 24 1,mS 5 25] [1,3,4,5]))))))
(Zs [mS 36 4,mS 2 36] [2] .ret))))))
theorem Ch0(a:GArchive)(hs:a.size≤1073741824):Ctr Tryz.prog N7w [aS a.enc] [rL 9 ((Kv a).map GCapture.enc)]:=by
 refine cA M77 3 37 [(.tmp 2,[true])] Tryz.func101 rfl rfl ?_;unfold M77
 intro hb
 clear hb
 have hsd:a.Disk.size≤1073741824:=by simp only[GArchive.size]at hs;omega
 have hsz:a.Disk.Containers.length+(a.Disk.Containers.map GContainer.size).sum≤1073741824:=by simp only[GDisk.size]at hsd;omega
 have hsz2:=K83 (n:=a.Disk.Containers.length-1) hsz
 have hw1:(a.Disk.Containers.length:Int)>0→IntKind.i64.wrap ((a.Disk.Containers.length:Int)-1)=((a.Disk.Containers.length-1:Nat):Int):=fun h=>by rw[wI (by omega) (by omega)];omega
 simp only[go_sem]
 apply K0 (Ccf a.Disk hsd)
 simp only[go_sem]
 repeat' first
  |(refine And.intro ?_ ?_<;>intro h)
 ·rename_i hN
  have eL:(a.Disk.Containers.take (a.Disk.Containers.length-1)).length=a.Disk.Containers.length-1:=by rw[List.length_take];omega
  rw[hw1 h]
  refine K3 (a.Disk.Containers.take (a.Disk.Containers.length-1)) (fun k=>[(4,.val false [.ref 1 0 9 0 (K10 ((a.Disk.Containers.take (a.Disk.Containers.length-1)).take k)).length]),(5,vI k)]) (fun k=>[(1,⟨0,.row true 9 ((K10 ((a.Disk.Containers.take (a.Disk.Containers.length-1)).take k)).map GCapture.enc)⟩)]) (fun _=>True) (by simp only[roomB];omega) ?_
  simp only[go_sem]
  refine⟨?_,trivial,?_,?_⟩
  ·simp only[go_sem,List.take_zero]
   exact⟨rfl,rfl⟩
  ·intro k x hx _ h0 h1 hw
   have hq:=K3r hx
   have hq2:=K3s hx
   have hx3:a.Disk.Containers[k]? =some x:=at_take hx
   have hx2:(k:Int)<((a.Disk.Containers.length-1:Nat):Int):=by have:=K9 hx;rw[List.length_take]at this;omega
   have hx4:(k:Int)<a.Disk.Containers.length:=by have:=K9 hx3;omega
   simp only[go_sem,K1 hx3,hx2,hx4,h0]
   apply K0 (C1u x.Captures (by omega))
   by_cases hf:flat (x.Captures.map GCapture.enc)=true
   all_goals
    simp only[go_sem,hw,hf,K2o hx,List.length_append]
    simp only[roomB]
    exact⟨by omega,fun _=>by rw[List.map_append]⟩
  ·intro _
   simp only[go_sem,eL,Int.lt_irrefl,List.take_take,Nat.min_self]
   rw[Kv,K85 hN]
 ·rename_i hN
  have eL:True:=trivial
  have hC0:a.Disk.Containers=[]:=List.length_eq_zero_iff.1 (by omega)
  refine K3 (a.Disk.Containers) (fun k=>[(4,.val false [.ref 1 0 9 0 (K10 ((a.Disk.Containers).take k)).length]),(5,vI k)]) (fun k=>[(1,⟨0,.row true 9 ((K10 ((a.Disk.Containers).take k)).map GCapture.enc)⟩)]) (fun _=>True) (by simp only[roomB];omega) ?_
  simp only[go_sem]
  refine⟨?_,trivial,?_,?_⟩
  ·simp only[go_sem,List.take_zero]
   exact⟨rfl,rfl⟩
  ·intro k x hx _ h0 h1 hw
   have hq:=K3r hx
   have hq2:=K3s hx
   have hx3:a.Disk.Containers[k]? =some x:=hx
   have hx2:(k:Int)<(a.Disk.Containers.length:Int):=by have:=K9 hx;omega
   have hx4:(k:Int)<a.Disk.Containers.length:=by have:=K9 hx3;omega
   simp only[go_sem,K1 hx3,hx2,h0]
   apply K0 (C1u x.Captures (by omega))
   by_cases hf:flat (x.Captures.map GCapture.enc)=true
   all_goals
    simp only[go_sem,hw,hf,K2o hx,List.length_append]
    simp only[roomB]
    exact⟨by omega,fun _=>by rw[List.map_append]⟩
  ·intro _
   simp only[go_sem,List.take_length,Int.lt_irrefl]
   rw[Kv,K85 hN,hC0]
   rfl
 ·have eL:True:=trivial
  refine K3 (a.Disk.Containers) (fun k=>[(4,.val false [.ref 1 0 9 0 (K10 ((a.Disk.Containers).take k)).length]),(5,vI k)]) (fun k=>[(1,⟨0,.row true 9 ((K10 ((a.Disk.Containers).take k)).map GCapture.enc)⟩)]) (fun _=>True) (by simp only[roomB];omega) ?_
  simp only[go_sem]
  refine⟨?_,trivial,?_,?_⟩
  ·simp only[go_sem,List.take_zero]
   exact⟨rfl,rfl⟩
  ·intro k x hx _ h0 h1 hw
   have hq:=K3r hx
   have hq2:=K3s hx
   have hx3:a.Disk.Containers[k]? =some x:=hx
   have hx2:(k:Int)<(a.Disk.Containers.length:Int):=by have:=K9 hx;omega
   have hx4:(k:Int)<a.Disk.Containers.length:=by have:=K9 hx3;omega
   simp only[go_sem,K1 hx3,hx2,h0]
   apply K0 (C1u x.Captures (by omega))
   by_cases hf:flat (x.Captures.map GCapture.enc)=true
   all_goals
    simp only[go_sem,hw,hf,K2o hx,List.length_append]
    simp only[roomB]
    exact⟨by omega,fun _=>by rw[List.map_append]⟩
  ·intro _
   simp only[go_sem,List.take_length,Int.lt_irrefl]
   rw[Kv,Kc6 h]
theorem K5a(a:GArchive):(Kv a).length+((Kv a).map GCapture.size).sum≤a.size:=by
 have h:(Kv a).length+((Kv a).map GCapture.size).sum≤(a.Disk.Containers.map GContainer.size).sum:=by
  unfold Kv told
  split
  ·exact K5m
  ·rw[List.dropLast_eq_take]
   exact Nat.le_trans K5m (K2a _ _)
 simp only[GArchive.size,GDisk.size]
 omega
def seen(a:GArchive):List GCapture:=visible (Kv a) a.Exclusions a.Now
def served(a:GArchive):List GCapture:=(seen a).drop ((seen a).length-20)
theorem K7t(a:GArchive):(seen a).length+((seen a).map GCapture.size).sum≤a.size:=by
 have h:=K5a a
 have h1:=K4p (Kv a) a.Exclusions a.Now
 have h2:=K4v (p:=fun c=> !K35 c a.Exclusions a.Now) (f:=GCapture.size) (Kv a)
 unfold seen
 unfold visible at*
 omega
theorem Kcj{α:Type}{f:α→Nat}(l:List α)(k:Nat):((l.drop k).map f).sum≤(l.map f).sum:=by
 conv=>rhs;rw[←List.take_append_drop k l]
 rw[List.map_append,List.sum_append]
 omega
theorem K3k(a:GArchive):(served a).length+((served a).map GCapture.size).sum≤a.size:=by
 have h:=K7t a
 have h2:=Kcj (f:=GCapture.size) (seen a) ((seen a).length-20)
 unfold served
 rw[List.length_drop]
 omega
def M4d:MC:=
(Zs [.box 1 0 (.s 0),.nilo 2 1 9] [1] (.seq (.dreg [Zc [6,7,8,9] (lT 4 10 1),{o:= .call 5 [2] (.f N7g) [.s 4],hs:=[6,7,8,9],ws:=[2],bf:=[0]},Zf [4,5,8,9] [2] (fS 6 1 5),Zg [4,5,8,9] [2] [2] (lF 7 1 6),Zf [4,5,6,7] [2] (fS 8 1 9),Zg [4,5,6,7] [2] [4] (lF 9 1 8),{o:= .call 10 [1] (.f N47) [.s 5,.s 7,.s 9],ws:=[1],bf:=(.range 6)},Ze (.range 7) (mS 3 10)] [3])
(Zs [mS 11 3,mS 12 3,nS 13 12,bC 14 .sub 13 20,.mm 15 true (ci 0) (.s 14),.slc 16 9 (.s 11) (some (.s 15)) none none,mS 2 16] [2] .ret)))
theorem C4b(a:GArchive)(hs:a.size≤1073741824):Ctr Tryz.prog N2g [aS a.enc] [rL 9 ((served a).map GCapture.enc)]:=by
 refine cA M4d 3 17 [(.tmp 2,[true])] Tryz.func77 rfl rfl ?_;unfold M4d
 intro hb
 clear hb
 have hz:=K5a a
 have hz2:=K7t a
 have hw1:IntKind.i64.wrap (((seen a).length:Int)-20)=((seen a).length:Int)-20:=wI (by omega) (by omega)
 simp only[go_sem]
 apply K0 (Cgg a hs)
 simp only[go_sem]
 intros
 apply K0 (Cai (Kv a) a.Exclusions a.Now (by omega))
 simp only[go_sem]
 intros
 rw[show visible (Kv a) a.Exclusions a.Now=seen a from rfl,hw1]
 by_cases hc:(seen a).length≤20
 ·have e1:(((seen a).length:Int)-0).toNat=(seen a).length:=by omega
  rw[if_neg (by omega),e1,show Int.toNat 0=0 from rfl]
  simp only[go_sem]
  refine⟨⟨by omega,by omega⟩,?_⟩
  rw[served,show(seen a).length-20=0 by omega,List.drop_zero]
 ·obtain⟨m,hm⟩:∃m,(seen a).length=m+21:=⟨(seen a).length-21,by omega⟩
  have e2:(((seen a).length:Int)-20).toNat=m+1:=by omega
  have e3:(((seen a).length:Int)-(((seen a).length:Int)-20)).toNat=20:=by omega
  rw[if_pos (by omega),e2,e3]
  simp only[go_sem]
  refine⟨⟨by omega,by omega⟩,?_⟩
  refine⟨by omega,?_⟩
  rw[if_neg (by simp),served,show(seen a).length-20=m+1 by omega,←List.map_drop,List.take_of_length_le (by rw[List.length_map,List.length_drop];omega)]
def M4f:MC:=
(Zs [.box 1 0 (.s 0),.nilo 2 1 9] [1] (.seq (.dreg [Zc [6,7,8,9] (lT 4 10 1),{o:= .call 5 [2] (.f N7w) [.s 4],hs:=[6,7,8,9],ws:=[2],bf:=[0]},Zf [4,5,8,9] [2] (fS 6 1 5),Zg [4,5,8,9] [2] [2] (lF 7 1 6),Zf [4,5,6,7] [2] (fS 8 1 9),Zg [4,5,6,7] [2] [4] (lF 9 1 8),{o:= .call 10 [3] (.f N4a) [.s 5,.s 7,.s 9],ws:=[3],bf:=(.range 6)},Ze (.range 7) (mS 3 10)] [3])
(Zs [mS 11 3,mS 12 3,nS 13 12,bC 14 .sub 13 20,.call 15 [] (.f Nes) [.c (.int .i64 0),.s 14],.slc 16 9 (.s 11) (some (.s 15)) none none,.call 17 [1] (.f N2k) [.s 16],mS 2 17] [2] .ret)))
theorem C4c(a:GArchive)(hs:a.size≤1073741824):Ctr Tryz.prog N2j [aS a.enc] [rL 9 ((served a).map GCapture.enc)]:=by
 refine cA M4f 4 18 [(.tmp 2,[true])] Tryz.func52 rfl rfl ?_;unfold M4f
 intro hb
 clear hb
 have hz:=K5a a
 have hz2:=K7t a
 have hz3:=K3k a
 have hw1:IntKind.i64.wrap (((seen a).length:Int)-20)=((seen a).length:Int)-20:=wI (by omega) (by omega)
 simp only[go_sem]
 apply K0 (Ch0 a hs)
 simp only[go_sem]
 intros
 apply K0 (Caq (Kv a) a.Exclusions a.Now (by omega))
 simp only[go_sem]
 intros
 rw[show visible (Kv a) a.Exclusions a.Now=seen a from rfl,hw1]
 apply K0 (Cjb _ _)
 simp only[go_sem]
 have hm:(if ((seen a).length:Int)-20>0 then((seen a).length:Int)-20 else 0)=(((seen a).length-20:Nat):Int):=by split<;>omega
 rw[hm]
 simp only[Int.toNat_natCast]
 rw[cutB (by omega)]
 refine⟨by omega,by omega,?_⟩
 apply K0 (C1u (served a) (by omega))
 simp only[go_sem]
 try intros
 try trivial
end Go.Proofs.YtpeabgkoknjojaaGreatDoorR
namespace Go.Proofs.YtpeabgkoknjojaaGreatDoorR
open Go Go.RowKit Go.Proofs
open Nat (reduceEqDiff reduceLT reduceLeDiff reduceAdd reduceMul)
open List (reduceReplicate)
def K8t(cs:List GCapture)(l:List GExclusion)(now:Int):Int:=IntKind.i64.wrap ((cs.length:Int)-((visible cs l now).length:Int))
def M6s:MC:=
(Zs [.mv 6 (ci 0)] [0,1,2] (Zs [mS 7 0,nS 8 7,mS 9 0,mS 10 1,mS 11 2,.call 12 [0] (.f N47) [.s 9,.s 10,.s 11],nS 13 12,bS 14 .sub 8 13,mS 6 14] [6] .ret))
theorem Cgk(cs:List GCapture)(l:List GExclusion)(now:Int)(hs:cs.length+(cs.map GCapture.size).sum≤1073741824):Ctr Tryz.prog N7k [aL 9 (cs.map GCapture.enc),aL 5 (l.map GExclusion.enc),aI now] [rI (K8t cs l now)]:=by
 refine cA M6s 1 15 [(.tmp 6,[false])] Tryz.func76 rfl rfl ?_;unfold M6s
 intro hb
 clear hb
 simp only[go_sem]
 apply K0 (Cai _ _ _ hs)
 simp only[go_sem]
 intros
 rfl
def M7a:MC:=
(Zs [.mv 6 (ci 0)] [0,1,2] (Zs [mS 7 0,nS 8 7,mS 9 0,mS 10 1,mS 11 2,.call 12 [0] (.f N4a) [.s 9,.s 10,.s 11],nS 13 12,bS 14 .sub 8 13,mS 6 14] [6] .ret))
theorem Ch3(cs:List GCapture)(l:List GExclusion)(now:Int)(hs:cs.length+(cs.map GCapture.size).sum≤1073741824):Ctr Tryz.prog N7z [aL 9 (cs.map GCapture.enc),aL 5 (l.map GExclusion.enc),aI now] [rI (K8t cs l now)]:=by
 refine cA M7a 1 15 [(.tmp 6,[false])] Tryz.func51 rfl rfl ?_;unfold M7a
 intro hb
 clear hb
 simp only[go_sem]
 apply K0 (Caq _ _ _ hs)
 simp only[go_sem]
 intros
 rfl
end Go.Proofs.YtpeabgkoknjojaaGreatDoorR
namespace Go.Proofs.YtpeabgkoknjojaaGreatDoorR
open Go Go.RowKit Go.Proofs
open Nat (reduceEqDiff reduceLT reduceLeDiff reduceAdd reduceMul)
open List (reduceReplicate)
def Kn(t:Int)(a:GAddress):Bool:=decide (0≤t∧t≤2000)&&K11 a
def arch:List UInt8:=[97,114,99,104,105,118,101,47]
def Kk(t:Int)(a:GAddress):List UInt8:=if Kn t a=true then arch++Lib.itoa t++[47]++Kg a else []
theorem addrText_len'{a:GAddress}(h:K11 a=true):(Kg a).length≤20∧3≤(Kg a).length:=by
 obtain⟨x,y,z,rfl,hx,hy,hz⟩:=K8l h
 have l1:=K1v (n:=x) (by omega)
 have l2:=K1v (n:=y) (by omega)
 have l3:=K1v (n:=z) (by omega)
 have p1:=K2g x
 have p2:=K2g y
 have lT:(tailQ z).length≤5:=by unfold tailQ;split<;>simp<;>omega
 rw[K40 h]
 simp only[List.length_append,List.length_cons]
 omega
theorem K29{t:Int}{a:GAddress}(h:Kn t a=false):Kk t a=[]:=by unfold Kk;rw[h];rfl
theorem K4a{t:Int}{a:GAddress}(h:Kn t a=true):Kk t a=arch++Lib.itoa t++[47]++Kg a:=by unfold Kk;rw[if_pos h]
theorem K8h{t:Int}{a:GAddress}(h:Kn t a=true):∃n:Nat,t=n∧n≤2000∧K11 a=true:=by
 unfold Kn at h
 simp only[Bool.and_eq_true,decide_eq_true_eq]at h
 exact⟨t.toNat,(Int.toNat_of_nonneg h.1.1).symm,by omega,h.2⟩
theorem K5j{n:Nat}{a:GAddress}(h:Kn n a=true):Kk n a=arch++(Lib.decDigits n++47::Kg a):=by
 rw[K4a h,K6y]
 simp
def Y27(v0:Nat)(v1:Nat)(v2:Nat)(v3:Nat):MC:=
(Zs [.box 1 0 (.s 0),.mv 2 (.c (.string ⟨#[]⟩))] [1] (.seq (.seq (.reg [Za (fS 3 1 0),Za (lF 4 1 3),Za (.call 5 [] (.f v0) [.s 4,.c (.int .i64 0),.c (.int .i64 2000)]),Za (.un 6 .not (.s 5)),Za (mS 7 6),Zb 7 false (fS 8 1 1),Zb 7 false (lT 9 3 8),Zb 7 false (.call 10 [] (.f v1) [.s 9]),Zb 7 false (.un 11 .not (.s 10)),Za (.pick 12 (.s 7) cT (.s 11))] [1,12])
(.cond (.s 12) (Zs [.mv 2 (.c (.string ⟨#[]⟩))] [2] .ret) .skip))
(.seq (.dreg [Zc [18,19] (fS 13 1 0),Zd [18,19] [0] (lF 14 1 13),Zd [18,19] [0,1] (.call 15 [] (.f v2) [.s 14]),Zd [18,19,20] [0,1,2] (.bin 16 false .add (.c (.string ⟨#[97,114,99,104,105,118,101,47]⟩)) (.s 15)),Zd [18,19,20] (.range 4) (.bin 17 false .add (.s 16) (.c (.string ⟨#[47]⟩))),Zc [13,14,15,16,17] (fS 18 1 1),Zd [13,14,15,16,17] [5] (lT 19 3 18),Zd [16,17] [0,1,2,5,6] (.call 20 [] (.f v3) [.s 19]),Ze (.range 8) (bS 21 .add 17 20),Ze (.range 9) (mS 2 21)] [2])
.ret)))
attribute [go_sem] Y27
def Maw:MC:=Y27 N1 N18 N17 N36
theorem Cag(t:Int)(a:GAddress):Ctr Tryz.prog N46 [aS (GShown.enc ⟨t,a⟩)] [rStr (bs (Kk t a))]:=by
 refine cA Maw 1 22 [(.tmp 2,[false])] Tryz.func184 rfl rfl ?_;unfold Maw
 intro hb
 clear hb
 simp only[go_sem]
 apply K0 (C4 t 0 2000)
 simp only[go_sem]
 refine⟨fun h=>?_,fun h=>?_⟩
 ·try intros
  rw[K29 (by unfold Kn;rw[decide_eq_false (by omega)];rfl)]
 ·apply K0 (C15 a)
  simp only[go_sem]
  refine⟨fun h2=>?_,fun h2=>?_⟩
  ·try intros
   rw[K29 (by unfold Kn;rw[h2,Bool.and_false])]
  ·try intros
   have hl:=addrText_len' h2
   have hs:Kk t a=arch++Lib.itoa t++[47]++Kg a:=K4a (by unfold Kn;rw[h2,decide_eq_true (by omega)];rfl)
   have hi:=itoa_len' (n:=t) (by omega) (by omega)
   apply K0 (C1v t)
   simp only[go_sem]
   refine⟨by omega,by omega,?_⟩
   apply K0 (C6f a)
   simp only[go_sem,List.length_append,List.length_cons,List.length_nil]
   refine⟨by omega,fun _=>?_⟩
   rw[hs]
   simp[arch]
def Mbj:MC:=Y27 N0 Nz N19 N3b
theorem Cao(t:Int)(a:GAddress):Ctr Tryz.prog N49 [aS (GShown.enc ⟨t,a⟩)] [rStr (bs (Kk t a))]:=by
 refine cA Mbj 1 22 [(.tmp 2,[false])] Tryz.func155 rfl rfl ?_;unfold Mbj
 intro hb
 clear hb
 simp only[go_sem]
 apply K0 (C3 t 0 2000)
 simp only[go_sem]
 refine⟨fun h=>?_,fun h=>?_⟩
 ·try intros
  rw[K29 (by unfold Kn;rw[decide_eq_false (by omega)];rfl)]
 ·apply K0 (C16 a)
  simp only[go_sem]
  refine⟨fun h2=>?_,fun h2=>?_⟩
  ·try intros
   rw[K29 (by unfold Kn;rw[h2,Bool.and_false])]
  ·try intros
   have hl:=addrText_len' h2
   have hs:Kk t a=arch++Lib.itoa t++[47]++Kg a:=K4a (by unfold Kn;rw[h2,decide_eq_true (by omega)];rfl)
   have hi:=itoa_len' (n:=t) (by omega) (by omega)
   apply K0 (C1y t)
   simp only[go_sem]
   refine⟨by omega,by omega,?_⟩
   apply K0 (C6j a)
   simp only[go_sem,List.length_append,List.length_cons,List.length_nil]
   refine⟨by omega,fun _=>?_⟩
   rw[hs]
   simp[arch]
def K73(t:Int)(a:GAddress):GShown:=if Kn t a=true then⟨t,a⟩else⟨0,⟨0,0,0⟩⟩
theorem K8c(r:List UInt8):Lib.hasPrefix (arch++r) arch=true:=by
 unfold Lib.hasPrefix
 exact List.isPrefixOf_iff_prefix.2 (List.prefix_append _ _)
theorem trim_arch(r:List UInt8):Lib.trimPrefix (arch++r) arch=r:=by
 unfold Lib.trimPrefix
 rw[if_pos (K8c r),List.drop_left]
def M2d:MC:=
(Zs [.alloc 2 0 [pz,pz,pz,pz],.mv 3 cF] [0,2] (.seq (pr [mS 15 0,.call 16 [] (.f N2z) [.s 15,.c (.string ⟨#[97,114,99,104,105,118,101,47]⟩)],mS 14 16,.ext 17 (.s 14) 0,.ext 18 (.s 14) 1,mS 4 17,mS 5 18] [0,2,4])
(.seq (pr [mS 20 4,.call 21 [] (.f N26) [.s 20,.c (.string ⟨#[47]⟩)],mS 19 21,.ext 22 (.s 19) 0,.ext 23 (.s 19) 1,.ext 24 (.s 19) 2,mS 6 22,mS 7 23,mS 8 24] [0,2,6,7])
(Zs [mS 26 6,.call 27 [] (.f N1l) [.s 26],mS 25 27,.ext 28 (.s 25) 0,.ext 29 (.s 25) 1,mS 9 28,mS 10 29] [0,2,7,9] (Zs [mS 31 7,.call 32 [] (.f N2u) [.s 31],mS 30 32,.ext 33 (.s 30) 0,.ext 34 (.s 30) 1,.alloc 11 1 [pz,pz,pz],sS 3 11 33,mS 12 34] [0,2,9,11] (Zs [mS 35 9,lT 36 3 11,.build 37 [pz,pz,pz,pz] [(0,1,.s 35),(1,3,.s 36)],.alloc 13 2 [pz,pz,pz,pz],sS 4 13 37] [0,2,13] (.seq (.seq (.reg [Za (mS 38 0),Za (.bin 39 false .eql (.s 38) (.c (.string ⟨#[]⟩))),Za (mS 40 39),Zb 40 false (lT 41 4 13),Zb 40 false (.call 42 [] (.f N46) [.s 41]),Zb 40 false (mS 43 0),Zb 40 false (bS 44 .neq 42 43),Za (.pick 45 (.s 40) cT (.s 44))] [2,13,45])
(.cond (.s 45) (Zs [.build 46 [pz,pz,pz,pz] [],sS 4 2 46,.mv 3 cF] [2,3] .ret) .skip))
(Zs [lT 47 4 13,sS 4 2 47,.mv 3 cT] [2,3] .ret))))))))
set_option maxHeartbeats 1000000 in
theorem Chh(t:Int)(a:GAddress):Ctr Tryz.prog N9r [(false,[tS (bs (Kk t a))])] [rS (K73 t a).enc,rB (Kn t a)]:=by
 unfold K73
 cases ho:Kn t a with
 |false=>
  rw[K29 ho,if_neg (by decide)]
  refine cA M2d 3 48 [(.cell 2 true 4,[false,false,false,false]),(.tmp 3,[false])] Tryz.func135 rfl rfl ?_;unfold M2d
  intro hb
  clear hb
  simp only[go_sem]
  apply K0 (C59 [] [97,114,99,104,105,118,101,47] [] false rfl rfl (by decide))
  simp only[go_sem]
  try intros
  apply K0 (C2n [] 47 (by simp))
  simp only[go_sem]
  try intros
  apply K0 C1c
  simp only[go_sem]
  try intros
  apply K0 Cde
  simp only[go_sem]
  try intros
  try exact⟨rfl,rfl,rfl,rfl⟩
 |true=>
  obtain⟨n,rfl,hn,ha⟩:=K8h ho
  have hl:=addrText_len' ha
  have l1:=K1v (n:=n) (by omega)
  have hS:=Cag n a
  have hne:¬Kk n a=[]:=by rw[K5j ho];simp[arch]
  have hC:Ctr Tryz.prog N2z [(false,[tS (bs (Kk n a))]),(false,[tS (bs [97,114,99,104,105,118,101,47])])] [rStr (bs (Lib.decDigits n++47::Kg a)),rB true]:=by
   rw[K5j ho]
   exact C59 _ _ _ true (trim_arch _) (K8c _) (by rw[List.length_append,List.length_cons];omega)
  rw[if_pos rfl]
  generalize Kk n a=s at*
  refine cA M2d 3 48 [(.cell 2 true 4,[false,false,false,false]),(.tmp 3,[false])] Tryz.func135 rfl rfl ?_;unfold M2d
  intro hb
  clear hb
  simp only[go_sem]
  apply K0 hC
  simp only[go_sem]
  try intros
  apply K0 (C3i (Lib.decDigits n) (Kg a) 47 (K6a (by decide)) (by omega))
  simp only[go_sem]
  try intros
  apply K0 (C1i n (by omega))
  simp only[go_sem]
  try intros
  apply K0 (Cg3 a ha)
  simp only[go_sem,hne]
  try intros
  apply K0 hS
  simp only[go_sem]
  try trivial
end Go.Proofs.YtpeabgkoknjojaaGreatDoorR
namespace Go.Proofs.YtpeabgkoknjojaaGreatDoorR
open Go Go.RowKit Go.Proofs
open Nat (reduceEqDiff reduceLT reduceLeDiff reduceAdd reduceMul)
open List (reduceReplicate)
def M2e:MC:=
(Zs [.alloc 2 0 [pz,pz,pz,pz],.mv 3 cF] [0,2] (.seq (.seq (.reg [Za (mS 10 0),Za (.len 11 true (.s 10)),Za (bC 12 .lss 11 9),Za (mS 13 12),Zb 13 false (mS 14 0),Zb 13 false (.slcs 15 (.s 14) none (some (ci 8))),Zb 13 false (.bin 16 false .neq (.s 15) (.c (.string ⟨#[97,114,99,104,105,118,101,47]⟩))),Za (.pick 17 (.s 13) cT (.s 16))] [0,2,17])
(.cond (.s 17) (Zs [.build 18 [pz,pz,pz,pz] [],sS 4 2 18,.mv 3 cF] [2,3] .ret) .skip))
(Zs [.mv 4 (ci 8)] [0,2,4] (.seq (.block 0 (.loop ([0,2,4],[1,2]) (.seq (.seq (.reg [Za (mS 19 4),Za (mS 20 0),Za (.len 21 true (.s 20)),Za (bS 22 .lss 19 21),Za (mS 23 22),Zb 23 true (mS 24 0),Zb 23 true (mS 25 4),Zb 23 true (.idxs 26 (.s 24) (.s 25)),Zb 23 true (.bin 27 false .neq (.s 26) (.c (.int .u8 47))),Za (.pick 28 (.s 23) (.s 27) cF)] [0,2,4,28])
(cX 28 0))
(.block 1 (pr [mS 29 4,bC 30 .add 29 1,mS 4 30] [0,2,4])))))
(.seq (Zs [mS 31 4,mS 32 0,.len 33 true (.s 32),bS 34 .eql 31 33] [0,2,4,34] (.cond (.s 34) (Zs [.build 35 [pz,pz,pz,pz] [],sS 4 2 35,.mv 3 cF] [2,3] .ret) .skip))
(Zs [mS 37 0,mS 38 4,.slcs 39 (.s 37) (some (ci 8)) (some (.s 38)),.call 40 [] (.f N2b) [.s 39],mS 36 40,.ext 41 (.s 36) 0,.ext 42 (.s 36) 1,mS 5 41,mS 6 42] [0,2,4,5,6] (Zs [mS 44 0,mS 45 4,bC 46 .add 45 1,.slcs 47 (.s 44) (some (.s 46)) none,.call 48 [] (.f N68) [.s 47],mS 43 48,.ext 49 (.s 43) 0,.ext 50 (.s 43) 1,.alloc 7 1 [pz,pz,pz],sS 3 7 49,mS 8 50] [0,2,5,6,7,8] (Zs [mS 51 5,lT 52 3 7,.build 53 [pz,pz,pz,pz] [(0,1,.s 51),(1,3,.s 52)],.alloc 9 2 [pz,pz,pz,pz],sS 4 9 53] [0,2,6,8,9] (.seq (.seq (.reg [Za (mS 54 6),Za (.un 55 .not (.s 54)),Za (mS 56 55),Zb 56 false (mS 57 8),Zb 56 false (.un 58 .not (.s 57)),Za (.pick 59 (.s 56) cT (.s 58)),Za (mS 60 59),Zb 60 false (lT 61 4 9),Zb 60 false (.call 62 [] (.f N49) [.s 61]),Zb 60 false (mS 63 0),Zb 60 false (bS 64 .neq 62 63),Za (.pick 65 (.s 60) cT (.s 64))] [2,9,65])
(.cond (.s 65) (Zs [.build 66 [pz,pz,pz,pz] [],sS 4 2 66,.mv 3 cF] [2,3] .ret) .skip))
(Zs [lT 67 4 9,sS 4 2 67,.mv 3 cT] [2,3] .ret))))))))))
set_option maxHeartbeats 2000000 in
theorem Chy(t:Int)(a:GAddress):Ctr Tryz.prog Naa [(false,[tS (bs (Kk t a))])] [rS (K73 t a).enc,rB (Kn t a)]:=by
 unfold K73
 cases ho:Kn t a with
 |false=>
  rw[K29 ho,if_neg (by decide)]
  refine cA M2e 3 68 [(.cell 2 true 4,[false,false,false,false]),(.tmp 3,[false])] Tryz.func104 rfl rfl ?_;unfold M2e
  intro hb
  clear hb
  simp only[go_sem]
  intro h
  omega
 |true=>
  obtain⟨n,rfl,hn,ha⟩:=K8h ho
  have hl:=addrText_len' ha
  have l1:=K1v (n:=n) (by omega)
  have p1:=K2g n
  have hS:=Cao n a
  have hs:=K5j ho
  have hsl:(Kk n a).length=8+(Lib.decDigits n).length+1+(Kg a).length:=by
   rw[hs,List.length_append,List.length_append,List.length_cons]
   show 8+_=_
   omega
  have h8:(Kk n a).take 8=[97,114,99,104,105,118,101,47]:=by rw[hs];rfl
  have hat:∀k,8≤k→k<8+(Lib.decDigits n).length→∃b,(Kk n a)[k]? =some b∧¬(b.toNat:Int)=47:=fun k h1 h2=>by
   obtain⟨b,hb⟩:=K5 (l:=Lib.decDigits n) (k:=k-8) (by omega)
   have hd:=K3m n b (Ki hb)
   refine⟨b,?_,by omega⟩
   rw[hs,List.getElem?_append_right (by show 8≤k;omega),show arch.length=8 from rfl,List.getElem?_append_left (by omega),hb]
  have hsep:(Kk n a)[8+(Lib.decDigits n).length]? =some 47:=by
   rw[hs,List.getElem?_append_right (by show 8≤_;omega),show arch.length=8 from rfl,show 8+(Lib.decDigits n).length-8=(Lib.decDigits n).length by omega,List.getElem?_append_right (Nat.le_refl _),Nat.sub_self]
   rfl
  have hd1:((Kk n a).take (8+(Lib.decDigits n).length)).drop 8=Lib.decDigits n:=by
   rw[hs,List.take_append,List.drop_append,List.take_of_length_le (by show 8≤_;omega),show arch.length=8 from rfl,List.drop_eq_nil_of_le (by show 8≤8;omega),List.nil_append,show 8+(Lib.decDigits n).length-8=(Lib.decDigits n).length by omega,List.take_left]
   rfl
  have hd2:(Kk n a).drop (8+(Lib.decDigits n).length+1)=Kg a:=by
   rw[hs,←List.drop_drop,←List.drop_drop,show(arch++(Lib.decDigits n++47::Kg a)).drop 8=Lib.decDigits n++47::Kg a from List.drop_left (l₁:=arch),List.drop_left]
   rfl
  rw[if_pos rfl]
  generalize Kk n a=s at*
  clear hs
  refine cA M2e 3 68 [(.cell 2 true 4,[false,false,false,false]),(.tmp 3,[false])] Tryz.func104 rfl rfl ?_;unfold M2e
  intro hb
  clear hb
  have q1:¬(s.length:Int)<9:=by omega
  have t8:Int.toNat 8=8:=rfl
  simp only[go_sem,q1,t8,h8]
  refine⟨by omega,?_⟩
  refine Kq (fun k:Nat=>[(4,vI k)]) (fun k=>[]) (fun k=>8≤k∧k≤8+(Lib.decDigits n).length) (fun k=>8+(Lib.decDigits n).length-k) 8 ?_
  simp only[go_sem]
  refine⟨?_,⟨by omega,by omega⟩,?_⟩
  ·simp only[go_sem]
   try rfl
  ·rintro k ⟨hk1,hk2⟩
   by_cases hkl:k<8+(Lib.decDigits n).length
   ·obtain⟨b,hb,hb2⟩:=hat k hk1 hkl
    have h1:(k:Int)<(s.length:Int):=by omega
    have h0:(0:Int)≤(k:Int):=by omega
    simp only[go_sem,h1,h0,K1 hb,Int.toNat_natCast,hb2]
    refine⟨k+1,by rw[wI (by omega) (by omega)];omega,⟨by omega,by omega⟩,by omega⟩
   ·have e:k=8+(Lib.decDigits n).length:=by omega
    have h1:(k:Int)<(s.length:Int):=by omega
    have h0:(0:Int)≤(k:Int):=by omega
    have hb:=hsep
    rw[←e]at hb hd1 hd2
    have e47:((47:UInt8).toNat:Int)=47:=rfl
    have n2:¬(k:Int)=(s.length:Int):=by omega
    have hw:IntKind.i64.wrap ((k:Int)+1)=((k+1:Nat):Int):=by rw[wI (by omega) (by omega)];omega
    simp only[go_sem,h1,h0,K1 hb,Int.toNat_natCast,e47,n2,t8,hd1]
    refine⟨⟨by omega,by omega,by omega⟩,?_⟩
    apply K0 (C32 n (by omega))
    simp only[go_sem,hw,Int.toNat_natCast,List.take_length,hd2]
    try intro _
    refine⟨⟨by omega,by omega,by omega⟩,?_⟩
    apply K0 (Cge a ha)
    simp only[go_sem]
    try intros
    apply K0 hS
    simp only[go_sem]
    try trivial
def K31(r:GResource)(t:Int):List UInt8:=if K14 r=true∧r.Kind=3 then Kk t r.To else []
def Y28(v0:Nat)(v1:Nat):MC:=
(Zs [.box 2 0 (.s 0),.mv 4 (.c (.string ⟨#[]⟩))] [1,2] (.seq (.seq (.reg [Za (lT 5 5 2),Za (.call 6 [] (.f v0) [.s 5]),Za (.un 7 .not (.s 6)),Za (mS 8 7),Zb 8 false (fS 9 2 0),Zb 8 false (lF 10 1 9),Zb 8 false (bC 11 .neq 10 3),Za (.pick 12 (.s 8) cT (.s 11))] [1,2,12])
(.cond (.s 12) (Zs [.mv 4 (.c (.string ⟨#[]⟩))] [4] .ret) .skip))
(Zs [mS 13 1,fS 14 2 2,lT 15 3 14,.build 16 [pz,pz,pz,pz] [(0,1,.s 13),(1,3,.s 15)],.call 17 [] (.f v1) [.s 16],mS 4 17] [4] .ret)))
attribute [go_sem] Y28
def Mcl:MC:=Y28 N3l N46
theorem Cj3(r:GResource)(t:Int):Ctr Tryz.prog Nd3 [aS r.enc,aI t] [rStr (bs (K31 r t))]:=by
 refine cA Mcl 1 18 [(.tmp 4,[false])] Tryz.func136 rfl rfl ?_;unfold Mcl
 intro hb
 clear hb
 simp only[go_sem]
 apply K0 (C3g r)
 simp only[go_sem]
 refine⟨fun h=>?_,fun h=>⟨fun h2=>?_,fun h2=>?_⟩⟩
 ·try intros
  unfold K31
  rw[h]
  rfl
 ·try intros
  unfold K31
  rw[if_neg (fun e=>h2 e.2)]
 ·apply K0 (Cag t r.To)
  simp only[go_sem]
  try intros
  unfold K31
  rw[if_pos ⟨h,by simpa using h2⟩]
def Mcw:MC:=Y28 N2f N49
theorem Cjd(r:GResource)(t:Int):Ctr Tryz.prog Ndc [aS r.enc,aI t] [rStr (bs (K31 r t))]:=by
 refine cA Mcw 1 18 [(.tmp 4,[false])] Tryz.func105 rfl rfl ?_;unfold Mcw
 intro hb
 clear hb
 simp only[go_sem]
 apply K0 (C3h r)
 simp only[go_sem]
 refine⟨fun h=>?_,fun h=>⟨fun h2=>?_,fun h2=>?_⟩⟩
 ·try intros
  unfold K31
  rw[h]
  rfl
 ·try intros
  unfold K31
  rw[if_neg (fun e=>h2 e.2)]
 ·apply K0 (Cao t r.To)
  simp only[go_sem]
  try intros
  unfold K31
  rw[if_pos ⟨h,by simpa using h2⟩]
def K9h(c:GCapture):Int×GAddress:=(if K14 c.Resource=true then c.Tick else -1,c.Resource.To)
def K53(p:Int×GAddress):List UInt8:=Kk p.1 p.2
def K4k(p:Int×GAddress):List T:=[tS (bs (K53 p))]
def isMove(c:GCapture):Bool:=decide (c.Resource.Kind=3)
theorem lk_move{c:GCapture}(h:c.Resource.Kind=3):K31 c.Resource c.Tick=K53 (K9h c):=by
 unfold K31 K53 K9h
 by_cases e:K14 c.Resource=true
 ·rw[if_pos ⟨e,h⟩,if_pos e]
 ·rw[if_neg (fun x=>e x.1),if_neg e,K29 (by rfl)]
def linksF(l:List GCapture):List (Int×GAddress):=(l.filter isMove).map K9h
theorem K9j{l:List GCapture}{k:Nat}{c:GCapture}(h:l[k]? =some c)(hm:c.Resource.Kind=3):linksF (l.take (k+1))=linksF (l.take k)++[K9h c]:=by
 unfold linksF
 rw[K8 h,List.filter_append,List.filter_cons,if_pos (by unfold isMove;exact decide_eq_true hm),List.filter_nil,List.map_append]
 rfl
theorem Kao{l:List GCapture}{k:Nat}{c:GCapture}(h:l[k]? =some c)(hm:¬c.Resource.Kind=3):linksF (l.take (k+1))=linksF (l.take k):=by
 unfold linksF
 rw[K8 h,List.filter_append,List.filter_cons,if_neg (by unfold isMove;simp[hm]),List.filter_nil,List.append_nil]
theorem K9i(l:List GCapture):(linksF l).length≤l.length:=by
 unfold linksF
 rw[List.length_map]
 exact List.length_filter_le _ _
def K4g(a:GArchive):List (Int×GAddress):=linksF (served a)
theorem bs_nil{l:List UInt8}:bs l=bs []↔l=[]:=by
 constructor
 ·intro h
  have:=congrArg ByteArray.size h
  rw[K67,K67]at this
  exact List.length_eq_zero_iff.1 (by simpa using this)
 ·rintro rfl;rfl
theorem Kbo(x:Int×GAddress):decide (bs (K53 x)=bs [])= !Kn x.1 x.2:=by
 unfold K53
 cases h:Kn x.1 x.2 with
 |false=>rw[K29 h];simp
 |true=>
  rw[decide_eq_false]
  ·rfl
  ·rw[bs_nil,K4a h]
   simp[arch]
theorem Cam(xs:List (Int×GAddress))(f:FuncId)(hp:∀x,x∈xs→Ctr Tryz.prog f [(false,[tS (bs (K53 x))])] [rB (!Kn x.1 x.2)]):Ctr Tryz.prog Np [aL 1 (xs.map K4k),(false,[.fn f []])] [rB (xs.any fun x=> !Kn x.1 x.2)]:=by
 have h:=Caf (xs.map fun x=>bs (K53 x)) f [] (fun s=>decide (s=bs [])) (fun s hs=>by
  obtain⟨x,hx,rfl⟩:=List.mem_map.1 hs
  have:=hp x hx
  rw[←Kbo x]at this
  exact this)
 rw[List.map_map,List.any_map]at h
 rw[show(fun x:Int×GAddress=> !Kn x.1 x.2)=((fun s=>decide (s=bs [])) ∘ fun x=>bs (K53 x))from funext fun x=>(Kbo x).symm]
 exact h
def M4n:MC:=
(Zs [.mv 2 cF] [0] (Zs [mS 6 0,.call 7 [] (.f N9r) [.s 6],mS 5 7,.ext 8 (.s 5) 0,.ext 9 (.s 5) 1,.alloc 3 0 [pz,pz,pz,pz],sS 4 3 8,mS 4 9] [4] (Zs [mS 10 4,.un 11 .not (.s 10),mS 2 11] [2] .ret)))
theorem Cel(x:Int×GAddress):Ctr Tryz.prog N4x [(false,[tS (bs (K53 x))])] [rB (!Kn x.1 x.2)]:=by
 refine cA M4n 1 12 [(.tmp 2,[false])] Tryz.func134 rfl rfl ?_;unfold M4n
 intro hb
 clear hb
 simp only[go_sem]
 apply K0 (Chh x.1 x.2)
 simp only[go_sem]
 try intros
 try rfl
def insideL(xs:List (Int×GAddress)):Bool:= !(xs.any fun x=> !Kn x.1 x.2)
def M6x:MC:=
(Zs [.mv 2 cF] [0] (Zs [mS 3 0,.call 4 [] (.f Np) [.s 3,.f N4x],.un 5 .not (.s 4),mS 2 5] [2] .ret))
theorem Cgn(xs:List (Int×GAddress)):Ctr Tryz.prog N7n [aL 1 (xs.map K4k)] [rB (insideL xs)]:=by
 refine cA M6x 0 6 [(.tmp 2,[false])] Tryz.func78 rfl rfl ?_;unfold M6x
 intro hb
 clear hb
 simp only[go_sem]
 apply K0 (Cam xs _ fun x _=>Cel x)
 simp only[go_sem]
 try intros
 try rfl
def M7e:MC:=
(Zs [.mv 2 cF] [0] (.seq (Zs [.mv 3 (ci 0)] [0,3] (.block 0 (.loop ([0,3],[0]) (.seq (Zs [mS 6 3,mS 7 0,nS 8 7,bS 9 .lss 6 8] [0,3,9] (cX 9 0))
(.seq (.block 1 (Zs [mS 13 0,mS 14 3,xS 15 1 13 14,lF 16 1 15,.call 17 [] (.f Naa) [.s 16],mS 12 17,.ext 18 (.s 12) 0,.ext 19 (.s 12) 1,.alloc 4 0 [pz,pz,pz,pz],sS 4 4 18,mS 5 19] [0,3,5] (Zs [mS 20 5,.un 21 .not (.s 20)] [0,3,21] (.cond (.s 21) (Zs [.mv 2 cF] [2] .ret) .skip))))
(pr [mS 10 3,bC 11 .add 10 1,mS 3 11] [0,3]))))))
(Zs [.mv 2 cT] [2] .ret)))
theorem Ch4(xs:List (Int×GAddress)):Ctr Tryz.prog N80 [aL 1 (xs.map K4k)] [rB (insideL xs)]:=by
 refine cA M7e 1 22 [(.tmp 2,[false])] Tryz.func53 rfl rfl ?_;unfold M7e
 intro hb
 simp only[bdA,bdL,bdT,K7,roomB,and_true,List.length_map]at hb
 obtain⟨hl,-⟩:=hb
 simp only[go_sem]
 refine K3 xs (fun k=>[(3,vI k)]) (fun k=>[]) (fun k=>((xs.take k).any fun x=> !Kn x.1 x.2)=false) hl ?_
 simp only[go_sem]
 refine⟨?_,by simp,?_,?_⟩
 ·simp only[go_sem]
  try trivial
 ·intro k x hx h h0 h1 hw
  simp only[go_sem,K1 hx,h0,h1,K4k]
  apply K0 (Chy x.1 x.2)
  simp only[go_sem,hw]
  intros
  refine⟨fun hn=>?_,fun hn=>K1k hx h (by simp[hn])⟩
  unfold insideL
  rw[List.any_eq_true.2 ⟨x,Ki hx,by simp[hn]⟩]
  rfl
 ·intro h
  rw[List.take_length]at h
  simp only[go_sem]
  unfold insideL
  rw[h]
  rfl
end Go.Proofs.YtpeabgkoknjojaaGreatDoorR
namespace Go.Proofs.YtpeabgkoknjojaaGreatDoorR
open Go Go.RowKit Go.Proofs
open Nat (reduceEqDiff reduceLT reduceLeDiff reduceAdd reduceMul)
open List (reduceReplicate)
def M8w:MC:=
(Zs [.box 1 0 (.s 0),.nilo 2 1 1] [1] (Zs [.nilo 3 1 1] [1,3] (.seq (Zs [lT 6 10 1,.call 7 [2] (.f N2g) [.s 6],nS 8 7,.mv 9 (ci 0)] [3,7,8,9] (.block 0 (.loop ([3,7,8,9],[0,3,4]) (Zs [bS 10 .lss 9 8] [3,7,8,9,10] (.seq (cX 10 0)
(.seq (.block 1 (Zs [xS 11 9 7 9,lT 12 9 11,.alloc 5 3 [pz,pz,pz,pz,pz,.emp 1,pz,pz,pz],sS 9 5 12] [3,5,7,8,9] (Zs [fS 13 5 4,fS 14 13 0,lF 15 1 14,bC 16 .eql 15 3] [3,5,7,8,9,16] (.cond (.s 16) (pr [mS 17 3,fS 18 5 4,lT 19 5 18,fS 20 5 3,lF 21 1 20,.call 22 [] (.f Nd3) [.s 19,.s 21],.lit 23 4 1 16 [.s 22],.app 24 1 1 16 (.s 17) (.s 23),mS 3 24] [3,7,8,9]) .skip))))
(pr [bC 25 .add 9 1,mS 9 25] [3,7,8,9])))))))
(Zs [mS 26 3,mS 2 26] [2] .ret))))
set_option maxHeartbeats 1000000 in
theorem Chj(a:GArchive)(hs:a.size≤1073741824):Ctr Tryz.prog N9t [aS a.enc] [rL 1 ((K4g a).map K4k)]:=by
 refine cA M8w 5 27 [(.tmp 2,[true])] Tryz.func79 rfl rfl ?_;unfold M8w
 intro hb
 clear hb
 have hz:=K3k a
 unfold K4g
 simp only[go_sem]
 apply K0 (C4b a hs)
 simp only[go_sem]
 intros
 refine K3 (served a) (fun k=>[(3,.val false [.ref 1 0 1 0 (linksF ((served a).take k)).length]),(9,vI k)]) (fun k=>[(1,⟨0,.row true 1 ((linksF ((served a).take k)).map K4k)⟩)]) (fun _=>True) (by simp only[roomB];omega) ?_
 simp only[go_sem]
 refine⟨?_,trivial,?_,?_⟩
 ·simp only[go_sem,List.take_zero]
  try exact⟨rfl,rfl⟩
 ·intro k c hx _ h0 h1 hw
  have hk:=K9 hx
  have hln:=K9i ((served a).take k)
  have hlt:=List.length_take_le k (served a)
  simp only[go_sem,K1 hx,h0,h1,hw]
  refine⟨fun hm=>?_,fun hm=>?_⟩
  ·apply K0 (Cj3 c.Resource c.Tick)
   rw[K9j hx hm,lk_move hm]
   simp only[go_sem,hw]
   exact⟨by decide,by simp only[roomB];omega,fun _=>⟨by simp,by simp[K4k]⟩⟩
  ·rw[Kao hx hm]
   try trivial
 ·intro _
  simp only[go_sem,List.take_length]
def M9i:MC:=
(Zs [.box 1 0 (.s 0),.nilo 2 1 1] [1] (Zs [.lit 6 1 1 16 [],mS 3 6] [1,3] (Zs [lT 7 10 1,.call 8 [2] (.f N2j) [.s 7],mS 4 8] [3,4] (.seq (Zs [.mv 5 (ci 0)] [3,4,5] (.block 0 (.loop ([3,4,5],[0,3]) (.seq (Zs [mS 9 5,mS 10 4,nS 11 10,bS 12 .lss 9 11] [3,4,5,12] (cX 12 0))
(.seq (.block 1 (Zs [mS 15 4,mS 16 5,xS 17 9 15 16,fS 18 17 4,fS 19 18 0,lF 20 1 19,bC 21 .eql 20 3] [3,4,5,21] (.cond (.s 21) (.dreg [Zf [23,24,25,26,27,28,29,30,31,32,33,34] [3] (mS 22 3),Zc [22,24,28,29,30,31,32] (mS 23 4),Zc [22,23,28,29,30,31,32] (mS 24 5),Zd [22,28,29,30,31,32] [1,2] (xS 25 9 23 24),Zd [22,28,29,30,31,32] [1,2,3] (fS 26 25 4),Zd [22,28,29,30,31,32] [1,2,3,4] (lT 27 5 26),Zc [22,23,24,25,26,27,29] (mS 28 4),Zc [22,23,24,25,26,27,28] (mS 29 5),Zd [22,23,24,25,26,27] [6,7] (xS 30 9 28 29),Zd [22,23,24,25,26,27] [6,7,8] (fS 31 30 3),Zd [22,23,24,25,26,27] [6,7,8,9] (lF 32 1 31),Zd [22] [1,2,3,4,5,6,7,8,9,10] (.call 33 [] (.f Ndc) [.s 27,.s 32]),{o:= .lit 34 3 1 16 [.s 33],hs:=[22],ws:=[3],bf:=[1,2,3,4,5,6,7,8,9,10,11]},{o:= .app 35 1 1 16 (.s 22) (.s 34),ws:=[1],bf:=(.range 13)},Ze (.range 14) (mS 3 35)] [3,4,5]) .skip)))
(pr [mS 13 5,bC 14 .add 13 1,mS 5 14] [3,4,5]))))))
(Zs [mS 36 3,mS 2 36] [2] .ret)))))
set_option maxHeartbeats 1000000 in
theorem Ci0(a:GArchive)(hs:a.size≤1073741824):Ctr Tryz.prog Nac [aS a.enc] [rL 1 ((K4g a).map K4k)]:=by
 refine cA M9i 4 37 [(.tmp 2,[true])] Tryz.func54 rfl rfl ?_;unfold M9i
 intro hb
 clear hb
 have hz:=K3k a
 unfold K4g
 simp only[go_sem]
 apply K0 (C4c a hs)
 simp only[go_sem]
 intros
 refine K3 (served a) (fun k=>[(3,.val false [.ref 1 0 1 0 (linksF ((served a).take k)).length]),(5,vI k)]) (fun k=>[(1,⟨0,.row true 1 ((linksF ((served a).take k)).map K4k)⟩)]) (fun _=>True) (by simp only[roomB];omega) ?_
 simp only[go_sem]
 refine⟨?_,trivial,?_,?_⟩
 ·simp only[go_sem,List.take_zero]
  try exact⟨rfl,rfl⟩
 ·intro k c hx _ h0 h1 hw
  have hk:=K9 hx
  have hln:=K9i ((served a).take k)
  have hlt:=List.length_take_le k (served a)
  simp only[go_sem,K1 hx,h0,h1,hw]
  refine⟨fun hm=>?_,fun hm=>?_⟩
  ·try simp only[go_sem,K1 hx,h0,h1,hw]
   apply K0 (Cjd c.Resource c.Tick)
   rw[K9j hx hm,lk_move hm]
   simp only[go_sem,hw]
   exact⟨by decide,by simp only[roomB];omega,fun _=>⟨by simp,by simp[K4k]⟩⟩
  ·rw[Kao hx hm]
   try trivial
 ·intro _
  simp only[go_sem,List.take_length]
def honoured(a:GArchive):Bool:=decide (K8t (served a) a.Exclusions a.Now=0)&&insideL (K4g a)
def Y29(v0:Nat)(v1:Nat)(v2:Nat)(v3:Nat):MC:=
(Zs [.box 1 0 (.s 0),.mv 2 cF] [1] (.seq (.dreg [Zc [5,6,7,8] (lT 3 10 1),{o:= .call 4 [1] (.f v0) [.s 3],hs:=[5,6,7,8],ws:=[1],bf:=[0]},Zf [3,4,7,8] [1] (fS 5 1 5),Zg [3,4,7,8] [1] [2] (lF 6 1 5),Zf [3,4,5,6] [1] (fS 7 1 9),Zg [3,4,5,6] [1] [4] (lF 8 1 7),Ze (.range 6) (.call 9 [] (.f v1) [.s 4,.s 6,.s 8]),Ze (.range 7) (bC 10 .eql 9 0),Ze (.range 8) (mS 11 10),{o:=lT 12 10 1,g:=some (11,true),bf:=(.range 9)},{o:= .call 13 [2] (.f v2) [.s 12],g:=some (11,true),ws:=[2],bf:=(.range 10)},{o:= .call 14 [] (.f v3) [.s 13],g:=some (11,true),bf:=(.range 11)},Ze (.range 12) (.pick 15 (.s 11) (.s 14) cF),Ze (.range 13) (mS 2 15)] [2])
.ret))
attribute [go_sem] Y29
def M8p:MC:=Y29 N2g N7k N9t N7n
theorem Chd(a:GArchive)(hs:a.size≤1073741824):Ctr Tryz.prog N9n [aS a.enc] [rB (honoured a)]:=by
 refine cA M8p 3 16 [(.tmp 2,[false])] Tryz.func30 rfl rfl ?_;unfold M8p
 intro hb
 clear hb
 have hz:=K3k a
 simp only[go_sem]
 apply K0 (C4b a hs)
 simp only[go_sem]
 try intros
 apply K0 (Cgk (served a) a.Exclusions a.Now (by omega))
 simp only[go_sem]
 unfold honoured
 refine⟨fun h=>?_,fun h=>?_⟩
 ·rw[decide_eq_true h,Bool.true_and]
  apply K0 (Chj a hs)
  simp only[go_sem]
  try intros
  apply K0 (Cgn (K4g a))
  simp only[go_sem]
  try intros
  try trivial
 ·try intros
  rw[decide_eq_false h,Bool.false_and]
def M9d:MC:=Y29 N2j N7z Nac N80
theorem Chw(a:GArchive)(hs:a.size≤1073741824):Ctr Tryz.prog Na8 [aS a.enc] [rB (honoured a)]:=by
 refine cA M9d 3 16 [(.tmp 2,[false])] Tryz.func19 rfl rfl ?_;unfold M9d
 intro hb
 clear hb
 have hz:=K3k a
 simp only[go_sem]
 apply K0 (C4c a hs)
 simp only[go_sem]
 try intros
 apply K0 (Ch3 (served a) a.Exclusions a.Now (by omega))
 simp only[go_sem]
 unfold honoured
 refine⟨fun h=>?_,fun h=>?_⟩
 ·rw[decide_eq_true h,Bool.true_and]
  apply K0 (Ci0 a hs)
  simp only[go_sem]
  try intros
  apply K0 (Ch4 (K4g a))
  simp only[go_sem]
  try intros
  try trivial
 ·try intros
  rw[decide_eq_false h,Bool.false_and]
end Go.Proofs.YtpeabgkoknjojaaGreatDoorR
namespace Go.Proofs
open Go.Shelf
def Tryz.lays189_ren:Go.Shelf.Ren:=⟨fun|189=>129|125=>175|257=>174|128=>226|129=>227|294=>217|295=>218|296=>219|297=>220|298=>221|299=>222|216=>223|300=>224|301=>225|328=>258|329=>259|330=>260|331=>261|332=>262|215=>208|343=>274|n=>n,fun|28=>30|3=>3|46=>216|0=>0|51=>256|53=>258|4=>4|183=>251|182=>250|131=>200|5=>5|9=>9|218=>277|222=>281|228=>289|229=>290|n=>n,fun|n=>n⟩
theorem Tryz.lays189:Go.Proofs.Lays.n189 Tryz.prog Tryz.lays189_ren:={
 mixed:=by kernel_rfl
 f125:=Tryz.func175.trans (congrArg some (by kernel_rfl))
 f128:=Tryz.func226.trans (congrArg some (by kernel_rfl))
 f129:=Tryz.func227.trans (congrArg some (by kernel_rfl))
 f189:=Tryz.func129.trans (congrArg some (by kernel_rfl))
 f215:=Tryz.func208.trans (congrArg some (by kernel_rfl))
 f216:=Tryz.func223.trans (congrArg some (by kernel_rfl))
 f257:=Tryz.func174.trans (congrArg some (by kernel_rfl))
 f294:=Tryz.func217.trans (congrArg some (by kernel_rfl))
 f295:=Tryz.func218.trans (congrArg some (by kernel_rfl))
 f296:=Tryz.func219.trans (congrArg some (by kernel_rfl))
 f297:=Tryz.func220.trans (congrArg some (by kernel_rfl))
 f298:=Tryz.func221.trans (congrArg some (by kernel_rfl))
 f299:=Tryz.func222.trans (congrArg some (by kernel_rfl))
 f300:=Tryz.func224.trans (congrArg some (by kernel_rfl))
 f301:=Tryz.func225.trans (congrArg some (by kernel_rfl))
 f328:=Tryz.func258.trans (congrArg some (by kernel_rfl))
 f329:=Tryz.func259.trans (congrArg some (by kernel_rfl))
 f330:=Tryz.func260.trans (congrArg some (by kernel_rfl))
 f331:=Tryz.func261.trans (congrArg some (by kernel_rfl))
 f332:=Tryz.func262.trans (congrArg some (by kernel_rfl))
 f343:=Tryz.func274.trans (congrArg some (by kernel_rfl))
 t0:=Tryz.underlying0
 a0:=Tryz.isAgg0
 z0:=Tryz.sizeOf0
 v0:=Tryz.zeroValue0
 t3:=Tryz.underlying3
 a3:=Tryz.isAgg3
 z3:=Tryz.sizeOf3
 v3:=Tryz.zeroValue3
 t4:=Tryz.underlying4
 a4:=Tryz.isAgg4
 z4:=Tryz.sizeOf4
 v4:=Tryz.zeroValue4
 t5:=Tryz.underlying5
 a5:=Tryz.isAgg5
 z5:=Tryz.sizeOf5
 v5:=Tryz.zeroValue5
 t9:=Tryz.underlying9
 a9:=Tryz.isAgg9
 z9:=Tryz.sizeOf9
 v9:=Tryz.zeroValue9
 t28:=Tryz.underlying30
 a28:=Tryz.isAgg30
 z28:=Tryz.sizeOf30
 v28:=Tryz.zeroValue30
 t46:=Tryz.underlying216
 a46:=Tryz.isAgg216
 z46:=Tryz.sizeOf216
 v46:=Tryz.zeroValue216
 t51:=Tryz.underlying256
 a51:=Tryz.isAgg256
 z51:=Tryz.sizeOf256
 v51:=Tryz.zeroValue256
 t53:=Tryz.underlying258
 a53:=Tryz.isAgg258
 z53:=Tryz.sizeOf258
 v53:=Tryz.zeroValue258
 t131:=Tryz.underlying200
 a131:=Tryz.isAgg200
 z131:=Tryz.sizeOf200
 v131:=Tryz.zeroValue200
 t182:=Tryz.underlying250
 a182:=Tryz.isAgg250
 z182:=Tryz.sizeOf250
 v182:=Tryz.zeroValue250
 t183:=Tryz.underlying251
 a183:=Tryz.isAgg251
 z183:=Tryz.sizeOf251
 v183:=Tryz.zeroValue251
 t218:=Tryz.underlying277
 a218:=Tryz.isAgg277
 z218:=Tryz.sizeOf277
 v218:=Tryz.zeroValue277
 t222:=Tryz.underlying281
 a222:=Tryz.isAgg281
 z222:=Tryz.sizeOf281
 v222:=Tryz.zeroValue281
 t228:=Tryz.underlying289
 a228:=Tryz.isAgg289
 z228:=Tryz.sizeOf289
 v228:=Tryz.zeroValue289
 t229:=Tryz.underlying290
 a229:=Tryz.isAgg290
 z229:=Tryz.sizeOf290
 v229:=Tryz.zeroValue290}
open Go.Sort Go.RowKit in
theorem Tryz.slices_Sort_int(blk off cap:Nat)(zs:List Int)(w:World)(hH:Holds (Value.int .i64) w blk off zs.toArray)(hblk:blk<w.heap.size)(hsz:zs.length<4611686018427387904):
  Calls Tryz.prog 129 #[.slice (some ⟨blk,off,none⟩) zs.length cap] w fun e w'=>
   e= .returned (.tuple #[])∧∃n os,w'=grow (putRow (Value.int .i64) (Sort.ahead w n) blk off (zs.mergeSort fun x y=>decide (x≤y)).toArray) os:=Any.slices_Sort_int Tryz.lays189 blk off cap zs w hH hblk hsz
def Tryz.laysNm220_ren:Go.Shelf.Ren:=⟨fun|20=>210|n=>n,fun|22=>30|3=>3|4=>4|0=>0|n=>n,fun|n=>n⟩
theorem Tryz.laysNm220:Go.Proofs.Lays2.n20 Tryz.prog Tryz.laysNm220_ren:={
 mixed:=by kernel_rfl
 f20:=Tryz.func210.trans (congrArg some (by kernel_rfl))
 t0:=Tryz.underlying0
 a0:=Tryz.isAgg0
 z0:=Tryz.sizeOf0
 v0:=Tryz.zeroValue0
 t3:=Tryz.underlying3
 a3:=Tryz.isAgg3
 z3:=Tryz.sizeOf3
 v3:=Tryz.zeroValue3
 t4:=Tryz.underlying4
 a4:=Tryz.isAgg4
 z4:=Tryz.sizeOf4
 v4:=Tryz.zeroValue4
 t22:=Tryz.underlying30
 a22:=Tryz.isAgg30
 z22:=Tryz.sizeOf30
 v22:=Tryz.zeroValue30
 i3:=by kernel_rfl}
open Go.RowKit Go.Lib Go.Sort in
theorem Tryz.slices_Compact_int(blk off cap:Nat)(zs:List Int)(w:World)(hH:Holds (Value.int .i64) w blk off zs.toArray)(hsz:zs.length≤9223372036854775807)(hcap:zs.length≤cap):
  Calls Tryz.prog 210 #[.slice (some ⟨blk,off,none⟩) zs.length cap] w fun e w'=>e= .returned (.slice (some ⟨blk,off,none⟩) (Lib.compact zs).length cap)∧∃q,w'=putRow (Value.int .i64) (Sort.ahead w q) blk off (Lib.compact zs++List.replicate (zs.length-(Lib.compact zs).length) 0).toArray:=Any.slices_Compact_int Tryz.laysNm220 blk off cap zs w hH hsz hcap
open Go.RowKit Go.Lib Go.Sort in
theorem Tryz.slices_Compact_int_empty(a:Option Addr)(cap:Nat)(w:World):
  Calls Tryz.prog 210 #[.slice a 0 cap] w fun e w'=>e= .returned (.slice a 0 cap)∧w'=w:=Any.slices_Compact_int_empty Tryz.laysNm220 a cap w
open Go.RowKit Go.Sort in
theorem Tryz.slices_Sort_int_none(p:Option Addr)(cap:Nat)(w:World):
  Calls Tryz.prog 129 #[.slice p 0 cap] w fun e w'=>e= .returned (.tuple #[])∧w'=w:=Any.slices_Sort_int_none Tryz.lays189 p cap w
end Go.Proofs
namespace Go.Proofs.YtpeabgkoknjojaaGreatDoorR
open Go Go.RowKit Go.Proofs
open Nat (reduceEqDiff reduceLT reduceLeDiff reduceAdd reduceMul)
open List (reduceReplicate)
theorem K5t{w:World}{b:Nat}:∀ {zs:List Int} {off:Nat} {G:List Nat},OwRow w 1 b off (zs.map encI) G→G=[]∧∀(j:Nat) (x:Int),zs[j]? =some x→w.cell? ⟨b,off+j,none⟩=some (.int .i64 x)∧oneW (.int .i64 x)=true
 | [],off,G,h=>⟨h,fun j x hx=>by simp at hx⟩
 |z::zs,off,G,h=>by
  obtain⟨_,G1,G2,h1,h2,rfl⟩:=h
  obtain⟨v,Ga,Gb,hc,⟨rfl,hw,rfl⟩,rfl,rfl⟩:=h1
  obtain⟨rfl,ih⟩:=K5t h2
  refine⟨rfl,fun j x hx=>?_⟩
  cases j with
  |zero=>
   simp only[List.getElem?_cons_zero,Option.some.injEq]at hx
   subst hx
   exact⟨hc,hw⟩
  |succ j=>
   have:=ih j x (by simpa using hx)
   rw[Nat.add_assoc,Nat.add_comm 1 j]at this
   exact this
theorem owRow_int'{w:World}{b:Nat}:∀ {zs:List Int} {off:Nat},(∀(j:Nat) (x:Int),zs[j]? =some x→w.cell? ⟨b,off+j,none⟩=some (.int .i64 x)∧oneW (.int .i64 x)=true)→OwRow w 1 b off (zs.map encI) []
 | [],off,h=>rfl
 |z::zs,off,h=>by
  have h0:=h 0 z rfl
  refine⟨rfl,[],[],⟨_,[],[],h0.1,⟨rfl,h0.2,rfl⟩,rfl,rfl⟩,owRow_int' fun j x hx=>?_,rfl⟩
  have:=h (j+1) x (by simpa using hx)
  rw[Nat.add_assoc,Nat.add_comm 1 j]
  exact this
def sortI(zs:List Int):List Int:=zs.mergeSort fun x y=>decide (x≤y)
def uniqI(zs:List Int):List Int:=Lib.compact zs
def sortU(zs:List Int):List Int:=uniqI (sortI zs)
theorem K2l(zs:List Int):(sortI zs).length=zs.length:=(List.mergeSort_perm _ _).length_eq
theorem sortI_mem{zs:List Int}{x:Int}(h:x∈sortI zs):x∈zs:=(List.mergeSort_perm _ _).mem_iff.1 h
theorem K5o{w:World}{b off:Nat}{zs:List Int}{row:Array Value}{ty:TypeId}(hh:w.heap[b]? =some (.cells row ty (0,0)))(h:∀(j:Nat) (x:Int),zs[j]? =some x→w.cell? ⟨b,off+j,none⟩=some (.int .i64 x)∧oneW (.int .i64 x)=true):Go.Sort.Holds (Value.int .i64) w b off zs.toArray:=by
 intro j hj
 obtain⟨x,hx⟩:=K5 (l:=zs) (k:=j) (by simpa using hj)
 have e:zs.toArray[j]! =x:=by
  rw[getElem!_pos _ j hj]
  simpa using (List.getElem?_eq_some_iff.1 hx).2
 rw[e]
 exact⟨(h j x hx).1,by simp[World.frozen?,hh]⟩
theorem K9y{w:World}{b off:Nat}{zs:List Int}{G:List Nat}(n:Nat)(os:Array Obj)(hb:b∈G)(hlt:b<w.heap.size):Bel (fun k=>k<w.heap.size∧k∉G) w (Go.Sort.grow (Go.Sort.putRow (Value.int .i64) (Go.Sort.ahead w n) b off zs.toArray) os):=by
 have hsz:(Go.Sort.putRow (Value.int .i64) (Go.Sort.ahead w n) b off zs.toArray).heap.size=w.heap.size:=by simp[Go.Sort.putRow,Go.Sort.mapBlock,Go.Sort.ahead]
 refine⟨rfl,rfl,rfl,?_,fun k hk=>?_⟩
 ·show _≤((Go.Sort.putRow (Value.int .i64) (Go.Sort.ahead w n) b off zs.toArray).heap++os).size
  rw[Array.size_append,hsz];omega
 ·show((Go.Sort.putRow (Value.int .i64) (Go.Sort.ahead w n) b off zs.toArray).heap++os)[k]? =_
  rw[Array.getElem?_append_left (by rw[hsz];exact hk.1)]
  have hne:k≠b:=fun hh=>hk.2 (hh▸hb)
  simp[Go.Sort.putRow,Go.Sort.mapBlock,Go.Sort.ahead,Array.getElem?_modify,hne.symm]
theorem ow_put{w:World}{b off cap m n:Nat}{zs ds:List Int}{row:Array Value}{ty:TypeId}{os:Array Obj}(hb:b<w.heap.size)(hh:w.heap[b]? =some (.cells row ty (0,0)))(hc:off+cap*1≤row.size)(hln:Ln zs.length cap)
  (hz:∀(j:Nat) (x:Int),zs[j]? =some x→w.cell? ⟨b,off+j,none⟩=some (.int .i64 x)∧oneW (.int .i64 x)=true) (hd:ds.length=zs.length) (hin:∀x∈ds,oneW (.int .i64 x)=true) (hm:m≤ds.length):
  Ow (Go.Sort.grow (Go.Sort.putRow (Value.int .i64) (Go.Sort.ahead w n) b off ds.toArray) os) (.sl 1 ((ds.take m).map encI)) (.slice (some ⟨b,off,none⟩) m cap) [b]:=by
 have hml:((ds.take m).map encI).length=m:=by rw[List.length_map,List.length_take];omega
 have hH:=K5o hh hz
 have hsz:(Go.Sort.putRow (Value.int .i64) (Go.Sort.ahead w n) b off ds.toArray).heap.size=w.heap.size:=by simp[Go.Sort.putRow,Go.Sort.mapBlock,Go.Sort.ahead]
 have hheap:(Go.Sort.grow (Go.Sort.putRow (Value.int .i64) (Go.Sort.ahead w n) b off ds.toArray) os).heap[b]? =some (.cells (Go.Sort.putCells (Value.int .i64) off ds.toArray row) ty (0,0)):=by
  show((Go.Sort.putRow (Value.int .i64) (Go.Sort.ahead w n) b off ds.toArray).heap++os)[b]? =_
  rw[Array.getElem?_append_left (by rw[hsz];exact hb)]
  simp[Go.Sort.putRow,Go.Sort.mapBlock,Go.Sort.ahead,Array.getElem?_modify,hh,Go.Sort.onCells]
 refine⟨some ⟨b,off,none⟩,cap,by rw[hml],by rw[hml];exact hln.mono (by omega),.inr ⟨b,off,Go.Sort.putCells (Value.int .i64) off ds.toArray row,ty,[],rfl,hheap,by simpa[Go.Sort.putCells]using hc,?_,rfl⟩⟩
 refine owRow_int' fun j x hx=>?_
 rw[List.getElem?_take]at hx
 split at hx
 ·rename_i hjm
  have hj:j<ds.toArray.size:=by simpa using (List.getElem?_eq_some_iff.1 hx).1
  have e:ds.toArray[j]! =x:=by
   rw[getElem!_pos _ j hj]
   simpa using (List.getElem?_eq_some_iff.1 hx).2
  have h1:=Go.Sort.cell?_putRow (Value.int .i64) (Go.Sort.ahead w n) b off zs.toArray ds.toArray (Go.Sort.holds_ahead _ _ _ _ _ _ hH) (by simpa using hd) j hj
  rw[e]at h1
  refine⟨?_,hin x (Ki hx)⟩
  rw[←h1]
  exact Go.Sort.cell?_grow _ _ _ (by rw[hsz];exact hb)
 ·cases hx
theorem Kad{w:World}{X:Nat→Prop}{es:List (List T)}{sz:Nat}{vs:List Value}{G:List Nat}(h:ResVs w X [oL sz es] vs G):∃v,vs=[v]∧Ow w (.sl sz es) v G:=by
 match vs,h with
 | [v],⟨G1,G2,h1,h2,e⟩=>
  obtain⟨_,Ga,Gb,h3,h4,e2⟩:=h1
  simp only[ResVs]at h2
  simp only[ResC]at h4
  subst h2 h4 e2 e
  exact⟨v,rfl,by simpa using h3⟩
 | [],h=>exact h.elim
theorem C8h(zs:List Int):CtrI Tryz.prog N2i [oL 1 (zs.map encI)] [some (1,(sortI zs).map encI)] []:=by
 refine⟨⟨Tryz.f129,Tryz.func129,by kernel_rfl,by kernel_rfl⟩,fun w X vs G ht h hG hGb=>?_⟩
 obtain⟨v,rfl,hr⟩:=Kad h
 obtain⟨A,cap,rfl,hln,hr⟩:=hr
 rw[List.length_map]at hln ⊢
 rcases hr with ⟨rfl,hz,rfl⟩|⟨b,off,row,ty,G1,rfl,hh,hc,hrow,rfl⟩
 ·obtain rfl:zs=[]:=by simpa using hz
  refine(Tryz.slices_Sort_int_none A 0 w).mono ?_
  rintro e w' ⟨rfl,rfl⟩
  exact⟨Bel.refl _ _,[],[],[],rfl,⟨[],[],by simp[sortI];exact⟨A,0,rfl,hln,.inl ⟨rfl,rfl,rfl⟩⟩,rfl,rfl⟩,rfl,by simp,by simp⟩
 ·obtain⟨rfl,hz⟩:=K5t hrow
  have hb:b<w.heap.size:=(hGb b (by simp)).1
  have hin:∀x∈sortI zs,oneW (.int .i64 x)=true:=fun x hx=>by
   obtain⟨j,hj⟩:=List.getElem?_of_mem (sortI_mem hx)
   exact(hz j x hj).2
  refine(Tryz.slices_Sort_int b off cap zs w (K5o hh hz) hb (by have:=hln.2;simp only[roomB]at this;omega)).mono ?_
  rintro e w' ⟨rfl,n,os,rfl⟩
  have hB:=K9y (zs:=sortI zs) (b:=b) (off:=off) (G:=[b]) n os (by simp) hb
  have hO:=ow_put (m:=zs.length) (n:=n) (os:=os) (ds:=sortI zs) hb hh hc hln hz (K2l zs) hin (by rw[K2l];exact Nat.le_refl _)
  rw[List.take_of_length_le (by rw[K2l];exact Nat.le_refl _)]at hO
  refine⟨hB,[],[b],[],rfl,⟨[b],[],hO,rfl,rfl⟩,rfl,by simp,fun b' hb'=>⟨.inl (by simpa using hb'),?_⟩⟩
  rw[show b'=b by simpa using hb']
  exact Nat.lt_of_lt_of_le hb hB.size
theorem getD_mem{zs:List Int}{j:Nat}(h:j<zs.length):zs.toArray[j]! ∈zs:=by
 rw[getElem!_pos zs.toArray j (by simpa using h)]
 simp
theorem Kca{zs:List Int}{x:Int}(h:x∈Lib.compact zs):x∈zs:=by
 simp only[Lib.compact,Lib.compactUpTo,List.mem_map,List.mem_filter,List.mem_range]at h
 obtain⟨j,⟨hj,_⟩,rfl⟩:=h
 exact getD_mem hj
theorem Kc9(zs:List Int):(Lib.compact zs).length≤zs.length:=by
 unfold Lib.compact Lib.compactUpTo
 rw[List.length_map]
 exact Nat.le_trans (List.length_filter_le _ _) (by simp)
theorem Cen(zs:List Int):CtrI Tryz.prog N3a [oL 1 (zs.map encI)] [none] [rL 1 ((uniqI zs).map encI)]:=by
 refine⟨⟨Tryz.f210,Tryz.func210,by kernel_rfl,by kernel_rfl⟩,fun w X vs G ht h hG hGb=>?_⟩
 obtain⟨v,rfl,hr⟩:=Kad h
 obtain⟨A,cap,rfl,hln,hr⟩:=hr
 rw[List.length_map]at hln ⊢
 rcases hr with ⟨rfl,hz,rfl⟩|⟨b,off,row,ty,G1,rfl,hh,hc,hrow,rfl⟩
 ·obtain rfl:zs=[]:=by simpa using hz
  refine(Tryz.slices_Compact_int_empty A 0 w).mono ?_
  rintro e w' ⟨rfl,rfl⟩
  exact⟨Bel.refl _ _,[_],[],[],rfl,rfl,⟨[],[],by simp[ResV,ResC,uniqI,Lib.compact];exact⟨A,0,rfl,hln,.inl ⟨rfl,rfl,rfl⟩⟩,rfl,rfl⟩,by simp,by simp⟩
 ·obtain⟨rfl,hz⟩:=K5t hrow
  have hb:b<w.heap.size:=(hGb b (by simp)).1
  have hlc:=Kc9 zs
  have hin:∀x∈Lib.compact zs++List.replicate (zs.length-(Lib.compact zs).length) 0,oneW (.int .i64 x)=true:=fun x hx=>by
   rcases List.mem_append.1 hx with hx|hx
   ·obtain⟨j,hj⟩:=List.getElem?_of_mem (Kca hx)
    exact(hz j x hj).2
   ·rw[(List.mem_replicate.1 hx).2];rfl
  refine(Tryz.slices_Compact_int b off cap zs w (K5o hh hz) (by have:=hln.2;simp only[roomB]at this;omega) hln.1).mono ?_
  rintro e w' ⟨rfl,n,rfl⟩
  have hB:=K9y (zs:=Lib.compact zs++List.replicate (zs.length-(Lib.compact zs).length) 0) (b:=b) (off:=off) (G:=[b]) n #[] (by simp) hb
  have hO:=ow_put (m:=(Lib.compact zs).length) (n:=n) (os:= #[]) (ds:=Lib.compact zs++List.replicate (zs.length-(Lib.compact zs).length) 0) hb hh hc hln hz (by simp;omega) hin (by simp)
  rw[List.take_left]at hO
  rw[Go.Sort.grow_empty]at hB hO
  refine⟨hB,[_],[],[b],rfl,rfl,⟨[b],[],?_,rfl,rfl⟩,by simp,fun b' hb'=>⟨.inl (by simpa using hb'),?_⟩⟩
  ·exact⟨⟨_,rfl⟩,[b],[],hO,rfl,rfl⟩
  ·rw[show b'=b by simpa using hb']
   exact Nat.lt_of_lt_of_le hb hB.size
end Go.Proofs.YtpeabgkoknjojaaGreatDoorR
namespace Go.Proofs.YtpeabgkoknjojaaGreatDoorR
open Go Go.RowKit Go.Proofs
open Nat (reduceEqDiff reduceLT reduceLeDiff reduceAdd reduceMul)
open List (reduceReplicate)
def put:List Int→Int→List Int
 | [],n=>[n]
 |x::l,n=>if x<n then x::put l n else if x=n then x::l else n::x::l
theorem up_eq:∀ {l m:List Int},l.Pairwise (· < ·)→m.Pairwise (· < ·)→(∀x,x∈l↔x∈m)→l=m
 | [],[],_,_,_=>rfl
 | [],b::m,_,_,h=>by have:=(h b).2 (by simp);simp at this
 |a::l,[],_,_,h=>by have:=(h a).1 (by simp);simp at this
 |a::l,b::m,h1,h2,h=>by
  rw[List.pairwise_cons]at h1 h2
  have hab:a=b:=by
   rcases List.mem_cons.1 ((h a).1 (by simp))with e|e
   ·exact e
   ·rcases List.mem_cons.1 ((h b).2 (by simp))with e2|e2
    ·exact e2.symm
    ·have:=h1.1 b e2;have:=h2.1 a e;omega
  subst hab
  congr 1
  refine up_eq h1.2 h2.2 fun x=>⟨fun hx=>?_,fun hx=>?_⟩
  ·rcases List.mem_cons.1 ((h x).1 (by simp[hx]))with e|e
   ·have:=h1.1 x hx;omega
   ·exact e
  ·rcases List.mem_cons.1 ((h x).2 (by simp[hx]))with e|e
   ·have:=h2.1 x hx;omega
   ·exact e
theorem Kc0(zs:List Int):(sortI zs).Pairwise (· ≤ ·):=by
 have:=List.pairwise_mergeSort (le:=fun x y:Int=>decide (x≤y)) (fun a b c h1 h2=>by simp only[decide_eq_true_eq]at *;omega) (fun a b=>by simp only[Bool.or_eq_true,decide_eq_true_eq];omega) zs
 exact this.imp (by simp)
theorem uniq_up{zs:List Int}(h:zs.Pairwise (· ≤ ·)):∀m,m≤zs.length→(Lib.compactUpTo zs.toArray m).Pairwise (· < ·)∧∀x,x∈Lib.compactUpTo zs.toArray m↔x∈zs.take m
 |0,_=>by simp[Lib.compactUpTo]
 |m+1,hm=>by
  obtain⟨ih1,ih2⟩:=uniq_up h m (by omega)
  obtain⟨x,hx⟩:=K5 (l:=zs) (k:=m) (by omega)
  have e0:zs.toArray[m]! =x:=by
   rw[getElem!_pos _ m (by simpa using (by omega:m<zs.length))]
   simpa using (List.getElem?_eq_some_iff.1 hx).2
  rw[Lib.compactUpTo_succ,K8 hx,e0]
  cases m with
  |zero=>
   have hk:Lib.keeps zs.toArray 0=true:=by simp[Lib.keeps]
   rw[hk]
   simp[Lib.compactUpTo]
  |succ m=>
   obtain⟨y,hy⟩:=K5 (l:=zs) (k:=m) (by omega)
   have e1:zs.toArray[m+1-1]! =y:=by
    rw[Nat.add_sub_cancel,getElem!_pos _ m (by simpa using (by omega:m<zs.length))]
    simpa using (List.getElem?_eq_some_iff.1 hy).2
   have hyx:y≤x:=by
    have:=List.pairwise_iff_getElem.1 h m (m+1) (by omega) (by omega) (by omega)
    rw[(List.getElem?_eq_some_iff.1 hy).2,(List.getElem?_eq_some_iff.1 hx).2]at this
    exact this
   have hyt:y∈zs.take (m+1):=by rw[K8 hy];simp
   have hle:∀z∈zs.take (m+1),z≤y:=fun z hz=>by
    rw[K8 hy]at hz
    rcases List.mem_append.1 hz with hz|hz
    ·have hp:=h.sublist (List.take_sublist (m+1) zs)
     rw[K8 hy,List.pairwise_append]at hp
     exact hp.2.2 z hz y (by simp)
    ·rw[List.mem_singleton.1 hz];exact Int.le_refl _
   by_cases hxy:x=y
   ·have hk:Lib.keeps zs.toArray (m+1)=false:=Lib.keeps_neg (by omega) (by rw[e0,e1,hxy])
    rw[hk]
    simp only[Bool.false_eq_true,if_false,List.append_nil]
    refine⟨ih1,fun z=>?_⟩
    rw[ih2,List.mem_append,List.mem_singleton]
    constructor
    ·exact .inl
    ·rintro (hz|rfl)
     ·exact hz
     ·rw[hxy];exact hyt
   ·have hk:Lib.keeps zs.toArray (m+1)=true:=Lib.keeps_pos (by rw[e0,e1];exact hxy)
    rw[hk,if_pos rfl]
    refine⟨?_,fun z=>?_⟩
    ·rw[List.pairwise_append]
     refine⟨ih1,by simp,fun z hz w hw=>?_⟩
     rw[List.mem_singleton.1 hw]
     have:=hle z ((ih2 z).1 hz)
     omega
    ·rw[List.mem_append,List.mem_append,ih2]
theorem sortU_up(zs:List Int):(sortU zs).Pairwise (· < ·)∧∀x,x∈sortU zs↔x∈zs:=by
 have h:=uniq_up (Kc0 zs) (sortI zs).length (Nat.le_refl _)
 refine⟨h.1,fun x=>?_⟩
 rw[sortU,uniqI,Lib.compact,h.2 x,List.take_length,sortI]
 exact(List.mergeSort_perm _ _).mem_iff
def puts(zs:List Int):List Int:=zs.foldl put []
end Go.Proofs.YtpeabgkoknjojaaGreatDoorR
namespace Go.Proofs.YtpeabgkoknjojaaGreatDoorR
open Go Go.RowKit Go.Proofs
open Nat (reduceEqDiff reduceLT reduceLeDiff reduceAdd reduceMul)
open List (reduceReplicate)
def zeros(n:Nat):List Int:=List.replicate n 0
theorem zeros_snoc{k:Nat}:zeros (k+1)=zeros k++[0]:=by
 unfold zeros;rw[List.replicate_succ']
def st0:GState:=⟨0,zeros 4,zeros 3,zeros 4⟩
def Mcx:MC:=
(Zs [.nilo 2 0 1] [0] (Zs [.lit 5 0 1 8 [],mS 3 5] [0,3] (.seq (Zs [.mv 4 (ci 0)] [0,3,4] (.block 0 (.loop ([0,3,4],[1]) (.seq (Zs [mS 6 4,mS 7 0,bS 8 .lss 6 7] [0,3,4,8] (cX 8 0))
(.seq (.block 1 (pr [mS 11 3,.lit 12 1 1 8 [.c (.int .i64 0)],.app 13 0 1 8 (.s 11) (.s 12),mS 3 13] [0,3,4]))
(pr [mS 9 4,bC 10 .add 9 1,mS 4 10] [0,3,4]))))))
(Zs [mS 14 3,mS 2 14] [2] .ret))))
theorem C4h(n:Nat)(hn:n≤4):Ctr Tryz.prog N34 [aI n] [rL 1 ((zeros n).map encI)]:=by
 refine cA Mcx 2 15 [(.tmp 2,[true])] Tryz.func238 rfl rfl ?_;unfold Mcx
 intro hb
 clear hb
 simp only[go_sem]
 refine Kq (fun k:Nat=>[(3,.val false [.ref 0 0 1 0 (zeros k).length]),(4,vI k)]) (fun k=>[(0,⟨0,.row true 1 ((zeros k).map encI)⟩)]) (fun k=>k≤n) (fun k=>n-k) 0 ?_
 simp only[go_sem]
 refine⟨?_,Nat.zero_le _,?_⟩
 ·simp only[go_sem]
  exact⟨rfl,rfl⟩
 ·intro k hk
  have hzl:(zeros k).length=k:=by simp[zeros]
  have hw1:IntKind.i64.wrap ((k:Int)+1)=((k+1:Nat):Int):=by rw[wI (by omega) (by omega)];omega
  simp only[go_sem,hw1]
  refine⟨fun hlt=>⟨by decide,?_⟩,fun hge=>?_⟩
  ·exact⟨by simp only[roomB];omega,k+1,⟨⟨by simp[zeros],rfl⟩,by rw[zeros_snoc];simp[encI]⟩,by omega,by omega⟩
  ·rw[show k=n by omega]
def M9j:MC:=
(Zs [.alloc 0 0 [pz,.emp 1,.emp 1,.emp 1]] [0] (Zs [.call 1 [1] (.f N34) [.c (.int .i64 4)],.call 2 [2] (.f N34) [.c (.int .i64 3)],.call 3 [3] (.f N34) [.c (.int .i64 4)],.build 4 [pz,.emp 1,.emp 1,.emp 1] [(1,1,.s 1),(2,1,.s 2),(3,1,.s 3)],sS 4 0 4] [0] .ret))
theorem Ci1:Ctr Tryz.prog Nad [] [rS st0.enc]:=by
 refine cA M9j 4 5 [(.cell 0 true 4,[false,true,true,true])] Tryz.func195 rfl rfl ?_;unfold M9j
 intro hb
 clear hb
 simp only[go_sem]
 apply K0 (C4h 4 (by omega))
 simp only[go_sem]
 try intros
 apply K0 (C4h 3 (by omega))
 simp only[go_sem]
 try intros
 apply K0 (C4h 4 (by omega))
 simp only[go_sem]
 try intros
 exact⟨rfl,rfl,rfl,rfl⟩
def M8x:MC:=
(Zs [.alloc 0 0 [pz,.emp 1,.emp 1,.emp 1]] [0] (.seq (.dreg [{o:= .mk 1 1 1 8 [.sc (.int .i64 0)] (ci 4),hs:=[2,3],ho:=[2,3],ws:=[1]},{o:= .mk 2 2 1 8 [.sc (.int .i64 0)] (ci 3),hs:=[1,3],ho:=[1,3],ws:=[2]},{o:= .mk 3 3 1 8 [.sc (.int .i64 0)] (ci 4),hs:=[1,2],ho:=[1,2],ws:=[3]},Ze [0,1,2] (.build 4 [pz,.emp 1,.emp 1,.emp 1] [(1,1,.s 1),(2,1,.s 2),(3,1,.s 3)]),{o:=sS 4 0 4,ws:=[0,1,2,3],bf:=(.range 4)}] [0])
.ret))
theorem Chk:Ctr Tryz.prog N9u [] [rS st0.enc]:=by
 refine cA M8x 4 5 [(.cell 0 true 4,[false,true,true,true])] Tryz.func212 rfl rfl ?_;unfold M8x
 intro hb
 clear hb
 simp only[go_sem]
 exact⟨by simp only[roomB];omega,by simp only[roomB];omega,by simp only[roomB];omega,rfl,rfl,rfl,rfl,rfl,rfl,rfl⟩
def Maz:MC:=
(Zs [.box 1 0 (.s 0),.alloc 2 1 [pz,.emp 1,.emp 1,.emp 1]] [1,2] (.seq (.dreg [Zf [5,6,7,8,9,10,11,12,13] [2,3,4] (fS 3 1 0),Zg [5,6,7,8,9,10,11,12,13] [2,3,4] [0] (lF 4 1 3),Zc [3,4,8,9,11,12] (fS 5 1 1),Zd [3,4,8,9,11,12] [2] (lF 6 1 5),{o:= .call 7 [2] (.f Nb) [.s 6],hs:=[3,4,8,9,11,12],ws:=[2],bf:=[2,3]},Zf [3,4,5,6,7,11,12] [2] (fS 8 1 2),Zg [3,4,5,6,7,11,12] [2] [5] (lF 9 1 8),{o:= .call 10 [3] (.f Nb) [.s 9],hs:=[3,4,11,12],ws:=[3],bf:=[2,3,4,5,6]},Zf [3,4,5,6,7,8,9,10] [2,3] (fS 11 1 3),Zg [3,4,5,6,7,8,9,10] [2,3] [8] (lF 12 1 11),{o:= .call 13 [4] (.f Nb) [.s 12],hs:=[3,4],ws:=[4],bf:=[2,3,4,5,6,7,8,9]},Ze (.range 11) (.build 14 [pz,.emp 1,.emp 1,.emp 1] [(0,1,.s 4),(1,1,.s 7),(2,1,.s 10),(3,1,.s 13)]),{o:=sS 4 2 14,ws:=[1,2,3,4],bf:=(.range 12)}] [2])
.ret))
theorem Cak(s:GState)(hs:s.size≤1073741824):Ctr Tryz.prog N48 [aS s.enc] [rS s.enc]:=by
 refine cA Maz 5 15 [(.cell 2 true 4,[false,true,true,true])] Tryz.func171 rfl rfl ?_;unfold Maz
 intro hb
 clear hb
 simp only[GState.size]at hs
 simp only[go_sem]
 apply K0 (C1d s.Regs (by omega))
 simp only[go_sem]
 try intros
 apply K0 (C1d s.Slots (by omega))
 simp only[go_sem]
 try intros
 apply K0 (C1d s.Nodes (by omega))
 simp only[go_sem]
 try intros
 try trivial
def Me0:MC:=
(Zs [.box 1 0 (.s 0),.alloc 2 1 [pz,.emp 1,.emp 1,.emp 1]] [1,2] (.seq (.dreg [Zf [5,6,7,8,9,10,11,12,13,14,15,16] [2,3,4] (fS 3 1 0),Zg [5,6,7,8,9,10,11,12,13,14,15,16] [2,3,4] [0] (lF 4 1 3),{o:= .lit 5 2 1 8 [],hs:=[3,4,6,7,9,10,11,13,14,15],ho:=[3,4],ws:=[2]},Zf [3,4,5,9,10,11,13,14,15] [2,3,4] (fS 6 1 1),Zg [3,4,5,9,10,11,13,14,15] [2,3,4] [3] (lF 7 1 6),{o:= .app 8 2 1 8 (.s 5) (.s 7),hs:=[3,4,9,10,11,13,14,15],ho:=[3,4],ws:=[2],bf:=[2,3,4]},{o:= .lit 9 3 1 8 [],hs:=[3,4,5,6,7,8,10,11,13,14,15],ho:=[2,4],ws:=[3]},Zf [3,4,5,6,7,8,9,13,14,15] [2,3,4] (fS 10 1 2),Zg [3,4,5,6,7,8,9,13,14,15] [2,3,4] [7] (lF 11 1 10),{o:= .app 12 3 1 8 (.s 9) (.s 11),hs:=[3,4,13,14,15],ho:=[4],ws:=[3],bf:=[2,3,4,5,6,7,8]},{o:= .lit 13 4 1 8 [],hs:=[3,4,5,6,7,8,9,10,11,12,14,15],ho:=[2,3],ws:=[4]},Zf [3,4,5,6,7,8,9,10,11,12,13] [2,3,4] (fS 14 1 3),Zg [3,4,5,6,7,8,9,10,11,12,13] [2,3,4] [11] (lF 15 1 14),{o:= .app 16 4 1 8 (.s 13) (.s 15),hs:=[3,4],ws:=[4],bf:=[2,3,4,5,6,7,8,9,10,11,12]},Ze (.range 14) (.build 17 [pz,.emp 1,.emp 1,.emp 1] [(0,1,.s 4),(1,1,.s 8),(2,1,.s 12),(3,1,.s 16)]),{o:=sS 4 2 17,ws:=[1,2,3,4],bf:=(.range 15)}] [2])
.ret))
theorem Cdn(s:GState)(hs:s.size≤1073741824):Ctr Tryz.prog N6d [aS s.enc] [rS s.enc]:=by
 refine cA Me0 5 18 [(.cell 2 true 4,[false,true,true,true])] Tryz.func150 rfl rfl ?_;unfold Me0
 intro hb
 clear hb
 simp only[GState.size]at hs
 simp only[go_sem,↓Kt (f:=encI) (fun _=>rfl) s.Regs,↓Kt (f:=encI) (fun _=>rfl) s.Slots,↓Kt (f:=encI) (fun _=>rfl) s.Nodes]
 simp only[roomB]
 omega
def stOk(s:GState):Bool:=decide (0≤s.Pc∧s.Pc≤19)&&(decide (s.Regs.length=4∧s.Slots.length=3∧s.Nodes.length=4)&&(K22 s.Regs 0 999&&(K22 s.Slots 0 999&&K22 s.Nodes 0 999)))
def Mfe:MC:=
(Zs [.mv 4 cF] [0,1] (.seq (Zs [.mv 5 (ci 0)] [0,1,5] (.block 0 (.loop ([0,1,5],[]) (.seq (Zs [mS 6 5,mS 7 0,nS 8 7,bS 9 .lss 6 8] [0,1,5,9] (cX 9 0))
(.seq (.block 1 (Zs [mS 12 0,mS 13 5,xS 14 1 12 13,lF 15 1 14,.call 16 [] (.f N0) [.s 15,.c (.int .i64 0),.c (.int .i64 999)],.un 17 .not (.s 16)] [0,1,5,17] (.cond (.s 17) (Zs [.mv 4 cF] [4] .ret) .skip)))
(pr [mS 10 5,bC 11 .add 10 1,mS 5 11] [0,1,5]))))))
(Zs [mS 18 0,nS 19 18,mS 20 1,bS 21 .eql 19 20,mS 4 21] [4] .ret)))
theorem C87(l:List Int)(n:Nat):Ctr Tryz.prog N44 [aL 1 (l.map encI),aI n] [rB (decide (l.length=n)&&K22 l 0 999)]:=by
 refine cA Mfe 0 22 [(.tmp 4,[false])] Tryz.func280 rfl rfl ?_;unfold Mfe
 intro hb
 simp only[bdA,bdL,bdT,K7,K15,roomB,and_true,List.length_map]at hb
 obtain⟨⟨hl,-⟩,-⟩:=hb
 simp only[go_sem]
 refine K3 l (fun k=>[(5,vI k)]) (fun k=>[]) (fun k=>((l.take k).all fun x=>decide (0≤x∧x≤999))=true) hl ?_
 simp only[go_sem]
 refine⟨?_,by simp,?_,?_⟩
 ·simp only[go_sem]
 ·intro k x hx h h0 h1 hw
  simp only[go_sem,K1 hx,h0,h1]
  refine K0 (C3 _ _ _) ?_
  simp only[go_sem,hw]
  refine⟨fun hn=>?_,fun hn=>K2b hx h (by simpa using hn)⟩
  rw[show K22 l 0 999=false from(K7w hx (by simpa using hn)).symm,Bool.and_false]
 ·intro h
  simp only[go_sem]
  rw[List.take_length]at h
  rw[show K22 l 0 999=true from h,Bool.and_true,Bool.eq_iff_iff]
  simp only[decide_eq_true_eq,beq_iff_eq]
  omega
def Mdr:MC:=
(Zs [.box 1 0 (.s 0),.mv 2 cF] [1] (.seq (.reg [Za (fS 3 1 0),Za (lF 4 1 3),Za (.call 5 [] (.f N1) [.s 4,.c (.int .i64 0),.c (.int .i64 19)]),Za (mS 6 5),Zb 6 true (fS 7 1 1),Zb 6 true (lF 8 1 7),Zb 6 true (nS 9 8),Zb 6 true (bC 10 .eql 9 4),Za (.pick 11 (.s 6) (.s 10) cF),Za (mS 12 11),Zb 12 true (fS 13 1 2),Zb 12 true (lF 14 1 13),Zb 12 true (nS 15 14),Zb 12 true (bC 16 .eql 15 3),Za (.pick 17 (.s 12) (.s 16) cF),Za (mS 18 17),Zb 18 true (fS 19 1 3),Zb 18 true (lF 20 1 19),Zb 18 true (nS 21 20),Zb 18 true (bC 22 .eql 21 4),Za (.pick 23 (.s 18) (.s 22) cF),Za (mS 24 23),Zb 24 true (fS 25 1 1),Zb 24 true (lF 26 1 25),Zb 24 true (.call 27 [] (.f N39) [.s 26,.c (.int .i64 0),.c (.int .i64 999)]),Za (.pick 28 (.s 24) (.s 27) cF),Za (mS 29 28),Zb 29 true (fS 30 1 2),Zb 29 true (lF 31 1 30),Zb 29 true (.call 32 [] (.f N39) [.s 31,.c (.int .i64 0),.c (.int .i64 999)]),Za (.pick 33 (.s 29) (.s 32) cF),Za (mS 34 33),Zb 34 true (fS 35 1 3),Zb 34 true (lF 36 1 35),Zb 34 true (.call 37 [] (.f N39) [.s 36,.c (.int .i64 0),.c (.int .i64 999)]),Za (.pick 38 (.s 34) (.s 37) cF),Za (mS 2 38)] [2])
.ret))
theorem Cjn(s:GState):Ctr Tryz.prog Ne5 [aS s.enc] [rB (stOk s)]:=by
 refine cA Mdr 1 39 [(.tmp 2,[false])] Tryz.func273 rfl rfl ?_;unfold Mdr
 intro hb
 clear hb
 simp only[go_sem]
 repeat' first
  |(refine And.intro ?_ ?_<;>intro h)
  |(apply K0 (C4 _ _ _);simp only[go_sem])
  |(apply K0 (Caj _ _ _);simp only[go_sem])
 all_goals (unfold stOk;by_cases c1:s.Regs.length=4<;>by_cases c2:s.Slots.length=3<;>by_cases c3:s.Nodes.length=4<;>simp_all<;>omega)
def Mdz:MC:=
(Zs [.box 1 0 (.s 0),.mv 2 cF] [1] (.seq (.reg [Za (fS 3 1 0),Za (lF 4 1 3),Za (.call 5 [] (.f N0) [.s 4,.c (.int .i64 0),.c (.int .i64 19)]),Za (mS 6 5),Zb 6 true (fS 7 1 1),Zb 6 true (lF 8 1 7),Zb 6 true (.call 9 [] (.f N44) [.s 8,.c (.int .i64 4)]),Za (.pick 10 (.s 6) (.s 9) cF),Za (mS 11 10),Zb 11 true (fS 12 1 2),Zb 11 true (lF 13 1 12),Zb 11 true (.call 14 [] (.f N44) [.s 13,.c (.int .i64 3)]),Za (.pick 15 (.s 11) (.s 14) cF),Za (mS 16 15),Zb 16 true (fS 17 1 3),Zb 16 true (lF 18 1 17),Zb 16 true (.call 19 [] (.f N44) [.s 18,.c (.int .i64 4)]),Za (.pick 20 (.s 16) (.s 19) cF),Za (mS 2 20)] [2])
.ret))
theorem Cju(s:GState):Ctr Tryz.prog Ned [aS s.enc] [rB (stOk s)]:=by
 refine cA Mdz 1 21 [(.tmp 2,[false])] Tryz.func267 rfl rfl ?_;unfold Mdz
 intro hb
 clear hb
 simp only[go_sem]
 repeat' first
  |(refine And.intro ?_ ?_<;>intro h)
  |(apply K0 (C3 _ _ _);simp only[go_sem])
  |(apply K0 (C87 s.Regs 4);simp only[go_sem])
  |(apply K0 (C87 s.Slots 3);simp only[go_sem])
  |(apply K0 (C87 s.Nodes 4);simp only[go_sem])
 all_goals (unfold stOk;by_cases c1:s.Regs.length=4<;>by_cases c2:s.Slots.length=3<;>by_cases c3:s.Nodes.length=4<;>simp_all<;>omega)
end Go.Proofs.YtpeabgkoknjojaaGreatDoorR
