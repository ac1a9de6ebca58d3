/- What the functions compute that the laws of IsHonoured reach: contracts. Conditions stand in each theorem. -/
import Derived.Test.YtflhjihoifbmfaaGreatDoorTIsHonoureda
set_option linter.unusedVariables false
set_option linter.unusedSimpArgs false
namespace Go.Proofs.YtflhjihoifbmfaaGreatDoorR
open Go Go.RowKit Go.Proofs
open Nat (reduceEqDiff reduceLT reduceLeDiff reduceAdd reduceMul)
open List (reduceReplicate)
namespace Srt
variable {α:Type} {lt:α→α→Bool}
theorem srt_at{l:List α}(h:srt lt l){i j:Nat}{x y:α}(hi:l[i]? =some x)(hj:l[j]? =some y)(hij:i<j):lt y x=false:=by
 obtain⟨h1,rfl⟩:=List.getElem?_eq_some_iff.1 hi
 obtain⟨h2,rfl⟩:=List.getElem?_eq_some_iff.1 hj
 exact(List.pairwise_iff_getElem.1 h) i j h1 h2 hij
theorem K2i(hw:Swo lt){l:List α}(h:srt lt l){i j:Nat}{x y:α}(hi:l[i]? =some x)(hj:l[j]? =some y)(hij:i≤j):lt y x=false:=by
 rcases Nat.lt_or_eq_of_le hij with k|rfl
 ·exact srt_at h hi hj k
 ·obtain rfl:=Option.some.inj (hi.symm.trans hj)
  exact hw.irr x
theorem K2c{l:List α}{u:Nat}{x:α}(h:x∈l.take u):∃i,i<u∧l[i]? =some x:=by
 obtain⟨i,hi⟩:=List.mem_iff_getElem?.1 h
 rw[List.getElem?_take]at hi
 split at hi
 ·exact⟨i,by assumption,hi⟩
 ·cases hi
theorem K2o{l:List α}{u:Nat}{x:α}(h:x∈l.drop u):∃i,u≤i∧l[i]? =some x:=by
 obtain⟨i,hi⟩:=List.mem_iff_getElem?.1 h
 rw[List.getElem?_drop]at hi
 exact⟨u+i,by omega,hi⟩
theorem K92{l:List α}{u:Nat}{x:α}(h:x∈(l.drop u).head?):l[u]? =some x:=by
 rw[List.head?_drop]at h
 exact h
theorem mrg_sym(hw:Swo lt){X Y:List α}(hX:srt lt X)(hY:srt lt Y){u M:Nat}(huX:u≤X.length)(huM:u≤M)
  (h1:u=0∨Y.length≤M-u∨∃y x,Y[M-u]? =some y∧X[u-1]? =some x∧lt y x=false)
  (h2:u=M∨u=X.length∨∃y x,Y[M-1-u]? =some y∧X[u]? =some x∧lt y x=true):
  mrg lt X Y=mrg lt (X.take u) (Y.take (M-u))++mrg lt (X.drop u) (Y.drop (M-u)):=by
 conv=>lhs;rw[←List.take_append_drop u X,←List.take_append_drop (M-u) Y]
 refine K8d ?_ ?_ ?_
 ·intro b hb a ha
  obtain⟨i,hi,eb⟩:=K2c hb
  have ea:=K92 ha
  have hlt:=K6 ea
  rcases h2 with h2|h2|⟨y,x,e1,e2,h2⟩
  ·omega
  ·omega
  ·obtain rfl:=Option.some.inj (e2.symm.trans ea)
   exact hw.fl (K2i hw hY eb e1 (by omega)) h2
 ·intro b hb a ha
  obtain⟨i,hi,eb⟩:=K2o hb
  obtain⟨k,hk,ea⟩:=K2c ha
  have hlt:=K6 eb
  rcases h1 with h1|h1|⟨y,x,e1,e2,h1⟩
  ·omega
  ·omega
  ·have p1:=K2i hw hY e1 eb (by omega)
   have p2:=K2i hw hX ea e2 (by omega)
   exact hw.ntr (hw.ntr p1 h1) p2
 ·intro b hb a ha
  obtain⟨i,hi,eb⟩:=K2o hb
  obtain⟨k,hk,ea⟩:=K2c ha
  exact srt_at hY ea eb (by omega)
theorem mrg_one(hw:Swo lt){x:α}{Y:List α}(hY:srt lt Y){u:Nat}(h1:∀y∈Y.take u,lt y x=true)(h2:∀y∈Y.drop u,lt y x=false):mrg lt [x] Y=Y.take u++x::Y.drop u:=by
 have e:=K8d (lt:=lt) (A1:=[]) (A2:=[x]) (B1:=Y.take u) (B2:=Y.drop u) (by simpa using h1) (by simp) (by
  intro b hb a ha
  obtain⟨i,hi,eb⟩:=K2o hb
  obtain⟨k,hk,ea⟩:=K2c ha
  exact srt_at hY ea eb (by omega))
 rw[List.take_append_drop,List.nil_append]at e
 rw[e,mrg_nil_srt hw (srt_append.1 ((List.take_append_drop u Y).symm▸hY)).1]
 have e2:=K5x (lt:=lt) (A1:=[x]) (A2:=[]) (B:=Y.drop u) (by simpa using h2)
 rw[List.append_nil]at e2
 rw[e2,mrg_nil_srt hw (srt_append.1 ((List.take_append_drop u Y).symm▸hY)).2.1]
 rfl
theorem mrg_last{y:α}{X:List α}{u:Nat}(h1:∀z∈X.take u,lt y z=false)(h2:∀z∈X.drop u,lt y z=true):mrg lt X [y]=X.take u++y::X.drop u:=by
 have:=ins_mid (lt:=lt) (x:=y) h1 (fun z hz=>h2 z (List.mem_of_mem_head? hz))
 rw[List.take_append_drop]at this
 exact this
theorem lo_of(hw:Swo lt){Y:List α}(hY:srt lt Y){w:Nat}{x y:α}(e:Y[w]? =some y)(h:lt y x=true):∀z∈Y.take (w+1),lt z x=true:=fun z hz=>by
 obtain⟨i,hi,ez⟩:=K2c hz
 exact hw.fl (K2i hw hY ez e (by omega)) h
theorem hi_of(hw:Swo lt){Y:List α}(hY:srt lt Y){w:Nat}{x y:α}(e:Y[w]? =some y)(h:lt y x=false):∀z∈Y.drop w,lt z x=false:=fun z hz=>by
 obtain⟨i,hi,ez⟩:=K2o hz
 exact hw.ntr (K2i hw hY e ez hi) h
theorem lo_of'(hw:Swo lt){X:List α}(hX:srt lt X){w:Nat}{x y:α}(e:X[w]? =some x)(h:lt y x=false):∀z∈X.take (w+1),lt y z=false:=fun z hz=>by
 obtain⟨i,hi,ez⟩:=K2c hz
 exact hw.ntr h (K2i hw hX ez e (by omega))
theorem hi_of'(hw:Swo lt){X:List α}(hX:srt lt X){w:Nat}{x y:α}(e:X[w]? =some x)(h:lt y x=true):∀z∈X.drop w,lt y z=true:=fun z hz=>by
 obtain⟨i,hi,ez⟩:=K2o hz
 exact hw.lf h (K2i hw hX e ez hi)
end Srt
theorem shr1{k:Int}:(if (1:Int)<0 then none else some (Value.int IntKind.u64 (k.fdiv (2^min (Int.toNat 1) 64))))=some (Value.int IntKind.u64 (k.fdiv 2)):=by rw[if_neg (by decide)];rfl
theorem u64_wrap{n:Int}(h1:0≤n)(h2:n≤9223372036854775807):IntKind.u64.wrap n=n:=by
 simp only[IntKind.wrap,IntKind.signed,IntKind.bits,Bool.false_and,Bool.false_eq_true,if_false]
 omega
theorem K4z{i j:Nat}(h:i+j≤9223372036854775807):(IntKind.u64.wrap (IntKind.i64.wrap ((i:Int)+(j:Int)))).fdiv 2=(((i+j)/2:Nat):Int):=by
 rw[wN h,u64_wrap (by omega) (by omega),Int.fdiv_eq_ediv_of_nonneg _ (by omega)]
 omega
theorem wK{k:Nat}(h:k≤9223372036854775807):IntKind.i64.wrap (k:Int)=(k:Int):=wI (by omega) (by omega)
def SymI(lt:GFound→GFound→Bool)(X Y:List GFound)(M u0 v0 u v:Nat):Prop:=
 u0≤u∧u≤v∧v≤v0∧(u=0∨Y.length≤M-u∨∃y x,Y[M-u]? =some y∧X[u-1]? =some x∧lt y x=false)∧
  (v=M∨v=X.length∨∃y x,Y[M-1-v]? =some y∧X[v]? =some x∧lt y x=true)
theorem SymI.fin{lt:GFound→GFound→Bool}(hw:Srt.Swo lt){X Y:List GFound}{M u0 v0 u:Nat}(h:SymI lt X Y M u0 v0 u u)(hX:Srt.srt lt X)(hY:Srt.srt lt Y)(q2:v0≤M)(q3:v0≤X.length)(q4:M≤u0+Y.length):
  ∃A1 A2 B1 B2,X=A1++A2∧Y=B1++B2∧A1.length=u∧B1.length=M-u∧u≤M∧Srt.mrg lt X Y=Srt.mrg lt A1 B1++Srt.mrg lt A2 B2∧Srt.srt lt A1∧Srt.srt lt A2∧Srt.srt lt B1∧Srt.srt lt B2:=by
 obtain⟨h1,h2,h3,h4,h5⟩:=h
 have e:=Srt.mrg_sym hw hX hY (by omega) (by omega) h4 h5
 have sX:=Srt.srt_append.1 ((List.take_append_drop u X).symm▸hX)
 have sY:=Srt.srt_append.1 ((List.take_append_drop (M-u) Y).symm▸hY)
 exact⟨X.take u,X.drop u,Y.take (M-u),Y.drop (M-u),(List.take_append_drop _ _).symm,(List.take_append_drop _ _).symm,by simp;omega,by simp;omega,by omega,e,sX.1,sX.2.1,sY.1,sY.2.1⟩
theorem sym7{u l2 k l4 M:Nat}(hk:k=M-u)(huM:u≤M)(hM:M=(u+l2+(k+l4))/2)(hX:2≤u+l2)(hY:2≤k+l4):
  (0<u∧0<l2∧0<k∧0<l4)∨(u=0∧0<l2∧0<k∧0<l4)∨(0<u∧l2=0∧0<k∧0<l4)∨(0<u∧0<l2∧k=0∧0<l4)∨(0<u∧0<l2∧0<k∧l4=0)∨(u=0∧0<l2∧0<k∧l4=0)∨(0<u∧l2=0∧k=0∧0<l4):=by omega
theorem K5{i j:Nat}(k:Nat)(h:j=i+k)(hk:0<k):(i:Int)<(j:Int):=by omega
theorem Kz{i j:Nat}(k:Nat)(h:j=i+k)(hk:k=0):¬(i:Int)<(j:Int):=by omega
theorem symL(lt:GFound→GFound→Bool){P A1 A2 B1 B2 Q:List GFound}{a m b M u N n:Nat}(ha:P.length=a)(hA1:A1.length=u)(hB1:B1.length=M-u)(huM:u≤M)(hm:m=a+(A1++A2).length)(hb:b=m+(B1++B2).length)
  (hN:(P++(A1++A2)++(B1++B2)++Q).length=N) (hM:M=((A1++A2).length+(B1++B2).length)/2) (hn:(A1++A2).length+(B1++B2).length≤n+1) (h1:¬((m-a:Nat):Int)=1) (h2:¬((b-m:Nat):Int)=1) (hX:0<(A1++A2).length) (hY:0<(B1++B2).length):
  ((P++A1++B1++A2++(B2++Q)).length=N∧(P++A1++A2++B1++(B2++Q)).length=N∧(P++A1++B1++(A2++(B2++Q))).length=N∧(P++Srt.mrg lt A1 B1++A2++B2++Q).length=N∧(P++Srt.mrg lt A1 B1++(A2++(B2++Q))).length=N∧(P++Srt.mrg lt A1 B1++Srt.mrg lt A2 B2++Q).length=N)∧
  ((P++A1).length=a+u∧(P++A1++A2).length=m∧(P++A1++A2++B1).length=m+(M-u)∧(P++A1++B1).length=a+M∧(P++Srt.mrg lt A1 B1).length=a+M∧(P++Srt.mrg lt A1 B1++A2).length=m+(M-u)∧(P++Srt.mrg lt A1 B1++A2++B2).length=b)∧
  A1.length+B1.length≤n∧A2.length+B2.length≤n∧
  (m=a+u+A2.length∧m+(M-u)=m+B1.length∧a+u=a+A1.length∧a+M=a+u+B1.length∧m+(M-u)=a+M+A2.length∧b=m+(M-u)+B2.length)∧
  ((0<A1.length∧0<A2.length∧0<B1.length∧0<B2.length)∨(A1.length=0∧0<A2.length∧0<B1.length∧0<B2.length)∨(0<A1.length∧A2.length=0∧0<B1.length∧0<B2.length)∨(0<A1.length∧0<A2.length∧B1.length=0∧0<B2.length)∨(0<A1.length∧0<A2.length∧0<B1.length∧B2.length=0)∨(A1.length=0∧0<A2.length∧0<B1.length∧B2.length=0)∨(0<A1.length∧A2.length=0∧B1.length=0∧0<B2.length)):=by
 simp only[List.length_append,Srt.len_mrg]at*
 have h7:=sym7 (u:=A1.length) (l2:=A2.length) (k:=B1.length) (l4:=B2.length) (M:=M) (by omega) (by omega) (by omega) (by omega) (by omega)
 refine⟨⟨?_,?_,?_,?_,?_,?_⟩,⟨?_,?_,?_,?_,?_,?_,?_⟩,?_,?_,⟨?_,?_,?_,?_,?_,?_⟩,h7⟩<;>clear h7<;>omega
def Mq:MC:=
(.seq (Zs [mS 25 2,mS 26 1,bS 27 .sub 25 26,bC 28 .eql 27 1] [0,1,2,3,4,28] (.cond (.s 28) (Zs [mS 29 2,mS 10 29] [0,1,3,4,10] (Zs [mS 30 3,mS 11 30] [0,1,4,10,11] (.seq (.block 0 (.loop ([0,1,4,10,11],[]) (.seq (Zs [mS 31 10,mS 32 11,bS 33 .lss 31 32] [0,1,4,10,11,33] (cX 33 0))
(.block 1 (Zs [mS 34 10,mS 35 11,bS 36 .add 34 35,.convI 37 .u64 (.s 36),.bin 38 false .shr (.s 37) (.c (.int .u64 1)),.convI 39 .i64 (.s 38),mS 12 39] [0,1,4,10,11,12] (.seq (.dreg [Zc [41,42,43,44,45,46,47,48] (mS 40 4),Zc [40,42,45,46,47,48] (mS 41 0),Zc [40,41,45,46,47,48] (mS 42 12),Zd [40,45,46,47,48] [1,2] (xS 43 6 41 42),Zd [40,45,46,47,48] [1,2,3] (lT 44 6 43),Zc [40,41,42,43,44,46] (mS 45 0),Zc [40,41,42,43,44,45] (mS 46 1),Zd [40,41,42,43,44] [5,6] (xS 47 6 45 46),Zd [40,41,42,43,44] [5,6,7] (lT 48 6 47),Ze (.range 9) (.call 49 [] (.s 40) [.s 44,.s 48]),Ze (.range 10) (bC 50 .lss 49 0)] [0,1,4,10,11,12,50])
(.cond (.s 50) (pr [mS 51 12,bC 52 .add 51 1,mS 10 52] [0,1,4,10,11]) (pr [mS 53 12,mS 11 53] [0,1,4,10,11]))))))))
(.seq (Zs [mS 54 1,mS 13 54] [0,10,13] (.block 2 (.loop ([0,10,13],[]) (.seq (Zs [mS 55 13,mS 56 10,bC 57 .sub 56 1,bS 58 .lss 55 57] [0,10,13,58] (cX 58 2))
(.seq (.block 3 (.dreg [Zc [62,63,64,65,66,67,68,69,70,71,72,73,74] (mS 61 0),Zc [61,63,64,65,66,67,68,69,70,71,72,73,74] (mS 62 13),Zf [61,62,64,65,66,67,68,69,70,71,72,73,74,75] [0] (mS 63 0),Zf [61,62,63,66,67,68,69,70,71,72,73,74,75] [0] (mS 64 13),Zg [61,62,63,66,67,68,69,70,71,72,73,74,75] [0] [3] (bC 65 .add 64 1),Zc [61,62,63,64,65,67,68,71,72,73,74] (mS 66 0),Zc [61,62,63,64,65,66,71,72,73,74] (mS 67 13),Zd [61,62,63,64,65,66,71,72,73,74] [6] (bC 68 .add 67 1),Zd [61,62,63,64,65,71,72,73,74] [5,6,7] (xS 69 6 66 68),Zd [61,62,63,64,65,71,72,73,74] [5,6,7,8] (lT 70 6 69),Zc [61,62,63,64,65,66,67,68,69,70,72] (mS 71 0),Zc [61,62,63,64,65,66,67,68,69,70,71] (mS 72 13),Zd [61,62,63,64,65,66,67,68,69,70] [10,11] (xS 73 6 71 72),Zd [61,62,63,64,65,66,67,68,69,70] [10,11,12] (lT 74 6 73),Zd [63,64,65] [0,1,5,6,7,8,9,10,11,12,13] (xS 75 6 61 62),{o:=sS 6 75 70,hs:=[63,64,65],ws:=[0],bf:=[0,1,5,6,7,8,9,10,11,12,13,14]},Ze (.range 16) (xS 76 6 63 65),{o:=sS 6 76 74,ws:=[0],bf:=(.range 17)}] [0,10,13]))
(pr [mS 59 13,bC 60 .add 59 1,mS 13 60] [0,10,13]))))))
.ret)))) .skip))
(.seq (Zs [mS 77 3,mS 78 2,bS 79 .sub 77 78,bC 80 .eql 79 1] [0,1,2,3,4,80] (.cond (.s 80) (Zs [mS 81 1,mS 14 81] [0,2,4,14] (Zs [mS 82 2,mS 15 82] [0,2,4,14,15] (.seq (.block 4 (.loop ([0,2,4,14,15],[]) (.seq (Zs [mS 83 14,mS 84 15,bS 85 .lss 83 84] [0,2,4,14,15,85] (cX 85 4))
(.block 5 (Zs [mS 86 14,mS 87 15,bS 88 .add 86 87,.convI 89 .u64 (.s 88),.bin 90 false .shr (.s 89) (.c (.int .u64 1)),.convI 91 .i64 (.s 90),mS 16 91] [0,2,4,14,15,16] (.seq (.dreg [Zc [93,94,95,96,97,98,99,100] (mS 92 4),Zc [92,94,97,98,99,100] (mS 93 0),Zc [92,93,97,98,99,100] (mS 94 2),Zd [92,97,98,99,100] [1,2] (xS 95 6 93 94),Zd [92,97,98,99,100] [1,2,3] (lT 96 6 95),Zc [92,93,94,95,96,98] (mS 97 0),Zc [92,93,94,95,96,97] (mS 98 16),Zd [92,93,94,95,96] [5,6] (xS 99 6 97 98),Zd [92,93,94,95,96] [5,6,7] (lT 100 6 99),Ze (.range 9) (.call 101 [] (.s 92) [.s 96,.s 100]),Ze (.range 10) (bC 102 .lss 101 0),Ze (.range 11) (.un 103 .not (.s 102))] [0,2,4,14,15,16,103])
(.cond (.s 103) (pr [mS 104 16,bC 105 .add 104 1,mS 14 105] [0,2,4,14,15]) (pr [mS 106 16,mS 15 106] [0,2,4,14,15]))))))))
(.seq (Zs [mS 107 2,mS 17 107] [0,14,17] (.block 6 (.loop ([0,14,17],[]) (.seq (Zs [mS 108 17,mS 109 14,bS 110 .gtr 108 109] [0,14,17,110] (cX 110 6))
(.seq (.block 7 (.dreg [Zc [114,115,116,117,118,119,120,121,122,123,124,125,126] (mS 113 0),Zc [113,115,116,117,118,119,120,121,122,123,124,125,126] (mS 114 17),Zf [113,114,116,117,118,119,120,121,122,123,124,125,126,127] [0] (mS 115 0),Zf [113,114,115,118,119,120,121,122,123,124,125,126,127] [0] (mS 116 17),Zg [113,114,115,118,119,120,121,122,123,124,125,126,127] [0] [3] (bC 117 .sub 116 1),Zc [113,114,115,116,117,119,120,123,124,125,126] (mS 118 0),Zc [113,114,115,116,117,118,123,124,125,126] (mS 119 17),Zd [113,114,115,116,117,118,123,124,125,126] [6] (bC 120 .sub 119 1),Zd [113,114,115,116,117,123,124,125,126] [5,6,7] (xS 121 6 118 120),Zd [113,114,115,116,117,123,124,125,126] [5,6,7,8] (lT 122 6 121),Zc [113,114,115,116,117,118,119,120,121,122,124] (mS 123 0),Zc [113,114,115,116,117,118,119,120,121,122,123] (mS 124 17),Zd [113,114,115,116,117,118,119,120,121,122] [10,11] (xS 125 6 123 124),Zd [113,114,115,116,117,118,119,120,121,122] [10,11,12] (lT 126 6 125),Zd [115,116,117] [0,1,5,6,7,8,9,10,11,12,13] (xS 127 6 113 114),{o:=sS 6 127 122,hs:=[115,116,117],ws:=[0],bf:=[0,1,5,6,7,8,9,10,11,12,13,14]},Ze (.range 16) (xS 128 6 115 117),{o:=sS 6 128 126,ws:=[0],bf:=(.range 17)}] [0,14,17]))
(pr [mS 111 17,bC 112 .sub 111 1,mS 17 112] [0,14,17]))))))
.ret)))) .skip))
(Zs [mS 129 1,mS 130 3,bS 131 .add 129 130,.convI 132 .u64 (.s 131),.bin 133 false .shr (.s 132) (.c (.int .u64 1)),.convI 134 .i64 (.s 133),mS 18 134] [0,1,2,3,4,18] (Zs [mS 135 18,mS 136 2,bS 137 .add 135 136,mS 19 137] [0,1,2,3,4,18,19] (Zs [.mv 20 (ci 0),.mv 21 (ci 0)] [0,1,2,3,4,18,19] (.seq (Zs [mS 138 2,mS 139 18,bS 140 .gtr 138 139] [0,1,2,3,4,18,19,140] (.cond (.s 140) (Zs [mS 141 19,mS 142 3,bS 143 .sub 141 142,mS 20 143] [0,1,2,3,4,18,19,20] (pr [mS 144 18,mS 21 144] [0,1,2,3,4,18,19,20,21])) (Zs [mS 145 1,mS 20 145] [0,1,2,3,4,18,19,20] (pr [mS 146 2,mS 21 146] [0,1,2,3,4,18,19,20,21]))))
(Zs [mS 147 19,bC 148 .sub 147 1,mS 22 148] [0,1,2,3,4,18,19,20,21,22] (.seq (.block 8 (.loop ([0,1,2,3,4,18,19,20,21,22],[]) (.seq (Zs [mS 149 20,mS 150 21,bS 151 .lss 149 150] [0,1,2,3,4,18,19,20,21,22,151] (cX 151 8))
(.block 9 (Zs [mS 152 20,mS 153 21,bS 154 .add 152 153,.convI 155 .u64 (.s 154),.bin 156 false .shr (.s 155) (.c (.int .u64 1)),.convI 157 .i64 (.s 156),mS 23 157] [0,1,2,3,4,18,19,20,21,22,23] (.seq (.dreg [Zc [159,160,161,162,163,164,165,166,167,168] (mS 158 4),Zc [158,160,161,162,165,166,167,168] (mS 159 0),Zc [158,159,161,165,166,167,168] (mS 160 22),Zc [158,159,160,165,166,167,168] (mS 161 23),Zd [158,159,165,166,167,168] [2,3] (bS 162 .sub 160 161),Zd [158,165,166,167,168] [1,2,3,4] (xS 163 6 159 162),Zd [158,165,166,167,168] [1,2,3,4,5] (lT 164 6 163),Zc [158,159,160,161,162,163,164,166] (mS 165 0),Zc [158,159,160,161,162,163,164,165] (mS 166 23),Zd [158,159,160,161,162,163,164] [7,8] (xS 167 6 165 166),Zd [158,159,160,161,162,163,164] [7,8,9] (lT 168 6 167),Ze (.range 11) (.call 169 [] (.s 158) [.s 164,.s 168]),Ze (.range 12) (bC 170 .lss 169 0),Ze (.range 13) (.un 171 .not (.s 170))] [0,1,2,3,4,18,19,20,21,22,23,171])
(.cond (.s 171) (pr [mS 172 23,bC 173 .add 172 1,mS 20 173] [0,1,2,3,4,18,19,20,21,22]) (pr [mS 174 23,mS 21 174] [0,1,2,3,4,18,19,20,21,22]))))))))
(Zs [mS 175 19,mS 176 20,bS 177 .sub 175 176,mS 24 177] [0,1,2,3,4,18,20,24] (.seq (.seq (.reg [Za (mS 178 20),Za (mS 179 2),Za (bS 180 .lss 178 179),Za (mS 181 180),Zb 181 true (mS 182 2),Zb 181 true (mS 183 24),Zb 181 true (bS 184 .lss 182 183),Za (.pick 185 (.s 181) (.s 184) cF)] [0,1,2,3,4,18,20,24,185])
(.cond (.s 185) (pr [mS 186 0,mS 187 20,mS 188 2,mS 189 24,mS 190 4,.callI 191 [] (.f Nw) [.s 186,.s 187,.s 188,.s 189,.s 190] [0] []] [0,1,3,4,18,20,24]) .skip))
(.seq (.seq (.reg [Za (mS 192 1),Za (mS 193 20),Za (bS 194 .lss 192 193),Za (mS 195 194),Zb 195 true (mS 196 20),Zb 195 true (mS 197 18),Zb 195 true (bS 198 .lss 196 197),Za (.pick 199 (.s 195) (.s 198) cF)] [0,1,3,4,18,20,24,199])
(.cond (.s 199) (pr [mS 200 0,mS 201 1,mS 202 20,mS 203 18,mS 204 4,.callI 205 [] (.f N0) [.s 200,.s 201,.s 202,.s 203,.s 204] [0] []] [0,3,4,18,24]) .skip))
(.seq (.reg [Za (mS 206 18),Za (mS 207 24),Za (bS 208 .lss 206 207),Za (mS 209 208),Zb 209 true (mS 210 24),Zb 209 true (mS 211 3),Zb 209 true (bS 212 .lss 210 211),Za (.pick 213 (.s 209) (.s 212) cF)] [0,3,4,18,24,213])
(.cond (.s 213) (pr [mS 214 0,mS 215 18,mS 216 24,mS 217 3,mS 218 4,.callI 219 [] (.f N0) [.s 214,.s 215,.s 216,.s 217,.s 218] [0] []] []) .skip)))))))))))))
set_option maxHeartbeats 4000000 in
theorem C1u(f:FuncId)(c:GFound→GFound→Int)(hc:∀x y,Ctr Tryz.prog f [aS x.enc,aS y.enc] [rI (c x y)])(hw:Srt.Swo (ltc c))(n:Nat):∀(P X Y Q:List GFound) {a m b:Nat},X.length+Y.length≤n→P.length=a→(P++X).length=m→(P++X++Y).length=b→0<X.length→0<Y.length→Srt.srt (ltc c) X→Srt.srt (ltc c) Y→
  CtrI Tryz.prog N0 [oL 6 ((P++X++Y++Q).map GFound.enc),iI a,iI m,iI b,fI f] [some (6,(P++Srt.mrg (ltc c) X Y++Q).map GFound.enc)] []:=by
 induction n with
 |zero=>intro P X Y Q a m b hn _ _ _ hX;omega
 |succ n ih=>
  intro P X Y Q a m b hn ha hm hb hX hY sX sY
  have hN2:(P++Srt.mrg (ltc c) X Y++Q).length=(P++X++Y++Q).length:=by simp[Srt.len_mrg];omega
  refine K3z (M:=Mq) (m:=0) (n:=220) (res:=[]) hmix Tryz.func149 rfl (by kernel_rfl) rfl (by kernel_rfl) (by kernel_rfl) (Nat.le_of_ble_eq_true rfl) rfl rfl ?_;unfold Mq
  intro hbd
  have hl:=K31 hbd
  clear hbd
  have hm':m=a+X.length:=by rw[←hm,←ha];simp
  have hb':b=m+Y.length:=by rw[←hb,←hm];simp;omega
  have hbN:b≤(P++X++Y++Q).length:=by rw[List.length_append,hb];omega
  generalize hN:(P++X++Y++Q).length=N at*
  simp only[roomB]at hl
  simp only[go_sem,hN,wS (a:=m) (b:=a) (by omega) (by omega)]
  refine⟨fun h1=>?_,fun h1=>?_⟩
  ·obtain⟨x,rfl⟩:∃x,X=[x]:=List.length_eq_one_iff.1 (by omega)
   simp only[List.length_cons,List.length_nil]at hm' hn
   have hxa:(P++[x]++Y++Q)[a]? =some x:=by rw[←ha];simp
   have hya:∀w,w<Y.length→(P++[x]++Y++Q)[m+w]? =Y[w]? :=fun w hw=>by
    rw[List.append_assoc,List.getElem?_append_right (by simp;omega),List.getElem?_append_left (by simp;omega)]
    congr 1;simp;omega
   refine Kv (ι:=Nat×Nat) (fun s=>[(10,vI ((m+s.1:Nat):Int)),(11,vI ((m+s.2:Nat):Int))]) (fun s=>[]) (fun s=>s.1≤s.2∧s.2≤Y.length∧(∀y∈Y.take s.1,ltc c y x=true)∧(∀y∈Y.drop s.2,ltc c y x=false)) (fun s=>s.2-s.1) (0,Y.length) ?_
   simp only[go_sem]
   refine⟨?_,⟨by omega,by omega,by simp,by simp⟩,?_⟩
   ·simp only[go_sem]
    exact⟨by omega,by omega⟩
   ·rintro ⟨u,v⟩ ⟨i1,i2,i3,i4⟩
    simp only at i1 i2 i3 i4
    simp only[go_sem,hN,shr1,K4z (i:=m+u) (j:=m+v) (by omega)]
    refine⟨fun hlt=>?_,fun hge=>?_⟩
    ·have hwx:(m+u+(m+v))/2=m+(u+v)/2:=by omega
     have w1:u≤(u+v)/2:=by omega
     have w2:(u+v)/2<v:=by omega
     rw[hwx]
     generalize (u+v)/2=w at w1 w2
     obtain⟨y,hy⟩:=Kl (show w<Y.length by omega)
     have hyw:=(hya w (by omega)).trans hy
     have k1:(0:Int)≤((m+w:Nat):Int):=by omega
     have k2:((m+w:Nat):Int)<(N:Int):=by omega
     have k3:(0:Int)≤(a:Int):=by omega
     have k4:(a:Int)<(N:Int):=by omega
     simp only[go_sem,wK (k:=m+w) (by omega),k1,k2,k3,k4,K3 hyw,K3 hxa]
     apply K0 (hc y x)
     simp only[go_sem,wN1 (a:=m+w) (by omega)]
     intro _
     refine⟨fun hn=>⟨(w+1,v),⟨rfl,rfl⟩,⟨by omega,i2,Srt.lo_of hw sY hy (by simpa[ltc]using hn),i4⟩,by omega⟩,fun hn=>⟨(u,w),⟨rfl,rfl⟩,⟨w1,by omega,i3,Srt.hi_of hw sY hy (by simpa[ltc]using hn)⟩,by omega⟩⟩
    ·obtain rfl:u=v:=by omega
     have hres:=Srt.mrg_one hw sY i3 i4
     have hlt:∀t,(P++(Y.take t++x::Y.drop t)++Q).length=N:=fun t=>by rw[←hN];simp;omega
     refine Kv (fun t:Nat=>[(13,vI ((a+t:Nat):Int))]) (fun t=>[(0,⟨1,.row true 6 ((P++(Y.take t++x::Y.drop t)++Q).map GFound.enc)⟩)]) (fun t=>t≤u) (fun t=>u-t) 0 ?_
     simp only[go_sem]
     refine⟨?_,by omega,?_⟩
     ·simp only[go_sem]
      simp
     ·intro t ht
      have hs1:IntKind.i64.wrap (((m+u:Nat):Int)-1)=((a+u:Nat):Int):=by
       rw[wI (by omega) (by omega)];omega
      by_cases htu:t<u
      ·obtain⟨y,hy⟩:=Kl (show t<Y.length by omega)
       have e1:(P++(Y.take t++x::Y.drop t)++Q).map GFound.enc=two ((P++Y.take t).map GFound.enc) x.enc [] y.enc ((Y.drop (t+1)++Q).map GFound.enc):=by simp[two,K1t hy]
       have e2:(P++(Y.take (t+1)++x::Y.drop (t+1))++Q).map GFound.enc=two ((P++Y.take t).map GFound.enc) y.enc [] x.enc ((Y.drop (t+1)++Q).map GFound.enc):=by simp[two,Kj hy]
       have hA:((P++Y.take t).map GFound.enc).length=a+t:=by simp;omega
       have hL0:∀p q,(two ((P++Y.take t).map GFound.enc) p [] q ((Y.drop (t+1)++Q).map GFound.enc)).length=N:=fun p q=>by
        rw[←hlt t];simp[two,K1t hy]
       generalize (P++Y.take t).map GFound.enc=A at*
       generalize (Y.drop (t+1)++Q).map GFound.enc=C at*
       obtain⟨g1,g2,s1,s2,hL,d1,d2⟩:=K7n (A:=A) (B:=[]) (C:=C) (p:=a+t) (q:=a+t+1) hA (by simp)
       have k1:(0:Int)≤((a+t:Nat):Int):=by omega
       have k2:((a+t:Nat):Int)<(N:Int):=by omega
       have k3:(0:Int)≤((a+t+1:Nat):Int):=by omega
       have k4:((a+t+1:Nat):Int)<(N:Int):=by omega
       have k5:((a+t:Nat):Int)<((a+u:Nat):Int):=by omega
       rw[e1]
       simp only[go_sem,hs1,hL0,g1,g2,s1,s2,k1,k2,k3,k4,k5,wN1 (a:=a+t) (by omega)]
       exact⟨t+1,⟨rfl,e2.symm⟩,by omega,by omega⟩
      ·obtain rfl:t=u:=by omega
       simp only[go_sem,hs1]
       rw[hres]
  ·simp only[go_sem,wS (a:=b) (b:=m) (by omega) (by omega)]
   refine⟨fun h2=>?_,fun h2=>?_⟩
   ·obtain⟨y,rfl⟩:∃y,Y=[y]:=List.length_eq_one_iff.1 (by omega)
    simp only[List.length_cons,List.length_nil]at hb' hn
    have hym:(P++X++[y]++Q)[m]? =some y:=by rw[←hm];simp
    have hxa:∀w,w<X.length→(P++X++[y]++Q)[a+w]? =X[w]? :=fun w hw=>by
     rw[List.append_assoc,List.append_assoc,List.getElem?_append_right (by omega),List.getElem?_append_left (by omega)]
     congr 1;omega
    refine Kv (ι:=Nat×Nat) (fun s=>[(14,vI ((a+s.1:Nat):Int)),(15,vI ((a+s.2:Nat):Int))]) (fun s=>[]) (fun s=>s.1≤s.2∧s.2≤X.length∧(∀z∈X.take s.1,ltc c y z=false)∧(∀z∈X.drop s.2,ltc c y z=true)) (fun s=>s.2-s.1) (0,X.length) ?_
    simp only[go_sem]
    refine⟨?_,⟨by omega,by omega,by simp,by simp⟩,?_⟩
    ·simp only[go_sem]
     exact⟨by omega,by omega⟩
    ·rintro ⟨u,v⟩ ⟨i1,i2,i3,i4⟩
     simp only at i1 i2 i3 i4
     simp only[go_sem,hN,shr1,K4z (i:=a+u) (j:=a+v) (by omega)]
     refine⟨fun hlt=>?_,fun hge=>?_⟩
     ·have hwx:(a+u+(a+v))/2=a+(u+v)/2:=by omega
      have w1:u≤(u+v)/2:=by omega
      have w2:(u+v)/2<v:=by omega
      rw[hwx]
      generalize (u+v)/2=w at w1 w2
      obtain⟨x,hx⟩:=Kl (show w<X.length by omega)
      have hxw:=(hxa w (by omega)).trans hx
      have k1:(0:Int)≤((a+w:Nat):Int):=by omega
      have k2:((a+w:Nat):Int)<(N:Int):=by omega
      have k3:(0:Int)≤(m:Int):=by omega
      have k4:(m:Int)<(N:Int):=by omega
      simp only[go_sem,wK (k:=a+w) (by omega),k1,k2,k3,k4,K3 hxw,K3 hym]
      apply K0 (hc y x)
      simp only[go_sem,wN1 (a:=a+w) (by omega)]
      intro _
      refine⟨fun hn=>⟨(w+1,v),⟨rfl,rfl⟩,⟨by omega,i2,Srt.lo_of' hw sX hx (by simpa[ltc]using hn),i4⟩,by omega⟩,fun hn=>⟨(u,w),⟨rfl,rfl⟩,⟨w1,by omega,i3,Srt.hi_of' hw sX hx (by simpa[ltc]using hn)⟩,by omega⟩⟩
     ·obtain rfl:u=v:=by omega
      have hres:=Srt.mrg_last i3 i4
      have hlt:∀t,(P++(X.take t++y::X.drop t)++Q).length=N:=fun t=>by rw[←hN];simp;omega
      refine Kv (fun t:Nat=>[(17,vI ((a+t:Nat):Int))]) (fun t=>[(0,⟨1,.row true 6 ((P++(X.take t++y::X.drop t)++Q).map GFound.enc)⟩)]) (fun t=>u≤t∧t≤X.length) (fun t=>t-u) X.length ?_
      simp only[go_sem]
      refine⟨?_,⟨i2,by omega⟩,?_⟩
      ·simp only[go_sem,hm']
       simp
      ·rintro t ⟨ht,ht2⟩
       by_cases htu:u<t
       ·obtain⟨t,rfl⟩:∃s,t=s+1:=⟨t-1,by omega⟩
        obtain⟨x,hx⟩:=Kl (show t<X.length by omega)
        have e1:(P++(X.take (t+1)++y::X.drop (t+1))++Q).map GFound.enc=two ((P++X.take t).map GFound.enc) x.enc [] y.enc ((X.drop (t+1)++Q).map GFound.enc):=by simp[two,Kj hx]
        have e2:(P++(X.take t++y::X.drop t)++Q).map GFound.enc=two ((P++X.take t).map GFound.enc) y.enc [] x.enc ((X.drop (t+1)++Q).map GFound.enc):=by simp[two,K1t hx]
        have hA:((P++X.take t).map GFound.enc).length=a+t:=by simp;omega
        have hL0:∀p q,(two ((P++X.take t).map GFound.enc) p [] q ((X.drop (t+1)++Q).map GFound.enc)).length=N:=fun p q=>by
         rw[←hlt t];simp[two,K1t hx]
        generalize (P++X.take t).map GFound.enc=A at*
        generalize (X.drop (t+1)++Q).map GFound.enc=C at*
        obtain⟨g1,g2,s1,s2,hL,d1,d2⟩:=K7n (A:=A) (B:=[]) (C:=C) (p:=a+t) (q:=a+t+1) hA (by simp)
        have k1:(0:Int)≤((a+t:Nat):Int):=by omega
        have k2:((a+t:Nat):Int)<(N:Int):=by omega
        have k3:(0:Int)≤((a+t+1:Nat):Int):=by omega
        have k4:((a+t+1:Nat):Int)<(N:Int):=by omega
        have k5:((a+t+1:Nat):Int)>((a+u:Nat):Int):=by omega
        have k6:IntKind.i64.wrap (((a+t+1:Nat):Int)-1)=((a+t:Nat):Int):=by
         rw[wI (by omega) (by omega)];omega
        rw[e1,show a+(t+1)=a+t+1 from rfl]
        simp only[go_sem,hL0,g1,g2,s1,s2,k1,k2,k3,k4,k5,k6]
        exact⟨t,⟨rfl,e2.symm⟩,⟨by omega,by omega⟩,by omega⟩
       ·obtain rfl:t=u:=by omega
        simp only[go_sem]
        rw[hres]
   ·obtain⟨M,hM⟩:∃M,M=(X.length+Y.length)/2:=⟨_,rfl⟩
    have hmid:(a+b)/2=a+M:=by omega
    have hxa:∀w,w<X.length→(P++X++Y++Q)[a+w]? =X[w]? :=fun w hw=>by
     rw[List.append_assoc,List.append_assoc,List.getElem?_append_right (by omega),List.getElem?_append_left (by omega)]
     congr 1;omega
    have hya:∀w,w<Y.length→(P++X++Y++Q)[m+w]? =Y[w]? :=fun w hw=>by
     rw[List.append_assoc,List.getElem?_append_right (by omega),List.getElem?_append_left (by omega)]
     congr 1;omega
    simp only[go_sem,shr1,K4z (i:=a) (j:=b) (by omega),hmid,wK (k:=a+M) (by omega),wN (a:=a+M) (b:=m) (by omega)]
    refine⟨fun h3=>?_,fun h3=>?_⟩
    ·have hs:IntKind.i64.wrap (((a+M+m:Nat):Int)-(b:Int))=((a+(M-Y.length):Nat):Int):=by
      rw[wI (by omega) (by omega)];omega
     simp only[go_sem,hs,wS1 (a:=a+M+m) (by omega) (by omega)]
     obtain⟨u0,hu0⟩:∃u,u=M-Y.length:=⟨_,rfl⟩
     obtain⟨v0,hv0⟩:∃v,v=M:=⟨_,rfl⟩
     rw[←hu0]
     have q1:u0≤v0:=by omega
     have q2:v0≤M:=by omega
     have q3:v0≤X.length:=by omega
     have q4:M≤u0+Y.length:=by omega
     have q5:u0=0∨Y.length≤M-u0:=by omega
     have q6:v0=M∨v0=X.length:=by omega
     have q7:a+M=a+v0:=by omega
     refine Kv (ι:=Nat×Nat) (fun s=>[(20,vI ((a+s.1:Nat):Int)),(21,vI ((a+s.2:Nat):Int))]) (fun s=>[]) (fun s=>SymI (ltc c) X Y M u0 v0 s.1 s.2) (fun s=>s.2-s.1) (u0,v0) ?_
     simp only[go_sem]
     refine⟨?_,⟨by omega,q1,by omega,q5.imp_right .inl,q6.imp_right .inl⟩,?_⟩
     ·simp only[go_sem]
      first|exact⟨by omega,by omega⟩|omega
     ·rintro ⟨u,v⟩ hI
      obtain⟨i1,i2,i3,i4,i5⟩:=hI
      simp only at i1 i2 i3 i4 i5
      simp only[go_sem,hN,shr1,K4z (i:=a+u) (j:=a+v) (by omega)]
      refine⟨fun hlt=>?_,fun hge=>?_⟩
      ·have hwx:(a+u+(a+v))/2=a+(u+v)/2:=by omega
       have w1:u≤(u+v)/2:=by omega
       have w2:(u+v)/2<v:=by omega
       rw[hwx]
       generalize (u+v)/2=w at w1 w2
       have hpc:IntKind.i64.wrap (((a+M+m-1:Nat):Int)-((a+w:Nat):Int))=((m+(M-1-w):Nat):Int):=by
        rw[wI (by omega) (by omega)];omega
       obtain⟨x,hx⟩:=Kl (show w<X.length by omega)
       obtain⟨y,hy⟩:=Kl (show M-1-w<Y.length by omega)
       have hxw:=(hxa w (by omega)).trans hx
       have hyw:=(hya (M-1-w) (by omega)).trans hy
       have k1:(0:Int)≤((a+w:Nat):Int):=by omega
       have k2:((a+w:Nat):Int)<(N:Int):=by omega
       have k3:(0:Int)≤((m+(M-1-w):Nat):Int):=by omega
       have k4:((m+(M-1-w):Nat):Int)<(N:Int):=by omega
       simp only[go_sem,wK (k:=a+w) (by omega),hpc,k1,k2,k3,k4,K3 hxw,K3 hyw]
       apply K0 (hc y x)
       simp only[go_sem,wN1 (a:=a+w) (by omega)]
       intro _
       refine⟨fun hn=>⟨(w+1,v),⟨rfl,rfl⟩,⟨by omega,by omega,i3,.inr (.inr ⟨y,x,by rw[show M-(w+1)=M-1-w by omega];exact hy,hx,by simpa[ltc]using hn⟩),i5⟩,by show v-(w+1)<v-u;omega⟩,fun hn=>⟨(u,w),⟨rfl,rfl⟩,⟨i1,w1,by omega,i4,.inr (.inr ⟨y,x,hy,hx,by simpa[ltc]using hn⟩)⟩,by show w-u<v-u;omega⟩⟩
      ·obtain rfl:u=v:=by omega
       obtain⟨A1,A2,B1,B2,rfl,rfl,hA1,hB1,huM,hres,t1,t2,t3,t4⟩:=SymI.fin hw ⟨i1,i2,i3,i4,i5⟩ sX sY q2 q3 q4
       have hend:IntKind.i64.wrap (((a+M+m:Nat):Int)-((a+u:Nat):Int))=((m+(M-u):Nat):Int):=by
        rw[wI (by omega) (by omega)];omega
       have r0:P++(A1++A2)++(B1++B2)++Q=(P++A1)++A2++B1++(B2++Q):=by simp
       have r1:(P++A1)++B1++A2++(B2++Q)=P++A1++B1++(A2++(B2++Q)):=by simp
       have r2:A2.length=0∨B1.length=0→P++(A1++A2)++(B1++B2)++Q=P++A1++B1++(A2++(B2++Q)):=fun h=>by
        rcases h with h|h
        ·rw[List.length_eq_zero_iff.1 h];simp
        ·rw[List.length_eq_zero_iff.1 h];simp
       have r3:A1.length=0∨B1.length=0→P++A1++B1++(A2++(B2++Q))=(P++Srt.mrg (ltc c) A1 B1)++A2++B2++Q:=fun h=>by
        rcases h with h|h
        ·rw[List.length_eq_zero_iff.1 h,Srt.mrg_nil_srt hw t3];simp
        ·rw[List.length_eq_zero_iff.1 h,Srt.mrg_nil];simp
       have r4:P++Srt.mrg (ltc c) A1 B1++(A2++(B2++Q))=(P++Srt.mrg (ltc c) A1 B1)++A2++B2++Q:=by simp
       have r5:A2.length=0∨B2.length=0→(P++Srt.mrg (ltc c) A1 B1)++A2++B2++Q=(P++Srt.mrg (ltc c) A1 B1)++Srt.mrg (ltc c) A2 B2++Q:=fun h=>by
        rcases h with h|h
        ·rw[List.length_eq_zero_iff.1 h,Srt.mrg_nil_srt hw t4];simp
        ·rw[List.length_eq_zero_iff.1 h,Srt.mrg_nil];simp
       have r6:P++Srt.mrg (ltc c) (A1++A2) (B1++B2)++Q=(P++Srt.mrg (ltc c) A1 B1)++Srt.mrg (ltc c) A2 B2++Q:=by rw[hres];simp
       obtain⟨⟨l0,l1,l2,l3,l4,l5⟩,⟨L1,L2,L3,L4,L5,L6,L7⟩,hn1,hn2,⟨eA,eB,eC,eD,eE,eF⟩,h7⟩:=symL (ltc c) ha hA1 hB1 huM hm' hb' hN hM hn h1 h2 hX hY
       clear hxa hya hres i4 i5
       rcases h7 with ⟨z1,z2,z3,z4⟩|⟨z1,z2,z3,z4⟩|⟨z1,z2,z3,z4⟩|⟨z1,z2,z3,z4⟩|⟨z1,z2,z3,z4⟩|⟨z1,z2,z3,z4⟩|⟨z1,z2,z3,z4⟩
       ·have fA:=K5 A2.length eA z2
        have fB:=K5 B1.length eB z3
        have fC:=K5 A1.length eC z1
        have fD:=K5 B1.length eD z3
        have fE:=K5 A2.length eE z2
        have fF:=K5 B2.length eF z4
        simp only[go_sem,hend,fA,fB,fC,fD,fE,fF]
        rw[r0]
        apply K9 (C1 (P++A1) A2 B1 (B2++Q) f L1 L2 L3 z2 z3)
        simp only[go_sem,fC,fD,l0]
        rw[r1]
        apply K9 (ih P A1 B1 (A2++(B2++Q)) hn1 ha L1 L4 z1 z3 t1 t3)
        simp only[go_sem,fE,fF,l4]
        rw[r4]
        apply K9 (ih (P++Srt.mrg (ltc c) A1 B1) A2 B2 Q hn2 L5 L6 L7 z2 z4 t2 t4)
        simp only[go_sem]
        rw[r6]
       ·have fA:=K5 A2.length eA z2
        have fB:=K5 B1.length eB z3
        have fC:=Kz A1.length eC z1
        have fD:=K5 B1.length eD z3
        have fE:=K5 A2.length eE z2
        have fF:=K5 B2.length eF z4
        simp only[go_sem,hend,fA,fB,fC,fD,fE,fF]
        rw[r0]
        apply K9 (C1 (P++A1) A2 B1 (B2++Q) f L1 L2 L3 z2 z3)
        simp only[go_sem,fC,fE,fF,l0]
        rw[r1]
        rw[r3 (.inl z1)]
        apply K9 (ih (P++Srt.mrg (ltc c) A1 B1) A2 B2 Q hn2 L5 L6 L7 z2 z4 t2 t4)
        simp only[go_sem]
        rw[r6]
       ·have fA:=Kz A2.length eA z2
        have fB:=K5 B1.length eB z3
        have fC:=K5 A1.length eC z1
        have fD:=K5 B1.length eD z3
        have fE:=Kz A2.length eE z2
        have fF:=K5 B2.length eF z4
        simp only[go_sem,hend,fA,fB,fC,fD,fE,fF]
        rw[r2 (.inl z2)]
        apply K9 (ih P A1 B1 (A2++(B2++Q)) hn1 ha L1 L4 z1 z3 t1 t3)
        simp only[go_sem,fE]
        rw[r4]
        rw[r5 (.inl z2)]
        rw[r6]
       ·have fA:=K5 A2.length eA z2
        have fB:=Kz B1.length eB z3
        have fC:=K5 A1.length eC z1
        have fD:=Kz B1.length eD z3
        have fE:=K5 A2.length eE z2
        have fF:=K5 B2.length eF z4
        simp only[go_sem,hend,fA,fB,fC,fD,fE,fF]
        rw[r2 (.inr z3)]
        rw[r3 (.inr z3)]
        apply K9 (ih (P++Srt.mrg (ltc c) A1 B1) A2 B2 Q hn2 L5 L6 L7 z2 z4 t2 t4)
        simp only[go_sem]
        rw[r6]
       ·have fA:=K5 A2.length eA z2
        have fB:=K5 B1.length eB z3
        have fC:=K5 A1.length eC z1
        have fD:=K5 B1.length eD z3
        have fE:=K5 A2.length eE z2
        have fF:=Kz B2.length eF z4
        simp only[go_sem,hend,fA,fB,fC,fD,fE,fF]
        rw[r0]
        apply K9 (C1 (P++A1) A2 B1 (B2++Q) f L1 L2 L3 z2 z3)
        simp only[go_sem,fC,fD,l0]
        rw[r1]
        apply K9 (ih P A1 B1 (A2++(B2++Q)) hn1 ha L1 L4 z1 z3 t1 t3)
        simp only[go_sem,fE,fF]
        rw[r4]
        rw[r5 (.inr z4)]
        rw[r6]
       ·have fA:=K5 A2.length eA z2
        have fB:=K5 B1.length eB z3
        have fC:=Kz A1.length eC z1
        have fD:=K5 B1.length eD z3
        have fE:=K5 A2.length eE z2
        have fF:=Kz B2.length eF z4
        simp only[go_sem,hend,fA,fB,fC,fD,fE,fF]
        rw[r0]
        apply K9 (C1 (P++A1) A2 B1 (B2++Q) f L1 L2 L3 z2 z3)
        simp only[go_sem,fC,fE,fF]
        rw[r1]
        rw[r3 (.inl z1)]
        rw[r5 (.inr z4)]
        rw[r6]
       ·have fA:=Kz A2.length eA z2
        have fB:=Kz B1.length eB z3
        have fC:=K5 A1.length eC z1
        have fD:=Kz B1.length eD z3
        have fE:=Kz A2.length eE z2
        have fF:=K5 B2.length eF z4
        simp only[go_sem,hend,fA,fB,fC,fD,fE,fF]
        rw[r2 (.inl z2)]
        rw[r3 (.inr z3)]
        rw[r5 (.inl z2)]
        rw[r6]
    ·simp only[go_sem,wS1 (a:=a+M+m) (by omega) (by omega)]
     obtain⟨u0,hu0⟩:∃u,u=0:=⟨_,rfl⟩
     obtain⟨v0,hv0⟩:∃v,v=X.length:=⟨_,rfl⟩
     have q1:u0≤v0:=by omega
     have q2:v0≤M:=by omega
     have q3:v0≤X.length:=by omega
     have q4:M≤u0+Y.length:=by omega
     have q5:u0=0∨Y.length≤M-u0:=by omega
     have q6:v0=M∨v0=X.length:=by omega
     refine Kv (ι:=Nat×Nat) (fun s=>[(20,vI ((a+s.1:Nat):Int)),(21,vI ((a+s.2:Nat):Int))]) (fun s=>[]) (fun s=>SymI (ltc c) X Y M u0 v0 s.1 s.2) (fun s=>s.2-s.1) (u0,v0) ?_
     simp only[go_sem]
     refine⟨?_,⟨by omega,q1,by omega,q5.imp_right .inl,q6.imp_right .inl⟩,?_⟩
     ·simp only[go_sem]
      first|exact⟨by omega,by omega⟩|omega
     ·rintro ⟨u,v⟩ hI
      obtain⟨i1,i2,i3,i4,i5⟩:=hI
      simp only at i1 i2 i3 i4 i5
      simp only[go_sem,hN,shr1,K4z (i:=a+u) (j:=a+v) (by omega)]
      refine⟨fun hlt=>?_,fun hge=>?_⟩
      ·have hwx:(a+u+(a+v))/2=a+(u+v)/2:=by omega
       have w1:u≤(u+v)/2:=by omega
       have w2:(u+v)/2<v:=by omega
       rw[hwx]
       generalize (u+v)/2=w at w1 w2
       have hpc:IntKind.i64.wrap (((a+M+m-1:Nat):Int)-((a+w:Nat):Int))=((m+(M-1-w):Nat):Int):=by
        rw[wI (by omega) (by omega)];omega
       obtain⟨x,hx⟩:=Kl (show w<X.length by omega)
       obtain⟨y,hy⟩:=Kl (show M-1-w<Y.length by omega)
       have hxw:=(hxa w (by omega)).trans hx
       have hyw:=(hya (M-1-w) (by omega)).trans hy
       have k1:(0:Int)≤((a+w:Nat):Int):=by omega
       have k2:((a+w:Nat):Int)<(N:Int):=by omega
       have k3:(0:Int)≤((m+(M-1-w):Nat):Int):=by omega
       have k4:((m+(M-1-w):Nat):Int)<(N:Int):=by omega
       simp only[go_sem,wK (k:=a+w) (by omega),hpc,k1,k2,k3,k4,K3 hxw,K3 hyw]
       apply K0 (hc y x)
       simp only[go_sem,wN1 (a:=a+w) (by omega)]
       intro _
       refine⟨fun hn=>⟨(w+1,v),⟨rfl,rfl⟩,⟨by omega,by omega,i3,.inr (.inr ⟨y,x,by rw[show M-(w+1)=M-1-w by omega];exact hy,hx,by simpa[ltc]using hn⟩),i5⟩,by show v-(w+1)<v-u;omega⟩,fun hn=>⟨(u,w),⟨rfl,rfl⟩,⟨i1,w1,by omega,i4,.inr (.inr ⟨y,x,hy,hx,by simpa[ltc]using hn⟩)⟩,by show w-u<v-u;omega⟩⟩
      ·obtain rfl:u=v:=by omega
       obtain⟨A1,A2,B1,B2,rfl,rfl,hA1,hB1,huM,hres,t1,t2,t3,t4⟩:=SymI.fin hw ⟨i1,i2,i3,i4,i5⟩ sX sY q2 q3 q4
       have hend:IntKind.i64.wrap (((a+M+m:Nat):Int)-((a+u:Nat):Int))=((m+(M-u):Nat):Int):=by
        rw[wI (by omega) (by omega)];omega
       have r0:P++(A1++A2)++(B1++B2)++Q=(P++A1)++A2++B1++(B2++Q):=by simp
       have r1:(P++A1)++B1++A2++(B2++Q)=P++A1++B1++(A2++(B2++Q)):=by simp
       have r2:A2.length=0∨B1.length=0→P++(A1++A2)++(B1++B2)++Q=P++A1++B1++(A2++(B2++Q)):=fun h=>by
        rcases h with h|h
        ·rw[List.length_eq_zero_iff.1 h];simp
        ·rw[List.length_eq_zero_iff.1 h];simp
       have r3:A1.length=0∨B1.length=0→P++A1++B1++(A2++(B2++Q))=(P++Srt.mrg (ltc c) A1 B1)++A2++B2++Q:=fun h=>by
        rcases h with h|h
        ·rw[List.length_eq_zero_iff.1 h,Srt.mrg_nil_srt hw t3];simp
        ·rw[List.length_eq_zero_iff.1 h,Srt.mrg_nil];simp
       have r4:P++Srt.mrg (ltc c) A1 B1++(A2++(B2++Q))=(P++Srt.mrg (ltc c) A1 B1)++A2++B2++Q:=by simp
       have r5:A2.length=0∨B2.length=0→(P++Srt.mrg (ltc c) A1 B1)++A2++B2++Q=(P++Srt.mrg (ltc c) A1 B1)++Srt.mrg (ltc c) A2 B2++Q:=fun h=>by
        rcases h with h|h
        ·rw[List.length_eq_zero_iff.1 h,Srt.mrg_nil_srt hw t4];simp
        ·rw[List.length_eq_zero_iff.1 h,Srt.mrg_nil];simp
       have r6:P++Srt.mrg (ltc c) (A1++A2) (B1++B2)++Q=(P++Srt.mrg (ltc c) A1 B1)++Srt.mrg (ltc c) A2 B2++Q:=by rw[hres];simp
       obtain⟨⟨l0,l1,l2,l3,l4,l5⟩,⟨L1,L2,L3,L4,L5,L6,L7⟩,hn1,hn2,⟨eA,eB,eC,eD,eE,eF⟩,h7⟩:=symL (ltc c) ha hA1 hB1 huM hm' hb' hN hM hn h1 h2 hX hY
       clear hxa hya hres i4 i5
       rcases h7 with ⟨z1,z2,z3,z4⟩|⟨z1,z2,z3,z4⟩|⟨z1,z2,z3,z4⟩|⟨z1,z2,z3,z4⟩|⟨z1,z2,z3,z4⟩|⟨z1,z2,z3,z4⟩|⟨z1,z2,z3,z4⟩
       ·have fA:=K5 A2.length eA z2
        have fB:=K5 B1.length eB z3
        have fC:=K5 A1.length eC z1
        have fD:=K5 B1.length eD z3
        have fE:=K5 A2.length eE z2
        have fF:=K5 B2.length eF z4
        simp only[go_sem,hend,fA,fB,fC,fD,fE,fF]
        rw[r0]
        apply K9 (C1 (P++A1) A2 B1 (B2++Q) f L1 L2 L3 z2 z3)
        simp only[go_sem,fC,fD,l0]
        rw[r1]
        apply K9 (ih P A1 B1 (A2++(B2++Q)) hn1 ha L1 L4 z1 z3 t1 t3)
        simp only[go_sem,fE,fF,l4]
        rw[r4]
        apply K9 (ih (P++Srt.mrg (ltc c) A1 B1) A2 B2 Q hn2 L5 L6 L7 z2 z4 t2 t4)
        simp only[go_sem]
        rw[r6]
       ·have fA:=K5 A2.length eA z2
        have fB:=K5 B1.length eB z3
        have fC:=Kz A1.length eC z1
        have fD:=K5 B1.length eD z3
        have fE:=K5 A2.length eE z2
        have fF:=K5 B2.length eF z4
        simp only[go_sem,hend,fA,fB,fC,fD,fE,fF]
        rw[r0]
        apply K9 (C1 (P++A1) A2 B1 (B2++Q) f L1 L2 L3 z2 z3)
        simp only[go_sem,fC,fE,fF,l0]
        rw[r1]
        rw[r3 (.inl z1)]
        apply K9 (ih (P++Srt.mrg (ltc c) A1 B1) A2 B2 Q hn2 L5 L6 L7 z2 z4 t2 t4)
        simp only[go_sem]
        rw[r6]
       ·have fA:=Kz A2.length eA z2
        have fB:=K5 B1.length eB z3
        have fC:=K5 A1.length eC z1
        have fD:=K5 B1.length eD z3
        have fE:=Kz A2.length eE z2
        have fF:=K5 B2.length eF z4
        simp only[go_sem,hend,fA,fB,fC,fD,fE,fF]
        rw[r2 (.inl z2)]
        apply K9 (ih P A1 B1 (A2++(B2++Q)) hn1 ha L1 L4 z1 z3 t1 t3)
        simp only[go_sem,fE]
        rw[r4]
        rw[r5 (.inl z2)]
        rw[r6]
       ·have fA:=K5 A2.length eA z2
        have fB:=Kz B1.length eB z3
        have fC:=K5 A1.length eC z1
        have fD:=Kz B1.length eD z3
        have fE:=K5 A2.length eE z2
        have fF:=K5 B2.length eF z4
        simp only[go_sem,hend,fA,fB,fC,fD,fE,fF]
        rw[r2 (.inr z3)]
        rw[r3 (.inr z3)]
        apply K9 (ih (P++Srt.mrg (ltc c) A1 B1) A2 B2 Q hn2 L5 L6 L7 z2 z4 t2 t4)
        simp only[go_sem]
        rw[r6]
       ·have fA:=K5 A2.length eA z2
        have fB:=K5 B1.length eB z3
        have fC:=K5 A1.length eC z1
        have fD:=K5 B1.length eD z3
        have fE:=K5 A2.length eE z2
        have fF:=Kz B2.length eF z4
        simp only[go_sem,hend,fA,fB,fC,fD,fE,fF]
        rw[r0]
        apply K9 (C1 (P++A1) A2 B1 (B2++Q) f L1 L2 L3 z2 z3)
        simp only[go_sem,fC,fD,l0]
        rw[r1]
        apply K9 (ih P A1 B1 (A2++(B2++Q)) hn1 ha L1 L4 z1 z3 t1 t3)
        simp only[go_sem,fE,fF]
        rw[r4]
        rw[r5 (.inr z4)]
        rw[r6]
       ·have fA:=K5 A2.length eA z2
        have fB:=K5 B1.length eB z3
        have fC:=Kz A1.length eC z1
        have fD:=K5 B1.length eD z3
        have fE:=K5 A2.length eE z2
        have fF:=Kz B2.length eF z4
        simp only[go_sem,hend,fA,fB,fC,fD,fE,fF]
        rw[r0]
        apply K9 (C1 (P++A1) A2 B1 (B2++Q) f L1 L2 L3 z2 z3)
        simp only[go_sem,fC,fE,fF]
        rw[r1]
        rw[r3 (.inl z1)]
        rw[r5 (.inr z4)]
        rw[r6]
       ·have fA:=Kz A2.length eA z2
        have fB:=Kz B1.length eB z3
        have fC:=K5 A1.length eC z1
        have fD:=Kz B1.length eD z3
        have fE:=Kz A2.length eE z2
        have fF:=K5 B2.length eF z4
        simp only[go_sem,hend,fA,fB,fC,fD,fE,fF]
        rw[r2 (.inl z2)]
        rw[r3 (.inr z3)]
        rw[r5 (.inl z2)]
        rw[r6]
end Go.Proofs.YtflhjihoifbmfaaGreatDoorR
namespace Go.Proofs.YtflhjihoifbmfaaGreatDoorR
open Go Go.RowKit Go.Proofs
open Nat (reduceEqDiff reduceLT reduceLeDiff reduceAdd reduceMul)
open List (reduceReplicate)
namespace Srt
variable {α:Type} {lt:α→α→Bool}
def blks(lt:α→α→Bool)(s:Nat):Nat→List α→List α
 |0,l=>l
 |k+1,l=>isort lt (l.take s)++blks lt s k (l.drop s)
theorem len_blks{s:Nat}:∀ {k:Nat} {l:List α},(blks lt s k l).length=l.length
 |0,l=>rfl
 |k+1,l=>by
  simp only[blks,List.length_append,len_isort,len_blks,List.length_take,List.length_drop];omega
theorem blks_snoc{s:Nat}:∀ {k:Nat} {l:List α},(k+1)*s≤l.length→∃A,A.length=k*s∧blks lt s k l=A++((l.drop (k*s)).take s++l.drop ((k+1)*s))∧blks lt s (k+1) l=A++(isort lt ((l.drop (k*s)).take s)++l.drop ((k+1)*s))
 |0,l,h=>⟨[],by simp,by simp[blks],by simp[blks]⟩
 |k+1,l,h=>by
  have h':(k+1)*s≤(l.drop s).length:=by
   rw[Nat.succ_mul]at h
   simp only[List.length_drop];omega
  obtain⟨A,hA,e1,e2⟩:=blks_snoc (k:=k) (l:=l.drop s) h'
  have d1:s+k*s=(k+1)*s:=by rw[Nat.succ_mul];omega
  have d2:s+(k+1)*s=(k+1+1)*s:=by rw[Nat.succ_mul (k+1)];omega
  have hs:s≤l.length:=by rw[Nat.succ_mul]at h;omega
  refine⟨isort lt (l.take s)++A,?_,?_,?_⟩
  ·rw[List.length_append,len_isort,List.length_take,Nat.min_eq_left hs,hA,d1]
  ·rw[blks,e1,List.drop_drop,List.drop_drop,d1,d2,List.append_assoc]
  ·rw[blks,e2,List.drop_drop,List.drop_drop,d1,d2,List.append_assoc]
theorem blks_last{s:Nat}:∀ {k:Nat} {l:List α},k*s≤l.length→l.length<(k+1)*s→∃A,A.length=k*s∧blks lt s k l=A++l.drop (k*s)∧blks lt s (k+1) l=A++isort lt (l.drop (k*s))
 |0,l,_,h=>by
  have h':l.length≤s:=by omega
  exact⟨[],by simp,by simp[blks],by simp[blks,List.take_of_length_le h',List.drop_of_length_le h']⟩
 |k+1,l,h0,h=>by
  have d1:s+k*s=(k+1)*s:=by rw[Nat.succ_mul];omega
  have d2:s+(k+1)*s=(k+1+1)*s:=by rw[Nat.succ_mul (k+1)];omega
  have h1:k*s+s≤l.length:=by rw[←Nat.succ_mul];exact h0
  have h2:l.length<k*s+s+s:=by rw[←Nat.succ_mul,←Nat.succ_mul];exact h
  obtain⟨A,hA,e1,e2⟩:=blks_last (k:=k) (l:=l.drop s) (Nat.le_trans (Nat.le_sub_of_add_le h1) (by rw[List.length_drop];exact Nat.le_refl _)) (by rw[List.length_drop,Nat.succ_mul];exact Nat.sub_lt_right_of_lt_add (Nat.le_trans (Nat.le_add_left _ _) h1) h2)
  have hs:s≤l.length:=Nat.le_trans (Nat.le_add_left _ _) h1
  refine⟨isort lt (l.take s)++A,?_,?_,?_⟩
  ·rw[List.length_append,len_isort,List.length_take,Nat.min_eq_left hs,hA,d1]
  ·rw[blks,e1,List.drop_drop,d1,List.append_assoc]
  ·rw[blks,e2,List.drop_drop,d1,List.append_assoc]
theorem blk_le{s:Nat}{l:List α}(h:l.length≤s):blk lt s l=isort lt l:=by
 rw[blk,dif_pos (.inr h)]
theorem K45{s:Nat}{l:List α}:blk lt s l=isort lt (l.take s)++blk lt s (l.drop s):=by
 by_cases h:s=0∨l.length≤s
 ·rcases h with rfl|h
  ·simp[isort,mrg]
  ·rw[blk_le h,List.take_of_length_le h,List.drop_of_length_le h,blk_le (by simp)]
   simp[isort,mrg]
 ·rw[blk,dif_neg h]
theorem len_blk{s:Nat}:∀ {n:Nat} {l:List α},l.length≤n→(blk lt s l).length=l.length
 |0,l,h=>by rw[blk_le (by omega),len_isort]
 |n+1,l,h=>by
  by_cases h2:s=0∨l.length≤s
  ·rw[blk,dif_pos h2,len_isort]
  ·rw[K45,List.length_append,len_isort,len_blk (n:=n) (by simp only[List.length_drop];omega),List.length_take,List.length_drop]
   omega
theorem blks_blk{s:Nat}:∀ {k:Nat} {l:List α},k*s≤l.length→l.length<(k+1)*s→blks lt s (k+1) l=blk lt s l
 |0,l,_,h=>by
  have h':l.length≤s:=by omega
  rw[blk_le h']
  simp[blks,List.take_of_length_le h',List.drop_of_length_le h']
 |k+1,l,h0,h=>by
  rw[Nat.succ_mul]at h0 h
  rw[blks,K45,blks_blk (k:=k) (l:=l.drop s) (by rw[List.length_drop];omega) (by rw[List.length_drop];omega)]
def mix(lt:α→α→Bool)(s:Nat):Nat→List α→List α
 |0,l=>blk lt s l
 |k+1,l=>isort lt (l.take (2*s))++mix lt s k (l.drop (2*s))
theorem len_mix{s:Nat}:∀ {k:Nat} {l:List α},(mix lt s k l).length=l.length
 |0,l=>len_blk (Nat.le_refl _)
 |k+1,l=>by
  rw[mix,List.length_append,len_isort,len_mix,List.length_take,List.length_drop];omega
theorem mix_step(hw:Swo lt){s:Nat}:∀ {k:Nat} {l:List α},k*(2*s)+2*s≤l.length→∃P X Y Q,P.length=k*(2*s)∧X.length=s∧Y.length=s∧srt lt X∧srt lt Y∧mix lt s k l=P++X++Y++Q∧mix lt s (k+1) l=P++mrg lt X Y++Q
 |0,l,h=>by
  refine⟨[],isort lt (l.take s),isort lt ((l.drop s).take s),blk lt s (l.drop (2*s)),by simp,?_,?_,srt_isort hw _,srt_isort hw _,?_,?_⟩
  ·rw[len_isort,List.length_take];omega
  ·rw[len_isort,List.length_take,List.length_drop];omega
  ·rw[mix,K45,K45 (l:=l.drop s),List.drop_drop,show s+s=2*s by omega]
   simp
  ·rw[←K5v hw,mix,mix,List.nil_append,←List.take_add,show s+s=2*s by omega]
 |k+1,l,h=>by
  have e:(k+1)*(2*s)=k*(2*s)+2*s:=Nat.succ_mul ..
  rw[e]at h
  obtain⟨P,X,Y,Q,h1,h2,h3,h4,h5,h6,h7⟩:=mix_step hw (s:=s) (k:=k) (l:=l.drop (2*s)) (by rw[List.length_drop];omega)
  refine⟨isort lt (l.take (2*s))++P,X,Y,Q,?_,h2,h3,h4,h5,?_,?_⟩
  ·rw[List.length_append,len_isort,h1,List.length_take,e];omega
  ·rw[mix,h6];simp
  ·rw[mix,h7];simp
theorem mix_end(hw:Swo lt){s:Nat}:∀ {k:Nat} {l:List α},k*(2*s)≤l.length→l.length<k*(2*s)+2*s→
  (k*(2*s)+s<l.length→∃P X Y,P.length=k*(2*s)∧X.length=s∧k*(2*s)+s+Y.length=l.length∧srt lt X∧srt lt Y∧mix lt s k l=P++X++Y∧blk lt (2*s) l=P++mrg lt X Y)∧
  (l.length≤k*(2*s)+s→mix lt s k l=blk lt (2*s) l)
 |0,l,h0,h=>by
  refine⟨fun h1=>⟨[],isort lt (l.take s),isort lt (l.drop s),by simp,?_,?_,srt_isort hw _,srt_isort hw _,?_,?_⟩,fun h1=>?_⟩
  ·rw[len_isort,List.length_take];omega
  ·rw[len_isort,List.length_drop];omega
  ·rw[mix,K45,blk_le (l:=l.drop s) (by rw[List.length_drop];omega),List.nil_append]
  ·rw[←K5v hw,List.take_append_drop,blk_le (by omega),List.nil_append]
  ·rw[mix,blk_le (by omega),blk_le (by omega)]
 |k+1,l,h0,h=>by
  have e:(k+1)*(2*s)=k*(2*s)+2*s:=Nat.succ_mul ..
  rw[e]at h h0
  obtain⟨i1,i2⟩:=mix_end hw (s:=s) (k:=k) (l:=l.drop (2*s)) (by rw[List.length_drop];omega) (by rw[List.length_drop];omega)
  rw[List.length_drop]at i1 i2
  rw[e]
  refine⟨fun h1=>?_,fun h1=>?_⟩
  ·obtain⟨P,X,Y,h1,h2,h3,h4,h5,h6,h7⟩:=i1 (by omega)
   refine⟨isort lt (l.take (2*s))++P,X,Y,?_,h2,by omega,h4,h5,?_,?_⟩
   ·rw[List.length_append,len_isort,h1,List.length_take];omega
   ·rw[mix,h6];simp
   ·rw[K45,h7];simp
  ·rw[mix,i2 (by omega),←K45]
end Srt
def Mv:MC:=
(Zs [.mv 6 (ci 20)] [0,1,2,6] (Zs [mS 10 6,.mv 7 (ci 0),mS 8 10] [0,1,2,6,7,8] (.seq (.block 0 (.loop ([0,1,2,6,7,8],[]) (.seq (Zs [mS 11 8,mS 12 1,bS 13 .leq 11 12] [0,1,2,6,7,8,13] (cX 13 0))
(.block 1 (Zs [mS 14 0,mS 15 7,mS 16 8,mS 17 2,.callI 18 [] (.f N3) [.s 14,.s 15,.s 16,.s 17] [0] []] [0,1,2,6,8] (Zs [mS 19 8,mS 7 19] [0,1,2,6,7,8] (pr [mS 20 8,mS 21 6,bS 22 .add 20 21,mS 8 22] [0,1,2,6,7,8])))))))
(Zs [mS 23 0,mS 24 7,mS 25 1,mS 26 2,.callI 27 [] (.f N3) [.s 23,.s 24,.s 25,.s 26] [0] []] [0,1,2,6] (.block 2 (.loop ([0,1,2,6],[]) (.seq (Zs [mS 28 6,mS 29 1,bS 30 .lss 28 29] [0,1,2,6,30] (cX 30 2))
(.block 3 (Zs [mS 31 6,.bin 32 false .mul (ci 2) (.s 31),.mv 7 (ci 0),mS 8 32] [0,1,2,6,7,8] (.seq (.block 4 (.loop ([0,1,2,6,7,8],[]) (.seq (Zs [mS 33 8,mS 34 1,bS 35 .leq 33 34] [0,1,2,6,7,8,35] (cX 35 4))
(.block 5 (Zs [mS 36 0,mS 37 7,mS 38 7,mS 39 6,bS 40 .add 38 39,mS 41 8,mS 42 2,.callI 43 [] (.f N0) [.s 36,.s 37,.s 40,.s 41,.s 42] [0] []] [0,1,2,6,8] (Zs [mS 44 8,mS 7 44] [0,1,2,6,7,8] (pr [mS 45 8,mS 46 6,.bin 47 false .mul (ci 2) (.s 46),bS 48 .add 45 47,mS 8 48] [0,1,2,6,7,8])))))))
(.seq (Zs [mS 49 7,mS 50 6,bS 51 .add 49 50,mS 9 51] [0,1,2,6,7,9] (Zs [mS 52 9,mS 53 1,bS 54 .lss 52 53] [0,1,2,6,7,9,54] (.cond (.s 54) (pr [mS 55 0,mS 56 7,mS 57 9,mS 58 1,mS 59 2,.callI 60 [] (.f N0) [.s 55,.s 56,.s 57,.s 58,.s 59] [0] []] [0,1,2,6]) .skip)))
(pr [mS 61 6,bC 62 .mul 61 2,mS 6 62] [0,1,2,6]))))))))))))
set_option maxHeartbeats 4000000 in
theorem C81(X:List GFound)(f:FuncId)(c:GFound→GFound→Int)(hc:∀x y,Ctr Tryz.prog f [aS x.enc,aS y.enc] [rI (c x y)])(hw:Srt.Swo (ltc c)):CtrI Tryz.prog Nx [oL 6 (X.map GFound.enc),iI X.length,fI f] [some (6,(Srt.isort (ltc c) X).map GFound.enc)] []:=by
 refine K3z (M:=Mv) (m:=0) (n:=63) (res:=[]) hmix Tryz.func141 rfl (by kernel_rfl) rfl (by kernel_rfl) (by kernel_rfl) (Nat.le_of_ble_eq_true rfl) rfl rfl ?_;unfold Mv
 intro hbd
 have hl:=K31 hbd
 clear hbd
 simp only[roomB]at hl
 simp only[go_sem]
 refine Kv (fun k:Nat=>[(7,vI ((k*20:Nat):Int)),(8,vI (((k+1)*20:Nat):Int))]) (fun k=>[(0,⟨1,.row true 6 ((Srt.blks (ltc c) 20 k X).map GFound.enc)⟩)]) (fun k=>k*20≤X.length) (fun k=>X.length-k*20) 0 ?_
 simp only[go_sem]
 refine⟨?_,by omega,?_⟩
 ·simp only[go_sem]
  exact⟨rfl,rfl⟩
 ·intro k hk
  simp only[go_sem,Srt.len_blks]
  refine⟨fun hlt=>?_,fun hge=>?_⟩
  ·obtain⟨A,hA,e1,e2⟩:=Srt.blks_snoc (lt:=ltc c) (s:=20) (k:=k) (l:=X) (by omega)
   have g1:=congrArg List.length e1
   have g2:=congrArg List.length e2
   rw[Srt.len_blks]at g1 g2
   rw[←List.append_assoc]at e1 e2 g1 g2
   rw[e1]
   apply K9 (C1a A _ _ f c hc hw hA (by simp[hA];omega))
   have w1:IntKind.i64.wrap ((((k+1)*20:Nat):Int)+20)=(((k+1+1)*20:Nat):Int):=by
    rw[wI (by omega) (by omega)];omega
   simp only[go_sem,w1]
   exact⟨k+1,⟨⟨rfl,rfl⟩,by rw[e2]⟩,by omega,by omega⟩
  ·obtain⟨A,hA,e1,e2⟩:=Srt.blks_last (lt:=ltc c) (s:=20) (k:=k) (l:=X) (by omega) (by omega)
   have g1:=congrArg List.length e1
   have g2:=congrArg List.length e2
   rw[Srt.len_blks]at g1 g2
   have e1':A++X.drop (k*20)=A++X.drop (k*20)++[]:=by simp
   rw[e1,e1']
   apply K9 (C1a A _ [] f c hc hw hA (by simp[hA];omega))
   rw[List.append_nil,←e2]
   rw[Srt.blks_blk (by omega) (by omega)]
   simp only[go_sem]
   refine Kv (fun s:Nat=>[(6,vI (s:Int))]) (fun s=>[(0,⟨1,.row true 6 ((Srt.blk (ltc c) s X).map GFound.enc)⟩)]) (fun s=>0<s∧s≤2*X.length+20) (fun s=>X.length-s) 20 ?_
   simp only[go_sem]
   refine⟨?_,⟨by omega,by omega⟩,?_⟩
   ·simp only[go_sem]
    first|rfl|exact⟨rfl,rfl⟩
   ·rintro s ⟨hs0,hs1⟩
    clear e1' e1 e2 g1 g2 hA A hge hk
    have w2:IntKind.i64.wrap (2*(s:Int))=((2*s:Nat):Int):=by rw[wI (by omega) (by omega)];omega
    have w3:IntKind.i64.wrap ((s:Int)*2)=((2*s:Nat):Int):=by rw[wI (by omega) (by omega)];omega
    simp only[go_sem,w2]
    refine⟨fun hlt=>?_,fun hge=>?_⟩
    ·refine Kv (fun k:Nat=>[(7,vI ((k*(2*s):Nat):Int)),(8,vI ((k*(2*s)+2*s:Nat):Int))]) (fun k=>[(0,⟨1,.row true 6 ((Srt.mix (ltc c) s k X).map GFound.enc)⟩)]) (fun k=>k*(2*s)≤X.length) (fun k=>X.length-k*(2*s)) 0 ?_
     simp only[go_sem]
     refine⟨?_,by omega,?_⟩
     ·simp only[go_sem]
      refine⟨⟨?_,?_⟩,rfl⟩
      ·rw[Nat.zero_mul];rfl
      ·rw[Nat.zero_mul,Nat.zero_add]
     ·intro k hk
      simp only[go_sem,Srt.len_mix,w3]
      refine⟨fun hle=>?_,fun hgt=>?_⟩
      ·obtain⟨P,A,B,Q,m1,m2,m3,m4,m5,m6,m7⟩:=Srt.mix_step hw (s:=s) (k:=k) (l:=X) (by omega)
       have g1:(P++A++B++Q).length=X.length:=by rw[←m6,Srt.len_mix]
       have g2:(P++Srt.mrg (ltc c) A B++Q).length=X.length:=by rw[←m7,Srt.len_mix]
       have wa:IntKind.i64.wrap (((k*(2*s):Nat):Int)+(s:Int))=((k*(2*s)+s:Nat):Int):=wN (by omega)
       have wb:IntKind.i64.wrap (((k*(2*s)+2*s:Nat):Int)+((2*s:Nat):Int))=(((k+1)*(2*s)+2*s:Nat):Int):=by
        rw[wN (by omega),Nat.succ_mul k (2*s)]
       rw[m6]
       simp only[go_sem,wa]
       apply K9 (C1u f c hc hw _ P A B Q (Nat.le_refl _) m1 (m:=k*(2*s)+s) (b:=k*(2*s)+2*s) (by rw[List.length_append];omega) (by rw[List.length_append,List.length_append];omega) (by omega) (by omega) m4 m5)
       simp only[go_sem]
       have hj:(k+1)*(2*s)=k*(2*s)+2*s:=Nat.succ_mul k (2*s)
       exact⟨k+1,⟨⟨by rw[hj],by rw[w2,wb]⟩,by rw[m7]⟩,by omega,by omega⟩
      ·obtain⟨i1,i2⟩:=Srt.mix_end hw (s:=s) (k:=k) (l:=X) hk (by omega)
       have wa:IntKind.i64.wrap (((k*(2*s):Nat):Int)+(s:Int))=((k*(2*s)+s:Nat):Int):=wN (by omega)
       simp only[go_sem,wa]
       refine⟨fun hlt2=>?_,fun hge2=>?_⟩
       ·obtain⟨P,A,B,m1,m2,m3,m4,m5,m6,m7⟩:=i1 (by omega)
        have g1:(P++A++B++[]).length=X.length:=by rw[List.append_nil,←m6,Srt.len_mix]
        have g2:(P++Srt.mrg (ltc c) A B++[]).length=X.length:=by rw[List.append_nil,←m7,Srt.len_blk (Nat.le_refl _)]
        rw[m6,←List.append_nil (P++A++B)]
        apply K9 (C1u f c hc hw _ P A B [] (Nat.le_refl _) m1 (m:=k*(2*s)+s) (b:=X.length) (by rw[List.length_append];omega) (by rw[List.length_append,List.length_append];omega) (by omega) (by omega) m4 m5)
        simp only[go_sem,w3]
        exact⟨2*s,⟨rfl,by rw[m7]⟩,⟨by omega,by omega⟩,by omega⟩
       ·exact⟨2*s,⟨rfl,by rw[i2 (by omega)]⟩,⟨by omega,by omega⟩,by omega⟩
    ·rw[Srt.blk_le (by omega)]
end Go.Proofs.YtflhjihoifbmfaaGreatDoorR
namespace Go.Proofs.YtflhjihoifbmfaaGreatDoorR
open Go Go.RowKit Go.Proofs
open Nat (reduceEqDiff reduceLT reduceLeDiff reduceAdd reduceMul)
open List (reduceReplicate)
def Mb:MC:=
(pr [mS 4 0,mS 5 0,nS 6 5,mS 7 1,.callI 8 [] (.f Nx) [.s 4,.s 6,.s 7] [0] []] [])
theorem C7c(X:List GFound)(f:FuncId)(c:GFound→GFound→Int)(hc:∀x y,Ctr Tryz.prog f [aS x.enc,aS y.enc] [rI (c x y)])(hw:Srt.Swo (ltc c)):CtrI Tryz.prog Nc [oL 6 (X.map GFound.enc),fI f] [some (6,(Srt.isort (ltc c) X).map GFound.enc)] []:=by
 refine K3z (M:=Mb) (m:=0) (n:=9) (res:=[]) hmix Tryz.func130 rfl (by kernel_rfl) rfl (by kernel_rfl) (by kernel_rfl) (Nat.le_of_ble_eq_true rfl) rfl rfl ?_;unfold Mb
 intro hbd
 have hl:=K31 hbd
 clear hbd
 simp only[roomB]at hl
 simp only[go_sem]
 apply K9 (C81 X f c hc hw)
 simp only[go_sem]
 try intros
 try trivial
end Go.Proofs.YtflhjihoifbmfaaGreatDoorR
namespace Go.Proofs.YtflhjihoifbmfaaGreatDoorR
open Go Go.RowKit Go.Proofs
open Nat (reduceEqDiff reduceLT reduceLeDiff reduceAdd reduceMul)
open List (reduceReplicate)
attribute [go_sem] eqB
def K3l(a b:GAddress):Bool:=decide (a.Host<b.Host∨a.Host=b.Host∧(a.Path<b.Path∨a.Path=b.Path∧a.Query<b.Query))
def cmpI(x y:Int):Int:=if x<y then -1 else if y<x then 1 else 0
def K4w(a b:GFound):Int:=if K3l a.Address b.Address=true then -1 else if K3l b.Address a.Address=true then 1 else cmpI a.Tick b.Tick
def K1j(a b:GFound):Bool:=decide (a.Address.Host<b.Address.Host∨a.Address.Host=b.Address.Host∧(a.Address.Path<b.Address.Path∨a.Address.Path=b.Address.Path∧(a.Address.Query<b.Address.Query∨a.Address.Query=b.Address.Query∧a.Tick<b.Tick)))
theorem K6r:ltc K4w=K1j:=by
 funext a b
 unfold ltc K4w K1j K3l cmpI
 rw[Bool.eq_iff_iff]
 simp only[decide_eq_true_eq]
 split
 ·simp;omega
 ·split
  ·simp;omega
  ·split
   ·simp;omega
   ·split<;>simp<;>omega
theorem fndSwo:Srt.Swo (ltc K4w):=by
 rw[K6r]
 constructor
 ·intro x y h
  simp only[K1j,decide_eq_true_eq,decide_eq_false_iff_not]at*
  omega
 ·intro x y z h
  simp only[K1j,decide_eq_true_eq]at*
  omega
def fnd1(i:Nat):Nat→List GCapture→List GFound
 |_,[]=>[]
 |k,c::cs=>⟨c.Address,c.Tick,i,k⟩::fnd1 i (k+1) cs
def fnds:Nat→List GContainer→List GFound
 |_,[]=>[]
 |i,x::xs=>fnd1 i 0 x.Captures++fnds (i+1) xs
theorem K84{i:Nat}:∀ {cs:List GCapture} {k m:Nat} {c:GCapture},cs[k]? =some c→fnd1 i m (cs.take (k+1))=fnd1 i m (cs.take k)++[⟨c.Address,c.Tick,i,(m+k:Nat)⟩]
 | [],_,_,_,h=>by simp at h
 |c::cs,0,m,d,h=>by
  simp only[List.getElem?_cons_zero,Option.some.injEq]at h
  subst h
  simp[fnd1]
 |c::cs,k+1,m,d,h=>by
  simp only[List.getElem?_cons_succ]at h
  rw[List.take_succ_cons,List.take_succ_cons,fnd1,fnd1,K84 h,List.cons_append,show m+1+k=m+(k+1)by omega]
theorem K2z:∀ {l:List GContainer} {k m:Nat} {x:GContainer},l[k]? =some x→fnds m (l.take (k+1))=fnds m (l.take k)++fnd1 (m+k) 0 x.Captures
 | [],_,_,_,h=>by simp at h
 |c::cs,0,m,d,h=>by
  simp only[List.getElem?_cons_zero,Option.some.injEq]at h
  subst h
  simp[fnds]
 |c::cs,k+1,m,d,h=>by
  simp only[List.getElem?_cons_succ]at h
  rw[List.take_succ_cons,List.take_succ_cons,fnds,fnds,K2z h,List.append_assoc,show m+1+k=m+(k+1)by omega]
theorem K5e{i:Nat}:∀ {cs:List GCapture} {k:Nat},(fnd1 i k cs).length=cs.length
 | [],_=>rfl
 |c::cs,k=>by rw[fnd1,List.length_cons,K5e,List.length_cons]
theorem K97:∀ {l:List GContainer} {m:Nat},(fnds m l).length=(l.map fun x=>x.Captures.length).sum
 | [],_=>rfl
 |x::l,m=>by rw[fnds,List.length_append,K5e,K97,List.map_cons,List.sum_cons]
def index(l:List GContainer):List GFound:=Srt.isort K1j (fnds 0 l)
theorem fndSwo':Srt.Swo K1j:=K6r▸fndSwo
theorem K9w{m:Nat}:∀ {l:List GContainer},(fnds m l).length≤(l.map GContainer.size).sum:=by
 intro l
 rw[K97]
 induction l with
 |nil=>simp
 |cons x l ih=>simp only[List.map_cons,List.sum_cons,GContainer.size];omega
theorem K6e{l:List GContainer}{i k:Nat}{x:GContainer}(hx:l[i]? =some x):(fnds 0 (l.take i)++fnd1 i 0 (x.Captures.take k)).length≤(l.map GContainer.size).sum:=by
 have h1:(fnds 0 (l.take (i+1))).length≤(l.map GContainer.size).sum:=Nat.le_trans K9w (K1o l (i+1))
 rw[K2z hx,List.length_append,K5e]at h1
 rw[List.length_append,K5e,List.length_take]
 omega
theorem K85{l:List GContainer}{i k:Nat}{x:GContainer}{c:GCapture}(hc:x.Captures[k]? =some c):fnds 0 (l.take i)++fnd1 i 0 (x.Captures.take (k+1))=fnds 0 (l.take i)++fnd1 i 0 (x.Captures.take k)++[⟨c.Address,c.Tick,i,k⟩]:=by
 rw[K84 hc,List.append_assoc,Nat.zero_add]
theorem cutA{α:Type}{f:α→List T}{l:List α}{m:Nat}(h:m≤l.length):(if ((m:Int)-0).toNat=l.length then l.map f else List.take ((m:Int)-0).toNat (l.map f))=(l.take m).map f:=by
 rw[show((m:Int)-0).toNat=m by omega]
 split
 ·rename_i e;rw[List.take_of_length_le (by omega)]
 ·rw[List.map_take]
theorem cutB{α:Type}{f:α→List T}{l:List α}{m:Nat}(h:m≤l.length):(if m=0∧((l.length:Int)-(m:Int)).toNat=l.length then l.map f else List.take ((l.length:Int)-(m:Int)).toNat (List.drop m (l.map f)))=(l.drop m).map f:=by
 rw[show((l.length:Int)-(m:Int)).toNat=l.length-m by omega]
 split
 ·rename_i e;rw[e.1];rfl
 ·rw[List.take_of_length_le (by simp),List.map_drop]
namespace Srt
variable {α:Type} {lt:α→α→Bool}
theorem ins_at{l:List α}(hw:Swo lt)(hs:srt lt l){x:α}{n:Nat}(h1:∀z∈l.drop n,lt x z=true)(h2:n=0∨∃y,l[n-1]? =some y∧lt x y=false):ins lt x l=l.take n++[x]++l.drop n:=by
 have e:ins lt x (l.take n++l.drop n)=l.take n++x::l.drop n:=by
  refine ins_mid ?_ (fun a ha=>h1 a (List.mem_of_mem_head? ha))
  intro a ha
  rcases h2 with rfl|⟨y,hy,h⟩
  ·simp at ha
  ·obtain⟨i,hi⟩:=List.mem_iff_getElem?.1 ha
   rw[List.getElem?_take]at hi
   split at hi
   ·rename_i hlt
    by_cases hin:i=n-1
    ·subst hin
     obtain rfl:=Option.some.inj (hi.symm.trans hy)
     exact h
    ·obtain⟨h1,rfl⟩:=List.getElem?_eq_some_iff.1 hi
     obtain⟨h2,rfl⟩:=List.getElem?_eq_some_iff.1 hy
     exact hw.ntr h ((List.pairwise_iff_getElem.1 hs) i (n-1) h1 h2 (by omega))
   ·cases hi
 rw[List.take_append_drop]at e
 rw[e];simp
theorem drop_step{l:List α}{x:α}{n:Nat}{y:α}(hn:0<n)(hy:l[n-1]? =some y)(h:∀z∈l.drop n,lt x z=true)(hx:lt x y=true):∀z∈l.drop (n-1),lt x z=true:=by
 obtain⟨h1,rfl⟩:=List.getElem?_eq_some_iff.1 hy
 rw[List.drop_eq_getElem_cons h1,show n-1+1=n by omega]
 intro z hz
 rcases List.mem_cons.1 hz with rfl|hz
 ·exact hx
 ·exact h z hz
end Srt
def M2j:MC:=
(Zs [.box 2 0 (.s 0),.box 3 1 (.s 1),.mv 4 cF] [2,3] (.seq (.block 0 (Zs [fS 6 2 0,lF 7 1 6,fS 8 3 0,lF 9 1 8,bS 10 .neq 7 9,mS 5 10] [2,3,5] (.cond (.s 5) (Zs [fS 11 2 0,lF 12 1 11,fS 13 3 0,lF 14 1 13,bS 15 .lss 12 14,mS 4 15] [4] .ret) (Zs [fS 17 2 1,lF 18 1 17,fS 19 3 1,lF 20 1 19,bS 21 .neq 18 20,mS 16 21] [2,3,16] (.cond (.s 16) (Zs [fS 22 2 1,lF 23 1 22,fS 24 3 1,lF 25 1 24,bS 26 .lss 23 25,mS 4 26] [4] .ret) .skip)))))
(Zs [fS 27 2 2,lF 28 1 27,fS 29 3 2,lF 30 1 29,bS 31 .lss 28 30,mS 4 31] [4] .ret)))
theorem C8h(a b:GAddress):Ctr Tryz.prog N1i [aS a.enc,aS b.enc] [rB (K3l a b)]:=by
 refine cA M2j 2 32 [(.tmp 4,[false])] Tryz.func132 rfl rfl ?_;unfold M2j
 intro hb
 clear hb
 simp only[go_sem]
 repeat' first
  |(refine And.intro ?_ ?_<;>intro h)
 all_goals (unfold K3l;first|(symm;rw[decide_eq_false_iff_not];omega)|(rw[Bool.eq_iff_iff];simp only[decide_eq_true_eq];omega))
def M2l:MC:=
(Zs [.box 2 0 (.s 0),.box 3 1 (.s 1),.mv 4 cF] [2,3] (.seq (Zs [fS 5 2 0,lF 6 1 5,fS 7 3 0,lF 8 1 7,bS 9 .neq 6 8] [2,3,9] (.cond (.s 9) (Zs [fS 10 2 0,lF 11 1 10,fS 12 3 0,lF 13 1 12,bS 14 .lss 11 13,mS 4 14] [4] .ret) .skip))
(.seq (Zs [fS 15 2 1,lF 16 1 15,fS 17 3 1,lF 18 1 17,bS 19 .neq 16 18] [2,3,19] (.cond (.s 19) (Zs [fS 20 2 1,lF 21 1 20,fS 22 3 1,lF 23 1 22,bS 24 .lss 21 23,mS 4 24] [4] .ret) .skip))
(Zs [fS 25 2 2,lF 26 1 25,fS 27 3 2,lF 28 1 27,bS 29 .lss 26 28,mS 4 29] [4] .ret))))
theorem C8k(a b:GAddress):Ctr Tryz.prog N2o [aS a.enc,aS b.enc] [rB (K3l a b)]:=by
 refine cA M2l 2 30 [(.tmp 4,[false])] Tryz.func140 rfl rfl ?_;unfold M2l
 intro hb
 clear hb
 simp only[go_sem]
 repeat' first
  |(refine And.intro ?_ ?_<;>intro h)
 all_goals (unfold K3l;first|(symm;rw[decide_eq_false_iff_not];omega)|(rw[Bool.eq_iff_iff];simp only[decide_eq_true_eq];omega))
def M6u:MC:=
(Zs [.box 2 0 (.s 0),.box 3 1 (.s 1),.mv 4 cF] [2,3] (.seq (Zs [fS 5 2 0,lT 6 3 5,fS 7 3 0,lT 8 3 7,.eqA 9 true [.i .i64,.i .i64,.i .i64] (.s 6) (.s 8)] [2,3,9] (.cond (.s 9) (Zs [fS 10 2 0,lT 11 3 10,fS 12 3 0,lT 13 3 12,.call 14 [] (.f N2o) [.s 11,.s 13],mS 4 14] [4] .ret) .skip))
(Zs [fS 15 2 3,lF 16 1 15,fS 17 3 3,lF 18 1 17,bS 19 .lss 16 18,mS 4 19] [4] .ret)))
theorem Caz(a b:GFound):Ctr Tryz.prog N7b [aS a.enc,aS b.enc] [rB (K1j a b)]:=by
 refine cA M6u 2 20 [(.tmp 4,[false])] Tryz.func125 rfl rfl ?_;unfold M6u
 intro hb
 clear hb
 simp only[go_sem]
 repeat' first
  |(refine And.intro ?_ ?_<;>intro h)
  |(apply K0 (C8k _ _);simp only[go_sem])
 all_goals (simp only[K1j,K3l];rw[Bool.eq_iff_iff];simp only[decide_eq_true_eq];simp at h;omega)
def M7d:MC:=
(Zs [.mv 2 cF] [0] (Zs [mS 3 0,mS 4 0,bS 5 .neq 3 4,mS 2 5] [2] .ret))
theorem Cbr(x:Int):Ctr Tryz.prog N2m [aI x] [rB false]:=by
 refine cA M7d 0 6 [(.tmp 2,[false])] Tryz.func142 rfl rfl ?_;unfold M7d
 intro hb
 clear hb
 simp only[go_sem]
def M4p:MC:=
(Zs [.mv 4 (ci 0)] [0,1] (Zs [mS 7 0,.call 8 [] (.f N2m) [.s 7],mS 5 8] [0,1,5] (Zs [mS 9 1,.call 10 [] (.f N2m) [.s 9],mS 6 10] [0,1,5,6] (.seq (Zs [mS 11 5] [0,1,6,11] (.cond (.s 11) (.seq (Zs [mS 12 6] [12] (.cond (.s 12) (Zs [.mv 4 (ci 0)] [4] .ret) .skip))
(Zs [.mv 4 (.c (.int .i64 (-1)))] [4] .ret)) .skip))
(.seq (Zs [mS 13 6] [0,1,13] (.cond (.s 13) (Zs [.mv 4 (ci 1)] [4] .ret) .skip))
(.seq (Zs [mS 14 0,mS 15 1,bS 16 .lss 14 15] [0,1,16] (.cond (.s 16) (Zs [.mv 4 (.c (.int .i64 (-1)))] [4] .ret) .skip))
(.seq (Zs [mS 17 0,mS 18 1,bS 19 .gtr 17 18] [19] (.cond (.s 19) (Zs [.mv 4 (ci 1)] [4] .ret) .skip))
(Zs [.mv 4 (ci 0)] [4] .ret))))))))
theorem Cbk(x y:Int):Ctr Tryz.prog N5c [aI x,aI y] [rI (cmpI x y)]:=by
 refine cA M4p 0 20 [(.tmp 4,[false])] Tryz.func133 rfl rfl ?_;unfold M4p
 intro hb
 clear hb
 simp only[go_sem]
 repeat' first
  |(refine And.intro ?_ ?_<;>intro h)
  |(apply K0 (Cbr _);simp only[go_sem])
 all_goals (unfold cmpI;first|rfl|(repeat' split)<;>first|rfl|omega)
def M2t:MC:=
(Zs [.box 2 0 (.s 0),.box 3 1 (.s 1),.mv 4 (ci 0)] [2,3] (.seq (.block 0 (Zs [fS 6 2 0,lT 7 3 6,fS 8 3 0,lT 9 3 8,.call 10 [] (.f N1i) [.s 7,.s 9],mS 5 10] [2,3,5] (.cond (.s 5) (Zs [.mv 4 (.c (.int .i64 (-1)))] [4] .ret) (Zs [fS 12 3 0,lT 13 3 12,fS 14 2 0,lT 15 3 14,.call 16 [] (.f N1i) [.s 13,.s 15],mS 11 16] [2,3,11] (.cond (.s 11) (Zs [.mv 4 (ci 1)] [4] .ret) .skip)))))
(Zs [fS 17 2 3,lF 18 1 17,fS 19 3 3,lF 20 1 19,.call 21 [] (.f N5c) [.s 18,.s 20],mS 4 21] [4] .ret)))
theorem C8w(a b:GFound):Ctr Tryz.prog N37 [aS a.enc,aS b.enc] [rI (K4w a b)]:=by
 refine cA M2t 2 22 [(.tmp 4,[false])] Tryz.func131 rfl rfl ?_;unfold M2t
 intro hb
 clear hb
 simp only[go_sem]
 repeat' first
  |(refine And.intro ?_ ?_<;>intro h)
  |(apply K0 (C8h _ _);simp only[go_sem])
  |(apply K0 (Cbk _ _);simp only[go_sem])
 all_goals (unfold K4w;simp_all)
def M4q:MC:=
(Zs [.nilo 2 0 6] [0] (Zs [.nilo 3 0 6] [0,3] (.seq (Zs [mS 8 0,nS 9 8,.mv 10 (ci 0)] [3,8,9,10] (.block 0 (.loop ([3,8,9,10],[1,2,3]) (Zs [bS 11 .lss 10 9] [3,8,9,10,11] (.seq (cX 11 0)
(.seq (.block 1 (Zs [mS 12 10,xS 13 4 8 10,lT 14 4 13,.alloc 5 1 [.emp 4,.emp 5,.emp 9,pz],mS 4 12,sS 4 5 14] [3,4,5,8,9,10] (Zs [fS 15 5 2,lF 16 1 15,nS 17 16,.mv 18 (ci 0)] [3,4,8,9,10,16,17,18] (.block 2 (.loop ([3,4,8,9,10,16,17,18],[1,2,3]) (Zs [bS 19 .lss 18 17] [3,4,8,9,10,16,17,18,19] (.seq (cX 19 2)
(.seq (.block 3 (Zs [mS 20 18,xS 21 9 16 18,lT 22 9 21,.alloc 7 2 [pz,pz,pz,pz,pz,.emp 1,pz,pz,pz],mS 6 20,sS 9 7 22] [3,4,6,7,8,9,10,16,17,18] (pr [mS 23 3,fS 24 7 0,lT 25 3 24,fS 26 7 3,lF 27 1 26,mS 28 4,mS 29 6,.build 30 [pz,pz,pz,pz,pz,pz] [(0,3,.s 25),(3,1,.s 27),(4,1,.s 28),(5,1,.s 29)],.lit 31 3 6 48 [.s 30],.app 32 0 6 48 (.s 23) (.s 31),mS 3 32] [3,4,8,9,10,16,17,18])))
(pr [bC 33 .add 18 1,mS 18 33] [3,4,8,9,10,16,17,18])))))))))
(pr [bC 34 .add 10 1,mS 10 34] [3,8,9,10])))))))
(Zs [mS 35 3,.callI 36 [] (.f Nc) [.s 35,.f N37] [0] []] [3] (Zs [mS 37 3,mS 2 37] [2] .ret)))))
theorem C9w(l:List GContainer)(hs:l.length+(l.map GContainer.size).sum≤1073741824):Ctr Tryz.prog N5d [aL 4 (l.map GContainer.enc)] [rL 6 ((index l).map GFound.enc)]:=by
 refine cA M4q 4 38 [(.tmp 2,[true])] Tryz.func113 rfl rfl ?_;unfold M4q
 intro hb
 clear hb
 simp only[go_sem]
 refine K4 l (fun i=>[(3,.val false [.ref 0 0 6 0 (fnds 0 (l.take i)).length]),(10,vI i)]) (fun i=>[(0,⟨0,.row true 6 ((fnds 0 (l.take i)).map GFound.enc)⟩)]) (fun _=>True) (by simp only[roomB];omega) ?_
 simp only[go_sem]
 refine⟨?_,trivial,?_,?_⟩
 ·simp only[go_sem,List.take_zero]
  exact⟨rfl,rfl⟩
 ·intro i x hx _ h0 h1 hw
  have hx1:=K2b (f:=GContainer.size) (K1c hx)
  have hi:=K6 hx
  have hxl:x.Captures.length≤x.size:=by simp only[GContainer.size];omega
  simp only[go_sem,K3 hx,h0,h1]
  refine K4 x.Captures (fun k=>[(3,.val false [.ref 0 0 6 0 (fnds 0 (l.take i)++fnd1 i 0 (x.Captures.take k)).length]),(18,vI k)]) (fun k=>[(0,⟨0,.row true 6 ((fnds 0 (l.take i)++fnd1 i 0 (x.Captures.take k)).map GFound.enc)⟩)]) (fun _=>True) (by simp only[roomB];omega) ?_
  simp only[go_sem]
  refine⟨?_,trivial,?_,?_⟩
  ·simp only[go_sem,List.take_zero]
   exact⟨by simp[fnd1],by simp[fnd1]⟩
  ·intro k c hc _ h2 h3 hw2
   have hn:=K6e (k:=k) hx
   simp only[go_sem,K3 hc,h2,h3,hw2,K85 hc]
   exact⟨by simp only[roomB];omega,by simp only[roomB];omega,by simp only[List.length_append,List.length_cons,List.length_nil],by simp[GFound.enc]⟩
  ·intro _
   simp only[go_sem,List.take_length,hw]
   exact⟨by rw[K2z hx,Nat.zero_add],by rw[K2z hx,Nat.zero_add]⟩
 ·intro _
  simp only[go_sem,List.take_length]
  apply K9 (C7c (fnds 0 l) _ K4w C8w fndSwo)
  simp only[go_sem]
  exact⟨Srt.len_isort.symm,by rw[index,K6r]⟩
def M57:MC:=
(Zs [.nilo 2 0 6] [0] (Zs [.lit 8 0 6 48 [],mS 3 8] [0,3] (.seq (Zs [.mv 4 (ci 0)] [0,3,4] (.block 0 (.loop ([0,3,4],[1,2,3]) (.seq (Zs [mS 9 4,mS 10 0,nS 11 10,bS 12 .lss 9 11] [0,3,4,12] (cX 12 0))
(.seq (.block 1 (Zs [.mv 5 (ci 0)] [0,3,4,5] (.block 2 (.loop ([0,3,4,5],[1,2,3]) (.seq (Zs [mS 15 5,mS 16 0,mS 17 4,xS 18 4 16 17,fS 19 18 2,lF 20 1 19,nS 21 20,bS 22 .lss 15 21] [0,3,4,5,22] (cX 22 2))
(.seq (.block 3 (.seq (.dreg [Zf [6,26,30,34,35,36,37,38,39,40,41,42,43,44] [1] (mS 25 0),Zf [6,25,30,34,35,36,37,38,39,40,41,42,43,44] [1] (mS 26 4),Zg [6,30,34,35,36,37,38,39,40,41,42,43,44] [1] [0,1] (xS 27 4 25 26),Zg [6,30,34,35,36,37,38,39,40,41,42,43,44] [1] [0,1,2] (fS 28 27 2),Zg [6,30,34,35,36,37,38,39,40,41,42,43,44] [1] (.range 4) (lF 29 1 28),Zf [6,25,26,27,28,29,34,35,36,37,38,39,40,41,42,43,44] [1] (mS 30 5),Zg [6,34,35,36,37,38,39,40,41,42,43,44] [1] (.range 6) (xS 31 9 29 30),Zg [6,34,35,36,37,38,39,40,41,42,43,44] [1] (.range 7) (fS 32 31 0),Zg [6,34,35,36,37,38,39,40,41,42,43,44] [1] (.range 8) (lT 33 3 32),Zf [6,25,26,27,28,29,30,31,32,33,35,39,43,44] [1] (mS 34 0),Zf [6,25,26,27,28,29,30,31,32,33,34,39,43,44] [1] (mS 35 4),Zg [6,25,26,27,28,29,30,31,32,33,39,43,44] [1] [9,10] (xS 36 4 34 35),Zg [6,25,26,27,28,29,30,31,32,33,39,43,44] [1] [9,10,11] (fS 37 36 2),Zg [6,25,26,27,28,29,30,31,32,33,39,43,44] [1] [9,10,11,12] (lF 38 1 37),Zf [6,25,26,27,28,29,30,31,32,33,34,35,36,37,38,43,44] [1] (mS 39 5),Zg [6,25,26,27,28,29,30,31,32,33,43,44] [1] [9,10,11,12,13,14] (xS 40 9 38 39),Zg [6,25,26,27,28,29,30,31,32,33,43,44] [1] [9,10,11,12,13,14,15] (fS 41 40 3),Zg [6,25,26,27,28,29,30,31,32,33,43,44] [1] [9,10,11,12,13,14,15,16] (lF 42 1 41),Zf [6,25,26,27,28,29,30,31,32,33,34,35,36,37,38,39,40,41,42,44] [1] (mS 43 4),Zf [6,25,26,27,28,29,30,31,32,33,34,35,36,37,38,39,40,41,42,43] [1] (mS 44 5),Zg [6] [1] (.range 20) (.build 45 [pz,pz,pz,pz,pz,pz] [(0,3,.s 33),(3,1,.s 42),(4,1,.s 43),(5,1,.s 44)]),{o:= .alloc 6 1 [pz,pz,pz,pz,pz,pz],hs:=[25,26,27,28,29,30,31,32,33,34,35,36,37,38,39,40,41,42,43,44,45],ws:=[1]},{o:=sS 6 6 45,ws:=[1],bf:=(.range 22)}] [0,3,4,5,6])
(Zs [mS 46 3,nS 47 46,mS 7 47] [0,3,4,5,6,7] (.seq (.block 4 (.loop ([0,3,4,5,6,7],[2,3]) (.seq (.seq (.dreg [Za (mS 48 7),Ze [0] (bC 49 .gtr 48 0),Ze [0,1] (mS 50 49),{o:=lT 51 6 6,g:=some (50,true),hs:=[52,53,54,55,56],bf:=[0,1,2]},{o:=mS 52 3,g:=some (50,true),hs:=[51,53,54],bf:=[0,1,2]},{o:=mS 53 7,g:=some (50,true),hs:=[51,52],bf:=[0,1,2]},{o:=bC 54 .sub 53 1,g:=some (50,true),hs:=[51,52],bf:=[0,1,2,5]},{o:=xS 55 6 52 54,g:=some (50,true),hs:=[51],bf:=[0,1,2,4,5,6]},{o:=lT 56 6 55,g:=some (50,true),hs:=[51],bf:=[0,1,2,4,5,6,7]},{o:= .call 57 [] (.f N7b) [.s 51,.s 56],g:=some (50,true),bf:=(.range 9)},Ze (.range 10) (.pick 58 (.s 50) (.s 57) cF)] [0,3,4,5,6,7,58])
(cX 58 4))
(.block 5 (pr [mS 59 7,bC 60 .sub 59 1,mS 7 60] [0,3,4,5,6,7])))))
(.dreg [{o:= .lit 61 2 6 48 [],hs:=[62,63,64,66,67,69,70,71],ho:=[3],ws:=[2]},Zf [61,63,66,67,69,70,71] [2,3] (mS 62 3),Zf [61,62,66,67,69,70,71] [2,3] (mS 63 7),Zg [61,66,67,69,70,71] [2,3] [1,2] (.slc 64 6 (.s 62) none (some (.s 63)) none),{o:= .app 65 2 6 48 (.s 61) (.s 64),hs:=[66,67,69,70,71],ho:=[3],ws:=[2],bf:=(.range 4)},Zf [61,62,63,64,65,69,70,71] [2] (lT 66 6 6),{o:= .lit 67 3 6 48 [.s 66],hs:=[61,62,63,64,65,69,70,71],ho:=[2],ws:=[3],bf:=[5]},{o:= .app 68 2 6 48 (.s 65) (.s 67),hs:=[69,70,71],ws:=[2],bf:=(.range 7)},Zf [61,62,63,64,65,66,67,68,70] [2,3] (mS 69 3),Zf [61,62,63,64,65,66,67,68,69] [2,3] (mS 70 7),Zg [61,62,63,64,65,66,67,68] [2,3] [8,9] (.slc 71 6 (.s 69) (some (.s 70)) none none),{o:= .app 72 0 6 48 (.s 68) (.s 71),ws:=[0,2],bf:=(.range 11)},Ze (.range 12) (mS 3 72)] [0,3,4,5])))))
(pr [mS 23 5,bC 24 .add 23 1,mS 5 24] [0,3,4,5])))))))
(pr [mS 13 4,bC 14 .add 13 1,mS 4 14] [0,3,4]))))))
(Zs [mS 73 3,mS 2 73] [2] .ret))))
theorem Cab(l:List GContainer)(hs:l.length+(l.map GContainer.size).sum≤1073741824):Ctr Tryz.prog N5v [aL 4 (l.map GContainer.enc)] [rL 6 ((index l).map GFound.enc)]:=by
 refine cA M57 4 74 [(.tmp 2,[true])] Tryz.func101 rfl rfl ?_;unfold M57
 intro hb
 clear hb
 simp only[go_sem]
 refine K4 l (fun i=>[(3,.val false [.ref 0 0 6 0 (Srt.isort K1j (fnds 0 (l.take i))).length]),(4,vI i)]) (fun i=>[(0,⟨0,.row true 6 ((Srt.isort K1j (fnds 0 (l.take i))).map GFound.enc)⟩)]) (fun _=>True) (by simp only[roomB];omega) ?_
 simp only[go_sem]
 refine⟨?_,trivial,?_,?_⟩
 ·simp only[go_sem,List.take_zero]
  exact⟨rfl,rfl⟩
 ·intro i x hx _ h0 h1 hw
  have hx1:=K2b (f:=GContainer.size) (K1c hx)
  have hi:=K6 hx
  have hxl:x.Captures.length≤x.size:=by simp only[GContainer.size];omega
  simp only[go_sem,h1]
  refine K4 x.Captures (fun k=>[(3,.val false [.ref 0 0 6 0 (Srt.isort K1j (fnds 0 (l.take i)++fnd1 i 0 (x.Captures.take k))).length]),(5,vI k)]) (fun k=>[(0,⟨0,.row true 6 ((Srt.isort K1j (fnds 0 (l.take i)++fnd1 i 0 (x.Captures.take k))).map GFound.enc)⟩)]) (fun _=>True) (by simp only[roomB];omega) ?_
  simp only[go_sem]
  refine⟨?_,trivial,?_,?_⟩
  ·simp only[go_sem,List.take_zero]
   exact⟨by simp[fnd1],by simp[fnd1]⟩
  ·intro k c hc _ h2 h3 hw2
   have hn:=K6e (k:=k) hx
   obtain⟨y,hy⟩:∃y:GFound,y=⟨c.Address,c.Tick,i,k⟩:=⟨_,rfl⟩
   obtain⟨out,hout⟩:∃out,out=Srt.isort K1j (fnds 0 (l.take i)++fnd1 i 0 (x.Captures.take k)):=⟨_,rfl⟩
   have hsr:Srt.srt K1j out:=hout▸Srt.srt_isort fndSwo' _
   have hol:out.length≤(l.map GContainer.size).sum:=by rw[hout,Srt.len_isort];exact hn
   have hst:Srt.isort K1j (fnds 0 (l.take i)++fnd1 i 0 (x.Captures.take (k+1)))=Srt.ins K1j y out:=by
    rw[K85 hc,Srt.isort_snoc,←hout,←hy]
   have hye:([tI c.Address.Host,tI c.Address.Path,tI c.Address.Query,tI c.Tick,tI (i:Int),tI (k:Int)]:List T)=y.enc:=by rw[hy];rfl
   rw[hst,←hout]
   simp only[go_sem,K3 hx,K3 hc,h0,h1,h2,h3,hw]
   refine Kv (fun n:Nat=>[(7,vI n)]) (fun n=>[]) (fun n=>n≤out.length∧∀z∈out.drop n,K1j y z=true) (fun n=>n) out.length ?_
   simp only[go_sem]
   refine⟨?_,⟨Nat.le_refl _,by simp⟩,?_⟩
   ·simp only[go_sem]
   ·rintro n ⟨hn1,hn2⟩
    simp only[go_sem]
    refine⟨fun hpos=>?_,fun hzero=>?_⟩
    ·obtain⟨m,hm⟩:∃m,m=n-1:=⟨_,rfl⟩
     obtain⟨z,hz⟩:=Kl (show m<out.length by omega)
     have e1:IntKind.i64.wrap ((n:Int)-1)=(m:Int):=by rw[wI (by omega) (by omega)];omega
     rw[e1]
     simp only[go_sem,K3 hz]
     refine⟨⟨by omega,by omega⟩,?_⟩
     apply K0 (Caz ⟨c.Address,c.Tick,(i:Int),(k:Int)⟩ z)
     simp only[go_sem]
     rw[e1]
     refine⟨fun ht=>⟨m,rfl,⟨by omega,?_⟩,by omega⟩,fun hf=>?_⟩
     ·rw[hm]
      exact Srt.drop_step (by omega) (hm▸hz) hn2 (hy▸ht)
     ·have hstop:n=0∨∃y',out[n-1]? =some y'∧K1j y y'=false:= .inr ⟨z,hm▸hz,hy▸hf⟩
      rw[cutA hn1]
      refine⟨by omega,by omega,?_⟩
      have hA:(out.take n).length=n:=by rw[List.length_take];omega
      have hB:out.length=n+(out.drop n).length:=by rw[List.length_drop];omega
      have eC:=cutB (f:=GFound.enc) hn1
      have e5:List.map GFound.enc (out.take n)++[[T.sc (Value.int IntKind.i64 c.Address.Host),T.sc (Value.int IntKind.i64 c.Address.Path),T.sc (Value.int IntKind.i64 c.Address.Query),T.sc (Value.int IntKind.i64 c.Tick),T.sc (Value.int IntKind.i64 (i:Int)),T.sc (Value.int IntKind.i64 (k:Int))]]=(out.take n++[y]).map GFound.enc:=by rw[hy];simp[GFound.enc]
      have e6:((out.take n++[y]).map GFound.enc).length=(out.take n).length+1:=by simp
      simp only[go_sem,↓K40 (f:=GFound.enc) (fun _=>rfl) (out.take n),↓eC,↓e5,↓e6,↓K40 (f:=GFound.enc) (fun _=>rfl) (out.drop n)]
      rw[Srt.ins_at fndSwo' hsr hn2 hstop]
      simp only[roomB]
      exact⟨by omega,by omega,by omega,⟨by omega,by omega,by omega⟩,by omega,by omega,⟨by simp only[List.length_append,List.length_cons,List.length_nil],hw2⟩,by rw[←List.map_append]⟩
    ·have hstop:n=0∨∃y',out[n-1]? =some y'∧K1j y y'=false:= .inl (by omega)
     rw[cutA hn1]
     refine⟨by omega,by omega,?_⟩
     have hA:(out.take n).length=n:=by rw[List.length_take];omega
     have hB:out.length=n+(out.drop n).length:=by rw[List.length_drop];omega
     have eC:=cutB (f:=GFound.enc) hn1
     have e5:List.map GFound.enc (out.take n)++[[T.sc (Value.int IntKind.i64 c.Address.Host),T.sc (Value.int IntKind.i64 c.Address.Path),T.sc (Value.int IntKind.i64 c.Address.Query),T.sc (Value.int IntKind.i64 c.Tick),T.sc (Value.int IntKind.i64 (i:Int)),T.sc (Value.int IntKind.i64 (k:Int))]]=(out.take n++[y]).map GFound.enc:=by rw[hy];simp[GFound.enc]
     have e6:((out.take n++[y]).map GFound.enc).length=(out.take n).length+1:=by simp
     simp only[go_sem,↓K40 (f:=GFound.enc) (fun _=>rfl) (out.take n),↓eC,↓e5,↓e6,↓K40 (f:=GFound.enc) (fun _=>rfl) (out.drop n)]
     rw[Srt.ins_at fndSwo' hsr hn2 hstop]
     simp only[roomB]
     exact⟨by omega,by omega,by omega,⟨by omega,by omega,by omega⟩,by omega,by omega,⟨by simp only[List.length_append,List.length_cons,List.length_nil],hw2⟩,by rw[←List.map_append]⟩
  ·intro _
   simp only[go_sem,List.take_length,K3 hx,h0,h1,hw,Int.lt_irrefl]
   exact⟨by rw[K2z hx,Nat.zero_add],by rw[K2z hx,Nat.zero_add]⟩
 ·intro _
  simp only[go_sem,List.take_length]
  rfl
end Go.Proofs.YtflhjihoifbmfaaGreatDoorR
namespace Go.Proofs.YtflhjihoifbmfaaGreatDoorR
open Go Go.RowKit Go.Proofs
open Nat (reduceEqDiff reduceLT reduceLeDiff reduceAdd reduceMul)
open List (reduceReplicate)
end Go.Proofs.YtflhjihoifbmfaaGreatDoorR
namespace Go.Proofs.YtflhjihoifbmfaaGreatDoorR
open Go Go.RowKit Go.Proofs
open Nat (reduceEqDiff reduceLT reduceLeDiff reduceAdd reduceMul)
open List (reduceReplicate)
end Go.Proofs.YtflhjihoifbmfaaGreatDoorR
namespace Go.Proofs.YtflhjihoifbmfaaGreatDoorR
open Go Go.RowKit Go.Proofs
open Nat (reduceEqDiff reduceLT reduceLeDiff reduceAdd reduceMul)
open List (reduceReplicate)
end Go.Proofs.YtflhjihoifbmfaaGreatDoorR
namespace Go.Proofs.YtflhjihoifbmfaaGreatDoorR
open Go Go.RowKit Go.Proofs
open Nat (reduceEqDiff reduceLT reduceLeDiff reduceAdd reduceMul)
open List (reduceReplicate)
end Go.Proofs.YtflhjihoifbmfaaGreatDoorR
namespace Go.Proofs.YtflhjihoifbmfaaGreatDoorR
open Go Go.RowKit Go.Proofs
open Nat (reduceEqDiff reduceLT reduceLeDiff reduceAdd reduceMul)
open List (reduceReplicate)
attribute [go_sem] eqB
def M88:MC:=
(Zs [.mv 4 cF] [0,1] (.seq (Zs [mS 6 0,nS 7 6,mS 8 1,nS 9 8,bS 10 .neq 7 9] [0,1,10] (.cond (.s 10) (Zs [.mv 4 cF] [4] .ret) .skip))
(.seq (Zs [.mv 5 (ci 0)] [0,1,5] (.block 0 (.loop ([0,1,5],[]) (.seq (Zs [mS 11 5,mS 12 0,nS 13 12,bS 14 .lss 11 13] [0,1,5,14] (cX 14 0))
(.seq (.block 1 (.seq (.dreg [Zc [18,21,22,23,24] (mS 17 0),Zc [17,21,22,23,24] (mS 18 5),Zd [21,22,23,24] [0,1] (xS 19 6 17 18),Zd [21,22,23,24] [0,1,2] (lT 20 6 19),Zc [17,18,19,20,22] (mS 21 1),Zc [17,18,19,20,21] (mS 22 5),Zd [17,18,19,20] [4,5] (xS 23 6 21 22),Zd [17,18,19,20] [4,5,6] (lT 24 6 23),Ze (.range 8) (.eqA 25 true [.i .i64,.i .i64,.i .i64,.i .i64,.i .i64,.i .i64] (.s 20) (.s 24))] [0,1,5,25])
(.cond (.s 25) (Zs [.mv 4 cF] [4] .ret) .skip)))
(pr [mS 15 5,bC 16 .add 15 1,mS 5 16] [0,1,5]))))))
(Zs [.mv 4 cT] [4] .ret))))
theorem Cbh(xs ys:List GFound):Ctr Tryz.prog N8e [aL 6 (xs.map GFound.enc),aL 6 (ys.map GFound.enc)] [rB (decide (xs=ys))]:=by
 refine cA M88 0 26 [(.tmp 4,[false])] Tryz.func100 rfl rfl ?_;unfold M88
 intro hb
 simp only[bdA,bdL,bdT,Kg,roomB,and_true,List.length_map]at hb
 obtain⟨⟨hl,-⟩,⟨hl2,-⟩⟩:=hb
 simp only[go_sem]
 refine⟨fun h=>K27 h,fun h=>?_⟩
 have hle:xs.length=ys.length:=by omega
 refine K4 xs (fun k=>[(5,vI k)]) (fun k=>[]) (fun k=>xs.take k=ys.take k) hl ?_
 simp only[go_sem]
 refine⟨?_,rfl,?_,?_⟩
 ·simp only[go_sem]
 ·intro k x hx he h0 h1 hw
  obtain⟨y,hy⟩:=Kl (show k<ys.length by omega)
  have h2:(k:Int)<ys.length:=by omega
  simp only[go_sem,K3 hx,K3 hy,h0,h1,h2,hw]
  exact⟨fun hn=>K2s hx hy (by rintro rfl;simp at hn),fun hn=>(Ko hx hy he).2 (by exact GFound.eqv.2 (by simpa using hn))⟩
 ·intro he
  simp only[go_sem]
  exact K26 he hle
end Go.Proofs.YtflhjihoifbmfaaGreatDoorR
namespace Go.Proofs.YtflhjihoifbmfaaGreatDoorR
open Go Go.RowKit Go.Proofs
open Nat (reduceEqDiff reduceLT reduceLeDiff reduceAdd reduceMul)
open List (reduceReplicate)
end Go.Proofs.YtflhjihoifbmfaaGreatDoorR
namespace Go.Proofs.YtflhjihoifbmfaaGreatDoorR
open Go Go.RowKit Go.Proofs
open Nat (reduceEqDiff reduceLT reduceLeDiff reduceAdd reduceMul)
open List (reduceReplicate)
def M21:MC:=
(Zs [.nilo 2 0 1] [0] (.seq (.condN 3 4 (.s 0) (Zs [.nilo 2 0 1] [2] .ret) .skip)
(Zs [.lit 5 0 1 8 [],mS 6 0,.app 7 0 1 8 (.s 5) (.s 6),mS 2 7] [2] .ret)))
theorem C9m(xs:List Int)(hs:xs.length≤1073741824):Ctr Tryz.prog N23 [aL 1 (xs.map encI)] [rL 1 (xs.map encI)]:=by
 refine cA M21 1 8 [(.tmp 2,[true])] Tryz.func129 rfl rfl ?_;unfold M21
 intro hb
 clear hb
 simp only[go_sem,↓K40 (f:=encI) (fun _=>rfl) xs]
 refine⟨fun h=>?_,?_⟩
 ·rw[h]
 ·simp only[roomB]
  first|done|omega|(refine⟨?_,?_⟩<;>first|omega|simp)
end Go.Proofs.YtflhjihoifbmfaaGreatDoorR
namespace Go.Proofs.YtflhjihoifbmfaaGreatDoorR
open Go Go.RowKit Go.Proofs
open Nat (reduceEqDiff reduceLT reduceLeDiff reduceAdd reduceMul)
open List (reduceReplicate)
def M2w:MC:=
(Zs [.box 1 0 (.s 0),.alloc 2 1 [pz,.emp 1,pz,pz,pz]] [1,2] (Zs [fS 3 1 1,lF 4 1 3,.call 5 [2] (.f N23) [.s 4],fS 6 1 1,sS 1 6 5] [1,2] (Zs [lT 7 5 1,sS 5 2 7] [2] .ret)))
theorem C8y(r:GResource)(hs:r.Body.length≤1073741824):Ctr Tryz.prog N39 [aS r.enc] [rS r.enc]:=by
 refine cA M2w 3 8 [(.cell 2 true 5,[false,true,false,false,false])] Tryz.func111 rfl rfl ?_;unfold M2w
 intro hb
 clear hb
 simp only[go_sem]
 refine K0 (C9m r.Body hs) ?_
 simp only[go_sem]
 try intros
 try trivial
def M8r:MC:=
(Zs [.box 1 0 (.s 0),.alloc 2 1 [pz,.emp 1,pz,pz,pz]] [1,2] (.seq (.dreg [Zf [5,6,7,8,9,10] [2] (fS 3 1 0),Zg [5,6,7,8,9,10] [2] [0] (lF 4 1 3),{o:= .lit 5 2 1 8 [],hs:=[3,4,6,7,9,10],ws:=[2]},Zf [3,4,5,9,10] [2] (fS 6 1 1),Zg [3,4,5,9,10] [2] [3] (lF 7 1 6),{o:= .app 8 2 1 8 (.s 5) (.s 7),hs:=[3,4,9,10],ws:=[2],bf:=[2,3,4]},Zf [3,4,5,6,7,8] [2] (fS 9 1 2),Zg [3,4,5,6,7,8] [2] [6] (lT 10 3 9),Ze (.range 8) (.build 11 [pz,.emp 1,pz,pz,pz] [(0,1,.s 4),(1,1,.s 8),(2,3,.s 10)]),{o:=sS 5 2 11,ws:=[1,2],bf:=(.range 9)}] [2])
.ret))
theorem Cbo(r:GResource)(hs:r.Body.length≤1073741824):Ctr Tryz.prog N8v [aS r.enc] [rS r.enc]:=by
 refine cA M8r 3 12 [(.cell 2 true 5,[false,true,false,false,false])] Tryz.func72 rfl rfl ?_;unfold M8r
 intro hb
 clear hb
 simp only[go_sem,↓K40 (f:=encI) (fun _=>rfl) r.Body]
 simp only[roomB]
 omega
def M2v:MC:=
(Zs [.nilo 2 0 9] [0] (Zs [.nilo 3 0 9] [0,3] (.seq (Zs [mS 6 0,nS 7 6,.mv 8 (ci 0)] [3,6,7,8] (.block 0 (.loop ([3,6,7,8],[1,2,3]) (Zs [bS 9 .lss 8 7] [3,6,7,8,9] (.seq (cX 9 0)
(.seq (.block 1 (Zs [xS 10 9 6 8,lT 11 9 10,.alloc 5 1 [pz,pz,pz,pz,pz,.emp 1,pz,pz,pz],sS 9 5 11] [3,5,6,7,8] (.dreg [Zf [13,14,15,16,17,18,19,20,21] [2,3] (mS 12 3),Zf [12,15,16,17,18,19] [2] (fS 13 5 0),Zg [12,15,16,17,18,19] [2] [1] (lT 14 3 13),Zf [12,13,14,17,18,19] [2] (fS 15 5 3),Zg [12,13,14,17,18,19] [2] [3] (lF 16 1 15),Zc [12,13,14,15,16] (fS 17 5 4),Zd [12,13,14,15,16] [5] (lT 18 5 17),{o:= .call 19 [2] (.f N39) [.s 18],hs:=[12,13,14,15,16],ws:=[2],bf:=[5,6]},Zd [12] [1,2,3,4,5,6,7] (.build 20 [pz,pz,pz,pz,pz,.emp 1,pz,pz,pz] [(0,3,.s 14),(3,1,.s 16),(4,5,.s 19)]),{o:= .lit 21 3 9 88 [.s 20],hs:=[12],ws:=[2,3],bf:=[1,2,3,4,5,6,7,8]},{o:= .app 22 0 9 88 (.s 12) (.s 21),ws:=[0,3],bf:=(.range 10)},Ze (.range 11) (mS 3 22)] [3,6,7,8])))
(pr [bC 23 .add 8 1,mS 8 23] [3,6,7,8])))))))
(Zs [mS 24 3,mS 2 24] [2] .ret))))
theorem C16(xs:List GCapture)(hs:xs.length+(xs.map GCapture.size).sum≤1073741824):Ctr Tryz.prog N1n [aL 9 (xs.map GCapture.enc)] [rL 9 (xs.map GCapture.enc)]:=by
 refine cA M2v 4 25 [(.tmp 2,[true])] Tryz.func84 rfl rfl ?_;unfold M2v
 intro hb
 clear hb
 simp only[go_sem]
 refine K4 xs (fun k=>[(3,.val false [.ref 0 0 9 0 (xs.take k).length]),(8,vI k)]) (fun k=>[(0,⟨0,.row true 9 ((xs.take k).map GCapture.enc)⟩)]) (fun _=>True) (by simp only[roomB];omega) ?_
 simp only[go_sem]
 refine⟨?_,trivial,?_,?_⟩
 ·simp only[go_sem,List.take_zero]
 ·intro k x hx _ h0 h1 hw
  have hk:k<xs.length:=by omega
  have hlt:=List.length_take_le k xs
  have hx1:=K2b (f:=GCapture.size) (K1c hx)
  simp only[go_sem,K3 hx,h0,h1]
  refine K0 (C8y x.Resource (by simp only[GCapture.size,GResource.size]at hx1;omega)) ?_
  simp only[go_sem,hw]
  simp only[roomB]
  exact⟨by omega,by omega,fun _=>⟨K9i hx,K9j hx⟩⟩
 ·intro _
  simp only[go_sem,List.take_length]
def M87:MC:=
(Zs [.nilo 2 0 9] [0] (Zs [.lit 5 0 9 88 [],mS 3 5] [0,3] (.seq (Zs [.mv 4 (ci 0)] [0,3,4] (.block 0 (.loop ([0,3,4],[1,2]) (.seq (Zs [mS 6 4,mS 7 0,nS 8 7,bS 9 .lss 6 8] [0,3,4,9] (cX 9 0))
(.seq (.block 1 (.dreg [Zf [13,14,15,16,17,18,19,20,21,22,23,24,25,26,27,28,29,30] [1,2] (mS 12 3),Zf [12,14,18,19,20,21,22,23,24,25,26,27,28] [1] (mS 13 0),Zf [12,13,18,19,20,21,22,23,24,25,26,27,28] [1] (mS 14 4),Zg [12,18,19,20,21,22,23,24,25,26,27,28] [1] [1,2] (xS 15 9 13 14),Zg [12,18,19,20,21,22,23,24,25,26,27,28] [1] [1,2,3] (fS 16 15 0),Zg [12,18,19,20,21,22,23,24,25,26,27,28] [1] [1,2,3,4] (lT 17 3 16),Zf [12,13,14,15,16,17,19,23,24,25,26,27,28] [1] (mS 18 0),Zf [12,13,14,15,16,17,18,23,24,25,26,27,28] [1] (mS 19 4),Zg [12,13,14,15,16,17,23,24,25,26,27,28] [1] [6,7] (xS 20 9 18 19),Zg [12,13,14,15,16,17,23,24,25,26,27,28] [1] [6,7,8] (fS 21 20 3),Zg [12,13,14,15,16,17,23,24,25,26,27,28] [1] [6,7,8,9] (lF 22 1 21),Zc [12,13,14,15,16,17,18,19,20,21,22,24] (mS 23 0),Zc [12,13,14,15,16,17,18,19,20,21,22,23] (mS 24 4),Zd [12,13,14,15,16,17,18,19,20,21,22] [11,12] (xS 25 9 23 24),Zd [12,13,14,15,16,17,18,19,20,21,22] [11,12,13] (fS 26 25 4),Zd [12,13,14,15,16,17,18,19,20,21,22] [11,12,13,14] (lT 27 5 26),{o:= .call 28 [1] (.f N8v) [.s 27],hs:=[12,13,14,15,16,17,18,19,20,21,22],ws:=[1],bf:=[11,12,13,14,15]},Zd [12] [1,2,3,4,5,6,7,8,9,10,11,12,13,14,15,16] (.build 29 [pz,pz,pz,pz,pz,.emp 1,pz,pz,pz] [(0,3,.s 17),(3,1,.s 22),(4,5,.s 28)]),{o:= .lit 30 2 9 88 [.s 29],hs:=[12],ws:=[1,2],bf:=[1,2,3,4,5,6,7,8,9,10,11,12,13,14,15,16,17]},{o:= .app 31 0 9 88 (.s 12) (.s 30),ws:=[0,2],bf:=(.range 19)},Ze (.range 20) (mS 3 31)] [0,3,4]))
(pr [mS 10 4,bC 11 .add 10 1,mS 4 11] [0,3,4]))))))
(Zs [mS 32 3,mS 2 32] [2] .ret))))
theorem C1d(xs:List GCapture)(hs:xs.length+(xs.map GCapture.size).sum≤1073741824):Ctr Tryz.prog N1y [aL 9 (xs.map GCapture.enc)] [rL 9 (xs.map GCapture.enc)]:=by
 refine cA M87 3 33 [(.tmp 2,[true])] Tryz.func44 rfl rfl ?_;unfold M87
 intro hb
 clear hb
 simp only[go_sem]
 refine K4 xs (fun k=>[(3,.val false [.ref 0 0 9 0 (xs.take k).length]),(4,vI k)]) (fun k=>[(0,⟨0,.row true 9 ((xs.take k).map GCapture.enc)⟩)]) (fun _=>True) (by simp only[roomB];omega) ?_
 simp only[go_sem]
 refine⟨?_,trivial,?_,?_⟩
 ·simp only[go_sem,List.take_zero]
 ·intro k x hx _ h0 h1 hw
  have hk:k<xs.length:=by omega
  have hlt:=List.length_take_le k xs
  have hx1:=K2b (f:=GCapture.size) (K1c hx)
  simp only[go_sem,K3 hx,h0,h1]
  refine K0 (Cbo x.Resource (by simp only[GCapture.size,GResource.size]at hx1;omega)) ?_
  simp only[go_sem,hw]
  simp only[roomB]
  exact⟨by omega,by omega,fun _=>⟨K9i hx,K9j hx⟩⟩
 ·intro _
  simp only[go_sem,List.take_length]
end Go.Proofs.YtflhjihoifbmfaaGreatDoorR
namespace Go.Proofs.YtflhjihoifbmfaaGreatDoorR
open Go Go.RowKit Go.Proofs
open Nat (reduceEqDiff reduceLT reduceLeDiff reduceAdd reduceMul)
open List (reduceReplicate)
def modP(v:Int):Int:=(IntKind.i64.wrap (v.tmod 2147483647+2147483647)).tmod 2147483647
def hstep(h v:Int):Int:=(IntKind.i64.wrap (IntKind.i64.wrap (IntKind.i64.wrap (h*1000003)+modP v)+13)).tmod 2147483647
end Go.Proofs.YtflhjihoifbmfaaGreatDoorR
namespace Go.Proofs.YtflhjihoifbmfaaGreatDoorR
open Go Go.RowKit Go.Proofs
open Nat (reduceEqDiff reduceLT reduceLeDiff reduceAdd reduceMul)
open List (reduceReplicate)
end Go.Proofs.YtflhjihoifbmfaaGreatDoorR
namespace Go.Proofs.YtflhjihoifbmfaaGreatDoorR
open Go Go.RowKit Go.Proofs
open Nat (reduceEqDiff reduceLT reduceLeDiff reduceAdd reduceMul)
open List (reduceReplicate)
end Go.Proofs.YtflhjihoifbmfaaGreatDoorR
namespace Go.Proofs.YtflhjihoifbmfaaGreatDoorR
open Go Go.RowKit Go.Proofs
open Nat (reduceEqDiff reduceLT reduceLeDiff reduceAdd reduceMul)
open List (reduceReplicate)
def whole(d:GDisk):Bool:=decide (d.Index=index d.Containers)
def Y14(v0:Nat)(v1:Nat):MC:=
(Zs [.box 1 0 (.s 0),.mv 2 cF] [1] (.seq (.dreg [Zf [5,6,7] [1] (fS 3 1 1),Zg [5,6,7] [1] [0] (lF 4 1 3),Zc [3,4] (fS 5 1 0),Zd [3,4] [2] (lF 6 1 5),{o:= .call 7 [1] (.f v0) [.s 6],hs:=[3,4],ws:=[1],bf:=[2,3]},Ze (.range 5) (.call 8 [] (.f v1) [.s 4,.s 7]),Ze (.range 6) (mS 2 8)] [2])
.ret))
attribute [go_sem] Y14
def M2u:MC:=Y14 N5d Nn
theorem Cbc(d:GDisk)(hs:d.size≤1073741824):Ctr Tryz.prog N38 [aS d.enc] [rB (whole d)]:=by
 refine cA M2u 2 9 [(.tmp 2,[false])] Tryz.func85 rfl rfl ?_;unfold M2u
 intro hb
 clear hb
 simp only[GDisk.size]at hs
 simp only[go_sem]
 apply K0 (C9w d.Containers (by omega))
 simp only[go_sem]
 intros
 apply K0 (C8j _ _)
 simp only[go_sem]
 intros
 rfl
def M7o:MC:=Y14 N5v N8e
theorem Cb9(d:GDisk)(hs:d.size≤1073741824):Ctr Tryz.prog N7y [aS d.enc] [rB (whole d)]:=by
 refine cA M7o 2 9 [(.tmp 2,[false])] Tryz.func71 rfl rfl ?_;unfold M7o
 intro hb
 clear hb
 simp only[GDisk.size]at hs
 simp only[go_sem]
 apply K0 (Cab d.Containers (by omega))
 simp only[go_sem]
 intros
 apply K0 (Cbh _ _)
 simp only[go_sem]
 intros
 rfl
theorem take_sz{l:List GContainer}{n N:Nat}(h:l.length+(l.map GContainer.size).sum≤N):(l.take n).length+((l.take n).map GContainer.size).sum≤N:=by
 have h1:=List.length_take_le n l
 have h2:=K1o (f:=GContainer.size) l n
 have h3:(l.take n).length≤l.length:=by rw[List.length_take];omega
 omega
end Go.Proofs.YtflhjihoifbmfaaGreatDoorR
namespace Go.Proofs.YtflhjihoifbmfaaGreatDoorR
open Go Go.RowKit Go.Proofs
open Nat (reduceEqDiff reduceLT reduceLeDiff reduceAdd reduceMul)
open List (reduceReplicate)
def K35(x:GExclusion):Bool:=decide ((1≤x.Host∧x.Host≤9)∧(-1≤x.Path∧x.Path≤99)∧(0≤x.From∧x.From≤x.Until)∧x.Until≤2000∧(0≤x.Asked∧x.Asked≤2000))
def M3n:MC:=
(Zs [.box 1 0 (.s 0),.mv 2 cF] [1] (.seq (.reg [Za (fS 3 1 0),Za (lF 4 1 3),Za (.call 5 [] (.f N9) [.s 4,.c (.int .i64 1),.c (.int .i64 9)]),Za (mS 6 5),Zb 6 true (fS 7 1 1),Zb 6 true (lF 8 1 7),Zb 6 true (.call 9 [] (.f N9) [.s 8,.c (.int .i64 (-1)),.c (.int .i64 99)]),Za (.pick 10 (.s 6) (.s 9) cF),Za (mS 11 10),Zb 11 true (fS 12 1 2),Zb 11 true (lF 13 1 12),Zb 11 true (fS 14 1 3),Zb 11 true (lF 15 1 14),Zb 11 true (.call 16 [] (.f N9) [.s 13,.c (.int .i64 0),.s 15]),Za (.pick 17 (.s 11) (.s 16) cF),Za (mS 18 17),Zb 18 true (fS 19 1 3),Zb 18 true (lF 20 1 19),Zb 18 true (bC 21 .leq 20 2000),Za (.pick 22 (.s 18) (.s 21) cF),Za (mS 23 22),Zb 23 true (fS 24 1 4),Zb 23 true (lF 25 1 24),Zb 23 true (.call 26 [] (.f N9) [.s 25,.c (.int .i64 0),.c (.int .i64 2000)]),Za (.pick 27 (.s 23) (.s 26) cF),Za (mS 2 27)] [2])
.ret))
theorem C98(x:GExclusion):Ctr Tryz.prog N44 [aS x.enc] [rB (K35 x)]:=by
 refine cA M3n 1 28 [(.tmp 2,[false])] Tryz.func128 rfl rfl ?_;unfold M3n
 intro hb
 clear hb
 simp only[go_sem]
 repeat' first
  |(refine And.intro ?_ ?_<;>intro h)
  |(apply K0 (Ch _ _ _);simp only[go_sem])
 all_goals (unfold K35;first|(symm;rw[decide_eq_false_iff_not];omega)|(rw[Bool.eq_iff_iff];simp only[decide_eq_true_eq];omega))
def M40:MC:=
(Zs [.box 1 0 (.s 0),.mv 2 cF] [1] (.seq (.reg [Za (fS 3 1 0),Za (lF 4 1 3),Za (.call 5 [] (.f N4) [.s 4,.c (.int .i64 1),.c (.int .i64 9)]),Za (mS 6 5),Zb 6 true (fS 7 1 1),Zb 6 true (lF 8 1 7),Zb 6 true (.call 9 [] (.f N4) [.s 8,.c (.int .i64 (-1)),.c (.int .i64 99)]),Za (.pick 10 (.s 6) (.s 9) cF),Za (mS 11 10),Zb 11 true (fS 12 1 2),Zb 11 true (lF 13 1 12),Zb 11 true (.call 14 [] (.f N4) [.s 13,.c (.int .i64 0),.c (.int .i64 2000)]),Za (.pick 15 (.s 11) (.s 14) cF),Za (mS 16 15),Zb 16 true (fS 17 1 3),Zb 16 true (lF 18 1 17),Zb 16 true (fS 19 1 2),Zb 16 true (lF 20 1 19),Zb 16 true (.call 21 [] (.f N4) [.s 18,.s 20,.c (.int .i64 2000)]),Za (.pick 22 (.s 16) (.s 21) cF),Za (mS 23 22),Zb 23 true (fS 24 1 4),Zb 23 true (lF 25 1 24),Zb 23 true (.call 26 [] (.f N4) [.s 25,.c (.int .i64 0),.c (.int .i64 2000)]),Za (.pick 27 (.s 23) (.s 26) cF),Za (mS 2 27)] [2])
.ret))
theorem C9p(x:GExclusion):Ctr Tryz.prog N4g [aS x.enc] [rB (K35 x)]:=by
 refine cA M40 1 28 [(.tmp 2,[false])] Tryz.func139 rfl rfl ?_;unfold M40
 intro hb
 clear hb
 simp only[go_sem]
 repeat' first
  |(refine And.intro ?_ ?_<;>intro h)
  |(apply K0 (Cf _ _ _);simp only[go_sem])
 all_goals (unfold K35;first|(symm;rw[decide_eq_false_iff_not];omega)|(rw[Bool.eq_iff_iff];simp only[decide_eq_true_eq];omega))
def hidesB(x:GExclusion)(c:GCapture):Bool:=K35 x&&decide (c.Address.Host=x.Host∧(x.Path= -1∨c.Address.Path=x.Path)∧x.From≤c.Tick∧c.Tick≤x.Until)
def K2f(x:GExclusion)(c:GCapture)(now:Int):Bool:=decide (x.Asked≤now)&&hidesB x c
def M20:MC:=
(Zs [.box 2 0 (.s 0),.box 3 1 (.s 1),.mv 4 cF] [2,3] (.seq (.reg [Za (lT 5 5 2),Za (.call 6 [] (.f N44) [.s 5]),Za (mS 7 6),Zb 7 true (fS 8 3 0),Zb 7 true (fS 9 8 0),Zb 7 true (lF 10 1 9),Zb 7 true (fS 11 2 0),Zb 7 true (lF 12 1 11),Zb 7 true (bS 13 .eql 10 12),Za (.pick 14 (.s 7) (.s 13) cF),Za (mS 15 14),Zb 15 true (fS 16 2 1),Zb 15 true (lF 17 1 16),Zb 15 true (.bin 18 false .eql (.s 17) (.c (.int .i64 (-1)))),Zb 15 true (mS 19 18),Zb 19 false (fS 20 3 0),Zb 19 false (fS 21 20 1),Zb 19 false (lF 22 1 21),Zb 19 false (fS 23 2 1),Zb 19 false (lF 24 1 23),Zb 19 false (bS 25 .eql 22 24),Zb 15 true (.pick 26 (.s 19) cT (.s 25)),Za (.pick 27 (.s 15) (.s 26) cF),Za (mS 28 27),Zb 28 true (fS 29 3 3),Zb 28 true (lF 30 1 29),Zb 28 true (fS 31 2 2),Zb 28 true (lF 32 1 31),Zb 28 true (fS 33 2 3),Zb 28 true (lF 34 1 33),Zb 28 true (.call 35 [] (.f N9) [.s 30,.s 32,.s 34]),Za (.pick 36 (.s 28) (.s 35) cF),Za (mS 4 36)] [4])
.ret))
theorem Cbp(x:GExclusion)(c:GCapture):Ctr Tryz.prog N22 [aS x.enc,aS c.enc] [rB (hidesB x c)]:=by
 refine cA M20 2 37 [(.tmp 4,[false])] Tryz.func110 rfl rfl ?_;unfold M20
 intro hb
 clear hb
 simp only[go_sem]
 repeat' first
  |(refine And.intro ?_ ?_<;>intro h)
  |(apply K0 (C98 _);simp only[go_sem])
  |(apply K0 (Ch _ _ _);simp only[go_sem])
 all_goals (unfold hidesB;first|(rw[‹K35 x=false›];rfl)|(rw[‹K35 x=true›,Bool.true_and];first|(symm;rw[decide_eq_false_iff_not];omega)|(rw[Bool.eq_iff_iff];simp only[decide_eq_true_eq];omega)))
def M7n:MC:=
(Zs [.box 2 0 (.s 0),.box 3 1 (.s 1),.mv 4 cF] [2,3] (.seq (.reg [Za (lT 5 5 2),Za (.call 6 [] (.f N4g) [.s 5]),Za (mS 7 6),Zb 7 true (fS 8 2 0),Zb 7 true (lF 9 1 8),Zb 7 true (fS 10 3 0),Zb 7 true (fS 11 10 0),Zb 7 true (lF 12 1 11),Zb 7 true (bS 13 .eql 9 12),Za (.pick 14 (.s 7) (.s 13) cF),Za (mS 15 14),Zb 15 true (fS 16 2 1),Zb 15 true (lF 17 1 16),Zb 15 true (.bin 18 false .eql (.s 17) (.c (.int .i64 (-1)))),Zb 15 true (mS 19 18),Zb 19 false (fS 20 2 1),Zb 19 false (lF 21 1 20),Zb 19 false (fS 22 3 0),Zb 19 false (fS 23 22 1),Zb 19 false (lF 24 1 23),Zb 19 false (bS 25 .eql 21 24),Zb 15 true (.pick 26 (.s 19) cT (.s 25)),Za (.pick 27 (.s 15) (.s 26) cF),Za (mS 28 27),Zb 28 true (fS 29 3 3),Zb 28 true (lF 30 1 29),Zb 28 true (fS 31 2 2),Zb 28 true (lF 32 1 31),Zb 28 true (fS 33 2 3),Zb 28 true (lF 34 1 33),Zb 28 true (.call 35 [] (.f N4) [.s 30,.s 32,.s 34]),Za (.pick 36 (.s 28) (.s 35) cF),Za (mS 4 36)] [4])
.ret))
theorem Cb8(x:GExclusion)(c:GCapture):Ctr Tryz.prog N7x [aS x.enc,aS c.enc] [rB (hidesB x c)]:=by
 refine cA M7n 2 37 [(.tmp 4,[false])] Tryz.func124 rfl rfl ?_;unfold M7n
 intro hb
 clear hb
 simp only[go_sem]
 repeat' first
  |(refine And.intro ?_ ?_<;>intro h)
  |(apply K0 (C9p _);simp only[go_sem])
  |(apply K0 (Cf _ _ _);simp only[go_sem])
 all_goals (unfold hidesB;first|(rw[‹K35 x=false›];rfl)|(rw[‹K35 x=true›,Bool.true_and];first|(symm;rw[decide_eq_false_iff_not];omega)|(rw[Bool.eq_iff_iff];simp only[decide_eq_true_eq];omega)))
def M4r:MC:=
(Zs [.box 3 0 (.s 0),.box 4 1 (.s 1),.mv 6 cF] [2,3,4] (.seq (.reg [Za (mS 7 2),Za (fS 8 3 4),Za (lF 9 1 8),Za (bS 10 .geq 7 9),Za (mS 11 10),Zb 11 true (lT 12 5 3),Zb 11 true (lT 13 9 4),Zb 11 true (.call 14 [] (.f N22) [.s 12,.s 13]),Za (.pick 15 (.s 11) (.s 14) cF),Za (mS 6 15)] [6])
.ret))
theorem C9x(x:GExclusion)(c:GCapture)(now:Int):Ctr Tryz.prog N5e [aS x.enc,aS c.enc,aI now] [rB (K2f x c now)]:=by
 refine cA M4r 2 16 [(.tmp 6,[false])] Tryz.func83 rfl rfl ?_;unfold M4r
 intro hb
 clear hb
 simp only[go_sem]
 repeat' first
  |(refine And.intro ?_ ?_<;>intro h)
  |(apply K0 (Cbp _ _);simp only[go_sem])
 all_goals (unfold K2f;first|(rw[‹hidesB x c=false›];simp)|(simp;done)|(simp_all;done)|(intros;omega)|(simp_all;intros;omega))
def M58:MC:=
(Zs [.box 3 0 (.s 0),.box 4 1 (.s 1),.mv 6 cF] [2,3,4] (.seq (.reg [Za (lT 7 5 3),Za (lT 8 9 4),Za (.call 9 [] (.f N7x) [.s 7,.s 8]),Za (mS 10 9),Zb 10 true (mS 11 2),Zb 10 true (fS 12 3 4),Zb 10 true (lF 13 1 12),Zb 10 true (bS 14 .geq 11 13),Za (.pick 15 (.s 10) (.s 14) cF),Za (mS 6 15)] [6])
.ret))
theorem Cac(x:GExclusion)(c:GCapture)(now:Int):Ctr Tryz.prog N5w [aS x.enc,aS c.enc,aI now] [rB (K2f x c now)]:=by
 refine cA M58 2 16 [(.tmp 6,[false])] Tryz.func99 rfl rfl ?_;unfold M58
 intro hb
 clear hb
 simp only[go_sem]
 repeat' first
  |(refine And.intro ?_ ?_<;>intro h)
  |(apply K0 (Cb8 _ _);simp only[go_sem])
 all_goals (unfold K2f;first|(rw[‹hidesB x c=false›];simp)|(simp;done)|(simp_all;done)|(intros;omega)|(simp_all;intros;omega))
theorem cut_one{α:Type}{f:α→List T}{xs:List α}{k:Nat}{x:α}(hx:xs[k]? =some x):(if k=0∧(((k+1:Nat):Int)-(k:Int)).toNat=xs.length then xs.map f else List.take (((k+1:Nat):Int)-(k:Int)).toNat (List.drop k (xs.map f)))=[x].map f:=by
 have e:(((k+1:Nat):Int)-(k:Int)).toNat=1:=by omega
 have hk:=K6 hx
 rw[e]
 have hd:List.take 1 (List.drop k (xs.map f))=[x].map f:=by
  rw[←List.map_drop,K1t hx];rfl
 split
 ·rename_i h
  rw[h.1]at hd
  rw[←hd,List.drop_zero,List.take_of_length_le (by rw[List.length_map,←h.2];exact Nat.le_refl _)]
 ·exact hd
def K2g(c:GCapture)(l:List GExclusion)(now:Int):Bool:=l.any fun x=>K2f x c now
def visible(cs:List GCapture)(l:List GExclusion)(now:Int):List GCapture:=cs.filter fun c=> !K2g c l now
theorem K39{cs:List GCapture}{l:List GExclusion}{now:Int}{k:Nat}{c:GCapture}(h:cs[k]? =some c):visible (cs.take (k+1)) l now=if K2g c l now then visible (cs.take k) l now else visible (cs.take k) l now++[c]:=by
 unfold visible
 rw[Kj h,List.filter_append]
 cases hh:K2g c l now<;>simp[hh]
theorem K3k(cs:List GCapture)(l:List GExclusion)(now:Int):(visible cs l now).length≤cs.length:=List.length_filter_le _ _
theorem K3r{α:Type}{p:α→Bool}{f:α→Nat}:∀l:List α,((l.filter p).map f).sum≤(l.map f).sum
 | []=>by simp
 |x::l=>by
  have:=K3r (p:=p) (f:=f) l
  rw[List.filter_cons]
  split<;>simp<;>omega
def M3p:MC:=
(Zs [.box 3 0 (.s 0),.mv 4 cF] [1,2,3] (Zs [lT 5 5 3,lT 6 9 1,lF 7 1 2,.call 8 [] (.f N5e) [.s 5,.s 6,.s 7],mS 4 8] [4] .ret))
theorem C9a(x:GExclusion)(c:GCapture)(now:Int):Ctr Tryz.prog N46 [aS x.enc,(false,[.pb c.enc]),(false,[.pb [tI now]])] [rB (K2f x c now)]:=by
 refine cA M3p 1 9 [(.tmp 4,[false])] Tryz.func82 rfl rfl ?_;unfold M3p
 intro hb
 clear hb
 simp only[go_sem]
 refine K0 (C9x _ _ _) ?_
 simp only[go_sem]
def M6a:MC:=
(Zs [.box 5 0 (.s 2),.nilo 6 1 9] [0,1,5] (Zs [.nilo 7 2 9] [0,1,5,7] (.seq (Zs [mS 10 0,nS 11 10,.mv 12 (ci 0)] [1,5,7,10,11,12] (.block 0 (.loop ([1,5,7,10,11,12],[1,3,4]) (Zs [bS 13 .lss 12 11] [1,5,7,10,11,12,13] (.seq (cX 13 0)
(.seq (.block 1 (Zs [xS 14 9 10 12,lT 15 9 14,.alloc 9 3 [pz,pz,pz,pz,pz,.emp 1,pz,pz,pz],sS 9 9 15] [1,5,7,9,10,11,12] (Zs [mS 16 1,.clos 17 N46 [9,5],.call 18 [] (.f N6) [.s 16,.s 17],.un 19 .not (.s 18)] [1,5,7,9,10,11,12,19] (.cond (.s 19) (pr [mS 20 7,lT 21 9 9,.lit 22 4 9 88 [.s 21],.app 23 2 9 88 (.s 20) (.s 22),mS 7 23] [1,5,7,10,11,12]) .skip))))
(pr [bC 24 .add 12 1,mS 12 24] [1,5,7,10,11,12])))))))
(Zs [mS 25 7,.call 26 [1] (.f N1n) [.s 25],mS 6 26] [6] .ret))))
theorem C63(cs:List GCapture)(l:List GExclusion)(now:Int)(hs:cs.length+(cs.map GCapture.size).sum≤1073741824):Ctr Tryz.prog N2b [aL 9 (cs.map GCapture.enc),aL 5 (l.map GExclusion.enc),aI now] [rL 9 ((visible cs l now).map GCapture.enc)]:=by
 refine cA M6a 5 27 [(.tmp 6,[true])] Tryz.func55 rfl rfl ?_;unfold M6a
 intro hb
 clear hb
 simp only[go_sem]
 refine K4 cs (fun k=>[(7,.val false [.ref 2 0 9 0 (visible (cs.take k) l now).length]),(12,vI k)]) (fun k=>[(2,⟨0,.row (visible (cs.take k) l now).isEmpty 9 ((visible (cs.take k) l now).map GCapture.enc)⟩)]) (fun _=>True) (by simp only[roomB];omega) ?_
 simp only[go_sem]
 refine⟨?_,trivial,?_,?_⟩
 ·simp only[go_sem,List.take_zero]
  exact⟨rfl,rfl,rfl⟩
 ·intro k x hx _ h0 h1 hw
  have hk:k<cs.length:=by omega
  have hlt:=List.length_take_le k cs
  have hv:=K3k (cs.take k) l now
  simp only[go_sem,K3 hx,h0,h1]
  refine K0 (C2i l _ [.pb x.enc,.pb [tI now]] (fun y=>K2f y x now) fun y _=>C9a y x now) ?_
  simp only[go_sem,hw]
  refine⟨fun h=>?_,fun h=>?_⟩
  ·have hx2:K2g x l now=false:=h
   simp only[roomB,K39 hx,hx2,Bool.false_eq_true,if_false]
   refine⟨by omega,by omega,?_,by simp,by simp,by simp[GCapture.enc]⟩
   cases visible (cs.take k) l now<;>simp
  ·have hx2:K2g x l now=true:=h
   simp only[K39 hx,hx2,if_true]
   first|trivial|exact⟨rfl,rfl,rfl⟩|(refine⟨?_,?_⟩<;>rfl)
 ·intro _
  simp only[go_sem,List.take_length]
  refine K0 (C16 _ ?_) ?_
  ·have:=K3k cs l now
   have:=K3r (p:=fun c=> !K2g c l now) (f:=GCapture.size) cs
   unfold visible at*
   omega
  simp only[go_sem]
def M6t:MC:=
(Zs [.box 3 0 (.s 0),.mv 6 cF] [1,2,3] (.seq (Zs [.mv 7 (ci 0)] [1,2,3,7] (.block 0 (.loop ([1,2,3,7],[]) (.seq (Zs [mS 8 7,mS 9 1,nS 10 9,bS 11 .lss 8 10] [1,2,3,7,11] (cX 11 0))
(.seq (.block 1 (.seq (.dreg [Zc [15,18,19] (mS 14 1),Zc [14,18,19] (mS 15 7),Zd [18,19] [0,1] (xS 16 5 14 15),Zd [18,19] [0,1,2] (lT 17 5 16),Zc [14,15,16,17,19] (lT 18 9 3),Zc [14,15,16,17,18] (mS 19 2),Ze (.range 6) (.call 20 [] (.f N5w) [.s 17,.s 18,.s 19])] [1,2,3,7,20])
(.cond (.s 20) (Zs [.mv 6 cT] [6] .ret) .skip)))
(pr [mS 12 7,bC 13 .add 12 1,mS 7 13] [1,2,3,7]))))))
(Zs [.mv 6 cF] [6] .ret)))
theorem Cay(c:GCapture)(l:List GExclusion)(now:Int):Ctr Tryz.prog N7a [aS c.enc,aL 5 (l.map GExclusion.enc),aI now] [rB (K2g c l now)]:=by
 refine cA M6t 1 21 [(.tmp 6,[false])] Tryz.func70 rfl rfl ?_;unfold M6t
 intro hb
 simp only[bdA,bdL,bdT,Kg,K14,roomB,and_true,List.length_map]at hb
 have hl:=hb.2.1.1
 clear hb
 simp only[go_sem]
 refine K4 l (fun k=>[(7,vI k)]) (fun k=>[]) (fun k=>((l.take k).any fun x=>K2f x c now)=false) hl ?_
 simp only[go_sem]
 refine⟨?_,by simp,?_,?_⟩
 ·simp only[go_sem]
 ·intro k x hx h h0 h1 hw
  simp only[go_sem,K3 hx,h0,h1]
  refine K0 (Cac _ _ _) ?_
  simp only[go_sem,hw]
  exact⟨fun hn=>(K8q hx hn).symm,fun hn=>K4d hx h hn⟩
 ·intro h
  simp only[go_sem]
  rw[List.take_length]at h
  exact h.symm
def M6s:MC:=
(Zs [.nilo 6 0 9] [0,1,2] (Zs [.lit 9 0 9 88 [],mS 7 9] [0,1,2,7] (.seq (Zs [.mv 8 (ci 0)] [0,1,2,7,8] (.block 0 (.loop ([0,1,2,7,8],[1]) (.seq (Zs [mS 10 8,mS 11 0,nS 12 11,bS 13 .lss 10 12] [0,1,2,7,8,13] (cX 13 0))
(.seq (.block 1 (Zs [mS 16 0,mS 17 8,xS 18 9 16 17,lT 19 9 18,mS 20 1,mS 21 2,.call 22 [] (.f N7a) [.s 19,.s 20,.s 21],.un 23 .not (.s 22)] [0,1,2,7,8,23] (.cond (.s 23) (pr [mS 24 7,mS 25 0,mS 26 8,mS 27 8,bC 28 .add 27 1,.slc 29 9 (.s 25) (some (.s 26)) (some (.s 28)) none,.call 30 [1] (.f N1y) [.s 29],.app 31 0 9 88 (.s 24) (.s 30),mS 7 31] [0,1,2,7,8]) .skip)))
(pr [mS 14 8,bC 15 .add 14 1,mS 8 15] [0,1,2,7,8]))))))
(Zs [mS 32 7,mS 6 32] [6] .ret))))
theorem C66(cs:List GCapture)(l:List GExclusion)(now:Int)(hs:cs.length+(cs.map GCapture.size).sum≤1073741824):Ctr Tryz.prog N2d [aL 9 (cs.map GCapture.enc),aL 5 (l.map GExclusion.enc),aI now] [rL 9 ((visible cs l now).map GCapture.enc)]:=by
 refine cA M6s 2 33 [(.tmp 6,[true])] Tryz.func42 rfl rfl ?_;unfold M6s
 intro hb
 clear hb
 simp only[go_sem]
 refine K4 cs (fun k=>[(7,.val false [.ref 0 0 9 0 (visible (cs.take k) l now).length]),(8,vI k)]) (fun k=>[(0,⟨0,.row true 9 ((visible (cs.take k) l now).map GCapture.enc)⟩)]) (fun _=>True) (by simp only[roomB];omega) ?_
 simp only[go_sem]
 refine⟨?_,trivial,?_,?_⟩
 ·simp only[go_sem,List.take_zero]
  exact⟨rfl,rfl⟩
 ·intro k x hx _ h0 h1 hw
  have hk:k<cs.length:=by omega
  have hlt:=List.length_take_le k cs
  have hv:=K3k (cs.take k) l now
  simp only[go_sem,K3 hx,h0,h1]
  refine K0 (Cay _ _ _) ?_
  simp only[go_sem,hw]
  refine⟨fun h=>?_,fun h=>?_⟩
  ·rw[cut_one hx]
   refine⟨by omega,?_⟩
   refine K0 (C1d [x] ?_) ?_
   ·have hx1:=K2b (f:=GCapture.size) (K1c hx)
    simp only[List.length_cons,List.length_nil,List.map_cons,List.map_nil,List.sum_cons,List.sum_nil]
    omega
   simp only[go_sem,hw]
   simp only[roomB,K39 hx,h,Bool.false_eq_true,if_false]
   exact⟨by omega,fun _=>⟨by simp,by simp[GCapture.enc]⟩⟩
  ·simp only[K39 hx,h,if_true]
   first|trivial|exact⟨rfl,rfl⟩
 ·intro _
  simp only[go_sem,List.take_length]
end Go.Proofs.YtflhjihoifbmfaaGreatDoorR
namespace Go.Proofs.YtflhjihoifbmfaaGreatDoorR
open Go Go.RowKit Go.Proofs
open Nat (reduceEqDiff reduceLT reduceLeDiff reduceAdd reduceMul)
open List (reduceReplicate)
def Mba:MC:=
(Zs [.mv 4 (ci 0)] [0,1] (.seq (Zs [mS 5 1,mS 6 0,bS 7 .gtr 5 6] [0,1,7] (.cond (.s 7) (Zs [mS 8 1,mS 4 8] [4] .ret) .skip))
(Zs [mS 9 0,mS 4 9] [4] .ret)))
theorem Cbv(x y:Int):Ctr Tryz.prog Nbb [aI x,aI y] [rI (if y>x then y else x)]:=by
 refine cA Mba 0 10 [(.tmp 4,[false])] Tryz.func45 rfl rfl ?_;unfold Mba
 intro hb
 clear hb
 simp only[go_sem]
 refine⟨fun h=>?_,fun h=>?_⟩
 ·rw[if_pos (by omega)]
 ·rw[if_neg (by omega)]
end Go.Proofs.YtflhjihoifbmfaaGreatDoorR
namespace Go.Proofs.YtflhjihoifbmfaaGreatDoorR
open Go Go.RowKit Go.Proofs
open Nat (reduceEqDiff reduceLT reduceLeDiff reduceAdd reduceMul)
open List (reduceReplicate)
def Ks(l:List GContainer):List GCapture:=l.flatMap fun x=>x.Captures
theorem K1y{l:List GContainer}{k:Nat}{x:GContainer}(h:l[k]? =some x):Ks (l.take (k+1))=Ks (l.take k)++x.Captures:=by
 rw[Kj h,Ks,List.flatMap_append];simp[Ks]
theorem K4e:∀ {l:List GContainer},(Ks l).length+((Ks l).map GCapture.size).sum≤(l.map GContainer.size).sum
 | []=>by simp[Ks]
 |x::l=>by
  have:=K4e (l:=l)
  simp only[Ks,List.flatMap_cons,List.length_append,List.map_append,List.sum_append,List.map_cons,List.sum_cons,GContainer.size]at*
  omega
theorem K2w{l:List GContainer}{k:Nat}{x:GContainer}(h:l[k]? =some x):(Ks (l.take k)).length+x.Captures.length≤(l.map GContainer.size).sum:=by
 have h1:=K4e (l:=l.take (k+1))
 have h2:=K1o (f:=GContainer.size) l (k+1)
 rw[K1y h,List.length_append]at h1
 omega
theorem K2x{l:List GContainer}{k:Nat}{x:GContainer}(h:l[k]? =some x):x.Captures.length+(x.Captures.map GCapture.size).sum≤(l.map GContainer.size).sum:=by
 have h1:=K2b (f:=GContainer.size) (K1c h)
 simp only[GContainer.size]at h1 ⊢
 omega
def told(d:GDisk):List GContainer:=if whole d then d.Containers else d.Containers.dropLast
def Kq(a:GArchive):List GCapture:=Ks (told a.Disk)
theorem K9p{d:GDisk}(h:whole d=true):told d=d.Containers:=by unfold told;rw[h];rfl
theorem K6b{d:GDisk}(h:whole d=false):told d=d.Containers.take (d.Containers.length-1):=by unfold told;rw[h,List.dropLast_eq_take];rfl
theorem at_take{α:Type}{l:List α}{n k:Nat}{x:α}(h:(l.take n)[k]? =some x):l[k]? =some x:=by
 rw[List.getElem?_take]at h
 split at h
 ·exact h
 ·cases h
def M3l:MC:=
(Zs [.box 1 0 (.s 0),.nilo 2 1 9] [1] (Zs [fS 7 1 2,fS 8 7 0,lF 9 1 8,mS 3 9] [1,3] (.seq (.seq (.reg [Za (fS 10 1 2),Za (lT 11 3 10),Za (.call 12 [] (.f N38) [.s 11]),Za (.un 13 .not (.s 12)),Za (mS 14 13),Zb 14 true (mS 15 3),Zb 14 true (nS 16 15),Zb 14 true (bC 17 .gtr 16 0),Za (.pick 18 (.s 14) (.s 17) cF)] [3,18])
(.cond (.s 18) (pr [mS 19 3,mS 20 3,nS 21 20,bC 22 .sub 21 1,.slc 23 4 (.s 19) none (some (.s 22)) none,mS 3 23] [3]) .skip))
(Zs [.nilo 4 1 9] [3,4] (.seq (Zs [mS 24 3,nS 25 24,.mv 26 (ci 0)] [4,24,25,26] (.block 0 (.loop ([4,24,25,26],[0,2,3]) (Zs [bS 27 .lss 26 25] [4,24,25,26,27] (.seq (cX 27 0)
(.seq (.block 1 (Zs [xS 28 4 24 26,lT 29 4 28,.alloc 6 2 [.emp 4,.emp 5,.emp 9,pz],sS 4 6 29] [4,6,24,25,26] (pr [mS 30 4,fS 31 6 2,lF 32 1 31,.call 33 [3] (.f N1n) [.s 32],.app 34 1 9 88 (.s 30) (.s 33),mS 4 34] [4,24,25,26])))
(pr [bC 35 .add 26 1,mS 26 35] [4,24,25,26])))))))
(Zs [mS 36 4,mS 2 36] [2] .ret))))))
theorem C96(a:GArchive)(hs:a.size≤1073741824):Ctr Tryz.prog N42 [aS a.enc] [rL 9 ((Kq a).map GCapture.enc)]:=by
 refine cA M3l 4 37 [(.tmp 2,[true])] Tryz.func56 rfl rfl ?_;unfold M3l
 intro hb
 clear hb
 have hsd:a.Disk.size≤1073741824:=by simp only[GArchive.size]at hs;omega
 have hsz:a.Disk.Containers.length+(a.Disk.Containers.map GContainer.size).sum≤1073741824:=by simp only[GDisk.size]at hsd;omega
 have hsz2:=take_sz (n:=a.Disk.Containers.length-1) hsz
 have hw1:(a.Disk.Containers.length:Int)>0→IntKind.i64.wrap ((a.Disk.Containers.length:Int)-1)=((a.Disk.Containers.length-1:Nat):Int):=fun h=>by rw[wI (by omega) (by omega)];omega
 simp only[go_sem]
 apply K0 (Cbc a.Disk hsd)
 simp only[go_sem]
 repeat' first
  |(refine And.intro ?_ ?_<;>intro h)
 ·rename_i hN
  have eL:(a.Disk.Containers.take (a.Disk.Containers.length-1)).length=a.Disk.Containers.length-1:=by rw[List.length_take];omega
  rw[hw1 h,cutA (by omega)]
  refine⟨⟨by omega,by omega,by omega⟩,?_⟩
  try simp only[go_sem,eL]
  refine K4 (a.Disk.Containers.take (a.Disk.Containers.length-1)) (fun k=>[(4,.val false [.ref 1 0 9 0 (Ks ((a.Disk.Containers.take (a.Disk.Containers.length-1)).take k)).length]),(26,vI k)]) (fun k=>[(1,⟨0,.row true 9 ((Ks ((a.Disk.Containers.take (a.Disk.Containers.length-1)).take k)).map GCapture.enc)⟩)]) (fun _=>True) (by simp only[roomB];omega) ?_
  simp only[go_sem]
  refine⟨?_,trivial,?_,?_⟩
  ·simp only[go_sem,List.take_zero]
   exact⟨rfl,rfl⟩
  ·intro k x hx _ h0 h1 hw
   have hq:=K2w hx
   have hq2:=K2x hx
   have hx3:a.Disk.Containers[k]? =some x:=at_take hx
   have hx2:(k:Int)<((a.Disk.Containers.length-1:Nat):Int):=by have:=K6 hx;rw[List.length_take]at this;omega
   have hx4:(k:Int)<a.Disk.Containers.length:=by have:=K6 hx3;omega
   simp only[go_sem,K3 hx,hx2,h0,h1]
   apply K0 (C16 x.Captures (by omega))
   by_cases hf:flat (x.Captures.map GCapture.enc)=true
   all_goals
    simp only[go_sem,hw,hf,K1y hx,List.length_append]
    simp only[roomB]
    exact⟨by omega,fun _=>by rw[List.map_append]⟩
  ·intro _
   simp only[go_sem,eL,Int.lt_irrefl,List.take_take,Nat.min_self]
   rw[Kq,K6b hN]
 ·rename_i hN
  have eL:True:=trivial
  have hC0:a.Disk.Containers=[]:=List.length_eq_zero_iff.1 (by omega)
  refine K4 (a.Disk.Containers) (fun k=>[(4,.val false [.ref 1 0 9 0 (Ks ((a.Disk.Containers).take k)).length]),(26,vI k)]) (fun k=>[(1,⟨0,.row true 9 ((Ks ((a.Disk.Containers).take k)).map GCapture.enc)⟩)]) (fun _=>True) (by simp only[roomB];omega) ?_
  simp only[go_sem]
  refine⟨?_,trivial,?_,?_⟩
  ·simp only[go_sem,List.take_zero]
   exact⟨rfl,rfl⟩
  ·intro k x hx _ h0 h1 hw
   have hq:=K2w hx
   have hq2:=K2x hx
   have hx3:a.Disk.Containers[k]? =some x:=hx
   have hx2:(k:Int)<(a.Disk.Containers.length:Int):=by have:=K6 hx;omega
   have hx4:(k:Int)<a.Disk.Containers.length:=by have:=K6 hx3;omega
   simp only[go_sem,K3 hx,hx2,h0]
   apply K0 (C16 x.Captures (by omega))
   by_cases hf:flat (x.Captures.map GCapture.enc)=true
   all_goals
    simp only[go_sem,hw,hf,K1y hx,List.length_append]
    simp only[roomB]
    exact⟨by omega,fun _=>by rw[List.map_append]⟩
  ·intro _
   simp only[go_sem,List.take_length,Int.lt_irrefl]
   rw[Kq,K6b hN,hC0]
   rfl
 ·have eL:True:=trivial
  refine K4 (a.Disk.Containers) (fun k=>[(4,.val false [.ref 1 0 9 0 (Ks ((a.Disk.Containers).take k)).length]),(26,vI k)]) (fun k=>[(1,⟨0,.row true 9 ((Ks ((a.Disk.Containers).take k)).map GCapture.enc)⟩)]) (fun _=>True) (by simp only[roomB];omega) ?_
  simp only[go_sem]
  refine⟨?_,trivial,?_,?_⟩
  ·simp only[go_sem,List.take_zero]
   exact⟨rfl,rfl⟩
  ·intro k x hx _ h0 h1 hw
   have hq:=K2w hx
   have hq2:=K2x hx
   have hx3:a.Disk.Containers[k]? =some x:=hx
   have hx2:(k:Int)<(a.Disk.Containers.length:Int):=by have:=K6 hx;omega
   have hx4:(k:Int)<a.Disk.Containers.length:=by have:=K6 hx3;omega
   simp only[go_sem,K3 hx,hx2,h0]
   apply K0 (C16 x.Captures (by omega))
   by_cases hf:flat (x.Captures.map GCapture.enc)=true
   all_goals
    simp only[go_sem,hw,hf,K1y hx,List.length_append]
    simp only[roomB]
    exact⟨by omega,fun _=>by rw[List.map_append]⟩
  ·intro _
   simp only[go_sem,List.take_length,Int.lt_irrefl]
   rw[Kq,K9p h]
def M3y:MC:=
(Zs [.box 1 0 (.s 0),.nilo 2 1 9] [1] (Zs [fS 6 1 2,fS 7 6 0,lF 8 1 7,nS 9 8,mS 3 9] [1,3] (.seq (.seq (.reg [Za (fS 10 1 2),Za (lT 11 3 10),Za (.call 12 [] (.f N7y) [.s 11]),Za (.un 13 .not (.s 12)),Za (mS 14 13),Zb 14 true (mS 15 3),Zb 14 true (bC 16 .gtr 15 0),Za (.pick 17 (.s 14) (.s 16) cF)] [1,3,17])
(.cond (.s 17) (pr [mS 18 3,bC 19 .sub 18 1,mS 3 19] [1,3]) .skip))
(Zs [.lit 20 1 9 88 [],mS 4 20] [1,3,4] (.seq (Zs [.mv 5 (ci 0)] [1,3,4,5] (.block 0 (.loop ([1,3,4,5],[2]) (.seq (Zs [mS 21 5,mS 22 3,bS 23 .lss 21 22] [1,3,4,5,23] (cX 23 0))
(.seq (.block 1 (pr [mS 26 4,fS 27 1 2,fS 28 27 0,lF 29 1 28,mS 30 5,xS 31 4 29 30,fS 32 31 2,lF 33 1 32,.call 34 [2] (.f N1y) [.s 33],.app 35 1 9 88 (.s 26) (.s 34),mS 4 35] [1,3,4,5]))
(pr [mS 24 5,bC 25 .add 24 1,mS 5 25] [1,3,4,5]))))))
(Zs [mS 36 4,mS 2 36] [2] .ret))))))
theorem C9n(a:GArchive)(hs:a.size≤1073741824):Ctr Tryz.prog N4e [aS a.enc] [rL 9 ((Kq a).map GCapture.enc)]:=by
 refine cA M3y 3 37 [(.tmp 2,[true])] Tryz.func43 rfl rfl ?_;unfold M3y
 intro hb
 clear hb
 have hsd:a.Disk.size≤1073741824:=by simp only[GArchive.size]at hs;omega
 have hsz:a.Disk.Containers.length+(a.Disk.Containers.map GContainer.size).sum≤1073741824:=by simp only[GDisk.size]at hsd;omega
 have hsz2:=take_sz (n:=a.Disk.Containers.length-1) hsz
 have hw1:(a.Disk.Containers.length:Int)>0→IntKind.i64.wrap ((a.Disk.Containers.length:Int)-1)=((a.Disk.Containers.length-1:Nat):Int):=fun h=>by rw[wI (by omega) (by omega)];omega
 simp only[go_sem]
 apply K0 (Cb9 a.Disk hsd)
 simp only[go_sem]
 repeat' first
  |(refine And.intro ?_ ?_<;>intro h)
 ·rename_i hN
  have eL:(a.Disk.Containers.take (a.Disk.Containers.length-1)).length=a.Disk.Containers.length-1:=by rw[List.length_take];omega
  rw[hw1 h]
  refine K4 (a.Disk.Containers.take (a.Disk.Containers.length-1)) (fun k=>[(4,.val false [.ref 1 0 9 0 (Ks ((a.Disk.Containers.take (a.Disk.Containers.length-1)).take k)).length]),(5,vI k)]) (fun k=>[(1,⟨0,.row true 9 ((Ks ((a.Disk.Containers.take (a.Disk.Containers.length-1)).take k)).map GCapture.enc)⟩)]) (fun _=>True) (by simp only[roomB];omega) ?_
  simp only[go_sem]
  refine⟨?_,trivial,?_,?_⟩
  ·simp only[go_sem,List.take_zero]
   exact⟨rfl,rfl⟩
  ·intro k x hx _ h0 h1 hw
   have hq:=K2w hx
   have hq2:=K2x hx
   have hx3:a.Disk.Containers[k]? =some x:=at_take hx
   have hx2:(k:Int)<((a.Disk.Containers.length-1:Nat):Int):=by have:=K6 hx;rw[List.length_take]at this;omega
   have hx4:(k:Int)<a.Disk.Containers.length:=by have:=K6 hx3;omega
   simp only[go_sem,K3 hx3,hx2,hx4,h0]
   apply K0 (C1d x.Captures (by omega))
   by_cases hf:flat (x.Captures.map GCapture.enc)=true
   all_goals
    simp only[go_sem,hw,hf,K1y hx,List.length_append]
    simp only[roomB]
    exact⟨by omega,fun _=>by rw[List.map_append]⟩
  ·intro _
   simp only[go_sem,eL,Int.lt_irrefl,List.take_take,Nat.min_self]
   rw[Kq,K6b hN]
 ·rename_i hN
  have eL:True:=trivial
  have hC0:a.Disk.Containers=[]:=List.length_eq_zero_iff.1 (by omega)
  refine K4 (a.Disk.Containers) (fun k=>[(4,.val false [.ref 1 0 9 0 (Ks ((a.Disk.Containers).take k)).length]),(5,vI k)]) (fun k=>[(1,⟨0,.row true 9 ((Ks ((a.Disk.Containers).take k)).map GCapture.enc)⟩)]) (fun _=>True) (by simp only[roomB];omega) ?_
  simp only[go_sem]
  refine⟨?_,trivial,?_,?_⟩
  ·simp only[go_sem,List.take_zero]
   exact⟨rfl,rfl⟩
  ·intro k x hx _ h0 h1 hw
   have hq:=K2w hx
   have hq2:=K2x hx
   have hx3:a.Disk.Containers[k]? =some x:=hx
   have hx2:(k:Int)<(a.Disk.Containers.length:Int):=by have:=K6 hx;omega
   have hx4:(k:Int)<a.Disk.Containers.length:=by have:=K6 hx3;omega
   simp only[go_sem,K3 hx3,hx2,h0]
   apply K0 (C1d x.Captures (by omega))
   by_cases hf:flat (x.Captures.map GCapture.enc)=true
   all_goals
    simp only[go_sem,hw,hf,K1y hx,List.length_append]
    simp only[roomB]
    exact⟨by omega,fun _=>by rw[List.map_append]⟩
  ·intro _
   simp only[go_sem,List.take_length,Int.lt_irrefl]
   rw[Kq,K6b hN,hC0]
   rfl
 ·have eL:True:=trivial
  refine K4 (a.Disk.Containers) (fun k=>[(4,.val false [.ref 1 0 9 0 (Ks ((a.Disk.Containers).take k)).length]),(5,vI k)]) (fun k=>[(1,⟨0,.row true 9 ((Ks ((a.Disk.Containers).take k)).map GCapture.enc)⟩)]) (fun _=>True) (by simp only[roomB];omega) ?_
  simp only[go_sem]
  refine⟨?_,trivial,?_,?_⟩
  ·simp only[go_sem,List.take_zero]
   exact⟨rfl,rfl⟩
  ·intro k x hx _ h0 h1 hw
   have hq:=K2w hx
   have hq2:=K2x hx
   have hx3:a.Disk.Containers[k]? =some x:=hx
   have hx2:(k:Int)<(a.Disk.Containers.length:Int):=by have:=K6 hx;omega
   have hx4:(k:Int)<a.Disk.Containers.length:=by have:=K6 hx3;omega
   simp only[go_sem,K3 hx3,hx2,h0]
   apply K0 (C1d x.Captures (by omega))
   by_cases hf:flat (x.Captures.map GCapture.enc)=true
   all_goals
    simp only[go_sem,hw,hf,K1y hx,List.length_append]
    simp only[roomB]
    exact⟨by omega,fun _=>by rw[List.map_append]⟩
  ·intro _
   simp only[go_sem,List.take_length,Int.lt_irrefl]
   rw[Kq,K9p h]
theorem K43(a:GArchive):(Kq a).length+((Kq a).map GCapture.size).sum≤a.size:=by
 have h:(Kq a).length+((Kq a).map GCapture.size).sum≤(a.Disk.Containers.map GContainer.size).sum:=by
  unfold Kq told
  split
  ·exact K4e
  ·rw[List.dropLast_eq_take]
   exact Nat.le_trans K4e (K1o _ _)
 simp only[GArchive.size,GDisk.size]
 omega
def seen(a:GArchive):List GCapture:=visible (Kq a) a.Exclusions a.Now
def served(a:GArchive):List GCapture:=(seen a).drop ((seen a).length-20)
theorem K62(a:GArchive):(seen a).length+((seen a).map GCapture.size).sum≤a.size:=by
 have h:=K43 a
 have h1:=K3k (Kq a) a.Exclusions a.Now
 have h2:=K3r (p:=fun c=> !K2g c a.Exclusions a.Now) (f:=GCapture.size) (Kq a)
 unfold seen
 unfold visible at*
 omega
theorem K9z{α:Type}{f:α→Nat}(l:List α)(k:Nat):((l.drop k).map f).sum≤(l.map f).sum:=by
 conv=>rhs;rw[←List.take_append_drop k l]
 rw[List.map_append,List.sum_append]
 omega
theorem K2p(a:GArchive):(served a).length+((served a).map GCapture.size).sum≤a.size:=by
 have h:=K62 a
 have h2:=K9z (f:=GCapture.size) (seen a) ((seen a).length-20)
 unfold served
 rw[List.length_drop]
 omega
def M2g:MC:=
(Zs [.box 1 0 (.s 0),.nilo 2 1 9] [1] (.seq (.dreg [Zc [6,7,8,9] (lT 4 10 1),{o:= .call 5 [2] (.f N42) [.s 4],hs:=[6,7,8,9],ws:=[2],bf:=[0]},Zf [4,5,8,9] [2] (fS 6 1 5),Zg [4,5,8,9] [2] [2] (lF 7 1 6),Zf [4,5,6,7] [2] (fS 8 1 9),Zg [4,5,6,7] [2] [4] (lF 9 1 8),{o:= .call 10 [1] (.f N2b) [.s 5,.s 7,.s 9],ws:=[1],bf:=(.range 6)},Ze (.range 7) (mS 3 10)] [3])
(Zs [mS 11 3,mS 12 3,nS 13 12,bC 14 .sub 13 20,.mm 15 true (ci 0) (.s 14),.slc 16 9 (.s 11) (some (.s 15)) none none,mS 2 16] [2] .ret)))
theorem C2e(a:GArchive)(hs:a.size≤1073741824):Ctr Tryz.prog N1e [aS a.enc] [rL 9 ((served a).map GCapture.enc)]:=by
 refine cA M2g 3 17 [(.tmp 2,[true])] Tryz.func28 rfl rfl ?_;unfold M2g
 intro hb
 clear hb
 have hz:=K43 a
 have hz2:=K62 a
 have hw1:IntKind.i64.wrap (((seen a).length:Int)-20)=((seen a).length:Int)-20:=wI (by omega) (by omega)
 simp only[go_sem]
 apply K0 (C96 a hs)
 simp only[go_sem]
 intros
 apply K0 (C63 (Kq a) a.Exclusions a.Now (by omega))
 simp only[go_sem]
 intros
 rw[show visible (Kq a) a.Exclusions a.Now=seen a from rfl,hw1]
 by_cases hc:(seen a).length≤20
 ·have e1:(((seen a).length:Int)-0).toNat=(seen a).length:=by omega
  rw[if_neg (by omega),e1,show Int.toNat 0=0 from rfl]
  simp only[go_sem]
  refine⟨⟨by omega,by omega⟩,?_⟩
  rw[served,show(seen a).length-20=0 by omega,List.drop_zero]
 ·obtain⟨m,hm⟩:∃m,(seen a).length=m+21:=⟨(seen a).length-21,by omega⟩
  have e2:(((seen a).length:Int)-20).toNat=m+1:=by omega
  have e3:(((seen a).length:Int)-(((seen a).length:Int)-20)).toNat=20:=by omega
  rw[if_pos (by omega),e2,e3]
  simp only[go_sem]
  refine⟨⟨by omega,by omega⟩,?_⟩
  refine⟨by omega,?_⟩
  rw[if_neg (by simp),served,show(seen a).length-20=m+1 by omega,←List.map_drop,List.take_of_length_le (by rw[List.length_map,List.length_drop];omega)]
def M2h:MC:=
(Zs [.box 1 0 (.s 0),.nilo 2 1 9] [1] (.seq (.dreg [Zc [6,7,8,9] (lT 4 10 1),{o:= .call 5 [2] (.f N4e) [.s 4],hs:=[6,7,8,9],ws:=[2],bf:=[0]},Zf [4,5,8,9] [2] (fS 6 1 5),Zg [4,5,8,9] [2] [2] (lF 7 1 6),Zf [4,5,6,7] [2] (fS 8 1 9),Zg [4,5,6,7] [2] [4] (lF 9 1 8),{o:= .call 10 [3] (.f N2d) [.s 5,.s 7,.s 9],ws:=[3],bf:=(.range 6)},Ze (.range 7) (mS 3 10)] [3])
(Zs [mS 11 3,mS 12 3,nS 13 12,bC 14 .sub 13 20,.call 15 [] (.f Nbb) [.c (.int .i64 0),.s 14],.slc 16 9 (.s 11) (some (.s 15)) none none,.call 17 [1] (.f N1y) [.s 16],mS 2 17] [2] .ret)))
theorem C2f(a:GArchive)(hs:a.size≤1073741824):Ctr Tryz.prog N1g [aS a.enc] [rL 9 ((served a).map GCapture.enc)]:=by
 refine cA M2h 4 18 [(.tmp 2,[true])] Tryz.func17 rfl rfl ?_;unfold M2h
 intro hb
 clear hb
 have hz:=K43 a
 have hz2:=K62 a
 have hz3:=K2p a
 have hw1:IntKind.i64.wrap (((seen a).length:Int)-20)=((seen a).length:Int)-20:=wI (by omega) (by omega)
 simp only[go_sem]
 apply K0 (C9n a hs)
 simp only[go_sem]
 intros
 apply K0 (C66 (Kq a) a.Exclusions a.Now (by omega))
 simp only[go_sem]
 intros
 rw[show visible (Kq a) a.Exclusions a.Now=seen a from rfl,hw1]
 apply K0 (Cbv _ _)
 simp only[go_sem]
 have hm:(if ((seen a).length:Int)-20>0 then((seen a).length:Int)-20 else 0)=(((seen a).length-20:Nat):Int):=by split<;>omega
 rw[hm]
 simp only[Int.toNat_natCast]
 rw[cutB (by omega)]
 refine⟨by omega,by omega,?_⟩
 apply K0 (C1d (served a) (by omega))
 simp only[go_sem]
 try intros
 try trivial
end Go.Proofs.YtflhjihoifbmfaaGreatDoorR
namespace Go.Proofs.YtflhjihoifbmfaaGreatDoorR
open Go Go.RowKit Go.Proofs
open Nat (reduceEqDiff reduceLT reduceLeDiff reduceAdd reduceMul)
open List (reduceReplicate)
def K6s(cs:List GCapture)(l:List GExclusion)(now:Int):Int:=IntKind.i64.wrap ((cs.length:Int)-((visible cs l now).length:Int))
def M3m:MC:=
(Zs [.mv 6 (ci 0)] [0,1,2] (Zs [mS 7 0,nS 8 7,mS 9 0,mS 10 1,mS 11 2,.call 12 [0] (.f N2b) [.s 9,.s 10,.s 11],nS 13 12,bS 14 .sub 8 13,mS 6 14] [6] .ret))
theorem C97(cs:List GCapture)(l:List GExclusion)(now:Int)(hs:cs.length+(cs.map GCapture.size).sum≤1073741824):Ctr Tryz.prog N43 [aL 9 (cs.map GCapture.enc),aL 5 (l.map GExclusion.enc),aI now] [rI (K6s cs l now)]:=by
 refine cA M3m 1 15 [(.tmp 6,[false])] Tryz.func27 rfl rfl ?_;unfold M3m
 intro hb
 clear hb
 simp only[go_sem]
 apply K0 (C63 _ _ _ hs)
 simp only[go_sem]
 intros
 rfl
def M3z:MC:=
(Zs [.mv 6 (ci 0)] [0,1,2] (Zs [mS 7 0,nS 8 7,mS 9 0,mS 10 1,mS 11 2,.call 12 [0] (.f N2d) [.s 9,.s 10,.s 11],nS 13 12,bS 14 .sub 8 13,mS 6 14] [6] .ret))
theorem C9o(cs:List GCapture)(l:List GExclusion)(now:Int)(hs:cs.length+(cs.map GCapture.size).sum≤1073741824):Ctr Tryz.prog N4f [aL 9 (cs.map GCapture.enc),aL 5 (l.map GExclusion.enc),aI now] [rI (K6s cs l now)]:=by
 refine cA M3z 1 15 [(.tmp 6,[false])] Tryz.func16 rfl rfl ?_;unfold M3z
 intro hb
 clear hb
 simp only[go_sem]
 apply K0 (C66 _ _ _ hs)
 simp only[go_sem]
 intros
 rfl
end Go.Proofs.YtflhjihoifbmfaaGreatDoorR
namespace Go.Proofs.YtflhjihoifbmfaaGreatDoorR
open Go Go.RowKit Go.Proofs
open Nat (reduceEqDiff reduceLT reduceLeDiff reduceAdd reduceMul)
open List (reduceReplicate)
def Km(t:Int)(a:GAddress):Bool:=decide (0≤t∧t≤2000)&&K12 a
def arch:List UInt8:=[97,114,99,104,105,118,101,47]
def Kh(t:Int)(a:GAddress):List UInt8:=if Km t a=true then arch++Lib.itoa t++[47]++Kb a else []
theorem addrText_len'{a:GAddress}(h:K12 a=true):(Kb a).length≤20∧3≤(Kb a).length:=by
 obtain⟨x,y,z,rfl,hx,hy,hz⟩:=K6m h
 have l1:=K1e (n:=x) (by omega)
 have l2:=K1e (n:=y) (by omega)
 have l3:=K1e (n:=z) (by omega)
 have p1:=K1r x
 have p2:=K1r y
 have lT:(tailQ z).length≤5:=by unfold tailQ;split<;>simp<;>omega
 rw[K33 h]
 simp only[List.length_append,List.length_cons]
 omega
theorem K1n{t:Int}{a:GAddress}(h:Km t a=false):Kh t a=[]:=by unfold Kh;rw[h];rfl
theorem K38{t:Int}{a:GAddress}(h:Km t a=true):Kh t a=arch++Lib.itoa t++[47]++Kb a:=by unfold Kh;rw[if_pos h]
theorem K6j{t:Int}{a:GAddress}(h:Km t a=true):∃n:Nat,t=n∧n≤2000∧K12 a=true:=by
 unfold Km at h
 simp only[Bool.and_eq_true,decide_eq_true_eq]at h
 exact⟨t.toNat,(Int.toNat_of_nonneg h.1.1).symm,by omega,h.2⟩
theorem K4a{n:Nat}{a:GAddress}(h:Km n a=true):Kh n a=arch++(Lib.decDigits n++47::Kb a):=by
 rw[K38 h,K5d]
 simp
def Y15(v0:Nat)(v1:Nat)(v2:Nat)(v3:Nat):MC:=
(Zs [.box 1 0 (.s 0),.mv 2 (.c (.string ⟨#[]⟩))] [1] (.seq (.seq (.reg [Za (fS 3 1 0),Za (lF 4 1 3),Za (.call 5 [] (.f v0) [.s 4,.c (.int .i64 0),.c (.int .i64 2000)]),Za (.un 6 .not (.s 5)),Za (mS 7 6),Zb 7 false (fS 8 1 1),Zb 7 false (lT 9 3 8),Zb 7 false (.call 10 [] (.f v1) [.s 9]),Zb 7 false (.un 11 .not (.s 10)),Za (.pick 12 (.s 7) cT (.s 11))] [1,12])
(.cond (.s 12) (Zs [.mv 2 (.c (.string ⟨#[]⟩))] [2] .ret) .skip))
(.seq (.dreg [Zc [18,19] (fS 13 1 0),Zd [18,19] [0] (lF 14 1 13),Zd [18,19] [0,1] (.call 15 [] (.f v2) [.s 14]),Zd [18,19,20] [0,1,2] (.bin 16 false .add (.c (.string ⟨#[97,114,99,104,105,118,101,47]⟩)) (.s 15)),Zd [18,19,20] (.range 4) (.bin 17 false .add (.s 16) (.c (.string ⟨#[47]⟩))),Zc [13,14,15,16,17] (fS 18 1 1),Zd [13,14,15,16,17] [5] (lT 19 3 18),Zd [16,17] [0,1,2,5,6] (.call 20 [] (.f v3) [.s 19]),Ze (.range 8) (bS 21 .add 17 20),Ze (.range 9) (mS 2 21)] [2])
.ret)))
attribute [go_sem] Y15
def M69:MC:=Y15 N9 N1j Ni N1w
theorem C62(t:Int)(a:GAddress):Ctr Tryz.prog N2a [aS (GShown.enc ⟨t,a⟩)] [rStr (bs (Kh t a))]:=by
 refine cA M69 1 22 [(.tmp 2,[false])] Tryz.func91 rfl rfl ?_;unfold M69
 intro hb
 clear hb
 simp only[go_sem]
 apply K0 (Ch t 0 2000)
 simp only[go_sem]
 refine⟨fun h=>?_,fun h=>?_⟩
 ·try intros
  rw[K1n (by unfold Km;rw[decide_eq_false (by omega)];rfl)]
 ·apply K0 (C27 a)
  simp only[go_sem]
  refine⟨fun h2=>?_,fun h2=>?_⟩
  ·try intros
   rw[K1n (by unfold Km;rw[h2,Bool.and_false])]
  ·try intros
   have hl:=addrText_len' h2
   have hs:Kh t a=arch++Lib.itoa t++[47]++Kb a:=K38 (by unfold Km;rw[h2,decide_eq_true (by omega)];rfl)
   have hi:=itoa_len' (n:=t) (by omega) (by omega)
   apply K0 (Cy t)
   simp only[go_sem]
   refine⟨by omega,by omega,?_⟩
   apply K0 (C3i a)
   simp only[go_sem,List.length_append,List.length_cons,List.length_nil]
   refine⟨by omega,fun _=>?_⟩
   rw[hs]
   simp[arch]
def M6r:MC:=Y15 N4 N1l Nj N1x
theorem C65(t:Int)(a:GAddress):Ctr Tryz.prog N2c [aS (GShown.enc ⟨t,a⟩)] [rStr (bs (Kh t a))]:=by
 refine cA M6r 1 22 [(.tmp 2,[false])] Tryz.func75 rfl rfl ?_;unfold M6r
 intro hb
 clear hb
 simp only[go_sem]
 apply K0 (Cf t 0 2000)
 simp only[go_sem]
 refine⟨fun h=>?_,fun h=>?_⟩
 ·try intros
  rw[K1n (by unfold Km;rw[decide_eq_false (by omega)];rfl)]
 ·apply K0 (C29 a)
  simp only[go_sem]
  refine⟨fun h2=>?_,fun h2=>?_⟩
  ·try intros
   rw[K1n (by unfold Km;rw[h2,Bool.and_false])]
  ·try intros
   have hl:=addrText_len' h2
   have hs:Kh t a=arch++Lib.itoa t++[47]++Kb a:=K38 (by unfold Km;rw[h2,decide_eq_true (by omega)];rfl)
   have hi:=itoa_len' (n:=t) (by omega) (by omega)
   apply K0 (C11 t)
   simp only[go_sem]
   refine⟨by omega,by omega,?_⟩
   apply K0 (C3j a)
   simp only[go_sem,List.length_append,List.length_cons,List.length_nil]
   refine⟨by omega,fun _=>?_⟩
   rw[hs]
   simp[arch]
def K5g(t:Int)(a:GAddress):GShown:=if Km t a=true then⟨t,a⟩else⟨0,⟨0,0,0⟩⟩
theorem K6g(r:List UInt8):Lib.hasPrefix (arch++r) arch=true:=by
 unfold Lib.hasPrefix
 exact List.isPrefixOf_iff_prefix.2 (List.prefix_append _ _)
theorem trim_arch(r:List UInt8):Lib.trimPrefix (arch++r) arch=r:=by
 unfold Lib.trimPrefix
 rw[if_pos (K6g r),List.drop_left]
def M1b:MC:=
(Zs [.alloc 2 0 [pz,pz,pz,pz],.mv 3 cF] [0,2] (.seq (pr [mS 15 0,.call 16 [] (.f N1r) [.s 15,.c (.string ⟨#[97,114,99,104,105,118,101,47]⟩)],mS 14 16,.ext 17 (.s 14) 0,.ext 18 (.s 14) 1,mS 4 17,mS 5 18] [0,2,4])
(.seq (pr [mS 20 4,.call 21 [] (.f N18) [.s 20,.c (.string ⟨#[47]⟩)],mS 19 21,.ext 22 (.s 19) 0,.ext 23 (.s 19) 1,.ext 24 (.s 19) 2,mS 6 22,mS 7 23,mS 8 24] [0,2,6,7])
(Zs [mS 26 6,.call 27 [] (.f Nr) [.s 26],mS 25 27,.ext 28 (.s 25) 0,.ext 29 (.s 25) 1,mS 9 28,mS 10 29] [0,2,7,9] (Zs [mS 31 7,.call 32 [] (.f N1m) [.s 31],mS 30 32,.ext 33 (.s 30) 0,.ext 34 (.s 30) 1,.alloc 11 1 [pz,pz,pz],sS 3 11 33,mS 12 34] [0,2,9,11] (Zs [mS 35 9,lT 36 3 11,.build 37 [pz,pz,pz,pz] [(0,1,.s 35),(1,3,.s 36)],.alloc 13 2 [pz,pz,pz,pz],sS 4 13 37] [0,2,13] (.seq (.seq (.reg [Za (mS 38 0),Za (.bin 39 false .eql (.s 38) (.c (.string ⟨#[]⟩))),Za (mS 40 39),Zb 40 false (lT 41 4 13),Zb 40 false (.call 42 [] (.f N2a) [.s 41]),Zb 40 false (mS 43 0),Zb 40 false (bS 44 .neq 42 43),Za (.pick 45 (.s 40) cT (.s 44))] [2,13,45])
(.cond (.s 45) (Zs [.build 46 [pz,pz,pz,pz] [],sS 4 2 46,.mv 3 cF] [2,3] .ret) .skip))
(Zs [lT 47 4 13,sS 4 2 47,.mv 3 cT] [2,3] .ret))))))))
set_option maxHeartbeats 1000000 in
theorem Ca0(t:Int)(a:GAddress):Ctr Tryz.prog N5h [(false,[tS (bs (Kh t a))])] [rS (K5g t a).enc,rB (Km t a)]:=by
 unfold K5g
 cases ho:Km t a with
 |false=>
  rw[K1n ho,if_neg (by decide)]
  refine cA M1b 3 48 [(.cell 2 true 4,[false,false,false,false]),(.tmp 3,[false])] Tryz.func59 rfl rfl ?_;unfold M1b
  intro hb
  clear hb
  simp only[go_sem]
  apply K0 (C2s [] [97,114,99,104,105,118,101,47] [] false rfl rfl (by decide))
  simp only[go_sem]
  try intros
  apply K0 (C1h [] 47 (by simp))
  simp only[go_sem]
  try intros
  apply K0 Ck
  simp only[go_sem]
  try intros
  apply K0 C7z
  simp only[go_sem]
  try intros
  try exact⟨rfl,rfl,rfl,rfl⟩
 |true=>
  obtain⟨n,rfl,hn,ha⟩:=K6j ho
  have hl:=addrText_len' ha
  have l1:=K1e (n:=n) (by omega)
  have hS:=C62 n a
  have hne:¬Kh n a=[]:=by rw[K4a ho];simp[arch]
  have hC:Ctr Tryz.prog N1r [(false,[tS (bs (Kh n a))]),(false,[tS (bs [97,114,99,104,105,118,101,47])])] [rStr (bs (Lib.decDigits n++47::Kb a)),rB true]:=by
   rw[K4a ho]
   exact C2s _ _ _ true (trim_arch _) (K6g _) (by rw[List.length_append,List.length_cons];omega)
  rw[if_pos rfl]
  generalize Kh n a=s at*
  refine cA M1b 3 48 [(.cell 2 true 4,[false,false,false,false]),(.tmp 3,[false])] Tryz.func59 rfl rfl ?_;unfold M1b
  intro hb
  clear hb
  simp only[go_sem]
  apply K0 hC
  simp only[go_sem]
  try intros
  apply K0 (C1z (Lib.decDigits n) (Kb a) 47 (K4t (by decide)) (by omega))
  simp only[go_sem]
  try intros
  apply K0 (Co n (by omega))
  simp only[go_sem]
  try intros
  apply K0 (C8x a ha)
  simp only[go_sem,hne]
  try intros
  apply K0 hS
  simp only[go_sem]
  try trivial
end Go.Proofs.YtflhjihoifbmfaaGreatDoorR
namespace Go.Proofs.YtflhjihoifbmfaaGreatDoorR
open Go Go.RowKit Go.Proofs
open Nat (reduceEqDiff reduceLT reduceLeDiff reduceAdd reduceMul)
open List (reduceReplicate)
def M1c:MC:=
(Zs [.alloc 2 0 [pz,pz,pz,pz],.mv 3 cF] [0,2] (.seq (.seq (.reg [Za (mS 10 0),Za (.len 11 true (.s 10)),Za (bC 12 .lss 11 9),Za (mS 13 12),Zb 13 false (mS 14 0),Zb 13 false (.slcs 15 (.s 14) none (some (ci 8))),Zb 13 false (.bin 16 false .neq (.s 15) (.c (.string ⟨#[97,114,99,104,105,118,101,47]⟩))),Za (.pick 17 (.s 13) cT (.s 16))] [0,2,17])
(.cond (.s 17) (Zs [.build 18 [pz,pz,pz,pz] [],sS 4 2 18,.mv 3 cF] [2,3] .ret) .skip))
(Zs [.mv 4 (ci 8)] [0,2,4] (.seq (.block 0 (.loop ([0,2,4],[1,2]) (.seq (.seq (.reg [Za (mS 19 4),Za (mS 20 0),Za (.len 21 true (.s 20)),Za (bS 22 .lss 19 21),Za (mS 23 22),Zb 23 true (mS 24 0),Zb 23 true (mS 25 4),Zb 23 true (.idxs 26 (.s 24) (.s 25)),Zb 23 true (.bin 27 false .neq (.s 26) (.c (.int .u8 47))),Za (.pick 28 (.s 23) (.s 27) cF)] [0,2,4,28])
(cX 28 0))
(.block 1 (pr [mS 29 4,bC 30 .add 29 1,mS 4 30] [0,2,4])))))
(.seq (Zs [mS 31 4,mS 32 0,.len 33 true (.s 32),bS 34 .eql 31 33] [0,2,4,34] (.cond (.s 34) (Zs [.build 35 [pz,pz,pz,pz] [],sS 4 2 35,.mv 3 cF] [2,3] .ret) .skip))
(Zs [mS 37 0,mS 38 4,.slcs 39 (.s 37) (some (ci 8)) (some (.s 38)),.call 40 [] (.f N19) [.s 39],mS 36 40,.ext 41 (.s 36) 0,.ext 42 (.s 36) 1,mS 5 41,mS 6 42] [0,2,4,5,6] (Zs [mS 44 0,mS 45 4,bC 46 .add 45 1,.slcs 47 (.s 44) (some (.s 46)) none,.call 48 [] (.f N3g) [.s 47],mS 43 48,.ext 49 (.s 43) 0,.ext 50 (.s 43) 1,.alloc 7 1 [pz,pz,pz],sS 3 7 49,mS 8 50] [0,2,5,6,7,8] (Zs [mS 51 5,lT 52 3 7,.build 53 [pz,pz,pz,pz] [(0,1,.s 51),(1,3,.s 52)],.alloc 9 2 [pz,pz,pz,pz],sS 4 9 53] [0,2,6,8,9] (.seq (.seq (.reg [Za (mS 54 6),Za (.un 55 .not (.s 54)),Za (mS 56 55),Zb 56 false (mS 57 8),Zb 56 false (.un 58 .not (.s 57)),Za (.pick 59 (.s 56) cT (.s 58)),Za (mS 60 59),Zb 60 false (lT 61 4 9),Zb 60 false (.call 62 [] (.f N2c) [.s 61]),Zb 60 false (mS 63 0),Zb 60 false (bS 64 .neq 62 63),Za (.pick 65 (.s 60) cT (.s 64))] [2,9,65])
(.cond (.s 65) (Zs [.build 66 [pz,pz,pz,pz] [],sS 4 2 66,.mv 3 cF] [2,3] .ret) .skip))
(Zs [lT 67 4 9,sS 4 2 67,.mv 3 cT] [2,3] .ret))))))))))
set_option maxHeartbeats 2000000 in
theorem Caf(t:Int)(a:GAddress):Ctr Tryz.prog N5z [(false,[tS (bs (Kh t a))])] [rS (K5g t a).enc,rB (Km t a)]:=by
 unfold K5g
 cases ho:Km t a with
 |false=>
  rw[K1n ho,if_neg (by decide)]
  refine cA M1c 3 68 [(.cell 2 true 4,[false,false,false,false]),(.tmp 3,[false])] Tryz.func46 rfl rfl ?_;unfold M1c
  intro hb
  clear hb
  simp only[go_sem]
  intro h
  omega
 |true=>
  obtain⟨n,rfl,hn,ha⟩:=K6j ho
  have hl:=addrText_len' ha
  have l1:=K1e (n:=n) (by omega)
  have p1:=K1r n
  have hS:=C65 n a
  have hs:=K4a ho
  have hsl:(Kh n a).length=8+(Lib.decDigits n).length+1+(Kb a).length:=by
   rw[hs,List.length_append,List.length_append,List.length_cons]
   show 8+_=_
   omega
  have h8:(Kh n a).take 8=[97,114,99,104,105,118,101,47]:=by rw[hs];rfl
  have hat:∀k,8≤k→k<8+(Lib.decDigits n).length→∃b,(Kh n a)[k]? =some b∧¬(b.toNat:Int)=47:=fun k h1 h2=>by
   obtain⟨b,hb⟩:=Kl (l:=Lib.decDigits n) (k:=k-8) (by omega)
   have hd:=K2r n b (K1c hb)
   refine⟨b,?_,by omega⟩
   rw[hs,List.getElem?_append_right (by show 8≤k;omega),show arch.length=8 from rfl,List.getElem?_append_left (by omega),hb]
  have hsep:(Kh n a)[8+(Lib.decDigits n).length]? =some 47:=by
   rw[hs,List.getElem?_append_right (by show 8≤_;omega),show arch.length=8 from rfl,show 8+(Lib.decDigits n).length-8=(Lib.decDigits n).length by omega,List.getElem?_append_right (Nat.le_refl _),Nat.sub_self]
   rfl
  have hd1:((Kh n a).take (8+(Lib.decDigits n).length)).drop 8=Lib.decDigits n:=by
   rw[hs,List.take_append,List.drop_append,List.take_of_length_le (by show 8≤_;omega),show arch.length=8 from rfl,List.drop_eq_nil_of_le (by show 8≤8;omega),List.nil_append,show 8+(Lib.decDigits n).length-8=(Lib.decDigits n).length by omega,List.take_left]
   rfl
  have hd2:(Kh n a).drop (8+(Lib.decDigits n).length+1)=Kb a:=by
   rw[hs,←List.drop_drop,←List.drop_drop,show(arch++(Lib.decDigits n++47::Kb a)).drop 8=Lib.decDigits n++47::Kb a from List.drop_left (l₁:=arch),List.drop_left]
   rfl
  rw[if_pos rfl]
  generalize Kh n a=s at*
  clear hs
  refine cA M1c 3 68 [(.cell 2 true 4,[false,false,false,false]),(.tmp 3,[false])] Tryz.func46 rfl rfl ?_;unfold M1c
  intro hb
  clear hb
  have q1:¬(s.length:Int)<9:=by omega
  have t8:Int.toNat 8=8:=rfl
  simp only[go_sem,q1,t8,h8]
  refine⟨by omega,?_⟩
  refine Kv (fun k:Nat=>[(4,vI k)]) (fun k=>[]) (fun k=>8≤k∧k≤8+(Lib.decDigits n).length) (fun k=>8+(Lib.decDigits n).length-k) 8 ?_
  simp only[go_sem]
  refine⟨?_,⟨by omega,by omega⟩,?_⟩
  ·simp only[go_sem]
   try rfl
  ·rintro k ⟨hk1,hk2⟩
   by_cases hkl:k<8+(Lib.decDigits n).length
   ·obtain⟨b,hb,hb2⟩:=hat k hk1 hkl
    have h1:(k:Int)<(s.length:Int):=by omega
    have h0:(0:Int)≤(k:Int):=by omega
    simp only[go_sem,h1,h0,K3 hb,Int.toNat_natCast,hb2]
    refine⟨k+1,by rw[wI (by omega) (by omega)];omega,⟨by omega,by omega⟩,by omega⟩
   ·have e:k=8+(Lib.decDigits n).length:=by omega
    have h1:(k:Int)<(s.length:Int):=by omega
    have h0:(0:Int)≤(k:Int):=by omega
    have hb:=hsep
    rw[←e]at hb hd1 hd2
    have e47:((47:UInt8).toNat:Int)=47:=rfl
    have n2:¬(k:Int)=(s.length:Int):=by omega
    have hw:IntKind.i64.wrap ((k:Int)+1)=((k+1:Nat):Int):=by rw[wI (by omega) (by omega)];omega
    simp only[go_sem,h1,h0,K3 hb,Int.toNat_natCast,e47,n2,t8,hd1]
    refine⟨⟨by omega,by omega,by omega⟩,?_⟩
    apply K0 (C1s n (by omega))
    simp only[go_sem,hw,Int.toNat_natCast,List.take_length,hd2]
    try intro _
    refine⟨⟨by omega,by omega,by omega⟩,?_⟩
    apply K0 (C95 a ha)
    simp only[go_sem]
    try intros
    apply K0 hS
    simp only[go_sem]
    try trivial
def K2d(r:GResource)(t:Int):List UInt8:=if Ky r=true∧r.Kind=3 then Kh t r.To else []
def Y16(v0:Nat)(v1:Nat):MC:=
(Zs [.box 2 0 (.s 0),.mv 4 (.c (.string ⟨#[]⟩))] [1,2] (.seq (.seq (.reg [Za (lT 5 5 2),Za (.call 6 [] (.f v0) [.s 5]),Za (.un 7 .not (.s 6)),Za (mS 8 7),Zb 8 false (fS 9 2 0),Zb 8 false (lF 10 1 9),Zb 8 false (bC 11 .neq 10 3),Za (.pick 12 (.s 8) cT (.s 11))] [1,2,12])
(.cond (.s 12) (Zs [.mv 4 (.c (.string ⟨#[]⟩))] [4] .ret) .skip))
(Zs [mS 13 1,fS 14 2 2,lT 15 3 14,.build 16 [pz,pz,pz,pz] [(0,1,.s 13),(1,3,.s 15)],.call 17 [] (.f v1) [.s 16],mS 4 17] [4] .ret)))
attribute [go_sem] Y16
def M7e:MC:=Y16 N5g N2a
theorem Cb0(r:GResource)(t:Int):Ctr Tryz.prog N7p [aS r.enc,aI t] [rStr (bs (K2d r t))]:=by
 refine cA M7e 1 18 [(.tmp 4,[false])] Tryz.func60 rfl rfl ?_;unfold M7e
 intro hb
 clear hb
 simp only[go_sem]
 apply K0 (C9z r)
 simp only[go_sem]
 refine⟨fun h=>?_,fun h=>⟨fun h2=>?_,fun h2=>?_⟩⟩
 ·try intros
  unfold K2d
  rw[h]
  rfl
 ·try intros
  unfold K2d
  rw[if_neg (fun e=>h2 e.2)]
 ·apply K0 (C62 t r.To)
  simp only[go_sem]
  try intros
  unfold K2d
  rw[if_pos ⟨h,by simpa using h2⟩]
def M7m:MC:=Y16 N5y N2c
theorem Cb7(r:GResource)(t:Int):Ctr Tryz.prog N7w [aS r.enc,aI t] [rStr (bs (K2d r t))]:=by
 refine cA M7m 1 18 [(.tmp 4,[false])] Tryz.func47 rfl rfl ?_;unfold M7m
 intro hb
 clear hb
 simp only[go_sem]
 apply K0 (Cae r)
 simp only[go_sem]
 refine⟨fun h=>?_,fun h=>⟨fun h2=>?_,fun h2=>?_⟩⟩
 ·try intros
  unfold K2d
  rw[h]
  rfl
 ·try intros
  unfold K2d
  rw[if_neg (fun e=>h2 e.2)]
 ·apply K0 (C65 t r.To)
  simp only[go_sem]
  try intros
  unfold K2d
  rw[if_pos ⟨h,by simpa using h2⟩]
def K7b(c:GCapture):Int×GAddress:=(if Ky c.Resource=true then c.Tick else -1,c.Resource.To)
def K3x(p:Int×GAddress):List UInt8:=Kh p.1 p.2
def K3g(p:Int×GAddress):List T:=[tS (bs (K3x p))]
def isMove(c:GCapture):Bool:=decide (c.Resource.Kind=3)
theorem lk_move{c:GCapture}(h:c.Resource.Kind=3):K2d c.Resource c.Tick=K3x (K7b c):=by
 unfold K2d K3x K7b
 by_cases e:Ky c.Resource=true
 ·rw[if_pos ⟨e,h⟩,if_pos e]
 ·rw[if_neg (fun x=>e x.1),if_neg e,K1n (by rfl)]
def linksF(l:List GCapture):List (Int×GAddress):=(l.filter isMove).map K7b
theorem K7d{l:List GCapture}{k:Nat}{c:GCapture}(h:l[k]? =some c)(hm:c.Resource.Kind=3):linksF (l.take (k+1))=linksF (l.take k)++[K7b c]:=by
 unfold linksF
 rw[Kj h,List.filter_append,List.filter_cons,if_pos (by unfold isMove;exact decide_eq_true hm),List.filter_nil,List.map_append]
 rfl
theorem K8c{l:List GCapture}{k:Nat}{c:GCapture}(h:l[k]? =some c)(hm:¬c.Resource.Kind=3):linksF (l.take (k+1))=linksF (l.take k):=by
 unfold linksF
 rw[Kj h,List.filter_append,List.filter_cons,if_neg (by unfold isMove;simp[hm]),List.filter_nil,List.append_nil]
theorem K7c(l:List GCapture):(linksF l).length≤l.length:=by
 unfold linksF
 rw[List.length_map]
 exact List.length_filter_le _ _
def K3c(a:GArchive):List (Int×GAddress):=linksF (served a)
theorem bs_nil{l:List UInt8}:bs l=bs []↔l=[]:=by
 constructor
 ·intro h
  have:=congrArg ByteArray.size h
  rw[K4r,K4r]at this
  exact List.length_eq_zero_iff.1 (by simpa using this)
 ·rintro rfl;rfl
theorem K99(x:Int×GAddress):decide (bs (K3x x)=bs [])= !Km x.1 x.2:=by
 unfold K3x
 cases h:Km x.1 x.2 with
 |false=>rw[K1n h];simp
 |true=>
  rw[decide_eq_false]
  ·rfl
  ·rw[bs_nil,K38 h]
   simp[arch]
theorem C64(xs:List (Int×GAddress))(f:FuncId)(hp:∀x,x∈xs→Ctr Tryz.prog f [(false,[tS (bs (K3x x))])] [rB (!Km x.1 x.2)]):Ctr Tryz.prog Na [aL 1 (xs.map K3g),(false,[.fn f []])] [rB (xs.any fun x=> !Km x.1 x.2)]:=by
 have h:=C61 (xs.map fun x=>bs (K3x x)) f [] (fun s=>decide (s=bs [])) (fun s hs=>by
  obtain⟨x,hx,rfl⟩:=List.mem_map.1 hs
  have:=hp x hx
  rw[←K99 x]at this
  exact this)
 rw[List.map_map,List.any_map]at h
 rw[show(fun x:Int×GAddress=> !Km x.1 x.2)=((fun s=>decide (s=bs [])) ∘ fun x=>bs (K3x x))from funext fun x=>(K99 x).symm]
 exact h
def M2k:MC:=
(Zs [.mv 2 cF] [0] (Zs [mS 6 0,.call 7 [] (.f N5h) [.s 6],mS 5 7,.ext 8 (.s 5) 0,.ext 9 (.s 5) 1,.alloc 3 0 [pz,pz,pz,pz],sS 4 3 8,mS 4 9] [4] (Zs [mS 10 4,.un 11 .not (.s 10),mS 2 11] [2] .ret)))
theorem C8i(x:Int×GAddress):Ctr Tryz.prog N2n [(false,[tS (bs (K3x x))])] [rB (!Km x.1 x.2)]:=by
 refine cA M2k 1 12 [(.tmp 2,[false])] Tryz.func58 rfl rfl ?_;unfold M2k
 intro hb
 clear hb
 simp only[go_sem]
 apply K0 (Ca0 x.1 x.2)
 simp only[go_sem]
 try intros
 try rfl
def insideL(xs:List (Int×GAddress)):Bool:= !(xs.any fun x=> !Km x.1 x.2)
def M3o:MC:=
(Zs [.mv 2 cF] [0] (Zs [mS 3 0,.call 4 [] (.f Na) [.s 3,.f N2n],.un 5 .not (.s 4),mS 2 5] [2] .ret))
theorem C99(xs:List (Int×GAddress)):Ctr Tryz.prog N45 [aL 1 (xs.map K3g)] [rB (insideL xs)]:=by
 refine cA M3o 0 6 [(.tmp 2,[false])] Tryz.func29 rfl rfl ?_;unfold M3o
 intro hb
 clear hb
 simp only[go_sem]
 apply K0 (C64 xs _ fun x _=>C8i x)
 simp only[go_sem]
 try intros
 try rfl
def M41:MC:=
(Zs [.mv 2 cF] [0] (.seq (Zs [.mv 3 (ci 0)] [0,3] (.block 0 (.loop ([0,3],[0]) (.seq (Zs [mS 6 3,mS 7 0,nS 8 7,bS 9 .lss 6 8] [0,3,9] (cX 9 0))
(.seq (.block 1 (Zs [mS 13 0,mS 14 3,xS 15 1 13 14,lF 16 1 15,.call 17 [] (.f N5z) [.s 16],mS 12 17,.ext 18 (.s 12) 0,.ext 19 (.s 12) 1,.alloc 4 0 [pz,pz,pz,pz],sS 4 4 18,mS 5 19] [0,3,5] (Zs [mS 20 5,.un 21 .not (.s 20)] [0,3,21] (.cond (.s 21) (Zs [.mv 2 cF] [2] .ret) .skip))))
(pr [mS 10 3,bC 11 .add 10 1,mS 3 11] [0,3]))))))
(Zs [.mv 2 cT] [2] .ret)))
theorem C9q(xs:List (Int×GAddress)):Ctr Tryz.prog N4h [aL 1 (xs.map K3g)] [rB (insideL xs)]:=by
 refine cA M41 1 22 [(.tmp 2,[false])] Tryz.func18 rfl rfl ?_;unfold M41
 intro hb
 simp only[bdA,bdL,bdT,Kg,roomB,and_true,List.length_map]at hb
 obtain⟨hl,-⟩:=hb
 simp only[go_sem]
 refine K4 xs (fun k=>[(3,vI k)]) (fun k=>[]) (fun k=>((xs.take k).any fun x=> !Km x.1 x.2)=false) hl ?_
 simp only[go_sem]
 refine⟨?_,by simp,?_,?_⟩
 ·simp only[go_sem]
  try trivial
 ·intro k x hx h h0 h1 hw
  simp only[go_sem,K3 hx,h0,h1,K3g]
  apply K0 (Caf x.1 x.2)
  simp only[go_sem,hw]
  intros
  refine⟨fun hn=>?_,fun hn=>K4d hx h (by simp[hn])⟩
  unfold insideL
  rw[List.any_eq_true.2 ⟨x,K1c hx,by simp[hn]⟩]
  rfl
 ·intro h
  rw[List.take_length]at h
  simp only[go_sem]
  unfold insideL
  rw[h]
  rfl
end Go.Proofs.YtflhjihoifbmfaaGreatDoorR
namespace Go.Proofs.YtflhjihoifbmfaaGreatDoorR
open Go Go.RowKit Go.Proofs
open Nat (reduceEqDiff reduceLT reduceLeDiff reduceAdd reduceMul)
open List (reduceReplicate)
def M4u:MC:=
(Zs [.box 1 0 (.s 0),.nilo 2 1 1] [1] (Zs [.nilo 3 1 1] [1,3] (.seq (Zs [lT 6 10 1,.call 7 [2] (.f N1e) [.s 6],nS 8 7,.mv 9 (ci 0)] [3,7,8,9] (.block 0 (.loop ([3,7,8,9],[0,3,4]) (Zs [bS 10 .lss 9 8] [3,7,8,9,10] (.seq (cX 10 0)
(.seq (.block 1 (Zs [xS 11 9 7 9,lT 12 9 11,.alloc 5 3 [pz,pz,pz,pz,pz,.emp 1,pz,pz,pz],sS 9 5 12] [3,5,7,8,9] (Zs [fS 13 5 4,fS 14 13 0,lF 15 1 14,bC 16 .eql 15 3] [3,5,7,8,9,16] (.cond (.s 16) (pr [mS 17 3,fS 18 5 4,lT 19 5 18,fS 20 5 3,lF 21 1 20,.call 22 [] (.f N7p) [.s 19,.s 21],.lit 23 4 1 16 [.s 22],.app 24 1 1 16 (.s 17) (.s 23),mS 3 24] [3,7,8,9]) .skip))))
(pr [bC 25 .add 9 1,mS 9 25] [3,7,8,9])))))))
(Zs [mS 26 3,mS 2 26] [2] .ret))))
set_option maxHeartbeats 1000000 in
theorem Ca1(a:GArchive)(hs:a.size≤1073741824):Ctr Tryz.prog N5i [aS a.enc] [rL 1 ((K3c a).map K3g)]:=by
 refine cA M4u 5 27 [(.tmp 2,[true])] Tryz.func30 rfl rfl ?_;unfold M4u
 intro hb
 clear hb
 have hz:=K2p a
 unfold K3c
 simp only[go_sem]
 apply K0 (C2e a hs)
 simp only[go_sem]
 intros
 refine K4 (served a) (fun k=>[(3,.val false [.ref 1 0 1 0 (linksF ((served a).take k)).length]),(9,vI k)]) (fun k=>[(1,⟨0,.row true 1 ((linksF ((served a).take k)).map K3g)⟩)]) (fun _=>True) (by simp only[roomB];omega) ?_
 simp only[go_sem]
 refine⟨?_,trivial,?_,?_⟩
 ·simp only[go_sem,List.take_zero]
  try exact⟨rfl,rfl⟩
 ·intro k c hx _ h0 h1 hw
  have hk:=K6 hx
  have hln:=K7c ((served a).take k)
  have hlt:=List.length_take_le k (served a)
  simp only[go_sem,K3 hx,h0,h1,hw]
  refine⟨fun hm=>?_,fun hm=>?_⟩
  ·apply K0 (Cb0 c.Resource c.Tick)
   rw[K7d hx hm,lk_move hm]
   simp only[go_sem,hw]
   exact⟨by decide,by simp only[roomB];omega,fun _=>⟨by simp,by simp[K3g]⟩⟩
  ·rw[K8c hx hm]
   try trivial
 ·intro _
  simp only[go_sem,List.take_length]
def M5b:MC:=
(Zs [.box 1 0 (.s 0),.nilo 2 1 1] [1] (Zs [.lit 6 1 1 16 [],mS 3 6] [1,3] (Zs [lT 7 10 1,.call 8 [2] (.f N1g) [.s 7],mS 4 8] [3,4] (.seq (Zs [.mv 5 (ci 0)] [3,4,5] (.block 0 (.loop ([3,4,5],[0,3]) (.seq (Zs [mS 9 5,mS 10 4,nS 11 10,bS 12 .lss 9 11] [3,4,5,12] (cX 12 0))
(.seq (.block 1 (Zs [mS 15 4,mS 16 5,xS 17 9 15 16,fS 18 17 4,fS 19 18 0,lF 20 1 19,bC 21 .eql 20 3] [3,4,5,21] (.cond (.s 21) (.dreg [Zf [23,24,25,26,27,28,29,30,31,32,33,34] [3] (mS 22 3),Zc [22,24,28,29,30,31,32] (mS 23 4),Zc [22,23,28,29,30,31,32] (mS 24 5),Zd [22,28,29,30,31,32] [1,2] (xS 25 9 23 24),Zd [22,28,29,30,31,32] [1,2,3] (fS 26 25 4),Zd [22,28,29,30,31,32] [1,2,3,4] (lT 27 5 26),Zc [22,23,24,25,26,27,29] (mS 28 4),Zc [22,23,24,25,26,27,28] (mS 29 5),Zd [22,23,24,25,26,27] [6,7] (xS 30 9 28 29),Zd [22,23,24,25,26,27] [6,7,8] (fS 31 30 3),Zd [22,23,24,25,26,27] [6,7,8,9] (lF 32 1 31),Zd [22] [1,2,3,4,5,6,7,8,9,10] (.call 33 [] (.f N7w) [.s 27,.s 32]),{o:= .lit 34 3 1 16 [.s 33],hs:=[22],ws:=[3],bf:=[1,2,3,4,5,6,7,8,9,10,11]},{o:= .app 35 1 1 16 (.s 22) (.s 34),ws:=[1],bf:=(.range 13)},Ze (.range 14) (mS 3 35)] [3,4,5]) .skip)))
(pr [mS 13 5,bC 14 .add 13 1,mS 5 14] [3,4,5]))))))
(Zs [mS 36 3,mS 2 36] [2] .ret)))))
set_option maxHeartbeats 1000000 in
theorem Cag(a:GArchive)(hs:a.size≤1073741824):Ctr Tryz.prog N60 [aS a.enc] [rL 1 ((K3c a).map K3g)]:=by
 refine cA M5b 4 37 [(.tmp 2,[true])] Tryz.func19 rfl rfl ?_;unfold M5b
 intro hb
 clear hb
 have hz:=K2p a
 unfold K3c
 simp only[go_sem]
 apply K0 (C2f a hs)
 simp only[go_sem]
 intros
 refine K4 (served a) (fun k=>[(3,.val false [.ref 1 0 1 0 (linksF ((served a).take k)).length]),(5,vI k)]) (fun k=>[(1,⟨0,.row true 1 ((linksF ((served a).take k)).map K3g)⟩)]) (fun _=>True) (by simp only[roomB];omega) ?_
 simp only[go_sem]
 refine⟨?_,trivial,?_,?_⟩
 ·simp only[go_sem,List.take_zero]
  try exact⟨rfl,rfl⟩
 ·intro k c hx _ h0 h1 hw
  have hk:=K6 hx
  have hln:=K7c ((served a).take k)
  have hlt:=List.length_take_le k (served a)
  simp only[go_sem,K3 hx,h0,h1,hw]
  refine⟨fun hm=>?_,fun hm=>?_⟩
  ·try simp only[go_sem,K3 hx,h0,h1,hw]
   apply K0 (Cb7 c.Resource c.Tick)
   rw[K7d hx hm,lk_move hm]
   simp only[go_sem,hw]
   exact⟨by decide,by simp only[roomB];omega,fun _=>⟨by simp,by simp[K3g]⟩⟩
  ·rw[K8c hx hm]
   try trivial
 ·intro _
  simp only[go_sem,List.take_length]
def honoured(a:GArchive):Bool:=decide (K6s (served a) a.Exclusions a.Now=0)&&insideL (K3c a)
def Y17(v0:Nat)(v1:Nat)(v2:Nat)(v3:Nat):MC:=
(Zs [.box 1 0 (.s 0),.mv 2 cF] [1] (.seq (.dreg [Zc [5,6,7,8] (lT 3 10 1),{o:= .call 4 [1] (.f v0) [.s 3],hs:=[5,6,7,8],ws:=[1],bf:=[0]},Zf [3,4,7,8] [1] (fS 5 1 5),Zg [3,4,7,8] [1] [2] (lF 6 1 5),Zf [3,4,5,6] [1] (fS 7 1 9),Zg [3,4,5,6] [1] [4] (lF 8 1 7),Ze (.range 6) (.call 9 [] (.f v1) [.s 4,.s 6,.s 8]),Ze (.range 7) (bC 10 .eql 9 0),Ze (.range 8) (mS 11 10),{o:=lT 12 10 1,g:=some (11,true),bf:=(.range 9)},{o:= .call 13 [2] (.f v2) [.s 12],g:=some (11,true),ws:=[2],bf:=(.range 10)},{o:= .call 14 [] (.f v3) [.s 13],g:=some (11,true),bf:=(.range 11)},Ze (.range 12) (.pick 15 (.s 11) (.s 14) cF),Ze (.range 13) (mS 2 15)] [2])
.ret))
attribute [go_sem] Y17
def M4s:MC:=Y17 N1e N43 N5i N45
theorem C9y(a:GArchive)(hs:a.size≤1073741824):Ctr Tryz.prog N5f [aS a.enc] [rB (honoured a)]:=by
 refine cA M4s 3 16 [(.tmp 2,[false])] Tryz.func7 rfl rfl ?_;unfold M4s
 intro hb
 clear hb
 have hz:=K2p a
 simp only[go_sem]
 apply K0 (C2e a hs)
 simp only[go_sem]
 try intros
 apply K0 (C97 (served a) a.Exclusions a.Now (by omega))
 simp only[go_sem]
 unfold honoured
 refine⟨fun h=>?_,fun h=>?_⟩
 ·rw[decide_eq_true h,Bool.true_and]
  apply K0 (Ca1 a hs)
  simp only[go_sem]
  try intros
  apply K0 (C99 (K3c a))
  simp only[go_sem]
  try intros
  try trivial
 ·try intros
  rw[decide_eq_false h,Bool.false_and]
def M59:MC:=Y17 N1g N4f N60 N4h
theorem Cad(a:GArchive)(hs:a.size≤1073741824):Ctr Tryz.prog N5x [aS a.enc] [rB (honoured a)]:=by
 refine cA M59 3 16 [(.tmp 2,[false])] Tryz.func5 rfl rfl ?_;unfold M59
 intro hb
 clear hb
 have hz:=K2p a
 simp only[go_sem]
 apply K0 (C2f a hs)
 simp only[go_sem]
 try intros
 apply K0 (C9o (served a) a.Exclusions a.Now (by omega))
 simp only[go_sem]
 unfold honoured
 refine⟨fun h=>?_,fun h=>?_⟩
 ·rw[decide_eq_true h,Bool.true_and]
  apply K0 (Cag a hs)
  simp only[go_sem]
  try intros
  apply K0 (C9q (K3c a))
  simp only[go_sem]
  try intros
  try trivial
 ·try intros
  rw[decide_eq_false h,Bool.false_and]
end Go.Proofs.YtflhjihoifbmfaaGreatDoorR
namespace Go.Proofs.YtflhjihoifbmfaaGreatDoorR
open Go Go.RowKit Go.Proofs
open Nat (reduceEqDiff reduceLT reduceLeDiff reduceAdd reduceMul)
open List (reduceReplicate)
def M1v:MC:=
(Zs [.box 1 0 (.s 0),.mv 2 cF] [1] (Zs [.mv 3 (ci 1048576)] [1,3] (Zs [lT 7 10 1,mS 8 3,.call 9 [] (.f N71) [.s 7,.s 8],mS 3 9] [1,3] (.seq (Zs [mS 10 3,bC 11 .lss 10 0] [1,11] (.cond (.s 11) (Zs [.mv 2 cT] [2] .ret) .skip))
(Zs [lT 12 10 1,.call 13 [1,2,3,4,5,6,7,8,9] (.f N1k) [.s 12],.call 14 [] (.f N5x) [.s 13],mS 4 14] [1,4] (Zs [lT 15 10 1,.call 16 [10,11,12,13,14,15,16,17,18] (.f N1k) [.s 15],.alloc 5 19 [.emp 9,.emp 4,.emp 4,.emp 6,.emp 4,.emp 5,.emp 4,.emp 1,.emp 4,pz],sS 10 5 16] [1,4,5] (Zs [lT 17 10 5,.call 18 [] (.f N5f) [.s 17],mS 6 18] [1,4,5,6] (.seq (Zs [mS 19 6,mS 20 4,.bin 21 true .neq (.s 19) (.s 20)] [1,5,21] (.cond (.s 21) (Zs [.mv 2 cF] [2] .ret) .skip))
(.seq (.seq (.dreg [Zf [23,24] [20,21,22,23,24,25,26,27,28] (lT 22 10 5),Zc [22] (lT 23 10 1),{o:= .call 24 [20,21,22,23,24,25,26,27,28] (.f N1k) [.s 23],hs:=[22],ws:=[20,21,22,23,24,25,26,27,28],bf:=[1]},Ze [0,1,2] (.call 25 [] (.f N6w) [.s 22,.s 24]),Ze (.range 4) (.un 26 .not (.s 25))] [26])
(.cond (.s 26) (Zs [.mv 2 cF] [2] .ret) .skip))
(Zs [.mv 2 cT] [2] .ret))))))))))
theorem c_laws_FnExactIsHonoured(a:GArchive):Ctr Tryz.prog N6v [aS a.enc] [rB true]:=by
 refine cA M1v 29 27 [(.tmp 2,[false])] Tryz.func3 rfl rfl ?_;unfold M1v
 intro hb
 clear hb
 simp only[go_sem]
 apply K0 (Car a _ (by omega))
 simp only[go_sem]
 intro _ hz
 have hs:=szr_ok hz
 have hc_a:=GArchive.cts_le a
 apply K0 (C28 a (by omega))
 simp only[go_sem]
 try intros
 apply K0 (Cad a (by omega))
 simp only[go_sem]
 try intros
 apply K0 (C28 a (by omega))
 simp only[go_sem]
 try intros
 apply K0 (C9y a (by omega))
 simp only[go_sem]
 try intros
 apply K0 (C28 a (by omega))
 simp only[go_sem]
 try intros
 apply K0 (Can a a)
 simp only[go_sem]
 try intros
end Go.Proofs.YtflhjihoifbmfaaGreatDoorR
