/- What the functions compute that the laws of PartsOf reach: contracts. Conditions stand in each theorem. -/
import Derived.Laws.CopyRow
import Derived.Shelf.Spec.SlicesInsertGrow
import Derived.ArgAppend
import Derived.KernelRfl
import Derived.Test.YtflhjihoifbmfaaGreatTPartsOfa
set_option linter.unusedVariables false
set_option linter.unusedSimpArgs false
namespace Go.Proofs.YtflhjihoifbmfaaGreatR
open Go Go.RowKit Go.Proofs
open Nat (reduceEqDiff reduceLT reduceLeDiff reduceAdd reduceMul)
open List (reduceReplicate)
namespace Srt
variable {α:Type} {lt:α→α→Bool}
theorem srt_at{l:List α}(h:srt lt l){i j:Nat}{x y:α}(hi:l[i]? =some x)(hj:l[j]? =some y)(hij:i<j):lt y x=false:=by
 obtain⟨h1,rfl⟩:=List.getElem?_eq_some_iff.1 hi
 obtain⟨h2,rfl⟩:=List.getElem?_eq_some_iff.1 hj
 exact(List.pairwise_iff_getElem.1 h) i j h1 h2 hij
theorem K2r(hw:Swo lt){l:List α}(h:srt lt l){i j:Nat}{x y:α}(hi:l[i]? =some x)(hj:l[j]? =some y)(hij:i≤j):lt y x=false:=by
 rcases Nat.lt_or_eq_of_le hij with k|rfl
 ·exact srt_at h hi hj k
 ·obtain rfl:=Option.some.inj (hi.symm.trans hj)
  exact hw.irr x
theorem K2j{l:List α}{u:Nat}{x:α}(h:x∈l.take u):∃i,i<u∧l[i]? =some x:=by
 obtain⟨i,hi⟩:=List.mem_iff_getElem?.1 h
 rw[List.getElem?_take]at hi
 split at hi
 ·exact⟨i,by assumption,hi⟩
 ·cases hi
theorem K2z{l:List α}{u:Nat}{x:α}(h:x∈l.drop u):∃i,u≤i∧l[i]? =some x:=by
 obtain⟨i,hi⟩:=List.mem_iff_getElem?.1 h
 rw[List.getElem?_drop]at hi
 exact⟨u+i,by omega,hi⟩
theorem K97{l:List α}{u:Nat}{x:α}(h:x∈(l.drop u).head?):l[u]? =some x:=by
 rw[List.head?_drop]at h
 exact h
theorem mrg_sym(hw:Swo lt){X Y:List α}(hX:srt lt X)(hY:srt lt Y){u M:Nat}(huX:u≤X.length)(huM:u≤M)
  (h1:u=0∨Y.length≤M-u∨∃y x,Y[M-u]? =some y∧X[u-1]? =some x∧lt y x=false)
  (h2:u=M∨u=X.length∨∃y x,Y[M-1-u]? =some y∧X[u]? =some x∧lt y x=true):
  mrg lt X Y=mrg lt (X.take u) (Y.take (M-u))++mrg lt (X.drop u) (Y.drop (M-u)):=by
 conv=>lhs;rw[←List.take_append_drop u X,←List.take_append_drop (M-u) Y]
 refine K8k ?_ ?_ ?_
 ·intro b hb a ha
  obtain⟨i,hi,eb⟩:=K2j hb
  have ea:=K97 ha
  have hlt:=Kb ea
  rcases h2 with h2|h2|⟨y,x,e1,e2,h2⟩
  ·omega
  ·omega
  ·obtain rfl:=Option.some.inj (e2.symm.trans ea)
   exact hw.fl (K2r hw hY eb e1 (by omega)) h2
 ·intro b hb a ha
  obtain⟨i,hi,eb⟩:=K2z hb
  obtain⟨k,hk,ea⟩:=K2j ha
  have hlt:=Kb eb
  rcases h1 with h1|h1|⟨y,x,e1,e2,h1⟩
  ·omega
  ·omega
  ·have p1:=K2r hw hY e1 eb (by omega)
   have p2:=K2r hw hX ea e2 (by omega)
   exact hw.ntr (hw.ntr p1 h1) p2
 ·intro b hb a ha
  obtain⟨i,hi,eb⟩:=K2z hb
  obtain⟨k,hk,ea⟩:=K2j ha
  exact srt_at hY ea eb (by omega)
theorem mrg_one(hw:Swo lt){x:α}{Y:List α}(hY:srt lt Y){u:Nat}(h1:∀y∈Y.take u,lt y x=true)(h2:∀y∈Y.drop u,lt y x=false):mrg lt [x] Y=Y.take u++x::Y.drop u:=by
 have e:=K8k (lt:=lt) (A1:=[]) (A2:=[x]) (B1:=Y.take u) (B2:=Y.drop u) (by simpa using h1) (by simp) (by
  intro b hb a ha
  obtain⟨i,hi,eb⟩:=K2z hb
  obtain⟨k,hk,ea⟩:=K2j ha
  exact srt_at hY ea eb (by omega))
 rw[List.take_append_drop,List.nil_append]at e
 rw[e,mrg_nil_srt hw (srt_append.1 ((List.take_append_drop u Y).symm▸hY)).1]
 have e2:=K62 (lt:=lt) (A1:=[x]) (A2:=[]) (B:=Y.drop u) (by simpa using h2)
 rw[List.append_nil]at e2
 rw[e2,mrg_nil_srt hw (srt_append.1 ((List.take_append_drop u Y).symm▸hY)).2.1]
 rfl
theorem mrg_last{y:α}{X:List α}{u:Nat}(h1:∀z∈X.take u,lt y z=false)(h2:∀z∈X.drop u,lt y z=true):mrg lt X [y]=X.take u++y::X.drop u:=by
 have:=ins_mid (lt:=lt) (x:=y) h1 (fun z hz=>h2 z (List.mem_of_mem_head? hz))
 rw[List.take_append_drop]at this
 exact this
theorem lo_of(hw:Swo lt){Y:List α}(hY:srt lt Y){w:Nat}{x y:α}(e:Y[w]? =some y)(h:lt y x=true):∀z∈Y.take (w+1),lt z x=true:=fun z hz=>by
 obtain⟨i,hi,ez⟩:=K2j hz
 exact hw.fl (K2r hw hY ez e (by omega)) h
theorem hi_of(hw:Swo lt){Y:List α}(hY:srt lt Y){w:Nat}{x y:α}(e:Y[w]? =some y)(h:lt y x=false):∀z∈Y.drop w,lt z x=false:=fun z hz=>by
 obtain⟨i,hi,ez⟩:=K2z hz
 exact hw.ntr (K2r hw hY e ez hi) h
theorem lo_of'(hw:Swo lt){X:List α}(hX:srt lt X){w:Nat}{x y:α}(e:X[w]? =some x)(h:lt y x=false):∀z∈X.take (w+1),lt y z=false:=fun z hz=>by
 obtain⟨i,hi,ez⟩:=K2j hz
 exact hw.ntr h (K2r hw hX ez e (by omega))
theorem hi_of'(hw:Swo lt){X:List α}(hX:srt lt X){w:Nat}{x y:α}(e:X[w]? =some x)(h:lt y x=true):∀z∈X.drop w,lt y z=true:=fun z hz=>by
 obtain⟨i,hi,ez⟩:=K2z hz
 exact hw.lf h (K2r hw hX e ez hi)
end Srt
theorem shr1{k:Int}:(if (1:Int)<0 then none else some (Value.int IntKind.u64 (k.fdiv (2^min (Int.toNat 1) 64))))=some (Value.int IntKind.u64 (k.fdiv 2)):=by rw[if_neg (by decide)];rfl
theorem u64_wrap{n:Int}(h1:0≤n)(h2:n≤9223372036854775807):IntKind.u64.wrap n=n:=by
 simp only[IntKind.wrap,IntKind.signed,IntKind.bits,Bool.false_and,Bool.false_eq_true,if_false]
 omega
theorem K54{i j:Nat}(h:i+j≤9223372036854775807):(IntKind.u64.wrap (IntKind.i64.wrap ((i:Int)+(j:Int)))).fdiv 2=(((i+j)/2:Nat):Int):=by
 rw[wN h,u64_wrap (by omega) (by omega),Int.fdiv_eq_ediv_of_nonneg _ (by omega)]
 omega
theorem wK{k:Nat}(h:k≤9223372036854775807):IntKind.i64.wrap (k:Int)=(k:Int):=wI (by omega) (by omega)
def SymI(lt:GFound→GFound→Bool)(X Y:List GFound)(M u0 v0 u v:Nat):Prop:=
 u0≤u∧u≤v∧v≤v0∧(u=0∨Y.length≤M-u∨∃y x,Y[M-u]? =some y∧X[u-1]? =some x∧lt y x=false)∧
  (v=M∨v=X.length∨∃y x,Y[M-1-v]? =some y∧X[v]? =some x∧lt y x=true)
theorem SymI.fin{lt:GFound→GFound→Bool}(hw:Srt.Swo lt){X Y:List GFound}{M u0 v0 u:Nat}(h:SymI lt X Y M u0 v0 u u)(hX:Srt.srt lt X)(hY:Srt.srt lt Y)(q2:v0≤M)(q3:v0≤X.length)(q4:M≤u0+Y.length):
  ∃A1 A2 B1 B2,X=A1++A2∧Y=B1++B2∧A1.length=u∧B1.length=M-u∧u≤M∧Srt.mrg lt X Y=Srt.mrg lt A1 B1++Srt.mrg lt A2 B2∧Srt.srt lt A1∧Srt.srt lt A2∧Srt.srt lt B1∧Srt.srt lt B2:=by
 obtain⟨h1,h2,h3,h4,h5⟩:=h
 have e:=Srt.mrg_sym hw hX hY (by omega) (by omega) h4 h5
 have sX:=Srt.srt_append.1 ((List.take_append_drop u X).symm▸hX)
 have sY:=Srt.srt_append.1 ((List.take_append_drop (M-u) Y).symm▸hY)
 exact⟨X.take u,X.drop u,Y.take (M-u),Y.drop (M-u),(List.take_append_drop _ _).symm,(List.take_append_drop _ _).symm,by simp;omega,by simp;omega,by omega,e,sX.1,sX.2.1,sY.1,sY.2.1⟩
theorem sym7{u l2 k l4 M:Nat}(hk:k=M-u)(huM:u≤M)(hM:M=(u+l2+(k+l4))/2)(hX:2≤u+l2)(hY:2≤k+l4):
  (0<u∧0<l2∧0<k∧0<l4)∨(u=0∧0<l2∧0<k∧0<l4)∨(0<u∧l2=0∧0<k∧0<l4)∨(0<u∧0<l2∧k=0∧0<l4)∨(0<u∧0<l2∧0<k∧l4=0)∨(u=0∧0<l2∧0<k∧l4=0)∨(0<u∧l2=0∧k=0∧0<l4):=by omega
theorem Ka{i j:Nat}(k:Nat)(h:j=i+k)(hk:0<k):(i:Int)<(j:Int):=by omega
theorem K16{i j:Nat}(k:Nat)(h:j=i+k)(hk:k=0):¬(i:Int)<(j:Int):=by omega
theorem symL(lt:GFound→GFound→Bool){P A1 A2 B1 B2 Q:List GFound}{a m b M u N n:Nat}(ha:P.length=a)(hA1:A1.length=u)(hB1:B1.length=M-u)(huM:u≤M)(hm:m=a+(A1++A2).length)(hb:b=m+(B1++B2).length)
  (hN:(P++(A1++A2)++(B1++B2)++Q).length=N) (hM:M=((A1++A2).length+(B1++B2).length)/2) (hn:(A1++A2).length+(B1++B2).length≤n+1) (h1:¬((m-a:Nat):Int)=1) (h2:¬((b-m:Nat):Int)=1) (hX:0<(A1++A2).length) (hY:0<(B1++B2).length):
  ((P++A1++B1++A2++(B2++Q)).length=N∧(P++A1++A2++B1++(B2++Q)).length=N∧(P++A1++B1++(A2++(B2++Q))).length=N∧(P++Srt.mrg lt A1 B1++A2++B2++Q).length=N∧(P++Srt.mrg lt A1 B1++(A2++(B2++Q))).length=N∧(P++Srt.mrg lt A1 B1++Srt.mrg lt A2 B2++Q).length=N)∧
  ((P++A1).length=a+u∧(P++A1++A2).length=m∧(P++A1++A2++B1).length=m+(M-u)∧(P++A1++B1).length=a+M∧(P++Srt.mrg lt A1 B1).length=a+M∧(P++Srt.mrg lt A1 B1++A2).length=m+(M-u)∧(P++Srt.mrg lt A1 B1++A2++B2).length=b)∧
  A1.length+B1.length≤n∧A2.length+B2.length≤n∧
  (m=a+u+A2.length∧m+(M-u)=m+B1.length∧a+u=a+A1.length∧a+M=a+u+B1.length∧m+(M-u)=a+M+A2.length∧b=m+(M-u)+B2.length)∧
  ((0<A1.length∧0<A2.length∧0<B1.length∧0<B2.length)∨(A1.length=0∧0<A2.length∧0<B1.length∧0<B2.length)∨(0<A1.length∧A2.length=0∧0<B1.length∧0<B2.length)∨(0<A1.length∧0<A2.length∧B1.length=0∧0<B2.length)∨(0<A1.length∧0<A2.length∧0<B1.length∧B2.length=0)∨(A1.length=0∧0<A2.length∧0<B1.length∧B2.length=0)∨(0<A1.length∧A2.length=0∧B1.length=0∧0<B2.length)):=by
 simp only[List.length_append,Srt.len_mrg]at*
 have h7:=sym7 (u:=A1.length) (l2:=A2.length) (k:=B1.length) (l4:=B2.length) (M:=M) (by omega) (by omega) (by omega) (by omega) (by omega)
 refine⟨⟨?_,?_,?_,?_,?_,?_⟩,⟨?_,?_,?_,?_,?_,?_,?_⟩,?_,?_,⟨?_,?_,?_,?_,?_,?_⟩,h7⟩<;>clear h7<;>omega
def Mg:MC:=
(.seq (Zs [mS 25 2,mS 26 1,bS 27 .sub 25 26,bC 28 .eql 27 1] [0,1,2,3,4,28] (.cond (.s 28) (Zs [mS 29 2,mS 10 29] [0,1,3,4,10] (Zs [mS 30 3,mS 11 30] [0,1,4,10,11] (.seq (.block 0 (.loop ([0,1,4,10,11],[]) (.seq (Zs [mS 31 10,mS 32 11,bS 33 .lss 31 32] [0,1,4,10,11,33] (cX 33 0))
(.block 1 (Zs [mS 34 10,mS 35 11,bS 36 .add 34 35,.convI 37 .u64 (.s 36),.bin 38 false .shr (.s 37) (.c (.int .u64 1)),.convI 39 .i64 (.s 38),mS 12 39] [0,1,4,10,11,12] (.seq (.dreg [Zc [41,42,43,44,45,46,47,48] (mS 40 4),Zc [40,42,45,46,47,48] (mS 41 0),Zc [40,41,45,46,47,48] (mS 42 12),Zd [40,45,46,47,48] [1,2] (xS 43 6 41 42),Zd [40,45,46,47,48] [1,2,3] (lT 44 6 43),Zc [40,41,42,43,44,46] (mS 45 0),Zc [40,41,42,43,44,45] (mS 46 1),Zd [40,41,42,43,44] [5,6] (xS 47 6 45 46),Zd [40,41,42,43,44] [5,6,7] (lT 48 6 47),Ze (.range 9) (.call 49 [] (.s 40) [.s 44,.s 48]),Ze (.range 10) (bC 50 .lss 49 0)] [0,1,4,10,11,12,50])
(.cond (.s 50) (pr [mS 51 12,bC 52 .add 51 1,mS 10 52] [0,1,4,10,11]) (pr [mS 53 12,mS 11 53] [0,1,4,10,11]))))))))
(.seq (Zs [mS 54 1,mS 13 54] [0,10,13] (.block 2 (.loop ([0,10,13],[]) (.seq (Zs [mS 55 13,mS 56 10,bC 57 .sub 56 1,bS 58 .lss 55 57] [0,10,13,58] (cX 58 2))
(.seq (.block 3 (.dreg [Zc [62,63,64,65,66,67,68,69,70,71,72,73,74] (mS 61 0),Zc [61,63,64,65,66,67,68,69,70,71,72,73,74] (mS 62 13),Zf [61,62,64,65,66,67,68,69,70,71,72,73,74,75] [0] (mS 63 0),Zf [61,62,63,66,67,68,69,70,71,72,73,74,75] [0] (mS 64 13),Zg [61,62,63,66,67,68,69,70,71,72,73,74,75] [0] [3] (bC 65 .add 64 1),Zc [61,62,63,64,65,67,68,71,72,73,74] (mS 66 0),Zc [61,62,63,64,65,66,71,72,73,74] (mS 67 13),Zd [61,62,63,64,65,66,71,72,73,74] [6] (bC 68 .add 67 1),Zd [61,62,63,64,65,71,72,73,74] [5,6,7] (xS 69 6 66 68),Zd [61,62,63,64,65,71,72,73,74] [5,6,7,8] (lT 70 6 69),Zc [61,62,63,64,65,66,67,68,69,70,72] (mS 71 0),Zc [61,62,63,64,65,66,67,68,69,70,71] (mS 72 13),Zd [61,62,63,64,65,66,67,68,69,70] [10,11] (xS 73 6 71 72),Zd [61,62,63,64,65,66,67,68,69,70] [10,11,12] (lT 74 6 73),Zd [63,64,65] [0,1,5,6,7,8,9,10,11,12,13] (xS 75 6 61 62),{o:=sS 6 75 70,hs:=[63,64,65],ws:=[0],bf:=[0,1,5,6,7,8,9,10,11,12,13,14]},Ze (.range 16) (xS 76 6 63 65),{o:=sS 6 76 74,ws:=[0],bf:=(.range 17)}] [0,10,13]))
(pr [mS 59 13,bC 60 .add 59 1,mS 13 60] [0,10,13]))))))
.ret)))) .skip))
(.seq (Zs [mS 77 3,mS 78 2,bS 79 .sub 77 78,bC 80 .eql 79 1] [0,1,2,3,4,80] (.cond (.s 80) (Zs [mS 81 1,mS 14 81] [0,2,4,14] (Zs [mS 82 2,mS 15 82] [0,2,4,14,15] (.seq (.block 4 (.loop ([0,2,4,14,15],[]) (.seq (Zs [mS 83 14,mS 84 15,bS 85 .lss 83 84] [0,2,4,14,15,85] (cX 85 4))
(.block 5 (Zs [mS 86 14,mS 87 15,bS 88 .add 86 87,.convI 89 .u64 (.s 88),.bin 90 false .shr (.s 89) (.c (.int .u64 1)),.convI 91 .i64 (.s 90),mS 16 91] [0,2,4,14,15,16] (.seq (.dreg [Zc [93,94,95,96,97,98,99,100] (mS 92 4),Zc [92,94,97,98,99,100] (mS 93 0),Zc [92,93,97,98,99,100] (mS 94 2),Zd [92,97,98,99,100] [1,2] (xS 95 6 93 94),Zd [92,97,98,99,100] [1,2,3] (lT 96 6 95),Zc [92,93,94,95,96,98] (mS 97 0),Zc [92,93,94,95,96,97] (mS 98 16),Zd [92,93,94,95,96] [5,6] (xS 99 6 97 98),Zd [92,93,94,95,96] [5,6,7] (lT 100 6 99),Ze (.range 9) (.call 101 [] (.s 92) [.s 96,.s 100]),Ze (.range 10) (bC 102 .lss 101 0),Ze (.range 11) (.un 103 .not (.s 102))] [0,2,4,14,15,16,103])
(.cond (.s 103) (pr [mS 104 16,bC 105 .add 104 1,mS 14 105] [0,2,4,14,15]) (pr [mS 106 16,mS 15 106] [0,2,4,14,15]))))))))
(.seq (Zs [mS 107 2,mS 17 107] [0,14,17] (.block 6 (.loop ([0,14,17],[]) (.seq (Zs [mS 108 17,mS 109 14,bS 110 .gtr 108 109] [0,14,17,110] (cX 110 6))
(.seq (.block 7 (.dreg [Zc [114,115,116,117,118,119,120,121,122,123,124,125,126] (mS 113 0),Zc [113,115,116,117,118,119,120,121,122,123,124,125,126] (mS 114 17),Zf [113,114,116,117,118,119,120,121,122,123,124,125,126,127] [0] (mS 115 0),Zf [113,114,115,118,119,120,121,122,123,124,125,126,127] [0] (mS 116 17),Zg [113,114,115,118,119,120,121,122,123,124,125,126,127] [0] [3] (bC 117 .sub 116 1),Zc [113,114,115,116,117,119,120,123,124,125,126] (mS 118 0),Zc [113,114,115,116,117,118,123,124,125,126] (mS 119 17),Zd [113,114,115,116,117,118,123,124,125,126] [6] (bC 120 .sub 119 1),Zd [113,114,115,116,117,123,124,125,126] [5,6,7] (xS 121 6 118 120),Zd [113,114,115,116,117,123,124,125,126] [5,6,7,8] (lT 122 6 121),Zc [113,114,115,116,117,118,119,120,121,122,124] (mS 123 0),Zc [113,114,115,116,117,118,119,120,121,122,123] (mS 124 17),Zd [113,114,115,116,117,118,119,120,121,122] [10,11] (xS 125 6 123 124),Zd [113,114,115,116,117,118,119,120,121,122] [10,11,12] (lT 126 6 125),Zd [115,116,117] [0,1,5,6,7,8,9,10,11,12,13] (xS 127 6 113 114),{o:=sS 6 127 122,hs:=[115,116,117],ws:=[0],bf:=[0,1,5,6,7,8,9,10,11,12,13,14]},Ze (.range 16) (xS 128 6 115 117),{o:=sS 6 128 126,ws:=[0],bf:=(.range 17)}] [0,14,17]))
(pr [mS 111 17,bC 112 .sub 111 1,mS 17 112] [0,14,17]))))))
.ret)))) .skip))
(Zs [mS 129 1,mS 130 3,bS 131 .add 129 130,.convI 132 .u64 (.s 131),.bin 133 false .shr (.s 132) (.c (.int .u64 1)),.convI 134 .i64 (.s 133),mS 18 134] [0,1,2,3,4,18] (Zs [mS 135 18,mS 136 2,bS 137 .add 135 136,mS 19 137] [0,1,2,3,4,18,19] (Zs [.mv 20 (ci 0),.mv 21 (ci 0)] [0,1,2,3,4,18,19] (.seq (Zs [mS 138 2,mS 139 18,bS 140 .gtr 138 139] [0,1,2,3,4,18,19,140] (.cond (.s 140) (Zs [mS 141 19,mS 142 3,bS 143 .sub 141 142,mS 20 143] [0,1,2,3,4,18,19,20] (pr [mS 144 18,mS 21 144] [0,1,2,3,4,18,19,20,21])) (Zs [mS 145 1,mS 20 145] [0,1,2,3,4,18,19,20] (pr [mS 146 2,mS 21 146] [0,1,2,3,4,18,19,20,21]))))
(Zs [mS 147 19,bC 148 .sub 147 1,mS 22 148] [0,1,2,3,4,18,19,20,21,22] (.seq (.block 8 (.loop ([0,1,2,3,4,18,19,20,21,22],[]) (.seq (Zs [mS 149 20,mS 150 21,bS 151 .lss 149 150] [0,1,2,3,4,18,19,20,21,22,151] (cX 151 8))
(.block 9 (Zs [mS 152 20,mS 153 21,bS 154 .add 152 153,.convI 155 .u64 (.s 154),.bin 156 false .shr (.s 155) (.c (.int .u64 1)),.convI 157 .i64 (.s 156),mS 23 157] [0,1,2,3,4,18,19,20,21,22,23] (.seq (.dreg [Zc [159,160,161,162,163,164,165,166,167,168] (mS 158 4),Zc [158,160,161,162,165,166,167,168] (mS 159 0),Zc [158,159,161,165,166,167,168] (mS 160 22),Zc [158,159,160,165,166,167,168] (mS 161 23),Zd [158,159,165,166,167,168] [2,3] (bS 162 .sub 160 161),Zd [158,165,166,167,168] [1,2,3,4] (xS 163 6 159 162),Zd [158,165,166,167,168] [1,2,3,4,5] (lT 164 6 163),Zc [158,159,160,161,162,163,164,166] (mS 165 0),Zc [158,159,160,161,162,163,164,165] (mS 166 23),Zd [158,159,160,161,162,163,164] [7,8] (xS 167 6 165 166),Zd [158,159,160,161,162,163,164] [7,8,9] (lT 168 6 167),Ze (.range 11) (.call 169 [] (.s 158) [.s 164,.s 168]),Ze (.range 12) (bC 170 .lss 169 0),Ze (.range 13) (.un 171 .not (.s 170))] [0,1,2,3,4,18,19,20,21,22,23,171])
(.cond (.s 171) (pr [mS 172 23,bC 173 .add 172 1,mS 20 173] [0,1,2,3,4,18,19,20,21,22]) (pr [mS 174 23,mS 21 174] [0,1,2,3,4,18,19,20,21,22]))))))))
(Zs [mS 175 19,mS 176 20,bS 177 .sub 175 176,mS 24 177] [0,1,2,3,4,18,20,24] (.seq (.seq (.reg [Za (mS 178 20),Za (mS 179 2),Za (bS 180 .lss 178 179),Za (mS 181 180),Zb 181 true (mS 182 2),Zb 181 true (mS 183 24),Zb 181 true (bS 184 .lss 182 183),Za (.pick 185 (.s 181) (.s 184) cF)] [0,1,2,3,4,18,20,24,185])
(.cond (.s 185) (pr [mS 186 0,mS 187 20,mS 188 2,mS 189 24,mS 190 4,.callI 191 [] (.f Nk) [.s 186,.s 187,.s 188,.s 189,.s 190] [0] []] [0,1,3,4,18,20,24]) .skip))
(.seq (.seq (.reg [Za (mS 192 1),Za (mS 193 20),Za (bS 194 .lss 192 193),Za (mS 195 194),Zb 195 true (mS 196 20),Zb 195 true (mS 197 18),Zb 195 true (bS 198 .lss 196 197),Za (.pick 199 (.s 195) (.s 198) cF)] [0,1,3,4,18,20,24,199])
(.cond (.s 199) (pr [mS 200 0,mS 201 1,mS 202 20,mS 203 18,mS 204 4,.callI 205 [] (.f N0) [.s 200,.s 201,.s 202,.s 203,.s 204] [0] []] [0,3,4,18,24]) .skip))
(.seq (.reg [Za (mS 206 18),Za (mS 207 24),Za (bS 208 .lss 206 207),Za (mS 209 208),Zb 209 true (mS 210 24),Zb 209 true (mS 211 3),Zb 209 true (bS 212 .lss 210 211),Za (.pick 213 (.s 209) (.s 212) cF)] [0,3,4,18,24,213])
(.cond (.s 213) (pr [mS 214 0,mS 215 18,mS 216 24,mS 217 3,mS 218 4,.callI 219 [] (.f N0) [.s 214,.s 215,.s 216,.s 217,.s 218] [0] []] []) .skip)))))))))))))
set_option maxHeartbeats 4000000 in
theorem C19(f:FuncId)(c:GFound→GFound→Int)(hc:∀x y,Ctr Tryz.prog f [aS x.enc,aS y.enc] [rI (c x y)])(hw:Srt.Swo (ltc c))(n:Nat):∀(P X Y Q:List GFound) {a m b:Nat},X.length+Y.length≤n→P.length=a→(P++X).length=m→(P++X++Y).length=b→0<X.length→0<Y.length→Srt.srt (ltc c) X→Srt.srt (ltc c) Y→
  CtrI Tryz.prog N0 [oL 6 ((P++X++Y++Q).map GFound.enc),iI a,iI m,iI b,fI f] [some (6,(P++Srt.mrg (ltc c) X Y++Q).map GFound.enc)] []:=by
 induction n with
 |zero=>intro P X Y Q a m b hn _ _ _ hX;omega
 |succ n ih=>
  intro P X Y Q a m b hn ha hm hb hX hY sX sY
  have hN2:(P++Srt.mrg (ltc c) X Y++Q).length=(P++X++Y++Q).length:=by simp[Srt.len_mrg];omega
  refine Kw (M:=Mg) (m:=0) (n:=220) (res:=[]) hmix Tryz.func235 rfl (by kernel_rfl) rfl (by kernel_rfl) (by kernel_rfl) (Nat.le_of_ble_eq_true rfl) rfl rfl ?_;unfold Mg
  intro hbd
  have hl:=Ku hbd
  clear hbd
  have hm':m=a+X.length:=by rw[←hm,←ha];simp
  have hb':b=m+Y.length:=by rw[←hb,←hm];simp;omega
  have hbN:b≤(P++X++Y++Q).length:=by rw[List.length_append,hb];omega
  generalize hN:(P++X++Y++Q).length=N at*
  simp only[roomB]at hl
  simp only[go_sem,hN,wS (a:=m) (b:=a) (by omega) (by omega)]
  refine⟨fun h1=>?_,fun h1=>?_⟩
  ·obtain⟨x,rfl⟩:∃x,X=[x]:=List.length_eq_one_iff.1 (by omega)
   simp only[List.length_cons,List.length_nil]at hm' hn
   have hxa:(P++[x]++Y++Q)[a]? =some x:=by rw[←ha];simp
   have hya:∀w,w<Y.length→(P++[x]++Y++Q)[m+w]? =Y[w]? :=fun w hw=>by
    rw[List.append_assoc,List.getElem?_append_right (by simp;omega),List.getElem?_append_left (by simp;omega)]
    congr 1;simp;omega
   refine K10 (ι:=Nat×Nat) (fun s=>[(10,vI ((m+s.1:Nat):Int)),(11,vI ((m+s.2:Nat):Int))]) (fun s=>[]) (fun s=>s.1≤s.2∧s.2≤Y.length∧(∀y∈Y.take s.1,ltc c y x=true)∧(∀y∈Y.drop s.2,ltc c y x=false)) (fun s=>s.2-s.1) (0,Y.length) ?_
   simp only[go_sem]
   refine⟨?_,⟨by omega,by omega,by simp,by simp⟩,?_⟩
   ·simp only[go_sem]
    exact⟨by omega,by omega⟩
   ·rintro ⟨u,v⟩ ⟨i1,i2,i3,i4⟩
    simp only at i1 i2 i3 i4
    simp only[go_sem,hN,shr1,K54 (i:=m+u) (j:=m+v) (by omega)]
    refine⟨fun hlt=>?_,fun hge=>?_⟩
    ·have hwx:(m+u+(m+v))/2=m+(u+v)/2:=by omega
     have w1:u≤(u+v)/2:=by omega
     have w2:(u+v)/2<v:=by omega
     rw[hwx]
     generalize (u+v)/2=w at w1 w2
     obtain⟨y,hy⟩:=Kh (show w<Y.length by omega)
     have hyw:=(hya w (by omega)).trans hy
     have k1:(0:Int)≤((m+w:Nat):Int):=by omega
     have k2:((m+w:Nat):Int)<(N:Int):=by omega
     have k3:(0:Int)≤(a:Int):=by omega
     have k4:(a:Int)<(N:Int):=by omega
     simp only[go_sem,wK (k:=m+w) (by omega),k1,k2,k3,k4,K7 hyw,K7 hxa]
     apply K0 (hc y x)
     simp only[go_sem,wN1 (a:=m+w) (by omega)]
     intro _
     refine⟨fun hn=>⟨(w+1,v),⟨rfl,rfl⟩,⟨by omega,i2,Srt.lo_of hw sY hy (by simpa[ltc]using hn),i4⟩,by omega⟩,fun hn=>⟨(u,w),⟨rfl,rfl⟩,⟨w1,by omega,i3,Srt.hi_of hw sY hy (by simpa[ltc]using hn)⟩,by omega⟩⟩
    ·obtain rfl:u=v:=by omega
     have hres:=Srt.mrg_one hw sY i3 i4
     have hlt:∀t,(P++(Y.take t++x::Y.drop t)++Q).length=N:=fun t=>by rw[←hN];simp;omega
     refine K10 (fun t:Nat=>[(13,vI ((a+t:Nat):Int))]) (fun t=>[(0,⟨1,.row true 6 ((P++(Y.take t++x::Y.drop t)++Q).map GFound.enc)⟩)]) (fun t=>t≤u) (fun t=>u-t) 0 ?_
     simp only[go_sem]
     refine⟨?_,by omega,?_⟩
     ·simp only[go_sem]
      simp
     ·intro t ht
      have hs1:IntKind.i64.wrap (((m+u:Nat):Int)-1)=((a+u:Nat):Int):=by
       rw[wI (by omega) (by omega)];omega
      by_cases htu:t<u
      ·obtain⟨y,hy⟩:=Kh (show t<Y.length by omega)
       have e1:(P++(Y.take t++x::Y.drop t)++Q).map GFound.enc=two ((P++Y.take t).map GFound.enc) x.enc [] y.enc ((Y.drop (t+1)++Q).map GFound.enc):=by simp[two,K13 hy]
       have e2:(P++(Y.take (t+1)++x::Y.drop (t+1))++Q).map GFound.enc=two ((P++Y.take t).map GFound.enc) y.enc [] x.enc ((Y.drop (t+1)++Q).map GFound.enc):=by simp[two,Kn hy]
       have hA:((P++Y.take t).map GFound.enc).length=a+t:=by simp;omega
       have hL0:∀p q,(two ((P++Y.take t).map GFound.enc) p [] q ((Y.drop (t+1)++Q).map GFound.enc)).length=N:=fun p q=>by
        rw[←hlt t];simp[two,K13 hy]
       generalize (P++Y.take t).map GFound.enc=A at*
       generalize (Y.drop (t+1)++Q).map GFound.enc=C at*
       obtain⟨g1,g2,s1,s2,hL,d1,d2⟩:=K7q (A:=A) (B:=[]) (C:=C) (p:=a+t) (q:=a+t+1) hA (by simp)
       have k1:(0:Int)≤((a+t:Nat):Int):=by omega
       have k2:((a+t:Nat):Int)<(N:Int):=by omega
       have k3:(0:Int)≤((a+t+1:Nat):Int):=by omega
       have k4:((a+t+1:Nat):Int)<(N:Int):=by omega
       have k5:((a+t:Nat):Int)<((a+u:Nat):Int):=by omega
       rw[e1]
       simp only[go_sem,hs1,hL0,g1,g2,s1,s2,k1,k2,k3,k4,k5,wN1 (a:=a+t) (by omega)]
       exact⟨t+1,⟨rfl,e2.symm⟩,by omega,by omega⟩
      ·obtain rfl:t=u:=by omega
       simp only[go_sem,hs1]
       rw[hres]
  ·simp only[go_sem,wS (a:=b) (b:=m) (by omega) (by omega)]
   refine⟨fun h2=>?_,fun h2=>?_⟩
   ·obtain⟨y,rfl⟩:∃y,Y=[y]:=List.length_eq_one_iff.1 (by omega)
    simp only[List.length_cons,List.length_nil]at hb' hn
    have hym:(P++X++[y]++Q)[m]? =some y:=by rw[←hm];simp
    have hxa:∀w,w<X.length→(P++X++[y]++Q)[a+w]? =X[w]? :=fun w hw=>by
     rw[List.append_assoc,List.append_assoc,List.getElem?_append_right (by omega),List.getElem?_append_left (by omega)]
     congr 1;omega
    refine K10 (ι:=Nat×Nat) (fun s=>[(14,vI ((a+s.1:Nat):Int)),(15,vI ((a+s.2:Nat):Int))]) (fun s=>[]) (fun s=>s.1≤s.2∧s.2≤X.length∧(∀z∈X.take s.1,ltc c y z=false)∧(∀z∈X.drop s.2,ltc c y z=true)) (fun s=>s.2-s.1) (0,X.length) ?_
    simp only[go_sem]
    refine⟨?_,⟨by omega,by omega,by simp,by simp⟩,?_⟩
    ·simp only[go_sem]
     exact⟨by omega,by omega⟩
    ·rintro ⟨u,v⟩ ⟨i1,i2,i3,i4⟩
     simp only at i1 i2 i3 i4
     simp only[go_sem,hN,shr1,K54 (i:=a+u) (j:=a+v) (by omega)]
     refine⟨fun hlt=>?_,fun hge=>?_⟩
     ·have hwx:(a+u+(a+v))/2=a+(u+v)/2:=by omega
      have w1:u≤(u+v)/2:=by omega
      have w2:(u+v)/2<v:=by omega
      rw[hwx]
      generalize (u+v)/2=w at w1 w2
      obtain⟨x,hx⟩:=Kh (show w<X.length by omega)
      have hxw:=(hxa w (by omega)).trans hx
      have k1:(0:Int)≤((a+w:Nat):Int):=by omega
      have k2:((a+w:Nat):Int)<(N:Int):=by omega
      have k3:(0:Int)≤(m:Int):=by omega
      have k4:(m:Int)<(N:Int):=by omega
      simp only[go_sem,wK (k:=a+w) (by omega),k1,k2,k3,k4,K7 hxw,K7 hym]
      apply K0 (hc y x)
      simp only[go_sem,wN1 (a:=a+w) (by omega)]
      intro _
      refine⟨fun hn=>⟨(w+1,v),⟨rfl,rfl⟩,⟨by omega,i2,Srt.lo_of' hw sX hx (by simpa[ltc]using hn),i4⟩,by omega⟩,fun hn=>⟨(u,w),⟨rfl,rfl⟩,⟨w1,by omega,i3,Srt.hi_of' hw sX hx (by simpa[ltc]using hn)⟩,by omega⟩⟩
     ·obtain rfl:u=v:=by omega
      have hres:=Srt.mrg_last i3 i4
      have hlt:∀t,(P++(X.take t++y::X.drop t)++Q).length=N:=fun t=>by rw[←hN];simp;omega
      refine K10 (fun t:Nat=>[(17,vI ((a+t:Nat):Int))]) (fun t=>[(0,⟨1,.row true 6 ((P++(X.take t++y::X.drop t)++Q).map GFound.enc)⟩)]) (fun t=>u≤t∧t≤X.length) (fun t=>t-u) X.length ?_
      simp only[go_sem]
      refine⟨?_,⟨i2,by omega⟩,?_⟩
      ·simp only[go_sem,hm']
       simp
      ·rintro t ⟨ht,ht2⟩
       by_cases htu:u<t
       ·obtain⟨t,rfl⟩:∃s,t=s+1:=⟨t-1,by omega⟩
        obtain⟨x,hx⟩:=Kh (show t<X.length by omega)
        have e1:(P++(X.take (t+1)++y::X.drop (t+1))++Q).map GFound.enc=two ((P++X.take t).map GFound.enc) x.enc [] y.enc ((X.drop (t+1)++Q).map GFound.enc):=by simp[two,Kn hx]
        have e2:(P++(X.take t++y::X.drop t)++Q).map GFound.enc=two ((P++X.take t).map GFound.enc) y.enc [] x.enc ((X.drop (t+1)++Q).map GFound.enc):=by simp[two,K13 hx]
        have hA:((P++X.take t).map GFound.enc).length=a+t:=by simp;omega
        have hL0:∀p q,(two ((P++X.take t).map GFound.enc) p [] q ((X.drop (t+1)++Q).map GFound.enc)).length=N:=fun p q=>by
         rw[←hlt t];simp[two,K13 hx]
        generalize (P++X.take t).map GFound.enc=A at*
        generalize (X.drop (t+1)++Q).map GFound.enc=C at*
        obtain⟨g1,g2,s1,s2,hL,d1,d2⟩:=K7q (A:=A) (B:=[]) (C:=C) (p:=a+t) (q:=a+t+1) hA (by simp)
        have k1:(0:Int)≤((a+t:Nat):Int):=by omega
        have k2:((a+t:Nat):Int)<(N:Int):=by omega
        have k3:(0:Int)≤((a+t+1:Nat):Int):=by omega
        have k4:((a+t+1:Nat):Int)<(N:Int):=by omega
        have k5:((a+t+1:Nat):Int)>((a+u:Nat):Int):=by omega
        have k6:IntKind.i64.wrap (((a+t+1:Nat):Int)-1)=((a+t:Nat):Int):=by
         rw[wI (by omega) (by omega)];omega
        rw[e1,show a+(t+1)=a+t+1 from rfl]
        simp only[go_sem,hL0,g1,g2,s1,s2,k1,k2,k3,k4,k5,k6]
        exact⟨t,⟨rfl,e2.symm⟩,⟨by omega,by omega⟩,by omega⟩
       ·obtain rfl:t=u:=by omega
        simp only[go_sem]
        rw[hres]
   ·obtain⟨M,hM⟩:∃M,M=(X.length+Y.length)/2:=⟨_,rfl⟩
    have hmid:(a+b)/2=a+M:=by omega
    have hxa:∀w,w<X.length→(P++X++Y++Q)[a+w]? =X[w]? :=fun w hw=>by
     rw[List.append_assoc,List.append_assoc,List.getElem?_append_right (by omega),List.getElem?_append_left (by omega)]
     congr 1;omega
    have hya:∀w,w<Y.length→(P++X++Y++Q)[m+w]? =Y[w]? :=fun w hw=>by
     rw[List.append_assoc,List.getElem?_append_right (by omega),List.getElem?_append_left (by omega)]
     congr 1;omega
    simp only[go_sem,shr1,K54 (i:=a) (j:=b) (by omega),hmid,wK (k:=a+M) (by omega),wN (a:=a+M) (b:=m) (by omega)]
    refine⟨fun h3=>?_,fun h3=>?_⟩
    ·have hs:IntKind.i64.wrap (((a+M+m:Nat):Int)-(b:Int))=((a+(M-Y.length):Nat):Int):=by
      rw[wI (by omega) (by omega)];omega
     simp only[go_sem,hs,wS1 (a:=a+M+m) (by omega) (by omega)]
     obtain⟨u0,hu0⟩:∃u,u=M-Y.length:=⟨_,rfl⟩
     obtain⟨v0,hv0⟩:∃v,v=M:=⟨_,rfl⟩
     rw[←hu0]
     have q1:u0≤v0:=by omega
     have q2:v0≤M:=by omega
     have q3:v0≤X.length:=by omega
     have q4:M≤u0+Y.length:=by omega
     have q5:u0=0∨Y.length≤M-u0:=by omega
     have q6:v0=M∨v0=X.length:=by omega
     have q7:a+M=a+v0:=by omega
     refine K10 (ι:=Nat×Nat) (fun s=>[(20,vI ((a+s.1:Nat):Int)),(21,vI ((a+s.2:Nat):Int))]) (fun s=>[]) (fun s=>SymI (ltc c) X Y M u0 v0 s.1 s.2) (fun s=>s.2-s.1) (u0,v0) ?_
     simp only[go_sem]
     refine⟨?_,⟨by omega,q1,by omega,q5.imp_right .inl,q6.imp_right .inl⟩,?_⟩
     ·simp only[go_sem]
      first|exact⟨by omega,by omega⟩|omega
     ·rintro ⟨u,v⟩ hI
      obtain⟨i1,i2,i3,i4,i5⟩:=hI
      simp only at i1 i2 i3 i4 i5
      simp only[go_sem,hN,shr1,K54 (i:=a+u) (j:=a+v) (by omega)]
      refine⟨fun hlt=>?_,fun hge=>?_⟩
      ·have hwx:(a+u+(a+v))/2=a+(u+v)/2:=by omega
       have w1:u≤(u+v)/2:=by omega
       have w2:(u+v)/2<v:=by omega
       rw[hwx]
       generalize (u+v)/2=w at w1 w2
       have hpc:IntKind.i64.wrap (((a+M+m-1:Nat):Int)-((a+w:Nat):Int))=((m+(M-1-w):Nat):Int):=by
        rw[wI (by omega) (by omega)];omega
       obtain⟨x,hx⟩:=Kh (show w<X.length by omega)
       obtain⟨y,hy⟩:=Kh (show M-1-w<Y.length by omega)
       have hxw:=(hxa w (by omega)).trans hx
       have hyw:=(hya (M-1-w) (by omega)).trans hy
       have k1:(0:Int)≤((a+w:Nat):Int):=by omega
       have k2:((a+w:Nat):Int)<(N:Int):=by omega
       have k3:(0:Int)≤((m+(M-1-w):Nat):Int):=by omega
       have k4:((m+(M-1-w):Nat):Int)<(N:Int):=by omega
       simp only[go_sem,wK (k:=a+w) (by omega),hpc,k1,k2,k3,k4,K7 hxw,K7 hyw]
       apply K0 (hc y x)
       simp only[go_sem,wN1 (a:=a+w) (by omega)]
       intro _
       refine⟨fun hn=>⟨(w+1,v),⟨rfl,rfl⟩,⟨by omega,by omega,i3,.inr (.inr ⟨y,x,by rw[show M-(w+1)=M-1-w by omega];exact hy,hx,by simpa[ltc]using hn⟩),i5⟩,by show v-(w+1)<v-u;omega⟩,fun hn=>⟨(u,w),⟨rfl,rfl⟩,⟨i1,w1,by omega,i4,.inr (.inr ⟨y,x,hy,hx,by simpa[ltc]using hn⟩)⟩,by show w-u<v-u;omega⟩⟩
      ·obtain rfl:u=v:=by omega
       obtain⟨A1,A2,B1,B2,rfl,rfl,hA1,hB1,huM,hres,t1,t2,t3,t4⟩:=SymI.fin hw ⟨i1,i2,i3,i4,i5⟩ sX sY q2 q3 q4
       have hend:IntKind.i64.wrap (((a+M+m:Nat):Int)-((a+u:Nat):Int))=((m+(M-u):Nat):Int):=by
        rw[wI (by omega) (by omega)];omega
       have r0:P++(A1++A2)++(B1++B2)++Q=(P++A1)++A2++B1++(B2++Q):=by simp
       have r1:(P++A1)++B1++A2++(B2++Q)=P++A1++B1++(A2++(B2++Q)):=by simp
       have r2:A2.length=0∨B1.length=0→P++(A1++A2)++(B1++B2)++Q=P++A1++B1++(A2++(B2++Q)):=fun h=>by
        rcases h with h|h
        ·rw[List.length_eq_zero_iff.1 h];simp
        ·rw[List.length_eq_zero_iff.1 h];simp
       have r3:A1.length=0∨B1.length=0→P++A1++B1++(A2++(B2++Q))=(P++Srt.mrg (ltc c) A1 B1)++A2++B2++Q:=fun h=>by
        rcases h with h|h
        ·rw[List.length_eq_zero_iff.1 h,Srt.mrg_nil_srt hw t3];simp
        ·rw[List.length_eq_zero_iff.1 h,Srt.mrg_nil];simp
       have r4:P++Srt.mrg (ltc c) A1 B1++(A2++(B2++Q))=(P++Srt.mrg (ltc c) A1 B1)++A2++B2++Q:=by simp
       have r5:A2.length=0∨B2.length=0→(P++Srt.mrg (ltc c) A1 B1)++A2++B2++Q=(P++Srt.mrg (ltc c) A1 B1)++Srt.mrg (ltc c) A2 B2++Q:=fun h=>by
        rcases h with h|h
        ·rw[List.length_eq_zero_iff.1 h,Srt.mrg_nil_srt hw t4];simp
        ·rw[List.length_eq_zero_iff.1 h,Srt.mrg_nil];simp
       have r6:P++Srt.mrg (ltc c) (A1++A2) (B1++B2)++Q=(P++Srt.mrg (ltc c) A1 B1)++Srt.mrg (ltc c) A2 B2++Q:=by rw[hres];simp
       obtain⟨⟨l0,l1,l2,l3,l4,l5⟩,⟨L1,L2,L3,L4,L5,L6,L7⟩,hn1,hn2,⟨eA,eB,eC,eD,eE,eF⟩,h7⟩:=symL (ltc c) ha hA1 hB1 huM hm' hb' hN hM hn h1 h2 hX hY
       clear hxa hya hres i4 i5
       rcases h7 with ⟨z1,z2,z3,z4⟩|⟨z1,z2,z3,z4⟩|⟨z1,z2,z3,z4⟩|⟨z1,z2,z3,z4⟩|⟨z1,z2,z3,z4⟩|⟨z1,z2,z3,z4⟩|⟨z1,z2,z3,z4⟩
       ·have fA:=Ka A2.length eA z2
        have fB:=Ka B1.length eB z3
        have fC:=Ka A1.length eC z1
        have fD:=Ka B1.length eD z3
        have fE:=Ka A2.length eE z2
        have fF:=Ka B2.length eF z4
        simp only[go_sem,hend,fA,fB,fC,fD,fE,fF]
        rw[r0]
        apply K8 (C1 (P++A1) A2 B1 (B2++Q) f L1 L2 L3 z2 z3)
        simp only[go_sem,fC,fD,l0]
        rw[r1]
        apply K8 (ih P A1 B1 (A2++(B2++Q)) hn1 ha L1 L4 z1 z3 t1 t3)
        simp only[go_sem,fE,fF,l4]
        rw[r4]
        apply K8 (ih (P++Srt.mrg (ltc c) A1 B1) A2 B2 Q hn2 L5 L6 L7 z2 z4 t2 t4)
        simp only[go_sem]
        rw[r6]
       ·have fA:=Ka A2.length eA z2
        have fB:=Ka B1.length eB z3
        have fC:=K16 A1.length eC z1
        have fD:=Ka B1.length eD z3
        have fE:=Ka A2.length eE z2
        have fF:=Ka B2.length eF z4
        simp only[go_sem,hend,fA,fB,fC,fD,fE,fF]
        rw[r0]
        apply K8 (C1 (P++A1) A2 B1 (B2++Q) f L1 L2 L3 z2 z3)
        simp only[go_sem,fC,fE,fF,l0]
        rw[r1]
        rw[r3 (.inl z1)]
        apply K8 (ih (P++Srt.mrg (ltc c) A1 B1) A2 B2 Q hn2 L5 L6 L7 z2 z4 t2 t4)
        simp only[go_sem]
        rw[r6]
       ·have fA:=K16 A2.length eA z2
        have fB:=Ka B1.length eB z3
        have fC:=Ka A1.length eC z1
        have fD:=Ka B1.length eD z3
        have fE:=K16 A2.length eE z2
        have fF:=Ka B2.length eF z4
        simp only[go_sem,hend,fA,fB,fC,fD,fE,fF]
        rw[r2 (.inl z2)]
        apply K8 (ih P A1 B1 (A2++(B2++Q)) hn1 ha L1 L4 z1 z3 t1 t3)
        simp only[go_sem,fE]
        rw[r4]
        rw[r5 (.inl z2)]
        rw[r6]
       ·have fA:=Ka A2.length eA z2
        have fB:=K16 B1.length eB z3
        have fC:=Ka A1.length eC z1
        have fD:=K16 B1.length eD z3
        have fE:=Ka A2.length eE z2
        have fF:=Ka B2.length eF z4
        simp only[go_sem,hend,fA,fB,fC,fD,fE,fF]
        rw[r2 (.inr z3)]
        rw[r3 (.inr z3)]
        apply K8 (ih (P++Srt.mrg (ltc c) A1 B1) A2 B2 Q hn2 L5 L6 L7 z2 z4 t2 t4)
        simp only[go_sem]
        rw[r6]
       ·have fA:=Ka A2.length eA z2
        have fB:=Ka B1.length eB z3
        have fC:=Ka A1.length eC z1
        have fD:=Ka B1.length eD z3
        have fE:=Ka A2.length eE z2
        have fF:=K16 B2.length eF z4
        simp only[go_sem,hend,fA,fB,fC,fD,fE,fF]
        rw[r0]
        apply K8 (C1 (P++A1) A2 B1 (B2++Q) f L1 L2 L3 z2 z3)
        simp only[go_sem,fC,fD,l0]
        rw[r1]
        apply K8 (ih P A1 B1 (A2++(B2++Q)) hn1 ha L1 L4 z1 z3 t1 t3)
        simp only[go_sem,fE,fF]
        rw[r4]
        rw[r5 (.inr z4)]
        rw[r6]
       ·have fA:=Ka A2.length eA z2
        have fB:=Ka B1.length eB z3
        have fC:=K16 A1.length eC z1
        have fD:=Ka B1.length eD z3
        have fE:=Ka A2.length eE z2
        have fF:=K16 B2.length eF z4
        simp only[go_sem,hend,fA,fB,fC,fD,fE,fF]
        rw[r0]
        apply K8 (C1 (P++A1) A2 B1 (B2++Q) f L1 L2 L3 z2 z3)
        simp only[go_sem,fC,fE,fF]
        rw[r1]
        rw[r3 (.inl z1)]
        rw[r5 (.inr z4)]
        rw[r6]
       ·have fA:=K16 A2.length eA z2
        have fB:=K16 B1.length eB z3
        have fC:=Ka A1.length eC z1
        have fD:=K16 B1.length eD z3
        have fE:=K16 A2.length eE z2
        have fF:=Ka B2.length eF z4
        simp only[go_sem,hend,fA,fB,fC,fD,fE,fF]
        rw[r2 (.inl z2)]
        rw[r3 (.inr z3)]
        rw[r5 (.inl z2)]
        rw[r6]
    ·simp only[go_sem,wS1 (a:=a+M+m) (by omega) (by omega)]
     obtain⟨u0,hu0⟩:∃u,u=0:=⟨_,rfl⟩
     obtain⟨v0,hv0⟩:∃v,v=X.length:=⟨_,rfl⟩
     have q1:u0≤v0:=by omega
     have q2:v0≤M:=by omega
     have q3:v0≤X.length:=by omega
     have q4:M≤u0+Y.length:=by omega
     have q5:u0=0∨Y.length≤M-u0:=by omega
     have q6:v0=M∨v0=X.length:=by omega
     refine K10 (ι:=Nat×Nat) (fun s=>[(20,vI ((a+s.1:Nat):Int)),(21,vI ((a+s.2:Nat):Int))]) (fun s=>[]) (fun s=>SymI (ltc c) X Y M u0 v0 s.1 s.2) (fun s=>s.2-s.1) (u0,v0) ?_
     simp only[go_sem]
     refine⟨?_,⟨by omega,q1,by omega,q5.imp_right .inl,q6.imp_right .inl⟩,?_⟩
     ·simp only[go_sem]
      first|exact⟨by omega,by omega⟩|omega
     ·rintro ⟨u,v⟩ hI
      obtain⟨i1,i2,i3,i4,i5⟩:=hI
      simp only at i1 i2 i3 i4 i5
      simp only[go_sem,hN,shr1,K54 (i:=a+u) (j:=a+v) (by omega)]
      refine⟨fun hlt=>?_,fun hge=>?_⟩
      ·have hwx:(a+u+(a+v))/2=a+(u+v)/2:=by omega
       have w1:u≤(u+v)/2:=by omega
       have w2:(u+v)/2<v:=by omega
       rw[hwx]
       generalize (u+v)/2=w at w1 w2
       have hpc:IntKind.i64.wrap (((a+M+m-1:Nat):Int)-((a+w:Nat):Int))=((m+(M-1-w):Nat):Int):=by
        rw[wI (by omega) (by omega)];omega
       obtain⟨x,hx⟩:=Kh (show w<X.length by omega)
       obtain⟨y,hy⟩:=Kh (show M-1-w<Y.length by omega)
       have hxw:=(hxa w (by omega)).trans hx
       have hyw:=(hya (M-1-w) (by omega)).trans hy
       have k1:(0:Int)≤((a+w:Nat):Int):=by omega
       have k2:((a+w:Nat):Int)<(N:Int):=by omega
       have k3:(0:Int)≤((m+(M-1-w):Nat):Int):=by omega
       have k4:((m+(M-1-w):Nat):Int)<(N:Int):=by omega
       simp only[go_sem,wK (k:=a+w) (by omega),hpc,k1,k2,k3,k4,K7 hxw,K7 hyw]
       apply K0 (hc y x)
       simp only[go_sem,wN1 (a:=a+w) (by omega)]
       intro _
       refine⟨fun hn=>⟨(w+1,v),⟨rfl,rfl⟩,⟨by omega,by omega,i3,.inr (.inr ⟨y,x,by rw[show M-(w+1)=M-1-w by omega];exact hy,hx,by simpa[ltc]using hn⟩),i5⟩,by show v-(w+1)<v-u;omega⟩,fun hn=>⟨(u,w),⟨rfl,rfl⟩,⟨i1,w1,by omega,i4,.inr (.inr ⟨y,x,hy,hx,by simpa[ltc]using hn⟩)⟩,by show w-u<v-u;omega⟩⟩
      ·obtain rfl:u=v:=by omega
       obtain⟨A1,A2,B1,B2,rfl,rfl,hA1,hB1,huM,hres,t1,t2,t3,t4⟩:=SymI.fin hw ⟨i1,i2,i3,i4,i5⟩ sX sY q2 q3 q4
       have hend:IntKind.i64.wrap (((a+M+m:Nat):Int)-((a+u:Nat):Int))=((m+(M-u):Nat):Int):=by
        rw[wI (by omega) (by omega)];omega
       have r0:P++(A1++A2)++(B1++B2)++Q=(P++A1)++A2++B1++(B2++Q):=by simp
       have r1:(P++A1)++B1++A2++(B2++Q)=P++A1++B1++(A2++(B2++Q)):=by simp
       have r2:A2.length=0∨B1.length=0→P++(A1++A2)++(B1++B2)++Q=P++A1++B1++(A2++(B2++Q)):=fun h=>by
        rcases h with h|h
        ·rw[List.length_eq_zero_iff.1 h];simp
        ·rw[List.length_eq_zero_iff.1 h];simp
       have r3:A1.length=0∨B1.length=0→P++A1++B1++(A2++(B2++Q))=(P++Srt.mrg (ltc c) A1 B1)++A2++B2++Q:=fun h=>by
        rcases h with h|h
        ·rw[List.length_eq_zero_iff.1 h,Srt.mrg_nil_srt hw t3];simp
        ·rw[List.length_eq_zero_iff.1 h,Srt.mrg_nil];simp
       have r4:P++Srt.mrg (ltc c) A1 B1++(A2++(B2++Q))=(P++Srt.mrg (ltc c) A1 B1)++A2++B2++Q:=by simp
       have r5:A2.length=0∨B2.length=0→(P++Srt.mrg (ltc c) A1 B1)++A2++B2++Q=(P++Srt.mrg (ltc c) A1 B1)++Srt.mrg (ltc c) A2 B2++Q:=fun h=>by
        rcases h with h|h
        ·rw[List.length_eq_zero_iff.1 h,Srt.mrg_nil_srt hw t4];simp
        ·rw[List.length_eq_zero_iff.1 h,Srt.mrg_nil];simp
       have r6:P++Srt.mrg (ltc c) (A1++A2) (B1++B2)++Q=(P++Srt.mrg (ltc c) A1 B1)++Srt.mrg (ltc c) A2 B2++Q:=by rw[hres];simp
       obtain⟨⟨l0,l1,l2,l3,l4,l5⟩,⟨L1,L2,L3,L4,L5,L6,L7⟩,hn1,hn2,⟨eA,eB,eC,eD,eE,eF⟩,h7⟩:=symL (ltc c) ha hA1 hB1 huM hm' hb' hN hM hn h1 h2 hX hY
       clear hxa hya hres i4 i5
       rcases h7 with ⟨z1,z2,z3,z4⟩|⟨z1,z2,z3,z4⟩|⟨z1,z2,z3,z4⟩|⟨z1,z2,z3,z4⟩|⟨z1,z2,z3,z4⟩|⟨z1,z2,z3,z4⟩|⟨z1,z2,z3,z4⟩
       ·have fA:=Ka A2.length eA z2
        have fB:=Ka B1.length eB z3
        have fC:=Ka A1.length eC z1
        have fD:=Ka B1.length eD z3
        have fE:=Ka A2.length eE z2
        have fF:=Ka B2.length eF z4
        simp only[go_sem,hend,fA,fB,fC,fD,fE,fF]
        rw[r0]
        apply K8 (C1 (P++A1) A2 B1 (B2++Q) f L1 L2 L3 z2 z3)
        simp only[go_sem,fC,fD,l0]
        rw[r1]
        apply K8 (ih P A1 B1 (A2++(B2++Q)) hn1 ha L1 L4 z1 z3 t1 t3)
        simp only[go_sem,fE,fF,l4]
        rw[r4]
        apply K8 (ih (P++Srt.mrg (ltc c) A1 B1) A2 B2 Q hn2 L5 L6 L7 z2 z4 t2 t4)
        simp only[go_sem]
        rw[r6]
       ·have fA:=Ka A2.length eA z2
        have fB:=Ka B1.length eB z3
        have fC:=K16 A1.length eC z1
        have fD:=Ka B1.length eD z3
        have fE:=Ka A2.length eE z2
        have fF:=Ka B2.length eF z4
        simp only[go_sem,hend,fA,fB,fC,fD,fE,fF]
        rw[r0]
        apply K8 (C1 (P++A1) A2 B1 (B2++Q) f L1 L2 L3 z2 z3)
        simp only[go_sem,fC,fE,fF,l0]
        rw[r1]
        rw[r3 (.inl z1)]
        apply K8 (ih (P++Srt.mrg (ltc c) A1 B1) A2 B2 Q hn2 L5 L6 L7 z2 z4 t2 t4)
        simp only[go_sem]
        rw[r6]
       ·have fA:=K16 A2.length eA z2
        have fB:=Ka B1.length eB z3
        have fC:=Ka A1.length eC z1
        have fD:=Ka B1.length eD z3
        have fE:=K16 A2.length eE z2
        have fF:=Ka B2.length eF z4
        simp only[go_sem,hend,fA,fB,fC,fD,fE,fF]
        rw[r2 (.inl z2)]
        apply K8 (ih P A1 B1 (A2++(B2++Q)) hn1 ha L1 L4 z1 z3 t1 t3)
        simp only[go_sem,fE]
        rw[r4]
        rw[r5 (.inl z2)]
        rw[r6]
       ·have fA:=Ka A2.length eA z2
        have fB:=K16 B1.length eB z3
        have fC:=Ka A1.length eC z1
        have fD:=K16 B1.length eD z3
        have fE:=Ka A2.length eE z2
        have fF:=Ka B2.length eF z4
        simp only[go_sem,hend,fA,fB,fC,fD,fE,fF]
        rw[r2 (.inr z3)]
        rw[r3 (.inr z3)]
        apply K8 (ih (P++Srt.mrg (ltc c) A1 B1) A2 B2 Q hn2 L5 L6 L7 z2 z4 t2 t4)
        simp only[go_sem]
        rw[r6]
       ·have fA:=Ka A2.length eA z2
        have fB:=Ka B1.length eB z3
        have fC:=Ka A1.length eC z1
        have fD:=Ka B1.length eD z3
        have fE:=Ka A2.length eE z2
        have fF:=K16 B2.length eF z4
        simp only[go_sem,hend,fA,fB,fC,fD,fE,fF]
        rw[r0]
        apply K8 (C1 (P++A1) A2 B1 (B2++Q) f L1 L2 L3 z2 z3)
        simp only[go_sem,fC,fD,l0]
        rw[r1]
        apply K8 (ih P A1 B1 (A2++(B2++Q)) hn1 ha L1 L4 z1 z3 t1 t3)
        simp only[go_sem,fE,fF]
        rw[r4]
        rw[r5 (.inr z4)]
        rw[r6]
       ·have fA:=Ka A2.length eA z2
        have fB:=Ka B1.length eB z3
        have fC:=K16 A1.length eC z1
        have fD:=Ka B1.length eD z3
        have fE:=Ka A2.length eE z2
        have fF:=K16 B2.length eF z4
        simp only[go_sem,hend,fA,fB,fC,fD,fE,fF]
        rw[r0]
        apply K8 (C1 (P++A1) A2 B1 (B2++Q) f L1 L2 L3 z2 z3)
        simp only[go_sem,fC,fE,fF]
        rw[r1]
        rw[r3 (.inl z1)]
        rw[r5 (.inr z4)]
        rw[r6]
       ·have fA:=K16 A2.length eA z2
        have fB:=K16 B1.length eB z3
        have fC:=Ka A1.length eC z1
        have fD:=K16 B1.length eD z3
        have fE:=K16 A2.length eE z2
        have fF:=Ka B2.length eF z4
        simp only[go_sem,hend,fA,fB,fC,fD,fE,fF]
        rw[r2 (.inl z2)]
        rw[r3 (.inr z3)]
        rw[r5 (.inl z2)]
        rw[r6]
end Go.Proofs.YtflhjihoifbmfaaGreatR
namespace Go.Proofs.YtflhjihoifbmfaaGreatR
open Go Go.RowKit Go.Proofs
open Nat (reduceEqDiff reduceLT reduceLeDiff reduceAdd reduceMul)
open List (reduceReplicate)
namespace Srt
variable {α:Type} {lt:α→α→Bool}
def blks(lt:α→α→Bool)(s:Nat):Nat→List α→List α
 |0,l=>l
 |k+1,l=>isort lt (l.take s)++blks lt s k (l.drop s)
theorem len_blks{s:Nat}:∀ {k:Nat} {l:List α},(blks lt s k l).length=l.length
 |0,l=>rfl
 |k+1,l=>by
  simp only[blks,List.length_append,len_isort,len_blks,List.length_take,List.length_drop];omega
theorem blks_snoc{s:Nat}:∀ {k:Nat} {l:List α},(k+1)*s≤l.length→∃A,A.length=k*s∧blks lt s k l=A++((l.drop (k*s)).take s++l.drop ((k+1)*s))∧blks lt s (k+1) l=A++(isort lt ((l.drop (k*s)).take s)++l.drop ((k+1)*s))
 |0,l,h=>⟨[],by simp,by simp[blks],by simp[blks]⟩
 |k+1,l,h=>by
  have h':(k+1)*s≤(l.drop s).length:=by
   rw[Nat.succ_mul]at h
   simp only[List.length_drop];omega
  obtain⟨A,hA,e1,e2⟩:=blks_snoc (k:=k) (l:=l.drop s) h'
  have d1:s+k*s=(k+1)*s:=by rw[Nat.succ_mul];omega
  have d2:s+(k+1)*s=(k+1+1)*s:=by rw[Nat.succ_mul (k+1)];omega
  have hs:s≤l.length:=by rw[Nat.succ_mul]at h;omega
  refine⟨isort lt (l.take s)++A,?_,?_,?_⟩
  ·rw[List.length_append,len_isort,List.length_take,Nat.min_eq_left hs,hA,d1]
  ·rw[blks,e1,List.drop_drop,List.drop_drop,d1,d2,List.append_assoc]
  ·rw[blks,e2,List.drop_drop,List.drop_drop,d1,d2,List.append_assoc]
theorem blks_last{s:Nat}:∀ {k:Nat} {l:List α},k*s≤l.length→l.length<(k+1)*s→∃A,A.length=k*s∧blks lt s k l=A++l.drop (k*s)∧blks lt s (k+1) l=A++isort lt (l.drop (k*s))
 |0,l,_,h=>by
  have h':l.length≤s:=by omega
  exact⟨[],by simp,by simp[blks],by simp[blks,List.take_of_length_le h',List.drop_of_length_le h']⟩
 |k+1,l,h0,h=>by
  have d1:s+k*s=(k+1)*s:=by rw[Nat.succ_mul];omega
  have d2:s+(k+1)*s=(k+1+1)*s:=by rw[Nat.succ_mul (k+1)];omega
  have h1:k*s+s≤l.length:=by rw[←Nat.succ_mul];exact h0
  have h2:l.length<k*s+s+s:=by rw[←Nat.succ_mul,←Nat.succ_mul];exact h
  obtain⟨A,hA,e1,e2⟩:=blks_last (k:=k) (l:=l.drop s) (Nat.le_trans (Nat.le_sub_of_add_le h1) (by rw[List.length_drop];exact Nat.le_refl _)) (by rw[List.length_drop,Nat.succ_mul];exact Nat.sub_lt_right_of_lt_add (Nat.le_trans (Nat.le_add_left _ _) h1) h2)
  have hs:s≤l.length:=Nat.le_trans (Nat.le_add_left _ _) h1
  refine⟨isort lt (l.take s)++A,?_,?_,?_⟩
  ·rw[List.length_append,len_isort,List.length_take,Nat.min_eq_left hs,hA,d1]
  ·rw[blks,e1,List.drop_drop,d1,List.append_assoc]
  ·rw[blks,e2,List.drop_drop,d1,List.append_assoc]
theorem blk_le{s:Nat}{l:List α}(h:l.length≤s):blk lt s l=isort lt l:=by
 rw[blk,dif_pos (.inr h)]
theorem K49{s:Nat}{l:List α}:blk lt s l=isort lt (l.take s)++blk lt s (l.drop s):=by
 by_cases h:s=0∨l.length≤s
 ·rcases h with rfl|h
  ·simp[isort,mrg]
  ·rw[blk_le h,List.take_of_length_le h,List.drop_of_length_le h,blk_le (by simp)]
   simp[isort,mrg]
 ·rw[blk,dif_neg h]
theorem len_blk{s:Nat}:∀ {n:Nat} {l:List α},l.length≤n→(blk lt s l).length=l.length
 |0,l,h=>by rw[blk_le (by omega),len_isort]
 |n+1,l,h=>by
  by_cases h2:s=0∨l.length≤s
  ·rw[blk,dif_pos h2,len_isort]
  ·rw[K49,List.length_append,len_isort,len_blk (n:=n) (by simp only[List.length_drop];omega),List.length_take,List.length_drop]
   omega
theorem blks_blk{s:Nat}:∀ {k:Nat} {l:List α},k*s≤l.length→l.length<(k+1)*s→blks lt s (k+1) l=blk lt s l
 |0,l,_,h=>by
  have h':l.length≤s:=by omega
  rw[blk_le h']
  simp[blks,List.take_of_length_le h',List.drop_of_length_le h']
 |k+1,l,h0,h=>by
  rw[Nat.succ_mul]at h0 h
  rw[blks,K49,blks_blk (k:=k) (l:=l.drop s) (by rw[List.length_drop];omega) (by rw[List.length_drop];omega)]
def mix(lt:α→α→Bool)(s:Nat):Nat→List α→List α
 |0,l=>blk lt s l
 |k+1,l=>isort lt (l.take (2*s))++mix lt s k (l.drop (2*s))
theorem len_mix{s:Nat}:∀ {k:Nat} {l:List α},(mix lt s k l).length=l.length
 |0,l=>len_blk (Nat.le_refl _)
 |k+1,l=>by
  rw[mix,List.length_append,len_isort,len_mix,List.length_take,List.length_drop];omega
theorem mix_step(hw:Swo lt){s:Nat}:∀ {k:Nat} {l:List α},k*(2*s)+2*s≤l.length→∃P X Y Q,P.length=k*(2*s)∧X.length=s∧Y.length=s∧srt lt X∧srt lt Y∧mix lt s k l=P++X++Y++Q∧mix lt s (k+1) l=P++mrg lt X Y++Q
 |0,l,h=>by
  refine⟨[],isort lt (l.take s),isort lt ((l.drop s).take s),blk lt s (l.drop (2*s)),by simp,?_,?_,srt_isort hw _,srt_isort hw _,?_,?_⟩
  ·rw[len_isort,List.length_take];omega
  ·rw[len_isort,List.length_take,List.length_drop];omega
  ·rw[mix,K49,K49 (l:=l.drop s),List.drop_drop,show s+s=2*s by omega]
   simp
  ·rw[←K60 hw,mix,mix,List.nil_append,←List.take_add,show s+s=2*s by omega]
 |k+1,l,h=>by
  have e:(k+1)*(2*s)=k*(2*s)+2*s:=Nat.succ_mul ..
  rw[e]at h
  obtain⟨P,X,Y,Q,h1,h2,h3,h4,h5,h6,h7⟩:=mix_step hw (s:=s) (k:=k) (l:=l.drop (2*s)) (by rw[List.length_drop];omega)
  refine⟨isort lt (l.take (2*s))++P,X,Y,Q,?_,h2,h3,h4,h5,?_,?_⟩
  ·rw[List.length_append,len_isort,h1,List.length_take,e];omega
  ·rw[mix,h6];simp
  ·rw[mix,h7];simp
theorem mix_end(hw:Swo lt){s:Nat}:∀ {k:Nat} {l:List α},k*(2*s)≤l.length→l.length<k*(2*s)+2*s→
  (k*(2*s)+s<l.length→∃P X Y,P.length=k*(2*s)∧X.length=s∧k*(2*s)+s+Y.length=l.length∧srt lt X∧srt lt Y∧mix lt s k l=P++X++Y∧blk lt (2*s) l=P++mrg lt X Y)∧
  (l.length≤k*(2*s)+s→mix lt s k l=blk lt (2*s) l)
 |0,l,h0,h=>by
  refine⟨fun h1=>⟨[],isort lt (l.take s),isort lt (l.drop s),by simp,?_,?_,srt_isort hw _,srt_isort hw _,?_,?_⟩,fun h1=>?_⟩
  ·rw[len_isort,List.length_take];omega
  ·rw[len_isort,List.length_drop];omega
  ·rw[mix,K49,blk_le (l:=l.drop s) (by rw[List.length_drop];omega),List.nil_append]
  ·rw[←K60 hw,List.take_append_drop,blk_le (by omega),List.nil_append]
  ·rw[mix,blk_le (by omega),blk_le (by omega)]
 |k+1,l,h0,h=>by
  have e:(k+1)*(2*s)=k*(2*s)+2*s:=Nat.succ_mul ..
  rw[e]at h h0
  obtain⟨i1,i2⟩:=mix_end hw (s:=s) (k:=k) (l:=l.drop (2*s)) (by rw[List.length_drop];omega) (by rw[List.length_drop];omega)
  rw[List.length_drop]at i1 i2
  rw[e]
  refine⟨fun h1=>?_,fun h1=>?_⟩
  ·obtain⟨P,X,Y,h1,h2,h3,h4,h5,h6,h7⟩:=i1 (by omega)
   refine⟨isort lt (l.take (2*s))++P,X,Y,?_,h2,by omega,h4,h5,?_,?_⟩
   ·rw[List.length_append,len_isort,h1,List.length_take];omega
   ·rw[mix,h6];simp
   ·rw[K49,h7];simp
  ·rw[mix,i2 (by omega),←K49]
end Srt
def Mj:MC:=
(Zs [.mv 6 (ci 20)] [0,1,2,6] (Zs [mS 10 6,.mv 7 (ci 0),mS 8 10] [0,1,2,6,7,8] (.seq (.block 0 (.loop ([0,1,2,6,7,8],[]) (.seq (Zs [mS 11 8,mS 12 1,bS 13 .leq 11 12] [0,1,2,6,7,8,13] (cX 13 0))
(.block 1 (Zs [mS 14 0,mS 15 7,mS 16 8,mS 17 2,.callI 18 [] (.f N3) [.s 14,.s 15,.s 16,.s 17] [0] []] [0,1,2,6,8] (Zs [mS 19 8,mS 7 19] [0,1,2,6,7,8] (pr [mS 20 8,mS 21 6,bS 22 .add 20 21,mS 8 22] [0,1,2,6,7,8])))))))
(Zs [mS 23 0,mS 24 7,mS 25 1,mS 26 2,.callI 27 [] (.f N3) [.s 23,.s 24,.s 25,.s 26] [0] []] [0,1,2,6] (.block 2 (.loop ([0,1,2,6],[]) (.seq (Zs [mS 28 6,mS 29 1,bS 30 .lss 28 29] [0,1,2,6,30] (cX 30 2))
(.block 3 (Zs [mS 31 6,.bin 32 false .mul (ci 2) (.s 31),.mv 7 (ci 0),mS 8 32] [0,1,2,6,7,8] (.seq (.block 4 (.loop ([0,1,2,6,7,8],[]) (.seq (Zs [mS 33 8,mS 34 1,bS 35 .leq 33 34] [0,1,2,6,7,8,35] (cX 35 4))
(.block 5 (Zs [mS 36 0,mS 37 7,mS 38 7,mS 39 6,bS 40 .add 38 39,mS 41 8,mS 42 2,.callI 43 [] (.f N0) [.s 36,.s 37,.s 40,.s 41,.s 42] [0] []] [0,1,2,6,8] (Zs [mS 44 8,mS 7 44] [0,1,2,6,7,8] (pr [mS 45 8,mS 46 6,.bin 47 false .mul (ci 2) (.s 46),bS 48 .add 45 47,mS 8 48] [0,1,2,6,7,8])))))))
(.seq (Zs [mS 49 7,mS 50 6,bS 51 .add 49 50,mS 9 51] [0,1,2,6,7,9] (Zs [mS 52 9,mS 53 1,bS 54 .lss 52 53] [0,1,2,6,7,9,54] (.cond (.s 54) (pr [mS 55 0,mS 56 7,mS 57 9,mS 58 1,mS 59 2,.callI 60 [] (.f N0) [.s 55,.s 56,.s 57,.s 58,.s 59] [0] []] [0,1,2,6]) .skip)))
(pr [mS 61 6,bC 62 .mul 61 2,mS 6 62] [0,1,2,6]))))))))))))
set_option maxHeartbeats 4000000 in
theorem C6s(X:List GFound)(f:FuncId)(c:GFound→GFound→Int)(hc:∀x y,Ctr Tryz.prog f [aS x.enc,aS y.enc] [rI (c x y)])(hw:Srt.Swo (ltc c)):CtrI Tryz.prog Nl [oL 6 (X.map GFound.enc),iI X.length,fI f] [some (6,(Srt.isort (ltc c) X).map GFound.enc)] []:=by
 refine Kw (M:=Mj) (m:=0) (n:=63) (res:=[]) hmix Tryz.func227 rfl (by kernel_rfl) rfl (by kernel_rfl) (by kernel_rfl) (Nat.le_of_ble_eq_true rfl) rfl rfl ?_;unfold Mj
 intro hbd
 have hl:=Ku hbd
 clear hbd
 simp only[roomB]at hl
 simp only[go_sem]
 refine K10 (fun k:Nat=>[(7,vI ((k*20:Nat):Int)),(8,vI (((k+1)*20:Nat):Int))]) (fun k=>[(0,⟨1,.row true 6 ((Srt.blks (ltc c) 20 k X).map GFound.enc)⟩)]) (fun k=>k*20≤X.length) (fun k=>X.length-k*20) 0 ?_
 simp only[go_sem]
 refine⟨?_,by omega,?_⟩
 ·simp only[go_sem]
  exact⟨rfl,rfl⟩
 ·intro k hk
  simp only[go_sem,Srt.len_blks]
  refine⟨fun hlt=>?_,fun hge=>?_⟩
  ·obtain⟨A,hA,e1,e2⟩:=Srt.blks_snoc (lt:=ltc c) (s:=20) (k:=k) (l:=X) (by omega)
   have g1:=congrArg List.length e1
   have g2:=congrArg List.length e2
   rw[Srt.len_blks]at g1 g2
   rw[←List.append_assoc]at e1 e2 g1 g2
   rw[e1]
   apply K8 (Cy A _ _ f c hc hw hA (by simp[hA];omega))
   have w1:IntKind.i64.wrap ((((k+1)*20:Nat):Int)+20)=(((k+1+1)*20:Nat):Int):=by
    rw[wI (by omega) (by omega)];omega
   simp only[go_sem,w1]
   exact⟨k+1,⟨⟨rfl,rfl⟩,by rw[e2]⟩,by omega,by omega⟩
  ·obtain⟨A,hA,e1,e2⟩:=Srt.blks_last (lt:=ltc c) (s:=20) (k:=k) (l:=X) (by omega) (by omega)
   have g1:=congrArg List.length e1
   have g2:=congrArg List.length e2
   rw[Srt.len_blks]at g1 g2
   have e1':A++X.drop (k*20)=A++X.drop (k*20)++[]:=by simp
   rw[e1,e1']
   apply K8 (Cy A _ [] f c hc hw hA (by simp[hA];omega))
   rw[List.append_nil,←e2]
   rw[Srt.blks_blk (by omega) (by omega)]
   simp only[go_sem]
   refine K10 (fun s:Nat=>[(6,vI (s:Int))]) (fun s=>[(0,⟨1,.row true 6 ((Srt.blk (ltc c) s X).map GFound.enc)⟩)]) (fun s=>0<s∧s≤2*X.length+20) (fun s=>X.length-s) 20 ?_
   simp only[go_sem]
   refine⟨?_,⟨by omega,by omega⟩,?_⟩
   ·simp only[go_sem]
    first|rfl|exact⟨rfl,rfl⟩
   ·rintro s ⟨hs0,hs1⟩
    clear e1' e1 e2 g1 g2 hA A hge hk
    have w2:IntKind.i64.wrap (2*(s:Int))=((2*s:Nat):Int):=by rw[wI (by omega) (by omega)];omega
    have w3:IntKind.i64.wrap ((s:Int)*2)=((2*s:Nat):Int):=by rw[wI (by omega) (by omega)];omega
    simp only[go_sem,w2]
    refine⟨fun hlt=>?_,fun hge=>?_⟩
    ·refine K10 (fun k:Nat=>[(7,vI ((k*(2*s):Nat):Int)),(8,vI ((k*(2*s)+2*s:Nat):Int))]) (fun k=>[(0,⟨1,.row true 6 ((Srt.mix (ltc c) s k X).map GFound.enc)⟩)]) (fun k=>k*(2*s)≤X.length) (fun k=>X.length-k*(2*s)) 0 ?_
     simp only[go_sem]
     refine⟨?_,by omega,?_⟩
     ·simp only[go_sem]
      refine⟨⟨?_,?_⟩,rfl⟩
      ·rw[Nat.zero_mul];rfl
      ·rw[Nat.zero_mul,Nat.zero_add]
     ·intro k hk
      simp only[go_sem,Srt.len_mix,w3]
      refine⟨fun hle=>?_,fun hgt=>?_⟩
      ·obtain⟨P,A,B,Q,m1,m2,m3,m4,m5,m6,m7⟩:=Srt.mix_step hw (s:=s) (k:=k) (l:=X) (by omega)
       have g1:(P++A++B++Q).length=X.length:=by rw[←m6,Srt.len_mix]
       have g2:(P++Srt.mrg (ltc c) A B++Q).length=X.length:=by rw[←m7,Srt.len_mix]
       have wa:IntKind.i64.wrap (((k*(2*s):Nat):Int)+(s:Int))=((k*(2*s)+s:Nat):Int):=wN (by omega)
       have wb:IntKind.i64.wrap (((k*(2*s)+2*s:Nat):Int)+((2*s:Nat):Int))=(((k+1)*(2*s)+2*s:Nat):Int):=by
        rw[wN (by omega),Nat.succ_mul k (2*s)]
       rw[m6]
       simp only[go_sem,wa]
       apply K8 (C19 f c hc hw _ P A B Q (Nat.le_refl _) m1 (m:=k*(2*s)+s) (b:=k*(2*s)+2*s) (by rw[List.length_append];omega) (by rw[List.length_append,List.length_append];omega) (by omega) (by omega) m4 m5)
       simp only[go_sem]
       have hj:(k+1)*(2*s)=k*(2*s)+2*s:=Nat.succ_mul k (2*s)
       exact⟨k+1,⟨⟨by rw[hj],by rw[w2,wb]⟩,by rw[m7]⟩,by omega,by omega⟩
      ·obtain⟨i1,i2⟩:=Srt.mix_end hw (s:=s) (k:=k) (l:=X) hk (by omega)
       have wa:IntKind.i64.wrap (((k*(2*s):Nat):Int)+(s:Int))=((k*(2*s)+s:Nat):Int):=wN (by omega)
       simp only[go_sem,wa]
       refine⟨fun hlt2=>?_,fun hge2=>?_⟩
       ·obtain⟨P,A,B,m1,m2,m3,m4,m5,m6,m7⟩:=i1 (by omega)
        have g1:(P++A++B++[]).length=X.length:=by rw[List.append_nil,←m6,Srt.len_mix]
        have g2:(P++Srt.mrg (ltc c) A B++[]).length=X.length:=by rw[List.append_nil,←m7,Srt.len_blk (Nat.le_refl _)]
        rw[m6,←List.append_nil (P++A++B)]
        apply K8 (C19 f c hc hw _ P A B [] (Nat.le_refl _) m1 (m:=k*(2*s)+s) (b:=X.length) (by rw[List.length_append];omega) (by rw[List.length_append,List.length_append];omega) (by omega) (by omega) m4 m5)
        simp only[go_sem,w3]
        exact⟨2*s,⟨rfl,by rw[m7]⟩,⟨by omega,by omega⟩,by omega⟩
       ·exact⟨2*s,⟨rfl,by rw[i2 (by omega)]⟩,⟨by omega,by omega⟩,by omega⟩
    ·rw[Srt.blk_le (by omega)]
end Go.Proofs.YtflhjihoifbmfaaGreatR
namespace Go.Proofs.YtflhjihoifbmfaaGreatR
open Go Go.RowKit Go.Proofs
open Nat (reduceEqDiff reduceLT reduceLeDiff reduceAdd reduceMul)
open List (reduceReplicate)
def M5:MC:=
(pr [mS 4 0,mS 5 0,nS 6 5,mS 7 1,.callI 8 [] (.f Nl) [.s 4,.s 6,.s 7] [0] []] [])
theorem C62(X:List GFound)(f:FuncId)(c:GFound→GFound→Int)(hc:∀x y,Ctr Tryz.prog f [aS x.enc,aS y.enc] [rI (c x y)])(hw:Srt.Swo (ltc c)):CtrI Tryz.prog N6 [oL 6 (X.map GFound.enc),fI f] [some (6,(Srt.isort (ltc c) X).map GFound.enc)] []:=by
 refine Kw (M:=M5) (m:=0) (n:=9) (res:=[]) hmix Tryz.func202 rfl (by kernel_rfl) rfl (by kernel_rfl) (by kernel_rfl) (Nat.le_of_ble_eq_true rfl) rfl rfl ?_;unfold M5
 intro hbd
 have hl:=Ku hbd
 clear hbd
 simp only[roomB]at hl
 simp only[go_sem]
 apply K8 (C6s X f c hc hw)
 simp only[go_sem]
 try intros
 try trivial
end Go.Proofs.YtflhjihoifbmfaaGreatR
namespace Go.Proofs.YtflhjihoifbmfaaGreatR
open Go Go.RowKit Go.Proofs
open Nat (reduceEqDiff reduceLT reduceLeDiff reduceAdd reduceMul)
open List (reduceReplicate)
attribute [go_sem] eqB
def K3t(a b:GAddress):Bool:=decide (a.Host<b.Host∨a.Host=b.Host∧(a.Path<b.Path∨a.Path=b.Path∧a.Query<b.Query))
def cmpI(x y:Int):Int:=if x<y then -1 else if y<x then 1 else 0
def K51(a b:GFound):Int:=if K3t a.Address b.Address=true then -1 else if K3t b.Address a.Address=true then 1 else cmpI a.Tick b.Tick
def K1q(a b:GFound):Bool:=decide (a.Address.Host<b.Address.Host∨a.Address.Host=b.Address.Host∧(a.Address.Path<b.Address.Path∨a.Address.Path=b.Address.Path∧(a.Address.Query<b.Address.Query∨a.Address.Query=b.Address.Query∧a.Tick<b.Tick)))
theorem K6v:ltc K51=K1q:=by
 funext a b
 unfold ltc K51 K1q K3t cmpI
 rw[Bool.eq_iff_iff]
 simp only[decide_eq_true_eq]
 split
 ·simp;omega
 ·split
  ·simp;omega
  ·split
   ·simp;omega
   ·split<;>simp<;>omega
theorem fndSwo:Srt.Swo (ltc K51):=by
 rw[K6v]
 constructor
 ·intro x y h
  simp only[K1q,decide_eq_true_eq,decide_eq_false_iff_not]at*
  omega
 ·intro x y z h
  simp only[K1q,decide_eq_true_eq]at*
  omega
def fnd1(i:Nat):Nat→List GCapture→List GFound
 |_,[]=>[]
 |k,c::cs=>⟨c.Address,c.Tick,i,k⟩::fnd1 i (k+1) cs
def fnds:Nat→List GContainer→List GFound
 |_,[]=>[]
 |i,x::xs=>fnd1 i 0 x.Captures++fnds (i+1) xs
theorem K8b{i:Nat}:∀ {cs:List GCapture} {k m:Nat} {c:GCapture},cs[k]? =some c→fnd1 i m (cs.take (k+1))=fnd1 i m (cs.take k)++[⟨c.Address,c.Tick,i,(m+k:Nat)⟩]
 | [],_,_,_,h=>by simp at h
 |c::cs,0,m,d,h=>by
  simp only[List.getElem?_cons_zero,Option.some.injEq]at h
  subst h
  simp[fnd1]
 |c::cs,k+1,m,d,h=>by
  simp only[List.getElem?_cons_succ]at h
  rw[List.take_succ_cons,List.take_succ_cons,fnd1,fnd1,K8b h,List.cons_append,show m+1+k=m+(k+1)by omega]
theorem K38:∀ {l:List GContainer} {k m:Nat} {x:GContainer},l[k]? =some x→fnds m (l.take (k+1))=fnds m (l.take k)++fnd1 (m+k) 0 x.Captures
 | [],_,_,_,h=>by simp at h
 |c::cs,0,m,d,h=>by
  simp only[List.getElem?_cons_zero,Option.some.injEq]at h
  subst h
  simp[fnds]
 |c::cs,k+1,m,d,h=>by
  simp only[List.getElem?_cons_succ]at h
  rw[List.take_succ_cons,List.take_succ_cons,fnds,fnds,K38 h,List.append_assoc,show m+1+k=m+(k+1)by omega]
theorem K5h{i:Nat}:∀ {cs:List GCapture} {k:Nat},(fnd1 i k cs).length=cs.length
 | [],_=>rfl
 |c::cs,k=>by rw[fnd1,List.length_cons,K5h,List.length_cons]
theorem K9b:∀ {l:List GContainer} {m:Nat},(fnds m l).length=(l.map fun x=>x.Captures.length).sum
 | [],_=>rfl
 |x::l,m=>by rw[fnds,List.length_append,K5h,K9b,List.map_cons,List.sum_cons]
def index(l:List GContainer):List GFound:=Srt.isort K1q (fnds 0 l)
theorem fndSwo':Srt.Swo K1q:=K6v▸fndSwo
theorem K9y{m:Nat}:∀ {l:List GContainer},(fnds m l).length≤(l.map GContainer.size).sum:=by
 intro l
 rw[K9b]
 induction l with
 |nil=>simp
 |cons x l ih=>simp only[List.map_cons,List.sum_cons,GContainer.size];omega
theorem K6g{l:List GContainer}{i k:Nat}{x:GContainer}(hx:l[i]? =some x):(fnds 0 (l.take i)++fnd1 i 0 (x.Captures.take k)).length≤(l.map GContainer.size).sum:=by
 have h1:(fnds 0 (l.take (i+1))).length≤(l.map GContainer.size).sum:=Nat.le_trans K9y (K18 l (i+1))
 rw[K38 hx,List.length_append,K5h]at h1
 rw[List.length_append,K5h,List.length_take]
 omega
theorem K8c{l:List GContainer}{i k:Nat}{x:GContainer}{c:GCapture}(hc:x.Captures[k]? =some c):fnds 0 (l.take i)++fnd1 i 0 (x.Captures.take (k+1))=fnds 0 (l.take i)++fnd1 i 0 (x.Captures.take k)++[⟨c.Address,c.Tick,i,k⟩]:=by
 rw[K8b hc,List.append_assoc,Nat.zero_add]
theorem cutA{α:Type}{f:α→List T}{l:List α}{m:Nat}(h:m≤l.length):(if ((m:Int)-0).toNat=l.length then l.map f else List.take ((m:Int)-0).toNat (l.map f))=(l.take m).map f:=by
 rw[show((m:Int)-0).toNat=m by omega]
 split
 ·rename_i e;rw[List.take_of_length_le (by omega)]
 ·rw[List.map_take]
theorem cutB{α:Type}{f:α→List T}{l:List α}{m:Nat}(h:m≤l.length):(if m=0∧((l.length:Int)-(m:Int)).toNat=l.length then l.map f else List.take ((l.length:Int)-(m:Int)).toNat (List.drop m (l.map f)))=(l.drop m).map f:=by
 rw[show((l.length:Int)-(m:Int)).toNat=l.length-m by omega]
 split
 ·rename_i e;rw[e.1];rfl
 ·rw[List.take_of_length_le (by simp),List.map_drop]
namespace Srt
variable {α:Type} {lt:α→α→Bool}
theorem ins_at{l:List α}(hw:Swo lt)(hs:srt lt l){x:α}{n:Nat}(h1:∀z∈l.drop n,lt x z=true)(h2:n=0∨∃y,l[n-1]? =some y∧lt x y=false):ins lt x l=l.take n++[x]++l.drop n:=by
 have e:ins lt x (l.take n++l.drop n)=l.take n++x::l.drop n:=by
  refine ins_mid ?_ (fun a ha=>h1 a (List.mem_of_mem_head? ha))
  intro a ha
  rcases h2 with rfl|⟨y,hy,h⟩
  ·simp at ha
  ·obtain⟨i,hi⟩:=List.mem_iff_getElem?.1 ha
   rw[List.getElem?_take]at hi
   split at hi
   ·rename_i hlt
    by_cases hin:i=n-1
    ·subst hin
     obtain rfl:=Option.some.inj (hi.symm.trans hy)
     exact h
    ·obtain⟨h1,rfl⟩:=List.getElem?_eq_some_iff.1 hi
     obtain⟨h2,rfl⟩:=List.getElem?_eq_some_iff.1 hy
     exact hw.ntr h ((List.pairwise_iff_getElem.1 hs) i (n-1) h1 h2 (by omega))
   ·cases hi
 rw[List.take_append_drop]at e
 rw[e];simp
theorem drop_step{l:List α}{x:α}{n:Nat}{y:α}(hn:0<n)(hy:l[n-1]? =some y)(h:∀z∈l.drop n,lt x z=true)(hx:lt x y=true):∀z∈l.drop (n-1),lt x z=true:=by
 obtain⟨h1,rfl⟩:=List.getElem?_eq_some_iff.1 hy
 rw[List.drop_eq_getElem_cons h1,show n-1+1=n by omega]
 intro z hz
 rcases List.mem_cons.1 hz with rfl|hz
 ·exact hx
 ·exact h z hz
end Srt
def M1v:MC:=
(Zs [.box 2 0 (.s 0),.box 3 1 (.s 1),.mv 4 cF] [2,3] (.seq (.block 0 (Zs [fS 6 2 0,lF 7 1 6,fS 8 3 0,lF 9 1 8,bS 10 .neq 7 9,mS 5 10] [2,3,5] (.cond (.s 5) (Zs [fS 11 2 0,lF 12 1 11,fS 13 3 0,lF 14 1 13,bS 15 .lss 12 14,mS 4 15] [4] .ret) (Zs [fS 17 2 1,lF 18 1 17,fS 19 3 1,lF 20 1 19,bS 21 .neq 18 20,mS 16 21] [2,3,16] (.cond (.s 16) (Zs [fS 22 2 1,lF 23 1 22,fS 24 3 1,lF 25 1 24,bS 26 .lss 23 25,mS 4 26] [4] .ret) .skip)))))
(Zs [fS 27 2 2,lF 28 1 27,fS 29 3 2,lF 30 1 29,bS 31 .lss 28 30,mS 4 31] [4] .ret)))
theorem C7o(a b:GAddress):Ctr Tryz.prog N13 [aS a.enc,aS b.enc] [rB (K3t a b)]:=by
 refine cA M1v 2 32 [(.tmp 4,[false])] Tryz.func204 rfl rfl ?_;unfold M1v
 intro hb
 clear hb
 simp only[go_sem]
 repeat' first
  |(refine And.intro ?_ ?_<;>intro h)
 all_goals (unfold K3t;first|(symm;rw[decide_eq_false_iff_not];omega)|(rw[Bool.eq_iff_iff];simp only[decide_eq_true_eq];omega))
def M1w:MC:=
(Zs [.box 2 0 (.s 0),.box 3 1 (.s 1),.mv 4 cF] [2,3] (.seq (Zs [fS 5 2 0,lF 6 1 5,fS 7 3 0,lF 8 1 7,bS 9 .neq 6 8] [2,3,9] (.cond (.s 9) (Zs [fS 10 2 0,lF 11 1 10,fS 12 3 0,lF 13 1 12,bS 14 .lss 11 13,mS 4 14] [4] .ret) .skip))
(.seq (Zs [fS 15 2 1,lF 16 1 15,fS 17 3 1,lF 18 1 17,bS 19 .neq 16 18] [2,3,19] (.cond (.s 19) (Zs [fS 20 2 1,lF 21 1 20,fS 22 3 1,lF 23 1 22,bS 24 .lss 21 23,mS 4 24] [4] .ret) .skip))
(Zs [fS 25 2 2,lF 26 1 25,fS 27 3 2,lF 28 1 27,bS 29 .lss 26 28,mS 4 29] [4] .ret))))
theorem C7q(a b:GAddress):Ctr Tryz.prog N1z [aS a.enc,aS b.enc] [rB (K3t a b)]:=by
 refine cA M1w 2 30 [(.tmp 4,[false])] Tryz.func226 rfl rfl ?_;unfold M1w
 intro hb
 clear hb
 simp only[go_sem]
 repeat' first
  |(refine And.intro ?_ ?_<;>intro h)
 all_goals (unfold K3t;first|(symm;rw[decide_eq_false_iff_not];omega)|(rw[Bool.eq_iff_iff];simp only[decide_eq_true_eq];omega))
def M5i:MC:=
(Zs [.box 2 0 (.s 0),.box 3 1 (.s 1),.mv 4 cF] [2,3] (.seq (Zs [fS 5 2 0,lT 6 3 5,fS 7 3 0,lT 8 3 7,.eqA 9 true [.i .i64,.i .i64,.i .i64] (.s 6) (.s 8)] [2,3,9] (.cond (.s 9) (Zs [fS 10 2 0,lT 11 3 10,fS 12 3 0,lT 13 3 12,.call 14 [] (.f N1z) [.s 11,.s 13],mS 4 14] [4] .ret) .skip))
(Zs [fS 15 2 3,lF 16 1 15,fS 17 3 3,lF 18 1 17,bS 19 .lss 16 18,mS 4 19] [4] .ret)))
theorem Ca7(a b:GFound):Ctr Tryz.prog N60 [aS a.enc,aS b.enc] [rB (K1q a b)]:=by
 refine cA M5i 2 20 [(.tmp 4,[false])] Tryz.func199 rfl rfl ?_;unfold M5i
 intro hb
 clear hb
 simp only[go_sem]
 repeat' first
  |(refine And.intro ?_ ?_<;>intro h)
  |(apply K0 (C7q _ _);simp only[go_sem])
 all_goals (simp only[K1q,K3t];rw[Bool.eq_iff_iff];simp only[decide_eq_true_eq];simp at h;omega)
def M64:MC:=
(Zs [.mv 2 cF] [0] (Zs [mS 3 0,mS 4 0,bS 5 .neq 3 4,mS 2 5] [2] .ret))
theorem Cb3(x:Int):Ctr Tryz.prog N1x [aI x] [rB false]:=by
 refine cA M64 0 6 [(.tmp 2,[false])] Tryz.func228 rfl rfl ?_;unfold M64
 intro hb
 clear hb
 simp only[go_sem]
def M3x:MC:=
(Zs [.mv 4 (ci 0)] [0,1] (Zs [mS 7 0,.call 8 [] (.f N1x) [.s 7],mS 5 8] [0,1,5] (Zs [mS 9 1,.call 10 [] (.f N1x) [.s 9],mS 6 10] [0,1,5,6] (.seq (Zs [mS 11 5] [0,1,6,11] (.cond (.s 11) (.seq (Zs [mS 12 6] [12] (.cond (.s 12) (Zs [.mv 4 (ci 0)] [4] .ret) .skip))
(Zs [.mv 4 (.c (.int .i64 (-1)))] [4] .ret)) .skip))
(.seq (Zs [mS 13 6] [0,1,13] (.cond (.s 13) (Zs [.mv 4 (ci 1)] [4] .ret) .skip))
(.seq (Zs [mS 14 0,mS 15 1,bS 16 .lss 14 15] [0,1,16] (.cond (.s 16) (Zs [.mv 4 (.c (.int .i64 (-1)))] [4] .ret) .skip))
(.seq (Zs [mS 17 0,mS 18 1,bS 19 .gtr 17 18] [19] (.cond (.s 19) (Zs [.mv 4 (ci 1)] [4] .ret) .skip))
(Zs [.mv 4 (ci 0)] [4] .ret))))))))
theorem Caw(x y:Int):Ctr Tryz.prog N4g [aI x,aI y] [rI (cmpI x y)]:=by
 refine cA M3x 0 20 [(.tmp 4,[false])] Tryz.func205 rfl rfl ?_;unfold M3x
 intro hb
 clear hb
 simp only[go_sem]
 repeat' first
  |(refine And.intro ?_ ?_<;>intro h)
  |(apply K0 (Cb3 _);simp only[go_sem])
 all_goals (unfold cmpI;first|rfl|(repeat' split)<;>first|rfl|omega)
def M24:MC:=
(Zs [.box 2 0 (.s 0),.box 3 1 (.s 1),.mv 4 (ci 0)] [2,3] (.seq (.block 0 (Zs [fS 6 2 0,lT 7 3 6,fS 8 3 0,lT 9 3 8,.call 10 [] (.f N13) [.s 7,.s 9],mS 5 10] [2,3,5] (.cond (.s 5) (Zs [.mv 4 (.c (.int .i64 (-1)))] [4] .ret) (Zs [fS 12 3 0,lT 13 3 12,fS 14 2 0,lT 15 3 14,.call 16 [] (.f N13) [.s 13,.s 15],mS 11 16] [2,3,11] (.cond (.s 11) (Zs [.mv 4 (ci 1)] [4] .ret) .skip)))))
(Zs [fS 17 2 3,lF 18 1 17,fS 19 3 3,lF 20 1 19,.call 21 [] (.f N4g) [.s 18,.s 20],mS 4 21] [4] .ret)))
theorem C88(a b:GFound):Ctr Tryz.prog N2m [aS a.enc,aS b.enc] [rI (K51 a b)]:=by
 refine cA M24 2 22 [(.tmp 4,[false])] Tryz.func203 rfl rfl ?_;unfold M24
 intro hb
 clear hb
 simp only[go_sem]
 repeat' first
  |(refine And.intro ?_ ?_<;>intro h)
  |(apply K0 (C7o _ _);simp only[go_sem])
  |(apply K0 (Caw _ _);simp only[go_sem])
 all_goals (unfold K51;simp_all)
def M3y:MC:=
(Zs [.nilo 2 0 6] [0] (Zs [.nilo 3 0 6] [0,3] (.seq (Zs [mS 8 0,nS 9 8,.mv 10 (ci 0)] [3,8,9,10] (.block 0 (.loop ([3,8,9,10],[1,2,3]) (Zs [bS 11 .lss 10 9] [3,8,9,10,11] (.seq (cX 11 0)
(.seq (.block 1 (Zs [mS 12 10,xS 13 4 8 10,lT 14 4 13,.alloc 5 1 [.emp 4,.emp 5,.emp 9,pz],mS 4 12,sS 4 5 14] [3,4,5,8,9,10] (Zs [fS 15 5 2,lF 16 1 15,nS 17 16,.mv 18 (ci 0)] [3,4,8,9,10,16,17,18] (.block 2 (.loop ([3,4,8,9,10,16,17,18],[1,2,3]) (Zs [bS 19 .lss 18 17] [3,4,8,9,10,16,17,18,19] (.seq (cX 19 2)
(.seq (.block 3 (Zs [mS 20 18,xS 21 9 16 18,lT 22 9 21,.alloc 7 2 [pz,pz,pz,pz,pz,.emp 1,pz,pz,pz],mS 6 20,sS 9 7 22] [3,4,6,7,8,9,10,16,17,18] (pr [mS 23 3,fS 24 7 0,lT 25 3 24,fS 26 7 3,lF 27 1 26,mS 28 4,mS 29 6,.build 30 [pz,pz,pz,pz,pz,pz] [(0,3,.s 25),(3,1,.s 27),(4,1,.s 28),(5,1,.s 29)],.lit 31 3 6 48 [.s 30],.app 32 0 6 48 (.s 23) (.s 31),mS 3 32] [3,4,8,9,10,16,17,18])))
(pr [bC 33 .add 18 1,mS 18 33] [3,4,8,9,10,16,17,18])))))))))
(pr [bC 34 .add 10 1,mS 10 34] [3,8,9,10])))))))
(Zs [mS 35 3,.callI 36 [] (.f N6) [.s 35,.f N2m] [0] []] [3] (Zs [mS 37 3,mS 2 37] [2] .ret)))))
theorem C96(l:List GContainer)(hs:l.length+(l.map GContainer.size).sum≤1073741824):Ctr Tryz.prog N4h [aL 4 (l.map GContainer.enc)] [rL 6 ((index l).map GFound.enc)]:=by
 refine cA M3y 4 38 [(.tmp 2,[true])] Tryz.func158 rfl rfl ?_;unfold M3y
 intro hb
 clear hb
 simp only[go_sem]
 refine K5 l (fun i=>[(3,.val false [.ref 0 0 6 0 (fnds 0 (l.take i)).length]),(10,vI i)]) (fun i=>[(0,⟨0,.row true 6 ((fnds 0 (l.take i)).map GFound.enc)⟩)]) (fun _=>True) (by simp only[roomB];omega) ?_
 simp only[go_sem]
 refine⟨?_,trivial,?_,?_⟩
 ·simp only[go_sem,List.take_zero]
  exact⟨rfl,rfl⟩
 ·intro i x hx _ h0 h1 hw
  have hx1:=K1w (f:=GContainer.size) (K1e hx)
  have hi:=Kb hx
  have hxl:x.Captures.length≤x.size:=by simp only[GContainer.size];omega
  simp only[go_sem,K7 hx,h0,h1]
  refine K5 x.Captures (fun k=>[(3,.val false [.ref 0 0 6 0 (fnds 0 (l.take i)++fnd1 i 0 (x.Captures.take k)).length]),(18,vI k)]) (fun k=>[(0,⟨0,.row true 6 ((fnds 0 (l.take i)++fnd1 i 0 (x.Captures.take k)).map GFound.enc)⟩)]) (fun _=>True) (by simp only[roomB];omega) ?_
  simp only[go_sem]
  refine⟨?_,trivial,?_,?_⟩
  ·simp only[go_sem,List.take_zero]
   exact⟨by simp[fnd1],by simp[fnd1]⟩
  ·intro k c hc _ h2 h3 hw2
   have hn:=K6g (k:=k) hx
   simp only[go_sem,K7 hc,h2,h3,hw2,K8c hc]
   exact⟨by simp only[roomB];omega,by simp only[roomB];omega,by simp only[List.length_append,List.length_cons,List.length_nil],by simp[GFound.enc]⟩
  ·intro _
   simp only[go_sem,List.take_length,hw]
   exact⟨by rw[K38 hx,Nat.zero_add],by rw[K38 hx,Nat.zero_add]⟩
 ·intro _
  simp only[go_sem,List.take_length]
  apply K8 (C62 (fnds 0 l) _ K51 C88 fndSwo)
  simp only[go_sem]
  exact⟨Srt.len_isort.symm,by rw[index,K6v]⟩
def M4e:MC:=
(Zs [.nilo 2 0 6] [0] (Zs [.lit 8 0 6 48 [],mS 3 8] [0,3] (.seq (Zs [.mv 4 (ci 0)] [0,3,4] (.block 0 (.loop ([0,3,4],[1,2,3]) (.seq (Zs [mS 9 4,mS 10 0,nS 11 10,bS 12 .lss 9 11] [0,3,4,12] (cX 12 0))
(.seq (.block 1 (Zs [.mv 5 (ci 0)] [0,3,4,5] (.block 2 (.loop ([0,3,4,5],[1,2,3]) (.seq (Zs [mS 15 5,mS 16 0,mS 17 4,xS 18 4 16 17,fS 19 18 2,lF 20 1 19,nS 21 20,bS 22 .lss 15 21] [0,3,4,5,22] (cX 22 2))
(.seq (.block 3 (.seq (.dreg [Zf [6,26,30,34,35,36,37,38,39,40,41,42,43,44] [1] (mS 25 0),Zf [6,25,30,34,35,36,37,38,39,40,41,42,43,44] [1] (mS 26 4),Zg [6,30,34,35,36,37,38,39,40,41,42,43,44] [1] [0,1] (xS 27 4 25 26),Zg [6,30,34,35,36,37,38,39,40,41,42,43,44] [1] [0,1,2] (fS 28 27 2),Zg [6,30,34,35,36,37,38,39,40,41,42,43,44] [1] (.range 4) (lF 29 1 28),Zf [6,25,26,27,28,29,34,35,36,37,38,39,40,41,42,43,44] [1] (mS 30 5),Zg [6,34,35,36,37,38,39,40,41,42,43,44] [1] (.range 6) (xS 31 9 29 30),Zg [6,34,35,36,37,38,39,40,41,42,43,44] [1] (.range 7) (fS 32 31 0),Zg [6,34,35,36,37,38,39,40,41,42,43,44] [1] (.range 8) (lT 33 3 32),Zf [6,25,26,27,28,29,30,31,32,33,35,39,43,44] [1] (mS 34 0),Zf [6,25,26,27,28,29,30,31,32,33,34,39,43,44] [1] (mS 35 4),Zg [6,25,26,27,28,29,30,31,32,33,39,43,44] [1] [9,10] (xS 36 4 34 35),Zg [6,25,26,27,28,29,30,31,32,33,39,43,44] [1] [9,10,11] (fS 37 36 2),Zg [6,25,26,27,28,29,30,31,32,33,39,43,44] [1] [9,10,11,12] (lF 38 1 37),Zf [6,25,26,27,28,29,30,31,32,33,34,35,36,37,38,43,44] [1] (mS 39 5),Zg [6,25,26,27,28,29,30,31,32,33,43,44] [1] [9,10,11,12,13,14] (xS 40 9 38 39),Zg [6,25,26,27,28,29,30,31,32,33,43,44] [1] [9,10,11,12,13,14,15] (fS 41 40 3),Zg [6,25,26,27,28,29,30,31,32,33,43,44] [1] [9,10,11,12,13,14,15,16] (lF 42 1 41),Zf [6,25,26,27,28,29,30,31,32,33,34,35,36,37,38,39,40,41,42,44] [1] (mS 43 4),Zf [6,25,26,27,28,29,30,31,32,33,34,35,36,37,38,39,40,41,42,43] [1] (mS 44 5),Zg [6] [1] (.range 20) (.build 45 [pz,pz,pz,pz,pz,pz] [(0,3,.s 33),(3,1,.s 42),(4,1,.s 43),(5,1,.s 44)]),{o:= .alloc 6 1 [pz,pz,pz,pz,pz,pz],hs:=[25,26,27,28,29,30,31,32,33,34,35,36,37,38,39,40,41,42,43,44,45],ws:=[1]},{o:=sS 6 6 45,ws:=[1],bf:=(.range 22)}] [0,3,4,5,6])
(Zs [mS 46 3,nS 47 46,mS 7 47] [0,3,4,5,6,7] (.seq (.block 4 (.loop ([0,3,4,5,6,7],[2,3]) (.seq (.seq (.dreg [Za (mS 48 7),Ze [0] (bC 49 .gtr 48 0),Ze [0,1] (mS 50 49),{o:=lT 51 6 6,g:=some (50,true),hs:=[52,53,54,55,56],bf:=[0,1,2]},{o:=mS 52 3,g:=some (50,true),hs:=[51,53,54],bf:=[0,1,2]},{o:=mS 53 7,g:=some (50,true),hs:=[51,52],bf:=[0,1,2]},{o:=bC 54 .sub 53 1,g:=some (50,true),hs:=[51,52],bf:=[0,1,2,5]},{o:=xS 55 6 52 54,g:=some (50,true),hs:=[51],bf:=[0,1,2,4,5,6]},{o:=lT 56 6 55,g:=some (50,true),hs:=[51],bf:=[0,1,2,4,5,6,7]},{o:= .call 57 [] (.f N60) [.s 51,.s 56],g:=some (50,true),bf:=(.range 9)},Ze (.range 10) (.pick 58 (.s 50) (.s 57) cF)] [0,3,4,5,6,7,58])
(cX 58 4))
(.block 5 (pr [mS 59 7,bC 60 .sub 59 1,mS 7 60] [0,3,4,5,6,7])))))
(.dreg [{o:= .lit 61 2 6 48 [],hs:=[62,63,64,66,67,69,70,71],ho:=[3],ws:=[2]},Zf [61,63,66,67,69,70,71] [2,3] (mS 62 3),Zf [61,62,66,67,69,70,71] [2,3] (mS 63 7),Zg [61,66,67,69,70,71] [2,3] [1,2] (.slc 64 6 (.s 62) none (some (.s 63)) none),{o:= .app 65 2 6 48 (.s 61) (.s 64),hs:=[66,67,69,70,71],ho:=[3],ws:=[2],bf:=(.range 4)},Zf [61,62,63,64,65,69,70,71] [2] (lT 66 6 6),{o:= .lit 67 3 6 48 [.s 66],hs:=[61,62,63,64,65,69,70,71],ho:=[2],ws:=[3],bf:=[5]},{o:= .app 68 2 6 48 (.s 65) (.s 67),hs:=[69,70,71],ws:=[2],bf:=(.range 7)},Zf [61,62,63,64,65,66,67,68,70] [2,3] (mS 69 3),Zf [61,62,63,64,65,66,67,68,69] [2,3] (mS 70 7),Zg [61,62,63,64,65,66,67,68] [2,3] [8,9] (.slc 71 6 (.s 69) (some (.s 70)) none none),{o:= .app 72 0 6 48 (.s 68) (.s 71),ws:=[0,2],bf:=(.range 11)},Ze (.range 12) (mS 3 72)] [0,3,4,5])))))
(pr [mS 23 5,bC 24 .add 23 1,mS 5 24] [0,3,4,5])))))))
(pr [mS 13 4,bC 14 .add 13 1,mS 4 14] [0,3,4]))))))
(Zs [mS 73 3,mS 2 73] [2] .ret))))
theorem C9i(l:List GContainer)(hs:l.length+(l.map GContainer.size).sum≤1073741824):Ctr Tryz.prog N4w [aL 4 (l.map GContainer.enc)] [rL 6 ((index l).map GFound.enc)]:=by
 refine cA M4e 4 74 [(.tmp 2,[true])] Tryz.func153 rfl rfl ?_;unfold M4e
 intro hb
 clear hb
 simp only[go_sem]
 refine K5 l (fun i=>[(3,.val false [.ref 0 0 6 0 (Srt.isort K1q (fnds 0 (l.take i))).length]),(4,vI i)]) (fun i=>[(0,⟨0,.row true 6 ((Srt.isort K1q (fnds 0 (l.take i))).map GFound.enc)⟩)]) (fun _=>True) (by simp only[roomB];omega) ?_
 simp only[go_sem]
 refine⟨?_,trivial,?_,?_⟩
 ·simp only[go_sem,List.take_zero]
  exact⟨rfl,rfl⟩
 ·intro i x hx _ h0 h1 hw
  have hx1:=K1w (f:=GContainer.size) (K1e hx)
  have hi:=Kb hx
  have hxl:x.Captures.length≤x.size:=by simp only[GContainer.size];omega
  simp only[go_sem,h1]
  refine K5 x.Captures (fun k=>[(3,.val false [.ref 0 0 6 0 (Srt.isort K1q (fnds 0 (l.take i)++fnd1 i 0 (x.Captures.take k))).length]),(5,vI k)]) (fun k=>[(0,⟨0,.row true 6 ((Srt.isort K1q (fnds 0 (l.take i)++fnd1 i 0 (x.Captures.take k))).map GFound.enc)⟩)]) (fun _=>True) (by simp only[roomB];omega) ?_
  simp only[go_sem]
  refine⟨?_,trivial,?_,?_⟩
  ·simp only[go_sem,List.take_zero]
   exact⟨by simp[fnd1],by simp[fnd1]⟩
  ·intro k c hc _ h2 h3 hw2
   have hn:=K6g (k:=k) hx
   obtain⟨y,hy⟩:∃y:GFound,y=⟨c.Address,c.Tick,i,k⟩:=⟨_,rfl⟩
   obtain⟨out,hout⟩:∃out,out=Srt.isort K1q (fnds 0 (l.take i)++fnd1 i 0 (x.Captures.take k)):=⟨_,rfl⟩
   have hsr:Srt.srt K1q out:=hout▸Srt.srt_isort fndSwo' _
   have hol:out.length≤(l.map GContainer.size).sum:=by rw[hout,Srt.len_isort];exact hn
   have hst:Srt.isort K1q (fnds 0 (l.take i)++fnd1 i 0 (x.Captures.take (k+1)))=Srt.ins K1q y out:=by
    rw[K8c hc,Srt.isort_snoc,←hout,←hy]
   have hye:([tI c.Address.Host,tI c.Address.Path,tI c.Address.Query,tI c.Tick,tI (i:Int),tI (k:Int)]:List T)=y.enc:=by rw[hy];rfl
   rw[hst,←hout]
   simp only[go_sem,K7 hx,K7 hc,h0,h1,h2,h3,hw]
   refine K10 (fun n:Nat=>[(7,vI n)]) (fun n=>[]) (fun n=>n≤out.length∧∀z∈out.drop n,K1q y z=true) (fun n=>n) out.length ?_
   simp only[go_sem]
   refine⟨?_,⟨Nat.le_refl _,by simp⟩,?_⟩
   ·simp only[go_sem]
   ·rintro n ⟨hn1,hn2⟩
    simp only[go_sem]
    refine⟨fun hpos=>?_,fun hzero=>?_⟩
    ·obtain⟨m,hm⟩:∃m,m=n-1:=⟨_,rfl⟩
     obtain⟨z,hz⟩:=Kh (show m<out.length by omega)
     have e1:IntKind.i64.wrap ((n:Int)-1)=(m:Int):=by rw[wI (by omega) (by omega)];omega
     rw[e1]
     simp only[go_sem,K7 hz]
     refine⟨⟨by omega,by omega⟩,?_⟩
     apply K0 (Ca7 ⟨c.Address,c.Tick,(i:Int),(k:Int)⟩ z)
     simp only[go_sem]
     rw[e1]
     refine⟨fun ht=>⟨m,rfl,⟨by omega,?_⟩,by omega⟩,fun hf=>?_⟩
     ·rw[hm]
      exact Srt.drop_step (by omega) (hm▸hz) hn2 (hy▸ht)
     ·have hstop:n=0∨∃y',out[n-1]? =some y'∧K1q y y'=false:= .inr ⟨z,hm▸hz,hy▸hf⟩
      rw[cutA hn1]
      refine⟨by omega,by omega,?_⟩
      have hA:(out.take n).length=n:=by rw[List.length_take];omega
      have hB:out.length=n+(out.drop n).length:=by rw[List.length_drop];omega
      have eC:=cutB (f:=GFound.enc) hn1
      have e5:List.map GFound.enc (out.take n)++[[T.sc (Value.int IntKind.i64 c.Address.Host),T.sc (Value.int IntKind.i64 c.Address.Path),T.sc (Value.int IntKind.i64 c.Address.Query),T.sc (Value.int IntKind.i64 c.Tick),T.sc (Value.int IntKind.i64 (i:Int)),T.sc (Value.int IntKind.i64 (k:Int))]]=(out.take n++[y]).map GFound.enc:=by rw[hy];simp[GFound.enc]
      have e6:((out.take n++[y]).map GFound.enc).length=(out.take n).length+1:=by simp
      simp only[go_sem,↓K37 (f:=GFound.enc) (fun _=>rfl) (out.take n),↓eC,↓e5,↓e6,↓K37 (f:=GFound.enc) (fun _=>rfl) (out.drop n)]
      rw[Srt.ins_at fndSwo' hsr hn2 hstop]
      simp only[roomB]
      exact⟨by omega,by omega,by omega,⟨by omega,by omega,by omega⟩,by omega,by omega,⟨by simp only[List.length_append,List.length_cons,List.length_nil],hw2⟩,by rw[←List.map_append]⟩
    ·have hstop:n=0∨∃y',out[n-1]? =some y'∧K1q y y'=false:= .inl (by omega)
     rw[cutA hn1]
     refine⟨by omega,by omega,?_⟩
     have hA:(out.take n).length=n:=by rw[List.length_take];omega
     have hB:out.length=n+(out.drop n).length:=by rw[List.length_drop];omega
     have eC:=cutB (f:=GFound.enc) hn1
     have e5:List.map GFound.enc (out.take n)++[[T.sc (Value.int IntKind.i64 c.Address.Host),T.sc (Value.int IntKind.i64 c.Address.Path),T.sc (Value.int IntKind.i64 c.Address.Query),T.sc (Value.int IntKind.i64 c.Tick),T.sc (Value.int IntKind.i64 (i:Int)),T.sc (Value.int IntKind.i64 (k:Int))]]=(out.take n++[y]).map GFound.enc:=by rw[hy];simp[GFound.enc]
     have e6:((out.take n++[y]).map GFound.enc).length=(out.take n).length+1:=by simp
     simp only[go_sem,↓K37 (f:=GFound.enc) (fun _=>rfl) (out.take n),↓eC,↓e5,↓e6,↓K37 (f:=GFound.enc) (fun _=>rfl) (out.drop n)]
     rw[Srt.ins_at fndSwo' hsr hn2 hstop]
     simp only[roomB]
     exact⟨by omega,by omega,by omega,⟨by omega,by omega,by omega⟩,by omega,by omega,⟨by simp only[List.length_append,List.length_cons,List.length_nil],hw2⟩,by rw[←List.map_append]⟩
  ·intro _
   simp only[go_sem,List.take_length,K7 hx,h0,h1,hw,Int.lt_irrefl]
   exact⟨by rw[K38 hx,Nat.zero_add],by rw[K38 hx,Nat.zero_add]⟩
 ·intro _
  simp only[go_sem,List.take_length]
  rfl
end Go.Proofs.YtflhjihoifbmfaaGreatR
namespace Go.Proofs.YtflhjihoifbmfaaGreatR
open Go Go.RowKit Go.Proofs
open Nat (reduceEqDiff reduceLT reduceLeDiff reduceAdd reduceMul)
open List (reduceReplicate)
end Go.Proofs.YtflhjihoifbmfaaGreatR
namespace Go.Proofs.YtflhjihoifbmfaaGreatR
open Go Go.RowKit Go.Proofs
open Nat (reduceEqDiff reduceLT reduceLeDiff reduceAdd reduceMul)
open List (reduceReplicate)
end Go.Proofs.YtflhjihoifbmfaaGreatR
namespace Go.Proofs.YtflhjihoifbmfaaGreatR
open Go Go.RowKit Go.Proofs
open Nat (reduceEqDiff reduceLT reduceLeDiff reduceAdd reduceMul)
open List (reduceReplicate)
end Go.Proofs.YtflhjihoifbmfaaGreatR
namespace Go.Proofs.YtflhjihoifbmfaaGreatR
open Go Go.RowKit Go.Proofs
open Nat (reduceEqDiff reduceLT reduceLeDiff reduceAdd reduceMul)
open List (reduceReplicate)
end Go.Proofs.YtflhjihoifbmfaaGreatR
namespace Go.Proofs.YtflhjihoifbmfaaGreatR
open Go Go.RowKit Go.Proofs
open Nat (reduceEqDiff reduceLT reduceLeDiff reduceAdd reduceMul)
open List (reduceReplicate)
attribute [go_sem] eqB
def M7b:MC:=
(Zs [.mv 4 cF] [0,1] (.seq (Zs [mS 6 0,nS 7 6,mS 8 1,nS 9 8,bS 10 .neq 7 9] [0,1,10] (.cond (.s 10) (Zs [.mv 4 cF] [4] .ret) .skip))
(.seq (Zs [.mv 5 (ci 0)] [0,1,5] (.block 0 (.loop ([0,1,5],[]) (.seq (Zs [mS 11 5,mS 12 0,nS 13 12,bS 14 .lss 11 13] [0,1,5,14] (cX 14 0))
(.seq (.block 1 (.seq (.dreg [Zc [18,21,22,23,24] (mS 17 0),Zc [17,21,22,23,24] (mS 18 5),Zd [21,22,23,24] [0,1] (xS 19 6 17 18),Zd [21,22,23,24] [0,1,2] (lT 20 6 19),Zc [17,18,19,20,22] (mS 21 1),Zc [17,18,19,20,21] (mS 22 5),Zd [17,18,19,20] [4,5] (xS 23 6 21 22),Zd [17,18,19,20] [4,5,6] (lT 24 6 23),Ze (.range 8) (.eqA 25 true [.i .i64,.i .i64,.i .i64,.i .i64,.i .i64,.i .i64] (.s 20) (.s 24))] [0,1,5,25])
(.cond (.s 25) (Zs [.mv 4 cF] [4] .ret) .skip)))
(pr [mS 15 5,bC 16 .add 15 1,mS 5 16] [0,1,5]))))))
(Zs [.mv 4 cT] [4] .ret))))
theorem Cau(xs ys:List GFound):Ctr Tryz.prog N7m [aL 6 (xs.map GFound.enc),aL 6 (ys.map GFound.enc)] [rB (decide (xs=ys))]:=by
 refine cA M7b 0 26 [(.tmp 4,[false])] Tryz.func152 rfl rfl ?_;unfold M7b
 intro hb
 simp only[bdA,bdL,bdT,Ki,roomB,and_true,List.length_map]at hb
 obtain⟨⟨hl,-⟩,⟨hl2,-⟩⟩:=hb
 simp only[go_sem]
 refine⟨fun h=>K2a h,fun h=>?_⟩
 have hle:xs.length=ys.length:=by omega
 refine K5 xs (fun k=>[(5,vI k)]) (fun k=>[]) (fun k=>xs.take k=ys.take k) hl ?_
 simp only[go_sem]
 refine⟨?_,rfl,?_,?_⟩
 ·simp only[go_sem]
 ·intro k x hx he h0 h1 hw
  obtain⟨y,hy⟩:=Kh (show k<ys.length by omega)
  have h2:(k:Int)<ys.length:=by omega
  simp only[go_sem,K7 hx,K7 hy,h0,h1,h2,hw]
  exact⟨fun hn=>K2v hx hy (by rintro rfl;simp at hn),fun hn=>(Kt hx hy he).2 (by exact GFound.eqv.2 (by simpa using hn))⟩
 ·intro he
  simp only[go_sem]
  exact K28 he hle
end Go.Proofs.YtflhjihoifbmfaaGreatR
namespace Go.Proofs.YtflhjihoifbmfaaGreatR
open Go Go.RowKit Go.Proofs
open Nat (reduceEqDiff reduceLT reduceLeDiff reduceAdd reduceMul)
open List (reduceReplicate)
end Go.Proofs.YtflhjihoifbmfaaGreatR
namespace Go.Proofs.YtflhjihoifbmfaaGreatR
open Go Go.RowKit Go.Proofs
open Nat (reduceEqDiff reduceLT reduceLeDiff reduceAdd reduceMul)
open List (reduceReplicate)
def modP(v:Int):Int:=(IntKind.i64.wrap (v.tmod 2147483647+2147483647)).tmod 2147483647
def hstep(h v:Int):Int:=(IntKind.i64.wrap (IntKind.i64.wrap (IntKind.i64.wrap (h*1000003)+modP v)+13)).tmod 2147483647
def hashL(l:List Int):Int:=l.foldl hstep 11
theorem K7c{l:List Int}{k:Nat}{x:Int}(h:l[k]? =some x):hashL (l.take (k+1))=hstep (hashL (l.take k)) x:=by
 rw[Kn h,hashL,List.foldl_append];rfl
theorem K42:¬(2147483647:Int)=0:=by decide
def Y17(v0:Nat):MC:=
(Zs [.mv 4 (ci 0)] [0,1] (.seq (Zs [mS 5 1,.call 6 [] (.f v0) [.s 5,.c (.int .i64 1),.c (.int .i64 1000000000000)],.un 7 .not (.s 6)] [0,1,7] (.cond (.s 7) (Zs [.mv 4 (ci 0)] [4] .ret) .skip))
(Zs [mS 8 0,mS 9 1,bS 10 .rem 8 9,mS 11 1,bS 12 .add 10 11,mS 13 1,bS 14 .rem 12 13,mS 4 14] [4] .ret)))
attribute [go_sem] Y17
def Maj:MC:=Y17 N14
theorem Cb9(v:Int):Ctr Tryz.prog Nal [aI v,aI 2147483647] [rI (modP v)]:=by
 refine cA Maj 0 15 [(.tmp 4,[false])] Tryz.func201 rfl rfl ?_;unfold Maj
 intro hb
 clear hb
 simp only[go_sem]
 apply K0 (Cx _ _ _)
 simp only[go_sem,K42]
 refine And.intro ?_ ?_<;>intro h
 ·exact absurd (by decide) h
 ·rfl
def Mai:MC:=Y17 Nz
theorem Cb8(v:Int):Ctr Tryz.prog Nak [aI v,aI 2147483647] [rI (modP v)]:=by
 refine cA Mai 0 15 [(.tmp 4,[false])] Tryz.func207 rfl rfl ?_;unfold Mai
 intro hb
 clear hb
 simp only[go_sem]
 apply K0 (Cb _ _ _)
 simp only[go_sem,K42]
 refine And.intro ?_ ?_<;>intro h
 ·exact absurd (by decide) h
 ·rfl
def M9n:MC:=
(Zs [.mv 2 (ci 0)] [0] (Zs [.mv 3 (ci 11)] [0,3] (.seq (Zs [.mv 4 (ci 0)] [0,3,4] (.block 0 (.loop ([0,3,4],[]) (.seq (Zs [mS 5 4,mS 6 0,nS 7 6,bS 8 .lss 5 7] [0,3,4,8] (cX 8 0))
(.seq (.block 1 (pr [mS 11 3,bC 12 .mul 11 1000003,mS 13 0,mS 14 4,xS 15 1 13 14,lF 16 1 15,.call 17 [] (.f Nal) [.s 16,.c (.int .i64 2147483647)],bS 18 .add 12 17,bC 19 .add 18 13,bC 20 .rem 19 2147483647,mS 3 20] [0,3,4]))
(pr [mS 9 4,bC 10 .add 9 1,mS 4 10] [0,3,4]))))))
(Zs [mS 21 3,mS 2 21] [2] .ret))))
theorem Cb7(l:List Int):Ctr Tryz.prog N9s [aL 1 (l.map encI)] [rI (hashL l)]:=by
 refine cA M9n 0 22 [(.tmp 2,[false])] Tryz.func155 rfl rfl ?_;unfold M9n
 intro hb
 simp only[bdA,bdL,bdT,Ki,roomB,and_true,List.length_map]at hb
 have hl:=hb.1
 clear hb
 simp only[go_sem]
 refine K5 l (fun k=>[(3,vI (hashL (l.take k))),(4,vI k)]) (fun k=>[]) (fun _=>True) hl ?_
 simp only[go_sem]
 refine⟨?_,trivial,?_,?_⟩
 ·simp only[go_sem,List.take_zero]
  rfl
 ·intro k x hx _ h0 h1 hw
  simp only[go_sem,K7 hx,h0,h1,K7c hx]
  apply K0 (Cb9 _)
  simp only[go_sem,hw,K42]
  try intro _
  rfl
 ·intro _
  simp only[go_sem,List.take_length]
def M9k:MC:=
(Zs [.mv 2 (ci 0)] [0] (Zs [.mv 3 (ci 11)] [0,3] (.seq (Zs [mS 6 0,nS 7 6,.mv 8 (ci 0)] [3,6,7,8] (.block 0 (.loop ([3,6,7,8],[]) (Zs [bS 9 .lss 8 7] [3,6,7,8,9] (.seq (cX 9 0)
(.seq (.block 1 (Zs [xS 10 1 6 8,lF 11 1 10,mS 5 11] [3,5,6,7,8] (pr [mS 12 3,bC 13 .mul 12 1000003,mS 14 5,.call 15 [] (.f Nak) [.s 14,.c (.int .i64 2147483647)],bS 16 .add 13 15,bC 17 .add 16 13,bC 18 .rem 17 2147483647,mS 3 18] [3,6,7,8])))
(pr [bC 19 .add 8 1,mS 8 19] [3,6,7,8])))))))
(Zs [mS 20 3,mS 2 20] [2] .ret))))
theorem Cb4(l:List Int):Ctr Tryz.prog N9p [aL 1 (l.map encI)] [rI (hashL l)]:=by
 refine cA M9k 0 21 [(.tmp 2,[false])] Tryz.func160 rfl rfl ?_;unfold M9k
 intro hb
 simp only[bdA,bdL,bdT,Ki,roomB,and_true,List.length_map]at hb
 have hl:=hb.1
 clear hb
 simp only[go_sem]
 refine K5 l (fun k=>[(3,vI (hashL (l.take k))),(8,vI k)]) (fun k=>[]) (fun _=>True) hl ?_
 simp only[go_sem]
 refine⟨?_,trivial,?_,?_⟩
 ·simp only[go_sem,List.take_zero]
  rfl
 ·intro k x hx _ h0 h1 hw
  simp only[go_sem,K7 hx,h0,h1,K7c hx]
  apply K0 (Cb8 _)
  simp only[go_sem,hw,K42]
  try intro _
  rfl
 ·intro _
  simp only[go_sem,List.take_length]
end Go.Proofs.YtflhjihoifbmfaaGreatR
namespace Go.Proofs.YtflhjihoifbmfaaGreatR
open Go Go.RowKit Go.Proofs
open Nat (reduceEqDiff reduceLT reduceLeDiff reduceAdd reduceMul)
open List (reduceReplicate)
def K3k(r:GResource):List Int:=[r.Kind,r.To.Host,r.To.Path,r.To.Query,r.Body.length]++r.Body
def Y18:MC:=
(Zs [.box 1 0 (.s 0),.nilo 2 1 1] [1] (Zs [fS 3 1 0,lF 4 1 3,fS 5 1 2,fS 6 5 0,lF 7 1 6,fS 8 1 2,fS 9 8 1,lF 10 1 9,fS 11 1 2,fS 12 11 2,lF 13 1 12,fS 14 1 1,lF 15 1 14,nS 16 15,.lit 17 1 1 8 [.s 4,.s 7,.s 10,.s 13,.s 16],fS 18 1 1,lF 19 1 18,.app 20 1 1 8 (.s 17) (.s 19),mS 2 20] [2] .ret))
attribute [go_sem] Y18
def M2l:MC:=Y18
theorem C8k(r:GResource)(hs:r.Body.length≤1073741824):Ctr Tryz.prog N2z [aS r.enc] [rL 1 ((K3k r).map encI)]:=by
 refine cA M2l 2 21 [(.tmp 2,[true])] Tryz.func156 rfl rfl ?_;unfold M2l
 intro hb
 clear hb
 simp only[go_sem,↓K37 (f:=encI) (fun _=>rfl) r.Body]
 simp only[roomB]
 refine⟨by decide,by omega,?_⟩
 simp[K3k,encI]
 omega
def M26:MC:=Y18
theorem C89(r:GResource)(hs:r.Body.length≤1073741824):Ctr Tryz.prog N2o [aS r.enc] [rL 1 ((K3k r).map encI)]:=by
 refine cA M26 2 21 [(.tmp 2,[true])] Tryz.func161 rfl rfl ?_;unfold M26
 intro hb
 clear hb
 simp only[go_sem,↓K37 (f:=encI) (fun _=>rfl) r.Body]
 simp only[roomB]
 refine⟨by decide,by omega,?_⟩
 simp[K3k,encI]
 omega
end Go.Proofs.YtflhjihoifbmfaaGreatR
namespace Go.Proofs.YtflhjihoifbmfaaGreatR
open Go Go.RowKit Go.Proofs
open Nat (reduceEqDiff reduceLT reduceLeDiff reduceAdd reduceMul)
open List (reduceReplicate)
end Go.Proofs.YtflhjihoifbmfaaGreatR
namespace Go.Proofs.YtflhjihoifbmfaaGreatR
open Go Go.RowKit Go.Proofs
open Nat (reduceEqDiff reduceLT reduceLeDiff reduceAdd reduceMul)
open List (reduceReplicate)
def whole(d:GDisk):Bool:=decide (d.Index=index d.Containers)
def Y19(v0:Nat)(v1:Nat):MC:=
(Zs [.box 1 0 (.s 0),.mv 2 cF] [1] (.seq (.dreg [Zf [5,6,7] [1] (fS 3 1 1),Zg [5,6,7] [1] [0] (lF 4 1 3),Zc [3,4] (fS 5 1 0),Zd [3,4] [2] (lF 6 1 5),{o:= .call 7 [1] (.f v0) [.s 6],hs:=[3,4],ws:=[1],bf:=[2,3]},Ze (.range 5) (.call 8 [] (.f v1) [.s 4,.s 7]),Ze (.range 6) (mS 2 8)] [2])
.ret))
attribute [go_sem] Y19
def M25:MC:=Y19 N4h Nf
theorem Can(d:GDisk)(hs:d.size≤1073741824):Ctr Tryz.prog N2n [aS d.enc] [rB (whole d)]:=by
 refine cA M25 2 9 [(.tmp 2,[false])] Tryz.func102 rfl rfl ?_;unfold M25
 intro hb
 clear hb
 simp only[GDisk.size]at hs
 simp only[go_sem]
 apply K0 (C96 d.Containers (by omega))
 simp only[go_sem]
 intros
 apply K0 (C7p _ _)
 simp only[go_sem]
 intros
 rfl
def M6h:MC:=Y19 N4w N7m
theorem Cah(d:GDisk)(hs:d.size≤1073741824):Ctr Tryz.prog N6r [aS d.enc] [rB (whole d)]:=by
 refine cA M6h 2 9 [(.tmp 2,[false])] Tryz.func95 rfl rfl ?_;unfold M6h
 intro hb
 clear hb
 simp only[GDisk.size]at hs
 simp only[go_sem]
 apply K0 (C9i d.Containers (by omega))
 simp only[go_sem]
 intros
 apply K0 (Cau _ _)
 simp only[go_sem]
 intros
 rfl
theorem take_sz{l:List GContainer}{n N:Nat}(h:l.length+(l.map GContainer.size).sum≤N):(l.take n).length+((l.take n).map GContainer.size).sum≤N:=by
 have h1:=List.length_take_le n l
 have h2:=K18 (f:=GContainer.size) l n
 have h3:(l.take n).length≤l.length:=by rw[List.length_take];omega
 omega
end Go.Proofs.YtflhjihoifbmfaaGreatR
namespace Go.Proofs.YtflhjihoifbmfaaGreatR
open Go Go.RowKit Go.Proofs
open Nat (reduceEqDiff reduceLT reduceLeDiff reduceAdd reduceMul)
open List (reduceReplicate)
def isExcl(x:GExclusion):Bool:=decide ((1≤x.Host∧x.Host≤9)∧(-1≤x.Path∧x.Path≤99)∧(0≤x.From∧x.From≤x.Until)∧x.Until≤2000∧(0≤x.Asked∧x.Asked≤2000))
def hidesB(x:GExclusion)(c:GCapture):Bool:=isExcl x&&decide (c.Address.Host=x.Host∧(x.Path= -1∨c.Address.Path=x.Path)∧x.From≤c.Tick∧c.Tick≤x.Until)
def hiddenBy(x:GExclusion)(c:GCapture)(now:Int):Bool:=decide (x.Asked≤now)&&hidesB x c
def hiddenIn(c:GCapture)(l:List GExclusion)(now:Int):Bool:=l.any fun x=>hiddenBy x c now
def visible(cs:List GCapture)(l:List GExclusion)(now:Int):List GCapture:=cs.filter fun c=> !hiddenIn c l now
end Go.Proofs.YtflhjihoifbmfaaGreatR
namespace Go.Proofs.YtflhjihoifbmfaaGreatR
open Go Go.RowKit Go.Proofs
open Nat (reduceEqDiff reduceLT reduceLeDiff reduceAdd reduceMul)
open List (reduceReplicate)
def Kx(l:List GContainer):List GCapture:=l.flatMap fun x=>x.Captures
theorem K24{l:List GContainer}{k:Nat}{x:GContainer}(h:l[k]? =some x):Kx (l.take (k+1))=Kx (l.take k)++x.Captures:=by
 rw[Kn h,Kx,List.flatMap_append];simp[Kx]
theorem K4j:∀ {l:List GContainer},(Kx l).length+((Kx l).map GCapture.size).sum≤(l.map GContainer.size).sum
 | []=>by simp[Kx]
 |x::l=>by
  have:=K4j (l:=l)
  simp only[Kx,List.flatMap_cons,List.length_append,List.map_append,List.sum_append,List.map_cons,List.sum_cons,GContainer.size]at*
  omega
theorem K34{l:List GContainer}{k:Nat}{x:GContainer}(h:l[k]? =some x):(Kx (l.take k)).length+x.Captures.length≤(l.map GContainer.size).sum:=by
 have h1:=K4j (l:=l.take (k+1))
 have h2:=K18 (f:=GContainer.size) l (k+1)
 rw[K24 h,List.length_append]at h1
 omega
theorem K35{l:List GContainer}{k:Nat}{x:GContainer}(h:l[k]? =some x):x.Captures.length+(x.Captures.map GCapture.size).sum≤(l.map GContainer.size).sum:=by
 have h1:=K1w (f:=GContainer.size) (K1e h)
 simp only[GContainer.size]at h1 ⊢
 omega
def told(d:GDisk):List GContainer:=if whole d then d.Containers else d.Containers.dropLast
def Kr(a:GArchive):List GCapture:=Kx (told a.Disk)
theorem K9s{d:GDisk}(h:whole d=true):told d=d.Containers:=by unfold told;rw[h];rfl
theorem K6d{d:GDisk}(h:whole d=false):told d=d.Containers.take (d.Containers.length-1):=by unfold told;rw[h,List.dropLast_eq_take];rfl
theorem at_take{α:Type}{l:List α}{n k:Nat}{x:α}(h:(l.take n)[k]? =some x):l[k]? =some x:=by
 rw[List.getElem?_take]at h
 split at h
 ·exact h
 ·cases h
def M36:MC:=
(Zs [.box 1 0 (.s 0),.nilo 2 1 9] [1] (Zs [fS 7 1 2,fS 8 7 0,lF 9 1 8,mS 3 9] [1,3] (.seq (.seq (.reg [Za (fS 10 1 2),Za (lT 11 3 10),Za (.call 12 [] (.f N2n) [.s 11]),Za (.un 13 .not (.s 12)),Za (mS 14 13),Zb 14 true (mS 15 3),Zb 14 true (nS 16 15),Zb 14 true (bC 17 .gtr 16 0),Za (.pick 18 (.s 14) (.s 17) cF)] [3,18])
(.cond (.s 18) (pr [mS 19 3,mS 20 3,nS 21 20,bC 22 .sub 21 1,.slc 23 4 (.s 19) none (some (.s 22)) none,mS 3 23] [3]) .skip))
(Zs [.nilo 4 1 9] [3,4] (.seq (Zs [mS 24 3,nS 25 24,.mv 26 (ci 0)] [4,24,25,26] (.block 0 (.loop ([4,24,25,26],[0,2,3]) (Zs [bS 27 .lss 26 25] [4,24,25,26,27] (.seq (cX 27 0)
(.seq (.block 1 (Zs [xS 28 4 24 26,lT 29 4 28,.alloc 6 2 [.emp 4,.emp 5,.emp 9,pz],sS 4 6 29] [4,6,24,25,26] (pr [mS 30 4,fS 31 6 2,lF 32 1 31,.call 33 [3] (.f N2p) [.s 32],.app 34 1 9 88 (.s 30) (.s 33),mS 4 34] [4,24,25,26])))
(pr [bC 35 .add 26 1,mS 26 35] [4,24,25,26])))))))
(Zs [mS 36 4,mS 2 36] [2] .ret))))))
theorem C8m(a:GArchive)(hs:a.size≤1073741824):Ctr Tryz.prog N3g [aS a.enc] [rL 9 ((Kr a).map GCapture.enc)]:=by
 refine cA M36 4 37 [(.tmp 2,[true])] Tryz.func51 rfl rfl ?_;unfold M36
 intro hb
 clear hb
 have hsd:a.Disk.size≤1073741824:=by simp only[GArchive.size]at hs;omega
 have hsz:a.Disk.Containers.length+(a.Disk.Containers.map GContainer.size).sum≤1073741824:=by simp only[GDisk.size]at hsd;omega
 have hsz2:=take_sz (n:=a.Disk.Containers.length-1) hsz
 have hw1:(a.Disk.Containers.length:Int)>0→IntKind.i64.wrap ((a.Disk.Containers.length:Int)-1)=((a.Disk.Containers.length-1:Nat):Int):=fun h=>by rw[wI (by omega) (by omega)];omega
 simp only[go_sem]
 apply K0 (Can a.Disk hsd)
 simp only[go_sem]
 repeat' first
  |(refine And.intro ?_ ?_<;>intro h)
 ·rename_i hN
  have eL:(a.Disk.Containers.take (a.Disk.Containers.length-1)).length=a.Disk.Containers.length-1:=by rw[List.length_take];omega
  rw[hw1 h,cutA (by omega)]
  refine⟨⟨by omega,by omega,by omega⟩,?_⟩
  try simp only[go_sem,eL]
  refine K5 (a.Disk.Containers.take (a.Disk.Containers.length-1)) (fun k=>[(4,.val false [.ref 1 0 9 0 (Kx ((a.Disk.Containers.take (a.Disk.Containers.length-1)).take k)).length]),(26,vI k)]) (fun k=>[(1,⟨0,.row true 9 ((Kx ((a.Disk.Containers.take (a.Disk.Containers.length-1)).take k)).map GCapture.enc)⟩)]) (fun _=>True) (by simp only[roomB];omega) ?_
  simp only[go_sem]
  refine⟨?_,trivial,?_,?_⟩
  ·simp only[go_sem,List.take_zero]
   exact⟨rfl,rfl⟩
  ·intro k x hx _ h0 h1 hw
   have hq:=K34 hx
   have hq2:=K35 hx
   have hx3:a.Disk.Containers[k]? =some x:=at_take hx
   have hx2:(k:Int)<((a.Disk.Containers.length-1:Nat):Int):=by have:=Kb hx;rw[List.length_take]at this;omega
   have hx4:(k:Int)<a.Disk.Containers.length:=by have:=Kb hx3;omega
   simp only[go_sem,K7 hx,hx2,h0,h1]
   apply K0 (C15 x.Captures (by omega))
   by_cases hf:flat (x.Captures.map GCapture.enc)=true
   all_goals
    simp only[go_sem,hw,hf,K24 hx,List.length_append]
    simp only[roomB]
    exact⟨by omega,fun _=>by rw[List.map_append]⟩
  ·intro _
   simp only[go_sem,eL,Int.lt_irrefl,List.take_take,Nat.min_self]
   rw[Kr,K6d hN]
 ·rename_i hN
  have eL:True:=trivial
  have hC0:a.Disk.Containers=[]:=List.length_eq_zero_iff.1 (by omega)
  refine K5 (a.Disk.Containers) (fun k=>[(4,.val false [.ref 1 0 9 0 (Kx ((a.Disk.Containers).take k)).length]),(26,vI k)]) (fun k=>[(1,⟨0,.row true 9 ((Kx ((a.Disk.Containers).take k)).map GCapture.enc)⟩)]) (fun _=>True) (by simp only[roomB];omega) ?_
  simp only[go_sem]
  refine⟨?_,trivial,?_,?_⟩
  ·simp only[go_sem,List.take_zero]
   exact⟨rfl,rfl⟩
  ·intro k x hx _ h0 h1 hw
   have hq:=K34 hx
   have hq2:=K35 hx
   have hx3:a.Disk.Containers[k]? =some x:=hx
   have hx2:(k:Int)<(a.Disk.Containers.length:Int):=by have:=Kb hx;omega
   have hx4:(k:Int)<a.Disk.Containers.length:=by have:=Kb hx3;omega
   simp only[go_sem,K7 hx,hx2,h0]
   apply K0 (C15 x.Captures (by omega))
   by_cases hf:flat (x.Captures.map GCapture.enc)=true
   all_goals
    simp only[go_sem,hw,hf,K24 hx,List.length_append]
    simp only[roomB]
    exact⟨by omega,fun _=>by rw[List.map_append]⟩
  ·intro _
   simp only[go_sem,List.take_length,Int.lt_irrefl]
   rw[Kr,K6d hN,hC0]
   rfl
 ·have eL:True:=trivial
  refine K5 (a.Disk.Containers) (fun k=>[(4,.val false [.ref 1 0 9 0 (Kx ((a.Disk.Containers).take k)).length]),(26,vI k)]) (fun k=>[(1,⟨0,.row true 9 ((Kx ((a.Disk.Containers).take k)).map GCapture.enc)⟩)]) (fun _=>True) (by simp only[roomB];omega) ?_
  simp only[go_sem]
  refine⟨?_,trivial,?_,?_⟩
  ·simp only[go_sem,List.take_zero]
   exact⟨rfl,rfl⟩
  ·intro k x hx _ h0 h1 hw
   have hq:=K34 hx
   have hq2:=K35 hx
   have hx3:a.Disk.Containers[k]? =some x:=hx
   have hx2:(k:Int)<(a.Disk.Containers.length:Int):=by have:=Kb hx;omega
   have hx4:(k:Int)<a.Disk.Containers.length:=by have:=Kb hx3;omega
   simp only[go_sem,K7 hx,hx2,h0]
   apply K0 (C15 x.Captures (by omega))
   by_cases hf:flat (x.Captures.map GCapture.enc)=true
   all_goals
    simp only[go_sem,hw,hf,K24 hx,List.length_append]
    simp only[roomB]
    exact⟨by omega,fun _=>by rw[List.map_append]⟩
  ·intro _
   simp only[go_sem,List.take_length,Int.lt_irrefl]
   rw[Kr,K9s h]
def M3f:MC:=
(Zs [.box 1 0 (.s 0),.nilo 2 1 9] [1] (Zs [fS 6 1 2,fS 7 6 0,lF 8 1 7,nS 9 8,mS 3 9] [1,3] (.seq (.seq (.reg [Za (fS 10 1 2),Za (lT 11 3 10),Za (.call 12 [] (.f N6r) [.s 11]),Za (.un 13 .not (.s 12)),Za (mS 14 13),Zb 14 true (mS 15 3),Zb 14 true (bC 16 .gtr 15 0),Za (.pick 17 (.s 14) (.s 16) cF)] [1,3,17])
(.cond (.s 17) (pr [mS 18 3,bC 19 .sub 18 1,mS 3 19] [1,3]) .skip))
(Zs [.lit 20 1 9 88 [],mS 4 20] [1,3,4] (.seq (Zs [.mv 5 (ci 0)] [1,3,4,5] (.block 0 (.loop ([1,3,4,5],[2]) (.seq (Zs [mS 21 5,mS 22 3,bS 23 .lss 21 22] [1,3,4,5,23] (cX 23 0))
(.seq (.block 1 (pr [mS 26 4,fS 27 1 2,fS 28 27 0,lF 29 1 28,mS 30 5,xS 31 4 29 30,fS 32 31 2,lF 33 1 32,.call 34 [2] (.f N7l) [.s 33],.app 35 1 9 88 (.s 26) (.s 34),mS 4 35] [1,3,4,5]))
(pr [mS 24 5,bC 25 .add 24 1,mS 5 25] [1,3,4,5]))))))
(Zs [mS 36 4,mS 2 36] [2] .ret))))))
theorem C90(a:GArchive)(hs:a.size≤1073741824):Ctr Tryz.prog N3p [aS a.enc] [rL 9 ((Kr a).map GCapture.enc)]:=by
 refine cA M3f 3 37 [(.tmp 2,[true])] Tryz.func49 rfl rfl ?_;unfold M3f
 intro hb
 clear hb
 have hsd:a.Disk.size≤1073741824:=by simp only[GArchive.size]at hs;omega
 have hsz:a.Disk.Containers.length+(a.Disk.Containers.map GContainer.size).sum≤1073741824:=by simp only[GDisk.size]at hsd;omega
 have hsz2:=take_sz (n:=a.Disk.Containers.length-1) hsz
 have hw1:(a.Disk.Containers.length:Int)>0→IntKind.i64.wrap ((a.Disk.Containers.length:Int)-1)=((a.Disk.Containers.length-1:Nat):Int):=fun h=>by rw[wI (by omega) (by omega)];omega
 simp only[go_sem]
 apply K0 (Cah a.Disk hsd)
 simp only[go_sem]
 repeat' first
  |(refine And.intro ?_ ?_<;>intro h)
 ·rename_i hN
  have eL:(a.Disk.Containers.take (a.Disk.Containers.length-1)).length=a.Disk.Containers.length-1:=by rw[List.length_take];omega
  rw[hw1 h]
  refine K5 (a.Disk.Containers.take (a.Disk.Containers.length-1)) (fun k=>[(4,.val false [.ref 1 0 9 0 (Kx ((a.Disk.Containers.take (a.Disk.Containers.length-1)).take k)).length]),(5,vI k)]) (fun k=>[(1,⟨0,.row true 9 ((Kx ((a.Disk.Containers.take (a.Disk.Containers.length-1)).take k)).map GCapture.enc)⟩)]) (fun _=>True) (by simp only[roomB];omega) ?_
  simp only[go_sem]
  refine⟨?_,trivial,?_,?_⟩
  ·simp only[go_sem,List.take_zero]
   exact⟨rfl,rfl⟩
  ·intro k x hx _ h0 h1 hw
   have hq:=K34 hx
   have hq2:=K35 hx
   have hx3:a.Disk.Containers[k]? =some x:=at_take hx
   have hx2:(k:Int)<((a.Disk.Containers.length-1:Nat):Int):=by have:=Kb hx;rw[List.length_take]at this;omega
   have hx4:(k:Int)<a.Disk.Containers.length:=by have:=Kb hx3;omega
   simp only[go_sem,K7 hx3,hx2,hx4,h0]
   apply K0 (C31 x.Captures (by omega))
   by_cases hf:flat (x.Captures.map GCapture.enc)=true
   all_goals
    simp only[go_sem,hw,hf,K24 hx,List.length_append]
    simp only[roomB]
    exact⟨by omega,fun _=>by rw[List.map_append]⟩
  ·intro _
   simp only[go_sem,eL,Int.lt_irrefl,List.take_take,Nat.min_self]
   rw[Kr,K6d hN]
 ·rename_i hN
  have eL:True:=trivial
  have hC0:a.Disk.Containers=[]:=List.length_eq_zero_iff.1 (by omega)
  refine K5 (a.Disk.Containers) (fun k=>[(4,.val false [.ref 1 0 9 0 (Kx ((a.Disk.Containers).take k)).length]),(5,vI k)]) (fun k=>[(1,⟨0,.row true 9 ((Kx ((a.Disk.Containers).take k)).map GCapture.enc)⟩)]) (fun _=>True) (by simp only[roomB];omega) ?_
  simp only[go_sem]
  refine⟨?_,trivial,?_,?_⟩
  ·simp only[go_sem,List.take_zero]
   exact⟨rfl,rfl⟩
  ·intro k x hx _ h0 h1 hw
   have hq:=K34 hx
   have hq2:=K35 hx
   have hx3:a.Disk.Containers[k]? =some x:=hx
   have hx2:(k:Int)<(a.Disk.Containers.length:Int):=by have:=Kb hx;omega
   have hx4:(k:Int)<a.Disk.Containers.length:=by have:=Kb hx3;omega
   simp only[go_sem,K7 hx3,hx2,h0]
   apply K0 (C31 x.Captures (by omega))
   by_cases hf:flat (x.Captures.map GCapture.enc)=true
   all_goals
    simp only[go_sem,hw,hf,K24 hx,List.length_append]
    simp only[roomB]
    exact⟨by omega,fun _=>by rw[List.map_append]⟩
  ·intro _
   simp only[go_sem,List.take_length,Int.lt_irrefl]
   rw[Kr,K6d hN,hC0]
   rfl
 ·have eL:True:=trivial
  refine K5 (a.Disk.Containers) (fun k=>[(4,.val false [.ref 1 0 9 0 (Kx ((a.Disk.Containers).take k)).length]),(5,vI k)]) (fun k=>[(1,⟨0,.row true 9 ((Kx ((a.Disk.Containers).take k)).map GCapture.enc)⟩)]) (fun _=>True) (by simp only[roomB];omega) ?_
  simp only[go_sem]
  refine⟨?_,trivial,?_,?_⟩
  ·simp only[go_sem,List.take_zero]
   exact⟨rfl,rfl⟩
  ·intro k x hx _ h0 h1 hw
   have hq:=K34 hx
   have hq2:=K35 hx
   have hx3:a.Disk.Containers[k]? =some x:=hx
   have hx2:(k:Int)<(a.Disk.Containers.length:Int):=by have:=Kb hx;omega
   have hx4:(k:Int)<a.Disk.Containers.length:=by have:=Kb hx3;omega
   simp only[go_sem,K7 hx3,hx2,h0]
   apply K0 (C31 x.Captures (by omega))
   by_cases hf:flat (x.Captures.map GCapture.enc)=true
   all_goals
    simp only[go_sem,hw,hf,K24 hx,List.length_append]
    simp only[roomB]
    exact⟨by omega,fun _=>by rw[List.map_append]⟩
  ·intro _
   simp only[go_sem,List.take_length,Int.lt_irrefl]
   rw[Kr,K9s h]
theorem K47(a:GArchive):(Kr a).length+((Kr a).map GCapture.size).sum≤a.size:=by
 have h:(Kr a).length+((Kr a).map GCapture.size).sum≤(a.Disk.Containers.map GContainer.size).sum:=by
  unfold Kr told
  split
  ·exact K4j
  ·rw[List.dropLast_eq_take]
   exact Nat.le_trans K4j (K18 _ _)
 simp only[GArchive.size,GDisk.size]
 omega
def seen(a:GArchive):List GCapture:=visible (Kr a) a.Exclusions a.Now
def served(a:GArchive):List GCapture:=(seen a).drop ((seen a).length-20)
theorem Ka1{α:Type}{f:α→Nat}(l:List α)(k:Nat):((l.drop k).map f).sum≤(l.map f).sum:=by
 conv=>rhs;rw[←List.take_append_drop k l]
 rw[List.map_append,List.sum_append]
 omega
end Go.Proofs.YtflhjihoifbmfaaGreatR
namespace Go.Proofs.YtflhjihoifbmfaaGreatR
open Go Go.RowKit Go.Proofs
open Nat (reduceEqDiff reduceLT reduceLeDiff reduceAdd reduceMul)
open List (reduceReplicate)
def put:List Int→Int→List Int
 | [],n=>[n]
 |x::l,n=>if x<n then x::put l n else if x=n then x::l else n::x::l
def puts(zs:List Int):List Int:=zs.foldl put []
end Go.Proofs.YtflhjihoifbmfaaGreatR
namespace Go.Proofs.YtflhjihoifbmfaaGreatR
open Go Go.RowKit Go.Proofs
open Nat (reduceEqDiff reduceLT reduceLeDiff reduceAdd reduceMul)
open List (reduceReplicate)
end Go.Proofs.YtflhjihoifbmfaaGreatR
namespace Go.Proofs.YtflhjihoifbmfaaGreatR
open Go Go.RowKit Go.Proofs
open Nat (reduceEqDiff reduceLT reduceLeDiff reduceAdd reduceMul)
open List (reduceReplicate)
end Go.Proofs.YtflhjihoifbmfaaGreatR
namespace Go.Proofs.YtflhjihoifbmfaaGreatR
open Go Go.RowKit Go.Proofs
open Nat (reduceEqDiff reduceLT reduceLeDiff reduceAdd reduceMul)
open List (reduceReplicate)
def ticks(l:List GCapture)(a:GAddress):List Int:=(l.filter fun c=>decide (c.Address=a)).map (·.Tick)
def lo(a:GArchive)(x:GAddress):List Int:=puts (ticks (served a) x)
end Go.Proofs.YtflhjihoifbmfaaGreatR
namespace Go.Proofs.YtflhjihoifbmfaaGreatR
open Go Go.RowKit Go.Proofs
open Nat (reduceEqDiff reduceLT reduceLeDiff reduceAdd reduceMul)
open List (reduceReplicate)
end Go.Proofs.YtflhjihoifbmfaaGreatR
namespace Go.Proofs.YtflhjihoifbmfaaGreatR
open Go Go.RowKit Go.Proofs
open Nat (reduceEqDiff reduceLT reduceLeDiff reduceAdd reduceMul)
open List (reduceReplicate)
def digest(r:GResource):Int:=hashL (K3k r)
def M65:MC:=
(Zs [.box 1 0 (.s 0),.mv 2 (ci 0)] [1] (Zs [lT 3 5 1,.call 4 [1] (.f N2o) [.s 3],.call 5 [] (.f N9p) [.s 4],mS 2 5] [2] .ret))
theorem C1u(r:GResource)(hs:r.Body.length≤1073741824):Ctr Tryz.prog N1y [aS r.enc] [rI (digest r)]:=by
 refine cA M65 2 6 [(.tmp 2,[false])] Tryz.func106 rfl rfl ?_;unfold M65
 intro hb
 clear hb
 simp only[go_sem]
 apply K0 (C89 r hs)
 simp only[go_sem]
 intros
 apply K0 (Cb4 (K3k r))
 simp only[go_sem]
 try intros
 try rfl
def M6g:MC:=
(Zs [.box 1 0 (.s 0),.mv 2 (ci 0)] [1] (Zs [lT 3 5 1,.call 4 [1] (.f N2z) [.s 3],.call 5 [] (.f N9s) [.s 4],mS 2 5] [2] .ret))
theorem C63(r:GResource)(hs:r.Body.length≤1073741824):Ctr Tryz.prog N20 [aS r.enc] [rI (digest r)]:=by
 refine cA M6g 2 6 [(.tmp 2,[false])] Tryz.func99 rfl rfl ?_;unfold M6g
 intro hb
 clear hb
 simp only[go_sem]
 apply K0 (C8k r hs)
 simp only[go_sem]
 intros
 apply K0 (Cb7 (K3k r))
 simp only[go_sem]
 try intros
 try rfl
end Go.Proofs.YtflhjihoifbmfaaGreatR
namespace Go.Proofs.YtflhjihoifbmfaaGreatR
open Go Go.RowKit Go.Proofs
open Nat (reduceEqDiff reduceLT reduceLeDiff reduceAdd reduceMul)
open List (reduceReplicate)
def K2p(d:Int)(p:GPart):Bool:=decide (p.Digest=d)
def M66:MC:=
(Zs [.box 2 0 (.s 0),.mv 3 cF] [1,2] (Zs [fS 4 2 0,lF 5 1 4,lF 6 1 1,bS 7 .eql 5 6,mS 3 7] [3] .ret))
theorem Ca8(p:GPart)(d:Int):Ctr Tryz.prog N6i [aS p.enc,(false,[.pb [tI d]])] [rB (K2p d p)]:=by
 refine cA M66 1 8 [(.tmp 3,[false])] Tryz.func163 rfl rfl ?_;unfold M66
 intro hb
 clear hb
 simp only[go_sem]
 rfl
def M7r:MC:=
(Zs [.box 3 0 (.s 1),.mv 4 (ci 0)] [0,3] (Zs [mS 5 0,.clos 6 N6i [3],.call 7 [] (.f Na) [.s 5,.s 6],mS 4 7] [4] .ret))
theorem Cax(l:List GPart)(d:Int):Ctr Tryz.prog N82 [aL 7 (l.map GPart.enc),aI d] [rI (idxF (K2p d) l)]:=by
 refine cA M7r 1 8 [(.tmp 4,[false])] Tryz.func107 rfl rfl ?_;unfold M7r
 intro hb
 clear hb
 simp only[go_sem]
 apply K0 (C61 l _ [.pb [tI d]] (K2p d) fun p _=>Ca8 p d)
 simp only[go_sem]
 try (intros;rfl)
def M81:MC:=
(Zs [.mv 4 (ci 0)] [0,1] (.seq (Zs [.mv 5 (ci 0)] [0,1,5] (.block 0 (.loop ([0,1,5],[]) (.seq (Zs [mS 6 5,mS 7 0,nS 8 7,bS 9 .lss 6 8] [0,1,5,9] (cX 9 0))
(.seq (.block 1 (Zs [mS 12 0,mS 13 5,xS 14 7 12 13,fS 15 14 0,lF 16 1 15,mS 17 1,bS 18 .eql 16 17] [0,1,5,18] (.cond (.s 18) (Zs [mS 19 5,mS 4 19] [4] .ret) .skip)))
(pr [mS 10 5,bC 11 .add 10 1,mS 5 11] [0,1,5]))))))
(Zs [.mv 4 (.c (.int .i64 (-1)))] [4] .ret)))
theorem Cb2(l:List GPart)(d:Int)(hl:l.length≤1073741824):Ctr Tryz.prog N87 [aL 7 (l.map GPart.enc),aI d] [rI (idxF (K2p d) l)]:=by
 refine cA M81 0 20 [(.tmp 4,[false])] Tryz.func100 rfl rfl ?_;unfold M81
 intro hb
 clear hb
 simp only[go_sem]
 refine K5 l (fun k=>[(5,vI k)]) (fun k=>[]) (fun k=>(l.take k).any (K2p d)=false) (by simp only[roomB];omega) ?_
 simp only[go_sem]
 refine⟨?_,by simp,?_,?_⟩
 ·simp only[go_sem]
  try trivial
 ·intro k p hx hI h0 h1 hw
  simp only[go_sem,K7 hx,h0,h1,hw]
  refine⟨fun h=>?_,fun h=>?_⟩
  ·exact(K8f hx hI (by unfold K2p;exact decide_eq_true h)).symm
  ·exact K87 hx hI (by unfold K2p;exact decide_eq_false h)
 ·intro hI
  simp only[go_sem]
  rw[List.take_length]at hI
  exact(K8g hI).symm
def K15:Option Int→List GPart→Bool
 |_,[]=>true
 |b,p::l=>(match b with
  |some d=>decide (d<p.Digest)
  |none=>true)&&(K1a p.Resource&&(decide (digest p.Resource=p.Digest)&&(decide (1≤p.Uses∧p.Uses≤1000)&&K15 (some p.Digest) l)))
theorem K3l{b:Option Int}{p:GPart}{l:List GPart}:K15 b (p::l)=((match b with
  |some d=>decide (d<p.Digest)
  |none=>true)&&(K1a p.Resource&&(decide (digest p.Resource=p.Digest)&&(decide (1≤p.Uses∧p.Uses≤1000)&&K15 (some p.Digest) l)))):=rfl
def K2d(l:List GPart):Bool:=decide (l.length≤30)&&K15 none l
def prevD(l:List GPart):Nat→Option Int
 |0=>none
 |k+1=>(l[k]?).map fun p=>p.Digest
def M6y:MC:=
(Zs [.mv 2 cF] [0] (.seq (Zs [mS 5 0,nS 6 5,bC 7 .gtr 6 30] [0,7] (.cond (.s 7) (Zs [.mv 2 cF] [2] .ret) .skip))
(.seq (Zs [mS 8 0,nS 9 8,.mv 10 (ci 0)] [0,8,9,10] (.block 0 (.loop ([0,8,9,10],[0]) (Zs [bS 11 .lss 10 9] [0,8,9,10,11] (.seq (cX 11 0)
(.seq (.block 1 (Zs [mS 12 10,xS 13 7 8 10,lT 14 7 13,.alloc 4 0 [pz,pz,.emp 1,pz,pz,pz,pz],mS 3 12,sS 7 4 14] [0,3,4,8,9,10] (.seq (.dreg [Za (mS 15 3),Ze [0] (bC 16 .gtr 15 0),Ze [0,1] (mS 17 16),{o:=mS 18 0,g:=some (17,true),hs:=[19,20,24,25],bf:=[0,1,2]},{o:=mS 19 3,g:=some (17,true),hs:=[18,24,25],bf:=[0,1,2]},{o:=bC 20 .sub 19 1,g:=some (17,true),hs:=[18,24,25],bf:=[0,1,2,4]},{o:=xS 21 7 18 20,g:=some (17,true),hs:=[24,25],bf:=(.range 6)},{o:=fS 22 21 0,g:=some (17,true),hs:=[24,25],bf:=(.range 7)},{o:=lF 23 1 22,g:=some (17,true),hs:=[24,25],bf:=(.range 8)},{o:=fS 24 4 0,g:=some (17,true),hs:=[18,19,20,21,22,23],bf:=[0,1,2]},{o:=lF 25 1 24,g:=some (17,true),hs:=[18,19,20,21,22,23],bf:=[0,1,2,9]},{o:=bS 26 .geq 23 25,g:=some (17,true),bf:=(.range 11)},Ze (.range 12) (.pick 27 (.s 17) (.s 26) cF),Ze (.range 13) (mS 28 27),{o:=fS 29 4 1,g:=some (28,false),bf:=(.range 14)},{o:=lT 30 5 29,g:=some (28,false),bf:=(.range 15)},{o:= .call 31 [] (.f N4i) [.s 30],g:=some (28,false),bf:=(.range 16)},{o:= .un 32 .not (.s 31),g:=some (28,false),bf:=(.range 17)},Ze (.range 18) (.pick 33 (.s 28) cT (.s 32)),Ze (.range 19) (mS 34 33),{o:=fS 35 4 1,g:=some (34,false),hs:=[38,39],bf:=(.range 20)},{o:=lT 36 5 35,g:=some (34,false),hs:=[38,39],bf:=(.range 21)},{o:= .call 37 [] (.f N1y) [.s 36],g:=some (34,false),hs:=[38,39],bf:=(.range 22)},{o:=fS 38 4 0,g:=some (34,false),hs:=[35,36,37],bf:=(.range 20)},{o:=lF 39 1 38,g:=some (34,false),hs:=[35,36,37],bf:=[0,1,2,3,4,5,6,7,8,9,10,11,12,13,14,15,16,17,18,19,23]},{o:=bS 40 .neq 37 39,g:=some (34,false),bf:=(.range 25)},Ze (.range 26) (.pick 41 (.s 34) cT (.s 40)),Ze (.range 27) (mS 42 41),{o:=fS 43 4 6,g:=some (42,false),bf:=(.range 28)},{o:=lF 44 1 43,g:=some (42,false),bf:=(.range 29)},{o:= .call 45 [] (.f Nz) [.s 44,.c (.int .i64 1),.c (.int .i64 1000)],g:=some (42,false),bf:=(.range 30)},{o:= .un 46 .not (.s 45),g:=some (42,false),bf:=(.range 31)},Ze (.range 32) (.pick 47 (.s 42) cT (.s 46))] [0,8,9,10,47])
(.cond (.s 47) (Zs [.mv 2 cF] [2] .ret) .skip))))
(pr [bC 48 .add 10 1,mS 10 48] [0,8,9,10])))))))
(Zs [.mv 2 cT] [2] .ret))))
set_option maxHeartbeats 2000000 in
theorem C1a(l:List GPart)(hs:l.length+(l.map GPart.size).sum≤1073741824):Ctr Tryz.prog N32 [aL 7 (l.map GPart.enc)] [rB (K2d l)]:=by
 refine cA M6y 1 49 [(.tmp 2,[false])] Tryz.func105 rfl rfl ?_;unfold M6y
 intro hb
 clear hb
 simp only[go_sem]
 refine⟨fun h=>?_,fun h=>?_⟩
 ·unfold K2d
  rw[decide_eq_false (by omega)]
  rfl
 ·unfold K2d
  rw[decide_eq_true (by omega),Bool.true_and]
  refine K5 l (fun k=>[(10,vI k)]) (fun k=>[]) (fun k=>K15 none l=K15 (prevD l k) (l.drop k)) (by simp only[roomB];omega) ?_
  simp only[go_sem]
  refine⟨?_,by simp[prevD],?_,?_⟩
  ·simp only[go_sem]
   try trivial
  ·intro k p hx hI h0 h1 hw
   have hk:=Kb hx
   have hx1:=K1w (f:=GPart.size) (K1e hx)
   have hbl:p.Resource.Body.length≤1073741824:=by simp only[GPart.size,GResource.size]at hx1;omega
   rw[K13 hx,K3l]at hI
   have hnx:prevD l (k+1)=some p.Digest:=by simp[prevD,hx]
   simp only[go_sem,K7 hx,h0,h1]
   refine⟨fun hk0=>?_,fun hk0=>?_⟩
   ·obtain⟨m,rfl⟩:∃m,k=m+1:=⟨k-1,by omega⟩
    obtain⟨y,hy⟩:=Kh (l:=l) (k:=m) (by omega)
    have e1:IntKind.i64.wrap (((m+1:Nat):Int)-1)=(m:Int):=by rw[wI (by omega) (by omega)];omega
    rw[show prevD l (m+1)=some y.Digest by simp[prevD,hy]]at hI
    rw[e1,Int.toNat_natCast,hy]
    refine⟨⟨by omega,by omega⟩,?_⟩
    simp only[go_sem]
    refine⟨fun hg=>?_,fun hg=>?_⟩
    ·rw[hI]
     simp only[decide_eq_false (show ¬y.Digest<p.Digest by omega),Bool.false_and]
    ·simp only[decide_eq_true (show y.Digest<p.Digest by omega),Bool.true_and]at hI
     apply K0 (C3u p.Resource)
     simp only[go_sem]
     refine⟨fun hr=>?_,fun hr=>?_⟩
     ·rw[hI,hr]
      rfl
     ·rw[hr,Bool.true_and]at hI
      apply K0 (C1u p.Resource hbl)
      simp only[go_sem]
      try intro _
      refine⟨fun hd=>?_,fun hd=>?_⟩
      ·intro _
       rw[hI,decide_eq_false hd]
       rfl
      ·rw[decide_eq_true hd,Bool.true_and]at hI
       apply K0 (Cb p.Uses 1 1000)
       simp only[go_sem,hw]
       intro _
       refine⟨fun hu=>?_,fun hu=>?_⟩
       ·rw[hI,decide_eq_false hu]
        rfl
       ·rw[decide_eq_true hu,Bool.true_and]at hI
        rw[hnx]
        first
         |exact hI
         |exact⟨hw,hI⟩
   ·obtain rfl:k=0:=by omega
    rw[show prevD l 0=none from rfl]at hI
    simp only[Bool.true_and]at hI
    apply K0 (C3u p.Resource)
    simp only[go_sem]
    refine⟨fun hr=>?_,fun hr=>?_⟩
    ·rw[hI,hr]
     rfl
    ·rw[hr,Bool.true_and]at hI
     apply K0 (C1u p.Resource hbl)
     simp only[go_sem]
     try intro _
     refine⟨fun hd=>?_,fun hd=>?_⟩
     ·intro _
      rw[hI,decide_eq_false hd]
      rfl
     ·rw[decide_eq_true hd,Bool.true_and]at hI
      apply K0 (Cb p.Uses 1 1000)
      simp only[go_sem]
      intro _
      refine⟨fun hu=>?_,fun hu=>?_⟩
      ·rw[hI,decide_eq_false hu]
       rfl
      ·rw[decide_eq_true hu,Bool.true_and]at hI
       rw[hnx]
       first
        |exact hI
        |exact⟨hw,hI⟩
  ·intro hI
   simp only[go_sem]
   rw[hI,List.drop_length]
   rfl
def M77:MC:=
(Zs [.mv 2 cF] [0] (.seq (Zs [.mv 3 (ci 0)] [0,3] (.block 0 (.loop ([0,3],[]) (.seq (Zs [mS 4 3,mS 5 0,nS 6 5,bS 7 .lss 4 6] [0,3,7] (cX 7 0))
(.seq (.block 1 (.seq (.dreg [Zc [11] (mS 10 0),Zc [10] (mS 11 3),Ze [0,1] (xS 12 7 10 11),Ze [0,1,2] (fS 13 12 1),Ze (.range 4) (lT 14 5 13),Ze (.range 5) (.call 15 [] (.f N4x) [.s 14]),Ze (.range 6) (.un 16 .not (.s 15)),Ze (.range 7) (mS 17 16),{o:=mS 18 0,g:=some (17,false),hs:=[19,23,24,25,26,27,28],bf:=(.range 8)},{o:=mS 19 3,g:=some (17,false),hs:=[18,23,24,25,26,27,28],bf:=(.range 8)},{o:=xS 20 7 18 19,g:=some (17,false),hs:=[23,24,25,26,27,28],bf:=(.range 10)},{o:=fS 21 20 0,g:=some (17,false),hs:=[23,24,25,26,27,28],bf:=(.range 11)},{o:=lF 22 1 21,g:=some (17,false),hs:=[23,24,25,26,27,28],bf:=(.range 12)},{o:=mS 23 0,g:=some (17,false),hs:=[18,19,20,21,22,24],bf:=(.range 8)},{o:=mS 24 3,g:=some (17,false),hs:=[18,19,20,21,22,23],bf:=(.range 8)},{o:=xS 25 7 23 24,g:=some (17,false),hs:=[18,19,20,21,22],bf:=[0,1,2,3,4,5,6,7,13,14]},{o:=fS 26 25 1,g:=some (17,false),hs:=[18,19,20,21,22],bf:=[0,1,2,3,4,5,6,7,13,14,15]},{o:=lT 27 5 26,g:=some (17,false),hs:=[18,19,20,21,22],bf:=[0,1,2,3,4,5,6,7,13,14,15,16]},{o:= .call 28 [] (.f N20) [.s 27],g:=some (17,false),hs:=[18,19,20,21,22],bf:=[0,1,2,3,4,5,6,7,13,14,15,16,17]},{o:=bS 29 .neq 22 28,g:=some (17,false),bf:=(.range 19)},Ze (.range 20) (.pick 30 (.s 17) cT (.s 29)),Ze (.range 21) (mS 31 30),{o:=mS 32 0,g:=some (31,false),hs:=[33],bf:=(.range 22)},{o:=mS 33 3,g:=some (31,false),hs:=[32],bf:=(.range 22)},{o:=xS 34 7 32 33,g:=some (31,false),bf:=(.range 24)},{o:=fS 35 34 6,g:=some (31,false),bf:=(.range 25)},{o:=lF 36 1 35,g:=some (31,false),bf:=(.range 26)},{o:= .call 37 [] (.f N14) [.s 36,.c (.int .i64 1),.c (.int .i64 1000)],g:=some (31,false),bf:=(.range 27)},{o:= .un 38 .not (.s 37),g:=some (31,false),bf:=(.range 28)},Ze (.range 29) (.pick 39 (.s 31) cT (.s 38)),Ze (.range 30) (mS 40 39),{o:=mS 41 3,g:=some (40,false),bf:=(.range 31)},{o:=bC 42 .gtr 41 0,g:=some (40,false),bf:=(.range 32)},{o:=mS 43 42,g:=some (40,false),bf:=(.range 33)},{o:=mS 44 0,g:=some (43,true),hs:=[45,46,50,51,52,53,54],bf:=(.range 34)},{o:=mS 45 3,g:=some (43,true),hs:=[44,50,51,52,53,54],bf:=(.range 34)},{o:=bC 46 .sub 45 1,g:=some (43,true),hs:=[44,50,51,52,53,54],bf:=[0,1,2,3,4,5,6,7,8,9,10,11,12,13,14,15,16,17,18,19,20,21,22,23,24,25,26,27,28,29,30,31,32,33,35]},{o:=xS 47 7 44 46,g:=some (43,true),hs:=[50,51,52,53,54],bf:=(.range 37)},{o:=fS 48 47 0,g:=some (43,true),hs:=[50,51,52,53,54],bf:=(.range 38)},{o:=lF 49 1 48,g:=some (43,true),hs:=[50,51,52,53,54],bf:=(.range 39)},{o:=mS 50 0,g:=some (43,true),hs:=[44,45,46,47,48,49,51],bf:=(.range 34)},{o:=mS 51 3,g:=some (43,true),hs:=[44,45,46,47,48,49,50],bf:=(.range 34)},{o:=xS 52 7 50 51,g:=some (43,true),hs:=[44,45,46,47,48,49],bf:=[0,1,2,3,4,5,6,7,8,9,10,11,12,13,14,15,16,17,18,19,20,21,22,23,24,25,26,27,28,29,30,31,32,33,40,41]},{o:=fS 53 52 0,g:=some (43,true),hs:=[44,45,46,47,48,49],bf:=[0,1,2,3,4,5,6,7,8,9,10,11,12,13,14,15,16,17,18,19,20,21,22,23,24,25,26,27,28,29,30,31,32,33,40,41,42]},{o:=lF 54 1 53,g:=some (43,true),hs:=[44,45,46,47,48,49],bf:=[0,1,2,3,4,5,6,7,8,9,10,11,12,13,14,15,16,17,18,19,20,21,22,23,24,25,26,27,28,29,30,31,32,33,40,41,42,43]},{o:=bS 55 .geq 49 54,g:=some (43,true),bf:=(.range 45)},{o:= .pick 56 (.s 43) (.s 55) cF,g:=some (40,false),bf:=(.range 46)},Ze (.range 47) (.pick 57 (.s 40) cT (.s 56))] [0,3,57])
(.cond (.s 57) (Zs [.mv 2 cF] [2] .ret) .skip)))
(pr [mS 8 3,bC 9 .add 8 1,mS 3 9] [0,3]))))))
(Zs [mS 58 0,nS 59 58,bC 60 .leq 59 30,mS 2 60] [2] .ret)))
set_option maxHeartbeats 2000000 in
theorem C1b(l:List GPart)(hs:l.length+(l.map GPart.size).sum≤1073741824):Ctr Tryz.prog N35 [aL 7 (l.map GPart.enc)] [rB (K2d l)]:=by
 refine cA M77 0 61 [(.tmp 2,[false])] Tryz.func97 rfl rfl ?_;unfold M77
 intro hb
 clear hb
 simp only[go_sem]
 refine K5 l (fun k=>[(3,vI k)]) (fun k=>[]) (fun k=>K15 none l=K15 (prevD l k) (l.drop k)) (by simp only[roomB];omega) ?_
 simp only[go_sem]
 refine⟨?_,by simp[prevD],?_,?_⟩
 ·simp only[go_sem]
  try trivial
 ·intro k p hx hI h0 h1 hw
  have hk:=Kb hx
  have hx1:=K1w (f:=GPart.size) (K1e hx)
  have hbl:p.Resource.Body.length≤1073741824:=by simp only[GPart.size,GResource.size]at hx1;omega
  rw[K13 hx,K3l]at hI
  have hnx:prevD l (k+1)=some p.Digest:=by simp[prevD,hx]
  have hno:K15 none l=false→false=K2d l:=fun h=>by unfold K2d;rw[h,Bool.and_false]
  simp only[go_sem,K7 hx,h0,h1]
  apply K0 (C9j p.Resource)
  simp only[go_sem,K7 hx,h0,h1]
  refine⟨fun hr=>?_,fun hr=>?_⟩
  ·exact hno (by rw[hI,hr,Bool.false_and,Bool.and_false])
  ·rw[hr,Bool.true_and]at hI
   apply K0 (C63 p.Resource hbl)
   simp only[go_sem,K7 hx,h0,h1]
   refine⟨fun hd=>?_,fun hd=>?_⟩
   ·intro _
    exact hno (by rw[hI,decide_eq_false (fun e=>hd e.symm),Bool.false_and,Bool.and_false])
   ·rw[decide_eq_true hd.symm,Bool.true_and]at hI
    apply K0 (Cx p.Uses 1 1000)
    simp only[go_sem,K7 hx,h0,h1,hw]
    refine⟨fun hu=>?_,fun hu=>⟨fun hk0=>?_,fun hk0=>?_⟩⟩
    ·intro _
     exact hno (by rw[hI,decide_eq_false hu,Bool.false_and,Bool.and_false])
    ·rw[decide_eq_true hu,Bool.true_and]at hI
     obtain⟨m,rfl⟩:∃m,k=m+1:=⟨k-1,by omega⟩
     obtain⟨y,hy⟩:=Kh (l:=l) (k:=m) (by omega)
     have e1:IntKind.i64.wrap (((m+1:Nat):Int)-1)=(m:Int):=by rw[wI (by omega) (by omega)];omega
     rw[show prevD l (m+1)=some y.Digest by simp[prevD,hy]]at hI
     rw[e1,Int.toNat_natCast,hy]
     refine⟨⟨by omega,by omega⟩,?_⟩
     simp only[go_sem]
     intro _
     refine⟨fun hg=>?_,fun hg=>?_⟩
     ·exact hno (by rw[hI];simp only[decide_eq_false (show ¬y.Digest<p.Digest by omega),Bool.false_and])
     ·simp only[decide_eq_true (show y.Digest<p.Digest by omega),Bool.true_and]at hI
      rw[hnx]
      exact hI
    ·intro _
     rw[decide_eq_true hu,Bool.true_and]at hI
     obtain rfl:k=0:=by omega
     rw[show prevD l 0=none from rfl]at hI
     simp only[Bool.true_and]at hI
     rw[hnx]
     exact hI
 ·intro hI
  simp only[go_sem]
  rw[List.drop_length]at hI
  unfold K2d
  rw[hI,show K15 (prevD l l.length) []=true by cases prevD l l.length<;>rfl,Bool.and_true]
  rw[decide_eq_decide]
  omega
end Go.Proofs.YtflhjihoifbmfaaGreatR
namespace Go.Proofs.YtflhjihoifbmfaaGreatR
open Go Go.RowKit Go.Proofs
open Nat (reduceEqDiff reduceLT reduceLeDiff reduceAdd reduceMul)
open List (reduceReplicate)
section
variable {P:Program}
theorem K2k(w:World)(dT sT ty elem:TypeId)(b o dLen dCap m:Nat)(a:Addr)(sLen sCap k:Nat)(cs:List Value)
  (hu:P.underlying dT=some (.slice elem)) (hs:(P.info? elem).map (·.size)=some k) (hm:m=Nat.min sLen dLen) (hn:cs.length=m*k)
  (hsrc:∀j v,cs[j]? =some v→w.cell? (a.add j)=some v) (hdst:∀j,j<cs.length→(w.cell? ⟨b,o+j,none⟩).isSome=true) (hfz:∀j,j<cs.length→w.frozen? ⟨b,o+j,none⟩=false) (h1:∀v∈cs,v.oneCell'=true):
  (Builtin.copy_ #[dT,sT] ty #[.slice (some ⟨b,o,none⟩) dLen dCap,.slice (some a) sLen sCap]).run P w= .ok (goInt m) (w.setCells b o cs):=by
 have hl:=run_loadCells_list (P:=P) w a cs hsrc
 have hst:=run_storeCells_cells (P:=P) b o cs 0 w (by simpa using hdst) (by simpa using hfz) h1
 simp only[Nat.add_zero]at hst
 cases hq:P.info? elem with
 |none=>simp[hq]at hs
 |some i=>
  have hi:i.size=k:=by simpa[hq]using hs
  simp[Builtin.copy_,run_underlying hu,Builtin.lenOf,Builtin.firstCells,sizeOf,typeInfo,hq,hi,←hm,←hn,hl,hst]
end
theorem info_size{P:Program}{e:TypeId}{k:Nat}(h:∀w,(Go.sizeOf e).run P w= .ok k w):∃i,P.info? e=some i∧i.size=k:=by
 have h:=h default
 cases hq:P.info? e with
 |none=>simp[sizeOf,typeInfo,hq]at h
 |some i=>exact⟨i,rfl,by simpa[sizeOf,typeInfo,hq]using h⟩
set_option maxHeartbeats 4000000 in
set_option maxRecDepth 100000 in
theorem K8s(b off n c vb voff vc:Nat)(vs:List Value)(w:World)(hroom:n+1≤c)(hc63:c≤9223372036854775807)(hvl:vs.length=7)
  (hsp:∀j,j<7→(w.cell? ⟨b,off+n*7+j,none⟩).isSome=true) (hfz:∀j,j<7→w.frozen? ⟨b,off+n*7+j,none⟩=false)
  (hvs:∀j v,vs[j]? =some v→w.cell? ⟨vb,voff+j,none⟩=some v) (h1v:∀v∈vs,v.oneCell'=true):
  Calls Tryz.prog 108 #[.slice (some ⟨b,off,none⟩) n c,.int .i64 n,.slice (some ⟨vb,voff,none⟩) 1 vc] w fun e w'=>
   e= .returned (.slice (some ⟨b,off,none⟩) (n+1) c)∧w'=w.setCells b (off+n*7) vs:=by
 obtain⟨i7,hi7,hsz⟩:=info_size Tryz.sizeOf101
 have hap:∀ty,(Builtin.append_ #[50,50] ty #[.slice (some ⟨b,off,none⟩) n c,.slice (some ⟨vb,voff,none⟩) 1 vc]).run Tryz.prog w= .ok (.slice (some ⟨b,off,none⟩) (n+1) c) (w.setCells b (off+n*7) vs):=fun ty=>by
  have:=run_append_room_cells (P:=Tryz.prog) w 50 ty 101 i7 Tryz.underlying50 hi7 b off n c ⟨vb,voff,none⟩ 1 vc vs (by rw[hsz];omega) (fun j u hj=>by rw[Addr.add_lit];exact hvs j u hj) h1v hroom (by rw[hsz];intro j hj;exact hsp j (by omega)) (by rw[hsz];intro j hj;exact hfz j (by omega))
  rw[hsz]at this
  exact this
 have mixed:Tryz.prog.follows .mixedOrders=true:=by kernel_rfl
 go_enter Tryz.func108,Tryz.ntmps108
 go_wp2_with (at_builtin;refine Lib.wpList_append_run _ rfl _ _ _ _ rfl _ _ rfl rfl _ _ (hap _) ?_)
 go_ret
 exact⟨rfl,rfl⟩
def zeroP:Value:= .agg #[.int .i64 0,.int .i64 0,.slice none 0 0,.int .i64 0,.int .i64 0,.int .i64 0,.int .i64 0]
theorem infoP:∃i,Tryz.prog.info? 101=some i∧i.size=7∧i.bytes=72∧i.zero=some zeroP:=by
 have h:(Tryz.prog.info? 101).map (fun i=>(i.size,i.bytes,i.zero))=some (7,72,some zeroP):=by kernel_rfl
 cases hq:Tryz.prog.info? 101 with
 |none=>rw[hq]at h;cases h
 |some i=>
  rw[hq]at h
  simp only[Option.map_some,Option.some.injEq,Prod.mk.injEq]at h
  exact⟨i,rfl,h.1,h.2.1,h.2.2⟩
set_option maxHeartbeats 4000000 in
set_option maxRecDepth 100000 in
theorem K5t(base:Option Addr)(n c vb voff vc:Nat)(cs vs:List Value)(w:World)(hnc:n≤c)(hroom:c<n+1)(hbig:(n+1)*72≤140737488355328)(hcl:cs.length=n*7)(hvl:vs.length=7)(hnil:base=none→n=0)
  (hcs:∀a,base=some a→∀j v,cs[j]? =some v→w.cell? (a.add j)=some v)
  (hvs:∀j v,vs[j]? =some v→w.cell? ⟨vb,voff+j,none⟩=some v) (h1v:∀v∈vs,v.oneCell'=true):
  Calls Tryz.prog 108 #[.slice base n c,.int .i64 n,.slice (some ⟨vb,voff,none⟩) 1 vc] w fun e w'=>
   e= .returned (.slice (some ⟨w.heap.size,0,none⟩) (n+1) (grownCap w (n+1) c 101))∧
   w'=w.drew.alloc (.cells ((cs++vs).toArray++Builtin.zeroCells zeroP.cells (grownCap w (n+1) c 101-(n+1))) 101):=by
 obtain⟨i0,hi0,hzs,hzb,hz0⟩:=infoP
 have mixed:Tryz.prog.follows .mixedOrders=true:=by kernel_rfl
 have hsrc:Src Tryz.prog i0.size 50 (.slice (some ⟨vb,voff,none⟩) 1 vc) 1 vs w:=by
  rw[hzs]
  exact Src.ofSlice w Tryz.underlying50 ⟨vb,voff,none⟩ 1 vc vs (by omega) (fun j u hj=>by rw[Addr.add_lit];exact hvs j u hj) h1v
 have hold:(Builtin.firstCells i0.size n (.slice base n c)).run Tryz.prog w.drew= .ok cs.toArray w.drew:=by
  rw[hzs]
  cases base with
  |none=>
   have h0:=hnil rfl
   subst h0
   obtain rfl:cs=[]:=List.length_eq_zero_iff.1 (by simpa using hcl)
   exact run_firstCells_none w.drew 7 0 0 c
  |some a=>exact run_firstCells_some w.drew 7 n a n c cs (by omega) (fun j v hj=>hcs a rfl j v hj)
 have hrun:∀ty,(Builtin.append_ #[50,50] ty #[.slice base n c,.slice (some ⟨vb,voff,none⟩) 1 vc]).run Tryz.prog w= .ok (.slice (some ⟨w.heap.size,0,none⟩) (n+1) (grownCap w (n+1) c 101)) (w.drew.alloc (.cells ((cs++vs).toArray++Builtin.zeroCells zeroP.cells (grownCap w (n+1) c 101-(n+1))) 101)):=fun ty=>
  run_append_grow_src w 50 50 ty 101 i0 _ Tryz.underlying50 hi0 hz0 base n c cs hold _ 1 vs hsrc hroom (by omega) (by rw[hzb];exact growslice_fits hroom hbig)
 generalize zeroP.cells=Z at hrun ⊢
 go_enter Tryz.func108,Tryz.ntmps108
 cases base with
 |none=>
  have h0:=hnil rfl
  subst h0
  have hc0:c=0:=by omega
  subst hc0
  go_wp2_with (at_builtin;refine Lib.wpList_append_run _ rfl _ _ _ _ rfl _ _ rfl rfl _ _ (hrun _) ?_)
  go_ret
  exact⟨rfl,rfl⟩
 |some a=>
  have hcn:c=n:=by omega
  subst hcn
  go_wp2_with (at_builtin;refine Lib.wpList_append_run _ rfl _ _ _ _ rfl _ _ rfl rfl _ _ (hrun _) ?_)
  go_ret
  exact⟨rfl,rfl⟩
set_option maxHeartbeats 4000000 in
set_option maxRecDepth 100000 in
theorem insP_shift(b off n c i vb voff vc:Nat)(cs vs:List Value)(w:World)(hi:i<n)(hroom:n+1≤c)(hc63:c≤9223372036854775807)(hvb:vb≠b)(hcl:cs.length=n*7)(hvl:vs.length=7)
  (hcs:∀j v,cs[j]? =some v→w.cell? ⟨b,off+j,none⟩=some v) (hsp:∀j,j<(n+1)*7→(w.cell? ⟨b,off+j,none⟩).isSome=true) (hfz:∀j,j<(n+1)*7→w.frozen? ⟨b,off+j,none⟩=false)
  (hvs:∀j v,vs[j]? =some v→w.cell? ⟨vb,voff+j,none⟩=some v) (h1c:∀v∈cs,v.oneCell'=true) (h1v:∀v∈vs,v.oneCell'=true)
  (tA tB:TypeId) (kA kB:Nat) (hsa:w.shape? vb=some (tA,kA)) (hsb:w.shape? b=some (tB,kB)) (hkB:kB≠0) (hfa:w.frozen? ⟨vb,voff,none⟩=false) (hfe:w.frozen? ⟨vb,kA,none⟩=false):
  Calls Tryz.prog 108 #[.slice (some ⟨b,off,none⟩) n c,.int .i64 i,.slice (some ⟨vb,voff,none⟩) 1 vc] w fun e w'=>
   e= .returned (.slice (some ⟨b,off,none⟩) (n+1) c)∧w'=(w.drew.setCells b (off+(i+1)*7) (cs.drop (i*7))).setCells b (off+i*7) vs:=by
 obtain⟨i0,hi0,hzs,hzb,hz0⟩:=infoP
 have hsz:(Tryz.prog.info? 101).map (·.size)=some 7:=by rw[hi0];simp[hzs]
 have mixed:Tryz.prog.follows .mixedOrders=true:=by kernel_rfl
 have hov:∀lb cb,(callFunc 164 #[.slice (some ⟨vb,voff,none⟩) 1 vc,.slice (some ⟨b,off+(i+1)*7,none⟩) lb cb]).run Tryz.prog w= .ok (.value (.bool false)) w:=fun lb cb=>by
  rw[run_callFunc_extern Tryz.func164 (by kernel_rfl) (by kernel_rfl) (by kernel_rfl) (e:=Extern.SlicesOverlaps.overlaps #[50,50] #[4]) (by kernel_rfl),
   Lib.run_overlaps_apart w 50 4 101 Tryz.underlying50 7 Tryz.sizeOf101 ⟨vb,voff,none⟩ ⟨b,off+(i+1)*7,none⟩ 1 vc lb cb hvb tA tB kA kB hsa hsb hkB hfa hfe]
  rfl
 have hdl:(cs.drop (i*7)).length=(n-i)*7:=by rw[List.length_drop,hcl];omega
 have hw1:IntKind.i64.wrap ((i:Int)+1)=(i:Int)+1:=by rw[IntKind.wrap_i64];omega
 have hw2:IntKind.i64.wrap ((n:Int)+1)=(n:Int)+1:=by rw[IntKind.wrap_i64];omega
 have hb1:(0:Int)≤(i:Int)+1:=by omega
 have hin:i≤n:=by omega
 have htn:((i:Int)+1).toNat=i+1:=by omega
 have htn2:((n:Int)+1).toNat=n+1:=by omega
 have hb2:¬(c=i+1):=by omega
 have hb3:(i:Int)≤(n:Int)+1:=by omega
 have hb4:¬(c=i):=by omega
 have hcp1:∀ty dc sc,(Builtin.copy_ #[50,50] ty #[.slice (some ⟨b,off+(i+1)*7,none⟩) (n-i) dc,.slice (some ⟨b,off+i*7,none⟩) (n+1-i) sc]).run Tryz.prog w.drew= .ok (goInt ((n-i:Nat):Int)) (w.drew.setCells b (off+(i+1)*7) (cs.drop (i*7))):=fun ty dc sc=>
  K2k w.drew _ _ ty 101 b (off+(i+1)*7) (n-i) dc (n-i) ⟨b,off+i*7,none⟩ (n+1-i) sc 7 (cs.drop (i*7)) Tryz.underlying50 hsz (by simp only[Nat.min_def];split<;>omega) hdl
   (fun j v hj=>by rw[Addr.add_lit,Nat.add_assoc];exact hcs (i*7+j) v (by rwa [List.getElem?_drop]at hj))
   (fun j hj=>by rw[Nat.add_assoc];exact hsp _ (by omega)) (fun j hj=>by rw[Nat.add_assoc];exact hfz _ (by omega)) (fun v hv=>h1c v (List.mem_of_mem_drop hv))
 obtain⟨W1,hW1⟩:∃W1,W1=w.drew.setCells b (off+(i+1)*7) (cs.drop (i*7)):=⟨_,rfl⟩
 have hsp1:∀k,k<(n+1)*7→(W1.cell? ⟨b,off+k,none⟩).isSome=true:=fun k hk=>by
  rw[hW1]
  exact isSome_setCells b _ _ _ (fun j hj=>by rw[Nat.add_assoc];exact hsp _ (by omega)) _ (hsp k hk)
 have hcp2:∀(W:World),(∀x,W.cell? x=W1.cell? x)→(∀x,W.frozen? x=W1.frozen? x)→∀ty dc,(Builtin.copy_ #[50,50] ty #[.slice (some ⟨b,off+i*7,none⟩) (n+1-i) dc,.slice (some ⟨vb,voff,none⟩) 1 vc]).run Tryz.prog W= .ok (goInt ((1:Nat):Int)) (W.setCells b (off+i*7) vs):=fun W hWc hWf ty dc=>
  K2k W _ _ ty 101 b (off+i*7) (n+1-i) dc 1 ⟨vb,voff,none⟩ 1 vc 7 vs Tryz.underlying50 hsz (by simp only[Nat.min_def];split<;>omega) (by omega)
   (fun j v hj=>by
    rw[Addr.add_lit,hWc,hW1,World.cell?_setCells_out b _ _ _ _ (fun h _=>absurd h hvb)]
    exact hvs j v hj)
   (fun j hj=>by rw[hWc,Nat.add_assoc];exact hsp1 _ (by omega)) (fun j hj=>by rw[hWf,hW1,World.frozen?_setCells,Nat.add_assoc];exact hfz _ (by omega)) h1v
 rw[←hW1]at hcp1
 go_enter Tryz.func108,Tryz.ntmps108
 go_wp2_with (simp only[hov])
 go_region_law_o (refine step_copy_runI rfl _ _ 50 50 rfl _ _ (by simp[Act.eval,Act.put]) (by simp[Act.eval,Act.put]) (hcp1 _ _ _) ?_)
 go_wp2_with (at_builtin;refine wpList_copy_runI _ rfl _ _ 50 50 rfl _ _ rfl rfl (hcp2 _ (fun _=>rfl) (fun _=>rfl) _ _) ?_)
 go_ret
 first|exact⟨rfl,rfl⟩|exact⟨rfl,by rw[hW1]⟩
theorem K44(k:Nat):(Builtin.zeroCells zeroP.cells k).size=k*7:=by
 simp[Builtin.zeroCells,zeroP,Value.cells]
set_option maxHeartbeats 4000000 in
set_option maxRecDepth 100000 in
theorem insP_grow(b off n c i vb voff vc:Nat)(cs vs:List Value)(w:World)(hi:i<n)(hnc:n≤c)(hroom:c<n+1)(hbig:(n+1)*72≤140737488355328)(hcl:cs.length=n*7)(hvl:vs.length=7)
  (hcs:∀j v,cs[j]? =some v→w.cell? ⟨b,off+j,none⟩=some v) (hvs:∀j v,vs[j]? =some v→w.cell? ⟨vb,voff+j,none⟩=some v) (h1c:∀v∈cs,v.oneCell'=true) (h1v:∀v∈vs,v.oneCell'=true):
  Calls Tryz.prog 108 #[.slice (some ⟨b,off,none⟩) n c,.int .i64 i,.slice (some ⟨vb,voff,none⟩) 1 vc] w fun e w'=>
   e= .returned (.slice (some ⟨w.heap.size,0,none⟩) (n+1) (grownCap w (n+1) c 101))∧
   w'=(((w.alloc (.cells ((cs.take (i*7)).toArray++Builtin.zeroCells zeroP.cells (n+1-i)++Builtin.zeroCells zeroP.cells (grownCap w (n+1) c 101-(n+1))) 101)).drew.setCells w.heap.size (i*7) vs).drew).setCells w.heap.size ((i+1)*7) (cs.drop (i*7)):=by
 obtain⟨i0,hi0,hzs,hzb,hz0⟩:=infoP
 have hsz:(Tryz.prog.info? 101).map (·.size)=some 7:=by rw[hi0];simp[hzs]
 have mixed:Tryz.prog.follows .mixedOrders=true:=by kernel_rfl
 have hcn:c=n:=by omega
 subst hcn
 have hbw:b<w.heap.size:=block_lt_of_cell (hcs 0 _ (List.getElem?_eq_getElem (by omega)))
 have hvw:vb<w.heap.size:=block_lt_of_cell (hvs 0 _ (List.getElem?_eq_getElem (by omega)))
 have hkk:(c:Int)+1-(i:Int)=((c+1-i:Nat):Int):=by omega
 have hik:i+(c+1-i)=c+1:=by omega
 have hold:(Builtin.firstCells i0.size i (.slice (some ⟨b,off,none⟩) i c)).run Tryz.prog w.drew= .ok (cs.take (i*7)).toArray w.drew:=by
  rw[hzs]
  exact run_firstCells_some w.drew 7 i ⟨b,off,none⟩ i c (cs.take (i*7)) (by rw[List.length_take];omega) (fun j v hj=>by
   rw[Addr.add_lit]
   rw[List.getElem?_take]at hj
   split at hj
   ·exact hcs j v hj
   ·cases hj)
 have hrz:∀ty,(Builtin.append_ #[50,3] ty #[.slice (some ⟨b,off,none⟩) i c,.int .i64 ((c:Int)+1-(i:Int))]).run Tryz.prog w=
   .ok (.slice (some ⟨w.heap.size,0,none⟩) (c+1) (grownCap w (c+1) c 101)) (w.drew.alloc (.cells ((cs.take (i*7)).toArray++Builtin.zeroCells zeroP.cells (c+1-i)++Builtin.zeroCells zeroP.cells (grownCap w (c+1) c 101-(c+1))) 101)):=fun ty=>by
  have h:=Lib.run_append_grow_zeros w 50 3 ty 101 i0 _ .i64 .i64 Tryz.underlying50 Tryz.underlying3 hi0 hz0 (some ⟨b,off,none⟩) i c (cs.take (i*7)) hold (c+1-i) (by omega) (by omega) (by omega) (by omega) (by rw[hzb];omega) (by rw[hzb,hik];exact growslice_fits hroom hbig)
  rw[hik]at h
  rw[hkk]
  exact h
 have hz1:=K44 (c+1-i)
 have hz2:=K44 (grownCap w (c+1) c 101-(c+1))
 have hGn:c+1≤grownCap w (c+1) c 101:=grownCap_ge w _ _ _
 generalize zeroP.cells=Z at*
 obtain⟨G,hG⟩:∃G,G=grownCap w (c+1) c 101:=⟨_,rfl⟩
 rw[←hG]at hrz hz2 hGn ⊢
 obtain⟨ROW,hROW⟩:∃ROW:Array Value,ROW=(cs.take (i*7)).toArray++Builtin.zeroCells Z (c+1-i)++Builtin.zeroCells Z (G-(c+1)):=⟨_,rfl⟩
 rw[←hROW]at hrz ⊢
 have hRl:(c+1)*7≤ROW.size:=by
  rw[hROW,Array.size_append,Array.size_append,hz1,hz2,List.size_toArray,List.length_take]
  omega
 obtain⟨W1,hW1⟩:∃W1,W1=w.drew.alloc (.cells ROW 101):=⟨_,rfl⟩
 rw[←hW1]at hrz
 have hN:∀j,j<(c+1)*7→(W1.cell? ⟨w.heap.size,j,none⟩).isSome=true:=fun j hj=>by
  rw[hW1,World.cell?_alloc_at (w:=w.drew) ROW _ w.heap.size j rfl,Array.getElem?_eq_getElem (by omega)];rfl
 have hNf:∀j,W1.frozen? ⟨w.heap.size,j,none⟩=false:=fun j=>by rw[hW1];exact World.frozen?_alloc_at (w:=w.drew) ROW _ w.heap.size j rfl
 have hOb:∀j v,w.cell? ⟨b,j,none⟩=some v→W1.cell? ⟨b,j,none⟩=some v:=fun j v h=>by rw[hW1,World.cell?_alloc_past (w:=w.drew) _ b j hbw];exact h
 have hOv:∀j v,w.cell? ⟨vb,j,none⟩=some v→W1.cell? ⟨vb,j,none⟩=some v:=fun j v h=>by rw[hW1,World.cell?_alloc_past (w:=w.drew) _ vb j hvw];exact h
 have hcpA:∀(W:World),(∀x,W.cell? x=W1.cell? x)→(∀x,W.frozen? x=W1.frozen? x)→∀ty dc,(Builtin.copy_ #[50,50] ty #[.slice (some ⟨w.heap.size,i*7,none⟩) (c+1-i) dc,.slice (some ⟨vb,voff,none⟩) 1 vc]).run Tryz.prog W= .ok (goInt ((1:Nat):Int)) (W.setCells w.heap.size (i*7) vs):=fun W hWc hWf ty dc=>
  K2k W _ _ ty 101 w.heap.size (i*7) (c+1-i) dc 1 ⟨vb,voff,none⟩ 1 vc 7 vs Tryz.underlying50 hsz (by simp only[Nat.min_def];split<;>omega) (by omega)
   (fun j v hj=>by rw[Addr.add_lit,hWc];exact hOv _ v (hvs j v hj))
   (fun j hj=>by rw[hWc];exact hN _ (by omega)) (fun j hj=>by rw[hWf];exact hNf _) h1v
 have hbN:b≠w.heap.size:=by omega
 have hdl:(cs.drop (i*7)).length=(c-i)*7:=by rw[List.length_drop,hcl];omega
 have hcpB:∀(W:World),(∀x,W.cell? x=(W1.setCells w.heap.size (i*7) vs).cell? x)→(∀x,W.frozen? x=(W1.setCells w.heap.size (i*7) vs).frozen? x)→∀ty dc sc,(Builtin.copy_ #[50,50] ty #[.slice (some ⟨w.heap.size,(i+1)*7,none⟩) (c-i) dc,.slice (some ⟨b,off+i*7,none⟩) (c-i) sc]).run Tryz.prog W= .ok (goInt ((c-i:Nat):Int)) (W.setCells w.heap.size ((i+1)*7) (cs.drop (i*7))):=fun W hWc hWf ty dc sc=>
  K2k W _ _ ty 101 w.heap.size ((i+1)*7) (c-i) dc (c-i) ⟨b,off+i*7,none⟩ (c-i) sc 7 (cs.drop (i*7)) Tryz.underlying50 hsz (by simp only[Nat.min_def];split<;>omega) hdl
   (fun j v hj=>by
    rw[Addr.add_lit,hWc,World.cell?_setCells_out _ _ _ _ _ (fun h _=>absurd h hbN),Nat.add_assoc]
    exact hOb _ v (hcs (i*7+j) v (by rwa [List.getElem?_drop]at hj)))
   (fun j hj=>by rw[hWc];exact isSome_setCells _ _ _ _ (fun t ht=>hN _ (by omega)) _ (hN _ (by omega)))
   (fun j hj=>by rw[hWf,World.frozen?_setCells];exact hNf _) (fun v hv=>h1c v (List.mem_of_mem_drop hv))
 subst hW1
 have hE1:∀x,((w.alloc (.cells ROW 101)).drew).cell? x=(w.drew.alloc (.cells ROW 101)).cell? x:=fun x=>rfl
 have hE2:∀x,((w.alloc (.cells ROW 101)).drew).frozen? x=(w.drew.alloc (.cells ROW 101)).frozen? x:=fun x=>rfl
 have hF1:∀x,(((w.alloc (.cells ROW 101)).drew.setCells w.heap.size (i*7) vs).drew).cell? x=((w.drew.alloc (.cells ROW 101)).setCells w.heap.size (i*7) vs).cell? x:=fun x=>rfl
 have hF2:∀x,(((w.alloc (.cells ROW 101)).drew.setCells w.heap.size (i*7) vs).drew).frozen? x=((w.drew.alloc (.cells ROW 101)).setCells w.heap.size (i*7) vs).frozen? x:=fun x=>rfl
 have hw1:IntKind.i64.wrap ((i:Int)+1)=(i:Int)+1:=by rw[IntKind.wrap_i64];omega
 have hw2:IntKind.i64.wrap ((c:Int)+1)=(c:Int)+1:=by rw[IntKind.wrap_i64];omega
 have hb1:(0:Int)≤(i:Int)+1:=by omega
 have hin:i≤c:=by omega
 have htn:((i:Int)+1).toNat=i+1:=by omega
 have hb3:(i:Int)≤(c:Int):=by omega
 have hG1:¬G=i+1:=by omega
 have hci:¬c=i:=by omega
 clear hkk hik hold hROW hG hRl
 go_enter Tryz.func108,Tryz.ntmps108
 go_wp2_with (first
  |(at_builtin;refine Lib.wpList_append_run _ rfl _ _ _ _ rfl _ _ rfl rfl _ _ (hrz _) ?_)
  |(at_builtin;refine wpList_copy_runI _ rfl _ _ 50 50 rfl _ _ rfl rfl (hcpA _ hE1 hE2 _ _) ?_)
  |(at_builtin;refine wpList_copy_runI _ rfl _ _ 50 50 rfl _ _ rfl rfl (hcpB _ (fun _=>rfl) (fun _=>rfl) _ _ _) ?_))
 go_region_law_o (refine step_copy_runI rfl _ _ 50 50 rfl (.slice (some ⟨w.heap.size,(i+1)*7,none⟩) (c-i) (G-(i+1))) (.slice (some ⟨b,off+i*7,none⟩) (c-i) (c-i)) (by simp[Act.eval,Act.put]) (by simp[Act.eval,Act.put]) (hcpB _ hF1 hF2 3 (G-(i+1)) (c-i)) ?_)
 go_wp2
 go_ret
 exact⟨rfl,rfl⟩
end Go.Proofs.YtflhjihoifbmfaaGreatR
namespace Go.Proofs
open Go.Shelf
end Go.Proofs
namespace Go.Proofs.YtflhjihoifbmfaaGreatR
open Go Go.RowKit Go.Proofs
open Nat (reduceEqDiff reduceLT reduceLeDiff reduceAdd reduceMul)
open List (reduceReplicate)
theorem K1c{b:Nat}{ty:TypeId}{fz:Nat×Nat}:∀(vs:List Value) (o:Nat) (w:World) (row:Array Value),w.heap[b]? =some (.cells row ty fz)→∃row',(w.setCells b o vs).heap[b]? =some (.cells row' ty fz)∧row'.size=row.size
 | [],_,_,row,h=>⟨row,h,rfl⟩
 |v::r,o,w,row,h=>by
  have hw:(w.setCell ⟨b,o,none⟩ v).heap[b]? =some (.cells (row.setIfInBounds o v) ty fz):=by simp[World.setCell,Array.getElem?_modify,h]
  obtain⟨row',h1,h2⟩:=K1c r (o+1) (w.setCell ⟨b,o,none⟩ v) (row.setIfInBounds o v) hw
  exact⟨row',h1,h2.trans (by simp)⟩
theorem K3c{B:Nat→Prop}{b:Nat}(hb:¬B b):∀(vs:List Value) (o:Nat) (w:World),Bel B w (w.setCells b o vs)
 | [],_,w=>Bel.refl _ _
 |v::r,o,w=>by
  refine Bel.trans (b:=w.setCell ⟨b,o,none⟩ v) ⟨rfl,rfl,rfl,by simp[World.setCell],fun k hk=>?_⟩ (K3c hb r (o+1) _)
  have hne:k≠b:=fun e=>hb (e▸hk)
  simp[World.setCell,Array.getElem?_modify,Ne.symm hne]
end Go.Proofs.YtflhjihoifbmfaaGreatR
namespace Go.Proofs.YtflhjihoifbmfaaGreatR
open Go Go.RowKit Go.Proofs
open Nat (reduceEqDiff reduceLT reduceLeDiff reduceAdd reduceMul)
open List (reduceReplicate)
theorem insRow{w w':World}{sz b b2 vb off off2 voff k:Nat}{es:List (List T)}{e:List T}{G Gv:List Nat}(hk:k≤es.length)(h:OwRow w sz b off es G)(hv:OwRow w sz vb voff [e] Gv)
  (q1:∀j,j<k*sz→w'.cell? ⟨b2,off2+j,none⟩=w.cell? ⟨b,off+j,none⟩) (q2:∀j,j<sz→w'.cell? ⟨b2,off2+k*sz+j,none⟩=w.cell? ⟨vb,voff+j,none⟩)
  (q3:∀j,j<(es.length-k)*sz→w'.cell? ⟨b2,off2+(k+1)*sz+j,none⟩=w.cell? ⟨b,off+k*sz+j,none⟩) (hG:∀x∈G++Gv,w'.heap[x]? =w.heap[x]?):
  ∃G',OwRow w' sz b2 off2 (es.take k++[e]++es.drop k) G'∧G'.Perm (G++Gv):=by
 rw[←List.take_append_drop k es]at h
 obtain⟨G1,G2,h1,h2,rfl⟩:=(Kq _ _ _ _).1 h
 have hl:(es.take k).length=k:=by rw[List.length_take];omega
 rw[hl]at h2
 have m1:=OwRow.move (es.take k) off off2 G1 (b':=b2) (w':=w') (fun j hj=>q1 j (by rwa [hl]at hj)) (fun x hx=>hG x (by simp[hx])) h1
 have m2:=OwRow.move [e] voff (off2+k*sz) Gv (b':=b2) (w':=w') (fun j hj=>q2 j (by simpa using hj)) (fun x hx=>hG x (by simp[hx])) hv
 have m3:=OwRow.move (es.drop k) (off+k*sz) (off2+(k+1)*sz) G2 (b':=b2) (w':=w') (fun j hj=>q3 j (by rwa [List.length_drop]at hj)) (fun x hx=>hG x (by simp[hx])) h2
 refine⟨(G1++Gv)++G2,?_,?_⟩
 ·refine(Kq _ _ _ _).2 ⟨G1++Gv,G2,(Kq _ _ _ _).2 ⟨G1,Gv,m1,by rw[hl];exact m2,rfl⟩,?_,rfl⟩
  rw[List.length_append,hl]
  exact m3
 ·rw[List.append_assoc,List.append_assoc]
  exact List.Perm.append_left G1 List.perm_append_comm
end Go.Proofs.YtflhjihoifbmfaaGreatR
namespace Go.Proofs.YtflhjihoifbmfaaGreatR
open Go Go.RowKit Go.Proofs
open Nat (reduceEqDiff reduceLT reduceLeDiff reduceAdd reduceMul)
open List (reduceReplicate)
theorem argsI_insK{w:World}{X:Nat→Prop}{sz:Nat}{es es':List (List T)}{k:Int}{vs:List Value}{G:List Nat}(h:ResVs w X [oL sz es,iI k,oL sz es'] vs G):∃v u G1 G2,vs=[v,.int .i64 k,u]∧Ow w (.sl sz es) v G1∧Ow w (.sl sz es') u G2∧G=G1++G2:=by
 match vs,h with
 | [v,i,u],⟨Ga,Gb,h1,⟨Gc,Gd,h2,⟨Ge,Gf,h3,h4,e3⟩,e2⟩,e1⟩=>
  obtain⟨_,G1,G2,k1,k2,e4⟩:=h1
  obtain⟨_,k3,k4⟩:=h2
  obtain⟨_,G3,G4,k5,k6,e5⟩:=h3
  simp only[ResVs]at h4
  simp only[ResC]at k2 k4 k6
  simp only[Rd]at k3
  obtain⟨rfl,_⟩:=k3
  subst h4 k2 k4 k6 e4 e5 e3 e2 e1
  exact⟨v,u,G1,G3,rfl,k1,k5,by simp⟩
 | [],h=>exact h.elim
 | [_],⟨_,_,_,h,_⟩=>exact h.elim
 | [_,_],⟨_,_,_,⟨_,_,_,h,_⟩,_⟩=>exact h.elim
 |_::_::_::_::_,⟨_,_,_,⟨_,_,_,⟨_,_,_,h,_⟩,_⟩,_⟩=>exact h.elim
end Go.Proofs.YtflhjihoifbmfaaGreatR
namespace Go.Proofs.YtflhjihoifbmfaaGreatR
open Go Go.RowKit Go.Proofs
open Nat (reduceEqDiff reduceLT reduceLeDiff reduceAdd reduceMul)
open List (reduceReplicate)
theorem K7d{w w':World}{X:Nat→Prop}{B:Nat→Prop}{sz:Nat}{es:List (List T)}{e:List T}{k b off b2 off2 c2 vb voff vc cap:Nat}{A:Option Addr}{G1 Gz Gv:List Nat}{row:Array Value}{ty:TypeId}(hk:k≤es.length)
  (hz:∀x∈Gz,x∈G1) (hzv:(Gz++Gv).Nodup) (hbz:b2∉Gz++Gv) (h:OwRow w sz b off es Gz) (hv:OwRow w sz vb voff [e] Gv) (hB:Bel B w w') (hb2:b2∈G1∨w.heap.size≤b2)
  (hh:w'.heap[b2]? =some (.cells row ty (0,0))) (hc:off2+c2*sz≤row.size) (hln:Ln (es.length+1) c2)
  (q1:∀j,j<k*sz→w'.cell? ⟨b2,off2+j,none⟩=w.cell? ⟨b,off+j,none⟩) (q2:∀j,j<sz→w'.cell? ⟨b2,off2+k*sz+j,none⟩=w.cell? ⟨vb,voff+j,none⟩)
  (q3:∀j,j<(es.length-k)*sz→w'.cell? ⟨b2,off2+(k+1)*sz+j,none⟩=w.cell? ⟨b,off+k*sz+j,none⟩) (hGG:∀x∈Gz++Gv,w'.heap[x]? =w.heap[x]?):
  Bel B w w'∧∃us Ga Gb,(Value.slice (some ⟨b2,off2,none⟩) (es.length+1) c2)=tupV us∧OwOut w' [none,none] (K20 [oL sz es,iI k,oL sz [e]] [.slice A es.length cap,.int .i64 k,.slice (some ⟨vb,voff,none⟩) 1 vc]) Ga∧
   ResVs w' (fun b=>(b<w.heap.size→X b∨b∈G1++(vb::Gv))∧b∉Ga++Gb) [rL sz (es.take k++[e]++es.drop k)] us Gb∧(Ga++Gb).Nodup∧∀b∈Ga++Gb,(b∈G1++(vb::Gv)∨w.heap.size≤b)∧b<w'.heap.size:=by
 obtain⟨G',hr,hp⟩:=insRow hk h hv q1 q2 q3 hGG
 have hlen:(es.take k++[e]++es.drop k).length=es.length+1:=by
  simp only[List.length_append,List.length_take,List.length_drop,List.length_cons,List.length_nil]
  omega
 have hO:Ow w' (.sl sz (es.take k++[e]++es.drop k)) (.slice (some ⟨b2,off2,none⟩) (es.length+1) c2) (b2::G'):=by
  unfold Ow
  refine⟨_,c2,by rw[hlen],by rw[hlen];exact hln,.inr ⟨b2,off2,row,ty,G',rfl,hh,hc,hr,rfl⟩⟩
 refine⟨hB,[_],[],b2::G',rfl,rfl,⟨b2::G',[],⟨⟨_,rfl⟩,b2::G',[],hO,rfl,by simp⟩,rfl,by simp⟩,?_,fun b' hb'=>?_⟩
 ·rw[List.nil_append]
  exact List.nodup_cons.2 ⟨fun hm=>hbz (hp.mem_iff.1 hm),hp.nodup_iff.2 hzv⟩
 ·rw[List.nil_append]at hb'
  rcases List.mem_cons.1 hb' with rfl|hm
  ·exact⟨hb2.imp (fun h=>by simp[h]) id,K1u hh⟩
  ·refine⟨.inl ?_,OwRow.lt _ _ _ hr b' hm⟩
   rcases List.mem_append.1 (hp.mem_iff.1 hm)with h1|h1
   ·exact List.mem_append.2 (.inl (hz _ h1))
   ·exact List.mem_append.2 (.inr (List.mem_cons_of_mem _ h1))
end Go.Proofs.YtflhjihoifbmfaaGreatR
namespace Go.Proofs.YtflhjihoifbmfaaGreatR
open Go Go.RowKit Go.Proofs
open Nat (reduceEqDiff reduceLT reduceLeDiff reduceAdd reduceMul)
open List (reduceReplicate)
theorem ow_one{w:World}{t:T}{v:Value}{G:List Nat}(h:Ow w t v G):v.oneCell'=true:=by
 cases t<;>simp only[Ow]at h
 ·obtain⟨rfl,h1,_⟩:=h
  exact K5j h1
 ·obtain⟨A,cap,rfl,_⟩:=h
  rfl
theorem K6j{w:World}{b:Nat}:∀ {e:List T} {off:Nat} {G:List Nat},OwEl w b off e G→∃vs:List Value,vs.length=e.length∧(∀j v,vs[j]? =some v→w.cell? ⟨b,off+j,none⟩=some v)∧∀v∈vs,v.oneCell'=true
 | [],off,G,h=>⟨[],rfl,by simp,by simp⟩
 |t::e,off,G,h=>by
  obtain⟨v,G1,G2,hc,ht,he,rfl⟩:=h
  obtain⟨vs,h1,h2,h3⟩:=K6j he
  refine⟨v::vs,by simp[h1],fun j u hj=>?_,fun u hu=>?_⟩
  ·cases j with
   |zero=>
    simp only[List.getElem?_cons_zero,Option.some.injEq]at hj
    rw[←hj]
    exact hc
   |succ j=>
    have:=h2 j u (by simpa using hj)
    rw[show off+(j+1)=off+1+j by omega]
    exact this
  ·rcases List.mem_cons.1 hu with rfl|hu
   ·exact ow_one ht
   ·exact h3 u hu
theorem K4e{w:World}{sz b:Nat}:∀ {es:List (List T)} {off:Nat} {G:List Nat},OwRow w sz b off es G→∃cs:List Value,cs.length=es.length*sz∧(∀j v,cs[j]? =some v→w.cell? ⟨b,off+j,none⟩=some v)∧∀v∈cs,v.oneCell'=true
 | [],off,G,h=>⟨[],by simp,by simp,by simp⟩
 |e::es,off,G,h=>by
  obtain⟨hl,G1,G2,h1,h2,rfl⟩:=h
  obtain⟨vs,k1,k2,k5⟩:=K6j h1
  obtain⟨cs,k3,k4,k6⟩:=K4e h2
  refine⟨vs++cs,by rw[List.length_append,k1,k3,hl,List.length_cons,Nat.add_mul,Nat.one_mul,Nat.add_comm],fun j v hj=>?_,fun v hv=>(List.mem_append.1 hv).elim (k5 v) (k6 v)⟩
  by_cases hjl:j<vs.length
  ·rw[List.getElem?_append_left hjl]at hj
   exact k2 j v hj
  ·rw[List.getElem?_append_right (by omega)]at hj
   have:=k4 _ v hj
   rw[show off+sz+(j-vs.length)=off+j by omega]at this
   exact this
end Go.Proofs.YtflhjihoifbmfaaGreatR
namespace Go.Proofs.YtflhjihoifbmfaaGreatR
open Go Go.RowKit Go.Proofs
open Nat (reduceEqDiff reduceLT reduceLeDiff reduceAdd reduceMul)
open List (reduceReplicate)
set_option maxHeartbeats 1000000
theorem K2l{w w':World}{b b2 o o2 n:Nat}{cs:List Value}(hn:n≤cs.length)(h:∀j v,cs[j]? =some v→w.cell? ⟨b,o+j,none⟩=some v)(h':∀j v,j<n→cs[j]? =some v→w'.cell? ⟨b2,o2+j,none⟩=some v):
  ∀j,j<n→w'.cell? ⟨b2,o2+j,none⟩=w.cell? ⟨b,o+j,none⟩:=fun j hj=>by
 have he:cs[j]? =some cs[j]:=List.getElem?_eq_getElem (by omega)
 rw[h j _ he,h' j _ hj he]
theorem K4c{b o:Nat}{us:List Value}{w1:World}(h:∀j,j<us.length→(w1.cell? ⟨b,o+j,none⟩).isSome=true):∀j v,us[j]? =some v→(w1.setCells b o us).cell? ⟨b,o+j,none⟩=some v:=fun j v hv=>by
 obtain⟨h1,h2⟩:=List.getElem?_eq_some_iff.1 hv
 rw[World.cell?_setCells_in b us o w1 h j h1,h2]
theorem K78{w:World}{b o m:Nat}{cs:List Value}(h:∀j v,cs[j]? =some v→w.cell? ⟨b,o+j,none⟩=some v):∀j v,(cs.drop m)[j]? =some v→w.cell? ⟨b,o+m+j,none⟩=some v:=fun j v hv=>by
 rw[List.getElem?_drop]at hv
 rw[Nat.add_assoc]
 exact h _ v hv
theorem C8j(es:List (List T))(k:Nat)(e:List T)(he:e.length=7)(hk:k≤es.length)(hl:es.length≤1073741824):CtrI Tryz.prog N4 [oL 7 es,iI k,oL 7 [e]] [none,none] [rL 7 (es.take k++[e]++es.drop k)]:=by
 refine⟨⟨Tryz.f108,Tryz.func108,by kernel_rfl,by kernel_rfl⟩,fun w X vs G ht h hG hGb=>?_⟩
 obtain⟨v,u,G1,G2,rfl,hv,hu,rfl⟩:=argsI_insK h
 unfold Ow at hv hu
 obtain⟨A,cap,rfl,hln,hv⟩:=hv
 obtain⟨A2,vc,rfl,hln2,hu⟩:=hu
 simp only[List.length_cons,List.length_nil,Nat.zero_add]at hln2 ⊢
 rcases hu with ⟨_,h0,_⟩|⟨vb,voff,rowv,tyv,Gv,rfl,hhv,hcv,hrv,rfl⟩
 ·simp at h0
 obtain⟨cv,hvl,hvs,h1v⟩:=K4e hrv
 simp only[List.length_cons,List.length_nil,Nat.zero_add,Nat.one_mul]at hvl
 have hvbs:vb<w.heap.size:=(hGb vb (by simp)).1
 have hcapB:cap≤9223372036854775807:=hln.2.2
 have growT:∀(cs:List Value) (b off g:Nat) (Gz:List Nat) (ty:TypeId),cs.length=es.length*7→(∀j v,cs[j]? =some v→w.cell? ⟨b,off+j,none⟩=some v)→OwRow w 7 b off es Gz→k=es.length→(∀x∈Gz,x∈G1)→(G1++vb::Gv).Nodup→Gz.Nodup→(∀x∈G1++vb::Gv,x<w.heap.size)→es.length+1≤g→g≤9223372036854775807→_:=
  fun cs b off g Gz ty hcl hcs hrow hke hzs hnd hznd hlt hg1 hg2=>by
   have hcell:∀j,j<(es.length+1)*7→((w.drew.alloc (.cells ((cs++cv).toArray++Builtin.zeroCells zeroP.cells (g-(es.length+1))) ty)).cell? ⟨w.heap.size,0+j,none⟩)=(cs++cv)[j]? :=fun j hj=>by
    rw[World.cell?_alloc_at (w:=w.drew) _ _ w.heap.size (0+j) rfl,Array.getElem?_append_left (by simp;omega)]
    simp
   have hzlt:∀x∈Gz++Gv,x<w.heap.size:=fun x hx=>hlt x (by
    rcases List.mem_append.1 hx with h1|h1
    ·exact List.mem_append.2 (.inl (hzs x h1))
    ·exact List.mem_append.2 (.inr (List.mem_cons_of_mem _ h1)))
   have hzv:(Gz++Gv).Nodup:=by
    have h1:=List.nodup_append.1 hnd
    exact List.nodup_append.2 ⟨hznd,(List.nodup_cons.1 h1.2.1).2,fun x hx y hy=>h1.2.2 x (hzs x hx) y (List.mem_cons_of_mem _ hy)⟩
   have hb:Bel (fun b'=>b'<w.heap.size∧b'∉G1++(vb::Gv)) w (w.drew.alloc (.cells ((cs++cv).toArray++Builtin.zeroCells zeroP.cells (g-(es.length+1))) ty)):=⟨rfl,rfl,rfl,by simp,fun b' hb'=>Below.heap_alloc w.drew _ b' hb'.1⟩
   exact K7d (X:=X) (k:=k) (cap:=cap) (A:=A) (G1:=G1) (vc:=vc) (c2:=g) (off2:=0) hk hzs hzv (fun hm=>Nat.lt_irrefl _ (hzlt _ hm)) hrow hrv hb (.inr (Nat.le_refl _)) (heap_alloc_new w.drew _)
    (by simp only[Array.size_append,K44,List.size_toArray,List.length_append];omega) ⟨hg1,by simp only[roomB];omega,hg2⟩
    (K2l (cs:=cs) (by omega) hcs (fun j v hj hv=>by rw[hcell j (by omega),List.getElem?_append_left (by omega),hv]))
    (K2l (cs:=cv) (by omega) hvs (fun j v hj hv=>by
     have:=hcell (k*7+j) (by omega)
     rw[←Nat.add_assoc]at this
     rw[this,List.getElem?_append_right (by omega),show k*7+j-cs.length=j by omega,hv]))
    (fun j hj=>by omega) (fun x hx=>Below.heap_alloc w.drew _ x (hzlt x hx))
 rcases hv with ⟨rfl,rfl,rfl⟩|⟨b,off,row,ty,Gz,rfl,hh,hc,hrow,rfl⟩
 ·obtain rfl:k=0:=by simpa using hk
  refine(K5t A 0 0 vb voff vc [] cv w (by omega) (by omega) (by omega) rfl hvl (fun _=>rfl) (fun a _ j v hj=>by simp at hj) hvs h1v).mono ?_
  rintro e' w' ⟨rfl,rfl⟩
  refine growT [] 0 0 _ [] _ rfl (fun j v hj=>by simp at hj) (by simp[OwRow]) rfl (by simp) hG (by simp) (fun x hx=>(hGb x hx).1) (grownCap_ge w _ _ _) ?_
  have:=grownCap_le_maxLen w (0+1) 0 101 (by unfold maxLen;omega)
  unfold maxLen at this
  omega
 ·obtain⟨cs,hcl,hcs,h1c⟩:=K4e hrow
  have hbs:b<w.heap.size:=(hGb b (by simp)).1
  have hnd1:=List.nodup_append.1 hG
  have hznd:Gz.Nodup:=(List.nodup_cons.1 hnd1.1).2
  have hbz:b∉Gz:=(List.nodup_cons.1 hnd1.1).1
  have hvb:vb≠b:=fun h=>hnd1.2.2 b (by simp) vb (by simp) h.symm
  have hbv:b∉Gv:=fun h=>hnd1.2.2 b (by simp) b (by simp[h]) rfl
  have hzs:∀x∈Gz,x∈b::Gz:=fun x h=>List.mem_cons_of_mem _ h
  have hzv:(Gz++Gv).Nodup:=List.nodup_append.2 ⟨hznd,(List.nodup_cons.1 hnd1.2.1).2,fun x hx y hy=>hnd1.2.2 x (hzs x hx) y (List.mem_cons_of_mem _ hy)⟩
  have hbz2:b∉Gz++Gv:=fun h=>(List.mem_append.1 h).elim hbz hbv
  have hzlt:∀x∈Gz++Gv,x<w.heap.size:=fun x hx=>(hGb x (by
   rcases List.mem_append.1 hx with h1|h1
   ·exact List.mem_append.2 (.inl (hzs x h1))
   ·exact List.mem_append.2 (.inr (List.mem_cons_of_mem _ h1)))).1
  have hsome:∀j,j<cap*7→(w.cell? ⟨b,off+j,none⟩).isSome=true:=fun j hj=>by
   have:off+j<row.size:=by omega
   simp[World.cell?,hh,this]
  have hfz:∀j,w.frozen? ⟨b,j,none⟩=false:=fun j=>by simp[World.frozen?,hh]
  have hB0:∀(o:Nat) (us:List Value) (w1:World),Bel (fun b'=>b'<w.heap.size∧b'∉(b::Gz)++(vb::Gv)) w1 (w1.setCells b o us):=fun o us w1=>K3c (by simp) us o w1
  have hN0:∀(o:Nat) (us:List Value) (w1:World),Bel (fun b'=>b'≠b) w1 (w1.setCells b o us):=fun o us w1=>K3c (by simp) us o w1
  have hne:∀x∈Gz++Gv,x≠b:=fun x hx e=>hbz2 (e▸hx)
  by_cases hkn:k=es.length
  ·by_cases hroom:es.length+1≤cap
   ·subst hkn
    refine(K8s b off es.length cap vb voff vc cv w hroom hcapB hvl (fun j hj=>by rw[Nat.add_assoc];exact hsome _ (by omega)) (fun j hj=>hfz _) hvs h1v).mono ?_
    rintro e' w' ⟨rfl,rfl⟩
    obtain⟨row',hr1,hr2⟩:=K1c cv (off+es.length*7) w row hh
    exact K7d (k:=es.length) hk hzs hzv hbz2 hrow hrv (hB0 _ _ _) (.inl (by simp)) hr1 (by omega) ⟨hroom,by simp only[roomB];omega,hcapB⟩
     (fun j hj=>World.cell?_setCells_out b _ _ w _ (fun _ _=>by left;show off+j<off+es.length*7;omega))
     (K2l (cs:=cv) (by omega) hvs (fun j v _ hv=>K4c (fun j hj=>by rw[Nat.add_assoc];exact hsome _ (by omega)) j v hv))
     (fun j hj=>by omega) (fun x hx=>(hN0 _ _ _).block x (hne x hx))
   ·have hce:cap=es.length:=by have:=hln.1;omega
    subst hkn
    refine(K5t (some ⟨b,off,none⟩) es.length cap vb voff vc cs cv w hln.1 (by omega) (by omega) hcl hvl (fun h=>by cases h) (fun a ha j v hj=>by
     obtain rfl:=Option.some.inj ha
     rw[Addr.add_lit];exact hcs j v hj) hvs h1v).mono ?_
    rintro e' w' ⟨rfl,rfl⟩
    refine growT cs b off _ Gz _ hcl hcs hrow rfl hzs hG hznd (fun x hx=>(hGb x hx).1) (grownCap_ge w _ _ _) ?_
    have:=grownCap_le_maxLen w (es.length+1) cap 101 (by unfold maxLen;omega)
    unfold maxLen at this
    omega
  ·have hkl:k<es.length:=by omega
   have hdl:(cs.drop (k*7)).length=(es.length-k)*7:=by rw[List.length_drop,hcl];omega
   by_cases hroom:es.length+1≤cap
   ·refine(insP_shift b off es.length cap k vb voff vc cs cv w hkl hroom hcapB hvb hcl hvl hcs (fun j hj=>hsome j (by omega)) (fun j hj=>hfz _) hvs h1c h1v tyv ty rowv.size row.size (by simp[World.shape?,hhv]) (by simp[World.shape?,hh]) (by omega) (by simp[World.frozen?,hhv]) (by simp[World.frozen?,hhv])).mono ?_
    rintro e' w' ⟨rfl,rfl⟩
    obtain⟨row',hr1,hr2⟩:=K1c (cs.drop (k*7)) (off+(k+1)*7) w.drew row hh
    obtain⟨row2,hr3,hr4⟩:=K1c cv (off+k*7) _ row' hr1
    have hs2:∀j,j<cap*7→((w.drew.setCells b (off+(k+1)*7) (cs.drop (k*7))).cell? ⟨b,off+j,none⟩).isSome=true:=fun j hj=>by
     have:off+j<row'.size:=by omega
     simp[World.cell?,hr1,this]
    exact K7d (k:=k) hk hzs hzv hbz2 hrow hrv ((Bel.drew (Bel.refl _ w)).trans ((hB0 _ _ _).trans (hB0 _ _ _))) (.inl (by simp)) hr3 (by omega) ⟨hroom,by simp only[roomB];omega,hcapB⟩
     (fun j hj=>by
      rw[World.cell?_setCells_out b _ _ _ _ (fun _ _=>by left;show off+j<off+k*7;omega),World.cell?_setCells_out b _ _ _ _ (fun _ _=>by left;show off+j<off+(k+1)*7;omega)]
      rfl)
     (K2l (cs:=cv) (by omega) hvs (fun j v _ hv=>K4c (fun j hj=>by rw[Nat.add_assoc];exact hs2 _ (by omega)) j v hv))
     (K2l (cs:=cs.drop (k*7)) (by omega) (K78 hcs) (fun j v hj hv=>by
      rw[World.cell?_setCells_out b _ _ _ _ (fun _ _=>by right;show off+k*7+cv.length≤off+(k+1)*7+j;omega)]
      exact K4c (w1:=w.drew) (fun j hj=>by rw[Nat.add_assoc];exact hsome _ (by omega)) j v hv))
     (fun x hx=>((Bel.drew (Bel.refl _ w)).trans ((hN0 _ _ _).trans (hN0 _ _ _))).block x (hne x hx))
   ·refine(insP_grow b off es.length cap k vb voff vc cs cv w hkl hln.1 (by omega) (by omega) hcl hvl hcs hvs h1c h1v).mono ?_
    rintro e' w' ⟨rfl,rfl⟩
    obtain⟨g,hg⟩:∃g,g=grownCap w (es.length+1) cap 101:=⟨_,rfl⟩
    have hg1:es.length+1≤g:=hg▸grownCap_ge w _ _ _
    have hg2:g≤9223372036854775807:=by
     have:=grownCap_le_maxLen w (es.length+1) cap 101 (by unfold maxLen;omega)
     unfold maxLen at this
     omega
    rw[←hg]
    obtain⟨ROW,hROW⟩:∃ROW:Array Value,ROW=(cs.take (k*7)).toArray++Builtin.zeroCells zeroP.cells (es.length+1-k)++Builtin.zeroCells zeroP.cells (g-(es.length+1)):=⟨_,rfl⟩
    rw[←hROW]
    have hRs:ROW.size=g*7:=by
     rw[hROW]
     simp only[Array.size_append,K44,List.size_toArray,List.length_take,hcl]
     omega
    obtain⟨w1,hw1⟩:∃w1,w1=(w.alloc (.cells ROW 101)).drew:=⟨_,rfl⟩
    have hh1:w1.heap[w.heap.size]? =some (.cells ROW 101 (0,0)):=by rw[hw1];exact heap_alloc_new w _
    have hc1:∀j,w1.cell? ⟨w.heap.size,j,none⟩=ROW[j]? :=fun j=>by simp[World.cell?,hh1]
    rw[←hw1]
    obtain⟨row',hr1,hr2⟩:=K1c cv (k*7) w1 ROW hh1
    obtain⟨w2,hw2⟩:∃w2,w2=(w1.setCells w.heap.size (k*7) cv).drew:=⟨_,rfl⟩
    rw[←hw2]
    have hh2:w2.heap[w.heap.size]? =some (.cells row' 101 (0,0)):=by rw[hw2];exact hr1
    obtain⟨row2,hr3,hr4⟩:=K1c (cs.drop (k*7)) ((k+1)*7) w2 row' hh2
    have hBs:∀(o:Nat) (us:List Value) (w3:World),Bel (fun b'=>b'<w.heap.size) w3 (w3.setCells w.heap.size o us):=fun o us w3=>K3c (by omega) us o w3
    have hB1:Bel (fun b'=>b'<w.heap.size) w w1:=by
     rw[hw1]
     exact((Bel.refl _ w).alloc (fun _ h=>h) _).drew
    have hB2:Bel (fun b'=>b'<w.heap.size) w w2:=by
     rw[hw2]
     exact(hB1.trans (hBs _ _ _)).drew
    have hB3:=hB2.trans (hBs ((k+1)*7) (cs.drop (k*7)) _)
    have e2:∀j,w2.cell? ⟨w.heap.size,j,none⟩=(w1.setCells w.heap.size (k*7) cv).cell? ⟨w.heap.size,j,none⟩:=fun j=>by rw[hw2];rfl
    have hs1:∀j,j<g*7→(w1.cell? ⟨w.heap.size,j,none⟩).isSome=true:=fun j hj=>by
     have:j<ROW.size:=by omega
     simp[World.cell?,hh1,this]
    have hs2:∀j,j<g*7→(w2.cell? ⟨w.heap.size,j,none⟩).isSome=true:=fun j hj=>by
     have:j<row'.size:=by omega
     simp[World.cell?,hh2,this]
    exact K7d (k:=k) (off2:=0) hk hzs hzv (fun hm=>Nat.lt_irrefl _ (hzlt _ hm)) hrow hrv (hB3.mono fun _ h=>h.1) (.inr (Nat.le_refl _)) hr3 (by omega) ⟨hg1,by simp only[roomB];omega,hg2⟩
     (K2l (cs:=cs) (by omega) hcs (fun j v hj hv=>by
      rw[Nat.zero_add,World.cell?_setCells_out _ _ _ _ _ (fun _ _=>by left;show j<(k+1)*7;omega),e2,World.cell?_setCells_out _ _ _ _ _ (fun _ _=>by left;show j<k*7;omega),hc1,hROW]
      have hjt:j<(cs.take (k*7)).length:=by rw[List.length_take];omega
      rw[Array.append_assoc,Array.getElem?_append_left (by simpa using hjt)]
      simp only[List.getElem?_toArray]
      rw[List.getElem?_take,if_pos hj,hv]))
     (K2l (cs:=cv) (by omega) hvs (fun j v hj hv=>by
      rw[Nat.zero_add,World.cell?_setCells_out _ _ _ _ _ (fun _ _=>by left;show k*7+j<(k+1)*7;omega),e2]
      exact K4c (fun j hj=>hs1 _ (by omega)) j v hv))
     (K2l (cs:=cs.drop (k*7)) (by omega) (K78 hcs) (fun j v hj hv=>by
      rw[Nat.zero_add]
      exact K4c (fun j hj=>hs2 _ (by omega)) j v hv))
     (fun x hx=>hB3.block x (hzlt x hx))
end Go.Proofs.YtflhjihoifbmfaaGreatR
namespace Go.Proofs.YtflhjihoifbmfaaGreatR
open Go Go.RowKit Go.Proofs
open Nat (reduceEqDiff reduceLT reduceLeDiff reduceAdd reduceMul)
open List (reduceReplicate)
def M70:MC:=
(Zs [.box 3 0 (.s 1),.mv 4 (.nil 7),.mv 5 cF] [0,3] (Zs [mS 10 0,.call 11 [1] (.f N1l) [.s 10],mS 6 11] [0,3,6] (.seq (Zs [mS 12 0,.call 13 [] (.f N32) [.s 12],.un 14 .not (.s 13)] [0,3,6,14] (.cond (.s 14) (Zs [mS 15 6,mS 4 15,.mv 5 cF] [4,5] .ret) .skip))
(Zs [lT 16 5 3,.call 17 [] (.f N1y) [.s 16],mS 7 17] [0,3,6,7] (.seq (Zs [mS 18 6,mS 19 7,.call 20 [] (.f N82) [.s 18,.s 19],mS 8 20] [0,3,6,7,8] (Zs [mS 21 8,bC 22 .geq 21 0] [0,3,6,7,8,22] (.cond (.s 22) (pr [mS 23 6,mS 24 8,xS 25 7 23 24,fS 26 25 6,lF 27 1 26,bC 28 .add 27 1,xS 29 7 23 24,fS 30 29 6,sS 1 30 28] [0,6]) (Zs [.mv 9 (ci 0)] [0,3,6,7,9] (.seq (.block 0 (.loop ([0,3,6,7,9],[2,3,5]) (.seq (.seq (.reg [Za (mS 31 9),Za (mS 32 6),Za (nS 33 32),Za (bS 34 .lss 31 33),Za (mS 35 34),Zb 35 true (mS 36 6),Zb 35 true (mS 37 9),Zb 35 true (xS 38 7 36 37),Zb 35 true (fS 39 38 0),Zb 35 true (lF 40 1 39),Zb 35 true (mS 41 7),Zb 35 true (bS 42 .lss 40 41),Za (.pick 43 (.s 35) (.s 42) cF)] [0,3,6,7,9,43])
(cX 43 0))
(.block 1 (pr [mS 44 9,bC 45 .add 44 1,mS 9 45] [0,3,6,7,9])))))
(.reg [Za (mS 46 6),Za (mS 47 9),Za (mS 48 7),Za (lT 49 5 3),Za (.call 50 [2] (.f Nt) [.s 49]),Za (.build 51 [pz,pz,.emp 1,pz,pz,pz,pz] [(0,1,.s 48),(1,5,.s 50),(6,1,.c (.int .i64 1))]),Za (.lit 52 3 7 72 [.s 51]),{o:= .callI 53 [4] (.f N4) [.s 46,.s 47,.s 52] [1,3,4] [],ho:=[2]},Za (mS 6 53)] [0,6]))))))
(.seq (Zs [mS 54 6,.call 55 [] (.f N32) [.s 54],.un 56 .not (.s 55)] [0,6,56] (.cond (.s 56) (Zs [mS 57 0,.call 58 [5] (.f N1l) [.s 57],mS 4 58,.mv 5 cF] [4,5] .ret) .skip))
(Zs [mS 59 6,mS 4 59,.mv 5 cT] [4,5] .ret)))))))
def M79:MC:=
(Zs [.box 3 0 (.s 1),.mv 4 (.nil 7),.mv 5 cF] [0,3] (.seq (Zs [mS 10 0,.call 11 [] (.f N35) [.s 10],.un 12 .not (.s 11)] [0,3,12] (.cond (.s 12) (Zs [mS 13 0,.call 14 [1] (.f Nu) [.s 13],mS 4 14,.mv 5 cF] [4,5] .ret) .skip))
(Zs [lT 15 5 3,.call 16 [] (.f N20) [.s 15],mS 6 16] [0,3,6] (Zs [mS 17 0,mS 18 6,.call 19 [] (.f N87) [.s 17,.s 18],mS 7 19] [0,3,6,7] (Zs [mS 20 0,.call 21 [2] (.f Nu) [.s 20],mS 8 21] [0,3,6,7,8] (.seq (Zs [mS 22 7,bC 23 .geq 22 0] [0,3,6,7,8,23] (.cond (.s 23) (pr [mS 24 8,mS 25 7,mS 26 8,mS 27 7,xS 28 7 26 27,fS 29 28 6,lF 30 1 29,bC 31 .add 30 1,xS 32 7 24 25,fS 33 32 6,sS 1 33 31] [0,8]) (Zs [.mv 7 (ci 0)] [0,3,6,7] (.seq (.block 0 (.loop ([0,3,6,7],[1,2,3,4,5,6,7]) (.seq (.seq (.reg [Za (mS 34 7),Za (mS 35 0),Za (nS 36 35),Za (bS 37 .lss 34 36),Za (mS 38 37),Zb 38 true (mS 39 0),Zb 38 true (mS 40 7),Zb 38 true (xS 41 7 39 40),Zb 38 true (fS 42 41 0),Zb 38 true (lF 43 1 42),Zb 38 true (mS 44 6),Zb 38 true (bS 45 .lss 43 44),Za (.pick 46 (.s 38) (.s 45) cF)] [0,3,6,7,46])
(cX 46 0))
(.block 1 (pr [mS 47 7,bC 48 .add 47 1,mS 7 48] [0,3,6,7])))))
(Zs [mS 49 0,.call 50 [3] (.f Nu) [.s 49],mS 9 50] [0,3,6,7,9] (.dreg [Zf [52,54,55,56,57,58,60,61,62] [4,5] (mS 51 9),Zf [51,54,55,56,57,58,60,61,62] [4,5] (mS 52 7),Zg [54,55,56,57,58,60,61,62] [4,5] [0,1] (.slc 53 7 (.s 51) none (some (.s 52)) none),Zf [51,52,53,55,56,60,61,62] [4] (mS 54 6),Zc [51,52,53,54,60,61,62] (lT 55 5 3),{o:= .call 56 [4] (.f N1k) [.s 55],hs:=[51,52,53,54,60,61,62],ws:=[4],bf:=[4]},Zd [51,52,53,60,61,62] [3,4,5] (.build 57 [pz,pz,.emp 1,pz,pz,pz,pz] [(0,1,.s 54),(1,5,.s 56),(6,1,.c (.int .i64 1))]),{o:= .lit 58 5 7 72 [.s 57],hs:=[51,52,53,60,61,62],ws:=[4,5],bf:=[3,4,5,6]},{o:= .app 59 3 7 72 (.s 53) (.s 58),hs:=[60,61,62],ws:=[3,5],bf:=(.range 8)},Zf [51,52,53,54,55,56,57,58,59,61] [3,4,5] (mS 60 0),Zf [51,52,53,54,55,56,57,58,59,60] [3,4,5] (mS 61 7),Zg [51,52,53,54,55,56,57,58,59] [3,4,5] [9,10] (.slc 62 7 (.s 60) (some (.s 61)) none none),{o:= .call 63 [6] (.f Nu) [.s 62],ws:=[6],bf:=(.range 12)},{o:= .app 64 3 7 72 (.s 59) (.s 63),ws:=[3,6],bf:=(.range 13)},Ze (.range 14) (mS 8 64)] [0,8]))))))
(.seq (Zs [mS 65 8,.call 66 [] (.f N35) [.s 65],.un 67 .not (.s 66)] [0,8,67] (.cond (.s 67) (Zs [mS 68 0,.call 69 [7] (.f Nu) [.s 68],mS 4 69,.mv 5 cF] [4,5] .ret) .skip))
(Zs [mS 70 8,mS 4 70,.mv 5 cT] [4,5] .ret))))))))
end Go.Proofs.YtflhjihoifbmfaaGreatR
namespace Go.Proofs.YtflhjihoifbmfaaGreatR
open Go Go.RowKit Go.Proofs
open Nat (reduceEqDiff reduceLT reduceLeDiff reduceAdd reduceMul)
open List (reduceReplicate)
def lowD(d:Int)(p:GPart):Bool:=decide (p.Digest<d)
def K2w(r:GResource):GPart:={Digest:=digest r,Resource:=r,Uses:=1}
def moreP(p:GPart):GPart:={p with Uses:=p.Uses+1}
def Kg(l:List GPart)(r:GResource):List GPart:=
 if 0≤idxF (K2p (digest r)) l then l.modify (idxF (K2p (digest r)) l).toNat moreP else l.take (l.takeWhile (lowD (digest r))).length++[K2w r]++l.drop (l.takeWhile (lowD (digest r))).length
def Kl(l:List GPart)(r:GResource):List GPart×Bool:=if K2d l then(if K2d (Kg l r)then(Kg l r,true)else(l,false))else(l,false)
theorem K3m:∀ {b:Option Int} {l:List GPart},K15 b l=true→∀p∈l,1≤p.Uses∧p.Uses≤1000
 |_,[],_,p,hp=>by simp at hp
 |b,q::l,h,p,hp=>by
  rw[K3l]at h
  simp only[Bool.and_eq_true,decide_eq_true_eq]at h
  rcases List.mem_cons.1 hp with rfl|hp
  ·exact h.2.2.2.1
  ·exact K3m h.2.2.2.2 p hp
theorem K3n{α:Type}{f:α→Bool}:∀ {l:List α} {k:Nat},(∀x∈l.take k,f x=true)→(∀x,l[k]? =some x→f x=false)→k≤l.length→(l.takeWhile f).length=k
 | [],k,_,_,hk=>by simp at hk;simp[hk]
 |x::l,0,_,h,_=>by
  have:=h x rfl
  simp[List.takeWhile,this]
 |x::l,k+1,h1,h2,hk=>by
  have hx:=h1 x (by simp)
  rw[List.takeWhile_cons,if_pos hx,List.length_cons,K3n (k:=k) (fun y hy=>h1 y (by rw[List.take_succ_cons];exact List.mem_cons_of_mem _ hy)) (fun y hy=>h2 y (by simpa using hy)) (by simpa using hk)]
theorem K63(r:GResource):(K2w r).size=r.size:=rfl
end Go.Proofs.YtflhjihoifbmfaaGreatR
namespace Go.Proofs.YtflhjihoifbmfaaGreatR
open Go Go.RowKit Go.Proofs
open Nat (reduceEqDiff reduceLT reduceLeDiff reduceAdd reduceMul)
open List (reduceReplicate)
theorem K8h{α:Type}{p:α→Bool}:∀ {l:List α},0≤idxF p l→∃(n:Nat) (x:α),idxF p l=n∧l[n]? =some x
 |l,h=>by
  unfold idxF at h ⊢
  split at h
  ·rename_i ha
   rw[if_pos ha]
   obtain⟨x,hx,hp⟩:=List.any_eq_true.1 ha
   have key:∀l:List α,x∈l→(l.takeWhile fun x=> !p x).length<l.length:=by
    intro l
    induction l with
    |nil=>intro h;simp at h
    |cons y l ih=>
     intro h
     rw[List.takeWhile_cons]
     split
     ·rename_i hy
      rcases List.mem_cons.1 h with rfl|h
      ·simp[hp]at hy
      ·have:=ih h;simp only[List.length_cons];omega
     ·simp
   obtain⟨y,hy⟩:=Kh (key l hx)
   exact⟨_,y,rfl,hy⟩
  ·omega
theorem K7g{l:List GPart}{n:Nat}{p:GPart}(h:l[n]? =some p):(l.map GPart.enc).set n (moreP p).enc=(l.modify n moreP).map GPart.enc:=by
 refine List.ext_getElem? fun i=>?_
 rw[List.getElem?_set,List.getElem?_map,List.getElem?_map,List.getElem?_modify]
 by_cases e:n=i
 ·subst e
  have:=Kb h
  rw[if_pos rfl,List.length_map,if_pos this,h]
  simp
 ·rw[if_neg e]
  cases l[i]? <;>simp[e]
theorem moreP_size(p:GPart):(moreP p).size=p.size:=rfl
theorem K4s{l:List GPart}{n:Nat}:((l.modify n moreP).map GPart.size).sum=(l.map GPart.size).sum:=by
 congr 1
 refine List.ext_getElem? fun i=>?_
 rw[List.getElem?_map,List.getElem?_map,List.getElem?_modify]
 by_cases e:n=i
 ·subst e
  cases l[n]? <;>simp[moreP_size]
 ·simp[e]
theorem K3b{l:List GPart}{r:GResource}(hi:¬idxF (K2p (digest r)) l≥0)(hs:l.length+(l.map GPart.size).sum+r.size+1≤1073741824):(Kg l r).length+((Kg l r).map GPart.size).sum≤1073741824:=by
 rw[Kg,if_neg hi]
 generalize (l.takeWhile (lowD (digest r))).length=k
 have h1:(l.take k++l.drop k)=l:=List.take_append_drop k l
 have h2:((l.take k).map GPart.size).sum+((l.drop k).map GPart.size).sum=(l.map GPart.size).sum:=by
  rw[←List.sum_append,←List.map_append,h1]
 have h3:(l.take k).length+(l.drop k).length=l.length:=by rw[←List.length_append,h1]
 simp only[List.length_append,List.map_append,List.sum_append,List.map_cons,List.map_nil,List.sum_cons,List.sum_nil,List.length_cons,List.length_nil,K63]
 omega
theorem K6i(r:GResource):(K2w r).enc=[tI (digest r),tI r.Kind,.sl 1 (r.Body.map encI),tI r.To.Host,tI r.To.Path,tI r.To.Query,tI 1]:=by
 simp only[K2w,GPart.enc]
theorem C8l(l:List GPart)(r:GResource)(k:Nat)(hk:k≤l.length)(hl:l.length≤1073741824)(hi:¬idxF (K2p (digest r)) l≥0)(h1:∀x∈l.take k,lowD (digest r) x=true)(h2:∀x,l[k]? =some x→lowD (digest r) x=false):
  CtrI Tryz.prog N4 [oL 7 (l.map GPart.enc),iI k,oL 7 [[tI (digest r),tI r.Kind,.sl 1 (r.Body.map encI),tI r.To.Host,tI r.To.Path,tI r.To.Query,tI 1]]] [none,none] [rL 7 ((Kg l r).map GPart.enc)]:=by
 have h:=C8j (l.map GPart.enc) k (K2w r).enc rfl (by simpa using hk) (by simpa using hl)
 have e:(l.map GPart.enc).take k++[(K2w r).enc]++(l.map GPart.enc).drop k=(Kg l r).map GPart.enc:=by
  rw[Kg,if_neg hi,K3n h1 h2 hk]
  simp only[List.map_append,List.map_take,List.map_drop,List.map_cons,List.map_nil]
 rw[e]at h
 rw[←K6i r]
 exact h
set_option maxHeartbeats 4000000 in
set_option maxRecDepth 100000 in
theorem Cam(l:List GPart)(r:GResource)(hs:l.length+(l.map GPart.size).sum+r.size+1≤1073741824):Ctr Tryz.prog N7d [aL 7 (l.map GPart.enc),aS r.enc] [rL 7 ((Kl l r).1.map GPart.enc),rB (Kl l r).2]:=by
 refine cA M70 6 60 [(.tmp 4,[true]),(.tmp 5,[false])] Tryz.func52 rfl rfl ?_;unfold M70
 intro hb
 clear hb
 have hll:l.length≤1073741824:=by omega
 have hps:l.length+(l.map GPart.size).sum≤1073741824:=by omega
 simp only[go_sem]
 apply K0 (C11 l hps)
 simp only[go_sem]
 intro _
 apply K0 (C1a l hps)
 simp only[go_sem]
 refine⟨fun hst=>?_,fun hst=>?_⟩
 ·simp only[go_sem,Kl,hst]
  done
 ·have hrb:r.Body.length≤1073741824:=by have:=hs;unfold GResource.size at this;omega
  try intros
  apply K0 (C1u r hrb)
  simp only[go_sem]
  try intros
  apply K0 (Cax l (digest r))
  simp only[go_sem]
  intro _
  refine⟨fun hi=>?_,fun hi=>?_⟩
  ·obtain⟨n,p,hn,hp⟩:=K8h hi
   have hlt:=Kb hp
   have h0:(0:Int)≤(n:Int):=by omega
   have h1:(n:Int)<(l.length:Int):=by omega
   have hu:=K3m (show K15 none l=true by unfold K2d at hst;simp only[Bool.and_eq_true]at hst;exact hst.2) p (K1e hp)
   have hw:IntKind.i64.wrap (p.Uses+1)=p.Uses+1:=wI (by omega) (by omega)
   have ea:Kg l r=l.modify n moreP:=by unfold Kg;rw[if_pos hi,hn];rfl
   have hm:=K7g hp
   have es:(Kg l r).length+((Kg l r).map GPart.size).sum≤1073741824:=by rw[ea,K4s,List.length_modify];omega
   have hl2:(Kg l r).length=l.length:=by rw[ea,List.length_modify]
   rw[←ea]at hm
   simp only[moreP,GPart.enc,tI]at hm
   simp only[go_sem,hn,K7 hp,h0,h1,hw,hm,hl2,List.length_map,Nat.le_refl]
   apply K0 (C1a (Kg l r) es)
   simp only[go_sem]
   refine⟨fun ho=>?_,fun ho=>?_⟩
   ·try intros
    apply K0 (C11 l hps)
    simp only[go_sem,Kl,hst,ho]
   ·simp only[go_sem,Kl,hst,ho,hl2]
  ·refine K10 (fun k:Nat=>[(9,vI k)]) (fun k=>[]) (fun k=>k≤l.length∧∀x∈l.take k,lowD (digest r) x=true) (fun k=>l.length-k) 0 ?_
   simp only[go_sem]
   refine⟨?_,⟨by omega,by simp⟩,?_⟩
   ·simp only[go_sem]
   ·rintro k ⟨hk,hlt⟩
    by_cases hkl:k<l.length
    ·obtain⟨x,hx⟩:=Kh hkl
     have h1:(k:Int)<(l.length:Int):=by omega
     have h0:(0:Int)≤(k:Int):=by omega
     simp only[go_sem,h1,h0,K7 hx]
     refine⟨fun hd=>?_,fun hd=>?_⟩
     ·refine⟨k+1,by rw[wI (by omega) (by omega)];omega,⟨by omega,fun y hy=>?_⟩,by omega⟩
      rw[Kn hx]at hy
      rcases List.mem_append.1 hy with hy|hy
      ·exact hlt y hy
      ·rw[List.mem_singleton.1 hy];exact decide_eq_true hd
     ·apply K0 (Cs r hrb)
      simp only[go_sem]
      try intros
      refine⟨by simp only[roomB];omega,?_⟩
      apply K8 (C8l l r k hk hll hi hlt (fun y hy=>by rw[hx]at hy;obtain rfl:=Option.some.inj hy;exact decide_eq_false hd))
      simp only[go_sem]
      try intros
      apply K0 (C1a (Kg l r) (K3b hi hs))
      simp only[go_sem]
      refine⟨fun ho=>?_,fun ho=>?_⟩
      ·try intros
       apply K0 (C11 l hps)
       simp only[go_sem,Kl,hst,ho]
      ·simp only[go_sem,Kl,hst,ho]
    ·have h1:¬(k:Int)<(l.length:Int):=by omega
     have hno:∀y,l[k]? =some y→lowD (digest r) y=false:=fun y hy=>absurd (Kb hy) hkl
     simp only[go_sem,h1]
     apply K0 (Cs r hrb)
     simp only[go_sem]
     try intros
     refine⟨by simp only[roomB];omega,?_⟩
     apply K8 (C8l l r k hk hll hi hlt hno)
     simp only[go_sem]
     try intros
     apply K0 (C1a (Kg l r) (K3b hi hs))
     simp only[go_sem]
     refine⟨fun ho=>?_,fun ho=>?_⟩
     ·try intros
      apply K0 (C11 l hps)
      simp only[go_sem,Kl,hst,ho]
     ·simp only[go_sem,Kl,hst,ho]
end Go.Proofs.YtflhjihoifbmfaaGreatR
namespace Go.Proofs.YtflhjihoifbmfaaGreatR
open Go Go.RowKit Go.Proofs
open Nat (reduceEqDiff reduceLT reduceLeDiff reduceAdd reduceMul)
open List (reduceReplicate)
set_option maxHeartbeats 4000000 in
set_option maxRecDepth 100000 in
theorem Cat(l:List GPart)(r:GResource)(hs:l.length+(l.map GPart.size).sum+r.size+1≤1073741824):Ctr Tryz.prog N7k [aL 7 (l.map GPart.enc),aS r.enc] [rL 7 ((Kl l r).1.map GPart.enc),rB (Kl l r).2]:=by
 refine cA M79 8 71 [(.tmp 4,[true]),(.tmp 5,[false])] Tryz.func50 rfl rfl ?_;unfold M79
 intro hb
 clear hb
 have hll:l.length≤1073741824:=by omega
 have hps:l.length+(l.map GPart.size).sum≤1073741824:=by omega
 have hrb:r.Body.length≤1073741824:=by have:=hs;unfold GResource.size at this;omega
 simp only[go_sem]
 apply K0 (C1b l hps)
 simp only[go_sem]
 refine⟨fun hst=>?_,fun hst=>?_⟩
 ·apply K0 (C7 l hps)
  simp only[go_sem,Kl,hst]
  try intros
  try exact⟨rfl,rfl⟩
 ·try intros
  apply K0 (C63 r hrb)
  simp only[go_sem]
  try intros
  apply K0 (Cb2 l (digest r) (by omega))
  simp only[go_sem]
  intro _
  apply K0 (C7 l hps)
  simp only[go_sem]
  intros
  refine⟨fun hi=>?_,fun hi=>?_⟩
  ·obtain⟨n,p,hn,hp⟩:=K8h hi
   have hlt:=Kb hp
   have h0:(0:Int)≤(n:Int):=by omega
   have h1:(n:Int)<(l.length:Int):=by omega
   have hu:=K3m (show K15 none l=true by unfold K2d at hst;simp only[Bool.and_eq_true]at hst;exact hst.2) p (K1e hp)
   have hw:IntKind.i64.wrap (p.Uses+1)=p.Uses+1:=wI (by omega) (by omega)
   have ea:Kg l r=l.modify n moreP:=by unfold Kg;rw[if_pos hi,hn];rfl
   have hm:=K7g hp
   have es:(Kg l r).length+((Kg l r).map GPart.size).sum≤1073741824:=by rw[ea,K4s,List.length_modify];omega
   have hl2:(Kg l r).length=l.length:=by rw[ea,List.length_modify]
   rw[←ea]at hm
   simp only[moreP,GPart.enc,tI]at hm
   simp only[go_sem,hn,K7 hp,h0,h1,hw,hm,hl2,List.length_map,Nat.le_refl]
   apply K0 (C1b (Kg l r) es)
   simp only[go_sem]
   refine⟨fun ho=>?_,fun ho=>?_⟩
   ·try intros
    apply K0 (C7 l hps)
    simp only[go_sem,Kl,hst,ho]
   ·simp only[go_sem,Kl,hst,ho,hl2]
  ·refine K10 (fun k:Nat=>[(7,vI k)]) (fun k=>[]) (fun k=>k≤l.length∧∀x∈l.take k,lowD (digest r) x=true) (fun k=>l.length-k) 0 ?_
   simp only[go_sem]
   refine⟨?_,⟨by omega,by simp⟩,?_⟩
   ·simp only[go_sem]
   ·rintro k ⟨hk,hlt⟩
    have key:∀(hno:∀x,l[k]? =some x→lowD (digest r) x=false),Kg l r=l.take k++[K2w r]++l.drop k:=fun hno=>by
     rw[Kg,if_neg hi,K3n hlt hno hk]
    have e1:(if k=l.length then List.map GPart.enc l else List.take k (List.map GPart.enc l))=(l.take k).map GPart.enc:=by
     split
     ·rename_i h;rw[h,List.take_length]
     ·rw[List.map_take]
    have e2:(if k=0∧((l.length:Int)-(k:Int)).toNat=l.length then List.map GPart.enc l else List.take ((l.length:Int)-(k:Int)).toNat (List.drop k (List.map GPart.enc l)))=(l.drop k).map GPart.enc:=by
     split
     ·rename_i h;rw[h.1,List.drop_zero]
     ·rw[List.map_drop,List.take_of_length_le]
      rw[List.length_drop,List.length_map]
      omega
    have hlk:(l.take k).length=k:=by rw[List.length_take];omega
    have hld:(l.drop k).length=l.length-k:=List.length_drop
    have hds:(l.drop k).length+((l.drop k).map GPart.size).sum≤1073741824:=by
     have:=Ka1 (f:=GPart.size) l k
     omega
    have e3':Kg l r=l.take k++[K2w r]++l.drop k→List.map GPart.enc (l.take k)++[[tI (digest r),tI r.Kind,.sl 1 (r.Body.map encI),tI r.To.Host,tI r.To.Path,tI r.To.Query,tI 1]]++List.map GPart.enc (l.drop k)=(Kg l r).map GPart.enc:=fun h=>by
     rw[h,List.map_append,List.map_append,List.map_cons,List.map_nil,K6i]
    have e4':Kg l r=l.take k++[K2w r]++l.drop k→(l.take k).length+1+(l.drop k).length=(Kg l r).length:=fun h=>by
     rw[h,List.length_append,List.length_append];rfl
    by_cases hkl:k<l.length
    ·obtain⟨x,hx⟩:=Kh hkl
     have h1:(k:Int)<(l.length:Int):=by omega
     have h0:(0:Int)≤(k:Int):=by omega
     simp only[go_sem,h1,h0,K7 hx]
     refine⟨fun hd=>?_,fun hd=>?_⟩
     ·refine⟨k+1,by rw[wI (by omega) (by omega)];omega,⟨by omega,fun y hy=>?_⟩,by omega⟩
      rw[Kn hx]at hy
      rcases List.mem_append.1 hy with hy|hy
      ·exact hlt y hy
      ·rw[List.mem_singleton.1 hy];exact decide_eq_true hd
     ·have hadd:=key (fun y hy=>by rw[hx]at hy;obtain rfl:=Option.some.inj hy;exact decide_eq_false hd)
      have e3:=e3' hadd
      have e4:=e4' hadd
      have hfl:flat (List.map GPart.enc (l.drop k))=false:=by rw[K13 hx];rfl
      apply K0 (C7 l hps)
      simp only[go_sem,h0]
      intro _
      refine⟨by omega,?_⟩
      apply K0 (C1h r hrb)
      simp only[go_sem,Int.sub_zero,Int.toNat_natCast,e1,e2,List.length_map]
      refine⟨by decide,hk,by simp only[roomB];omega,⟨by omega,by omega,by omega⟩,?_⟩
      apply K0 (C7 (l.drop k) hds)
      simp only[go_sem,List.length_map,List.length_append,hfl,e3,e4]
      refine⟨by simp only[roomB];omega,?_⟩
      intros
      apply K0 (C1b (Kg l r) (K3b hi hs))
      simp only[go_sem]
      refine⟨fun ho=>?_,fun ho=>?_⟩
      ·try intros
       apply K0 (C7 l hps)
       simp only[go_sem,Kl,hst,ho]
      ·simp only[go_sem,Kl,hst,ho]
    ·have h1:¬(k:Int)<(l.length:Int):=by omega
     simp only[go_sem,h1]
     apply K0 (C7 l hps)
     have hadd:=key (fun y hy=>absurd (Kb hy) hkl)
     have e3:=e3' hadd
     have e4:=e4' hadd
     have hfl:flat (List.map GPart.enc (l.drop k))=true:=by rw[List.drop_eq_nil_of_le (by omega)];rfl
     have h0:(0:Int)≤(k:Int):=by omega
     have h1':(k:Int)≤(l.length:Int):=by omega
     simp only[go_sem,h0,h1']
     intro _
     refine⟨by omega,?_⟩
     apply K0 (C1h r hrb)
     simp only[go_sem,Int.sub_zero,Int.toNat_natCast,e1,e2,List.length_map]
     refine⟨by decide,hk,by simp only[roomB];omega,⟨by omega,by omega,by omega⟩,?_⟩
     apply K0 (C7 (l.drop k) hds)
     simp only[go_sem,List.length_map,List.length_append,hfl,e3,e4]
     refine⟨by simp only[roomB];omega,?_⟩
     intros
     apply K0 (C1b (Kg l r) (K3b hi hs))
     simp only[go_sem]
     refine⟨fun ho=>?_,fun ho=>?_⟩
     ·try intros
      apply K0 (C7 l hps)
      simp only[go_sem,Kl,hst,ho]
     ·simp only[go_sem,Kl,hst,ho]
end Go.Proofs.YtflhjihoifbmfaaGreatR
namespace Go.Proofs.YtflhjihoifbmfaaGreatR
open Go Go.RowKit Go.Proofs
open Nat (reduceEqDiff reduceLT reduceLeDiff reduceAdd reduceMul)
open List (reduceReplicate)
def psize(l:List GPart):Nat:=l.length+(l.map GPart.size).sum
theorem putPart_no{l:List GPart}{r:GResource}(h:(Kl l r).2=false):(Kl l r).1=l:=by
 unfold Kl at h ⊢
 split at h
 ·split at h
  ·cases h
  ·rw[if_pos (by assumption),if_neg (by assumption)]
 ·rw[if_neg (by assumption)]
theorem K9k(l:List GPart)(r:GResource):psize (Kl l r).1≤psize l+r.size+1:=by
 unfold Kl
 split
 ·split
  ·show psize (Kg l r)≤_
   unfold Kg
   split
   ·simp only[psize,K4s,List.length_modify];omega
   ·generalize (l.takeWhile (lowD (digest r))).length=k
    have h1:(l.take k++l.drop k)=l:=List.take_append_drop k l
    have h2:((l.take k).map GPart.size).sum+((l.drop k).map GPart.size).sum=(l.map GPart.size).sum:=by
     rw[←List.sum_append,←List.map_append,h1]
    have h3:(l.take k).length+(l.drop k).length=l.length:=by rw[←List.length_append,h1]
    simp only[psize,List.length_append,List.map_append,List.sum_append,List.map_cons,List.map_nil,List.sum_cons,List.sum_nil,List.length_cons,List.length_nil,K63]
    omega
  ·show psize l≤_;omega
 ·show psize l≤_;omega
def partsF(cs:List GCapture):List GPart:=cs.foldl (fun out c=>(Kl out c.Resource).1) []
theorem K6m{cs:List GCapture}{k:Nat}{c:GCapture}(h:cs[k]? =some c):partsF (cs.take (k+1))=(Kl (partsF (cs.take k)) c.Resource).1:=by
 rw[Kn h,partsF,List.foldl_append];rfl
theorem K6l(cs:List GCapture):psize (partsF cs)≤cs.length+(cs.map GCapture.size).sum:=by
 suffices H:∀(cs:List GCapture) (o:List GPart),psize (cs.foldl (fun out c=>(Kl out c.Resource).1) o)≤psize o+(cs.length+(cs.map GCapture.size).sum)by simpa[partsF,psize]using H cs []
 intro cs
 induction cs with
 |nil=>intro o;simp
 |cons c cs ih=>
  intro o
  have h1:=ih (Kl o c.Resource).1
  have h2:=K9k o c.Resource
  simp only[List.foldl_cons,List.length_cons,List.map_cons,List.sum_cons]
  have h3:c.size=c.Resource.size:=rfl
  omega
theorem K6k{cs:List GCapture}{k:Nat}{c:GCapture}(h:cs[k]? =some c):psize (partsF (cs.take k))+c.Resource.size+1≤cs.length+(cs.map GCapture.size).sum:=by
 have h1:=K6l (cs.take k)
 have h2:((cs.take (k+1)).map GCapture.size).sum≤(cs.map GCapture.size).sum:=K18 (f:=GCapture.size) cs (k+1)
 rw[Kn h]at h2
 simp only[List.map_append,List.sum_append,List.map_cons,List.map_nil,List.sum_cons,List.sum_nil]at h2
 have h3:c.size=c.Resource.size:=rfl
 have h4:=Kb h
 have h5:=List.length_take_le k cs
 omega
def K14(a:GArchive):List GPart:=partsF (Kr a)
theorem K9i(a:GArchive):(K14 a).length+((K14 a).map GPart.size).sum≤a.size:=by
 have h1:=K6l (Kr a)
 have h2:=K47 a
 unfold K14
 unfold psize at h1
 omega
def M6z:MC:=
(Zs [.box 1 0 (.s 0),.nilo 2 1 7] [1] (Zs [.nilo 3 1 7] [1,3] (.seq (Zs [lT 8 10 1,.call 9 [2] (.f N3g) [.s 8],nS 10 9,.mv 11 (ci 0)] [3,9,10,11] (.block 0 (.loop ([3,9,10,11],[0,3,4]) (Zs [bS 12 .lss 11 10] [3,9,10,11,12] (.seq (cX 12 0)
(.seq (.block 1 (Zs [xS 13 9 9 11,lT 14 9 13,.alloc 5 3 [pz,pz,pz,pz,pz,.emp 1,pz,pz,pz],sS 9 5 14] [3,5,9,10,11] (Zs [mS 16 3,fS 17 5 4,lT 18 5 17,.call 19 [4] (.f N7d) [.s 16,.s 18],mS 15 19,.ext 20 (.s 15) 0,.ext 21 (.s 15) 1,mS 6 20,mS 7 21] [3,6,7,9,10,11] (Zs [mS 22 7] [3,6,9,10,11,22] (.cond (.s 22) (.ren [(4,1)] (pr [mS 23 6,mS 3 23] [3,9,10,11])) .skip)))))
(pr [bC 24 .add 11 1,mS 11 24] [3,9,10,11])))))))
(Zs [mS 25 3,mS 2 25] [2] .ret))))
set_option maxHeartbeats 1000000 in
theorem C6t(a:GArchive)(hs:a.size≤1073741824):Ctr Tryz.prog N33 [aS a.enc] [rL 7 ((K14 a).map GPart.enc)]:=by
 refine cA M6z 5 26 [(.tmp 2,[true])] Tryz.func13 rfl rfl ?_;unfold M6z
 intro hb
 clear hb
 have hz:=K47 a
 simp only[go_sem]
 apply K0 (C8m a hs)
 simp only[go_sem]
 intros
 refine K5 (Kr a) (fun k=>[(3,.val false [.ref 1 0 7 0 (partsF ((Kr a).take k)).length]),(11,vI k)]) (fun k=>[(1,⟨0,.row true 7 ((partsF ((Kr a).take k)).map GPart.enc)⟩)]) (fun _=>True) (by simp only[roomB];omega) ?_
 simp only[go_sem]
 refine⟨?_,trivial,?_,?_⟩
 ·simp only[go_sem,List.take_zero]
  try exact⟨rfl,rfl⟩
 ·intro k c hx _ h0 h1 hw
  have hr:=K6k hx
  unfold psize at hr
  simp only[go_sem,K7 hx,h0,h1]
  apply K0 (Cam (partsF ((Kr a).take k)) c.Resource (by omega))
  simp only[go_sem,hw]
  intros
  rw[K6m hx]
  refine⟨fun ho=>?_,fun ho=>?_⟩
  ·simp only[go_sem,and_false]
   try trivial
  ·rw[putPart_no (by simpa using ho)]
   try exact⟨rfl,rfl⟩
 ·intro _
  simp only[go_sem,List.take_length]
  rfl
def M78:MC:=
(Zs [.box 1 0 (.s 0),.nilo 2 1 7] [1] (Zs [.lit 6 1 7 72 [],mS 3 6] [1,3] (Zs [lT 7 10 1,.call 8 [2] (.f N3p) [.s 7],mS 4 8] [3,4] (.seq (Zs [.mv 5 (ci 0)] [3,4,5] (.block 0 (.loop ([3,4,5],[0]) (.seq (Zs [mS 9 5,mS 10 4,nS 11 10,bS 12 .lss 9 11] [3,4,5,12] (cX 12 0))
(.seq (.block 1 (pr [mS 16 3,mS 17 4,mS 18 5,xS 19 9 17 18,fS 20 19 4,lT 21 5 20,.call 22 [1] (.f N7k) [.s 16,.s 21],mS 15 22,.ext 23 (.s 15) 0,.ext 24 (.s 15) 1,mS 3 23] [3,4,5]))
(pr [mS 13 5,bC 14 .add 13 1,mS 5 14] [3,4,5]))))))
(Zs [mS 25 3,mS 2 25] [2] .ret)))))
set_option maxHeartbeats 1000000 in
theorem Cas(a:GArchive)(hs:a.size≤1073741824):Ctr Tryz.prog N7j [aS a.enc] [rL 7 ((K14 a).map GPart.enc)]:=by
 refine cA M78 3 26 [(.tmp 2,[true])] Tryz.func12 rfl rfl ?_;unfold M78
 intro hb
 clear hb
 have hz:=K47 a
 simp only[go_sem]
 apply K0 (C90 a hs)
 simp only[go_sem]
 intros
 refine K5 (Kr a) (fun k=>[(3,.val false [.ref 1 0 7 0 (partsF ((Kr a).take k)).length]),(5,vI k)]) (fun k=>[(1,⟨0,.row true 7 ((partsF ((Kr a).take k)).map GPart.enc)⟩)]) (fun _=>True) (by simp only[roomB];omega) ?_
 simp only[go_sem]
 refine⟨?_,trivial,?_,?_⟩
 ·simp only[go_sem,List.take_zero]
  try exact⟨rfl,rfl⟩
 ·intro k c hx _ h0 h1 hw
  have hr:=K6k hx
  unfold psize at hr
  simp only[go_sem,K7 hx,h0,h1]
  apply K0 (Cat (partsF ((Kr a).take k)) c.Resource (by omega))
  simp only[go_sem,hw]
  intros
  rw[K6m hx]
  exact⟨rfl,rfl⟩
 ·intro _
  simp only[go_sem,List.take_length]
  rfl
end Go.Proofs.YtflhjihoifbmfaaGreatR
namespace Go.Proofs.YtflhjihoifbmfaaGreatR
open Go Go.RowKit Go.Proofs
open Nat (reduceEqDiff reduceLT reduceLeDiff reduceAdd reduceMul)
open List (reduceReplicate)
def M1o:MC:=
(Zs [.box 1 0 (.s 0),.mv 2 cF] [1] (Zs [.mv 3 (ci 1048576)] [1,3] (Zs [lT 11 10 1,mS 12 3,.call 13 [] (.f N5q) [.s 11,.s 12],mS 3 13] [1,3] (.seq (Zs [mS 14 3,bC 15 .lss 14 0] [1,15] (.cond (.s 15) (Zs [.mv 2 cT] [2] .ret) .skip))
(Zs [lT 16 10 1,.call 17 [1,2,3,4,5,6,7,8,9] (.f Nr) [.s 16],.call 18 [10] (.f N7j) [.s 17],mS 4 18] [1,4] (Zs [lT 19 10 1,.call 20 [11,12,13,14,15,16,17,18,19] (.f Nr) [.s 19],.alloc 5 20 [.emp 9,.emp 4,.emp 4,.emp 6,.emp 4,.emp 5,.emp 4,.emp 1,.emp 4,pz],sS 10 5 20] [1,4,5] (Zs [lT 21 10 5,.call 22 [21] (.f N33) [.s 21],mS 6 22] [1,4,5,6] (.seq (Zs [mS 23 6,mS 24 4,.call 25 [] (.f N1c) [.s 23,.s 24],.un 26 .not (.s 25)] [1,4,5,6,26] (.cond (.s 26) (Zs [.mv 2 cF] [2] .ret) .skip))
(.seq (.seq (.dreg [Zf [28,29] [22,23,24,25,26,27,28,29,30] (lT 27 10 5),Zc [27] (lT 28 10 1),{o:= .call 29 [22,23,24,25,26,27,28,29,30] (.f Nr) [.s 28],hs:=[27],ws:=[22,23,24,25,26,27,28,29,30],bf:=[1]},Ze [0,1,2] (.call 30 [] (.f N5k) [.s 27,.s 29]),Ze (.range 4) (.un 31 .not (.s 30))] [1,4,5,6,31])
(.cond (.s 31) (Zs [.mv 2 cF] [2] .ret) .skip))
(Zs [.mv 7 (ci 1)] [1,4,5,6,7] (Zs [lT 32 10 5,mS 33 7,.callI 34 [] (.f N3k) [.s 32,.s 33] [11,12,13,14,15,16,17,18,19] [],mS 7 34] [1,4,6,7] (.seq (.seq (.reg [Za (mS 35 7),Za (bC 36 .lss 35 0),Za (mS 37 36),Zb 37 false (mS 38 6),Zb 37 false (mS 39 4),Zb 37 false (.call 40 [] (.f N1c) [.s 38,.s 39]),Zb 37 false (.un 41 .not (.s 40)),Za (.pick 42 (.s 37) cT (.s 41))] [1,4,6,42])
(.cond (.s 42) (Zs [.mv 2 cF] [2] .ret) .skip))
(Zs [.mv 8 (ci 1)] [1,4,6,8] (Zs [mS 43 6,mS 44 8,.callI 45 [] (.f N5p) [.s 43,.s 44] [21] [],mS 8 45] [1,4,6,8] (Zs [.mv 9 (ci 1)] [1,4,6,8,9] (Zs [mS 46 6,mS 47 9,.call 48 [] (.f N1m) [.s 46,.s 47],mS 9 48] [1,4,6,8,9] (.seq (Zs [mS 49 9,bC 50 .lss 49 0] [1,4,6,8,9,50] (.cond (.s 50) (Zs [.mv 2 cF] [2] .ret) .skip))
(.seq (Zs [mS 51 9,mS 52 8,bS 53 .neq 51 52] [1,4,6,8,53] (.cond (.s 53) (Zs [.mv 2 cF] [2] .ret) .skip))
(Zs [lT 54 10 1,.call 55 [31,32,33,34,35,36,37,38,39] (.f Nr) [.s 54],.call 56 [40] (.f N33) [.s 55],mS 10 56] [4,6,8,10] (.seq (Zs [mS 57 10,mS 58 4,.call 59 [] (.f N1c) [.s 57,.s 58],.un 60 .not (.s 59)] [6,8,60] (.cond (.s 60) (Zs [.mv 2 cF] [2] .ret) .skip))
(Zs [.mv 9 (ci 1)] [6,8,9] (Zs [mS 61 6,mS 62 9,.call 63 [] (.f N1m) [.s 61,.s 62],mS 9 63] [8,9] (.seq (Zs [mS 64 9,bC 65 .lss 64 0] [8,9,65] (.cond (.s 65) (Zs [.mv 2 cF] [2] .ret) .skip))
(.seq (Zs [mS 66 9,mS 67 8,bS 68 .neq 66 67] [68] (.cond (.s 68) (Zs [.mv 2 cF] [2] .ret) .skip))
(Zs [.mv 2 cT] [2] .ret)))))))))))))))))))))))))
theorem c_laws_FnExactPartsOf(a:GArchive):Ctr Tryz.prog N7e [aS a.enc] [rB true]:=by
 refine cA M1o 41 69 [(.tmp 2,[false])] Tryz.func4 rfl rfl ?_;unfold M1o
 intro hb
 clear hb
 simp only[go_sem]
 apply K0 (C9z a _ (by omega))
 simp only[go_sem]
 intro _ hz
 have hs:=szr_ok hz
 have hc_a:=GArchive.cts_le a
 have hr0:=K3d (c:=GPart.ct) (s:=GPart.size) GPart.ct_le (K14 a)
 have hl_partsOf_size:=K9i a
 apply K0 (C12 a (by omega))
 simp only[go_sem]
 try intros
 apply K0 (Cas a (by omega))
 simp only[go_sem]
 try intros
 apply K0 (C12 a (by omega))
 simp only[go_sem]
 try intros
 apply K0 (C6t a (by omega))
 simp only[go_sem]
 try intros
 apply K0 (C30 (K14 a) (K14 a))
 simp only[go_sem]
 try intros
 apply K0 (C12 a (by omega))
 simp only[go_sem]
 try intros
 apply K0 (C9u a a)
 simp only[go_sem]
 try intros
 apply K8 (C8s a (1) (by omega) (by omega))
 simp only[go_sem]
 try intros
 have hk:¬((1+((a).cts:Nat):Int))<0:=by omega
 simp only[go_sem,hk]
 try intros
 apply K0 (C30 (K14 a) (K14 a))
 simp only[go_sem]
 try intros
 apply K8 (C9y (K14 a) (1) (by omega) (by omega))
 simp only[go_sem]
 try intros
 apply K0 (C4y (K14 a) (1) (by omega) (by omega))
 simp only[go_sem]
 have hq0:¬((1+(ctL GPart.ct (K14 a):Nat):Int))<0:=by omega
 try simp only[go_sem,hq0]
 try intros
 apply K0 (C12 a (by omega))
 simp only[go_sem]
 try intros
 apply K0 (C6t a (by omega))
 simp only[go_sem]
 try intros
 apply K0 (C30 (K14 a) (K14 a))
 simp only[go_sem]
 try intros
 apply K0 (C4y (K14 a) (1) (by omega) (by omega))
 simp only[go_sem]
 have hq0:¬((1+(ctL GPart.ct (K14 a):Nat):Int))<0:=by omega
 try simp only[go_sem,hq0]
 try intros
end Go.Proofs.YtflhjihoifbmfaaGreatR
