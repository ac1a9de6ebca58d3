/- What the functions compute that the laws of QualityNow reach: contracts. Conditions stand in each theorem. -/
import Derived.Shelf.RegionOpenPlain
import Derived.Test.YtjneccbpkckdfaaGreatTQualityNowa
set_option linter.unusedVariables false
set_option linter.unusedSimpArgs false
namespace Go.Proofs.YtjneccbpkckdfaaGreatR
open Go Go.RowKit Go.Proofs
open Nat (reduceEqDiff reduceLT reduceLeDiff reduceAdd reduceMul)
open List (reduceReplicate)
attribute [go_sem] eqB
def Mcm:MC:=
(Zs [.mv 6 cF] [0,1,2] (.seq (.reg [Za (mS 7 0),Za (mS 8 1),Za (bS 9 .geq 7 8),Za (mS 10 9),Zb 10 true (mS 11 0),Zb 10 true (mS 12 2),Zb 10 true (bS 13 .leq 11 12),Za (.pick 14 (.s 10) (.s 13) cF),Za (mS 6 14)] [6])
.ret))
theorem C2(x a b:Int):Ctr Tryz.prog N0 [aI x,aI a,aI b] [rB (decide (a≤x∧x≤b))]:=by
 refine cA Mcm 0 15 [(.tmp 6,[false])] Tryz.func151 rfl rfl ?_;unfold Mcm
 intro hb
 clear hb
 simp only[go_sem]
 exact⟨fun h=>by simp[h],fun h=>by simp;omega⟩
def Me5:MC:=
(Zs [.mv 4 cF] [0,1] (.seq (.reg [Za (mS 5 0),Za (bC 6 .geq 5 0),Za (mS 7 6),Zb 7 true (mS 8 0),Zb 7 true (mS 9 1),Zb 7 true (bS 10 .lss 8 9),Za (.pick 11 (.s 7) (.s 10) cF),Za (mS 4 11)] [4])
.ret))
theorem Cb9(x n:Int):Ctr Tryz.prog N1f [aI x,aI n] [rB (decide (0≤x∧x<n))]:=by
 refine cA Me5 0 12 [(.tmp 4,[false])] Tryz.func284 rfl rfl ?_;unfold Me5
 intro hb
 clear hb
 simp only[go_sem]
 exact⟨fun h=>by simp[h],fun h=>by simp;omega⟩
def M9a:MC:=
(Zs [.mv 6 cF] [0,1,2] (.seq (.reg [Za (mS 7 1),Za (mS 8 0),Za (bS 9 .leq 7 8),Za (mS 10 9),Zb 10 true (mS 11 0),Zb 10 true (mS 12 2),Zb 10 true (bS 13 .leq 11 12),Za (.pick 14 (.s 10) (.s 13) cF),Za (mS 6 14)] [6])
.ret))
theorem C4(x a b:Int):Ctr Tryz.prog N1 [aI x,aI a,aI b] [rB (decide (a≤x∧x≤b))]:=by
 refine cA M9a 0 15 [(.tmp 6,[false])] Tryz.func173 rfl rfl ?_;unfold M9a
 intro hb
 clear hb
 simp only[go_sem]
 exact⟨fun h=>by simp[h],fun h=>by simp;omega⟩
def K1e(l:List Int)(a b:Int):Bool:=l.all fun x=>decide (a≤x∧x≤b)
theorem K4r{α:Type}{p:α→Bool}{l:List α}{k:Nat}{x:α}(hx:l[k]? =some x)(h:(l.take k).all p=true)(hn:p x=true):(l.take (k+1)).all p=true:=by
 rw[Kk hx,List.all_append,h];simp[hn]
theorem K7e{α:Type}{p:α→Bool}{l:List α}{k:Nat}{x:α}(hx:l[k]? =some x)(hn:p x=false):false=l.all p:=by
 symm;rw[List.all_eq_false];exact⟨x,Km hx,by simp[hn]⟩
def Mbm:MC:=
(Zs [.mv 6 cF] [0,1,2] (.seq (Zs [mS 9 0,nS 10 9,.mv 11 (ci 0)] [1,2,9,10,11] (.block 0 (.loop ([1,2,9,10,11],[]) (Zs [bS 12 .lss 11 10] [1,2,9,10,11,12] (.seq (cX 12 0)
(.seq (.block 1 (Zs [xS 13 1 9 11,lF 14 1 13,mS 8 14] [1,2,8,9,10,11] (Zs [mS 15 8,mS 16 1,mS 17 2,.call 18 [] (.f N1) [.s 15,.s 16,.s 17],.un 19 .not (.s 18)] [1,2,9,10,11,19] (.cond (.s 19) (Zs [.mv 6 cF] [6] .ret) .skip))))
(pr [bC 20 .add 11 1,mS 11 20] [1,2,9,10,11])))))))
(Zs [.mv 6 cT] [6] .ret)))
theorem C6i(l:List Int)(a b:Int):Ctr Tryz.prog N1u [aL 1 (l.map encI),aI a,aI b] [rB (K1e l a b)]:=by
 refine cA Mbm 0 21 [(.tmp 6,[false])] Tryz.func258 rfl rfl ?_;unfold Mbm
 intro hb
 simp only[bdA,bdL,bdT,Kh,K1n,roomB,and_true,List.length_map]at hb
 obtain⟨⟨hl,-⟩,-⟩:=hb
 simp only[go_sem]
 refine K4 l (fun k=>[(11,vI k)]) (fun k=>[]) (fun k=>((l.take k).all fun x=>decide (a≤x∧x≤b))=true) hl ?_
 simp only[go_sem]
 refine⟨?_,by simp,?_,?_⟩
 ·simp only[go_sem]
 ·intro k x hx h h0 h1 hw
  simp only[go_sem,K1 hx,h0,h1]
  refine K0 (C4 _ _ _) ?_
  simp only[go_sem,hw]
  exact⟨fun hn=>K7e hx (by simpa using hn),fun hn=>K4r hx h (by simpa using hn)⟩
 ·intro h
  simp only[go_sem]
  rw[List.take_length]at h
  exact h.symm
def M9q:MC:=
(Zs [.mv 2 cF] [0] (.seq (Zs [.mv 3 (ci 0)] [0,3] (.block 0 (.loop ([0,3],[]) (.seq (Zs [mS 4 3,mS 5 0,nS 6 5,bS 7 .lss 4 6] [0,3,7] (cX 7 0))
(.seq (.block 1 (Zs [mS 10 0,mS 11 3,xS 12 1 10 11,lF 13 1 12,.call 14 [] (.f N0) [.s 13,.c (.int .i64 0),.c (.int .i64 255)],.un 15 .not (.s 14)] [0,3,15] (.cond (.s 15) (Zs [.mv 2 cF] [2] .ret) .skip)))
(pr [mS 8 3,bC 9 .add 8 1,mS 3 9] [0,3]))))))
(Zs [.mv 2 cT] [2] .ret)))
theorem Ce4(l:List Int):Ctr Tryz.prog Na0 [aL 1 (l.map encI)] [rB (K1e l 0 255)]:=by
 refine cA M9q 0 16 [(.tmp 2,[false])] Tryz.func332 rfl rfl ?_;unfold M9q
 intro hb
 simp only[bdA,bdL,bdT,Kh,roomB,and_true,List.length_map]at hb
 obtain⟨hl,-⟩:=hb
 simp only[go_sem]
 refine K4 l (fun k=>[(3,vI k)]) (fun k=>[]) (fun k=>((l.take k).all fun x=>decide (0≤x∧x≤255))=true) hl ?_
 simp only[go_sem]
 refine⟨?_,by simp,?_,?_⟩
 ·simp only[go_sem]
 ·intro k x hx h h0 h1 hw
  simp only[go_sem,K1 hx,h0,h1]
  refine K0 (C2 _ _ _) ?_
  simp only[go_sem,hw]
  exact⟨fun hn=>K7e hx (by simpa using hn),fun hn=>K4r hx h (by simpa using hn)⟩
 ·intro h
  simp only[go_sem]
  rw[List.take_length]at h
  exact h.symm
def K38(a:GAddress):Bool:=decide (1≤a.Host∧a.Host≤9)&&(decide (0≤a.Path∧a.Path≤99)&&decide (0≤a.Query∧a.Query≤99))
def Y15(v0:Nat):MC:=
(Zs [.box 1 0 (.s 0),.mv 2 cF] [1] (.seq (.reg [Za (fS 3 1 0),Za (lF 4 1 3),Za (.call 5 [] (.f v0) [.s 4,.c (.int .i64 1),.c (.int .i64 9)]),Za (mS 6 5),Zb 6 true (fS 7 1 1),Zb 6 true (lF 8 1 7),Zb 6 true (.call 9 [] (.f v0) [.s 8,.c (.int .i64 0),.c (.int .i64 99)]),Za (.pick 10 (.s 6) (.s 9) cF),Za (mS 11 10),Zb 11 true (fS 12 1 2),Zb 11 true (lF 13 1 12),Zb 11 true (.call 14 [] (.f v0) [.s 13,.c (.int .i64 0),.c (.int .i64 99)]),Za (.pick 15 (.s 11) (.s 14) cF),Za (mS 2 15)] [2])
.ret))
attribute [go_sem] Y15
def M6l:MC:=Y15 N1
theorem C6h(a:GAddress):Ctr Tryz.prog N2a [aS a.enc] [rB (K38 a)]:=by
 refine cA M6l 1 16 [(.tmp 2,[false])] Tryz.func269 rfl rfl ?_;unfold M6l
 intro hb
 clear hb
 simp only[go_sem]
 refine K0 (C4 _ _ _) ?_
 simp only[go_sem]
 refine⟨fun h=>?_,fun h=>by unfold K38;rw[decide_eq_false h];rfl⟩
 refine K0 (C4 _ _ _) ?_
 simp only[go_sem]
 refine⟨fun h2=>?_,fun h2=>by unfold K38;rw[decide_eq_false h2];simp⟩
 refine K0 (C4 _ _ _) ?_
 simp only[go_sem]
 unfold K38;rw[decide_eq_true h,decide_eq_true h2];rfl
def M76:MC:=Y15 N0
theorem C6k(a:GAddress):Ctr Tryz.prog N2b [aS a.enc] [rB (K38 a)]:=by
 refine cA M76 1 16 [(.tmp 2,[false])] Tryz.func250 rfl rfl ?_;unfold M76
 intro hb
 clear hb
 simp only[go_sem]
 refine K0 (C2 _ _ _) ?_
 simp only[go_sem]
 refine⟨fun h=>?_,fun h=>by unfold K38;rw[decide_eq_false h];rfl⟩
 refine K0 (C2 _ _ _) ?_
 simp only[go_sem]
 refine⟨fun h2=>?_,fun h2=>by unfold K38;rw[decide_eq_false h2];simp⟩
 refine K0 (C2 _ _ _) ?_
 simp only[go_sem]
 unfold K38;rw[decide_eq_true h,decide_eq_true h2];rfl
def K2m(a:GAddress):Bool:=a.Host==0&&(a.Path==0&&a.Query==0)
def Ks(r:GResource):Bool:=
 if r.Kind=1∨r.Kind=2 then decide (r.Body.length≤6)&&(K1e r.Body 0 255&&K2m r.To)
 else if r.Kind=3 then decide (r.Body.length=0)&&K38 r.To
 else if r.Kind=4 then decide (r.Body.length=0)&&K2m r.To else false
def M4x:MC:=
(Zs [.box 1 0 (.s 0),.mv 2 cF] [1] (.seq (Zs [fS 3 1 0,lF 4 1 3] [1,4] (.block 0 (.seq (Zs [bC 6 .eql 4 1,mS 5 6] [1,4,5] (.cond (.s 5) .skip (pr [bC 7 .eql 4 2,mS 5 7] [1,4,5])))
(.cond (.s 5) (.seq (.reg [Za (fS 8 1 1),Za (lF 9 1 8),Za (nS 10 9),Za (bC 11 .leq 10 6),Za (mS 12 11),Zb 12 true (fS 13 1 1),Zb 12 true (lF 14 1 13),Zb 12 true (.call 15 [] (.f N1u) [.s 14,.c (.int .i64 0),.c (.int .i64 255)]),Za (.pick 16 (.s 12) (.s 15) cF),Za (mS 17 16),Zb 17 true (fS 18 1 2),Zb 17 true (lT 19 3 18),Zb 17 true (.build 20 [pz,pz,pz] []),Zb 17 true (.eqA 21 false [.i .i64,.i .i64,.i .i64] (.s 19) (.s 20)),Za (.pick 22 (.s 17) (.s 21) cF),Za (mS 2 22)] [2])
.ret) (Zs [bC 24 .eql 4 3,mS 23 24] [1,4,23] (.cond (.s 23) (.seq (.reg [Za (fS 25 1 1),Za (lF 26 1 25),Za (nS 27 26),Za (bC 28 .eql 27 0),Za (mS 29 28),Zb 29 true (fS 30 1 2),Zb 29 true (lT 31 3 30),Zb 29 true (.call 32 [] (.f N2a) [.s 31]),Za (.pick 33 (.s 29) (.s 32) cF),Za (mS 2 33)] [2])
.ret) (Zs [bC 35 .eql 4 4,mS 34 35] [1,34] (.cond (.s 34) (.seq (.reg [Za (fS 36 1 1),Za (lF 37 1 36),Za (nS 38 37),Za (bC 39 .eql 38 0),Za (mS 40 39),Zb 40 true (fS 41 1 2),Zb 40 true (lT 42 3 41),Zb 40 true (.build 43 [pz,pz,pz] []),Zb 40 true (.eqA 44 false [.i .i64,.i .i64,.i .i64] (.s 42) (.s 43)),Za (.pick 45 (.s 40) (.s 44) cF),Za (mS 2 45)] [2])
.ret) .skip))))))))
(Zs [.mv 2 cF] [2] .ret)))
theorem C4m(r:GResource):Ctr Tryz.prog N1x [aS r.enc] [rB (Ks r)]:=by
 refine cA M4x 1 46 [(.tmp 2,[false])] Tryz.func270 rfl rfl ?_;unfold M4x
 intro hb
 clear hb
 have hcase:r.Kind=1∨r.Kind=2∨r.Kind=3∨r.Kind=4∨(¬r.Kind=1∧¬r.Kind=2∧¬r.Kind=3∧¬r.Kind=4):=by omega
 rcases hcase with hk|hk|hk|hk|⟨h1,h2,h3,h4⟩
 ·simp only[go_sem,hk]
  refine⟨fun h=>?_,fun h=>?_⟩
  ·have h':r.Body.length≤6:=by omega
   refine K0 (C6i _ _ _) ?_
   simp only[go_sem]
   exact⟨fun h2=>by simp[Ks,K2m,hk,h2,h'],fun h2=>by simp[Ks,K2m,hk,h2]⟩
  ·have h':¬r.Body.length≤6:=by omega
   simp[Ks,K2m,hk,h']
 ·simp only[go_sem,hk,Int.reduceEq]
  refine⟨fun h=>?_,fun h=>?_⟩
  ·have h':r.Body.length≤6:=by omega
   refine K0 (C6i _ _ _) ?_
   simp only[go_sem]
   exact⟨fun h2=>by simp[Ks,K2m,hk,h2,h'],fun h2=>by simp[Ks,K2m,hk,h2]⟩
  ·have h':¬r.Body.length≤6:=by omega
   simp[Ks,K2m,hk,h']
 ·simp only[go_sem,hk,Int.reduceEq]
  refine⟨fun h=>?_,fun h=>?_⟩
  ·have h':r.Body.length=0:=by omega
   refine K0 (C6h r.To) ?_
   simp only[go_sem]
   simp[Ks,hk,h']
  ·have h':¬r.Body.length=0:=by omega
   unfold Ks
   rw[if_neg (by omega),if_pos hk,decide_eq_false h']
   rfl
 ·simp only[go_sem,hk,Int.reduceEq]
  refine⟨fun h=>?_,fun h=>?_⟩
  ·have h':r.Body.length=0:=by omega
   unfold Ks
   rw[if_neg (by omega),if_neg (by omega),if_pos hk,decide_eq_true h']
   simp[K2m]
  ·have h':¬r.Body.length=0:=by omega
   unfold Ks
   rw[if_neg (by omega),if_neg (by omega),if_pos hk,decide_eq_false h']
   rfl
 ·simp only[go_sem,h1,h2,h3,h4]
  unfold Ks
  rw[if_neg (by omega),if_neg (by omega),if_neg (by omega)]
def M5j:MC:=
(Zs [.box 1 0 (.s 0),.mv 2 cF] [1] (.seq (.seq (.reg [Za (fS 3 1 0),Za (lF 4 1 3),Za (.call 5 [] (.f N0) [.s 4,.c (.int .i64 1),.c (.int .i64 4)]),Za (.un 6 .not (.s 5)),Za (mS 7 6),Zb 7 false (fS 8 1 1),Zb 7 false (lF 9 1 8),Zb 7 false (.call 10 [] (.f Na0) [.s 9]),Zb 7 false (.un 11 .not (.s 10)),Za (.pick 12 (.s 7) cT (.s 11)),Za (mS 13 12),Zb 13 false (fS 14 1 1),Zb 13 false (lF 15 1 14),Zb 13 false (nS 16 15),Zb 13 false (bC 17 .gtr 16 6),Za (.pick 18 (.s 13) cT (.s 17))] [1,18])
(.cond (.s 18) (Zs [.mv 2 cF] [2] .ret) .skip))
(.seq (Zs [fS 19 1 0,lF 20 1 19,bC 21 .eql 20 3] [1,21] (.cond (.s 21) (.seq (.reg [Za (fS 22 1 2),Za (lT 23 3 22),Za (.call 24 [] (.f N2b) [.s 23]),Za (mS 25 24),Zb 25 true (fS 26 1 1),Zb 25 true (lF 27 1 26),Zb 25 true (nS 28 27),Zb 25 true (bC 29 .eql 28 0),Za (.pick 30 (.s 25) (.s 29) cF),Za (mS 2 30)] [2])
.ret) .skip))
(.seq (.reg [Za (fS 31 1 2),Za (lT 32 3 31),Za (.build 33 [pz,pz,pz] []),Za (.eqA 34 false [.i .i64,.i .i64,.i .i64] (.s 32) (.s 33)),Za (mS 35 34),Zb 35 true (fS 36 1 0),Zb 35 true (lF 37 1 36),Zb 35 true (bC 38 .neq 37 4),Zb 35 true (mS 39 38),Zb 39 false (fS 40 1 1),Zb 39 false (lF 41 1 40),Zb 39 false (nS 42 41),Zb 39 false (bC 43 .eql 42 0),Zb 35 true (.pick 44 (.s 39) cT (.s 43)),Za (.pick 45 (.s 35) (.s 44) cF),Za (mS 2 45)] [2])
.ret))))
theorem C4r(r:GResource):Ctr Tryz.prog N1z [aS r.enc] [rB (Ks r)]:=by
 refine cA M5j 1 46 [(.tmp 2,[false])] Tryz.func251 rfl rfl ?_;unfold M5j
 intro hb
 clear hb
 simp only[go_sem]
 refine K0 (C2 _ _ _) ?_
 simp only[go_sem]
 refine⟨fun h=>?_,fun h=>?_⟩
 ·unfold Ks
  rw[if_neg (by omega),if_neg (by omega),if_neg (by omega)]
 ·refine K0 (Ce4 r.Body) ?_
  simp only[go_sem]
  refine⟨fun ha=>?_,fun ha=>⟨fun hl=>?_,fun hl=>⟨fun hk=>?_,fun hk=>?_⟩⟩⟩
  ·have h0:¬r.Body.length=0:=fun e=>by
    rw[List.eq_nil_of_length_eq_zero e]at ha
    simp[K1e]at ha
   simp[Ks,ha,h0]
  ·have h0:¬r.Body.length=0:=by omega
   have h1:¬r.Body.length≤6:=by omega
   simp[Ks,h0,h1]
  ·refine K0 (C6k r.To) ?_
   simp only[go_sem]
   refine⟨fun hi=>?_,fun hi=>by simp[Ks,hk,hi]⟩
   unfold Ks
   rw[if_neg (by omega),if_pos hk,hi,Bool.and_true,Bool.eq_iff_iff]
   simp
  ·have h1:r.Body.length≤6:=by omega
   refine⟨fun ht=>?_,fun ht=>?_⟩
   ·have hn:K2m r.To=true:=by
     unfold K2m
     exact(Bool.eq_false_or_eq_true _).resolve_right fun e=>ht e.symm
    refine⟨fun k4=>?_,fun k4=>?_⟩
    ·unfold Ks
     rw[if_pos (by omega),ha,hn,decide_eq_true h1]
     rfl
    ·unfold Ks
     rw[if_neg (by omega),if_neg hk,if_pos k4,hn,Bool.and_true,Bool.eq_iff_iff]
     simp
   ·have hn:K2m r.To=false:=ht.symm
    unfold Ks
    rw[hn,if_neg hk]
    split
    ·simp
    ·split<;>simp
end Go.Proofs.YtjneccbpkckdfaaGreatR
namespace Go.Proofs.YtjneccbpkckdfaaGreatR
open Go Go.RowKit Go.Proofs
open Nat (reduceEqDiff reduceLT reduceLeDiff reduceAdd reduceMul)
open List (reduceReplicate)
end Go.Proofs.YtjneccbpkckdfaaGreatR
namespace Go.Proofs.YtjneccbpkckdfaaGreatR
open Go Go.RowKit Go.Proofs
open Nat (reduceEqDiff reduceLT reduceLeDiff reduceAdd reduceMul)
open List (reduceReplicate)
end Go.Proofs.YtjneccbpkckdfaaGreatR
namespace Go.Proofs.YtjneccbpkckdfaaGreatR
open Go Go.RowKit Go.Proofs
open Nat (reduceEqDiff reduceLT reduceLeDiff reduceAdd reduceMul)
open List (reduceReplicate)
end Go.Proofs.YtjneccbpkckdfaaGreatR
namespace Go.Proofs.YtjneccbpkckdfaaGreatR
open Go Go.RowKit Go.Proofs
open Nat (reduceEqDiff reduceLT reduceLeDiff reduceAdd reduceMul)
open List (reduceReplicate)
end Go.Proofs.YtjneccbpkckdfaaGreatR
namespace Go.Proofs.YtjneccbpkckdfaaGreatR
open Go Go.RowKit Go.Proofs
open Nat (reduceEqDiff reduceLT reduceLeDiff reduceAdd reduceMul)
open List (reduceReplicate)
attribute [go_sem] eqB
def M9p:MC:=
(Zs [.mv 4 cF] [0,1] (.seq (Zs [mS 6 0,nS 7 6,mS 8 1,nS 9 8,bS 10 .neq 7 9] [0,1,10] (.cond (.s 10) (Zs [.mv 4 cF] [4] .ret) .skip))
(.seq (Zs [.mv 5 (ci 0)] [0,1,5] (.block 0 (.loop ([0,1,5],[]) (.seq (Zs [mS 11 5,mS 12 0,nS 13 12,bS 14 .lss 11 13] [0,1,5,14] (cX 14 0))
(.seq (.block 1 (.seq (.dreg [Zc [18,21,22,23,24] (mS 17 0),Zc [17,21,22,23,24] (mS 18 5),Zd [21,22,23,24] [0,1] (xS 19 6 17 18),Zd [21,22,23,24] [0,1,2] (lT 20 6 19),Zc [17,18,19,20,22] (mS 21 1),Zc [17,18,19,20,21] (mS 22 5),Zd [17,18,19,20] [4,5] (xS 23 6 21 22),Zd [17,18,19,20] [4,5,6] (lT 24 6 23),Ze (.range 8) (.eqA 25 true [.i .i64,.i .i64,.i .i64,.i .i64,.i .i64,.i .i64] (.s 20) (.s 24))] [0,1,5,25])
(.cond (.s 25) (Zs [.mv 4 cF] [4] .ret) .skip)))
(pr [mS 15 5,bC 16 .add 15 1,mS 5 16] [0,1,5]))))))
(Zs [.mv 4 cT] [4] .ret))))
theorem Ce3(xs ys:List GFound):Ctr Tryz.prog N9z [aL 6 (xs.map GFound.enc),aL 6 (ys.map GFound.enc)] [rB (decide (xs=ys))]:=by
 refine cA M9p 0 26 [(.tmp 4,[false])] Tryz.func237 rfl rfl ?_;unfold M9p
 intro hb
 simp only[bdA,bdL,bdT,Kh,roomB,and_true,List.length_map]at hb
 obtain⟨⟨hl,-⟩,⟨hl2,-⟩⟩:=hb
 simp only[go_sem]
 refine⟨fun h=>K2l h,fun h=>?_⟩
 have hle:xs.length=ys.length:=by omega
 refine K4 xs (fun k=>[(5,vI k)]) (fun k=>[]) (fun k=>xs.take k=ys.take k) hl ?_
 simp only[go_sem]
 refine⟨?_,rfl,?_,?_⟩
 ·simp only[go_sem]
 ·intro k x hx he h0 h1 hw
  obtain⟨y,hy⟩:=K7 (show k<ys.length by omega)
  have h2:(k:Int)<ys.length:=by omega
  simp only[go_sem,K1 hx,K1 hy,h0,h1,h2,hw]
  exact⟨fun hn=>K3e hx hy (by rintro rfl;simp at hn),fun hn=>(Ko hx hy he).2 (by exact GFound.eqv.2 (by simpa using hn))⟩
 ·intro he
  simp only[go_sem]
  exact K2k he hle
end Go.Proofs.YtjneccbpkckdfaaGreatR
namespace Go.Proofs.YtjneccbpkckdfaaGreatR
open Go Go.RowKit Go.Proofs
open Nat (reduceEqDiff reduceLT reduceLeDiff reduceAdd reduceMul)
open List (reduceReplicate)
theorem any_nots{α:Type}{p:α→Bool}{l:List α}:(l.any fun x=> !p x)= !l.all p:=by
 induction l with
 |nil=>rfl
 |cons x l ih=>rw[List.any_cons,List.all_cons,ih];cases p x<;>rfl
def K27{α:Type}(n:Nat)(p:α→Bool)(l:List α):Bool:=decide (l.length≤n)&&l.all p
theorem K9p{α:Type}{n:Nat}{p:α→Bool}{l:List α}(h:¬l.length≤n):false=K27 n p l:=by
 unfold K27;rw[decide_eq_false h];rfl
theorem K8f{α:Type}{n:Nat}{p:α→Bool}{l:List α}(h:l.length≤n):(!l.any fun x=> !p x)=K27 n p l:=by
 unfold K27;rw[decide_eq_true h,any_nots,Bool.not_not];rfl
theorem K9o{α:Type}{n:Nat}{p:α→Bool}{l:List α}{k:Nat}{x:α}(hx:l[k]? =some x)(h:p x=false):false=K27 n p l:=by
 unfold K27;rw[←K7e hx h,Bool.and_false]
theorem K8e{α:Type}{n:Nat}{p:α→Bool}{l:List α}(h:l.all p=true):decide (l.length≤n)=K27 n p l:=by
 unfold K27;rw[h,Bool.and_true]
theorem le_cast{n m:Nat}:decide ((n:Int)≤(m:Int))=decide (n≤m):=by
 rw[Bool.eq_iff_iff];simp only[decide_eq_true_eq];omega
def opOk(o:GOp):Bool:=decide ((0≤o.A∧o.A<4)∧(
 (o.Kind=1∧(1≤o.B∧o.B≤9)∧(0≤o.C∧o.C≤99))∨
 ((o.Kind=2∨o.Kind=3∨o.Kind=4)∧o.B=0∧o.C=0)∨
 (o.Kind=5∧(0≤o.B∧o.B<4)∧(0≤o.C∧o.C<4))∨
 (o.Kind=6∧(0≤o.B∧o.B<4)∧o.C=0)∨
 (o.Kind=7∧(1≤o.B∧o.B≤3)∧o.C=0)∨
 ((o.Kind=8∨o.Kind=9)∧(0≤o.B∧o.B<3)∧o.C=0)))
def Kz(l:List GOp):Bool:=K27 16 opOk l
def Mci:MC:=
(Zs [.box 1 0 (.s 0),.mv 2 cF] [1] (.seq (Zs [fS 3 1 1,lF 4 1 3,.call 5 [] (.f N1f) [.s 4,.c (.int .i64 4)],.un 6 .not (.s 5)] [1,6] (.cond (.s 6) (Zs [.mv 2 cF] [2] .ret) .skip))
(.seq (Zs [fS 7 1 0,lF 8 1 7] [1,8] (.block 0 (Zs [bC 10 .eql 8 1,mS 9 10] [1,8,9] (.cond (.s 9) (.seq (.reg [Za (fS 11 1 2),Za (lF 12 1 11),Za (.call 13 [] (.f N1) [.s 12,.c (.int .i64 1),.c (.int .i64 9)]),Za (mS 14 13),Zb 14 true (fS 15 1 3),Zb 14 true (lF 16 1 15),Zb 14 true (.call 17 [] (.f N1) [.s 16,.c (.int .i64 0),.c (.int .i64 99)]),Za (.pick 18 (.s 14) (.s 17) cF),Za (mS 2 18)] [2])
.ret) (.seq (Zs [bC 20 .eql 8 2,mS 19 20] [1,8,19] (.cond (.s 19) .skip (Zs [bC 21 .eql 8 3,mS 19 21] [1,8,19] (.cond (.s 19) .skip (pr [bC 22 .eql 8 4,mS 19 22] [1,8,19])))))
(.cond (.s 19) (.seq (.reg [Za (fS 23 1 2),Za (lF 24 1 23),Za (bC 25 .eql 24 0),Za (mS 26 25),Zb 26 true (fS 27 1 3),Zb 26 true (lF 28 1 27),Zb 26 true (bC 29 .eql 28 0),Za (.pick 30 (.s 26) (.s 29) cF),Za (mS 2 30)] [2])
.ret) (Zs [bC 32 .eql 8 5,mS 31 32] [1,8,31] (.cond (.s 31) (.seq (.reg [Za (fS 33 1 2),Za (lF 34 1 33),Za (.call 35 [] (.f N1f) [.s 34,.c (.int .i64 4)]),Za (mS 36 35),Zb 36 true (fS 37 1 3),Zb 36 true (lF 38 1 37),Zb 36 true (.call 39 [] (.f N1f) [.s 38,.c (.int .i64 4)]),Za (.pick 40 (.s 36) (.s 39) cF),Za (mS 2 40)] [2])
.ret) (Zs [bC 42 .eql 8 6,mS 41 42] [1,8,41] (.cond (.s 41) (.seq (.reg [Za (fS 43 1 2),Za (lF 44 1 43),Za (.call 45 [] (.f N1f) [.s 44,.c (.int .i64 4)]),Za (mS 46 45),Zb 46 true (fS 47 1 3),Zb 46 true (lF 48 1 47),Zb 46 true (bC 49 .eql 48 0),Za (.pick 50 (.s 46) (.s 49) cF),Za (mS 2 50)] [2])
.ret) (Zs [bC 52 .eql 8 7,mS 51 52] [1,8,51] (.cond (.s 51) (.seq (.reg [Za (fS 53 1 2),Za (lF 54 1 53),Za (.call 55 [] (.f N1) [.s 54,.c (.int .i64 1),.c (.int .i64 3)]),Za (mS 56 55),Zb 56 true (fS 57 1 3),Zb 56 true (lF 58 1 57),Zb 56 true (bC 59 .eql 58 0),Za (.pick 60 (.s 56) (.s 59) cF),Za (mS 2 60)] [2])
.ret) (.seq (Zs [bC 62 .eql 8 8,mS 61 62] [1,8,61] (.cond (.s 61) .skip (pr [bC 63 .eql 8 9,mS 61 63] [1,61])))
(.cond (.s 61) (.seq (.reg [Za (fS 64 1 2),Za (lF 65 1 64),Za (.call 66 [] (.f N1f) [.s 65,.c (.int .i64 3)]),Za (mS 67 66),Zb 67 true (fS 68 1 3),Zb 67 true (lF 69 1 68),Zb 67 true (bC 70 .eql 69 0),Za (.pick 71 (.s 67) (.s 70) cF),Za (mS 2 71)] [2])
.ret) .skip))))))))))))))
(Zs [.mv 2 cF] [2] .ret))))
theorem Cej(o:GOp):Ctr Tryz.prog Nco [aS o.enc] [rB (opOk o)]:=by
 refine cA Mci 1 72 [(.tmp 2,[false])] Tryz.func294 rfl rfl ?_;unfold Mci
 intro hb
 clear hb
 simp only[go_sem]
 repeat' first
  |(refine And.intro ?_ ?_<;>intro h)
  |(apply K0 (Cb9 _ _);simp only[go_sem])
  |(apply K0 (C4 _ _ _);simp only[go_sem])
 all_goals (unfold opOk;first|(symm;rw[decide_eq_false_iff_not];omega)|(symm;rw[decide_eq_true_eq];omega)|(rw[Bool.eq_iff_iff];simp only[decide_eq_true_eq,beq_iff_eq];omega))
def Mbq:MC:=
(Zs [.box 1 0 (.s 0),.mv 2 cF] [1] (Zs [.mv 3 (ci 3)] [1,3] (.seq (Zs [fS 4 1 1,lF 5 1 4,mS 6 3,.call 7 [] (.f N0) [.s 5,.c (.int .i64 0),.s 6],.un 8 .not (.s 7)] [1,3,8] (.cond (.s 8) (Zs [.mv 2 cF] [2] .ret) .skip))
(.seq (Zs [fS 9 1 0,lF 10 1 9] [1,3,10] (.block 0 (Zs [bC 12 .eql 10 1,mS 11 12] [1,3,10,11] (.cond (.s 11) (.seq (.reg [Za (fS 13 1 2),Za (lF 14 1 13),Za (.call 15 [] (.f N0) [.s 14,.c (.int .i64 1),.c (.int .i64 9)]),Za (mS 16 15),Zb 16 true (fS 17 1 3),Zb 16 true (lF 18 1 17),Zb 16 true (.call 19 [] (.f N0) [.s 18,.c (.int .i64 0),.c (.int .i64 99)]),Za (.pick 20 (.s 16) (.s 19) cF),Za (mS 2 20)] [2])
.ret) (.seq (Zs [bC 22 .eql 10 2,mS 21 22] [1,3,10,21] (.cond (.s 21) .skip (Zs [bC 23 .eql 10 3,mS 21 23] [1,3,10,21] (.cond (.s 21) .skip (pr [bC 24 .eql 10 4,mS 21 24] [1,3,10,21])))))
(.cond (.s 21) (.seq (.reg [Za (fS 25 1 2),Za (lF 26 1 25),Za (bC 27 .eql 26 0),Za (mS 28 27),Zb 28 true (fS 29 1 3),Zb 28 true (lF 30 1 29),Zb 28 true (bC 31 .eql 30 0),Za (.pick 32 (.s 28) (.s 31) cF),Za (mS 2 32)] [2])
.ret) (Zs [bC 34 .eql 10 5,mS 33 34] [1,3,10,33] (.cond (.s 33) (.seq (.reg [Za (fS 35 1 2),Za (lF 36 1 35),Za (mS 37 3),Za (.call 38 [] (.f N0) [.s 36,.c (.int .i64 0),.s 37]),Za (mS 39 38),Zb 39 true (fS 40 1 3),Zb 39 true (lF 41 1 40),Zb 39 true (mS 42 3),Zb 39 true (.call 43 [] (.f N0) [.s 41,.c (.int .i64 0),.s 42]),Za (.pick 44 (.s 39) (.s 43) cF),Za (mS 2 44)] [2])
.ret) (Zs [bC 46 .eql 10 6,mS 45 46] [1,10,45] (.cond (.s 45) (.seq (.reg [Za (fS 47 1 2),Za (lF 48 1 47),Za (.call 49 [] (.f N0) [.s 48,.c (.int .i64 0),.c (.int .i64 3)]),Za (mS 50 49),Zb 50 true (fS 51 1 3),Zb 50 true (lF 52 1 51),Zb 50 true (bC 53 .eql 52 0),Za (.pick 54 (.s 50) (.s 53) cF),Za (mS 2 54)] [2])
.ret) (Zs [bC 56 .eql 10 7,mS 55 56] [1,10,55] (.cond (.s 55) (.seq (.reg [Za (fS 57 1 2),Za (lF 58 1 57),Za (.call 59 [] (.f N0) [.s 58,.c (.int .i64 1),.c (.int .i64 3)]),Za (mS 60 59),Zb 60 true (fS 61 1 3),Zb 60 true (lF 62 1 61),Zb 60 true (bC 63 .eql 62 0),Za (.pick 64 (.s 60) (.s 63) cF),Za (mS 2 64)] [2])
.ret) (.seq (Zs [bC 66 .eql 10 8,mS 65 66] [1,10,65] (.cond (.s 65) .skip (pr [bC 67 .eql 10 9,mS 65 67] [1,65])))
(.cond (.s 65) (.seq (.reg [Za (fS 68 1 2),Za (lF 69 1 68),Za (.call 70 [] (.f N0) [.s 69,.c (.int .i64 0),.c (.int .i64 2)]),Za (mS 71 70),Zb 71 true (fS 72 1 3),Zb 71 true (lF 73 1 72),Zb 71 true (bC 74 .eql 73 0),Za (.pick 75 (.s 71) (.s 74) cF),Za (mS 2 75)] [2])
.ret) .skip))))))))))))))
(Zs [.mv 2 cF] [2] .ret)))))
theorem Cef(o:GOp):Ctr Tryz.prog Nbr [aS o.enc] [rB (opOk o)]:=by
 refine cA Mbq 1 76 [(.tmp 2,[false])] Tryz.func285 rfl rfl ?_;unfold Mbq
 intro hb
 clear hb
 simp only[go_sem]
 repeat' first
  |(refine And.intro ?_ ?_<;>intro h)
  |(apply K0 (C2 _ _ _);simp only[go_sem])
 all_goals (unfold opOk;first|(symm;rw[decide_eq_false_iff_not];omega)|(symm;rw[decide_eq_true_eq];omega)|(rw[Bool.eq_iff_iff];simp only[decide_eq_true_eq,beq_iff_eq];omega))
def M4y:MC:=
(Zs [.box 1 0 (.s 0),.mv 2 cF] [1] (Zs [lT 3 4 1,.call 4 [] (.f Nco) [.s 3],.un 5 .not (.s 4),mS 2 5] [2] .ret))
theorem Cbw(o:GOp):Ctr Tryz.prog N5s [aS o.enc] [rB (!opOk o)]:=by
 refine cA M4y 1 6 [(.tmp 2,[false])] Tryz.func293 rfl rfl ?_;unfold M4y
 intro hb
 clear hb
 simp only[go_sem]
 apply K0 (Cej _)
 simp only[go_sem]
def M8c:MC:=
(Zs [.mv 2 cF] [0] (.seq (.reg [Za (mS 3 0),Za (nS 4 3),Za (bC 5 .leq 4 16),Za (mS 6 5),Zb 6 true (mS 7 0),Zb 6 true (.call 8 [] (.f Np) [.s 7,.f N5s]),Zb 6 true (.un 9 .not (.s 8)),Za (.pick 10 (.s 6) (.s 9) cF),Za (mS 2 10)] [2])
.ret))
theorem C88(l:List GOp):Ctr Tryz.prog N2m [aL 4 (l.map GOp.enc)] [rB (Kz l)]:=by
 refine cA M8c 0 11 [(.tmp 2,[false])] Tryz.func212 rfl rfl ?_;unfold M8c
 intro hb
 clear hb
 simp only[go_sem]
 refine⟨fun h=>?_,fun h=>K9p (by omega)⟩
 refine K0 (C6j l _ [] (fun o=> !opOk o) fun o _=>Cbw o) ?_
 simp only[go_sem]
 exact K8f (by omega)
def M8l:MC:=
(Zs [.mv 2 cF] [0] (.seq (Zs [.mv 3 (ci 0)] [0,3] (.block 0 (.loop ([0,3],[]) (.seq (Zs [mS 4 3,mS 5 0,nS 6 5,bS 7 .lss 4 6] [0,3,7] (cX 7 0))
(.seq (.block 1 (Zs [mS 10 0,mS 11 3,xS 12 4 10 11,lT 13 4 12,.call 14 [] (.f Nbr) [.s 13],.un 15 .not (.s 14)] [0,3,15] (.cond (.s 15) (Zs [.mv 2 cF] [2] .ret) .skip)))
(pr [mS 8 3,bC 9 .add 8 1,mS 3 9] [0,3]))))))
(Zs [mS 16 0,nS 17 16,bC 18 .leq 17 16,mS 2 18] [2] .ret)))
theorem C8a(l:List GOp):Ctr Tryz.prog N2p [aL 4 (l.map GOp.enc)] [rB (Kz l)]:=by
 refine cA M8l 0 19 [(.tmp 2,[false])] Tryz.func194 rfl rfl ?_;unfold M8l
 intro hb
 simp only[bdA,bdL,bdT,Kh,roomB,and_true,List.length_map]at hb
 have hl:=hb.1
 clear hb
 simp only[go_sem]
 refine K4 l (fun k=>[(3,vI k)]) (fun k=>[]) (fun k=>(l.take k).all opOk=true) hl ?_
 simp only[go_sem]
 refine⟨?_,by simp,?_,?_⟩
 ·simp only[go_sem]
 ·intro k x hx h h0 h1 hw
  simp only[go_sem,K1 hx,h0,h1]
  apply K0 (Cef _)
  simp only[go_sem,hw]
  exact⟨fun hn=>K9o hx hn,fun hn=>K4r hx h hn⟩
 ·intro h
  simp only[go_sem]
  rw[List.take_length]at h
  exact le_cast.trans (K8e h)
def asks(k:Int):Bool:=decide (1≤k∧k≤4)
def Mch:MC:=
(Zs [.mv 2 cF] [0] (Zs [mS 3 0,.call 4 [] (.f N1) [.s 3,.c (.int .i64 1),.c (.int .i64 4)],mS 2 4] [2] .ret))
theorem Cei(k:Int):Ctr Tryz.prog Ncn [aI k] [rB (asks k)]:=by
 refine cA Mch 0 5 [(.tmp 2,[false])] Tryz.func298 rfl rfl ?_;unfold Mch
 intro hb
 clear hb
 simp only[go_sem]
 apply K0 (C4 _ _ _)
 simp only[go_sem]
 try rfl
def Mcl:MC:=
(Zs [.mv 2 cF] [0] (Zs [mS 3 0,.call 4 [] (.f N0) [.s 3,.c (.int .i64 1),.c (.int .i64 4)],mS 2 4] [2] .ret))
theorem Cem(k:Int):Ctr Tryz.prog Ncr [aI k] [rB (asks k)]:=by
 refine cA Mcl 0 5 [(.tmp 2,[false])] Tryz.func287 rfl rfl ?_;unfold Mcl
 intro hb
 clear hb
 simp only[go_sem]
 apply K0 (C2 _ _ _)
 simp only[go_sem]
 try rfl
def K3c(c:GCapture):Bool:=K38 c.Address&&(decide (0≤c.Tick∧c.Tick≤2000)&&Ks c.Resource)
def K24(l:List GCapture):Bool:=K27 20 K3c l
def M2h:MC:=
(Zs [.box 1 0 (.s 0),.mv 2 cF] [1] (.seq (.reg [Za (fS 3 1 0),Za (lT 4 3 3),Za (.call 5 [] (.f N2a) [.s 4]),Za (.un 6 .not (.s 5)),Za (mS 7 6),Zb 7 false (fS 8 1 3),Zb 7 false (lF 9 1 8),Zb 7 false (.call 10 [] (.f N1) [.s 9,.c (.int .i64 0),.c (.int .i64 2000)]),Zb 7 false (.un 11 .not (.s 10)),Za (.pick 12 (.s 7) cT (.s 11)),Za (mS 13 12),Zb 13 false (fS 14 1 4),Zb 13 false (lT 15 5 14),Zb 13 false (.call 16 [] (.f N1x) [.s 15]),Zb 13 false (.un 17 .not (.s 16)),Za (.pick 18 (.s 13) cT (.s 17)),Za (mS 2 18)] [2])
.ret))
theorem Ca1(c:GCapture):Ctr Tryz.prog N2l [aS c.enc] [rB (!K3c c)]:=by
 refine cA M2h 1 19 [(.tmp 2,[false])] Tryz.func296 rfl rfl ?_;unfold M2h
 intro hb
 clear hb
 simp only[go_sem]
 repeat' first
  |(refine And.intro ?_ ?_<;>intro h)
  |(apply K0 (C6h _);simp only[go_sem])
  |(apply K0 (C4m _);simp only[go_sem])
  |(apply K0 (C4 _ _ _);simp only[go_sem])
 all_goals (simp_all[K3c];try omega)
def M3p:MC:=
(Zs [.mv 2 cF] [0] (.seq (.reg [Za (mS 3 0),Za (nS 4 3),Za (bC 5 .leq 4 20),Za (mS 6 5),Zb 6 true (mS 7 0),Zb 6 true (.call 8 [] (.f Nf) [.s 7,.f N2l]),Zb 6 true (.un 9 .not (.s 8)),Za (.pick 10 (.s 6) (.s 9) cF),Za (mS 2 10)] [2])
.ret))
theorem C1p(l:List GCapture):Ctr Tryz.prog N1t [aL 9 (l.map GCapture.enc)] [rB (K24 l)]:=by
 refine cA M3p 0 11 [(.tmp 2,[false])] Tryz.func213 rfl rfl ?_;unfold M3p
 intro hb
 clear hb
 simp only[go_sem]
 refine⟨fun h=>?_,fun h=>K9p (by omega)⟩
 refine K0 (C2q l _ [] (fun o=> !K3c o) fun o _=>Ca1 o) ?_
 simp only[go_sem]
 exact K8f (by omega)
def M40:MC:=
(Zs [.mv 2 cF] [0] (.seq (Zs [.mv 3 (ci 0)] [0,3] (.block 0 (.loop ([0,3],[]) (.seq (Zs [mS 4 3,mS 5 0,nS 6 5,bS 7 .lss 4 6] [0,3,7] (cX 7 0))
(.seq (.block 1 (.seq (.reg [Za (mS 10 0),Za (mS 11 3),Za (xS 12 9 10 11),Za (fS 13 12 0),Za (lT 14 3 13),Za (.call 15 [] (.f N2b) [.s 14]),Za (.un 16 .not (.s 15)),Za (mS 17 16),Zb 17 false (mS 18 0),Zb 17 false (mS 19 3),Zb 17 false (xS 20 9 18 19),Zb 17 false (fS 21 20 3),Zb 17 false (lF 22 1 21),Zb 17 false (.call 23 [] (.f N0) [.s 22,.c (.int .i64 0),.c (.int .i64 2000)]),Zb 17 false (.un 24 .not (.s 23)),Za (.pick 25 (.s 17) cT (.s 24)),Za (mS 26 25),Zb 26 false (mS 27 0),Zb 26 false (mS 28 3),Zb 26 false (xS 29 9 27 28),Zb 26 false (fS 30 29 4),Zb 26 false (lT 31 5 30),Zb 26 false (.call 32 [] (.f N1z) [.s 31]),Zb 26 false (.un 33 .not (.s 32)),Za (.pick 34 (.s 26) cT (.s 33))] [0,3,34])
(.cond (.s 34) (Zs [.mv 2 cF] [2] .ret) .skip)))
(pr [mS 8 3,bC 9 .add 8 1,mS 3 9] [0,3]))))))
(Zs [mS 35 0,nS 36 35,bC 37 .leq 36 20,mS 2 37] [2] .ret)))
theorem C1r(l:List GCapture):Ctr Tryz.prog N1v [aL 9 (l.map GCapture.enc)] [rB (K24 l)]:=by
 refine cA M40 0 38 [(.tmp 2,[false])] Tryz.func195 rfl rfl ?_;unfold M40
 intro hb
 simp only[bdA,bdL,bdT,Kh,roomB,and_true,List.length_map]at hb
 have hl:=hb.1
 clear hb
 simp only[go_sem]
 refine K4 l (fun k=>[(3,vI k)]) (fun k=>[]) (fun k=>(l.take k).all K3c=true) hl ?_
 simp only[go_sem]
 refine⟨?_,by simp,?_,?_⟩
 ·simp only[go_sem]
 ·intro k x hx hT h0 h1 hw
  have hy:K3c x=true→(l.take (k+1)).all K3c=true:=fun hn=>K4r hx hT hn
  have hn:K3c x=false→false=K24 l:=fun hn=>K9o hx hn
  clear hT
  simp only[go_sem,K1 hx,h0,h1]
  repeat' first
   |(refine And.intro ?_ ?_<;>intro h)
   |(apply K0 (C6k _);simp only[go_sem,K1 hx,h0,h1])
   |(apply K0 (C4r _);simp only[go_sem,hw])
   |(apply K0 (C2 _ _ _);simp only[go_sem,K1 hx,h0,h1])
  all_goals first|(apply hy;clear hy hn hx hw;simp_all[K3c];done)|(apply hn;clear hy hn hx hw;simp_all[K3c];done)|(apply hn;clear hy hn hx hw;unfold K3c;rw[decide_eq_false (by assumption)];simp;done)
 ·intro h
  simp only[go_sem]
  rw[List.take_length]at h
  exact le_cast.trans (K8e h)
end Go.Proofs.YtjneccbpkckdfaaGreatR
namespace Go.Proofs.YtjneccbpkckdfaaGreatR
open Go Go.RowKit Go.Proofs
open Nat (reduceEqDiff reduceLT reduceLeDiff reduceAdd reduceMul)
open List (reduceReplicate)
def M22:MC:=
(Zs [.nilo 2 0 1] [0] (.seq (.condN 3 4 (.s 0) (Zs [.nilo 2 0 1] [2] .ret) .skip)
(Zs [.lit 5 0 1 8 [],mS 6 0,.app 7 0 1 8 (.s 5) (.s 6),mS 2 7] [2] .ret)))
theorem C1a(xs:List Int)(hs:xs.length≤1073741824):Ctr Tryz.prog Nj [aL 1 (xs.map encI)] [rL 1 (xs.map encI)]:=by
 refine cA M22 1 8 [(.tmp 2,[true])] Tryz.func177 rfl rfl ?_;unfold M22
 intro hb
 clear hb
 simp only[go_sem,↓K30 (f:=encI) (fun _=>rfl) xs]
 refine⟨fun h=>?_,?_⟩
 ·rw[h]
 ·simp only[roomB]
  first|done|omega|(refine⟨?_,?_⟩<;>first|omega|simp)
end Go.Proofs.YtjneccbpkckdfaaGreatR
namespace Go.Proofs.YtjneccbpkckdfaaGreatR
open Go Go.RowKit Go.Proofs
open Nat (reduceEqDiff reduceLT reduceLeDiff reduceAdd reduceMul)
open List (reduceReplicate)
def M2z:MC:=
(Zs [.box 1 0 (.s 0),.alloc 2 1 [pz,.emp 1,pz,pz,pz]] [1,2] (Zs [fS 3 1 1,lF 4 1 3,.call 5 [2] (.f Nj) [.s 4],fS 6 1 1,sS 1 6 5] [1,2] (Zs [lT 7 5 1,sS 5 2 7] [2] .ret)))
theorem C2r(r:GResource)(hs:r.Body.length≤1073741824):Ctr Tryz.prog N1k [aS r.enc] [rS r.enc]:=by
 refine cA M2z 3 8 [(.cell 2 true 5,[false,true,false,false,false])] Tryz.func266 rfl rfl ?_;unfold M2z
 intro hb
 clear hb
 simp only[go_sem]
 refine K0 (C1a r.Body hs) ?_
 simp only[go_sem]
 try intros
 try trivial
def Map:MC:=
(Zs [.box 1 0 (.s 0),.alloc 2 1 [pz,.emp 1,pz,pz,pz]] [1,2] (.seq (.dreg [Zf [5,6,7,8,9,10] [2] (fS 3 1 0),Zg [5,6,7,8,9,10] [2] [0] (lF 4 1 3),{o:= .lit 5 2 1 8 [],hs:=[3,4,6,7,9,10],ws:=[2]},Zf [3,4,5,9,10] [2] (fS 6 1 1),Zg [3,4,5,9,10] [2] [3] (lF 7 1 6),{o:= .app 8 2 1 8 (.s 5) (.s 7),hs:=[3,4,9,10],ws:=[2],bf:=[2,3,4]},Zf [3,4,5,6,7,8] [2] (fS 9 1 2),Zg [3,4,5,6,7,8] [2] [6] (lT 10 3 9),Ze (.range 8) (.build 11 [pz,.emp 1,pz,pz,pz] [(0,1,.s 4),(1,1,.s 8),(2,3,.s 10)]),{o:=sS 5 2 11,ws:=[1,2],bf:=(.range 9)}] [2])
.ret))
theorem Caa(r:GResource)(hs:r.Body.length≤1073741824):Ctr Tryz.prog N4l [aS r.enc] [rS r.enc]:=by
 refine cA Map 3 12 [(.cell 2 true 5,[false,true,false,false,false])] Tryz.func249 rfl rfl ?_;unfold Map
 intro hb
 clear hb
 simp only[go_sem,↓K30 (f:=encI) (fun _=>rfl) r.Body]
 simp only[roomB]
 omega
def M2y:MC:=
(Zs [.nilo 2 0 9] [0] (Zs [.nilo 3 0 9] [0,3] (.seq (Zs [mS 6 0,nS 7 6,.mv 8 (ci 0)] [3,6,7,8] (.block 0 (.loop ([3,6,7,8],[1,2,3]) (Zs [bS 9 .lss 8 7] [3,6,7,8,9] (.seq (cX 9 0)
(.seq (.block 1 (Zs [xS 10 9 6 8,lT 11 9 10,.alloc 5 1 [pz,pz,pz,pz,pz,.emp 1,pz,pz,pz],sS 9 5 11] [3,5,6,7,8] (.dreg [Zf [13,14,15,16,17,18,19,20,21] [2,3] (mS 12 3),Zf [12,15,16,17,18,19] [2] (fS 13 5 0),Zg [12,15,16,17,18,19] [2] [1] (lT 14 3 13),Zf [12,13,14,17,18,19] [2] (fS 15 5 3),Zg [12,13,14,17,18,19] [2] [3] (lF 16 1 15),Zc [12,13,14,15,16] (fS 17 5 4),Zd [12,13,14,15,16] [5] (lT 18 5 17),{o:= .call 19 [2] (.f N1k) [.s 18],hs:=[12,13,14,15,16],ws:=[2],bf:=[5,6]},Zd [12] [1,2,3,4,5,6,7] (.build 20 [pz,pz,pz,pz,pz,.emp 1,pz,pz,pz] [(0,3,.s 14),(3,1,.s 16),(4,5,.s 19)]),{o:= .lit 21 3 9 88 [.s 20],hs:=[12],ws:=[2,3],bf:=[1,2,3,4,5,6,7,8]},{o:= .app 22 0 9 88 (.s 12) (.s 21),ws:=[0,3],bf:=(.range 10)},Ze (.range 11) (mS 3 22)] [3,6,7,8])))
(pr [bC 23 .add 8 1,mS 8 23] [3,6,7,8])))))))
(Zs [mS 24 3,mS 2 24] [2] .ret))))
theorem C17(xs:List GCapture)(hs:xs.length+(xs.map GCapture.size).sum≤1073741824):Ctr Tryz.prog N1j [aL 9 (xs.map GCapture.enc)] [rL 9 (xs.map GCapture.enc)]:=by
 refine cA M2y 4 25 [(.tmp 2,[true])] Tryz.func232 rfl rfl ?_;unfold M2y
 intro hb
 clear hb
 simp only[go_sem]
 refine K4 xs (fun k=>[(3,.val false [.ref 0 0 9 0 (xs.take k).length]),(8,vI k)]) (fun k=>[(0,⟨0,.row true 9 ((xs.take k).map GCapture.enc)⟩)]) (fun _=>True) (by simp only[roomB];omega) ?_
 simp only[go_sem]
 refine⟨?_,trivial,?_,?_⟩
 ·simp only[go_sem,List.take_zero]
 ·intro k x hx _ h0 h1 hw
  have hk:k<xs.length:=by omega
  have hlt:=List.length_take_le k xs
  have hx1:=K23 (f:=GCapture.size) (Km hx)
  simp only[go_sem,K1 hx,h0,h1]
  refine K0 (C2r x.Resource (by simp only[GCapture.size,GResource.size]at hx1;omega)) ?_
  simp only[go_sem,hw]
  simp only[roomB]
  exact⟨by omega,by omega,fun _=>⟨Kb1 hx,Kb2 hx⟩⟩
 ·intro _
  simp only[go_sem,List.take_length]
def M9l:MC:=
(Zs [.nilo 2 0 9] [0] (Zs [.lit 5 0 9 88 [],mS 3 5] [0,3] (.seq (Zs [.mv 4 (ci 0)] [0,3,4] (.block 0 (.loop ([0,3,4],[1,2]) (.seq (Zs [mS 6 4,mS 7 0,nS 8 7,bS 9 .lss 6 8] [0,3,4,9] (cX 9 0))
(.seq (.block 1 (.dreg [Zf [13,14,15,16,17,18,19,20,21,22,23,24,25,26,27,28,29,30] [1,2] (mS 12 3),Zf [12,14,18,19,20,21,22,23,24,25,26,27,28] [1] (mS 13 0),Zf [12,13,18,19,20,21,22,23,24,25,26,27,28] [1] (mS 14 4),Zg [12,18,19,20,21,22,23,24,25,26,27,28] [1] [1,2] (xS 15 9 13 14),Zg [12,18,19,20,21,22,23,24,25,26,27,28] [1] [1,2,3] (fS 16 15 0),Zg [12,18,19,20,21,22,23,24,25,26,27,28] [1] [1,2,3,4] (lT 17 3 16),Zf [12,13,14,15,16,17,19,23,24,25,26,27,28] [1] (mS 18 0),Zf [12,13,14,15,16,17,18,23,24,25,26,27,28] [1] (mS 19 4),Zg [12,13,14,15,16,17,23,24,25,26,27,28] [1] [6,7] (xS 20 9 18 19),Zg [12,13,14,15,16,17,23,24,25,26,27,28] [1] [6,7,8] (fS 21 20 3),Zg [12,13,14,15,16,17,23,24,25,26,27,28] [1] [6,7,8,9] (lF 22 1 21),Zc [12,13,14,15,16,17,18,19,20,21,22,24] (mS 23 0),Zc [12,13,14,15,16,17,18,19,20,21,22,23] (mS 24 4),Zd [12,13,14,15,16,17,18,19,20,21,22] [11,12] (xS 25 9 23 24),Zd [12,13,14,15,16,17,18,19,20,21,22] [11,12,13] (fS 26 25 4),Zd [12,13,14,15,16,17,18,19,20,21,22] [11,12,13,14] (lT 27 5 26),{o:= .call 28 [1] (.f N4l) [.s 27],hs:=[12,13,14,15,16,17,18,19,20,21,22],ws:=[1],bf:=[11,12,13,14,15]},Zd [12] [1,2,3,4,5,6,7,8,9,10,11,12,13,14,15,16] (.build 29 [pz,pz,pz,pz,pz,.emp 1,pz,pz,pz] [(0,3,.s 17),(3,1,.s 22),(4,5,.s 28)]),{o:= .lit 30 2 9 88 [.s 29],hs:=[12],ws:=[1,2],bf:=[1,2,3,4,5,6,7,8,9,10,11,12,13,14,15,16,17]},{o:= .app 31 0 9 88 (.s 12) (.s 30),ws:=[0,2],bf:=(.range 19)},Ze (.range 20) (mS 3 31)] [0,3,4]))
(pr [mS 10 4,bC 11 .add 10 1,mS 4 11] [0,3,4]))))))
(Zs [mS 32 3,mS 2 32] [2] .ret))))
theorem C1e(xs:List GCapture)(hs:xs.length+(xs.map GCapture.size).sum≤1073741824):Ctr Tryz.prog N1w [aL 9 (xs.map GCapture.enc)] [rL 9 (xs.map GCapture.enc)]:=by
 refine cA M9l 3 33 [(.tmp 2,[true])] Tryz.func209 rfl rfl ?_;unfold M9l
 intro hb
 clear hb
 simp only[go_sem]
 refine K4 xs (fun k=>[(3,.val false [.ref 0 0 9 0 (xs.take k).length]),(4,vI k)]) (fun k=>[(0,⟨0,.row true 9 ((xs.take k).map GCapture.enc)⟩)]) (fun _=>True) (by simp only[roomB];omega) ?_
 simp only[go_sem]
 refine⟨?_,trivial,?_,?_⟩
 ·simp only[go_sem,List.take_zero]
 ·intro k x hx _ h0 h1 hw
  have hk:k<xs.length:=by omega
  have hlt:=List.length_take_le k xs
  have hx1:=K23 (f:=GCapture.size) (Km hx)
  simp only[go_sem,K1 hx,h0,h1]
  refine K0 (Caa x.Resource (by simp only[GCapture.size,GResource.size]at hx1;omega)) ?_
  simp only[go_sem,hw]
  simp only[roomB]
  exact⟨by omega,by omega,fun _=>⟨Kb1 hx,Kb2 hx⟩⟩
 ·intro _
  simp only[go_sem,List.take_length]
end Go.Proofs.YtjneccbpkckdfaaGreatR
namespace Go.Proofs.YtjneccbpkckdfaaGreatR
open Go Go.RowKit Go.Proofs
open Nat (reduceEqDiff reduceLT reduceLeDiff reduceAdd reduceMul)
open List (reduceReplicate)
def modP(v:Int):Int:=(IntKind.i64.wrap (v.tmod 2147483647+2147483647)).tmod 2147483647
def hstep(h v:Int):Int:=(IntKind.i64.wrap (IntKind.i64.wrap (IntKind.i64.wrap (h*1000003)+modP v)+13)).tmod 2147483647
end Go.Proofs.YtjneccbpkckdfaaGreatR
namespace Go.Proofs.YtjneccbpkckdfaaGreatR
open Go Go.RowKit Go.Proofs
open Nat (reduceEqDiff reduceLT reduceLeDiff reduceAdd reduceMul)
open List (reduceReplicate)
end Go.Proofs.YtjneccbpkckdfaaGreatR
namespace Go.Proofs.YtjneccbpkckdfaaGreatR
open Go Go.RowKit Go.Proofs
open Nat (reduceEqDiff reduceLT reduceLeDiff reduceAdd reduceMul)
open List (reduceReplicate)
end Go.Proofs.YtjneccbpkckdfaaGreatR
namespace Go.Proofs.YtjneccbpkckdfaaGreatR
open Go Go.RowKit Go.Proofs
open Nat (reduceEqDiff reduceLT reduceLeDiff reduceAdd reduceMul)
open List (reduceReplicate)
def whole(d:GDisk):Bool:=decide (d.Index=index d.Containers)
def Y16(v0:Nat)(v1:Nat):MC:=
(Zs [.box 1 0 (.s 0),.mv 2 cF] [1] (.seq (.dreg [Zf [5,6,7] [1] (fS 3 1 1),Zg [5,6,7] [1] [0] (lF 4 1 3),Zc [3,4] (fS 5 1 0),Zd [3,4] [2] (lF 6 1 5),{o:= .call 7 [1] (.f v0) [.s 6],hs:=[3,4],ws:=[1],bf:=[2,3]},Ze (.range 5) (.call 8 [] (.f v1) [.s 4,.s 7]),Ze (.range 6) (mS 2 8)] [2])
.ret))
attribute [go_sem] Y16
def M2x:MC:=Y16 N5o Ns
theorem Cdu(d:GDisk)(hs:d.size≤1073741824):Ctr Tryz.prog N3b [aS d.enc] [rB (whole d)]:=by
 refine cA M2x 2 9 [(.tmp 2,[false])] Tryz.func119 rfl rfl ?_;unfold M2x
 intro hb
 clear hb
 simp only[GDisk.size]at hs
 simp only[go_sem]
 apply K0 (Cbs d.Containers (by omega))
 simp only[go_sem]
 intros
 apply K0 (Ca3 _ _)
 simp only[go_sem]
 intros
 rfl
def M8p:MC:=Y16 N68 N9z
theorem Cdq(d:GDisk)(hs:d.size≤1073741824):Ctr Tryz.prog N8z [aS d.enc] [rB (whole d)]:=by
 refine cA M8p 2 9 [(.tmp 2,[false])] Tryz.func236 rfl rfl ?_;unfold M8p
 intro hb
 clear hb
 simp only[GDisk.size]at hs
 simp only[go_sem]
 apply K0 (Cca d.Containers (by omega))
 simp only[go_sem]
 intros
 apply K0 (Ce3 _ _)
 simp only[go_sem]
 intros
 rfl
theorem take_sz{l:List GContainer}{n N:Nat}(h:l.length+(l.map GContainer.size).sum≤N):(l.take n).length+((l.take n).map GContainer.size).sum≤N:=by
 have h1:=List.length_take_le n l
 have h2:=K1w (f:=GContainer.size) l n
 have h3:(l.take n).length≤l.length:=by rw[List.length_take];omega
 omega
end Go.Proofs.YtjneccbpkckdfaaGreatR
namespace Go.Proofs.YtjneccbpkckdfaaGreatR
open Go Go.RowKit Go.Proofs
open Nat (reduceEqDiff reduceLT reduceLeDiff reduceAdd reduceMul)
open List (reduceReplicate)
def K3s(x:GExclusion):Bool:=decide ((1≤x.Host∧x.Host≤9)∧(-1≤x.Path∧x.Path≤99)∧(0≤x.From∧x.From≤x.Until)∧x.Until≤2000∧(0≤x.Asked∧x.Asked≤2000))
def M3q:MC:=
(Zs [.box 1 0 (.s 0),.mv 2 cF] [1] (.seq (.reg [Za (fS 3 1 0),Za (lF 4 1 3),Za (.call 5 [] (.f N1) [.s 4,.c (.int .i64 1),.c (.int .i64 9)]),Za (mS 6 5),Zb 6 true (fS 7 1 1),Zb 6 true (lF 8 1 7),Zb 6 true (.call 9 [] (.f N1) [.s 8,.c (.int .i64 (-1)),.c (.int .i64 99)]),Za (.pick 10 (.s 6) (.s 9) cF),Za (mS 11 10),Zb 11 true (fS 12 1 2),Zb 11 true (lF 13 1 12),Zb 11 true (fS 14 1 3),Zb 11 true (lF 15 1 14),Zb 11 true (.call 16 [] (.f N1) [.s 13,.c (.int .i64 0),.s 15]),Za (.pick 17 (.s 11) (.s 16) cF),Za (mS 18 17),Zb 18 true (fS 19 1 3),Zb 18 true (lF 20 1 19),Zb 18 true (bC 21 .leq 20 2000),Za (.pick 22 (.s 18) (.s 21) cF),Za (mS 23 22),Zb 23 true (fS 24 1 4),Zb 23 true (lF 25 1 24),Zb 23 true (.call 26 [] (.f N1) [.s 25,.c (.int .i64 0),.c (.int .i64 2000)]),Za (.pick 27 (.s 23) (.s 26) cF),Za (mS 2 27)] [2])
.ret))
theorem Cb7(x:GExclusion):Ctr Tryz.prog N43 [aS x.enc] [rB (K3s x)]:=by
 refine cA M3q 1 28 [(.tmp 2,[false])] Tryz.func168 rfl rfl ?_;unfold M3q
 intro hb
 clear hb
 simp only[go_sem]
 repeat' first
  |(refine And.intro ?_ ?_<;>intro h)
  |(apply K0 (C4 _ _ _);simp only[go_sem])
 all_goals (unfold K3s;first|(symm;rw[decide_eq_false_iff_not];omega)|(rw[Bool.eq_iff_iff];simp only[decide_eq_true_eq];omega))
def M41:MC:=
(Zs [.box 1 0 (.s 0),.mv 2 cF] [1] (.seq (.reg [Za (fS 3 1 0),Za (lF 4 1 3),Za (.call 5 [] (.f N0) [.s 4,.c (.int .i64 1),.c (.int .i64 9)]),Za (mS 6 5),Zb 6 true (fS 7 1 1),Zb 6 true (lF 8 1 7),Zb 6 true (.call 9 [] (.f N0) [.s 8,.c (.int .i64 (-1)),.c (.int .i64 99)]),Za (.pick 10 (.s 6) (.s 9) cF),Za (mS 11 10),Zb 11 true (fS 12 1 2),Zb 11 true (lF 13 1 12),Zb 11 true (.call 14 [] (.f N0) [.s 13,.c (.int .i64 0),.c (.int .i64 2000)]),Za (.pick 15 (.s 11) (.s 14) cF),Za (mS 16 15),Zb 16 true (fS 17 1 3),Zb 16 true (lF 18 1 17),Zb 16 true (fS 19 1 2),Zb 16 true (lF 20 1 19),Zb 16 true (.call 21 [] (.f N0) [.s 18,.s 20,.c (.int .i64 2000)]),Za (.pick 22 (.s 16) (.s 21) cF),Za (mS 23 22),Zb 23 true (fS 24 1 4),Zb 23 true (lF 25 1 24),Zb 23 true (.call 26 [] (.f N0) [.s 25,.c (.int .i64 0),.c (.int .i64 2000)]),Za (.pick 27 (.s 23) (.s 26) cF),Za (mS 2 27)] [2])
.ret))
theorem Cbl(x:GExclusion):Ctr Tryz.prog N4d [aS x.enc] [rB (K3s x)]:=by
 refine cA M41 1 28 [(.tmp 2,[false])] Tryz.func148 rfl rfl ?_;unfold M41
 intro hb
 clear hb
 simp only[go_sem]
 repeat' first
  |(refine And.intro ?_ ?_<;>intro h)
  |(apply K0 (C2 _ _ _);simp only[go_sem])
 all_goals (unfold K3s;first|(symm;rw[decide_eq_false_iff_not];omega)|(rw[Bool.eq_iff_iff];simp only[decide_eq_true_eq];omega))
def hidesB(x:GExclusion)(c:GCapture):Bool:=K3s x&&decide (c.Address.Host=x.Host∧(x.Path= -1∨c.Address.Path=x.Path)∧x.From≤c.Tick∧c.Tick≤x.Until)
def K2u(x:GExclusion)(c:GCapture)(now:Int):Bool:=decide (x.Asked≤now)&&hidesB x c
def M20:MC:=
(Zs [.box 2 0 (.s 0),.box 3 1 (.s 1),.mv 4 cF] [2,3] (.seq (.reg [Za (lT 5 5 2),Za (.call 6 [] (.f N43) [.s 5]),Za (mS 7 6),Zb 7 true (fS 8 3 0),Zb 7 true (fS 9 8 0),Zb 7 true (lF 10 1 9),Zb 7 true (fS 11 2 0),Zb 7 true (lF 12 1 11),Zb 7 true (bS 13 .eql 10 12),Za (.pick 14 (.s 7) (.s 13) cF),Za (mS 15 14),Zb 15 true (fS 16 2 1),Zb 15 true (lF 17 1 16),Zb 15 true (.bin 18 false .eql (.s 17) (.c (.int .i64 (-1)))),Zb 15 true (mS 19 18),Zb 19 false (fS 20 3 0),Zb 19 false (fS 21 20 1),Zb 19 false (lF 22 1 21),Zb 19 false (fS 23 2 1),Zb 19 false (lF 24 1 23),Zb 19 false (bS 25 .eql 22 24),Zb 15 true (.pick 26 (.s 19) cT (.s 25)),Za (.pick 27 (.s 15) (.s 26) cF),Za (mS 28 27),Zb 28 true (fS 29 3 3),Zb 28 true (lF 30 1 29),Zb 28 true (fS 31 2 2),Zb 28 true (lF 32 1 31),Zb 28 true (fS 33 2 3),Zb 28 true (lF 34 1 33),Zb 28 true (.call 35 [] (.f N1) [.s 30,.s 32,.s 34]),Za (.pick 36 (.s 28) (.s 35) cF),Za (mS 4 36)] [4])
.ret))
theorem Cee(x:GExclusion)(c:GCapture):Ctr Tryz.prog N24 [aS x.enc,aS c.enc] [rB (hidesB x c)]:=by
 refine cA M20 2 37 [(.tmp 4,[false])] Tryz.func359 rfl rfl ?_;unfold M20
 intro hb
 clear hb
 simp only[go_sem]
 repeat' first
  |(refine And.intro ?_ ?_<;>intro h)
  |(apply K0 (Cb7 _);simp only[go_sem])
  |(apply K0 (C4 _ _ _);simp only[go_sem])
 all_goals (unfold hidesB;first|(rw[‹K3s x=false›];rfl)|(rw[‹K3s x=true›,Bool.true_and];first|(symm;rw[decide_eq_false_iff_not];omega)|(rw[Bool.eq_iff_iff];simp only[decide_eq_true_eq];omega)))
def M8o:MC:=
(Zs [.box 2 0 (.s 0),.box 3 1 (.s 1),.mv 4 cF] [2,3] (.seq (.reg [Za (lT 5 5 2),Za (.call 6 [] (.f N4d) [.s 5]),Za (mS 7 6),Zb 7 true (fS 8 2 0),Zb 7 true (lF 9 1 8),Zb 7 true (fS 10 3 0),Zb 7 true (fS 11 10 0),Zb 7 true (lF 12 1 11),Zb 7 true (bS 13 .eql 9 12),Za (.pick 14 (.s 7) (.s 13) cF),Za (mS 15 14),Zb 15 true (fS 16 2 1),Zb 15 true (lF 17 1 16),Zb 15 true (.bin 18 false .eql (.s 17) (.c (.int .i64 (-1)))),Zb 15 true (mS 19 18),Zb 19 false (fS 20 2 1),Zb 19 false (lF 21 1 20),Zb 19 false (fS 22 3 0),Zb 19 false (fS 23 22 1),Zb 19 false (lF 24 1 23),Zb 19 false (bS 25 .eql 21 24),Zb 15 true (.pick 26 (.s 19) cT (.s 25)),Za (.pick 27 (.s 15) (.s 26) cF),Za (mS 28 27),Zb 28 true (fS 29 3 3),Zb 28 true (lF 30 1 29),Zb 28 true (fS 31 2 2),Zb 28 true (lF 32 1 31),Zb 28 true (fS 33 2 3),Zb 28 true (lF 34 1 33),Zb 28 true (.call 35 [] (.f N0) [.s 30,.s 32,.s 34]),Za (.pick 36 (.s 28) (.s 35) cF),Za (mS 4 36)] [4])
.ret))
theorem Cdp(x:GExclusion)(c:GCapture):Ctr Tryz.prog N8y [aS x.enc,aS c.enc] [rB (hidesB x c)]:=by
 refine cA M8o 2 37 [(.tmp 4,[false])] Tryz.func385 rfl rfl ?_;unfold M8o
 intro hb
 clear hb
 simp only[go_sem]
 repeat' first
  |(refine And.intro ?_ ?_<;>intro h)
  |(apply K0 (Cbl _);simp only[go_sem])
  |(apply K0 (C2 _ _ _);simp only[go_sem])
 all_goals (unfold hidesB;first|(rw[‹K3s x=false›];rfl)|(rw[‹K3s x=true›,Bool.true_and];first|(symm;rw[decide_eq_false_iff_not];omega)|(rw[Bool.eq_iff_iff];simp only[decide_eq_true_eq];omega)))
def M4w:MC:=
(Zs [.box 3 0 (.s 0),.box 4 1 (.s 1),.mv 6 cF] [2,3,4] (.seq (.reg [Za (mS 7 2),Za (fS 8 3 4),Za (lF 9 1 8),Za (bS 10 .geq 7 9),Za (mS 11 10),Zb 11 true (lT 12 5 3),Zb 11 true (lT 13 9 4),Zb 11 true (.call 14 [] (.f N24) [.s 12,.s 13]),Za (.pick 15 (.s 11) (.s 14) cF),Za (mS 6 15)] [6])
.ret))
theorem Cbv(x:GExclusion)(c:GCapture)(now:Int):Ctr Tryz.prog N5r [aS x.enc,aS c.enc,aI now] [rB (K2u x c now)]:=by
 refine cA M4w 2 16 [(.tmp 6,[false])] Tryz.func305 rfl rfl ?_;unfold M4w
 intro hb
 clear hb
 simp only[go_sem]
 repeat' first
  |(refine And.intro ?_ ?_<;>intro h)
  |(apply K0 (Cee _ _);simp only[go_sem])
 all_goals (unfold K2u;first|(rw[‹hidesB x c=false›];simp)|(simp;done)|(simp_all;done)|(intros;omega)|(simp_all;intros;omega))
def M5i:MC:=
(Zs [.box 3 0 (.s 0),.box 4 1 (.s 1),.mv 6 cF] [2,3,4] (.seq (.reg [Za (lT 7 5 3),Za (lT 8 9 4),Za (.call 9 [] (.f N8y) [.s 7,.s 8]),Za (mS 10 9),Zb 10 true (mS 11 2),Zb 10 true (fS 12 3 4),Zb 10 true (lF 13 1 12),Zb 10 true (bS 14 .geq 11 13),Za (.pick 15 (.s 10) (.s 14) cF),Za (mS 6 15)] [6])
.ret))
theorem Ccd(x:GExclusion)(c:GCapture)(now:Int):Ctr Tryz.prog N6b [aS x.enc,aS c.enc,aI now] [rB (K2u x c now)]:=by
 refine cA M5i 2 16 [(.tmp 6,[false])] Tryz.func352 rfl rfl ?_;unfold M5i
 intro hb
 clear hb
 simp only[go_sem]
 repeat' first
  |(refine And.intro ?_ ?_<;>intro h)
  |(apply K0 (Cdp _ _);simp only[go_sem])
 all_goals (unfold K2u;first|(rw[‹hidesB x c=false›];simp)|(simp;done)|(simp_all;done)|(intros;omega)|(simp_all;intros;omega))
theorem cut_one{α:Type}{f:α→List T}{xs:List α}{k:Nat}{x:α}(hx:xs[k]? =some x):(if k=0∧(((k+1:Nat):Int)-(k:Int)).toNat=xs.length then xs.map f else List.take (((k+1:Nat):Int)-(k:Int)).toNat (List.drop k (xs.map f)))=[x].map f:=by
 have e:(((k+1:Nat):Int)-(k:Int)).toNat=1:=by omega
 have hk:=Ka hx
 rw[e]
 have hd:List.take 1 (List.drop k (xs.map f))=[x].map f:=by
  rw[←List.map_drop,K26 hx];rfl
 split
 ·rename_i h
  rw[h.1]at hd
  rw[←hd,List.drop_zero,List.take_of_length_le (by rw[List.length_map,←h.2];exact Nat.le_refl _)]
 ·exact hd
def K2v(c:GCapture)(l:List GExclusion)(now:Int):Bool:=l.any fun x=>K2u x c now
def visible(cs:List GCapture)(l:List GExclusion)(now:Int):List GCapture:=cs.filter fun c=> !K2v c l now
theorem K3y{cs:List GCapture}{l:List GExclusion}{now:Int}{k:Nat}{c:GCapture}(h:cs[k]? =some c):visible (cs.take (k+1)) l now=if K2v c l now then visible (cs.take k) l now else visible (cs.take k) l now++[c]:=by
 unfold visible
 rw[Kk h,List.filter_append]
 cases hh:K2v c l now<;>simp[hh]
theorem K48(cs:List GCapture)(l:List GExclusion)(now:Int):(visible cs l now).length≤cs.length:=List.length_filter_le _ _
theorem K4g{α:Type}{p:α→Bool}{f:α→Nat}:∀l:List α,((l.filter p).map f).sum≤(l.map f).sum
 | []=>by simp
 |x::l=>by
  have:=K4g (p:=p) (f:=f) l
  rw[List.filter_cons]
  split<;>simp<;>omega
def M3r:MC:=
(Zs [.box 3 0 (.s 0),.mv 4 cF] [1,2,3] (Zs [lT 5 5 3,lT 6 9 1,lF 7 1 2,.call 8 [] (.f N5r) [.s 5,.s 6,.s 7],mS 4 8] [4] .ret))
theorem Cb8(x:GExclusion)(c:GCapture)(now:Int):Ctr Tryz.prog N44 [aS x.enc,(false,[.pb c.enc]),(false,[.pb [tI now]])] [rB (K2u x c now)]:=by
 refine cA M3r 1 9 [(.tmp 4,[false])] Tryz.func304 rfl rfl ?_;unfold M3r
 intro hb
 clear hb
 simp only[go_sem]
 refine K0 (Cbv _ _ _) ?_
 simp only[go_sem]
def M6p:MC:=
(Zs [.box 5 0 (.s 2),.nilo 6 1 9] [0,1,5] (Zs [.nilo 7 2 9] [0,1,5,7] (.seq (Zs [mS 10 0,nS 11 10,.mv 12 (ci 0)] [1,5,7,10,11,12] (.block 0 (.loop ([1,5,7,10,11,12],[1,3,4]) (Zs [bS 13 .lss 12 11] [1,5,7,10,11,12,13] (.seq (cX 13 0)
(.seq (.block 1 (Zs [xS 14 9 10 12,lT 15 9 14,.alloc 9 3 [pz,pz,pz,pz,pz,.emp 1,pz,pz,pz],sS 9 9 15] [1,5,7,9,10,11,12] (Zs [mS 16 1,.clos 17 N44 [9,5],.call 18 [] (.f Na) [.s 16,.s 17],.un 19 .not (.s 18)] [1,5,7,9,10,11,12,19] (.cond (.s 19) (pr [mS 20 7,lT 21 9 9,.lit 22 4 9 88 [.s 21],.app 23 2 9 88 (.s 20) (.s 22),mS 7 23] [1,5,7,10,11,12]) .skip))))
(pr [bC 24 .add 12 1,mS 12 24] [1,5,7,10,11,12])))))))
(Zs [mS 25 7,.call 26 [1] (.f N1j) [.s 25],mS 6 26] [6] .ret))))
theorem Ccv(cs:List GCapture)(l:List GExclusion)(now:Int)(hs:cs.length+(cs.map GCapture.size).sum≤1073741824):Ctr Tryz.prog N7i [aL 9 (cs.map GCapture.enc),aL 5 (l.map GExclusion.enc),aI now] [rL 9 ((visible cs l now).map GCapture.enc)]:=by
 refine cA M6p 5 27 [(.tmp 6,[true])] Tryz.func221 rfl rfl ?_;unfold M6p
 intro hb
 clear hb
 simp only[go_sem]
 refine K4 cs (fun k=>[(7,.val false [.ref 2 0 9 0 (visible (cs.take k) l now).length]),(12,vI k)]) (fun k=>[(2,⟨0,.row (visible (cs.take k) l now).isEmpty 9 ((visible (cs.take k) l now).map GCapture.enc)⟩)]) (fun _=>True) (by simp only[roomB];omega) ?_
 simp only[go_sem]
 refine⟨?_,trivial,?_,?_⟩
 ·simp only[go_sem,List.take_zero]
  exact⟨rfl,rfl,rfl⟩
 ·intro k x hx _ h0 h1 hw
  have hk:k<cs.length:=by omega
  have hlt:=List.length_take_le k cs
  have hv:=K48 (cs.take k) l now
  simp only[go_sem,K1 hx,h0,h1]
  refine K0 (C2g l _ [.pb x.enc,.pb [tI now]] (fun y=>K2u y x now) fun y _=>Cb8 y x now) ?_
  simp only[go_sem,hw]
  refine⟨fun h=>?_,fun h=>?_⟩
  ·have hx2:K2v x l now=false:=h
   simp only[roomB,K3y hx,hx2,Bool.false_eq_true,if_false]
   refine⟨by omega,by omega,?_,by simp,by simp,by simp[GCapture.enc]⟩
   cases visible (cs.take k) l now<;>simp
  ·have hx2:K2v x l now=true:=h
   simp only[K3y hx,hx2,if_true]
   first|trivial|exact⟨rfl,rfl,rfl⟩|(refine⟨?_,?_⟩<;>rfl)
 ·intro _
  simp only[go_sem,List.take_length]
  refine K0 (C17 _ ?_) ?_
  ·have:=K48 cs l now
   have:=K4g (p:=fun c=> !K2v c l now) (f:=GCapture.size) cs
   unfold visible at*
   omega
  simp only[go_sem]
def M7d:MC:=
(Zs [.box 3 0 (.s 0),.mv 6 cF] [1,2,3] (.seq (Zs [.mv 7 (ci 0)] [1,2,3,7] (.block 0 (.loop ([1,2,3,7],[]) (.seq (Zs [mS 8 7,mS 9 1,nS 10 9,bS 11 .lss 8 10] [1,2,3,7,11] (cX 11 0))
(.seq (.block 1 (.seq (.dreg [Zc [15,18,19] (mS 14 1),Zc [14,18,19] (mS 15 7),Zd [18,19] [0,1] (xS 16 5 14 15),Zd [18,19] [0,1,2] (lT 17 5 16),Zc [14,15,16,17,19] (lT 18 9 3),Zc [14,15,16,17,18] (mS 19 2),Ze (.range 6) (.call 20 [] (.f N6b) [.s 17,.s 18,.s 19])] [1,2,3,7,20])
(.cond (.s 20) (Zs [.mv 6 cT] [6] .ret) .skip)))
(pr [mS 12 7,bC 13 .add 12 1,mS 7 13] [1,2,3,7]))))))
(Zs [.mv 6 cF] [6] .ret)))
theorem Cdf(c:GCapture)(l:List GExclusion)(now:Int):Ctr Tryz.prog N85 [aS c.enc,aL 5 (l.map GExclusion.enc),aI now] [rB (K2v c l now)]:=by
 refine cA M7d 1 21 [(.tmp 6,[false])] Tryz.func291 rfl rfl ?_;unfold M7d
 intro hb
 simp only[bdA,bdL,bdT,Kh,K1n,roomB,and_true,List.length_map]at hb
 have hl:=hb.2.1.1
 clear hb
 simp only[go_sem]
 refine K4 l (fun k=>[(7,vI k)]) (fun k=>[]) (fun k=>((l.take k).any fun x=>K2u x c now)=false) hl ?_
 simp only[go_sem]
 refine⟨?_,by simp,?_,?_⟩
 ·simp only[go_sem]
 ·intro k x hx h h0 h1 hw
  simp only[go_sem,K1 hx,h0,h1]
  refine K0 (Ccd _ _ _) ?_
  simp only[go_sem,hw]
  exact⟨fun hn=>(Kaa hx hn).symm,fun hn=>K52 hx h hn⟩
 ·intro h
  simp only[go_sem]
  rw[List.take_length]at h
  exact h.symm
def M7b:MC:=
(Zs [.nilo 6 0 9] [0,1,2] (Zs [.lit 9 0 9 88 [],mS 7 9] [0,1,2,7] (.seq (Zs [.mv 8 (ci 0)] [0,1,2,7,8] (.block 0 (.loop ([0,1,2,7,8],[1]) (.seq (Zs [mS 10 8,mS 11 0,nS 12 11,bS 13 .lss 10 12] [0,1,2,7,8,13] (cX 13 0))
(.seq (.block 1 (Zs [mS 16 0,mS 17 8,xS 18 9 16 17,lT 19 9 18,mS 20 1,mS 21 2,.call 22 [] (.f N85) [.s 19,.s 20,.s 21],.un 23 .not (.s 22)] [0,1,2,7,8,23] (.cond (.s 23) (pr [mS 24 7,mS 25 0,mS 26 8,mS 27 8,bC 28 .add 27 1,.slc 29 9 (.s 25) (some (.s 26)) (some (.s 28)) none,.call 30 [1] (.f N1w) [.s 29],.app 31 0 9 88 (.s 24) (.s 30),mS 7 31] [0,1,2,7,8]) .skip)))
(pr [mS 14 8,bC 15 .add 14 1,mS 8 15] [0,1,2,7,8]))))))
(Zs [mS 32 7,mS 6 32] [6] .ret))))
theorem Cdd(cs:List GCapture)(l:List GExclusion)(now:Int)(hs:cs.length+(cs.map GCapture.size).sum≤1073741824):Ctr Tryz.prog N83 [aL 9 (cs.map GCapture.enc),aL 5 (l.map GExclusion.enc),aI now] [rL 9 ((visible cs l now).map GCapture.enc)]:=by
 refine cA M7b 2 33 [(.tmp 6,[true])] Tryz.func207 rfl rfl ?_;unfold M7b
 intro hb
 clear hb
 simp only[go_sem]
 refine K4 cs (fun k=>[(7,.val false [.ref 0 0 9 0 (visible (cs.take k) l now).length]),(8,vI k)]) (fun k=>[(0,⟨0,.row true 9 ((visible (cs.take k) l now).map GCapture.enc)⟩)]) (fun _=>True) (by simp only[roomB];omega) ?_
 simp only[go_sem]
 refine⟨?_,trivial,?_,?_⟩
 ·simp only[go_sem,List.take_zero]
  exact⟨rfl,rfl⟩
 ·intro k x hx _ h0 h1 hw
  have hk:k<cs.length:=by omega
  have hlt:=List.length_take_le k cs
  have hv:=K48 (cs.take k) l now
  simp only[go_sem,K1 hx,h0,h1]
  refine K0 (Cdf _ _ _) ?_
  simp only[go_sem,hw]
  refine⟨fun h=>?_,fun h=>?_⟩
  ·rw[cut_one hx]
   refine⟨by omega,?_⟩
   refine K0 (C1e [x] ?_) ?_
   ·have hx1:=K23 (f:=GCapture.size) (Km hx)
    simp only[List.length_cons,List.length_nil,List.map_cons,List.map_nil,List.sum_cons,List.sum_nil]
    omega
   simp only[go_sem,hw]
   simp only[roomB,K3y hx,h,Bool.false_eq_true,if_false]
   exact⟨by omega,fun _=>⟨by simp,by simp[GCapture.enc]⟩⟩
  ·simp only[K3y hx,h,if_true]
   first|trivial|exact⟨rfl,rfl⟩
 ·intro _
  simp only[go_sem,List.take_length]
end Go.Proofs.YtjneccbpkckdfaaGreatR
namespace Go.Proofs.YtjneccbpkckdfaaGreatR
open Go Go.RowKit Go.Proofs
open Nat (reduceEqDiff reduceLT reduceLeDiff reduceAdd reduceMul)
open List (reduceReplicate)
def Mdr:MC:=
(Zs [.mv 4 (ci 0)] [0,1] (.seq (Zs [mS 5 1,mS 6 0,bS 7 .gtr 5 6] [0,1,7] (.cond (.s 7) (Zs [mS 8 1,mS 4 8] [4] .ret) .skip))
(Zs [mS 9 0,mS 4 9] [4] .ret)))
theorem Ca5(x y:Int):Ctr Tryz.prog N6f [aI x,aI y] [rI (if y>x then y else x)]:=by
 refine cA Mdr 0 10 [(.tmp 4,[false])] Tryz.func210 rfl rfl ?_;unfold Mdr
 intro hb
 clear hb
 simp only[go_sem]
 refine⟨fun h=>?_,fun h=>?_⟩
 ·rw[if_pos (by omega)]
 ·rw[if_neg (by omega)]
def Mds:MC:=
(Zs [.mv 4 (ci 0)] [0,1] (.seq (Zs [mS 5 1,mS 6 0,bS 7 .lss 5 6] [0,1,7] (.cond (.s 7) (Zs [mS 8 1,mS 4 8] [4] .ret) .skip))
(Zs [mS 9 0,mS 4 9] [4] .ret)))
theorem Ca6(x y:Int):Ctr Tryz.prog N6g [aI x,aI y] [rI (if y<x then y else x)]:=by
 refine cA Mds 0 10 [(.tmp 4,[false])] Tryz.func203 rfl rfl ?_;unfold Mds
 intro hb
 clear hb
 simp only[go_sem]
 refine⟨fun h=>?_,fun h=>?_⟩
 ·rw[if_pos (by omega)]
 ·rw[if_neg (by omega)]
end Go.Proofs.YtjneccbpkckdfaaGreatR
namespace Go.Proofs.YtjneccbpkckdfaaGreatR
open Go Go.RowKit Go.Proofs
open Nat (reduceEqDiff reduceLT reduceLeDiff reduceAdd reduceMul)
open List (reduceReplicate)
def Kx(l:List GContainer):List GCapture:=l.flatMap fun x=>x.Captures
theorem K2b{l:List GContainer}{k:Nat}{x:GContainer}(h:l[k]? =some x):Kx (l.take (k+1))=Kx (l.take k)++x.Captures:=by
 rw[Kk h,Kx,List.flatMap_append];simp[Kx]
theorem K53:∀ {l:List GContainer},(Kx l).length+((Kx l).map GCapture.size).sum≤(l.map GContainer.size).sum
 | []=>by simp[Kx]
 |x::l=>by
  have:=K53 (l:=l)
  simp only[Kx,List.flatMap_cons,List.length_append,List.map_append,List.sum_append,List.map_cons,List.sum_cons,GContainer.size]at*
  omega
theorem K3h{l:List GContainer}{k:Nat}{x:GContainer}(h:l[k]? =some x):(Kx (l.take k)).length+x.Captures.length≤(l.map GContainer.size).sum:=by
 have h1:=K53 (l:=l.take (k+1))
 have h2:=K1w (f:=GContainer.size) l (k+1)
 rw[K2b h,List.length_append]at h1
 omega
theorem K3i{l:List GContainer}{k:Nat}{x:GContainer}(h:l[k]? =some x):x.Captures.length+(x.Captures.map GCapture.size).sum≤(l.map GContainer.size).sum:=by
 have h1:=K23 (f:=GContainer.size) (Km h)
 simp only[GContainer.size]at h1 ⊢
 omega
def told(d:GDisk):List GContainer:=if whole d then d.Containers else d.Containers.dropLast
def Kq(a:GArchive):List GCapture:=Kx (told a.Disk)
theorem Kb8{d:GDisk}(h:whole d=true):told d=d.Containers:=by unfold told;rw[h];rfl
theorem K7k{d:GDisk}(h:whole d=false):told d=d.Containers.take (d.Containers.length-1):=by unfold told;rw[h,List.dropLast_eq_take];rfl
theorem at_take{α:Type}{l:List α}{n k:Nat}{x:α}(h:(l.take n)[k]? =some x):l[k]? =some x:=by
 rw[List.getElem?_take]at h
 split at h
 ·exact h
 ·cases h
def M3o:MC:=
(Zs [.box 1 0 (.s 0),.nilo 2 1 9] [1] (Zs [fS 7 1 2,fS 8 7 0,lF 9 1 8,mS 3 9] [1,3] (.seq (.seq (.reg [Za (fS 10 1 2),Za (lT 11 3 10),Za (.call 12 [] (.f N3b) [.s 11]),Za (.un 13 .not (.s 12)),Za (mS 14 13),Zb 14 true (mS 15 3),Zb 14 true (nS 16 15),Zb 14 true (bC 17 .gtr 16 0),Za (.pick 18 (.s 14) (.s 17) cF)] [3,18])
(.cond (.s 18) (pr [mS 19 3,mS 20 3,nS 21 20,bC 22 .sub 21 1,.slc 23 4 (.s 19) none (some (.s 22)) none,mS 3 23] [3]) .skip))
(Zs [.nilo 4 1 9] [3,4] (.seq (Zs [mS 24 3,nS 25 24,.mv 26 (ci 0)] [4,24,25,26] (.block 0 (.loop ([4,24,25,26],[0,2,3]) (Zs [bS 27 .lss 26 25] [4,24,25,26,27] (.seq (cX 27 0)
(.seq (.block 1 (Zs [xS 28 4 24 26,lT 29 4 28,.alloc 6 2 [.emp 4,.emp 5,.emp 9,pz],sS 4 6 29] [4,6,24,25,26] (pr [mS 30 4,fS 31 6 2,lF 32 1 31,.call 33 [3] (.f N1j) [.s 32],.app 34 1 9 88 (.s 30) (.s 33),mS 4 34] [4,24,25,26])))
(pr [bC 35 .add 26 1,mS 26 35] [4,24,25,26])))))))
(Zs [mS 36 4,mS 2 36] [2] .ret))))))
theorem Cb6(a:GArchive)(hs:a.size≤1073741824):Ctr Tryz.prog N42 [aS a.enc] [rL 9 ((Kq a).map GCapture.enc)]:=by
 refine cA M3o 4 37 [(.tmp 2,[true])] Tryz.func222 rfl rfl ?_;unfold M3o
 intro hb
 clear hb
 have hsd:a.Disk.size≤1073741824:=by simp only[GArchive.size]at hs;omega
 have hsz:a.Disk.Containers.length+(a.Disk.Containers.map GContainer.size).sum≤1073741824:=by simp only[GDisk.size]at hsd;omega
 have hsz2:=take_sz (n:=a.Disk.Containers.length-1) hsz
 have hw1:(a.Disk.Containers.length:Int)>0→IntKind.i64.wrap ((a.Disk.Containers.length:Int)-1)=((a.Disk.Containers.length-1:Nat):Int):=fun h=>by rw[wI (by omega) (by omega)];omega
 simp only[go_sem]
 apply K0 (Cdu a.Disk hsd)
 simp only[go_sem]
 repeat' first
  |(refine And.intro ?_ ?_<;>intro h)
 ·rename_i hN
  have eL:(a.Disk.Containers.take (a.Disk.Containers.length-1)).length=a.Disk.Containers.length-1:=by rw[List.length_take];omega
  rw[hw1 h,cutA (by omega)]
  refine⟨⟨by omega,by omega,by omega⟩,?_⟩
  try simp only[go_sem,eL]
  refine K4 (a.Disk.Containers.take (a.Disk.Containers.length-1)) (fun k=>[(4,.val false [.ref 1 0 9 0 (Kx ((a.Disk.Containers.take (a.Disk.Containers.length-1)).take k)).length]),(26,vI k)]) (fun k=>[(1,⟨0,.row true 9 ((Kx ((a.Disk.Containers.take (a.Disk.Containers.length-1)).take k)).map GCapture.enc)⟩)]) (fun _=>True) (by simp only[roomB];omega) ?_
  simp only[go_sem]
  refine⟨?_,trivial,?_,?_⟩
  ·simp only[go_sem,List.take_zero]
   exact⟨rfl,rfl⟩
  ·intro k x hx _ h0 h1 hw
   have hq:=K3h hx
   have hq2:=K3i hx
   have hx3:a.Disk.Containers[k]? =some x:=at_take hx
   have hx2:(k:Int)<((a.Disk.Containers.length-1:Nat):Int):=by have:=Ka hx;rw[List.length_take]at this;omega
   have hx4:(k:Int)<a.Disk.Containers.length:=by have:=Ka hx3;omega
   simp only[go_sem,K1 hx,hx2,h0,h1]
   apply K0 (C17 x.Captures (by omega))
   by_cases hf:flat (x.Captures.map GCapture.enc)=true
   all_goals
    simp only[go_sem,hw,hf,K2b hx,List.length_append]
    simp only[roomB]
    exact⟨by omega,fun _=>by rw[List.map_append]⟩
  ·intro _
   simp only[go_sem,eL,Int.lt_irrefl,List.take_take,Nat.min_self]
   rw[Kq,K7k hN]
 ·rename_i hN
  have eL:True:=trivial
  have hC0:a.Disk.Containers=[]:=List.length_eq_zero_iff.1 (by omega)
  refine K4 (a.Disk.Containers) (fun k=>[(4,.val false [.ref 1 0 9 0 (Kx ((a.Disk.Containers).take k)).length]),(26,vI k)]) (fun k=>[(1,⟨0,.row true 9 ((Kx ((a.Disk.Containers).take k)).map GCapture.enc)⟩)]) (fun _=>True) (by simp only[roomB];omega) ?_
  simp only[go_sem]
  refine⟨?_,trivial,?_,?_⟩
  ·simp only[go_sem,List.take_zero]
   exact⟨rfl,rfl⟩
  ·intro k x hx _ h0 h1 hw
   have hq:=K3h hx
   have hq2:=K3i hx
   have hx3:a.Disk.Containers[k]? =some x:=hx
   have hx2:(k:Int)<(a.Disk.Containers.length:Int):=by have:=Ka hx;omega
   have hx4:(k:Int)<a.Disk.Containers.length:=by have:=Ka hx3;omega
   simp only[go_sem,K1 hx,hx2,h0]
   apply K0 (C17 x.Captures (by omega))
   by_cases hf:flat (x.Captures.map GCapture.enc)=true
   all_goals
    simp only[go_sem,hw,hf,K2b hx,List.length_append]
    simp only[roomB]
    exact⟨by omega,fun _=>by rw[List.map_append]⟩
  ·intro _
   simp only[go_sem,List.take_length,Int.lt_irrefl]
   rw[Kq,K7k hN,hC0]
   rfl
 ·have eL:True:=trivial
  refine K4 (a.Disk.Containers) (fun k=>[(4,.val false [.ref 1 0 9 0 (Kx ((a.Disk.Containers).take k)).length]),(26,vI k)]) (fun k=>[(1,⟨0,.row true 9 ((Kx ((a.Disk.Containers).take k)).map GCapture.enc)⟩)]) (fun _=>True) (by simp only[roomB];omega) ?_
  simp only[go_sem]
  refine⟨?_,trivial,?_,?_⟩
  ·simp only[go_sem,List.take_zero]
   exact⟨rfl,rfl⟩
  ·intro k x hx _ h0 h1 hw
   have hq:=K3h hx
   have hq2:=K3i hx
   have hx3:a.Disk.Containers[k]? =some x:=hx
   have hx2:(k:Int)<(a.Disk.Containers.length:Int):=by have:=Ka hx;omega
   have hx4:(k:Int)<a.Disk.Containers.length:=by have:=Ka hx3;omega
   simp only[go_sem,K1 hx,hx2,h0]
   apply K0 (C17 x.Captures (by omega))
   by_cases hf:flat (x.Captures.map GCapture.enc)=true
   all_goals
    simp only[go_sem,hw,hf,K2b hx,List.length_append]
    simp only[roomB]
    exact⟨by omega,fun _=>by rw[List.map_append]⟩
  ·intro _
   simp only[go_sem,List.take_length,Int.lt_irrefl]
   rw[Kq,Kb8 h]
def M3z:MC:=
(Zs [.box 1 0 (.s 0),.nilo 2 1 9] [1] (Zs [fS 6 1 2,fS 7 6 0,lF 8 1 7,nS 9 8,mS 3 9] [1,3] (.seq (.seq (.reg [Za (fS 10 1 2),Za (lT 11 3 10),Za (.call 12 [] (.f N8z) [.s 11]),Za (.un 13 .not (.s 12)),Za (mS 14 13),Zb 14 true (mS 15 3),Zb 14 true (bC 16 .gtr 15 0),Za (.pick 17 (.s 14) (.s 16) cF)] [1,3,17])
(.cond (.s 17) (pr [mS 18 3,bC 19 .sub 18 1,mS 3 19] [1,3]) .skip))
(Zs [.lit 20 1 9 88 [],mS 4 20] [1,3,4] (.seq (Zs [.mv 5 (ci 0)] [1,3,4,5] (.block 0 (.loop ([1,3,4,5],[2]) (.seq (Zs [mS 21 5,mS 22 3,bS 23 .lss 21 22] [1,3,4,5,23] (cX 23 0))
(.seq (.block 1 (pr [mS 26 4,fS 27 1 2,fS 28 27 0,lF 29 1 28,mS 30 5,xS 31 4 29 30,fS 32 31 2,lF 33 1 32,.call 34 [2] (.f N1w) [.s 33],.app 35 1 9 88 (.s 26) (.s 34),mS 4 35] [1,3,4,5]))
(pr [mS 24 5,bC 25 .add 24 1,mS 5 25] [1,3,4,5]))))))
(Zs [mS 36 4,mS 2 36] [2] .ret))))))
theorem Cbk(a:GArchive)(hs:a.size≤1073741824):Ctr Tryz.prog N4c [aS a.enc] [rL 9 ((Kq a).map GCapture.enc)]:=by
 refine cA M3z 3 37 [(.tmp 2,[true])] Tryz.func208 rfl rfl ?_;unfold M3z
 intro hb
 clear hb
 have hsd:a.Disk.size≤1073741824:=by simp only[GArchive.size]at hs;omega
 have hsz:a.Disk.Containers.length+(a.Disk.Containers.map GContainer.size).sum≤1073741824:=by simp only[GDisk.size]at hsd;omega
 have hsz2:=take_sz (n:=a.Disk.Containers.length-1) hsz
 have hw1:(a.Disk.Containers.length:Int)>0→IntKind.i64.wrap ((a.Disk.Containers.length:Int)-1)=((a.Disk.Containers.length-1:Nat):Int):=fun h=>by rw[wI (by omega) (by omega)];omega
 simp only[go_sem]
 apply K0 (Cdq a.Disk hsd)
 simp only[go_sem]
 repeat' first
  |(refine And.intro ?_ ?_<;>intro h)
 ·rename_i hN
  have eL:(a.Disk.Containers.take (a.Disk.Containers.length-1)).length=a.Disk.Containers.length-1:=by rw[List.length_take];omega
  rw[hw1 h]
  refine K4 (a.Disk.Containers.take (a.Disk.Containers.length-1)) (fun k=>[(4,.val false [.ref 1 0 9 0 (Kx ((a.Disk.Containers.take (a.Disk.Containers.length-1)).take k)).length]),(5,vI k)]) (fun k=>[(1,⟨0,.row true 9 ((Kx ((a.Disk.Containers.take (a.Disk.Containers.length-1)).take k)).map GCapture.enc)⟩)]) (fun _=>True) (by simp only[roomB];omega) ?_
  simp only[go_sem]
  refine⟨?_,trivial,?_,?_⟩
  ·simp only[go_sem,List.take_zero]
   exact⟨rfl,rfl⟩
  ·intro k x hx _ h0 h1 hw
   have hq:=K3h hx
   have hq2:=K3i hx
   have hx3:a.Disk.Containers[k]? =some x:=at_take hx
   have hx2:(k:Int)<((a.Disk.Containers.length-1:Nat):Int):=by have:=Ka hx;rw[List.length_take]at this;omega
   have hx4:(k:Int)<a.Disk.Containers.length:=by have:=Ka hx3;omega
   simp only[go_sem,K1 hx3,hx2,hx4,h0]
   apply K0 (C1e x.Captures (by omega))
   by_cases hf:flat (x.Captures.map GCapture.enc)=true
   all_goals
    simp only[go_sem,hw,hf,K2b hx,List.length_append]
    simp only[roomB]
    exact⟨by omega,fun _=>by rw[List.map_append]⟩
  ·intro _
   simp only[go_sem,eL,Int.lt_irrefl,List.take_take,Nat.min_self]
   rw[Kq,K7k hN]
 ·rename_i hN
  have eL:True:=trivial
  have hC0:a.Disk.Containers=[]:=List.length_eq_zero_iff.1 (by omega)
  refine K4 (a.Disk.Containers) (fun k=>[(4,.val false [.ref 1 0 9 0 (Kx ((a.Disk.Containers).take k)).length]),(5,vI k)]) (fun k=>[(1,⟨0,.row true 9 ((Kx ((a.Disk.Containers).take k)).map GCapture.enc)⟩)]) (fun _=>True) (by simp only[roomB];omega) ?_
  simp only[go_sem]
  refine⟨?_,trivial,?_,?_⟩
  ·simp only[go_sem,List.take_zero]
   exact⟨rfl,rfl⟩
  ·intro k x hx _ h0 h1 hw
   have hq:=K3h hx
   have hq2:=K3i hx
   have hx3:a.Disk.Containers[k]? =some x:=hx
   have hx2:(k:Int)<(a.Disk.Containers.length:Int):=by have:=Ka hx;omega
   have hx4:(k:Int)<a.Disk.Containers.length:=by have:=Ka hx3;omega
   simp only[go_sem,K1 hx3,hx2,h0]
   apply K0 (C1e x.Captures (by omega))
   by_cases hf:flat (x.Captures.map GCapture.enc)=true
   all_goals
    simp only[go_sem,hw,hf,K2b hx,List.length_append]
    simp only[roomB]
    exact⟨by omega,fun _=>by rw[List.map_append]⟩
  ·intro _
   simp only[go_sem,List.take_length,Int.lt_irrefl]
   rw[Kq,K7k hN,hC0]
   rfl
 ·have eL:True:=trivial
  refine K4 (a.Disk.Containers) (fun k=>[(4,.val false [.ref 1 0 9 0 (Kx ((a.Disk.Containers).take k)).length]),(5,vI k)]) (fun k=>[(1,⟨0,.row true 9 ((Kx ((a.Disk.Containers).take k)).map GCapture.enc)⟩)]) (fun _=>True) (by simp only[roomB];omega) ?_
  simp only[go_sem]
  refine⟨?_,trivial,?_,?_⟩
  ·simp only[go_sem,List.take_zero]
   exact⟨rfl,rfl⟩
  ·intro k x hx _ h0 h1 hw
   have hq:=K3h hx
   have hq2:=K3i hx
   have hx3:a.Disk.Containers[k]? =some x:=hx
   have hx2:(k:Int)<(a.Disk.Containers.length:Int):=by have:=Ka hx;omega
   have hx4:(k:Int)<a.Disk.Containers.length:=by have:=Ka hx3;omega
   simp only[go_sem,K1 hx3,hx2,h0]
   apply K0 (C1e x.Captures (by omega))
   by_cases hf:flat (x.Captures.map GCapture.enc)=true
   all_goals
    simp only[go_sem,hw,hf,K2b hx,List.length_append]
    simp only[roomB]
    exact⟨by omega,fun _=>by rw[List.map_append]⟩
  ·intro _
   simp only[go_sem,List.take_length,Int.lt_irrefl]
   rw[Kq,Kb8 h]
theorem K4q(a:GArchive):(Kq a).length+((Kq a).map GCapture.size).sum≤a.size:=by
 have h:(Kq a).length+((Kq a).map GCapture.size).sum≤(a.Disk.Containers.map GContainer.size).sum:=by
  unfold Kq told
  split
  ·exact K53
  ·rw[List.dropLast_eq_take]
   exact Nat.le_trans K53 (K1w _ _)
 simp only[GArchive.size,GDisk.size]
 omega
def seen(a:GArchive):List GCapture:=visible (Kq a) a.Exclusions a.Now
def served(a:GArchive):List GCapture:=(seen a).drop ((seen a).length-20)
theorem K77(a:GArchive):(seen a).length+((seen a).map GCapture.size).sum≤a.size:=by
 have h:=K4q a
 have h1:=K48 (Kq a) a.Exclusions a.Now
 have h2:=K4g (p:=fun c=> !K2v c a.Exclusions a.Now) (f:=GCapture.size) (Kq a)
 unfold seen
 unfold visible at*
 omega
theorem Kbh{α:Type}{f:α→Nat}(l:List α)(k:Nat):((l.drop k).map f).sum≤(l.map f).sum:=by
 conv=>rhs;rw[←List.take_append_drop k l]
 rw[List.map_append,List.sum_append]
 omega
theorem K5h(a:GArchive):(served a).length+((served a).map GCapture.size).sum≤a.size:=by
 have h:=K77 a
 have h2:=Kbh (f:=GCapture.size) (seen a) ((seen a).length-20)
 unfold served
 rw[List.length_drop]
 omega
def M2c:MC:=
(Zs [.box 1 0 (.s 0),.nilo 2 1 9] [1] (.seq (.dreg [Zc [6,7,8,9] (lT 4 10 1),{o:= .call 5 [2] (.f N42) [.s 4],hs:=[6,7,8,9],ws:=[2],bf:=[0]},Zf [4,5,8,9] [2] (fS 6 1 5),Zg [4,5,8,9] [2] [2] (lF 7 1 6),Zf [4,5,6,7] [2] (fS 8 1 9),Zg [4,5,6,7] [2] [4] (lF 9 1 8),{o:= .call 10 [1] (.f N7i) [.s 5,.s 7,.s 9],ws:=[1],bf:=(.range 6)},Ze (.range 7) (mS 3 10)] [3])
(Zs [mS 11 3,mS 12 3,nS 13 12,bC 14 .sub 13 20,.mm 15 true (ci 0) (.s 14),.slc 16 9 (.s 11) (some (.s 15)) none none,mS 2 16] [2] .ret)))
theorem C93(a:GArchive)(hs:a.size≤1073741824):Ctr Tryz.prog N2e [aS a.enc] [rL 9 ((served a).map GCapture.enc)]:=by
 refine cA M2c 3 17 [(.tmp 2,[true])] Tryz.func107 rfl rfl ?_;unfold M2c
 intro hb
 clear hb
 have hz:=K4q a
 have hz2:=K77 a
 have hw1:IntKind.i64.wrap (((seen a).length:Int)-20)=((seen a).length:Int)-20:=wI (by omega) (by omega)
 simp only[go_sem]
 apply K0 (Cb6 a hs)
 simp only[go_sem]
 intros
 apply K0 (Ccv (Kq a) a.Exclusions a.Now (by omega))
 simp only[go_sem]
 intros
 rw[show visible (Kq a) a.Exclusions a.Now=seen a from rfl,hw1]
 by_cases hc:(seen a).length≤20
 ·have e1:(((seen a).length:Int)-0).toNat=(seen a).length:=by omega
  rw[if_neg (by omega),e1,show Int.toNat 0=0 from rfl]
  simp only[go_sem]
  refine⟨⟨by omega,by omega⟩,?_⟩
  rw[served,show(seen a).length-20=0 by omega,List.drop_zero]
 ·obtain⟨m,hm⟩:∃m,(seen a).length=m+21:=⟨(seen a).length-21,by omega⟩
  have e2:(((seen a).length:Int)-20).toNat=m+1:=by omega
  have e3:(((seen a).length:Int)-(((seen a).length:Int)-20)).toNat=20:=by omega
  rw[if_pos (by omega),e2,e3]
  simp only[go_sem]
  refine⟨⟨by omega,by omega⟩,?_⟩
  refine⟨by omega,?_⟩
  rw[if_neg (by simp),served,show(seen a).length-20=m+1 by omega,←List.map_drop,List.take_of_length_le (by rw[List.length_map,List.length_drop];omega)]
def M2d:MC:=
(Zs [.box 1 0 (.s 0),.nilo 2 1 9] [1] (.seq (.dreg [Zc [6,7,8,9] (lT 4 10 1),{o:= .call 5 [2] (.f N4c) [.s 4],hs:=[6,7,8,9],ws:=[2],bf:=[0]},Zf [4,5,8,9] [2] (fS 6 1 5),Zg [4,5,8,9] [2] [2] (lF 7 1 6),Zf [4,5,6,7] [2] (fS 8 1 9),Zg [4,5,6,7] [2] [4] (lF 9 1 8),{o:= .call 10 [3] (.f N83) [.s 5,.s 7,.s 9],ws:=[3],bf:=(.range 6)},Ze (.range 7) (mS 3 10)] [3])
(Zs [mS 11 3,mS 12 3,nS 13 12,bC 14 .sub 13 20,.call 15 [] (.f N6f) [.c (.int .i64 0),.s 14],.slc 16 9 (.s 11) (some (.s 15)) none none,.call 17 [1] (.f N1w) [.s 16],mS 2 17] [2] .ret)))
theorem C98(a:GArchive)(hs:a.size≤1073741824):Ctr Tryz.prog N2f [aS a.enc] [rL 9 ((served a).map GCapture.enc)]:=by
 refine cA M2d 4 18 [(.tmp 2,[true])] Tryz.func105 rfl rfl ?_;unfold M2d
 intro hb
 clear hb
 have hz:=K4q a
 have hz2:=K77 a
 have hz3:=K5h a
 have hw1:IntKind.i64.wrap (((seen a).length:Int)-20)=((seen a).length:Int)-20:=wI (by omega) (by omega)
 simp only[go_sem]
 apply K0 (Cbk a hs)
 simp only[go_sem]
 intros
 apply K0 (Cdd (Kq a) a.Exclusions a.Now (by omega))
 simp only[go_sem]
 intros
 rw[show visible (Kq a) a.Exclusions a.Now=seen a from rfl,hw1]
 apply K0 (Ca5 _ _)
 simp only[go_sem]
 have hm:(if ((seen a).length:Int)-20>0 then((seen a).length:Int)-20 else 0)=(((seen a).length-20:Nat):Int):=by split<;>omega
 rw[hm]
 simp only[Int.toNat_natCast]
 rw[cutB (by omega)]
 refine⟨by omega,by omega,?_⟩
 apply K0 (C1e (served a) (by omega))
 simp only[go_sem]
 try intros
 try trivial
end Go.Proofs.YtjneccbpkckdfaaGreatR
namespace Go.Proofs.YtjneccbpkckdfaaGreatR
open Go Go.RowKit Go.Proofs
open Nat (reduceEqDiff reduceLT reduceLeDiff reduceAdd reduceMul)
open List (reduceReplicate)
end Go.Proofs.YtjneccbpkckdfaaGreatR
namespace Go.Proofs.YtjneccbpkckdfaaGreatR
open Go Go.RowKit Go.Proofs
open Nat (reduceEqDiff reduceLT reduceLeDiff reduceAdd reduceMul)
open List (reduceReplicate)
def K6n(a b:GAddress):Int:=if a=b then 0 else if ¬a.Host=b.Host then 3 else if ¬a.Path=b.Path then 2 else 1
def distI(a b:Int):Int:=if IntKind.i64.wrap (b-a)>IntKind.i64.wrap (a-b)then IntKind.i64.wrap (b-a)else IntKind.i64.wrap (a-b)
theorem adr_eq(a b:GAddress):(a.Host==b.Host&&(a.Path==b.Path&&a.Query==b.Query))=decide (a=b):=by
 cases a;cases b
 rw[Bool.eq_iff_iff]
 simp
def M4v:MC:=
(Zs [.box 2 0 (.s 0),.box 3 1 (.s 1),.mv 4 (ci 0)] [2,3] (.seq (.block 0 (Zs [lT 6 3 2,lT 7 3 3,.eqA 8 false [.i .i64,.i .i64,.i .i64] (.s 6) (.s 7),mS 5 8] [2,3,5] (.cond (.s 5) (Zs [.mv 4 (ci 0)] [4] .ret) (Zs [fS 10 2 0,lF 11 1 10,fS 12 3 0,lF 13 1 12,bS 14 .neq 11 13,mS 9 14] [2,3,9] (.cond (.s 9) (Zs [.mv 4 (ci 3)] [4] .ret) (Zs [fS 16 2 1,lF 17 1 16,fS 18 3 1,lF 19 1 18,bS 20 .neq 17 19,mS 15 20] [15] (.cond (.s 15) (Zs [.mv 4 (ci 2)] [4] .ret) .skip)))))))
(Zs [.mv 4 (ci 1)] [4] .ret)))
theorem Cbu(a b:GAddress):Ctr Tryz.prog N5q [aS a.enc,aS b.enc] [rI (K6n a b)]:=by
 refine cA M4v 2 21 [(.tmp 4,[false])] Tryz.func356 rfl rfl ?_;unfold M4v
 intro hb
 clear hb
 simp only[go_sem,adr_eq]
 unfold K6n
 refine⟨fun h=>?_,fun h=>⟨fun h1=>?_,fun h1=>⟨fun h2=>?_,fun h2=>?_⟩⟩⟩
 ·rw[if_pos (by simpa using h)]
 ·rw[if_neg (by simpa using h),if_pos h1]
 ·rw[if_neg (by simpa using h),if_neg (by simpa using h1),if_pos h2]
 ·rw[if_neg (by simpa using h),if_neg (by simpa using h1),if_neg (by simpa using h2)]
def M39:MC:=
(Zs [.box 1 0 (.s 0),.alloc 2 1 [pz,pz,pz]] [1,2] (Zs [fS 3 1 0,lF 4 1 3,fS 5 1 1,lF 6 1 5,.build 7 [pz,pz,pz] [(0,1,.s 4),(1,1,.s 6)],sS 3 2 7] [2] .ret))
theorem C2v(a:GAddress):Ctr Tryz.prog N1o [aS a.enc] [rS (GAddress.enc ⟨a.Host,a.Path,0⟩)]:=by
 refine cA M39 2 8 [(.cell 2 true 3,[false,false,false])] Tryz.func384 rfl rfl ?_;unfold M39
 intro hb
 clear hb
 simp only[go_sem]
def M5h:MC:=
(Zs [.box 2 0 (.s 0),.box 3 1 (.s 1),.mv 4 (ci 0)] [2,3] (.seq (.block 0 (Zs [lT 6 3 2,lT 7 3 3,.eqA 8 false [.i .i64,.i .i64,.i .i64] (.s 6) (.s 7),mS 5 8] [2,3,5] (.cond (.s 5) (Zs [.mv 4 (ci 0)] [4] .ret) (.seq (.dreg [Zc [12] (lT 10 3 2),Zd [12] [0] (.call 11 [] (.f N1o) [.s 10]),Zc [10,11] (lT 12 3 3),Ze [0,1,2] (.call 13 [] (.f N1o) [.s 12]),Ze (.range 4) (.eqA 14 false [.i .i64,.i .i64,.i .i64] (.s 11) (.s 13)),Ze (.range 5) (mS 9 14)] [2,3,9])
(.cond (.s 9) (Zs [.mv 4 (ci 1)] [4] .ret) (Zs [fS 16 2 0,lF 17 1 16,fS 18 3 0,lF 19 1 18,bS 20 .eql 17 19,mS 15 20] [15] (.cond (.s 15) (Zs [.mv 4 (ci 2)] [4] .ret) .skip)))))))
(Zs [.mv 4 (ci 3)] [4] .ret)))
theorem Ccc(a b:GAddress):Ctr Tryz.prog N6a [aS a.enc,aS b.enc] [rI (K6n a b)]:=by
 refine cA M5h 2 21 [(.tmp 4,[false])] Tryz.func349 rfl rfl ?_;unfold M5h
 intro hb
 clear hb
 simp only[go_sem,adr_eq]
 unfold K6n
 refine⟨fun h=>?_,fun h=>?_⟩
 ·rw[if_pos (by simpa using h)]
 ·have hne:¬a=b:=by simpa using h
  rw[if_neg hne]
  apply K0 (C2v a)
  simp only[go_sem]
  apply K0 (C2v b)
  simp only[go_sem]
  intro _
  refine⟨fun h=>?_,fun h=>⟨fun h1=>?_,fun h1=>?_⟩⟩
  ·simp at h
   rw[if_neg (by simp[h.1]),if_neg (by simp[h.2])]
  ·simp[h1]at h
   rw[if_neg (by simp[h1]),if_pos h]
  ·rw[if_pos h1]
def M8e:MC:=
(Zs [.mv 4 (ci 0)] [0,1] (Zs [mS 5 0,mS 6 1,bS 7 .sub 5 6,mS 8 1,mS 9 0,bS 10 .sub 8 9,.mm 11 true (.s 7) (.s 10),mS 4 11] [4] .ret))
theorem C89(a b:Int):Ctr Tryz.prog N2n [aI a,aI b] [rI (distI a b)]:=by
 refine cA M8e 0 12 [(.tmp 4,[false])] Tryz.func357 rfl rfl ?_;unfold M8e
 intro hb
 clear hb
 simp only[go_sem]
 rfl
def Man:MC:=
(Zs [.mv 6 (ci 0)] [0,1,2] (.seq (.dreg [Zc [8,12,14,15,16,17,18,19,20] (mS 7 0),Zc [7,12,14,15,16,17,18,19,20] (mS 8 1),Zd [12,14,15,16,17,18,19,20] [0,1] (xS 9 9 7 8),Zd [12,14,15,16,17,18,19,20] [0,1,2] (fS 10 9 3),Zd [12,14,15,16,17,18,19,20] (.range 4) (lF 11 1 10),Zc [7,8,9,10,11,14,15,16,17,18,19,20] (mS 12 2),Zd [14,15,16,17,18,19,20] (.range 6) (bS 13 .sub 11 12),Zc [7,8,9,10,11,12,13,15,16,17,18,19] (mS 14 2),Zc [7,8,9,10,11,12,13,14,16] (mS 15 0),Zc [7,8,9,10,11,12,13,14,15] (mS 16 1),Zd [7,8,9,10,11,12,13,14] [8,9] (xS 17 9 15 16),Zd [7,8,9,10,11,12,13,14] [8,9,10] (fS 18 17 3),Zd [7,8,9,10,11,12,13,14] [8,9,10,11] (lF 19 1 18),Zd [7,8,9,10,11,12,13] [7,8,9,10,11,12] (bS 20 .sub 14 19),Ze (.range 14) (.call 21 [] (.f N6f) [.s 13,.s 20]),Ze (.range 15) (mS 6 21)] [6])
.ret))
theorem Ca8(l:List GCapture)(i:Nat)(c:GCapture)(t:Int)(h:l[i]? =some c):Ctr Tryz.prog N4j [aL 9 (l.map GCapture.enc),aI i,aI t] [rI (distI c.Tick t)]:=by
 refine cA Man 0 22 [(.tmp 6,[false])] Tryz.func350 rfl rfl ?_;unfold Man
 intro hb
 clear hb
 have hi:=Ka h
 have h0:(0:Int)≤(i:Int):=by omega
 have h1:(i:Int)<(l.length:Int):=by omega
 simp only[go_sem,K1 h,h0,h1]
 apply K0 (Ca5 (IntKind.i64.wrap (c.Tick-t)) (IntKind.i64.wrap (t-c.Tick)))
 simp only[go_sem]
 intro _
 rfl
def K20(l:List GCapture)(a:GAddress)(t far best:Int)(k:Nat)(c:GCapture):Int:=
 if ¬K6n c.Address a=far then best else if best<0 then k else match l[best.toNat]? with
  |some b=>if distI c.Tick t<distI b.Tick t∨distI c.Tick t=distI b.Tick t∧c.Tick<b.Tick then k else best
  |none=>best
def K1c(l:List GCapture)(a:GAddress)(t far:Int):Nat→Int
 |0=> -1
 |k+1=>match l[k]? with
  |some c=>K20 l a t far (K1c l a t far k) k c
  |none=>K1c l a t far k
def Kr(l:List GCapture)(a:GAddress)(t far:Int):Int:=K1c l a t far l.length
theorem K71{l:List GCapture}{a:GAddress}{t far:Int}{k:Nat}{c:GCapture}(h:l[k]? =some c):K1c l a t far (k+1)=K20 l a t far (K1c l a t far k) k c:=by simp only[K1c,h]
theorem K3n{l:List GCapture}{a:GAddress}{t far:Int}:∀ {k:Nat},k≤l.length→K1c l a t far k= -1∨∃(j:Nat) (b:GCapture),K1c l a t far k=j∧j<k∧l[j]? =some b
 |0,_=> .inl rfl
 |k+1,h=>by
  obtain⟨c,hc⟩:=K7 (l:=l) (k:=k) (by omega)
  rw[K71 hc]
  have ih:=K3n (a:=a) (t:=t) (far:=far) (show k≤l.length by omega)
  have hk:∃(j:Nat) (b:GCapture),(k:Int)=j∧j<k+1∧l[j]? =some b:=⟨k,c,rfl,by omega,hc⟩
  have hold:K1c l a t far k= -1∨∃(j:Nat) (b:GCapture),K1c l a t far k=j∧j<k+1∧l[j]? =some b:=by
   rcases ih with e|⟨j,b,e,hj,hb⟩
   ·exact .inl e
   ·exact .inr ⟨j,b,e,by omega,hb⟩
  unfold K20
  split
  ·exact hold
  ·split
   ·exact .inr hk
   ·split
    ·split
     ·exact .inr hk
     ·exact hold
    ·exact hold
def M9e:MC:=
(Zs [.box 5 0 (.s 1),.mv 8 (ci 0)] [0,2,3,5] (Zs [.mv 9 (.c (.int .i64 (-1)))] [0,2,3,5,9] (.seq (Zs [mS 14 0,nS 15 14,.mv 16 (ci 0)] [0,2,3,5,9,14,15,16] (.block 0 (.loop ([0,2,3,5,9,14,15,16],[1]) (Zs [bS 17 .lss 16 15] [0,2,3,5,9,14,15,16,17] (.seq (cX 17 0)
(.seq (.block 1 (Zs [mS 18 16,xS 19 9 14 16,lT 20 9 19,.alloc 11 1 [pz,pz,pz,pz,pz,.emp 1,pz,pz,pz],mS 10 18,sS 9 11 20] [0,2,3,5,9,10,11,14,15,16] (.seq (Zs [fS 21 11 0,lT 22 3 21,lT 23 3 5,.call 24 [] (.f N5q) [.s 22,.s 23],mS 25 3,bS 26 .neq 24 25] [0,2,3,5,9,10,11,14,15,16,26] (.cond (.s 26) (.exit 1) .skip))
(.seq (Zs [mS 27 9,bC 28 .lss 27 0] [0,2,3,5,9,10,11,14,15,16,28] (.cond (.s 28) (Zs [mS 29 10,mS 9 29] [0,2,3,5,9,14,15,16] (.exit 1)) .skip))
(.seq (.dreg [Zc [32,34,35,36,37,38,39] (fS 30 11 3),Zd [32,34,35,36,37,38,39] [0] (lF 31 1 30),Zc [30,31,34,35,36,37,38,39] (mS 32 2),Zd [34,35,36,37,38,39] [0,1,2] (.call 33 [] (.f N2n) [.s 31,.s 32]),Zc [30,31,32,33,35,39] (mS 34 0),Zc [30,31,32,33,34,39] (mS 35 9),Zd [30,31,32,33,39] [4,5] (xS 36 9 34 35),Zd [30,31,32,33,39] [4,5,6] (fS 37 36 3),Zd [30,31,32,33,39] [4,5,6,7] (lF 38 1 37),Zc [30,31,32,33,34,35,36,37,38] (mS 39 2),Ze (.range 10) (.call 40 [] (.f N2n) [.s 38,.s 39]),Ze (.range 11) (mS 12 33),Ze (.range 12) (mS 13 40)] [0,2,3,5,9,10,11,12,13,14,15,16])
(.seq (.dreg [Zc [42] (mS 41 12),Zc [41] (mS 42 13),Ze [0,1] (bS 43 .lss 41 42),Ze [0,1,2] (mS 44 43),{o:=mS 45 12,g:=some (44,false),hs:=[46],bf:=(.range 4)},{o:=mS 46 13,g:=some (44,false),hs:=[45],bf:=(.range 4)},{o:=bS 47 .eql 45 46,g:=some (44,false),bf:=(.range 6)},{o:=mS 48 47,g:=some (44,false),bf:=(.range 7)},{o:=fS 49 11 3,g:=some (48,true),hs:=[51,52,53,54,55],bf:=(.range 8)},{o:=lF 50 1 49,g:=some (48,true),hs:=[51,52,53,54,55],bf:=(.range 9)},{o:=mS 51 0,g:=some (48,true),hs:=[49,50,52],bf:=(.range 8)},{o:=mS 52 9,g:=some (48,true),hs:=[49,50,51],bf:=(.range 8)},{o:=xS 53 9 51 52,g:=some (48,true),hs:=[49,50],bf:=[0,1,2,3,4,5,6,7,10,11]},{o:=fS 54 53 3,g:=some (48,true),hs:=[49,50],bf:=[0,1,2,3,4,5,6,7,10,11,12]},{o:=lF 55 1 54,g:=some (48,true),hs:=[49,50],bf:=[0,1,2,3,4,5,6,7,10,11,12,13]},{o:=bS 56 .lss 50 55,g:=some (48,true),bf:=(.range 15)},{o:= .pick 57 (.s 48) (.s 56) cF,g:=some (44,false),bf:=(.range 16)},Ze (.range 17) (.pick 58 (.s 44) cT (.s 57))] [0,2,3,5,9,10,14,15,16,58])
(.cond (.s 58) (pr [mS 59 10,mS 9 59] [0,2,3,5,9,14,15,16]) .skip)))))))
(pr [bC 60 .add 16 1,mS 16 60] [0,2,3,5,9,14,15,16])))))))
(Zs [mS 61 9,mS 8 61] [8] .ret))))
set_option maxHeartbeats 2000000 in
theorem C96(l:List GCapture)(a:GAddress)(t far:Int)(hl:l.length≤1073741824):Ctr Tryz.prog N3k [aL 9 (l.map GCapture.enc),aS a.enc,aI t,aI far] [rI (Kr l a t far)]:=by
 refine cA M9e 2 62 [(.tmp 8,[false])] Tryz.func299 rfl rfl ?_;unfold M9e
 intro hb
 clear hb
 unfold Kr
 simp only[go_sem]
 refine K4 l (fun k=>[(9,.val false [.pl (.sc (.int .i64 (K1c l a t far k)))]),(16,vI k)]) (fun k=>[]) (fun _=>True) (by simp only[roomB];omega) ?_
 simp only[go_sem]
 refine⟨?_,trivial,?_,?_⟩
 ·simp only[go_sem,K1c]
  try rfl
 ·intro k c hx _ h0 h1 hw
  have hk:=Ka hx
  rw[K71 hx]
  have hok:=K3n (a:=a) (t:=t) (far:=far) (show k≤l.length by omega)
  generalize K1c l a t far k=best at*
  simp only[go_sem,K1 hx,h0,h1]
  apply K0 (Cbu c.Address a)
  simp only[go_sem,hw]
  intro _
  refine⟨fun h=>?_,fun h=>⟨fun hn=>?_,fun hn=>?_⟩⟩
  ·unfold K20
   rw[if_pos h]
  ·unfold K20
   rw[if_neg (by simpa using h),if_pos hn]
  ·obtain⟨j,b,rfl,hj,hbj⟩:∃(j:Nat) (b:GCapture),best=j∧j<k∧l[j]? =some b:=by
    rcases hok with e|h
    ·omega
    ·exact h
   have hj0:(0:Int)≤(j:Int):=by omega
   have hj1:(j:Int)<(l.length:Int):=by omega
   have hns:K20 l a t far (j:Int) k c=if distI c.Tick t<distI b.Tick t∨distI c.Tick t=distI b.Tick t∧c.Tick<b.Tick then(k:Int)else(j:Int):=by
    unfold K20
    rw[if_neg (by simpa using h),if_neg hn,Int.toNat_natCast,hbj]
   rw[hns]
   apply K0 (C89 c.Tick t)
   simp only[go_sem,K1 hbj,hj0,hj1]
   intros
   apply K0 (C89 b.Tick t)
   simp only[go_sem,hw,K1 hbj,hj0,hj1]
   intro _
   refine⟨fun x=>(if_pos (.inl x)).symm,fun x=>⟨fun y=>⟨fun z=>(if_pos (.inr ⟨y,z⟩)).symm,fun z=>?_⟩,fun y=>?_⟩⟩
   ·rw[if_neg (by omega)]
   ·rw[if_neg (by omega)]
 ·intro _
  simp only[go_sem]
def M9m:MC:=
(Zs [.box 5 0 (.s 1),.mv 8 (ci 0)] [0,2,3,5] (Zs [.mv 9 (.c (.int .i64 (-1)))] [0,2,3,5,9] (.seq (Zs [.mv 10 (ci 0)] [0,2,3,5,9,10] (.block 0 (.loop ([0,2,3,5,9,10],[]) (.seq (Zs [mS 13 10,mS 14 0,nS 15 14,bS 16 .lss 13 15] [0,2,3,5,9,10,16] (cX 16 0))
(.seq (.block 1 (.seq (.seq (.dreg [Zc [20,24,26] (mS 19 0),Zc [19,24,26] (mS 20 10),Zd [24,26] [0,1] (xS 21 9 19 20),Zd [24,26] [0,1,2] (fS 22 21 0),Zd [24,26] (.range 4) (lT 23 3 22),Zc [19,20,21,22,23,26] (lT 24 3 5),Zd [26] (.range 6) (.call 25 [] (.f N6a) [.s 23,.s 24]),Zc [19,20,21,22,23,24,25] (mS 26 3),Ze (.range 8) (bS 27 .neq 25 26)] [0,2,3,5,9,10,27])
(.cond (.s 27) (.exit 1) .skip))
(.seq (Zs [mS 28 9,bC 29 .lss 28 0] [0,2,3,5,9,10,29] (.cond (.s 29) (Zs [mS 30 10,mS 9 30] [0,2,3,5,9,10] (.exit 1)) .skip))
(Zs [mS 31 0,mS 32 10,mS 33 2,.call 34 [] (.f N4j) [.s 31,.s 32,.s 33],mS 11 34] [0,2,3,5,9,10,11] (Zs [mS 35 0,mS 36 9,mS 37 2,.call 38 [] (.f N4j) [.s 35,.s 36,.s 37],mS 12 38] [0,2,3,5,9,10,11,12] (.seq (.dreg [Zc [40] (mS 39 11),Zc [39] (mS 40 12),Ze [0,1] (bS 41 .lss 39 40),Ze [0,1,2] (mS 42 41),{o:=mS 43 11,g:=some (42,false),hs:=[44],bf:=(.range 4)},{o:=mS 44 12,g:=some (42,false),hs:=[43],bf:=(.range 4)},{o:=bS 45 .eql 43 44,g:=some (42,false),bf:=(.range 6)},{o:=mS 46 45,g:=some (42,false),bf:=(.range 7)},{o:=mS 47 0,g:=some (46,true),hs:=[48,52,53,54,55,56],bf:=(.range 8)},{o:=mS 48 10,g:=some (46,true),hs:=[47,52,53,54,55,56],bf:=(.range 8)},{o:=xS 49 9 47 48,g:=some (46,true),hs:=[52,53,54,55,56],bf:=(.range 10)},{o:=fS 50 49 3,g:=some (46,true),hs:=[52,53,54,55,56],bf:=(.range 11)},{o:=lF 51 1 50,g:=some (46,true),hs:=[52,53,54,55,56],bf:=(.range 12)},{o:=mS 52 0,g:=some (46,true),hs:=[47,48,49,50,51,53],bf:=(.range 8)},{o:=mS 53 9,g:=some (46,true),hs:=[47,48,49,50,51,52],bf:=(.range 8)},{o:=xS 54 9 52 53,g:=some (46,true),hs:=[47,48,49,50,51],bf:=[0,1,2,3,4,5,6,7,13,14]},{o:=fS 55 54 3,g:=some (46,true),hs:=[47,48,49,50,51],bf:=[0,1,2,3,4,5,6,7,13,14,15]},{o:=lF 56 1 55,g:=some (46,true),hs:=[47,48,49,50,51],bf:=[0,1,2,3,4,5,6,7,13,14,15,16]},{o:=bS 57 .lss 51 56,g:=some (46,true),bf:=(.range 18)},{o:= .pick 58 (.s 46) (.s 57) cF,g:=some (42,false),bf:=(.range 19)},Ze (.range 20) (.pick 59 (.s 42) cT (.s 58))] [0,2,3,5,9,10,59])
(.cond (.s 59) (pr [mS 60 10,mS 9 60] [0,2,3,5,9,10]) .skip)))))))
(pr [mS 17 10,bC 18 .add 17 1,mS 10 18] [0,2,3,5,9,10]))))))
(Zs [mS 61 9,mS 8 61] [8] .ret))))
set_option maxHeartbeats 2000000 in
theorem C99(l:List GCapture)(a:GAddress)(t far:Int)(hl:l.length≤1073741824):Ctr Tryz.prog N3l [aL 9 (l.map GCapture.enc),aS a.enc,aI t,aI far] [rI (Kr l a t far)]:=by
 refine cA M9m 1 62 [(.tmp 8,[false])] Tryz.func288 rfl rfl ?_;unfold M9m
 intro hb
 clear hb
 unfold Kr
 simp only[go_sem]
 refine K4 l (fun k=>[(9,.val false [.pl (.sc (.int .i64 (K1c l a t far k)))]),(10,vI k)]) (fun k=>[]) (fun _=>True) (by simp only[roomB];omega) ?_
 simp only[go_sem]
 refine⟨?_,trivial,?_,?_⟩
 ·simp only[go_sem,K1c]
  try rfl
 ·intro k c hx _ h0 h1 hw
  have hk:=Ka hx
  rw[K71 hx]
  have hok:=K3n (a:=a) (t:=t) (far:=far) (show k≤l.length by omega)
  generalize K1c l a t far k=best at*
  simp only[go_sem,K1 hx,h0,h1]
  apply K0 (Ccc c.Address a)
  simp only[go_sem,hw]
  intro _
  refine⟨fun h=>?_,fun h=>⟨fun hn=>?_,fun hn=>?_⟩⟩
  ·unfold K20
   rw[if_pos h]
  ·unfold K20
   rw[if_neg (by simpa using h),if_pos hn]
  ·obtain⟨j,b,rfl,hj,hbj⟩:∃(j:Nat) (b:GCapture),best=j∧j<k∧l[j]? =some b:=by
    rcases hok with e|h
    ·omega
    ·exact h
   have hj0:(0:Int)≤(j:Int):=by omega
   have hj1:(j:Int)<(l.length:Int):=by omega
   have hns:K20 l a t far (j:Int) k c=if distI c.Tick t<distI b.Tick t∨distI c.Tick t=distI b.Tick t∧c.Tick<b.Tick then(k:Int)else(j:Int):=by
    unfold K20
    rw[if_neg (by simpa using h),if_neg hn,Int.toNat_natCast,hbj]
   rw[hns]
   apply K0 (Ca8 l k c t hx)
   simp only[go_sem]
   intros
   apply K0 (Ca8 l j b t hbj)
   simp only[go_sem,K1 hx,h0,h1,hw,K1 hbj,hj0,hj1]
   intro _
   refine⟨fun x=>(if_pos (.inl x)).symm,fun x=>⟨fun y=>⟨fun z=>(if_pos (.inr ⟨y,z⟩)).symm,fun z=>?_⟩,fun y=>?_⟩⟩
   ·rw[if_neg (by omega)]
   ·rw[if_neg (by omega)]
 ·intro _
  simp only[go_sem]
def Kn(l:List GCapture)(a:GAddress)(t:Int):GChoice:=
 if ¬(0≤t∧t≤2000)∨K24 l=false then⟨3,-1⟩
 else if 0≤Kr l a t 0 then(match l[(Kr l a t 0).toNat]? with
  |some c=>if c.Tick=t then⟨0,Kr l a t 0⟩else⟨1,Kr l a t 0⟩
  |none=>⟨3,-1⟩)
 else if 0≤Kr l a t 1 then⟨2,Kr l a t 1⟩else⟨3,-1⟩
theorem K57{l:List GCapture}{a:GAddress}{t:Int}(h:¬((0≤t∧t≤2000)∧K24 l=true)):Kn l a t=⟨3,-1⟩:=by
 unfold Kn
 rw[if_pos (by
  by_cases h1:0≤t∧t≤2000
  ·exact .inr (by simpa[h1]using h)
  ·exact .inl h1)]
theorem Kas{l:List GCapture}{a:GAddress}{t:Int}{j:Nat}{c:GCapture}(h1:0≤t∧t≤2000)(h2:K24 l=true)(e:Kr l a t 0=j)(hc:l[j]? =some c):Kn l a t=if c.Tick=t then⟨0,j⟩else⟨1,j⟩:=by
 unfold Kn
 rw[if_neg (by simp[h1,h2]),e,if_pos (by omega),Int.toNat_natCast,hc]
theorem Kat{l:List GCapture}{a:GAddress}{t:Int}(h1:0≤t∧t≤2000)(h2:K24 l=true)(e:¬0≤Kr l a t 0):Kn l a t=if 0≤Kr l a t 1 then⟨2,Kr l a t 1⟩else⟨3,-1⟩:=by
 unfold Kn
 rw[if_neg (by simp[h1,h2]),if_neg e]
def M6m:MC:=
(Zs [.box 4 0 (.s 1),.alloc 6 1 [pz,pz]] [0,2,4,6] (.seq (.seq (.reg [Za (mS 9 2),Za (.call 10 [] (.f N1) [.s 9,.c (.int .i64 0),.c (.int .i64 2000)]),Za (.un 11 .not (.s 10)),Za (mS 12 11),Zb 12 false (mS 13 0),Zb 12 false (.call 14 [] (.f N1t) [.s 13]),Zb 12 false (.un 15 .not (.s 14)),Za (.pick 16 (.s 12) cT (.s 15))] [0,2,4,6,16])
(.cond (.s 16) (Zs [.build 17 [pz,pz] [(0,1,.c (.int .i64 3)),(1,1,.c (.int .i64 (-1)))],sS 2 6 17] [6] .ret) .skip))
(.seq (Zs [mS 18 0,lT 19 3 4,mS 20 2,.call 21 [] (.f N3k) [.s 18,.s 19,.s 20,.c (.int .i64 0)],mS 7 21] [0,2,4,6,7] (Zs [mS 22 7,bC 23 .geq 22 0] [0,2,4,6,7,23] (.cond (.s 23) (.seq (Zs [mS 24 0,mS 25 7,xS 26 9 24 25,fS 27 26 3,lF 28 1 27,mS 29 2,bS 30 .eql 28 29] [6,7,30] (.cond (.s 30) (Zs [mS 31 7,.build 32 [pz,pz] [(0,1,.c (.int .i64 0)),(1,1,.s 31)],sS 2 6 32] [6] .ret) .skip))
(Zs [mS 33 7,.build 34 [pz,pz] [(0,1,.c (.int .i64 1)),(1,1,.s 33)],sS 2 6 34] [6] .ret)) .skip)))
(.seq (Zs [mS 35 0,lT 36 3 4,mS 37 2,.call 38 [] (.f N3k) [.s 35,.s 36,.s 37,.c (.int .i64 1)],mS 8 38] [6,8] (Zs [mS 39 8,bC 40 .geq 39 0] [6,8,40] (.cond (.s 40) (Zs [mS 41 8,.build 42 [pz,pz] [(0,1,.c (.int .i64 2)),(1,1,.s 41)],sS 2 6 42] [6] .ret) .skip)))
(Zs [.build 43 [pz,pz] [(0,1,.c (.int .i64 3)),(1,1,.c (.int .i64 (-1)))],sS 2 6 43] [6] .ret)))))
set_option maxHeartbeats 2000000 in
theorem Ccs(l:List GCapture)(a:GAddress)(t:Int)(hl:l.length≤1073741824):Ctr Tryz.prog N7f [aL 9 (l.map GCapture.enc),aS a.enc,aI t] [rS (Kn l a t).enc]:=by
 refine cA M6m 2 44 [(.cell 6 true 2,[false,false])] Tryz.func216 rfl rfl ?_;unfold M6m
 intro hb
 clear hb
 have hok:=K3n (l:=l) (a:=a) (t:=t) (far:=0) (Nat.le_refl _)
 rw[show K1c l a t 0 l.length=Kr l a t 0 from rfl]at hok
 simp only[go_sem]
 apply K0 (C4 t 0 2000)
 simp only[go_sem]
 refine⟨fun h1=>?_,fun h1=>?_⟩
 ·rw[K57 (by simp[h1])]
  exact⟨rfl,rfl⟩
 ·apply K0 (C1p l)
  simp only[go_sem]
  refine⟨fun h2=>?_,fun h2=>?_⟩
  ·rw[K57 (by simp[h1,h2])]
   exact⟨rfl,rfl⟩
  ·apply K0 (C96 l a t 0 hl)
   simp only[go_sem]
   intro _
   refine⟨fun h3=>?_,fun h3=>?_⟩
   ·obtain⟨j,b,e,hj,hb⟩:∃(j:Nat) (b:GCapture),Kr l a t 0=j∧j<l.length∧l[j]? =some b:=by
     rcases hok with e|h
     ·omega
     ·exact h
    have hj0:(0:Int)≤(j:Int):=by omega
    have hj1:(j:Int)<(l.length:Int):=by omega
    rw[Kas (by assumption) (by assumption) e hb,e]
    simp only[go_sem,K1 hb,hj0,hj1]
    refine⟨fun x=>?_,fun x=>?_⟩
    ·rw[if_pos x]
     exact⟨rfl,rfl⟩
    ·rw[if_neg x]
     exact⟨rfl,rfl⟩
   ·apply K0 (C96 l a t 1 hl)
    simp only[go_sem]
    intro _
    rw[Kat (by assumption) (by assumption) (by omega)]
    refine⟨fun x=>?_,fun x=>?_⟩
    ·rw[if_pos x]
     exact⟨rfl,rfl⟩
    ·rw[if_neg x]
     exact⟨rfl,rfl⟩
def M78:MC:=
(Zs [.box 4 0 (.s 1),.alloc 6 1 [pz,pz]] [0,2,4,6] (.seq (.seq (.reg [Za (mS 9 0),Za (.call 10 [] (.f N1v) [.s 9]),Za (.un 11 .not (.s 10)),Za (mS 12 11),Zb 12 false (mS 13 2),Zb 12 false (.call 14 [] (.f N0) [.s 13,.c (.int .i64 0),.c (.int .i64 2000)]),Zb 12 false (.un 15 .not (.s 14)),Za (.pick 16 (.s 12) cT (.s 15))] [0,2,4,6,16])
(.cond (.s 16) (Zs [.build 17 [pz,pz] [(0,1,.c (.int .i64 3)),(1,1,.c (.int .i64 (-1)))],sS 2 6 17] [6] .ret) .skip))
(.seq (Zs [mS 18 0,lT 19 3 4,mS 20 2,.call 21 [] (.f N3l) [.s 18,.s 19,.s 20,.c (.int .i64 0)],mS 7 21] [0,2,4,6,7] (Zs [mS 22 7,bC 23 .geq 22 0] [0,2,4,6,7,23] (.cond (.s 23) (.seq (Zs [mS 24 0,mS 25 7,xS 26 9 24 25,fS 27 26 3,lF 28 1 27,mS 29 2,bS 30 .eql 28 29] [6,7,30] (.cond (.s 30) (Zs [mS 31 7,.build 32 [pz,pz] [(0,1,.c (.int .i64 0)),(1,1,.s 31)],sS 2 6 32] [6] .ret) .skip))
(Zs [mS 33 7,.build 34 [pz,pz] [(0,1,.c (.int .i64 1)),(1,1,.s 33)],sS 2 6 34] [6] .ret)) .skip)))
(.seq (Zs [mS 35 0,lT 36 3 4,mS 37 2,.call 38 [] (.f N3l) [.s 35,.s 36,.s 37,.c (.int .i64 1)],mS 8 38] [6,8] (Zs [mS 39 8,bC 40 .geq 39 0] [6,8,40] (.cond (.s 40) (Zs [mS 41 8,.build 42 [pz,pz] [(0,1,.c (.int .i64 2)),(1,1,.s 41)],sS 2 6 42] [6] .ret) .skip)))
(Zs [.build 43 [pz,pz] [(0,1,.c (.int .i64 3)),(1,1,.c (.int .i64 (-1)))],sS 2 6 43] [6] .ret)))))
set_option maxHeartbeats 2000000 in
theorem Cda(l:List GCapture)(a:GAddress)(t:Int)(hl:l.length≤1073741824):Ctr Tryz.prog N80 [aL 9 (l.map GCapture.enc),aS a.enc,aI t] [rS (Kn l a t).enc]:=by
 refine cA M78 2 44 [(.cell 6 true 2,[false,false])] Tryz.func199 rfl rfl ?_;unfold M78
 intro hb
 clear hb
 have hok:=K3n (l:=l) (a:=a) (t:=t) (far:=0) (Nat.le_refl _)
 rw[show K1c l a t 0 l.length=Kr l a t 0 from rfl]at hok
 simp only[go_sem]
 apply K0 (C1r l)
 simp only[go_sem]
 refine⟨fun h1=>?_,fun h1=>?_⟩
 ·rw[K57 (by simp[h1])]
  exact⟨rfl,rfl⟩
 ·apply K0 (C2 t 0 2000)
  simp only[go_sem]
  refine⟨fun h2=>?_,fun h2=>?_⟩
  ·rw[K57 (by simp[h1,h2])]
   exact⟨rfl,rfl⟩
  ·apply K0 (C99 l a t 0 hl)
   simp only[go_sem]
   intro _
   refine⟨fun h3=>?_,fun h3=>?_⟩
   ·obtain⟨j,b,e,hj,hb⟩:∃(j:Nat) (b:GCapture),Kr l a t 0=j∧j<l.length∧l[j]? =some b:=by
     rcases hok with e|h
     ·omega
     ·exact h
    have hj0:(0:Int)≤(j:Int):=by omega
    have hj1:(j:Int)<(l.length:Int):=by omega
    rw[Kas (by assumption) (by assumption) e hb,e]
    simp only[go_sem,K1 hb,hj0,hj1]
    refine⟨fun x=>?_,fun x=>?_⟩
    ·rw[if_pos x]
     exact⟨rfl,rfl⟩
    ·rw[if_neg x]
     exact⟨rfl,rfl⟩
   ·apply K0 (C99 l a t 1 hl)
    simp only[go_sem]
    intro _
    rw[Kat (by assumption) (by assumption) (by omega)]
    refine⟨fun x=>?_,fun x=>?_⟩
    ·rw[if_pos x]
     exact⟨rfl,rfl⟩
    ·rw[if_neg x]
     exact⟨rfl,rfl⟩
def K33(l:List GCapture)(x:GChoice):GResource:=if 0≤x.At∧x.At<l.length then(match l[x.At.toNat]? with
 |some c=>c.Resource
 |none=>⟨4,[],⟨0,0,0⟩⟩)else⟨4,[],⟨0,0,0⟩⟩
def M50:MC:=
(Zs [.box 3 0 (.s 1),.alloc 4 1 [pz,.emp 1,pz,pz,pz]] [0,3,4] (.seq (Zs [fS 5 3 1,lF 6 1 5,mS 7 0,nS 8 7,.call 9 [] (.f N1f) [.s 6,.s 8],.un 10 .not (.s 9)] [0,3,4,10] (.cond (.s 10) (Zs [.build 11 [pz,.emp 1,pz,pz,pz] [(0,1,.c (.int .i64 4))],sS 5 4 11] [4] .ret) .skip))
(Zs [mS 12 0,fS 13 3 1,lF 14 1 13,xS 15 9 12 14,fS 16 15 4,lT 17 5 16,.call 18 [2] (.f N1k) [.s 17],sS 5 4 18] [4] .ret)))
set_option maxHeartbeats 2000000 in
theorem Cby(l:List GCapture)(x:GChoice)(hs:l.length+(l.map GCapture.size).sum≤1073741824):Ctr Tryz.prog N5u [aL 9 (l.map GCapture.enc),aS x.enc] [rS (K33 l x).enc]:=by
 refine cA M50 3 19 [(.cell 4 true 5,[false,true,false,false,false])] Tryz.func218 rfl rfl ?_;unfold M50
 intro hb
 clear hb
 simp only[go_sem]
 apply K0 (Cb9 x.At l.length)
 simp only[go_sem]
 refine⟨fun h=>?_,fun h=>?_⟩
 ·unfold K33
  rw[if_neg h]
  exact⟨rfl,rfl,rfl,rfl,rfl⟩
 ·obtain⟨c,hc⟩:=K7 (l:=l) (k:=x.At.toNat) (by omega)
  have hsz:=K23 (f:=GCapture.size) (Km hc)
  have hbl:c.Resource.Body.length≤1073741824:=by simp only[GCapture.size,GResource.size]at hsz;omega
  have e:K33 l x=c.Resource:=by unfold K33;rw[if_pos h,hc]
  rw[e]
  have h0:=h.1
  have h1:=h.2
  simp only[go_sem,K1 hc,h0,h1]
  apply K0 (C2r c.Resource hbl)
  simp only[go_sem]
def M5l:MC:=
(Zs [.box 3 0 (.s 1),.alloc 4 1 [pz,.emp 1,pz,pz,pz]] [0,3,4] (.seq (Zs [fS 5 3 1,lF 6 1 5,mS 7 0,nS 8 7,bC 9 .sub 8 1,.call 10 [] (.f N0) [.s 6,.c (.int .i64 0),.s 9],.un 11 .not (.s 10)] [0,3,4,11] (.cond (.s 11) (Zs [.build 12 [pz,.emp 1,pz,pz,pz] [(0,1,.c (.int .i64 4))],sS 5 4 12] [4] .ret) .skip))
(Zs [mS 13 0,fS 14 3 1,lF 15 1 14,xS 16 9 13 15,fS 17 16 4,lT 18 5 17,.call 19 [2] (.f N4l) [.s 18],sS 5 4 19] [4] .ret)))
set_option maxHeartbeats 2000000 in
theorem Ccf(l:List GCapture)(x:GChoice)(hs:l.length+(l.map GCapture.size).sum≤1073741824):Ctr Tryz.prog N6d [aL 9 (l.map GCapture.enc),aS x.enc] [rS (K33 l x).enc]:=by
 refine cA M5l 3 20 [(.cell 4 true 5,[false,true,false,false,false])] Tryz.func201 rfl rfl ?_;unfold M5l
 intro hb
 clear hb
 simp only[go_sem]
 have e1:IntKind.i64.wrap ((l.length:Int)-1)=(l.length:Int)-1:=by rw[wI (by omega) (by omega)]
 rw[e1]
 apply K0 (C2 x.At 0 ((l.length:Int)-1))
 simp only[go_sem]
 refine⟨fun h=>?_,fun h=>?_⟩
 ·unfold K33
  rw[if_neg (by omega)]
  exact⟨rfl,rfl,rfl,rfl,rfl⟩
 ·obtain⟨c,hc⟩:=K7 (l:=l) (k:=x.At.toNat) (by omega)
  have hsz:=K23 (f:=GCapture.size) (Km hc)
  have hbl:c.Resource.Body.length≤1073741824:=by simp only[GCapture.size,GResource.size]at hsz;omega
  have e:K33 l x=c.Resource:=by unfold K33;rw[if_pos ⟨by omega,by omega⟩,hc]
  rw[e]
  have h0:=h.1
  have h1:x.At<(l.length:Int):=by omega
  simp only[go_sem,K1 hc,h0,h1]
  apply K0 (Caa c.Resource hbl)
  simp only[go_sem]
end Go.Proofs.YtjneccbpkckdfaaGreatR
namespace Go.Proofs.YtjneccbpkckdfaaGreatR
open Go Go.RowKit Go.Proofs
open Nat (reduceEqDiff reduceLT reduceLeDiff reduceAdd reduceMul)
open List (reduceReplicate)
def zeros(n:Nat):List Int:=List.replicate n 0
theorem zeros_snoc{k:Nat}:zeros (k+1)=zeros k++[0]:=by
 unfold zeros;rw[List.replicate_succ']
def st0:GState:=⟨0,zeros 4,zeros 3,zeros 4⟩
def M8n:MC:=
(Zs [.nilo 2 0 1] [0] (Zs [.lit 5 0 1 8 [],mS 3 5] [0,3] (.seq (Zs [.mv 4 (ci 0)] [0,3,4] (.block 0 (.loop ([0,3,4],[1]) (.seq (Zs [mS 6 4,mS 7 0,bS 8 .lss 6 7] [0,3,4,8] (cX 8 0))
(.seq (.block 1 (pr [mS 11 3,.lit 12 1 1 8 [.c (.int .i64 0)],.app 13 0 1 8 (.s 11) (.s 12),mS 3 13] [0,3,4]))
(pr [mS 9 4,bC 10 .add 9 1,mS 4 10] [0,3,4]))))))
(Zs [mS 14 3,mS 2 14] [2] .ret))))
theorem Ct(n:Nat)(hn:n≤4):Ctr Tryz.prog Nm [aI n] [rL 1 ((zeros n).map encI)]:=by
 refine cA M8n 2 15 [(.tmp 2,[true])] Tryz.func196 rfl rfl ?_;unfold M8n
 intro hb
 clear hb
 simp only[go_sem]
 refine Kl (fun k:Nat=>[(3,.val false [.ref 0 0 1 0 (zeros k).length]),(4,vI k)]) (fun k=>[(0,⟨0,.row true 1 ((zeros k).map encI)⟩)]) (fun k=>k≤n) (fun k=>n-k) 0 ?_
 simp only[go_sem]
 refine⟨?_,Nat.zero_le _,?_⟩
 ·simp only[go_sem]
  exact⟨rfl,rfl⟩
 ·intro k hk
  have hzl:(zeros k).length=k:=by simp[zeros]
  have hw1:IntKind.i64.wrap ((k:Int)+1)=((k+1:Nat):Int):=by rw[wI (by omega) (by omega)];omega
  simp only[go_sem,hw1]
  refine⟨fun hlt=>⟨by decide,?_⟩,fun hge=>?_⟩
  ·exact⟨by simp only[roomB];omega,k+1,⟨⟨by simp[zeros],rfl⟩,by rw[zeros_snoc];simp[encI]⟩,by omega,by omega⟩
  ·rw[show k=n by omega]
def M5m:MC:=
(Zs [.alloc 0 0 [pz,.emp 1,.emp 1,.emp 1]] [0] (Zs [.call 1 [1] (.f Nm) [.c (.int .i64 4)],.call 2 [2] (.f Nm) [.c (.int .i64 3)],.call 3 [3] (.f Nm) [.c (.int .i64 4)],.build 4 [pz,.emp 1,.emp 1,.emp 1] [(1,1,.s 1),(2,1,.s 2),(3,1,.s 3)],sS 4 0 4] [0] .ret))
theorem Ccg:Ctr Tryz.prog N6e [] [rS st0.enc]:=by
 refine cA M5m 4 5 [(.cell 0 true 4,[false,true,true,true])] Tryz.func193 rfl rfl ?_;unfold M5m
 intro hb
 clear hb
 simp only[go_sem]
 apply K0 (Ct 4 (by omega))
 simp only[go_sem]
 try intros
 apply K0 (Ct 3 (by omega))
 simp only[go_sem]
 try intros
 apply K0 (Ct 4 (by omega))
 simp only[go_sem]
 try intros
 exact⟨rfl,rfl,rfl,rfl⟩
def M51:MC:=
(Zs [.alloc 0 0 [pz,.emp 1,.emp 1,.emp 1]] [0] (.seq (.dreg [{o:= .mk 1 1 1 8 [.sc (.int .i64 0)] (ci 4),hs:=[2,3],ho:=[2,3],ws:=[1]},{o:= .mk 2 2 1 8 [.sc (.int .i64 0)] (ci 3),hs:=[1,3],ho:=[1,3],ws:=[2]},{o:= .mk 3 3 1 8 [.sc (.int .i64 0)] (ci 4),hs:=[1,2],ho:=[1,2],ws:=[3]},Ze [0,1,2] (.build 4 [pz,.emp 1,.emp 1,.emp 1] [(1,1,.s 1),(2,1,.s 2),(3,1,.s 3)]),{o:=sS 4 0 4,ws:=[0,1,2,3],bf:=(.range 4)}] [0])
.ret))
theorem Cbz:Ctr Tryz.prog N5v [] [rS st0.enc]:=by
 refine cA M51 4 5 [(.cell 0 true 4,[false,true,true,true])] Tryz.func211 rfl rfl ?_;unfold M51
 intro hb
 clear hb
 simp only[go_sem]
 exact⟨by simp only[roomB];omega,by simp only[roomB];omega,by simp only[roomB];omega,rfl,rfl,rfl,rfl,rfl,rfl,rfl⟩
def M6r:MC:=
(Zs [.box 1 0 (.s 0),.alloc 2 1 [pz,.emp 1,.emp 1,.emp 1]] [1,2] (.seq (.dreg [Zf [5,6,7,8,9,10,11,12,13] [2,3,4] (fS 3 1 0),Zg [5,6,7,8,9,10,11,12,13] [2,3,4] [0] (lF 4 1 3),Zc [3,4,8,9,11,12] (fS 5 1 1),Zd [3,4,8,9,11,12] [2] (lF 6 1 5),{o:= .call 7 [2] (.f Nj) [.s 6],hs:=[3,4,8,9,11,12],ws:=[2],bf:=[2,3]},Zf [3,4,5,6,7,11,12] [2] (fS 8 1 2),Zg [3,4,5,6,7,11,12] [2] [5] (lF 9 1 8),{o:= .call 10 [3] (.f Nj) [.s 9],hs:=[3,4,11,12],ws:=[3],bf:=[2,3,4,5,6]},Zf [3,4,5,6,7,8,9,10] [2,3] (fS 11 1 3),Zg [3,4,5,6,7,8,9,10] [2,3] [8] (lF 12 1 11),{o:= .call 13 [4] (.f Nj) [.s 12],hs:=[3,4],ws:=[4],bf:=[2,3,4,5,6,7,8,9]},Ze (.range 11) (.build 14 [pz,.emp 1,.emp 1,.emp 1] [(0,1,.s 4),(1,1,.s 7),(2,1,.s 10),(3,1,.s 13)]),{o:=sS 4 2 14,ws:=[1,2,3,4],bf:=(.range 12)}] [2])
.ret))
theorem Ccx(s:GState)(hs:s.size≤1073741824):Ctr Tryz.prog N7k [aS s.enc] [rS s.enc]:=by
 refine cA M6r 5 15 [(.cell 2 true 4,[false,true,true,true])] Tryz.func302 rfl rfl ?_;unfold M6r
 intro hb
 clear hb
 simp only[GState.size]at hs
 simp only[go_sem]
 apply K0 (C1a s.Regs (by omega))
 simp only[go_sem]
 try intros
 apply K0 (C1a s.Slots (by omega))
 simp only[go_sem]
 try intros
 apply K0 (C1a s.Nodes (by omega))
 simp only[go_sem]
 try intros
 try trivial
def M9k:MC:=
(Zs [.box 1 0 (.s 0),.alloc 2 1 [pz,.emp 1,.emp 1,.emp 1]] [1,2] (.seq (.dreg [Zf [5,6,7,8,9,10,11,12,13,14,15,16] [2,3,4] (fS 3 1 0),Zg [5,6,7,8,9,10,11,12,13,14,15,16] [2,3,4] [0] (lF 4 1 3),{o:= .lit 5 2 1 8 [],hs:=[3,4,6,7,9,10,11,13,14,15],ho:=[3,4],ws:=[2]},Zf [3,4,5,9,10,11,13,14,15] [2,3,4] (fS 6 1 1),Zg [3,4,5,9,10,11,13,14,15] [2,3,4] [3] (lF 7 1 6),{o:= .app 8 2 1 8 (.s 5) (.s 7),hs:=[3,4,9,10,11,13,14,15],ho:=[3,4],ws:=[2],bf:=[2,3,4]},{o:= .lit 9 3 1 8 [],hs:=[3,4,5,6,7,8,10,11,13,14,15],ho:=[2,4],ws:=[3]},Zf [3,4,5,6,7,8,9,13,14,15] [2,3,4] (fS 10 1 2),Zg [3,4,5,6,7,8,9,13,14,15] [2,3,4] [7] (lF 11 1 10),{o:= .app 12 3 1 8 (.s 9) (.s 11),hs:=[3,4,13,14,15],ho:=[4],ws:=[3],bf:=[2,3,4,5,6,7,8]},{o:= .lit 13 4 1 8 [],hs:=[3,4,5,6,7,8,9,10,11,12,14,15],ho:=[2,3],ws:=[4]},Zf [3,4,5,6,7,8,9,10,11,12,13] [2,3,4] (fS 14 1 3),Zg [3,4,5,6,7,8,9,10,11,12,13] [2,3,4] [11] (lF 15 1 14),{o:= .app 16 4 1 8 (.s 13) (.s 15),hs:=[3,4],ws:=[4],bf:=[2,3,4,5,6,7,8,9,10,11,12]},Ze (.range 14) (.build 17 [pz,.emp 1,.emp 1,.emp 1] [(0,1,.s 4),(1,1,.s 8),(2,1,.s 12),(3,1,.s 16)]),{o:=sS 4 2 17,ws:=[1,2,3,4],bf:=(.range 15)}] [2])
.ret))
theorem Ce0(s:GState)(hs:s.size≤1073741824):Ctr Tryz.prog N9y [aS s.enc] [rS s.enc]:=by
 refine cA M9k 5 18 [(.cell 2 true 4,[false,true,true,true])] Tryz.func290 rfl rfl ?_;unfold M9k
 intro hb
 clear hb
 simp only[GState.size]at hs
 simp only[go_sem,↓K30 (f:=encI) (fun _=>rfl) s.Regs,↓K30 (f:=encI) (fun _=>rfl) s.Slots,↓K30 (f:=encI) (fun _=>rfl) s.Nodes]
 simp only[roomB]
 omega
def stOk(s:GState):Bool:=decide (0≤s.Pc∧s.Pc≤19)&&(decide (s.Regs.length=4∧s.Slots.length=3∧s.Nodes.length=4)&&(K1e s.Regs 0 999&&(K1e s.Slots 0 999&&K1e s.Nodes 0 999)))
def Mal:MC:=
(Zs [.mv 4 cF] [0,1] (.seq (Zs [.mv 5 (ci 0)] [0,1,5] (.block 0 (.loop ([0,1,5],[]) (.seq (Zs [mS 6 5,mS 7 0,nS 8 7,bS 9 .lss 6 8] [0,1,5,9] (cX 9 0))
(.seq (.block 1 (Zs [mS 12 0,mS 13 5,xS 14 1 12 13,lF 15 1 14,.call 16 [] (.f N0) [.s 15,.c (.int .i64 0),.c (.int .i64 999)],.un 17 .not (.s 16)] [0,1,5,17] (.cond (.s 17) (Zs [.mv 4 cF] [4] .ret) .skip)))
(pr [mS 10 5,bC 11 .add 10 1,mS 5 11] [0,1,5]))))))
(Zs [mS 18 0,nS 19 18,mS 20 1,bS 21 .eql 19 20,mS 4 21] [4] .ret)))
theorem C4g(l:List Int)(n:Nat):Ctr Tryz.prog N28 [aL 1 (l.map encI),aI n] [rB (decide (l.length=n)&&K1e l 0 999)]:=by
 refine cA Mal 0 22 [(.tmp 4,[false])] Tryz.func323 rfl rfl ?_;unfold Mal
 intro hb
 simp only[bdA,bdL,bdT,Kh,K1n,roomB,and_true,List.length_map]at hb
 obtain⟨⟨hl,-⟩,-⟩:=hb
 simp only[go_sem]
 refine K4 l (fun k=>[(5,vI k)]) (fun k=>[]) (fun k=>((l.take k).all fun x=>decide (0≤x∧x≤999))=true) hl ?_
 simp only[go_sem]
 refine⟨?_,by simp,?_,?_⟩
 ·simp only[go_sem]
 ·intro k x hx h h0 h1 hw
  simp only[go_sem,K1 hx,h0,h1]
  refine K0 (C2 _ _ _) ?_
  simp only[go_sem,hw]
  refine⟨fun hn=>?_,fun hn=>K4r hx h (by simpa using hn)⟩
  rw[show K1e l 0 999=false from(K7e hx (by simpa using hn)).symm,Bool.and_false]
 ·intro h
  simp only[go_sem]
  rw[List.take_length]at h
  rw[show K1e l 0 999=true from h,Bool.and_true,Bool.eq_iff_iff]
  simp only[decide_eq_true_eq,beq_iff_eq]
  omega
def M9b:MC:=
(Zs [.box 1 0 (.s 0),.mv 2 cF] [1] (.seq (.reg [Za (fS 3 1 0),Za (lF 4 1 3),Za (.call 5 [] (.f N1) [.s 4,.c (.int .i64 0),.c (.int .i64 19)]),Za (mS 6 5),Zb 6 true (fS 7 1 1),Zb 6 true (lF 8 1 7),Zb 6 true (nS 9 8),Zb 6 true (bC 10 .eql 9 4),Za (.pick 11 (.s 6) (.s 10) cF),Za (mS 12 11),Zb 12 true (fS 13 1 2),Zb 12 true (lF 14 1 13),Zb 12 true (nS 15 14),Zb 12 true (bC 16 .eql 15 3),Za (.pick 17 (.s 12) (.s 16) cF),Za (mS 18 17),Zb 18 true (fS 19 1 3),Zb 18 true (lF 20 1 19),Zb 18 true (nS 21 20),Zb 18 true (bC 22 .eql 21 4),Za (.pick 23 (.s 18) (.s 22) cF),Za (mS 24 23),Zb 24 true (fS 25 1 1),Zb 24 true (lF 26 1 25),Zb 24 true (.call 27 [] (.f N1u) [.s 26,.c (.int .i64 0),.c (.int .i64 999)]),Za (.pick 28 (.s 24) (.s 27) cF),Za (mS 29 28),Zb 29 true (fS 30 1 2),Zb 29 true (lF 31 1 30),Zb 29 true (.call 32 [] (.f N1u) [.s 31,.c (.int .i64 0),.c (.int .i64 999)]),Za (.pick 33 (.s 29) (.s 32) cF),Za (mS 34 33),Zb 34 true (fS 35 1 3),Zb 34 true (lF 36 1 35),Zb 34 true (.call 37 [] (.f N1u) [.s 36,.c (.int .i64 0),.c (.int .i64 999)]),Za (.pick 38 (.s 34) (.s 37) cF),Za (mS 2 38)] [2])
.ret))
theorem Cdt(s:GState):Ctr Tryz.prog N9r [aS s.enc] [rB (stOk s)]:=by
 refine cA M9b 1 39 [(.tmp 2,[false])] Tryz.func355 rfl rfl ?_;unfold M9b
 intro hb
 clear hb
 simp only[go_sem]
 repeat' first
  |(refine And.intro ?_ ?_<;>intro h)
  |(apply K0 (C4 _ _ _);simp only[go_sem])
  |(apply K0 (C6i _ _ _);simp only[go_sem])
 all_goals (unfold stOk;by_cases c1:s.Regs.length=4<;>by_cases c2:s.Slots.length=3<;>by_cases c3:s.Nodes.length=4<;>simp_all<;>omega)
def M9j:MC:=
(Zs [.box 1 0 (.s 0),.mv 2 cF] [1] (.seq (.reg [Za (fS 3 1 0),Za (lF 4 1 3),Za (.call 5 [] (.f N0) [.s 4,.c (.int .i64 0),.c (.int .i64 19)]),Za (mS 6 5),Zb 6 true (fS 7 1 1),Zb 6 true (lF 8 1 7),Zb 6 true (.call 9 [] (.f N28) [.s 8,.c (.int .i64 4)]),Za (.pick 10 (.s 6) (.s 9) cF),Za (mS 11 10),Zb 11 true (fS 12 1 2),Zb 11 true (lF 13 1 12),Zb 11 true (.call 14 [] (.f N28) [.s 13,.c (.int .i64 3)]),Za (.pick 15 (.s 11) (.s 14) cF),Za (mS 16 15),Zb 16 true (fS 17 1 3),Zb 16 true (lF 18 1 17),Zb 16 true (.call 19 [] (.f N28) [.s 18,.c (.int .i64 4)]),Za (.pick 20 (.s 16) (.s 19) cF),Za (mS 2 20)] [2])
.ret))
theorem Cdz(s:GState):Ctr Tryz.prog N9x [aS s.enc] [rB (stOk s)]:=by
 refine cA M9j 1 21 [(.tmp 2,[false])] Tryz.func348 rfl rfl ?_;unfold M9j
 intro hb
 clear hb
 simp only[go_sem]
 repeat' first
  |(refine And.intro ?_ ?_<;>intro h)
  |(apply K0 (C2 _ _ _);simp only[go_sem])
  |(apply K0 (C4g s.Regs 4);simp only[go_sem])
  |(apply K0 (C4g s.Slots 3);simp only[go_sem])
  |(apply K0 (C4g s.Nodes 4);simp only[go_sem])
 all_goals (unfold stOk;by_cases c1:s.Regs.length=4<;>by_cases c2:s.Slots.length=3<;>by_cases c3:s.Nodes.length=4<;>simp_all<;>omega)
end Go.Proofs.YtjneccbpkckdfaaGreatR
namespace Go.Proofs.YtjneccbpkckdfaaGreatR
open Go Go.RowKit Go.Proofs
open Nat (reduceEqDiff reduceLT reduceLeDiff reduceAdd reduceMul)
open List (reduceReplicate)
def K2h(l:List GOp)(s:GState):Bool:=Kz l&&(stOk s&&decide (s.Pc<l.length))
def zAt(l:List Int)(i:Int):Int:=(l[i.toNat]?).getD 0
def opAt(l:List GOp)(i:Int):GOp:=(l[i.toNat]?).getD ⟨0,0,0,0⟩
theorem K29{l:List Int}{i:Nat}{x:Int}(h:l[i]? =some x):zAt l i=x:=by simp[zAt,h]
structure Doing (l:List GOp) (s:GState) (k:Nat) (o:GOp):Prop where
 pc:s.Pc=k
 op:l[k]? =some o
 at_:opAt l s.Pc=o
 ok:opOk o=true
 lt:k<l.length
 few:l.length≤16
 regs:s.Regs.length=4
 slots:s.Slots.length=3
 nodes:s.Nodes.length=4
 rin:∀(i:Nat) (x:Int),s.Regs[i]? =some x→0≤x∧x≤999
 sin:∀(i:Nat) (x:Int),s.Slots[i]? =some x→0≤x∧x≤999
 nin:∀(i:Nat) (x:Int),s.Nodes[i]? =some x→0≤x∧x≤999
theorem K3z{l:List Int}{a b:Int}(h:K1e l a b=true)(i:Nat)(x:Int)(hx:l[i]? =some x):a≤x∧x≤b:=by
 have:=List.all_eq_true.1 h x (Km hx)
 simpa using this
theorem K2r{l:List GOp}{s:GState}(h:K2h l s=true):∃k o,Doing l s k o:=by
 simp only[K2h,Kz,K27,stOk,Bool.and_eq_true,decide_eq_true_eq]at h
 obtain⟨⟨h1,h2⟩,⟨⟨h3,h4⟩,⟨h5,h6,h7⟩,h8,h9,h10⟩,h11⟩:=h
 obtain⟨k,hk⟩:=Int.eq_ofNat_of_zero_le h3
 obtain⟨o,ho⟩:=K7 (show k<l.length by omega)
 exact⟨k,o,hk,ho,by simp[opAt,hk,ho],List.all_eq_true.1 h2 o (Km ho),by omega,h1,h5,h6,h7,K3z h8,K3z h9,K3z h10⟩
theorem K11{o:GOp}(h:opOk o=true):∃i:Nat,i<4∧o.A=i∧(
  (o.Kind=5∧∃j m:Nat,j<4∧m<4∧o.B=j∧o.C=m)∨(o.Kind=6∧∃j:Nat,j<4∧o.B=j)∨(o.Kind=7∧1≤o.B∧o.B≤3)∨
  (o.Kind=8∧∃j:Nat,j<3∧o.B=j)∨(o.Kind=9∧∃j:Nat,j<3∧o.B=j)∨(1≤o.Kind∧o.Kind≤4)):=by
 simp only[opOk,decide_eq_true_eq]at h
 obtain⟨⟨h1,h2⟩,h⟩:=h
 refine⟨o.A.toNat,by omega,by omega,?_⟩
 rcases h with h|h|⟨h,h3,h4⟩|⟨h,h3,h4⟩|h|⟨h,h3,h4⟩
 ·omega
 ·omega
 ·exact .inl ⟨h,o.B.toNat,o.C.toNat,by omega,by omega,by omega,by omega⟩
 ·exact .inr (.inl ⟨h,o.B.toNat,by omega,by omega⟩)
 ·omega
 ·rcases h with h|h
  ·exact .inr (.inr (.inr (.inl ⟨h,o.B.toNat,by omega,by omega⟩)))
  ·exact .inr (.inr (.inr (.inr (.inl ⟨h,o.B.toNat,by omega,by omega⟩))))
def Y17(v0:Nat)(v1:Nat):MC:=
(Zs [.box 3 0 (.s 1),.mv 4 cF] [0,3] (.seq (.reg [Za (mS 5 0),Za (.call 6 [] (.f v0) [.s 5]),Za (mS 7 6),Zb 7 true (lT 8 4 3),Zb 7 true (.call 9 [] (.f v1) [.s 8]),Za (.pick 10 (.s 7) (.s 9) cF),Za (mS 11 10),Zb 11 true (fS 12 3 0),Zb 11 true (lF 13 1 12),Zb 11 true (mS 14 0),Zb 11 true (nS 15 14),Zb 11 true (bS 16 .lss 13 15),Za (.pick 17 (.s 11) (.s 16) cF),Za (mS 4 17)] [4])
.ret))
attribute [go_sem] Y17
def M9c:MC:=Y17 N2m N9r
theorem C94(l:List GOp)(s:GState):Ctr Tryz.prog N3j [aL 4 (l.map GOp.enc),aS s.enc] [rB (K2h l s)]:=by
 refine cA M9c 1 18 [(.tmp 4,[false])] Tryz.func297 rfl rfl ?_;unfold M9c
 intro hb
 clear hb
 simp only[go_sem]
 repeat' first
  |(refine And.intro ?_ ?_<;>intro h)
  |(apply K0 (C88 _);simp only[go_sem])
  |(apply K0 (Cdt s);simp only[go_sem])
 all_goals (unfold K2h;simp_all)
def Mam:MC:=Y17 N2p N9x
theorem Ca7(l:List GOp)(s:GState):Ctr Tryz.prog N4i [aL 4 (l.map GOp.enc),aS s.enc] [rB (K2h l s)]:=by
 refine cA Mam 1 18 [(.tmp 4,[false])] Tryz.func286 rfl rfl ?_;unfold Mam
 intro hb
 clear hb
 simp only[go_sem]
 repeat' first
  |(refine And.intro ?_ ?_<;>intro h)
  |(apply K0 (C8a _);simp only[go_sem])
  |(apply K0 (Cdz s);simp only[go_sem])
 all_goals (unfold K2h;simp_all)
def K1q(l:List GOp)(s:GState):GWant:=if K2h l s=true∧asks (opAt l s.Pc).Kind=true then⟨(opAt l s.Pc).Kind,if (opAt l s.Pc).Kind=1 then⟨(opAt l s.Pc).B,(opAt l s.Pc).C,(zAt s.Regs (opAt l s.Pc).A).tmod 100⟩else⟨0,0,0⟩⟩else⟨0,⟨0,0,0⟩⟩
theorem c100:¬(100:Int)=0:=by decide
theorem c1000:¬(1000:Int)=0:=by decide
def Y18(v0:Nat)(v1:Nat):MC:=
(Zs [.box 3 0 (.s 1),.alloc 4 1 [pz,pz,pz,pz]] [0,3,4] (.seq (.seq (.reg [Za (mS 7 0),Za (lT 8 4 3),Za (.call 9 [] (.f v0) [.s 7,.s 8]),Za (.un 10 .not (.s 9)),Za (mS 11 10),Zb 11 false (mS 12 0),Zb 11 false (fS 13 3 0),Zb 11 false (lF 14 1 13),Zb 11 false (xS 15 4 12 14),Zb 11 false (fS 16 15 0),Zb 11 false (lF 17 1 16),Zb 11 false (.call 18 [] (.f v1) [.s 17]),Zb 11 false (.un 19 .not (.s 18)),Za (.pick 20 (.s 11) cT (.s 19))] [0,3,4,20])
(.cond (.s 20) (Zs [.build 21 [pz,pz,pz,pz] [],sS 4 4 21] [4] .ret) .skip))
(Zs [mS 22 0,fS 23 3 0,lF 24 1 23,xS 25 4 22 24,lT 26 4 25,.alloc 5 2 [pz,pz,pz,pz],sS 4 5 26] [3,4,5] (Zs [fS 27 5 0,lF 28 1 27,.build 29 [pz,pz,pz,pz] [(0,1,.s 28)],.alloc 6 3 [pz,pz,pz,pz],sS 4 6 29] [3,4,5,6] (.seq (Zs [fS 30 5 0,lF 31 1 30,bC 32 .eql 31 1] [3,4,5,6,32] (.cond (.s 32) (.dreg [Zc [35,36,37,38,39,40,41,42,43] (fS 33 5 2),Zd [35,36,37,38,39,40,41,42,43] [0] (lF 34 1 33),Zc [33,34,37,38,39,40,41,42,43] (fS 35 5 3),Zd [33,34,37,38,39,40,41,42,43] [2] (lF 36 1 35),Zc [33,34,35,36,39,40] (fS 37 3 1),Zd [33,34,35,36,39,40] [4] (lF 38 1 37),Zc [33,34,35,36,37,38] (fS 39 5 1),Zd [33,34,35,36,37,38] [6] (lF 40 1 39),Zd [33,34,35,36] [4,5,6,7] (xS 41 1 38 40),Zd [33,34,35,36] [4,5,6,7,8] (lF 42 1 41),Zd [33,34,35,36] [4,5,6,7,8,9] (bC 43 .rem 42 100),Ze (.range 11) (.build 44 [pz,pz,pz] [(0,1,.s 34),(1,1,.s 36),(2,1,.s 43)]),Ze (.range 12) (fS 45 6 1),{o:=sS 3 45 44,ws:=[3],bf:=(.range 13)}] [4,6]) .skip))
(Zs [lT 46 4 6,sS 4 4 46] [4] .ret))))))
attribute [go_sem] Y18
def Mac:MC:=Y18 N3j Ncn
theorem Ce8(l:List GOp)(s:GState):Ctr Tryz.prog Nar [aL 4 (l.map GOp.enc),aS s.enc] [rS (K1q l s).enc]:=by
 refine cA Mac 4 47 [(.cell 4 true 4,[false,false,false,false])] Tryz.func215 rfl rfl ?_;unfold Mac
 intro hb
 clear hb
 simp only[go_sem]
 apply K0 (C94 l s)
 simp only[go_sem]
 refine And.intro ?_ ?_<;>intro h
 ·rw[K1q,if_neg (by simp[h])]
  try exact⟨rfl,rfl,rfl,rfl⟩
 ·obtain⟨k,o,D⟩:=K2r h
  obtain⟨i,hi,hA,-⟩:=K11 D.ok
  have hrl:=D.regs
  obtain⟨r,hr⟩:=K7 (show i<s.Regs.length by omega)
  have hp0:(0:Int)≤(k:Int):=by omega
  have hp1:(k:Int)<l.length:=by have:=D.lt;omega
  have hi0:(0:Int)≤(i:Int):=by omega
  have hi1:(i:Int)<s.Regs.length:=by omega
  have hz:zAt s.Regs o.A=r:=by rw[hA];exact K29 hr
  have hW:K1q l s=if asks o.Kind=true then⟨o.Kind,if o.Kind=1 then⟨o.B,o.C,r.tmod 100⟩else⟨0,0,0⟩⟩else⟨0,⟨0,0,0⟩⟩:=by
   simp only[K1q,h,D.at_,hz,true_and]
  rw[hW]
  simp only[go_sem,D.pc,K1 D.op,hp0,hp1]
  apply K0 (Cei o.Kind)
  simp only[go_sem,K1 D.op,hp0,hp1]
  refine And.intro ?_ ?_<;>intro h2
  ·rw[if_neg (by simp[h2])]
   try exact⟨rfl,rfl,rfl,rfl⟩
  ·rw[if_pos h2]
   refine And.intro ?_ ?_<;>intro h3
   ·simp only[go_sem,hA,K1 hr,hi0,hi1,h3,c100]
   ·rw[if_neg h3]
    try exact⟨rfl,rfl,rfl,rfl⟩
def Mak:MC:=Y18 N4i Ncr
theorem Ced(l:List GOp)(s:GState):Ctr Tryz.prog Nax [aL 4 (l.map GOp.enc),aS s.enc] [rS (K1q l s).enc]:=by
 refine cA Mak 4 47 [(.cell 4 true 4,[false,false,false,false])] Tryz.func198 rfl rfl ?_;unfold Mak
 intro hb
 clear hb
 simp only[go_sem]
 apply K0 (Ca7 l s)
 simp only[go_sem]
 refine And.intro ?_ ?_<;>intro h
 ·rw[K1q,if_neg (by simp[h])]
  try exact⟨rfl,rfl,rfl,rfl⟩
 ·obtain⟨k,o,D⟩:=K2r h
  obtain⟨i,hi,hA,-⟩:=K11 D.ok
  have hrl:=D.regs
  obtain⟨r,hr⟩:=K7 (show i<s.Regs.length by omega)
  have hp0:(0:Int)≤(k:Int):=by omega
  have hp1:(k:Int)<l.length:=by have:=D.lt;omega
  have hi0:(0:Int)≤(i:Int):=by omega
  have hi1:(i:Int)<s.Regs.length:=by omega
  have hz:zAt s.Regs o.A=r:=by rw[hA];exact K29 hr
  have hW:K1q l s=if asks o.Kind=true then⟨o.Kind,if o.Kind=1 then⟨o.B,o.C,r.tmod 100⟩else⟨0,0,0⟩⟩else⟨0,⟨0,0,0⟩⟩:=by
   simp only[K1q,h,D.at_,hz,true_and]
  rw[hW]
  simp only[go_sem,D.pc,K1 D.op,hp0,hp1]
  apply K0 (Cem o.Kind)
  simp only[go_sem,K1 D.op,hp0,hp1]
  refine And.intro ?_ ?_<;>intro h2
  ·rw[if_neg (by simp[h2])]
   try exact⟨rfl,rfl,rfl,rfl⟩
  ·rw[if_pos h2]
   refine And.intro ?_ ?_<;>intro h3
   ·simp only[go_sem,hA,K1 hr,hi0,hi1,h3,c100]
   ·rw[if_neg h3]
    try exact⟨rfl,rfl,rfl,rfl⟩
end Go.Proofs.YtjneccbpkckdfaaGreatR
namespace Go.Proofs.YtjneccbpkckdfaaGreatR
open Go Go.RowKit Go.Proofs
open Nat (reduceEqDiff reduceLT reduceLeDiff reduceAdd reduceMul)
open List (reduceReplicate)
def bitsN(n k:Nat):List Nat:=(List.range k).filter fun i=>n.testBit i
theorem K6k{n k z:Nat}:z∈bitsN n k↔z<k∧n.testBit z=true:=by simp[bitsN]
theorem K6l{n k:Nat}(h:n.testBit k=true):bitsN n (k+1)=bitsN n k++[k]:=by simp[bitsN,List.range_succ,List.filter_append,h]
theorem K7u{n k:Nat}(h:n.testBit k=false):bitsN n (k+1)=bitsN n k:=by simp[bitsN,List.range_succ,List.filter_append,h]
theorem K6j(n k:Nat):(bitsN n k).length≤k:=by
 have:=List.length_filter_le (fun i=>n.testBit i) (List.range k)
 rw[List.length_range]at this
 exact this
def K1x(x:List Nat)(o z:Nat):Nat:=if z∈x then o else o+2^z
theorem K6z(x n:Nat):x%2^(n+1)=x%2^n+2^n*(x.testBit n).toNat:=by
 rw[Nat.mod_pow_succ,Nat.testBit_eq_decide_div_mod_eq]
 congr 2
 rcases Nat.mod_two_eq_zero_or_one (x/2^n)with h|h<;>rw[h]<;>rfl
theorem or_bits{a b:Nat}(ha:a<2^20)(hb:b<2^20):∀n,n≤20→(bitsN b n).foldl (K1x (bitsN a 20)) a+a%2^n=a+(a|||b)%2^n
 |0,_=>by simp[bitsN,Nat.mod_one]
 |n+1,hn=>by
  have ih:=or_bits ha hb n (by omega)
  rw[K6z,K6z,Nat.testBit_or]
  cases hbn:b.testBit n with
  |false=>
   rw[K7u hbn,Bool.or_false]
   omega
  |true=>
   rw[K6l hbn,List.foldl_append]
   simp only[List.foldl_cons,List.foldl_nil,Bool.or_true]
   generalize (bitsN b n).foldl (K1x (bitsN a 20)) a=o at*
   cases han:a.testBit n with
   |true=>
    have hm:n∈bitsN a 20:=K6k.2 ⟨by omega,han⟩
    rw[K1x,if_pos hm]
    omega
   |false=>
    have hm:¬n∈bitsN a 20:=fun h=>by have:=(K6k.1 h).2;rw[han]at this;cases this
    rw[K1x,if_neg hm]
    simp only[Bool.toNat_true,Bool.toNat_false]
    omega
theorem or_fold{a b:Nat}(ha:a<2^20)(hb:b<2^20):(bitsN b 20).foldl (K1x (bitsN a 20)) a=a|||b:=by
 have h:=or_bits ha hb 20 (Nat.le_refl _)
 rw[Nat.mod_eq_of_lt ha,Nat.mod_eq_of_lt (Nat.or_lt_two_pow ha hb)]at h
 omega
def joinL(a b:Int):Int:=if (0≤a∧a≤1048575)∧0≤b∧b≤1048575 then((a.toNat|||b.toNat:Nat):Int)else 0
def Mao:MC:=
(Zs [.mv 2 (ci 0)] [0] (Zs [.mv 3 (ci 1)] [0,3] (.seq (Zs [.mv 4 (ci 0)] [0,3,4] (.block 0 (.loop ([0,3,4],[]) (.seq (Zs [mS 5 4,mS 6 0,bS 7 .lss 5 6] [0,3,4,7] (cX 7 0))
(.seq (.block 1 (pr [mS 10 3,.bin 11 false .mul (ci 2) (.s 10),mS 3 11] [0,3,4]))
(pr [mS 8 4,bC 9 .add 8 1,mS 4 9] [0,3,4]))))))
(Zs [mS 12 3,mS 2 12] [2] .ret))))
theorem Ca9(i:Nat)(hi:i≤20):Ctr Tryz.prog N4k [aI i] [rI ((2^i:Nat):Int)]:=by
 refine cA Mao 0 13 [(.tmp 2,[false])] Tryz.func202 rfl rfl ?_;unfold Mao
 intro hb
 clear hb
 simp only[go_sem]
 refine Kl (fun n:Nat=>[(3,.val false [.pl (.sc (.int .i64 ((2^n:Nat):Int)))]),(4,vI n)]) (fun n=>[]) (fun n=>n≤i) (fun n=>i-n) 0 ?_
 simp only[go_sem]
 refine⟨?_,Nat.zero_le _,?_⟩
 ·simp only[go_sem]
  try rfl
 ·intro n hn
  simp only[go_sem]
  have hp:2^n≤2^20:=Nat.pow_le_pow_right (by omega) (by omega)
  have e20:2^20=1048576:=rfl
  have hs:2^(n+1)=2^n*2:=Nat.pow_succ ..
  refine⟨fun h=>⟨n+1,⟨?_,?_⟩,by omega,by omega⟩,fun h=>?_⟩
  ·rw[wI (by omega) (by omega),hs]
   omega
  ·rw[wI (by omega) (by omega)]
   omega
  ·rw[show n=i by omega]
def natI(l:List Nat):List Int:=List.map (fun (n:Nat)=>(n:Int)) l
theorem K9{l:List Nat}:(natI l).length=l.length:=by simp[natI]
theorem natI_snoc{l:List Nat}{n:Nat}:natI (l++[n])=natI l++[(n:Int)]:=by simp[natI]
def M5f:MC:=
(Zs [.nilo 2 0 1] [0] (Zs [.lit 5 0 1 8 [],mS 3 5] [0,3] (.seq (Zs [mS 6 0,.call 7 [] (.f N0) [.s 6,.c (.int .i64 0),.c (.int .i64 1048575)],.un 8 .not (.s 7)] [0,3,8] (.cond (.s 8) (Zs [mS 9 3,mS 2 9] [2] .ret) .skip))
(.seq (Zs [.mv 4 (ci 0)] [0,3,4] (.block 0 (.loop ([0,3,4],[1]) (.seq (Zs [mS 10 4,bC 11 .lss 10 20] [0,3,4,11] (cX 11 0))
(.seq (.block 1 (.seq (Zs [mS 14 0,bC 15 .rem 14 2,bC 16 .eql 15 1] [0,3,4,16] (.cond (.s 16) (pr [mS 17 3,mS 18 4,.lit 19 1 1 8 [.s 18],.app 20 0 1 8 (.s 17) (.s 19),mS 3 20] [0,3,4]) .skip))
(pr [mS 21 0,bC 22 .quo 21 2,mS 0 22] [0,3,4])))
(pr [mS 12 4,bC 13 .add 12 1,mS 4 13] [0,3,4]))))))
(Zs [mS 23 3,mS 2 23] [2] .ret)))))
set_option maxHeartbeats 2000000 in
theorem C4q(n:Nat)(hn:n<2^20):Ctr Tryz.prog N1y [aI n] [rL 1 ((natI (bitsN n 20)).map encI)]:=by
 refine cA M5f 2 24 [(.tmp 2,[true])] Tryz.func351 rfl rfl ?_;unfold M5f
 intro hb
 clear hb
 have e20:2^20=1048576:=rfl
 simp only[go_sem]
 apply K0 (C2 n 0 1048575)
 simp only[go_sem]
 refine⟨fun h=>?_,fun h=>?_⟩
 ·omega
 ·refine Kl (fun k:Nat=>[(0,.val false [.pl (.sc (.int .i64 ((n/2^k:Nat):Int)))]),(3,.val false [.ref 0 0 1 0 (bitsN n k).length]),(4,vI k)]) (fun k=>[(0,⟨0,.row true 1 ((natI (bitsN n k)).map encI)⟩)]) (fun k=>k≤20) (fun k=>20-k) 0 ?_
  simp only[go_sem]
  refine⟨?_,Nat.zero_le _,?_⟩
  ·simp only[go_sem]
   simp[bitsN,natI]
  ·intro k hk
   have hl:=K6j n k
   have ht:¬(2:Int)=0:=by omega
   have h1:n/2^(k+1)=n/2^k/2:=by rw[Nat.pow_succ,Nat.div_div_eq_div_mul]
   have h2:n/2^k≤n:=Nat.div_le_self _ _
   have hbit:=Nat.testBit_eq_decide_div_mod_eq (x:=n) (i:=k)
   obtain⟨q,hq⟩:∃q,q=n/2^k:=⟨_,rfl⟩
   rw[←hq]at h1 h2 hbit
   have hd:IntKind.i64.wrap ((q:Int).tdiv 2)=((n/2^(k+1):Nat):Int):=by
    rw[Int.tdiv_eq_ediv_of_nonneg (by omega),h1,wI (by omega) (by omega)]
    omega
   have htm:(q:Int).tmod 2=((q%2:Nat):Int):=by
    rw[Int.tmod_eq_emod_of_nonneg (by omega)]
    omega
   rw[←hq]
   have hw:k<20→IntKind.i64.wrap ((k:Int)+1)=((k+1:Nat):Int):=fun h=>by rw[wI (by omega) (by omega)];omega
   simp only[go_sem,ht,K9,htm,hd]
   refine⟨fun hlt=>⟨fun hb=>?_,fun hb=>?_⟩,fun hge=>?_⟩
   ·have hbt:n.testBit k=true:=by rw[hbit,decide_eq_true (by omega)]
    refine⟨by simp only[roomB];omega,by simp only[roomB];omega,k+1,⟨⟨rfl,by rw[K6l hbt];simp,hw (by omega)⟩,?_⟩,by omega,by omega⟩
    rw[K6l hbt,natI_snoc,List.map_append]
    rfl
   ·have hbt:n.testBit k=false:=by rw[hbit,decide_eq_false (by omega)]
    exact⟨k+1,⟨⟨rfl,by rw[K7u hbt],hw (by omega)⟩,by rw[K7u hbt]⟩,by omega,by omega⟩
   ·rw[show k=20 by omega]
theorem natI_at{l:List Nat}{k z:Nat}(h:l[k]? =some z):(natI l)[k]? =some (z:Int):=by simp[natI,h]
theorem K8g{α β:Type}{f:β→α→β}{l:List α}{k:Nat}{x:α}{b:β}(h:l[k]? =some x):(l.take (k+1)).foldl f b=f ((l.take k).foldl f b) x:=by
 rw[Kk h,List.foldl_append];rfl
theorem K9k{x:List Nat}:∀ {l:List Nat} {o:Nat},(∀z∈l,z<20)→l.foldl (K1x x) o≤o+l.length*1048576
 | [],o,_=>by simp
 |z::l,o,h=>by
  have hz:=h z (by simp)
  have hp:2^z≤2^20:=Nat.pow_le_pow_right (by omega) (by omega)
  have e20:2^20=1048576:=rfl
  have ih:=K9k (x:=x) (l:=l) (o:=K1x x o z) fun y hy=>h y (by simp[hy])
  have h1:K1x x o z≤o+1048576:=by unfold K1x;split<;>omega
  simp only[List.foldl_cons,List.length_cons]
  omega
def M77:MC:=
(Zs [.mv 4 (ci 0)] [0,1] (.seq (.seq (.reg [Za (mS 11 0),Za (.call 12 [] (.f N0) [.s 11,.c (.int .i64 0),.c (.int .i64 1048575)]),Za (.un 13 .not (.s 12)),Za (mS 14 13),Zb 14 false (mS 15 1),Zb 14 false (.call 16 [] (.f N0) [.s 15,.c (.int .i64 0),.c (.int .i64 1048575)]),Zb 14 false (.un 17 .not (.s 16)),Za (.pick 18 (.s 14) cT (.s 17))] [0,1,18])
(.cond (.s 18) (Zs [.mv 4 (ci 0)] [4] .ret) .skip))
(Zs [mS 19 0,.call 20 [0] (.f N1y) [.s 19],mS 5 20] [0,1,5] (Zs [mS 21 1,.call 22 [1] (.f N1y) [.s 21],mS 6 22] [0,5,6] (Zs [mS 23 0,mS 7 23] [5,6,7] (.seq (Zs [.mv 8 (ci 0)] [5,6,7,8] (.block 0 (.loop ([5,6,7,8],[]) (.seq (Zs [mS 24 8,mS 25 6,nS 26 25,bS 27 .lss 24 26] [5,6,7,8,27] (cX 27 0))
(.seq (.block 1 (Zs [.mv 9 cF] [5,6,7,8,9] (.seq (Zs [.mv 10 (ci 0)] [5,6,7,8,9,10] (.block 2 (.loop ([5,6,7,8,9,10],[]) (.seq (Zs [mS 30 10,mS 31 5,nS 32 31,bS 33 .lss 30 32] [5,6,7,8,9,10,33] (cX 33 2))
(.seq (.block 3 (.dreg [Za (mS 36 9),Ze [0] (mS 37 36),{o:=mS 38 5,g:=some (37,false),hs:=[39,42,43,44,45],bf:=[0,1]},{o:=mS 39 10,g:=some (37,false),hs:=[38,42,43,44,45],bf:=[0,1]},{o:=xS 40 1 38 39,g:=some (37,false),hs:=[42,43,44,45],bf:=(.range 4)},{o:=lF 41 1 40,g:=some (37,false),hs:=[42,43,44,45],bf:=(.range 5)},{o:=mS 42 6,g:=some (37,false),hs:=[38,39,40,41,43],bf:=[0,1]},{o:=mS 43 8,g:=some (37,false),hs:=[38,39,40,41,42],bf:=[0,1]},{o:=xS 44 1 42 43,g:=some (37,false),hs:=[38,39,40,41],bf:=[0,1,6,7]},{o:=lF 45 1 44,g:=some (37,false),hs:=[38,39,40,41],bf:=[0,1,6,7,8]},{o:=bS 46 .eql 41 45,g:=some (37,false),bf:=(.range 10)},Ze (.range 11) (.pick 47 (.s 37) cT (.s 46)),Ze (.range 12) (mS 9 47)] [5,6,7,8,9,10]))
(pr [mS 34 10,bC 35 .add 34 1,mS 10 35] [5,6,7,8,9,10]))))))
(Zs [mS 48 9,.un 49 .not (.s 48)] [5,6,7,8,49] (.cond (.s 49) (pr [mS 50 7,mS 51 6,mS 52 8,xS 53 1 51 52,lF 54 1 53,.call 55 [] (.f N4k) [.s 54],bS 56 .add 50 55,mS 7 56] [5,6,7,8]) .skip)))))
(pr [mS 28 8,bC 29 .add 28 1,mS 8 29] [5,6,7,8]))))))
(Zs [mS 57 7,mS 4 57] [4] .ret)))))))
set_option maxHeartbeats 2000000 in
theorem Cd9(a b:Int):Ctr Tryz.prog N3 [aI a,aI b] [rI (joinL a b)]:=by
 refine cA M77 2 58 [(.tmp 4,[false])] Tryz.func289 rfl rfl ?_;unfold M77
 intro hb
 clear hb
 simp only[go_sem]
 apply K0 (C2 a 0 1048575)
 simp only[go_sem]
 refine⟨fun h=>?_,fun h1=>?_⟩
 ·unfold joinL
  rw[if_neg (by omega)]
 ·apply K0 (C2 b 0 1048575)
  simp only[go_sem]
  refine⟨fun h=>?_,fun h2=>?_⟩
  ·unfold joinL
   rw[if_neg (by omega)]
  ·have hj:joinL a b=((a.toNat|||b.toNat:Nat):Int):=by unfold joinL;rw[if_pos ⟨h1,h2⟩]
   rw[hj]
   obtain⟨n,rfl⟩:∃n:Nat,a=n:=⟨a.toNat,by omega⟩
   obtain⟨m,rfl⟩:∃m:Nat,b=m:=⟨b.toNat,by omega⟩
   have e20:2^20=1048576:=rfl
   have hn:n<2^20:=by omega
   have hm:m<2^20:=by omega
   rw[Int.toNat_natCast,Int.toNat_natCast,←or_fold hn hm]
   apply K0 (C4q n hn)
   simp only[go_sem,K9]
   intros
   apply K0 (C4q m hm)
   simp only[go_sem,K9]
   intros
   have hxl:=K6j n 20
   have hyl:=K6j m 20
   have hy20:∀z∈bitsN m 20,z<20:=fun z hz=>(K6k.1 hz).1
   generalize bitsN n 20=x at*
   generalize bitsN m 20=y at*
   refine K4 y (fun k=>[(7,.val false [.pl (.sc (.int .i64 (((y.take k).foldl (K1x x) n:Nat):Int)))]),(8,vI k)]) (fun k=>[]) (fun _=>True) (by simp only[roomB];omega) ?_
   simp only[go_sem]
   refine⟨?_,trivial,?_,?_⟩
   ·simp only[go_sem,List.take_zero]
    try rfl
   ·intro k z hz _ h0 h1 hw
    have hk:=Ka hz
    have hz2:=natI_at hz
    have hz20:=hy20 z (Km hz)
    have hfl:=K9k (x:=x) (l:=y.take k) (o:=n) fun w hw=>hy20 w (List.mem_of_mem_take hw)
    have hkl:(y.take k).length≤20:=by rw[List.length_take];omega
    rw[K8g hz]
    generalize (y.take k).foldl (K1x x) n=o at*
    simp only[go_sem,h1,K9]
    refine K4 x (fun j=>[(9,.val false [.pl (.sc (.bool (decide (z∈x.take j))))]),(10,vI j)]) (fun j=>[]) (fun _=>True) (by simp only[roomB];omega) ?_
    simp only[go_sem]
    refine⟨?_,trivial,?_,?_⟩
    ·simp only[go_sem,List.take_zero]
     try simp
    ·intro j v hv _ g0 g1 gw
     have hv2:=natI_at hv
     have hd:decide (z∈x.take (j+1))=(decide (z∈x.take j)||decide (v=z)):=by
      rw[Kk hv,Bool.eq_iff_iff]
      simp only[List.mem_append,List.mem_singleton,Bool.or_eq_true,decide_eq_true_eq]
      constructor
      ·rintro (h|rfl)
       ·exact .inl h
       ·exact .inr rfl
      ·rintro (h|rfl)
       ·exact .inl h
       ·exact .inr rfl
     rw[hd]
     simp only[go_sem,K1 hz2,K1 hv2,h0,h1,g0,g1,gw,K9]
     refine⟨fun h=>by simp[h],fun h=>?_⟩
     rw[Bool.eq_iff_iff]
     simp only[h,decide_false,Bool.false_or,beq_iff_eq,decide_eq_true_eq]
     omega
    ·intro _
     simp only[go_sem,List.take_length,h0,h1,hw,K9,K1 hz2]
     refine⟨fun h=>?_,fun h=>?_⟩
     ·have e:K1x x o z=o+2^z:=by unfold K1x;rw[if_neg h]
      have hp:2^z≤2^20:=Nat.pow_le_pow_right (by omega) (by omega)
      rw[e]
      apply K0 (Ca9 z (by omega))
      simp only[go_sem,hw]
      intro _
      generalize 2^z=p at*
      rw[wI (by omega) (by omega)]
      omega
     ·have e:K1x x o z=o:=by unfold K1x;rw[if_pos h]
      rw[e]
   ·intro _
    simp only[go_sem,List.take_length,K9]
end Go.Proofs.YtjneccbpkckdfaaGreatR
namespace Go.Proofs.YtjneccbpkckdfaaGreatR
open Go Go.RowKit Go.Proofs
open Nat (reduceEqDiff reduceLT reduceLeDiff reduceAdd reduceMul)
open List (reduceReplicate)
set_option maxRecDepth 100000
set_option maxHeartbeats 2000000
theorem tgt_skip(A B C:Int)(b:Nat)(W:World):Calls Tryz.prog 301 #[.pointer (some ⟨b,0,none⟩),.agg #[.int .i64 7,.int .i64 A,.int .i64 B,.int .i64 C]] W fun e w'=>e= .returned (.pointer none)∧Below W.heap.size W w':=by
 have mixed:Tryz.prog.follows .mixedOrders=true:=by kernel_rfl
 go_enter Tryz.func301,Tryz.ntmps301
 go_wp2
 go_ret
 exact⟨rfl,(Below.refl _ _).alloc (Nat.le_refl _) _⟩
theorem tgt_put(A C:Int)(B:Nat)(hB:B<4)(b:Nat)(W:World):Calls Tryz.prog 301 #[.pointer (some ⟨b,0,none⟩),.agg #[.int .i64 6,.int .i64 A,.int .i64 B,.int .i64 C]] W fun e w'=>e= .returned (.pointer (some ⟨b,7+B,none⟩))∧Below W.heap.size W w':=by
 have mixed:Tryz.prog.follows .mixedOrders=true:=by kernel_rfl
 have h0:(0:Int)≤(B:Int):=by omega
 have h1:(B:Int)<4:=by omega
 go_enter Tryz.func301,Tryz.ntmps301
 go_wp2
 go_region_o
 go_wp2
 go_ret
 obtain⟨k1,k2,k3,k4,k5⟩:=(Below.refl W.heap.size W).alloc (Nat.le_refl _) (Obj.cells #[.int .i64 6,.int .i64 A,.int .i64 B,.int .i64 C] 203)
 exact⟨rfl,k1,k2,k3,k4,k5⟩
theorem tgt_keep(A C:Int)(B:Nat)(hB:B<3)(b:Nat)(W:World):Calls Tryz.prog 301 #[.pointer (some ⟨b,0,none⟩),.agg #[.int .i64 9,.int .i64 A,.int .i64 B,.int .i64 C]] W fun e w'=>e= .returned (.pointer (some ⟨b,4+B,none⟩))∧Below W.heap.size W w':=by
 have mixed:Tryz.prog.follows .mixedOrders=true:=by kernel_rfl
 have h0:(0:Int)≤(B:Int):=by omega
 have h1:(B:Int)<3:=by omega
 go_enter Tryz.func301,Tryz.ntmps301
 go_wp2
 go_region_o
 go_wp2
 go_ret
 obtain⟨k1,k2,k3,k4,k5⟩:=(Below.refl W.heap.size W).alloc (Nat.le_refl _) (Obj.cells #[.int .i64 9,.int .i64 A,.int .i64 B,.int .i64 C] 203)
 exact⟨rfl,k1,k2,k3,k4,k5⟩
theorem K9f(K B C:Int)(A:Nat)(hA:A<4)(h7:¬K=7)(h6:¬K=6)(h9:¬K=9)(b:Nat)(W:World):Calls Tryz.prog 301 #[.pointer (some ⟨b,0,none⟩),.agg #[.int .i64 K,.int .i64 A,.int .i64 B,.int .i64 C]] W fun e w'=>e= .returned (.pointer (some ⟨b,A,none⟩))∧Below W.heap.size W w':=by
 have mixed:Tryz.prog.follows .mixedOrders=true:=by kernel_rfl
 have h0:(0:Int)≤(A:Int):=by omega
 have h1:(A:Int)<4:=by omega
 go_enter Tryz.func301,Tryz.ntmps301
 go_wp2
 all_goals try (exfalso;simp_all;done)
 go_region_o
 go_wp2
 go_ret
 obtain⟨k1,k2,k3,k4,k5⟩:=(Below.refl W.heap.size W).alloc (Nat.le_refl _) (Obj.cells #[.int .i64 K,.int .i64 A,.int .i64 B,.int .i64 C] 203)
 exact⟨rfl,k1,k2,k3,k4,k5⟩
def tgt(o:GOp):Option Nat:=if o.Kind=7 then none else if o.Kind=6 then some (7+o.B.toNat)else if o.Kind=9 then some (4+o.B.toNat)else some o.A.toNat
theorem Caz(o:GOp)(ho:opOk o=true):CtrP Tryz.prog N18 [aS o.enc] (tgt o):=by
 refine⟨⟨Tryz.f301,Tryz.func301,by kernel_rfl,by kernel_rfl⟩,fun w X b vs ht h=>?_⟩
 obtain⟨v,rfl⟩:∃v,vs=[v]:=by
  match vs,h with
  | [v],_=>exact⟨v,rfl⟩
  | [],h=>exact h.elim
  |_::_::_,h=>exact h.2.elim
 have h1:=h.1
 simp only[ArgR,if_true]at h1
 obtain⟨us,rfl,hr⟩:=h1
 obtain rfl:us=[.int .i64 o.Kind,.int .i64 o.A,.int .i64 o.B,.int .i64 o.C]:=by
  match us,hr with
  | [v1,v2,v3,v4],⟨⟨e1,_⟩,⟨e2,_⟩,⟨e3,_⟩,⟨e4,_⟩,_⟩=>rw[e1,e2,e3,e4]
  | [],h=>exact h.elim
  | [_],h=>exact h.2.elim
  | [_,_],h=>exact h.2.2.elim
  | [_,_,_],h=>exact h.2.2.2.elim
  |_::_::_::_::_::_,h=>exact h.2.2.2.2.elim
 have key:Calls Tryz.prog 301 #[.pointer (some ⟨b,0,none⟩),.agg #[.int .i64 o.Kind,.int .i64 o.A,.int .i64 o.B,.int .i64 o.C]] w fun e w'=>e= .returned (.pointer ((tgt o).map fun k=>⟨b,k,none⟩))∧Below w.heap.size w w':=by
  obtain⟨i,hi,hA,h⟩:=K11 ho
  unfold tgt
  rcases h with ⟨hk,j,m,_,_,_,_⟩|⟨hk,j,hj,hB⟩|⟨hk,_,_⟩|⟨hk,j,hj,_⟩|⟨hk,j,hj,hB⟩|⟨hk,hk2⟩
  ·rw[if_neg (by omega),if_neg (by omega),if_neg (by omega),hA]
   exact K9f _ _ _ i hi (by omega) (by omega) (by omega) b w
  ·rw[if_neg (by omega),if_pos hk,hk,hB]
   exact tgt_put _ _ j hj b w
  ·rw[if_pos hk,hk]
   exact tgt_skip _ _ _ b w
  ·rw[if_neg (by omega),if_neg (by omega),if_neg (by omega),hA]
   exact K9f _ _ _ i hi (by omega) (by omega) (by omega) b w
  ·rw[if_neg (by omega),if_neg (by omega),if_pos hk,hk,hB]
   exact tgt_keep _ _ j hj b w
  ·rw[if_neg (by omega),if_neg (by omega),if_neg (by omega),hA]
   exact K9f _ _ _ i hi (by omega) (by omega) (by omega) b w
 refine Calls.mono key ?_
 rintro e w' ⟨rfl,hB⟩
 exact⟨hB,rfl⟩
end Go.Proofs.YtjneccbpkckdfaaGreatR
namespace Go.Proofs.YtjneccbpkckdfaaGreatR
open Go Go.RowKit Go.Proofs
open Nat (reduceEqDiff reduceLT reduceLeDiff reduceAdd reduceMul)
open List (reduceReplicate)
def clamp(v:Int):Int:=if 999<(if 0>v then 0 else v)then 999 else(if 0>v then 0 else v)
theorem clamp_eq{v:Int}:(if (if v<999 then v else 999)>0 then(if v<999 then v else 999)else 0)=clamp v:=by
 unfold clamp;repeat' split
 all_goals omega
def pcTo(n:Int):Int:=IntKind.i64.wrap (n+1)
def doOp(o:GOp)(s:GState)(v:Int):GState:=
 if o.Kind=5 then {s with Pc:=pcTo s.Pc,Regs:=s.Regs.set o.A.toNat ((IntKind.i64.wrap (zAt s.Regs o.B+zAt s.Regs o.C)).tmod 1000)}
 else if o.Kind=6 then {s with Pc:=pcTo s.Pc,Nodes:=s.Nodes.set o.B.toNat (zAt s.Regs o.A)}
 else if o.Kind=7 then {s with Pc:=if (zAt s.Regs o.A).tmod 2=0 then IntKind.i64.wrap (pcTo s.Pc+o.B)else pcTo s.Pc}
 else if o.Kind=8 then {s with Pc:=pcTo s.Pc,Regs:=s.Regs.set o.A.toNat (zAt s.Slots o.B)}
 else if o.Kind=9 then {s with Pc:=pcTo s.Pc,Slots:=s.Slots.set o.B.toNat (zAt s.Regs o.A)}
 else {s with Pc:=pcTo s.Pc,Regs:=s.Regs.set o.A.toNat (clamp v)}
def K3b(l:List GOp)(s:GState)(v:Int):GState:=if K2h l s then doOp (opAt l s.Pc) s v else s
theorem K9e{l:List GOp}{s:GState}{v:Int}(h:K2h l s=false):K3b l s v=s:=by unfold K3b;rw[h];rfl
theorem K6d{l:List GOp}{s:GState}{v:Int}{k:Nat}{o:GOp}(h:K2h l s=true)(D:Doing l s k o):K3b l s v=doOp o s v:=by unfold K3b;rw[h,D.at_];rfl
theorem c2:¬(2:Int)=0:=by decide
def M6o:MC:=
(Zs [.box 4 0 (.s 1),.alloc 6 1 [pz,.emp 1,.emp 1,.emp 1]] [0,2,4,6] (Zs [lT 9 4 4,.call 10 [2,3,4] (.f N7k) [.s 9],.alloc 7 5 [pz,.emp 1,.emp 1,.emp 1],sS 4 7 10] [0,2,4,6,7] (.seq (Zs [mS 11 0,lT 12 4 4,.call 13 [] (.f N3j) [.s 11,.s 12],.un 14 .not (.s 13)] [0,2,4,6,7,14] (.cond (.s 14) (Zs [lT 15 4 7,sS 4 6 15] [6] .ret) .skip))
(Zs [mS 16 0,fS 17 4 0,lF 18 1 17,xS 19 4 16 18,lT 20 4 19,.alloc 8 6 [pz,pz,pz,pz],sS 4 8 20] [2,4,6,7,8] (Zs [fS 21 7 0,lF 22 1 21,bC 23 .add 22 1,fS 24 7 0,sS 1 24 23] [2,4,6,7,8] (.seq (Zs [fS 25 8 0,lF 26 1 25] [2,4,6,7,8,26] (.block 0 (Zs [bC 36 .eql 26 5,mS 35 36] [2,4,6,7,8,26,35] (.cond (.s 35) (.dreg [Zc [39,40,41,42,43,44,45,46,47,48,49,50,51,52,53,54] (fS 37 7 1),Zd [39,40,41,42,43,44,45,46,47,48,49,50,51,52,53,54] [0] (lF 38 1 37),Zc [37,38,41,42,43,44,45,46,47,48,49,50,51,52,53,54] (fS 39 8 1),Zd [37,38,41,42,43,44,45,46,47,48,49,50,51,52,53,54] [2] (lF 40 1 39),Zc [37,38,39,40,43,44,47,48,49,50,51,52] (fS 41 4 1),Zd [37,38,39,40,43,44,47,48,49,50,51,52] [4] (lF 42 1 41),Zc [37,38,39,40,41,42,47,48,49,50,51,52] (fS 43 8 2),Zd [37,38,39,40,41,42,47,48,49,50,51,52] [6] (lF 44 1 43),Zd [37,38,39,40,47,48,49,50,51,52] [4,5,6,7] (xS 45 1 42 44),Zd [37,38,39,40,47,48,49,50,51,52] [4,5,6,7,8] (lF 46 1 45),Zc [37,38,39,40,41,42,43,44,45,46,49,50] (fS 47 4 1),Zd [37,38,39,40,41,42,43,44,45,46,49,50] [10] (lF 48 1 47),Zc [37,38,39,40,41,42,43,44,45,46,47,48] (fS 49 8 3),Zd [37,38,39,40,41,42,43,44,45,46,47,48] [12] (lF 50 1 49),Zd [37,38,39,40,41,42,43,44,45,46] [10,11,12,13] (xS 51 1 48 50),Zd [37,38,39,40,41,42,43,44,45,46] [10,11,12,13,14] (lF 52 1 51),Zd [37,38,39,40] [4,5,6,7,8,9,10,11,12,13,14,15] (bS 53 .add 46 52),Zd [37,38,39,40] [4,5,6,7,8,9,10,11,12,13,14,15,16] (bC 54 .rem 53 1000),Ze (.range 18) (xS 55 1 38 40),{o:=sS 1 55 54,ws:=[2],bf:=(.range 19)}] [6,7]) (Zs [bC 57 .eql 26 6,mS 56 57] [2,4,6,7,8,26,56] (.cond (.s 56) (.dreg [Zc [60,61,62,63,64,65,66,67] (fS 58 7 3),Zd [60,61,62,63,64,65,66,67] [0] (lF 59 1 58),Zc [58,59,62,63,64,65,66,67] (fS 60 8 2),Zd [58,59,62,63,64,65,66,67] [2] (lF 61 1 60),Zc [58,59,60,61,64,65] (fS 62 4 1),Zd [58,59,60,61,64,65] [4] (lF 63 1 62),Zc [58,59,60,61,62,63] (fS 64 8 1),Zd [58,59,60,61,62,63] [6] (lF 65 1 64),Zd [58,59,60,61] [4,5,6,7] (xS 66 1 63 65),Zd [58,59,60,61] [4,5,6,7,8] (lF 67 1 66),Ze (.range 10) (xS 68 1 59 61),{o:=sS 1 68 67,ws:=[4],bf:=(.range 11)}] [6,7]) (Zs [bC 70 .eql 26 7,mS 69 70] [2,4,6,7,8,26,69] (.cond (.s 69) (Zs [fS 71 4 1,lF 72 1 71,fS 73 8 1,lF 74 1 73,xS 75 1 72 74,lF 76 1 75,bC 77 .rem 76 2,bC 78 .eql 77 0] [6,7,8,78] (.cond (.s 78) (pr [fS 79 7 0,lF 80 1 79,fS 81 8 2,lF 82 1 81,bS 83 .add 80 82,fS 84 7 0,sS 1 84 83] [6,7]) .skip)) (Zs [bC 86 .eql 26 8,mS 85 86] [2,4,6,7,8,26,85] (.cond (.s 85) (.dreg [Zc [89,90,91,92,93,94,95,96] (fS 87 7 1),Zd [89,90,91,92,93,94,95,96] [0] (lF 88 1 87),Zc [87,88,91,92,93,94,95,96] (fS 89 8 1),Zd [87,88,91,92,93,94,95,96] [2] (lF 90 1 89),Zc [87,88,89,90,93,94] (fS 91 4 2),Zd [87,88,89,90,93,94] [4] (lF 92 1 91),Zc [87,88,89,90,91,92] (fS 93 8 2),Zd [87,88,89,90,91,92] [6] (lF 94 1 93),Zd [87,88,89,90] [4,5,6,7] (xS 95 1 92 94),Zd [87,88,89,90] [4,5,6,7,8] (lF 96 1 95),Ze (.range 10) (xS 97 1 88 90),{o:=sS 1 97 96,ws:=[2],bf:=(.range 11)}] [6,7]) (Zs [bC 99 .eql 26 9,mS 98 99] [2,4,6,7,8,98] (.cond (.s 98) (.dreg [Zc [102,103,104,105,106,107,108,109] (fS 100 7 2),Zd [102,103,104,105,106,107,108,109] [0] (lF 101 1 100),Zc [100,101,104,105,106,107,108,109] (fS 102 8 2),Zd [100,101,104,105,106,107,108,109] [2] (lF 103 1 102),Zc [100,101,102,103,106,107] (fS 104 4 1),Zd [100,101,102,103,106,107] [4] (lF 105 1 104),Zc [100,101,102,103,104,105] (fS 106 8 1),Zd [100,101,102,103,104,105] [6] (lF 107 1 106),Zd [100,101,102,103] [4,5,6,7] (xS 108 1 105 107),Zd [100,101,102,103] [4,5,6,7,8] (lF 109 1 108),Ze (.range 10) (xS 110 1 101 103),{o:=sS 1 110 109,ws:=[3],bf:=(.range 11)}] [6,7]) (pr [fS 27 7 1,lF 28 1 27,fS 29 8 1,lF 30 1 29,mS 31 2,.mm 32 true (.s 31) (ci 0),.mm 33 false (.s 32) (ci 999),xS 34 1 28 30,sS 1 34 33] [6,7])))))))))))))
(Zs [lT 111 4 7,sS 4 6 111] [6] .ret)))))))
set_option maxHeartbeats 1000000 in
theorem Ccu(l:List GOp)(s:GState)(v:Int)(hs:s.size≤1073741824):Ctr Tryz.prog N7h [aL 4 (l.map GOp.enc),aS s.enc,aI v] [rS (K3b l s v).enc]:=by
 refine cA M6o 7 112 [(.cell 6 true 4,[false,true,true,true])] Tryz.func220 rfl rfl ?_;unfold M6o
 intro hb
 clear hb
 simp only[go_sem]
 apply K0 (Ccx s hs)
 simp only[go_sem]
 intros
 apply K0 (C94 l s)
 simp only[go_sem]
 refine And.intro ?_ ?_<;>intro h
 ·rw[K9e h]
  try exact⟨rfl,rfl,rfl,rfl⟩
 ·obtain⟨k,o,D⟩:=K2r h
  rw[K6d h D]
  obtain⟨i,hi,hA,hk⟩:=K11 D.ok
  have hrl:=D.regs
  have hsl:=D.slots
  have hnl:=D.nodes
  obtain⟨r,hr⟩:=K7 (show i<s.Regs.length by omega)
  have hp0:(0:Int)≤(k:Int):=by omega
  have hp1:(k:Int)<l.length:=by have:=D.lt;omega
  have hi0:(0:Int)≤(i:Int):=by omega
  have hi1:(i:Int)<s.Regs.length:=by omega
  have hz:zAt s.Regs (i:Int)=r:=K29 hr
  simp only[go_sem,D.pc,K1 D.op,hp0,hp1]
  rcases hk with ⟨hK,j,m,hj,hm,hB,hC⟩|⟨hK,j,hj,hB⟩|⟨hK,hB⟩|⟨hK,j,hj,hB⟩|⟨hK,j,hj,hB⟩|hK
  ·obtain⟨rj,hrj⟩:=K7 (show j<s.Regs.length by omega)
   obtain⟨rm,hrm⟩:=K7 (show m<s.Regs.length by omega)
   have hj0:(0:Int)≤(j:Int):=by omega
   have hj1:(j:Int)<s.Regs.length:=by omega
   have hm0:(0:Int)≤(m:Int):=by omega
   have hm1:(m:Int)<s.Regs.length:=by omega
   simp only[go_sem,hK,hA,hB,hC,hi0,hi1,hj0,hj1,hm0,hm1,K1 hrj,K1 hrm,K1 hr,Int.reduceEq,c1000]
   simp[doOp,hK,hA,hB,hC,pcTo,D.pc,K29 hrj,K29 hrm,encI,List.map_set]
  ·obtain⟨nj,hnj⟩:=K7 (show j<s.Nodes.length by omega)
   have hj0:(0:Int)≤(j:Int):=by omega
   have hj1:(j:Int)<s.Nodes.length:=by omega
   simp only[go_sem,hK,hA,hB,hi0,hi1,hj0,hj1,K1 hnj,K1 hr,Int.reduceEq]
   simp[doOp,hK,hA,hB,pcTo,D.pc,hz,encI,List.map_set]
  ·simp only[go_sem,hK,hA,hi0,hi1,K1 hr,Int.reduceEq,c2]
   exact⟨fun h7=>by simp[doOp,hK,hA,pcTo,D.pc,hz,h7],fun h7=>by simp[doOp,hK,hA,pcTo,D.pc,hz,h7]⟩
  ·obtain⟨sj,hsj⟩:=K7 (show j<s.Slots.length by omega)
   have hj0:(0:Int)≤(j:Int):=by omega
   have hj1:(j:Int)<s.Slots.length:=by omega
   simp only[go_sem,hK,hA,hB,hi0,hi1,hj0,hj1,K1 hsj,K1 hr,Int.reduceEq]
   simp[doOp,hK,hA,hB,pcTo,D.pc,K29 hsj,encI,List.map_set]
  ·obtain⟨sj,hsj⟩:=K7 (show j<s.Slots.length by omega)
   have hj0:(0:Int)≤(j:Int):=by omega
   have hj1:(j:Int)<s.Slots.length:=by omega
   simp only[go_sem,hK,hA,hB,hi0,hi1,hj0,hj1,K1 hsj,K1 hr,Int.reduceEq]
   simp[doOp,hK,hA,hB,pcTo,D.pc,hz,encI,List.map_set]
  ·have k5:¬o.Kind=5:=by omega
   have k6:¬o.Kind=6:=by omega
   have k7:¬o.Kind=7:=by omega
   have k8:¬o.Kind=8:=by omega
   have k9:¬o.Kind=9:=by omega
   simp only[go_sem,k5,k6,k7,k8,k9,hA,hi0,hi1,K1 hr]
   simp[doOp,k5,k6,k7,k8,k9,hA,pcTo,D.pc,clamp,encI,List.map_set]
def M7a:MC:=
(Zs [.box 4 0 (.s 1),.alloc 6 1 [pz,.emp 1,.emp 1,.emp 1]] [0,2,4,6] (Zs [lT 9 4 4,.call 10 [2,3,4] (.f N9y) [.s 9],.alloc 7 5 [pz,.emp 1,.emp 1,.emp 1],sS 4 7 10] [0,2,4,6,7] (.seq (Zs [mS 11 0,lT 12 4 4,.call 13 [] (.f N4i) [.s 11,.s 12],.un 14 .not (.s 13)] [0,2,4,6,7,14] (.cond (.s 14) (Zs [lT 15 4 7,sS 4 6 15] [6] .ret) .skip))
(Zs [mS 16 0,fS 17 4 0,lF 18 1 17,xS 19 4 16 18,lT 20 4 19,.alloc 8 6 [pz,pz,pz,pz],sS 4 8 20] [2,4,6,7,8] (Zs [fS 21 4 0,lF 22 1 21,bC 23 .add 22 1,fS 24 7 0,sS 1 24 23] [2,4,6,7,8] (.seq (Zs [fS 25 8 0,lF 26 1 25] [2,4,6,7,8,26] (.block 0 (Zs [bC 36 .eql 26 5,mS 35 36] [2,4,6,7,8,26,35] (.cond (.s 35) (.dreg [Zc [39,40,41,42,43,44,45,46,47,48,49,50,51,52,53,54] (fS 37 7 1),Zd [39,40,41,42,43,44,45,46,47,48,49,50,51,52,53,54] [0] (lF 38 1 37),Zc [37,38,41,42,43,44,45,46,47,48,49,50,51,52,53,54] (fS 39 8 1),Zd [37,38,41,42,43,44,45,46,47,48,49,50,51,52,53,54] [2] (lF 40 1 39),Zc [37,38,39,40,43,44,47,48,49,50,51,52] (fS 41 4 1),Zd [37,38,39,40,43,44,47,48,49,50,51,52] [4] (lF 42 1 41),Zc [37,38,39,40,41,42,47,48,49,50,51,52] (fS 43 8 2),Zd [37,38,39,40,41,42,47,48,49,50,51,52] [6] (lF 44 1 43),Zd [37,38,39,40,47,48,49,50,51,52] [4,5,6,7] (xS 45 1 42 44),Zd [37,38,39,40,47,48,49,50,51,52] [4,5,6,7,8] (lF 46 1 45),Zc [37,38,39,40,41,42,43,44,45,46,49,50] (fS 47 4 1),Zd [37,38,39,40,41,42,43,44,45,46,49,50] [10] (lF 48 1 47),Zc [37,38,39,40,41,42,43,44,45,46,47,48] (fS 49 8 3),Zd [37,38,39,40,41,42,43,44,45,46,47,48] [12] (lF 50 1 49),Zd [37,38,39,40,41,42,43,44,45,46] [10,11,12,13] (xS 51 1 48 50),Zd [37,38,39,40,41,42,43,44,45,46] [10,11,12,13,14] (lF 52 1 51),Zd [37,38,39,40] [4,5,6,7,8,9,10,11,12,13,14,15] (bS 53 .add 46 52),Zd [37,38,39,40] [4,5,6,7,8,9,10,11,12,13,14,15,16] (bC 54 .rem 53 1000),Ze (.range 18) (xS 55 1 38 40),{o:=sS 1 55 54,ws:=[2],bf:=(.range 19)}] [6,7]) (Zs [bC 57 .eql 26 6,mS 56 57] [2,4,6,7,8,26,56] (.cond (.s 56) (.dreg [Zc [60,61,62,63,64,65,66,67] (fS 58 7 3),Zd [60,61,62,63,64,65,66,67] [0] (lF 59 1 58),Zc [58,59,62,63,64,65,66,67] (fS 60 8 2),Zd [58,59,62,63,64,65,66,67] [2] (lF 61 1 60),Zc [58,59,60,61,64,65] (fS 62 4 1),Zd [58,59,60,61,64,65] [4] (lF 63 1 62),Zc [58,59,60,61,62,63] (fS 64 8 1),Zd [58,59,60,61,62,63] [6] (lF 65 1 64),Zd [58,59,60,61] [4,5,6,7] (xS 66 1 63 65),Zd [58,59,60,61] [4,5,6,7,8] (lF 67 1 66),Ze (.range 10) (xS 68 1 59 61),{o:=sS 1 68 67,ws:=[4],bf:=(.range 11)}] [6,7]) (Zs [bC 70 .eql 26 7,mS 69 70] [2,4,6,7,8,26,69] (.cond (.s 69) (Zs [fS 71 4 1,lF 72 1 71,fS 73 8 1,lF 74 1 73,xS 75 1 72 74,lF 76 1 75,bC 77 .rem 76 2,bC 78 .eql 77 0] [4,6,7,8,78] (.cond (.s 78) (pr [fS 79 4 0,lF 80 1 79,bC 81 .add 80 1,fS 82 8 2,lF 83 1 82,bS 84 .add 81 83,fS 85 7 0,sS 1 85 84] [6,7]) .skip)) (Zs [bC 87 .eql 26 8,mS 86 87] [2,4,6,7,8,26,86] (.cond (.s 86) (.dreg [Zc [90,91,92,93,94,95,96,97] (fS 88 7 1),Zd [90,91,92,93,94,95,96,97] [0] (lF 89 1 88),Zc [88,89,92,93,94,95,96,97] (fS 90 8 1),Zd [88,89,92,93,94,95,96,97] [2] (lF 91 1 90),Zc [88,89,90,91,94,95] (fS 92 4 2),Zd [88,89,90,91,94,95] [4] (lF 93 1 92),Zc [88,89,90,91,92,93] (fS 94 8 2),Zd [88,89,90,91,92,93] [6] (lF 95 1 94),Zd [88,89,90,91] [4,5,6,7] (xS 96 1 93 95),Zd [88,89,90,91] [4,5,6,7,8] (lF 97 1 96),Ze (.range 10) (xS 98 1 89 91),{o:=sS 1 98 97,ws:=[2],bf:=(.range 11)}] [6,7]) (Zs [bC 100 .eql 26 9,mS 99 100] [2,4,6,7,8,99] (.cond (.s 99) (.dreg [Zc [103,104,105,106,107,108,109,110] (fS 101 7 2),Zd [103,104,105,106,107,108,109,110] [0] (lF 102 1 101),Zc [101,102,105,106,107,108,109,110] (fS 103 8 2),Zd [101,102,105,106,107,108,109,110] [2] (lF 104 1 103),Zc [101,102,103,104,107,108] (fS 105 4 1),Zd [101,102,103,104,107,108] [4] (lF 106 1 105),Zc [101,102,103,104,105,106] (fS 107 8 1),Zd [101,102,103,104,105,106] [6] (lF 108 1 107),Zd [101,102,103,104] [4,5,6,7] (xS 109 1 106 108),Zd [101,102,103,104] [4,5,6,7,8] (lF 110 1 109),Ze (.range 10) (xS 111 1 102 104),{o:=sS 1 111 110,ws:=[3],bf:=(.range 11)}] [6,7]) (.dreg [Zc [29,30,31,32,33] (fS 27 7 1),Zd [29,30,31,32,33] [0] (lF 28 1 27),Zc [27,28,31,32,33] (fS 29 8 1),Zd [27,28,31,32,33] [2] (lF 30 1 29),Zc [27,28,29,30] (mS 31 2),Zd [27,28,29,30] [4] (.call 32 [] (.f N6g) [.c (.int .i64 999),.s 31]),Zd [27,28,29,30] [4,5] (.call 33 [] (.f N6f) [.c (.int .i64 0),.s 32]),Ze (.range 7) (xS 34 1 28 30),{o:=sS 1 34 33,ws:=[2],bf:=(.range 8)}] [6,7])))))))))))))
(Zs [lT 112 4 7,sS 4 6 112] [6] .ret)))))))
set_option maxHeartbeats 1000000 in
theorem Cdc(l:List GOp)(s:GState)(v:Int)(hs:s.size≤1073741824):Ctr Tryz.prog N82 [aL 4 (l.map GOp.enc),aS s.enc,aI v] [rS (K3b l s v).enc]:=by
 refine cA M7a 7 113 [(.cell 6 true 4,[false,true,true,true])] Tryz.func206 rfl rfl ?_;unfold M7a
 intro hb
 clear hb
 simp only[go_sem]
 apply K0 (Ce0 s hs)
 simp only[go_sem]
 intros
 apply K0 (Ca7 l s)
 simp only[go_sem]
 refine And.intro ?_ ?_<;>intro h
 ·rw[K9e h]
  try exact⟨rfl,rfl,rfl,rfl⟩
 ·obtain⟨k,o,D⟩:=K2r h
  rw[K6d h D]
  obtain⟨i,hi,hA,hk⟩:=K11 D.ok
  have hrl:=D.regs
  have hsl:=D.slots
  have hnl:=D.nodes
  obtain⟨r,hr⟩:=K7 (show i<s.Regs.length by omega)
  have hp0:(0:Int)≤(k:Int):=by omega
  have hp1:(k:Int)<l.length:=by have:=D.lt;omega
  have hi0:(0:Int)≤(i:Int):=by omega
  have hi1:(i:Int)<s.Regs.length:=by omega
  have hz:zAt s.Regs (i:Int)=r:=K29 hr
  simp only[go_sem,D.pc,K1 D.op,hp0,hp1]
  rcases hk with ⟨hK,j,m,hj,hm,hB,hC⟩|⟨hK,j,hj,hB⟩|⟨hK,hB⟩|⟨hK,j,hj,hB⟩|⟨hK,j,hj,hB⟩|hK
  ·obtain⟨rj,hrj⟩:=K7 (show j<s.Regs.length by omega)
   obtain⟨rm,hrm⟩:=K7 (show m<s.Regs.length by omega)
   have hj0:(0:Int)≤(j:Int):=by omega
   have hj1:(j:Int)<s.Regs.length:=by omega
   have hm0:(0:Int)≤(m:Int):=by omega
   have hm1:(m:Int)<s.Regs.length:=by omega
   simp only[go_sem,hK,hA,hB,hC,hi0,hi1,hj0,hj1,hm0,hm1,K1 hrj,K1 hrm,K1 hr,Int.reduceEq,c1000]
   simp[doOp,hK,hA,hB,hC,pcTo,D.pc,K29 hrj,K29 hrm,encI,List.map_set]
  ·obtain⟨nj,hnj⟩:=K7 (show j<s.Nodes.length by omega)
   have hj0:(0:Int)≤(j:Int):=by omega
   have hj1:(j:Int)<s.Nodes.length:=by omega
   simp only[go_sem,hK,hA,hB,hi0,hi1,hj0,hj1,K1 hnj,K1 hr,Int.reduceEq]
   simp[doOp,hK,hA,hB,pcTo,D.pc,hz,encI,List.map_set]
  ·simp only[go_sem,hK,hA,hi0,hi1,K1 hr,Int.reduceEq,c2]
   exact⟨fun h7=>by simp[doOp,hK,hA,pcTo,D.pc,hz,h7],fun h7=>by simp[doOp,hK,hA,pcTo,D.pc,hz,h7]⟩
  ·obtain⟨sj,hsj⟩:=K7 (show j<s.Slots.length by omega)
   have hj0:(0:Int)≤(j:Int):=by omega
   have hj1:(j:Int)<s.Slots.length:=by omega
   simp only[go_sem,hK,hA,hB,hi0,hi1,hj0,hj1,K1 hsj,K1 hr,Int.reduceEq]
   simp[doOp,hK,hA,hB,pcTo,D.pc,K29 hsj,encI,List.map_set]
  ·obtain⟨sj,hsj⟩:=K7 (show j<s.Slots.length by omega)
   have hj0:(0:Int)≤(j:Int):=by omega
   have hj1:(j:Int)<s.Slots.length:=by omega
   simp only[go_sem,hK,hA,hB,hi0,hi1,hj0,hj1,K1 hsj,K1 hr,Int.reduceEq]
   simp[doOp,hK,hA,hB,pcTo,D.pc,hz,encI,List.map_set]
  ·have k5:¬o.Kind=5:=by omega
   have k6:¬o.Kind=6:=by omega
   have k7:¬o.Kind=7:=by omega
   have k8:¬o.Kind=8:=by omega
   have k9:¬o.Kind=9:=by omega
   simp only[go_sem,k5,k6,k7,k8,k9,hA,hi0,hi1,K1 hr]
   apply K0 (Ca6 999 v)
   simp only[go_sem]
   try intros
   apply K0 (Ca5 0 _)
   simp only[go_sem,hi0,hi1,K1 hr]
   try intros
   rw[clamp_eq]
   simp[doOp,k5,k6,k7,k8,k9,hA,pcTo,D.pc,encI,List.map_set]
end Go.Proofs.YtjneccbpkckdfaaGreatR
namespace Go.Proofs.YtjneccbpkckdfaaGreatR
open Go Go.RowKit Go.Proofs
open Nat (reduceEqDiff reduceLT reduceLeDiff reduceAdd reduceMul)
open List (reduceReplicate)
theorem K4b{l:List Int}{a b:Int}{i:Nat}{x:Int}(h:K1e l a b=true)(hx:a≤x∧x≤b):K1e (l.set i x) a b=true:=by
 refine List.all_eq_true.2 fun y hy=>?_
 rcases List.mem_or_eq_of_mem_set hy with hy|rfl
 ·exact List.all_eq_true.1 h y hy
 ·simpa using hx
theorem clamp_in(v:Int):0≤clamp v∧clamp v≤999:=by
 unfold clamp;repeat' split
 all_goals omega
theorem K4o{s:GState}(h0:0≤s.Pc∧s.Pc≤19)(h1:s.Regs.length=4)(h2:s.Slots.length=3)(h3:s.Nodes.length=4)(h4:K1e s.Regs 0 999=true)(h5:K1e s.Slots 0 999=true)(h6:K1e s.Nodes 0 999=true):stOk s=true:=by
 unfold stOk;simp[h0,h1,h2,h3,h4,h5,h6]
theorem K89{s:GState}(h:stOk s=true):(0≤s.Pc∧s.Pc≤19)∧s.Regs.length=4∧s.Slots.length=3∧s.Nodes.length=4∧K1e s.Regs 0 999=true∧K1e s.Slots 0 999=true∧K1e s.Nodes 0 999=true:=by
 simp only[stOk,Bool.and_eq_true,decide_eq_true_eq]at h
 exact⟨h.1,h.2.1.1,h.2.1.2.1,h.2.1.2.2,h.2.2.1,h.2.2.2.1,h.2.2.2.2⟩
theorem doOp_ok{l:List GOp}{s:GState}{k:Nat}{o:GOp}{v:Int}(hs:stOk s=true)(D:Doing l s k o):stOk (doOp o s v)=true∧s.Pc<(doOp o s v).Pc:=by
 obtain⟨h0,h1,h2,h3,h4,h5,h6⟩:=K89 hs
 obtain⟨i,hi,hA,hk⟩:=K11 D.ok
 have hpc:=D.pc
 have hlt:=D.lt
 have hfw:=D.few
 have hp:pcTo s.Pc=s.Pc+1:=wI (by omega) (by omega)
 obtain⟨r,hr⟩:=K7 (show i<s.Regs.length by omega)
 have hz:zAt s.Regs o.A=r:=by rw[hA];exact K29 hr
 have hri:=D.rin i r hr
 rcases hk with ⟨hK,j,m,hj,hm,hB,hC⟩|⟨hK,j,hj,hB⟩|⟨hK,hB⟩|⟨hK,j,hj,hB⟩|⟨hK,j,hj,hB⟩|hK
 ·obtain⟨rj,hrj⟩:=K7 (show j<s.Regs.length by omega)
  obtain⟨rm,hrm⟩:=K7 (show m<s.Regs.length by omega)
  have e1:zAt s.Regs o.B=rj:=by rw[hB];exact K29 hrj
  have e2:zAt s.Regs o.C=rm:=by rw[hC];exact K29 hrm
  have b1:=D.rin j rj hrj
  have b2:=D.rin m rm hrm
  have e3:IntKind.i64.wrap (rj+rm)=rj+rm:=wI (by omega) (by omega)
  simp only[doOp,hK,if_true,hp,e1,e2,e3]
  refine⟨K4o (by simp only;omega) (by simp[h1]) h2 h3 (K4b h4 ?_) h5 h6,by omega⟩
  rw[Int.tmod_eq_emod_of_nonneg (by omega)]
  omega
 ·simp only[doOp,hK,Int.reduceEq,if_false,if_true,hp,hz]
  exact⟨K4o (by simp only;omega) h1 h2 (by simp[h3]) h4 h5 (K4b h6 hri),by omega⟩
 ·have e4:IntKind.i64.wrap (s.Pc+1+o.B)=s.Pc+1+o.B:=wI (by omega) (by omega)
  simp only[doOp,hK,Int.reduceEq,if_false,if_true,hp,hz,e4]
  refine⟨K4o (by simp only;split<;>omega) h1 h2 h3 h4 h5 h6,by split<;>omega⟩
 ·obtain⟨sj,hsj⟩:=K7 (show j<s.Slots.length by omega)
  have e1:zAt s.Slots o.B=sj:=by rw[hB];exact K29 hsj
  simp only[doOp,hK,Int.reduceEq,if_false,if_true,hp,e1]
  exact⟨K4o (by simp only;omega) (by simp[h1]) h2 h3 (K4b h4 (D.sin j sj hsj)) h5 h6,by omega⟩
 ·simp only[doOp,hK,Int.reduceEq,if_false,if_true,hp,hz]
  exact⟨K4o (by simp only;omega) h1 (by simp[h2]) h3 h4 (K4b h5 hri) h6,by omega⟩
 ·have k5:¬o.Kind=5:=by omega
  have k6:¬o.Kind=6:=by omega
  have k7:¬o.Kind=7:=by omega
  have k8:¬o.Kind=8:=by omega
  have k9:¬o.Kind=9:=by omega
  simp only[doOp,k5,k6,k7,k8,k9,if_false,hp]
  exact⟨K4o (by simp only;omega) (by simp[h1]) h2 h3 (K4b h4 (clamp_in v)) h5 h6,by omega⟩
theorem stepTo_ok{l:List GOp}{s:GState}{v:Int}(hs:stOk s=true):stOk (K3b l s v)=true:=by
 cases h:K2h l s
 ·rw[K9e h];exact hs
 ·obtain⟨k,o,D⟩:=K2r h
  rw[K6d h D];exact(doOp_ok hs D).1
theorem stepTo_lt{l:List GOp}{s:GState}{v:Int}(hl:Kz l=true)(hs:stOk s=true)(hp:s.Pc<l.length):s.Pc<(K3b l s v).Pc:=by
 have h:K2h l s=true:=by unfold K2h;rw[hl,hs,decide_eq_true hp];rfl
 obtain⟨k,o,D⟩:=K2r h
 rw[K6d h D];exact(doOp_ok hs D).2
theorem K78{s:GState}(h:stOk s=true):s.size=11:=by
 obtain⟨h0,h1,h2,h3,-⟩:=K89 h
 simp only[GState.size];omega
def rP(p:GPlayed):RV:=⟨true,[(false,tI p.Code),(false,tI p.At),(false,tI p.State.Pc),(false,.sl 1 (p.State.Regs.map encI)),(false,.sl 1 (p.State.Slots.map encI)),(false,.sl 1 (p.State.Nodes.map encI))]⟩
def rT(tr:List GState):RV:=⟨false,[(false,.sl 4 (tr.map GState.enc))]⟩
attribute [go_sem] rP rT
def Mab:MC:=
(Zs [.box 3 0 (.s 1),.mv 4 cF] [0,3] (Zs [fS 5 3 0,lF 6 1 5,mS 7 0,nS 8 7,bS 9 .geq 6 8,mS 4 9] [4] .ret))
theorem Ce7(l:List GOp)(s:GState):Ctr Tryz.prog Naq [aL 4 (l.map GOp.enc),aS s.enc] [rB (decide (s.Pc≥l.length))]:=by
 refine cA Mab 1 10 [(.tmp 4,[false])] Tryz.func214 rfl rfl ?_;unfold Mab
 intro hb
 clear hb
 simp only[go_sem]
def Maj:MC:=
(Zs [.box 3 0 (.s 1),.mv 4 cF] [0,3] (Zs [fS 5 3 0,lF 6 1 5,mS 7 0,nS 8 7,bS 9 .geq 6 8,mS 4 9] [4] .ret))
theorem Cec(l:List GOp)(s:GState):Ctr Tryz.prog Naw [aL 4 (l.map GOp.enc),aS s.enc] [rB (decide (s.Pc≥l.length))]:=by
 refine cA Maj 1 10 [(.tmp 4,[false])] Tryz.func197 rfl rfl ?_;unfold Maj
 intro hb
 clear hb
 simp only[go_sem]
end Go.Proofs.YtjneccbpkckdfaaGreatR
namespace Go.Proofs.YtjneccbpkckdfaaGreatR
open Go Go.RowKit Go.Proofs
open Nat (reduceEqDiff reduceLT reduceLeDiff reduceAdd reduceMul)
open List (reduceReplicate)
structure GMarks where
 rg:List Nat
 sl:List Nat
 nd:List Nat
 path:Nat
def GMarks.ok(m:GMarks):Prop:=m.rg.length=4∧m.sl.length=3∧m.nd.length=4∧(∀x∈m.rg,x<2^20)∧(∀x∈m.sl,x<2^20)∧(∀x∈m.nd,x<2^20)∧m.path<2^20
def nAt(l:List Nat)(i:Int):Nat:=l.getD i.toNat 0
def GMarks.skip1(m:GMarks)(o:GOp):GMarks:=
 if o.Kind=6 then {m with nd:=m.nd.set o.B.toNat (nAt m.nd o.B|||m.path)}
 else if o.Kind=9 then {m with sl:=m.sl.set o.B.toNat (nAt m.sl o.B|||m.path)}
 else if o.Kind=7 then m
 else {m with rg:=m.rg.set o.A.toNat (nAt m.rg o.A|||m.path)}
def GMarks.step1(m:GMarks)(o:GOp)(got:Nat):GMarks:=
 if o.Kind=1 then {m with rg:=m.rg.set o.A.toNat ((nAt m.rg o.A|||got)|||m.path)}
 else if o.Kind=5 then {m with rg:=m.rg.set o.A.toNat ((nAt m.rg o.B|||nAt m.rg o.C)|||m.path)}
 else if o.Kind=6 then {m with nd:=m.nd.set o.B.toNat (nAt m.rg o.A|||m.path)}
 else if o.Kind=8 then {m with rg:=m.rg.set o.A.toNat (nAt m.sl o.B|||m.path)}
 else if o.Kind=9 then {m with sl:=m.sl.set o.B.toNat (nAt m.rg o.A|||m.path)}
 else {m with rg:=m.rg.set o.A.toNat m.path}
def GMarks.skipN(m:GMarks)(l:List GOp)(pc:Nat)(k:Nat):GMarks:=((l.drop (pc+1)).take k).foldl GMarks.skip1 m
def GMarks.pathed(m:GMarks)(o:GOp):GMarks:={m with path:=m.path|||nAt m.rg o.A}
def K1z(l:List GOp)(pc:Nat)(o:GOp)(m:GMarks)(got:Nat):GMarks:=if o.Kind=7 then(m.pathed o).skipN l pc o.B.toNat else m.step1 o got
theorem K3u{a b:Nat}(ha:a<2^20)(hb:b<2^20):a|||b<2^20:=Nat.or_lt_two_pow ha hb
theorem K13{l:List Nat}{i:Int}(h:∀x∈l,x<2^20):nAt l i<2^20:=by
 unfold nAt
 rw[List.getD_eq_getElem?_getD]
 cases hx:l[i.toNat]? with
 |none=>exact Nat.two_pow_pos 20
 |some x=>exact h x (List.mem_of_getElem? hx)
theorem K3x{l:List Nat}{i x:Nat}(h:∀y∈l,y<2^20)(hx:x<2^20):∀y∈l.set i x,y<2^20:=fun y hy=>by
 rcases List.mem_or_eq_of_mem_set hy with h1|rfl
 ·exact h y h1
 ·exact hx
theorem GMarks.skip1_ok{m:GMarks}{o:GOp}(h:m.ok):(m.skip1 o).ok:=by
 obtain⟨h1,h2,h3,h4,h5,h6,h7⟩:=h
 unfold GMarks.skip1
 split
 ·exact⟨h1,h2,by simp[h3],h4,h5,K3x h6 (K3u (K13 h6) h7),h7⟩
 ·split
  ·exact⟨h1,by simp[h2],h3,h4,K3x h5 (K3u (K13 h5) h7),h6,h7⟩
  ·split
   ·exact⟨h1,h2,h3,h4,h5,h6,h7⟩
   ·exact⟨by simp[h1],h2,h3,K3x h4 (K3u (K13 h4) h7),h5,h6,h7⟩
theorem GMarks.step1_ok{m:GMarks}{o:GOp}{got:Nat}(h:m.ok)(hg:got<2^20):(m.step1 o got).ok:=by
 obtain⟨h1,h2,h3,h4,h5,h6,h7⟩:=h
 unfold GMarks.step1
 repeat' split
 ·exact⟨by simp[h1],h2,h3,K3x h4 (K3u (K3u (K13 h4) hg) h7),h5,h6,h7⟩
 ·exact⟨by simp[h1],h2,h3,K3x h4 (K3u (K3u (K13 h4) (K13 h4)) h7),h5,h6,h7⟩
 ·exact⟨h1,h2,by simp[h3],h4,h5,K3x h6 (K3u (K13 h4) h7),h7⟩
 ·exact⟨by simp[h1],h2,h3,K3x h4 (K3u (K13 h5) h7),h5,h6,h7⟩
 ·exact⟨h1,by simp[h2],h3,h4,K3x h5 (K3u (K13 h4) h7),h6,h7⟩
 ·exact⟨by simp[h1],h2,h3,K3x h4 h7,h5,h6,h7⟩
theorem GMarks.pathed_ok{m:GMarks}{o:GOp}(h:m.ok):(m.pathed o).ok:=by
 obtain⟨h1,h2,h3,h4,h5,h6,h7⟩:=h
 exact⟨h1,h2,h3,h4,h5,h6,K3u h7 (K13 h4)⟩
theorem GMarks.fold_ok:∀ {l:List GOp} {m:GMarks},m.ok→(l.foldl GMarks.skip1 m).ok
 | [],_,h=>h
 |o::l,m,h=>fold_ok (l:=l) (GMarks.skip1_ok h)
theorem K6y{l:List GOp}{pc got:Nat}{o:GOp}{m:GMarks}(h:m.ok)(hg:got<2^20):(K1z l pc o m got).ok:=by
 unfold K1z
 split
 ·exact GMarks.fold_ok (GMarks.pathed_ok h)
 ·exact GMarks.step1_ok h hg
theorem GMarks.fold_path:∀ {l:List GOp} {m:GMarks},(l.foldl GMarks.skip1 m).path=m.path
 | [],_=>rfl
 |o::l,m=>by
  rw[List.foldl_cons,fold_path]
  unfold GMarks.skip1
  repeat' split
  all_goals rfl
theorem GMarks.skipN_succ{m:GMarks}{l:List GOp}{pc k:Nat}{x:GOp}(h:l[pc+1+k]? =some x):m.skipN l pc (k+1)=(m.skipN l pc k).skip1 x:=by
 have:(l.drop (pc+1))[k]? =some x:=by rw[List.getElem?_drop,h]
 unfold GMarks.skipN
 rw[K8g this]
theorem GMarks.skipN_all{m:GMarks}{l:List GOp}{pc k j:Nat}(h:l.length≤pc+1+k)(hj:k≤j):m.skipN l pc j=m.skipN l pc k:=by
 unfold GMarks.skipN
 rw[List.take_of_length_le (by simp;omega),List.take_of_length_le (by simp;omega)]
def cellsM(m:GMarks):List T:=(m.rg++m.sl++m.nd++[m.path]).map fun (n:Nat)=>tI n
theorem GMarks.parts{m:GMarks}(h:m.ok):∃r0 r1 r2 r3 s0 s1 s2 n0 n1 n2 n3 p:Nat,m=⟨[r0,r1,r2,r3],[s0,s1,s2],[n0,n1,n2,n3],p⟩∧
  ((r0<1048576∧r1<1048576∧r2<1048576∧r3<1048576)∧(s0<1048576∧s1<1048576∧s2<1048576)∧(n0<1048576∧n1<1048576∧n2<1048576∧n3<1048576)∧p<1048576):=by
 obtain⟨h1,h2,h3,h4,h5,h6,h7⟩:=h
 have e20:2^20=1048576:=rfl
 rw[e20]at h4 h5 h6 h7
 obtain⟨rg,sl,nd,p⟩:=m
 match rg,sl,nd,h1,h2,h3 with
 | [r0,r1,r2,r3],[s0,s1,s2],[n0,n1,n2,n3],_,_,_=>
  exact⟨r0,r1,r2,r3,s0,s1,s2,n0,n1,n2,n3,p,rfl,⟨h4 _ (by simp),h4 _ (by simp),h4 _ (by simp),h4 _ (by simp)⟩,⟨h5 _ (by simp),h5 _ (by simp),h5 _ (by simp)⟩,⟨h6 _ (by simp),h6 _ (by simp),h6 _ (by simp),h6 _ (by simp)⟩,h7⟩
theorem orI{a b:Nat}(ha:a<1048576)(hb:b<1048576):IntKind.i64.wrap (((BitVec.ofInt 64 (a:Int)|||BitVec.ofInt 64 (b:Int)).toNat:Nat):Int)=((a|||b:Nat):Int):=by
 have h1:(BitVec.ofInt 64 (a:Int)).toNat=a:=by
  rw[BitVec.toNat_ofInt];omega
 have h2:(BitVec.ofInt 64 (b:Int)).toNat=b:=by
  rw[BitVec.toNat_ofInt];omega
 have h3:a|||b<2^20:=Nat.or_lt_two_pow (by omega) (by omega)
 rw[BitVec.toNat_or,h1,h2,wI (by omega) (by omega)]
theorem orI2{a b c:Nat}(ha:a<1048576)(hb:b<1048576)(hc:c<1048576):IntKind.i64.wrap (((BitVec.ofInt 64 (IntKind.i64.wrap (((BitVec.ofInt 64 (a:Int)|||BitVec.ofInt 64 (b:Int)).toNat:Nat):Int))|||BitVec.ofInt 64 (c:Int)).toNat:Nat):Int)=((a|||b|||c:Nat):Int):=by
 rw[orI ha hb]
 exact orI (Nat.or_lt_two_pow (n:=20) ha hb) hc
theorem rd4{r0 r1 r2 r3:Nat}{rest:List SC}{j:Nat}(hj:j<4):List.take 1 (List.drop (j*1) (SC.pl (T.sc (Value.int .i64 (r0:Int)))::SC.pl (T.sc (Value.int .i64 (r1:Int)))::SC.pl (T.sc (Value.int .i64 (r2:Int)))::SC.pl (T.sc (Value.int .i64 (r3:Int)))::rest))=[SC.pl (T.sc (Value.int .i64 ((nAt [r0,r1,r2,r3] (j:Int):Nat):Int)))]:=by
 rcases(by omega:j=0∨j=1∨j=2∨j=3)with rfl|rfl|rfl|rfl<;>rfl
theorem rdS{a b c d:SC}{r0 r1 r2:Nat}{rest:List SC}{j:Nat}(hj:j<3):List.take 1 (List.drop (4+j*1) (a::b::c::d::SC.pl (T.sc (Value.int .i64 (r0:Int)))::SC.pl (T.sc (Value.int .i64 (r1:Int)))::SC.pl (T.sc (Value.int .i64 (r2:Int)))::rest))=[SC.pl (T.sc (Value.int .i64 ((nAt [r0,r1,r2] (j:Int):Nat):Int)))]:=by
 rcases(by omega:j=0∨j=1∨j=2)with rfl|rfl|rfl<;>rfl
theorem K4n{r0 r1 r2 r3:Nat}{j:Int}(a0:r0<1048576)(a1:r1<1048576)(a2:r2<1048576)(a3:r3<1048576):nAt [r0,r1,r2,r3] j<1048576:=K13 (l:=[r0,r1,r2,r3]) (by simp;omega)
theorem K7h{r0 r1 r2:Nat}{j:Int}(a0:r0<1048576)(a1:r1<1048576)(a2:r2<1048576):nAt [r0,r1,r2] j<1048576:=K13 (l:=[r0,r1,r2]) (by simp;omega)
theorem or_ltD{a b:Nat}(ha:a<1048576)(hb:b<1048576):a|||b<1048576:=Nat.or_lt_two_pow (n:=20) ha hb
def M1c:MC:=
(Zs [mS 12 1,mS 13 2,xS 14 4 12 13,lT 15 4 14,.alloc 8 1 [pz,pz,pz,pz],sS 4 8 15] [0,1,2,3,8] (Zs [.mv 9 (ci 0)] [0,1,2,3,8,9] (.seq (Zs [fS 16 8 0,lF 17 1 16] [0,1,2,3,8,9,17] (.block 0 (Zs [bC 19 .eql 17 1,mS 18 19] [0,1,2,3,8,9,17,18] (.cond (.s 18) (.dreg [Zc [21,22,27] (mS 20 0),Zc [20,23,24,27] (fS 21 8 1),Zd [20,23,24,27] [1] (lF 22 1 21),Zd [21,22,27] [0] (.nilc 23 (.s 20)),Zd [21,22,27] [0,3] (fS 24 23 0),Zd [27] (.range 5) (.idxA 25 1 4 (.s 24) (.s 22)),Zd [27] (.range 6) (lF 26 1 25),Zc [20,21,22,23,24,25,26] (mS 27 3),Ze (.range 8) (bS 28 .or 26 27),Ze (.range 9) (mS 9 28)] [0,8,9]) (Zs [bC 30 .eql 17 5,mS 29 30] [0,1,2,8,9,17,29] (.cond (.s 29) (.dreg [Zc [32,33,38,39,40,41,42,43,44] (mS 31 0),Zc [31,34,35,38,39,40,41,42,43,44] (fS 32 8 2),Zd [31,34,35,38,39,40,41,42,43,44] [1] (lF 33 1 32),Zd [32,33,38,39,40,41,42,43,44] [0] (.nilc 34 (.s 31)),Zd [32,33,38,39,40,41,42,43,44] [0,3] (fS 35 34 0),Zd [38,39,40,41,42,43,44] (.range 5) (.idxA 36 1 4 (.s 35) (.s 33)),Zd [38,39,40,41,42,43,44] (.range 6) (lF 37 1 36),Zc [31,32,33,34,35,36,37,39,40] (mS 38 0),Zc [31,32,33,34,35,36,37,38,41,42] (fS 39 8 3),Zd [31,32,33,34,35,36,37,38,41,42] [8] (lF 40 1 39),Zd [31,32,33,34,35,36,37,39,40] [7] (.nilc 41 (.s 38)),Zd [31,32,33,34,35,36,37,39,40] [7,10] (fS 42 41 0),Zd [31,32,33,34,35,36,37] [7,8,9,10,11] (.idxA 43 1 4 (.s 42) (.s 40)),Zd [31,32,33,34,35,36,37] [7,8,9,10,11,12] (lF 44 1 43),Ze (.range 14) (bS 45 .or 37 44),Ze (.range 15) (mS 9 45)] [0,8,9]) (.seq (Zs [bC 47 .eql 17 6,mS 46 47] [0,1,2,8,9,17,46] (.cond (.s 46) .skip (pr [bC 48 .eql 17 9,mS 46 48] [0,1,2,8,9,17,46])))
(.cond (.s 46) (.dreg [Zc [50,51] (mS 49 0),Zc [49,52,53] (fS 50 8 1),Zd [49,52,53] [1] (lF 51 1 50),Zd [50,51] [0] (.nilc 52 (.s 49)),Zd [50,51] [0,3] (fS 53 52 0),Ze (.range 5) (.idxA 54 1 4 (.s 53) (.s 51)),Ze (.range 6) (lF 55 1 54),Ze (.range 7) (mS 9 55)] [0,8,9]) (Zs [bC 57 .eql 17 8,mS 56 57] [0,1,2,8,9,17,56] (.cond (.s 56) (.dreg [Zc [59,60] (mS 58 0),Zc [58,61,62] (fS 59 8 2),Zd [58,61,62] [1] (lF 60 1 59),Zd [59,60] [0] (.nilc 61 (.s 58)),Zd [59,60] [0,3] (fS 62 61 4),Ze (.range 5) (.idxA 63 1 3 (.s 62) (.s 60)),Ze (.range 6) (lF 64 1 63),Ze (.range 7) (mS 9 64)] [0,8,9]) (Zs [bC 66 .eql 17 7,mS 65 66] [0,1,2,8,9,65] (.cond (.s 65) (.seq (.dreg [Zc [71,72,73,74,75,76,77] (mS 67 0),Zd [71,72,73,74,75,76,77] [0] (.nilc 68 (.s 67)),Zd [71,72,73,74,75,76,77] [0,1] (fS 69 68 11),Zd [71,72,73,74,75,76,77] [0,1,2] (lF 70 1 69),Zc [67,68,69,70,72,73] (mS 71 0),Zc [67,68,69,70,71,74,75] (fS 72 8 1),Zd [67,68,69,70,71,74,75] [5] (lF 73 1 72),Zd [67,68,69,70,72,73] [4] (.nilc 74 (.s 71)),Zd [67,68,69,70,72,73] [4,7] (fS 75 74 0),Zd [67,68,69,70] [4,5,6,7,8] (.idxA 76 1 4 (.s 75) (.s 73)),Zd [67,68,69,70] [4,5,6,7,8,9] (lF 77 1 76),Ze (.range 11) (bS 78 .or 70 77),Ze (.range 12) (.nilc 79 (.s 67)),Ze (.range 13) (fS 80 79 11),{o:=sS 1 80 78,ws:=[0],bf:=(.range 14)}] [0,1,2,8])
(.seq (Zs [mS 81 2,bC 82 .add 81 1,mS 10 82] [0,1,2,8,10] (.block 1 (.loop ([0,1,2,8,10],[]) (.seq (.seq (.reg [Za (mS 83 10),Za (mS 84 2),Za (fS 85 8 2),Za (lF 86 1 85),Za (bS 87 .add 84 86),Za (bS 88 .leq 83 87),Za (mS 89 88),Zb 89 true (mS 90 10),Zb 89 true (mS 91 1),Zb 89 true (nS 92 91),Zb 89 true (bS 93 .lss 90 92),Za (.pick 94 (.s 89) (.s 93) cF)] [0,1,2,8,10,94])
(cX 94 1))
(.seq (.block 2 (Zs [mS 97 0,mS 98 1,mS 99 10,xS 100 4 98 99,lT 101 4 100,.callP 102 (.f N18) (.s 97) [.s 101],mS 11 102] [0,1,2,8,10,11] (Zs [mS 103 11,.nilp 104 true (.s 103)] [0,1,2,8,10,11,104] (.cond (.s 104) (.dreg [Zc [108,109,110,111] (mS 105 11),Zd [108,109,110,111] [0] (.nilc 106 (.s 105)),Zd [108,109,110,111] [0,1] (lF 107 1 106),Zc [105,106,107] (mS 108 0),Zd [105,106,107] [3] (.nilc 109 (.s 108)),Zd [105,106,107] [3,4] (fS 110 109 11),Zd [105,106,107] [3,4,5] (lF 111 1 110),Ze (.range 7) (bS 112 .or 107 111),Ze (.range 8) (.nilc 113 (.s 105)),{o:=sS 1 113 112,ws:=[0],bf:=(.range 9)}] [0,1,2,8,10]) .skip))))
(pr [mS 95 10,bC 96 .add 95 1,mS 10 96] [0,1,2,8,10]))))))
.ret)) .skip))))))))))))
(.dreg [Zc [115,117,118,119,120,121,122] (mS 114 0),Zc [114,117,118,119,120,121,122] (lT 115 4 8),Zd [117,118,119,120,121,122] [0,1] (.callP 116 (.f N18) (.s 114) [.s 115]),Zc [114,115,116,118,119,120,121] (mS 117 9),Zc [114,115,116,117] (mS 118 0),Zd [114,115,116,117] [4] (.nilc 119 (.s 118)),Zd [114,115,116,117] [4,5] (fS 120 119 11),Zd [114,115,116,117] [4,5,6] (lF 121 1 120),Zd [114,115,116] [3,4,5,6,7] (bS 122 .or 117 121),Ze (.range 9) (.nilc 123 (.s 116)),{o:=sS 1 123 122,ws:=[0],bf:=(.range 10)}] []))))
theorem tgtc{o:GOp}{k:Option Nat}(ho:opOk o=true)(hk:tgt o=k):CtrP Tryz.prog N18 [aS o.enc] k:=hk▸Caz o ho
set_option maxHeartbeats 4000000 in
theorem Ceg(l:List GOp)(pc:Nat)(o:GOp)(got:Nat)(m:GMarks)(h7:¬o.Kind=7)(hm:m.ok)(hl:∀x∈l,opOk x=true)(hpc:l[pc]? =some o)(hg:got<1048576)(hlen:l.length≤1073741824):CtrB Tryz.prog N1d (cellsM m) [aL 4 (l.map GOp.enc),aI pc,aI got] (cellsM (K1z l pc o m got)) []:=by
 refine ctrB_at (M:=M1c) (m:=1) (n:=124) (res:=[]) hmix Tryz.func219 rfl (by kernel_rfl) rfl (by kernel_rfl) (by kernel_rfl) (Nat.le_of_ble_eq_true rfl) ?_;unfold M1c
 intro hb1 hb2
 clear hb1 hb2
 have hlt:=Ka hpc
 have ho:=hl o (Km hpc)
 obtain⟨i,hi,hA,h⟩:=K11 ho
 obtain⟨r0,r1,r2,r3,s0,s1,s2,n0,n1,n2,n3,p,hme,⟨a0,a1,a2,a3⟩,⟨b0,b1,b2⟩,⟨c0,c1,c2,c3⟩,hp⟩:=GMarks.parts hm
 obtain⟨K,A,B,C⟩:=o
 simp only at hA h
 rcases h with ⟨hk,j,z,hj,hz,hB,hC⟩|⟨hk,j,hj,hB⟩|⟨hk,hB1,hB3⟩|⟨hk,j,hj,hB⟩|⟨hk,j,hj,hB⟩|⟨hk,hk2⟩
 ·subst hk hA hB hC hme
  simp only[cellsM,K1z,GMarks.step1]
  have hv4:∀j:Int,nAt [r0,r1,r2,r3] j<1048576:=fun j=>K4n a0 a1 a2 a3
  have hv3:∀j:Int,nAt [s0,s1,s2] j<1048576:=fun j=>K7h b0 b1 b2
  rcases(by omega:i=0∨i=1∨i=2∨i=3)with rfl|rfl|rfl|rfl
  all_goals (simp only[go_sem,K1 hpc,Int.reduceEq,rd4,hj,hz])
  all_goals repeat' first
   |(apply And.intro)
   |omega
   |((first|apply K5 (tgtc ho (k:=some 0) rfl)|apply K5 (tgtc ho (k:=some 1) rfl)|apply K5 (tgtc ho (k:=some 2) rfl)|apply K5 (tgtc ho (k:=some 3) rfl)|apply K5 (tgtc ho (k:=some 4) rfl)|apply K5 (tgtc ho (k:=some 5) rfl)|apply K5 (tgtc ho (k:=some 6) rfl)|apply K5 (tgtc ho (k:=some 7) rfl)|apply K5 (tgtc ho (k:=some 8) rfl)|apply K5 (tgtc ho (k:=some 9) rfl)|apply K5 (tgtc ho (k:=some 10) rfl));simp only[go_sem])
   |exact orI2 (hv4 _) (hv4 _) hp
 ·subst hk hA hB hme
  simp only[cellsM,K1z,GMarks.step1]
  have hv4:∀j:Int,nAt [r0,r1,r2,r3] j<1048576:=fun j=>K4n a0 a1 a2 a3
  have hv3:∀j:Int,nAt [s0,s1,s2] j<1048576:=fun j=>K7h b0 b1 b2
  rcases(by omega:j=0∨j=1∨j=2∨j=3)with rfl|rfl|rfl|rfl
  all_goals (simp only[go_sem,K1 hpc,Int.reduceEq,rd4,hi])
  all_goals repeat' first
   |(apply And.intro)
   |omega
   |((first|apply K5 (tgtc ho (k:=some 0) rfl)|apply K5 (tgtc ho (k:=some 1) rfl)|apply K5 (tgtc ho (k:=some 2) rfl)|apply K5 (tgtc ho (k:=some 3) rfl)|apply K5 (tgtc ho (k:=some 4) rfl)|apply K5 (tgtc ho (k:=some 5) rfl)|apply K5 (tgtc ho (k:=some 6) rfl)|apply K5 (tgtc ho (k:=some 7) rfl)|apply K5 (tgtc ho (k:=some 8) rfl)|apply K5 (tgtc ho (k:=some 9) rfl)|apply K5 (tgtc ho (k:=some 10) rfl));simp only[go_sem])
   |exact orI (hv4 _) hp
 ·exact absurd hk h7
 ·subst hk hA hB hme
  simp only[cellsM,K1z,GMarks.step1]
  have hv4:∀j:Int,nAt [r0,r1,r2,r3] j<1048576:=fun j=>K4n a0 a1 a2 a3
  have hv3:∀j:Int,nAt [s0,s1,s2] j<1048576:=fun j=>K7h b0 b1 b2
  rcases(by omega:i=0∨i=1∨i=2∨i=3)with rfl|rfl|rfl|rfl
  all_goals (simp only[go_sem,K1 hpc,Int.reduceEq,rdS,hj])
  all_goals repeat' first
   |(apply And.intro)
   |omega
   |((first|apply K5 (tgtc ho (k:=some 0) rfl)|apply K5 (tgtc ho (k:=some 1) rfl)|apply K5 (tgtc ho (k:=some 2) rfl)|apply K5 (tgtc ho (k:=some 3) rfl)|apply K5 (tgtc ho (k:=some 4) rfl)|apply K5 (tgtc ho (k:=some 5) rfl)|apply K5 (tgtc ho (k:=some 6) rfl)|apply K5 (tgtc ho (k:=some 7) rfl)|apply K5 (tgtc ho (k:=some 8) rfl)|apply K5 (tgtc ho (k:=some 9) rfl)|apply K5 (tgtc ho (k:=some 10) rfl));simp only[go_sem])
   |exact orI (hv3 _) hp
 ·subst hk hA hB hme
  simp only[cellsM,K1z,GMarks.step1]
  have hv4:∀j:Int,nAt [r0,r1,r2,r3] j<1048576:=fun j=>K4n a0 a1 a2 a3
  have hv3:∀j:Int,nAt [s0,s1,s2] j<1048576:=fun j=>K7h b0 b1 b2
  rcases(by omega:j=0∨j=1∨j=2)with rfl|rfl|rfl
  all_goals (simp only[go_sem,K1 hpc,Int.reduceEq,rd4,hi])
  all_goals repeat' first
   |(apply And.intro)
   |omega
   |((first|apply K5 (tgtc ho (k:=some 0) rfl)|apply K5 (tgtc ho (k:=some 1) rfl)|apply K5 (tgtc ho (k:=some 2) rfl)|apply K5 (tgtc ho (k:=some 3) rfl)|apply K5 (tgtc ho (k:=some 4) rfl)|apply K5 (tgtc ho (k:=some 5) rfl)|apply K5 (tgtc ho (k:=some 6) rfl)|apply K5 (tgtc ho (k:=some 7) rfl)|apply K5 (tgtc ho (k:=some 8) rfl)|apply K5 (tgtc ho (k:=some 9) rfl)|apply K5 (tgtc ho (k:=some 10) rfl));simp only[go_sem])
   |exact orI (hv4 _) hp
 ·subst hA hme
  simp only[cellsM,K1z,GMarks.step1]
  have hv4:∀j:Int,nAt [r0,r1,r2,r3] j<1048576:=fun j=>K4n a0 a1 a2 a3
  obtain rfl|hk3:K=1∨(K=2∨K=3∨K=4):=by omega
  ·rcases(by omega:i=0∨i=1∨i=2∨i=3)with rfl|rfl|rfl|rfl
   all_goals (simp only[go_sem,K1 hpc,Int.reduceEq])
   all_goals repeat' first
    |(apply And.intro)
    |omega
    |((first|apply K5 (tgtc ho (k:=some 0) rfl)|apply K5 (tgtc ho (k:=some 1) rfl)|apply K5 (tgtc ho (k:=some 2) rfl)|apply K5 (tgtc ho (k:=some 3) rfl));simp only[go_sem])
    |exact orI2 (by assumption) hg hp
  ·have hz0:IntKind.i64.wrap (((BitVec.ofInt 64 (0:Int)|||BitVec.ofInt 64 (p:Int)).toNat:Nat):Int)=(p:Int):=by
    have:=orI (a:=0) (b:=p) (by omega) hp
    rwa [Nat.zero_or]at this
   rcases hk3 with rfl|rfl|rfl<;>rcases(by omega:i=0∨i=1∨i=2∨i=3)with rfl|rfl|rfl|rfl
   all_goals (simp only[go_sem,K1 hpc,Int.reduceEq])
   all_goals repeat' first
    |(apply And.intro)
    |omega
    |((first|apply K5 (tgtc ho (k:=some 0) rfl)|apply K5 (tgtc ho (k:=some 1) rfl)|apply K5 (tgtc ho (k:=some 2) rfl)|apply K5 (tgtc ho (k:=some 3) rfl));simp only[go_sem])
    |exact hz0
end Go.Proofs.YtjneccbpkckdfaaGreatR
namespace Go.Proofs.YtjneccbpkckdfaaGreatR
open Go Go.RowKit Go.Proofs
open Nat (reduceEqDiff reduceLT reduceLeDiff reduceAdd reduceMul)
open List (reduceReplicate)
set_option maxHeartbeats 4000000 in
theorem Cen(l:List GOp)(pc:Nat)(o:GOp)(got:Nat)(m:GMarks)(h7:o.Kind=7)(hm:m.ok)(hl:∀x∈l,opOk x=true)(hpc:l[pc]? =some o)(hg:got<1048576)(hlen:l.length≤1073741824):CtrB Tryz.prog N1d (cellsM m) [aL 4 (l.map GOp.enc),aI pc,aI got] (cellsM (K1z l pc o m got)) []:=by
 refine ctrB_at (M:=M1c) (m:=1) (n:=124) (res:=[]) hmix Tryz.func219 rfl (by kernel_rfl) rfl (by kernel_rfl) (by kernel_rfl) (Nat.le_of_ble_eq_true rfl) ?_;unfold M1c
 intro hb1 hb2
 clear hb1 hb2
 have hlt:=Ka hpc
 have ho:=hl o (Km hpc)
 obtain⟨i,hi,hA,h⟩:=K11 ho
 obtain⟨r0,r1,r2,r3,s0,s1,s2,n0,n1,n2,n3,p,hme,⟨a0,a1,a2,a3⟩,⟨b0,b1,b2⟩,⟨c0,c1,c2,c3⟩,hp⟩:=GMarks.parts hm
 obtain⟨K,A,B,C⟩:=o
 simp only at hA h h7
 have hB:1≤B∧B≤3:=by omega
 obtain⟨z,rfl⟩:∃z:Nat,B=z:=⟨B.toNat,by omega⟩
 subst h7 hA
 obtain⟨M,hM⟩:∃M,M=m.pathed ⟨7,i,z,C⟩:=⟨_,rfl⟩
 have hMk:M.ok:=hM▸GMarks.pathed_ok hm
 have hto:K1z l pc ⟨7,i,z,C⟩ m got=M.skipN l pc z:=by
  rw[hM];simp[K1z]
 rw[hto]
 have hv4:∀j:Int,nAt [r0,r1,r2,r3] j<1048576:=fun j=>K4n a0 a1 a2 a3
 have hcM:(cellsM M).map SC.pl=(cellsM {m with path:=p|||nAt [r0,r1,r2,r3] i}).map SC.pl:=by rw[hM,hme];rfl
 subst hme
 simp only[cellsM]
 have hor:IntKind.i64.wrap (((BitVec.ofInt 64 (p:Int)|||BitVec.ofInt 64 (nAt [r0,r1,r2,r3] (i:Int):Nat)).toNat:Nat):Int)=((p|||nAt [r0,r1,r2,r3] i:Nat):Int):=orI hp (hv4 _)
 simp only[go_sem,K1 hpc,Int.reduceEq,rd4,hi]
 refine⟨⟨by omega,by omega⟩,⟨by omega,by omega⟩,by omega,?_⟩
 refine Kl (fun n:Nat=>[(10,vI ((pc+1+n:Nat):Int))]) (fun n=>[(0,⟨1,.box ((cellsM (M.skipN l pc n)).map SC.pl)⟩)]) (fun n=>n≤z) (fun n=>z-n) 0 ?_
 simp only[go_sem]
 refine⟨?_,Nat.zero_le _,?_⟩
 ·simp only[go_sem]
  refine⟨by rw[wI (by omega) (by omega)];omega,?_⟩
  rw[show M.skipN l pc 0=M from rfl,hcM]
  exact congrArg (fun q:Int=>(([r0,r1,r2,r3,s0,s1,s2,n0,n1,n2,n3].map fun (n:Nat)=>SC.pl (tI n))++[SC.pl (T.sc (.int .i64 q))])) hor
 ·intro n hn
  have hN:(M.skipN l pc n).ok:=GMarks.fold_ok hMk
  by_cases hc:n<z∧pc+1+n<l.length
  ·obtain⟨x,hx⟩:=K7 hc.2
   have hxo:=hl x (Km hx)
   have hS:M.skipN l pc (n+1)=(M.skipN l pc n).skip1 x:=GMarks.skipN_succ hx
   have hpath:(M.skipN l pc n).path=p|||nAt [r0,r1,r2,r3] i:=by
    unfold GMarks.skipN
    rw[GMarks.fold_path,hM]
    rfl
   obtain⟨q0,q1,q2,q3,u0,u1,u2,v0,v1,v2,v3,P,hE,⟨d0,d1,d2,d3⟩,⟨e0,e1,e2⟩,⟨f0,f1,f2,f3⟩,hP⟩:=GMarks.parts hN
   have w1:IntKind.i64.wrap ((pc:Int)+(z:Int))=((pc+z:Nat):Int):=by rw[wI (by omega) (by omega)];omega
   have w2:IntKind.i64.wrap (((pc+1+n:Nat):Int)+1)=((pc+1+(n+1):Nat):Int):=by rw[wI (by omega) (by omega)];omega
   have k1:((pc+1+n:Nat):Int)≤((pc+z:Nat):Int):=by omega
   have k2:((pc+1+n:Nat):Int)<(l.length:Int):=by omega
   rw[hE]at hS ⊢
   simp only[cellsM]
   simp only[go_sem,K1 hx,w1,k1,k2]
   refine⟨by omega,?_⟩
   have hPp:P=(M.skipN l pc n).path:=by rw[hE]
   obtain⟨i',hi',hA',h'⟩:=K11 hxo
   obtain⟨xk,xa,xb,xc⟩:=x
   simp only at hA' h'
   subst hA'
   have hkind:(xk=6∧∃j:Nat,j<4∧xb=j)∨(xk=9∧∃j:Nat,j<3∧xb=j)∨xk=7∨(¬xk=7∧¬xk=6∧¬xk=9):=by
    rcases h' with ⟨hk,j,m',hj,hm',hB',hC'⟩|⟨hk,j,hj,hB'⟩|⟨hk,_,_⟩|⟨hk,j,hj,hB'⟩|⟨hk,j,hj,hB'⟩|⟨hk,hk2⟩
    ·omega
    ·exact .inl ⟨hk,j,hj,hB'⟩
    ·omega
    ·omega
    ·exact .inr (.inl ⟨hk,j,hj,hB'⟩)
    ·omega
   rcases hkind with ⟨rfl,j,hj,rfl⟩|⟨rfl,j,hj,rfl⟩|rfl|⟨g7,g6,g9⟩
   ·have ht:tgt ⟨6,i',j,xc⟩=some (7+j):=by simp[tgt]
    have hsk:∀m:GMarks,m.skip1 ⟨6,i',j,xc⟩={m with nd:=m.nd.set j (nAt m.nd j|||m.path)}:=fun m=>by simp[GMarks.skip1]
    rw[hsk]at hS
    rcases(by omega:j=0∨j=1∨j=2∨j=3)with rfl|rfl|rfl|rfl
    all_goals (apply K5 (tgtc hxo ht);simp only[go_sem])
    all_goals (refine⟨n+1,⟨w2,?_⟩,by omega,by omega⟩;rw[hS])
    ·exact congrArg (fun z:Int=>((cellsM ⟨[q0,q1,q2,q3],[u0,u1,u2],[v0,v1,v2,v3],P⟩).map SC.pl).set 7 (SC.pl (tI z))) (orI f0 hP)
    ·exact congrArg (fun z:Int=>((cellsM ⟨[q0,q1,q2,q3],[u0,u1,u2],[v0,v1,v2,v3],P⟩).map SC.pl).set 8 (SC.pl (tI z))) (orI f1 hP)
    ·exact congrArg (fun z:Int=>((cellsM ⟨[q0,q1,q2,q3],[u0,u1,u2],[v0,v1,v2,v3],P⟩).map SC.pl).set 9 (SC.pl (tI z))) (orI f2 hP)
    ·exact congrArg (fun z:Int=>((cellsM ⟨[q0,q1,q2,q3],[u0,u1,u2],[v0,v1,v2,v3],P⟩).map SC.pl).set 10 (SC.pl (tI z))) (orI f3 hP)
   ·have ht:tgt ⟨9,i',j,xc⟩=some (4+j):=by simp[tgt]
    have hsk:∀m:GMarks,m.skip1 ⟨9,i',j,xc⟩={m with sl:=m.sl.set j (nAt m.sl j|||m.path)}:=fun m=>by simp[GMarks.skip1]
    rw[hsk]at hS
    rcases(by omega:j=0∨j=1∨j=2)with rfl|rfl|rfl
    all_goals (apply K5 (tgtc hxo ht);simp only[go_sem])
    all_goals (refine⟨n+1,⟨w2,?_⟩,by omega,by omega⟩;rw[hS])
    ·exact congrArg (fun z:Int=>((cellsM ⟨[q0,q1,q2,q3],[u0,u1,u2],[v0,v1,v2,v3],P⟩).map SC.pl).set 4 (SC.pl (tI z))) (orI e0 hP)
    ·exact congrArg (fun z:Int=>((cellsM ⟨[q0,q1,q2,q3],[u0,u1,u2],[v0,v1,v2,v3],P⟩).map SC.pl).set 5 (SC.pl (tI z))) (orI e1 hP)
    ·exact congrArg (fun z:Int=>((cellsM ⟨[q0,q1,q2,q3],[u0,u1,u2],[v0,v1,v2,v3],P⟩).map SC.pl).set 6 (SC.pl (tI z))) (orI e2 hP)
   ·have ht:tgt ⟨7,i',xb,xc⟩=none:=by simp[tgt]
    have hsk:∀m:GMarks,m.skip1 ⟨7,i',xb,xc⟩=m:=fun m=>by simp[GMarks.skip1]
    rw[hsk]at hS
    apply K5 (tgtc hxo ht)
    simp only[go_sem]
    refine⟨n+1,⟨w2,?_⟩,by omega,by omega⟩
    rw[hS]
    rfl
   ·have ht:tgt ⟨xk,i',xb,xc⟩=some i':=by simp[tgt,g7,g6,g9]
    have hsk:∀m:GMarks,m.skip1 ⟨xk,i',xb,xc⟩={m with rg:=m.rg.set i' (nAt m.rg i'|||m.path)}:=fun m=>by simp[GMarks.skip1,g7,g6,g9]
    rw[hsk]at hS
    rcases(by omega:i'=0∨i'=1∨i'=2∨i'=3)with rfl|rfl|rfl|rfl
    all_goals (apply K5 (tgtc hxo ht);simp only[go_sem])
    all_goals (refine⟨n+1,⟨w2,?_⟩,by omega,by omega⟩;rw[hS])
    ·exact congrArg (fun z:Int=>((cellsM ⟨[q0,q1,q2,q3],[u0,u1,u2],[v0,v1,v2,v3],P⟩).map SC.pl).set 0 (SC.pl (tI z))) (orI d0 hP)
    ·exact congrArg (fun z:Int=>((cellsM ⟨[q0,q1,q2,q3],[u0,u1,u2],[v0,v1,v2,v3],P⟩).map SC.pl).set 1 (SC.pl (tI z))) (orI d1 hP)
    ·exact congrArg (fun z:Int=>((cellsM ⟨[q0,q1,q2,q3],[u0,u1,u2],[v0,v1,v2,v3],P⟩).map SC.pl).set 2 (SC.pl (tI z))) (orI d2 hP)
    ·exact congrArg (fun z:Int=>((cellsM ⟨[q0,q1,q2,q3],[u0,u1,u2],[v0,v1,v2,v3],P⟩).map SC.pl).set 3 (SC.pl (tI z))) (orI d3 hP)
  ·have hall:M.skipN l pc z=M.skipN l pc n:=by
    by_cases hz:n=z
    ·rw[hz]
    ·exact GMarks.skipN_all (by omega) hn
   have w1:IntKind.i64.wrap ((pc:Int)+(z:Int))=((pc+z:Nat):Int):=by rw[wI (by omega) (by omega)];omega
   rw[hall]
   obtain⟨q0,q1,q2,q3,u0,u1,u2,v0,v1,v2,v3,P,hE,⟨d0,d1,d2,d3⟩,⟨e0,e1,e2⟩,⟨f0,f1,f2,f3⟩,hP⟩:=GMarks.parts hN
   rw[hE]
   simp only[cellsM]
   by_cases k1:((pc+1+n:Nat):Int)≤((pc+z:Nat):Int)
   ·have k2:¬((pc+1+n:Nat):Int)<(l.length:Int):=by omega
    simp only[go_sem,w1,k1,k2]
    done
   ·simp only[go_sem,w1,k1]
    done
theorem Cc0(l:List GOp)(pc:Nat)(o:GOp)(got:Nat)(m:GMarks)(hm:m.ok)(hl:∀x∈l,opOk x=true)(hpc:l[pc]? =some o)(hg:got<1048576)(hlen:l.length≤1073741824):CtrB Tryz.prog N1d (cellsM m) [aL 4 (l.map GOp.enc),aI pc,aI got] (cellsM (K1z l pc o m got)) []:=by
 by_cases h7:o.Kind=7
 ·exact Cen l pc o got m h7 hm hl hpc hg hlen
 ·exact Ceg l pc o got m h7 hm hl hpc hg hlen
end Go.Proofs.YtjneccbpkckdfaaGreatR
namespace Go.Proofs.YtjneccbpkckdfaaGreatR
open Go Go.RowKit Go.Proofs
open Nat (reduceEqDiff reduceLT reduceLeDiff reduceAdd reduceMul)
open List (reduceReplicate)
def encM(m:GMarks):List T:=[.sl 1 ((natI m.rg).map encI),.sl 1 ((natI m.sl).map encI),.sl 1 ((natI m.nd).map encI),tI m.path]
theorem K2i{l:List Nat}{i x:Nat}:((natI l).map encI).set i [tI (x:Int)]=(natI (l.set i x)).map encI:=by
 simp[natI,encI,List.map_set]
theorem joinN{a b:Nat}(ha:a<1048576)(hb:b<1048576):joinL a b=((a|||b:Nat):Int):=by
 unfold joinL;rw[if_pos (by omega)];simp
theorem K3a{l:List Nat}{i:Nat}(h:i<l.length):(natI l)[i]? =some ((nAt l (i:Int):Nat):Int):=by
 simp[natI,nAt,h,List.getD_eq_getElem?_getD]
theorem Cb(a b:Nat)(ha:a<1048576)(hb:b<1048576):Ctr Tryz.prog N3 [aI a,aI b] [rI ((a|||b:Nat):Int)]:=by
 have:=Cd9 a b
 rwa [joinN ha hb]at this
def M9o:MC:=
(Zs [.box 3 3 (.s 0),.box 4 4 (.s 1),.alloc 6 5 [.emp 1,.emp 1,.emp 1,pz]] [2,3,4,6] (.seq (Zs [fS 7 3 0,lF 8 1 7] [2,3,4,6,8] (.block 0 (Zs [bC 17 .eql 8 1,mS 16 17] [2,3,4,6,8,16] (.cond (.s 16) (.dreg [Zc [20,21,22,23,24,25,26,27,28,29,30,31,32] (fS 18 4 0),Zd [20,21,22,23,24,25,26,27,28,29,30,31,32] [0] (lF 19 1 18),Zc [18,19,22,23,24,25,26,27,28,29,30,31,32] (fS 20 3 1),Zd [18,19,22,23,24,25,26,27,28,29,30,31,32] [2] (lF 21 1 20),Zc [18,19,20,21,24,25,26,27,28,29,30,31] (fS 22 4 3),Zd [18,19,20,21,24,25,26,27,28,29,30,31] [4] (lF 23 1 22),Zc [18,19,20,21,22,23,26,27,30] (fS 24 4 0),Zd [18,19,20,21,22,23,26,27,30] [6] (lF 25 1 24),Zc [18,19,20,21,22,23,24,25,30] (fS 26 3 1),Zd [18,19,20,21,22,23,24,25,30] [8] (lF 27 1 26),Zd [18,19,20,21,22,23,30] [6,7,8,9] (xS 28 1 25 27),Zd [18,19,20,21,22,23,30] [6,7,8,9,10] (lF 29 1 28),Zc [18,19,20,21,22,23,24,25,26,27,28,29] (mS 30 2),Zd [18,19,20,21,22,23] [6,7,8,9,10,11,12] (.call 31 [] (.f N3) [.s 29,.s 30]),Zd [18,19,20,21] [4,5,6,7,8,9,10,11,12,13] (.call 32 [] (.f N3) [.s 23,.s 31]),Ze (.range 15) (xS 33 1 19 21),{o:=sS 1 33 32,ws:=[0],bf:=(.range 16)}] [4,6]) (Zs [bC 35 .eql 8 5,mS 34 35] [3,4,6,8,34] (.cond (.s 34) (.dreg [Zc [38,39,40,41,42,43,44,45,46,47,48,49,50,51,52,53,54,55] (fS 36 4 0),Zd [38,39,40,41,42,43,44,45,46,47,48,49,50,51,52,53,54,55] [0] (lF 37 1 36),Zc [36,37,40,41,42,43,44,45,46,47,48,49,50,51,52,53,54,55] (fS 38 3 1),Zd [36,37,40,41,42,43,44,45,46,47,48,49,50,51,52,53,54,55] [2] (lF 39 1 38),Zc [36,37,38,39,42,43,44,45,46,47,48,49,50,51,52,53,54] (fS 40 4 3),Zd [36,37,38,39,42,43,44,45,46,47,48,49,50,51,52,53,54] [4] (lF 41 1 40),Zc [36,37,38,39,40,41,44,45,48,49,50,51,52,53] (fS 42 4 0),Zd [36,37,38,39,40,41,44,45,48,49,50,51,52,53] [6] (lF 43 1 42),Zc [36,37,38,39,40,41,42,43,48,49,50,51,52,53] (fS 44 3 2),Zd [36,37,38,39,40,41,42,43,48,49,50,51,52,53] [8] (lF 45 1 44),Zd [36,37,38,39,40,41,48,49,50,51,52,53] [6,7,8,9] (xS 46 1 43 45),Zd [36,37,38,39,40,41,48,49,50,51,52,53] [6,7,8,9,10] (lF 47 1 46),Zc [36,37,38,39,40,41,42,43,44,45,46,47,50,51] (fS 48 4 0),Zd [36,37,38,39,40,41,42,43,44,45,46,47,50,51] [12] (lF 49 1 48),Zc [36,37,38,39,40,41,42,43,44,45,46,47,48,49] (fS 50 3 3),Zd [36,37,38,39,40,41,42,43,44,45,46,47,48,49] [14] (lF 51 1 50),Zd [36,37,38,39,40,41,42,43,44,45,46,47] [12,13,14,15] (xS 52 1 49 51),Zd [36,37,38,39,40,41,42,43,44,45,46,47] [12,13,14,15,16] (lF 53 1 52),Zd [36,37,38,39,40,41] [6,7,8,9,10,11,12,13,14,15,16,17] (.call 54 [] (.f N3) [.s 47,.s 53]),Zd [36,37,38,39] [4,5,6,7,8,9,10,11,12,13,14,15,16,17,18] (.call 55 [] (.f N3) [.s 41,.s 54]),Ze (.range 20) (xS 56 1 37 39),{o:=sS 1 56 55,ws:=[0],bf:=(.range 21)}] [4,6]) (Zs [bC 58 .eql 8 6,mS 57 58] [3,4,6,8,57] (.cond (.s 57) (.dreg [Zc [61,62,63,64,65,66,67,68,69,70,71] (fS 59 4 2),Zd [61,62,63,64,65,66,67,68,69,70,71] [0] (lF 60 1 59),Zc [59,60,63,64,65,66,67,68,69,70,71] (fS 61 3 2),Zd [59,60,63,64,65,66,67,68,69,70,71] [2] (lF 62 1 61),Zc [59,60,61,62,65,66,67,68,69,70] (fS 63 4 3),Zd [59,60,61,62,65,66,67,68,69,70] [4] (lF 64 1 63),Zc [59,60,61,62,63,64,67,68] (fS 65 4 0),Zd [59,60,61,62,63,64,67,68] [6] (lF 66 1 65),Zc [59,60,61,62,63,64,65,66] (fS 67 3 1),Zd [59,60,61,62,63,64,65,66] [8] (lF 68 1 67),Zd [59,60,61,62,63,64] [6,7,8,9] (xS 69 1 66 68),Zd [59,60,61,62,63,64] [6,7,8,9,10] (lF 70 1 69),Zd [59,60,61,62] [4,5,6,7,8,9,10,11] (.call 71 [] (.f N3) [.s 64,.s 70]),Ze (.range 13) (xS 72 1 60 62),{o:=sS 1 72 71,ws:=[2],bf:=(.range 14)}] [4,6]) (Zs [bC 74 .eql 8 8,mS 73 74] [3,4,6,8,73] (.cond (.s 73) (.dreg [Zc [77,78,79,80,81,82,83,84,85,86,87] (fS 75 4 0),Zd [77,78,79,80,81,82,83,84,85,86,87] [0] (lF 76 1 75),Zc [75,76,79,80,81,82,83,84,85,86,87] (fS 77 3 1),Zd [75,76,79,80,81,82,83,84,85,86,87] [2] (lF 78 1 77),Zc [75,76,77,78,81,82,83,84,85,86] (fS 79 4 3),Zd [75,76,77,78,81,82,83,84,85,86] [4] (lF 80 1 79),Zc [75,76,77,78,79,80,83,84] (fS 81 4 1),Zd [75,76,77,78,79,80,83,84] [6] (lF 82 1 81),Zc [75,76,77,78,79,80,81,82] (fS 83 3 2),Zd [75,76,77,78,79,80,81,82] [8] (lF 84 1 83),Zd [75,76,77,78,79,80] [6,7,8,9] (xS 85 1 82 84),Zd [75,76,77,78,79,80] [6,7,8,9,10] (lF 86 1 85),Zd [75,76,77,78] [4,5,6,7,8,9,10,11] (.call 87 [] (.f N3) [.s 80,.s 86]),Ze (.range 13) (xS 88 1 76 78),{o:=sS 1 88 87,ws:=[0],bf:=(.range 14)}] [4,6]) (Zs [bC 90 .eql 8 9,mS 89 90] [3,4,6,89] (.cond (.s 89) (.dreg [Zc [93,94,95,96,97,98,99,100,101,102,103] (fS 91 4 1),Zd [93,94,95,96,97,98,99,100,101,102,103] [0] (lF 92 1 91),Zc [91,92,95,96,97,98,99,100,101,102,103] (fS 93 3 2),Zd [91,92,95,96,97,98,99,100,101,102,103] [2] (lF 94 1 93),Zc [91,92,93,94,97,98,99,100,101,102] (fS 95 4 3),Zd [91,92,93,94,97,98,99,100,101,102] [4] (lF 96 1 95),Zc [91,92,93,94,95,96,99,100] (fS 97 4 0),Zd [91,92,93,94,95,96,99,100] [6] (lF 98 1 97),Zc [91,92,93,94,95,96,97,98] (fS 99 3 1),Zd [91,92,93,94,95,96,97,98] [8] (lF 100 1 99),Zd [91,92,93,94,95,96] [6,7,8,9] (xS 101 1 98 100),Zd [91,92,93,94,95,96] [6,7,8,9,10] (lF 102 1 101),Zd [91,92,93,94] [4,5,6,7,8,9,10,11] (.call 103 [] (.f N3) [.s 96,.s 102]),Ze (.range 13) (xS 104 1 92 94),{o:=sS 1 104 103,ws:=[1],bf:=(.range 14)}] [4,6]) (pr [fS 9 4 0,lF 10 1 9,fS 11 3 1,lF 12 1 11,fS 13 4 3,lF 14 1 13,xS 15 1 10 12,sS 1 15 14] [4,6])))))))))))))
(Zs [lT 105 4 4,sS 4 6 105] [6] .ret)))
set_option maxHeartbeats 4000000 in
theorem Ce2(o:GOp)(m:GMarks)(got:Nat)(ho:opOk o=true)(h7:¬o.Kind=7)(hm:m.ok)(hg:got<1048576):CtrI Tryz.prog N3n [⟨true,[(false,tI o.Kind),(false,tI o.A),(false,tI o.B),(false,tI o.C)]⟩,oS (encM m),iI got] [none,none,none] [rS (encM (m.step1 o got))]:=by
 refine K3j (M:=M9o) (m:=3) (n:=106) (res:=[(.cell 6 true 4,[true,true,true,false])]) hmix Tryz.func205 rfl (by kernel_rfl) rfl (by kernel_rfl) (by kernel_rfl) (Nat.le_of_ble_eq_true rfl) rfl rfl ?_;unfold M9o
 intro hb
 clear hb
 obtain⟨i,hi,hA,h⟩:=K11 ho
 obtain⟨hl4,hl3,hn4,hv4,hv3,hvn,hp⟩:=hm
 have e20:2^20=1048576:=rfl
 rw[e20]at hv4 hv3 hvn hp
 obtain⟨K,A,B,C⟩:=o
 obtain⟨rg,sl,nd,p⟩:=m
 simp only at hA h h7 hl4 hl3 hn4 hv4 hv3 hvn hp
 subst hA
 have hgi:=K3a (l:=rg) (i:=i) (by omega)
 have hbi:nAt rg (i:Int)<1048576:=K13 hv4
 have hi0:(0:Int)≤(i:Int):=by omega
 have hi1:(i:Int)<((4:Nat):Int):=by omega
 have hr:∀k:Int,nAt rg k<1048576:=fun k=>K13 hv4
 have hsl:∀k:Int,nAt sl k<1048576:=fun k=>K13 hv3
 have hnd:∀k:Int,nAt nd k<1048576:=fun k=>K13 hvn
 rcases h with ⟨hk,j,z,hj,hz,hB,hC⟩|⟨hk,j,hj,hB⟩|⟨hk,hB1,hB3⟩|⟨hk,j,hj,hB⟩|⟨hk,j,hj,hB⟩|⟨hk,hk2⟩
 ·subst hk hB hC
  have hgj:=K3a (l:=rg) (i:=j) (by omega)
  have hgz:=K3a (l:=rg) (i:=z) (by omega)
  have a0:(0:Int)≤(j:Int):=by omega
  have a1:(j:Int)<((4:Nat):Int):=by omega
  have b0:(0:Int)≤(z:Int):=by omega
  have b1:(z:Int)<((4:Nat):Int):=by omega
  simp only[encM,GMarks.step1]
  simp only[go_sem,K1 hgj,K1 hgz,a0,a1,b0,b1,K9,hl4,hl3,hn4,Int.reduceEq]
  apply K0 (Cb _ _ (hr j) (hr z))
  simp only[go_sem]
  try intros
  apply K0 (Cb p _ hp (or_ltD (hr j) (hr z)))
  simp only[go_sem,K1 hgi,hi0,hi1,K9,hl4,hl3,hn4,K2i,List.length_set]
  try intros
  rw[Nat.or_comm p]
  try simp only[and_self]
 ·subst hk hB
  have hgj:=K3a (l:=nd) (i:=j) (by omega)
  have a0:(0:Int)≤(j:Int):=by omega
  have a1:(j:Int)<((4:Nat):Int):=by omega
  simp only[encM,GMarks.step1]
  simp only[go_sem,K1 hgi,hi0,hi1,K9,hl4,hl3,hn4,Int.reduceEq]
  apply K0 (Cb p _ hp (hr i))
  simp only[go_sem,K1 hgj,a0,a1,K9,hl4,hl3,hn4,K2i,List.length_set]
  try intros
  rw[Nat.or_comm p]
  try simp only[and_self]
 ·exact absurd hk h7
 ·subst hk hB
  have hgj:=K3a (l:=sl) (i:=j) (by omega)
  have a0:(0:Int)≤(j:Int):=by omega
  have a1:(j:Int)<((3:Nat):Int):=by omega
  simp only[encM,GMarks.step1]
  simp only[go_sem,K1 hgj,a0,a1,K9,hl4,hl3,hn4,Int.reduceEq]
  apply K0 (Cb p _ hp (hsl j))
  simp only[go_sem,K1 hgi,hi0,hi1,K9,hl4,hl3,hn4,K2i,List.length_set]
  try intros
  rw[Nat.or_comm p]
  try simp only[and_self]
 ·subst hk hB
  have a0:(0:Int)≤(j:Int):=by omega
  have hgj:=K3a (l:=sl) (i:=j) (by omega)
  have a1:(j:Int)<((3:Nat):Int):=by omega
  simp only[encM,GMarks.step1]
  simp only[go_sem,K1 hgi,hi0,hi1,K9,hl4,hl3,hn4,Int.reduceEq]
  apply K0 (Cb p _ hp (hr i))
  simp only[go_sem,K1 hgj,a0,a1,K9,hl4,hl3,hn4,K2i,List.length_set]
  try intros
  rw[Nat.or_comm p]
  try simp only[and_self]
 ·obtain rfl|hk3:K=1∨(K=2∨K=3∨K=4):=by omega
  ·simp only[encM,GMarks.step1]
   simp only[go_sem,K1 hgi,hi0,hi1,K9,hl4,hl3,hn4]
   apply K0 (Cb _ got (hr i) hg)
   simp only[go_sem]
   try intros
   apply K0 (Cb p _ hp (or_ltD (hr i) hg))
   simp only[go_sem,K1 hgi,hi0,hi1,K9,hl4,hl3,hn4,K2i,List.length_set]
   try intros
   rw[Nat.or_comm p]
   try simp only[and_self]
  ·rcases hk3 with rfl|rfl|rfl
   all_goals simp only[encM,GMarks.step1]
   all_goals (simp only[go_sem,K1 hgi,hi0,hi1,K9,hl4,hl3,hn4,K2i,List.length_set,Int.reduceEq])
def M9n:MC:=
(Zs [.box 5 3 (.s 2),.alloc 6 4 [.emp 1,.emp 1,.emp 1,pz]] [0,1,5,6] (.seq (.dreg [Zc [11,12,13,14,15,16,17,18,19] (fS 9 5 3),Zd [11,12,13,14,15,16,17,18,19] [0] (lF 10 1 9),Zc [9,10,13,14,15,16,17] (fS 11 5 0),Zd [9,10,13,14,15,16,17] [2] (lF 12 1 11),Zc [9,10,11,12,14] (mS 13 0),Zc [9,10,11,12,13] (mS 14 1),Zd [9,10,11,12] [4,5] (xS 15 4 13 14),Zd [9,10,11,12] [4,5,6] (fS 16 15 1),Zd [9,10,11,12] [4,5,6,7] (lF 17 1 16),Zd [9,10] [2,3,4,5,6,7,8] (xS 18 1 12 17),Zd [9,10] [2,3,4,5,6,7,8,9] (lF 19 1 18),Ze (.range 11) (.call 20 [] (.f N3) [.s 10,.s 19]),Ze (.range 12) (fS 21 5 3),{o:=sS 1 21 20,ws:=[3],bf:=(.range 13)}] [0,1,5,6])
(.seq (Zs [mS 22 1,bC 23 .add 22 1,mS 7 23] [0,1,5,6,7] (.block 0 (.loop ([0,1,5,6,7],[5]) (.seq (.seq (.reg [Za (mS 24 7),Za (mS 25 1),Za (mS 26 0),Za (mS 27 1),Za (xS 28 4 26 27),Za (fS 29 28 2),Za (lF 30 1 29),Za (bS 31 .add 25 30),Za (bS 32 .leq 24 31),Za (mS 33 32),Zb 33 true (mS 34 7),Zb 33 true (mS 35 0),Zb 33 true (nS 36 35),Zb 33 true (bS 37 .lss 34 36),Za (.pick 38 (.s 33) (.s 37) cF)] [0,1,5,6,7,38])
(cX 38 0))
(.seq (.block 1 (Zs [mS 41 0,mS 42 7,xS 43 4 41 42,lT 44 4 43,.alloc 8 5 [pz,pz,pz,pz],sS 4 8 44] [0,1,5,6,7,8] (Zs [fS 45 8 0,lF 46 1 45] [0,1,5,6,7,8,46] (.block 2 (Zs [bC 62 .eql 46 6,mS 61 62] [0,1,5,6,7,8,46,61] (.cond (.s 61) (.dreg [Zc [65,66,67,68,69,70,71,72,73,74,75] (fS 63 5 2),Zd [65,66,67,68,69,70,71,72,73,74,75] [0] (lF 64 1 63),Zc [63,64,67,68,69,70,71,72,73,74,75] (fS 65 8 2),Zd [63,64,67,68,69,70,71,72,73,74,75] [2] (lF 66 1 65),Zc [63,64,65,66,69,70,71,72,73,74] (fS 67 5 3),Zd [63,64,65,66,69,70,71,72,73,74] [4] (lF 68 1 67),Zc [63,64,65,66,67,68,71,72] (fS 69 5 2),Zd [63,64,65,66,67,68,71,72] [6] (lF 70 1 69),Zc [63,64,65,66,67,68,69,70] (fS 71 8 2),Zd [63,64,65,66,67,68,69,70] [8] (lF 72 1 71),Zd [63,64,65,66,67,68] [6,7,8,9] (xS 73 1 70 72),Zd [63,64,65,66,67,68] [6,7,8,9,10] (lF 74 1 73),Zd [63,64,65,66] [4,5,6,7,8,9,10,11] (.call 75 [] (.f N3) [.s 68,.s 74]),Ze (.range 13) (xS 76 1 64 66),{o:=sS 1 76 75,ws:=[2],bf:=(.range 14)}] [0,1,5,6,7]) (Zs [bC 78 .eql 46 9,mS 77 78] [0,1,5,6,7,8,46,77] (.cond (.s 77) (.dreg [Zc [81,82,83,84,85,86,87,88,89,90,91] (fS 79 5 1),Zd [81,82,83,84,85,86,87,88,89,90,91] [0] (lF 80 1 79),Zc [79,80,83,84,85,86,87,88,89,90,91] (fS 81 8 2),Zd [79,80,83,84,85,86,87,88,89,90,91] [2] (lF 82 1 81),Zc [79,80,81,82,85,86,87,88,89,90] (fS 83 5 3),Zd [79,80,81,82,85,86,87,88,89,90] [4] (lF 84 1 83),Zc [79,80,81,82,83,84,87,88] (fS 85 5 1),Zd [79,80,81,82,83,84,87,88] [6] (lF 86 1 85),Zc [79,80,81,82,83,84,85,86] (fS 87 8 2),Zd [79,80,81,82,83,84,85,86] [8] (lF 88 1 87),Zd [79,80,81,82,83,84] [6,7,8,9] (xS 89 1 86 88),Zd [79,80,81,82,83,84] [6,7,8,9,10] (lF 90 1 89),Zd [79,80,81,82] [4,5,6,7,8,9,10,11] (.call 91 [] (.f N3) [.s 84,.s 90]),Ze (.range 13) (xS 92 1 80 82),{o:=sS 1 92 91,ws:=[1],bf:=(.range 14)}] [0,1,5,6,7]) (Zs [bC 94 .eql 46 7,mS 93 94] [0,1,5,6,7,8,93] (.cond (.s 93) .skip (.dreg [Zc [49,50,51,52,53,54,55,56,57,58,59] (fS 47 5 0),Zd [49,50,51,52,53,54,55,56,57,58,59] [0] (lF 48 1 47),Zc [47,48,51,52,53,54,55,56,57,58,59] (fS 49 8 1),Zd [47,48,51,52,53,54,55,56,57,58,59] [2] (lF 50 1 49),Zc [47,48,49,50,53,54,55,56,57,58] (fS 51 5 3),Zd [47,48,49,50,53,54,55,56,57,58] [4] (lF 52 1 51),Zc [47,48,49,50,51,52,55,56] (fS 53 5 0),Zd [47,48,49,50,51,52,55,56] [6] (lF 54 1 53),Zc [47,48,49,50,51,52,53,54] (fS 55 8 1),Zd [47,48,49,50,51,52,53,54] [8] (lF 56 1 55),Zd [47,48,49,50,51,52] [6,7,8,9] (xS 57 1 54 56),Zd [47,48,49,50,51,52] [6,7,8,9,10] (lF 58 1 57),Zd [47,48,49,50] [4,5,6,7,8,9,10,11] (.call 59 [] (.f N3) [.s 52,.s 58]),Ze (.range 13) (xS 60 1 48 50),{o:=sS 1 60 59,ws:=[0],bf:=(.range 14)}] [0,1,5,6,7])))))))))))
(pr [mS 39 7,bC 40 .add 39 1,mS 7 40] [0,1,5,6,7]))))))
(Zs [lT 95 4 5,sS 4 6 95] [6] .ret))))
set_option maxHeartbeats 4000000 in
theorem Ce1(l:List GOp)(pc:Nat)(o:GOp)(m:GMarks)(h7:o.Kind=7)(hm:m.ok)(hl:∀x∈l,opOk x=true)(hpc:l[pc]? =some o)(hlen:l.length≤1073741824):CtrI Tryz.prog N3m [⟨false,[(false,.sl 4 (l.map GOp.enc))]⟩,iI pc,oS (encM m)] [none,none,none] [rS (encM ((m.pathed o).skipN l pc o.B.toNat))]:=by
 refine K3j (M:=M9n) (m:=3) (n:=96) (res:=[(.cell 6 true 4,[true,true,true,false])]) hmix Tryz.func204 rfl (by kernel_rfl) rfl (by kernel_rfl) (by kernel_rfl) (Nat.le_of_ble_eq_true rfl) rfl rfl ?_;unfold M9n
 intro hb
 clear hb
 have hlt:=Ka hpc
 have ho:=hl o (Km hpc)
 obtain⟨i,hi,hA,h⟩:=K11 ho
 have hMk:(m.pathed o).ok:=GMarks.pathed_ok hm
 obtain⟨K,A,B,C⟩:=o
 simp only at hA h h7
 have hB:1≤B∧B≤3:=by omega
 obtain⟨z,rfl⟩:∃z:Nat,B=z:=⟨B.toNat,by omega⟩
 subst h7 hA
 obtain⟨hl4,hl3,hn4,hv4,hv3,hvn,hp⟩:=hm
 have e20:2^20=1048576:=rfl
 rw[e20]at hv4 hv3 hvn hp
 obtain⟨M,hM⟩:∃M,M=m.pathed ⟨7,i,z,C⟩:=⟨_,rfl⟩
 rw[←hM]at hMk ⊢
 obtain⟨rg,sl,nd,p⟩:=m
 simp only at hl4 hl3 hn4 hv4 hv3 hvn hp
 have hMe:M=⟨rg,sl,nd,p|||nAt rg i⟩:=hM
 have hgi:=K3a (l:=rg) (i:=i) (by omega)
 have hi0:(0:Int)≤(i:Int):=by omega
 have hi1:(i:Int)<((4:Nat):Int):=by omega
 have hpc0:(0:Int)≤(pc:Int):=by omega
 have hpc1:(pc:Int)<(l.length:Int):=by omega
 simp only[encM]
 simp only[go_sem,K1 hpc,K1 hgi,hi0,hi1,hpc0,hpc1,hl4,hl3,hn4,K9]
 apply K0 (Cb p _ hp (K13 hv4))
 simp only[go_sem]
 try intros
 refine Kl (fun n:Nat=>[(7,vI ((pc+1+n:Nat):Int))]) (fun n=>[(0,⟨1,.row true 1 ((natI (M.skipN l pc n).rg).map encI)⟩),(1,⟨1,.row true 1 ((natI (M.skipN l pc n).sl).map encI)⟩),(2,⟨1,.row true 1 ((natI (M.skipN l pc n).nd).map encI)⟩)]) (fun n=>n≤z) (fun n=>z-n) 0 ?_
 have hb0:IntKind.i64.wrap ((pc:Int)+1)=((pc+1:Nat):Int):=by rw[wI (by omega) (by omega)];omega
 simp only[go_sem,hb0]
 refine⟨?_,Nat.zero_le _,?_⟩
 ·have e0:M.skipN l pc 0=M:=rfl
  rw[e0,hMe]
  simp only[go_sem]
  done
 ·intro n hn
  have hN:(M.skipN l pc n).ok:=GMarks.fold_ok hMk
  have hpath:(M.skipN l pc n).path=p|||nAt rg i:=by
   unfold GMarks.skipN
   rw[GMarks.fold_path,hMe]
  have w1:IntKind.i64.wrap ((pc:Int)+(z:Int))=((pc+z:Nat):Int):=by rw[wI (by omega) (by omega)];omega
  have w2:IntKind.i64.wrap (((pc+1+n:Nat):Int)+1)=((pc+1+(n+1):Nat):Int):=by rw[wI (by omega) (by omega)];omega
  by_cases hc:n<z∧pc+1+n<l.length
  ·obtain⟨x,hx⟩:=K7 hc.2
   have hxo:=hl x (Km hx)
   have hS:M.skipN l pc (n+1)=(M.skipN l pc n).skip1 x:=GMarks.skipN_succ hx
   have k0:(0:Int)≤((pc+1+n:Nat):Int):=by omega
   have k1:((pc+1+n:Nat):Int)≤((pc+z:Nat):Int):=by omega
   have k2:((pc+1+n:Nat):Int)<(l.length:Int):=by omega
   obtain⟨N,hNe⟩:∃N,N=M.skipN l pc n:=⟨_,rfl⟩
   rw[←hNe]at hN hpath hS ⊢
   obtain⟨g4,g3,gn4,gv4,gv3,gvn,gp⟩:=hN
   rw[e20]at gv4 gv3 gvn gp
   obtain⟨rg',sl',nd',p'⟩:=N
   simp only at g4 g3 gn4 gv4 gv3 gvn gp hpath
   subst hpath
   simp only[go_sem,K1 hpc,K1 hx,hpc0,hpc1,w1,w2,k0,k1,k2,g4,g3,gn4,K9]
   obtain⟨i',hi',hA',h'⟩:=K11 hxo
   obtain⟨xk,xa,xb,xc⟩:=x
   simp only at hA' h'
   subst hA'
   have hkind:(xk=6∧∃j:Nat,j<4∧xb=j)∨(xk=9∧∃j:Nat,j<3∧xb=j)∨xk=7∨(¬xk=7∧¬xk=6∧¬xk=9):=by
    rcases h' with ⟨hk,j,m',hj,hm',hB',hC'⟩|⟨hk,j,hj,hB'⟩|⟨hk,_,_⟩|⟨hk,j,hj,hB'⟩|⟨hk,j,hj,hB'⟩|⟨hk,hk2⟩
    ·omega
    ·exact .inl ⟨hk,j,hj,hB'⟩
    ·omega
    ·omega
    ·exact .inr (.inl ⟨hk,j,hj,hB'⟩)
    ·omega
   rcases hkind with ⟨rfl,j,hj,rfl⟩|⟨rfl,j,hj,rfl⟩|rfl|⟨g7,g6,g9⟩
   ·have hgj:=K3a (l:=nd') (i:=j) (by omega)
    have a0:(0:Int)≤(j:Int):=by omega
    have a1:(j:Int)<((4:Nat):Int):=by omega
    have hsk:∀m:GMarks,m.skip1 ⟨6,i',j,xc⟩={m with nd:=m.nd.set j (nAt m.nd j|||m.path)}:=fun m=>by simp[GMarks.skip1]
    rw[hsk]at hS
    simp only[go_sem,K1 hgj,a0,a1,Int.reduceEq]
    apply K0 (Cb _ _ gp (K13 gvn))
    simp only[go_sem,K1 hgj,a0,a1,gn4,w2,K9,K2i]
    try intros
    refine⟨n+1,?_,by omega,by omega⟩
    rw[hS,Nat.or_comm (nAt nd' _)]
    try simp only[and_self]
   ·have hgj:=K3a (l:=sl') (i:=j) (by omega)
    have a0:(0:Int)≤(j:Int):=by omega
    have a1:(j:Int)<((3:Nat):Int):=by omega
    have hsk:∀m:GMarks,m.skip1 ⟨9,i',j,xc⟩={m with sl:=m.sl.set j (nAt m.sl j|||m.path)}:=fun m=>by simp[GMarks.skip1]
    rw[hsk]at hS
    simp only[go_sem,K1 hgj,a0,a1,Int.reduceEq]
    apply K0 (Cb _ _ gp (K13 gv3))
    simp only[go_sem,K1 hgj,a0,a1,g3,w2,K9,K2i]
    try intros
    refine⟨n+1,?_,by omega,by omega⟩
    rw[hS,Nat.or_comm (nAt sl' _)]
    try simp only[and_self]
   ·have hsk:∀m:GMarks,m.skip1 ⟨7,i',xb,xc⟩=m:=fun m=>by simp[GMarks.skip1]
    rw[hsk]at hS
    simp only[go_sem,Int.reduceEq]
    try intros
    refine⟨n+1,?_,by omega,by omega⟩
    rw[hS]
    try simp only[and_self]
   ·have hgj:=K3a (l:=rg') (i:=i') (by omega)
    have a0:(0:Int)≤(i':Int):=by omega
    have a1:(i':Int)<((4:Nat):Int):=by omega
    have hsk:∀m:GMarks,m.skip1 ⟨xk,i',xb,xc⟩={m with rg:=m.rg.set i' (nAt m.rg i'|||m.path)}:=fun m=>by simp[GMarks.skip1,g7,g6,g9]
    rw[hsk]at hS
    simp only[go_sem,K1 hgj,a0,a1,g7,g6,g9]
    apply K0 (Cb _ _ gp (K13 gv4))
    simp only[go_sem,K1 hgj,a0,a1,g4,w2,K9,K2i]
    try intros
    refine⟨n+1,?_,by omega,by omega⟩
    rw[hS,Nat.or_comm (nAt rg' _)]
    try simp only[and_self]
  ·have hall:M.skipN l pc z=M.skipN l pc n:=by
    by_cases hz:n=z
    ·rw[hz]
    ·exact GMarks.skipN_all (by omega) hn
   rw[hall]
   obtain⟨N,hNe⟩:∃N,N=M.skipN l pc n:=⟨_,rfl⟩
   rw[←hNe]at hN hpath ⊢
   obtain⟨g4,g3,gn4,gv4,gv3,gvn,gp⟩:=hN
   obtain⟨rg',sl',nd',p'⟩:=N
   simp only at g4 g3 gn4 gv4 gv3 gvn gp hpath
   subst hpath
   by_cases k1:((pc+1+n:Nat):Int)≤((pc+z:Nat):Int)
   ·have k2:¬((pc+1+n:Nat):Int)<(l.length:Int):=by omega
    simp only[go_sem,k2,K1 hpc,hpc0,hpc1,g4,g3,gn4,K9]
   ·simp only[go_sem,w1,k1,K1 hpc,hpc0,hpc1,g4,g3,gn4,K9]
end Go.Proofs.YtjneccbpkckdfaaGreatR
namespace Go.Proofs.YtjneccbpkckdfaaGreatR
open Go Go.RowKit Go.Proofs
open Nat (reduceEqDiff reduceLT reduceLeDiff reduceAdd reduceMul)
open List (reduceReplicate)
theorem t4:Int.toNat 4=4:=rfl
def Ky(out:List Int)(c:GChoice):List Int:=if 0≤c.Rule∧c.Rule<4 then out.set c.Rule.toNat (IntKind.i64.wrap (zAt out c.Rule+1))else out
def K14(l:List GChoice):List Int:=l.foldl Ky [0,0,0,0]
theorem K74{l:List GChoice}{k:Nat}{c:GChoice}(h:l[k]? =some c):K14 (l.take (k+1))=Ky (K14 (l.take k)) c:=by
 rw[Kk h,K14,List.foldl_append];rfl
theorem Kay{out:List Int}{c:GChoice}:(Ky out c).length=out.length:=by
 unfold Ky;split<;>simp
theorem K9z:∀(l:List GChoice) (out:List Int),(l.foldl Ky out).length=out.length
 | [],_=>rfl
 |c::l,out=>by rw[List.foldl_cons,K9z l,Kay]
theorem K2e(l:List GChoice):(K14 l).length=4:=by unfold K14;rw[K9z];rfl
theorem Kaz:∀(l:List GChoice) (out:List Int) (N:Nat),N+l.length≤1073741824→(∀x∈out,0≤x∧x≤N)→∀x∈l.foldl Ky out,0≤x∧x≤((N+l.length:Nat):Int)
 | [],out,N,_,h=>by simpa using h
 |c::l,out,N,hN,h=>by
  rw[List.foldl_cons]
  have h2:=Kaz l (Ky out c) (N+1) (by simp only[List.length_cons]at hN;omega) (fun x hx=>by
   unfold Ky at hx
   split at hx
   ·rcases List.mem_or_eq_of_mem_set hx with hx|rfl
    ·have:=h x hx;omega
    ·have hz:0≤zAt out c.Rule∧zAt out c.Rule≤N:=by
      unfold zAt
      cases hq:out[c.Rule.toNat]? with
      |none=>simp
      |some y=>exact h y (Km hq)
     rw[wI (by omega) (by omega)]
     omega
   ·have:=h x hx;omega)
  intro x hx
  have:=h2 x hx
  simp only[List.length_cons]
  omega
theorem rulesOf_le{l:List GChoice}(hl:l.length≤1073741824):∀x∈K14 l,0≤x∧x≤l.length:=by
 have:=Kaz l [0,0,0,0] 0 (by omega) (by simp)
 simpa[K14]using this
def M4u:MC:=
(Zs [.nilo 2 0 1] [0] (Zs [.mk 6 0 1 8 [.sc (.int .i64 0)] (ci 4),mS 3 6] [0,3] (.seq (Zs [mS 7 0,nS 8 7,.mv 9 (ci 0)] [3,7,8,9] (.block 0 (.loop ([3,7,8,9],[1]) (Zs [bS 10 .lss 9 8] [3,7,8,9,10] (.seq (cX 10 0)
(.seq (.block 1 (Zs [xS 11 2 7 9,lT 12 2 11,.alloc 5 1 [pz,pz],sS 2 5 12] [3,5,7,8,9] (Zs [fS 13 5 0,lF 14 1 13,.call 15 [] (.f N1f) [.s 14,.c (.int .i64 4)]] [3,5,7,8,9,15] (.cond (.s 15) (pr [mS 16 3,fS 17 5 0,lF 18 1 17,xS 19 1 16 18,lF 20 1 19,bC 21 .add 20 1,xS 22 1 16 18,sS 1 22 21] [3,7,8,9]) .skip))))
(pr [bC 23 .add 9 1,mS 9 23] [3,7,8,9])))))))
(Zs [mS 24 3,mS 2 24] [2] .ret))))
set_option maxHeartbeats 2000000 in
theorem Cbt(l:List GChoice)(hl:l.length≤1073741824):Ctr Tryz.prog N5p [aL 2 (l.map GChoice.enc)] [rL 1 ((K14 l).map encI)]:=by
 refine cA M4u 2 25 [(.tmp 2,[true])] Tryz.func192 rfl rfl ?_;unfold M4u
 intro hb
 clear hb
 simp only[go_sem]
 refine⟨⟨by omega,by simp only[roomB];omega⟩,?_⟩
 refine K4 l (fun k=>[(9,vI k)]) (fun k=>[(0,⟨0,.row true 1 ((K14 (l.take k)).map encI)⟩)]) (fun _=>True) (by simp only[roomB];omega) ?_
 simp only[go_sem,t4]
 refine⟨?_,trivial,?_,?_⟩
 ·simp only[go_sem,List.take_zero]
  first|done|rfl|exact⟨rfl,rfl⟩
 ·intro k c hx _ h0 h1 hw
  have hk:=Ka hx
  have hlen:=K2e (l.take k)
  rw[K74 hx]
  generalize K14 (l.take k)=out at*
  simp only[go_sem,K1 hx,h0,h1]
  apply K0 (Cb9 c.Rule 4)
  simp only[go_sem,hw,hlen]
  refine⟨fun h=>?_,fun h=>?_⟩
  ·obtain⟨y,hy⟩:=K7 (l:=out) (k:=c.Rule.toNat) (by omega)
   have hr0:(0:Int)≤c.Rule:=h.1
   have hr1:c.Rule<4:=by omega
   have e:Ky out c=out.set c.Rule.toNat (IntKind.i64.wrap (y+1)):=by
    unfold Ky
    rw[if_pos ⟨hr0,hr1⟩,show zAt out c.Rule=y by simp[zAt,hy]]
   rw[e]
   simp only[go_sem,K1 hy,hr0]
   exact⟨by omega,by omega,by rw[List.map_set];rfl⟩
  ·have e:Ky out c=out:=by
    unfold Ky
    rw[if_neg (by omega)]
   rw[e]
 ·intro _
  simp only[go_sem,List.take_length,K2e]
def M5g:MC:=
(Zs [.nilo 2 0 1] [0] (Zs [.lit 5 0 1 8 [.c (.int .i64 0),.c (.int .i64 0),.c (.int .i64 0),.c (.int .i64 0)],mS 3 5] [0,3] (.seq (Zs [.mv 4 (ci 0)] [0,3,4] (.block 0 (.loop ([0,3,4],[]) (.seq (Zs [mS 6 4,mS 7 0,nS 8 7,bS 9 .lss 6 8] [0,3,4,9] (cX 9 0))
(.seq (.block 1 (Zs [mS 12 0,mS 13 4,xS 14 2 12 13,fS 15 14 0,lF 16 1 15,.call 17 [] (.f N0) [.s 16,.c (.int .i64 0),.c (.int .i64 3)]] [0,3,4,17] (.cond (.s 17) (.dreg [Zc [19,20,21,22,23,24,25,26,27,28,29,30,31,32] (mS 18 3),Zc [18,20,24,25,26,27,28,29,30,31,32] (mS 19 0),Zc [18,19,24,25,26,27,28,29,30,31,32] (mS 20 4),Zd [18,24,25,26,27,28,29,30,31,32] [1,2] (xS 21 2 19 20),Zd [18,24,25,26,27,28,29,30,31,32] [1,2,3] (fS 22 21 0),Zd [18,24,25,26,27,28,29,30,31,32] [1,2,3,4] (lF 23 1 22),Zc [18,19,20,21,22,23,25,26,27,28,29] (mS 24 3),Zc [18,19,20,21,22,23,24,26] (mS 25 0),Zc [18,19,20,21,22,23,24,25] (mS 26 4),Zd [18,19,20,21,22,23,24] [7,8] (xS 27 2 25 26),Zd [18,19,20,21,22,23,24] [7,8,9] (fS 28 27 0),Zd [18,19,20,21,22,23,24] [7,8,9,10] (lF 29 1 28),Zd [18,19,20,21,22,23] [6,7,8,9,10,11] (xS 30 1 24 29),Zd [18,19,20,21,22,23] [6,7,8,9,10,11,12] (lF 31 1 30),Zd [18,19,20,21,22,23] [6,7,8,9,10,11,12,13] (bC 32 .add 31 1),Ze (.range 15) (xS 33 1 18 23),{o:=sS 1 33 32,ws:=[0],bf:=(.range 16)}] [0,3,4]) .skip)))
(pr [mS 10 4,bC 11 .add 10 1,mS 4 11] [0,3,4]))))))
(Zs [mS 34 3,mS 2 34] [2] .ret))))
set_option maxHeartbeats 2000000 in
theorem Ccb(l:List GChoice)(hl:l.length≤1073741824):Ctr Tryz.prog N69 [aL 2 (l.map GChoice.enc)] [rL 1 ((K14 l).map encI)]:=by
 refine cA M5g 1 35 [(.tmp 2,[true])] Tryz.func191 rfl rfl ?_;unfold M5g
 intro hb
 clear hb
 simp only[go_sem]
 refine⟨⟨by simp,by simp only[roomB];omega⟩,?_⟩
 refine K4 l (fun k=>[(4,vI k)]) (fun k=>[(0,⟨0,.row true 1 ((K14 (l.take k)).map encI)⟩)]) (fun _=>True) (by simp only[roomB];omega) ?_
 simp only[go_sem]
 refine⟨?_,trivial,?_,?_⟩
 ·simp only[go_sem,List.take_zero]
  first|done|rfl|exact⟨rfl,rfl⟩
 ·intro k c hx _ h0 h1 hw
  have hk:=Ka hx
  have hlen:=K2e (l.take k)
  rw[K74 hx]
  generalize K14 (l.take k)=out at*
  simp only[go_sem,K1 hx,h0,h1]
  apply K0 (C2 c.Rule 0 3)
  simp only[go_sem,K1 hx,h0,h1,hw,hlen]
  refine⟨fun h=>?_,fun h=>?_⟩
  ·obtain⟨y,hy⟩:=K7 (l:=out) (k:=c.Rule.toNat) (by omega)
   have hr0:(0:Int)≤c.Rule:=h.1
   have hr1:c.Rule<4:=by omega
   have e:Ky out c=out.set c.Rule.toNat (IntKind.i64.wrap (y+1)):=by
    unfold Ky
    rw[if_pos ⟨hr0,hr1⟩,show zAt out c.Rule=y by simp[zAt,hy]]
   rw[e]
   simp only[go_sem,K1 hy,hr0]
   exact⟨by omega,by omega,by rw[List.map_set];rfl⟩
  ·have e:Ky out c=out:=by
    unfold Ky
    rw[if_neg (by omega)]
   rw[e]
 ·intro _
  simp only[go_sem,List.take_length,K2e]
theorem K8q{l:List GChoice}(hl:l.length≤1073741824):∃n0 n1 n2 n3:Int,K14 l=[n0,n1,n2,n3]∧(0≤n0∧n0≤1073741824)∧(0≤n1∧n1≤1073741824)∧(0≤n2∧n2≤1073741824)∧(0≤n3∧n3≤1073741824):=by
 have h1:=K2e l
 have h2:=rulesOf_le hl
 generalize K14 l=r at*
 match r,h1 with
 | [n0,n1,n2,n3],_=>
  have a0:=h2 n0 (by simp)
  have a1:=h2 n1 (by simp)
  have a2:=h2 n2 (by simp)
  have a3:=h2 n3 (by simp)
  exact⟨n0,n1,n2,n3,rfl,by omega,by omega,by omega,by omega⟩
def qual4(n0 n1 n2 n3:Int):Int:=if n0+n1+n2+n3=0 then 100 else Int.tdiv (100*(6*n0+4*n1+n2)) (6*(n0+n1+n2+n3))
def K73(l:List GChoice):Int:=match K14 l with
 | [n0,n1,n2,n3]=>qual4 n0 n1 n2 n3
 |_=>0
theorem K9y{l:List GChoice}{n0 n1 n2 n3:Int}(e:K14 l=[n0,n1,n2,n3]):K73 l=qual4 n0 n1 n2 n3:=by
 unfold K73;rw[e]
def Y19(v0:Nat):MC:=
(Zs [.mv 2 (ci 0)] [0] (Zs [mS 5 0,.call 6 [0] (.f v0) [.s 5],mS 3 6] [3] (.seq (.dreg [Zc [10,11,12,14,15,16,18,19,20] (mS 7 3),Zd [10,11,12,14,15,16,18,19,20] [0] (.idx 8 1 (.s 7) (ci 0)),Zd [10,11,12,14,15,16,18,19,20] [0,1] (lF 9 1 8),Zc [7,8,9,14,15,16,18,19,20] (mS 10 3),Zd [7,8,9,14,15,16,18,19,20] [3] (.idx 11 1 (.s 10) (ci 1)),Zd [7,8,9,14,15,16,18,19,20] [3,4] (lF 12 1 11),Zd [14,15,16,18,19,20] (.range 6) (bS 13 .add 9 12),Zc [7,8,9,10,11,12,13,18,19,20] (mS 14 3),Zd [7,8,9,10,11,12,13,18,19,20] [7] (.idx 15 1 (.s 14) (ci 2)),Zd [7,8,9,10,11,12,13,18,19,20] [7,8] (lF 16 1 15),Zd [18,19,20] (.range 10) (bS 17 .add 13 16),Zc [7,8,9,10,11,12,13,14,15,16,17] (mS 18 3),Zd [7,8,9,10,11,12,13,14,15,16,17] [11] (.idx 19 1 (.s 18) (ci 3)),Zd [7,8,9,10,11,12,13,14,15,16,17] [11,12] (lF 20 1 19),Ze (.range 14) (bS 21 .add 17 20),Ze (.range 15) (mS 4 21)] [3,4])
(.seq (Zs [mS 22 4,bC 23 .eql 22 0] [3,4,23] (.cond (.s 23) (Zs [.mv 2 (ci 100)] [2] .ret) .skip))
(.seq (.dreg [Zc [28,29,30,31,33,34,35,38,39] (mS 24 3),Zd [28,29,30,31,33,34,35,38,39] [0] (.idx 25 1 (.s 24) (ci 0)),Zd [28,29,30,31,33,34,35,38,39] [0,1] (lF 26 1 25),Zd [28,29,30,31,33,34,35,38,39] [0,1,2] (.bin 27 false .mul (ci 6) (.s 26)),Zc [24,25,26,27,33,34,35,38,39] (mS 28 3),Zd [24,25,26,27,33,34,35,38,39] [4] (.idx 29 1 (.s 28) (ci 1)),Zd [24,25,26,27,33,34,35,38,39] [4,5] (lF 30 1 29),Zd [24,25,26,27,33,34,35,38,39] [4,5,6] (.bin 31 false .mul (ci 4) (.s 30)),Zd [33,34,35,38,39] (.range 8) (bS 32 .add 27 31),Zc [24,25,26,27,28,29,30,31,32,38,39] (mS 33 3),Zd [24,25,26,27,28,29,30,31,32,38,39] [9] (.idx 34 1 (.s 33) (ci 2)),Zd [24,25,26,27,28,29,30,31,32,38,39] [9,10] (lF 35 1 34),Zd [38,39] (.range 12) (bS 36 .add 32 35),Zd [38,39] (.range 13) (.bin 37 false .mul (ci 100) (.s 36)),Zc [24,25,26,27,28,29,30,31,32,33,34,35,36,37] (mS 38 4),Zd [24,25,26,27,28,29,30,31,32,33,34,35,36,37] [14] (.bin 39 false .mul (ci 6) (.s 38)),Ze (.range 16) (bS 40 .quo 37 39),Ze (.range 17) (mS 2 40)] [2])
.ret)))))
attribute [go_sem] Y19
def M6n:MC:=Y19 N5p
set_option maxHeartbeats 2000000 in
theorem Cct(l:List GChoice)(hl:l.length≤1073741824):Ctr Tryz.prog N7g [aL 2 (l.map GChoice.enc)] [rI (K73 l)]:=by
 refine cA M6n 1 41 [(.tmp 2,[false])] Tryz.func103 rfl rfl ?_;unfold M6n
 intro hb
 clear hb
 simp only[go_sem]
 apply K0 (Cbt l hl)
 simp only[go_sem,K2e]
 intros
 obtain⟨n0,n1,n2,n3,e,b0,b1,b2,b3⟩:=K8q hl
 have hq:=K9y e
 have hw1:IntKind.i64.wrap (n0+n1)=n0+n1:=wI (by omega) (by omega)
 have hw2:IntKind.i64.wrap (n0+n1+n2)=n0+n1+n2:=wI (by omega) (by omega)
 have hw3:IntKind.i64.wrap (n0+n1+n2+n3)=n0+n1+n2+n3:=wI (by omega) (by omega)
 rw[e]
 have g1:([n0,n1,n2,n3]:List Int)[Int.toNat 1]? =some n1:=rfl
 have g2:([n0,n1,n2,n3]:List Int)[Int.toNat 2]? =some n2:=rfl
 have g3:([n0,n1,n2,n3]:List Int)[Int.toNat 3]? =some n3:=rfl
 have c4:((4:Nat):Int)=4:=rfl
 have l0:(0:Int)≤0:=by omega
 have l1:(0:Int)≤1:=by omega
 have l2:(0:Int)≤2:=by omega
 have l3:(0:Int)≤3:=by omega
 have m0:(0:Int)<4:=by omega
 have m1:(1:Int)<4:=by omega
 have m2:(2:Int)<4:=by omega
 have m3:(3:Int)<4:=by omega
 have v1:IntKind.i64.wrap (6*n0)=6*n0:=wI (by omega) (by omega)
 have v2:IntKind.i64.wrap (4*n1)=4*n1:=wI (by omega) (by omega)
 have v3:IntKind.i64.wrap (6*n0+4*n1)=6*n0+4*n1:=wI (by omega) (by omega)
 have v4:IntKind.i64.wrap (6*n0+4*n1+n2)=6*n0+4*n1+n2:=wI (by omega) (by omega)
 have v5:IntKind.i64.wrap (100*(6*n0+4*n1+n2))=100*(6*n0+4*n1+n2):=wI (by omega) (by omega)
 have v6:IntKind.i64.wrap (6*(n0+n1+n2+n3))=6*(n0+n1+n2+n3):=wI (by omega) (by omega)
 rw[hq]
 by_cases hz:n0+n1+n2+n3=0
 ·have hqz:qual4 n0 n1 n2 n3=100:=by unfold qual4;rw[if_pos hz]
  simp only[go_sem,c4,l0,l1,l2,l3,m0,m1,m2,m3,K1 g1,K1 g2,K1 g3,hw1,hw2,hz,hqz]
  intro h
  exact(h (wI (by omega) (by omega))).elim
 ·have hqz:qual4 n0 n1 n2 n3=Int.tdiv (100*(6*n0+4*n1+n2)) (6*(n0+n1+n2+n3)):=by unfold qual4;rw[if_neg hz]
  have hne:¬6*(n0+n1+n2+n3)=0:=by omega
  simp only[go_sem,c4,l0,l1,l2,l3,m0,m1,m2,m3,K1 g1,K1 g2,K1 g3,hw1,hw2,hw3,hz,v1,v2,v3,v4,v5,v6,hne,hqz]
  have q0:0≤(100*(6*n0+4*n1+n2)).tdiv (6*(n0+n1+n2+n3)):=Int.tdiv_nonneg (by omega) (by omega)
  have q1:(100*(6*n0+4*n1+n2)).tdiv (6*(n0+n1+n2+n3))≤100*(6*n0+4*n1+n2):=Int.tdiv_le_self _ (by omega)
  exact wI (by omega) (by omega)
def M79:MC:=Y19 N69
set_option maxHeartbeats 2000000 in
theorem Cdb(l:List GChoice)(hl:l.length≤1073741824):Ctr Tryz.prog N81 [aL 2 (l.map GChoice.enc)] [rI (K73 l)]:=by
 refine cA M79 1 41 [(.tmp 2,[false])] Tryz.func102 rfl rfl ?_;unfold M79
 intro hb
 clear hb
 simp only[go_sem]
 apply K0 (Ccb l hl)
 simp only[go_sem,K2e]
 intros
 obtain⟨n0,n1,n2,n3,e,b0,b1,b2,b3⟩:=K8q hl
 have hq:=K9y e
 have hw1:IntKind.i64.wrap (n0+n1)=n0+n1:=wI (by omega) (by omega)
 have hw2:IntKind.i64.wrap (n0+n1+n2)=n0+n1+n2:=wI (by omega) (by omega)
 have hw3:IntKind.i64.wrap (n0+n1+n2+n3)=n0+n1+n2+n3:=wI (by omega) (by omega)
 rw[e]
 have g1:([n0,n1,n2,n3]:List Int)[Int.toNat 1]? =some n1:=rfl
 have g2:([n0,n1,n2,n3]:List Int)[Int.toNat 2]? =some n2:=rfl
 have g3:([n0,n1,n2,n3]:List Int)[Int.toNat 3]? =some n3:=rfl
 have c4:((4:Nat):Int)=4:=rfl
 have l0:(0:Int)≤0:=by omega
 have l1:(0:Int)≤1:=by omega
 have l2:(0:Int)≤2:=by omega
 have l3:(0:Int)≤3:=by omega
 have m0:(0:Int)<4:=by omega
 have m1:(1:Int)<4:=by omega
 have m2:(2:Int)<4:=by omega
 have m3:(3:Int)<4:=by omega
 have v1:IntKind.i64.wrap (6*n0)=6*n0:=wI (by omega) (by omega)
 have v2:IntKind.i64.wrap (4*n1)=4*n1:=wI (by omega) (by omega)
 have v3:IntKind.i64.wrap (6*n0+4*n1)=6*n0+4*n1:=wI (by omega) (by omega)
 have v4:IntKind.i64.wrap (6*n0+4*n1+n2)=6*n0+4*n1+n2:=wI (by omega) (by omega)
 have v5:IntKind.i64.wrap (100*(6*n0+4*n1+n2))=100*(6*n0+4*n1+n2):=wI (by omega) (by omega)
 have v6:IntKind.i64.wrap (6*(n0+n1+n2+n3))=6*(n0+n1+n2+n3):=wI (by omega) (by omega)
 rw[hq]
 by_cases hz:n0+n1+n2+n3=0
 ·have hqz:qual4 n0 n1 n2 n3=100:=by unfold qual4;rw[if_pos hz]
  simp only[go_sem,c4,l0,l1,l2,l3,m0,m1,m2,m3,K1 g1,K1 g2,K1 g3,hw1,hw2,hz,hqz]
  intro h
  exact(h (wI (by omega) (by omega))).elim
 ·have hqz:qual4 n0 n1 n2 n3=Int.tdiv (100*(6*n0+4*n1+n2)) (6*(n0+n1+n2+n3)):=by unfold qual4;rw[if_neg hz]
  have hne:¬6*(n0+n1+n2+n3)=0:=by omega
  simp only[go_sem,c4,l0,l1,l2,l3,m0,m1,m2,m3,K1 g1,K1 g2,K1 g3,hw1,hw2,hw3,hz,v1,v2,v3,v4,v5,v6,hne,hqz]
  have q0:0≤(100*(6*n0+4*n1+n2)).tdiv (6*(n0+n1+n2+n3)):=Int.tdiv_nonneg (by omega) (by omega)
  have q1:(100*(6*n0+4*n1+n2)).tdiv (6*(n0+n1+n2+n3))≤100*(6*n0+4*n1+n2):=Int.tdiv_le_self _ (by omega)
  exact wI (by omega) (by omega)
end Go.Proofs.YtjneccbpkckdfaaGreatR
namespace Go.Proofs.YtjneccbpkckdfaaGreatR
open Go Go.RowKit Go.Proofs
open Nat (reduceEqDiff reduceLT reduceLeDiff reduceAdd reduceMul)
open List (reduceReplicate)
end Go.Proofs.YtjneccbpkckdfaaGreatR
namespace Go.Proofs.YtjneccbpkckdfaaGreatR
open Go Go.RowKit Go.Proofs
open Nat (reduceEqDiff reduceLT reduceLeDiff reduceAdd reduceMul)
open List (reduceReplicate)
def sumI(l:List Int):Int:=l.foldl (· + ·) 0
theorem K7a{l:List Int}{k:Nat}{x:Int}(h:l[k]? =some x):sumI (l.take (k+1))=sumI (l.take k)+x:=by
 rw[Kk h,sumI,List.foldl_append];rfl
theorem K5x{l:List Int}(h:K1e l 0 255=true):∀k:Nat,0≤sumI (l.take k)∧sumI (l.take k)≤255*(k:Int)
 |0=>by simp[sumI]
 |k+1=>by
  have ih:=K5x h k
  by_cases hk:k<l.length
  ·obtain⟨x,hx⟩:=K7 hk
   rw[K7a hx]
   have:=K3z h k x hx
   omega
  ·rw[List.take_of_length_le (by omega)]at ih ⊢
   omega
def K3q(r:GResource):Bool:=Ks r&&decide (r.Kind=1∨r.Kind=2)
def K37(r:GResource):Int:=if K3q r then(if (sumI r.Body).tmod 1000<999 then(sumI r.Body).tmod 1000+1 else(sumI r.Body).tmod 1000)else 0
theorem K8j{r:GResource}(h:K3q r=true):r.Body.length≤6∧K1e r.Body 0 255=true∧(r.Kind=1∨r.Kind=2):=by
 simp only[K3q,Bool.and_eq_true,decide_eq_true_eq]at h
 obtain⟨h1,h2⟩:=h
 unfold Ks at h1
 rw[if_pos h2]at h1
 simp only[Bool.and_eq_true,decide_eq_true_eq]at h1
 exact⟨h1.1,h1.2.1,h2⟩
theorem tmod_step{s x:Int}(hs:0≤s)(hx:0≤x):(s.tmod 1000+x).tmod 1000=(s+x).tmod 1000:=by
 rw[Int.tmod_eq_emod_of_nonneg hs,Int.tmod_eq_emod_of_nonneg (by omega),Int.tmod_eq_emod_of_nonneg (by omega)]
 omega
theorem K9j{s:Int}(hs:0≤s):0≤s.tmod 1000∧s.tmod 1000≤999:=by
 rw[Int.tmod_eq_emod_of_nonneg hs];omega
def M9d:MC:=
(Zs [.mv 2 cF] [0] (.seq (.reg [Za (mS 3 0),Za (bC 4 .eql 3 1),Za (mS 5 4),Zb 5 false (mS 6 0),Zb 5 false (bC 7 .eql 6 2),Za (.pick 8 (.s 5) cT (.s 7)),Za (mS 2 8)] [2])
.ret))
theorem C95(k:Int):Ctr Tryz.prog N9s [aI k] [rB (decide (k=1∨k=2))]:=by
 refine cA M9d 0 9 [(.tmp 2,[false])] Tryz.func300 rfl rfl ?_;unfold M9d
 intro hb
 clear hb
 simp only[go_sem]
 refine⟨fun h=>by simp[h],fun h=>?_⟩
 rw[Bool.eq_iff_iff];simp[h]
def M21:MC:=
(Zs [.box 1 0 (.s 0),.mv 2 (ci 0)] [1] (.seq (.seq (.reg [Za (lT 6 5 1),Za (.call 7 [] (.f N1x) [.s 6]),Za (.un 8 .not (.s 7)),Za (mS 9 8),Zb 9 false (fS 10 1 0),Zb 9 false (lF 11 1 10),Zb 9 false (.call 12 [] (.f N9s) [.s 11]),Zb 9 false (.un 13 .not (.s 12)),Za (.pick 14 (.s 9) cT (.s 13))] [1,14])
(.cond (.s 14) (Zs [.mv 2 (ci 0)] [2] .ret) .skip))
(Zs [.mv 3 (ci 0)] [1,3] (.seq (Zs [fS 15 1 1,lF 16 1 15,nS 17 16,.mv 18 (ci 0)] [3,16,17,18] (.block 0 (.loop ([3,16,17,18],[0]) (Zs [bS 19 .lss 18 17] [3,16,17,18,19] (.seq (cX 19 0)
(.seq (.block 1 (Zs [xS 20 1 16 18,lF 21 1 20,mS 5 21] [3,5,16,17,18] (pr [mS 22 3,mS 23 5,bS 24 .add 22 23,mS 3 24] [3,16,17,18])))
(pr [bC 25 .add 18 1,mS 18 25] [3,16,17,18])))))))
(Zs [mS 26 3,bC 27 .rem 26 1000,mS 3 27] [3] (.seq (Zs [mS 28 3,bC 29 .lss 28 999] [3,29] (.cond (.s 29) (pr [mS 30 3,bC 31 .add 30 1,mS 3 31] [3]) .skip))
(Zs [mS 32 3,mS 2 32] [2] .ret)))))))
theorem C90(r:GResource):Ctr Tryz.prog N25 [aS r.enc] [rI (K37 r)]:=by
 refine cA M21 1 33 [(.tmp 2,[false])] Tryz.func217 rfl rfl ?_;unfold M21
 intro hb
 clear hb
 simp only[go_sem]
 apply K0 (C4m r)
 simp only[go_sem]
 cases hv:K3q r
 ·have e0:K37 r=0:=by unfold K37;rw[hv];rfl
  rw[e0]
  refine⟨fun h=>rfl,fun h=>?_⟩
  have hk:decide (r.Kind=1∨r.Kind=2)=false:=by simp only[K3q,h,Bool.true_and]at hv;exact hv
  apply K0 (C95 r.Kind)
  simp only[go_sem,hk,h]
 ·obtain⟨h1,h2,h3⟩:=K8j hv
  have hres:Ks r=true:=by simp only[K3q,Bool.and_eq_true]at hv;exact hv.1
  have hdec:decide (r.Kind=1∨r.Kind=2)=true:=decide_eq_true h3
  simp only[go_sem,hres]
  apply K0 (C95 r.Kind)
  simp only[go_sem,hdec]
  refine K4 r.Body (fun k=>[(3,vI (sumI (r.Body.take k))),(18,vI k)]) (fun k=>[]) (fun _=>True) (by simp only[roomB];omega) ?_
  simp only[go_sem]
  refine⟨?_,trivial,?_,?_⟩
  ·simp only[go_sem,List.take_zero]
   try rfl
  ·intro k x hx _ h0 h1 hw
   have hk:=K5x h2 k
   have hxi:=K3z h2 k x hx
   have hkl:=Ka hx
   have hws:IntKind.i64.wrap (sumI (r.Body.take k)+x)=sumI (r.Body.take k)+x:=wI (by omega) (by omega)
   simp only[go_sem,K1 hx,h0,h1,hw,hws,K7a hx]
   try trivial
  ·intro _
   have hk:=K5x h2 r.Body.length
   rw[List.take_length]at hk
   have hk2:=K9j hk.1
   have hws:IntKind.i64.wrap ((sumI r.Body).tmod 1000+1)=(sumI r.Body).tmod 1000+1:=wI (by omega) (by omega)
   simp only[go_sem,List.take_length,c1000,hws]
   have e1:K37 r=if (sumI r.Body).tmod 1000<999 then(sumI r.Body).tmod 1000+1 else(sumI r.Body).tmod 1000:=by unfold K37;rw[hv];rfl
   rw[e1]
   refine⟨fun h=>by rw[if_pos h],fun h=>by rw[if_neg h]⟩
def M23:MC:=
(Zs [.box 1 0 (.s 0),.mv 2 (ci 0)] [1] (.seq (.seq (.reg [Za (lT 5 5 1),Za (.call 6 [] (.f N1z) [.s 5]),Za (.un 7 .not (.s 6)),Za (mS 8 7),Zb 8 false (fS 9 1 0),Zb 8 false (lF 10 1 9),Zb 8 false (bC 11 .gtr 10 2),Za (.pick 12 (.s 8) cT (.s 11))] [1,12])
(.cond (.s 12) (Zs [.mv 2 (ci 0)] [2] .ret) .skip))
(Zs [.mv 3 (ci 0)] [1,3] (.seq (Zs [.mv 4 (ci 0)] [1,3,4] (.block 0 (.loop ([1,3,4],[]) (.seq (Zs [mS 13 4,fS 14 1 1,lF 15 1 14,nS 16 15,bS 17 .lss 13 16] [1,3,4,17] (cX 17 0))
(.seq (.block 1 (pr [mS 20 3,fS 21 1 1,lF 22 1 21,mS 23 4,xS 24 1 22 23,lF 25 1 24,bS 26 .add 20 25,bC 27 .rem 26 1000,mS 3 27] [1,3,4]))
(pr [mS 18 4,bC 19 .add 18 1,mS 4 19] [1,3,4]))))))
(Zs [mS 28 3,bC 29 .add 28 1,.call 30 [] (.f N6g) [.c (.int .i64 999),.s 29],mS 2 30] [2] .ret)))))
theorem C92(r:GResource):Ctr Tryz.prog N26 [aS r.enc] [rI (K37 r)]:=by
 refine cA M23 1 31 [(.tmp 2,[false])] Tryz.func200 rfl rfl ?_;unfold M23
 intro hb
 clear hb
 simp only[go_sem]
 apply K0 (C4r r)
 simp only[go_sem]
 cases hv:K3q r
 ·have e0:K37 r=0:=by unfold K37;rw[hv];rfl
  rw[e0]
  refine⟨fun h=>rfl,fun h=>⟨fun _=>rfl,fun hk=>?_⟩⟩
  have hk2:¬(r.Kind=1∨r.Kind=2):=by simpa[K3q,h]using hv
  simp only[Ks,if_neg hk2]at h
  split at h<;>first|omega|(split at h<;>first|omega|cases h)
 ·obtain⟨h1,h2,h3⟩:=K8j hv
  have hres:Ks r=true:=by simp only[K3q,Bool.and_eq_true]at hv;exact hv.1
  have hkd:¬r.Kind>2:=by omega
  simp only[go_sem,hres,hkd]
  refine K4 r.Body (fun k=>[(3,vI ((sumI (r.Body.take k)).tmod 1000)),(4,vI k)]) (fun k=>[]) (fun _=>True) (by simp only[roomB];omega) ?_
  simp only[go_sem]
  refine⟨?_,trivial,?_,?_⟩
  ·simp only[go_sem,List.take_zero]
   try rfl
  ·intro k x hx _ h0 h1 hw
   have hk:=K5x h2 k
   have hxi:=K3z h2 k x hx
   have hk2:=K9j hk.1
   have hws:IntKind.i64.wrap ((sumI (r.Body.take k)).tmod 1000+x)=(sumI (r.Body.take k)).tmod 1000+x:=wI (by omega) (by omega)
   simp only[go_sem,K1 hx,h0,h1,hw,hws,K7a hx,c1000,tmod_step hk.1 hxi.1]
   try trivial
  ·intro _
   have hk:=K5x h2 r.Body.length
   rw[List.take_length]at hk
   have hk2:=K9j hk.1
   have hws:IntKind.i64.wrap ((sumI r.Body).tmod 1000+1)=(sumI r.Body).tmod 1000+1:=wI (by omega) (by omega)
   simp only[go_sem,List.take_length,hws]
   apply K0 (Ca6 999 _)
   simp only[go_sem]
   have e1:K37 r=if (sumI r.Body).tmod 1000<999 then(sumI r.Body).tmod 1000+1 else(sumI r.Body).tmod 1000:=by unfold K37;rw[hv];rfl
   rw[e1]
   repeat' split
   all_goals omega
end Go.Proofs.YtjneccbpkckdfaaGreatR
namespace Go.Proofs.YtjneccbpkckdfaaGreatR
open Go Go.RowKit Go.Proofs
open Nat (reduceEqDiff reduceLT reduceLeDiff reduceAdd reduceMul)
open List (reduceReplicate)
structure WSt where
 s:GState
 cs:List GChoice
 m:GMarks
 miss:Nat
 asked:Nat
def m00:GMarks:=⟨[0,0,0,0],[0,0,0],[0,0,0,0],0⟩
theorem m00_ok:m00.ok:=by
 refine⟨rfl,rfl,rfl,?_,?_,?_,?_⟩<;>simp[m00]
def K2p(ins:List Int)(n:Nat):Int:=match ins[n]? with
 |some v=>if 0≤v∧v≤999 then v else 0
 |none=>0
def minT(tick:Int):Int:=if tick<999 then tick else 999
section
variable (l:List GOp) (caps:List GCapture) (tick:Int) (ins:List Int)
def wVal(w:GWant)(n:Nat):Int:=if w.Kind=1 then K37 (K33 caps (Kn caps w.Address tick))else if w.Kind=2 then minT tick else if w.Kind=4 then K2p ins n else 0
def wGot(w:GWant):Nat:=if w.Kind=1 then(if (Kn caps w.Address tick).At<0 then 0 else 2^(Kn caps w.Address tick).At.toNat)else 0
def wCs(w:GWant)(cs:List GChoice):List GChoice:=if w.Kind=1 then cs++[Kn caps w.Address tick]else cs
def wMiss(w:GWant)(n:Nat):Nat:=if w.Kind=1 then(if (Kn caps w.Address tick).At<0 then n+1 else n)else n
def wAsk(w:GWant)(n:Nat):Nat:=if w.Kind=4 then n+1 else n
def K5b(t:WSt):WSt:=
 ⟨K3b l t.s (wVal caps tick ins (K1q l t.s) t.asked),wCs caps tick (K1q l t.s) t.cs,K1z l t.s.Pc.toNat (opAt l t.s.Pc) t.m (wGot caps tick (K1q l t.s)),wMiss caps tick (K1q l t.s) t.miss,wAsk (K1q l t.s) t.asked⟩
def w00:WSt:=⟨st0,[],m00,0,0⟩
def wanF:Nat→WSt→WSt
 |0,t=>t
 |n+1,t=>if t.s.Pc≥l.length then t else wanF n (K5b l caps tick ins t)
def K49:Bool:=Kz l&&(K24 caps&&decide (0≤tick∧tick≤2000))
def walked(t:WSt):GWander:=⟨t.s,t.cs,natI t.m.nd,t.miss⟩
def K1p:GWander:=if K49 l caps tick then walked (wanF l caps tick ins 20 w00)else⟨st0,[],[],0⟩
structure WanI (t:WSt):Prop where
 ok:stOk t.s=true
 mok:t.m.ok
 few:t.cs.length+(l.length-t.s.Pc.toNat)≤16∧t.miss+(l.length-t.s.Pc.toNat)≤16∧t.asked+(l.length-t.s.Pc.toNat)≤16
 run:∃f,l.length-t.s.Pc.toNat<f∧wanF l caps tick ins f t=wanF l caps tick ins 20 w00
end
section
variable {l:List GOp} {caps:List GCapture} {tick:Int} {ins:List Int}
theorem K8m{a:GAddress}{t far:Int}:Kr caps a t far= -1∨∃j:Nat,Kr caps a t far=j∧j<caps.length:=by
 rcases K3n (l:=caps) (a:=a) (t:=t) (far:=far) (Nat.le_refl _)with e|⟨j,b,e,hj,_⟩
 ·exact .inl e
 ·exact .inr ⟨j,e,hj⟩
theorem K67(a:GAddress)(t:Int):(Kn caps a t=⟨3,-1⟩)∨∃(j:Nat) (r:Int),Kn caps a t=⟨r,j⟩∧j<caps.length∧¬r=3:=by
 unfold Kn
 split
 ·exact .inl rfl
 ·split
  ·rename_i h0
   rcases K8m (caps:=caps) (a:=a) (t:=t) (far:=0)with e|⟨j,e,hj⟩
   ·omega
   ·rw[e]
    obtain⟨c,hc⟩:=K7 hj
    simp only[Int.toNat_natCast,hc]
    split
    ·exact .inr ⟨j,0,rfl,hj,by omega⟩
    ·exact .inr ⟨j,1,rfl,hj,by omega⟩
  ·split
   ·rcases K8m (caps:=caps) (a:=a) (t:=t) (far:=1)with e|⟨j,e,hj⟩
    ·omega
    ·rw[e]
     exact .inr ⟨j,2,rfl,hj,by omega⟩
   ·exact .inl rfl
theorem K7v(h:K24 caps=true):caps.length≤20∧(caps.map GCapture.size).sum≤120:=by
 simp only[K24,K27,Bool.and_eq_true,decide_eq_true_eq]at h
 refine⟨h.1,?_⟩
 have key:∀cs:List GCapture,(∀c∈cs,c.size≤6)→(cs.map GCapture.size).sum≤6*cs.length:=by
  intro cs
  induction cs with
  |nil=>simp
  |cons c cs ih=>
   intro hc
   have h1:=ih fun x hx=>hc x (by simp[hx])
   have h2:=hc c (by simp)
   simp only[List.map_cons,List.sum_cons,List.length_cons]
   omega
 have:=key caps fun c hc=>by
  have:=List.all_eq_true.1 h.2 c hc
  simp only[K3c,Ks,Bool.and_eq_true]at this
  have hr:=this.2.2
  simp only[GCapture.size,GResource.size]
  split at hr
  ·simp only[Bool.and_eq_true,decide_eq_true_eq]at hr;omega
  ·split at hr
   ·simp only[Bool.and_eq_true,decide_eq_true_eq]at hr;omega
   ·split at hr
    ·simp only[Bool.and_eq_true,decide_eq_true_eq]at hr;omega
    ·cases hr
 omega
theorem K6s(hc:K24 caps=true)(w:GWant):wGot caps tick w<1048576:=by
 unfold wGot
 split
 ·split
  ·omega
  ·rcases K67 (caps:=caps) w.Address tick with e|⟨j,r,e,hj,_⟩
   ·rename_i h;rw[e]at h;simp at h
   ·rw[e]
    have:=(K7v hc).1
    have h2:2^j<2^20:=Nat.pow_lt_pow_right (by omega) (by omega)
    have e20:2^20=1048576:=rfl
    simp only[Int.toNat_natCast]
    omega
 ·omega
theorem K7c(h:K49 l caps tick=true):Kz l=true∧K24 caps=true∧(0≤tick∧tick≤2000):=by
 simpa[K49]using h
theorem K3w(h:Kz l=true):l.length≤16:=by
 simp only[Kz,K27,Bool.and_eq_true,decide_eq_true_eq]at h
 exact h.1
theorem K8v(h:Kz l=true):∀x∈l,opOk x=true:=by
 simp only[Kz,K27,Bool.and_eq_true]at h
 exact List.all_eq_true.1 h.2
theorem st0_fine:stOk st0=true:=by decide
theorem WanI.start(h:Kz l=true):WanI l caps tick ins w00:=by
 have hl:=K3w h
 refine⟨st0_fine,m00_ok,?_,20,?_,rfl⟩
 ·simp only[w00,st0,List.length_nil];omega
 ·simp only[w00,st0];omega
theorem WanI.fin{t:WSt}(h:WanI l caps tick ins t)(hd:t.s.Pc≥l.length)(hok:K49 l caps tick=true):K1p l caps tick ins=walked t:=by
 obtain⟨f,hf,hp⟩:=h.run
 obtain⟨f,rfl⟩:∃f',f=f'+1:=⟨f-1,by omega⟩
 rw[wanF,if_pos hd]at hp
 rw[K1p,if_pos hok,←hp]
theorem WanI.less{t:WSt}(h:WanI l caps tick ins t)(h1:Kz l=true)(hd:¬t.s.Pc≥l.length)(u:Int):l.length-(K3b l t.s u).Pc.toNat<l.length-t.s.Pc.toNat:=by
 have h0:=(K89 h.ok).1.1
 have:=stepTo_lt (v:=u) h1 h.ok (by omega)
 omega
theorem WanI.next{t:WSt}(h:WanI l caps tick ins t)(h1:Kz l=true)(h2:K24 caps=true)(hd:¬t.s.Pc≥l.length):WanI l caps tick ins (K5b l caps tick ins t):=by
 obtain⟨f,hf,hp⟩:=h.run
 obtain⟨f,rfl⟩:∃f',f=f'+1:=⟨f-1,by omega⟩
 rw[wanF,if_neg hd]at hp
 have hl:=h.less h1 hd (wVal caps tick ins (K1q l t.s) t.asked)
 obtain⟨f1,f2,f3⟩:=h.few
 refine⟨stepTo_ok h.ok,K6y h.mok (K6s h2 _),?_,f,?_,hp⟩
 ·refine⟨?_,?_,?_⟩
  ·simp only[K5b,wCs]
   split
   ·simp only[List.length_append,List.length_cons,List.length_nil];omega
   ·omega
  ·simp only[K5b,wMiss]
   split
   ·split<;>omega
   ·omega
  ·simp only[K5b,wAsk]
   split<;>omega
 ·simp only[K5b];omega
theorem K5i(h:¬K49 l caps tick=true):K1p l caps tick ins=⟨st0,[],[],0⟩:=by
 rw[K1p,if_neg h]
theorem at_op{s:GState}(h1:Kz l=true)(hs:stOk s=true)(hd:¬s.Pc≥l.length):∃(k:Nat) (o:GOp),s.Pc=k∧l[k]? =some o∧opAt l s.Pc=o∧opOk o=true∧k<l.length:=by
 have h:K2h l s=true:=by unfold K2h;rw[h1,hs,decide_eq_true (by omega)];rfl
 obtain⟨k,o,D⟩:=K2r h
 exact⟨k,o,D.pc,D.op,D.at_,D.ok,D.lt⟩
end
end Go.Proofs.YtjneccbpkckdfaaGreatR
namespace Go.Proofs.YtjneccbpkckdfaaGreatR
open Go Go.RowKit Go.Proofs
open Nat (reduceEqDiff reduceLT reduceLeDiff reduceAdd reduceMul)
open List (reduceReplicate)
theorem shl_one{j:Nat}(h:j≤20):IntKind.i64.wrap (1*2^min j 64)=((2^j:Nat):Int):=by
 have h2p:2^j≤2^20:=Nat.pow_le_pow_right (by omega) h
 have e20:2^20=1048576:=rfl
 have e3:(2:Int)^j=((2^j:Nat):Int):=by simp
 rw[Nat.min_eq_left (by omega),Int.one_mul,e3]
 generalize 2^j=q at*
 exact wI (by omega) (by omega)
def M6q:MC:=
(Zs [.alloc 8 0 [pz,.emp 1,.emp 1,.emp 1,.emp 2,.emp 1,pz]] [0,1,2,3,8] (Zs [.call 16 [1,2,3] (.f N5v) [],.buildO 17 [pz,.emp 1,.emp 1,.emp 1,.emp 2,.emp 1,pz] [(0,4,.s 16)] [none,none,none,none,some 4,none,none],.alloc 9 5 [pz,.emp 1,.emp 1,.emp 1,.emp 2,.emp 1,pz],sS 7 9 17] [0,1,2,3,8,9] (.seq (.seq (.reg [Za (mS 18 0),Za (.call 19 [] (.f N2m) [.s 18]),Za (.un 20 .not (.s 19)),Za (mS 21 20),Zb 21 false (mS 22 1),Zb 21 false (.call 23 [] (.f N1t) [.s 22]),Zb 21 false (.un 24 .not (.s 23)),Za (.pick 25 (.s 21) cT (.s 24)),Za (mS 26 25),Zb 26 false (mS 27 2),Zb 26 false (.call 28 [] (.f N1) [.s 27,.c (.int .i64 0),.c (.int .i64 2000)]),Zb 26 false (.un 29 .not (.s 28)),Za (.pick 30 (.s 26) cT (.s 29))] [0,1,2,3,8,9,30])
(.cond (.s 30) (Zs [lT 31 7 9,sS 7 8 31] [8] .ret) .skip))
(Zs [.alloc 10 6 [pz,pz,pz,pz,pz,pz,pz,pz,pz,pz,pz,pz]] [0,1,2,3,8,9,10] (Zs [.mv 11 (ci 0)] [0,1,2,3,8,9,10,11] (.seq (.block 0 (.loop ([0,1,2,3,8,9,10,11],[7,8,9,10]) (.seq (Zs [mS 32 0,fS 33 9 0,lT 34 4 33,.call 35 [] (.f Naq) [.s 32,.s 34],.un 36 .not (.s 35)] [0,1,2,3,8,9,10,11,36] (cX 36 0))
(.block 1 (Zs [.mv 12 (ci 0),.mv 13 (ci 0)] [0,1,2,3,8,9,10,11,12,13] (Zs [mS 37 0,fS 38 9 0,lT 39 4 38,.call 40 [] (.f Nar) [.s 37,.s 39],.alloc 14 7 [pz,pz,pz,pz],sS 4 14 40] [0,1,2,3,8,9,10,11,12,13,14] (.seq (Zs [fS 41 14 0,lF 42 1 41] [0,1,2,3,8,9,10,11,12,13,14,42] (.block 2 (Zs [bC 44 .eql 42 1,mS 43 44] [0,1,2,3,8,9,10,11,12,13,14,42,43] (.cond (.s 43) (Zs [mS 45 1,fS 46 14 1,lT 47 3 46,mS 48 2,.call 49 [] (.f N7f) [.s 45,.s 47,.s 48],.alloc 15 8 [pz,pz],sS 2 15 49] [0,1,2,3,8,9,10,11,13,15] (Zs [fS 50 9 4,lF 51 1 50,lT 52 2 15,.lit 53 9 2 16 [.s 52],.app 54 4 2 16 (.s 51) (.s 53),fS 55 9 4,sS 1 55 54] [0,1,2,3,8,9,10,11,13,15] (Zs [mS 56 1,lT 57 2 15,.call 58 [10] (.f N5u) [.s 56,.s 57],.call 59 [] (.f N25) [.s 58],mS 12 59] [0,1,2,3,8,9,10,11,12,13,15] (Zs [fS 60 15 0,lF 61 1 60,bC 62 .eql 61 3] [0,1,2,3,8,9,10,11,12,13,15,62] (.cond (.s 62) (pr [fS 63 9 6,lF 64 1 63,bC 65 .add 64 1,fS 66 9 6,sS 1 66 65] [0,1,2,3,8,9,10,11,12,13]) (pr [fS 67 15 1,lF 68 1 67,.bin 69 false .shl (ci 1) (.s 68),mS 13 69] [0,1,2,3,8,9,10,11,12,13])))))) (Zs [bC 71 .eql 42 2,mS 70 71] [0,1,2,3,8,9,10,11,12,13,42,70] (.cond (.s 70) (pr [mS 72 2,.mm 73 false (ci 999) (.s 72),mS 12 73] [0,1,2,3,8,9,10,11,12,13]) (Zs [bC 75 .eql 42 4,mS 74 75] [0,1,2,3,8,9,10,11,12,13,74] (.cond (.s 74) (.seq (.seq (.reg [Za (mS 76 11),Za (mS 77 3),Za (nS 78 77),Za (bS 79 .lss 76 78),Za (mS 80 79),Zb 80 true (mS 81 3),Zb 80 true (mS 82 11),Zb 80 true (xS 83 1 81 82),Zb 80 true (lF 84 1 83),Zb 80 true (.call 85 [] (.f N1) [.s 84,.c (.int .i64 0),.c (.int .i64 999)]),Za (.pick 86 (.s 80) (.s 85) cF)] [0,1,2,3,8,9,10,11,12,13,86])
(.cond (.s 86) (pr [mS 87 3,mS 88 11,xS 89 1 87 88,lF 90 1 89,mS 12 90] [0,1,2,3,8,9,10,11,12,13]) .skip))
(pr [mS 91 11,bC 92 .add 91 1,mS 11 92] [0,1,2,3,8,9,10,11,12,13])) .skip))))))))
(Zs [mS 93 0,fS 94 9 0,fS 95 94 0,lF 96 1 95,mS 97 13,.callB 98 [] (.f N1d) (.s 10) [.s 93,.s 96,.s 97]] [0,1,2,3,8,9,10,11,12] (pr [mS 99 0,fS 100 9 0,lT 101 4 100,mS 102 12,.call 103 [1,2,3] (.f N7h) [.s 99,.s 101,.s 102],fS 104 9 0,sS 4 104 103] [0,1,2,3,8,9,10,11])))))))))
(.seq (.dreg [Zc [107,108] (fS 105 9 5),Zd [107,108] [0] (lF 106 1 105),Zc [105,106] (fS 107 10 7),Zd [105,106] [2] (.sliA 108 4 (.s 107)),{o:= .appA 109 11 8 (.s 106) (.s 108),ws:=[11],bf:=(.range 4)},Ze (.range 5) (fS 110 9 5),{o:=sS 1 110 109,ws:=[5,11],bf:=(.range 6)}] [8,9])
(Zs [lT 111 7 9,sS 7 8 111] [8] .ret))))))))
set_option maxHeartbeats 4000000 in
theorem Ccw(l:List GOp)(caps:List GCapture)(tick:Int)(ins:List Int)(hs:caps.length+(caps.map GCapture.size).sum≤1073741824)(hi:ins.length≤1073741824):Ctr Tryz.prog N7j [aL 4 (l.map GOp.enc),aL 9 (caps.map GCapture.enc),aI tick,aL 1 (ins.map encI)] [rS (K1p l caps tick ins).enc]:=by
 refine cA M6q 12 112 [(.cell 8 true 7,[false,true,true,true,true,true,false])] Tryz.func106 rfl rfl ?_;unfold M6q
 intro hb
 clear hb
 simp only[go_sem]
 apply K0 Cbz
 simp only[go_sem]
 intros
 apply K0 (C88 l)
 simp only[go_sem]
 by_cases hok:K49 l caps tick=true
 ·obtain⟨h1,h2,h3⟩:=K7c hok
  simp only[go_sem,h1]
  apply K0 (C1p caps)
  simp only[go_sem,h2]
  apply K0 (C4 tick 0 2000)
  simp only[go_sem,h3]
  refine Kl (ι:=WSt) (fun t=>[(11,vI t.asked)]) (fun t=>[(1,⟨0,.row true 1 (t.s.Regs.map encI)⟩),(2,⟨0,.row true 1 (t.s.Slots.map encI)⟩),(3,⟨0,.row true 1 (t.s.Nodes.map encI)⟩),(4,⟨0,.row true 2 (t.cs.map GChoice.enc)⟩),
   (5,⟨0,.box [.pl (tI t.s.Pc),.ref 1 0 1 0 t.s.Regs.length,.ref 2 0 1 0 t.s.Slots.length,.ref 3 0 1 0 t.s.Nodes.length,.ref 4 0 2 0 t.cs.length,.emp 1,.pl (tI t.miss)]⟩),(6,⟨0,.box ((cellsM t.m).map .pl)⟩)]) (WanI l caps tick ins) (fun t=>l.length-t.s.Pc.toNat) w00 ?_
  simp only[go_sem]
  refine⟨?_,WanI.start h1,?_⟩
  ·simp only[go_sem]
   repeat' (first|rfl|apply And.intro)
  ·rintro ⟨s,cs,m,miss,asked⟩ hI
   have hs:=hI.ok
   have hm:=hI.mok
   have hsz:=K78 hs
   obtain⟨f1,f2,f3⟩:=hI.few
   simp only at hs hm hsz f1 f2 f3
   obtain⟨r0,r1,r2,r3,s0,s1,s2,n0,n1,n2,n3,p,hM,hMb⟩:=GMarks.parts hm
   subst hM
   simp only[cellsM]
   simp only[go_sem]
   apply K0 (Ce7 l s)
   by_cases hd:s.Pc≥l.length
   ·have hf:=hI.fin hd hok
    rw[hf]
    simp only[go_sem,hd]
    exact⟨by decide,rfl,rfl,rfl,rfl,rfl,rfl,rfl⟩
   ·obtain⟨k,o,hk,hko,hat,hoo,hkl⟩:=at_op h1 hs hd
    simp only[go_sem,hd]
    apply K0 (Ce8 l s)
    simp only[go_sem]
    intros
    obtain⟨w,hw⟩:∃w,w=K1q l s:=⟨_,rfl⟩
    have hnx:=hI.next h1 h2 hd
    have hls:=hI.less h1 hd (wVal caps tick ins w asked)
    simp only[K5b,hk,Int.toNat_natCast,←hw]at hnx
    rw[←hk,hat]at hnx
    obtain⟨t0,t1,t2,t3,u0,u1,u2,v0,v1,v2,v3,P,hE,hEb⟩:=GMarks.parts (K6y (l:=l) (pc:=k) (got:=wGot caps tick w) (o:=o) hm (K6s h2 w))
    have hst:=Cc0 l k o (wGot caps tick w) _ hm (K8v h1) hko (K6s h2 w) (by have:=K3w h1;omega)
    rw[hE]at hst hnx
    simp only[cellsM,List.map_cons,List.map_nil,List.cons_append,List.nil_append]at hst
    rw[←hw]
    rw[←hk]at hst
    have hst2:=Ccu l s (wVal caps tick ins w asked) (by omega)
    have hsl:=K3w h1
    by_cases q1:w.Kind=1
    ·have q4:¬w.Kind=4:=by omega
     have hg:wGot caps tick w=if (Kn caps w.Address tick).At<0 then 0 else 2^(Kn caps w.Address tick).At.toNat:=by simp only[wGot,if_pos q1]
     have hv:wVal caps tick ins w asked=K37 (K33 caps (Kn caps w.Address tick)):=by simp only[wVal,if_pos q1]
     rw[hg]at hst
     rw[hv]at hst2 hnx hls
     simp only[wCs,wMiss,wAsk,if_pos q1,if_neg q4]at hnx
     have hN:=Ccs caps w.Address tick (by omega)
     have hR:=Cby caps (Kn caps w.Address tick) (by omega)
     have hV:=C90 (K33 caps (Kn caps w.Address tick))
     simp only[go_sem,q1]
     rcases K67 (caps:=caps) w.Address tick with e|⟨j,r,e,hj,hr3⟩
     ·rw[e]at hst hst2 hnx hls hN hR hV
      have m1:((-1:Int)<0):=by omega
      simp only[if_pos m1]at hst hnx
      have hmw:IntKind.i64.wrap ((miss:Int)+1)=((miss+1:Nat):Int):=by rw[wI (by omega) (by omega)];omega
      apply K0 hN
      simp only[go_sem]
      intros
      refine⟨by decide,by simp only[roomB];omega,?_⟩
      apply K0 hR
      simp only[go_sem]
      intros
      apply K0 hV
      simp only[go_sem,hmw]
      intros
      apply K2q hst
      simp only[go_sem]
      apply K0 hst2
      simp only[go_sem]
      intros
      exact⟨_,by simp[GChoice.enc],hnx,hls⟩
     ·have hcf:=K7v h2
      have m1:¬((j:Int)<0):=by omega
      have hsh:=shl_one (j:=j) (by omega)
      rw[e]at hst hst2 hnx hls hN hR hV
      simp only[if_neg m1,Int.toNat_natCast]at hst hnx
      apply K0 hN
      simp only[go_sem]
      intros
      refine⟨by decide,by simp only[roomB];omega,?_⟩
      apply K0 hR
      simp only[go_sem]
      intros
      apply K0 hV
      simp only[go_sem,hr3,m1,hsh]
      intros
      try simp only[hsh]
      apply K2q hst
      simp only[go_sem]
      apply K0 hst2
      simp only[go_sem]
      intros
      exact⟨_,by simp[GChoice.enc],hnx,hls⟩
    ·have hg:wGot caps tick w=0:=by simp only[wGot,if_neg q1]
     rw[hg]at hst
     simp only[wCs,wMiss,if_neg q1]at hnx
     by_cases q2:w.Kind=2
     ·have q4:¬w.Kind=4:=by omega
      have hv:wVal caps tick ins w asked=minT tick:=by simp only[wVal,if_neg q1,if_pos q2]
      rw[hv]at hst2 hnx hls
      simp only[wAsk,if_neg q4]at hnx
      simp only[minT]at hst2 hnx hls
      simp only[go_sem,q2,Int.reduceEq]
      apply K2q hst
      simp only[go_sem]
      apply K0 hst2
      simp only[go_sem]
      intros
      exact⟨_,by simp[],hnx,hls⟩
     ·by_cases q4:w.Kind=4
      ·have hv:wVal caps tick ins w asked=K2p ins asked:=by simp only[wVal,if_neg q1,if_neg q2,if_pos q4]
       rw[hv]at hst2 hnx hls
       simp only[wAsk,if_pos q4]at hnx
       have haw:IntKind.i64.wrap ((asked:Int)+1)=((asked+1:Nat):Int):=by rw[wI (by omega) (by omega)];omega
       by_cases hlt:asked<ins.length
       ·obtain⟨v,hvv⟩:=K7 hlt
        have c0:(0:Int)≤(asked:Int):=by omega
        have c1:(asked:Int)<(ins.length:Int):=by omega
        have hav:K2p ins asked=if 0≤v∧v≤999 then v else 0:=by simp only[K2p,hvv]
        rw[hav]at hst2 hnx hls
        simp only[go_sem,q4,Int.reduceEq,c0,c1,K1 hvv]
        apply K0 (C4 v 0 999)
        by_cases hr:0≤v∧v≤999
        ·rw[if_pos hr]at hst2 hnx hls
         simp only[go_sem,c0,c1,K1 hvv,hr,haw]
         intros
         apply K2q hst
         simp only[go_sem]
         apply K0 hst2
         simp only[go_sem]
         intros
         exact⟨_,by simp[],hnx,hls⟩
        ·rw[if_neg hr]at hst2 hnx hls
         simp only[go_sem,hr,haw]
         intros
         apply K2q hst
         simp only[go_sem]
         apply K0 hst2
         simp only[go_sem]
         intros
         exact⟨_,by simp[],hnx,hls⟩
       ·have c1:¬(asked:Int)<(ins.length:Int):=by omega
        have hav:K2p ins asked=0:=by simp only[K2p,List.getElem?_eq_none (by omega:ins.length≤asked)]
        rw[hav]at hst2 hnx hls
        simp only[go_sem,q4,Int.reduceEq,c1,haw]
        apply K2q hst
        simp only[go_sem]
        apply K0 hst2
        simp only[go_sem]
        intros
        exact⟨_,by simp[],hnx,hls⟩
      ·have hv:wVal caps tick ins w asked=0:=by simp only[wVal,if_neg q1,if_neg q2,if_neg q4]
       rw[hv]at hst2 hnx hls
       simp only[wAsk,if_neg q4]at hnx
       simp only[go_sem,q1,q2,q4]
       apply K2q hst
       simp only[go_sem]
       apply K0 hst2
       simp only[go_sem]
       intros
       exact⟨_,by simp[],hnx,hls⟩
 ·have hF:K1p l caps tick ins=⟨st0,[],[],0⟩:=K5i hok
  rw[hF]
  repeat' first
   |(refine And.intro ?_ ?_<;>intro h)
   |(apply K0 (C1p caps);simp only[go_sem])
   |(apply K0 (C4 tick 0 2000);simp only[go_sem])
   |(intro h)
  all_goals first|(exact⟨rfl,rfl,rfl,rfl,rfl,rfl,rfl⟩)|(exfalso;apply hok;simp_all[K49];done)|skip
end Go.Proofs.YtjneccbpkckdfaaGreatR
