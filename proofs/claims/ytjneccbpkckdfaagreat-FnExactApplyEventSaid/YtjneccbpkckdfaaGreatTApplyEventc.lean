/- What the functions compute that the laws of ApplyEvent reach: contracts. Conditions stand in each theorem. -/
import Derived.Shelf.Sort.Plain
import Derived.Ground.Names2Prog
import Derived.Shelf.Slices.CompactI
import Derived.Shelf.Slices.In.SortNone
import Derived.Test.YtjneccbpkckdfaaGreatTApplyEventb
set_option linter.unusedVariables false
set_option linter.unusedSimpArgs false
namespace Go.Proofs.YtjneccbpkckdfaaGreatR
open Go Go.RowKit Go.Proofs
open Nat (reduceEqDiff reduceLT reduceLeDiff reduceAdd reduceMul)
open List (reduceReplicate)
def Mbh:MC:=
(Zs [.nilo 2 0 1] [0] (Zs [.nilo 3 0 1] [0,3] (.seq (Zs [mS 6 0,nS 7 6,.mv 8 (ci 0)] [3,6,7,8] (.block 0 (.loop ([3,6,7,8],[1,2]) (Zs [bS 9 .lss 8 7] [3,6,7,8,9] (.seq (cX 9 0)
(.seq (.block 1 (Zs [xS 10 4 6 8,lT 11 4 10,.alloc 5 1 [pz,pz,pz,pz],sS 4 5 11] [3,5,6,7,8] (pr [mS 12 3,fS 13 5 0,lF 14 1 13,fS 15 5 1,lF 16 1 15,fS 17 5 2,lF 18 1 17,fS 19 5 3,lF 20 1 19,.lit 21 2 1 8 [.s 14,.s 16,.s 18,.s 20],.app 22 0 1 8 (.s 12) (.s 21),mS 3 22] [3,6,7,8])))
(pr [bC 23 .add 8 1,mS 8 23] [3,6,7,8])))))))
(Zs [mS 24 3,mS 2 24] [2] .ret))))
theorem Clz(xs:List GOp)(hN:xs.length≤1099511627776):Ctr Tryz.prog Ncm [aL 4 (xs.map GOp.enc)] [rL 1 ((K19 xs).map encI)]:=by
 refine cA Mbh 3 25 [(.tmp 2,[true])] Tryz.func316 rfl rfl ?_;unfold Mbh
 intro hb
 simp only[bdA,bdL,bdT,Ke,roomB,and_true,List.length_map]at hb
 obtain⟨hl,-⟩:=hb
 simp only[go_sem]
 refine K5 xs (fun k=>[(3,.val false [.ref 0 0 1 0 (K19 (xs.take k)).length]),(8,vI k)]) (fun k=>[(0,⟨0,.row true 1 ((K19 (xs.take k)).map encI)⟩)]) (fun _=>True) hl ?_
 simp only[go_sem]
 refine⟨?_,trivial,?_,?_⟩
 ·simp only[go_sem,List.take_zero]
  exact⟨rfl,rfl⟩
 ·intro k x hx _ h0 h1 hw
  have hlt:=List.length_take_le k xs
  simp only[go_sem,K4 hx,h0,h1,hw,K6r hx,List.length_append,K7i]
  refine⟨⟨by simp,by decide⟩,by simp only[roomB];omega,by simp[encI]⟩
 ·intro _
  simp only[go_sem,List.take_length]
def M6g:MC:=
(Zs [.alloc 6 0 [.emp 4,.emp 5,.emp 9,pz]] [0,1,2,6] (Zs [.nilo 7 1 1,.nilo 8 2 1] [0,1,2,6,7,8] (.seq (Zs [mS 13 1,nS 14 13,.mv 15 (ci 0)] [0,1,2,6,7,8,13,14,15] (.block 0 (.loop ([0,1,2,6,7,8,13,14,15],[3,4,5,6,7,11,12]) (Zs [bS 16 .lss 15 14] [0,1,2,6,7,8,13,14,15,16] (.seq (cX 16 0)
(.seq (.block 1 (Zs [xS 17 5 13 15,lT 18 5 17,.alloc 10 3 [pz,pz,pz,pz,pz],sS 5 10 18] [0,1,2,6,7,8,10,13,14,15] (pr [mS 19 7,fS 20 10 0,lF 21 1 20,fS 22 10 1,fS 23 22 0,lF 24 1 23,fS 25 10 1,fS 26 25 1,lF 27 1 26,fS 28 10 1,fS 29 28 2,lF 30 1 29,fS 31 10 4,lF 32 1 31,.lit 33 4 1 8 [.s 21,.s 24,.s 27,.s 30,.s 32],.app 34 1 1 8 (.s 19) (.s 33),mS 7 34] [0,1,2,6,7,8,13,14,15])))
(pr [bC 35 .add 15 1,mS 15 35] [0,1,2,6,7,8,13,14,15])))))))
(.seq (Zs [mS 36 2,nS 37 36,.mv 38 (ci 0)] [0,1,2,6,7,8,36,37,38] (.block 2 (.loop ([0,1,2,6,7,8,36,37,38],[3,4,5,6,7,11,12]) (Zs [bS 39 .lss 38 37] [0,1,2,6,7,8,36,37,38,39] (.seq (cX 39 2)
(.seq (.block 3 (Zs [xS 40 9 36 38,lT 41 9 40,.alloc 12 5 [pz,pz,pz,pz,pz,.emp 1,pz,pz,pz],sS 9 12 41] [0,1,2,6,7,8,12,36,37,38] (pr [mS 42 8,lT 43 9 12,.call 44 [6] (.f Na5) [.s 43],.call 45 [] (.f N20) [.s 44],.lit 46 7 1 8 [.s 45],.app 47 2 1 8 (.s 42) (.s 46),mS 8 47] [0,1,2,6,7,8,36,37,38])))
(pr [bC 48 .add 38 1,mS 38 48] [0,1,2,6,7,8,36,37,38])))))))
(Zs [mS 49 0,.call 50 [8] (.f Ni) [.s 49],mS 51 1,.call 52 [9] (.f Nl) [.s 51],mS 53 2,.call 54 [10] (.f N3q) [.s 53],mS 55 0,.call 56 [11] (.f Ncm) [.s 55],.call 57 [] (.f N20) [.s 56],mS 58 7,.call 59 [] (.f N20) [.s 58],mS 60 8,.call 61 [] (.f N5e) [.s 60],.lit 62 12 1 8 [.s 57,.s 59,.s 61],.call 63 [] (.f N5e) [.s 62],.build 64 [.emp 4,.emp 5,.emp 9,pz] [(0,1,.s 50),(1,1,.s 52),(2,1,.s 54),(3,1,.s 63)],sS 4 6 64] [6] .ret)))))
theorem C67(l:List GOp)(es:List GEntry)(cs:List GCapture)(h1:l.length≤1073741824)(h2:es.length≤1073741824)(hs:cs.length+(cs.map GCapture.size).sum≤1073741824):
  Ctr Tryz.prog N3c [aL 4 (l.map GOp.enc),aL 5 (es.map GEntry.enc),aL 9 (cs.map GCapture.enc)] [rS (GContainer.enc ⟨l,es,cs,K82 l es cs⟩)]:=by
 refine cA M6g 13 65 [(.cell 6 true 4,[true,true,true,false])] Tryz.func230 rfl rfl ?_;unfold M6g
 intro hb
 clear hb
 simp only[go_sem]
 refine K5 es (fun k=>[(7,.val false [.ref 1 0 1 0 (K22 (es.take k)).length]),(15,vI k)]) (fun k=>[(1,⟨0,.row true 1 ((K22 (es.take k)).map encI)⟩)]) (fun _=>True) (by simp only[roomB];omega) ?_
 simp only[go_sem]
 refine⟨?_,trivial,?_,?_⟩
 ·simp only[go_sem,List.take_zero]
  exact⟨rfl,rfl⟩
 ·intro k x hx _ h0 h1 hw
  have hlt:=List.length_take_le k es
  simp only[go_sem,K4 hx,h0,h1,hw,K8j hx,List.length_append,K9i]
  refine⟨⟨by simp,by decide⟩,by simp only[roomB];omega,by simp[encI]⟩
 ·intro _
  simp only[go_sem,List.take_length]
  refine K5 cs (fun k=>[(8,.val false [.ref 2 0 1 0 (K1h (cs.take k)).length]),(38,vI k)]) (fun k=>[(2,⟨0,.row true 1 ((K1h (cs.take k)).map encI)⟩)]) (fun _=>True) (by simp only[roomB];omega) ?_
  simp only[go_sem]
  refine⟨?_,trivial,?_,?_⟩
  ·simp only[go_sem,List.take_zero]
   exact⟨rfl,rfl⟩
  ·intro k x hx _ h0 h1 hw
   have hlt:=List.length_take_le k cs
   simp only[go_sem,K4 hx,h0,h1,K74 hx,List.length_append]
   apply K0 (Ckt x (body_le hx hs))
   simp only[go_sem]
   try intro _
   apply K0 (C2n (K4n x))
   simp only[go_sem,hw]
   simp only[roomB,K8a]
   exact⟨by omega,by omega,fun _=>by simp[encI]⟩
  ·intro _
   simp only[go_sem,List.take_length]
   apply K0 (C4t l (by omega))
   simp only[go_sem]
   intros
   apply K0 (C6a es (by omega))
   simp only[go_sem]
   intros
   apply K0 (C74 cs hs)
   simp only[go_sem]
   intros
   apply K0 (Clz l (by omega))
   simp only[go_sem]
   try intros
   apply K0 (C2n (K19 l))
   simp only[go_sem]
   try intros
   apply K0 (C2n (K22 es))
   simp only[go_sem]
   try intros
   apply K0 (Cj5 _ (K1h cs) (Nat.le_refl _))
   simp only[go_sem]
   try intros
   refine⟨by decide,?_⟩
   apply K0 (Cj5 _ [hashL (K19 l),hashL (K22 es),rootL (K1h cs)] (Nat.le_refl _))
   simp only[go_sem]
   intros
   rfl
def K1i(x:GContainer):Bool:=K1d x.Script&&(Kam x.Entries&&(Kai x.Captures&&(K82 x.Script x.Entries x.Captures==x.Root)))
def Y34(v0:Nat)(v1:Nat)(v2:Nat)(v3:Nat):MC:=
(Zs [.box 1 0 (.s 0),.mv 2 cF] [1] (.seq (.dreg [Za (fS 3 1 0),Ze [0] (lF 4 1 3),Ze [0,1] (.call 5 [] (.f v0) [.s 4]),Ze [0,1,2] (mS 6 5),{o:=fS 7 1 1,g:=some (6,true),bf:=(.range 4)},{o:=lF 8 1 7,g:=some (6,true),bf:=(.range 5)},{o:= .call 9 [] (.f v1) [.s 8],g:=some (6,true),bf:=(.range 6)},Ze (.range 7) (.pick 10 (.s 6) (.s 9) cF),Ze (.range 8) (mS 11 10),{o:=fS 12 1 2,g:=some (11,true),bf:=(.range 9)},{o:=lF 13 1 12,g:=some (11,true),bf:=(.range 10)},{o:= .call 14 [] (.f v2) [.s 13],g:=some (11,true),bf:=(.range 11)},Ze (.range 12) (.pick 15 (.s 11) (.s 14) cF),Ze (.range 13) (mS 16 15),{o:=fS 17 1 0,g:=some (16,true),hs:=[19,20,21,22,25,26],bf:=(.range 14)},{o:=lF 18 1 17,g:=some (16,true),hs:=[19,20,21,22,25,26],bf:=(.range 15)},{o:=fS 19 1 1,g:=some (16,true),hs:=[17,18,21,22,25,26],bf:=(.range 14)},{o:=lF 20 1 19,g:=some (16,true),hs:=[17,18,21,22,25,26],bf:=[0,1,2,3,4,5,6,7,8,9,10,11,12,13,16]},{o:=fS 21 1 2,g:=some (16,true),hs:=[17,18,19,20,25,26],bf:=(.range 14)},{o:=lF 22 1 21,g:=some (16,true),hs:=[17,18,19,20,25,26],bf:=[0,1,2,3,4,5,6,7,8,9,10,11,12,13,18]},{o:= .call 23 [1,2,3] (.f v3) [.s 18,.s 20,.s 22],g:=some (16,true),hs:=[25,26],ws:=[1,2,3],bf:=(.range 20)},{o:= .fldv 24 (.s 23) 3 1 false,g:=some (16,true),hs:=[25,26],bf:=(.range 21)},{o:=fS 25 1 3,g:=some (16,true),hs:=[17,18,19,20,21,22,23,24],ho:=[1,2,3],bf:=(.range 14)},{o:=lF 26 1 25,g:=some (16,true),hs:=[17,18,19,20,21,22,23,24],ho:=[1,2,3],bf:=[0,1,2,3,4,5,6,7,8,9,10,11,12,13,22]},{o:=bS 27 .eql 24 26,g:=some (16,true),bf:=(.range 24)},Ze (.range 25) (.pick 28 (.s 16) (.s 27) cF),Ze (.range 26) (mS 2 28)] [2])
.ret))
attribute [go_sem] Y34
def M9c:MC:=Y34 N2i Ncg Na4 N3c
theorem C90(x:GContainer)(hs:x.size≤1073741824):Ctr Tryz.prog N45 [aS x.enc] [rB (K1i x)]:=by
 refine cA M9c 4 29 [(.tmp 2,[false])] Tryz.func118 rfl rfl ?_;unfold M9c
 intro hb
 clear hb
 simp only[GContainer.size]at hs
 simp only[go_sem]
 repeat' first
  |(refine And.intro ?_ ?_<;>intro h)
  |(apply K0 (C3v _);simp only[go_sem])
  |(apply K0 (Clt _);simp only[go_sem])
  |(apply K0 (Cks _);simp only[go_sem])
  |(apply K0 (C67 x.Script x.Entries x.Captures (by omega) (by omega) (by omega));simp only[go_sem];intros)
 all_goals (unfold K1i;simp_all)
def M9w:MC:=Y34 N2l Nd8 Nah N1w
theorem C43(x:GContainer)(hs:x.size≤1073741824):Ctr Tryz.prog N2k [aS x.enc] [rB (K1i x)]:=by
 refine cA M9w 4 29 [(.tmp 2,[false])] Tryz.func235 rfl rfl ?_;unfold M9w
 intro hb
 clear hb
 simp only[GContainer.size]at hs
 simp only[go_sem]
 repeat' first
  |(refine And.intro ?_ ?_<;>intro h)
  |(apply K0 (C3y _);simp only[go_sem])
  |(apply K0 (Cmj _);simp only[go_sem])
  |(apply K0 (Cl9 _);simp only[go_sem])
  |(apply K0 (C39 x.Script x.Entries x.Captures (by omega) (by omega) (by omega));simp only[go_sem];intros)
 all_goals (unfold K1i;simp_all)
def M7g:MC:=
(Zs [.box 1 0 (.s 0),.mv 2 cF] [1] (Zs [lT 3 4 1,.call 4 [] (.f N45) [.s 3],.un 5 .not (.s 4),mS 2 5] [2] .ret))
theorem C73(x:GContainer)(hs:x.size≤1073741824):Ctr Tryz.prog N3p [aS x.enc] [rB (!K1i x)]:=by
 refine cA M7g 1 6 [(.tmp 2,[false])] Tryz.func122 rfl rfl ?_;unfold M7g
 intro hb
 clear hb
 simp only[go_sem]
 apply K0 (C90 x hs)
 simp only[go_sem]
def whole(d:GDisk):Bool:=decide (d.Index=index d.Containers)
def K2k(d:GDisk):Bool:=K1r 6 K1i d.Containers&&(K1r 1 K1i d.Wanted&&(whole d||(decide (0<d.Containers.length)&&decide (d.Index=index d.Containers.dropLast))))
theorem diskOk_no1{d:GDisk}{k:Nat}{x:GContainer}(hx:d.Containers[k]? =some x)(h:K1i x=false):false=K2k d:=by
 unfold K2k;rw[←K4o (n:=6) hx h,Bool.false_and]
theorem diskOk_no2{d:GDisk}{k:Nat}{x:GContainer}(hx:d.Wanted[k]? =some x)(h:K1i x=false):false=K2k d:=by
 unfold K2k;rw[←K4o (n:=1) hx h,Bool.false_and,Bool.and_false]
def Y35(v0:Nat)(v1:Nat):MC:=
(Zs [.box 1 0 (.s 0),.mv 2 cF] [1] (.seq (.dreg [Zf [5,6,7] [1] (fS 3 1 1),Zg [5,6,7] [1] [0] (lF 4 1 3),Zc [3,4] (fS 5 1 0),Zd [3,4] [2] (lF 6 1 5),{o:= .call 7 [1] (.f v0) [.s 6],hs:=[3,4],ws:=[1],bf:=[2,3]},Ze (.range 5) (.call 8 [] (.f v1) [.s 4,.s 7]),Ze (.range 6) (mS 2 8)] [2])
.ret))
attribute [go_sem] Y35
def M7d:MC:=Y35 N1s Nm
theorem C8q(d:GDisk)(hs:d.size≤1073741824):Ctr Tryz.prog N2c [aS d.enc] [rB (whole d)]:=by
 refine cA M7d 2 9 [(.tmp 2,[false])] Tryz.func119 rfl rfl ?_;unfold M7d
 intro hb
 clear hb
 simp only[GDisk.size]at hs
 simp only[go_sem]
 apply K0 (C2t d.Containers (by omega))
 simp only[go_sem]
 intros
 apply K0 (C6b _ _)
 simp only[go_sem]
 intros
 rfl
def Mgq:MC:=Y35 N1u N8z
theorem C6d(d:GDisk)(hs:d.size≤1073741824):Ctr Tryz.prog N2m [aS d.enc] [rB (whole d)]:=by
 refine cA Mgq 2 9 [(.tmp 2,[false])] Tryz.func236 rfl rfl ?_;unfold Mgq
 intro hb
 clear hb
 simp only[GDisk.size]at hs
 simp only[go_sem]
 apply K0 (C2v d.Containers (by omega))
 simp only[go_sem]
 intros
 apply K0 (Chn _ _)
 simp only[go_sem]
 intros
 rfl
theorem take_sz{l:List GContainer}{n N:Nat}(h:l.length+(l.map GContainer.size).sum≤N):(l.take n).length+((l.take n).map GContainer.size).sum≤N:=by
 have h1:=List.length_take_le n l
 have h2:=K3e (f:=GContainer.size) l n
 have h3:(l.take n).length≤l.length:=by rw[List.length_take];omega
 omega
def Mjb:MC:=
(Zs [.box 1 0 (.s 0),.mv 2 cF] [1] (Zs [fS 4 1 0,lF 5 1 4,nS 6 5,mS 3 6] [1,3] (.seq (.dreg [Za (mS 7 3),Ze [0] (bC 8 .leq 7 6),Ze [0,1] (mS 9 8),{o:=fS 10 1 0,g:=some (9,true),bf:=[0,1,2]},{o:=lF 11 1 10,g:=some (9,true),bf:=(.range 4)},{o:= .call 12 [] (.f N8) [.s 11,.f N3p],g:=some (9,true),bf:=(.range 5)},{o:= .un 13 .not (.s 12),g:=some (9,true),bf:=(.range 6)},Ze (.range 7) (.pick 14 (.s 9) (.s 13) cF),Ze (.range 8) (mS 15 14),{o:=fS 16 1 2,g:=some (15,true),bf:=(.range 9)},{o:=lF 17 1 16,g:=some (15,true),bf:=(.range 10)},{o:=nS 18 17,g:=some (15,true),bf:=(.range 11)},{o:=bC 19 .leq 18 1,g:=some (15,true),bf:=(.range 12)},Ze (.range 13) (.pick 20 (.s 15) (.s 19) cF),Ze (.range 14) (mS 21 20),{o:=fS 22 1 2,g:=some (21,true),bf:=(.range 15)},{o:=lF 23 1 22,g:=some (21,true),bf:=(.range 16)},{o:= .call 24 [] (.f N8) [.s 23,.f N3p],g:=some (21,true),bf:=(.range 17)},{o:= .un 25 .not (.s 24),g:=some (21,true),bf:=(.range 18)},Ze (.range 19) (.pick 26 (.s 21) (.s 25) cF),Ze (.range 20) (mS 27 26),{o:=lT 28 3 1,g:=some (27,true),bf:=(.range 21)},{o:= .call 29 [] (.f N2c) [.s 28],g:=some (27,true),bf:=(.range 22)},{o:=mS 30 29,g:=some (27,true),bf:=(.range 23)},{o:=mS 31 3,g:=some (30,false),bf:=(.range 24)},{o:=bC 32 .gtr 31 0,g:=some (30,false),bf:=(.range 25)},{o:=mS 33 32,g:=some (30,false),bf:=(.range 26)},{o:=fS 34 1 1,g:=some (33,true),hs:=[36,37,38,39,40,41],ho:=[1],bf:=(.range 27)},{o:=lF 35 1 34,g:=some (33,true),hs:=[36,37,38,39,40,41],ho:=[1],bf:=(.range 28)},{o:=fS 36 1 0,g:=some (33,true),hs:=[34,35,38,39],bf:=(.range 27)},{o:=lF 37 1 36,g:=some (33,true),hs:=[34,35,38,39],bf:=[0,1,2,3,4,5,6,7,8,9,10,11,12,13,14,15,16,17,18,19,20,21,22,23,24,25,26,29]},{o:=mS 38 3,g:=some (33,true),hs:=[34,35,36,37],bf:=(.range 27)},{o:=bC 39 .sub 38 1,g:=some (33,true),hs:=[34,35,36,37],bf:=[0,1,2,3,4,5,6,7,8,9,10,11,12,13,14,15,16,17,18,19,20,21,22,23,24,25,26,31]},{o:= .slc 40 4 (.s 37) none (some (.s 39)) none,g:=some (33,true),hs:=[34,35],bf:=[0,1,2,3,4,5,6,7,8,9,10,11,12,13,14,15,16,17,18,19,20,21,22,23,24,25,26,29,30,31,32]},{o:= .call 41 [1] (.f N1s) [.s 40],g:=some (33,true),hs:=[34,35],ws:=[1],bf:=[0,1,2,3,4,5,6,7,8,9,10,11,12,13,14,15,16,17,18,19,20,21,22,23,24,25,26,29,30,31,32,33]},{o:= .call 42 [] (.f Nm) [.s 35,.s 41],g:=some (33,true),bf:=(.range 35)},{o:= .pick 43 (.s 33) (.s 42) cF,g:=some (30,false),bf:=(.range 36)},{o:= .pick 44 (.s 30) cT (.s 43),g:=some (27,true),bf:=(.range 37)},Ze (.range 38) (.pick 45 (.s 27) (.s 44) cF),Ze (.range 39) (mS 2 45)] [2])
.ret)))
set_option maxHeartbeats 1000000 in
theorem Cap(d:GDisk)(hs:d.size≤1073741824):Ctr Tryz.prog N5d [aS d.enc] [rB (K2k d)]:=by
 refine cA Mjb 2 46 [(.tmp 2,[false])] Tryz.func38 rfl rfl ?_;unfold Mjb
 intro hb
 clear hb
 have hs':=hs
 simp only[GDisk.size]at hs
 have hx1:∀x∈d.Containers,x.size≤1073741824:=fun x hx=>by have:=Kz (f:=GContainer.size) hx;omega
 have hx2:∀x∈d.Wanted,x.size≤1073741824:=fun x hx=>by have:=Kz (f:=GContainer.size) hx;omega
 have hsz:d.Containers.length+(d.Containers.map GContainer.size).sum≤1073741824:=by omega
 have hw1:(d.Containers.length:Int)>0→IntKind.i64.wrap ((d.Containers.length:Int)-1)=((d.Containers.length-1:Nat):Int):=fun h=>by rw[wI (by omega) (by omega)];omega
 obtain⟨A,hA⟩:∃A,A=d.Containers.all K1i:=⟨_,rfl⟩
 obtain⟨B,hB⟩:∃B,B=d.Wanted.all K1i:=⟨_,rfl⟩
 have hC:(d.Containers.any fun x=> !K1i x)= !A:=by rw[K67,hA]
 have hW:(d.Wanted.any fun x=> !K1i x)= !B:=by rw[K67,hB]
 simp only[go_sem]
 repeat' first
  |(refine And.intro ?_ ?_<;>intro h)
  |(apply K0 (C2d d.Containers _ [] (fun x=> !K1i x) fun x hx=>C73 x (hx1 x hx));simp only[go_sem,hC])
  |(apply K0 (C2d d.Wanted _ [] (fun x=> !K1i x) fun x hx=>C73 x (hx2 x hx));simp only[go_sem,hW])
  |(apply K0 (C8q d hs');simp only[go_sem])
  |(rw[hw1 (by assumption),cutA (by omega)];refine⟨⟨by omega,by omega,by omega⟩,?_⟩;apply K0 (C2t _ (take_sz hsz));simp only[go_sem];intros;apply K0 (C6b _ _);simp only[go_sem];intros)
 all_goals (rw[K2k,K1r,K1r,←hA,←hB,List.dropLast_eq_take];clear hC hW hA hB hx1 hx2 hw1 hsz hs hs';by_cases c1:d.Containers.length≤6<;>by_cases c2:d.Wanted.length≤1<;>by_cases c3:0<d.Containers.length<;>simp_all<;>omega)
def Mjn:MC:=
(Zs [.box 1 0 (.s 0),.mv 2 cF] [1] (.seq (Zs [.mv 3 (ci 0)] [1,3] (.block 0 (.loop ([1,3],[1]) (.seq (Zs [mS 6 3,fS 7 1 0,lF 8 1 7,nS 9 8,bS 10 .lss 6 9] [1,3,10] (cX 10 0))
(.seq (.block 1 (Zs [fS 13 1 0,lF 14 1 13,mS 15 3,xS 16 4 14 15,lT 17 4 16,.call 18 [] (.f N2k) [.s 17],.un 19 .not (.s 18)] [1,3,19] (.cond (.s 19) (Zs [.mv 2 cF] [2] .ret) .skip)))
(pr [mS 11 3,bC 12 .add 11 1,mS 3 12] [1,3]))))))
(.seq (Zs [.mv 4 (ci 0)] [1,4] (.block 2 (.loop ([1,4],[1]) (.seq (Zs [mS 20 4,fS 21 1 2,lF 22 1 21,nS 23 22,bS 24 .lss 20 23] [1,4,24] (cX 24 2))
(.seq (.block 3 (Zs [fS 27 1 2,lF 28 1 27,mS 29 4,xS 30 4 28 29,lT 31 4 30,.call 32 [] (.f N2k) [.s 31],.un 33 .not (.s 32)] [1,4,33] (.cond (.s 33) (Zs [.mv 2 cF] [2] .ret) .skip)))
(pr [mS 25 4,bC 26 .add 25 1,mS 4 26] [1,4]))))))
(Zs [fS 34 1 0,lF 35 1 34,nS 36 35,mS 5 36] [1,5] (.seq (.dreg [Za (mS 37 5),Ze [0] (bC 38 .leq 37 6),Ze [0,1] (mS 39 38),{o:=fS 40 1 2,g:=some (39,true),bf:=[0,1,2]},{o:=lF 41 1 40,g:=some (39,true),bf:=(.range 4)},{o:=nS 42 41,g:=some (39,true),bf:=(.range 5)},{o:=bC 43 .leq 42 1,g:=some (39,true),bf:=(.range 6)},Ze (.range 7) (.pick 44 (.s 39) (.s 43) cF),Ze (.range 8) (mS 45 44),{o:=lT 46 3 1,g:=some (45,true),bf:=(.range 9)},{o:= .call 47 [] (.f N2m) [.s 46],g:=some (45,true),bf:=(.range 10)},{o:=mS 48 47,g:=some (45,true),bf:=(.range 11)},{o:=mS 49 5,g:=some (48,false),bf:=(.range 12)},{o:=bC 50 .gtr 49 0,g:=some (48,false),bf:=(.range 13)},{o:=mS 51 50,g:=some (48,false),bf:=(.range 14)},{o:=fS 52 1 1,g:=some (51,true),hs:=[54,55,56,57,58,59],ho:=[1],bf:=(.range 15)},{o:=lF 53 1 52,g:=some (51,true),hs:=[54,55,56,57,58,59],ho:=[1],bf:=(.range 16)},{o:=fS 54 1 0,g:=some (51,true),hs:=[52,53,56,57],bf:=(.range 15)},{o:=lF 55 1 54,g:=some (51,true),hs:=[52,53,56,57],bf:=[0,1,2,3,4,5,6,7,8,9,10,11,12,13,14,17]},{o:=mS 56 5,g:=some (51,true),hs:=[52,53,54,55],bf:=(.range 15)},{o:=bC 57 .sub 56 1,g:=some (51,true),hs:=[52,53,54,55],bf:=[0,1,2,3,4,5,6,7,8,9,10,11,12,13,14,19]},{o:= .slc 58 4 (.s 55) none (some (.s 57)) none,g:=some (51,true),hs:=[52,53],bf:=[0,1,2,3,4,5,6,7,8,9,10,11,12,13,14,17,18,19,20]},{o:= .call 59 [1] (.f N1u) [.s 58],g:=some (51,true),hs:=[52,53],ws:=[1],bf:=[0,1,2,3,4,5,6,7,8,9,10,11,12,13,14,17,18,19,20,21]},{o:= .call 60 [] (.f N8z) [.s 53,.s 59],g:=some (51,true),bf:=(.range 23)},{o:= .pick 61 (.s 51) (.s 60) cF,g:=some (48,false),bf:=(.range 24)},{o:= .pick 62 (.s 48) cT (.s 61),g:=some (45,true),bf:=(.range 25)},Ze (.range 26) (.pick 63 (.s 45) (.s 62) cF),Ze (.range 27) (mS 2 63)] [2])
.ret)))))
set_option maxHeartbeats 1000000 in
theorem Cat(d:GDisk)(hs:d.size≤1073741824):Ctr Tryz.prog N5g [aS d.enc] [rB (K2k d)]:=by
 refine cA Mjn 2 64 [(.tmp 2,[false])] Tryz.func126 rfl rfl ?_;unfold Mjn
 intro hb
 clear hb
 have hs':=hs
 simp only[GDisk.size]at hs
 have hx1:∀x∈d.Containers,x.size≤1073741824:=fun x hx=>by have:=Kz (f:=GContainer.size) hx;omega
 have hx2:∀x∈d.Wanted,x.size≤1073741824:=fun x hx=>by have:=Kz (f:=GContainer.size) hx;omega
 have hsz:d.Containers.length+(d.Containers.map GContainer.size).sum≤1073741824:=by omega
 have hw1:(d.Containers.length:Int)>0→IntKind.i64.wrap ((d.Containers.length:Int)-1)=((d.Containers.length-1:Nat):Int):=fun h=>by rw[wI (by omega) (by omega)];omega
 obtain⟨A,hA⟩:∃A,A=d.Containers.all K1i:=⟨_,rfl⟩
 obtain⟨B,hB⟩:∃B,B=d.Wanted.all K1i:=⟨_,rfl⟩
 have hC:(d.Containers.any fun x=> !K1i x)= !A:=by rw[K67,hA]
 have hW:(d.Wanted.any fun x=> !K1i x)= !B:=by rw[K67,hB]
 simp only[go_sem]
 refine K5 d.Containers (fun k=>[(3,vI k)]) (fun k=>[]) (fun k=>(d.Containers.take k).all K1i=true) (by simp only[roomB];omega) ?_
 simp only[go_sem]
 refine⟨?_,by simp,?_,?_⟩
 ·simp only[go_sem]
 ·intro k x hx h h0 h1 hw
  simp only[go_sem,K4 hx,h0,h1]
  apply K0 (C43 x (hx1 x (Km hx)))
  simp only[go_sem,hw]
  exact⟨fun hn=>diskOk_no1 hx hn,fun hn=>K3l hx h hn⟩
 ·intro hA'
  rw[List.take_length,←hA]at hA'
  simp only[go_sem]
  refine K5 d.Wanted (fun k=>[(4,vI k)]) (fun k=>[]) (fun k=>(d.Wanted.take k).all K1i=true) (by simp only[roomB];omega) ?_
  simp only[go_sem]
  refine⟨?_,by simp,?_,?_⟩
  ·simp only[go_sem]
  ·intro k x hx h h0 h1 hw
   simp only[go_sem,K4 hx,h0,h1]
   apply K0 (C43 x (hx2 x (Km hx)))
   simp only[go_sem,hw]
   exact⟨fun hn=>diskOk_no2 hx hn,fun hn=>K3l hx h hn⟩
  ·intro hB'
   rw[List.take_length,←hB]at hB'
   simp only[go_sem]
   repeat' first
    |(refine And.intro ?_ ?_<;>intro h)
    |(apply K0 (C6d d hs');simp only[go_sem])
    |(rw[hw1 (by assumption),cutA (by omega)];refine⟨⟨by omega,by omega,by omega⟩,?_⟩;apply K0 (C2v _ (take_sz hsz));simp only[go_sem];intros;apply K0 (Chn _ _);simp only[go_sem];intros)
   all_goals (rw[K2k,K1r,K1r,←hA,←hB,List.dropLast_eq_take];clear hC hW hA hB hx1 hx2 hw1 hsz hs hs';by_cases c1:d.Containers.length≤6<;>by_cases c2:d.Wanted.length≤1<;>by_cases c3:0<d.Containers.length<;>simp_all<;>omega)
end Go.Proofs.YtjneccbpkckdfaaGreatR
namespace Go.Proofs.YtjneccbpkckdfaaGreatR
open Go Go.RowKit Go.Proofs
open Nat (reduceEqDiff reduceLT reduceLeDiff reduceAdd reduceMul)
open List (reduceReplicate)
def K52(d:GDisk):GDisk:=if K2k d then⟨d.Containers,index d.Containers,[]⟩else d
theorem Kay(d:GDisk):(K52 d).size≤2*d.size:=by
 have h:(index d.Containers).length≤(d.Containers.map GContainer.size).sum:=by
  rw[index,Srt.len_isort];exact K6x
 unfold K52
 split
 ·simp only[GDisk.size,List.length_nil,List.map_nil,List.sum_nil];omega
 ·omega
def M9g:MC:=
(Zs [.box 1 0 (.s 0),.alloc 2 1 [.emp 4,.emp 6,.emp 4],.mv 3 cF] [1,2] (Zs [lT 5 3 1,.call 6 [2,3,4] (.f N2j) [.s 5],.alloc 4 5 [.emp 4,.emp 6,.emp 4],sS 3 4 6] [1,2,4] (.seq (Zs [lT 7 3 1,.call 8 [] (.f N5d) [.s 7],.un 9 .not (.s 8)] [1,2,4,9] (.cond (.s 9) (Zs [lT 10 3 4,sS 3 2 10,.mv 3 cF] [2,3] .ret) .skip))
(Zs [fS 11 4 2,.store 1 (.s 11) (.nil 4)] [1,2,4] (Zs [fS 12 1 0,lF 13 1 12,.call 14 [6] (.f N1s) [.s 13],fS 15 4 1,sS 1 15 14] [2,4] (Zs [lT 16 3 4,sS 3 2 16,.mv 3 cT] [2,3] .ret))))))
theorem Ckw(d:GDisk)(hs:d.size≤1073741824):Ctr Tryz.prog Na8 [aS d.enc] [rS (K52 d).enc,rB (K2k d)]:=by
 refine cA M9g 7 17 [(.cell 2 true 3,[true,true,true]),(.tmp 3,[false])] Tryz.func39 rfl rfl ?_;unfold M9g
 intro hb
 clear hb
 have hs':=hs
 simp only[GDisk.size]at hs
 simp only[go_sem]
 apply K0 (C3w d hs')
 simp only[go_sem]
 intros
 apply K0 (Cap d hs')
 simp only[go_sem]
 refine And.intro ?_ ?_<;>intro h
 ·simp[K52,h]
 ·apply K0 (C2t d.Containers (by omega))
  simp only[go_sem]
  intros
  simp[K52,h]
def Ma0:MC:=
(Zs [.box 1 0 (.s 0),.alloc 2 1 [.emp 4,.emp 6,.emp 4],.mv 3 cF] [1,2] (Zs [lT 5 3 1,.call 6 [2,3,4] (.f N34) [.s 5],.alloc 4 5 [.emp 4,.emp 6,.emp 4],sS 3 4 6] [1,2,4] (.seq (Zs [lT 7 3 1,.call 8 [] (.f N5g) [.s 7],.un 9 .not (.s 8)] [1,2,4,9] (.cond (.s 9) (Zs [lT 10 3 4,sS 3 2 10,.mv 3 cF] [2,3] .ret) .skip))
(Zs [.lit 11 6 4 80 [],fS 12 4 2,sS 1 12 11] [1,2,4] (Zs [fS 13 1 0,lF 14 1 13,.call 15 [7] (.f N1u) [.s 14],fS 16 4 1,sS 1 16 15] [2,4] (Zs [lT 17 3 4,sS 3 2 17,.mv 3 cT] [2,3] .ret))))))
theorem Cld(d:GDisk)(hs:d.size≤1073741824):Ctr Tryz.prog Nal [aS d.enc] [rS (K52 d).enc,rB (K2k d)]:=by
 refine cA Ma0 8 18 [(.cell 2 true 3,[true,true,true]),(.tmp 3,[false])] Tryz.func42 rfl rfl ?_;unfold Ma0
 intro hb
 clear hb
 have hs':=hs
 simp only[GDisk.size]at hs
 simp only[go_sem]
 apply K0 (C4g d hs')
 simp only[go_sem]
 intros
 apply K0 (Cat d hs')
 simp only[go_sem]
 refine And.intro ?_ ?_<;>intro h
 ·simp[K52,h]
 ·apply K0 (C2v d.Containers (by omega))
  simp only[go_sem]
  intros
  simp[K52,h]
def K2f(d:GDisk)(x:GContainer):Bool:=K2k d&&(K1i x&&(whole d&&(decide (d.Wanted.length=0)&&decide (d.Containers.length<6))))
def K2x(d:GDisk)(x:GContainer):GDisk:=if K2f d x then⟨d.Containers,d.Index,[x]⟩else d
theorem Kd4(d:GDisk)(x:GContainer):(K2x d x).size≤d.size+(x.size+1):=by
 unfold K2x
 split
 ·simp only[GDisk.size,List.length_cons,List.length_nil,List.map_cons,List.map_nil,List.sum_cons,List.sum_nil];omega
 ·omega
def Mbl:MC:=
(Zs [.box 2 0 (.s 0),.box 3 1 (.s 1),.alloc 4 2 [.emp 4,.emp 6,.emp 4],.mv 5 cF] [2,3,4] (Zs [lT 7 3 2,.call 8 [3,4,5] (.f N2j) [.s 7],.alloc 6 6 [.emp 4,.emp 6,.emp 4],sS 3 6 8] [2,3,4,6] (.seq (.seq (.reg [Za (lT 9 3 2),Za (.call 10 [] (.f N5d) [.s 9]),Za (.un 11 .not (.s 10)),Za (mS 12 11),Zb 12 false (lT 13 4 3),Zb 12 false (.call 14 [] (.f N45) [.s 13]),Zb 12 false (.un 15 .not (.s 14)),Za (.pick 16 (.s 12) cT (.s 15)),Za (mS 17 16),Zb 17 false (lT 18 3 2),Zb 17 false (.call 19 [] (.f N2c) [.s 18]),Zb 17 false (.un 20 .not (.s 19)),Za (.pick 21 (.s 17) cT (.s 20)),Za (mS 22 21),Zb 22 false (fS 23 2 2),Zb 22 false (lF 24 1 23),Zb 22 false (nS 25 24),Zb 22 false (bC 26 .gtr 25 0),Za (.pick 27 (.s 22) cT (.s 26)),Za (mS 28 27),Zb 28 false (fS 29 2 0),Zb 28 false (lF 30 1 29),Zb 28 false (nS 31 30),Zb 28 false (bC 32 .geq 31 6),Za (.pick 33 (.s 28) cT (.s 32))] [3,4,6,33])
(.cond (.s 33) (Zs [lT 34 3 6,sS 3 4 34,.mv 5 cF] [4,5] .ret) .skip))
(Zs [lT 35 4 3,.lit 36 7 4 80 [.s 35],.call 37 [8] (.f N1p) [.s 36],fS 38 6 2,sS 1 38 37] [4,6] (Zs [lT 39 3 6,sS 3 4 39,.mv 5 cT] [4,5] .ret)))))
theorem Cm3(d:GDisk)(x:GContainer)(hs:d.size≤1073741824)(hx:x.size≤1073741823):Ctr Tryz.prog Ncq [aS d.enc,aS x.enc] [rS (K2x d x).enc,rB (K2f d x)]:=by
  refine cA Mbl 9 40 [(.cell 4 true 3,[true,true,true]),(.tmp 5,[false])] Tryz.func37 rfl rfl ?_;unfold Mbl
  intro hb
  clear hb
  simp only[go_sem]
  apply K0 (C3w d hs)
  simp only[go_sem]
  intros
  repeat' first
    |(refine And.intro ?_ ?_<;>intro h)
    |(apply K0 (Cap d hs);simp only[go_sem])
    |(apply K0 (C90 x (by omega));simp only[go_sem])
    |(apply K0 (C8q d hs);simp only[go_sem])
    |(refine⟨by decide,?_⟩;apply K0 (C2x [x] (by simp;omega));simp only[go_sem];intros)
  all_goals
    first
      |(have hF:K2f d x=false:=by
         clear hs hx
         unfold K2f
         by_cases c1:d.Wanted.length=0<;>by_cases c2:d.Containers.length<6<;>simp_all<;>omega
        simp[K2x,hF]
        done)
      |(have hT:K2f d x=true:=by
         clear hs hx
         unfold K2f
         by_cases c1:d.Wanted.length=0<;>by_cases c2:d.Containers.length<6<;>simp_all<;>omega
        simp[K2x,hT,GContainer.enc])
def Mce:MC:=
(Zs [.box 2 0 (.s 0),.box 3 1 (.s 1),.alloc 4 2 [.emp 4,.emp 6,.emp 4],.mv 5 cF] [2,3,4] (Zs [lT 7 3 2,.call 8 [3,4,5] (.f N34) [.s 7],.alloc 6 6 [.emp 4,.emp 6,.emp 4],sS 3 6 8] [2,3,4,6] (.seq (.seq (.reg [Za (lT 9 3 2),Za (.call 10 [] (.f N5g) [.s 9]),Za (.un 11 .not (.s 10)),Za (mS 12 11),Zb 12 false (lT 13 4 3),Zb 12 false (.call 14 [] (.f N2k) [.s 13]),Zb 12 false (.un 15 .not (.s 14)),Za (.pick 16 (.s 12) cT (.s 15)),Za (mS 17 16),Zb 17 false (lT 18 3 2),Zb 17 false (.call 19 [] (.f N2m) [.s 18]),Zb 17 false (.un 20 .not (.s 19)),Za (.pick 21 (.s 17) cT (.s 20)),Za (mS 22 21),Zb 22 false (fS 23 2 2),Zb 22 false (lF 24 1 23),Zb 22 false (nS 25 24),Zb 22 false (bC 26 .gtr 25 0),Za (.pick 27 (.s 22) cT (.s 26)),Za (mS 28 27),Zb 28 false (fS 29 2 0),Zb 28 false (lF 30 1 29),Zb 28 false (nS 31 30),Zb 28 false (bC 32 .geq 31 6),Za (.pick 33 (.s 28) cT (.s 32))] [3,4,6,33])
(.cond (.s 33) (Zs [lT 34 3 6,sS 3 4 34,.mv 5 cF] [4,5] .ret) .skip))
(Zs [lT 35 4 3,.call 36 [7,8,9] (.f N4m) [.s 35],.lit 37 10 4 80 [.s 36],fS 38 6 2,sS 1 38 37] [4,6] (Zs [lT 39 3 6,sS 3 4 39,.mv 5 cT] [4,5] .ret)))))
theorem Cmr(d:GDisk)(x:GContainer)(hs:d.size≤1073741824)(hx:x.size≤1073741823):Ctr Tryz.prog Ndg [aS d.enc,aS x.enc] [rS (K2x d x).enc,rB (K2f d x)]:=by
  refine cA Mce 11 40 [(.cell 4 true 3,[true,true,true]),(.tmp 5,[false])] Tryz.func139 rfl rfl ?_;unfold Mce
  intro hb
  clear hb
  simp only[go_sem]
  apply K0 (C4g d hs)
  simp only[go_sem]
  intros
  repeat' first
    |(refine And.intro ?_ ?_<;>intro h)
    |(apply K0 (Cat d hs);simp only[go_sem])
    |(apply K0 (C43 x (by omega));simp only[go_sem])
    |(apply K0 (C6d d hs);simp only[go_sem])
    |(apply K0 (C8s x (by omega));simp only[go_sem];refine⟨by decide,?_⟩;intros)
  all_goals
    first
      |(have hF:K2f d x=false:=by
         clear hs hx
         unfold K2f
         by_cases c1:d.Wanted.length=0<;>by_cases c2:d.Containers.length<6<;>simp_all<;>omega
        simp[K2x,hF]
        done)
      |(have hT:K2f d x=true:=by
         clear hs hx
         unfold K2f
         by_cases c1:d.Wanted.length=0<;>by_cases c2:d.Containers.length<6<;>simp_all<;>omega
        simp[K2x,hT,GContainer.enc])
end Go.Proofs.YtjneccbpkckdfaaGreatR
namespace Go.Proofs.YtjneccbpkckdfaaGreatR
open Go Go.RowKit Go.Proofs
open Nat (reduceEqDiff reduceLT reduceLeDiff reduceAdd reduceMul)
open List (reduceReplicate)
def K59(a:GArchive):GArchive:={a with Disk:=K52 a.Disk}
theorem crash_size(a:GArchive):(K59 a).size≤2*a.size:=by
 have:=Kay a.Disk
 simp only[K59,GArchive.size]at*
 omega
theorem disk_sz{a:GArchive}{n:Nat}(hs:a.size≤n):a.Disk.size≤n:=by
 simp only[GArchive.size]at hs;omega
def Mdy:MC:=
(Zs [.box 1 0 (.s 0),.alloc 2 1 [.emp 9,.emp 4,.emp 4,.emp 6,.emp 4,.emp 5,.emp 4,.emp 1,.emp 4,pz],.mv 3 cF] [1,2] (Zs [lT 7 10 1,.call 8 [2,3,4,5,6,7,8,9,10] (.f N5) [.s 7],.alloc 4 11 [.emp 9,.emp 4,.emp 4,.emp 6,.emp 4,.emp 5,.emp 4,.emp 1,.emp 4,pz],sS 10 4 8] [1,2,4] (Zs [fS 10 1 2,lT 11 3 10,.call 12 [12,13,14] (.f Na8) [.s 11],mS 9 12,.ext 13 (.s 9) 0,.ext 14 (.s 9) 1,.alloc 5 15 [.emp 4,.emp 6,.emp 4],sS 3 5 13,mS 6 14] [2,4,5,6] (.seq (Zs [mS 15 6] [2,4,5,6,15] (.cond (.s 15) (pr [lT 16 3 5,fS 17 4 2,sS 3 17 16] [2,4,6]) .skip))
(Zs [lT 18 10 4,mS 19 6,sS 10 2 18,mS 3 19] [2,3] .ret)))))
theorem Cnb(a:GArchive)(hs:a.size≤1073741824):Ctr Tryz.prog Nez [aS a.enc] [rS (K59 a).enc,rB (K2k a.Disk)]:=by
 refine cA Mdy 16 20 [(.cell 2 true 10,[true,true,true,true,true,true,true,true,true,false]),(.tmp 3,[false])] Tryz.func73 rfl rfl ?_;unfold Mdy
 intro hb
 clear hb
 simp only[go_sem]
 apply K0 (C9 a hs)
 simp only[go_sem]
 intros
 apply K0 (Ckw a.Disk (disk_sz hs))
 simp only[go_sem]
 intros
 refine And.intro ?_ ?_<;>intro h
 all_goals simp[K59,K52,h]
def Meo:MC:=
(Zs [.box 1 0 (.s 0),.alloc 2 1 [.emp 9,.emp 4,.emp 4,.emp 6,.emp 4,.emp 5,.emp 4,.emp 1,.emp 4,pz],.mv 3 cF] [1,2] (Zs [lT 7 10 1,.call 8 [2,3,4,5,6,7,8,9,10] (.f Ng) [.s 7],.alloc 4 11 [.emp 9,.emp 4,.emp 4,.emp 6,.emp 4,.emp 5,.emp 4,.emp 1,.emp 4,pz],sS 10 4 8] [1,2,4] (Zs [fS 10 1 2,lT 11 3 10,.call 12 [12,13,14] (.f Nal) [.s 11],mS 9 12,.ext 13 (.s 9) 0,.ext 14 (.s 9) 1,.alloc 5 15 [.emp 4,.emp 6,.emp 4],sS 3 5 13,mS 6 14] [2,4,5,6] (.seq (Zs [mS 15 6,.un 16 .not (.s 15)] [2,4,5,16] (.cond (.s 16) (Zs [lT 17 10 4,sS 10 2 17,.mv 3 cF] [2,3] .ret) .skip))
(Zs [lT 18 3 5,fS 19 4 2,sS 3 19 18] [2,4] (Zs [lT 20 10 4,sS 10 2 20,.mv 3 cT] [2,3] .ret))))))
theorem Cns(a:GArchive)(hs:a.size≤1073741824):Ctr Tryz.prog Nfk [aS a.enc] [rS (K59 a).enc,rB (K2k a.Disk)]:=by
 refine cA Meo 16 21 [(.cell 2 true 10,[true,true,true,true,true,true,true,true,true,false]),(.tmp 3,[false])] Tryz.func56 rfl rfl ?_;unfold Meo
 intro hb
 clear hb
 simp only[go_sem]
 apply K0 (Cs a hs)
 simp only[go_sem]
 intros
 apply K0 (Cld a.Disk (disk_sz hs))
 simp only[go_sem]
 intros
 refine And.intro ?_ ?_<;>intro h
 all_goals simp[K59,K52,h]
end Go.Proofs.YtjneccbpkckdfaaGreatR
namespace Go.Proofs.YtjneccbpkckdfaaGreatR
open Go Go.RowKit Go.Proofs
open Nat (reduceEqDiff reduceLT reduceLeDiff reduceAdd reduceMul)
open List (reduceReplicate)
def K56(v:GVersion):Bool:=K3q v.Address&&(decide (0≤v.From∧v.From≤1000)&&K1f v.Resource)
def K90(l:List GVersion):Bool:=K1r 12 K56 l
def Mg5:MC:=Y33 1000
theorem Cny(c:GVersion):Ctr Tryz.prog Ngr [aS c.enc] [rB (!K56 c)]:=by
 refine cA Mg5 1 19 [(.tmp 2,[false])] Tryz.func268 rfl rfl ?_;unfold Mg5
 intro hb
 clear hb
 simp only[go_sem]
 repeat' first
  |(refine And.intro ?_ ?_<;>intro h)
  |(apply K0 (C35 _);simp only[go_sem])
  |(apply K0 (C4s _);simp only[go_sem])
  |(apply K0 (C2 _ _ _);simp only[go_sem])
 all_goals (simp_all[K56];try omega)
def Mjd:MC:=
(Zs [.mv 2 cF] [0] (.seq (.reg [Za (mS 3 0),Za (nS 4 3),Za (bC 5 .leq 4 12),Za (mS 6 5),Zb 6 true (mS 7 0),Zb 6 true (.call 8 [] (.f Nr) [.s 7,.f Ngr]),Zb 6 true (.un 9 .not (.s 8)),Za (.pick 10 (.s 6) (.s 9) cF),Za (mS 2 10)] [2])
.ret))
theorem Cj3(l:List GVersion):Ctr Tryz.prog Nav [aL 9 (l.map GVersion.enc)] [rB (K90 l)]:=by
 refine cA Mjd 0 11 [(.tmp 2,[false])] Tryz.func167 rfl rfl ?_;unfold Mjd
 intro hb
 clear hb
 simp only[go_sem]
 refine⟨fun h=>?_,fun h=>K6l (by omega)⟩
 refine K0 (C72 l _ [] (fun o=> !K56 o) fun o _=>Cny o) ?_
 simp only[go_sem]
 exact K5x (by omega)
def Mjp:MC:=
(Zs [.mv 2 cF] [0] (.seq (Zs [.mv 3 (ci 0)] [0,3] (.block 0 (.loop ([0,3],[]) (.seq (Zs [mS 4 3,mS 5 0,nS 6 5,bS 7 .lss 4 6] [0,3,7] (cX 7 0))
(.seq (.block 1 (.seq (.reg [Za (mS 10 0),Za (mS 11 3),Za (xS 12 9 10 11),Za (fS 13 12 0),Za (lT 14 3 13),Za (.call 15 [] (.f N2b) [.s 14]),Za (.un 16 .not (.s 15)),Za (mS 17 16),Zb 17 false (mS 18 0),Zb 17 false (mS 19 3),Zb 17 false (xS 20 9 18 19),Zb 17 false (fS 21 20 3),Zb 17 false (lF 22 1 21),Zb 17 false (.call 23 [] (.f N0) [.s 22,.c (.int .i64 0),.c (.int .i64 1000)]),Zb 17 false (.un 24 .not (.s 23)),Za (.pick 25 (.s 17) cT (.s 24)),Za (mS 26 25),Zb 26 false (mS 27 0),Zb 26 false (mS 28 3),Zb 26 false (xS 29 9 27 28),Zb 26 false (fS 30 29 4),Zb 26 false (lT 31 5 30),Zb 26 false (.call 32 [] (.f N2w) [.s 31]),Zb 26 false (.un 33 .not (.s 32)),Za (.pick 34 (.s 26) cT (.s 33))] [0,3,34])
(.cond (.s 34) (Zs [.mv 2 cF] [2] .ret) .skip)))
(pr [mS 8 3,bC 9 .add 8 1,mS 3 9] [0,3]))))))
(Zs [mS 35 0,nS 36 35,bC 37 .leq 36 12,mS 2 37] [2] .ret)))
theorem Cj7(l:List GVersion):Ctr Tryz.prog Nay [aL 9 (l.map GVersion.enc)] [rB (K90 l)]:=by
 refine cA Mjp 0 38 [(.tmp 2,[false])] Tryz.func147 rfl rfl ?_;unfold Mjp
 intro hb
 simp only[bdA,bdL,bdT,Ke,roomB,and_true,List.length_map]at hb
 have hl:=hb.1
 clear hb
 simp only[go_sem]
 refine K5 l (fun k=>[(3,vI k)]) (fun k=>[]) (fun k=>(l.take k).all K56=true) hl ?_
 simp only[go_sem]
 refine⟨?_,by simp,?_,?_⟩
 ·simp only[go_sem]
 ·intro k x hx hT h0 h1 hw
  have hy:K56 x=true→(l.take (k+1)).all K56=true:=fun hn=>K3l hx hT hn
  have hn:K56 x=false→false=K90 l:=fun hn=>K4o hx hn
  clear hT
  simp only[go_sem,K4 hx,h0,h1]
  repeat' first
   |(refine And.intro ?_ ?_<;>intro h)
   |(apply K0 (C38 _);simp only[go_sem,K4 hx,h0,h1])
   |(apply K0 (C4u _);simp only[go_sem,hw])
   |(apply K0 (C3 _ _ _);simp only[go_sem,K4 hx,h0,h1])
  all_goals first|(apply hy;clear hy hn hx hw;simp_all[K56];done)|(apply hn;clear hy hn hx hw;simp_all[K56];done)|(apply hn;clear hy hn hx hw;unfold K56;rw[decide_eq_false (by assumption)];simp;done)
 ·intro h
  simp only[go_sem]
  rw[List.take_length]at h
  exact K7e.trans (K5w h)
def K2h(a:GArchive)(x:GVersion):Bool:=K90 (a.Site++[x])&&decide (a.Now≤x.From)
def K3m(a:GArchive)(x:GVersion):GArchive:=if K2h a x then {a with Site:=a.Site++[x]}else a
theorem change_size(a:GArchive)(x:GVersion):(K3m a x).size≤a.size+(x.size+1):=by
 unfold K3m
 split
 ·simp only[GArchive.size,List.length_append,List.length_cons,List.length_nil,List.map_append,List.map_cons,List.map_nil,List.sum_append,List.sum_cons,List.sum_nil];omega
 ·omega
def Mbj:MC:=
(Zs [.box 2 0 (.s 0),.box 3 1 (.s 1),.alloc 4 2 [.emp 9,.emp 4,.emp 4,.emp 6,.emp 4,.emp 5,.emp 4,.emp 1,.emp 4,pz],.mv 5 cF] [2,3,4] (Zs [lT 7 10 2,.call 8 [3,4,5,6,7,8,9,10,11] (.f N5) [.s 7],.alloc 6 12 [.emp 9,.emp 4,.emp 4,.emp 6,.emp 4,.emp 5,.emp 4,.emp 1,.emp 4,pz],sS 10 6 8] [2,3,4,6] (.seq (.dreg [Zf [11,12,13] [13,14] (fS 9 6 0),Zg [11,12,13] [13,14] [0] (lF 10 1 9),Zc [9,10] (lT 11 9 3),{o:= .lit 12 13 9 88 [.s 11],hs:=[9,10],ws:=[13],bf:=[2]},{o:= .call 13 [14] (.f N6u) [.s 12],hs:=[9,10],ws:=[14],bf:=[2,3]},{o:= .app 14 3 9 88 (.s 10) (.s 13),ws:=[3,14],bf:=(.range 5)},Ze (.range 6) (fS 15 6 0),{o:=sS 1 15 14,ws:=[3,12],bf:=(.range 7)}] [2,3,4,6])
(.seq (.seq (.reg [Za (fS 16 6 0),Za (lF 17 1 16),Za (.call 18 [] (.f Nav) [.s 17]),Za (.un 19 .not (.s 18)),Za (mS 20 19),Zb 20 false (fS 21 3 3),Zb 20 false (lF 22 1 21),Zb 20 false (fS 23 2 9),Zb 20 false (lF 24 1 23),Zb 20 false (bS 25 .lss 22 24),Za (.pick 26 (.s 20) cT (.s 25))] [2,4,6,26])
(.cond (.s 26) (Zs [lT 27 10 2,.call 28 [15,16,17,18,19,20,21,22,23] (.f N5) [.s 27],sS 10 4 28,.mv 5 cF] [4,5] .ret) .skip))
(Zs [lT 29 10 6,sS 10 4 29,.mv 5 cT] [4,5] .ret)))))
theorem Cm1(a:GArchive)(x:GVersion)(hs:a.size≤1073741824)(hx:x.size≤1073741823):Ctr Tryz.prog Nco [aS a.enc,aS x.enc] [rS (K3m a x).enc,rB (K2h a x)]:=by
  refine cA Mbj 24 30 [(.cell 4 true 10,[true,true,true,true,true,true,true,true,true,false]),(.tmp 5,[false])] Tryz.func74 rfl rfl ?_;unfold Mbj
  intro hb
  clear hb
  simp only[go_sem]
  apply K0 (C9 a hs)
  simp only[go_sem]
  intros
  have e1:List.map GVersion.enc a.Site++[[T.sc (Value.int IntKind.i64 x.Address.Host),T.sc (Value.int IntKind.i64 x.Address.Path),T.sc (Value.int IntKind.i64 x.Address.Query),T.sc (Value.int IntKind.i64 x.From),T.sc (Value.int IntKind.i64 x.Resource.Kind),T.sl 1 (List.map encI x.Resource.Body),T.sc (Value.int IntKind.i64 x.Resource.To.Host),T.sc (Value.int IntKind.i64 x.Resource.To.Path),T.sc (Value.int IntKind.i64 x.Resource.To.Query)]]=(a.Site++[x]).map GVersion.enc:=by rw[List.map_append];rfl
  have e2:a.Site.length+1=(a.Site++[x]).length:=by simp
  have hsl:a.Site.length≤1073741824:=by simp only[GArchive.size]at hs;omega
  refine⟨by decide,?_⟩
  apply K0 (Cfx [x] (by simp only[List.length_cons,List.length_nil,List.map_cons,List.map_nil,List.sum_cons,List.sum_nil];simp only[GVersion.size]at hx ⊢;omega))
  simp only[go_sem,↓e1,e2]
  intros
  refine⟨by simp only[roomB];simp;omega,?_⟩
  intros
  apply K0 (Cj3 (a.Site++[x]))
  simp only[go_sem]
  repeat' first
    |(refine And.intro ?_ ?_<;>intro h)
    |(apply K0 (C9 a hs);simp only[go_sem];intros)
  all_goals
    first
      |(have hF:K2h a x=false:=by
         clear e1 e2 hsl hs hx
         unfold K2h
         simp_all
         try omega
        simp[K3m,hF]
        done)
      |(have hT:K2h a x=true:=by
         clear e1 e2 hsl hs hx
         unfold K2h
         simp_all
         try omega
        simp[K3m,hT]
        done)
def Mcc:MC:=
(Zs [.box 2 0 (.s 0),.box 3 1 (.s 1),.alloc 4 2 [.emp 9,.emp 4,.emp 4,.emp 6,.emp 4,.emp 5,.emp 4,.emp 1,.emp 4,pz],.mv 5 cF] [2,3,4] (Zs [lT 8 10 2,.call 9 [3,4,5,6,7,8,9,10,11] (.f Ng) [.s 8],.alloc 6 12 [.emp 9,.emp 4,.emp 4,.emp 6,.emp 4,.emp 5,.emp 4,.emp 1,.emp 4,pz],sS 10 6 9] [2,3,4,6] (.seq (.dreg [Zf [13,14] [14] (fS 10 2 0),Zg [13,14] [14] [0] (lF 11 1 10),{o:= .call 12 [13] (.f N4n) [.s 11],hs:=[13,14],ho:=[14],ws:=[13],bf:=[0,1]},Zf [10,11,12] [13] (lT 13 9 3),{o:= .lit 14 14 9 88 [.s 13],hs:=[10,11,12],ho:=[13],ws:=[14],bf:=[3]},{o:= .call 15 [15] (.f N4n) [.s 14],ws:=[15],bf:=(.range 5)},{o:= .app 16 13 9 88 (.s 12) (.s 15),ws:=[13,15],bf:=(.range 6)},Ze (.range 7) (mS 7 16)] [2,3,4,6,7])
(.seq (.seq (.reg [Za (mS 17 7),Za (.call 18 [] (.f Nay) [.s 17]),Za (.un 19 .not (.s 18)),Za (mS 20 19),Zb 20 false (fS 21 3 3),Zb 20 false (lF 22 1 21),Zb 20 false (fS 23 2 9),Zb 20 false (lF 24 1 23),Zb 20 false (bS 25 .lss 22 24),Za (.pick 26 (.s 20) cT (.s 25))] [4,6,7,26])
(.cond (.s 26) (Zs [lT 27 10 6,sS 10 4 27,.mv 5 cF] [4,5] .ret) .skip))
(Zs [mS 28 7,fS 29 6 0,sS 1 29 28] [4,6] (Zs [lT 30 10 6,sS 10 4 30,.mv 5 cT] [4,5] .ret))))))
theorem Cmp(a:GArchive)(x:GVersion)(hs:a.size≤1073741824)(hx:x.size≤1073741823):Ctr Tryz.prog Nde [aS a.enc,aS x.enc] [rS (K3m a x).enc,rB (K2h a x)]:=by
  refine cA Mcc 16 31 [(.cell 4 true 10,[true,true,true,true,true,true,true,true,true,false]),(.tmp 5,[false])] Tryz.func57 rfl rfl ?_;unfold Mcc
  intro hb
  clear hb
  simp only[go_sem]
  apply K0 (Cs a hs)
  simp only[go_sem]
  intros
  have e1:List.map GVersion.enc a.Site++[[T.sc (Value.int IntKind.i64 x.Address.Host),T.sc (Value.int IntKind.i64 x.Address.Path),T.sc (Value.int IntKind.i64 x.Address.Query),T.sc (Value.int IntKind.i64 x.From),T.sc (Value.int IntKind.i64 x.Resource.Kind),T.sl 1 (List.map encI x.Resource.Body),T.sc (Value.int IntKind.i64 x.Resource.To.Host),T.sc (Value.int IntKind.i64 x.Resource.To.Path),T.sc (Value.int IntKind.i64 x.Resource.To.Query)]]=(a.Site++[x]).map GVersion.enc:=by rw[List.map_append];rfl
  have e2:a.Site.length+1=(a.Site++[x]).length:=by simp
  have hsl:a.Site.length+(a.Site.map GVersion.size).sum≤1073741824:=by simp only[GArchive.size]at hs;omega
  apply K0 (C8t a.Site hsl)
  simp only[go_sem]
  intros
  refine⟨by decide,?_⟩
  apply K0 (C8t [x] (by simp only[List.length_cons,List.length_nil,List.map_cons,List.map_nil,List.sum_cons,List.sum_nil];simp only[GVersion.size]at hx ⊢;omega))
  simp only[go_sem,↓e1,e2]
  intros
  refine⟨by simp only[roomB];simp;omega,?_⟩
  intros
  apply K0 (Cj7 (a.Site++[x]))
  simp only[go_sem]
  repeat' first
    |(refine And.intro ?_ ?_<;>intro h)
  all_goals
    first
      |(have hF:K2h a x=false:=by
         clear e1 e2 hsl hs hx
         unfold K2h
         simp_all
         try omega
        simp[K3m,hF]
        done)
      |(have hT:K2h a x=true:=by
         clear e1 e2 hsl hs hx
         unfold K2h
         simp_all
         try omega
        simp[K3m,hT]
        done)
end Go.Proofs.YtjneccbpkckdfaaGreatR
namespace Go.Proofs.YtjneccbpkckdfaaGreatR
open Go Go.RowKit Go.Proofs
open Nat (reduceEqDiff reduceLT reduceLeDiff reduceAdd reduceMul)
open List (reduceReplicate)
theorem addrB{x y:GAddress}:(x.Host==y.Host&&(x.Path==y.Path&&x.Query==y.Query))=decide (x=y):=by
 rw[Bool.eq_iff_iff];simp[GAddress.eqv]
def Moa:MC:=
(Zs [.mv 4 (ci 0)] [0,1] (.seq (Zs [mS 5 1,mS 6 0,bS 7 .gtr 5 6] [0,1,7] (.cond (.s 7) (Zs [mS 8 1,mS 4 8] [4] .ret) .skip))
(Zs [mS 9 0,mS 4 9] [4] .ret)))
theorem Co8(x y:Int):Ctr Tryz.prog Nj1 [aI x,aI y] [rI (if y>x then y else x)]:=by
 refine cA Moa 0 10 [(.tmp 4,[false])] Tryz.func210 rfl rfl ?_;unfold Moa
 intro hb
 clear hb
 simp only[go_sem]
 refine⟨fun h=>?_,fun h=>?_⟩
 ·rw[if_pos (by omega)]
 ·rw[if_neg (by omega)]
def Mob:MC:=
(Zs [.mv 4 (ci 0)] [0,1] (.seq (Zs [mS 5 1,mS 6 0,bS 7 .lss 5 6] [0,1,7] (.cond (.s 7) (Zs [mS 8 1,mS 4 8] [4] .ret) .skip))
(Zs [mS 9 0,mS 4 9] [4] .ret)))
theorem Cdj(x y:Int):Ctr Tryz.prog N6y [aI x,aI y] [rI (if y<x then y else x)]:=by
 refine cA Mob 0 10 [(.tmp 4,[false])] Tryz.func203 rfl rfl ?_;unfold Mob
 intro hb
 clear hb
 simp only[go_sem]
 refine⟨fun h=>?_,fun h=>?_⟩
 ·rw[if_pos (by omega)]
 ·rw[if_neg (by omega)]
end Go.Proofs.YtjneccbpkckdfaaGreatR
namespace Go.Proofs.YtjneccbpkckdfaaGreatR
open Go Go.RowKit Go.Proofs
open Nat (reduceEqDiff reduceLT reduceLeDiff reduceAdd reduceMul)
open List (reduceReplicate)
def capsOf(l:List GContainer):List GCapture:=l.flatMap fun x=>x.Captures
def told(d:GDisk):List GContainer:=if whole d then d.Containers else d.Containers.dropLast
def allCaps(a:GArchive):List GCapture:=capsOf (told a.Disk)
def seen(a:GArchive):List GCapture:=visible (allCaps a) a.Exclusions a.Now
def served(a:GArchive):List GCapture:=(seen a).drop ((seen a).length-20)
end Go.Proofs.YtjneccbpkckdfaaGreatR
namespace Go.Proofs.YtjneccbpkckdfaaGreatR
open Go Go.RowKit Go.Proofs
open Nat (reduceEqDiff reduceLT reduceLeDiff reduceAdd reduceMul)
open List (reduceReplicate)
def ansP(a:GAddress)(tick:Int)(v:GVersion):Bool:=decide (v.Address=a)&&decide (v.From≤tick)
def noRes:GResource:=⟨4,[],⟨0,0,0⟩⟩
def answer(l:List GVersion)(a:GAddress)(tick:Int):GResource:=l.foldl (fun r v=>if ansP a tick v then v.Resource else r) noRes
theorem K9g{l:List GVersion}{a:GAddress}{tick:Int}{k:Nat}{x:GVersion}(h:l[k]? =some x):answer (l.take (k+1)) a tick=if ansP a tick x then x.Resource else answer (l.take k) a tick:=by
 rw[Kc h,answer,List.foldl_append];rfl
theorem K9f{a:GAddress}{tick:Int}:∀ {l:List GVersion},(answer l a tick).Body.length≤(l.map GVersion.size).sum:=by
 intro l
 suffices H:∀(l:List GVersion) (r:GResource),(l.foldl (fun r v=>if ansP a tick v then v.Resource else r) r).Body.length≤r.Body.length+(l.map GVersion.size).sum by
  have:=H l noRes
  have e:noRes.Body.length=0:=rfl
  rw[e,Nat.zero_add]at this
  exact this
 intro l
 induction l with
 |nil=>intro r;simp
 |cons x l ih=>
  intro r
  rw[List.foldl_cons,List.map_cons,List.sum_cons]
  have:=ih (if ansP a tick x then x.Resource else r)
  have h2:(if ansP a tick x then x.Resource else r).Body.length≤r.Body.length+x.size:=by
   split<;>simp only[GVersion.size,GResource.size]<;>omega
  omega
theorem hneg:((0:Int)-1≥0)=False:=by simp
theorem Kag(a:GAddress)(tick:Int)(x:GVersion):(ansP a tick x=true∧(x.Address.Host==a.Host&&(x.Address.Path==a.Path&&x.Address.Query==a.Query))=true∧x.From≤tick)∨
  (ansP a tick x=false∧(x.Address.Host==a.Host&&(x.Address.Path==a.Path&&x.Address.Query==a.Query))=true∧¬x.From≤tick)∨
  (ansP a tick x=false∧(x.Address.Host==a.Host&&(x.Address.Path==a.Path&&x.Address.Query==a.Query))=false):=by
 rw[addrB]
 by_cases h1:x.Address=a<;>by_cases h2:x.From≤tick<;>simp[ansP,h1,h2]
def Mg2:MC:=
(Zs [.box 4 0 (.s 1),.alloc 6 1 [pz,.emp 1,pz,pz,pz]] [0,2,4,6] (.seq (Zs [mS 8 0,nS 9 8,bC 10 .sub 9 1,mS 7 10] [0,2,4,6,7] (.block 0 (.loop ([0,2,4,6,7],[]) (.seq (Zs [mS 11 7,bC 12 .geq 11 0] [0,2,4,6,7,12] (cX 12 0))
(.seq (.block 1 (.seq (.dreg [Zc [16,20] (mS 15 0),Zc [15,20] (mS 16 7),Zd [20] [0,1] (xS 17 9 15 16),Zd [20] [0,1,2] (fS 18 17 0),Zd [20] (.range 4) (lT 19 3 18),Zc [15,16,17,18,19] (lT 20 3 4),Ze (.range 6) (.eqA 21 false [.i .i64,.i .i64,.i .i64] (.s 19) (.s 20)),Ze (.range 7) (mS 22 21),{o:=mS 23 0,g:=some (22,true),hs:=[24,28],bf:=(.range 8)},{o:=mS 24 7,g:=some (22,true),hs:=[23,28],bf:=(.range 8)},{o:=xS 25 9 23 24,g:=some (22,true),hs:=[28],bf:=(.range 10)},{o:=fS 26 25 3,g:=some (22,true),hs:=[28],bf:=(.range 11)},{o:=lF 27 1 26,g:=some (22,true),hs:=[28],bf:=(.range 12)},{o:=mS 28 2,g:=some (22,true),hs:=[23,24,25,26,27],bf:=(.range 8)},{o:=bS 29 .leq 27 28,g:=some (22,true),bf:=(.range 14)},Ze (.range 15) (.pick 30 (.s 22) (.s 29) cF)] [0,2,4,6,7,30])
(.cond (.s 30) (Zs [mS 31 0,mS 32 7,xS 33 9 31 32,fS 34 33 4,lT 35 5 34,.call 36 [2] (.f N3r) [.s 35],sS 5 6 36] [6] .ret) .skip)))
(pr [mS 13 7,bC 14 .sub 13 1,mS 7 14] [0,2,4,6,7]))))))
(Zs [.build 37 [pz,.emp 1,pz,pz,pz] [(0,1,.c (.int .i64 4))],sS 5 6 37] [6] .ret)))
theorem Cfu(l:List GVersion)(a:GAddress)(tick:Int)(hs:l.length+(l.map GVersion.size).sum≤1073741824):Ctr Tryz.prog N6o [aL 9 (l.map GVersion.enc),aS a.enc,aI tick] [rS (answer l a tick).enc]:=by
 refine cA Mg2 3 38 [(.cell 6 true 5,[false,true,false,false,false])] Tryz.func376 rfl rfl ?_;unfold Mg2
 intro hb
 clear hb
 simp only[go_sem]
 refine Kj (fun k:Nat=>[(7,vI ((k:Int)-1))]) (fun _=>[]) (fun k=>k≤l.length∧answer l a tick=answer (l.take k) a tick) (fun k=>k) l.length ?_
 simp only[go_sem]
 refine⟨?_,⟨Nat.le_refl _,by rw[List.take_length]⟩,?_⟩
 ·simp only[go_sem]
  exact wI (by omega) (by omega)
 ·rintro k ⟨hk,hd⟩
  cases k with
  |zero=>
   simp only[go_sem,hneg]
   rw[hd,List.take_zero]
   exact⟨rfl,rfl,rfl,rfl,rfl⟩
  |succ k=>
   obtain⟨x,hx⟩:=Kb (show k<l.length by omega)
   have e1:((k+1:Nat):Int)-1=k:=by omega
   have hx1:=Kz (f:=GVersion.size) (Km hx)
   rw[K9g hx]at hd
   simp only[e1]
   have hk0:(k:Int)≥0:=by omega
   have hk1:(k:Int)<l.length:=by omega
   have hk2:(0:Int)≥(k:Int)→k=0:=by omega
   have hk3:(0:Int)≤(k:Int):=by omega
   rcases Kag a tick x with ⟨hp,hA,hF⟩|⟨hp,hA,hF⟩|⟨hp,hA⟩
   ·simp only[go_sem,K4 hx,hk0,hk1,hA,hF]
    apply K0 (C3n x.Resource (by simp only[GVersion.size,GResource.size]at hx1;omega))
    simp only[go_sem]
    rw[hd,if_pos hp]
    try intros
    try exact⟨rfl,rfl,rfl,rfl,rfl⟩
   ·simp only[go_sem,K4 hx,hk0,hk1,hA,hF]
    rw[if_neg (by simp[hp])]at hd
    exact⟨k,wI (by omega) (by omega),⟨by omega,hd⟩,by omega⟩
   ·simp only[go_sem,K4 hx,hk0,hk1,hA]
    rw[if_neg (by simp[hp])]at hd
    exact⟨k,wI (by omega) (by omega),⟨by omega,hd⟩,by omega⟩
def Mgk:MC:=
(Zs [.box 4 0 (.s 1),.alloc 6 1 [pz,.emp 1,pz,pz,pz]] [0,2,4,6] (Zs [.buildO 9 [pz,.emp 1,pz,pz,pz] [(0,1,.c (.int .i64 4))] [none,some 2,none,none,none],.alloc 7 3 [pz,.emp 1,pz,pz,pz],sS 5 7 9] [0,2,4,6,7] (.seq (Zs [.mv 8 (ci 0)] [0,2,4,6,7,8] (.block 0 (.loop ([0,2,4,6,7,8],[]) (.seq (Zs [mS 10 8,mS 11 0,nS 12 11,bS 13 .lss 10 12] [0,2,4,6,7,8,13] (cX 13 0))
(.seq (.block 1 (.seq (.dreg [Zc [17,21] (mS 16 0),Zc [16,21] (mS 17 8),Zd [21] [0,1] (xS 18 9 16 17),Zd [21] [0,1,2] (fS 19 18 0),Zd [21] (.range 4) (lT 20 3 19),Zc [16,17,18,19,20] (lT 21 3 4),Ze (.range 6) (.eqA 22 false [.i .i64,.i .i64,.i .i64] (.s 20) (.s 21)),Ze (.range 7) (mS 23 22),{o:=mS 24 0,g:=some (23,true),hs:=[25,29],bf:=(.range 8)},{o:=mS 25 8,g:=some (23,true),hs:=[24,29],bf:=(.range 8)},{o:=xS 26 9 24 25,g:=some (23,true),hs:=[29],bf:=(.range 10)},{o:=fS 27 26 3,g:=some (23,true),hs:=[29],bf:=(.range 11)},{o:=lF 28 1 27,g:=some (23,true),hs:=[29],bf:=(.range 12)},{o:=mS 29 2,g:=some (23,true),hs:=[24,25,26,27,28],bf:=(.range 8)},{o:=bS 30 .leq 28 29,g:=some (23,true),bf:=(.range 14)},Ze (.range 15) (.pick 31 (.s 23) (.s 30) cF)] [0,2,4,6,7,8,31])
(.cond (.s 31) (pr [mS 32 0,mS 33 8,xS 34 9 32 33,fS 35 34 4,lT 36 5 35,.call 37 [2] (.f Nb1) [.s 36],sS 5 7 37] [0,2,4,6,7,8]) .skip)))
(pr [mS 14 8,bC 15 .add 14 1,mS 8 15] [0,2,4,6,7,8]))))))
(Zs [lT 38 5 7,sS 5 6 38] [6] .ret))))
theorem Cfy(l:List GVersion)(a:GAddress)(tick:Int)(hs:l.length+(l.map GVersion.size).sum≤1073741824):Ctr Tryz.prog N6v [aL 9 (l.map GVersion.enc),aS a.enc,aI tick] [rS (answer l a tick).enc]:=by
 refine cA Mgk 4 39 [(.cell 6 true 5,[false,true,false,false,false])] Tryz.func370 rfl rfl ?_;unfold Mgk
 intro hb
 clear hb
 simp only[go_sem]
 refine K5 l (fun k=>[(8,vI k)]) (fun k=>[(2,⟨0,.row true 1 ((answer (l.take k) a tick).Body.map encI)⟩),(3,⟨0,.box [.pl (tI (answer (l.take k) a tick).Kind),.ref 2 0 1 0 (answer (l.take k) a tick).Body.length,.pl (tI (answer (l.take k) a tick).To.Host),.pl (tI (answer (l.take k) a tick).To.Path),.pl (tI (answer (l.take k) a tick).To.Query)]⟩)]) (fun _=>True) (by simp only[roomB];omega) ?_
 simp only[go_sem]
 refine⟨?_,trivial,?_,?_⟩
 ·simp only[go_sem,List.take_zero]
  exact⟨rfl,rfl,rfl,rfl,rfl,rfl⟩
 ·intro k x hx _ h0 h1 hw
  have hx1:=Kz (f:=GVersion.size) (Km hx)
  have hsn:=K9g (a:=a) (tick:=tick) hx
  rcases Kag a tick x with ⟨hp,hA,hF⟩|⟨hp,hA,hF⟩|⟨hp,hA⟩
  ·rw[if_pos hp]at hsn
   simp only[go_sem,K4 hx,h0,h1,hw,hA,hF,hsn]
   apply K0 (Cau x.Resource (by simp only[GVersion.size,GResource.size]at hx1;omega))
   simp only[go_sem,hw]
   try intros
   try trivial
  ·rw[if_neg (by simp[hp])]at hsn
   simp only[go_sem,K4 hx,h0,h1,hw,hF,hsn]
   try trivial
  ·rw[if_neg (by simp[hp])]at hsn
   simp only[go_sem,K4 hx,h0,h1,hw,hA,hsn]
   try trivial
 ·intro _
  simp only[go_sem,List.take_length]
def followF(l:List GVersion)(tick:Int):Nat→GResource→List GAddress→GResource×List GAddress
 |0,r,q=>(r,q)
 |n+1,r,q=>if r.Kind=3∧q.length≤4∧¬r.To∈q then followF l tick n (answer l r.To tick) (q++[r.To])else(r,q)
def follow(l:List GVersion)(a:GAddress)(tick:Int):GResource×List GAddress:=followF l tick 5 (answer l a tick) [a]
theorem Kao{l:List GVersion}{tick:Int}{r:GResource}{q:List GAddress}(h:r.Kind=3∧q.length≤4∧¬r.To∈q):followF l tick (6-q.length) r q=followF l tick (6-(q++[r.To]).length) (answer l r.To tick) (q++[r.To]):=by
 have e:6-q.length=(6-(q++[r.To]).length)+1:=by rw[List.length_append];simp only[List.length_cons,List.length_nil];omega
 rw[e,followF,if_pos h]
theorem K3f{l:List GVersion}{tick:Int}{r:GResource}{q:List GAddress}(hq:q.length≤5)(h:¬(r.Kind=3∧q.length≤4∧¬r.To∈q)):followF l tick (6-q.length) r q=(r,q):=by
 have e:6-q.length=(5-q.length)+1:=by omega
 rw[e,followF,if_neg h]
def Mlo:MC:=
(Zs [.box 3 0 (.s 1),.mv 4 cF] [0,3] (.seq (Zs [.mv 5 (ci 0)] [0,3,5] (.block 0 (.loop ([0,3,5],[]) (.seq (Zs [mS 6 5,mS 7 0,nS 8 7,bS 9 .lss 6 8] [0,3,5,9] (cX 9 0))
(.seq (.block 1 (.seq (.dreg [Zc [13,16] (mS 12 0),Zc [12,16] (mS 13 5),Zd [16] [0,1] (xS 14 3 12 13),Zd [16] [0,1,2] (lT 15 3 14),Zc [12,13,14,15] (lT 16 3 3),Ze (.range 5) (.eqA 17 false [.i .i64,.i .i64,.i .i64] (.s 15) (.s 16))] [0,3,5,17])
(.cond (.s 17) (Zs [.mv 4 cT] [4] .ret) .skip)))
(pr [mS 10 5,bC 11 .add 10 1,mS 5 11] [0,3,5]))))))
(Zs [.mv 4 cF] [4] .ret)))
theorem Cp1(xs:List GAddress)(a:GAddress):Ctr Tryz.prog Nls [aL 3 (xs.map GAddress.enc),aS a.enc] [rB (decide (a∈xs))]:=by
 refine cA Mlo 1 18 [(.tmp 4,[false])] Tryz.func371 rfl rfl ?_;unfold Mlo
 intro hb
 simp only[bdA,bdL,bdT,Ke,roomB,and_true,List.length_map]at hb
 have hl:=hb.1
 clear hb
 simp only[go_sem]
 refine K5 xs (fun k=>[(5,vI k)]) (fun k=>[]) (fun k=>¬a∈xs.take k) hl.1 ?_
 simp only[go_sem]
 refine⟨?_,by simp,?_,?_⟩
 ·simp only[go_sem]
 ·intro k x hx h h0 h1 hw
  simp only[go_sem,K4 hx,h0,h1,hw,addrB]
  refine⟨fun hy=>?_,fun hn=>?_⟩
  ·have e:x=a:=by simpa using hy
   exact(decide_eq_true (e▸Km hx)).symm
  ·have e:¬x=a:=by simpa using hn
   rw[Kc hx,List.mem_append,List.mem_singleton]
   rintro (hm|hm)
   ·exact h hm
   ·exact e hm.symm
 ·intro h
  rw[List.take_length]at h
  simp only[go_sem]
  exact(decide_eq_false h).symm
def Mg3:MC:=
(Zs [.box 4 0 (.s 1),.alloc 6 1 [pz,.emp 1,pz,pz,pz],.nilo 7 2 3] [0,2,4,6] (Zs [mS 10 0,lT 11 3 4,mS 12 2,.call 13 [3] (.f N6o) [.s 10,.s 11,.s 12],.alloc 8 4 [pz,.emp 1,pz,pz,pz],sS 5 8 13] [0,2,4,6,8] (Zs [lT 14 3 4,.lit 15 2 3 24 [.s 14],mS 9 15] [0,2,6,8,9] (.seq (.block 0 (.loop ([0,2,6,8,9],[0,5]) (.seq (.seq (.reg [Za (fS 16 8 0),Za (lF 17 1 16),Za (bC 18 .eql 17 3),Za (mS 19 18),Zb 19 true (mS 20 9),Zb 19 true (nS 21 20),Zb 19 true (bC 22 .leq 21 4),Za (.pick 23 (.s 19) (.s 22) cF),Za (mS 24 23),Zb 24 true (mS 25 9),Zb 24 true (fS 26 8 2),Zb 24 true (lT 27 3 26),Zb 24 true (.call 28 [] (.f N18) [.s 25,.s 27]),Zb 24 true (.un 29 .not (.s 28)),Za (.pick 30 (.s 24) (.s 29) cF)] [0,2,6,8,9,30])
(cX 30 0))
(.block 1 (Zs [mS 31 9,fS 32 8 2,lT 33 3 32,.lit 34 5 3 24 [.s 33],.app 35 2 3 24 (.s 31) (.s 34),mS 9 35] [0,2,6,8,9] (pr [mS 36 0,fS 37 8 2,lT 38 3 37,mS 39 2,.call 40 [3] (.f N6o) [.s 36,.s 38,.s 39],sS 5 8 40] [0,2,6,8,9]))))))
(Zs [lT 41 5 8,mS 42 9,sS 5 6 41,mS 7 42] [6,7] .ret)))))
theorem Cfv(l:List GVersion)(a:GAddress)(tick:Int)(hs:l.length+(l.map GVersion.size).sum≤1073741824):Ctr Tryz.prog N6q [aL 9 (l.map GVersion.enc),aS a.enc,aI tick] [rS (follow l a tick).1.enc,rL 3 ((follow l a tick).2.map GAddress.enc)]:=by
 refine cA Mg3 6 43 [(.cell 6 true 5,[false,true,false,false,false]),(.tmp 7,[true])] Tryz.func337 rfl rfl ?_;unfold Mg3
 intro hb
 clear hb
 simp only[go_sem]
 apply K0 (Cfu l a tick hs)
 simp only[go_sem]
 intros
 refine⟨by decide,?_⟩
 refine Kj (ι:=GResource×List GAddress) (fun s=>[(9,.val false [.ref 2 0 3 0 s.2.length])]) (fun s=>[(2,⟨0,.row true 3 (s.2.map GAddress.enc)⟩),(3,⟨0,.row true 1 (s.1.Body.map encI)⟩),(4,⟨0,.box [.pl (tI s.1.Kind),.ref 3 0 1 0 s.1.Body.length,.pl (tI s.1.To.Host),.pl (tI s.1.To.Path),.pl (tI s.1.To.Query)]⟩)]) (fun s=>s.2.length≤5∧followF l tick (6-s.2.length) s.1 s.2=follow l a tick) (fun s=>6-s.2.length) (answer l a tick,[a]) ?_
 simp only[go_sem]
 refine⟨?_,⟨by simp,rfl⟩,?_⟩
 ·simp only[go_sem]
  try trivial
 ·rintro ⟨r,q⟩ ⟨hq,hf⟩
  simp only at hq hf
  by_cases c1:r.Kind=3
  ·by_cases c2:q.length≤4
   ·have c2':(q.length:Int)≤4:=by omega
    simp only[go_sem,c1,c2']
    apply K0 (Cdi q r.To)
    simp only[go_sem]
    refine⟨fun c3=>?_,fun c3=>?_⟩
    ·rw[Kao ⟨c1,c2,c3⟩]at hf
     refine⟨by decide,by simp only[roomB];omega,?_⟩
     apply K0 (Cfu l r.To tick hs)
     simp only[go_sem]
     intros
     refine⟨(answer l r.To tick,q++[r.To]),?_⟩
     exact⟨⟨by simp,by simp[GAddress.enc],rfl,rfl,rfl,rfl,rfl,rfl⟩,⟨by simp;omega,hf⟩,by simp;omega⟩
    ·rw[K3f hq (fun hh=>hh.2.2 c3)]at hf
     rw[←hf]
     exact⟨⟨c1.symm,rfl,rfl,rfl,rfl⟩,rfl⟩
   ·have c2':¬(q.length:Int)≤4:=by omega
    simp only[go_sem,c1,c2']
    rw[K3f hq (fun hh=>c2 hh.2.1)]at hf
    rw[←hf]
    exact⟨⟨c1.symm,rfl,rfl,rfl,rfl⟩,rfl⟩
  ·simp only[go_sem,c1]
   rw[K3f hq (fun hh=>c1 hh.1)]at hf
   rw[←hf]
   exact⟨⟨rfl,rfl,rfl,rfl,rfl⟩,rfl⟩
def Mgl:MC:=
(Zs [.box 4 0 (.s 1),.alloc 6 1 [pz,.emp 1,pz,pz,pz],.nilo 7 2 3] [0,2,4,6] (Zs [lT 10 3 4,.lit 11 2 3 24 [.s 10],mS 8 11] [0,2,4,6,8] (Zs [mS 12 0,lT 13 3 4,mS 14 2,.call 15 [3] (.f N6v) [.s 12,.s 13,.s 14],.alloc 9 4 [pz,.emp 1,pz,pz,pz],sS 5 9 15] [0,2,6,8,9] (.seq (.block 0 (.loop ([0,2,6,8,9],[0,5]) (.seq (.seq (.reg [Za (fS 16 9 0),Za (lF 17 1 16),Za (bC 18 .eql 17 3),Za (mS 19 18),Zb 19 true (mS 20 8),Zb 19 true (nS 21 20),Zb 19 true (bC 22 .leq 21 4),Za (.pick 23 (.s 19) (.s 22) cF),Za (mS 24 23),Zb 24 true (mS 25 8),Zb 24 true (fS 26 9 2),Zb 24 true (lT 27 3 26),Zb 24 true (.call 28 [] (.f Nls) [.s 25,.s 27]),Zb 24 true (.un 29 .not (.s 28)),Za (.pick 30 (.s 24) (.s 29) cF)] [0,2,6,8,9,30])
(cX 30 0))
(.block 1 (Zs [mS 31 8,fS 32 9 2,lT 33 3 32,.lit 34 5 3 24 [.s 33],.app 35 2 3 24 (.s 31) (.s 34),mS 8 35] [0,2,6,8,9] (pr [mS 36 0,fS 37 9 2,lT 38 3 37,mS 39 2,.call 40 [3] (.f N6v) [.s 36,.s 38,.s 39],sS 5 9 40] [0,2,6,8,9]))))))
(Zs [lT 41 5 9,mS 42 8,sS 5 6 41,mS 7 42] [6,7] .ret)))))
theorem Cfz(l:List GVersion)(a:GAddress)(tick:Int)(hs:l.length+(l.map GVersion.size).sum≤1073741824):Ctr Tryz.prog N6x [aL 9 (l.map GVersion.enc),aS a.enc,aI tick] [rS (follow l a tick).1.enc,rL 3 ((follow l a tick).2.map GAddress.enc)]:=by
 refine cA Mgl 6 43 [(.cell 6 true 5,[false,true,false,false,false]),(.tmp 7,[true])] Tryz.func330 rfl rfl ?_;unfold Mgl
 intro hb
 clear hb
 simp only[go_sem]
 refine⟨by decide,?_⟩
 apply K0 (Cfy l a tick hs)
 simp only[go_sem]
 intros
 refine Kj (ι:=GResource×List GAddress) (fun s=>[(8,.val false [.ref 2 0 3 0 s.2.length])]) (fun s=>[(2,⟨0,.row true 3 (s.2.map GAddress.enc)⟩),(3,⟨0,.row true 1 (s.1.Body.map encI)⟩),(4,⟨0,.box [.pl (tI s.1.Kind),.ref 3 0 1 0 s.1.Body.length,.pl (tI s.1.To.Host),.pl (tI s.1.To.Path),.pl (tI s.1.To.Query)]⟩)]) (fun s=>s.2.length≤5∧followF l tick (6-s.2.length) s.1 s.2=follow l a tick) (fun s=>6-s.2.length) (answer l a tick,[a]) ?_
 simp only[go_sem]
 refine⟨?_,⟨by simp,rfl⟩,?_⟩
 ·simp only[go_sem]
  try trivial
 ·rintro ⟨r,q⟩ ⟨hq,hf⟩
  simp only at hq hf
  by_cases c1:r.Kind=3
  ·by_cases c2:q.length≤4
   ·have c2':(q.length:Int)≤4:=by omega
    simp only[go_sem,c1,c2']
    apply K0 (Cp1 q r.To)
    simp only[go_sem]
    refine⟨fun c3=>?_,fun c3=>?_⟩
    ·rw[Kao ⟨c1,c2,c3⟩]at hf
     refine⟨by decide,by simp only[roomB];omega,?_⟩
     apply K0 (Cfy l r.To tick hs)
     simp only[go_sem]
     intros
     refine⟨(answer l r.To tick,q++[r.To]),?_⟩
     exact⟨⟨by simp,by simp[GAddress.enc],rfl,rfl,rfl,rfl,rfl,rfl⟩,⟨by simp;omega,hf⟩,by simp;omega⟩
    ·rw[K3f hq (fun hh=>hh.2.2 c3)]at hf
     rw[←hf]
     exact⟨⟨c1.symm,rfl,rfl,rfl,rfl⟩,rfl⟩
   ·have c2':¬(q.length:Int)≤4:=by omega
    simp only[go_sem,c1,c2']
    rw[K3f hq (fun hh=>c2 hh.2.1)]at hf
    rw[←hf]
    exact⟨⟨c1.symm,rfl,rfl,rfl,rfl⟩,rfl⟩
  ·simp only[go_sem,c1]
   rw[K3f hq (fun hh=>c1 hh.1)]at hf
   rw[←hf]
   exact⟨⟨rfl,rfl,rfl,rfl,rfl⟩,rfl⟩
end Go.Proofs.YtjneccbpkckdfaaGreatR
namespace Go.Proofs.YtjneccbpkckdfaaGreatR
open Go Go.RowKit Go.Proofs
open Nat (reduceEqDiff reduceLT reduceLeDiff reduceAdd reduceMul)
open List (reduceReplicate)
def zeros(n:Nat):List Int:=List.replicate n 0
theorem zeros_snoc{k:Nat}:zeros (k+1)=zeros k++[0]:=by
 unfold zeros;rw[List.replicate_succ']
def st0:GState:=⟨0,zeros 4,zeros 3,zeros 4⟩
def Mgp:MC:=
(Zs [.nilo 2 0 1] [0] (Zs [.lit 5 0 1 8 [],mS 3 5] [0,3] (.seq (Zs [.mv 4 (ci 0)] [0,3,4] (.block 0 (.loop ([0,3,4],[1]) (.seq (Zs [mS 6 4,mS 7 0,bS 8 .lss 6 7] [0,3,4,8] (cX 8 0))
(.seq (.block 1 (pr [mS 11 3,.lit 12 1 1 8 [.c (.int .i64 0)],.app 13 0 1 8 (.s 11) (.s 12),mS 3 13] [0,3,4]))
(pr [mS 9 4,bC 10 .add 9 1,mS 4 10] [0,3,4]))))))
(Zs [mS 14 3,mS 2 14] [2] .ret))))
theorem C6c(n:Nat)(hn:n≤4):Ctr Tryz.prog N41 [aI n] [rL 1 ((zeros n).map encI)]:=by
 refine cA Mgp 2 15 [(.tmp 2,[true])] Tryz.func196 rfl rfl ?_;unfold Mgp
 intro hb
 clear hb
 simp only[go_sem]
 refine Kj (fun k:Nat=>[(3,.val false [.ref 0 0 1 0 (zeros k).length]),(4,vI k)]) (fun k=>[(0,⟨0,.row true 1 ((zeros k).map encI)⟩)]) (fun k=>k≤n) (fun k=>n-k) 0 ?_
 simp only[go_sem]
 refine⟨?_,Nat.zero_le _,?_⟩
 ·simp only[go_sem]
  exact⟨rfl,rfl⟩
 ·intro k hk
  have hzl:(zeros k).length=k:=by simp[zeros]
  have hw1:IntKind.i64.wrap ((k:Int)+1)=((k+1:Nat):Int):=by rw[wI (by omega) (by omega)];omega
  simp only[go_sem,hw1]
  refine⟨fun hlt=>⟨by decide,?_⟩,fun hge=>?_⟩
  ·exact⟨by simp only[roomB];omega,k+1,⟨⟨by simp[zeros],rfl⟩,by rw[zeros_snoc];simp[encI]⟩,by omega,by omega⟩
  ·rw[show k=n by omega]
def Mcb:MC:=
(Zs [.alloc 0 0 [pz,.emp 1,.emp 1,.emp 1]] [0] (Zs [.call 1 [1] (.f N41) [.c (.int .i64 4)],.call 2 [2] (.f N41) [.c (.int .i64 3)],.call 3 [3] (.f N41) [.c (.int .i64 4)],.build 4 [pz,.emp 1,.emp 1,.emp 1] [(1,1,.s 1),(2,1,.s 2),(3,1,.s 3)],sS 4 0 4] [0] .ret))
theorem Cmo:Ctr Tryz.prog Ndd [] [rS st0.enc]:=by
 refine cA Mcb 4 5 [(.cell 0 true 4,[false,true,true,true])] Tryz.func193 rfl rfl ?_;unfold Mcb
 intro hb
 clear hb
 simp only[go_sem]
 apply K0 (C6c 4 (by omega))
 simp only[go_sem]
 try intros
 apply K0 (C6c 3 (by omega))
 simp only[go_sem]
 try intros
 apply K0 (C6c 4 (by omega))
 simp only[go_sem]
 try intros
 exact⟨rfl,rfl,rfl,rfl⟩
def Mbi:MC:=
(Zs [.alloc 0 0 [pz,.emp 1,.emp 1,.emp 1]] [0] (.seq (.dreg [{o:= .mk 1 1 1 8 [.sc (.int .i64 0)] (ci 4),hs:=[2,3],ho:=[2,3],ws:=[1]},{o:= .mk 2 2 1 8 [.sc (.int .i64 0)] (ci 3),hs:=[1,3],ho:=[1,3],ws:=[2]},{o:= .mk 3 3 1 8 [.sc (.int .i64 0)] (ci 4),hs:=[1,2],ho:=[1,2],ws:=[3]},Ze [0,1,2] (.build 4 [pz,.emp 1,.emp 1,.emp 1] [(1,1,.s 1),(2,1,.s 2),(3,1,.s 3)]),{o:=sS 4 0 4,ws:=[0,1,2,3],bf:=(.range 4)}] [0])
.ret))
theorem Cm0:Ctr Tryz.prog Ncn [] [rS st0.enc]:=by
 refine cA Mbi 4 5 [(.cell 0 true 4,[false,true,true,true])] Tryz.func211 rfl rfl ?_;unfold Mbi
 intro hb
 clear hb
 simp only[go_sem]
 exact⟨by simp only[roomB];omega,by simp only[roomB];omega,by simp only[roomB];omega,rfl,rfl,rfl,rfl,rfl,rfl,rfl⟩
def Me3:MC:=
(Zs [.box 1 0 (.s 0),.alloc 2 1 [pz,.emp 1,.emp 1,.emp 1]] [1,2] (.seq (.dreg [Zf [5,6,7,8,9,10,11,12,13] [2,3,4] (fS 3 1 0),Zg [5,6,7,8,9,10,11,12,13] [2,3,4] [0] (lF 4 1 3),Zc [3,4,8,9,11,12] (fS 5 1 1),Zd [3,4,8,9,11,12] [2] (lF 6 1 5),{o:= .call 7 [2] (.f N4) [.s 6],hs:=[3,4,8,9,11,12],ws:=[2],bf:=[2,3]},Zf [3,4,5,6,7,11,12] [2] (fS 8 1 2),Zg [3,4,5,6,7,11,12] [2] [5] (lF 9 1 8),{o:= .call 10 [3] (.f N4) [.s 9],hs:=[3,4,11,12],ws:=[3],bf:=[2,3,4,5,6]},Zf [3,4,5,6,7,8,9,10] [2,3] (fS 11 1 3),Zg [3,4,5,6,7,8,9,10] [2,3] [8] (lF 12 1 11),{o:= .call 13 [4] (.f N4) [.s 12],hs:=[3,4],ws:=[4],bf:=[2,3,4,5,6,7,8,9]},Ze (.range 11) (.build 14 [pz,.emp 1,.emp 1,.emp 1] [(0,1,.s 4),(1,1,.s 7),(2,1,.s 10),(3,1,.s 13)]),{o:=sS 4 2 14,ws:=[1,2,3,4],bf:=(.range 12)}] [2])
.ret))
theorem Cdl(s:GState)(hs:s.size≤1073741824):Ctr Tryz.prog N5i [aS s.enc] [rS s.enc]:=by
 refine cA Me3 5 15 [(.cell 2 true 4,[false,true,true,true])] Tryz.func302 rfl rfl ?_;unfold Me3
 intro hb
 clear hb
 simp only[GState.size]at hs
 simp only[go_sem]
 apply K0 (Ca s.Regs (by omega))
 simp only[go_sem]
 try intros
 apply K0 (Ca s.Slots (by omega))
 simp only[go_sem]
 try intros
 apply K0 (Ca s.Nodes (by omega))
 simp only[go_sem]
 try intros
 try trivial
def Mi6:MC:=
(Zs [.box 1 0 (.s 0),.alloc 2 1 [pz,.emp 1,.emp 1,.emp 1]] [1,2] (.seq (.dreg [Zf [5,6,7,8,9,10,11,12,13,14,15,16] [2,3,4] (fS 3 1 0),Zg [5,6,7,8,9,10,11,12,13,14,15,16] [2,3,4] [0] (lF 4 1 3),{o:= .lit 5 2 1 8 [],hs:=[3,4,6,7,9,10,11,13,14,15],ho:=[3,4],ws:=[2]},Zf [3,4,5,9,10,11,13,14,15] [2,3,4] (fS 6 1 1),Zg [3,4,5,9,10,11,13,14,15] [2,3,4] [3] (lF 7 1 6),{o:= .app 8 2 1 8 (.s 5) (.s 7),hs:=[3,4,9,10,11,13,14,15],ho:=[3,4],ws:=[2],bf:=[2,3,4]},{o:= .lit 9 3 1 8 [],hs:=[3,4,5,6,7,8,10,11,13,14,15],ho:=[2,4],ws:=[3]},Zf [3,4,5,6,7,8,9,13,14,15] [2,3,4] (fS 10 1 2),Zg [3,4,5,6,7,8,9,13,14,15] [2,3,4] [7] (lF 11 1 10),{o:= .app 12 3 1 8 (.s 9) (.s 11),hs:=[3,4,13,14,15],ho:=[4],ws:=[3],bf:=[2,3,4,5,6,7,8]},{o:= .lit 13 4 1 8 [],hs:=[3,4,5,6,7,8,9,10,11,12,14,15],ho:=[2,3],ws:=[4]},Zf [3,4,5,6,7,8,9,10,11,12,13] [2,3,4] (fS 14 1 3),Zg [3,4,5,6,7,8,9,10,11,12,13] [2,3,4] [11] (lF 15 1 14),{o:= .app 16 4 1 8 (.s 13) (.s 15),hs:=[3,4],ws:=[4],bf:=[2,3,4,5,6,7,8,9,10,11,12]},Ze (.range 14) (.build 17 [pz,.emp 1,.emp 1,.emp 1] [(0,1,.s 4),(1,1,.s 8),(2,1,.s 12),(3,1,.s 16)]),{o:=sS 4 2 17,ws:=[1,2,3,4],bf:=(.range 15)}] [2])
.ret))
theorem Chl(s:GState)(hs:s.size≤1073741824):Ctr Tryz.prog N8x [aS s.enc] [rS s.enc]:=by
 refine cA Mi6 5 18 [(.cell 2 true 4,[false,true,true,true])] Tryz.func290 rfl rfl ?_;unfold Mi6
 intro hb
 clear hb
 simp only[GState.size]at hs
 simp only[go_sem,↓Ko (f:=encI) (fun _=>rfl) s.Regs,↓Ko (f:=encI) (fun _=>rfl) s.Slots,↓Ko (f:=encI) (fun _=>rfl) s.Nodes]
 simp only[roomB]
 omega
def stOk(s:GState):Bool:=decide (0≤s.Pc∧s.Pc≤19)&&(decide (s.Regs.length=4∧s.Slots.length=3∧s.Nodes.length=4)&&(K21 s.Regs 0 999&&(K21 s.Slots 0 999&&K21 s.Nodes 0 999)))
def Mjs:MC:=
(Zs [.mv 4 cF] [0,1] (.seq (Zs [.mv 5 (ci 0)] [0,1,5] (.block 0 (.loop ([0,1,5],[]) (.seq (Zs [mS 6 5,mS 7 0,nS 8 7,bS 9 .lss 6 8] [0,1,5,9] (cX 9 0))
(.seq (.block 1 (Zs [mS 12 0,mS 13 5,xS 14 1 12 13,lF 15 1 14,.call 16 [] (.f N0) [.s 15,.c (.int .i64 0),.c (.int .i64 999)],.un 17 .not (.s 16)] [0,1,5,17] (.cond (.s 17) (Zs [.mv 4 cF] [4] .ret) .skip)))
(pr [mS 10 5,bC 11 .add 10 1,mS 5 11] [0,1,5]))))))
(Zs [mS 18 0,nS 19 18,mS 20 1,bS 21 .eql 19 20,mS 4 21] [4] .ret)))
theorem C5a(l:List Int)(n:Nat):Ctr Tryz.prog N3m [aL 1 (l.map encI),aI n] [rB (decide (l.length=n)&&K21 l 0 999)]:=by
 refine cA Mjs 0 22 [(.tmp 4,[false])] Tryz.func323 rfl rfl ?_;unfold Mjs
 intro hb
 simp only[bdA,bdL,bdT,Ke,K10,roomB,and_true,List.length_map]at hb
 obtain⟨⟨hl,-⟩,-⟩:=hb
 simp only[go_sem]
 refine K5 l (fun k=>[(5,vI k)]) (fun k=>[]) (fun k=>((l.take k).all fun x=>decide (0≤x∧x≤999))=true) hl ?_
 simp only[go_sem]
 refine⟨?_,by simp,?_,?_⟩
 ·simp only[go_sem]
 ·intro k x hx h h0 h1 hw
  simp only[go_sem,K4 hx,h0,h1]
  refine K0 (C3 _ _ _) ?_
  simp only[go_sem,hw]
  refine⟨fun hn=>?_,fun hn=>K3l hx h (by simpa using hn)⟩
  rw[show K21 l 0 999=false from(K95 hx (by simpa using hn)).symm,Bool.and_false]
 ·intro h
  simp only[go_sem]
  rw[List.take_length]at h
  rw[show K21 l 0 999=true from h,Bool.and_true,Bool.eq_iff_iff]
  simp only[decide_eq_true_eq,beq_iff_eq]
  omega
def Mhp:MC:=
(Zs [.box 1 0 (.s 0),.mv 2 cF] [1] (.seq (.reg [Za (fS 3 1 0),Za (lF 4 1 3),Za (.call 5 [] (.f N1) [.s 4,.c (.int .i64 0),.c (.int .i64 19)]),Za (mS 6 5),Zb 6 true (fS 7 1 1),Zb 6 true (lF 8 1 7),Zb 6 true (nS 9 8),Zb 6 true (bC 10 .eql 9 4),Za (.pick 11 (.s 6) (.s 10) cF),Za (mS 12 11),Zb 12 true (fS 13 1 2),Zb 12 true (lF 14 1 13),Zb 12 true (nS 15 14),Zb 12 true (bC 16 .eql 15 3),Za (.pick 17 (.s 12) (.s 16) cF),Za (mS 18 17),Zb 18 true (fS 19 1 3),Zb 18 true (lF 20 1 19),Zb 18 true (nS 21 20),Zb 18 true (bC 22 .eql 21 4),Za (.pick 23 (.s 18) (.s 22) cF),Za (mS 24 23),Zb 24 true (fS 25 1 1),Zb 24 true (lF 26 1 25),Zb 24 true (.call 27 [] (.f N30) [.s 26,.c (.int .i64 0),.c (.int .i64 999)]),Za (.pick 28 (.s 24) (.s 27) cF),Za (mS 29 28),Zb 29 true (fS 30 1 2),Zb 29 true (lF 31 1 30),Zb 29 true (.call 32 [] (.f N30) [.s 31,.c (.int .i64 0),.c (.int .i64 999)]),Za (.pick 33 (.s 29) (.s 32) cF),Za (mS 34 33),Zb 34 true (fS 35 1 3),Zb 34 true (lF 36 1 35),Zb 34 true (.call 37 [] (.f N30) [.s 36,.c (.int .i64 0),.c (.int .i64 999)]),Za (.pick 38 (.s 34) (.s 37) cF),Za (mS 2 38)] [2])
.ret))
theorem Coc(s:GState):Ctr Tryz.prog Nif [aS s.enc] [rB (stOk s)]:=by
 refine cA Mhp 1 39 [(.tmp 2,[false])] Tryz.func355 rfl rfl ?_;unfold Mhp
 intro hb
 clear hb
 simp only[go_sem]
 repeat' first
  |(refine And.intro ?_ ?_<;>intro h)
  |(apply K0 (C2 _ _ _);simp only[go_sem])
  |(apply K0 (C68 _ _ _);simp only[go_sem])
 all_goals (unfold stOk;by_cases c1:s.Regs.length=4<;>by_cases c2:s.Slots.length=3<;>by_cases c3:s.Nodes.length=4<;>simp_all<;>omega)
def Mi4:MC:=
(Zs [.box 1 0 (.s 0),.mv 2 cF] [1] (.seq (.reg [Za (fS 3 1 0),Za (lF 4 1 3),Za (.call 5 [] (.f N0) [.s 4,.c (.int .i64 0),.c (.int .i64 19)]),Za (mS 6 5),Zb 6 true (fS 7 1 1),Zb 6 true (lF 8 1 7),Zb 6 true (.call 9 [] (.f N3m) [.s 8,.c (.int .i64 4)]),Za (.pick 10 (.s 6) (.s 9) cF),Za (mS 11 10),Zb 11 true (fS 12 1 2),Zb 11 true (lF 13 1 12),Zb 11 true (.call 14 [] (.f N3m) [.s 13,.c (.int .i64 3)]),Za (.pick 15 (.s 11) (.s 14) cF),Za (mS 16 15),Zb 16 true (fS 17 1 3),Zb 16 true (lF 18 1 17),Zb 16 true (.call 19 [] (.f N3m) [.s 18,.c (.int .i64 4)]),Za (.pick 20 (.s 16) (.s 19) cF),Za (mS 2 20)] [2])
.ret))
theorem Com(s:GState):Ctr Tryz.prog Nip [aS s.enc] [rB (stOk s)]:=by
 refine cA Mi4 1 21 [(.tmp 2,[false])] Tryz.func348 rfl rfl ?_;unfold Mi4
 intro hb
 clear hb
 simp only[go_sem]
 repeat' first
  |(refine And.intro ?_ ?_<;>intro h)
  |(apply K0 (C3 _ _ _);simp only[go_sem])
  |(apply K0 (C5a s.Regs 4);simp only[go_sem])
  |(apply K0 (C5a s.Slots 3);simp only[go_sem])
  |(apply K0 (C5a s.Nodes 4);simp only[go_sem])
 all_goals (unfold stOk;by_cases c1:s.Regs.length=4<;>by_cases c2:s.Slots.length=3<;>by_cases c3:s.Nodes.length=4<;>simp_all<;>omega)
end Go.Proofs.YtjneccbpkckdfaaGreatR
namespace Go.Proofs.YtjneccbpkckdfaaGreatR
open Go Go.RowKit Go.Proofs
open Nat (reduceEqDiff reduceLT reduceLeDiff reduceAdd reduceMul)
open List (reduceReplicate)
def K46(l:List GOp)(s:GState):Bool:=K1d l&&(stOk s&&decide (s.Pc<l.length))
def zAt(l:List Int)(i:Int):Int:=(l[i.toNat]?).getD 0
def opAt(l:List GOp)(i:Int):GOp:=(l[i.toNat]?).getD ⟨0,0,0,0⟩
theorem K2n{l:List Int}{i:Nat}{x:Int}(h:l[i]? =some x):zAt l i=x:=by simp[zAt,h]
structure Doing (l:List GOp) (s:GState) (k:Nat) (o:GOp):Prop where
 pc:s.Pc=k
 op:l[k]? =some o
 at_:opAt l s.Pc=o
 ok:opOk o=true
 lt:k<l.length
 few:l.length≤16
 regs:s.Regs.length=4
 slots:s.Slots.length=3
 nodes:s.Nodes.length=4
 rin:∀(i:Nat) (x:Int),s.Regs[i]? =some x→0≤x∧x≤999
 sin:∀(i:Nat) (x:Int),s.Slots[i]? =some x→0≤x∧x≤999
 nin:∀(i:Nat) (x:Int),s.Nodes[i]? =some x→0≤x∧x≤999
theorem K57{l:List Int}{a b:Int}(h:K21 l a b=true)(i:Nat)(x:Int)(hx:l[i]? =some x):a≤x∧x≤b:=by
 have:=List.all_eq_true.1 h x (Km hx)
 simpa using this
theorem K4m{l:List GOp}{s:GState}(h:K46 l s=true):∃k o,Doing l s k o:=by
 simp only[K46,K1d,K1r,stOk,Bool.and_eq_true,decide_eq_true_eq]at h
 obtain⟨⟨h1,h2⟩,⟨⟨h3,h4⟩,⟨h5,h6,h7⟩,h8,h9,h10⟩,h11⟩:=h
 obtain⟨k,hk⟩:=Int.eq_ofNat_of_zero_le h3
 obtain⟨o,ho⟩:=Kb (show k<l.length by omega)
 exact⟨k,o,hk,ho,by simp[opAt,hk,ho],List.all_eq_true.1 h2 o (Km ho),by omega,h1,h5,h6,h7,K57 h8,K57 h9,K57 h10⟩
theorem K50{o:GOp}(h:opOk o=true):∃i:Nat,i<4∧o.A=i∧(
  (o.Kind=5∧∃j m:Nat,j<4∧m<4∧o.B=j∧o.C=m)∨(o.Kind=6∧∃j:Nat,j<4∧o.B=j)∨(o.Kind=7∧1≤o.B∧o.B≤3)∨
  (o.Kind=8∧∃j:Nat,j<3∧o.B=j)∨(o.Kind=9∧∃j:Nat,j<3∧o.B=j)∨(1≤o.Kind∧o.Kind≤4)):=by
 simp only[opOk,decide_eq_true_eq]at h
 obtain⟨⟨h1,h2⟩,h⟩:=h
 refine⟨o.A.toNat,by omega,by omega,?_⟩
 rcases h with h|h|⟨h,h3,h4⟩|⟨h,h3,h4⟩|h|⟨h,h3,h4⟩
 ·omega
 ·omega
 ·exact .inl ⟨h,o.B.toNat,o.C.toNat,by omega,by omega,by omega,by omega⟩
 ·exact .inr (.inl ⟨h,o.B.toNat,by omega,by omega⟩)
 ·omega
 ·rcases h with h|h
  ·exact .inr (.inr (.inr (.inl ⟨h,o.B.toNat,by omega,by omega⟩)))
  ·exact .inr (.inr (.inr (.inr (.inl ⟨h,o.B.toNat,by omega,by omega⟩))))
def Y36(v0:Nat)(v1:Nat):MC:=
(Zs [.box 3 0 (.s 1),.mv 4 cF] [0,3] (.seq (.reg [Za (mS 5 0),Za (.call 6 [] (.f v0) [.s 5]),Za (mS 7 6),Zb 7 true (lT 8 4 3),Zb 7 true (.call 9 [] (.f v1) [.s 8]),Za (.pick 10 (.s 7) (.s 9) cF),Za (mS 11 10),Zb 11 true (fS 12 3 0),Zb 11 true (lF 13 1 12),Zb 11 true (mS 14 0),Zb 11 true (nS 15 14),Zb 11 true (bS 16 .lss 13 15),Za (.pick 17 (.s 11) (.s 16) cF),Za (mS 4 17)] [4])
.ret))
attribute [go_sem] Y36
def Mhs:MC:=Y36 N2i Nif
theorem Cha(l:List GOp)(s:GState):Ctr Tryz.prog N8u [aL 4 (l.map GOp.enc),aS s.enc] [rB (K46 l s)]:=by
 refine cA Mhs 1 18 [(.tmp 4,[false])] Tryz.func297 rfl rfl ?_;unfold Mhs
 intro hb
 clear hb
 simp only[go_sem]
 repeat' first
  |(refine And.intro ?_ ?_<;>intro h)
  |(apply K0 (C3v _);simp only[go_sem])
  |(apply K0 (Coc s);simp only[go_sem])
 all_goals (unfold K46;simp_all)
def Mjt:MC:=Y36 N2l Nip
theorem Cja(l:List GOp)(s:GState):Ctr Tryz.prog Nb0 [aL 4 (l.map GOp.enc),aS s.enc] [rB (K46 l s)]:=by
 refine cA Mjt 1 18 [(.tmp 4,[false])] Tryz.func286 rfl rfl ?_;unfold Mjt
 intro hb
 clear hb
 simp only[go_sem]
 repeat' first
  |(refine And.intro ?_ ?_<;>intro h)
  |(apply K0 (C3y _);simp only[go_sem])
  |(apply K0 (Com s);simp only[go_sem])
 all_goals (unfold K46;simp_all)
def Kk(l:List GOp)(s:GState):GWant:=if K46 l s=true∧asks (opAt l s.Pc).Kind=true then⟨(opAt l s.Pc).Kind,if (opAt l s.Pc).Kind=1 then⟨(opAt l s.Pc).B,(opAt l s.Pc).C,(zAt s.Regs (opAt l s.Pc).A).tmod 100⟩else⟨0,0,0⟩⟩else⟨0,⟨0,0,0⟩⟩
theorem c100:¬(100:Int)=0:=by decide
theorem c1000:¬(1000:Int)=0:=by decide
def Y37(v0:Nat)(v1:Nat):MC:=
(Zs [.box 3 0 (.s 1),.alloc 4 1 [pz,pz,pz,pz]] [0,3,4] (.seq (.seq (.reg [Za (mS 7 0),Za (lT 8 4 3),Za (.call 9 [] (.f v0) [.s 7,.s 8]),Za (.un 10 .not (.s 9)),Za (mS 11 10),Zb 11 false (mS 12 0),Zb 11 false (fS 13 3 0),Zb 11 false (lF 14 1 13),Zb 11 false (xS 15 4 12 14),Zb 11 false (fS 16 15 0),Zb 11 false (lF 17 1 16),Zb 11 false (.call 18 [] (.f v1) [.s 17]),Zb 11 false (.un 19 .not (.s 18)),Za (.pick 20 (.s 11) cT (.s 19))] [0,3,4,20])
(.cond (.s 20) (Zs [.build 21 [pz,pz,pz,pz] [],sS 4 4 21] [4] .ret) .skip))
(Zs [mS 22 0,fS 23 3 0,lF 24 1 23,xS 25 4 22 24,lT 26 4 25,.alloc 5 2 [pz,pz,pz,pz],sS 4 5 26] [3,4,5] (Zs [fS 27 5 0,lF 28 1 27,.build 29 [pz,pz,pz,pz] [(0,1,.s 28)],.alloc 6 3 [pz,pz,pz,pz],sS 4 6 29] [3,4,5,6] (.seq (Zs [fS 30 5 0,lF 31 1 30,bC 32 .eql 31 1] [3,4,5,6,32] (.cond (.s 32) (.dreg [Zc [35,36,37,38,39,40,41,42,43] (fS 33 5 2),Zd [35,36,37,38,39,40,41,42,43] [0] (lF 34 1 33),Zc [33,34,37,38,39,40,41,42,43] (fS 35 5 3),Zd [33,34,37,38,39,40,41,42,43] [2] (lF 36 1 35),Zc [33,34,35,36,39,40] (fS 37 3 1),Zd [33,34,35,36,39,40] [4] (lF 38 1 37),Zc [33,34,35,36,37,38] (fS 39 5 1),Zd [33,34,35,36,37,38] [6] (lF 40 1 39),Zd [33,34,35,36] [4,5,6,7] (xS 41 1 38 40),Zd [33,34,35,36] [4,5,6,7,8] (lF 42 1 41),Zd [33,34,35,36] [4,5,6,7,8,9] (bC 43 .rem 42 100),Ze (.range 11) (.build 44 [pz,pz,pz] [(0,1,.s 34),(1,1,.s 36),(2,1,.s 43)]),Ze (.range 12) (fS 45 6 1),{o:=sS 3 45 44,ws:=[3],bf:=(.range 13)}] [4,6]) .skip))
(Zs [lT 46 4 6,sS 4 4 46] [4] .ret))))))
attribute [go_sem] Y37
def Mjf:MC:=Y37 N8u Nh6
theorem Cos(l:List GOp)(s:GState):Ctr Tryz.prog Njy [aL 4 (l.map GOp.enc),aS s.enc] [rS (Kk l s).enc]:=by
 refine cA Mjf 4 47 [(.cell 4 true 4,[false,false,false,false])] Tryz.func215 rfl rfl ?_;unfold Mjf
 intro hb
 clear hb
 simp only[go_sem]
 apply K0 (Cha l s)
 simp only[go_sem]
 refine And.intro ?_ ?_<;>intro h
 ·rw[Kk,if_neg (by simp[h])]
  try exact⟨rfl,rfl,rfl,rfl⟩
 ·obtain⟨k,o,D⟩:=K4m h
  obtain⟨i,hi,hA,-⟩:=K50 D.ok
  have hrl:=D.regs
  obtain⟨r,hr⟩:=Kb (show i<s.Regs.length by omega)
  have hp0:(0:Int)≤(k:Int):=by omega
  have hp1:(k:Int)<l.length:=by have:=D.lt;omega
  have hi0:(0:Int)≤(i:Int):=by omega
  have hi1:(i:Int)<s.Regs.length:=by omega
  have hz:zAt s.Regs o.A=r:=by rw[hA];exact K2n hr
  have hW:Kk l s=if asks o.Kind=true then⟨o.Kind,if o.Kind=1 then⟨o.B,o.C,r.tmod 100⟩else⟨0,0,0⟩⟩else⟨0,⟨0,0,0⟩⟩:=by
   simp only[Kk,h,D.at_,hz,true_and]
  rw[hW]
  simp only[go_sem,D.pc,K4 D.op,hp0,hp1]
  apply K0 (Cmt o.Kind)
  simp only[go_sem,K4 D.op,hp0,hp1]
  refine And.intro ?_ ?_<;>intro h2
  ·rw[if_neg (by simp[h2])]
   try exact⟨rfl,rfl,rfl,rfl⟩
  ·rw[if_pos h2]
   refine And.intro ?_ ?_<;>intro h3
   ·simp only[go_sem,hA,K4 hr,hi0,hi1,h3,c100]
   ·rw[if_neg h3]
    try exact⟨rfl,rfl,rfl,rfl⟩
def Mjr:MC:=Y37 Nb0 Nh7
theorem Cox(l:List GOp)(s:GState):Ctr Tryz.prog Nk3 [aL 4 (l.map GOp.enc),aS s.enc] [rS (Kk l s).enc]:=by
 refine cA Mjr 4 47 [(.cell 4 true 4,[false,false,false,false])] Tryz.func198 rfl rfl ?_;unfold Mjr
 intro hb
 clear hb
 simp only[go_sem]
 apply K0 (Cja l s)
 simp only[go_sem]
 refine And.intro ?_ ?_<;>intro h
 ·rw[Kk,if_neg (by simp[h])]
  try exact⟨rfl,rfl,rfl,rfl⟩
 ·obtain⟨k,o,D⟩:=K4m h
  obtain⟨i,hi,hA,-⟩:=K50 D.ok
  have hrl:=D.regs
  obtain⟨r,hr⟩:=Kb (show i<s.Regs.length by omega)
  have hp0:(0:Int)≤(k:Int):=by omega
  have hp1:(k:Int)<l.length:=by have:=D.lt;omega
  have hi0:(0:Int)≤(i:Int):=by omega
  have hi1:(i:Int)<s.Regs.length:=by omega
  have hz:zAt s.Regs o.A=r:=by rw[hA];exact K2n hr
  have hW:Kk l s=if asks o.Kind=true then⟨o.Kind,if o.Kind=1 then⟨o.B,o.C,r.tmod 100⟩else⟨0,0,0⟩⟩else⟨0,⟨0,0,0⟩⟩:=by
   simp only[Kk,h,D.at_,hz,true_and]
  rw[hW]
  simp only[go_sem,D.pc,K4 D.op,hp0,hp1]
  apply K0 (Cmu o.Kind)
  simp only[go_sem,K4 D.op,hp0,hp1]
  refine And.intro ?_ ?_<;>intro h2
  ·rw[if_neg (by simp[h2])]
   try exact⟨rfl,rfl,rfl,rfl⟩
  ·rw[if_pos h2]
   refine And.intro ?_ ?_<;>intro h3
   ·simp only[go_sem,hA,K4 hr,hi0,hi1,h3,c100]
   ·rw[if_neg h3]
    try exact⟨rfl,rfl,rfl,rfl⟩
end Go.Proofs.YtjneccbpkckdfaaGreatR
namespace Go.Proofs.YtjneccbpkckdfaaGreatR
open Go Go.RowKit Go.Proofs
open Nat (reduceEqDiff reduceLT reduceLeDiff reduceAdd reduceMul)
open List (reduceReplicate)
def clamp(v:Int):Int:=if 999<(if 0>v then 0 else v)then 999 else(if 0>v then 0 else v)
theorem clamp_eq{v:Int}:(if (if v<999 then v else 999)>0 then(if v<999 then v else 999)else 0)=clamp v:=by
 unfold clamp;repeat' split
 all_goals omega
def pcTo(n:Int):Int:=IntKind.i64.wrap (n+1)
def doOp(o:GOp)(s:GState)(v:Int):GState:=
 if o.Kind=5 then {s with Pc:=pcTo s.Pc,Regs:=s.Regs.set o.A.toNat ((IntKind.i64.wrap (zAt s.Regs o.B+zAt s.Regs o.C)).tmod 1000)}
 else if o.Kind=6 then {s with Pc:=pcTo s.Pc,Nodes:=s.Nodes.set o.B.toNat (zAt s.Regs o.A)}
 else if o.Kind=7 then {s with Pc:=if (zAt s.Regs o.A).tmod 2=0 then IntKind.i64.wrap (pcTo s.Pc+o.B)else pcTo s.Pc}
 else if o.Kind=8 then {s with Pc:=pcTo s.Pc,Regs:=s.Regs.set o.A.toNat (zAt s.Slots o.B)}
 else if o.Kind=9 then {s with Pc:=pcTo s.Pc,Slots:=s.Slots.set o.B.toNat (zAt s.Regs o.A)}
 else {s with Pc:=pcTo s.Pc,Regs:=s.Regs.set o.A.toNat (clamp v)}
def K14(l:List GOp)(s:GState)(v:Int):GState:=if K46 l s then doOp (opAt l s.Pc) s v else s
theorem Kbo{l:List GOp}{s:GState}{v:Int}(h:K46 l s=false):K14 l s v=s:=by unfold K14;rw[h];rfl
theorem K85{l:List GOp}{s:GState}{v:Int}{k:Nat}{o:GOp}(h:K46 l s=true)(D:Doing l s k o):K14 l s v=doOp o s v:=by unfold K14;rw[h,D.at_];rfl
theorem c2:¬(2:Int)=0:=by decide
def Mdz:MC:=
(Zs [.box 4 0 (.s 1),.alloc 6 1 [pz,.emp 1,.emp 1,.emp 1]] [0,2,4,6] (Zs [lT 9 4 4,.call 10 [2,3,4] (.f N5i) [.s 9],.alloc 7 5 [pz,.emp 1,.emp 1,.emp 1],sS 4 7 10] [0,2,4,6,7] (.seq (Zs [mS 11 0,lT 12 4 4,.call 13 [] (.f N8u) [.s 11,.s 12],.un 14 .not (.s 13)] [0,2,4,6,7,14] (.cond (.s 14) (Zs [lT 15 4 7,sS 4 6 15] [6] .ret) .skip))
(Zs [mS 16 0,fS 17 4 0,lF 18 1 17,xS 19 4 16 18,lT 20 4 19,.alloc 8 6 [pz,pz,pz,pz],sS 4 8 20] [2,4,6,7,8] (Zs [fS 21 7 0,lF 22 1 21,bC 23 .add 22 1,fS 24 7 0,sS 1 24 23] [2,4,6,7,8] (.seq (Zs [fS 25 8 0,lF 26 1 25] [2,4,6,7,8,26] (.block 0 (Zs [bC 36 .eql 26 5,mS 35 36] [2,4,6,7,8,26,35] (.cond (.s 35) (.dreg [Zc [39,40,41,42,43,44,45,46,47,48,49,50,51,52,53,54] (fS 37 7 1),Zd [39,40,41,42,43,44,45,46,47,48,49,50,51,52,53,54] [0] (lF 38 1 37),Zc [37,38,41,42,43,44,45,46,47,48,49,50,51,52,53,54] (fS 39 8 1),Zd [37,38,41,42,43,44,45,46,47,48,49,50,51,52,53,54] [2] (lF 40 1 39),Zc [37,38,39,40,43,44,47,48,49,50,51,52] (fS 41 4 1),Zd [37,38,39,40,43,44,47,48,49,50,51,52] [4] (lF 42 1 41),Zc [37,38,39,40,41,42,47,48,49,50,51,52] (fS 43 8 2),Zd [37,38,39,40,41,42,47,48,49,50,51,52] [6] (lF 44 1 43),Zd [37,38,39,40,47,48,49,50,51,52] [4,5,6,7] (xS 45 1 42 44),Zd [37,38,39,40,47,48,49,50,51,52] [4,5,6,7,8] (lF 46 1 45),Zc [37,38,39,40,41,42,43,44,45,46,49,50] (fS 47 4 1),Zd [37,38,39,40,41,42,43,44,45,46,49,50] [10] (lF 48 1 47),Zc [37,38,39,40,41,42,43,44,45,46,47,48] (fS 49 8 3),Zd [37,38,39,40,41,42,43,44,45,46,47,48] [12] (lF 50 1 49),Zd [37,38,39,40,41,42,43,44,45,46] [10,11,12,13] (xS 51 1 48 50),Zd [37,38,39,40,41,42,43,44,45,46] [10,11,12,13,14] (lF 52 1 51),Zd [37,38,39,40] [4,5,6,7,8,9,10,11,12,13,14,15] (bS 53 .add 46 52),Zd [37,38,39,40] [4,5,6,7,8,9,10,11,12,13,14,15,16] (bC 54 .rem 53 1000),Ze (.range 18) (xS 55 1 38 40),{o:=sS 1 55 54,ws:=[2],bf:=(.range 19)}] [6,7]) (Zs [bC 57 .eql 26 6,mS 56 57] [2,4,6,7,8,26,56] (.cond (.s 56) (.dreg [Zc [60,61,62,63,64,65,66,67] (fS 58 7 3),Zd [60,61,62,63,64,65,66,67] [0] (lF 59 1 58),Zc [58,59,62,63,64,65,66,67] (fS 60 8 2),Zd [58,59,62,63,64,65,66,67] [2] (lF 61 1 60),Zc [58,59,60,61,64,65] (fS 62 4 1),Zd [58,59,60,61,64,65] [4] (lF 63 1 62),Zc [58,59,60,61,62,63] (fS 64 8 1),Zd [58,59,60,61,62,63] [6] (lF 65 1 64),Zd [58,59,60,61] [4,5,6,7] (xS 66 1 63 65),Zd [58,59,60,61] [4,5,6,7,8] (lF 67 1 66),Ze (.range 10) (xS 68 1 59 61),{o:=sS 1 68 67,ws:=[4],bf:=(.range 11)}] [6,7]) (Zs [bC 70 .eql 26 7,mS 69 70] [2,4,6,7,8,26,69] (.cond (.s 69) (Zs [fS 71 4 1,lF 72 1 71,fS 73 8 1,lF 74 1 73,xS 75 1 72 74,lF 76 1 75,bC 77 .rem 76 2,bC 78 .eql 77 0] [6,7,8,78] (.cond (.s 78) (pr [fS 79 7 0,lF 80 1 79,fS 81 8 2,lF 82 1 81,bS 83 .add 80 82,fS 84 7 0,sS 1 84 83] [6,7]) .skip)) (Zs [bC 86 .eql 26 8,mS 85 86] [2,4,6,7,8,26,85] (.cond (.s 85) (.dreg [Zc [89,90,91,92,93,94,95,96] (fS 87 7 1),Zd [89,90,91,92,93,94,95,96] [0] (lF 88 1 87),Zc [87,88,91,92,93,94,95,96] (fS 89 8 1),Zd [87,88,91,92,93,94,95,96] [2] (lF 90 1 89),Zc [87,88,89,90,93,94] (fS 91 4 2),Zd [87,88,89,90,93,94] [4] (lF 92 1 91),Zc [87,88,89,90,91,92] (fS 93 8 2),Zd [87,88,89,90,91,92] [6] (lF 94 1 93),Zd [87,88,89,90] [4,5,6,7] (xS 95 1 92 94),Zd [87,88,89,90] [4,5,6,7,8] (lF 96 1 95),Ze (.range 10) (xS 97 1 88 90),{o:=sS 1 97 96,ws:=[2],bf:=(.range 11)}] [6,7]) (Zs [bC 99 .eql 26 9,mS 98 99] [2,4,6,7,8,98] (.cond (.s 98) (.dreg [Zc [102,103,104,105,106,107,108,109] (fS 100 7 2),Zd [102,103,104,105,106,107,108,109] [0] (lF 101 1 100),Zc [100,101,104,105,106,107,108,109] (fS 102 8 2),Zd [100,101,104,105,106,107,108,109] [2] (lF 103 1 102),Zc [100,101,102,103,106,107] (fS 104 4 1),Zd [100,101,102,103,106,107] [4] (lF 105 1 104),Zc [100,101,102,103,104,105] (fS 106 8 1),Zd [100,101,102,103,104,105] [6] (lF 107 1 106),Zd [100,101,102,103] [4,5,6,7] (xS 108 1 105 107),Zd [100,101,102,103] [4,5,6,7,8] (lF 109 1 108),Ze (.range 10) (xS 110 1 101 103),{o:=sS 1 110 109,ws:=[3],bf:=(.range 11)}] [6,7]) (pr [fS 27 7 1,lF 28 1 27,fS 29 8 1,lF 30 1 29,mS 31 2,.mm 32 true (.s 31) (ci 0),.mm 33 false (.s 32) (ci 999),xS 34 1 28 30,sS 1 34 33] [6,7])))))))))))))
(Zs [lT 111 4 7,sS 4 6 111] [6] .ret)))))))
set_option maxHeartbeats 1000000 in
theorem Cdk(l:List GOp)(s:GState)(v:Int)(hs:s.size≤1073741824):Ctr Tryz.prog Nf0 [aL 4 (l.map GOp.enc),aS s.enc,aI v] [rS (K14 l s v).enc]:=by
 refine cA Mdz 7 112 [(.cell 6 true 4,[false,true,true,true])] Tryz.func220 rfl rfl ?_;unfold Mdz
 intro hb
 clear hb
 simp only[go_sem]
 apply K0 (Cdl s hs)
 simp only[go_sem]
 intros
 apply K0 (Cha l s)
 simp only[go_sem]
 refine And.intro ?_ ?_<;>intro h
 ·rw[Kbo h]
  try exact⟨rfl,rfl,rfl,rfl⟩
 ·obtain⟨k,o,D⟩:=K4m h
  rw[K85 h D]
  obtain⟨i,hi,hA,hk⟩:=K50 D.ok
  have hrl:=D.regs
  have hsl:=D.slots
  have hnl:=D.nodes
  obtain⟨r,hr⟩:=Kb (show i<s.Regs.length by omega)
  have hp0:(0:Int)≤(k:Int):=by omega
  have hp1:(k:Int)<l.length:=by have:=D.lt;omega
  have hi0:(0:Int)≤(i:Int):=by omega
  have hi1:(i:Int)<s.Regs.length:=by omega
  have hz:zAt s.Regs (i:Int)=r:=K2n hr
  simp only[go_sem,D.pc,K4 D.op,hp0,hp1]
  rcases hk with ⟨hK,j,m,hj,hm,hB,hC⟩|⟨hK,j,hj,hB⟩|⟨hK,hB⟩|⟨hK,j,hj,hB⟩|⟨hK,j,hj,hB⟩|hK
  ·obtain⟨rj,hrj⟩:=Kb (show j<s.Regs.length by omega)
   obtain⟨rm,hrm⟩:=Kb (show m<s.Regs.length by omega)
   have hj0:(0:Int)≤(j:Int):=by omega
   have hj1:(j:Int)<s.Regs.length:=by omega
   have hm0:(0:Int)≤(m:Int):=by omega
   have hm1:(m:Int)<s.Regs.length:=by omega
   simp only[go_sem,hK,hA,hB,hC,hi0,hi1,hj0,hj1,hm0,hm1,K4 hrj,K4 hrm,K4 hr,Int.reduceEq,c1000]
   simp[doOp,hK,hA,hB,hC,pcTo,D.pc,K2n hrj,K2n hrm,encI,List.map_set]
  ·obtain⟨nj,hnj⟩:=Kb (show j<s.Nodes.length by omega)
   have hj0:(0:Int)≤(j:Int):=by omega
   have hj1:(j:Int)<s.Nodes.length:=by omega
   simp only[go_sem,hK,hA,hB,hi0,hi1,hj0,hj1,K4 hnj,K4 hr,Int.reduceEq]
   simp[doOp,hK,hA,hB,pcTo,D.pc,hz,encI,List.map_set]
  ·simp only[go_sem,hK,hA,hi0,hi1,K4 hr,Int.reduceEq,c2]
   exact⟨fun h7=>by simp[doOp,hK,hA,pcTo,D.pc,hz,h7],fun h7=>by simp[doOp,hK,hA,pcTo,D.pc,hz,h7]⟩
  ·obtain⟨sj,hsj⟩:=Kb (show j<s.Slots.length by omega)
   have hj0:(0:Int)≤(j:Int):=by omega
   have hj1:(j:Int)<s.Slots.length:=by omega
   simp only[go_sem,hK,hA,hB,hi0,hi1,hj0,hj1,K4 hsj,K4 hr,Int.reduceEq]
   simp[doOp,hK,hA,hB,pcTo,D.pc,K2n hsj,encI,List.map_set]
  ·obtain⟨sj,hsj⟩:=Kb (show j<s.Slots.length by omega)
   have hj0:(0:Int)≤(j:Int):=by omega
   have hj1:(j:Int)<s.Slots.length:=by omega
   simp only[go_sem,hK,hA,hB,hi0,hi1,hj0,hj1,K4 hsj,K4 hr,Int.reduceEq]
   simp[doOp,hK,hA,hB,pcTo,D.pc,hz,encI,List.map_set]
  ·have k5:¬o.Kind=5:=by omega
   have k6:¬o.Kind=6:=by omega
   have k7:¬o.Kind=7:=by omega
   have k8:¬o.Kind=8:=by omega
   have k9:¬o.Kind=9:=by omega
   simp only[go_sem,k5,k6,k7,k8,k9,hA,hi0,hi1,K4 hr]
   simp[doOp,k5,k6,k7,k8,k9,hA,pcTo,D.pc,clamp,encI,List.map_set]
def Mep:MC:=
(Zs [.box 4 0 (.s 1),.alloc 6 1 [pz,.emp 1,.emp 1,.emp 1]] [0,2,4,6] (Zs [lT 9 4 4,.call 10 [2,3,4] (.f N8x) [.s 9],.alloc 7 5 [pz,.emp 1,.emp 1,.emp 1],sS 4 7 10] [0,2,4,6,7] (.seq (Zs [mS 11 0,lT 12 4 4,.call 13 [] (.f Nb0) [.s 11,.s 12],.un 14 .not (.s 13)] [0,2,4,6,7,14] (.cond (.s 14) (Zs [lT 15 4 7,sS 4 6 15] [6] .ret) .skip))
(Zs [mS 16 0,fS 17 4 0,lF 18 1 17,xS 19 4 16 18,lT 20 4 19,.alloc 8 6 [pz,pz,pz,pz],sS 4 8 20] [2,4,6,7,8] (Zs [fS 21 4 0,lF 22 1 21,bC 23 .add 22 1,fS 24 7 0,sS 1 24 23] [2,4,6,7,8] (.seq (Zs [fS 25 8 0,lF 26 1 25] [2,4,6,7,8,26] (.block 0 (Zs [bC 36 .eql 26 5,mS 35 36] [2,4,6,7,8,26,35] (.cond (.s 35) (.dreg [Zc [39,40,41,42,43,44,45,46,47,48,49,50,51,52,53,54] (fS 37 7 1),Zd [39,40,41,42,43,44,45,46,47,48,49,50,51,52,53,54] [0] (lF 38 1 37),Zc [37,38,41,42,43,44,45,46,47,48,49,50,51,52,53,54] (fS 39 8 1),Zd [37,38,41,42,43,44,45,46,47,48,49,50,51,52,53,54] [2] (lF 40 1 39),Zc [37,38,39,40,43,44,47,48,49,50,51,52] (fS 41 4 1),Zd [37,38,39,40,43,44,47,48,49,50,51,52] [4] (lF 42 1 41),Zc [37,38,39,40,41,42,47,48,49,50,51,52] (fS 43 8 2),Zd [37,38,39,40,41,42,47,48,49,50,51,52] [6] (lF 44 1 43),Zd [37,38,39,40,47,48,49,50,51,52] [4,5,6,7] (xS 45 1 42 44),Zd [37,38,39,40,47,48,49,50,51,52] [4,5,6,7,8] (lF 46 1 45),Zc [37,38,39,40,41,42,43,44,45,46,49,50] (fS 47 4 1),Zd [37,38,39,40,41,42,43,44,45,46,49,50] [10] (lF 48 1 47),Zc [37,38,39,40,41,42,43,44,45,46,47,48] (fS 49 8 3),Zd [37,38,39,40,41,42,43,44,45,46,47,48] [12] (lF 50 1 49),Zd [37,38,39,40,41,42,43,44,45,46] [10,11,12,13] (xS 51 1 48 50),Zd [37,38,39,40,41,42,43,44,45,46] [10,11,12,13,14] (lF 52 1 51),Zd [37,38,39,40] [4,5,6,7,8,9,10,11,12,13,14,15] (bS 53 .add 46 52),Zd [37,38,39,40] [4,5,6,7,8,9,10,11,12,13,14,15,16] (bC 54 .rem 53 1000),Ze (.range 18) (xS 55 1 38 40),{o:=sS 1 55 54,ws:=[2],bf:=(.range 19)}] [6,7]) (Zs [bC 57 .eql 26 6,mS 56 57] [2,4,6,7,8,26,56] (.cond (.s 56) (.dreg [Zc [60,61,62,63,64,65,66,67] (fS 58 7 3),Zd [60,61,62,63,64,65,66,67] [0] (lF 59 1 58),Zc [58,59,62,63,64,65,66,67] (fS 60 8 2),Zd [58,59,62,63,64,65,66,67] [2] (lF 61 1 60),Zc [58,59,60,61,64,65] (fS 62 4 1),Zd [58,59,60,61,64,65] [4] (lF 63 1 62),Zc [58,59,60,61,62,63] (fS 64 8 1),Zd [58,59,60,61,62,63] [6] (lF 65 1 64),Zd [58,59,60,61] [4,5,6,7] (xS 66 1 63 65),Zd [58,59,60,61] [4,5,6,7,8] (lF 67 1 66),Ze (.range 10) (xS 68 1 59 61),{o:=sS 1 68 67,ws:=[4],bf:=(.range 11)}] [6,7]) (Zs [bC 70 .eql 26 7,mS 69 70] [2,4,6,7,8,26,69] (.cond (.s 69) (Zs [fS 71 4 1,lF 72 1 71,fS 73 8 1,lF 74 1 73,xS 75 1 72 74,lF 76 1 75,bC 77 .rem 76 2,bC 78 .eql 77 0] [4,6,7,8,78] (.cond (.s 78) (pr [fS 79 4 0,lF 80 1 79,bC 81 .add 80 1,fS 82 8 2,lF 83 1 82,bS 84 .add 81 83,fS 85 7 0,sS 1 85 84] [6,7]) .skip)) (Zs [bC 87 .eql 26 8,mS 86 87] [2,4,6,7,8,26,86] (.cond (.s 86) (.dreg [Zc [90,91,92,93,94,95,96,97] (fS 88 7 1),Zd [90,91,92,93,94,95,96,97] [0] (lF 89 1 88),Zc [88,89,92,93,94,95,96,97] (fS 90 8 1),Zd [88,89,92,93,94,95,96,97] [2] (lF 91 1 90),Zc [88,89,90,91,94,95] (fS 92 4 2),Zd [88,89,90,91,94,95] [4] (lF 93 1 92),Zc [88,89,90,91,92,93] (fS 94 8 2),Zd [88,89,90,91,92,93] [6] (lF 95 1 94),Zd [88,89,90,91] [4,5,6,7] (xS 96 1 93 95),Zd [88,89,90,91] [4,5,6,7,8] (lF 97 1 96),Ze (.range 10) (xS 98 1 89 91),{o:=sS 1 98 97,ws:=[2],bf:=(.range 11)}] [6,7]) (Zs [bC 100 .eql 26 9,mS 99 100] [2,4,6,7,8,99] (.cond (.s 99) (.dreg [Zc [103,104,105,106,107,108,109,110] (fS 101 7 2),Zd [103,104,105,106,107,108,109,110] [0] (lF 102 1 101),Zc [101,102,105,106,107,108,109,110] (fS 103 8 2),Zd [101,102,105,106,107,108,109,110] [2] (lF 104 1 103),Zc [101,102,103,104,107,108] (fS 105 4 1),Zd [101,102,103,104,107,108] [4] (lF 106 1 105),Zc [101,102,103,104,105,106] (fS 107 8 1),Zd [101,102,103,104,105,106] [6] (lF 108 1 107),Zd [101,102,103,104] [4,5,6,7] (xS 109 1 106 108),Zd [101,102,103,104] [4,5,6,7,8] (lF 110 1 109),Ze (.range 10) (xS 111 1 102 104),{o:=sS 1 111 110,ws:=[3],bf:=(.range 11)}] [6,7]) (.dreg [Zc [29,30,31,32,33] (fS 27 7 1),Zd [29,30,31,32,33] [0] (lF 28 1 27),Zc [27,28,31,32,33] (fS 29 8 1),Zd [27,28,31,32,33] [2] (lF 30 1 29),Zc [27,28,29,30] (mS 31 2),Zd [27,28,29,30] [4] (.call 32 [] (.f N6y) [.c (.int .i64 999),.s 31]),Zd [27,28,29,30] [4,5] (.call 33 [] (.f Nj1) [.c (.int .i64 0),.s 32]),Ze (.range 7) (xS 34 1 28 30),{o:=sS 1 34 33,ws:=[2],bf:=(.range 8)}] [6,7])))))))))))))
(Zs [lT 112 4 7,sS 4 6 112] [6] .ret)))))))
set_option maxHeartbeats 1000000 in
theorem Cdt(l:List GOp)(s:GState)(v:Int)(hs:s.size≤1073741824):Ctr Tryz.prog Nfl [aL 4 (l.map GOp.enc),aS s.enc,aI v] [rS (K14 l s v).enc]:=by
 refine cA Mep 7 113 [(.cell 6 true 4,[false,true,true,true])] Tryz.func206 rfl rfl ?_;unfold Mep
 intro hb
 clear hb
 simp only[go_sem]
 apply K0 (Chl s hs)
 simp only[go_sem]
 intros
 apply K0 (Cja l s)
 simp only[go_sem]
 refine And.intro ?_ ?_<;>intro h
 ·rw[Kbo h]
  try exact⟨rfl,rfl,rfl,rfl⟩
 ·obtain⟨k,o,D⟩:=K4m h
  rw[K85 h D]
  obtain⟨i,hi,hA,hk⟩:=K50 D.ok
  have hrl:=D.regs
  have hsl:=D.slots
  have hnl:=D.nodes
  obtain⟨r,hr⟩:=Kb (show i<s.Regs.length by omega)
  have hp0:(0:Int)≤(k:Int):=by omega
  have hp1:(k:Int)<l.length:=by have:=D.lt;omega
  have hi0:(0:Int)≤(i:Int):=by omega
  have hi1:(i:Int)<s.Regs.length:=by omega
  have hz:zAt s.Regs (i:Int)=r:=K2n hr
  simp only[go_sem,D.pc,K4 D.op,hp0,hp1]
  rcases hk with ⟨hK,j,m,hj,hm,hB,hC⟩|⟨hK,j,hj,hB⟩|⟨hK,hB⟩|⟨hK,j,hj,hB⟩|⟨hK,j,hj,hB⟩|hK
  ·obtain⟨rj,hrj⟩:=Kb (show j<s.Regs.length by omega)
   obtain⟨rm,hrm⟩:=Kb (show m<s.Regs.length by omega)
   have hj0:(0:Int)≤(j:Int):=by omega
   have hj1:(j:Int)<s.Regs.length:=by omega
   have hm0:(0:Int)≤(m:Int):=by omega
   have hm1:(m:Int)<s.Regs.length:=by omega
   simp only[go_sem,hK,hA,hB,hC,hi0,hi1,hj0,hj1,hm0,hm1,K4 hrj,K4 hrm,K4 hr,Int.reduceEq,c1000]
   simp[doOp,hK,hA,hB,hC,pcTo,D.pc,K2n hrj,K2n hrm,encI,List.map_set]
  ·obtain⟨nj,hnj⟩:=Kb (show j<s.Nodes.length by omega)
   have hj0:(0:Int)≤(j:Int):=by omega
   have hj1:(j:Int)<s.Nodes.length:=by omega
   simp only[go_sem,hK,hA,hB,hi0,hi1,hj0,hj1,K4 hnj,K4 hr,Int.reduceEq]
   simp[doOp,hK,hA,hB,pcTo,D.pc,hz,encI,List.map_set]
  ·simp only[go_sem,hK,hA,hi0,hi1,K4 hr,Int.reduceEq,c2]
   exact⟨fun h7=>by simp[doOp,hK,hA,pcTo,D.pc,hz,h7],fun h7=>by simp[doOp,hK,hA,pcTo,D.pc,hz,h7]⟩
  ·obtain⟨sj,hsj⟩:=Kb (show j<s.Slots.length by omega)
   have hj0:(0:Int)≤(j:Int):=by omega
   have hj1:(j:Int)<s.Slots.length:=by omega
   simp only[go_sem,hK,hA,hB,hi0,hi1,hj0,hj1,K4 hsj,K4 hr,Int.reduceEq]
   simp[doOp,hK,hA,hB,pcTo,D.pc,K2n hsj,encI,List.map_set]
  ·obtain⟨sj,hsj⟩:=Kb (show j<s.Slots.length by omega)
   have hj0:(0:Int)≤(j:Int):=by omega
   have hj1:(j:Int)<s.Slots.length:=by omega
   simp only[go_sem,hK,hA,hB,hi0,hi1,hj0,hj1,K4 hsj,K4 hr,Int.reduceEq]
   simp[doOp,hK,hA,hB,pcTo,D.pc,hz,encI,List.map_set]
  ·have k5:¬o.Kind=5:=by omega
   have k6:¬o.Kind=6:=by omega
   have k7:¬o.Kind=7:=by omega
   have k8:¬o.Kind=8:=by omega
   have k9:¬o.Kind=9:=by omega
   simp only[go_sem,k5,k6,k7,k8,k9,hA,hi0,hi1,K4 hr]
   apply K0 (Cdj 999 v)
   simp only[go_sem]
   try intros
   apply K0 (Co8 0 _)
   simp only[go_sem,hi0,hi1,K4 hr]
   try intros
   rw[clamp_eq]
   simp[doOp,k5,k6,k7,k8,k9,hA,pcTo,D.pc,encI,List.map_set]
end Go.Proofs.YtjneccbpkckdfaaGreatR
namespace Go.Proofs.YtjneccbpkckdfaaGreatR
open Go Go.RowKit Go.Proofs
open Nat (reduceEqDiff reduceLT reduceLeDiff reduceAdd reduceMul)
open List (reduceReplicate)
theorem K5k{l:List Int}{a b:Int}{i:Nat}{x:Int}(h:K21 l a b=true)(hx:a≤x∧x≤b):K21 (l.set i x) a b=true:=by
 refine List.all_eq_true.2 fun y hy=>?_
 rcases List.mem_or_eq_of_mem_set hy with hy|rfl
 ·exact List.all_eq_true.1 h y hy
 ·simpa using hx
theorem clamp_in(v:Int):0≤clamp v∧clamp v≤999:=by
 unfold clamp;repeat' split
 all_goals omega
theorem K65{s:GState}(h0:0≤s.Pc∧s.Pc≤19)(h1:s.Regs.length=4)(h2:s.Slots.length=3)(h3:s.Nodes.length=4)(h4:K21 s.Regs 0 999=true)(h5:K21 s.Slots 0 999=true)(h6:K21 s.Nodes 0 999=true):stOk s=true:=by
 unfold stOk;simp[h0,h1,h2,h3,h4,h5,h6]
theorem K6f{s:GState}(h:stOk s=true):(0≤s.Pc∧s.Pc≤19)∧s.Regs.length=4∧s.Slots.length=3∧s.Nodes.length=4∧K21 s.Regs 0 999=true∧K21 s.Slots 0 999=true∧K21 s.Nodes 0 999=true:=by
 simp only[stOk,Bool.and_eq_true,decide_eq_true_eq]at h
 exact⟨h.1,h.2.1.1,h.2.1.2.1,h.2.1.2.2,h.2.2.1,h.2.2.2.1,h.2.2.2.2⟩
theorem doOp_ok{l:List GOp}{s:GState}{k:Nat}{o:GOp}{v:Int}(hs:stOk s=true)(D:Doing l s k o):stOk (doOp o s v)=true∧s.Pc<(doOp o s v).Pc:=by
 obtain⟨h0,h1,h2,h3,h4,h5,h6⟩:=K6f hs
 obtain⟨i,hi,hA,hk⟩:=K50 D.ok
 have hpc:=D.pc
 have hlt:=D.lt
 have hfw:=D.few
 have hp:pcTo s.Pc=s.Pc+1:=wI (by omega) (by omega)
 obtain⟨r,hr⟩:=Kb (show i<s.Regs.length by omega)
 have hz:zAt s.Regs o.A=r:=by rw[hA];exact K2n hr
 have hri:=D.rin i r hr
 rcases hk with ⟨hK,j,m,hj,hm,hB,hC⟩|⟨hK,j,hj,hB⟩|⟨hK,hB⟩|⟨hK,j,hj,hB⟩|⟨hK,j,hj,hB⟩|hK
 ·obtain⟨rj,hrj⟩:=Kb (show j<s.Regs.length by omega)
  obtain⟨rm,hrm⟩:=Kb (show m<s.Regs.length by omega)
  have e1:zAt s.Regs o.B=rj:=by rw[hB];exact K2n hrj
  have e2:zAt s.Regs o.C=rm:=by rw[hC];exact K2n hrm
  have b1:=D.rin j rj hrj
  have b2:=D.rin m rm hrm
  have e3:IntKind.i64.wrap (rj+rm)=rj+rm:=wI (by omega) (by omega)
  simp only[doOp,hK,if_true,hp,e1,e2,e3]
  refine⟨K65 (by simp only;omega) (by simp[h1]) h2 h3 (K5k h4 ?_) h5 h6,by omega⟩
  rw[Int.tmod_eq_emod_of_nonneg (by omega)]
  omega
 ·simp only[doOp,hK,Int.reduceEq,if_false,if_true,hp,hz]
  exact⟨K65 (by simp only;omega) h1 h2 (by simp[h3]) h4 h5 (K5k h6 hri),by omega⟩
 ·have e4:IntKind.i64.wrap (s.Pc+1+o.B)=s.Pc+1+o.B:=wI (by omega) (by omega)
  simp only[doOp,hK,Int.reduceEq,if_false,if_true,hp,hz,e4]
  refine⟨K65 (by simp only;split<;>omega) h1 h2 h3 h4 h5 h6,by split<;>omega⟩
 ·obtain⟨sj,hsj⟩:=Kb (show j<s.Slots.length by omega)
  have e1:zAt s.Slots o.B=sj:=by rw[hB];exact K2n hsj
  simp only[doOp,hK,Int.reduceEq,if_false,if_true,hp,e1]
  exact⟨K65 (by simp only;omega) (by simp[h1]) h2 h3 (K5k h4 (D.sin j sj hsj)) h5 h6,by omega⟩
 ·simp only[doOp,hK,Int.reduceEq,if_false,if_true,hp,hz]
  exact⟨K65 (by simp only;omega) h1 (by simp[h2]) h3 h4 (K5k h5 hri) h6,by omega⟩
 ·have k5:¬o.Kind=5:=by omega
  have k6:¬o.Kind=6:=by omega
  have k7:¬o.Kind=7:=by omega
  have k8:¬o.Kind=8:=by omega
  have k9:¬o.Kind=9:=by omega
  simp only[doOp,k5,k6,k7,k8,k9,if_false,hp]
  exact⟨K65 (by simp only;omega) (by simp[h1]) h2 h3 (K5k h4 (clamp_in v)) h5 h6,by omega⟩
theorem K5p{l:List GOp}{s:GState}{v:Int}(hs:stOk s=true):stOk (K14 l s v)=true:=by
 cases h:K46 l s
 ·rw[Kbo h];exact hs
 ·obtain⟨k,o,D⟩:=K4m h
  rw[K85 h D];exact(doOp_ok hs D).1
theorem stepTo_lt{l:List GOp}{s:GState}{v:Int}(hl:K1d l=true)(hs:stOk s=true)(hp:s.Pc<l.length):s.Pc<(K14 l s v).Pc:=by
 have h:K46 l s=true:=by unfold K46;rw[hl,hs,decide_eq_true hp];rfl
 obtain⟨k,o,D⟩:=K4m h
 rw[K85 h D];exact(doOp_ok hs D).2
theorem K6u{s:GState}(h:stOk s=true):s.size=11:=by
 obtain⟨h0,h1,h2,h3,-⟩:=K6f h
 simp only[GState.size];omega
theorem Kb6:stOk st0=true:=by decide
theorem K9t(l:List GOp)(s:GState):0≤(Kk l s).Kind:=by
 unfold Kk
 split
 ·rename_i h
  have:=h.2
  simp only[asks,decide_eq_true_eq]at this
  simp only
  omega
 ·simp
def rP(p:GPlayed):RV:=⟨true,[(false,tI p.Code),(false,tI p.At),(false,tI p.State.Pc),(false,.sl 1 (p.State.Regs.map encI)),(false,.sl 1 (p.State.Slots.map encI)),(false,.sl 1 (p.State.Nodes.map encI))]⟩
def rT(tr:List GState):RV:=⟨false,[(false,.sl 4 (tr.map GState.enc))]⟩
attribute [go_sem] rP rT
def Mjc:MC:=
(Zs [.box 3 0 (.s 1),.mv 4 cF] [0,3] (Zs [fS 5 3 0,lF 6 1 5,mS 7 0,nS 8 7,bS 9 .geq 6 8,mS 4 9] [4] .ret))
theorem Cor(l:List GOp)(s:GState):Ctr Tryz.prog Njx [aL 4 (l.map GOp.enc),aS s.enc] [rB (decide (s.Pc≥l.length))]:=by
 refine cA Mjc 1 10 [(.tmp 4,[false])] Tryz.func214 rfl rfl ?_;unfold Mjc
 intro hb
 clear hb
 simp only[go_sem]
def Mjo:MC:=
(Zs [.box 3 0 (.s 1),.mv 4 cF] [0,3] (Zs [fS 5 3 0,lF 6 1 5,mS 7 0,nS 8 7,bS 9 .geq 6 8,mS 4 9] [4] .ret))
theorem Cow(l:List GOp)(s:GState):Ctr Tryz.prog Nk2 [aL 4 (l.map GOp.enc),aS s.enc] [rB (decide (s.Pc≥l.length))]:=by
 refine cA Mjo 1 10 [(.tmp 4,[false])] Tryz.func197 rfl rfl ?_;unfold Mjo
 intro hb
 clear hb
 simp only[go_sem]
end Go.Proofs.YtjneccbpkckdfaaGreatR
namespace Go.Proofs.YtjneccbpkckdfaaGreatR
open Go Go.RowKit Go.Proofs
open Nat (reduceEqDiff reduceLT reduceLeDiff reduceAdd reduceMul)
open List (reduceReplicate)
def K2r(v:GVisit):Bool:=K90 v.Site&&(decide (0≤v.Tick∧v.Tick≤1000)&&(decide (0≤v.Seed∧v.Seed≤9999)&&(decide (v.Inputs.length≤8)&&K21 v.Inputs 0 999)))
def Mhq:MC:=
(Zs [.box 1 0 (.s 0),.mv 2 cF] [1] (.seq (.reg [Za (fS 3 1 0),Za (lF 4 1 3),Za (.call 5 [] (.f Nav) [.s 4]),Za (mS 6 5),Zb 6 true (fS 7 1 1),Zb 6 true (lF 8 1 7),Zb 6 true (.call 9 [] (.f N1) [.s 8,.c (.int .i64 0),.c (.int .i64 1000)]),Za (.pick 10 (.s 6) (.s 9) cF),Za (mS 11 10),Zb 11 true (fS 12 1 2),Zb 11 true (lF 13 1 12),Zb 11 true (.call 14 [] (.f N1) [.s 13,.c (.int .i64 0),.c (.int .i64 9999)]),Za (.pick 15 (.s 11) (.s 14) cF),Za (mS 16 15),Zb 16 true (fS 17 1 3),Zb 16 true (lF 18 1 17),Zb 16 true (nS 19 18),Zb 16 true (bC 20 .leq 19 8),Za (.pick 21 (.s 16) (.s 20) cF),Za (mS 22 21),Zb 22 true (fS 23 1 3),Zb 22 true (lF 24 1 23),Zb 22 true (.call 25 [] (.f N30) [.s 24,.c (.int .i64 0),.c (.int .i64 999)]),Za (.pick 26 (.s 22) (.s 25) cF),Za (mS 2 26)] [2])
.ret))
theorem C4d(v:GVisit):Ctr Tryz.prog N2z [aS v.enc] [rB (K2r v)]:=by
 refine cA Mhq 1 27 [(.tmp 2,[false])] Tryz.func160 rfl rfl ?_;unfold Mhq
 intro hb
 clear hb
 simp only[go_sem]
 repeat' first
  |(refine And.intro ?_ ?_<;>intro h)
  |(apply K0 (Cj3 _);simp only[go_sem])
  |(apply K0 (C2 _ _ _);simp only[go_sem])
  |(apply K0 (C68 _ _ _);simp only[go_sem])
 all_goals (unfold K2r;by_cases c1:v.Inputs.length≤8<;>simp_all<;>omega)
def Mi5:MC:=
(Zs [.box 1 0 (.s 0),.mv 2 cF] [1] (.seq (.reg [Za (fS 3 1 0),Za (lF 4 1 3),Za (.call 5 [] (.f Nay) [.s 4]),Za (mS 6 5),Zb 6 true (fS 7 1 1),Zb 6 true (lF 8 1 7),Zb 6 true (.call 9 [] (.f N0) [.s 8,.c (.int .i64 0),.c (.int .i64 1000)]),Za (.pick 10 (.s 6) (.s 9) cF),Za (mS 11 10),Zb 11 true (fS 12 1 2),Zb 11 true (lF 13 1 12),Zb 11 true (.call 14 [] (.f N0) [.s 13,.c (.int .i64 0),.c (.int .i64 9999)]),Za (.pick 15 (.s 11) (.s 14) cF),Za (mS 16 15),Zb 16 true (fS 17 1 3),Zb 16 true (lF 18 1 17),Zb 16 true (nS 19 18),Zb 16 true (bC 20 .leq 19 8),Za (.pick 21 (.s 16) (.s 20) cF),Za (mS 22 21),Zb 22 true (fS 23 1 3),Zb 22 true (lF 24 1 23),Zb 22 true (fS 25 1 3),Zb 22 true (lF 26 1 25),Zb 22 true (nS 27 26),Zb 22 true (.call 28 [] (.f N3m) [.s 24,.s 27]),Za (.pick 29 (.s 22) (.s 28) cF),Za (mS 2 29)] [2])
.ret))
theorem C4f(v:GVisit):Ctr Tryz.prog N4k [aS v.enc] [rB (K2r v)]:=by
 refine cA Mi5 1 30 [(.tmp 2,[false])] Tryz.func242 rfl rfl ?_;unfold Mi5
 intro hb
 clear hb
 simp only[go_sem]
 repeat' first
  |(refine And.intro ?_ ?_<;>intro h)
  |(apply K0 (Cj7 _);simp only[go_sem])
  |(apply K0 (C3 _ _ _);simp only[go_sem])
  |(apply K0 (C5a v.Inputs v.Inputs.length);simp only[go_sem])
 all_goals (unfold K2r;by_cases c1:v.Inputs.length≤8<;>simp_all<;>omega)
def sumI(l:List Int):Int:=l.foldl (· + ·) 0
theorem K92{l:List Int}{k:Nat}{x:Int}(h:l[k]? =some x):sumI (l.take (k+1))=sumI (l.take k)+x:=by
 rw[Kc h,sumI,List.foldl_append];rfl
theorem K7k{l:List Int}(h:K21 l 0 255=true):∀k:Nat,0≤sumI (l.take k)∧sumI (l.take k)≤255*(k:Int)
 |0=>by simp[sumI]
 |k+1=>by
  have ih:=K7k h k
  by_cases hk:k<l.length
  ·obtain⟨x,hx⟩:=Kb hk
   rw[K92 hx]
   have:=K57 h k x hx
   omega
  ·rw[List.take_of_length_le (by omega)]at ih ⊢
   omega
def K4v(r:GResource):Bool:=K1f r&&decide (r.Kind=1∨r.Kind=2)
def K55(r:GResource):Int:=if K4v r then(if (sumI r.Body).tmod 1000<999 then(sumI r.Body).tmod 1000+1 else(sumI r.Body).tmod 1000)else 0
theorem Kar{r:GResource}(h:K4v r=true):r.Body.length≤6∧K21 r.Body 0 255=true∧(r.Kind=1∨r.Kind=2):=by
 simp only[K4v,Bool.and_eq_true,decide_eq_true_eq]at h
 obtain⟨h1,h2⟩:=h
 unfold K1f at h1
 rw[if_pos h2]at h1
 simp only[Bool.and_eq_true,decide_eq_true_eq]at h1
 exact⟨h1.1,h1.2.1,h2⟩
theorem tmod_step{s x:Int}(hs:0≤s)(hx:0≤x):(s.tmod 1000+x).tmod 1000=(s+x).tmod 1000:=by
 rw[Int.tmod_eq_emod_of_nonneg hs,Int.tmod_eq_emod_of_nonneg (by omega),Int.tmod_eq_emod_of_nonneg (by omega)]
 omega
theorem Kbs{s:Int}(hs:0≤s):0≤s.tmod 1000∧s.tmod 1000≤999:=by
 rw[Int.tmod_eq_emod_of_nonneg hs];omega
def Mht:MC:=
(Zs [.mv 2 cF] [0] (.seq (.reg [Za (mS 3 0),Za (bC 4 .eql 3 1),Za (mS 5 4),Zb 5 false (mS 6 0),Zb 5 false (bC 7 .eql 6 2),Za (.pick 8 (.s 5) cT (.s 7)),Za (mS 2 8)] [2])
.ret))
theorem Chb(k:Int):Ctr Tryz.prog Nih [aI k] [rB (decide (k=1∨k=2))]:=by
 refine cA Mht 0 9 [(.tmp 2,[false])] Tryz.func300 rfl rfl ?_;unfold Mht
 intro hb
 clear hb
 simp only[go_sem]
 refine⟨fun h=>by simp[h],fun h=>?_⟩
 rw[Bool.eq_iff_iff];simp[h]
def M4z:MC:=
(Zs [.box 1 0 (.s 0),.mv 2 (ci 0)] [1] (.seq (.seq (.reg [Za (lT 6 5 1),Za (.call 7 [] (.f N4x) [.s 6]),Za (.un 8 .not (.s 7)),Za (mS 9 8),Zb 9 false (fS 10 1 0),Zb 9 false (lF 11 1 10),Zb 9 false (.call 12 [] (.f Nih) [.s 11]),Zb 9 false (.un 13 .not (.s 12)),Za (.pick 14 (.s 9) cT (.s 13))] [1,14])
(.cond (.s 14) (Zs [.mv 2 (ci 0)] [2] .ret) .skip))
(Zs [.mv 3 (ci 0)] [1,3] (.seq (Zs [fS 15 1 1,lF 16 1 15,nS 17 16,.mv 18 (ci 0)] [3,16,17,18] (.block 0 (.loop ([3,16,17,18],[0]) (Zs [bS 19 .lss 18 17] [3,16,17,18,19] (.seq (cX 19 0)
(.seq (.block 1 (Zs [xS 20 1 16 18,lF 21 1 20,mS 5 21] [3,5,16,17,18] (pr [mS 22 3,mS 23 5,bS 24 .add 22 23,mS 3 24] [3,16,17,18])))
(pr [bC 25 .add 18 1,mS 18 25] [3,16,17,18])))))))
(Zs [mS 26 3,bC 27 .rem 26 1000,mS 3 27] [3] (.seq (Zs [mS 28 3,bC 29 .lss 28 999] [3,29] (.cond (.s 29) (pr [mS 30 3,bC 31 .add 30 1,mS 3 31] [3]) .skip))
(Zs [mS 32 3,mS 2 32] [2] .ret)))))))
theorem Ch2(r:GResource):Ctr Tryz.prog N54 [aS r.enc] [rI (K55 r)]:=by
 refine cA M4z 1 33 [(.tmp 2,[false])] Tryz.func217 rfl rfl ?_;unfold M4z
 intro hb
 clear hb
 simp only[go_sem]
 apply K0 (C4s r)
 simp only[go_sem]
 cases hv:K4v r
 ·have e0:K55 r=0:=by unfold K55;rw[hv];rfl
  rw[e0]
  refine⟨fun h=>rfl,fun h=>?_⟩
  have hk:decide (r.Kind=1∨r.Kind=2)=false:=by simp only[K4v,h,Bool.true_and]at hv;exact hv
  apply K0 (Chb r.Kind)
  simp only[go_sem,hk,h]
 ·obtain⟨h1,h2,h3⟩:=Kar hv
  have hres:K1f r=true:=by simp only[K4v,Bool.and_eq_true]at hv;exact hv.1
  have hdec:decide (r.Kind=1∨r.Kind=2)=true:=decide_eq_true h3
  simp only[go_sem,hres]
  apply K0 (Chb r.Kind)
  simp only[go_sem,hdec]
  refine K5 r.Body (fun k=>[(3,vI (sumI (r.Body.take k))),(18,vI k)]) (fun k=>[]) (fun _=>True) (by simp only[roomB];omega) ?_
  simp only[go_sem]
  refine⟨?_,trivial,?_,?_⟩
  ·simp only[go_sem,List.take_zero]
   try rfl
  ·intro k x hx _ h0 h1 hw
   have hk:=K7k h2 k
   have hxi:=K57 h2 k x hx
   have hkl:=Kg hx
   have hws:IntKind.i64.wrap (sumI (r.Body.take k)+x)=sumI (r.Body.take k)+x:=wI (by omega) (by omega)
   simp only[go_sem,K4 hx,h0,h1,hw,hws,K92 hx]
   try trivial
  ·intro _
   have hk:=K7k h2 r.Body.length
   rw[List.take_length]at hk
   have hk2:=Kbs hk.1
   have hws:IntKind.i64.wrap ((sumI r.Body).tmod 1000+1)=(sumI r.Body).tmod 1000+1:=wI (by omega) (by omega)
   simp only[go_sem,List.take_length,c1000,hws]
   have e1:K55 r=if (sumI r.Body).tmod 1000<999 then(sumI r.Body).tmod 1000+1 else(sumI r.Body).tmod 1000:=by unfold K55;rw[hv];rfl
   rw[e1]
   refine⟨fun h=>by rw[if_pos h],fun h=>by rw[if_neg h]⟩
def M53:MC:=
(Zs [.box 1 0 (.s 0),.mv 2 (ci 0)] [1] (.seq (.seq (.reg [Za (lT 5 5 1),Za (.call 6 [] (.f N2w) [.s 5]),Za (.un 7 .not (.s 6)),Za (mS 8 7),Zb 8 false (fS 9 1 0),Zb 8 false (lF 10 1 9),Zb 8 false (bC 11 .gtr 10 2),Za (.pick 12 (.s 8) cT (.s 11))] [1,12])
(.cond (.s 12) (Zs [.mv 2 (ci 0)] [2] .ret) .skip))
(Zs [.mv 3 (ci 0)] [1,3] (.seq (Zs [.mv 4 (ci 0)] [1,3,4] (.block 0 (.loop ([1,3,4],[]) (.seq (Zs [mS 13 4,fS 14 1 1,lF 15 1 14,nS 16 15,bS 17 .lss 13 16] [1,3,4,17] (cX 17 0))
(.seq (.block 1 (pr [mS 20 3,fS 21 1 1,lF 22 1 21,mS 23 4,xS 24 1 22 23,lF 25 1 24,bS 26 .add 20 25,bC 27 .rem 26 1000,mS 3 27] [1,3,4]))
(pr [mS 18 4,bC 19 .add 18 1,mS 4 19] [1,3,4]))))))
(Zs [mS 28 3,bC 29 .add 28 1,.call 30 [] (.f N6y) [.c (.int .i64 999),.s 29],mS 2 30] [2] .ret)))))
theorem Ch5(r:GResource):Ctr Tryz.prog N56 [aS r.enc] [rI (K55 r)]:=by
 refine cA M53 1 31 [(.tmp 2,[false])] Tryz.func200 rfl rfl ?_;unfold M53
 intro hb
 clear hb
 simp only[go_sem]
 apply K0 (C4u r)
 simp only[go_sem]
 cases hv:K4v r
 ·have e0:K55 r=0:=by unfold K55;rw[hv];rfl
  rw[e0]
  refine⟨fun h=>rfl,fun h=>⟨fun _=>rfl,fun hk=>?_⟩⟩
  have hk2:¬(r.Kind=1∨r.Kind=2):=by simpa[K4v,h]using hv
  simp only[K1f,if_neg hk2]at h
  split at h<;>first|omega|(split at h<;>first|omega|cases h)
 ·obtain⟨h1,h2,h3⟩:=Kar hv
  have hres:K1f r=true:=by simp only[K4v,Bool.and_eq_true]at hv;exact hv.1
  have hkd:¬r.Kind>2:=by omega
  simp only[go_sem,hres,hkd]
  refine K5 r.Body (fun k=>[(3,vI ((sumI (r.Body.take k)).tmod 1000)),(4,vI k)]) (fun k=>[]) (fun _=>True) (by simp only[roomB];omega) ?_
  simp only[go_sem]
  refine⟨?_,trivial,?_,?_⟩
  ·simp only[go_sem,List.take_zero]
   try rfl
  ·intro k x hx _ h0 h1 hw
   have hk:=K7k h2 k
   have hxi:=K57 h2 k x hx
   have hk2:=Kbs hk.1
   have hws:IntKind.i64.wrap ((sumI (r.Body.take k)).tmod 1000+x)=(sumI (r.Body.take k)).tmod 1000+x:=wI (by omega) (by omega)
   simp only[go_sem,K4 hx,h0,h1,hw,hws,K92 hx,c1000,tmod_step hk.1 hxi.1]
   try trivial
  ·intro _
   have hk:=K7k h2 r.Body.length
   rw[List.take_length]at hk
   have hk2:=Kbs hk.1
   have hws:IntKind.i64.wrap ((sumI r.Body).tmod 1000+1)=(sumI r.Body).tmod 1000+1:=wI (by omega) (by omega)
   simp only[go_sem,List.take_length,hws]
   apply K0 (Cdj 999 _)
   simp only[go_sem]
   have e1:K55 r=if (sumI r.Body).tmod 1000<999 then(sumI r.Body).tmod 1000+1 else(sumI r.Body).tmod 1000:=by unfold K55;rw[hv];rfl
   rw[e1]
   repeat' split
   all_goals omega
def mod1000(v:Int):Int:=(IntKind.i64.wrap (v.tmod 1000+1000)).tmod 1000
theorem Cod(v:Int):Ctr Tryz.prog N4j [aI v,aI 1000] [rI (mod1000 v)]:=by
 refine cA M4h 0 15 [(.tmp 4,[false])] Tryz.func363 rfl rfl ?_;unfold M4h
 intro hb
 clear hb
 simp only[go_sem]
 apply K0 (C2 _ _ _)
 simp only[go_sem,c1000]
 refine And.intro ?_ ?_<;>intro h
 ·exact absurd (by decide) h
 ·rfl
theorem Con(v:Int):Ctr Tryz.prog N4l [aI v,aI 1000] [rI (mod1000 v)]:=by
 refine cA M4i 0 15 [(.tmp 4,[false])] Tryz.func368 rfl rfl ?_;unfold M4i
 intro hb
 clear hb
 simp only[go_sem]
 apply K0 (C3 _ _ _)
 simp only[go_sem,c1000]
 refine And.intro ?_ ?_<;>intro h
 ·exact absurd (by decide) h
 ·rfl
def keyOk(k:Int):Bool:=decide (1≤k∧k≤2147483646)
def Mbf:MC:=Y32 N1 2147483646
theorem Clx(k:Int):Ctr Tryz.prog Nck [aI k] [rB (keyOk k)]:=by
 refine cA Mbf 0 5 [(.tmp 2,[false])] Tryz.func261 rfl rfl ?_;unfold Mbf
 intro hb
 clear hb
 simp only[go_sem]
 apply K0 (C2 _ _ _)
 simp only[go_sem]
 rfl
def Mc9:MC:=Y32 N0 2147483646
theorem Cmm(k:Int):Ctr Tryz.prog Ndb [aI k] [rB (keyOk k)]:=by
 refine cA Mc9 0 5 [(.tmp 2,[false])] Tryz.func246 rfl rfl ?_;unfold Mc9
 intro hb
 clear hb
 simp only[go_sem]
 apply K0 (C3 _ _ _)
 simp only[go_sem]
 rfl
def Mdw:MC:=
(Zs [.mv 4 (ci 0)] [0,1] (Zs [mS 6 0,.lit 7 0 1 8 [.s 6],mS 8 1,.app 9 0 1 8 (.s 7) (.s 8),mS 5 9] [0,5] (Zs [mS 10 5,mS 11 0,.lit 12 1 1 8 [.s 11],.app 13 0 1 8 (.s 10) (.s 12),.call 14 [] (.f N20) [.s 13],mS 4 14] [4] .ret)))
theorem Cn9(k:Int)(l:List Int)(hl:l.length≤1073741824):Ctr Tryz.prog Nex [aI k,aL 1 (l.map encI)] [rI (hashL (k::(l++[k])))]:=by
 refine cA Mdw 2 15 [(.tmp 4,[false])] Tryz.func262 rfl rfl ?_;unfold Mdw
 intro hb
 clear hb
 have ha:1+l.length=l.length+1:=Nat.add_comm _ _
 have e:([T.sc (Value.int IntKind.i64 k)]::List.map encI l++[[T.sc (Value.int IntKind.i64 k)]])=(k::(l++[k])).map encI:=by simp[encI]
 simp only[go_sem,↓Ko (f:=encI) (fun _=>rfl) l,ha,List.length_append,List.length_cons,List.length_map,List.length_nil,Nat.zero_add,e]
 refine⟨by simp only[roomB];omega,by simp only[roomB];omega,by simp only[roomB];omega,by simp only[roomB];omega,?_⟩
 rw[show [T.sc (Value.int IntKind.i64 k)]::List.map encI (l++[k])=(k::(l++[k])).map encI from rfl]
 apply K0 (C2n (k::(l++[k])))
 simp only[go_sem]
def Mem:MC:=
(Zs [.mv 4 (ci 0)] [0,1] (Zs [mS 5 0,.lit 6 0 1 8 [.s 5],mS 7 1,.app 8 0 1 8 (.s 6) (.s 7),mS 9 0,.lit 10 1 1 8 [.s 9],.app 11 0 1 8 (.s 8) (.s 10),.call 12 [] (.f N24) [.s 11],mS 4 12] [4] .ret))
theorem Cnq(k:Int)(l:List Int)(hl:l.length≤1073741824):Ctr Tryz.prog Nfi [aI k,aL 1 (l.map encI)] [rI (hashL (k::(l++[k])))]:=by
 refine cA Mem 2 13 [(.tmp 4,[false])] Tryz.func247 rfl rfl ?_;unfold Mem
 intro hb
 clear hb
 have ha:1+l.length=l.length+1:=Nat.add_comm _ _
 have e:([T.sc (Value.int IntKind.i64 k)]::List.map encI l++[[T.sc (Value.int IntKind.i64 k)]])=(k::(l++[k])).map encI:=by simp[encI]
 simp only[go_sem,↓Ko (f:=encI) (fun _=>rfl) l,ha,List.length_append,List.length_cons,List.length_map,List.length_nil,Nat.zero_add,e]
 refine⟨by simp only[roomB];omega,by simp only[roomB];omega,by simp only[roomB];omega,by simp only[roomB];omega,?_⟩
 rw[show [T.sc (Value.int IntKind.i64 k)]::List.map encI (l++[k])=(k::(l++[k])).map encI from rfl]
 apply K0 (C2o (k::(l++[k])))
 simp only[go_sem]
def K43(k:Int)(s:GStatement):GStatement:={s with Seal:=if keyOk k then hashL [k,s.Witness,s.Digest,s.Tick,k]else 0}
def Y38(v0:Nat)(v1:Nat):MC:=
(Zs [.box 3 0 (.s 1),.alloc 4 1 [pz,pz,pz,pz]] [0,3,4] (Zs [fS 5 3 3,.store 1 (.s 5) (ci 0)] [0,3,4] (.seq (Zs [mS 6 0,.call 7 [] (.f v0) [.s 6]] [0,3,4,7] (.cond (.s 7) (pr [mS 8 0,fS 9 3 0,lF 10 1 9,fS 11 3 1,lF 12 1 11,fS 13 3 2,lF 14 1 13,.lit 15 2 1 8 [.s 10,.s 12,.s 14],.call 16 [] (.f v1) [.s 8,.s 15],fS 17 3 3,sS 1 17 16] [3,4]) .skip))
(Zs [lT 18 4 3,sS 4 4 18] [4] .ret))))
attribute [go_sem] Y38
def M6h:MC:=Y38 Nck Nex
theorem Ciu(k:Int)(s:GStatement):Ctr Tryz.prog N6s [aI k,aS s.enc] [rS (K43 k s).enc]:=by
 refine cA M6h 3 19 [(.cell 4 true 4,[false,false,false,false])] Tryz.func162 rfl rfl ?_;unfold M6h
 intro hb
 clear hb
 simp only[go_sem]
 apply K0 (Clx k)
 simp only[go_sem]
 refine And.intro ?_ ?_<;>intro h
 ·refine⟨⟨by decide,by decide⟩,?_⟩
  apply K0 (Cn9 k [s.Witness,s.Digest,s.Tick] (by simp))
  simp only[go_sem]
  intros
  have e:K43 k s={s with Seal:=hashL [k,s.Witness,s.Digest,s.Tick,k]}:=by simp only[K43,if_pos h]
  rw[e]
  simp
 ·have e:K43 k s={s with Seal:=0}:=by rw[K43,h,if_neg Bool.false_ne_true]
  rw[e]
  simp
def M6m:MC:=Y38 Ndb Nfi
theorem Cj0(k:Int)(s:GStatement):Ctr Tryz.prog N70 [aI k,aS s.enc] [rS (K43 k s).enc]:=by
 refine cA M6m 3 19 [(.cell 4 true 4,[false,false,false,false])] Tryz.func140 rfl rfl ?_;unfold M6m
 intro hb
 clear hb
 simp only[go_sem]
 apply K0 (Cmm k)
 simp only[go_sem]
 refine And.intro ?_ ?_<;>intro h
 ·refine⟨⟨by decide,by decide⟩,?_⟩
  apply K0 (Cnq k [s.Witness,s.Digest,s.Tick] (by simp))
  simp only[go_sem]
  intros
  have e:K43 k s={s with Seal:=hashL [k,s.Witness,s.Digest,s.Tick,k]}:=by simp only[K43,if_pos h]
  rw[e]
  simp
 ·have e:K43 k s={s with Seal:=0}:=by rw[K43,h,if_neg Bool.false_ne_true]
  rw[e]
  simp
end Go.Proofs.YtjneccbpkckdfaaGreatR
namespace Go.Proofs.YtjneccbpkckdfaaGreatR
open Go Go.RowKit Go.Proofs
open Nat (reduceEqDiff reduceLT reduceLeDiff reduceAdd reduceMul)
open List (reduceReplicate)
def K13(v:GVisit)(w:GWant)(n:Int):Int:=if K2r v=true∧0≤n∧n≤100 then(
  if w.Kind=1 then K55 (follow v.Site w.Address (IntKind.i64.wrap (v.Tick+n))).1
  else if w.Kind=2 then(if IntKind.i64.wrap (v.Tick+n)<999 then IntKind.i64.wrap (v.Tick+n)else 999)
  else if w.Kind=3 then mod1000 (hashL [v.Seed,n])
  else if w.Kind=4 then(if 0<v.Inputs.length then zAt v.Inputs (n.tmod v.Inputs.length)else 0)
  else 0)else 0
def Mdx:MC:=
(Zs [.box 3 0 (.s 0),.box 4 1 (.s 1),.mv 6 (ci 0)] [2,3,4] (.seq (.seq (.reg [Za (lT 9 4 3),Za (.call 10 [] (.f N2z) [.s 9]),Za (.un 11 .not (.s 10)),Za (mS 12 11),Zb 12 false (mS 13 2),Zb 12 false (.call 14 [] (.f N1) [.s 13,.c (.int .i64 0),.c (.int .i64 100)]),Zb 12 false (.un 15 .not (.s 14)),Za (.pick 16 (.s 12) cT (.s 15))] [2,3,4,16])
(.cond (.s 16) (Zs [.mv 6 (ci 0)] [6] .ret) .skip))
(.seq (Zs [fS 17 4 0,lF 18 1 17] [2,3,4,18] (.block 0 (Zs [bC 20 .eql 18 1,mS 19 20] [2,3,4,18,19] (.cond (.s 19) (Zs [fS 22 3 0,lF 23 1 22,fS 24 4 1,lT 25 3 24,fS 26 3 1,lF 27 1 26,mS 28 2,bS 29 .add 27 28,.call 30 [2,3] (.f N6q) [.s 23,.s 25,.s 29],mS 21 30,.ext 31 (.s 21) 0,.ext 32 (.s 21) 1,.alloc 7 4 [pz,.emp 1,pz,pz,pz],sS 5 7 31,mS 8 32] [7] (Zs [lT 33 5 7,.call 34 [] (.f N54) [.s 33],mS 6 34] [6] .ret)) (Zs [bC 36 .eql 18 2,mS 35 36] [2,3,18,35] (.cond (.s 35) (Zs [fS 37 3 1,lF 38 1 37,mS 39 2,bS 40 .add 38 39,.mm 41 false (ci 999) (.s 40),mS 6 41] [6] .ret) (Zs [bC 43 .eql 18 3,mS 42 43] [2,3,18,42] (.cond (.s 42) (Zs [fS 44 3 2,lF 45 1 44,mS 46 2,.lit 47 5 1 8 [.s 45,.s 46],.call 48 [] (.f N20) [.s 47],.call 49 [] (.f N4j) [.s 48,.c (.int .i64 1000)],mS 6 49] [6] .ret) (Zs [bC 51 .eql 18 4,mS 50 51] [2,3,50] (.cond (.s 50) (Zs [fS 52 3 3,lF 53 1 52,nS 54 53,bC 55 .gtr 54 0] [2,3,55] (.cond (.s 55) (.seq (.dreg [Zc [58,59,60,61,62] (fS 56 3 3),Zd [58,59,60,61,62] [0] (lF 57 1 56),Zc [56,57,59,60,61] (mS 58 2),Zc [56,57,58] (fS 59 3 3),Zd [56,57,58] [3] (lF 60 1 59),Zd [56,57,58] [3,4] (nS 61 60),Zd [56,57] [2,3,4,5] (bS 62 .rem 58 61),Ze (.range 7) (xS 63 1 57 62),Ze (.range 8) (lF 64 1 63),Ze (.range 9) (mS 6 64)] [6])
.ret) .skip)) .skip))))))))))
(Zs [.mv 6 (ci 0)] [6] .ret))))
theorem Cna(v:GVisit)(w:GWant)(n:Nat)(hv:v.Site.length+(v.Site.map GVersion.size).sum≤1073741824):Ctr Tryz.prog Ney [aS v.enc,aS w.enc,aI n] [rI (K13 v w n)]:=by
 refine cA Mdx 6 65 [(.tmp 6,[false])] Tryz.func375 rfl rfl ?_;unfold Mdx
 intro hb
 clear hb
 simp only[go_sem]
 apply K0 (C4d v)
 simp only[go_sem]
 by_cases hc:K2r v=true∧0≤(n:Int)∧(n:Int)≤100
 ·obtain⟨c1,c2,c3⟩:=hc
  rw[K13,if_pos ⟨c1,c2,c3⟩]
  have hdec:decide ((0:Int)≤(n:Int)∧(n:Int)≤100)=true:=decide_eq_true ⟨c2,c3⟩
  simp only[go_sem,c1]
  apply K0 (C2 (n:Int) 0 100)
  simp only[go_sem,hdec]
  refine⟨fun k1=>?_,fun k1=>?_⟩
  ·rw[if_pos k1]
   apply K0 (Cfv v.Site w.Address _ hv)
   simp only[go_sem]
   intros
   apply K0 (Ch2 _)
   simp only[go_sem]
  rw[if_neg k1]
  refine⟨fun k2=>by rw[if_pos k2],fun k2=>?_⟩
  rw[if_neg k2]
  refine⟨fun k3=>?_,fun k3=>?_⟩
  ·rw[if_pos k3]
   refine⟨⟨by decide,by decide⟩,?_⟩
   apply K0 (C2n [v.Seed,(n:Int)])
   simp only[go_sem]
   try intros
   apply K0 (Cod _)
   simp only[go_sem]
  rw[if_neg k3]
  refine⟨fun k4=>?_,fun k4=>?_⟩
  ·rw[if_pos k4]
   refine⟨fun k5=>?_,fun k5=>?_⟩
   ·rw[if_pos (show 0<v.Inputs.length by omega)]
    obtain⟨x,hx⟩:=Kb (l:=v.Inputs) (k:=n%v.Inputs.length) (Nat.mod_lt _ (by omega))
    have hm:(n:Int).tmod (v.Inputs.length:Int)=((n%v.Inputs.length:Nat):Int):=(Int.ofNat_tmod n _).symm
    have hz:=K2n hx
    have hz0:¬(v.Inputs.length:Int)=0:=by omega
    have hz1:(v.Inputs.length:Int)≠0:=by omega
    have hlt:=Nat.mod_lt n (show 0<v.Inputs.length by omega)
    rw[if_neg hz0,hm]
    simp only[go_sem]
    refine⟨⟨by omega,by omega⟩,?_⟩
    rw[hx,hz]
    simp only[go_sem]
   ·rw[if_neg (show ¬0<v.Inputs.length by omega)]
  ·rw[if_neg k4]
 ·have e0:K13 v w n=0:=by rw[K13,if_neg hc]
  rw[e0]
  refine⟨fun _=>rfl,fun h=>?_⟩
  have hk:decide ((0:Int)≤(n:Int)∧(n:Int)≤100)=false:=decide_eq_false (fun hh=>hc ⟨h,hh⟩)
  apply K0 (C2 (n:Int) 0 100)
  simp only[go_sem,hk]
def Men:MC:=
(Zs [.box 3 0 (.s 0),.box 4 1 (.s 1),.mv 6 (ci 0)] [2,3,4] (.seq (.seq (.reg [Za (lT 9 4 3),Za (.call 10 [] (.f N4k) [.s 9]),Za (.un 11 .not (.s 10)),Za (mS 12 11),Zb 12 false (mS 13 2),Zb 12 false (.call 14 [] (.f N0) [.s 13,.c (.int .i64 0),.c (.int .i64 100)]),Zb 12 false (.un 15 .not (.s 14)),Za (.pick 16 (.s 12) cT (.s 15))] [2,3,4,16])
(.cond (.s 16) (Zs [.mv 6 (ci 0)] [6] .ret) .skip))
(.seq (Zs [fS 17 4 0,lF 18 1 17] [2,3,4,18] (.block 0 (Zs [bC 20 .eql 18 1,mS 19 20] [2,3,4,18,19] (.cond (.s 19) (Zs [fS 22 3 0,lF 23 1 22,fS 24 4 1,lT 25 3 24,fS 26 3 1,lF 27 1 26,mS 28 2,bS 29 .add 27 28,.call 30 [2,3] (.f N6x) [.s 23,.s 25,.s 29],mS 21 30,.ext 31 (.s 21) 0,.ext 32 (.s 21) 1,.alloc 7 4 [pz,.emp 1,pz,pz,pz],sS 5 7 31,mS 8 32] [7] (Zs [lT 33 5 7,.call 34 [] (.f N56) [.s 33],mS 6 34] [6] .ret)) (Zs [bC 36 .eql 18 2,mS 35 36] [2,3,18,35] (.cond (.s 35) (Zs [fS 37 3 1,lF 38 1 37,mS 39 2,bS 40 .add 38 39,.call 41 [] (.f N6y) [.c (.int .i64 999),.s 40],mS 6 41] [6] .ret) (Zs [bC 43 .eql 18 3,mS 42 43] [2,3,18,42] (.cond (.s 42) (Zs [fS 44 3 2,lF 45 1 44,mS 46 2,.lit 47 5 1 8 [.s 45,.s 46],.call 48 [] (.f N24) [.s 47],.call 49 [] (.f N4l) [.s 48,.c (.int .i64 1000)],mS 6 49] [6] .ret) (Zs [bC 51 .eql 18 4,mS 50 51] [2,3,50] (.cond (.s 50) (Zs [fS 52 3 3,lF 53 1 52,nS 54 53,bC 55 .gtr 54 0] [2,3,55] (.cond (.s 55) (.seq (.dreg [Zc [58,59,60,61,62] (fS 56 3 3),Zd [58,59,60,61,62] [0] (lF 57 1 56),Zc [56,57,59,60,61] (mS 58 2),Zc [56,57,58] (fS 59 3 3),Zd [56,57,58] [3] (lF 60 1 59),Zd [56,57,58] [3,4] (nS 61 60),Zd [56,57] [2,3,4,5] (bS 62 .rem 58 61),Ze (.range 7) (xS 63 1 57 62),Ze (.range 8) (lF 64 1 63),Ze (.range 9) (mS 6 64)] [6])
.ret) .skip)) .skip))))))))))
(Zs [.mv 6 (ci 0)] [6] .ret))))
theorem Cnr(v:GVisit)(w:GWant)(n:Nat)(hv:v.Site.length+(v.Site.map GVersion.size).sum≤1073741824):Ctr Tryz.prog Nfj [aS v.enc,aS w.enc,aI n] [rI (K13 v w n)]:=by
 refine cA Men 6 65 [(.tmp 6,[false])] Tryz.func367 rfl rfl ?_;unfold Men
 intro hb
 clear hb
 simp only[go_sem]
 apply K0 (C4f v)
 simp only[go_sem]
 by_cases hc:K2r v=true∧0≤(n:Int)∧(n:Int)≤100
 ·obtain⟨c1,c2,c3⟩:=hc
  rw[K13,if_pos ⟨c1,c2,c3⟩]
  have hdec:decide ((0:Int)≤(n:Int)∧(n:Int)≤100)=true:=decide_eq_true ⟨c2,c3⟩
  simp only[go_sem,c1]
  apply K0 (C3 (n:Int) 0 100)
  simp only[go_sem,hdec]
  refine⟨fun k1=>?_,fun k1=>?_⟩
  ·rw[if_pos k1]
   apply K0 (Cfz v.Site w.Address _ hv)
   simp only[go_sem]
   intros
   apply K0 (Ch5 _)
   simp only[go_sem]
  rw[if_neg k1]
  refine⟨fun k2=>?_,fun k2=>?_⟩
  ·rw[if_pos k2]
   apply K0 (Cdj 999 _)
   simp only[go_sem]
   try intros
   repeat' split
   all_goals omega
  rw[if_neg k2]
  refine⟨fun k3=>?_,fun k3=>?_⟩
  ·rw[if_pos k3]
   refine⟨⟨by decide,by decide⟩,?_⟩
   apply K0 (C2o [v.Seed,(n:Int)])
   simp only[go_sem]
   try intros
   apply K0 (Con _)
   simp only[go_sem]
  rw[if_neg k3]
  refine⟨fun k4=>?_,fun k4=>?_⟩
  ·rw[if_pos k4]
   refine⟨fun k5=>?_,fun k5=>?_⟩
   ·rw[if_pos (show 0<v.Inputs.length by omega)]
    obtain⟨x,hx⟩:=Kb (l:=v.Inputs) (k:=n%v.Inputs.length) (Nat.mod_lt _ (by omega))
    have hm:(n:Int).tmod (v.Inputs.length:Int)=((n%v.Inputs.length:Nat):Int):=(Int.ofNat_tmod n _).symm
    have hz:=K2n hx
    have hz0:¬(v.Inputs.length:Int)=0:=by omega
    have hz1:(v.Inputs.length:Int)≠0:=by omega
    have hlt:=Nat.mod_lt n (show 0<v.Inputs.length by omega)
    rw[if_neg hz0,hm]
    simp only[go_sem]
    refine⟨⟨by omega,by omega⟩,?_⟩
    rw[hx,hz]
    simp only[go_sem]
   ·rw[if_neg (show ¬0<v.Inputs.length by omega)]
  ·rw[if_neg k4]
 ·have e0:K13 v w n=0:=by rw[K13,if_neg hc]
  rw[e0]
  refine⟨fun _=>rfl,fun h=>?_⟩
  have hk:decide ((0:Int)≤(n:Int)∧(n:Int)≤100)=false:=decide_eq_false (fun hh=>hc ⟨h,hh⟩)
  apply K0 (C3 (n:Int) 0 100)
  simp only[go_sem,hk]
def visF(l:List GOp)(v:GVisit):Nat→GState→List GEntry→List GState→List GEntry×List GState
 |0,s,es,tr=>(es,tr)
 |f+1,s,es,tr=>
  if s.Pc≥l.length then(es,tr)
  else if (Kk l s).Kind=0 then visF l v f (K14 l s 0) es (tr++[K14 l s 0])
  else visF l v f (K14 l s (K13 v (Kk l s) es.length)) (es++[⟨(Kk l s).Kind,(Kk l s).Address,K13 v (Kk l s) es.length⟩]) (tr++[K14 l s (K13 v (Kk l s) es.length)])
def visit(l:List GOp)(v:GVisit):List GEntry×List GState:=if K1d l=true∧K2r v=true then visF l v 20 st0 [] [st0]else([],[st0])
theorem Kae{l:List GOp}{v:GVisit}:∀ {f:Nat} {s:GState} {es:List GEntry} {tr:List GState},(visF l v f s es tr).1.length≤es.length+f∧tr.length≤(visF l v f s es tr).2.length
 |0,s,es,tr=>⟨Nat.le_refl _,Nat.le_refl _⟩
 |f+1,s,es,tr=>by
  rw[visF]
  split
  ·exact⟨by simp,Nat.le_refl _⟩
  ·split
   ·have:=Kae (l:=l) (v:=v) (f:=f) (s:=K14 l s 0) (es:=es) (tr:=tr++[K14 l s 0])
    simp only[List.length_append,List.length_cons,List.length_nil]at this
    omega
   ·have:=Kae (l:=l) (v:=v) (f:=f) (s:=K14 l s (K13 v (Kk l s) es.length)) (es:=es++[⟨(Kk l s).Kind,(Kk l s).Address,K13 v (Kk l s) es.length⟩]) (tr:=tr++[K14 l s (K13 v (Kk l s) es.length)])
    simp only[List.length_append,List.length_cons,List.length_nil]at this
    omega
theorem Kbu{l:List GOp}{v:GVisit}:∀ {f:Nat} {s:GState} {es:List GEntry} {tr:List GState},stOk s=true→(∀x∈tr,stOk x=true)→∀x∈(visF l v f s es tr).2,stOk x=true
 |0,s,es,tr,_,h=>h
 |f+1,s,es,tr,hs,h=>by
  rw[visF]
  have hn:∀u,∀x∈tr++[K14 l s u],stOk x=true:=fun u x hx=>by
   rcases List.mem_append.1 hx with hx|hx
   ·exact h x hx
   ·rw[List.mem_singleton.1 hx];exact K5p hs
  split
  ·exact h
  ·split
   ·exact Kbu (K5p hs) (hn _)
   ·exact Kbu (K5p hs) (hn _)
theorem K3k(l:List GOp)(v:GVisit):(visit l v).1.length≤20∧1≤(visit l v).2.length:=by
 unfold visit
 split
 ·have:=Kae (l:=l) (v:=v) (f:=20) (s:=st0) (es:=[]) (tr:=[st0])
  simp only[List.length_nil,List.length_cons]at this
  omega
 ·simp
theorem Kdw(l:List GOp)(v:GVisit):∀x∈(visit l v).2,stOk x=true:=by
 unfold visit
 split
 ·exact Kbu Kb6 (by simp[Kb6])
 ·simp[Kb6]
structure VisI (l:List GOp) (v:GVisit) (s:GState) (es:List GEntry) (tr:List GState):Prop where
 ok:stOk s=true
 len:tr.length≤20∧es.length≤20
 run:K1d l=true→K2r v=true→∃f,l.length-s.Pc.toNat<f∧tr.length+(l.length-s.Pc.toNat)≤18∧es.length+(l.length-s.Pc.toNat)≤18∧visF l v f s es tr=visit l v
 bad:¬(K1d l=true∧K2r v=true)→(es,tr)=visit l v
theorem K6e{l:List GOp}(h:K1d l=true):l.length≤16:=by
 simp only[K1d,K1r,Bool.and_eq_true,decide_eq_true_eq]at h
 exact h.1
theorem VisI.start(l:List GOp)(v:GVisit):VisI l v st0 [] [st0]:=
 ⟨Kb6,by simp,fun h1 h2=>⟨20,by have:=K6e h1;simp only[st0];omega,by have:=K6e h1;simp only[st0,List.length_cons,List.length_nil];omega,by have:=K6e h1;simp only[st0,List.length_nil];omega,by rw[visit,if_pos ⟨h1,h2⟩]⟩,fun h=>by rw[visit,if_neg h]⟩
section
variable {l:List GOp} {v:GVisit} {s:GState} {es:List GEntry} {tr:List GState}
theorem VisI.fin(h:VisI l v s es tr)(h1:K1d l=true)(h2:K2r v=true)(hd:s.Pc≥l.length):(es,tr)=visit l v:=by
 obtain⟨f,hf,_,_,hp⟩:=h.run h1 h2
 obtain⟨f,rfl⟩:∃f',f=f'+1:=⟨f-1,by omega⟩
 rw[visF,if_pos hd]at hp
 exact hp
theorem VisI.less(h:VisI l v s es tr)(h1:K1d l=true)(h2:K2r v=true)(hd:¬s.Pc≥l.length)(u:Int):l.length-(K14 l s u).Pc.toNat<l.length-s.Pc.toNat:=by
 have h0:=(K6f h.ok).1.1
 have:=stepTo_lt (v:=u) h1 h.ok (by omega)
 omega
theorem VisI.step0(h:VisI l v s es tr)(h1:K1d l=true)(h2:K2r v=true)(hd:¬s.Pc≥l.length)(hw:(Kk l s).Kind=0):VisI l v (K14 l s 0) es (tr++[K14 l s 0]):=by
 obtain⟨f,hf,ht,he,hp⟩:=h.run h1 h2
 obtain⟨f,rfl⟩:∃f',f=f'+1:=⟨f-1,by omega⟩
 have hl:=h.less h1 h2 hd 0
 rw[visF,if_neg hd,if_pos hw]at hp
 refine⟨K5p h.ok,by simp only[List.length_append,List.length_cons,List.length_nil];omega,fun _ _=>⟨f,by omega,by simp only[List.length_append,List.length_cons,List.length_nil];omega,by omega,hp⟩,fun hb=>(hb ⟨h1,h2⟩).elim⟩
theorem VisI.step1(h:VisI l v s es tr)(h1:K1d l=true)(h2:K2r v=true)(hd:¬s.Pc≥l.length)(hw:¬(Kk l s).Kind=0):
  VisI l v (K14 l s (K13 v (Kk l s) es.length)) (es++[⟨(Kk l s).Kind,(Kk l s).Address,K13 v (Kk l s) es.length⟩]) (tr++[K14 l s (K13 v (Kk l s) es.length)]):=by
 obtain⟨f,hf,ht,he,hp⟩:=h.run h1 h2
 obtain⟨f,rfl⟩:∃f',f=f'+1:=⟨f-1,by omega⟩
 have hl:=h.less h1 h2 hd (K13 v (Kk l s) es.length)
 rw[visF,if_neg hd,if_neg hw]at hp
 refine⟨K5p h.ok,by simp only[List.length_append,List.length_cons,List.length_nil];omega,fun _ _=>⟨f,by omega,by simp only[List.length_append,List.length_cons,List.length_nil];omega,by simp only[List.length_append,List.length_cons,List.length_nil];omega,hp⟩,fun hb=>(hb ⟨h1,h2⟩).elim⟩
end
def Mhu:MC:=
(Zs [.box 3 0 (.s 1),.nilo 4 1 5,.nilo 5 2 4] [0,3] (Zs [.call 11 [3,4,5] (.f Ncn) [],.alloc 6 6 [pz,.emp 1,.emp 1,.emp 1],sS 4 6 11] [0,3,6] (Zs [.nilo 7 1 5] [0,3,6,7] (Zs [lT 12 4 6,.lit 13 2 4 80 [.s 12],mS 8 13] [0,3,6,7,8] (.seq (.seq (.reg [Za (mS 14 0),Za (.call 15 [] (.f N2i) [.s 14]),Za (.un 16 .not (.s 15)),Za (mS 17 16),Zb 17 false (lT 18 4 3),Zb 17 false (.call 19 [] (.f N2z) [.s 18]),Zb 17 false (.un 20 .not (.s 19)),Za (.pick 21 (.s 17) cT (.s 20))] [0,3,6,7,8,21])
(.cond (.s 21) (Zs [mS 22 8,.nilo 4 1 5,mS 5 22] [4,5] .ret) .skip))
(.seq (.block 0 (.loop ([0,3,6,7,8],[7,8,9]) (.seq (Zs [mS 23 0,lT 24 4 6,.call 25 [] (.f Njx) [.s 23,.s 24],.un 26 .not (.s 25)] [0,3,6,7,8,26] (cX 26 0))
(.block 1 (Zs [.mv 9 (ci 0)] [0,3,6,7,8,9] (.seq (Zs [mS 27 0,lT 28 4 6,.call 29 [] (.f Njy) [.s 27,.s 28],.alloc 10 7 [pz,pz,pz,pz],sS 4 10 29] [0,3,6,7,8,9,10] (Zs [fS 30 10 0,lF 31 1 30,bC 32 .neq 31 0] [0,3,6,7,8,9,10,32] (.cond (.s 32) (Zs [lT 33 4 3,lT 34 4 10,mS 35 7,nS 36 35,.call 37 [] (.f Ney) [.s 33,.s 34,.s 36],mS 9 37] [0,3,6,7,8,9,10] (pr [mS 38 7,fS 39 10 0,lF 40 1 39,fS 41 10 1,lT 42 3 41,mS 43 9,.build 44 [pz,pz,pz,pz,pz] [(0,1,.s 40),(1,3,.s 42),(4,1,.s 43)],.lit 45 8 5 40 [.s 44],.app 46 1 5 40 (.s 38) (.s 45),mS 7 46] [0,3,6,7,8,9])) .skip)))
(Zs [mS 47 0,lT 48 4 6,mS 49 9,.call 50 [3,4,5] (.f Nf0) [.s 47,.s 48,.s 49],sS 4 6 50] [0,3,6,7,8] (pr [mS 51 8,lT 52 4 6,.lit 53 9 4 80 [.s 52],.app 54 2 4 80 (.s 51) (.s 53),mS 8 54] [0,3,6,7,8]))))))))
(Zs [mS 55 7,mS 56 8,mS 4 55,mS 5 56] [4,5] .ret)))))))
set_option maxHeartbeats 2000000 in
theorem Cof(l:List GOp)(v:GVisit)(hv:v.Site.length+(v.Site.map GVersion.size).sum≤1073741824):Ctr Tryz.prog Nii [aL 4 (l.map GOp.enc),aS v.enc] [rL 5 ((visit l v).1.map GEntry.enc),rL 4 ((visit l v).2.map GState.enc)]:=by
 refine cA Mhu 10 57 [(.tmp 4,[true]),(.tmp 5,[true])] Tryz.func335 rfl rfl ?_;unfold Mhu
 intro hb
 clear hb
 simp only[go_sem]
 apply K0 Cm0
 simp only[go_sem]
 intros
 refine⟨by decide,?_⟩
 apply K0 (C3v l)
 simp only[go_sem]
 repeat' first
  |(refine And.intro ?_ ?_<;>intro h)
  |(apply K0 (C4d v);simp only[go_sem])
 ·have hP:visit l v=([],[st0]):=by rw[visit,if_neg (by simp_all)]
  rw[hP]
  try exact⟨rfl,rfl⟩
  try trivial
 ·have hP:visit l v=([],[st0]):=by rw[visit,if_neg (by simp_all)]
  rw[hP]
  try exact⟨rfl,rfl⟩
  try trivial
 ·have hl:K1d l=true:=by assumption
  have hv2:K2r v=true:=by assumption
  refine Kj (ι:=GState×List GEntry×List GState) (fun t=>[(7,.val false [.ref 1 0 5 0 t.2.1.length]),(8,.val false [.ref 2 0 4 0 t.2.2.length])]) (fun t=>[(1,⟨0,.row true 5 (t.2.1.map GEntry.enc)⟩),(2,⟨0,.row true 4 (t.2.2.map GState.enc)⟩),(3,⟨0,.lent 1 (t.1.Regs.map encI)⟩),(4,⟨0,.lent 1 (t.1.Slots.map encI)⟩),(5,⟨0,.lent 1 (t.1.Nodes.map encI)⟩),(6,⟨0,.box [.pl (tI t.1.Pc),.ref 3 0 1 0 t.1.Regs.length,.ref 4 0 1 0 t.1.Slots.length,.ref 5 0 1 0 t.1.Nodes.length]⟩)])
   (fun t=>VisI l v t.1 t.2.1 t.2.2) (fun t=>l.length-t.1.Pc.toNat) (st0,[],[st0]) ?_
  simp only[go_sem]
  refine⟨?_,VisI.start l v,?_⟩
  ·simp only[go_sem]
   try exact⟨rfl,rfl⟩
   try trivial
  ·rintro ⟨s,es,tr⟩ hI
   simp only at hI
   have hs:=hI.ok
   have hsz:=K6u hs
   have h0:=(K6f hs).1.1
   have hlt:=hI.len
   simp only[go_sem]
   apply K0 (Cor l s)
   by_cases hd:s.Pc≥l.length
   ·have hf:=hI.fin hl hv2 hd
    simp only[go_sem,hd]
    rw[←hf]
    try exact⟨rfl,rfl⟩
    try trivial
   ·simp only[go_sem,hd]
    apply K0 (Cos l s)
    simp only[go_sem]
    intros
    by_cases hw:(Kk l s).Kind=0
    ·simp only[go_sem,hw]
     apply K0 (Cdk l s 0 (by omega))
     simp only[go_sem]
     intros
     refine⟨by decide,by simp only[roomB];omega,(K14 l s 0,es,tr++[K14 l s 0]),⟨⟨rfl,by simp⟩,rfl,by simp[GState.enc],rfl,rfl,rfl,rfl,rfl,rfl,rfl⟩,hI.step0 hl hv2 hd hw,hI.less hl hv2 hd _⟩
    ·have hw':(Kk l s).Kind>0:=by have:=K9t l s;omega
     simp only[go_sem,hw]
     apply K0 (Cna v (Kk l s) es.length hv)
     simp only[go_sem]
     try intros
     refine⟨by decide,by simp only[roomB];omega,?_⟩
     apply K0 (Cdk l s (K13 v (Kk l s) es.length) (by omega))
     simp only[go_sem]
     intros
     refine⟨by decide,by simp only[roomB];omega,(K14 l s (K13 v (Kk l s) es.length),es++[⟨(Kk l s).Kind,(Kk l s).Address,K13 v (Kk l s) es.length⟩],tr++[K14 l s (K13 v (Kk l s) es.length)]),⟨⟨by simp,by simp⟩,by simp[GEntry.enc],by simp[GState.enc],rfl,rfl,rfl,rfl,rfl,rfl,rfl⟩,hI.step1 hl hv2 hd hw,hI.less hl hv2 hd _⟩
def Mju:MC:=
(Zs [.box 3 0 (.s 1),.nilo 4 1 5,.nilo 5 2 4] [0,3] (Zs [.lit 11 1 5 40 [],mS 6 11] [0,3,6] (Zs [.call 12 [3,4,5] (.f Ndd) [],.alloc 7 6 [pz,.emp 1,.emp 1,.emp 1],sS 4 7 12] [0,3,6,7] (Zs [lT 13 4 7,.lit 14 2 4 80 [.s 13],mS 8 14] [0,3,6,7,8] (.seq (.block 0 (.loop ([0,3,6,7,8],[7,8,9]) (.seq (.seq (.reg [Za (mS 15 0),Za (.call 16 [] (.f N2l) [.s 15]),Za (mS 17 16),Zb 17 true (lT 18 4 3),Zb 17 true (.call 19 [] (.f N4k) [.s 18]),Za (.pick 20 (.s 17) (.s 19) cF),Za (mS 21 20),Zb 21 true (mS 22 0),Zb 21 true (lT 23 4 7),Zb 21 true (.call 24 [] (.f Nk2) [.s 22,.s 23]),Zb 21 true (.un 25 .not (.s 24)),Za (.pick 26 (.s 21) (.s 25) cF)] [0,3,6,7,8,26])
(cX 26 0))
(.block 1 (Zs [mS 27 0,lT 28 4 7,.call 29 [] (.f Nk3) [.s 27,.s 28],.alloc 9 7 [pz,pz,pz,pz],sS 4 9 29] [0,3,6,7,8,9] (Zs [.mv 10 (ci 0)] [0,3,6,7,8,9,10] (.seq (Zs [fS 30 9 0,lF 31 1 30,bC 32 .gtr 31 0] [0,3,6,7,8,9,10,32] (.cond (.s 32) (Zs [lT 33 4 3,lT 34 4 9,mS 35 6,nS 36 35,.call 37 [] (.f Nfj) [.s 33,.s 34,.s 36],mS 10 37] [0,3,6,7,8,9,10] (pr [mS 38 6,fS 39 9 0,lF 40 1 39,fS 41 9 1,lT 42 3 41,mS 43 10,.build 44 [pz,pz,pz,pz,pz] [(0,1,.s 40),(1,3,.s 42),(4,1,.s 43)],.lit 45 8 5 40 [.s 44],.app 46 1 5 40 (.s 38) (.s 45),mS 6 46] [0,3,6,7,8,10])) .skip))
(Zs [mS 47 0,lT 48 4 7,mS 49 10,.call 50 [3,4,5] (.f Nfl) [.s 47,.s 48,.s 49],sS 4 7 50] [0,3,6,7,8] (pr [mS 51 8,lT 52 4 7,.lit 53 9 4 80 [.s 52],.app 54 2 4 80 (.s 51) (.s 53),mS 8 54] [0,3,6,7,8])))))))))
(Zs [mS 55 6,mS 56 8,mS 4 55,mS 5 56] [4,5] .ret))))))
set_option maxHeartbeats 2000000 in
theorem Coy(l:List GOp)(v:GVisit)(hv:v.Site.length+(v.Site.map GVersion.size).sum≤1073741824):Ctr Tryz.prog Nk4 [aL 4 (l.map GOp.enc),aS v.enc] [rL 5 ((visit l v).1.map GEntry.enc),rL 4 ((visit l v).2.map GState.enc)]:=by
 refine cA Mju 10 57 [(.tmp 4,[true]),(.tmp 5,[true])] Tryz.func324 rfl rfl ?_;unfold Mju
 intro hb
 clear hb
 simp only[go_sem]
 apply K0 Cmo
 simp only[go_sem]
 intros
 refine⟨by decide,?_⟩
 refine Kj (ι:=GState×List GEntry×List GState) (fun t=>[(6,.val false [.ref 1 0 5 0 t.2.1.length]),(8,.val false [.ref 2 0 4 0 t.2.2.length])]) (fun t=>[(1,⟨0,.row true 5 (t.2.1.map GEntry.enc)⟩),(2,⟨0,.row true 4 (t.2.2.map GState.enc)⟩),(3,⟨0,.lent 1 (t.1.Regs.map encI)⟩),(4,⟨0,.lent 1 (t.1.Slots.map encI)⟩),(5,⟨0,.lent 1 (t.1.Nodes.map encI)⟩),(6,⟨0,.box [.pl (tI t.1.Pc),.ref 3 0 1 0 t.1.Regs.length,.ref 4 0 1 0 t.1.Slots.length,.ref 5 0 1 0 t.1.Nodes.length]⟩)])
  (fun t=>VisI l v t.1 t.2.1 t.2.2) (fun t=>l.length-t.1.Pc.toNat) (st0,[],[st0]) ?_
 simp only[go_sem]
 refine⟨?_,VisI.start l v,?_⟩
 ·simp only[go_sem]
  try exact⟨rfl,rfl⟩
  try trivial
 ·rintro ⟨s,es,tr⟩ hI
  simp only at hI
  have hs:=hI.ok
  have hsz:=K6u hs
  have h0:=(K6f hs).1.1
  have hlt:=hI.len
  simp only[go_sem]
  apply K0 (C3y l)
  by_cases hval:K1d l=true∧K2r v=true
  ·obtain⟨hl,hv2⟩:=hval
   simp only[go_sem,hl]
   apply K0 (C4f v)
   simp only[go_sem,hv2]
   apply K0 (Cow l s)
   by_cases hd:s.Pc≥l.length
   ·have hf:=hI.fin hl hv2 hd
    simp only[go_sem,hd]
    rw[←hf]
    try exact⟨rfl,rfl⟩
    try trivial
   ·simp only[go_sem,hd]
    apply K0 (Cox l s)
    simp only[go_sem]
    intros
    by_cases hw:(Kk l s).Kind=0
    ·simp only[go_sem,hw]
     apply K0 (Cdt l s 0 (by omega))
     simp only[go_sem]
     intros
     refine⟨by decide,by simp only[roomB];omega,(K14 l s 0,es,tr++[K14 l s 0]),⟨⟨rfl,by simp⟩,rfl,by simp[GState.enc],rfl,rfl,rfl,rfl,rfl,rfl,rfl⟩,hI.step0 hl hv2 hd hw,hI.less hl hv2 hd _⟩
    ·have hw':(Kk l s).Kind>0:=by have:=K9t l s;omega
     simp only[go_sem,hw']
     apply K0 (Cnr v (Kk l s) es.length hv)
     simp only[go_sem]
     try intros
     refine⟨by decide,by simp only[roomB];omega,?_⟩
     apply K0 (Cdt l s (K13 v (Kk l s) es.length) (by omega))
     simp only[go_sem]
     intros
     refine⟨by decide,by simp only[roomB];omega,(K14 l s (K13 v (Kk l s) es.length),es++[⟨(Kk l s).Kind,(Kk l s).Address,K13 v (Kk l s) es.length⟩],tr++[K14 l s (K13 v (Kk l s) es.length)]),⟨⟨by simp,by simp⟩,by simp[GEntry.enc],by simp[GState.enc],rfl,rfl,rfl,rfl,rfl,rfl,rfl⟩,hI.step1 hl hv2 hd hw,hI.less hl hv2 hd _⟩
  ·have hf:=hI.bad hval
   rw[←hf]
   simp only[go_sem]
   intro h
   have hvb:K2r v=false:=by
    cases hh:K2r v
    ·rfl
    ·exact(hval ⟨h,hh⟩).elim
   apply K0 (C4f v)
   simp only[go_sem,hvb,h]
end Go.Proofs.YtjneccbpkckdfaaGreatR
namespace Go.Proofs.YtjneccbpkckdfaaGreatR
open Go Go.RowKit Go.Proofs
open Nat (reduceEqDiff reduceLT reduceLeDiff reduceAdd reduceMul)
open List (reduceReplicate)
def K8s(l:List GState):GState:=(l[l.length-1]?).getD st0
theorem Kca{l:List GState}{x:GState}(h:l[l.length-1]? =some x):K8s l=x:=by rw[K8s,h];rfl
def Mmy:MC:=
(Zs [.alloc 2 0 [pz,.emp 1,.emp 1,.emp 1]] [0,2] (Zs [mS 3 0,mS 4 0,nS 5 4,bC 6 .sub 5 1,xS 7 4 3 6,lT 8 4 7,.call 9 [1,2,3] (.f N5i) [.s 8],sS 4 2 9] [2] .ret))
theorem Cp5(l:List GState)(h1:1≤l.length)(h2:∀x∈l,stOk x=true):Ctr Tryz.prog Nn5 [aL 4 (l.map GState.enc)] [rS (K8s l).enc]:=by
 refine cA Mmy 4 10 [(.cell 2 true 4,[false,true,true,true])] Tryz.func336 rfl rfl ?_;unfold Mmy
 intro hb
 simp only[bdA,bdL,bdT,Ke,roomB,and_true,List.length_map]at hb
 have hl:=hb.1
 clear hb
 obtain⟨x,hx⟩:=Kb (l:=l) (k:=l.length-1) (by omega)
 have hsz:=K6u (h2 x (Km hx))
 have hw1:IntKind.i64.wrap ((l.length:Int)-1)=((l.length-1:Nat):Int):=by rw[wI (by omega) (by omega)];omega
 have hlt:((l.length-1:Nat):Int)<(l.length:Int):=by omega
 rw[Kca hx]
 simp only[go_sem,hw1,K4 hx,hlt]
 refine⟨by omega,?_⟩
 apply K0 (Cdl x (by omega))
 simp only[go_sem]
def M9f:MC:=
(Zs [.box 3 0 (.s 1),.nilo 4 1 5,.alloc 5 2 [pz,.emp 1,.emp 1,.emp 1]] [0,3,5] (Zs [mS 9 0,lT 10 4 3,.call 11 [1,3] (.f Nii) [.s 9,.s 10],mS 8 11,.ext 12 (.s 8) 0,.ext 13 (.s 8) 1,mS 6 12,mS 7 13] [5,6,7] (Zs [mS 14 6,mS 15 7,.call 16 [4,5,6] (.f Nn5) [.s 15],mS 4 14,sS 4 5 16] [4,5] .ret)))
theorem C91(l:List GOp)(v:GVisit)(hv:v.Site.length+(v.Site.map GVersion.size).sum≤1073741824):Ctr Tryz.prog N46 [aL 4 (l.map GOp.enc),aS v.enc] [rL 5 ((visit l v).1.map GEntry.enc),rS (K8s (visit l v).2).enc]:=by
 refine cA M9f 7 17 [(.tmp 4,[true]),(.cell 5 true 4,[false,true,true,true])] Tryz.func259 rfl rfl ?_;unfold M9f
 intro hb
 clear hb
 simp only[go_sem]
 apply K0 (Cof l v hv)
 simp only[go_sem]
 intros
 apply K0 (Cp5 (visit l v).2 (K3k l v).2 (Kdw l v))
 simp only[go_sem]
def M9z:MC:=
(Zs [.box 3 0 (.s 1),.nilo 4 1 5,.alloc 5 2 [pz,.emp 1,.emp 1,.emp 1]] [0,3,5] (Zs [mS 9 0,lT 10 4 3,.call 11 [1,3] (.f Nk4) [.s 9,.s 10],mS 8 11,.ext 12 (.s 8) 0,.ext 13 (.s 8) 1,mS 6 12,mS 7 13] [5,6,7] (Zs [mS 14 6,mS 15 7,mS 16 7,nS 17 16,bC 18 .sub 17 1,xS 19 4 15 18,lT 20 4 19,.call 21 [4,5,6] (.f N8x) [.s 20],mS 4 14,sS 4 5 21] [4,5] .ret)))
theorem C99(l:List GOp)(v:GVisit)(hv:v.Site.length+(v.Site.map GVersion.size).sum≤1073741824):Ctr Tryz.prog N4c [aL 4 (l.map GOp.enc),aS v.enc] [rL 5 ((visit l v).1.map GEntry.enc),rS (K8s (visit l v).2).enc]:=by
 refine cA M9z 7 22 [(.tmp 4,[true]),(.cell 5 true 4,[false,true,true,true])] Tryz.func243 rfl rfl ?_;unfold M9z
 intro hb
 clear hb
 simp only[go_sem]
 apply K0 (Coy l v hv)
 simp only[go_sem]
 intros
 have h1:=(K3k l v).2
 have hrb:roomB=140737488355328:=rfl
 obtain⟨x,hx⟩:=Kb (l:=(visit l v).2) (k:=(visit l v).2.length-1) (by omega)
 have hsz:=K6u (Kdw l v x (Km hx))
 have hlt:(((visit l v).2.length-1:Nat):Int)<((visit l v).2.length:Int):=by omega
 rw[Kca hx]
 have hw1:IntKind.i64.wrap (((visit l v).2.length:Int)-1)=(((visit l v).2.length-1:Nat):Int):=by rw[wI (by omega) (by omega)];omega
 simp only[go_sem,hw1,K4 hx,hlt]
 refine⟨by omega,?_⟩
 apply K0 (Chl x (by omega))
 simp only[go_sem]
def K7o(v:GVisit)(k:Nat)(e:GEntry):List GCapture:=if e.Kind=1 then [⟨e.Address,IntKind.i64.wrap (v.Tick+k),(follow v.Site e.Address (IntKind.i64.wrap (v.Tick+k))).1⟩]else []
def K1v(v:GVisit)(es:List GEntry):Nat→List GCapture
 |0=>[]
 |k+1=>K1v v es k++(match es[k]? with|some e=>K7o v k e|none=>[])
def capsV(v:GVisit)(es:List GEntry):List GCapture:=K1v v es es.length
theorem Kaj{v:GVisit}{es:List GEntry}{k:Nat}{e:GEntry}(h:es[k]? =some e)(h1:e.Kind=1):K1v v es (k+1)=K1v v es k++[⟨e.Address,IntKind.i64.wrap (v.Tick+k),(follow v.Site e.Address (IntKind.i64.wrap (v.Tick+k))).1⟩]:=by
 rw[K1v,h];simp only[K7o,if_pos h1]
theorem Kbx{v:GVisit}{es:List GEntry}{k:Nat}{e:GEntry}(h:es[k]? =some e)(h1:¬e.Kind=1):K1v v es (k+1)=K1v v es k:=by
 rw[K1v,h];simp only[K7o,if_neg h1,List.append_nil]
theorem K5t{v:GVisit}{es:List GEntry}:∀k,(K1v v es k).length≤k
 |0=>Nat.le_refl _
 |k+1=>by
  have ih:=K5t (v:=v) (es:=es) k
  rw[K1v,List.length_append]
  have:(match es[k]? with|some e=>K7o v k e|none=>[]).length≤1:=by
   split
   ·unfold K7o;split<;>simp
   ·simp
  omega
def Mbb:MC:=
(Zs [.box 3 0 (.s 1),.nilo 4 1 9] [0,3] (Zs [mS 13 0,lT 14 4 3,.call 15 [2,3,4,5] (.f N46) [.s 13,.s 14],mS 12 15,.ext 16 (.s 12) 0,.ext 17 (.s 12) 1,.alloc 6 6 [pz,.emp 1,.emp 1,.emp 1],mS 5 16,sS 4 6 17] [3,5] (Zs [.nilo 7 1 9] [3,5,7] (.seq (Zs [mS 18 5,nS 19 18,.mv 20 (ci 0)] [3,7,18,19,20] (.block 0 (.loop ([3,7,18,19,20],[3,4,5,6,7,8,9,10,11]) (Zs [bS 21 .lss 20 19] [3,7,18,19,20,21] (.seq (cX 21 0)
(.seq (.block 1 (Zs [mS 22 20,xS 23 5 18 20,lT 24 5 23,.alloc 9 7 [pz,pz,pz,pz,pz],mS 8 22,sS 5 9 24] [3,7,8,9,18,19,20] (Zs [fS 25 9 0,lF 26 1 25,bC 27 .eql 26 1] [3,7,8,9,18,19,20,27] (.cond (.s 27) (Zs [fS 29 3 0,lF 30 1 29,fS 31 9 1,lT 32 3 31,fS 33 3 1,lF 34 1 33,mS 35 8,bS 36 .add 34 35,.call 37 [8,9] (.f N6q) [.s 30,.s 32,.s 36],mS 28 37,.ext 38 (.s 28) 0,.ext 39 (.s 28) 1,.alloc 10 10 [pz,.emp 1,pz,pz,pz],sS 5 10 38,mS 11 39] [3,7,8,9,10,18,19,20] (pr [mS 40 7,fS 41 9 1,lT 42 3 41,fS 43 3 1,lF 44 1 43,mS 45 8,bS 46 .add 44 45,lT 47 5 10,.build 48 [pz,pz,pz,pz,pz,.emp 1,pz,pz,pz] [(0,3,.s 42),(3,1,.s 46),(4,5,.s 47)],.lit 49 11 9 88 [.s 48],.app 50 1 9 88 (.s 40) (.s 49),mS 7 50] [3,7,18,19,20])) .skip))))
(pr [bC 51 .add 20 1,mS 20 51] [3,7,18,19,20])))))))
(Zs [mS 52 7,mS 4 52] [4] .ret)))))
theorem Clu(l:List GOp)(v:GVisit)(hv:v.Site.length+(v.Site.map GVersion.size).sum≤1073741824):Ctr Tryz.prog Nch [aL 4 (l.map GOp.enc),aS v.enc] [rL 9 ((capsV v (visit l v).1).map GCapture.enc)]:=by
 refine cA Mbb 12 53 [(.tmp 4,[true])] Tryz.func260 rfl rfl ?_;unfold Mbb
 intro hb
 clear hb
 simp only[go_sem]
 apply K0 (C91 l v hv)
 simp only[go_sem]
 intros
 have hn:=(K3k l v).1
 generalize (visit l v).1=es at*
 refine K5 es (fun k=>[(7,.val false [.ref 1 0 9 0 (K1v v es k).length]),(20,vI k)]) (fun k=>[(1,⟨0,.row true 9 ((K1v v es k).map GCapture.enc)⟩)]) (fun _=>True) (by simp only[roomB];omega) ?_
 simp only[go_sem]
 refine⟨?_,trivial,?_,?_⟩
 ·simp only[go_sem,K1v]
  try exact⟨rfl,rfl⟩
 ·intro k e hx _ h0 h1 hw
  have hl:=K5t (v:=v) (es:=es) k
  have hk:=Kg hx
  simp only[go_sem,K4 hx,h0,h1,hw]
  refine⟨fun hA=>?_,fun hA=>?_⟩
  ·apply K0 (Cfv v.Site e.Address _ hv)
   simp only[go_sem,Kaj hx hA,hw,List.length_append]
   intros
   exact⟨by decide,by simp only[roomB];omega,by rw[List.map_append];rfl⟩
  ·simp only[go_sem,Kbx hx hA]
 ·intro _
  simp only[go_sem]
  rfl
def Mc6:MC:=
(Zs [.box 3 0 (.s 1),.nilo 4 1 9] [0,3] (Zs [.lit 11 1 9 88 [],mS 5 11] [0,3,5] (Zs [mS 13 0,lT 14 4 3,.call 15 [2,3,4,5] (.f N4c) [.s 13,.s 14],mS 12 15,.ext 16 (.s 12) 0,.ext 17 (.s 12) 1,.alloc 7 6 [pz,.emp 1,.emp 1,.emp 1],mS 6 16,sS 4 7 17] [3,5,6] (.seq (Zs [.mv 8 (ci 0)] [3,5,6,8] (.block 0 (.loop ([3,5,6,8],[3,4,5,6,7,8,9,10]) (.seq (Zs [mS 18 8,mS 19 6,nS 20 19,bS 21 .lss 18 20] [3,5,6,8,21] (cX 21 0))
(.seq (.block 1 (Zs [mS 24 6,mS 25 8,xS 26 5 24 25,fS 27 26 0,lF 28 1 27,bC 29 .eql 28 1] [3,5,6,8,29] (.cond (.s 29) (.seq (.dreg [Zf [9,33,34,35,36,37,38,39,40,41] [9] (fS 31 3 0),Zg [9,33,34,35,36,37,38,39,40,41] [9] [0] (lF 32 1 31),Zf [9,31,32,34,38,39,40,41] [9] (mS 33 6),Zf [9,31,32,33,38,39,40,41] [9] (mS 34 8),Zg [9,31,32,38,39,40,41] [9] [2,3] (xS 35 5 33 34),Zg [9,31,32,38,39,40,41] [9] [2,3,4] (fS 36 35 1),Zg [9,31,32,38,39,40,41] [9] [2,3,4,5] (lT 37 3 36),Zf [9,31,32,33,34,35,36,37,40] [9] (fS 38 3 1),Zg [9,31,32,33,34,35,36,37,40] [9] [7] (lF 39 1 38),Zf [9,31,32,33,34,35,36,37,38,39] [9] (mS 40 8),Zg [9,31,32,33,34,35,36,37] [9] [7,8,9] (bS 41 .add 39 40),{o:= .call 42 [7,8] (.f N6x) [.s 32,.s 37,.s 41],hs:=[9],ho:=[9],ws:=[7,8],bf:=(.range 11)},Zg [9] [9] (.range 12) (mS 30 42),Zg [9,44] [9] (.range 13) (.ext 43 (.s 30) 0),Zg [9,43] [7,9] (.range 13) (.ext 44 (.s 30) 1),{o:= .alloc 9 9 [pz,.emp 1,pz,pz,pz],hs:=[30,31,32,33,34,35,36,37,38,39,40,41,42,43,44],ho:=[7,8],ws:=[9]},{o:=sS 5 9 43,hs:=[44],ws:=[7,9],bf:=[0,1,2,3,4,5,6,7,8,9,10,11,12,13,15]},Ze (.range 17) (mS 10 44)] [3,5,6,8,9])
(.dreg [Zf [46,47,48,49,50,51,52,53,54,55,56,57] [7,10] (mS 45 5),Zc [45,47,51,52,53,54,55] (mS 46 6),Zc [45,46,51,52,53,54,55] (mS 47 8),Zd [45,51,52,53,54,55] [1,2] (xS 48 5 46 47),Zd [45,51,52,53,54,55] [1,2,3] (fS 49 48 1),Zd [45,51,52,53,54,55] [1,2,3,4] (lT 50 3 49),Zc [45,46,47,48,49,50,53,55] (fS 51 3 1),Zd [45,46,47,48,49,50,53,55] [6] (lF 52 1 51),Zc [45,46,47,48,49,50,51,52,55] (mS 53 8),Zd [45,46,47,48,49,50,55] [6,7,8] (bS 54 .add 52 53),Zc [45,46,47,48,49,50,51,52,53,54] (lT 55 5 9),Zd [45] [1,2,3,4,5,6,7,8,9,10] (.build 56 [pz,pz,pz,pz,pz,.emp 1,pz,pz,pz] [(0,3,.s 50),(3,1,.s 54),(4,5,.s 55)]),{o:= .lit 57 10 9 88 [.s 56],hs:=[45],ws:=[7,10],bf:=[1,2,3,4,5,6,7,8,9,10,11]},{o:= .app 58 1 9 88 (.s 45) (.s 57),ws:=[1,10],bf:=(.range 13)},Ze (.range 14) (mS 5 58)] [3,5,6,8])) .skip)))
(pr [mS 22 8,bC 23 .add 22 1,mS 8 23] [3,5,6,8]))))))
(Zs [mS 59 5,mS 4 59] [4] .ret)))))
theorem Cmk(l:List GOp)(v:GVisit)(hv:v.Site.length+(v.Site.map GVersion.size).sum≤1073741824):Ctr Tryz.prog Nd9 [aL 4 (l.map GOp.enc),aS v.enc] [rL 9 ((capsV v (visit l v).1).map GCapture.enc)]:=by
 refine cA Mc6 11 60 [(.tmp 4,[true])] Tryz.func245 rfl rfl ?_;unfold Mc6
 intro hb
 clear hb
 simp only[go_sem]
 apply K0 (C99 l v hv)
 simp only[go_sem]
 intros
 have hn:=(K3k l v).1
 generalize (visit l v).1=es at*
 refine K5 es (fun k=>[(5,.val false [.ref 1 0 9 0 (K1v v es k).length]),(8,vI k)]) (fun k=>[(1,⟨0,.row true 9 ((K1v v es k).map GCapture.enc)⟩)]) (fun _=>True) (by simp only[roomB];omega) ?_
 simp only[go_sem]
 refine⟨?_,trivial,?_,?_⟩
 ·simp only[go_sem,K1v]
  try exact⟨rfl,rfl⟩
 ·intro k e hx _ h0 h1 hw
  have hl:=K5t (v:=v) (es:=es) k
  have hk:=Kg hx
  simp only[go_sem,K4 hx,h0,h1,hw]
  refine⟨fun hA=>?_,fun hA=>?_⟩
  ·apply K0 (Cfz v.Site e.Address _ hv)
   simp only[go_sem,K4 hx,h0,h1,Kaj hx hA,hw,List.length_append]
   intros
   exact⟨by decide,by simp only[roomB];omega,by rw[List.map_append];rfl⟩
  ·simp only[go_sem,Kbx hx hA]
 ·intro _
  simp only[go_sem]
  rfl
theorem K8n{l:List GVersion}{tick:Int}:∀ {n:Nat} {r:GResource} {q:List GAddress},r.Body.length≤(l.map GVersion.size).sum→(followF l tick n r q).1.Body.length≤(l.map GVersion.size).sum
 |0,r,q,h=>h
 |n+1,r,q,h=>by
  rw[followF]
  split
  ·exact K8n K9f
  ·exact h
theorem Ke3{l:List GVersion}{tick:Int}{a:GAddress}:(follow l a tick).1.Body.length≤(l.map GVersion.size).sum:=K8n K9f
theorem K9h{v:GVisit}{es:List GEntry}:∀k,((K1v v es k).map GCapture.size).sum≤k*(v.Site.map GVersion.size).sum
 |0=>by simp[K1v]
 |k+1=>by
  have ih:=K9h (v:=v) (es:=es) k
  rw[K1v,List.map_append,List.sum_append,Nat.succ_mul]
  have:((match es[k]? with|some e=>K7o v k e|none=>[]).map GCapture.size).sum≤(v.Site.map GVersion.size).sum:=by
   split
   ·unfold K7o
    split
    ·simp only[List.map_cons,List.map_nil,List.sum_cons,List.sum_nil,GCapture.size,GResource.size]
     have:=Ke3 (l:=v.Site) (tick:=IntKind.i64.wrap (v.Tick+k)) (a:=(by assumption:GEntry).Address)
     omega
    ·simp
   ·simp
  omega
def madeC(l:List GOp)(v:GVisit):GContainer:=⟨l,(visit l v).1,capsV v (visit l v).1,K82 l (visit l v).1 (capsV v (visit l v).1)⟩
def emptyC:GContainer:=⟨[],[],[],0⟩
def K1a(l:List GOp)(v:GVisit):Bool:=K1d l&&K2r v
def K17(l:List GOp)(v:GVisit):GContainer:=if K1a l v then madeC l v else emptyC
theorem K7p{v:GVisit}{es:List GEntry}(hn:es.length≤20)(hv:(v.Site.map GVersion.size).sum≤16777216):(capsV v es).length+((capsV v es).map GCapture.size).sum≤335544340:=by
 have h1:=K5t (v:=v) (es:=es) es.length
 have h2:=K9h (v:=v) (es:=es) es.length
 have h3:es.length*(v.Site.map GVersion.size).sum≤20*16777216:=Nat.mul_le_mul hn hv
 unfold capsV
 omega
def Y39(v0:Nat)(v1:Nat)(v2:Nat)(v3:Nat)(v4:Nat):MC:=
(Zs [.box 3 0 (.s 1),.alloc 4 1 [.emp 4,.emp 5,.emp 9,pz],.mv 5 cF] [0,3,4] (.seq (.seq (.reg [Za (mS 8 0),Za (.call 9 [] (.f v0) [.s 8]),Za (.un 10 .not (.s 9)),Za (mS 11 10),Zb 11 false (lT 12 4 3),Zb 11 false (.call 13 [] (.f v1) [.s 12]),Zb 11 false (.un 14 .not (.s 13)),Za (.pick 15 (.s 11) cT (.s 14))] [0,3,4,15])
(.cond (.s 15) (Zs [.build 16 [.emp 4,.emp 5,.emp 9,pz] [],sS 4 4 16,.mv 5 cF] [4,5] .ret) .skip))
(Zs [mS 18 0,lT 19 4 3,.call 20 [2,3,4,5] (.f v2) [.s 18,.s 19],mS 17 20,.ext 21 (.s 17) 0,.ext 22 (.s 17) 1,.alloc 7 6 [pz,.emp 1,.emp 1,.emp 1],mS 6 21,sS 4 7 22] [0,3,4,6] (Zs [mS 23 0,mS 24 6,mS 25 0,lT 26 4 3,.call 27 [7] (.f v3) [.s 25,.s 26],.call 28 [8,9,10] (.f v4) [.s 23,.s 24,.s 27],sS 4 4 28,.mv 5 cT] [4,5] .ret))))
attribute [go_sem] Y39
def M7c:MC:=Y39 N2i N2z N46 Nch N3c
theorem Ck8(l:List GOp)(v:GVisit)(hl:l.length≤1073741824)(hv:v.Site.length+(v.Site.map GVersion.size).sum≤16777216):Ctr Tryz.prog N86 [aL 4 (l.map GOp.enc),aS v.enc] [rS (K17 l v).enc,rB (K1a l v)]:=by
 refine cA M7c 11 29 [(.cell 4 true 4,[true,true,true,false]),(.tmp 5,[false])] Tryz.func161 rfl rfl ?_;unfold M7c
 intro hb
 clear hb
 simp only[go_sem]
 apply K0 (C3v l)
 simp only[go_sem]
 repeat' first
  |(refine And.intro ?_ ?_<;>intro h)
  |(apply K0 (C4d v);simp only[go_sem])
 ·have hc:K1a l v=false:=by unfold K1a;simp_all
  rw[K17,hc]
  exact⟨⟨rfl,rfl,rfl,rfl⟩,rfl⟩
 ·have hc:K1a l v=false:=by unfold K1a;simp_all
  rw[K17,hc]
  exact⟨⟨rfl,rfl,rfl,rfl⟩,rfl⟩
 ·have hc:K1a l v=true:=by unfold K1a;simp_all
  have hn:=(K3k l v).1
  have hz:=K7p hn (v:=v) (by omega)
  apply K0 (C91 l v (by omega))
  simp only[go_sem]
  intros
  apply K0 (Clu l v (by omega))
  simp only[go_sem]
  intros
  apply K0 (C67 l (visit l v).1 (capsV v (visit l v).1) hl (by omega) (by omega))
  simp only[go_sem]
  intros
  rw[K17,hc,if_pos rfl]
  exact⟨⟨rfl,rfl,rfl,rfl⟩,rfl⟩
def M80:MC:=Y39 N2l N4k N4c Nd9 N1w
theorem Ckp(l:List GOp)(v:GVisit)(hl:l.length≤1073741824)(hv:v.Site.length+(v.Site.map GVersion.size).sum≤16777216):Ctr Tryz.prog N8n [aL 4 (l.map GOp.enc),aS v.enc] [rS (K17 l v).enc,rB (K1a l v)]:=by
 refine cA M80 11 29 [(.cell 4 true 4,[true,true,true,false]),(.tmp 5,[false])] Tryz.func138 rfl rfl ?_;unfold M80
 intro hb
 clear hb
 simp only[go_sem]
 apply K0 (C3y l)
 simp only[go_sem]
 repeat' first
  |(refine And.intro ?_ ?_<;>intro h)
  |(apply K0 (C4f v);simp only[go_sem])
 ·have hc:K1a l v=false:=by unfold K1a;simp_all
  rw[K17,hc]
  exact⟨⟨rfl,rfl,rfl,rfl⟩,rfl⟩
 ·have hc:K1a l v=false:=by unfold K1a;simp_all
  rw[K17,hc]
  exact⟨⟨rfl,rfl,rfl,rfl⟩,rfl⟩
 ·have hc:K1a l v=true:=by unfold K1a;simp_all
  have hn:=(K3k l v).1
  have hz:=K7p hn (v:=v) (by omega)
  apply K0 (C99 l v (by omega))
  simp only[go_sem]
  intros
  apply K0 (Cmk l v (by omega))
  simp only[go_sem]
  intros
  apply K0 (C39 l (visit l v).1 (capsV v (visit l v).1) hl (by omega) (by omega))
  simp only[go_sem]
  intros
  rw[K17,hc,if_pos rfl]
  exact⟨⟨rfl,rfl,rfl,rfl⟩,rfl⟩
end Go.Proofs.YtjneccbpkckdfaaGreatR
namespace Go.Proofs.YtjneccbpkckdfaaGreatR
open Go Go.RowKit Go.Proofs
open Nat (reduceEqDiff reduceLT reduceLeDiff reduceAdd reduceMul)
open List (reduceReplicate)
def Kx(a:GArchive)(seed:Int)(ins:List Int):GVisit:=⟨a.Site,a.Now,seed,ins⟩
def Kb3(a:GArchive)(root:Int)(k:Nat)(key:Int):GStatement:=K43 key ⟨k,root,a.Now,0⟩
def K1s(a:GArchive)(root:Int):Nat→List GStatement
 |0=>[]
 |k+1=>K1s a root k++(match a.Keys[k]? with|some key=>[Kb3 a root k key]|none=>[])
theorem Kb4{a:GArchive}{root:Int}{k:Nat}{key:Int}(h:a.Keys[k]? =some key):K1s a root (k+1)=K1s a root k++[Kb3 a root k key]:=by
 rw[K1s,h]
theorem K5i{a:GArchive}{root:Int}:∀k,(K1s a root k).length≤k
 |0=>Nat.le_refl _
 |k+1=>by
  have ih:=K5i (a:=a) (root:=root) k
  rw[K1s,List.length_append]
  split<;>simp<;>omega
def K1b(a:GArchive)(seed:Int)(ins:List Int):Bool:=K1a a.Script (Kx a seed ins)&&(decide (a.Statements.length+a.Keys.length≤40)&&K2f a.Disk (madeC a.Script (Kx a seed ins)))
def K24(a:GArchive)(seed:Int)(ins:List Int):GArchive:=
 if K1b a seed ins then {a with Disk:=K2x a.Disk (madeC a.Script (Kx a seed ins)),Statements:=a.Statements++K1s a (madeC a.Script (Kx a seed ins)).Root a.Keys.length}else a
theorem emptyC_no:K1i emptyC=false:=by decide
theorem Kco(d:GDisk):K2f d emptyC=false:=by simp[K2f,emptyC_no]
theorem K75{l:List GOp}{v:GVisit}(hl:l.length≤16777216)(hv:(v.Site.map GVersion.size).sum≤16777216):(K17 l v).size≤500000000:=by
 unfold K17
 split
 ·have hn:=(K3k l v).1
  have hz:=K7p hn (v:=v) hv
  simp only[GContainer.size,madeC]
  omega
 ·decide
theorem visit_size{a:GArchive}(seed:Int)(ins:List Int)(hs:a.size≤16777216):(K24 a seed ins).size≤600000000:=by
 unfold K24
 split
 ·have hsA:=hs
  simp only[GArchive.size]at hsA
  have hv:((Kx a seed ins).Site.map GVersion.size).sum≤16777216:=by simp only[Kx];omega
  have hn:=(K3k a.Script (Kx a seed ins)).1
  have hz:=K7p hn (v:=Kx a seed ins) hv
  have hf:=Kd4 a.Disk (madeC a.Script (Kx a seed ins))
  have hm:(madeC a.Script (Kx a seed ins)).size≤500000000:=by simp only[GContainer.size,madeC];omega
  have hl:=K5i (a:=a) (root:=(madeC a.Script (Kx a seed ins)).Root) a.Keys.length
  simp only[GArchive.size,List.length_append]at*
  omega
 ·omega
def Me0:MC:=
(Zs [.box 3 0 (.s 0),.alloc 6 1 [.emp 9,.emp 4,.emp 4,.emp 6,.emp 4,.emp 5,.emp 4,.emp 1,.emp 4,pz],.mv 7 cF] [1,2,3,6] (Zs [lT 16 10 3,.call 17 [2,3,4,5,6,7,8,9,10] (.f N5) [.s 16],.alloc 8 11 [.emp 9,.emp 4,.emp 4,.emp 6,.emp 4,.emp 5,.emp 4,.emp 1,.emp 4,pz],sS 10 8 17] [1,2,3,6,8] (Zs [fS 18 3 0,lF 19 1 18,fS 20 3 9,lF 21 1 20,mS 22 1,mS 23 2,.build 24 [.emp 9,pz,pz,.emp 1] [(0,1,.s 19),(1,1,.s 21),(2,1,.s 22),(3,1,.s 23)],.alloc 9 12 [.emp 9,pz,pz,.emp 1],sS 4 9 24] [3,6,8,9] (.seq (Zs [lT 25 4 9,.call 26 [] (.f N2z) [.s 25],.un 27 .not (.s 26)] [3,6,8,9,27] (.cond (.s 27) (Zs [lT 28 10 8,sS 10 6 28,.mv 7 cF] [6,7] .ret) .skip))
(Zs [fS 30 3 1,lF 31 1 30,lT 32 4 9,.call 33 [13,14,15] (.f N86) [.s 31,.s 32],mS 29 33,.ext 34 (.s 29) 0,.ext 35 (.s 29) 1,.alloc 10 16 [.emp 4,.emp 5,.emp 9,pz],sS 4 10 34,mS 11 35] [3,6,8,10] (Zs [fS 37 3 2,lT 38 3 37,lT 39 4 10,.call 40 [17,18,19] (.f Ncq) [.s 38,.s 39],mS 36 40,.ext 41 (.s 36) 0,.ext 42 (.s 36) 1,.alloc 12 20 [.emp 4,.emp 6,.emp 4],sS 3 12 41,mS 13 42] [3,6,8,10,12,13] (.seq (.seq (.reg [Za (mS 43 13),Za (.un 44 .not (.s 43)),Za (mS 45 44),Zb 45 false (fS 46 3 8),Zb 45 false (lF 47 1 46),Zb 45 false (nS 48 47),Zb 45 false (fS 49 3 7),Zb 45 false (lF 50 1 49),Zb 45 false (nS 51 50),Zb 45 false (bS 52 .add 48 51),Zb 45 false (bC 53 .gtr 52 40),Za (.pick 54 (.s 45) cT (.s 53))] [3,6,8,10,12,54])
(.cond (.s 54) (Zs [lT 55 10 8,sS 10 6 55,.mv 7 cF] [6,7] .ret) .skip))
(Zs [lT 56 3 12,fS 57 8 2,sS 3 57 56] [3,6,8,10] (.seq (Zs [fS 58 3 7,lF 59 1 58,nS 60 59,.mv 61 (ci 0)] [3,6,8,10,59,60,61] (.block 0 (.loop ([3,6,8,10,59,60,61],[12,20,21]) (Zs [bS 62 .lss 61 60] [3,6,8,10,59,60,61,62] (.seq (cX 62 0)
(.seq (.block 1 (Zs [mS 63 61,xS 64 1 59 61,lF 65 1 64,mS 14 63,mS 15 65] [3,6,8,10,14,15,59,60,61] (.dreg [Zf [68,69,70,71,72,73,74,75,76] [21] (fS 66 8 8),Zg [68,69,70,71,72,73,74,75,76] [21] [0] (lF 67 1 66),Zc [66,67,69,70,71,72,73,74] (mS 68 15),Zc [66,67,68,70,71,72,73] (mS 69 14),Zc [66,67,68,69,72,73] (fS 70 10 3),Zd [66,67,68,69,72,73] [4] (lF 71 1 70),Zc [66,67,68,69,70,71] (fS 72 3 9),Zd [66,67,68,69,70,71] [6] (lF 73 1 72),Zd [66,67,68] [3,4,5,6,7] (.build 74 [pz,pz,pz,pz] [(0,1,.s 69),(1,1,.s 71),(2,1,.s 73)]),Zd [66,67] [2,3,4,5,6,7,8] (.call 75 [] (.f N6s) [.s 68,.s 74]),{o:= .lit 76 21 4 32 [.s 75],hs:=[66,67],ws:=[21],bf:=[2,3,4,5,6,7,8,9]},{o:= .app 77 10 4 32 (.s 67) (.s 76),ws:=[10],bf:=(.range 11)},Ze (.range 12) (fS 78 8 8),{o:=sS 1 78 77,ws:=[10,11],bf:=(.range 13)}] [3,6,8,10,59,60,61])))
(pr [bC 79 .add 61 1,mS 61 79] [3,6,8,10,59,60,61])))))))
(Zs [lT 80 10 8,sS 10 6 80,.mv 7 cT] [6,7] .ret))))))))))
set_option maxHeartbeats 2000000 in
theorem Cnc(a:GArchive)(seed:Int)(ins:List Int)(hs:a.size≤16777216):Ctr Tryz.prog Nf1 [aS a.enc,aI seed,aL 1 (ins.map encI)] [rS (K24 a seed ins).enc,rB (K1b a seed ins)]:=by
 refine cA Me0 22 81 [(.cell 6 true 10,[true,true,true,true,true,true,true,true,true,false]),(.tmp 7,[false])] Tryz.func71 rfl rfl ?_;unfold Me0
 intro hb
 clear hb
 have hsA:=hs
 simp only[GArchive.size]at hsA
 have hl:a.Script.length≤16777216:=by omega
 have hv:(Kx a seed ins).Site.length+((Kx a seed ins).Site.map GVersion.size).sum≤16777216:=by simp only[Kx];omega
 have hd:a.Disk.size≤16777216:=by omega
 have hx:=K75 (l:=a.Script) (v:=Kx a seed ins) hl (by omega)
 have hw40:IntKind.i64.wrap ((a.Statements.length:Int)+a.Keys.length)=((a.Statements.length+a.Keys.length:Nat):Int):=by rw[wI (by omega) (by omega)];omega
 simp only[go_sem]
 apply K0 (C9 a (by omega))
 simp only[go_sem]
 intros
 apply K0 (C4d (Kx a seed ins))
 simp only[go_sem]
 refine⟨fun h1=>?_,fun h1=>?_⟩
 ·have hF:K1b a seed ins=false:=by simp[K1b,K1a,h1]
  rw[K24,hF]
  exact⟨⟨rfl,rfl,rfl,rfl,rfl,rfl,rfl,rfl,rfl,rfl⟩,rfl⟩
 apply K0 (Ck8 a.Script (Kx a seed ins) (by omega) hv)
 simp only[go_sem]
 intros
 apply K0 (Cm3 a.Disk (K17 a.Script (Kx a seed ins)) (by omega) (by omega))
 simp only[go_sem,hw40]
 intros
 refine⟨fun h2=>?_,fun h2=>⟨fun h3=>?_,fun h3=>?_⟩⟩
 ·have hF:K1b a seed ins=false:=by
   cases hc:K1a a.Script (Kx a seed ins)
   ·simp[K1b,hc]
   ·rw[K17,hc,if_pos rfl]at h2
    simp[K1b,h2]
  rw[K24,hF]
  exact⟨⟨rfl,rfl,rfl,rfl,rfl,rfl,rfl,rfl,rfl,rfl⟩,rfl⟩
 ·have hF:K1b a seed ins=false:=by
   have:¬a.Statements.length+a.Keys.length≤40:=by omega
   simp[K1b,this]
  rw[K24,hF]
  exact⟨⟨rfl,rfl,rfl,rfl,rfl,rfl,rfl,rfl,rfl,rfl⟩,rfl⟩
 have hc:K1a a.Script (Kx a seed ins)=true:=by
  cases hc:K1a a.Script (Kx a seed ins)
  ·rw[K17,hc,if_neg Bool.false_ne_true,Kco]at h2;cases h2
  ·rfl
 rw[show K17 a.Script (Kx a seed ins)=madeC a.Script (Kx a seed ins)by rw[K17,hc,if_pos rfl]]at h2 hx ⊢
 have hT:K1b a seed ins=true:=by
  have:a.Statements.length+a.Keys.length≤40:=by omega
  simp[K1b,hc,h2,this]
 have eT:K24 a seed ins={a with Disk:=K2x a.Disk (madeC a.Script (Kx a seed ins)),Statements:=a.Statements++K1s a (madeC a.Script (Kx a seed ins)).Root a.Keys.length}:=by rw[K24,if_pos hT]
 rw[eT,hT]
 generalize K2x a.Disk (madeC a.Script (Kx a seed ins))=d
 generalize madeC a.Script (Kx a seed ins)=x at hx ⊢
 have h40:a.Statements.length+a.Keys.length≤40:=by omega
 refine K5 a.Keys (fun k=>[(61,vI k)]) (fun k=>[(10,⟨0,.row true 4 ((a.Statements++K1s a x.Root k).map GStatement.enc)⟩),(11,⟨0,.box [.ref 2 0 9 0 a.Site.length,.ref 3 0 4 0 a.Script.length,.ref 17 0 4 0 d.Containers.length,.ref 18 0 6 0 d.Index.length,.ref 19 0 4 0 d.Wanted.length,.ref 7 0 5 0 a.Exclusions.length,.ref 8 0 4 0 a.Libraries.length,.ref 9 0 1 0 a.Keys.length,.ref 10 0 4 0 (a.Statements++K1s a x.Root k).length,.pl (tI a.Now)]⟩)]) (fun _=>True) (by simp only[roomB];omega) ?_
 simp only[go_sem]
 refine⟨?_,trivial,?_,?_⟩
 ·simp only[go_sem,K1s,List.append_nil]
  try exact⟨rfl,rfl⟩
 ·intro k key hk _ h0 h1 hw
  have hsl:=K5i (a:=a) (root:=x.Root) k
  have hkl:=Kg hk
  simp only[go_sem,K4 hk,h0,h1]
  apply K0 (Ciu key ⟨k,x.Root,a.Now,0⟩)
  simp only[go_sem,hw]
  try intros
  rw[Kb4 hk]
  refine⟨by decide,by simp only[roomB,List.length_append];omega,fun _=>⟨?_,?_⟩⟩
  ·rw[←List.append_assoc];exact(List.map_append (f:=GStatement.enc) (l₁:=a.Statements++K1s a x.Root k) (l₂:=[Kb3 a x.Root k key])).symm
  ·simp only[List.length_append,List.length_cons,List.length_nil];omega
 ·intro _
  simp only[go_sem]
def Meq:MC:=
(Zs [.box 3 0 (.s 0),.alloc 6 1 [.emp 9,.emp 4,.emp 4,.emp 6,.emp 4,.emp 5,.emp 4,.emp 1,.emp 4,pz],.mv 7 cF] [1,2,3,6] (Zs [lT 15 10 3,.call 16 [2,3,4,5,6,7,8,9,10] (.f Ng) [.s 15],.alloc 8 11 [.emp 9,.emp 4,.emp 4,.emp 6,.emp 4,.emp 5,.emp 4,.emp 1,.emp 4,pz],sS 10 8 16] [1,2,3,6,8] (Zs [fS 17 3 0,lF 18 1 17,fS 19 3 9,lF 20 1 19,mS 21 1,mS 22 2,.build 23 [.emp 9,pz,pz,.emp 1] [(0,1,.s 18),(1,1,.s 20),(2,1,.s 21),(3,1,.s 22)],.alloc 9 12 [.emp 9,pz,pz,.emp 1],sS 4 9 23] [3,6,8,9] (Zs [fS 25 3 1,lF 26 1 25,lT 27 4 9,.call 28 [13,14,15] (.f N8n) [.s 26,.s 27],mS 24 28,.ext 29 (.s 24) 0,.ext 30 (.s 24) 1,.alloc 10 16 [.emp 4,.emp 5,.emp 9,pz],sS 4 10 29,mS 11 30] [3,6,8,10,11] (.seq (.seq (.reg [Za (mS 31 11),Za (.un 32 .not (.s 31)),Za (mS 33 32),Zb 33 false (fS 34 3 8),Zb 33 false (lF 35 1 34),Zb 33 false (nS 36 35),Zb 33 false (fS 37 3 7),Zb 33 false (lF 38 1 37),Zb 33 false (nS 39 38),Zb 33 false (bS 40 .add 36 39),Zb 33 false (bC 41 .gtr 40 40),Za (.pick 42 (.s 33) cT (.s 41))] [3,6,8,10,42])
(.cond (.s 42) (Zs [lT 43 10 8,sS 10 6 43,.mv 7 cF] [6,7] .ret) .skip))
(Zs [fS 45 3 2,lT 46 3 45,lT 47 4 10,.call 48 [17,18,19] (.f Ndg) [.s 46,.s 47],mS 44 48,.ext 49 (.s 44) 0,.ext 50 (.s 44) 1,.alloc 12 20 [.emp 4,.emp 6,.emp 4],sS 3 12 49,mS 13 50] [3,6,8,10,12,13] (.seq (Zs [mS 51 13,.un 52 .not (.s 51)] [3,6,8,10,12,52] (.cond (.s 52) (Zs [lT 53 10 8,sS 10 6 53,.mv 7 cF] [6,7] .ret) .skip))
(Zs [lT 54 3 12,fS 55 8 2,sS 3 55 54] [3,6,8,10] (.seq (Zs [.mv 14 (ci 0)] [3,6,8,10,14] (.block 0 (.loop ([3,6,8,10,14],[12,20,21]) (.seq (Zs [mS 56 14,fS 57 3 7,lF 58 1 57,nS 59 58,bS 60 .lss 56 59] [3,6,8,10,14,60] (cX 60 0))
(.seq (.block 1 (.dreg [Zf [65,66,67,68,69,70,71,72,73,74,75,76,77] [21] (fS 63 8 8),Zg [65,66,67,68,69,70,71,72,73,74,75,76,77] [21] [0] (lF 64 1 63),Zc [63,64,67,70,71,72,73,74,75] (fS 65 3 7),Zd [63,64,67,70,71,72,73,74,75] [2] (lF 66 1 65),Zc [63,64,65,66,70,71,72,73,74,75] (mS 67 14),Zd [63,64,70,71,72,73,74,75] [2,3,4] (xS 68 1 66 67),Zd [63,64,70,71,72,73,74,75] [2,3,4,5] (lF 69 1 68),Zc [63,64,65,66,67,68,69,71,72,73,74] (mS 70 14),Zc [63,64,65,66,67,68,69,70,73,74] (fS 71 10 3),Zd [63,64,65,66,67,68,69,70,73,74] [8] (lF 72 1 71),Zc [63,64,65,66,67,68,69,70,71,72] (fS 73 3 9),Zd [63,64,65,66,67,68,69,70,71,72] [10] (lF 74 1 73),Zd [63,64,65,66,67,68,69] [7,8,9,10,11] (.build 75 [pz,pz,pz,pz] [(0,1,.s 70),(1,1,.s 72),(2,1,.s 74)]),Zd [63,64] [2,3,4,5,6,7,8,9,10,11,12] (.call 76 [] (.f N70) [.s 69,.s 75]),{o:= .lit 77 21 4 32 [.s 76],hs:=[63,64],ws:=[21],bf:=[2,3,4,5,6,7,8,9,10,11,12,13]},{o:= .app 78 10 4 32 (.s 64) (.s 77),ws:=[10],bf:=(.range 15)},Ze (.range 16) (fS 79 8 8),{o:=sS 1 79 78,ws:=[10,11],bf:=(.range 17)}] [3,6,8,10,14]))
(pr [mS 61 14,bC 62 .add 61 1,mS 14 62] [3,6,8,10,14]))))))
(Zs [lT 80 10 8,sS 10 6 80,.mv 7 cT] [6,7] .ret))))))))))
set_option maxHeartbeats 2000000 in
theorem Cnt(a:GArchive)(seed:Int)(ins:List Int)(hs:a.size≤16777216):Ctr Tryz.prog Nfm [aS a.enc,aI seed,aL 1 (ins.map encI)] [rS (K24 a seed ins).enc,rB (K1b a seed ins)]:=by
 refine cA Meq 22 81 [(.cell 6 true 10,[true,true,true,true,true,true,true,true,true,false]),(.tmp 7,[false])] Tryz.func54 rfl rfl ?_;unfold Meq
 intro hb
 clear hb
 have hsA:=hs
 simp only[GArchive.size]at hsA
 have hl:a.Script.length≤16777216:=by omega
 have hv:(Kx a seed ins).Site.length+((Kx a seed ins).Site.map GVersion.size).sum≤16777216:=by simp only[Kx];omega
 have hd:a.Disk.size≤16777216:=by omega
 have hx:=K75 (l:=a.Script) (v:=Kx a seed ins) hl (by omega)
 have hw40:IntKind.i64.wrap ((a.Statements.length:Int)+a.Keys.length)=((a.Statements.length+a.Keys.length:Nat):Int):=by rw[wI (by omega) (by omega)];omega
 simp only[go_sem]
 apply K0 (Cs a (by omega))
 simp only[go_sem]
 intros
 apply K0 (Ckp a.Script (Kx a seed ins) (by omega) hv)
 simp only[go_sem,hw40]
 intros
 refine⟨fun h1=>?_,fun h1=>⟨fun h2=>?_,fun h2=>?_⟩⟩
 ·have hF:K1b a seed ins=false:=by simp[K1b,h1]
  rw[K24,hF]
  exact⟨⟨rfl,rfl,rfl,rfl,rfl,rfl,rfl,rfl,rfl,rfl⟩,rfl⟩
 ·have hF:K1b a seed ins=false:=by
   have:¬a.Statements.length+a.Keys.length≤40:=by omega
   simp[K1b,this]
  rw[K24,hF]
  exact⟨⟨rfl,rfl,rfl,rfl,rfl,rfl,rfl,rfl,rfl,rfl⟩,rfl⟩
 apply K0 (Cmr a.Disk (K17 a.Script (Kx a seed ins)) (by omega) (by omega))
 simp only[go_sem]
 intros
 rw[show K17 a.Script (Kx a seed ins)=madeC a.Script (Kx a seed ins)by rw[K17,h1,if_pos rfl]]at hx ⊢
 refine⟨fun h3=>?_,fun h3=>?_⟩
 ·have hF:K1b a seed ins=false:=by simp[K1b,h3]
  rw[K24,hF]
  exact⟨⟨rfl,rfl,rfl,rfl,rfl,rfl,rfl,rfl,rfl,rfl⟩,rfl⟩
 have hT:K1b a seed ins=true:=by
  have:a.Statements.length+a.Keys.length≤40:=by omega
  simp[K1b,h1,h3,this]
 have eT:K24 a seed ins={a with Disk:=K2x a.Disk (madeC a.Script (Kx a seed ins)),Statements:=a.Statements++K1s a (madeC a.Script (Kx a seed ins)).Root a.Keys.length}:=by rw[K24,if_pos hT]
 rw[eT,hT]
 generalize K2x a.Disk (madeC a.Script (Kx a seed ins))=d
 generalize madeC a.Script (Kx a seed ins)=x at hx ⊢
 have h40:a.Statements.length+a.Keys.length≤40:=by omega
 refine K5 a.Keys (fun k=>[(14,vI k)]) (fun k=>[(10,⟨0,.row true 4 ((a.Statements++K1s a x.Root k).map GStatement.enc)⟩),(11,⟨0,.box [.ref 2 0 9 0 a.Site.length,.ref 3 0 4 0 a.Script.length,.ref 17 0 4 0 d.Containers.length,.ref 18 0 6 0 d.Index.length,.ref 19 0 4 0 d.Wanted.length,.ref 7 0 5 0 a.Exclusions.length,.ref 8 0 4 0 a.Libraries.length,.ref 9 0 1 0 a.Keys.length,.ref 10 0 4 0 (a.Statements++K1s a x.Root k).length,.pl (tI a.Now)]⟩)]) (fun _=>True) (by simp only[roomB];omega) ?_
 simp only[go_sem]
 refine⟨?_,trivial,?_,?_⟩
 ·simp only[go_sem,K1s,List.append_nil]
  try exact⟨rfl,rfl⟩
 ·intro k key hk _ h0 h1 hw
  have hsl:=K5i (a:=a) (root:=x.Root) k
  have hkl:=Kg hk
  simp only[go_sem,K4 hk,h0,h1]
  apply K0 (Cj0 key ⟨k,x.Root,a.Now,0⟩)
  simp only[go_sem,hw]
  try intros
  rw[Kb4 hk]
  refine⟨by decide,by simp only[roomB,List.length_append];omega,fun _=>⟨?_,?_⟩⟩
  ·rw[←List.append_assoc];exact(List.map_append (f:=GStatement.enc) (l₁:=a.Statements++K1s a x.Root k) (l₂:=[Kb3 a x.Root k key])).symm
  ·simp only[List.length_append,List.length_cons,List.length_nil];omega
 ·intro _
  simp only[go_sem]
end Go.Proofs.YtjneccbpkckdfaaGreatR
namespace Go.Proofs.YtjneccbpkckdfaaGreatR
open Go Go.RowKit Go.Proofs
open Nat (reduceEqDiff reduceLT reduceLeDiff reduceAdd reduceMul)
open List (reduceReplicate)
@[go_sem] theorem ownT_sl {z:Nat} {es:List (List T)}:ownT (.sl z es)=true:=rfl
@[go_sem] theorem ownT_sc {v:Value}:ownT (.sc v)=false:=rfl
def K1c(d:GDisk):Bool:= !K2k d||(decide (0<d.Wanted.length)&&decide (6≤d.Containers.length))
def K2e(d:GDisk):Bool:= !K1c d&&(!whole d||decide (0<d.Wanted.length))
def Kq(d:GDisk):GDisk:=
 if K1c d then d else if whole d=false then {d with Index:=index d.Containers}
 else match d.Wanted with
  |x::_=>{d with Containers:=d.Containers++[x],Wanted:=[]}
  | []=>d
theorem K8v(d:GDisk):(Kq d).size≤2*d.size:=by
 have hr:=Kay d
 unfold Kq
 split
 ·omega
 ·split
  ·have hi:(index d.Containers).length≤(d.Containers.map GContainer.size).sum:=by
    rw[index,Srt.len_isort];exact K6x
   simp only[GDisk.size]at*
   omega
  ·split
   ·rename_i x l hx
    simp only[GDisk.size,hx,List.length_append,List.length_cons,List.length_nil,List.map_append,List.map_cons,List.map_nil,List.sum_append,List.sum_cons,List.sum_nil]
    omega
   ·omega
def Me2:MC:=
(Zs [.box 1 0 (.s 0),.alloc 2 1 [.emp 4,.emp 6,.emp 4],.mv 3 cF] [1,2] (Zs [lT 5 3 1,.call 6 [2,3,4] (.f N2j) [.s 5],.alloc 4 5 [.emp 4,.emp 6,.emp 4],sS 3 4 6] [1,2,4] (.seq (.seq (.reg [Za (lT 7 3 1),Za (.call 8 [] (.f N5d) [.s 7]),Za (.un 9 .not (.s 8)),Za (mS 10 9),Zb 10 false (fS 11 1 2),Zb 10 false (lF 12 1 11),Zb 10 false (nS 13 12),Zb 10 false (bC 14 .gtr 13 0),Zb 10 false (mS 15 14),Zb 15 true (fS 16 1 0),Zb 15 true (lF 17 1 16),Zb 15 true (nS 18 17),Zb 15 true (bC 19 .geq 18 6),Zb 10 false (.pick 20 (.s 15) (.s 19) cF),Za (.pick 21 (.s 10) cT (.s 20))] [1,2,4,21])
(.cond (.s 21) (Zs [lT 22 3 4,sS 3 2 22,.mv 3 cF] [2,3] .ret) .skip))
(.seq (.block 0 (Zs [lT 25 3 1,.call 26 [] (.f N2c) [.s 25],.un 27 .not (.s 26),mS 24 27] [1,2,4,24] (.cond (.s 24) (pr [fS 28 1 0,lF 29 1 28,.call 30 [6] (.f N1s) [.s 29],fS 31 4 1,sS 1 31 30] [2,4]) (Zs [fS 33 1 2,lF 34 1 33,nS 35 34,bC 36 .gtr 35 0,mS 32 36] [2,4,32] (.cond (.s 32) (.seq (.dregI [Zf [1000000,39,40,41,42,43] [4,7,8,9,10] (fS 37 4 0),Zg [1000000,39,40,41,42,43] [4,7,8,9,10] [0] (lF 38 1 37),Zc [1000000,37,38] (fS 39 4 2),Zd [1000000,37,38] [2] (lF 40 1 39),Zd [1000000,37,38] [2,3] (.idx 41 4 (.s 40) (ci 0)),{o:= .loadM 42 4 [7,8,9] 4 (.s 41),hs:=[1000000,37,38],ws:=[4,7,8,9],bf:=[2,3,4]},{o:= .lit 43 10 4 80 [.s 42],hs:=[37,38],ws:=[7,8,9,10],bf:=[2,3,4,5]},{o:= .app 44 2 4 80 (.s 38) (.s 43),ws:=[2,10],bf:=(.range 7)},Ze (.range 8) (fS 45 4 0),{o:=sS 1 45 44,ws:=[2,5],bf:=(.range 9)}] [2,4])
(pr [fS 46 4 2,.store 1 (.s 46) (.nil 4)] [2,4])) (Zs [lT 23 3 4,sS 3 2 23,.mv 3 cF] [2,3] .ret))))))
(Zs [lT 47 3 4,sS 3 2 47,.mv 3 cT] [2,3] .ret)))))
set_option maxHeartbeats 2000000 in
theorem Cne(d:GDisk)(hs:d.size≤1073741824):Ctr Tryz.prog Nf3 [aS d.enc] [rS (Kq d).enc,rB (K2e d)]:=by
  refine cA Me2 11 48 [(.cell 2 true 3,[true,true,true]),(.tmp 3,[false])] Tryz.func40 rfl rfl ?_;unfold Me2
  intro hb
  clear hb
  have hsc:d.Containers.length+(d.Containers.map GContainer.size).sum≤1073741824:=by simp only[GDisk.size]at hs;omega
  simp only[go_sem]
  apply K0 (C3w d hs)
  simp only[go_sem]
  intros
  repeat' first
    |(refine And.intro ?_ ?_<;>intro h)
    |(apply K0 (Cap d hs);simp only[go_sem])
    |(apply K0 (C8q d hs);simp only[go_sem])
    |(apply K0 (C2t d.Containers hsc);simp only[go_sem];intros)
  all_goals
    first
      |(have hF:K1c d=true:=by
         clear hs hsc
         unfold K1c
         by_cases c1:0<d.Wanted.length<;>by_cases c2:6≤d.Containers.length<;>simp_all<;>omega
        simp[Kq,K2e,hF]
        done)
      |(have hF:K1c d=false:=by
         clear hs hsc
         unfold K1c
         by_cases c1:0<d.Wanted.length<;>by_cases c2:6≤d.Containers.length<;>simp_all<;>omega
        have hW:whole d=false:=by assumption
        simp[Kq,K2e,hF,hW]
        done)
      |(have hF:K1c d=false:=by
         clear hs hsc
         unfold K1c
         by_cases c1:0<d.Wanted.length<;>by_cases c2:6≤d.Containers.length<;>simp_all<;>omega
        have hW:whole d=true:=by assumption
        have hN:d.Wanted=[]:=List.length_eq_zero_iff.1 (by omega)
        simp[Kq,K2e,hF,hW,hN]
        done)
      |(have hF:K1c d=false:=by
         clear hs hsc
         unfold K1c
         by_cases c1:0<d.Wanted.length<;>by_cases c2:6≤d.Containers.length<;>simp_all<;>omega
        have hW:whole d=true:=by assumption
        obtain⟨x,hx⟩:=Kb (l:=d.Wanted) (k:=0) (by omega)
        have hlc:d.Containers.length≤1073741824:=by omega
        refine⟨⟨by omega,by omega⟩,?_⟩
        rw[hx]
        simp only[go_sem]
        have eT:Kq d={d with Containers:=d.Containers++[x],Wanted:=[]}:=by
         rcases hN:d.Wanted with _|⟨y,l⟩
         · rw[hN]at hx;simp at hx
         · rw[hN]at hx
           simp only[List.getElem?_cons_zero,Option.some.injEq]at hx
           subst hx
           simp[Kq,hF,hW,hN]
        have eO:K2e d=true:=by simp[K2e,hF,hW];omega
        rw[eT,eO]
        first
         |exact⟨by decide,by simp only[roomB];omega,by simp,⟨by simp[GContainer.enc],rfl,rfl⟩,rfl⟩
         |(simp only[roomB];simp[GContainer.enc];omega)
         |(refine⟨by decide,by simp only[roomB];omega,by simp,by decide,⟨by simp[GContainer.enc],rfl,rfl⟩,rfl⟩))
def Mes:MC:=
(Zs [.box 1 0 (.s 0),.alloc 2 1 [.emp 4,.emp 6,.emp 4],.mv 3 cF] [1,2] (Zs [lT 5 3 1,.call 6 [2,3,4] (.f N34) [.s 5],.alloc 4 5 [.emp 4,.emp 6,.emp 4],sS 3 4 6] [1,2,4] (.seq (.block 0 (.seq (.reg [Za (lT 8 3 1),Za (.call 9 [] (.f N5g) [.s 8]),Za (.un 10 .not (.s 9)),Za (mS 11 10),Zb 11 false (fS 12 1 2),Zb 11 false (lF 13 1 12),Zb 11 false (nS 14 13),Zb 11 false (bC 15 .gtr 14 0),Zb 11 false (mS 16 15),Zb 16 true (fS 17 1 0),Zb 16 true (lF 18 1 17),Zb 16 true (nS 19 18),Zb 16 true (bC 20 .geq 19 6),Zb 11 false (.pick 21 (.s 16) (.s 20) cF),Za (.pick 22 (.s 11) cT (.s 21)),Za (mS 7 22)] [1,2,4,7])
(.cond (.s 7) (Zs [lT 23 3 4,sS 3 2 23,.mv 3 cF] [2,3] .ret) (.seq (.reg [Za (fS 25 1 2),Za (lF 26 1 25),Za (nS 27 26),Za (bC 28 .gtr 27 0),Za (mS 29 28),Zb 29 true (lT 30 3 1),Zb 29 true (.call 31 [] (.f N2m) [.s 30]),Za (.pick 32 (.s 29) (.s 31) cF),Za (mS 24 32)] [1,2,4,24])
(.cond (.s 24) (.seq (.dregI [Zf [1000000,35,36,37,38,39] [4,6,7,8,9,10] (fS 33 4 0),Zg [1000000,35,36,37,38,39] [4,6,7,8,9,10] [0] (lF 34 1 33),Zc [1000000,33,34] (fS 35 4 2),Zd [1000000,33,34] [2] (lF 36 1 35),Zd [1000000,33,34] [2,3] (.idx 37 4 (.s 36) (ci 0)),{o:= .loadM 38 4 [6,7,8] 4 (.s 37),hs:=[1000000,33,34],ws:=[4,6,7,8,10],bf:=[2,3,4]},{o:= .lit 39 9 4 80 [.s 38],hs:=[33,34],ws:=[6,7,8,9],bf:=[2,3,4,5]},{o:= .app 40 2 4 80 (.s 34) (.s 39),ws:=[2,9],bf:=(.range 7)},Ze (.range 8) (fS 41 4 0),{o:=sS 1 41 40,ws:=[2,5],bf:=(.range 9)}] [2,4])
(Zs [.lit 42 10 4 80 [],fS 43 4 2,sS 1 43 42] [2,4] (Zs [lT 44 3 4,sS 3 2 44,.mv 3 cT] [2,3] .ret))) (Zs [lT 46 3 1,.call 47 [] (.f N2m) [.s 46],.un 48 .not (.s 47),mS 45 48] [1,2,4,45] (.cond (.s 45) (Zs [fS 49 1 0,lF 50 1 49,.call 51 [11] (.f N1u) [.s 50],fS 52 4 1,sS 1 52 51] [2,4] (Zs [lT 53 3 4,sS 3 2 53,.mv 3 cT] [2,3] .ret)) .skip)))))))
(Zs [lT 54 3 4,sS 3 2 54,.mv 3 cF] [2,3] .ret))))
set_option maxHeartbeats 2000000 in
theorem Cnv(d:GDisk)(hs:d.size≤1073741824):Ctr Tryz.prog Nfo [aS d.enc] [rS (Kq d).enc,rB (K2e d)]:=by
  refine cA Mes 12 55 [(.cell 2 true 3,[true,true,true]),(.tmp 3,[false])] Tryz.func141 rfl rfl ?_;unfold Mes
  intro hb
  clear hb
  have hsc:d.Containers.length+(d.Containers.map GContainer.size).sum≤1073741824:=by simp only[GDisk.size]at hs;omega
  simp only[go_sem]
  apply K0 (C4g d hs)
  simp only[go_sem]
  intros
  repeat' first
    |(refine And.intro ?_ ?_<;>intro h)
    |(apply K0 (Cat d hs);simp only[go_sem])
    |(apply K0 (C6d d hs);simp only[go_sem])
    |(apply K0 (C2v d.Containers hsc);simp only[go_sem];intros)
  all_goals
    first
      |(have hF:K1c d=true:=by
         clear hs hsc
         unfold K1c
         by_cases c1:0<d.Wanted.length<;>by_cases c2:6≤d.Containers.length<;>simp_all<;>omega
        simp[Kq,K2e,hF]
        done)
      |(have hF:K1c d=false:=by
         clear hs hsc
         unfold K1c
         by_cases c1:0<d.Wanted.length<;>by_cases c2:6≤d.Containers.length<;>simp_all<;>omega
        have hW:whole d=false:=by assumption
        simp[Kq,K2e,hF,hW]
        done)
      |(have hF:K1c d=false:=by
         clear hs hsc
         unfold K1c
         by_cases c1:0<d.Wanted.length<;>by_cases c2:6≤d.Containers.length<;>simp_all<;>omega
        have hW:whole d=true:=by assumption
        have hN:d.Wanted=[]:=List.length_eq_zero_iff.1 (by omega)
        simp[Kq,K2e,hF,hW,hN]
        done)
      |(have hF:K1c d=false:=by
         clear hs hsc
         unfold K1c
         by_cases c1:0<d.Wanted.length<;>by_cases c2:6≤d.Containers.length<;>simp_all<;>omega
        have hW:whole d=true:=by assumption
        obtain⟨x,hx⟩:=Kb (l:=d.Wanted) (k:=0) (by omega)
        have hlc:d.Containers.length≤1073741824:=by omega
        refine⟨⟨by omega,by omega⟩,?_⟩
        rw[hx]
        simp only[go_sem]
        have eT:Kq d={d with Containers:=d.Containers++[x],Wanted:=[]}:=by
         rcases hN:d.Wanted with _|⟨y,l⟩
         · rw[hN]at hx;simp at hx
         · rw[hN]at hx
           simp only[List.getElem?_cons_zero,Option.some.injEq]at hx
           subst hx
           simp[Kq,hF,hW,hN]
        have eO:K2e d=true:=by simp[K2e,hF,hW];omega
        rw[eT,eO]
        first
         |exact⟨by decide,by simp only[roomB];omega,by simp,⟨by simp[GContainer.enc],rfl,rfl⟩,rfl⟩
         |(simp only[roomB];simp[GContainer.enc];omega)
         |(refine⟨by decide,by simp only[roomB];omega,by simp,by decide,⟨by simp[GContainer.enc],rfl,rfl⟩,rfl⟩))
end Go.Proofs.YtjneccbpkckdfaaGreatR
namespace Go.Proofs
open Go.Shelf
def Tryz.lays189_ren:Go.Shelf.Ren:=⟨fun|189=>378|125=>391|257=>390|128=>405|129=>406|294=>396|295=>397|296=>398|297=>399|298=>400|299=>401|216=>402|300=>403|301=>404|328=>408|329=>409|330=>410|331=>411|332=>412|215=>240|343=>414|n=>n,fun|28=>30|3=>3|46=>344|0=>0|51=>380|53=>382|4=>4|183=>374|182=>373|131=>377|5=>5|9=>9|218=>383|222=>305|228=>388|229=>389|n=>n,fun|n=>n⟩
theorem Tryz.lays189:Go.Proofs.Lays.n189 Tryz.prog Tryz.lays189_ren:={
 mixed:=by kernel_rfl
 f125:=Tryz.func391.trans (congrArg some (by kernel_rfl))
 f128:=Tryz.func405.trans (congrArg some (by kernel_rfl))
 f129:=Tryz.func406.trans (congrArg some (by kernel_rfl))
 f189:=Tryz.func378.trans (congrArg some (by kernel_rfl))
 f215:=Tryz.func240.trans (congrArg some (by kernel_rfl))
 f216:=Tryz.func402.trans (congrArg some (by kernel_rfl))
 f257:=Tryz.func390.trans (congrArg some (by kernel_rfl))
 f294:=Tryz.func396.trans (congrArg some (by kernel_rfl))
 f295:=Tryz.func397.trans (congrArg some (by kernel_rfl))
 f296:=Tryz.func398.trans (congrArg some (by kernel_rfl))
 f297:=Tryz.func399.trans (congrArg some (by kernel_rfl))
 f298:=Tryz.func400.trans (congrArg some (by kernel_rfl))
 f299:=Tryz.func401.trans (congrArg some (by kernel_rfl))
 f300:=Tryz.func403.trans (congrArg some (by kernel_rfl))
 f301:=Tryz.func404.trans (congrArg some (by kernel_rfl))
 f328:=Tryz.func408.trans (congrArg some (by kernel_rfl))
 f329:=Tryz.func409.trans (congrArg some (by kernel_rfl))
 f330:=Tryz.func410.trans (congrArg some (by kernel_rfl))
 f331:=Tryz.func411.trans (congrArg some (by kernel_rfl))
 f332:=Tryz.func412.trans (congrArg some (by kernel_rfl))
 f343:=Tryz.func414.trans (congrArg some (by kernel_rfl))
 t0:=Tryz.underlying0
 a0:=Tryz.isAgg0
 z0:=Tryz.sizeOf0
 v0:=Tryz.zeroValue0
 t3:=Tryz.underlying3
 a3:=Tryz.isAgg3
 z3:=Tryz.sizeOf3
 v3:=Tryz.zeroValue3
 t4:=Tryz.underlying4
 a4:=Tryz.isAgg4
 z4:=Tryz.sizeOf4
 v4:=Tryz.zeroValue4
 t5:=Tryz.underlying5
 a5:=Tryz.isAgg5
 z5:=Tryz.sizeOf5
 v5:=Tryz.zeroValue5
 t9:=Tryz.underlying9
 a9:=Tryz.isAgg9
 z9:=Tryz.sizeOf9
 v9:=Tryz.zeroValue9
 t28:=Tryz.underlying30
 a28:=Tryz.isAgg30
 z28:=Tryz.sizeOf30
 v28:=Tryz.zeroValue30
 t46:=Tryz.underlying344
 a46:=Tryz.isAgg344
 z46:=Tryz.sizeOf344
 v46:=Tryz.zeroValue344
 t51:=Tryz.underlying380
 a51:=Tryz.isAgg380
 z51:=Tryz.sizeOf380
 v51:=Tryz.zeroValue380
 t53:=Tryz.underlying382
 a53:=Tryz.isAgg382
 z53:=Tryz.sizeOf382
 v53:=Tryz.zeroValue382
 t131:=Tryz.underlying377
 a131:=Tryz.isAgg377
 z131:=Tryz.sizeOf377
 v131:=Tryz.zeroValue377
 t182:=Tryz.underlying373
 a182:=Tryz.isAgg373
 z182:=Tryz.sizeOf373
 v182:=Tryz.zeroValue373
 t183:=Tryz.underlying374
 a183:=Tryz.isAgg374
 z183:=Tryz.sizeOf374
 v183:=Tryz.zeroValue374
 t218:=Tryz.underlying383
 a218:=Tryz.isAgg383
 z218:=Tryz.sizeOf383
 v218:=Tryz.zeroValue383
 t222:=Tryz.underlying305
 a222:=Tryz.isAgg305
 z222:=Tryz.sizeOf305
 v222:=Tryz.zeroValue305
 t228:=Tryz.underlying388
 a228:=Tryz.isAgg388
 z228:=Tryz.sizeOf388
 v228:=Tryz.zeroValue388
 t229:=Tryz.underlying389
 a229:=Tryz.isAgg389
 z229:=Tryz.sizeOf389
 v229:=Tryz.zeroValue389}
open Go.Sort Go.RowKit in
theorem Tryz.slices_Sort_int(blk off cap:Nat)(zs:List Int)(w:World)(hH:Holds (Value.int .i64) w blk off zs.toArray)(hblk:blk<w.heap.size)(hsz:zs.length<4611686018427387904):
  Calls Tryz.prog 378 #[.slice (some ⟨blk,off,none⟩) zs.length cap] w fun e w'=>
   e= .returned (.tuple #[])∧∃n os,w'=grow (putRow (Value.int .i64) (Sort.ahead w n) blk off (zs.mergeSort fun x y=>decide (x≤y)).toArray) os:=Any.slices_Sort_int Tryz.lays189 blk off cap zs w hH hblk hsz
def Tryz.laysNm220_ren:Go.Shelf.Ren:=⟨fun|20=>379|n=>n,fun|22=>30|3=>3|4=>4|0=>0|n=>n,fun|n=>n⟩
theorem Tryz.laysNm220:Go.Proofs.Lays2.n20 Tryz.prog Tryz.laysNm220_ren:={
 mixed:=by kernel_rfl
 f20:=Tryz.func379.trans (congrArg some (by kernel_rfl))
 t0:=Tryz.underlying0
 a0:=Tryz.isAgg0
 z0:=Tryz.sizeOf0
 v0:=Tryz.zeroValue0
 t3:=Tryz.underlying3
 a3:=Tryz.isAgg3
 z3:=Tryz.sizeOf3
 v3:=Tryz.zeroValue3
 t4:=Tryz.underlying4
 a4:=Tryz.isAgg4
 z4:=Tryz.sizeOf4
 v4:=Tryz.zeroValue4
 t22:=Tryz.underlying30
 a22:=Tryz.isAgg30
 z22:=Tryz.sizeOf30
 v22:=Tryz.zeroValue30
 i3:=by kernel_rfl}
open Go.RowKit Go.Lib Go.Sort in
theorem Tryz.slices_Compact_int(blk off cap:Nat)(zs:List Int)(w:World)(hH:Holds (Value.int .i64) w blk off zs.toArray)(hsz:zs.length≤9223372036854775807)(hcap:zs.length≤cap):
  Calls Tryz.prog 379 #[.slice (some ⟨blk,off,none⟩) zs.length cap] w fun e w'=>e= .returned (.slice (some ⟨blk,off,none⟩) (Lib.compact zs).length cap)∧∃q,w'=putRow (Value.int .i64) (Sort.ahead w q) blk off (Lib.compact zs++List.replicate (zs.length-(Lib.compact zs).length) 0).toArray:=Any.slices_Compact_int Tryz.laysNm220 blk off cap zs w hH hsz hcap
open Go.RowKit Go.Lib Go.Sort in
theorem Tryz.slices_Compact_int_empty(a:Option Addr)(cap:Nat)(w:World):
  Calls Tryz.prog 379 #[.slice a 0 cap] w fun e w'=>e= .returned (.slice a 0 cap)∧w'=w:=Any.slices_Compact_int_empty Tryz.laysNm220 a cap w
open Go.RowKit Go.Sort in
theorem Tryz.slices_Sort_int_none(p:Option Addr)(cap:Nat)(w:World):
  Calls Tryz.prog 378 #[.slice p 0 cap] w fun e w'=>e= .returned (.tuple #[])∧w'=w:=Any.slices_Sort_int_none Tryz.lays189 p cap w
end Go.Proofs
namespace Go.Proofs.YtjneccbpkckdfaaGreatR
open Go Go.RowKit Go.Proofs
open Nat (reduceEqDiff reduceLT reduceLeDiff reduceAdd reduceMul)
open List (reduceReplicate)
theorem K5o{w:World}{b:Nat}:∀ {zs:List Int} {off:Nat} {G:List Nat},OwRow w 1 b off (zs.map encI) G→G=[]∧∀(j:Nat) (x:Int),zs[j]? =some x→w.cell? ⟨b,off+j,none⟩=some (.int .i64 x)∧oneW (.int .i64 x)=true
 | [],off,G,h=>⟨h,fun j x hx=>by simp at hx⟩
 |z::zs,off,G,h=>by
  obtain⟨_,G1,G2,h1,h2,rfl⟩:=h
  obtain⟨v,Ga,Gb,hc,⟨rfl,hw,rfl⟩,rfl,rfl⟩:=h1
  obtain⟨rfl,ih⟩:=K5o h2
  refine⟨rfl,fun j x hx=>?_⟩
  cases j with
  |zero=>
   simp only[List.getElem?_cons_zero,Option.some.injEq]at hx
   subst hx
   exact⟨hc,hw⟩
  |succ j=>
   have:=ih j x (by simpa using hx)
   rw[Nat.add_assoc,Nat.add_comm 1 j]at this
   exact this
theorem owRow_int'{w:World}{b:Nat}:∀ {zs:List Int} {off:Nat},(∀(j:Nat) (x:Int),zs[j]? =some x→w.cell? ⟨b,off+j,none⟩=some (.int .i64 x)∧oneW (.int .i64 x)=true)→OwRow w 1 b off (zs.map encI) []
 | [],off,h=>rfl
 |z::zs,off,h=>by
  have h0:=h 0 z rfl
  refine⟨rfl,[],[],⟨_,[],[],h0.1,⟨rfl,h0.2,rfl⟩,rfl,rfl⟩,owRow_int' fun j x hx=>?_,rfl⟩
  have:=h (j+1) x (by simpa using hx)
  rw[Nat.add_assoc,Nat.add_comm 1 j]
  exact this
def sortI(zs:List Int):List Int:=zs.mergeSort fun x y=>decide (x≤y)
def uniqI(zs:List Int):List Int:=Lib.compact zs
def sortU(zs:List Int):List Int:=uniqI (sortI zs)
theorem K6t(zs:List Int):(sortI zs).length=zs.length:=(List.mergeSort_perm _ _).length_eq
theorem sortI_mem{zs:List Int}{x:Int}(h:x∈sortI zs):x∈zs:=(List.mergeSort_perm _ _).mem_iff.1 h
theorem K8p{w:World}{b off:Nat}{zs:List Int}{row:Array Value}{ty:TypeId}(hh:w.heap[b]? =some (.cells row ty (0,0)))(h:∀(j:Nat) (x:Int),zs[j]? =some x→w.cell? ⟨b,off+j,none⟩=some (.int .i64 x)∧oneW (.int .i64 x)=true):Go.Sort.Holds (Value.int .i64) w b off zs.toArray:=by
 intro j hj
 obtain⟨x,hx⟩:=Kb (l:=zs) (k:=j) (by simpa using hj)
 have e:zs.toArray[j]! =x:=by
  rw[getElem!_pos _ j hj]
  simpa using (List.getElem?_eq_some_iff.1 hx).2
 rw[e]
 exact⟨(h j x hx).1,by simp[World.frozen?,hh]⟩
theorem bel_put{w:World}{b off:Nat}{zs:List Int}{G:List Nat}(n:Nat)(os:Array Obj)(hb:b∈G)(hlt:b<w.heap.size):Bel (fun k=>k<w.heap.size∧k∉G) w (Go.Sort.grow (Go.Sort.putRow (Value.int .i64) (Go.Sort.ahead w n) b off zs.toArray) os):=by
 have hsz:(Go.Sort.putRow (Value.int .i64) (Go.Sort.ahead w n) b off zs.toArray).heap.size=w.heap.size:=by simp[Go.Sort.putRow,Go.Sort.mapBlock,Go.Sort.ahead]
 refine⟨rfl,rfl,rfl,?_,fun k hk=>?_⟩
 ·show _≤((Go.Sort.putRow (Value.int .i64) (Go.Sort.ahead w n) b off zs.toArray).heap++os).size
  rw[Array.size_append,hsz];omega
 ·show((Go.Sort.putRow (Value.int .i64) (Go.Sort.ahead w n) b off zs.toArray).heap++os)[k]? =_
  rw[Array.getElem?_append_left (by rw[hsz];exact hk.1)]
  have hne:k≠b:=fun hh=>hk.2 (hh▸hb)
  simp[Go.Sort.putRow,Go.Sort.mapBlock,Go.Sort.ahead,Array.getElem?_modify,hne.symm]
theorem ow_put{w:World}{b off cap m n:Nat}{zs ds:List Int}{row:Array Value}{ty:TypeId}{os:Array Obj}(hb:b<w.heap.size)(hh:w.heap[b]? =some (.cells row ty (0,0)))(hc:off+cap*1≤row.size)(hln:Ln zs.length cap)
  (hz:∀(j:Nat) (x:Int),zs[j]? =some x→w.cell? ⟨b,off+j,none⟩=some (.int .i64 x)∧oneW (.int .i64 x)=true) (hd:ds.length=zs.length) (hin:∀x∈ds,oneW (.int .i64 x)=true) (hm:m≤ds.length):
  Ow (Go.Sort.grow (Go.Sort.putRow (Value.int .i64) (Go.Sort.ahead w n) b off ds.toArray) os) (.sl 1 ((ds.take m).map encI)) (.slice (some ⟨b,off,none⟩) m cap) [b]:=by
 have hml:((ds.take m).map encI).length=m:=by rw[List.length_map,List.length_take];omega
 have hH:=K8p hh hz
 have hsz:(Go.Sort.putRow (Value.int .i64) (Go.Sort.ahead w n) b off ds.toArray).heap.size=w.heap.size:=by simp[Go.Sort.putRow,Go.Sort.mapBlock,Go.Sort.ahead]
 have hheap:(Go.Sort.grow (Go.Sort.putRow (Value.int .i64) (Go.Sort.ahead w n) b off ds.toArray) os).heap[b]? =some (.cells (Go.Sort.putCells (Value.int .i64) off ds.toArray row) ty (0,0)):=by
  show((Go.Sort.putRow (Value.int .i64) (Go.Sort.ahead w n) b off ds.toArray).heap++os)[b]? =_
  rw[Array.getElem?_append_left (by rw[hsz];exact hb)]
  simp[Go.Sort.putRow,Go.Sort.mapBlock,Go.Sort.ahead,Array.getElem?_modify,hh,Go.Sort.onCells]
 refine⟨some ⟨b,off,none⟩,cap,by rw[hml],by rw[hml];exact hln.mono (by omega),.inr ⟨b,off,Go.Sort.putCells (Value.int .i64) off ds.toArray row,ty,[],rfl,hheap,by simpa[Go.Sort.putCells]using hc,?_,rfl⟩⟩
 refine owRow_int' fun j x hx=>?_
 rw[List.getElem?_take]at hx
 split at hx
 ·rename_i hjm
  have hj:j<ds.toArray.size:=by simpa using (List.getElem?_eq_some_iff.1 hx).1
  have e:ds.toArray[j]! =x:=by
   rw[getElem!_pos _ j hj]
   simpa using (List.getElem?_eq_some_iff.1 hx).2
  have h1:=Go.Sort.cell?_putRow (Value.int .i64) (Go.Sort.ahead w n) b off zs.toArray ds.toArray (Go.Sort.holds_ahead _ _ _ _ _ _ hH) (by simpa using hd) j hj
  rw[e]at h1
  refine⟨?_,hin x (Km hx)⟩
  rw[←h1]
  exact Go.Sort.cell?_grow _ _ _ (by rw[hsz];exact hb)
 ·cases hx
theorem Kbw{w:World}{X:Nat→Prop}{es:List (List T)}{sz:Nat}{vs:List Value}{G:List Nat}(h:ResVs w X [oL sz es] vs G):∃v,vs=[v]∧Ow w (.sl sz es) v G:=by
 match vs,h with
 | [v],⟨G1,G2,h1,h2,e⟩=>
  obtain⟨_,Ga,Gb,h3,h4,e2⟩:=h1
  simp only[ResVs]at h2
  simp only[ResC]at h4
  subst h2 h4 e2 e
  exact⟨v,rfl,by simpa using h3⟩
 | [],h=>exact h.elim
theorem Cmh(zs:List Int):CtrI Tryz.prog N65 [oL 1 (zs.map encI)] [some (1,(sortI zs).map encI)] []:=by
 refine⟨⟨Tryz.f378,Tryz.func378,by kernel_rfl,by kernel_rfl⟩,fun w X vs G ht h hG hGb=>?_⟩
 obtain⟨v,rfl,hr⟩:=Kbw h
 obtain⟨A,cap,rfl,hln,hr⟩:=hr
 rw[List.length_map]at hln ⊢
 rcases hr with ⟨rfl,hz,rfl⟩|⟨b,off,row,ty,G1,rfl,hh,hc,hrow,rfl⟩
 ·obtain rfl:zs=[]:=by simpa using hz
  refine(Tryz.slices_Sort_int_none A 0 w).mono ?_
  rintro e w' ⟨rfl,rfl⟩
  exact⟨Bel.refl _ _,[],[],[],rfl,⟨[],[],by simp[sortI];exact⟨A,0,rfl,hln,.inl ⟨rfl,rfl,rfl⟩⟩,rfl,rfl⟩,rfl,by simp,by simp⟩
 ·obtain⟨rfl,hz⟩:=K5o hrow
  have hb:b<w.heap.size:=(hGb b (by simp)).1
  have hin:∀x∈sortI zs,oneW (.int .i64 x)=true:=fun x hx=>by
   obtain⟨j,hj⟩:=List.getElem?_of_mem (sortI_mem hx)
   exact(hz j x hj).2
  refine(Tryz.slices_Sort_int b off cap zs w (K8p hh hz) hb (by have:=hln.2;simp only[roomB]at this;omega)).mono ?_
  rintro e w' ⟨rfl,n,os,rfl⟩
  have hB:=bel_put (zs:=sortI zs) (b:=b) (off:=off) (G:=[b]) n os (by simp) hb
  have hO:=ow_put (m:=zs.length) (n:=n) (os:=os) (ds:=sortI zs) hb hh hc hln hz (K6t zs) hin (by rw[K6t];exact Nat.le_refl _)
  rw[List.take_of_length_le (by rw[K6t];exact Nat.le_refl _)]at hO
  refine⟨hB,[],[b],[],rfl,⟨[b],[],hO,rfl,rfl⟩,rfl,by simp,fun b' hb'=>⟨.inl (by simpa using hb'),?_⟩⟩
  rw[show b'=b by simpa using hb']
  exact Nat.lt_of_lt_of_le hb hB.size
theorem getD_mem{zs:List Int}{j:Nat}(h:j<zs.length):zs.toArray[j]! ∈zs:=by
 rw[getElem!_pos zs.toArray j (by simpa using h)]
 simp
theorem Kdz{zs:List Int}{x:Int}(h:x∈Lib.compact zs):x∈zs:=by
 simp only[Lib.compact,Lib.compactUpTo,List.mem_map,List.mem_filter,List.mem_range]at h
 obtain⟨j,⟨hj,_⟩,rfl⟩:=h
 exact getD_mem hj
theorem Kdy(zs:List Int):(Lib.compact zs).length≤zs.length:=by
 unfold Lib.compact Lib.compactUpTo
 rw[List.length_map]
 exact Nat.le_trans (List.length_filter_le _ _) (by simp)
theorem Cix(zs:List Int):CtrI Tryz.prog N4b [oL 1 (zs.map encI)] [none] [rL 1 ((uniqI zs).map encI)]:=by
 refine⟨⟨Tryz.f379,Tryz.func379,by kernel_rfl,by kernel_rfl⟩,fun w X vs G ht h hG hGb=>?_⟩
 obtain⟨v,rfl,hr⟩:=Kbw h
 obtain⟨A,cap,rfl,hln,hr⟩:=hr
 rw[List.length_map]at hln ⊢
 rcases hr with ⟨rfl,hz,rfl⟩|⟨b,off,row,ty,G1,rfl,hh,hc,hrow,rfl⟩
 ·obtain rfl:zs=[]:=by simpa using hz
  refine(Tryz.slices_Compact_int_empty A 0 w).mono ?_
  rintro e w' ⟨rfl,rfl⟩
  exact⟨Bel.refl _ _,[_],[],[],rfl,rfl,⟨[],[],by simp[ResV,ResC,uniqI,Lib.compact];exact⟨A,0,rfl,hln,.inl ⟨rfl,rfl,rfl⟩⟩,rfl,rfl⟩,by simp,by simp⟩
 ·obtain⟨rfl,hz⟩:=K5o hrow
  have hb:b<w.heap.size:=(hGb b (by simp)).1
  have hlc:=Kdy zs
  have hin:∀x∈Lib.compact zs++List.replicate (zs.length-(Lib.compact zs).length) 0,oneW (.int .i64 x)=true:=fun x hx=>by
   rcases List.mem_append.1 hx with hx|hx
   ·obtain⟨j,hj⟩:=List.getElem?_of_mem (Kdz hx)
    exact(hz j x hj).2
   ·rw[(List.mem_replicate.1 hx).2];rfl
  refine(Tryz.slices_Compact_int b off cap zs w (K8p hh hz) (by have:=hln.2;simp only[roomB]at this;omega) hln.1).mono ?_
  rintro e w' ⟨rfl,n,rfl⟩
  have hB:=bel_put (zs:=Lib.compact zs++List.replicate (zs.length-(Lib.compact zs).length) 0) (b:=b) (off:=off) (G:=[b]) n #[] (by simp) hb
  have hO:=ow_put (m:=(Lib.compact zs).length) (n:=n) (os:= #[]) (ds:=Lib.compact zs++List.replicate (zs.length-(Lib.compact zs).length) 0) hb hh hc hln hz (by simp;omega) hin (by simp)
  rw[List.take_left]at hO
  rw[Go.Sort.grow_empty]at hB hO
  refine⟨hB,[_],[],[b],rfl,rfl,⟨[b],[],?_,rfl,rfl⟩,by simp,fun b' hb'=>⟨.inl (by simpa using hb'),?_⟩⟩
  ·exact⟨⟨_,rfl⟩,[b],[],hO,rfl,rfl⟩
  ·rw[show b'=b by simpa using hb']
   exact Nat.lt_of_lt_of_le hb hB.size
end Go.Proofs.YtjneccbpkckdfaaGreatR
namespace Go.Proofs.YtjneccbpkckdfaaGreatR
open Go Go.RowKit Go.Proofs
open Nat (reduceEqDiff reduceLT reduceLeDiff reduceAdd reduceMul)
open List (reduceReplicate)
abbrev fC(f:FuncId)(cs:List T):RV:=⟨false,[(false,.fn f cs)]⟩
attribute [go_sem] fC
def M2r:MC:=
(Zs [.mv 10 (ci 0)] [0,1,2,3,10] (.block 0 (.loop ([0,1,2,3,10],[]) (.seq (Zs [mS 11 10,mS 12 3,bS 13 .lss 11 12] [0,1,2,3,10,13] (cX 13 0))
(.seq (.block 1 (.dreg [Zc [17,18,19,20,21,22,23,24,25,26,27,28,29,30,31,32,33,34,35] (mS 16 0),Zc [16,18,20,21,22,23,24,25,26,27,28,29,30,31,32,33,34,35] (mS 17 1),Zc [16,17,20,21,22,23,24,25,26,27,28,29,30,31,32,33,34,35] (mS 18 10),Zd [16,20,21,22,23,24,25,26,27,28,29,30,31,32,33,34,35] [1,2] (bS 19 .add 17 18),Zf [16,17,18,19,21,22,23,24,25,26,27,28,29,30,31,32,33,34,35,36] [0] (mS 20 0),Zf [16,17,18,19,20,22,24,25,26,27,28,29,30,31,32,33,34,35,36] [0] (mS 21 2),Zf [16,17,18,19,20,21,24,25,26,27,28,29,30,31,32,33,34,35,36] [0] (mS 22 10),Zg [16,17,18,19,20,24,25,26,27,28,29,30,31,32,33,34,35,36] [0] [5,6] (bS 23 .add 21 22),Zc [16,17,18,19,20,21,22,23,25,26,27,30,31,32,33,34,35] (mS 24 0),Zc [16,17,18,19,20,21,22,23,24,26,30,31,32,33,34,35] (mS 25 2),Zc [16,17,18,19,20,21,22,23,24,25,30,31,32,33,34,35] (mS 26 10),Zd [16,17,18,19,20,21,22,23,24,30,31,32,33,34,35] [9,10] (bS 27 .add 25 26),Zd [16,17,18,19,20,21,22,23,30,31,32,33,34,35] [8,9,10,11] (xS 28 1 24 27),Zd [16,17,18,19,20,21,22,23,30,31,32,33,34,35] [8,9,10,11,12] (lF 29 1 28),Zc [16,17,18,19,20,21,22,23,24,25,26,27,28,29,31,32,33] (mS 30 0),Zc [16,17,18,19,20,21,22,23,24,25,26,27,28,29,30,32] (mS 31 1),Zc [16,17,18,19,20,21,22,23,24,25,26,27,28,29,30,31] (mS 32 10),Zd [16,17,18,19,20,21,22,23,24,25,26,27,28,29,30] [15,16] (bS 33 .add 31 32),Zd [16,17,18,19,20,21,22,23,24,25,26,27,28,29] [14,15,16,17] (xS 34 1 30 33),Zd [16,17,18,19,20,21,22,23,24,25,26,27,28,29] [14,15,16,17,18] (lF 35 1 34),Zd [20,21,22,23] [0,1,2,3,8,9,10,11,12,13,14,15,16,17,18,19] (xS 36 1 16 19),{o:=sS 1 36 29,hs:=[20,21,22,23],ws:=[0],bf:=[0,1,2,3,8,9,10,11,12,13,14,15,16,17,18,19,20]},Ze (.range 22) (xS 37 1 20 23),{o:=sS 1 37 35,ws:=[0],bf:=(.range 23)}] [0,1,2,3,10]))
(pr [mS 14 10,bC 15 .add 14 1,mS 10 15] [0,1,2,3,10]))))))
theorem C3o(P X M Y Q:List Int)(f:FuncId){cs:List T}{a b n:Nat}(ha:P.length=a)(hb:(P++X++M).length=b)(hX:X.length=n)(hY:Y.length=n):CtrI Tryz.prog N2s [oL 1 ((P++X++M++Y++Q).map encI),iI a,iI b,iI n,fC f cs] [some (1,(P++Y++M++X++Q).map encI)] []:=by
 have hL0:(P++X++M++Y++Q).length=b+n+Q.length:=by rw[List.length_append,List.length_append,hb,hY]
 have hL1:(P++Y++M++X++Q).length=(P++X++M++Y++Q).length:=by simp;omega
 have hb':b=a+n+M.length:=by rw[←hb];simp;omega
 have hsw0:swp P X M Y Q 0=P++X++M++Y++Q:=by simp[swp]
 have hswn:swp P X M Y Q n=P++Y++M++X++Q:=by simp[swp,←hX,List.take_of_length_le (show Y.length≤X.length by omega),List.drop_of_length_le (show Y.length≤X.length by omega)]
 refine Ky (M:=M2r) (m:=0) (n:=38) (res:=[]) hmix Tryz.func413 rfl (by kernel_rfl) rfl (by kernel_rfl) (by kernel_rfl) (Nat.le_of_ble_eq_true rfl) rfl rfl ?_;unfold M2r
 intro hbd
 have hl:=Kv hbd
 clear hbd
 simp only[roomB]at hl
 rw[←hsw0,←hswn]
 rw[←hsw0,←hswn]at hL1
 rw[←hsw0]at hl hL0
 subst hX
 generalize hN:(swp P X M Y Q 0).length=N at*
 simp only[go_sem,hN]
 refine K5 X (fun i=>[(10,vI i)]) (fun i=>[(0,⟨1,.row true 1 ((swp P X M Y Q i).map encI)⟩)]) (fun _=>True) (by simp only[roomB];omega) ?_
 simp only[go_sem]
 refine⟨?_,trivial,?_,?_⟩
 ·simp only[go_sem]
 ·intro i x hx _ h0 h1 hw
  have hi:=Kg hx
  obtain⟨y,hy⟩:=Kb (show i<Y.length by omega)
  obtain⟨e1,e2⟩:=swp_two (P:=P) (M:=M) (Q:=Q) (f:=encI) hx hy
  have hlen:=swp_len (P:=P) (X:=X) (M:=M) (Y:=Y) (Q:=Q) (i:=i) hY.symm
  rw[e1,e2]
  generalize hAe:(P++Y.take i).map encI=A at e1 e2
  generalize hBe:(X.drop (i+1)++M++X.take i).map encI=B at e1 e2
  generalize hCe:(Y.drop (i+1)++Q).map encI=C at e1 e2
  have hA:A.length=a+i:=by subst hAe;simp;omega
  have hB:(a+i)+1+B.length=b+i:=by subst hBe;simp;omega
  have hC:C.length=Y.length-(i+1)+Q.length:=by subst hCe;simp
  obtain⟨g1,g2,s1,s2,hL,d1,d2⟩:=K5r (C:=C) hA hB
  have hL':∀e e',(two A e B e' C).length=N:=fun e e'=>by rw[hL];omega
  have k1:(0:Int)≤((a+i:Nat):Int):=by omega
  have k2:((a+i:Nat):Int)<(N:Int):=by omega
  have k3:(0:Int)≤((b+i:Nat):Int):=by omega
  have k4:((b+i:Nat):Int)<(N:Int):=by omega
  have k5:¬b+i=a+i:=by omega
  simp only[go_sem,g1,g2,s1,s2,hL',hw,h1,wN (a:=a) (b:=i) (by omega),wN (a:=b) (b:=i) (by omega),k1,k2,k3,k4]
 ·intro _
  simp only[go_sem]
def RotZ(P X Y Q:List Int)(m:Nat)(d:List Int)(i j:Nat):Prop:=
 ∃C X' Y' D,d=P++C++X'++Y'++D++Q∧X'.length=i∧Y'.length=j∧P.length+C.length+i=m∧C++Y'++X'++D=Y++X∧0<i∧0<j
theorem RotZ.gt{P X Y Q:List Int}{m:Nat}{d:List Int}{i j:Nat}(h:RotZ P X Y Q m d i j)(hij:j<i):
  ∃P' X1 M Y' Q',d=P'++X1++M++Y'++Q'∧P'.length=m-i∧(P'++X1++M).length=m∧X1.length=j∧Y'.length=j∧RotZ P X Y Q m (P'++Y'++M++X1++Q') (i-j) j:=by
 obtain⟨C,X',Y',D,rfl,rfl,rfl,h3,h4,h5,h6⟩:=h
 obtain⟨X1,X2,rfl,hX1⟩:∃X1 X2,X'=X1++X2∧X1.length=Y'.length:=⟨X'.take Y'.length,X'.drop Y'.length,(List.take_append_drop _ _).symm,by simp;omega⟩
 simp only[List.length_append]at*
 exact⟨P++C,X1,X2,Y',D++Q,by simp,by simp;omega,by simp;omega,hX1,rfl,C++Y',X2,X1,D,by simp,by omega,by omega,by simp;omega,by rw[←h4];simp,by omega,by omega⟩
theorem RotZ.le{P X Y Q:List Int}{m:Nat}{d:List Int}{i j:Nat}(h:RotZ P X Y Q m d i j)(hij:i<j):
  ∃P' X' M Y2 Q',d=P'++X'++M++Y2++Q'∧P'.length=m-i∧(P'++X'++M).length=m+j-i∧X'.length=i∧Y2.length=i∧RotZ P X Y Q m (P'++Y2++M++X'++Q') i (j-i):=by
 obtain⟨C,X',Y',D,rfl,rfl,rfl,h3,h4,h5,h6⟩:=h
 obtain⟨Y1,Y2,rfl,hY2⟩:∃Y1 Y2,Y'=Y1++Y2∧Y2.length=X'.length:=⟨Y'.take (Y'.length-X'.length),Y'.drop (Y'.length-X'.length),(List.take_append_drop _ _).symm,by simp;omega⟩
 simp only[List.length_append]at*
 exact⟨P++C,X',Y1,Y2,D++Q,by simp,by simp;omega,by simp;omega,rfl,hY2,C,Y2,Y1,X'++D,by simp,by omega,by omega,by omega,by rw[←h4];simp,by omega,by omega⟩
theorem RotZ.eq{P X Y Q:List Int}{m:Nat}{d:List Int}{i:Nat}(h:RotZ P X Y Q m d i i):
  ∃P' X' Y' Q',d=P'++X'++[]++Y'++Q'∧P'.length=m-i∧(P'++X'++[]).length=m∧X'.length=i∧Y'.length=i∧P'++Y'++[]++X'++Q'=P++Y++X++Q:=by
 obtain⟨C,X',Y',D,rfl,rfl,h2,h3,h4,h5,h6⟩:=h
 refine⟨P++C,X',Y',D++Q,by simp,by simp;omega,by simp;omega,rfl,h2,?_⟩
 have:=congrArg (fun l=>P++(l++Q)) h4
 simpa using this
theorem RotZ.len{P X Y Q:List Int}{m:Nat}{d:List Int}{i j:Nat}(h:RotZ P X Y Q m d i j):d.length=(P++X++Y++Q).length∧i≤m∧m+j≤d.length∧0<i∧0<j:=by
 obtain⟨C,X',Y',D,rfl,rfl,rfl,h3,h4,h5,h6⟩:=h
 have:=congrArg List.length h4
 simp at this ⊢
 omega
theorem RotZ.start{P X Y Q:List Int}{m i j:Nat}(hm:P.length+X.length=m)(hi:X.length=i)(hj:Y.length=j)(hX:0<X.length)(hY:0<Y.length):RotZ P X Y Q m (P++X++Y++Q) i j:=
 ⟨[],X,Y,[],by simp,hi,hj,by simp;omega,by simp,by omega,by omega⟩
def M3g:MC:=Y30 N2s
theorem Cj(P X Y Q:List Int)(f:FuncId){cs:List T}{a m b:Nat}(ha:P.length=a)(hm:(P++X).length=m)(hb:(P++X++Y).length=b)(hX:0<X.length)(hY:0<Y.length):CtrI Tryz.prog N3k [oL 1 ((P++X++Y++Q).map encI),iI a,iI m,iI b,fC f cs] [some (1,(P++Y++X++Q).map encI)] []:=by
 refine Ky (M:=M3g) (m:=0) (n:=58) (res:=[]) hmix Tryz.func407 rfl (by kernel_rfl) rfl (by kernel_rfl) (by kernel_rfl) (Nat.le_of_ble_eq_true rfl) rfl rfl ?_;unfold M3g
 intro hbd
 have hl:=Kv hbd
 clear hbd
 have hN2:(P++Y++X++Q).length=(P++X++Y++Q).length:=by simp;omega
 have hm':m=a+X.length:=by rw[←hm,←ha];simp
 have hb':b=m+Y.length:=by rw[←hb,←hm];simp;omega
 have hbN:b≤(P++X++Y++Q).length:=by rw[List.length_append,hb];omega
 generalize hN:(P++X++Y++Q).length=N at*
 simp only[roomB]at hl
 simp only[go_sem,hN,wS (a:=m) (b:=a) (by omega) (by omega),wS (a:=b) (b:=m) (by omega) (by omega)]
 refine Kj (ι:=List Int×Nat×Nat) (fun s=>[(10,vI s.2.1),(11,vI s.2.2)]) (fun s=>[(0,⟨1,.row true 1 (s.1.map encI)⟩)]) (fun s=>RotZ P X Y Q m s.1 s.2.1 s.2.2) (fun s=>s.2.1+s.2.2) (P++X++Y++Q,m-a,b-m) ?_
 simp only[go_sem]
 refine⟨?_,RotZ.start (by omega) (show X.length=m-a by omega) (show Y.length=b-m by omega) hX hY,?_⟩
 ·simp only[go_sem]
 ·rintro ⟨d,i,j⟩ hI
  simp only at hI
  obtain⟨hd,h1,h2,h3,h4⟩:=hI.len
  rw[hN]at hd
  simp only[go_sem,hd]
  refine⟨fun hne=>⟨fun hgt=>?_,fun hle=>?_⟩,fun heq=>?_⟩
  ·obtain⟨P',X1,M,Y',Q',rfl,k1,k2,k3,k4,hR⟩:=hI.gt (by omega)
   have hd2:=hR.len.1
   rw[hN]at hd2
   rw[wS h1 (by omega)]
   apply K7 (C3o P' X1 M Y' Q' f k1 k2 k3 k4)
   simp only[go_sem,wS (a:=i) (b:=j) (by omega) (by omega)]
   exact⟨(_,i-j,j),⟨⟨rfl,rfl⟩,rfl⟩,hR,by show i-j+j<i+j;omega⟩
  ·obtain⟨P',X1,M,Y',Q',rfl,k1,k2,k3,k4,hR⟩:=hI.le (by omega)
   have hd2:=hR.len.1
   rw[hN]at hd2
   rw[wS h1 (by omega),wN (by omega),wS (a:=m+j) (b:=i) (by omega) (by omega)]
   apply K7 (C3o P' X1 M Y' Q' f k1 k2 k3 k4)
   simp only[go_sem,wS (a:=j) (b:=i) (by omega) (by omega)]
   exact⟨(_,i,j-i),⟨⟨rfl,rfl⟩,rfl⟩,hR,by show i+(j-i)<i+j;omega⟩
  ·obtain rfl:i=j:=by omega
   obtain⟨P',X1,Y',Q',rfl,k1,k2,k3,k4,hR⟩:=hI.eq
   rw[wS h1 (by omega)]
   apply K7 (C3o P' X1 [] Y' Q' f k1 k2 k3 k4)
   rw[hR]
   simp only[go_sem]
def ltz(c:Int→Int→Int)(x y:Int):Bool:=decide (c x y<0)
def InsZ(lt:Int→Int→Bool)(P S R:List Int)(x:Int)(d:List Int)(j:Nat):Prop:=
 ∃s1 s2,d=P++s1++x::s2++R∧P.length+s1.length=j∧s1++s2=S∧∀y∈s2,lt x y=true
theorem InsZ.len{lt:Int→Int→Bool}{P S R:List Int}{x:Int}{d:List Int}{j:Nat}(h:InsZ lt P S R x d j):d.length=P.length+S.length+1+R.length∧P.length≤j∧j≤P.length+S.length:=by
 obtain⟨s1,s2,rfl,rfl,rfl,h⟩:=h
 simp;omega
theorem InsZ.done{lt:Int→Int→Bool}(hw:Srt.Swo lt){P S R:List Int}{x:Int}{d:List Int}{j:Nat}(h:InsZ lt P S R x d j)(hs:Srt.srt lt S)(hj:j=P.length∨∀z∈d[j-1]?,lt x z=false):d=P++Srt.ins lt x S++R:=by
 obtain⟨s1,s2,rfl,rfl,rfl,h⟩:=h
 rw[Srt.ins_mid]
 ·simp
 ·intro y hy
  rcases List.eq_nil_or_concat s1 with rfl|⟨s,z,rfl⟩
  ·simp at hy
  ·rcases hj with hj|hj
   ·simp at hj
   ·rw[List.concat_eq_append]at*
    have hz:lt x z=false:=hj z (by simp[])
    rcases List.mem_append.1 hy with k|k
    ·have:=(Srt.srt_append.1 (Srt.srt_append.1 hs).1).2.2 y k z (by simp)
     exact hw.ntr hz this
    ·obtain rfl:=List.mem_singleton.1 k
     exact hz
 ·intro y hy
  exact h y (List.mem_of_mem_head? hy)
theorem InsZ.step{lt:Int→Int→Bool}{P S R:List Int}{x:Int}{d:List Int}{j:Nat}(h:InsZ lt P S R x d j)(hj:P.length<j):
  ∃A z C,d=A++z::([]++x::C)∧A.length=j-1∧d[j-1]? =some z∧(lt x z=true→InsZ lt P S R x (A++x::([]++z::C)) (j-1)):=by
 obtain⟨s1,s2,rfl,rfl,rfl,h⟩:=h
 rcases List.eq_nil_or_concat s1 with rfl|⟨s,z,rfl⟩
 ·simp at hj
 ·rw[List.concat_eq_append]at*
  refine⟨P++s,z,s2++R,by simp,by simp,by simp[],fun hl=>⟨s,z::s2,by simp,by simp,by simp,?_⟩⟩
  intro y hy
  rcases List.mem_cons.1 hy with rfl|k
  ·exact hl
  ·exact h y k
def M1x:MC:=
(Zs [mS 10 1,bC 11 .add 10 1,mS 8 11] [0,1,2,3,8] (.block 0 (.loop ([0,1,2,3,8],[]) (.seq (Zs [mS 12 8,mS 13 2,bS 14 .lss 12 13] [0,1,2,3,8,14] (cX 14 0))
(.seq (.block 1 (Zs [mS 17 8,mS 9 17] [0,1,2,3,8,9] (.block 2 (.loop ([0,1,2,3,8,9],[]) (.seq (.seq (.dreg [Zc [19] (mS 18 9),Zc [18] (mS 19 1),Ze [0,1] (bS 20 .gtr 18 19),Ze [0,1,2] (mS 21 20),{o:=mS 22 3,g:=some (21,true),hs:=[23,24,25,26,27,28,29,30,31],bf:=(.range 4)},{o:=mS 23 0,g:=some (21,true),hs:=[22,24,27,28,29,30,31],bf:=(.range 4)},{o:=mS 24 9,g:=some (21,true),hs:=[22,23,27,28,29,30,31],bf:=(.range 4)},{o:=xS 25 1 23 24,g:=some (21,true),hs:=[22,27,28,29,30,31],bf:=[0,1,2,3,5,6]},{o:=lF 26 1 25,g:=some (21,true),hs:=[22,27,28,29,30,31],bf:=[0,1,2,3,5,6,7]},{o:=mS 27 0,g:=some (21,true),hs:=[22,23,24,25,26,28,29],bf:=(.range 4)},{o:=mS 28 9,g:=some (21,true),hs:=[22,23,24,25,26,27],bf:=(.range 4)},{o:=bC 29 .sub 28 1,g:=some (21,true),hs:=[22,23,24,25,26,27],bf:=[0,1,2,3,10]},{o:=xS 30 1 27 29,g:=some (21,true),hs:=[22,23,24,25,26],bf:=[0,1,2,3,9,10,11]},{o:=lF 31 1 30,g:=some (21,true),hs:=[22,23,24,25,26],bf:=[0,1,2,3,9,10,11,12]},{o:= .call 32 [] (.s 22) [.s 26,.s 31],g:=some (21,true),bf:=(.range 14)},{o:=bC 33 .lss 32 0,g:=some (21,true),bf:=(.range 15)},Ze (.range 16) (.pick 34 (.s 21) (.s 33) cF)] [0,1,2,3,8,9,34])
(cX 34 2))
(.seq (.block 3 (.dreg [Zc [38,39,40,41,42,43,44,45,46,47,48,49,50] (mS 37 0),Zc [37,39,40,41,42,43,44,45,46,47,48,49,50] (mS 38 9),Zf [37,38,40,41,42,43,44,45,46,47,48,49,50,51] [0] (mS 39 0),Zf [37,38,39,42,43,44,45,46,47,48,49,50,51] [0] (mS 40 9),Zg [37,38,39,42,43,44,45,46,47,48,49,50,51] [0] [3] (bC 41 .sub 40 1),Zc [37,38,39,40,41,43,44,47,48,49,50] (mS 42 0),Zc [37,38,39,40,41,42,47,48,49,50] (mS 43 9),Zd [37,38,39,40,41,42,47,48,49,50] [6] (bC 44 .sub 43 1),Zd [37,38,39,40,41,47,48,49,50] [5,6,7] (xS 45 1 42 44),Zd [37,38,39,40,41,47,48,49,50] [5,6,7,8] (lF 46 1 45),Zc [37,38,39,40,41,42,43,44,45,46,48] (mS 47 0),Zc [37,38,39,40,41,42,43,44,45,46,47] (mS 48 9),Zd [37,38,39,40,41,42,43,44,45,46] [10,11] (xS 49 1 47 48),Zd [37,38,39,40,41,42,43,44,45,46] [10,11,12] (lF 50 1 49),Zd [39,40,41] [0,1,5,6,7,8,9,10,11,12,13] (xS 51 1 37 38),{o:=sS 1 51 46,hs:=[39,40,41],ws:=[0],bf:=[0,1,5,6,7,8,9,10,11,12,13,14]},Ze (.range 16) (xS 52 1 39 41),{o:=sS 1 52 50,ws:=[0],bf:=(.range 17)}] [0,1,2,3,8,9]))
(pr [mS 35 9,bC 36 .sub 35 1,mS 9 36] [0,1,2,3,8,9])))))))
(pr [mS 15 8,bC 16 .add 15 1,mS 8 16] [0,1,2,3,8]))))))
theorem C4o(P X Q:List Int)(f:FuncId){cs:List T}(c:Int→Int→Int)(hc:∀x y,Ctr Tryz.prog f (aI x::aI y::cs.map (fun t=>(false,[t]))) [rI (c x y)])(hw:Srt.Swo (ltz c)){a b:Nat}(ha:P.length=a)(hb:(P++X).length=b):CtrI Tryz.prog N21 [oL 1 ((P++X++Q).map encI),iI a,iI b,fC f cs] [some (1,(P++Srt.isort (ltz c) X++Q).map encI)] []:=by
 have hlk:∀k,(P++Srt.isort (ltz c) (X.take k)++(X.drop k++Q)).length=(P++X++Q).length:=fun k=>by simp[Srt.len_isort];omega
 refine Ky (M:=M1x) (m:=0) (n:=53) (res:=[]) hmix Tryz.func392 rfl (by kernel_rfl) rfl (by kernel_rfl) (by kernel_rfl) (Nat.le_of_ble_eq_true rfl) rfl rfl ?_;unfold M1x
 intro hbd
 have hl:=Kv hbd
 clear hbd
 have hb':b=a+X.length:=by rw[←hb,←ha];simp
 have hbN:b≤(P++X++Q).length:=by rw[List.length_append,hb];omega
 generalize hN:(P++X++Q).length=N at*
 simp only[roomB]at hl
 simp only[go_sem,hN,wN1 (a:=a) (by omega)]
 refine Kj (fun k:Nat=>[(8,vI ((a+k:Nat):Int))]) (fun k=>[(0,⟨1,.row true 1 ((P++Srt.isort (ltz c) (X.take k)++(X.drop k++Q)).map encI)⟩)]) (fun k=>1≤k∧(k≤X.length∨k=1)) (fun k=>X.length-k) 1 ?_
 simp only[go_sem]
 refine⟨?_,⟨by omega,by omega⟩,?_⟩
 ·simp only[go_sem]
  cases X with
  |nil=>simp[Srt.isort,Srt.mrg]
  |cons x X=>simp[Srt.isort,Srt.mrg,Srt.ins]
 ·rintro k ⟨h1,h2⟩
  simp only[go_sem]
  refine⟨fun hlt=>?_,fun hge=>?_⟩
  ·obtain⟨x,hx⟩:=Kb (show k<X.length by omega)
   refine Kj (ι:=List Int×Nat) (fun s=>[(9,vI s.2)]) (fun s=>[(0,⟨1,.row true 1 (s.1.map encI)⟩)]) (fun s=>InsZ (ltz c) P (Srt.isort (ltz c) (X.take k)) (X.drop (k+1)++Q) x s.1 s.2) (fun s=>s.2) (P++Srt.isort (ltz c) (X.take k)++(X.drop k++Q),a+k) ?_
   simp only[go_sem]
   refine⟨?_,⟨Srt.isort (ltz c) (X.take k),[],by simp[Ki hx],by simp[Srt.len_isort];omega,by simp,by simp⟩,?_⟩
   ·simp only[go_sem]
   ·rintro ⟨d,j⟩ hI
    simp only at hI
    obtain⟨hd,h3,h4⟩:=hI.len
    have hdN:d.length=N:=by
     have:=hlk k
     simp[Ki hx]at this hd
     omega
    have hdone:(j=P.length∨∀z∈d[j-1]?,ltz c x z=false)→d.map encI=(P++Srt.isort (ltz c) (X.take (k+1))++(X.drop (k+1)++Q)).map encI:=fun h=>by
     rw[hI.done hw (Srt.srt_isort hw _) h,Kc hx,Srt.isort_snoc]
    by_cases hj:P.length<j
    ·obtain⟨A,z,C,e,k1,k2,k3⟩:=hI.step hj
     have e':d.map encI=two (A.map encI) (encI z) [] (encI x) (C.map encI):=by subst e;simp[two]
     have e2:(A++x::([]++z::C)).map encI=two (A.map encI) (encI x) [] (encI z) (C.map encI):=by simp[two]
     obtain⟨g1,g2,s1,s2,hL,d1,d2⟩:=K5r (A:=A.map encI) (B:=[]) (C:=C.map encI) (p:=j-1) (q:=j) (by simpa using k1) (by simp;omega)
     have hL':∀u v,(two (A.map encI) u [] v (C.map encI)).length=N:=fun u v=>by
      rw[←hdN,hL,e];simp;omega
     rw[e']
     have j0:(j:Int)>(a:Int):=by omega
     have j1:(0:Int)≤(j:Int):=by omega
     have j2:(j:Int)<(N:Int):=by omega
     have j3:(0:Int)≤((j-1:Nat):Int):=by omega
     have j4:((j-1:Nat):Int)<(N:Int):=by omega
     simp only[go_sem,hL',g1,g2,j0,j1,j2,j3,j4,wS1 (a:=j) (by omega) (by omega)]
     apply K0 (hc x z)
     simp only[go_sem,hL',g1,g2,s1,s2,j1,j2,j3,j4,wS1 (a:=j) (by omega) (by omega),wN1 (a:=a+k) (by omega)]
     intro _
     refine⟨fun hn=>⟨(A++x::([]++z::C),j-1),⟨rfl,e2.symm⟩,k3 (by simpa[ltz]using hn),by show j-1<j;omega⟩,fun hn=>?_⟩
     have hz:ltz c x z=false:=by simpa[ltz]using hn
     have:=hdone (.inr (by rw[k2];intro y hy;obtain rfl:=Option.some.inj hy;exact hz))
     rw[e']at this
     exact⟨k+1,⟨rfl,this⟩,⟨by omega,by omega⟩,by omega⟩
    ·have j0:¬(j:Int)>(a:Int):=by omega
     simp only[go_sem,j0,wN1 (a:=a+k) (by omega)]
     have:=hdone (.inl (by omega))
     exact⟨k+1,⟨rfl,this⟩,⟨by omega,by omega⟩,by omega⟩
  ·have hk:X.length≤k:=by omega
   rw[List.take_of_length_le hk,List.drop_of_length_le hk,List.nil_append]
def SymZ(lt:Int→Int→Bool)(X Y:List Int)(M u0 v0 u v:Nat):Prop:=
 u0≤u∧u≤v∧v≤v0∧(u=0∨Y.length≤M-u∨∃y x,Y[M-u]? =some y∧X[u-1]? =some x∧lt y x=false)∧
  (v=M∨v=X.length∨∃y x,Y[M-1-v]? =some y∧X[v]? =some x∧lt y x=true)
theorem SymZ.fin{lt:Int→Int→Bool}(hw:Srt.Swo lt){X Y:List Int}{M u0 v0 u:Nat}(h:SymZ lt X Y M u0 v0 u u)(hX:Srt.srt lt X)(hY:Srt.srt lt Y)(q2:v0≤M)(q3:v0≤X.length)(q4:M≤u0+Y.length):
  ∃A1 A2 B1 B2,X=A1++A2∧Y=B1++B2∧A1.length=u∧B1.length=M-u∧u≤M∧Srt.mrg lt X Y=Srt.mrg lt A1 B1++Srt.mrg lt A2 B2∧Srt.srt lt A1∧Srt.srt lt A2∧Srt.srt lt B1∧Srt.srt lt B2:=by
 obtain⟨h1,h2,h3,h4,h5⟩:=h
 have e:=Srt.mrg_sym hw hX hY (by omega) (by omega) h4 h5
 have sX:=Srt.srt_append.1 ((List.take_append_drop u X).symm▸hX)
 have sY:=Srt.srt_append.1 ((List.take_append_drop (M-u) Y).symm▸hY)
 exact⟨X.take u,X.drop u,Y.take (M-u),Y.drop (M-u),(List.take_append_drop _ _).symm,(List.take_append_drop _ _).symm,by simp;omega,by simp;omega,by omega,e,sX.1,sX.2.1,sY.1,sY.2.1⟩
theorem symZL(lt:Int→Int→Bool){P A1 A2 B1 B2 Q:List Int}{a m b M u N n:Nat}(ha:P.length=a)(hA1:A1.length=u)(hB1:B1.length=M-u)(huM:u≤M)(hm:m=a+(A1++A2).length)(hb:b=m+(B1++B2).length)
  (hN:(P++(A1++A2)++(B1++B2)++Q).length=N) (hM:M=((A1++A2).length+(B1++B2).length)/2) (hn:(A1++A2).length+(B1++B2).length≤n+1) (h1:¬((m-a:Nat):Int)=1) (h2:¬((b-m:Nat):Int)=1) (hX:0<(A1++A2).length) (hY:0<(B1++B2).length):
  ((P++A1++B1++A2++(B2++Q)).length=N∧(P++A1++A2++B1++(B2++Q)).length=N∧(P++A1++B1++(A2++(B2++Q))).length=N∧(P++Srt.mrg lt A1 B1++A2++B2++Q).length=N∧(P++Srt.mrg lt A1 B1++(A2++(B2++Q))).length=N∧(P++Srt.mrg lt A1 B1++Srt.mrg lt A2 B2++Q).length=N)∧
  ((P++A1).length=a+u∧(P++A1++A2).length=m∧(P++A1++A2++B1).length=m+(M-u)∧(P++A1++B1).length=a+M∧(P++Srt.mrg lt A1 B1).length=a+M∧(P++Srt.mrg lt A1 B1++A2).length=m+(M-u)∧(P++Srt.mrg lt A1 B1++A2++B2).length=b)∧
  A1.length+B1.length≤n∧A2.length+B2.length≤n∧
  (m=a+u+A2.length∧m+(M-u)=m+B1.length∧a+u=a+A1.length∧a+M=a+u+B1.length∧m+(M-u)=a+M+A2.length∧b=m+(M-u)+B2.length)∧
  ((0<A1.length∧0<A2.length∧0<B1.length∧0<B2.length)∨(A1.length=0∧0<A2.length∧0<B1.length∧0<B2.length)∨(0<A1.length∧A2.length=0∧0<B1.length∧0<B2.length)∨(0<A1.length∧0<A2.length∧B1.length=0∧0<B2.length)∨(0<A1.length∧0<A2.length∧0<B1.length∧B2.length=0)∨(A1.length=0∧0<A2.length∧0<B1.length∧B2.length=0)∨(0<A1.length∧A2.length=0∧B1.length=0∧0<B2.length)):=by
 simp only[List.length_append,Srt.len_mrg]at*
 have h7:=sym7 (u:=A1.length) (l2:=A2.length) (k:=B1.length) (l4:=B2.length) (M:=M) (by omega) (by omega) (by omega) (by omega) (by omega)
 refine⟨⟨?_,?_,?_,?_,?_,?_⟩,⟨?_,?_,?_,?_,?_,?_,?_⟩,?_,?_,⟨?_,?_,?_,?_,?_,?_⟩,h7⟩<;>clear h7<;>omega
def M2y:MC:=
(.seq (Zs [mS 25 2,mS 26 1,bS 27 .sub 25 26,bC 28 .eql 27 1] [0,1,2,3,4,28] (.cond (.s 28) (Zs [mS 29 2,mS 10 29] [0,1,3,4,10] (Zs [mS 30 3,mS 11 30] [0,1,4,10,11] (.seq (.block 0 (.loop ([0,1,4,10,11],[]) (.seq (Zs [mS 31 10,mS 32 11,bS 33 .lss 31 32] [0,1,4,10,11,33] (cX 33 0))
(.block 1 (Zs [mS 34 10,mS 35 11,bS 36 .add 34 35,.convI 37 .u64 (.s 36),.bin 38 false .shr (.s 37) (.c (.int .u64 1)),.convI 39 .i64 (.s 38),mS 12 39] [0,1,4,10,11,12] (.seq (.dreg [Zc [41,42,43,44,45,46,47,48] (mS 40 4),Zc [40,42,45,46,47,48] (mS 41 0),Zc [40,41,45,46,47,48] (mS 42 12),Zd [40,45,46,47,48] [1,2] (xS 43 1 41 42),Zd [40,45,46,47,48] [1,2,3] (lF 44 1 43),Zc [40,41,42,43,44,46] (mS 45 0),Zc [40,41,42,43,44,45] (mS 46 1),Zd [40,41,42,43,44] [5,6] (xS 47 1 45 46),Zd [40,41,42,43,44] [5,6,7] (lF 48 1 47),Ze (.range 9) (.call 49 [] (.s 40) [.s 44,.s 48]),Ze (.range 10) (bC 50 .lss 49 0)] [0,1,4,10,11,12,50])
(.cond (.s 50) (pr [mS 51 12,bC 52 .add 51 1,mS 10 52] [0,1,4,10,11]) (pr [mS 53 12,mS 11 53] [0,1,4,10,11]))))))))
(.seq (Zs [mS 54 1,mS 13 54] [0,10,13] (.block 2 (.loop ([0,10,13],[]) (.seq (Zs [mS 55 13,mS 56 10,bC 57 .sub 56 1,bS 58 .lss 55 57] [0,10,13,58] (cX 58 2))
(.seq (.block 3 (.dreg [Zc [62,63,64,65,66,67,68,69,70,71,72,73,74] (mS 61 0),Zc [61,63,64,65,66,67,68,69,70,71,72,73,74] (mS 62 13),Zf [61,62,64,65,66,67,68,69,70,71,72,73,74,75] [0] (mS 63 0),Zf [61,62,63,66,67,68,69,70,71,72,73,74,75] [0] (mS 64 13),Zg [61,62,63,66,67,68,69,70,71,72,73,74,75] [0] [3] (bC 65 .add 64 1),Zc [61,62,63,64,65,67,68,71,72,73,74] (mS 66 0),Zc [61,62,63,64,65,66,71,72,73,74] (mS 67 13),Zd [61,62,63,64,65,66,71,72,73,74] [6] (bC 68 .add 67 1),Zd [61,62,63,64,65,71,72,73,74] [5,6,7] (xS 69 1 66 68),Zd [61,62,63,64,65,71,72,73,74] [5,6,7,8] (lF 70 1 69),Zc [61,62,63,64,65,66,67,68,69,70,72] (mS 71 0),Zc [61,62,63,64,65,66,67,68,69,70,71] (mS 72 13),Zd [61,62,63,64,65,66,67,68,69,70] [10,11] (xS 73 1 71 72),Zd [61,62,63,64,65,66,67,68,69,70] [10,11,12] (lF 74 1 73),Zd [63,64,65] [0,1,5,6,7,8,9,10,11,12,13] (xS 75 1 61 62),{o:=sS 1 75 70,hs:=[63,64,65],ws:=[0],bf:=[0,1,5,6,7,8,9,10,11,12,13,14]},Ze (.range 16) (xS 76 1 63 65),{o:=sS 1 76 74,ws:=[0],bf:=(.range 17)}] [0,10,13]))
(pr [mS 59 13,bC 60 .add 59 1,mS 13 60] [0,10,13]))))))
.ret)))) .skip))
(.seq (Zs [mS 77 3,mS 78 2,bS 79 .sub 77 78,bC 80 .eql 79 1] [0,1,2,3,4,80] (.cond (.s 80) (Zs [mS 81 1,mS 14 81] [0,2,4,14] (Zs [mS 82 2,mS 15 82] [0,2,4,14,15] (.seq (.block 4 (.loop ([0,2,4,14,15],[]) (.seq (Zs [mS 83 14,mS 84 15,bS 85 .lss 83 84] [0,2,4,14,15,85] (cX 85 4))
(.block 5 (Zs [mS 86 14,mS 87 15,bS 88 .add 86 87,.convI 89 .u64 (.s 88),.bin 90 false .shr (.s 89) (.c (.int .u64 1)),.convI 91 .i64 (.s 90),mS 16 91] [0,2,4,14,15,16] (.seq (.dreg [Zc [93,94,95,96,97,98,99,100] (mS 92 4),Zc [92,94,97,98,99,100] (mS 93 0),Zc [92,93,97,98,99,100] (mS 94 2),Zd [92,97,98,99,100] [1,2] (xS 95 1 93 94),Zd [92,97,98,99,100] [1,2,3] (lF 96 1 95),Zc [92,93,94,95,96,98] (mS 97 0),Zc [92,93,94,95,96,97] (mS 98 16),Zd [92,93,94,95,96] [5,6] (xS 99 1 97 98),Zd [92,93,94,95,96] [5,6,7] (lF 100 1 99),Ze (.range 9) (.call 101 [] (.s 92) [.s 96,.s 100]),Ze (.range 10) (bC 102 .lss 101 0),Ze (.range 11) (.un 103 .not (.s 102))] [0,2,4,14,15,16,103])
(.cond (.s 103) (pr [mS 104 16,bC 105 .add 104 1,mS 14 105] [0,2,4,14,15]) (pr [mS 106 16,mS 15 106] [0,2,4,14,15]))))))))
(.seq (Zs [mS 107 2,mS 17 107] [0,14,17] (.block 6 (.loop ([0,14,17],[]) (.seq (Zs [mS 108 17,mS 109 14,bS 110 .gtr 108 109] [0,14,17,110] (cX 110 6))
(.seq (.block 7 (.dreg [Zc [114,115,116,117,118,119,120,121,122,123,124,125,126] (mS 113 0),Zc [113,115,116,117,118,119,120,121,122,123,124,125,126] (mS 114 17),Zf [113,114,116,117,118,119,120,121,122,123,124,125,126,127] [0] (mS 115 0),Zf [113,114,115,118,119,120,121,122,123,124,125,126,127] [0] (mS 116 17),Zg [113,114,115,118,119,120,121,122,123,124,125,126,127] [0] [3] (bC 117 .sub 116 1),Zc [113,114,115,116,117,119,120,123,124,125,126] (mS 118 0),Zc [113,114,115,116,117,118,123,124,125,126] (mS 119 17),Zd [113,114,115,116,117,118,123,124,125,126] [6] (bC 120 .sub 119 1),Zd [113,114,115,116,117,123,124,125,126] [5,6,7] (xS 121 1 118 120),Zd [113,114,115,116,117,123,124,125,126] [5,6,7,8] (lF 122 1 121),Zc [113,114,115,116,117,118,119,120,121,122,124] (mS 123 0),Zc [113,114,115,116,117,118,119,120,121,122,123] (mS 124 17),Zd [113,114,115,116,117,118,119,120,121,122] [10,11] (xS 125 1 123 124),Zd [113,114,115,116,117,118,119,120,121,122] [10,11,12] (lF 126 1 125),Zd [115,116,117] [0,1,5,6,7,8,9,10,11,12,13] (xS 127 1 113 114),{o:=sS 1 127 122,hs:=[115,116,117],ws:=[0],bf:=[0,1,5,6,7,8,9,10,11,12,13,14]},Ze (.range 16) (xS 128 1 115 117),{o:=sS 1 128 126,ws:=[0],bf:=(.range 17)}] [0,14,17]))
(pr [mS 111 17,bC 112 .sub 111 1,mS 17 112] [0,14,17]))))))
.ret)))) .skip))
(Zs [mS 129 1,mS 130 3,bS 131 .add 129 130,.convI 132 .u64 (.s 131),.bin 133 false .shr (.s 132) (.c (.int .u64 1)),.convI 134 .i64 (.s 133),mS 18 134] [0,1,2,3,4,18] (Zs [mS 135 18,mS 136 2,bS 137 .add 135 136,mS 19 137] [0,1,2,3,4,18,19] (Zs [.mv 20 (ci 0),.mv 21 (ci 0)] [0,1,2,3,4,18,19] (.seq (Zs [mS 138 2,mS 139 18,bS 140 .gtr 138 139] [0,1,2,3,4,18,19,140] (.cond (.s 140) (Zs [mS 141 19,mS 142 3,bS 143 .sub 141 142,mS 20 143] [0,1,2,3,4,18,19,20] (pr [mS 144 18,mS 21 144] [0,1,2,3,4,18,19,20,21])) (Zs [mS 145 1,mS 20 145] [0,1,2,3,4,18,19,20] (pr [mS 146 2,mS 21 146] [0,1,2,3,4,18,19,20,21]))))
(Zs [mS 147 19,bC 148 .sub 147 1,mS 22 148] [0,1,2,3,4,18,19,20,21,22] (.seq (.block 8 (.loop ([0,1,2,3,4,18,19,20,21,22],[]) (.seq (Zs [mS 149 20,mS 150 21,bS 151 .lss 149 150] [0,1,2,3,4,18,19,20,21,22,151] (cX 151 8))
(.block 9 (Zs [mS 152 20,mS 153 21,bS 154 .add 152 153,.convI 155 .u64 (.s 154),.bin 156 false .shr (.s 155) (.c (.int .u64 1)),.convI 157 .i64 (.s 156),mS 23 157] [0,1,2,3,4,18,19,20,21,22,23] (.seq (.dreg [Zc [159,160,161,162,163,164,165,166,167,168] (mS 158 4),Zc [158,160,161,162,165,166,167,168] (mS 159 0),Zc [158,159,161,165,166,167,168] (mS 160 22),Zc [158,159,160,165,166,167,168] (mS 161 23),Zd [158,159,165,166,167,168] [2,3] (bS 162 .sub 160 161),Zd [158,165,166,167,168] [1,2,3,4] (xS 163 1 159 162),Zd [158,165,166,167,168] [1,2,3,4,5] (lF 164 1 163),Zc [158,159,160,161,162,163,164,166] (mS 165 0),Zc [158,159,160,161,162,163,164,165] (mS 166 23),Zd [158,159,160,161,162,163,164] [7,8] (xS 167 1 165 166),Zd [158,159,160,161,162,163,164] [7,8,9] (lF 168 1 167),Ze (.range 11) (.call 169 [] (.s 158) [.s 164,.s 168]),Ze (.range 12) (bC 170 .lss 169 0),Ze (.range 13) (.un 171 .not (.s 170))] [0,1,2,3,4,18,19,20,21,22,23,171])
(.cond (.s 171) (pr [mS 172 23,bC 173 .add 172 1,mS 20 173] [0,1,2,3,4,18,19,20,21,22]) (pr [mS 174 23,mS 21 174] [0,1,2,3,4,18,19,20,21,22]))))))))
(Zs [mS 175 19,mS 176 20,bS 177 .sub 175 176,mS 24 177] [0,1,2,3,4,18,20,24] (.seq (.seq (.reg [Za (mS 178 20),Za (mS 179 2),Za (bS 180 .lss 178 179),Za (mS 181 180),Zb 181 true (mS 182 2),Zb 181 true (mS 183 24),Zb 181 true (bS 184 .lss 182 183),Za (.pick 185 (.s 181) (.s 184) cF)] [0,1,2,3,4,18,20,24,185])
(.cond (.s 185) (pr [mS 186 0,mS 187 20,mS 188 2,mS 189 24,mS 190 4,.callI 191 [] (.f N3k) [.s 186,.s 187,.s 188,.s 189,.s 190] [0] []] [0,1,3,4,18,20,24]) .skip))
(.seq (.seq (.reg [Za (mS 192 1),Za (mS 193 20),Za (bS 194 .lss 192 193),Za (mS 195 194),Zb 195 true (mS 196 20),Zb 195 true (mS 197 18),Zb 195 true (bS 198 .lss 196 197),Za (.pick 199 (.s 195) (.s 198) cF)] [0,1,3,4,18,20,24,199])
(.cond (.s 199) (pr [mS 200 0,mS 201 1,mS 202 20,mS 203 18,mS 204 4,.callI 205 [] (.f Nt) [.s 200,.s 201,.s 202,.s 203,.s 204] [0] []] [0,3,4,18,24]) .skip))
(.seq (.reg [Za (mS 206 18),Za (mS 207 24),Za (bS 208 .lss 206 207),Za (mS 209 208),Zb 209 true (mS 210 24),Zb 209 true (mS 211 3),Zb 209 true (bS 212 .lss 210 211),Za (.pick 213 (.s 209) (.s 212) cF)] [0,3,4,18,24,213])
(.cond (.s 213) (pr [mS 214 0,mS 215 18,mS 216 24,mS 217 3,mS 218 4,.callI 219 [] (.f Nt) [.s 214,.s 215,.s 216,.s 217,.s 218] [0] []] []) .skip)))))))))))))
set_option maxHeartbeats 4000000 in
theorem C98(f:FuncId){cs:List T}(c:Int→Int→Int)(hc:∀x y,Ctr Tryz.prog f (aI x::aI y::cs.map (fun t=>(false,[t]))) [rI (c x y)])(hw:Srt.Swo (ltz c))(n:Nat):∀(P X Y Q:List Int) {a m b:Nat},X.length+Y.length≤n→P.length=a→(P++X).length=m→(P++X++Y).length=b→0<X.length→0<Y.length→Srt.srt (ltz c) X→Srt.srt (ltz c) Y→
  CtrI Tryz.prog Nt [oL 1 ((P++X++Y++Q).map encI),iI a,iI m,iI b,fC f cs] [some (1,(P++Srt.mrg (ltz c) X Y++Q).map encI)] []:=by
 induction n with
 |zero=>intro P X Y Q a m b hn _ _ _ hX;omega
 |succ n ih=>
  intro P X Y Q a m b hn ha hm hb hX hY sX sY
  have hN2:(P++Srt.mrg (ltz c) X Y++Q).length=(P++X++Y++Q).length:=by simp[Srt.len_mrg];omega
  refine Ky (M:=M2y) (m:=0) (n:=220) (res:=[]) hmix Tryz.func393 rfl (by kernel_rfl) rfl (by kernel_rfl) (by kernel_rfl) (Nat.le_of_ble_eq_true rfl) rfl rfl ?_;unfold M2y
  intro hbd
  have hl:=Kv hbd
  clear hbd
  have hm':m=a+X.length:=by rw[←hm,←ha];simp
  have hb':b=m+Y.length:=by rw[←hb,←hm];simp;omega
  have hbN:b≤(P++X++Y++Q).length:=by rw[List.length_append,hb];omega
  generalize hN:(P++X++Y++Q).length=N at*
  simp only[roomB]at hl
  simp only[go_sem,hN,wS (a:=m) (b:=a) (by omega) (by omega)]
  refine⟨fun h1=>?_,fun h1=>?_⟩
  ·obtain⟨x,rfl⟩:∃x,X=[x]:=List.length_eq_one_iff.1 (by omega)
   simp only[List.length_cons,List.length_nil]at hm' hn
   have hxa:(P++[x]++Y++Q)[a]? =some x:=by rw[←ha];simp
   have hya:∀w,w<Y.length→(P++[x]++Y++Q)[m+w]? =Y[w]? :=fun w hw=>by
    rw[List.append_assoc,List.getElem?_append_right (by simp;omega),List.getElem?_append_left (by simp;omega)]
    congr 1;simp;omega
   refine Kj (ι:=Nat×Nat) (fun s=>[(10,vI ((m+s.1:Nat):Int)),(11,vI ((m+s.2:Nat):Int))]) (fun s=>[]) (fun s=>s.1≤s.2∧s.2≤Y.length∧(∀y∈Y.take s.1,ltz c y x=true)∧(∀y∈Y.drop s.2,ltz c y x=false)) (fun s=>s.2-s.1) (0,Y.length) ?_
   simp only[go_sem]
   refine⟨?_,⟨by omega,by omega,by simp,by simp⟩,?_⟩
   ·simp only[go_sem]
    exact⟨by omega,by omega⟩
   ·rintro ⟨u,v⟩ ⟨i1,i2,i3,i4⟩
    simp only at i1 i2 i3 i4
    simp only[go_sem,hN,shr1,K3s (i:=m+u) (j:=m+v) (by omega)]
    refine⟨fun hlt=>?_,fun hge=>?_⟩
    ·have hwx:(m+u+(m+v))/2=m+(u+v)/2:=by omega
     have w1:u≤(u+v)/2:=by omega
     have w2:(u+v)/2<v:=by omega
     rw[hwx]
     generalize (u+v)/2=w at w1 w2
     obtain⟨y,hy⟩:=Kb (show w<Y.length by omega)
     have hyw:=(hya w (by omega)).trans hy
     have k1:(0:Int)≤((m+w:Nat):Int):=by omega
     have k2:((m+w:Nat):Int)<(N:Int):=by omega
     have k3:(0:Int)≤(a:Int):=by omega
     have k4:(a:Int)<(N:Int):=by omega
     simp only[go_sem,wK (k:=m+w) (by omega),k1,k2,k3,k4,K4 hyw,K4 hxa]
     apply K0 (hc y x)
     simp only[go_sem,wN1 (a:=m+w) (by omega)]
     intro _
     refine⟨fun hn=>⟨(w+1,v),⟨rfl,rfl⟩,⟨by omega,i2,Srt.lo_of hw sY hy (by simpa[ltz]using hn),i4⟩,by omega⟩,fun hn=>⟨(u,w),⟨rfl,rfl⟩,⟨w1,by omega,i3,Srt.hi_of hw sY hy (by simpa[ltz]using hn)⟩,by omega⟩⟩
    ·obtain rfl:u=v:=by omega
     have hres:=Srt.mrg_one hw sY i3 i4
     have hlt:∀t,(P++(Y.take t++x::Y.drop t)++Q).length=N:=fun t=>by rw[←hN];simp;omega
     refine Kj (fun t:Nat=>[(13,vI ((a+t:Nat):Int))]) (fun t=>[(0,⟨1,.row true 1 ((P++(Y.take t++x::Y.drop t)++Q).map encI)⟩)]) (fun t=>t≤u) (fun t=>u-t) 0 ?_
     simp only[go_sem]
     refine⟨?_,by omega,?_⟩
     ·simp only[go_sem]
      simp
     ·intro t ht
      have hs1:IntKind.i64.wrap (((m+u:Nat):Int)-1)=((a+u:Nat):Int):=by
       rw[wI (by omega) (by omega)];omega
      by_cases htu:t<u
      ·obtain⟨y,hy⟩:=Kb (show t<Y.length by omega)
       have e1:(P++(Y.take t++x::Y.drop t)++Q).map encI=two ((P++Y.take t).map encI) (encI x) [] (encI y) ((Y.drop (t+1)++Q).map encI):=by simp[two,Ki hy]
       have e2:(P++(Y.take (t+1)++x::Y.drop (t+1))++Q).map encI=two ((P++Y.take t).map encI) (encI y) [] (encI x) ((Y.drop (t+1)++Q).map encI):=by simp[two,Kc hy]
       have hA:((P++Y.take t).map encI).length=a+t:=by simp;omega
       have hL0:∀p q,(two ((P++Y.take t).map encI) p [] q ((Y.drop (t+1)++Q).map encI)).length=N:=fun p q=>by
        rw[←hlt t];simp[two,Ki hy]
       generalize (P++Y.take t).map encI=A at*
       generalize (Y.drop (t+1)++Q).map encI=C at*
       obtain⟨g1,g2,s1,s2,hL,d1,d2⟩:=K5r (A:=A) (B:=[]) (C:=C) (p:=a+t) (q:=a+t+1) hA (by simp)
       have k1:(0:Int)≤((a+t:Nat):Int):=by omega
       have k2:((a+t:Nat):Int)<(N:Int):=by omega
       have k3:(0:Int)≤((a+t+1:Nat):Int):=by omega
       have k4:((a+t+1:Nat):Int)<(N:Int):=by omega
       have k5:((a+t:Nat):Int)<((a+u:Nat):Int):=by omega
       rw[e1]
       simp only[go_sem,hs1,hL0,g1,g2,s1,s2,k1,k2,k3,k4,k5,wN1 (a:=a+t) (by omega)]
       exact⟨t+1,⟨rfl,e2.symm⟩,by omega,by omega⟩
      ·obtain rfl:t=u:=by omega
       simp only[go_sem,hs1]
       rw[hres]
  ·simp only[go_sem,wS (a:=b) (b:=m) (by omega) (by omega)]
   refine⟨fun h2=>?_,fun h2=>?_⟩
   ·obtain⟨y,rfl⟩:∃y,Y=[y]:=List.length_eq_one_iff.1 (by omega)
    simp only[List.length_cons,List.length_nil]at hb' hn
    have hym:(P++X++[y]++Q)[m]? =some y:=by rw[←hm];simp
    have hxa:∀w,w<X.length→(P++X++[y]++Q)[a+w]? =X[w]? :=fun w hw=>by
     rw[List.append_assoc,List.append_assoc,List.getElem?_append_right (by omega),List.getElem?_append_left (by omega)]
     congr 1;omega
    refine Kj (ι:=Nat×Nat) (fun s=>[(14,vI ((a+s.1:Nat):Int)),(15,vI ((a+s.2:Nat):Int))]) (fun s=>[]) (fun s=>s.1≤s.2∧s.2≤X.length∧(∀z∈X.take s.1,ltz c y z=false)∧(∀z∈X.drop s.2,ltz c y z=true)) (fun s=>s.2-s.1) (0,X.length) ?_
    simp only[go_sem]
    refine⟨?_,⟨by omega,by omega,by simp,by simp⟩,?_⟩
    ·simp only[go_sem]
     exact⟨by omega,by omega⟩
    ·rintro ⟨u,v⟩ ⟨i1,i2,i3,i4⟩
     simp only at i1 i2 i3 i4
     simp only[go_sem,hN,shr1,K3s (i:=a+u) (j:=a+v) (by omega)]
     refine⟨fun hlt=>?_,fun hge=>?_⟩
     ·have hwx:(a+u+(a+v))/2=a+(u+v)/2:=by omega
      have w1:u≤(u+v)/2:=by omega
      have w2:(u+v)/2<v:=by omega
      rw[hwx]
      generalize (u+v)/2=w at w1 w2
      obtain⟨x,hx⟩:=Kb (show w<X.length by omega)
      have hxw:=(hxa w (by omega)).trans hx
      have k1:(0:Int)≤((a+w:Nat):Int):=by omega
      have k2:((a+w:Nat):Int)<(N:Int):=by omega
      have k3:(0:Int)≤(m:Int):=by omega
      have k4:(m:Int)<(N:Int):=by omega
      simp only[go_sem,wK (k:=a+w) (by omega),k1,k2,k3,k4,K4 hxw,K4 hym]
      apply K0 (hc y x)
      simp only[go_sem,wN1 (a:=a+w) (by omega)]
      intro _
      refine⟨fun hn=>⟨(w+1,v),⟨rfl,rfl⟩,⟨by omega,i2,Srt.lo_of' hw sX hx (by simpa[ltz]using hn),i4⟩,by omega⟩,fun hn=>⟨(u,w),⟨rfl,rfl⟩,⟨w1,by omega,i3,Srt.hi_of' hw sX hx (by simpa[ltz]using hn)⟩,by omega⟩⟩
     ·obtain rfl:u=v:=by omega
      have hres:=Srt.mrg_last i3 i4
      have hlt:∀t,(P++(X.take t++y::X.drop t)++Q).length=N:=fun t=>by rw[←hN];simp;omega
      refine Kj (fun t:Nat=>[(17,vI ((a+t:Nat):Int))]) (fun t=>[(0,⟨1,.row true 1 ((P++(X.take t++y::X.drop t)++Q).map encI)⟩)]) (fun t=>u≤t∧t≤X.length) (fun t=>t-u) X.length ?_
      simp only[go_sem]
      refine⟨?_,⟨i2,by omega⟩,?_⟩
      ·simp only[go_sem,hm']
       simp
      ·rintro t ⟨ht,ht2⟩
       by_cases htu:u<t
       ·obtain⟨t,rfl⟩:∃s,t=s+1:=⟨t-1,by omega⟩
        obtain⟨x,hx⟩:=Kb (show t<X.length by omega)
        have e1:(P++(X.take (t+1)++y::X.drop (t+1))++Q).map encI=two ((P++X.take t).map encI) (encI x) [] (encI y) ((X.drop (t+1)++Q).map encI):=by simp[two,Kc hx]
        have e2:(P++(X.take t++y::X.drop t)++Q).map encI=two ((P++X.take t).map encI) (encI y) [] (encI x) ((X.drop (t+1)++Q).map encI):=by simp[two,Ki hx]
        have hA:((P++X.take t).map encI).length=a+t:=by simp;omega
        have hL0:∀p q,(two ((P++X.take t).map encI) p [] q ((X.drop (t+1)++Q).map encI)).length=N:=fun p q=>by
         rw[←hlt t];simp[two,Ki hx]
        generalize (P++X.take t).map encI=A at*
        generalize (X.drop (t+1)++Q).map encI=C at*
        obtain⟨g1,g2,s1,s2,hL,d1,d2⟩:=K5r (A:=A) (B:=[]) (C:=C) (p:=a+t) (q:=a+t+1) hA (by simp)
        have k1:(0:Int)≤((a+t:Nat):Int):=by omega
        have k2:((a+t:Nat):Int)<(N:Int):=by omega
        have k3:(0:Int)≤((a+t+1:Nat):Int):=by omega
        have k4:((a+t+1:Nat):Int)<(N:Int):=by omega
        have k5:((a+t+1:Nat):Int)>((a+u:Nat):Int):=by omega
        have k6:IntKind.i64.wrap (((a+t+1:Nat):Int)-1)=((a+t:Nat):Int):=by
         rw[wI (by omega) (by omega)];omega
        rw[e1,show a+(t+1)=a+t+1 from rfl]
        simp only[go_sem,hL0,g1,g2,s1,s2,k1,k2,k3,k4,k5,k6]
        exact⟨t,⟨rfl,e2.symm⟩,⟨by omega,by omega⟩,by omega⟩
       ·obtain rfl:t=u:=by omega
        simp only[go_sem]
        rw[hres]
   ·obtain⟨M,hM⟩:∃M,M=(X.length+Y.length)/2:=⟨_,rfl⟩
    have hmid:(a+b)/2=a+M:=by omega
    have hxa:∀w,w<X.length→(P++X++Y++Q)[a+w]? =X[w]? :=fun w hw=>by
     rw[List.append_assoc,List.append_assoc,List.getElem?_append_right (by omega),List.getElem?_append_left (by omega)]
     congr 1;omega
    have hya:∀w,w<Y.length→(P++X++Y++Q)[m+w]? =Y[w]? :=fun w hw=>by
     rw[List.append_assoc,List.getElem?_append_right (by omega),List.getElem?_append_left (by omega)]
     congr 1;omega
    simp only[go_sem,shr1,K3s (i:=a) (j:=b) (by omega),hmid,wK (k:=a+M) (by omega),wN (a:=a+M) (b:=m) (by omega)]
    refine⟨fun h3=>?_,fun h3=>?_⟩
    ·have hs:IntKind.i64.wrap (((a+M+m:Nat):Int)-(b:Int))=((a+(M-Y.length):Nat):Int):=by
      rw[wI (by omega) (by omega)];omega
     simp only[go_sem,hs,wS1 (a:=a+M+m) (by omega) (by omega)]
     obtain⟨u0,hu0⟩:∃u,u=M-Y.length:=⟨_,rfl⟩
     obtain⟨v0,hv0⟩:∃v,v=M:=⟨_,rfl⟩
     rw[←hu0]
     have q1:u0≤v0:=by omega
     have q2:v0≤M:=by omega
     have q3:v0≤X.length:=by omega
     have q4:M≤u0+Y.length:=by omega
     have q5:u0=0∨Y.length≤M-u0:=by omega
     have q6:v0=M∨v0=X.length:=by omega
     have q7:a+M=a+v0:=by omega
     refine Kj (ι:=Nat×Nat) (fun s=>[(20,vI ((a+s.1:Nat):Int)),(21,vI ((a+s.2:Nat):Int))]) (fun s=>[]) (fun s=>SymZ (ltz c) X Y M u0 v0 s.1 s.2) (fun s=>s.2-s.1) (u0,v0) ?_
     simp only[go_sem]
     refine⟨?_,⟨by omega,q1,by omega,q5.imp_right .inl,q6.imp_right .inl⟩,?_⟩
     ·simp only[go_sem]
      first|exact⟨by omega,by omega⟩|omega
     ·rintro ⟨u,v⟩ hI
      obtain⟨i1,i2,i3,i4,i5⟩:=hI
      simp only at i1 i2 i3 i4 i5
      simp only[go_sem,hN,shr1,K3s (i:=a+u) (j:=a+v) (by omega)]
      refine⟨fun hlt=>?_,fun hge=>?_⟩
      ·have hwx:(a+u+(a+v))/2=a+(u+v)/2:=by omega
       have w1:u≤(u+v)/2:=by omega
       have w2:(u+v)/2<v:=by omega
       rw[hwx]
       generalize (u+v)/2=w at w1 w2
       have hpc:IntKind.i64.wrap (((a+M+m-1:Nat):Int)-((a+w:Nat):Int))=((m+(M-1-w):Nat):Int):=by
        rw[wI (by omega) (by omega)];omega
       obtain⟨x,hx⟩:=Kb (show w<X.length by omega)
       obtain⟨y,hy⟩:=Kb (show M-1-w<Y.length by omega)
       have hxw:=(hxa w (by omega)).trans hx
       have hyw:=(hya (M-1-w) (by omega)).trans hy
       have k1:(0:Int)≤((a+w:Nat):Int):=by omega
       have k2:((a+w:Nat):Int)<(N:Int):=by omega
       have k3:(0:Int)≤((m+(M-1-w):Nat):Int):=by omega
       have k4:((m+(M-1-w):Nat):Int)<(N:Int):=by omega
       simp only[go_sem,wK (k:=a+w) (by omega),hpc,k1,k2,k3,k4,K4 hxw,K4 hyw]
       apply K0 (hc y x)
       simp only[go_sem,wN1 (a:=a+w) (by omega)]
       intro _
       refine⟨fun hn=>⟨(w+1,v),⟨rfl,rfl⟩,⟨by omega,by omega,i3,.inr (.inr ⟨y,x,by rw[show M-(w+1)=M-1-w by omega];exact hy,hx,by simpa[ltz]using hn⟩),i5⟩,by show v-(w+1)<v-u;omega⟩,fun hn=>⟨(u,w),⟨rfl,rfl⟩,⟨i1,w1,by omega,i4,.inr (.inr ⟨y,x,hy,hx,by simpa[ltz]using hn⟩)⟩,by show w-u<v-u;omega⟩⟩
      ·obtain rfl:u=v:=by omega
       obtain⟨A1,A2,B1,B2,rfl,rfl,hA1,hB1,huM,hres,t1,t2,t3,t4⟩:=SymZ.fin hw ⟨i1,i2,i3,i4,i5⟩ sX sY q2 q3 q4
       have hend:IntKind.i64.wrap (((a+M+m:Nat):Int)-((a+u:Nat):Int))=((m+(M-u):Nat):Int):=by
        rw[wI (by omega) (by omega)];omega
       have r0:P++(A1++A2)++(B1++B2)++Q=(P++A1)++A2++B1++(B2++Q):=by simp
       have r1:(P++A1)++B1++A2++(B2++Q)=P++A1++B1++(A2++(B2++Q)):=by simp
       have r2:A2.length=0∨B1.length=0→P++(A1++A2)++(B1++B2)++Q=P++A1++B1++(A2++(B2++Q)):=fun h=>by
        rcases h with h|h
        ·rw[List.length_eq_zero_iff.1 h];simp
        ·rw[List.length_eq_zero_iff.1 h];simp
       have r3:A1.length=0∨B1.length=0→P++A1++B1++(A2++(B2++Q))=(P++Srt.mrg (ltz c) A1 B1)++A2++B2++Q:=fun h=>by
        rcases h with h|h
        ·rw[List.length_eq_zero_iff.1 h,Srt.mrg_nil_srt hw t3];simp
        ·rw[List.length_eq_zero_iff.1 h,Srt.mrg_nil];simp
       have r4:P++Srt.mrg (ltz c) A1 B1++(A2++(B2++Q))=(P++Srt.mrg (ltz c) A1 B1)++A2++B2++Q:=by simp
       have r5:A2.length=0∨B2.length=0→(P++Srt.mrg (ltz c) A1 B1)++A2++B2++Q=(P++Srt.mrg (ltz c) A1 B1)++Srt.mrg (ltz c) A2 B2++Q:=fun h=>by
        rcases h with h|h
        ·rw[List.length_eq_zero_iff.1 h,Srt.mrg_nil_srt hw t4];simp
        ·rw[List.length_eq_zero_iff.1 h,Srt.mrg_nil];simp
       have r6:P++Srt.mrg (ltz c) (A1++A2) (B1++B2)++Q=(P++Srt.mrg (ltz c) A1 B1)++Srt.mrg (ltz c) A2 B2++Q:=by rw[hres];simp
       obtain⟨⟨l0,l1,l2,l3,l4,l5⟩,⟨L1,L2,L3,L4,L5,L6,L7⟩,hn1,hn2,⟨eA,eB,eC,eD,eE,eF⟩,h7⟩:=symZL (ltz c) ha hA1 hB1 huM hm' hb' hN hM hn h1 h2 hX hY
       clear hxa hya hres i4 i5
       rcases h7 with ⟨z1,z2,z3,z4⟩|⟨z1,z2,z3,z4⟩|⟨z1,z2,z3,z4⟩|⟨z1,z2,z3,z4⟩|⟨z1,z2,z3,z4⟩|⟨z1,z2,z3,z4⟩|⟨z1,z2,z3,z4⟩
       ·have fA:=K8 A2.length eA z2
        have fB:=K8 B1.length eB z3
        have fC:=K8 A1.length eC z1
        have fD:=K8 B1.length eD z3
        have fE:=K8 A2.length eE z2
        have fF:=K8 B2.length eF z4
        simp only[go_sem,hend,fA,fB,fC,fD,fE,fF]
        rw[r0]
        apply K7 (Cj (P++A1) A2 B1 (B2++Q) f L1 L2 L3 z2 z3)
        simp only[go_sem,fC,fD,l0]
        rw[r1]
        apply K7 (ih P A1 B1 (A2++(B2++Q)) hn1 ha L1 L4 z1 z3 t1 t3)
        simp only[go_sem,fE,fF,l4]
        rw[r4]
        apply K7 (ih (P++Srt.mrg (ltz c) A1 B1) A2 B2 Q hn2 L5 L6 L7 z2 z4 t2 t4)
        simp only[go_sem]
        rw[r6]
       ·have fA:=K8 A2.length eA z2
        have fB:=K8 B1.length eB z3
        have fC:=Kr A1.length eC z1
        have fD:=K8 B1.length eD z3
        have fE:=K8 A2.length eE z2
        have fF:=K8 B2.length eF z4
        simp only[go_sem,hend,fA,fB,fC,fD,fE,fF]
        rw[r0]
        apply K7 (Cj (P++A1) A2 B1 (B2++Q) f L1 L2 L3 z2 z3)
        simp only[go_sem,fC,fE,fF,l0]
        rw[r1]
        rw[r3 (.inl z1)]
        apply K7 (ih (P++Srt.mrg (ltz c) A1 B1) A2 B2 Q hn2 L5 L6 L7 z2 z4 t2 t4)
        simp only[go_sem]
        rw[r6]
       ·have fA:=Kr A2.length eA z2
        have fB:=K8 B1.length eB z3
        have fC:=K8 A1.length eC z1
        have fD:=K8 B1.length eD z3
        have fE:=Kr A2.length eE z2
        have fF:=K8 B2.length eF z4
        simp only[go_sem,hend,fA,fB,fC,fD,fE,fF]
        rw[r2 (.inl z2)]
        apply K7 (ih P A1 B1 (A2++(B2++Q)) hn1 ha L1 L4 z1 z3 t1 t3)
        simp only[go_sem,fE]
        rw[r4]
        rw[r5 (.inl z2)]
        rw[r6]
       ·have fA:=K8 A2.length eA z2
        have fB:=Kr B1.length eB z3
        have fC:=K8 A1.length eC z1
        have fD:=Kr B1.length eD z3
        have fE:=K8 A2.length eE z2
        have fF:=K8 B2.length eF z4
        simp only[go_sem,hend,fA,fB,fC,fD,fE,fF]
        rw[r2 (.inr z3)]
        rw[r3 (.inr z3)]
        apply K7 (ih (P++Srt.mrg (ltz c) A1 B1) A2 B2 Q hn2 L5 L6 L7 z2 z4 t2 t4)
        simp only[go_sem]
        rw[r6]
       ·have fA:=K8 A2.length eA z2
        have fB:=K8 B1.length eB z3
        have fC:=K8 A1.length eC z1
        have fD:=K8 B1.length eD z3
        have fE:=K8 A2.length eE z2
        have fF:=Kr B2.length eF z4
        simp only[go_sem,hend,fA,fB,fC,fD,fE,fF]
        rw[r0]
        apply K7 (Cj (P++A1) A2 B1 (B2++Q) f L1 L2 L3 z2 z3)
        simp only[go_sem,fC,fD,l0]
        rw[r1]
        apply K7 (ih P A1 B1 (A2++(B2++Q)) hn1 ha L1 L4 z1 z3 t1 t3)
        simp only[go_sem,fE,fF]
        rw[r4]
        rw[r5 (.inr z4)]
        rw[r6]
       ·have fA:=K8 A2.length eA z2
        have fB:=K8 B1.length eB z3
        have fC:=Kr A1.length eC z1
        have fD:=K8 B1.length eD z3
        have fE:=K8 A2.length eE z2
        have fF:=Kr B2.length eF z4
        simp only[go_sem,hend,fA,fB,fC,fD,fE,fF]
        rw[r0]
        apply K7 (Cj (P++A1) A2 B1 (B2++Q) f L1 L2 L3 z2 z3)
        simp only[go_sem,fC,fE,fF]
        rw[r1]
        rw[r3 (.inl z1)]
        rw[r5 (.inr z4)]
        rw[r6]
       ·have fA:=Kr A2.length eA z2
        have fB:=Kr B1.length eB z3
        have fC:=K8 A1.length eC z1
        have fD:=Kr B1.length eD z3
        have fE:=Kr A2.length eE z2
        have fF:=K8 B2.length eF z4
        simp only[go_sem,hend,fA,fB,fC,fD,fE,fF]
        rw[r2 (.inl z2)]
        rw[r3 (.inr z3)]
        rw[r5 (.inl z2)]
        rw[r6]
    ·simp only[go_sem,wS1 (a:=a+M+m) (by omega) (by omega)]
     obtain⟨u0,hu0⟩:∃u,u=0:=⟨_,rfl⟩
     obtain⟨v0,hv0⟩:∃v,v=X.length:=⟨_,rfl⟩
     have q1:u0≤v0:=by omega
     have q2:v0≤M:=by omega
     have q3:v0≤X.length:=by omega
     have q4:M≤u0+Y.length:=by omega
     have q5:u0=0∨Y.length≤M-u0:=by omega
     have q6:v0=M∨v0=X.length:=by omega
     refine Kj (ι:=Nat×Nat) (fun s=>[(20,vI ((a+s.1:Nat):Int)),(21,vI ((a+s.2:Nat):Int))]) (fun s=>[]) (fun s=>SymZ (ltz c) X Y M u0 v0 s.1 s.2) (fun s=>s.2-s.1) (u0,v0) ?_
     simp only[go_sem]
     refine⟨?_,⟨by omega,q1,by omega,q5.imp_right .inl,q6.imp_right .inl⟩,?_⟩
     ·simp only[go_sem]
      first|exact⟨by omega,by omega⟩|omega
     ·rintro ⟨u,v⟩ hI
      obtain⟨i1,i2,i3,i4,i5⟩:=hI
      simp only at i1 i2 i3 i4 i5
      simp only[go_sem,hN,shr1,K3s (i:=a+u) (j:=a+v) (by omega)]
      refine⟨fun hlt=>?_,fun hge=>?_⟩
      ·have hwx:(a+u+(a+v))/2=a+(u+v)/2:=by omega
       have w1:u≤(u+v)/2:=by omega
       have w2:(u+v)/2<v:=by omega
       rw[hwx]
       generalize (u+v)/2=w at w1 w2
       have hpc:IntKind.i64.wrap (((a+M+m-1:Nat):Int)-((a+w:Nat):Int))=((m+(M-1-w):Nat):Int):=by
        rw[wI (by omega) (by omega)];omega
       obtain⟨x,hx⟩:=Kb (show w<X.length by omega)
       obtain⟨y,hy⟩:=Kb (show M-1-w<Y.length by omega)
       have hxw:=(hxa w (by omega)).trans hx
       have hyw:=(hya (M-1-w) (by omega)).trans hy
       have k1:(0:Int)≤((a+w:Nat):Int):=by omega
       have k2:((a+w:Nat):Int)<(N:Int):=by omega
       have k3:(0:Int)≤((m+(M-1-w):Nat):Int):=by omega
       have k4:((m+(M-1-w):Nat):Int)<(N:Int):=by omega
       simp only[go_sem,wK (k:=a+w) (by omega),hpc,k1,k2,k3,k4,K4 hxw,K4 hyw]
       apply K0 (hc y x)
       simp only[go_sem,wN1 (a:=a+w) (by omega)]
       intro _
       refine⟨fun hn=>⟨(w+1,v),⟨rfl,rfl⟩,⟨by omega,by omega,i3,.inr (.inr ⟨y,x,by rw[show M-(w+1)=M-1-w by omega];exact hy,hx,by simpa[ltz]using hn⟩),i5⟩,by show v-(w+1)<v-u;omega⟩,fun hn=>⟨(u,w),⟨rfl,rfl⟩,⟨i1,w1,by omega,i4,.inr (.inr ⟨y,x,hy,hx,by simpa[ltz]using hn⟩)⟩,by show w-u<v-u;omega⟩⟩
      ·obtain rfl:u=v:=by omega
       obtain⟨A1,A2,B1,B2,rfl,rfl,hA1,hB1,huM,hres,t1,t2,t3,t4⟩:=SymZ.fin hw ⟨i1,i2,i3,i4,i5⟩ sX sY q2 q3 q4
       have hend:IntKind.i64.wrap (((a+M+m:Nat):Int)-((a+u:Nat):Int))=((m+(M-u):Nat):Int):=by
        rw[wI (by omega) (by omega)];omega
       have r0:P++(A1++A2)++(B1++B2)++Q=(P++A1)++A2++B1++(B2++Q):=by simp
       have r1:(P++A1)++B1++A2++(B2++Q)=P++A1++B1++(A2++(B2++Q)):=by simp
       have r2:A2.length=0∨B1.length=0→P++(A1++A2)++(B1++B2)++Q=P++A1++B1++(A2++(B2++Q)):=fun h=>by
        rcases h with h|h
        ·rw[List.length_eq_zero_iff.1 h];simp
        ·rw[List.length_eq_zero_iff.1 h];simp
       have r3:A1.length=0∨B1.length=0→P++A1++B1++(A2++(B2++Q))=(P++Srt.mrg (ltz c) A1 B1)++A2++B2++Q:=fun h=>by
        rcases h with h|h
        ·rw[List.length_eq_zero_iff.1 h,Srt.mrg_nil_srt hw t3];simp
        ·rw[List.length_eq_zero_iff.1 h,Srt.mrg_nil];simp
       have r4:P++Srt.mrg (ltz c) A1 B1++(A2++(B2++Q))=(P++Srt.mrg (ltz c) A1 B1)++A2++B2++Q:=by simp
       have r5:A2.length=0∨B2.length=0→(P++Srt.mrg (ltz c) A1 B1)++A2++B2++Q=(P++Srt.mrg (ltz c) A1 B1)++Srt.mrg (ltz c) A2 B2++Q:=fun h=>by
        rcases h with h|h
        ·rw[List.length_eq_zero_iff.1 h,Srt.mrg_nil_srt hw t4];simp
        ·rw[List.length_eq_zero_iff.1 h,Srt.mrg_nil];simp
       have r6:P++Srt.mrg (ltz c) (A1++A2) (B1++B2)++Q=(P++Srt.mrg (ltz c) A1 B1)++Srt.mrg (ltz c) A2 B2++Q:=by rw[hres];simp
       obtain⟨⟨l0,l1,l2,l3,l4,l5⟩,⟨L1,L2,L3,L4,L5,L6,L7⟩,hn1,hn2,⟨eA,eB,eC,eD,eE,eF⟩,h7⟩:=symZL (ltz c) ha hA1 hB1 huM hm' hb' hN hM hn h1 h2 hX hY
       clear hxa hya hres i4 i5
       rcases h7 with ⟨z1,z2,z3,z4⟩|⟨z1,z2,z3,z4⟩|⟨z1,z2,z3,z4⟩|⟨z1,z2,z3,z4⟩|⟨z1,z2,z3,z4⟩|⟨z1,z2,z3,z4⟩|⟨z1,z2,z3,z4⟩
       ·have fA:=K8 A2.length eA z2
        have fB:=K8 B1.length eB z3
        have fC:=K8 A1.length eC z1
        have fD:=K8 B1.length eD z3
        have fE:=K8 A2.length eE z2
        have fF:=K8 B2.length eF z4
        simp only[go_sem,hend,fA,fB,fC,fD,fE,fF]
        rw[r0]
        apply K7 (Cj (P++A1) A2 B1 (B2++Q) f L1 L2 L3 z2 z3)
        simp only[go_sem,fC,fD,l0]
        rw[r1]
        apply K7 (ih P A1 B1 (A2++(B2++Q)) hn1 ha L1 L4 z1 z3 t1 t3)
        simp only[go_sem,fE,fF,l4]
        rw[r4]
        apply K7 (ih (P++Srt.mrg (ltz c) A1 B1) A2 B2 Q hn2 L5 L6 L7 z2 z4 t2 t4)
        simp only[go_sem]
        rw[r6]
       ·have fA:=K8 A2.length eA z2
        have fB:=K8 B1.length eB z3
        have fC:=Kr A1.length eC z1
        have fD:=K8 B1.length eD z3
        have fE:=K8 A2.length eE z2
        have fF:=K8 B2.length eF z4
        simp only[go_sem,hend,fA,fB,fC,fD,fE,fF]
        rw[r0]
        apply K7 (Cj (P++A1) A2 B1 (B2++Q) f L1 L2 L3 z2 z3)
        simp only[go_sem,fC,fE,fF,l0]
        rw[r1]
        rw[r3 (.inl z1)]
        apply K7 (ih (P++Srt.mrg (ltz c) A1 B1) A2 B2 Q hn2 L5 L6 L7 z2 z4 t2 t4)
        simp only[go_sem]
        rw[r6]
       ·have fA:=Kr A2.length eA z2
        have fB:=K8 B1.length eB z3
        have fC:=K8 A1.length eC z1
        have fD:=K8 B1.length eD z3
        have fE:=Kr A2.length eE z2
        have fF:=K8 B2.length eF z4
        simp only[go_sem,hend,fA,fB,fC,fD,fE,fF]
        rw[r2 (.inl z2)]
        apply K7 (ih P A1 B1 (A2++(B2++Q)) hn1 ha L1 L4 z1 z3 t1 t3)
        simp only[go_sem,fE]
        rw[r4]
        rw[r5 (.inl z2)]
        rw[r6]
       ·have fA:=K8 A2.length eA z2
        have fB:=Kr B1.length eB z3
        have fC:=K8 A1.length eC z1
        have fD:=Kr B1.length eD z3
        have fE:=K8 A2.length eE z2
        have fF:=K8 B2.length eF z4
        simp only[go_sem,hend,fA,fB,fC,fD,fE,fF]
        rw[r2 (.inr z3)]
        rw[r3 (.inr z3)]
        apply K7 (ih (P++Srt.mrg (ltz c) A1 B1) A2 B2 Q hn2 L5 L6 L7 z2 z4 t2 t4)
        simp only[go_sem]
        rw[r6]
       ·have fA:=K8 A2.length eA z2
        have fB:=K8 B1.length eB z3
        have fC:=K8 A1.length eC z1
        have fD:=K8 B1.length eD z3
        have fE:=K8 A2.length eE z2
        have fF:=Kr B2.length eF z4
        simp only[go_sem,hend,fA,fB,fC,fD,fE,fF]
        rw[r0]
        apply K7 (Cj (P++A1) A2 B1 (B2++Q) f L1 L2 L3 z2 z3)
        simp only[go_sem,fC,fD,l0]
        rw[r1]
        apply K7 (ih P A1 B1 (A2++(B2++Q)) hn1 ha L1 L4 z1 z3 t1 t3)
        simp only[go_sem,fE,fF]
        rw[r4]
        rw[r5 (.inr z4)]
        rw[r6]
       ·have fA:=K8 A2.length eA z2
        have fB:=K8 B1.length eB z3
        have fC:=Kr A1.length eC z1
        have fD:=K8 B1.length eD z3
        have fE:=K8 A2.length eE z2
        have fF:=Kr B2.length eF z4
        simp only[go_sem,hend,fA,fB,fC,fD,fE,fF]
        rw[r0]
        apply K7 (Cj (P++A1) A2 B1 (B2++Q) f L1 L2 L3 z2 z3)
        simp only[go_sem,fC,fE,fF]
        rw[r1]
        rw[r3 (.inl z1)]
        rw[r5 (.inr z4)]
        rw[r6]
       ·have fA:=Kr A2.length eA z2
        have fB:=Kr B1.length eB z3
        have fC:=K8 A1.length eC z1
        have fD:=Kr B1.length eD z3
        have fE:=Kr A2.length eE z2
        have fF:=K8 B2.length eF z4
        simp only[go_sem,hend,fA,fB,fC,fD,fE,fF]
        rw[r2 (.inl z2)]
        rw[r3 (.inr z3)]
        rw[r5 (.inl z2)]
        rw[r6]
def M3h:MC:=Y31 N21 Nt
set_option maxHeartbeats 4000000 in
theorem Cnn(X:List Int)(f:FuncId){cs:List T}(c:Int→Int→Int)(hc:∀x y,Ctr Tryz.prog f (aI x::aI y::cs.map (fun t=>(false,[t]))) [rI (c x y)])(hw:Srt.Swo (ltz c)):CtrI Tryz.prog N3l [oL 1 (X.map encI),iI X.length,fC f cs] [some (1,(Srt.isort (ltz c) X).map encI)] []:=by
 refine Ky (M:=M3h) (m:=0) (n:=63) (res:=[]) hmix Tryz.func380 rfl (by kernel_rfl) rfl (by kernel_rfl) (by kernel_rfl) (Nat.le_of_ble_eq_true rfl) rfl rfl ?_;unfold M3h
 intro hbd
 have hl:=Kv hbd
 clear hbd
 simp only[roomB]at hl
 simp only[go_sem]
 refine Kj (fun k:Nat=>[(7,vI ((k*20:Nat):Int)),(8,vI (((k+1)*20:Nat):Int))]) (fun k=>[(0,⟨1,.row true 1 ((Srt.blks (ltz c) 20 k X).map encI)⟩)]) (fun k=>k*20≤X.length) (fun k=>X.length-k*20) 0 ?_
 simp only[go_sem]
 refine⟨?_,by omega,?_⟩
 ·simp only[go_sem]
  exact⟨rfl,rfl⟩
 ·intro k hk
  simp only[go_sem,Srt.len_blks]
  refine⟨fun hlt=>?_,fun hge=>?_⟩
  ·obtain⟨A,hA,e1,e2⟩:=Srt.blks_snoc (lt:=ltz c) (s:=20) (k:=k) (l:=X) (by omega)
   have g1:=congrArg List.length e1
   have g2:=congrArg List.length e2
   rw[Srt.len_blks]at g1 g2
   rw[←List.append_assoc]at e1 e2 g1 g2
   rw[e1]
   apply K7 (C4o A _ _ f c hc hw hA (by simp[hA];omega))
   have w1:IntKind.i64.wrap ((((k+1)*20:Nat):Int)+20)=(((k+1+1)*20:Nat):Int):=by
    rw[wI (by omega) (by omega)];omega
   simp only[go_sem,w1]
   exact⟨k+1,⟨⟨rfl,rfl⟩,by rw[e2]⟩,by omega,by omega⟩
  ·obtain⟨A,hA,e1,e2⟩:=Srt.blks_last (lt:=ltz c) (s:=20) (k:=k) (l:=X) (by omega) (by omega)
   have g1:=congrArg List.length e1
   have g2:=congrArg List.length e2
   rw[Srt.len_blks]at g1 g2
   have e1':A++X.drop (k*20)=A++X.drop (k*20)++[]:=by simp
   rw[e1,e1']
   apply K7 (C4o A _ [] f c hc hw hA (by simp[hA];omega))
   rw[List.append_nil,←e2]
   rw[Srt.blks_blk (by omega) (by omega)]
   simp only[go_sem]
   refine Kj (fun s:Nat=>[(6,vI (s:Int))]) (fun s=>[(0,⟨1,.row true 1 ((Srt.blk (ltz c) s X).map encI)⟩)]) (fun s=>0<s∧s≤2*X.length+20) (fun s=>X.length-s) 20 ?_
   simp only[go_sem]
   refine⟨?_,⟨by omega,by omega⟩,?_⟩
   ·simp only[go_sem]
    first|rfl|exact⟨rfl,rfl⟩
   ·rintro s ⟨hs0,hs1⟩
    clear e1' e1 e2 g1 g2 hA A hge hk
    have w2:IntKind.i64.wrap (2*(s:Int))=((2*s:Nat):Int):=by rw[wI (by omega) (by omega)];omega
    have w3:IntKind.i64.wrap ((s:Int)*2)=((2*s:Nat):Int):=by rw[wI (by omega) (by omega)];omega
    simp only[go_sem,w2]
    refine⟨fun hlt=>?_,fun hge=>?_⟩
    ·refine Kj (fun k:Nat=>[(7,vI ((k*(2*s):Nat):Int)),(8,vI ((k*(2*s)+2*s:Nat):Int))]) (fun k=>[(0,⟨1,.row true 1 ((Srt.mix (ltz c) s k X).map encI)⟩)]) (fun k=>k*(2*s)≤X.length) (fun k=>X.length-k*(2*s)) 0 ?_
     simp only[go_sem]
     refine⟨?_,by omega,?_⟩
     ·simp only[go_sem]
      refine⟨⟨?_,?_⟩,rfl⟩
      ·rw[Nat.zero_mul];rfl
      ·rw[Nat.zero_mul,Nat.zero_add]
     ·intro k hk
      simp only[go_sem,Srt.len_mix,w3]
      refine⟨fun hle=>?_,fun hgt=>?_⟩
      ·obtain⟨P,A,B,Q,m1,m2,m3,m4,m5,m6,m7⟩:=Srt.mix_step hw (s:=s) (k:=k) (l:=X) (by omega)
       have g1:(P++A++B++Q).length=X.length:=by rw[←m6,Srt.len_mix]
       have g2:(P++Srt.mrg (ltz c) A B++Q).length=X.length:=by rw[←m7,Srt.len_mix]
       have wa:IntKind.i64.wrap (((k*(2*s):Nat):Int)+(s:Int))=((k*(2*s)+s:Nat):Int):=wN (by omega)
       have wb:IntKind.i64.wrap (((k*(2*s)+2*s:Nat):Int)+((2*s:Nat):Int))=(((k+1)*(2*s)+2*s:Nat):Int):=by
        rw[wN (by omega),Nat.succ_mul k (2*s)]
       rw[m6]
       simp only[go_sem,wa]
       apply K7 (C98 f c hc hw _ P A B Q (Nat.le_refl _) m1 (m:=k*(2*s)+s) (b:=k*(2*s)+2*s) (by rw[List.length_append];omega) (by rw[List.length_append,List.length_append];omega) (by omega) (by omega) m4 m5)
       simp only[go_sem]
       have hj:(k+1)*(2*s)=k*(2*s)+2*s:=Nat.succ_mul k (2*s)
       exact⟨k+1,⟨⟨by rw[hj],by rw[w2,wb]⟩,by rw[m7]⟩,by omega,by omega⟩
      ·obtain⟨i1,i2⟩:=Srt.mix_end hw (s:=s) (k:=k) (l:=X) hk (by omega)
       have wa:IntKind.i64.wrap (((k*(2*s):Nat):Int)+(s:Int))=((k*(2*s)+s:Nat):Int):=wN (by omega)
       simp only[go_sem,wa]
       refine⟨fun hlt2=>?_,fun hge2=>?_⟩
       ·obtain⟨P,A,B,m1,m2,m3,m4,m5,m6,m7⟩:=i1 (by omega)
        have g1:(P++A++B++[]).length=X.length:=by rw[List.append_nil,←m6,Srt.len_mix]
        have g2:(P++Srt.mrg (ltz c) A B++[]).length=X.length:=by rw[List.append_nil,←m7,Srt.len_blk (Nat.le_refl _)]
        rw[m6,←List.append_nil (P++A++B)]
        apply K7 (C98 f c hc hw _ P A B [] (Nat.le_refl _) m1 (m:=k*(2*s)+s) (b:=X.length) (by rw[List.length_append];omega) (by rw[List.length_append,List.length_append];omega) (by omega) (by omega) m4 m5)
        simp only[go_sem,w3]
        exact⟨2*s,⟨rfl,by rw[m7]⟩,⟨by omega,by omega⟩,by omega⟩
       ·exact⟨2*s,⟨rfl,by rw[i2 (by omega)]⟩,⟨by omega,by omega⟩,by omega⟩
    ·rw[Srt.blk_le (by omega)]
def M2e:MC:=
(pr [mS 4 0,mS 5 0,nS 6 5,mS 7 1,.callI 8 [] (.f N3l) [.s 4,.s 6,.s 7] [0] []] [])
theorem Ciy(X:List Int)(f:FuncId){cs:List T}(c:Int→Int→Int)(hc:∀x y,Ctr Tryz.prog f (aI x::aI y::cs.map (fun t=>(false,[t]))) [rI (c x y)])(hw:Srt.Swo (ltz c)):CtrI Tryz.prog N2f [oL 1 (X.map encI),fC f cs] [some (1,(Srt.isort (ltz c) X).map encI)] []:=by
 refine Ky (M:=M2e) (m:=0) (n:=9) (res:=[]) hmix Tryz.func339 rfl (by kernel_rfl) rfl (by kernel_rfl) (by kernel_rfl) (Nat.le_of_ble_eq_true rfl) rfl rfl ?_;unfold M2e
 intro hbd
 have hl:=Kv hbd
 clear hbd
 simp only[roomB]at hl
 simp only[go_sem]
 apply K7 (Cnn X f c hc hw)
 simp only[go_sem]
 try intros
 try trivial
end Go.Proofs.YtjneccbpkckdfaaGreatR
