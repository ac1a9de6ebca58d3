/- What the functions compute that the laws of FaultOf reach: contracts. Conditions stand in each theorem. -/
import Derived.Shelf.Spec.SlicesInsertGrow
import Derived.Shelf.Bits.Mul64
import Derived.Shelf.SlicesE.DeleteFunc
import Derived.Ground.SlgfProg
import Derived.Test.YtpeabgkoknjojaaGreatDoorTFaultOfb
set_option linter.unusedVariables false
set_option linter.unusedSimpArgs false
namespace Go.Proofs.YtpeabgkoknjojaaGreatDoorR
open Go Go.RowKit Go.Proofs
open Nat (reduceEqDiff reduceLT reduceLeDiff reduceAdd reduceMul)
open List (reduceReplicate)
def K39(l:List GOp)(s:GState):Bool:=K1x l&&(stOk s&&decide (s.Pc<l.length))
def zAt(l:List Int)(i:Int):Int:=(l[i.toNat]?).getD 0
def opAt(l:List GOp)(i:Int):GOp:=(l[i.toNat]?).getD ⟨0,0,0,0⟩
theorem K2m{l:List Int}{i:Nat}{x:Int}(h:l[i]? =some x):zAt l i=x:=by simp[zAt,h]
structure Doing (l:List GOp) (s:GState) (k:Nat) (o:GOp):Prop where
 pc:s.Pc=k
 op:l[k]? =some o
 at_:opAt l s.Pc=o
 ok:opOk o=true
 lt:k<l.length
 few:l.length≤16
 regs:s.Regs.length=4
 slots:s.Slots.length=3
 nodes:s.Nodes.length=4
 rin:∀(i:Nat) (x:Int),s.Regs[i]? =some x→0≤x∧x≤999
 sin:∀(i:Nat) (x:Int),s.Slots[i]? =some x→0≤x∧x≤999
 nin:∀(i:Nat) (x:Int),s.Nodes[i]? =some x→0≤x∧x≤999
theorem K8m{l:List Int}{a b:Int}(h:K22 l a b=true)(i:Nat)(x:Int)(hx:l[i]? =some x):a≤x∧x≤b:=by
 have:=List.all_eq_true.1 h x (Ki hx)
 simpa using this
theorem K3p{l:List GOp}{s:GState}(h:K39 l s=true):∃k o,Doing l s k o:=by
 simp only[K39,K1x,K17,stOk,Bool.and_eq_true,decide_eq_true_eq]at h
 obtain⟨⟨h1,h2⟩,⟨⟨h3,h4⟩,⟨h5,h6,h7⟩,h8,h9,h10⟩,h11⟩:=h
 obtain⟨k,hk⟩:=Int.eq_ofNat_of_zero_le h3
 obtain⟨o,ho⟩:=K5 (show k<l.length by omega)
 exact⟨k,o,hk,ho,by simp[opAt,hk,ho],List.all_eq_true.1 h2 o (Ki ho),by omega,h1,h5,h6,h7,K8m h8,K8m h9,K8m h10⟩
theorem K48{o:GOp}(h:opOk o=true):∃i:Nat,i<4∧o.A=i∧(
  (o.Kind=5∧∃j m:Nat,j<4∧m<4∧o.B=j∧o.C=m)∨(o.Kind=6∧∃j:Nat,j<4∧o.B=j)∨(o.Kind=7∧1≤o.B∧o.B≤3)∨
  (o.Kind=8∧∃j:Nat,j<3∧o.B=j)∨(o.Kind=9∧∃j:Nat,j<3∧o.B=j)∨(1≤o.Kind∧o.Kind≤4)):=by
 simp only[opOk,decide_eq_true_eq]at h
 obtain⟨⟨h1,h2⟩,h⟩:=h
 refine⟨o.A.toNat,by omega,by omega,?_⟩
 rcases h with h|h|⟨h,h3,h4⟩|⟨h,h3,h4⟩|h|⟨h,h3,h4⟩
 ·omega
 ·omega
 ·exact .inl ⟨h,o.B.toNat,o.C.toNat,by omega,by omega,by omega,by omega⟩
 ·exact .inr (.inl ⟨h,o.B.toNat,by omega,by omega⟩)
 ·omega
 ·rcases h with h|h
  ·exact .inr (.inr (.inr (.inl ⟨h,o.B.toNat,by omega,by omega⟩)))
  ·exact .inr (.inr (.inr (.inr (.inl ⟨h,o.B.toNat,by omega,by omega⟩))))
def Y30(v0:Nat)(v1:Nat):MC:=
(Zs [.box 3 0 (.s 1),.mv 4 cF] [0,3] (.seq (.reg [Za (mS 5 0),Za (.call 6 [] (.f v0) [.s 5]),Za (mS 7 6),Zb 7 true (lT 8 4 3),Zb 7 true (.call 9 [] (.f v1) [.s 8]),Za (.pick 10 (.s 7) (.s 9) cF),Za (mS 11 10),Zb 11 true (fS 12 3 0),Zb 11 true (lF 13 1 12),Zb 11 true (mS 14 0),Zb 11 true (nS 15 14),Zb 11 true (bS 16 .lss 13 15),Za (.pick 17 (.s 11) (.s 16) cF),Za (mS 4 17)] [4])
.ret))
attribute [go_sem] Y30
def Mdt:MC:=Y30 N28 Ne5
theorem Cdk(l:List GOp)(s:GState):Ctr Tryz.prog N6c [aL 4 (l.map GOp.enc),aS s.enc] [rB (K39 l s)]:=by
 refine cA Mdt 1 18 [(.tmp 4,[false])] Tryz.func255 rfl rfl ?_;unfold Mdt
 intro hb
 clear hb
 simp only[go_sem]
 repeat' first
  |(refine And.intro ?_ ?_<;>intro h)
  |(apply K0 (C30 _);simp only[go_sem])
  |(apply K0 (Cjn s);simp only[go_sem])
 all_goals (unfold K39;simp_all)
def Mff:MC:=Y30 N2a Ned
theorem Cev(l:List GOp)(s:GState):Ctr Tryz.prog N8a [aL 4 (l.map GOp.enc),aS s.enc] [rB (K39 l s)]:=by
 refine cA Mff 1 18 [(.tmp 4,[false])] Tryz.func239 rfl rfl ?_;unfold Mff
 intro hb
 clear hb
 simp only[go_sem]
 repeat' first
  |(refine And.intro ?_ ?_<;>intro h)
  |(apply K0 (C31 _);simp only[go_sem])
  |(apply K0 (Cju s);simp only[go_sem])
 all_goals (unfold K39;simp_all)
def K18(l:List GOp)(s:GState):GWant:=if K39 l s=true∧asks (opAt l s.Pc).Kind=true then⟨(opAt l s.Pc).Kind,if (opAt l s.Pc).Kind=1 then⟨(opAt l s.Pc).B,(opAt l s.Pc).C,(zAt s.Regs (opAt l s.Pc).A).tmod 100⟩else⟨0,0,0⟩⟩else⟨0,⟨0,0,0⟩⟩
theorem c100:¬(100:Int)=0:=by decide
theorem c1000:¬(1000:Int)=0:=by decide
def Y31(v0:Nat)(v1:Nat):MC:=
(Zs [.box 3 0 (.s 1),.alloc 4 1 [pz,pz,pz,pz]] [0,3,4] (.seq (.seq (.reg [Za (mS 7 0),Za (lT 8 4 3),Za (.call 9 [] (.f v0) [.s 7,.s 8]),Za (.un 10 .not (.s 9)),Za (mS 11 10),Zb 11 false (mS 12 0),Zb 11 false (fS 13 3 0),Zb 11 false (lF 14 1 13),Zb 11 false (xS 15 4 12 14),Zb 11 false (fS 16 15 0),Zb 11 false (lF 17 1 16),Zb 11 false (.call 18 [] (.f v1) [.s 17]),Zb 11 false (.un 19 .not (.s 18)),Za (.pick 20 (.s 11) cT (.s 19))] [0,3,4,20])
(.cond (.s 20) (Zs [.build 21 [pz,pz,pz,pz] [],sS 4 4 21] [4] .ret) .skip))
(Zs [mS 22 0,fS 23 3 0,lF 24 1 23,xS 25 4 22 24,lT 26 4 25,.alloc 5 2 [pz,pz,pz,pz],sS 4 5 26] [3,4,5] (Zs [fS 27 5 0,lF 28 1 27,.build 29 [pz,pz,pz,pz] [(0,1,.s 28)],.alloc 6 3 [pz,pz,pz,pz],sS 4 6 29] [3,4,5,6] (.seq (Zs [fS 30 5 0,lF 31 1 30,bC 32 .eql 31 1] [3,4,5,6,32] (.cond (.s 32) (.dreg [Zc [35,36,37,38,39,40,41,42,43] (fS 33 5 2),Zd [35,36,37,38,39,40,41,42,43] [0] (lF 34 1 33),Zc [33,34,37,38,39,40,41,42,43] (fS 35 5 3),Zd [33,34,37,38,39,40,41,42,43] [2] (lF 36 1 35),Zc [33,34,35,36,39,40] (fS 37 3 1),Zd [33,34,35,36,39,40] [4] (lF 38 1 37),Zc [33,34,35,36,37,38] (fS 39 5 1),Zd [33,34,35,36,37,38] [6] (lF 40 1 39),Zd [33,34,35,36] [4,5,6,7] (xS 41 1 38 40),Zd [33,34,35,36] [4,5,6,7,8] (lF 42 1 41),Zd [33,34,35,36] [4,5,6,7,8,9] (bC 43 .rem 42 100),Ze (.range 11) (.build 44 [pz,pz,pz] [(0,1,.s 34),(1,1,.s 36),(2,1,.s 43)]),Ze (.range 12) (fS 45 6 1),{o:=sS 3 45 44,ws:=[3],bf:=(.range 13)}] [4,6]) .skip))
(Zs [lT 46 4 6,sS 4 4 46] [4] .ret))))))
attribute [go_sem] Y31
def Mf0:MC:=Y31 N6c Ndi
theorem Ck3(l:List GOp)(s:GState):Ctr Tryz.prog Nfm [aL 4 (l.map GOp.enc),aS s.enc] [rS (K18 l s).enc]:=by
 refine cA Mf0 4 47 [(.cell 4 true 4,[false,false,false,false])] Tryz.func214 rfl rfl ?_;unfold Mf0
 intro hb
 clear hb
 simp only[go_sem]
 apply K0 (Cdk l s)
 simp only[go_sem]
 refine And.intro ?_ ?_<;>intro h
 ·rw[K18,if_neg (by simp[h])]
  try exact⟨rfl,rfl,rfl,rfl⟩
 ·obtain⟨k,o,D⟩:=K3p h
  obtain⟨i,hi,hA,-⟩:=K48 D.ok
  have hrl:=D.regs
  obtain⟨r,hr⟩:=K5 (show i<s.Regs.length by omega)
  have hp0:(0:Int)≤(k:Int):=by omega
  have hp1:(k:Int)<l.length:=by have:=D.lt;omega
  have hi0:(0:Int)≤(i:Int):=by omega
  have hi1:(i:Int)<s.Regs.length:=by omega
  have hz:zAt s.Regs o.A=r:=by rw[hA];exact K2m hr
  have hW:K18 l s=if asks o.Kind=true then⟨o.Kind,if o.Kind=1 then⟨o.B,o.C,r.tmod 100⟩else⟨0,0,0⟩⟩else⟨0,⟨0,0,0⟩⟩:=by
   simp only[K18,h,D.at_,hz,true_and]
  rw[hW]
  simp only[go_sem,D.pc,K1 D.op,hp0,hp1]
  apply K0 (Ci4 o.Kind)
  simp only[go_sem,K1 D.op,hp0,hp1]
  refine And.intro ?_ ?_<;>intro h2
  ·rw[if_neg (by simp[h2])]
   try exact⟨rfl,rfl,rfl,rfl⟩
  ·rw[if_pos h2]
   refine And.intro ?_ ?_<;>intro h3
   ·simp only[go_sem,hA,K1 hr,hi0,hi1,h3,c100]
   ·rw[if_neg h3]
    try exact⟨rfl,rfl,rfl,rfl⟩
def Mfd:MC:=Y31 N8a Ndj
theorem Ckd(l:List GOp)(s:GState):Ctr Tryz.prog Nfw [aL 4 (l.map GOp.enc),aS s.enc] [rS (K18 l s).enc]:=by
 refine cA Mfd 4 47 [(.cell 4 true 4,[false,false,false,false])] Tryz.func197 rfl rfl ?_;unfold Mfd
 intro hb
 clear hb
 simp only[go_sem]
 apply K0 (Cev l s)
 simp only[go_sem]
 refine And.intro ?_ ?_<;>intro h
 ·rw[K18,if_neg (by simp[h])]
  try exact⟨rfl,rfl,rfl,rfl⟩
 ·obtain⟨k,o,D⟩:=K3p h
  obtain⟨i,hi,hA,-⟩:=K48 D.ok
  have hrl:=D.regs
  obtain⟨r,hr⟩:=K5 (show i<s.Regs.length by omega)
  have hp0:(0:Int)≤(k:Int):=by omega
  have hp1:(k:Int)<l.length:=by have:=D.lt;omega
  have hi0:(0:Int)≤(i:Int):=by omega
  have hi1:(i:Int)<s.Regs.length:=by omega
  have hz:zAt s.Regs o.A=r:=by rw[hA];exact K2m hr
  have hW:K18 l s=if asks o.Kind=true then⟨o.Kind,if o.Kind=1 then⟨o.B,o.C,r.tmod 100⟩else⟨0,0,0⟩⟩else⟨0,⟨0,0,0⟩⟩:=by
   simp only[K18,h,D.at_,hz,true_and]
  rw[hW]
  simp only[go_sem,D.pc,K1 D.op,hp0,hp1]
  apply K0 (Ci5 o.Kind)
  simp only[go_sem,K1 D.op,hp0,hp1]
  refine And.intro ?_ ?_<;>intro h2
  ·rw[if_neg (by simp[h2])]
   try exact⟨rfl,rfl,rfl,rfl⟩
  ·rw[if_pos h2]
   refine And.intro ?_ ?_<;>intro h3
   ·simp only[go_sem,hA,K1 hr,hi0,hi1,h3,c100]
   ·rw[if_neg h3]
    try exact⟨rfl,rfl,rfl,rfl⟩
def Mf2:MC:=
(Zs [.nilo 2 0 1] [0] (Zs [mS 4 0,.call 5 [1] (.f Nb) [.s 4],mS 3 5] [3] (Zs [mS 6 3,.callI 7 [] (.f N2i) [.s 6] [1] []] [3] (Zs [mS 8 3,.callI 9 [0] (.f N3a) [.s 8] [1] [],mS 2 9] [2] .ret))))
theorem Ck5(l:List Int)(hl:l.length≤1073741824):Ctr Tryz.prog Nfo [aL 1 (l.map encI)] [rL 1 ((sortU l).map encI)]:=by
 refine cA Mf2 2 10 [(.tmp 2,[true])] Tryz.func167 rfl rfl ?_;unfold Mf2
 intro hb
 clear hb
 simp only[go_sem]
 apply K0 (C1d l hl)
 simp only[go_sem]
 try intros
 apply Ka (C8h l)
 simp only[go_sem]
 try intros
 refine⟨(K2l l).symm,?_⟩
 apply Ka (Cen (sortI l))
 simp only[go_sem]
 try intros
 rfl
def ticks(l:List GCapture)(a:GAddress):List Int:=(l.filter fun c=>decide (c.Address=a)).map (·.Tick)
def lo(a:GArchive)(x:GAddress):List Int:=puts (ticks (served a) x)
theorem hneg:((0:Int)-1≥0)=False:=by simp
def K4b(v:GVersion):Bool:=K11 v.Address&&(decide (0≤v.From∧v.From≤1000)&&K14 v.Resource)
def K9r(l:List GVersion):Bool:=K17 12 K4b l
def Mcj:MC:=Y19 1000
theorem Cj1(c:GVersion):Ctr Tryz.prog Nd1 [aS c.enc] [rB (!K4b c)]:=by
 refine cA Mcj 1 19 [(.tmp 2,[false])] Tryz.func111 rfl rfl ?_;unfold Mcj
 intro hb
 clear hb
 simp only[go_sem]
 repeat' first
  |(refine And.intro ?_ ?_<;>intro h)
  |(apply K0 (C15 _);simp only[go_sem])
  |(apply K0 (C3g _);simp only[go_sem])
  |(apply K0 (C4 _ _ _);simp only[go_sem])
 all_goals (simp_all[K4b];try omega)
def Mey:MC:=
(Zs [.mv 2 cF] [0] (.seq (.reg [Za (mS 3 0),Za (nS 4 3),Za (bC 5 .leq 4 12),Za (mS 6 5),Zb 6 true (mS 7 0),Zb 6 true (.call 8 [] (.f Nn) [.s 7,.f Nd1]),Zb 6 true (.un 9 .not (.s 8)),Za (.pick 10 (.s 6) (.s 9) cF),Za (mS 2 10)] [2])
.ret))
theorem Ck1(l:List GVersion):Ctr Tryz.prog Nfk [aL 9 (l.map GVersion.enc)] [rB (K9r l)]:=by
 refine cA Mey 0 11 [(.tmp 2,[false])] Tryz.func62 rfl rfl ?_;unfold Mey
 intro hb
 clear hb
 simp only[go_sem]
 refine⟨fun h=>?_,fun h=>K5n (by omega)⟩
 refine K0 (C54 l _ [] (fun o=> !K4b o) fun o _=>Cj1 o) ?_
 simp only[go_sem]
 exact K4z (by omega)
def Mfb:MC:=
(Zs [.mv 2 cF] [0] (.seq (Zs [.mv 3 (ci 0)] [0,3] (.block 0 (.loop ([0,3],[]) (.seq (Zs [mS 4 3,mS 5 0,nS 6 5,bS 7 .lss 4 6] [0,3,7] (cX 7 0))
(.seq (.block 1 (.seq (.reg [Za (mS 10 0),Za (mS 11 3),Za (xS 12 9 10 11),Za (fS 13 12 0),Za (lT 14 3 13),Za (.call 15 [] (.f Nz) [.s 14]),Za (.un 16 .not (.s 15)),Za (mS 17 16),Zb 17 false (mS 18 0),Zb 17 false (mS 19 3),Zb 17 false (xS 20 9 18 19),Zb 17 false (fS 21 20 3),Zb 17 false (lF 22 1 21),Zb 17 false (.call 23 [] (.f N0) [.s 22,.c (.int .i64 0),.c (.int .i64 1000)]),Zb 17 false (.un 24 .not (.s 23)),Za (.pick 25 (.s 17) cT (.s 24)),Za (mS 26 25),Zb 26 false (mS 27 0),Zb 26 false (mS 28 3),Zb 26 false (xS 29 9 27 28),Zb 26 false (fS 30 29 4),Zb 26 false (lT 31 5 30),Zb 26 false (.call 32 [] (.f N2f) [.s 31]),Zb 26 false (.un 33 .not (.s 32)),Za (.pick 34 (.s 26) cT (.s 33))] [0,3,34])
(.cond (.s 34) (Zs [.mv 2 cF] [2] .ret) .skip)))
(pr [mS 8 3,bC 9 .add 8 1,mS 3 9] [0,3]))))))
(Zs [mS 35 0,nS 36 35,bC 37 .leq 36 12,mS 2 37] [2] .ret)))
theorem Ckb(l:List GVersion):Ctr Tryz.prog Nfu [aL 9 (l.map GVersion.enc)] [rB (K9r l)]:=by
 refine cA Mfb 0 38 [(.tmp 2,[false])] Tryz.func44 rfl rfl ?_;unfold Mfb
 intro hb
 simp only[bdA,bdL,bdT,K7,roomB,and_true,List.length_map]at hb
 have hl:=hb.1
 clear hb
 simp only[go_sem]
 refine K3 l (fun k=>[(3,vI k)]) (fun k=>[]) (fun k=>(l.take k).all K4b=true) hl ?_
 simp only[go_sem]
 refine⟨?_,by simp,?_,?_⟩
 ·simp only[go_sem]
 ·intro k x hx hT h0 h1 hw
  have hy:K4b x=true→(l.take (k+1)).all K4b=true:=fun hn=>K2b hx hT hn
  have hn:K4b x=false→false=K9r l:=fun hn=>K3t hx hn
  clear hT
  simp only[go_sem,K1 hx,h0,h1]
  repeat' first
   |(refine And.intro ?_ ?_<;>intro h)
   |(apply K0 (C16 _);simp only[go_sem,K1 hx,h0,h1])
   |(apply K0 (C3h _);simp only[go_sem,hw])
   |(apply K0 (C3 _ _ _);simp only[go_sem,K1 hx,h0,h1])
  all_goals first|(apply hy;clear hy hn hx hw;simp_all[K4b];done)|(apply hn;clear hy hn hx hw;simp_all[K4b];done)|(apply hn;clear hy hn hx hw;unfold K4b;rw[decide_eq_false (by assumption)];simp;done)
 ·intro h
  simp only[go_sem]
  rw[List.take_length]at h
  exact K6j.trans (K4y h)
def clamp(v:Int):Int:=if 999<(if 0>v then 0 else v)then 999 else(if 0>v then 0 else v)
theorem clamp_eq{v:Int}:(if (if v<999 then v else 999)>0 then(if v<999 then v else 999)else 0)=clamp v:=by
 unfold clamp;repeat' split
 all_goals omega
def pcTo(n:Int):Int:=IntKind.i64.wrap (n+1)
def doOp(o:GOp)(s:GState)(v:Int):GState:=
 if o.Kind=5 then {s with Pc:=pcTo s.Pc,Regs:=s.Regs.set o.A.toNat ((IntKind.i64.wrap (zAt s.Regs o.B+zAt s.Regs o.C)).tmod 1000)}
 else if o.Kind=6 then {s with Pc:=pcTo s.Pc,Nodes:=s.Nodes.set o.B.toNat (zAt s.Regs o.A)}
 else if o.Kind=7 then {s with Pc:=if (zAt s.Regs o.A).tmod 2=0 then IntKind.i64.wrap (pcTo s.Pc+o.B)else pcTo s.Pc}
 else if o.Kind=8 then {s with Pc:=pcTo s.Pc,Regs:=s.Regs.set o.A.toNat (zAt s.Slots o.B)}
 else if o.Kind=9 then {s with Pc:=pcTo s.Pc,Slots:=s.Slots.set o.B.toNat (zAt s.Regs o.A)}
 else {s with Pc:=pcTo s.Pc,Regs:=s.Regs.set o.A.toNat (clamp v)}
def K1b(l:List GOp)(s:GState)(v:Int):GState:=if K39 l s then doOp (opAt l s.Pc) s v else s
theorem Ka8{l:List GOp}{s:GState}{v:Int}(h:K39 l s=false):K1b l s v=s:=by unfold K1b;rw[h];rfl
theorem K76{l:List GOp}{s:GState}{v:Int}{k:Nat}{o:GOp}(h:K39 l s=true)(D:Doing l s k o):K1b l s v=doOp o s v:=by unfold K1b;rw[h,D.at_];rfl
theorem c2:¬(2:Int)=0:=by decide
def Max:MC:=
(Zs [.box 4 0 (.s 1),.alloc 6 1 [pz,.emp 1,.emp 1,.emp 1]] [0,2,4,6] (Zs [lT 9 4 4,.call 10 [2,3,4] (.f N48) [.s 9],.alloc 7 5 [pz,.emp 1,.emp 1,.emp 1],sS 4 7 10] [0,2,4,6,7] (.seq (Zs [mS 11 0,lT 12 4 4,.call 13 [] (.f N6c) [.s 11,.s 12],.un 14 .not (.s 13)] [0,2,4,6,7,14] (.cond (.s 14) (Zs [lT 15 4 7,sS 4 6 15] [6] .ret) .skip))
(Zs [mS 16 0,fS 17 4 0,lF 18 1 17,xS 19 4 16 18,lT 20 4 19,.alloc 8 6 [pz,pz,pz,pz],sS 4 8 20] [2,4,6,7,8] (Zs [fS 21 7 0,lF 22 1 21,bC 23 .add 22 1,fS 24 7 0,sS 1 24 23] [2,4,6,7,8] (.seq (Zs [fS 25 8 0,lF 26 1 25] [2,4,6,7,8,26] (.block 0 (Zs [bC 36 .eql 26 5,mS 35 36] [2,4,6,7,8,26,35] (.cond (.s 35) (.dreg [Zc [39,40,41,42,43,44,45,46,47,48,49,50,51,52,53,54] (fS 37 7 1),Zd [39,40,41,42,43,44,45,46,47,48,49,50,51,52,53,54] [0] (lF 38 1 37),Zc [37,38,41,42,43,44,45,46,47,48,49,50,51,52,53,54] (fS 39 8 1),Zd [37,38,41,42,43,44,45,46,47,48,49,50,51,52,53,54] [2] (lF 40 1 39),Zc [37,38,39,40,43,44,47,48,49,50,51,52] (fS 41 4 1),Zd [37,38,39,40,43,44,47,48,49,50,51,52] [4] (lF 42 1 41),Zc [37,38,39,40,41,42,47,48,49,50,51,52] (fS 43 8 2),Zd [37,38,39,40,41,42,47,48,49,50,51,52] [6] (lF 44 1 43),Zd [37,38,39,40,47,48,49,50,51,52] [4,5,6,7] (xS 45 1 42 44),Zd [37,38,39,40,47,48,49,50,51,52] [4,5,6,7,8] (lF 46 1 45),Zc [37,38,39,40,41,42,43,44,45,46,49,50] (fS 47 4 1),Zd [37,38,39,40,41,42,43,44,45,46,49,50] [10] (lF 48 1 47),Zc [37,38,39,40,41,42,43,44,45,46,47,48] (fS 49 8 3),Zd [37,38,39,40,41,42,43,44,45,46,47,48] [12] (lF 50 1 49),Zd [37,38,39,40,41,42,43,44,45,46] [10,11,12,13] (xS 51 1 48 50),Zd [37,38,39,40,41,42,43,44,45,46] [10,11,12,13,14] (lF 52 1 51),Zd [37,38,39,40] [4,5,6,7,8,9,10,11,12,13,14,15] (bS 53 .add 46 52),Zd [37,38,39,40] [4,5,6,7,8,9,10,11,12,13,14,15,16] (bC 54 .rem 53 1000),Ze (.range 18) (xS 55 1 38 40),{o:=sS 1 55 54,ws:=[2],bf:=(.range 19)}] [6,7]) (Zs [bC 57 .eql 26 6,mS 56 57] [2,4,6,7,8,26,56] (.cond (.s 56) (.dreg [Zc [60,61,62,63,64,65,66,67] (fS 58 7 3),Zd [60,61,62,63,64,65,66,67] [0] (lF 59 1 58),Zc [58,59,62,63,64,65,66,67] (fS 60 8 2),Zd [58,59,62,63,64,65,66,67] [2] (lF 61 1 60),Zc [58,59,60,61,64,65] (fS 62 4 1),Zd [58,59,60,61,64,65] [4] (lF 63 1 62),Zc [58,59,60,61,62,63] (fS 64 8 1),Zd [58,59,60,61,62,63] [6] (lF 65 1 64),Zd [58,59,60,61] [4,5,6,7] (xS 66 1 63 65),Zd [58,59,60,61] [4,5,6,7,8] (lF 67 1 66),Ze (.range 10) (xS 68 1 59 61),{o:=sS 1 68 67,ws:=[4],bf:=(.range 11)}] [6,7]) (Zs [bC 70 .eql 26 7,mS 69 70] [2,4,6,7,8,26,69] (.cond (.s 69) (Zs [fS 71 4 1,lF 72 1 71,fS 73 8 1,lF 74 1 73,xS 75 1 72 74,lF 76 1 75,bC 77 .rem 76 2,bC 78 .eql 77 0] [6,7,8,78] (.cond (.s 78) (pr [fS 79 7 0,lF 80 1 79,fS 81 8 2,lF 82 1 81,bS 83 .add 80 82,fS 84 7 0,sS 1 84 83] [6,7]) .skip)) (Zs [bC 86 .eql 26 8,mS 85 86] [2,4,6,7,8,26,85] (.cond (.s 85) (.dreg [Zc [89,90,91,92,93,94,95,96] (fS 87 7 1),Zd [89,90,91,92,93,94,95,96] [0] (lF 88 1 87),Zc [87,88,91,92,93,94,95,96] (fS 89 8 1),Zd [87,88,91,92,93,94,95,96] [2] (lF 90 1 89),Zc [87,88,89,90,93,94] (fS 91 4 2),Zd [87,88,89,90,93,94] [4] (lF 92 1 91),Zc [87,88,89,90,91,92] (fS 93 8 2),Zd [87,88,89,90,91,92] [6] (lF 94 1 93),Zd [87,88,89,90] [4,5,6,7] (xS 95 1 92 94),Zd [87,88,89,90] [4,5,6,7,8] (lF 96 1 95),Ze (.range 10) (xS 97 1 88 90),{o:=sS 1 97 96,ws:=[2],bf:=(.range 11)}] [6,7]) (Zs [bC 99 .eql 26 9,mS 98 99] [2,4,6,7,8,98] (.cond (.s 98) (.dreg [Zc [102,103,104,105,106,107,108,109] (fS 100 7 2),Zd [102,103,104,105,106,107,108,109] [0] (lF 101 1 100),Zc [100,101,104,105,106,107,108,109] (fS 102 8 2),Zd [100,101,104,105,106,107,108,109] [2] (lF 103 1 102),Zc [100,101,102,103,106,107] (fS 104 4 1),Zd [100,101,102,103,106,107] [4] (lF 105 1 104),Zc [100,101,102,103,104,105] (fS 106 8 1),Zd [100,101,102,103,104,105] [6] (lF 107 1 106),Zd [100,101,102,103] [4,5,6,7] (xS 108 1 105 107),Zd [100,101,102,103] [4,5,6,7,8] (lF 109 1 108),Ze (.range 10) (xS 110 1 101 103),{o:=sS 1 110 109,ws:=[3],bf:=(.range 11)}] [6,7]) (pr [fS 27 7 1,lF 28 1 27,fS 29 8 1,lF 30 1 29,mS 31 2,.mm 32 true (.s 31) (ci 0),.mm 33 false (.s 32) (ci 999),xS 34 1 28 30,sS 1 34 33] [6,7])))))))))))))
(Zs [lT 111 4 7,sS 4 6 111] [6] .ret)))))))
set_option maxHeartbeats 1000000 in
theorem Cah(l:List GOp)(s:GState)(v:Int)(hs:s.size≤1073741824):Ctr Tryz.prog Nbr [aL 4 (l.map GOp.enc),aS s.enc,aI v] [rS (K1b l s v).enc]:=by
 refine cA Max 7 112 [(.cell 6 true 4,[false,true,true,true])] Tryz.func215 rfl rfl ?_;unfold Max
 intro hb
 clear hb
 simp only[go_sem]
 apply K0 (Cak s hs)
 simp only[go_sem]
 intros
 apply K0 (Cdk l s)
 simp only[go_sem]
 refine And.intro ?_ ?_<;>intro h
 ·rw[Ka8 h]
  try exact⟨rfl,rfl,rfl,rfl⟩
 ·obtain⟨k,o,D⟩:=K3p h
  rw[K76 h D]
  obtain⟨i,hi,hA,hk⟩:=K48 D.ok
  have hrl:=D.regs
  have hsl:=D.slots
  have hnl:=D.nodes
  obtain⟨r,hr⟩:=K5 (show i<s.Regs.length by omega)
  have hp0:(0:Int)≤(k:Int):=by omega
  have hp1:(k:Int)<l.length:=by have:=D.lt;omega
  have hi0:(0:Int)≤(i:Int):=by omega
  have hi1:(i:Int)<s.Regs.length:=by omega
  have hz:zAt s.Regs (i:Int)=r:=K2m hr
  simp only[go_sem,D.pc,K1 D.op,hp0,hp1]
  rcases hk with ⟨hK,j,m,hj,hm,hB,hC⟩|⟨hK,j,hj,hB⟩|⟨hK,hB⟩|⟨hK,j,hj,hB⟩|⟨hK,j,hj,hB⟩|hK
  ·obtain⟨rj,hrj⟩:=K5 (show j<s.Regs.length by omega)
   obtain⟨rm,hrm⟩:=K5 (show m<s.Regs.length by omega)
   have hj0:(0:Int)≤(j:Int):=by omega
   have hj1:(j:Int)<s.Regs.length:=by omega
   have hm0:(0:Int)≤(m:Int):=by omega
   have hm1:(m:Int)<s.Regs.length:=by omega
   simp only[go_sem,hK,hA,hB,hC,hi0,hi1,hj0,hj1,hm0,hm1,K1 hrj,K1 hrm,K1 hr,Int.reduceEq,c1000]
   simp[doOp,hK,hA,hB,hC,pcTo,D.pc,K2m hrj,K2m hrm,encI,List.map_set]
  ·obtain⟨nj,hnj⟩:=K5 (show j<s.Nodes.length by omega)
   have hj0:(0:Int)≤(j:Int):=by omega
   have hj1:(j:Int)<s.Nodes.length:=by omega
   simp only[go_sem,hK,hA,hB,hi0,hi1,hj0,hj1,K1 hnj,K1 hr,Int.reduceEq]
   simp[doOp,hK,hA,hB,pcTo,D.pc,hz,encI,List.map_set]
  ·simp only[go_sem,hK,hA,hi0,hi1,K1 hr,Int.reduceEq,c2]
   exact⟨fun h7=>by simp[doOp,hK,hA,pcTo,D.pc,hz,h7],fun h7=>by simp[doOp,hK,hA,pcTo,D.pc,hz,h7]⟩
  ·obtain⟨sj,hsj⟩:=K5 (show j<s.Slots.length by omega)
   have hj0:(0:Int)≤(j:Int):=by omega
   have hj1:(j:Int)<s.Slots.length:=by omega
   simp only[go_sem,hK,hA,hB,hi0,hi1,hj0,hj1,K1 hsj,K1 hr,Int.reduceEq]
   simp[doOp,hK,hA,hB,pcTo,D.pc,K2m hsj,encI,List.map_set]
  ·obtain⟨sj,hsj⟩:=K5 (show j<s.Slots.length by omega)
   have hj0:(0:Int)≤(j:Int):=by omega
   have hj1:(j:Int)<s.Slots.length:=by omega
   simp only[go_sem,hK,hA,hB,hi0,hi1,hj0,hj1,K1 hsj,K1 hr,Int.reduceEq]
   simp[doOp,hK,hA,hB,pcTo,D.pc,hz,encI,List.map_set]
  ·have k5:¬o.Kind=5:=by omega
   have k6:¬o.Kind=6:=by omega
   have k7:¬o.Kind=7:=by omega
   have k8:¬o.Kind=8:=by omega
   have k9:¬o.Kind=9:=by omega
   simp only[go_sem,k5,k6,k7,k8,k9,hA,hi0,hi1,K1 hr]
   simp[doOp,k5,k6,k7,k8,k9,hA,pcTo,D.pc,clamp,encI,List.map_set]
def Mbk:MC:=
(Zs [.box 4 0 (.s 1),.alloc 6 1 [pz,.emp 1,.emp 1,.emp 1]] [0,2,4,6] (Zs [lT 9 4 4,.call 10 [2,3,4] (.f N6d) [.s 9],.alloc 7 5 [pz,.emp 1,.emp 1,.emp 1],sS 4 7 10] [0,2,4,6,7] (.seq (Zs [mS 11 0,lT 12 4 4,.call 13 [] (.f N8a) [.s 11,.s 12],.un 14 .not (.s 13)] [0,2,4,6,7,14] (.cond (.s 14) (Zs [lT 15 4 7,sS 4 6 15] [6] .ret) .skip))
(Zs [mS 16 0,fS 17 4 0,lF 18 1 17,xS 19 4 16 18,lT 20 4 19,.alloc 8 6 [pz,pz,pz,pz],sS 4 8 20] [2,4,6,7,8] (Zs [fS 21 4 0,lF 22 1 21,bC 23 .add 22 1,fS 24 7 0,sS 1 24 23] [2,4,6,7,8] (.seq (Zs [fS 25 8 0,lF 26 1 25] [2,4,6,7,8,26] (.block 0 (Zs [bC 36 .eql 26 5,mS 35 36] [2,4,6,7,8,26,35] (.cond (.s 35) (.dreg [Zc [39,40,41,42,43,44,45,46,47,48,49,50,51,52,53,54] (fS 37 7 1),Zd [39,40,41,42,43,44,45,46,47,48,49,50,51,52,53,54] [0] (lF 38 1 37),Zc [37,38,41,42,43,44,45,46,47,48,49,50,51,52,53,54] (fS 39 8 1),Zd [37,38,41,42,43,44,45,46,47,48,49,50,51,52,53,54] [2] (lF 40 1 39),Zc [37,38,39,40,43,44,47,48,49,50,51,52] (fS 41 4 1),Zd [37,38,39,40,43,44,47,48,49,50,51,52] [4] (lF 42 1 41),Zc [37,38,39,40,41,42,47,48,49,50,51,52] (fS 43 8 2),Zd [37,38,39,40,41,42,47,48,49,50,51,52] [6] (lF 44 1 43),Zd [37,38,39,40,47,48,49,50,51,52] [4,5,6,7] (xS 45 1 42 44),Zd [37,38,39,40,47,48,49,50,51,52] [4,5,6,7,8] (lF 46 1 45),Zc [37,38,39,40,41,42,43,44,45,46,49,50] (fS 47 4 1),Zd [37,38,39,40,41,42,43,44,45,46,49,50] [10] (lF 48 1 47),Zc [37,38,39,40,41,42,43,44,45,46,47,48] (fS 49 8 3),Zd [37,38,39,40,41,42,43,44,45,46,47,48] [12] (lF 50 1 49),Zd [37,38,39,40,41,42,43,44,45,46] [10,11,12,13] (xS 51 1 48 50),Zd [37,38,39,40,41,42,43,44,45,46] [10,11,12,13,14] (lF 52 1 51),Zd [37,38,39,40] [4,5,6,7,8,9,10,11,12,13,14,15] (bS 53 .add 46 52),Zd [37,38,39,40] [4,5,6,7,8,9,10,11,12,13,14,15,16] (bC 54 .rem 53 1000),Ze (.range 18) (xS 55 1 38 40),{o:=sS 1 55 54,ws:=[2],bf:=(.range 19)}] [6,7]) (Zs [bC 57 .eql 26 6,mS 56 57] [2,4,6,7,8,26,56] (.cond (.s 56) (.dreg [Zc [60,61,62,63,64,65,66,67] (fS 58 7 3),Zd [60,61,62,63,64,65,66,67] [0] (lF 59 1 58),Zc [58,59,62,63,64,65,66,67] (fS 60 8 2),Zd [58,59,62,63,64,65,66,67] [2] (lF 61 1 60),Zc [58,59,60,61,64,65] (fS 62 4 1),Zd [58,59,60,61,64,65] [4] (lF 63 1 62),Zc [58,59,60,61,62,63] (fS 64 8 1),Zd [58,59,60,61,62,63] [6] (lF 65 1 64),Zd [58,59,60,61] [4,5,6,7] (xS 66 1 63 65),Zd [58,59,60,61] [4,5,6,7,8] (lF 67 1 66),Ze (.range 10) (xS 68 1 59 61),{o:=sS 1 68 67,ws:=[4],bf:=(.range 11)}] [6,7]) (Zs [bC 70 .eql 26 7,mS 69 70] [2,4,6,7,8,26,69] (.cond (.s 69) (Zs [fS 71 4 1,lF 72 1 71,fS 73 8 1,lF 74 1 73,xS 75 1 72 74,lF 76 1 75,bC 77 .rem 76 2,bC 78 .eql 77 0] [4,6,7,8,78] (.cond (.s 78) (pr [fS 79 4 0,lF 80 1 79,bC 81 .add 80 1,fS 82 8 2,lF 83 1 82,bS 84 .add 81 83,fS 85 7 0,sS 1 85 84] [6,7]) .skip)) (Zs [bC 87 .eql 26 8,mS 86 87] [2,4,6,7,8,26,86] (.cond (.s 86) (.dreg [Zc [90,91,92,93,94,95,96,97] (fS 88 7 1),Zd [90,91,92,93,94,95,96,97] [0] (lF 89 1 88),Zc [88,89,92,93,94,95,96,97] (fS 90 8 1),Zd [88,89,92,93,94,95,96,97] [2] (lF 91 1 90),Zc [88,89,90,91,94,95] (fS 92 4 2),Zd [88,89,90,91,94,95] [4] (lF 93 1 92),Zc [88,89,90,91,92,93] (fS 94 8 2),Zd [88,89,90,91,92,93] [6] (lF 95 1 94),Zd [88,89,90,91] [4,5,6,7] (xS 96 1 93 95),Zd [88,89,90,91] [4,5,6,7,8] (lF 97 1 96),Ze (.range 10) (xS 98 1 89 91),{o:=sS 1 98 97,ws:=[2],bf:=(.range 11)}] [6,7]) (Zs [bC 100 .eql 26 9,mS 99 100] [2,4,6,7,8,99] (.cond (.s 99) (.dreg [Zc [103,104,105,106,107,108,109,110] (fS 101 7 2),Zd [103,104,105,106,107,108,109,110] [0] (lF 102 1 101),Zc [101,102,105,106,107,108,109,110] (fS 103 8 2),Zd [101,102,105,106,107,108,109,110] [2] (lF 104 1 103),Zc [101,102,103,104,107,108] (fS 105 4 1),Zd [101,102,103,104,107,108] [4] (lF 106 1 105),Zc [101,102,103,104,105,106] (fS 107 8 1),Zd [101,102,103,104,105,106] [6] (lF 108 1 107),Zd [101,102,103,104] [4,5,6,7] (xS 109 1 106 108),Zd [101,102,103,104] [4,5,6,7,8] (lF 110 1 109),Ze (.range 10) (xS 111 1 102 104),{o:=sS 1 111 110,ws:=[3],bf:=(.range 11)}] [6,7]) (.dreg [Zc [29,30,31,32,33] (fS 27 7 1),Zd [29,30,31,32,33] [0] (lF 28 1 27),Zc [27,28,31,32,33] (fS 29 8 1),Zd [27,28,31,32,33] [2] (lF 30 1 29),Zc [27,28,29,30] (mS 31 2),Zd [27,28,29,30] [4] (.call 32 [] (.f Njk) [.c (.int .i64 999),.s 31]),Zd [27,28,29,30] [4,5] (.call 33 [] (.f Nes) [.c (.int .i64 0),.s 32]),Ze (.range 7) (xS 34 1 28 30),{o:=sS 1 34 33,ws:=[2],bf:=(.range 8)}] [6,7])))))))))))))
(Zs [lT 112 4 7,sS 4 6 112] [6] .ret)))))))
set_option maxHeartbeats 1000000 in
theorem Cap(l:List GOp)(s:GState)(v:Int)(hs:s.size≤1073741824):Ctr Tryz.prog Nc9 [aL 4 (l.map GOp.enc),aS s.enc,aI v] [rS (K1b l s v).enc]:=by
 refine cA Mbk 7 113 [(.cell 6 true 4,[false,true,true,true])] Tryz.func198 rfl rfl ?_;unfold Mbk
 intro hb
 clear hb
 simp only[go_sem]
 apply K0 (Cdn s hs)
 simp only[go_sem]
 intros
 apply K0 (Cev l s)
 simp only[go_sem]
 refine And.intro ?_ ?_<;>intro h
 ·rw[Ka8 h]
  try exact⟨rfl,rfl,rfl,rfl⟩
 ·obtain⟨k,o,D⟩:=K3p h
  rw[K76 h D]
  obtain⟨i,hi,hA,hk⟩:=K48 D.ok
  have hrl:=D.regs
  have hsl:=D.slots
  have hnl:=D.nodes
  obtain⟨r,hr⟩:=K5 (show i<s.Regs.length by omega)
  have hp0:(0:Int)≤(k:Int):=by omega
  have hp1:(k:Int)<l.length:=by have:=D.lt;omega
  have hi0:(0:Int)≤(i:Int):=by omega
  have hi1:(i:Int)<s.Regs.length:=by omega
  have hz:zAt s.Regs (i:Int)=r:=K2m hr
  simp only[go_sem,D.pc,K1 D.op,hp0,hp1]
  rcases hk with ⟨hK,j,m,hj,hm,hB,hC⟩|⟨hK,j,hj,hB⟩|⟨hK,hB⟩|⟨hK,j,hj,hB⟩|⟨hK,j,hj,hB⟩|hK
  ·obtain⟨rj,hrj⟩:=K5 (show j<s.Regs.length by omega)
   obtain⟨rm,hrm⟩:=K5 (show m<s.Regs.length by omega)
   have hj0:(0:Int)≤(j:Int):=by omega
   have hj1:(j:Int)<s.Regs.length:=by omega
   have hm0:(0:Int)≤(m:Int):=by omega
   have hm1:(m:Int)<s.Regs.length:=by omega
   simp only[go_sem,hK,hA,hB,hC,hi0,hi1,hj0,hj1,hm0,hm1,K1 hrj,K1 hrm,K1 hr,Int.reduceEq,c1000]
   simp[doOp,hK,hA,hB,hC,pcTo,D.pc,K2m hrj,K2m hrm,encI,List.map_set]
  ·obtain⟨nj,hnj⟩:=K5 (show j<s.Nodes.length by omega)
   have hj0:(0:Int)≤(j:Int):=by omega
   have hj1:(j:Int)<s.Nodes.length:=by omega
   simp only[go_sem,hK,hA,hB,hi0,hi1,hj0,hj1,K1 hnj,K1 hr,Int.reduceEq]
   simp[doOp,hK,hA,hB,pcTo,D.pc,hz,encI,List.map_set]
  ·simp only[go_sem,hK,hA,hi0,hi1,K1 hr,Int.reduceEq,c2]
   exact⟨fun h7=>by simp[doOp,hK,hA,pcTo,D.pc,hz,h7],fun h7=>by simp[doOp,hK,hA,pcTo,D.pc,hz,h7]⟩
  ·obtain⟨sj,hsj⟩:=K5 (show j<s.Slots.length by omega)
   have hj0:(0:Int)≤(j:Int):=by omega
   have hj1:(j:Int)<s.Slots.length:=by omega
   simp only[go_sem,hK,hA,hB,hi0,hi1,hj0,hj1,K1 hsj,K1 hr,Int.reduceEq]
   simp[doOp,hK,hA,hB,pcTo,D.pc,K2m hsj,encI,List.map_set]
  ·obtain⟨sj,hsj⟩:=K5 (show j<s.Slots.length by omega)
   have hj0:(0:Int)≤(j:Int):=by omega
   have hj1:(j:Int)<s.Slots.length:=by omega
   simp only[go_sem,hK,hA,hB,hi0,hi1,hj0,hj1,K1 hsj,K1 hr,Int.reduceEq]
   simp[doOp,hK,hA,hB,pcTo,D.pc,hz,encI,List.map_set]
  ·have k5:¬o.Kind=5:=by omega
   have k6:¬o.Kind=6:=by omega
   have k7:¬o.Kind=7:=by omega
   have k8:¬o.Kind=8:=by omega
   have k9:¬o.Kind=9:=by omega
   simp only[go_sem,k5,k6,k7,k8,k9,hA,hi0,hi1,K1 hr]
   apply K0 (Ckp 999 v)
   simp only[go_sem]
   try intros
   apply K0 (Cjb 0 _)
   simp only[go_sem,hi0,hi1,K1 hr]
   try intros
   rw[clamp_eq]
   simp[doOp,k5,k6,k7,k8,k9,hA,pcTo,D.pc,encI,List.map_set]
theorem K4r{l:List Int}{a b:Int}{i:Nat}{x:Int}(h:K22 l a b=true)(hx:a≤x∧x≤b):K22 (l.set i x) a b=true:=by
 refine List.all_eq_true.2 fun y hy=>?_
 rcases List.mem_or_eq_of_mem_set hy with hy|rfl
 ·exact List.all_eq_true.1 h y hy
 ·simpa using hx
theorem clamp_in(v:Int):0≤clamp v∧clamp v≤999:=by
 unfold clamp;repeat' split
 all_goals omega
theorem K58{s:GState}(h0:0≤s.Pc∧s.Pc≤19)(h1:s.Regs.length=4)(h2:s.Slots.length=3)(h3:s.Nodes.length=4)(h4:K22 s.Regs 0 999=true)(h5:K22 s.Slots 0 999=true)(h6:K22 s.Nodes 0 999=true):stOk s=true:=by
 unfold stOk;simp[h0,h1,h2,h3,h4,h5,h6]
theorem K75{s:GState}(h:stOk s=true):(0≤s.Pc∧s.Pc≤19)∧s.Regs.length=4∧s.Slots.length=3∧s.Nodes.length=4∧K22 s.Regs 0 999=true∧K22 s.Slots 0 999=true∧K22 s.Nodes 0 999=true:=by
 simp only[stOk,Bool.and_eq_true,decide_eq_true_eq]at h
 exact⟨h.1,h.2.1.1,h.2.1.2.1,h.2.1.2.2,h.2.2.1,h.2.2.2.1,h.2.2.2.2⟩
theorem doOp_ok{l:List GOp}{s:GState}{k:Nat}{o:GOp}{v:Int}(hs:stOk s=true)(D:Doing l s k o):stOk (doOp o s v)=true∧s.Pc<(doOp o s v).Pc:=by
 obtain⟨h0,h1,h2,h3,h4,h5,h6⟩:=K75 hs
 obtain⟨i,hi,hA,hk⟩:=K48 D.ok
 have hpc:=D.pc
 have hlt:=D.lt
 have hfw:=D.few
 have hp:pcTo s.Pc=s.Pc+1:=wI (by omega) (by omega)
 obtain⟨r,hr⟩:=K5 (show i<s.Regs.length by omega)
 have hz:zAt s.Regs o.A=r:=by rw[hA];exact K2m hr
 have hri:=D.rin i r hr
 rcases hk with ⟨hK,j,m,hj,hm,hB,hC⟩|⟨hK,j,hj,hB⟩|⟨hK,hB⟩|⟨hK,j,hj,hB⟩|⟨hK,j,hj,hB⟩|hK
 ·obtain⟨rj,hrj⟩:=K5 (show j<s.Regs.length by omega)
  obtain⟨rm,hrm⟩:=K5 (show m<s.Regs.length by omega)
  have e1:zAt s.Regs o.B=rj:=by rw[hB];exact K2m hrj
  have e2:zAt s.Regs o.C=rm:=by rw[hC];exact K2m hrm
  have b1:=D.rin j rj hrj
  have b2:=D.rin m rm hrm
  have e3:IntKind.i64.wrap (rj+rm)=rj+rm:=wI (by omega) (by omega)
  simp only[doOp,hK,if_true,hp,e1,e2,e3]
  refine⟨K58 (by simp only;omega) (by simp[h1]) h2 h3 (K4r h4 ?_) h5 h6,by omega⟩
  rw[Int.tmod_eq_emod_of_nonneg (by omega)]
  omega
 ·simp only[doOp,hK,Int.reduceEq,if_false,if_true,hp,hz]
  exact⟨K58 (by simp only;omega) h1 h2 (by simp[h3]) h4 h5 (K4r h6 hri),by omega⟩
 ·have e4:IntKind.i64.wrap (s.Pc+1+o.B)=s.Pc+1+o.B:=wI (by omega) (by omega)
  simp only[doOp,hK,Int.reduceEq,if_false,if_true,hp,hz,e4]
  refine⟨K58 (by simp only;split<;>omega) h1 h2 h3 h4 h5 h6,by split<;>omega⟩
 ·obtain⟨sj,hsj⟩:=K5 (show j<s.Slots.length by omega)
  have e1:zAt s.Slots o.B=sj:=by rw[hB];exact K2m hsj
  simp only[doOp,hK,Int.reduceEq,if_false,if_true,hp,e1]
  exact⟨K58 (by simp only;omega) (by simp[h1]) h2 h3 (K4r h4 (D.sin j sj hsj)) h5 h6,by omega⟩
 ·simp only[doOp,hK,Int.reduceEq,if_false,if_true,hp,hz]
  exact⟨K58 (by simp only;omega) h1 (by simp[h2]) h3 h4 (K4r h5 hri) h6,by omega⟩
 ·have k5:¬o.Kind=5:=by omega
  have k6:¬o.Kind=6:=by omega
  have k7:¬o.Kind=7:=by omega
  have k8:¬o.Kind=8:=by omega
  have k9:¬o.Kind=9:=by omega
  simp only[doOp,k5,k6,k7,k8,k9,if_false,hp]
  exact⟨K58 (by simp only;omega) (by simp[h1]) h2 h3 (K4r h4 (clamp_in v)) h5 h6,by omega⟩
theorem K3y{l:List GOp}{s:GState}{v:Int}(hs:stOk s=true):stOk (K1b l s v)=true:=by
 cases h:K39 l s
 ·rw[Ka8 h];exact hs
 ·obtain⟨k,o,D⟩:=K3p h
  rw[K76 h D];exact(doOp_ok hs D).1
theorem K5z{l:List GOp}{s:GState}{v:Int}(hl:K1x l=true)(hs:stOk s=true)(hp:s.Pc<l.length):s.Pc<(K1b l s v).Pc:=by
 have h:K39 l s=true:=by unfold K39;rw[hl,hs,decide_eq_true hp];rfl
 obtain⟨k,o,D⟩:=K3p h
 rw[K76 h D];exact(doOp_ok hs D).2
theorem K5x{s:GState}(h:stOk s=true):s.size=11:=by
 obtain⟨h0,h1,h2,h3,-⟩:=K75 h
 simp only[GState.size];omega
def playF(l:List GOp)(es:List GEntry):Nat→Nat→GState→List GState→GPlayed×List GState
 |0,n,s,tr=>(⟨0,0,s⟩,tr)
 |f+1,n,s,tr=>
  if s.Pc≥l.length then(if n<es.length then⟨1,n,s⟩else⟨0,0,s⟩,tr)
  else if (K18 l s).Kind=0 then playF l es f n (K1b l s 0) (tr++[K1b l s 0])
  else match es[n]? with
   |none=>(⟨2,n,s⟩,tr)
   |some e=>if e.Kind=(K18 l s).Kind∧e.Address=(K18 l s).Address then playF l es f (n+1) (K1b l s e.Value) (tr++[K1b l s e.Value])else(⟨1,n,s⟩,tr)
def play(l:List GOp)(es:List GEntry):GPlayed×List GState:=if K1x l=true∧K7i es=true then playF l es 20 0 st0 [st0]else(⟨2,0,st0⟩,[st0])
theorem K8z{l:List GOp}{es:List GEntry}:∀ {f n:Nat} {s:GState} {tr:List GState},stOk s=true→stOk (playF l es f n s tr).1.State=true
 |0,n,s,tr,h=>h
 |f+1,n,s,tr,h=>by
  rw[playF]
  split
  ·split<;>exact h
  ·split
   ·exact K8z (K3y h)
   ·split
    ·exact h
    ·split
     ·exact K8z (K3y h)
     ·exact h
theorem K9u:stOk st0=true:=by decide
theorem play_ok(l:List GOp)(es:List GEntry):stOk (play l es).1.State=true:=by
 unfold play
 split
 ·exact K8z K9u
 ·exact K9u
theorem K8j(l:List GOp)(s:GState):0≤(K18 l s).Kind:=by
 unfold K18
 split
 ·rename_i h
  have:=h.2
  simp only[asks,decide_eq_true_eq]at this
  simp only
  omega
 ·simp
def rP(p:GPlayed):RV:=⟨true,[(false,tI p.Code),(false,tI p.At),(false,tI p.State.Pc),(false,.sl 1 (p.State.Regs.map encI)),(false,.sl 1 (p.State.Slots.map encI)),(false,.sl 1 (p.State.Nodes.map encI))]⟩
def rT(tr:List GState):RV:=⟨false,[(false,.sl 4 (tr.map GState.enc))]⟩
attribute [go_sem] rP rT
def Mex:MC:=
(Zs [.box 3 0 (.s 1),.mv 4 cF] [0,3] (Zs [fS 5 3 0,lF 6 1 5,mS 7 0,nS 8 7,bS 9 .geq 6 8,mS 4 9] [4] .ret))
theorem Ck0(l:List GOp)(s:GState):Ctr Tryz.prog Nfj [aL 4 (l.map GOp.enc),aS s.enc] [rB (decide (s.Pc≥l.length))]:=by
 refine cA Mex 1 10 [(.tmp 4,[false])] Tryz.func213 rfl rfl ?_;unfold Mex
 intro hb
 clear hb
 simp only[go_sem]
def Mfa:MC:=
(Zs [.box 3 0 (.s 1),.mv 4 cF] [0,3] (Zs [fS 5 3 0,lF 6 1 5,mS 7 0,nS 8 7,bS 9 .geq 6 8,mS 4 9] [4] .ret))
theorem Cka(l:List GOp)(s:GState):Ctr Tryz.prog Nft [aL 4 (l.map GOp.enc),aS s.enc] [rB (decide (s.Pc≥l.length))]:=by
 refine cA Mfa 1 10 [(.tmp 4,[false])] Tryz.func196 rfl rfl ?_;unfold Mfa
 intro hb
 clear hb
 simp only[go_sem]
def Mf1:MC:=
(Zs [.alloc 4 0 [pz,pz,pz,.emp 1,.emp 1,.emp 1],.nilo 5 1 4] [0,1,4] (Zs [.call 11 [2,3,4] (.f N9u) [],.alloc 6 5 [pz,.emp 1,.emp 1,.emp 1],sS 4 6 11] [0,1,4,6] (Zs [lT 12 4 6,.lit 13 1 4 80 [.s 12],mS 7 13] [0,1,4,6,7] (.seq (.seq (.reg [Za (mS 14 0),Za (.call 15 [] (.f N28) [.s 14]),Za (.un 16 .not (.s 15)),Za (mS 17 16),Zb 17 false (mS 18 1),Zb 17 false (.call 19 [] (.f N3j) [.s 18]),Zb 17 false (.un 20 .not (.s 19)),Za (.pick 21 (.s 17) cT (.s 20))] [0,1,4,6,7,21])
(.cond (.s 21) (Zs [lT 22 4 6,.build 23 [pz,pz,pz,.emp 1,.emp 1,.emp 1] [(0,1,.c (.int .i64 2)),(1,1,.c (.int .i64 0)),(2,4,.s 22)],mS 24 7,sS 6 4 23,mS 5 24] [4,5] .ret) .skip))
(Zs [.mv 8 (ci 0)] [0,1,4,6,7,8] (.seq (.block 0 (.loop ([0,1,4,6,7,8],[6,7]) (.seq (Zs [mS 25 0,lT 26 4 6,.call 27 [] (.f Nfj) [.s 25,.s 26],.un 28 .not (.s 27)] [0,1,4,6,7,8,28] (cX 28 0))
(.block 1 (Zs [.mv 9 (ci 0)] [0,1,4,6,7,8,9] (.seq (Zs [mS 29 0,lT 30 4 6,.call 31 [] (.f Nfm) [.s 29,.s 30],.alloc 10 6 [pz,pz,pz,pz],sS 4 10 31] [0,1,4,6,7,8,9,10] (Zs [fS 32 10 0,lF 33 1 32,bC 34 .neq 33 0] [0,1,4,6,7,8,9,10,34] (.cond (.s 34) (.seq (Zs [mS 35 8,mS 36 1,nS 37 36,bS 38 .eql 35 37] [0,1,4,6,7,8,10,38] (.cond (.s 38) (Zs [mS 39 8,lT 40 4 6,.build 41 [pz,pz,pz,.emp 1,.emp 1,.emp 1] [(0,1,.c (.int .i64 2)),(1,1,.s 39),(2,4,.s 40)],mS 42 7,sS 6 4 41,mS 5 42] [4,5] .ret) .skip))
(.seq (.seq (.dreg [Zc [44,48,49] (mS 43 1),Zc [43,48,49] (mS 44 8),Zd [48,49] [0,1] (xS 45 5 43 44),Zd [48,49] [0,1,2] (fS 46 45 0),Zd [48,49] (.range 4) (lF 47 1 46),Zc [43,44,45,46,47] (fS 48 10 0),Zd [43,44,45,46,47] [5] (lF 49 1 48),Ze (.range 7) (bS 50 .neq 47 49),Ze (.range 8) (mS 51 50),{o:=mS 52 1,g:=some (51,false),hs:=[53,57,58],bf:=(.range 9)},{o:=mS 53 8,g:=some (51,false),hs:=[52,57,58],bf:=(.range 9)},{o:=xS 54 5 52 53,g:=some (51,false),hs:=[57,58],bf:=(.range 11)},{o:=fS 55 54 1,g:=some (51,false),hs:=[57,58],bf:=(.range 12)},{o:=lT 56 3 55,g:=some (51,false),hs:=[57,58],bf:=(.range 13)},{o:=fS 57 10 1,g:=some (51,false),hs:=[52,53,54,55,56],bf:=(.range 9)},{o:=lT 58 3 57,g:=some (51,false),hs:=[52,53,54,55,56],bf:=[0,1,2,3,4,5,6,7,8,14]},{o:= .eqA 59 true [.i .i64,.i .i64,.i .i64] (.s 56) (.s 58),g:=some (51,false),bf:=(.range 16)},Ze (.range 17) (.pick 60 (.s 51) cT (.s 59))] [0,1,4,6,7,8,60])
(.cond (.s 60) (Zs [mS 61 8,lT 62 4 6,.build 63 [pz,pz,pz,.emp 1,.emp 1,.emp 1] [(0,1,.c (.int .i64 1)),(1,1,.s 61),(2,4,.s 62)],mS 64 7,sS 6 4 63,mS 5 64] [4,5] .ret) .skip))
(Zs [mS 65 1,mS 66 8,xS 67 5 65 66,fS 68 67 4,lF 69 1 68,mS 9 69] [0,1,4,6,7,8,9] (pr [mS 70 8,bC 71 .add 70 1,mS 8 71] [0,1,4,6,7,8,9])))) .skip)))
(Zs [mS 72 0,lT 73 4 6,mS 74 9,.call 75 [2,3,4] (.f Nbr) [.s 72,.s 73,.s 74],sS 4 6 75] [0,1,4,6,7,8] (pr [mS 76 7,lT 77 4 6,.lit 78 7 4 80 [.s 77],.app 79 1 4 80 (.s 76) (.s 78),mS 7 79] [0,1,4,6,7,8]))))))))
(.seq (Zs [mS 80 8,mS 81 1,nS 82 81,bS 83 .lss 80 82] [4,6,7,8,83] (.cond (.s 83) (Zs [mS 84 8,lT 85 4 6,.build 86 [pz,pz,pz,.emp 1,.emp 1,.emp 1] [(0,1,.c (.int .i64 1)),(1,1,.s 84),(2,4,.s 85)],mS 87 7,sS 6 4 86,mS 5 87] [4,5] .ret) .skip))
(Zs [lT 88 4 6,.build 89 [pz,pz,pz,.emp 1,.emp 1,.emp 1] [(0,1,.c (.int .i64 0)),(1,1,.c (.int .i64 0)),(2,4,.s 88)],mS 90 7,sS 6 4 89,mS 5 90] [4,5] .ret))))))))
set_option maxHeartbeats 2000000 in
theorem Ck4(l:List GOp)(es:List GEntry):Ctr Tryz.prog Nfn [aL 4 (l.map GOp.enc),aL 5 (es.map GEntry.enc)] [rP (play l es).1,rT (play l es).2]:=by
 refine cA Mf1 8 91 [(.cell 4 true 6,[false,false,false,false,false,false]),(.tmp 5,[false])] Tryz.func170 rfl rfl ?_;unfold Mf1
 intro hb
 simp only[bdA,bdL,bdT,K7,roomB,and_true,List.length_map]at hb
 have hel:es.length≤140737488355328:=hb.2.1
 clear hb
 simp only[go_sem]
 apply K0 Chk
 simp only[go_sem]
 intros
 refine⟨by decide,?_⟩
 apply K0 (C30 l)
 simp only[go_sem]
 repeat' first
  |(refine And.intro ?_ ?_<;>intro h)
  |(apply K0 (C8b es);simp only[go_sem])
 ·have hP:play l es=(⟨2,0,st0⟩,[st0]):=by rw[play,if_neg (by simp_all)]
  rw[hP]
  exact⟨⟨rfl,rfl,rfl,rfl,rfl,rfl⟩,rfl⟩
 ·have hP:play l es=(⟨2,0,st0⟩,[st0]):=by rw[play,if_neg (by simp_all)]
  rw[hP]
  exact⟨⟨rfl,rfl,rfl,rfl,rfl,rfl⟩,rfl⟩
 ·have hl:K1x l=true:=by assumption
  have hfew:l.length≤16:=by
   simp only[K1x,K17,Bool.and_eq_true,decide_eq_true_eq]at hl
   exact hl.1
  have hP:play l es=playF l es 20 0 st0 [st0]:=by rw[play,if_pos (by simp_all)]
  refine Kq (ι:=Nat×GState×List GState) (fun t=>[(7,.val false [.ref 1 0 4 0 t.2.2.length]),(8,vI (t.1:Nat))]) (fun t=>[(1,⟨0,.row true 4 (t.2.2.map GState.enc)⟩),(2,⟨0,.lent 1 (t.2.1.Regs.map encI)⟩),(3,⟨0,.lent 1 (t.2.1.Slots.map encI)⟩),(4,⟨0,.lent 1 (t.2.1.Nodes.map encI)⟩),(5,⟨0,.box [.pl (tI t.2.1.Pc),.ref 2 0 1 0 t.2.1.Regs.length,.ref 3 0 1 0 t.2.1.Slots.length,.ref 4 0 1 0 t.2.1.Nodes.length]⟩)])
   (fun t=>stOk t.2.1=true∧t.1≤es.length∧∃f,l.length-t.2.1.Pc.toNat<f∧t.2.2.length+(l.length-t.2.1.Pc.toNat)≤18∧playF l es f t.1 t.2.1 t.2.2=play l es) (fun t=>l.length-t.2.1.Pc.toNat) (0,st0,[st0]) ?_
  simp only[go_sem]
  refine⟨?_,⟨K9u,Nat.zero_le _,20,by simp only[st0];omega,by simp only[st0,List.length_cons,List.length_nil];omega,hP.symm⟩,?_⟩
  ·simp only[go_sem]
   try exact⟨rfl,rfl⟩
   try trivial
  ·rintro ⟨n,s,tr⟩ ⟨hs,hn,f,hf,htr,hp⟩
   simp only at hs hn hf htr hp
   obtain⟨f,rfl⟩:∃f',f=f'+1:=⟨f-1,by omega⟩
   rw[playF]at hp
   have hsz:=K5x hs
   have h0:=(K75 hs).1.1
   simp only[go_sem]
   apply K0 (Ck0 l s)
   by_cases hd:s.Pc≥l.length
   ·rw[if_pos hd]at hp
    simp only[go_sem,hd]
    refine⟨fun hlt=>?_,fun hge=>?_⟩
    ·rw[if_pos (by omega)]at hp
     rw[←hp]
     exact⟨⟨rfl,rfl,rfl,rfl,rfl,rfl⟩,rfl⟩
    ·rw[if_neg (by omega)]at hp
     rw[←hp]
     exact⟨⟨rfl,rfl,rfl,rfl,rfl,rfl⟩,rfl⟩
   ·rw[if_neg hd]at hp
    simp only[go_sem,hd]
    apply K0 (Ck3 l s)
    simp only[go_sem]
    intros
    by_cases hw:(K18 l s).Kind=0
    ·rw[if_pos hw]at hp
     have hlt:=K5z (v:=0) hl hs (by omega)
     have hok:=K3y (l:=l) (v:=0) hs
     simp only[go_sem,hw]
     apply K0 (Cah l s 0 (by omega))
     simp only[go_sem]
     intros
     exact⟨by decide,by simp only[roomB];omega,(n,K1b l s 0,tr++[K1b l s 0]),⟨⟨by simp,rfl⟩,by simp[GState.enc],rfl,rfl,rfl,rfl,rfl,rfl,rfl⟩,⟨hok,hn,f,by simp only;omega,by simp only[List.length_append,List.length_cons,List.length_nil];omega,hp⟩,by simp only;omega⟩
    ·rw[if_neg hw]at hp
     have hw':(K18 l s).Kind>0:=by have:=K8j l s;omega
     by_cases hne:n=es.length
     ·rw[List.getElem?_eq_none (by omega)]at hp
      simp only at hp
      subst hne
      have hne1:(es.length:Int)=es.length:=rfl
      have hne2:(es.length:Int)≥es.length:=Int.le_refl _
      simp only[go_sem,hw]
      rw[←hp]
      exact⟨⟨rfl,rfl,rfl,rfl,rfl,rfl⟩,rfl⟩
     ·obtain⟨e,he⟩:=K5 (show n<es.length by omega)
      rw[he]at hp
      simp only at hp
      have hne1:¬(n:Int)=es.length:=by omega
      have hne2:¬(n:Int)≥es.length:=by omega
      have hn0:(0:Int)≤(n:Int):=by omega
      have hn1:(n:Int)<es.length:=by omega
      have hwn:IntKind.i64.wrap ((n:Int)+1)=((n+1:Nat):Int):=by rw[wI (by omega) (by omega)];omega
      by_cases c1:e.Kind=(K18 l s).Kind
      ·by_cases c2:e.Address=(K18 l s).Address
       ·rw[if_pos ⟨c1,c2⟩]at hp
        have hdec:=decide_eq_true c2
        have hlt:=K5z (v:=e.Value) hl hs (by omega)
        have hok:=K3y (l:=l) (v:=e.Value) hs
        simp only[go_sem,hw,hne1,hn0,hn1,K1 he,addrB,c1,hdec]
        apply K0 (Cah l s e.Value (by omega))
        simp only[go_sem,hwn]
        intros
        exact⟨by decide,by simp only[roomB];omega,(n+1,K1b l s e.Value,tr++[K1b l s e.Value]),⟨⟨by simp,rfl⟩,by simp[GState.enc],rfl,rfl,rfl,rfl,rfl,rfl,rfl⟩,⟨hok,by simp only;omega,f,by simp only;omega,by simp only[List.length_append,List.length_cons,List.length_nil];omega,hp⟩,by simp only;omega⟩
       ·rw[if_neg (fun h=>c2 h.2)]at hp
        have hdec:=decide_eq_false c2
        simp only[go_sem,hw,hne1,hn0,hn1,K1 he,addrB,c1,hdec]
        rw[←hp]
        exact⟨⟨rfl,rfl,rfl,rfl,rfl,rfl⟩,rfl⟩
      ·rw[if_neg (fun h=>c1 h.1)]at hp
       simp only[go_sem,hw,hne1,hn0,hn1,K1 he,addrB,c1]
       rw[←hp]
       exact⟨⟨rfl,rfl,rfl,rfl,rfl,rfl⟩,rfl⟩
def Mfg:MC:=
(Zs [.alloc 4 0 [pz,pz,pz,.emp 1,.emp 1,.emp 1],.nilo 5 1 4] [0,1,4] (Zs [.call 11 [2,3,4] (.f Nad) [],.alloc 6 5 [pz,.emp 1,.emp 1,.emp 1],sS 4 6 11] [0,1,4,6] (Zs [lT 12 4 6,.lit 13 1 4 80 [.s 12],mS 7 13] [0,1,4,6,7] (.seq (.seq (.reg [Za (mS 14 0),Za (.call 15 [] (.f N2a) [.s 14]),Za (.un 16 .not (.s 15)),Za (mS 17 16),Zb 17 false (mS 18 1),Zb 17 false (.call 19 [] (.f N3n) [.s 18]),Zb 17 false (.un 20 .not (.s 19)),Za (.pick 21 (.s 17) cT (.s 20))] [0,1,4,6,7,21])
(.cond (.s 21) (Zs [lT 22 4 6,.build 23 [pz,pz,pz,.emp 1,.emp 1,.emp 1] [(0,1,.c (.int .i64 2)),(2,4,.s 22)],mS 24 7,sS 6 4 23,mS 5 24] [4,5] .ret) .skip))
(Zs [.mv 8 (ci 0)] [0,1,4,6,7,8] (.seq (.block 0 (.loop ([0,1,4,6,7,8],[6,7]) (.seq (Zs [mS 25 0,lT 26 4 6,.call 27 [] (.f Nft) [.s 25,.s 26],.un 28 .not (.s 27)] [0,1,4,6,7,8,28] (cX 28 0))
(.block 1 (Zs [mS 29 0,lT 30 4 6,.call 31 [] (.f Nfw) [.s 29,.s 30],.alloc 9 6 [pz,pz,pz,pz],sS 4 9 31] [0,1,4,6,7,8,9] (Zs [.mv 10 (ci 0)] [0,1,4,6,7,8,9,10] (.seq (Zs [fS 32 9 0,lF 33 1 32,bC 34 .gtr 33 0] [0,1,4,6,7,8,9,10,34] (.cond (.s 34) (.seq (Zs [mS 35 8,mS 36 1,nS 37 36,bS 38 .geq 35 37] [0,1,4,6,7,8,9,38] (.cond (.s 38) (Zs [mS 39 8,lT 40 4 6,.build 41 [pz,pz,pz,.emp 1,.emp 1,.emp 1] [(0,1,.c (.int .i64 2)),(1,1,.s 39),(2,4,.s 40)],mS 42 7,sS 6 4 41,mS 5 42] [4,5] .ret) .skip))
(.seq (.seq (.dreg [Zc [44,48,49] (mS 43 1),Zc [43,48,49] (mS 44 8),Zd [48,49] [0,1] (xS 45 5 43 44),Zd [48,49] [0,1,2] (fS 46 45 0),Zd [48,49] (.range 4) (lF 47 1 46),Zc [43,44,45,46,47] (fS 48 9 0),Zd [43,44,45,46,47] [5] (lF 49 1 48),Ze (.range 7) (bS 50 .neq 47 49),Ze (.range 8) (mS 51 50),{o:=mS 52 1,g:=some (51,false),hs:=[53,57,58],bf:=(.range 9)},{o:=mS 53 8,g:=some (51,false),hs:=[52,57,58],bf:=(.range 9)},{o:=xS 54 5 52 53,g:=some (51,false),hs:=[57,58],bf:=(.range 11)},{o:=fS 55 54 1,g:=some (51,false),hs:=[57,58],bf:=(.range 12)},{o:=lT 56 3 55,g:=some (51,false),hs:=[57,58],bf:=(.range 13)},{o:=fS 57 9 1,g:=some (51,false),hs:=[52,53,54,55,56],bf:=(.range 9)},{o:=lT 58 3 57,g:=some (51,false),hs:=[52,53,54,55,56],bf:=[0,1,2,3,4,5,6,7,8,14]},{o:= .eqA 59 true [.i .i64,.i .i64,.i .i64] (.s 56) (.s 58),g:=some (51,false),bf:=(.range 16)},Ze (.range 17) (.pick 60 (.s 51) cT (.s 59))] [0,1,4,6,7,8,60])
(.cond (.s 60) (Zs [mS 61 8,lT 62 4 6,.build 63 [pz,pz,pz,.emp 1,.emp 1,.emp 1] [(0,1,.c (.int .i64 1)),(1,1,.s 61),(2,4,.s 62)],mS 64 7,sS 6 4 63,mS 5 64] [4,5] .ret) .skip))
(Zs [mS 65 1,mS 66 8,xS 67 5 65 66,fS 68 67 4,lF 69 1 68,mS 10 69] [0,1,4,6,7,8,10] (pr [mS 70 8,bC 71 .add 70 1,mS 8 71] [0,1,4,6,7,8,10])))) .skip))
(Zs [mS 72 0,lT 73 4 6,mS 74 10,.call 75 [2,3,4] (.f Nc9) [.s 72,.s 73,.s 74],sS 4 6 75] [0,1,4,6,7,8] (pr [mS 76 7,lT 77 4 6,.lit 78 7 4 80 [.s 77],.app 79 1 4 80 (.s 76) (.s 78),mS 7 79] [0,1,4,6,7,8])))))))))
(.seq (Zs [mS 80 8,mS 81 1,nS 82 81,bS 83 .lss 80 82] [4,6,7,8,83] (.cond (.s 83) (Zs [mS 84 8,lT 85 4 6,.build 86 [pz,pz,pz,.emp 1,.emp 1,.emp 1] [(0,1,.c (.int .i64 1)),(1,1,.s 84),(2,4,.s 85)],mS 87 7,sS 6 4 86,mS 5 87] [4,5] .ret) .skip))
(Zs [lT 88 4 6,.build 89 [pz,pz,pz,.emp 1,.emp 1,.emp 1] [(2,4,.s 88)],mS 90 7,sS 6 4 89,mS 5 90] [4,5] .ret))))))))
set_option maxHeartbeats 2000000 in
theorem Cke(l:List GOp)(es:List GEntry):Ctr Tryz.prog Nfx [aL 4 (l.map GOp.enc),aL 5 (es.map GEntry.enc)] [rP (play l es).1,rT (play l es).2]:=by
 refine cA Mfg 8 91 [(.cell 4 true 6,[false,false,false,false,false,false]),(.tmp 5,[false])] Tryz.func149 rfl rfl ?_;unfold Mfg
 intro hb
 simp only[bdA,bdL,bdT,K7,roomB,and_true,List.length_map]at hb
 have hel:es.length≤140737488355328:=hb.2.1
 clear hb
 simp only[go_sem]
 apply K0 Ci1
 simp only[go_sem]
 intros
 refine⟨by decide,?_⟩
 apply K0 (C31 l)
 simp only[go_sem]
 repeat' first
  |(refine And.intro ?_ ?_<;>intro h)
  |(apply K0 (C8i es);simp only[go_sem])
 ·have hP:play l es=(⟨2,0,st0⟩,[st0]):=by rw[play,if_neg (by simp_all)]
  rw[hP]
  exact⟨⟨rfl,rfl,rfl,rfl,rfl,rfl⟩,rfl⟩
 ·have hP:play l es=(⟨2,0,st0⟩,[st0]):=by rw[play,if_neg (by simp_all)]
  rw[hP]
  exact⟨⟨rfl,rfl,rfl,rfl,rfl,rfl⟩,rfl⟩
 ·have hl:K1x l=true:=by assumption
  have hfew:l.length≤16:=by
   simp only[K1x,K17,Bool.and_eq_true,decide_eq_true_eq]at hl
   exact hl.1
  have hP:play l es=playF l es 20 0 st0 [st0]:=by rw[play,if_pos (by simp_all)]
  refine Kq (ι:=Nat×GState×List GState) (fun t=>[(7,.val false [.ref 1 0 4 0 t.2.2.length]),(8,vI (t.1:Nat))]) (fun t=>[(1,⟨0,.row true 4 (t.2.2.map GState.enc)⟩),(2,⟨0,.lent 1 (t.2.1.Regs.map encI)⟩),(3,⟨0,.lent 1 (t.2.1.Slots.map encI)⟩),(4,⟨0,.lent 1 (t.2.1.Nodes.map encI)⟩),(5,⟨0,.box [.pl (tI t.2.1.Pc),.ref 2 0 1 0 t.2.1.Regs.length,.ref 3 0 1 0 t.2.1.Slots.length,.ref 4 0 1 0 t.2.1.Nodes.length]⟩)])
   (fun t=>stOk t.2.1=true∧t.1≤es.length∧∃f,l.length-t.2.1.Pc.toNat<f∧t.2.2.length+(l.length-t.2.1.Pc.toNat)≤18∧playF l es f t.1 t.2.1 t.2.2=play l es) (fun t=>l.length-t.2.1.Pc.toNat) (0,st0,[st0]) ?_
  simp only[go_sem]
  refine⟨?_,⟨K9u,Nat.zero_le _,20,by simp only[st0];omega,by simp only[st0,List.length_cons,List.length_nil];omega,hP.symm⟩,?_⟩
  ·simp only[go_sem]
   try exact⟨rfl,rfl⟩
   try trivial
  ·rintro ⟨n,s,tr⟩ ⟨hs,hn,f,hf,htr,hp⟩
   simp only at hs hn hf htr hp
   obtain⟨f,rfl⟩:∃f',f=f'+1:=⟨f-1,by omega⟩
   rw[playF]at hp
   have hsz:=K5x hs
   have h0:=(K75 hs).1.1
   simp only[go_sem]
   apply K0 (Cka l s)
   by_cases hd:s.Pc≥l.length
   ·rw[if_pos hd]at hp
    simp only[go_sem,hd]
    refine⟨fun hlt=>?_,fun hge=>?_⟩
    ·rw[if_pos (by omega)]at hp
     rw[←hp]
     exact⟨⟨rfl,rfl,rfl,rfl,rfl,rfl⟩,rfl⟩
    ·rw[if_neg (by omega)]at hp
     rw[←hp]
     exact⟨⟨rfl,rfl,rfl,rfl,rfl,rfl⟩,rfl⟩
   ·rw[if_neg hd]at hp
    simp only[go_sem,hd]
    apply K0 (Ckd l s)
    simp only[go_sem]
    intros
    by_cases hw:(K18 l s).Kind=0
    ·rw[if_pos hw]at hp
     have hlt:=K5z (v:=0) hl hs (by omega)
     have hok:=K3y (l:=l) (v:=0) hs
     simp only[go_sem,hw]
     apply K0 (Cap l s 0 (by omega))
     simp only[go_sem]
     intros
     exact⟨by decide,by simp only[roomB];omega,(n,K1b l s 0,tr++[K1b l s 0]),⟨⟨by simp,rfl⟩,by simp[GState.enc],rfl,rfl,rfl,rfl,rfl,rfl,rfl⟩,⟨hok,hn,f,by simp only;omega,by simp only[List.length_append,List.length_cons,List.length_nil];omega,hp⟩,by simp only;omega⟩
    ·rw[if_neg hw]at hp
     have hw':(K18 l s).Kind>0:=by have:=K8j l s;omega
     by_cases hne:n=es.length
     ·rw[List.getElem?_eq_none (by omega)]at hp
      simp only at hp
      subst hne
      have hne1:(es.length:Int)=es.length:=rfl
      have hne2:(es.length:Int)≥es.length:=Int.le_refl _
      simp only[go_sem,hw',hne2]
      rw[←hp]
      exact⟨⟨rfl,rfl,rfl,rfl,rfl,rfl⟩,rfl⟩
     ·obtain⟨e,he⟩:=K5 (show n<es.length by omega)
      rw[he]at hp
      simp only at hp
      have hne1:¬(n:Int)=es.length:=by omega
      have hne2:¬(n:Int)≥es.length:=by omega
      have hn0:(0:Int)≤(n:Int):=by omega
      have hn1:(n:Int)<es.length:=by omega
      have hwn:IntKind.i64.wrap ((n:Int)+1)=((n+1:Nat):Int):=by rw[wI (by omega) (by omega)];omega
      by_cases c1:e.Kind=(K18 l s).Kind
      ·by_cases c2:e.Address=(K18 l s).Address
       ·rw[if_pos ⟨c1,c2⟩]at hp
        have hdec:=decide_eq_true c2
        have hlt:=K5z (v:=e.Value) hl hs (by omega)
        have hok:=K3y (l:=l) (v:=e.Value) hs
        simp only[go_sem,hw',hne2,hn0,hn1,K1 he,addrB,c1,hdec]
        apply K0 (Cap l s e.Value (by omega))
        simp only[go_sem,hwn]
        intros
        exact⟨by decide,by simp only[roomB];omega,(n+1,K1b l s e.Value,tr++[K1b l s e.Value]),⟨⟨by simp,rfl⟩,by simp[GState.enc],rfl,rfl,rfl,rfl,rfl,rfl,rfl⟩,⟨hok,by simp only;omega,f,by simp only;omega,by simp only[List.length_append,List.length_cons,List.length_nil];omega,hp⟩,by simp only;omega⟩
       ·rw[if_neg (fun h=>c2 h.2)]at hp
        have hdec:=decide_eq_false c2
        simp only[go_sem,hw',hne2,hn0,hn1,K1 he,addrB,c1,hdec]
        rw[←hp]
        exact⟨⟨rfl,rfl,rfl,rfl,rfl,rfl⟩,rfl⟩
      ·rw[if_neg (fun h=>c1 h.1)]at hp
       simp only[go_sem,hw',hne2,hn0,hn1,K1 he,addrB,c1]
       rw[←hp]
       exact⟨⟨rfl,rfl,rfl,rfl,rfl,rfl⟩,rfl⟩
def keyOk(k:Int):Bool:=decide (1≤k∧k≤2147483646)
def M8u:MC:=Y18 N1 2147483646
theorem C8d(k:Int):Ctr Tryz.prog N3m [aI k] [rB (keyOk k)]:=by
 refine cA M8u 0 5 [(.tmp 2,[false])] Tryz.func168 rfl rfl ?_;unfold M8u
 intro hb
 clear hb
 simp only[go_sem]
 apply K0 (C4 _ _ _)
 simp only[go_sem]
 rfl
def M9g:MC:=Y18 N0 2147483646
theorem C8k(k:Int):Ctr Tryz.prog N3p [aI k] [rB (keyOk k)]:=by
 refine cA M9g 0 5 [(.tmp 2,[false])] Tryz.func89 rfl rfl ?_;unfold M9g
 intro hb
 clear hb
 simp only[go_sem]
 apply K0 (C3 _ _ _)
 simp only[go_sem]
 rfl
def Mav:MC:=
(Zs [.mv 4 (ci 0)] [0,1] (Zs [mS 6 0,.lit 7 0 1 8 [.s 6],mS 8 1,.app 9 0 1 8 (.s 7) (.s 8),mS 5 9] [0,5] (Zs [mS 10 5,mS 11 0,.lit 12 1 1 8 [.s 11],.app 13 0 1 8 (.s 10) (.s 12),.call 14 [] (.f N2r) [.s 13],mS 4 14] [4] .ret)))
theorem Cij(k:Int)(l:List Int)(hl:l.length≤1073741824):Ctr Tryz.prog Nbq [aI k,aL 1 (l.map encI)] [rI (hashL (k::(l++[k])))]:=by
 refine cA Mav 2 15 [(.tmp 4,[false])] Tryz.func211 rfl rfl ?_;unfold Mav
 intro hb
 clear hb
 have ha:1+l.length=l.length+1:=Nat.add_comm _ _
 have e:([T.sc (Value.int IntKind.i64 k)]::List.map encI l++[[T.sc (Value.int IntKind.i64 k)]])=(k::(l++[k])).map encI:=by simp[encI]
 simp only[go_sem,↓Kt (f:=encI) (fun _=>rfl) l,ha,List.length_append,List.length_cons,List.length_map,List.length_nil,Nat.zero_add,e]
 refine⟨by simp only[roomB];omega,by simp only[roomB];omega,by simp only[roomB];omega,by simp only[roomB];omega,?_⟩
 rw[show [T.sc (Value.int IntKind.i64 k)]::List.map encI (l++[k])=(k::(l++[k])).map encI from rfl]
 apply K0 (C3q (k::(l++[k])))
 simp only[go_sem]
def Mbi:MC:=
(Zs [.mv 4 (ci 0)] [0,1] (Zs [mS 5 0,.lit 6 0 1 8 [.s 5],mS 7 1,.app 8 0 1 8 (.s 6) (.s 7),mS 9 0,.lit 10 1 1 8 [.s 9],.app 11 0 1 8 (.s 8) (.s 10),.call 12 [] (.f N2s) [.s 11],mS 4 12] [4] .ret))
theorem Cix(k:Int)(l:List Int)(hl:l.length≤1073741824):Ctr Tryz.prog Nc8 [aI k,aL 1 (l.map encI)] [rI (hashL (k::(l++[k])))]:=by
 refine cA Mbi 2 13 [(.tmp 4,[false])] Tryz.func143 rfl rfl ?_;unfold Mbi
 intro hb
 clear hb
 have ha:1+l.length=l.length+1:=Nat.add_comm _ _
 have e:([T.sc (Value.int IntKind.i64 k)]::List.map encI l++[[T.sc (Value.int IntKind.i64 k)]])=(k::(l++[k])).map encI:=by simp[encI]
 simp only[go_sem,↓Kt (f:=encI) (fun _=>rfl) l,ha,List.length_append,List.length_cons,List.length_map,List.length_nil,Nat.zero_add,e]
 refine⟨by simp only[roomB];omega,by simp only[roomB];omega,by simp only[roomB];omega,by simp only[roomB];omega,?_⟩
 rw[show [T.sc (Value.int IntKind.i64 k)]::List.map encI (l++[k])=(k::(l++[k])).map encI from rfl]
 apply K0 (C3r (k::(l++[k])))
 simp only[go_sem]
def K1u(k:Int)(s:GStatement):GStatement:={s with Seal:=if keyOk k then hashL [k,s.Witness,s.Digest,s.Tick,k]else 0}
def Y32(v0:Nat)(v1:Nat):MC:=
(Zs [.box 3 0 (.s 1),.alloc 4 1 [pz,pz,pz,pz]] [0,3,4] (Zs [fS 5 3 3,.store 1 (.s 5) (ci 0)] [0,3,4] (.seq (Zs [mS 6 0,.call 7 [] (.f v0) [.s 6]] [0,3,4,7] (.cond (.s 7) (pr [mS 8 0,fS 9 3 0,lF 10 1 9,fS 11 3 1,lF 12 1 11,fS 13 3 2,lF 14 1 13,.lit 15 2 1 8 [.s 10,.s 12,.s 14],.call 16 [] (.f v1) [.s 8,.s 15],fS 17 3 3,sS 1 17 16] [3,4]) .skip))
(Zs [lT 18 4 3,sS 4 4 18] [4] .ret))))
attribute [go_sem] Y32
def M4m:MC:=Y32 N3m Nbq
theorem Cek(k:Int)(s:GStatement):Ctr Tryz.prog N4w [aI k,aS s.enc] [rS (K1u k s).enc]:=by
 refine cA M4m 3 19 [(.cell 4 true 4,[false,false,false,false])] Tryz.func169 rfl rfl ?_;unfold M4m
 intro hb
 clear hb
 simp only[go_sem]
 apply K0 (C8d k)
 simp only[go_sem]
 refine And.intro ?_ ?_<;>intro h
 ·refine⟨⟨by decide,by decide⟩,?_⟩
  apply K0 (Cij k [s.Witness,s.Digest,s.Tick] (by simp))
  simp only[go_sem]
  intros
  have e:K1u k s={s with Seal:=hashL [k,s.Witness,s.Digest,s.Tick,k]}:=by simp only[K1u,if_pos h]
  rw[e]
  simp
 ·have e:K1u k s={s with Seal:=0}:=by rw[K1u,h,if_neg Bool.false_ne_true]
  rw[e]
  simp
def M4r:MC:=Y32 N3p Nc8
theorem Cer(k:Int)(s:GStatement):Ctr Tryz.prog N51 [aI k,aS s.enc] [rS (K1u k s).enc]:=by
 refine cA M4r 3 19 [(.cell 4 true 4,[false,false,false,false])] Tryz.func90 rfl rfl ?_;unfold M4r
 intro hb
 clear hb
 simp only[go_sem]
 apply K0 (C8k k)
 simp only[go_sem]
 refine And.intro ?_ ?_<;>intro h
 ·refine⟨⟨by decide,by decide⟩,?_⟩
  apply K0 (Cix k [s.Witness,s.Digest,s.Tick] (by simp))
  simp only[go_sem]
  intros
  have e:K1u k s={s with Seal:=hashL [k,s.Witness,s.Digest,s.Tick,k]}:=by simp only[K1u,if_pos h]
  rw[e]
  simp
 ·have e:K1u k s={s with Seal:=0}:=by rw[K1u,h,if_neg Bool.false_ne_true]
  rw[e]
  simp
def keyAt(keys:List Int)(i:Int):Int:=(keys[i.toNat]?).getD 0
def honest(keys:List Int)(s:GStatement):Bool:=decide (keys.length≤7)&&(decide (0≤s.Witness∧s.Witness<keys.length)&&(keyOk (keyAt keys s.Witness)&&(decide (0≤s.Tick∧s.Tick≤2000)&&decide ((K1u (keyAt keys s.Witness) s).Seal=s.Seal))))
def M6w:MC:=
(Zs [.box 3 0 (.s 1),.mv 4 cF] [0,3] (.seq (.dreg [Za (mS 5 0),Ze [0] (nS 6 5),Ze [0,1] (bC 7 .leq 6 7),Ze [0,1,2] (mS 8 7),{o:=fS 9 3 0,g:=some (8,true),hs:=[11,12],bf:=(.range 4)},{o:=lF 10 1 9,g:=some (8,true),hs:=[11,12],bf:=(.range 5)},{o:=mS 11 0,g:=some (8,true),hs:=[9,10],bf:=(.range 4)},{o:=nS 12 11,g:=some (8,true),hs:=[9,10],bf:=[0,1,2,3,6]},{o:= .call 13 [] (.f N2l) [.s 10,.s 12],g:=some (8,true),bf:=(.range 8)},Ze (.range 9) (.pick 14 (.s 8) (.s 13) cF),Ze (.range 10) (mS 15 14),{o:=mS 16 0,g:=some (15,true),hs:=[17,18],bf:=(.range 11)},{o:=fS 17 3 0,g:=some (15,true),hs:=[16],bf:=(.range 11)},{o:=lF 18 1 17,g:=some (15,true),hs:=[16],bf:=[0,1,2,3,4,5,6,7,8,9,10,12]},{o:=xS 19 1 16 18,g:=some (15,true),bf:=(.range 14)},{o:=lF 20 1 19,g:=some (15,true),bf:=(.range 15)},{o:= .call 21 [] (.f N3m) [.s 20],g:=some (15,true),bf:=(.range 16)},Ze (.range 17) (.pick 22 (.s 15) (.s 21) cF),Ze (.range 18) (mS 23 22),{o:=fS 24 3 2,g:=some (23,true),bf:=(.range 19)},{o:=lF 25 1 24,g:=some (23,true),bf:=(.range 20)},{o:= .call 26 [] (.f N1) [.s 25,.c (.int .i64 0),.c (.int .i64 2000)],g:=some (23,true),bf:=(.range 21)},Ze (.range 22) (.pick 27 (.s 23) (.s 26) cF),Ze (.range 23) (mS 28 27),{o:=mS 29 0,g:=some (28,true),hs:=[30,31,34,36],bf:=(.range 24)},{o:=fS 30 3 0,g:=some (28,true),hs:=[29,34,36],bf:=(.range 24)},{o:=lF 31 1 30,g:=some (28,true),hs:=[29,34,36],bf:=[0,1,2,3,4,5,6,7,8,9,10,11,12,13,14,15,16,17,18,19,20,21,22,23,25]},{o:=xS 32 1 29 31,g:=some (28,true),hs:=[34,36],bf:=(.range 27)},{o:=lF 33 1 32,g:=some (28,true),hs:=[34,36],bf:=(.range 28)},{o:=lT 34 4 3,g:=some (28,true),hs:=[29,30,31,32,33,36],bf:=(.range 24)},{o:= .call 35 [] (.f N4w) [.s 33,.s 34],g:=some (28,true),hs:=[36],bf:=(.range 30)},{o:=lT 36 4 3,g:=some (28,true),hs:=[29,30,31,32,33,34,35],bf:=(.range 24)},{o:= .eqA 37 false [.i .i64,.i .i64,.i .i64,.i .i64] (.s 35) (.s 36),g:=some (28,true),bf:=(.range 32)},Ze (.range 33) (.pick 38 (.s 28) (.s 37) cF),Ze (.range 34) (mS 4 38)] [4])
.ret))
theorem C6h(keys:List Int)(s:GStatement)(hl:keys.length≤1073741824):Ctr Tryz.prog N38 [aL 1 (keys.map encI),aS s.enc] [rB (honest keys s)]:=by
 refine cA M6w 1 39 [(.tmp 4,[false])] Tryz.func123 rfl rfl ?_;unfold M6w
 intro hb
 clear hb
 by_cases c1:keys.length≤7
 ·by_cases c2:0≤s.Witness∧s.Witness<keys.length
  ·rcases s with ⟨w,dg,tk,sl⟩
   simp only at c2
   obtain⟨i,rfl⟩:=Int.eq_ofNat_of_zero_le c2.1
   obtain⟨key,hk⟩:=K5 (l:=keys) (k:=i) (by omega)
   have e1:keyAt keys i=key:=by simp[keyAt,hk]
   have eH:honest keys ⟨i,dg,tk,sl⟩=(keyOk key&&(decide (0≤tk∧tk≤2000)&&decide ((K1u key ⟨i,dg,tk,sl⟩).Seal=sl))):=by
    simp only[honest,e1,decide_eq_true c1,decide_eq_true c2,Bool.true_and]
   rw[eH]
   have c1':(keys.length:Int)≤7:=by omega
   have c1n:¬(keys.length:Int)>7:=by omega
   have c2':decide (0≤(i:Int)∧(i:Int)<(keys.length:Int))=true:=decide_eq_true c2
   have c2n:decide (0≤(i:Int)∧(i:Int)≤IntKind.i64.wrap ((keys.length:Int)-1))=true:=decide_eq_true ⟨c2.1,by rw[wI (by omega) (by omega)];omega⟩
   have h0:(0:Int)≤(i:Int):=c2.1
   have h1:(i:Int)<(keys.length:Int):=c2.2
   simp only[go_sem,c1']
   apply K0 (Cce i keys.length)
   simp only[go_sem,h0,h1,K1 hk]
   repeat' first
    |(refine And.intro ?_ ?_<;>intro h)
    |(apply K0 (C8d key);simp only[go_sem])
    |(apply K0 (C4 tk 0 2000);simp only[go_sem,h0,h1,K1 hk])
    |(apply K0 (Cek key ⟨i,dg,tk,sl⟩);simp only[go_sem])
   all_goals first
    |(simp_all;done)
    |(intro _;rw[Bool.eq_iff_iff];simp only[K1u,beq_self_eq_true,Bool.true_and,Bool.false_bne,beq_iff_eq,Bool.and_eq_true,decide_eq_true_eq];simp_all;done)
    |(intro _;rw[Bool.eq_iff_iff];simp_all[K1u];done)
    |(simp_all;intros;omega)
    |(rw[show decide (0≤tk∧tk≤2000)=false from by assumption,Bool.false_and,Bool.and_false];done)
    |(rw[decide_eq_false (by assumption:¬(0≤tk∧tk≤2000)),Bool.false_and,Bool.and_false];done)
  ·have e0:honest keys s=false:=by simp[honest,c2]
   rw[e0]
   have c1':(keys.length:Int)≤7:=by omega
   have c1n:¬(keys.length:Int)>7:=by omega
   have c2':decide (0≤s.Witness∧s.Witness<(keys.length:Int))=false:=decide_eq_false c2
   have c2n:decide (0≤s.Witness∧s.Witness≤IntKind.i64.wrap ((keys.length:Int)-1))=false:=decide_eq_false fun h=>c2 ⟨h.1,by have:=h.2;rw[wI (by omega) (by omega)]at this;omega⟩
   simp only[go_sem,c1']
   apply K0 (Cce s.Witness keys.length)
   simp only[go_sem,c2']
 ·have c1':¬(keys.length:Int)≤7:=by omega
  have c1n:(keys.length:Int)>7:=by omega
  have e0:honest keys s=false:=by simp[honest,c1]
  rw[e0]
  simp only[go_sem,c1']
def M7d:MC:=
(Zs [.box 3 0 (.s 1),.mv 4 cF] [0,3] (.seq (.seq (.reg [Za (mS 5 0),Za (nS 6 5),Za (bC 7 .gtr 6 7),Za (mS 8 7),Zb 8 false (fS 9 3 0),Zb 8 false (lF 10 1 9),Zb 8 false (mS 11 0),Zb 8 false (nS 12 11),Zb 8 false (bC 13 .sub 12 1),Zb 8 false (.call 14 [] (.f N0) [.s 10,.c (.int .i64 0),.s 13]),Zb 8 false (.un 15 .not (.s 14)),Za (.pick 16 (.s 8) cT (.s 15)),Za (mS 17 16),Zb 17 false (fS 18 3 2),Zb 17 false (lF 19 1 18),Zb 17 false (.call 20 [] (.f N0) [.s 19,.c (.int .i64 0),.c (.int .i64 2000)]),Zb 17 false (.un 21 .not (.s 20)),Za (.pick 22 (.s 17) cT (.s 21)),Za (mS 23 22),Zb 23 false (mS 24 0),Zb 23 false (fS 25 3 0),Zb 23 false (lF 26 1 25),Zb 23 false (xS 27 1 24 26),Zb 23 false (lF 28 1 27),Zb 23 false (.call 29 [] (.f N3p) [.s 28]),Zb 23 false (.un 30 .not (.s 29)),Za (.pick 31 (.s 23) cT (.s 30))] [0,3,31])
(.cond (.s 31) (Zs [.mv 4 cF] [4] .ret) .skip))
(.seq (.dreg [Zc [33,34,37,40,41] (mS 32 0),Zc [32,37,40,41] (fS 33 3 0),Zd [32,37,40,41] [1] (lF 34 1 33),Zd [37,40,41] [0,1,2] (xS 35 1 32 34),Zd [37,40,41] (.range 4) (lF 36 1 35),Zc [32,33,34,35,36,40,41] (lT 37 4 3),Zd [40,41] (.range 6) (.call 38 [] (.f N51) [.s 36,.s 37]),Zd [40,41] (.range 7) (.fldv 39 (.s 38) 3 1 false),Zc [32,33,34,35,36,37,38,39] (fS 40 3 3),Zd [32,33,34,35,36,37,38,39] [8] (lF 41 1 40),Ze (.range 10) (bS 42 .eql 39 41),Ze (.range 11) (mS 4 42)] [4])
.ret)))
theorem C6m(keys:List Int)(s:GStatement)(hl:keys.length≤1073741824):Ctr Tryz.prog N3e [aL 1 (keys.map encI),aS s.enc] [rB (honest keys s)]:=by
 refine cA M7d 1 43 [(.tmp 4,[false])] Tryz.func43 rfl rfl ?_;unfold M7d
 intro hb
 clear hb
 by_cases c1:keys.length≤7
 ·by_cases c2:0≤s.Witness∧s.Witness<keys.length
  ·rcases s with ⟨w,dg,tk,sl⟩
   simp only at c2
   obtain⟨i,rfl⟩:=Int.eq_ofNat_of_zero_le c2.1
   obtain⟨key,hk⟩:=K5 (l:=keys) (k:=i) (by omega)
   have e1:keyAt keys i=key:=by simp[keyAt,hk]
   have eH:honest keys ⟨i,dg,tk,sl⟩=(keyOk key&&(decide (0≤tk∧tk≤2000)&&decide ((K1u key ⟨i,dg,tk,sl⟩).Seal=sl))):=by
    simp only[honest,e1,decide_eq_true c1,decide_eq_true c2,Bool.true_and]
   rw[eH]
   have c1':(keys.length:Int)≤7:=by omega
   have c1n:¬(keys.length:Int)>7:=by omega
   have c2':decide (0≤(i:Int)∧(i:Int)<(keys.length:Int))=true:=decide_eq_true c2
   have c2n:decide (0≤(i:Int)∧(i:Int)≤IntKind.i64.wrap ((keys.length:Int)-1))=true:=decide_eq_true ⟨c2.1,by rw[wI (by omega) (by omega)];omega⟩
   have h0:(0:Int)≤(i:Int):=c2.1
   have h1:(i:Int)<(keys.length:Int):=c2.2
   simp only[go_sem,c1n]
   apply K0 (C3 i 0 _)
   simp only[go_sem,h0]
   repeat' first
    |(refine And.intro ?_ ?_<;>intro h)
    |(apply K0 (C8k key);simp only[go_sem,h0,h1,K1 hk])
    |(apply K0 (C3 tk 0 2000);simp only[go_sem,h0,h1,K1 hk])
    |(apply K0 (Cer key ⟨i,dg,tk,sl⟩);simp only[go_sem])
   all_goals first
    |(simp_all;done)
    |(intro _;rw[Bool.eq_iff_iff];simp only[K1u,beq_iff_eq,Bool.and_eq_true,decide_eq_true_eq];simp_all;done)
    |(intro _;rw[Bool.eq_iff_iff];simp_all[K1u];done)
    |(simp_all;intros;omega)
    |(rw[show decide (0≤tk∧tk≤2000)=false from by assumption,Bool.false_and,Bool.and_false];done)
    |(rw[decide_eq_false (by assumption:¬(0≤tk∧tk≤2000)),Bool.false_and,Bool.and_false];done)
  ·have e0:honest keys s=false:=by simp[honest,c2]
   rw[e0]
   have c1':(keys.length:Int)≤7:=by omega
   have c1n:¬(keys.length:Int)>7:=by omega
   have c2':decide (0≤s.Witness∧s.Witness<(keys.length:Int))=false:=decide_eq_false c2
   have c2n:decide (0≤s.Witness∧s.Witness≤IntKind.i64.wrap ((keys.length:Int)-1))=false:=decide_eq_false fun h=>c2 ⟨h.1,by have:=h.2;rw[wI (by omega) (by omega)]at this;omega⟩
   simp only[go_sem,c1n]
   apply K0 (C3 s.Witness 0 _)
   simp only[go_sem,c2n]
 ·have c1':¬(keys.length:Int)≤7:=by omega
  have c1n:(keys.length:Int)>7:=by omega
  have e0:honest keys s=false:=by simp[honest,c1]
  rw[e0]
  simp only[go_sem,c1n]
def ascB(l:List Int):Bool:=decide (l.Pairwise (· < ·))
def Mds:MC:=
(Zs [.mv 2 cF] [0] (Zs [mS 3 0,.call 4 [0] (.f Nfo) [.s 3],mS 5 0,.call 6 [] (.f N3w) [.s 4,.s 5],mS 2 6] [2] .ret))
theorem Cjo(l:List Int)(hl:l.length≤1073741824):Ctr Tryz.prog Ne6 [aL 1 (l.map encI)] [rB (ascB l)]:=by
 refine cA Mds 1 7 [(.tmp 2,[false])] Tryz.func121 rfl rfl ?_;unfold Mds
 intro hb
 clear hb
 simp only[go_sem]
 apply K0 (Ck5 l hl)
 simp only[go_sem]
 intros
 apply K0 (Cgz (sortU l) l)
 simp only[go_sem]
 intro _
 obtain⟨h1,h2⟩:=sortU_up l
 rw[ascB,decide_eq_decide]
 exact⟨fun h=>h▸h1,fun h=>up_eq h1 h h2⟩
def K2p:Int→List GLibrary→Bool
 |_,[]=>true
 |b,x::l=>decide (b+1≤x.Id∧x.Id≤99)&&(ascB x.Digests&&K2p x.Id l)
def K2y(l:List GLibrary):Bool:=decide (l.length≤6)&&K2p (-1) l
def bef(l:List GLibrary):Nat→Int
 |0=> -1
 |k+1=>((l[k]?).map (·.Id)).getD 0
theorem K97{l:List GLibrary}{k:Nat}{x:GLibrary}(h:l[k]? =some x):bef l (k+1)=x.Id:=by simp[bef,h]
theorem dig_le{l:List GLibrary}{k n:Nat}{x:GLibrary}(h:l[k]? =some x)(hs:l.length+(l.map GLibrary.size).sum≤n):x.Digests.length≤n:=by
 have:=K1i (f:=GLibrary.size) (Ki h)
 simp only[GLibrary.size]at this hs
 omega
def M5b:MC:=
(Zs [.mv 2 cF] [0] (.seq (Zs [mS 6 0,nS 7 6,bC 8 .gtr 7 6] [0,8] (.cond (.s 8) (Zs [.mv 2 cF] [2] .ret) .skip))
(Zs [.mv 3 (.c (.int .i64 (-1)))] [0,3] (.seq (Zs [mS 9 0,nS 10 9,.mv 11 (ci 0)] [3,9,10,11] (.block 0 (.loop ([3,9,10,11],[0]) (Zs [bS 12 .lss 11 10] [3,9,10,11,12] (.seq (cX 12 0)
(.seq (.block 1 (Zs [xS 13 4 9 11,lT 14 4 13,.alloc 5 0 [pz,.emp 1,.pl (.sc (.bool false)),.pl (.sc (.bool false))],sS 4 5 14] [3,5,9,10,11] (.seq (.seq (.reg [Za (fS 15 5 0),Za (lF 16 1 15),Za (mS 17 3),Za (bC 18 .add 17 1),Za (.call 19 [] (.f N1) [.s 16,.s 18,.c (.int .i64 99)]),Za (.un 20 .not (.s 19)),Za (mS 21 20),Zb 21 false (fS 22 5 1),Zb 21 false (lF 23 1 22),Zb 21 false (.call 24 [] (.f Ne6) [.s 23]),Zb 21 false (.un 25 .not (.s 24)),Za (.pick 26 (.s 21) cT (.s 25))] [5,9,10,11,26])
(.cond (.s 26) (Zs [.mv 2 cF] [2] .ret) .skip))
(pr [fS 27 5 0,lF 28 1 27,mS 3 28] [3,9,10,11]))))
(pr [bC 29 .add 11 1,mS 11 29] [3,9,10,11])))))))
(Zs [.mv 2 cT] [2] .ret)))))
theorem Cg0(l:List GLibrary)(hs:l.length+(l.map GLibrary.size).sum≤1073741824):Ctr Tryz.prog N5w [aL 4 (l.map GLibrary.enc)] [rB (K2y l)]:=by
 refine cA M5b 1 30 [(.tmp 2,[false])] Tryz.func65 rfl rfl ?_;unfold M5b
 intro hb
 clear hb
 simp only[go_sem]
 refine⟨fun h=>?_,fun h=>?_⟩
 ·have:¬l.length≤6:=by omega
  simp[K2y,this]
 ·refine K3 l (fun k=>[(3,vI (bef l k)),(11,vI k)]) (fun k=>[]) (fun k=>(-1≤bef l k∧bef l k≤99)∧K2p (-1) l=K2p (bef l k) (l.drop k)) (by simp only[roomB];omega) ?_
  simp only[go_sem]
  refine⟨?_,⟨by simp[bef],rfl⟩,?_,?_⟩
  ·simp only[go_sem]
   try rfl
  ·intro k x hx hP h0 h1 hw
   obtain⟨hb,hP⟩:=hP
   rw[K1t hx,K2p]at hP
   have hw2:IntKind.i64.wrap (bef l k+1)=bef l k+1:=wI (by omega) (by omega)
   simp only[go_sem,K1 hx,h0,h1,hw2]
   apply K0 (C4 x.Id (bef l k+1) 99)
   by_cases c:bef l k+1≤x.Id∧x.Id≤99
   ·have hd:=decide_eq_true c
    simp only[go_sem,hd]
    apply K0 (Cjo x.Digests (dig_le hx hs))
    cases hA:ascB x.Digests
    ·simp only[go_sem]
     rw[K2y,hP,hA]
     simp
    ·simp only[go_sem,hw,K97 hx]
     rw[hA,hd,Bool.true_and,Bool.true_and]at hP
     exact⟨by omega,hP⟩
   ·have hd:=decide_eq_false c
    simp only[go_sem,hd]
    rw[K2y,hP,hd]
    simp
  ·intro hP
   rw[List.drop_length]at hP
   simp only[go_sem]
   rw[K2y,hP.2,K2p]
   simp
   omega
theorem Kaq{l:List Int}{k:Nat}{x y:Int}(hx:l[k]? =some x)(hy:l[k+1]? =some y)(h:(l.take (k+1)).Pairwise (· < ·))(hxy:x<y):(l.take (k+1+1)).Pairwise (· < ·):=by
 rw[K8 hy,List.pairwise_append]
 refine⟨h,by simp,fun a ha b hb=>?_⟩
 rw[List.mem_singleton.1 hb]
 rw[K8 hx,List.pairwise_append]at h
 rw[K8 hx]at ha
 rcases List.mem_append.1 ha with ha|ha
 ·have:=h.2.2 a ha x (by simp);omega
 ·rw[List.mem_singleton.1 ha];exact hxy
theorem pair_no{l:List Int}{k:Nat}{x y:Int}(hx:l[k]? =some x)(hy:l[k+1]? =some y)(hxy:¬x<y):ascB l=false:=by
 rw[ascB,decide_eq_false_iff_not]
 intro h
 have:=List.pairwise_iff_getElem.1 h k (k+1) (List.getElem?_eq_some_iff.1 hx).1 (List.getElem?_eq_some_iff.1 hy).1 (by omega)
 rw[(List.getElem?_eq_some_iff.1 hx).2,(List.getElem?_eq_some_iff.1 hy).2]at this
 exact hxy this
def M5s:MC:=
(Zs [.mv 2 cF] [0] (.seq (Zs [.mv 3 (ci 0)] [0,3] (.block 0 (.loop ([0,3],[]) (.seq (Zs [mS 5 3,mS 6 0,nS 7 6,bS 8 .lss 5 7] [0,3,8] (cX 8 0))
(.seq (.block 1 (.seq (.seq (.dreg [Zc [12] (mS 11 0),Zc [11] (mS 12 3),Ze [0,1] (xS 13 4 11 12),Ze [0,1,2] (fS 14 13 0),Ze (.range 4) (lF 15 1 14),Ze (.range 5) (.call 16 [] (.f N0) [.s 15,.c (.int .i64 0),.c (.int .i64 99)]),Ze (.range 6) (.un 17 .not (.s 16)),Ze (.range 7) (mS 18 17),{o:=mS 19 3,g:=some (18,false),bf:=(.range 8)},{o:=bC 20 .gtr 19 0,g:=some (18,false),bf:=(.range 9)},{o:=mS 21 20,g:=some (18,false),bf:=(.range 10)},{o:=mS 22 0,g:=some (21,true),hs:=[23,24,28,29,30,31,32],bf:=(.range 11)},{o:=mS 23 3,g:=some (21,true),hs:=[22,28,29,30,31,32],bf:=(.range 11)},{o:=bC 24 .sub 23 1,g:=some (21,true),hs:=[22,28,29,30,31,32],bf:=[0,1,2,3,4,5,6,7,8,9,10,12]},{o:=xS 25 4 22 24,g:=some (21,true),hs:=[28,29,30,31,32],bf:=(.range 14)},{o:=fS 26 25 0,g:=some (21,true),hs:=[28,29,30,31,32],bf:=(.range 15)},{o:=lF 27 1 26,g:=some (21,true),hs:=[28,29,30,31,32],bf:=(.range 16)},{o:=mS 28 0,g:=some (21,true),hs:=[22,23,24,25,26,27,29],bf:=(.range 11)},{o:=mS 29 3,g:=some (21,true),hs:=[22,23,24,25,26,27,28],bf:=(.range 11)},{o:=xS 30 4 28 29,g:=some (21,true),hs:=[22,23,24,25,26,27],bf:=[0,1,2,3,4,5,6,7,8,9,10,17,18]},{o:=fS 31 30 0,g:=some (21,true),hs:=[22,23,24,25,26,27],bf:=[0,1,2,3,4,5,6,7,8,9,10,17,18,19]},{o:=lF 32 1 31,g:=some (21,true),hs:=[22,23,24,25,26,27],bf:=[0,1,2,3,4,5,6,7,8,9,10,17,18,19,20]},{o:=bS 33 .geq 27 32,g:=some (21,true),bf:=(.range 22)},{o:= .pick 34 (.s 21) (.s 33) cF,g:=some (18,false),bf:=(.range 23)},Ze (.range 24) (.pick 35 (.s 18) cT (.s 34))] [0,3,35])
(.cond (.s 35) (Zs [.mv 2 cF] [2] .ret) .skip))
(Zs [.mv 4 (ci 1)] [0,3,4] (.block 2 (.loop ([0,3,4],[]) (.seq (Zs [mS 36 4,mS 37 0,mS 38 3,xS 39 4 37 38,fS 40 39 1,lF 41 1 40,nS 42 41,bS 43 .lss 36 42] [0,3,4,43] (cX 43 2))
(.seq (.block 3 (.seq (.dreg [Zc [47,51,52,55,56,57,58,59,60,61,62] (mS 46 0),Zc [46,51,52,55,56,57,58,59,60,61,62] (mS 47 3),Zd [51,52,55,56,57,58,59,60,61,62] [0,1] (xS 48 4 46 47),Zd [51,52,55,56,57,58,59,60,61,62] [0,1,2] (fS 49 48 1),Zd [51,52,55,56,57,58,59,60,61,62] (.range 4) (lF 50 1 49),Zc [46,47,48,49,50,55,56,57,58,59,60,61,62] (mS 51 4),Zd [46,47,48,49,50,55,56,57,58,59,60,61,62] [5] (bC 52 .sub 51 1),Zd [55,56,57,58,59,60,61,62] (.range 7) (xS 53 1 50 52),Zd [55,56,57,58,59,60,61,62] (.range 8) (lF 54 1 53),Zc [46,47,48,49,50,51,52,53,54,56,60] (mS 55 0),Zc [46,47,48,49,50,51,52,53,54,55,60] (mS 56 3),Zd [46,47,48,49,50,51,52,53,54,60] [9,10] (xS 57 4 55 56),Zd [46,47,48,49,50,51,52,53,54,60] [9,10,11] (fS 58 57 1),Zd [46,47,48,49,50,51,52,53,54,60] [9,10,11,12] (lF 59 1 58),Zc [46,47,48,49,50,51,52,53,54,55,56,57,58,59] (mS 60 4),Zd [46,47,48,49,50,51,52,53,54] [9,10,11,12,13,14] (xS 61 1 59 60),Zd [46,47,48,49,50,51,52,53,54] [9,10,11,12,13,14,15] (lF 62 1 61),Ze (.range 17) (bS 63 .geq 54 62)] [0,3,4,63])
(.cond (.s 63) (Zs [.mv 2 cF] [2] .ret) .skip)))
(pr [mS 44 4,bC 45 .add 44 1,mS 4 45] [0,3,4]))))))))
(pr [mS 9 3,bC 10 .add 9 1,mS 3 10] [0,3]))))))
(Zs [mS 64 0,nS 65 64,bC 66 .leq 65 6,mS 2 66] [2] .ret)))
set_option maxHeartbeats 2000000 in
theorem Cgd(l:List GLibrary)(hs:l.length+(l.map GLibrary.size).sum≤1073741824):Ctr Tryz.prog N67 [aL 4 (l.map GLibrary.enc)] [rB (K2y l)]:=by
 refine cA M5s 0 67 [(.tmp 2,[false])] Tryz.func47 rfl rfl ?_;unfold M5s
 intro hb
 clear hb
 simp only[go_sem]
 refine K3 l (fun k=>[(3,vI k)]) (fun k=>[]) (fun k=>(-1≤bef l k∧bef l k≤99)∧(0<k→0≤bef l k)∧K2p (-1) l=K2p (bef l k) (l.drop k)) (by simp only[roomB];omega) ?_
 simp only[go_sem]
 refine⟨?_,⟨by simp[bef],by omega,rfl⟩,?_,?_⟩
 ·simp only[go_sem]
 ·intro k x hx hP h0 h1 hw
  obtain⟨hb,hb2,hP⟩:=hP
  rw[K1t hx,K2p]at hP
  simp only[go_sem,K1 hx,h0,h1]
  apply K0 (C3 x.Id 0 99)
  simp only[go_sem,K1 hx,h0,h1]
  refine⟨fun c=>?_,fun c=>⟨fun hk=>?_,fun hk=>?_⟩⟩
  ·have hn:¬(bef l k+1≤x.Id∧x.Id≤99):=by omega
   rw[K2y,hP,decide_eq_false hn]
   simp
  ·obtain⟨q,rfl⟩:∃q,k=q+1:=⟨k-1,by omega⟩
   obtain⟨w,hwq⟩:=K5 (l:=l) (k:=q) (by have:=K9 hx;omega)
   have eb:=K97 hwq
   have hkl:=K9 hx
   have hb3:=hb2 (by omega)
   rw[show IntKind.i64.wrap (((q+1:Nat):Int)-1)=(q:Int)by rw[wI (by omega) (by omega)];omega]
   refine⟨⟨by omega,by omega⟩,?_⟩
   rw[Int.toNat_natCast,hwq]
   simp only[go_sem]
   refine⟨fun c2=>?_,fun c2=>?_⟩
   ·have hn:¬(bef l (q+1)+1≤x.Id∧x.Id≤99):=by omega
    rw[K2y,hP,decide_eq_false hn]
    simp
   ·have hc:bef l (q+1)+1≤x.Id∧x.Id≤99:=by omega
    refine Kq (fun j:Nat=>[(4,vI j)]) (fun j=>[]) (fun j=>1≤j∧(x.Digests.take j).Pairwise (· < ·)) (fun j=>x.Digests.length-j) 1 ?_
    simp only[go_sem]
    refine⟨?_,⟨by omega,by rcases x.Digests with _|⟨y,l⟩<;>simp⟩,?_⟩
    ·simp only[go_sem]
     try rfl
    ·rintro j ⟨j1,j2⟩
     by_cases hj:j<x.Digests.length
     ·obtain⟨i,rfl⟩:∃i,j=i+1:=⟨j-1,by omega⟩
      obtain⟨z,hz⟩:=K5 (l:=x.Digests) (k:=i) (by omega)
      obtain⟨y,hy⟩:=K5 hj
      have hdl:=dig_le hx hs
      have g1:((i+1:Nat):Int)<(x.Digests.length:Int):=by omega
      have g2:IntKind.i64.wrap (((i+1:Nat):Int)-1)=(i:Int):=by rw[wI (by omega) (by omega)];omega
      have g3:(0:Int)≤(i:Int):=by omega
      have g4:(i:Int)<(x.Digests.length:Int):=by omega
      have g5:(0:Int)≤((i+1:Nat):Int):=by omega
      simp only[go_sem,K1 hx,h0,h1,hw,g1,g2,g3,g4,g5,K1 hz,K1 hy]
      refine⟨fun c3=>?_,fun c3=>?_⟩
      ·rw[K2y,hP,pair_no hz hy (by omega)]
       simp
      ·exact⟨i+1+1,by rw[wI (by omega) (by omega)];omega,⟨by omega,Kaq hz hy j2 (by omega)⟩,by omega⟩
     ·have g1:¬(j:Int)<(x.Digests.length:Int):=by omega
      rw[List.take_of_length_le (by omega)]at j2
      have hA:ascB x.Digests=true:=decide_eq_true j2
      simp only[go_sem,K1 hx,h0,h1,hw,g1,K97 hx]
      rw[hA,decide_eq_true hc,Bool.true_and,Bool.true_and]at hP
      try exact⟨by omega,fun _=>by omega,hP⟩
  ·have ek:k=0:=by omega
   have hc:bef l k+1≤x.Id∧x.Id≤99:=by rw[ek];simp only[bef];omega
   refine Kq (fun j:Nat=>[(4,vI j)]) (fun j=>[]) (fun j=>1≤j∧(x.Digests.take j).Pairwise (· < ·)) (fun j=>x.Digests.length-j) 1 ?_
   simp only[go_sem]
   refine⟨?_,⟨by omega,by rcases x.Digests with _|⟨y,l⟩<;>simp⟩,?_⟩
   ·simp only[go_sem]
    try rfl
   ·rintro j ⟨j1,j2⟩
    by_cases hj:j<x.Digests.length
    ·obtain⟨i,rfl⟩:∃i,j=i+1:=⟨j-1,by omega⟩
     obtain⟨z,hz⟩:=K5 (l:=x.Digests) (k:=i) (by omega)
     obtain⟨y,hy⟩:=K5 hj
     have hdl:=dig_le hx hs
     have g1:((i+1:Nat):Int)<(x.Digests.length:Int):=by omega
     have g2:IntKind.i64.wrap (((i+1:Nat):Int)-1)=(i:Int):=by rw[wI (by omega) (by omega)];omega
     have g3:(0:Int)≤(i:Int):=by omega
     have g4:(i:Int)<(x.Digests.length:Int):=by omega
     have g5:(0:Int)≤((i+1:Nat):Int):=by omega
     simp only[go_sem,K1 hx,h0,h1,hw,g1,g2,g3,g4,g5,K1 hz,K1 hy]
     refine⟨fun c3=>?_,fun c3=>?_⟩
     ·rw[K2y,hP,pair_no hz hy (by omega)]
      simp
     ·exact⟨i+1+1,by rw[wI (by omega) (by omega)];omega,⟨by omega,Kaq hz hy j2 (by omega)⟩,by omega⟩
    ·have g1:¬(j:Int)<(x.Digests.length:Int):=by omega
     rw[List.take_of_length_le (by omega)]at j2
     have hA:ascB x.Digests=true:=decide_eq_true j2
     simp only[go_sem,K1 hx,h0,h1,hw,g1,K97 hx]
     rw[hA,decide_eq_true hc,Bool.true_and,Bool.true_and]at hP
     try exact⟨by omega,fun _=>by omega,hP⟩
 ·intro hP
  rw[List.drop_length]at hP
  simp only[go_sem]
  rw[K2y,hP.2.2,K2p,Bool.and_true]
  exact K6j
def M6r:MC:=
(Zs [.mv 4 (ci 0)] [0,1] (Zs [.mv 5 (ci 0)] [0,1,5] (.seq (Zs [mS 8 1,nS 9 8,.mv 10 (ci 0)] [0,5,8,9,10] (.block 0 (.loop ([0,5,8,9,10],[0]) (Zs [bS 11 .lss 10 9] [0,5,8,9,10,11] (.seq (cX 11 0)
(.seq (.block 1 (Zs [xS 12 4 8 10,lT 13 4 12,.alloc 7 0 [pz,pz,pz,pz],sS 4 7 13] [0,5,7,8,9,10] (Zs [mS 14 0,lT 15 4 7,.call 16 [] (.f N38) [.s 14,.s 15]] [0,5,8,9,10,16] (.cond (.s 16) (pr [mS 17 5,bC 18 .add 17 1,mS 5 18] [0,5,8,9,10]) .skip))))
(pr [bC 19 .add 10 1,mS 10 19] [0,5,8,9,10])))))))
(Zs [mS 20 5,mS 4 20] [4] .ret))))
theorem Cgj(keys:List Int)(l:List GStatement)(hk:keys.length≤1073741824)(hs:l.length≤1073741824):Ctr Tryz.prog N7j [aL 1 (keys.map encI),aL 4 (l.map GStatement.enc)] [rI ((l.countP (honest keys):Nat):Int)]:=by
 refine cA M6r 1 21 [(.tmp 4,[false])] Tryz.func69 rfl rfl ?_;unfold M6r
 intro hb
 clear hb
 simp only[go_sem]
 refine K3 l (fun k=>[(5,vI (((l.take k).countP (honest keys):Nat):Int)),(10,vI k)]) (fun k=>[]) (fun _=>True) (by simp only[roomB];omega) ?_
 simp only[go_sem]
 refine⟨?_,trivial,?_,?_⟩
 ·simp only[go_sem,List.take_zero]
  try rfl
 ·intro k x hx _ h0 h1 hw
  have hc:=List.countP_le_length (p:=honest keys) (l:=l.take k)
  have hl:=List.length_take_le k l
  have hkl:=K9 hx
  have hw2:IntKind.i64.wrap (((l.take k).countP (honest keys):Nat)+1:Int)=(((l.take k).countP (honest keys)+1:Nat):Int):=by rw[wI (by omega) (by omega)];omega
  have hsn:(l.take (k+1)).countP (honest keys)=(l.take k).countP (honest keys)+if honest keys x=true then 1 else 0:=by rw[K8 hx,List.countP_append,List.countP_singleton]
  simp only[go_sem,K1 hx,h0,h1]
  apply K0 (C6h keys x hk)
  simp only[go_sem]
  refine⟨fun h=>?_,fun h=>?_⟩
  ·rw[hsn,if_pos h]
   simp only[go_sem,hw,hw2]
  ·rw[hsn,h,if_neg Bool.false_ne_true,Nat.add_zero]
   simp only[go_sem,hw]
 ·intro _
  simp only[go_sem,List.take_length]
def K5c(a:GArchive):Bool:=K9r a.Site&&(K1x a.Script&&(K42 a.Disk&&(K2y a.Libraries&&(decide (a.Exclusions.length≤8)&&(a.Exclusions.all K20&&(decide (a.Keys.length≤7)&&(decide (a.Statements.length≤40)&&(a.Statements.all (honest a.Keys)&&decide (0≤a.Now∧a.Now≤1000)))))))))
def M6t:MC:=Y17 5 N37
theorem Cgl(x:GExclusion):Ctr Tryz.prog N7l [aS x.enc] [rB (!K20 x)]:=by
 refine cA M6t 1 6 [(.tmp 2,[false])] Tryz.func67 rfl rfl ?_;unfold M6t
 intro hb
 clear hb
 simp only[go_sem]
 apply K0 (C6g x)
 simp only[go_sem]
theorem arch_sz{a:GArchive}(hs:a.size≤1073741824):a.Libraries.length+(a.Libraries.map GLibrary.size).sum≤1073741824∧a.Disk.size≤1073741824∧a.Keys.length≤1073741824∧a.Statements.length≤1073741824∧a.Exclusions.length≤1073741824:=by
 simp only[GArchive.size]at hs;omega
theorem any_not{α:Type}(p:α→Bool)(l:List α):(!l.any fun o=> !p o)=l.all p:=by
 rw[Bool.eq_iff_iff];simp[List.any_eq_false]
theorem count_all{α:Type}(p:α→Bool)(l:List α):decide ((l.countP p:Int)=(l.length:Int))=l.all p:=by
 rw[Bool.eq_iff_iff,decide_eq_true_eq,List.all_eq_true,←List.countP_eq_length]
 omega
def Mau:MC:=
(Zs [.box 1 0 (.s 0),.mv 2 cF] [1] (.seq (.dreg [Za (fS 3 1 0),Ze [0] (lF 4 1 3),Ze [0,1] (.call 5 [] (.f Nfk) [.s 4]),Ze [0,1,2] (mS 6 5),{o:=fS 7 1 1,g:=some (6,true),bf:=(.range 4)},{o:=lF 8 1 7,g:=some (6,true),bf:=(.range 5)},{o:= .call 9 [] (.f N28) [.s 8],g:=some (6,true),bf:=(.range 6)},Ze (.range 7) (.pick 10 (.s 6) (.s 9) cF),Ze (.range 8) (mS 11 10),{o:=fS 12 1 2,g:=some (11,true),bf:=(.range 9)},{o:=lT 13 3 12,g:=some (11,true),bf:=(.range 10)},{o:= .call 14 [] (.f Nfi) [.s 13],g:=some (11,true),bf:=(.range 11)},Ze (.range 12) (.pick 15 (.s 11) (.s 14) cF),Ze (.range 13) (mS 16 15),{o:=fS 17 1 6,g:=some (16,true),bf:=(.range 14)},{o:=lF 18 1 17,g:=some (16,true),bf:=(.range 15)},{o:= .call 19 [] (.f N5w) [.s 18],g:=some (16,true),bf:=(.range 16)},Ze (.range 17) (.pick 20 (.s 16) (.s 19) cF),Ze (.range 18) (mS 21 20),{o:=fS 22 1 5,g:=some (21,true),bf:=(.range 19)},{o:=lF 23 1 22,g:=some (21,true),bf:=(.range 20)},{o:=nS 24 23,g:=some (21,true),bf:=(.range 21)},{o:=bC 25 .leq 24 8,g:=some (21,true),bf:=(.range 22)},Ze (.range 23) (.pick 26 (.s 21) (.s 25) cF),Ze (.range 24) (mS 27 26),{o:=fS 28 1 5,g:=some (27,true),bf:=(.range 25)},{o:=lF 29 1 28,g:=some (27,true),bf:=(.range 26)},{o:= .call 30 [] (.f N6) [.s 29,.f N7l],g:=some (27,true),bf:=(.range 27)},{o:= .un 31 .not (.s 30),g:=some (27,true),bf:=(.range 28)},Ze (.range 29) (.pick 32 (.s 27) (.s 31) cF),Ze (.range 30) (mS 33 32),{o:=fS 34 1 7,g:=some (33,true),bf:=(.range 31)},{o:=lF 35 1 34,g:=some (33,true),bf:=(.range 32)},{o:=nS 36 35,g:=some (33,true),bf:=(.range 33)},{o:=bC 37 .leq 36 7,g:=some (33,true),bf:=(.range 34)},Ze (.range 35) (.pick 38 (.s 33) (.s 37) cF),Ze (.range 36) (mS 39 38),{o:=fS 40 1 8,g:=some (39,true),bf:=(.range 37)},{o:=lF 41 1 40,g:=some (39,true),bf:=(.range 38)},{o:=nS 42 41,g:=some (39,true),bf:=(.range 39)},{o:=bC 43 .leq 42 40,g:=some (39,true),bf:=(.range 40)},Ze (.range 41) (.pick 44 (.s 39) (.s 43) cF),Ze (.range 42) (mS 45 44),{o:=fS 46 1 7,g:=some (45,true),hs:=[48,49,51,52,53],bf:=(.range 43)},{o:=lF 47 1 46,g:=some (45,true),hs:=[48,49,51,52,53],bf:=(.range 44)},{o:=fS 48 1 8,g:=some (45,true),hs:=[46,47,51,52,53],bf:=(.range 43)},{o:=lF 49 1 48,g:=some (45,true),hs:=[46,47,51,52,53],bf:=[0,1,2,3,4,5,6,7,8,9,10,11,12,13,14,15,16,17,18,19,20,21,22,23,24,25,26,27,28,29,30,31,32,33,34,35,36,37,38,39,40,41,42,45]},{o:= .call 50 [] (.f N7j) [.s 47,.s 49],g:=some (45,true),hs:=[51,52,53],bf:=(.range 47)},{o:=fS 51 1 8,g:=some (45,true),hs:=[46,47,48,49,50],bf:=(.range 43)},{o:=lF 52 1 51,g:=some (45,true),hs:=[46,47,48,49,50],bf:=[0,1,2,3,4,5,6,7,8,9,10,11,12,13,14,15,16,17,18,19,20,21,22,23,24,25,26,27,28,29,30,31,32,33,34,35,36,37,38,39,40,41,42,48]},{o:=nS 53 52,g:=some (45,true),hs:=[46,47,48,49,50],bf:=[0,1,2,3,4,5,6,7,8,9,10,11,12,13,14,15,16,17,18,19,20,21,22,23,24,25,26,27,28,29,30,31,32,33,34,35,36,37,38,39,40,41,42,48,49]},{o:=bS 54 .eql 50 53,g:=some (45,true),bf:=(.range 51)},Ze (.range 52) (.pick 55 (.s 45) (.s 54) cF),Ze (.range 53) (mS 56 55),{o:=fS 57 1 9,g:=some (56,true),bf:=(.range 54)},{o:=lF 58 1 57,g:=some (56,true),bf:=(.range 55)},{o:= .call 59 [] (.f N1) [.s 58,.c (.int .i64 0),.c (.int .i64 1000)],g:=some (56,true),bf:=(.range 56)},Ze (.range 57) (.pick 60 (.s 56) (.s 59) cF),Ze (.range 58) (mS 2 60)] [2])
.ret))
set_option maxRecDepth 20000 in
set_option maxHeartbeats 4000000 in
theorem Cii(a:GArchive)(hs:a.size≤1073741824):Ctr Tryz.prog Nbp [aS a.enc] [rB (K5c a)]:=by
  refine cA Mau 1 61 [(.tmp 2,[false])] Tryz.func27 rfl rfl ?_;unfold Mau
  intro hb
  clear hb
  obtain⟨s1,s2,s3,s4,s5⟩:=arch_sz hs
  simp only[go_sem]
  repeat' first
    |(refine And.intro ?_ ?_<;>intro h)
    |(apply K0 (Ck1 a.Site);simp only[go_sem])
    |(apply K0 (C30 a.Script);simp only[go_sem])
    |(apply K0 (Cjz a.Disk s2);simp only[go_sem])
    |(apply K0 (Cg0 a.Libraries s1);simp only[go_sem])
    |(refine K0 (C25 a.Exclusions _ [] (fun o=> !K20 o) fun o _=>Cgl o) ?_;simp only[go_sem])
    |(apply K0 (Cgj a.Keys a.Statements s3 s4);simp only[go_sem])
    |(apply K0 (C4 a.Now 0 1000);simp only[go_sem])
  all_goals
    try intro _
    unfold K5c
    rw[←any_not K20 a.Exclusions,←count_all (honest a.Keys) a.Statements]
    clear hs s1 s2 s3 s4 s5
    first
      |(simp_all;done)
      |(simp_all;omega)
      |(simp_all;intros;omega)
      |(have d1:decide (a.Exclusions.length≤8)=true:=decide_eq_true (by omega)
        have d2:decide (a.Keys.length≤7)=true:=decide_eq_true (by omega)
        have d3:decide (a.Statements.length≤40)=true:=decide_eq_true (by omega)
        simp only[d1,d2,d3]
        simp[*]
        done)
      |(rw[show(a.Exclusions.any fun o=> !K20 o)=true from by assumption];simp;done)
      |(rw[decide_eq_false (by assumption:¬((a.Statements.countP (honest a.Keys):Nat):Int)=(a.Statements.length:Int))];simp;done)
def Mbh:MC:=
(Zs [.box 1 0 (.s 0),.mv 2 cF] [1] (.seq (Zs [.mv 3 (ci 0)] [1,3] (.block 0 (.loop ([1,3],[]) (.seq (Zs [mS 5 3,fS 6 1 5,lF 7 1 6,nS 8 7,bS 9 .lss 5 8] [1,3,9] (cX 9 0))
(.seq (.block 1 (Zs [fS 12 1 5,lF 13 1 12,mS 14 3,xS 15 5 13 14,lT 16 5 15,.call 17 [] (.f N3d) [.s 16],.un 18 .not (.s 17)] [1,3,18] (.cond (.s 18) (Zs [.mv 2 cF] [2] .ret) .skip)))
(pr [mS 10 3,bC 11 .add 10 1,mS 3 11] [1,3]))))))
(.seq (Zs [.mv 4 (ci 0)] [1,4] (.block 2 (.loop ([1,4],[]) (.seq (Zs [mS 19 4,fS 20 1 8,lF 21 1 20,nS 22 21,bS 23 .lss 19 22] [1,4,23] (cX 23 2))
(.seq (.block 3 (.seq (.dreg [Zc [28,29,30,31,32] (fS 26 1 7),Zd [28,29,30,31,32] [0] (lF 27 1 26),Zc [26,27,30] (fS 28 1 8),Zd [26,27,30] [2] (lF 29 1 28),Zc [26,27,28,29] (mS 30 4),Zd [26,27] [2,3,4] (xS 31 4 29 30),Zd [26,27] [2,3,4,5] (lT 32 4 31),Ze (.range 7) (.call 33 [] (.f N3e) [.s 27,.s 32]),Ze (.range 8) (.un 34 .not (.s 33))] [1,4,34])
(.cond (.s 34) (Zs [.mv 2 cF] [2] .ret) .skip)))
(pr [mS 24 4,bC 25 .add 24 1,mS 4 25] [1,4]))))))
(.seq (.reg [Za (fS 35 1 0),Za (lF 36 1 35),Za (.call 37 [] (.f Nfu) [.s 36]),Za (mS 38 37),Zb 38 true (fS 39 1 1),Zb 38 true (lF 40 1 39),Zb 38 true (.call 41 [] (.f N2a) [.s 40]),Za (.pick 42 (.s 38) (.s 41) cF),Za (mS 43 42),Zb 43 true (fS 44 1 2),Zb 43 true (lT 45 3 44),Zb 43 true (.call 46 [] (.f Nfs) [.s 45]),Za (.pick 47 (.s 43) (.s 46) cF),Za (mS 48 47),Zb 48 true (fS 49 1 6),Zb 48 true (lF 50 1 49),Zb 48 true (.call 51 [] (.f N67) [.s 50]),Za (.pick 52 (.s 48) (.s 51) cF),Za (mS 53 52),Zb 53 true (fS 54 1 5),Zb 53 true (lF 55 1 54),Zb 53 true (nS 56 55),Zb 53 true (bC 57 .leq 56 8),Za (.pick 58 (.s 53) (.s 57) cF),Za (mS 59 58),Zb 59 true (fS 60 1 7),Zb 59 true (lF 61 1 60),Zb 59 true (nS 62 61),Zb 59 true (bC 63 .leq 62 7),Za (.pick 64 (.s 59) (.s 63) cF),Za (mS 65 64),Zb 65 true (fS 66 1 8),Zb 65 true (lF 67 1 66),Zb 65 true (nS 68 67),Zb 65 true (bC 69 .leq 68 40),Za (.pick 70 (.s 65) (.s 69) cF),Za (mS 71 70),Zb 71 true (fS 72 1 9),Zb 71 true (lF 73 1 72),Zb 71 true (.call 74 [] (.f N0) [.s 73,.c (.int .i64 0),.c (.int .i64 1000)]),Za (.pick 75 (.s 71) (.s 74) cF),Za (mS 2 75)] [2])
.ret))))
set_option maxRecDepth 20000 in
set_option maxHeartbeats 4000000 in
theorem Ciw(a:GArchive)(hs:a.size≤1073741824):Ctr Tryz.prog Nc7 [aS a.enc] [rB (K5c a)]:=by
  refine cA Mbh 1 76 [(.tmp 2,[false])] Tryz.func16 rfl rfl ?_;unfold Mbh
  intro hb
  clear hb
  obtain⟨s1,s2,s3,s4,s5⟩:=arch_sz hs
  simp only[go_sem]
  refine K3 a.Exclusions (fun k=>[(3,vI k)]) (fun k=>[]) (fun k=>(a.Exclusions.take k).all K20=true) (by simp only[roomB];omega) ?_
  simp only[go_sem]
  refine⟨?_,by simp,?_,?_⟩
  · simp only[go_sem]
  · intro k x hx hT h0 h1 hw
    simp only[go_sem,K1 hx,h0,h1]
    apply K0 (C6l x)
    simp only[go_sem,hw]
    refine⟨fun h=>?_,fun h=>K2b hx hT h⟩
    have:a.Exclusions.all K20=false:=by
      rw[Bool.eq_false_iff,ne_eq,List.all_eq_true]
      intro hh
      rw[hh x (Ki hx)]at h
      cases h
    simp[K5c,this]
  · intro hE
    rw[List.take_length]at hE
    simp only[go_sem]
    refine K3 a.Statements (fun k=>[(4,vI k)]) (fun k=>[]) (fun k=>(a.Statements.take k).all (honest a.Keys)=true) (by simp only[roomB];omega) ?_
    simp only[go_sem]
    refine⟨?_,by simp,?_,?_⟩
    · simp only[go_sem]
    · intro k x hx hT h0 h1 hw
      simp only[go_sem,K1 hx,h0,h1]
      apply K0 (C6m a.Keys x s3)
      simp only[go_sem,hw]
      refine⟨fun h=>?_,fun h=>K2b hx hT h⟩
      have:a.Statements.all (honest a.Keys)=false:=by
        rw[Bool.eq_false_iff,ne_eq,List.all_eq_true]
        intro hh
        rw[hh x (Ki hx)]at h
        cases h
      simp[K5c,this]
    · intro hS
      rw[List.take_length]at hS
      simp only[go_sem]
      repeat' first
        |(refine And.intro ?_ ?_<;>intro h)
        |(apply K0 (Ckb a.Site);simp only[go_sem])
        |(apply K0 (C31 a.Script);simp only[go_sem])
        |(apply K0 (Ck9 a.Disk s2);simp only[go_sem])
        |(apply K0 (Cgd a.Libraries s1);simp only[go_sem])
        |(apply K0 (C3 a.Now 0 1000);simp only[go_sem])
      all_goals
        try intro _
        unfold K5c
        rw[hE,hS]
        clear hs s1 s2 s3 s4 s5 hE hS
        first
          |(simp_all;done)
          |(simp_all;omega)
          |(simp_all;intros;omega)
          |(have d1:decide (a.Exclusions.length≤8)=true:=decide_eq_true (by omega)
            have d2:decide (a.Keys.length≤7)=true:=decide_eq_true (by omega)
            have d3:decide (a.Statements.length≤40)=true:=decide_eq_true (by omega)
            simp only[d1,d2,d3]
            simp[*]
            done)
          |(rw[decide_eq_false (by assumption:¬((a.Statements.countP (honest a.Keys):Nat):Int)=(a.Statements.length:Int))];simp;done)
def Y33(v0:Nat)(v1:Nat):MC:=
(Zs [.alloc 4 0 [pz,pz,pz,.emp 1,.emp 1,.emp 1]] [0,1,4] (Zs [mS 8 0,mS 9 1,.call 10 [] (.f v0) [.s 8,.s 9],mS 7 10,.ext 11 (.s 7) 0,.ext 12 (.s 7) 1,.alloc 5 1 [pz,pz,pz,.emp 1,.emp 1,.emp 1],sS 6 5 11,mS 6 12] [4,5] (Zs [fS 13 5 2,lT 14 4 13,.call 15 [2,3,4] (.f v1) [.s 14],fS 16 5 2,sS 4 16 15] [4,5] (Zs [lT 17 6 5,sS 6 4 17] [4] .ret))))
attribute [go_sem] Y33
def Mez:MC:=Y33 Nfn N48
theorem Ck2(l:List GOp)(es:List GEntry):Ctr Tryz.prog Nfl [aL 4 (l.map GOp.enc),aL 5 (es.map GEntry.enc)] [rS (play l es).1.enc]:=by
 refine cA Mez 5 18 [(.cell 4 true 6,[false,false,false,true,true,true])] Tryz.func125 rfl rfl ?_;unfold Mez
 intro hb
 clear hb
 have hz:=K5x (play_ok l es)
 simp only[go_sem]
 apply K0 (Ck4 l es)
 simp only[go_sem]
 intros
 apply K0 (Cak (play l es).1.State (by omega))
 simp only[go_sem]
 try intros
 try trivial
def M4k:MC:=
(Zs [.box 1 0 (.s 0),.alloc 2 1 [pz,pz,pz,.emp 1,.emp 1,.emp 1]] [1,2] (Zs [fS 3 1 0,lF 4 1 3,fS 5 1 1,lF 6 1 5,.call 7 [2,3,4] (.f Nfl) [.s 4,.s 6],sS 6 2 7] [2] .ret))
theorem Cei(x:GContainer):Ctr Tryz.prog N4u [aS x.enc] [rS (play x.Script x.Entries).1.enc]:=by
 refine cA M4k 5 8 [(.cell 2 true 6,[false,false,false,true,true,true])] Tryz.func73 rfl rfl ?_;unfold M4k
 intro hb
 clear hb
 simp only[go_sem]
 apply K0 (Ck2 x.Script x.Entries)
 simp only[go_sem]
 try intros
 try trivial
def Mfc:MC:=Y33 Nfx N6d
theorem Ckc(l:List GOp)(es:List GEntry):Ctr Tryz.prog Nfv [aL 4 (l.map GOp.enc),aL 5 (es.map GEntry.enc)] [rS (play l es).1.enc]:=by
 refine cA Mfc 5 18 [(.cell 4 true 6,[false,false,false,true,true,true])] Tryz.func98 rfl rfl ?_;unfold Mfc
 intro hb
 clear hb
 have hz:=K5x (play_ok l es)
 simp only[go_sem]
 apply K0 (Cke l es)
 simp only[go_sem]
 intros
 apply K0 (Cdn (play l es).1.State (by omega))
 simp only[go_sem]
 try intros
 try trivial
def M4p:MC:=
(Zs [.box 1 0 (.s 0),.alloc 2 1 [pz,pz,pz,.emp 1,.emp 1,.emp 1]] [1,2] (Zs [fS 3 1 0,lF 4 1 3,fS 5 1 1,lF 6 1 5,.call 7 [2,3,4] (.f Nfv) [.s 4,.s 6],sS 6 2 7] [2] .ret))
theorem Cep(x:GContainer):Ctr Tryz.prog N4z [aS x.enc] [rS (play x.Script x.Entries).1.enc]:=by
 refine cA M4p 5 8 [(.cell 2 true 6,[false,false,false,true,true,true])] Tryz.func49 rfl rfl ?_;unfold M4p
 intro hb
 clear hb
 simp only[go_sem]
 apply K0 (Ckc x.Script x.Entries)
 simp only[go_sem]
 try intros
 try trivial
def stray(x:GContainer):Bool:=(play x.Script x.Entries).1.Code != 0
def K46(a:GArchive):Bool:= !a.Disk.Containers.any stray
def M5e:MC:=
(Zs [.box 1 0 (.s 0),.mv 2 cF] [1] (Zs [lT 3 4 1,.call 4 [1,2,3] (.f N4u) [.s 3],.fldv 5 (.s 4) 0 1 false,bC 6 .neq 5 0,mS 2 6] [2] .ret))
theorem Cg2(x:GContainer):Ctr Tryz.prog N5y [aS x.enc] [rB (stray x)]:=by
 refine cA M5e 4 7 [(.tmp 2,[false])] Tryz.func72 rfl rfl ?_;unfold M5e
 intro hb
 clear hb
 simp only[go_sem]
 apply K0 (Cei x)
 simp only[go_sem]
 intros
 rfl
def M8q:MC:=
(Zs [.box 1 0 (.s 0),.mv 2 cF] [1] (Zs [fS 3 1 2,fS 4 3 0,lF 5 1 4,.call 6 [] (.f N2) [.s 5,.f N5y],.un 7 .not (.s 6),mS 2 7] [2] .ret))
theorem Che(a:GArchive):Ctr Tryz.prog N9o [aS a.enc] [rB (K46 a)]:=by
 refine cA M8q 1 8 [(.tmp 2,[false])] Tryz.func28 rfl rfl ?_;unfold M8q
 intro hb
 clear hb
 simp only[go_sem]
 refine K0 (Ca a.Disk.Containers _ [] stray fun x _=>Cg2 x) ?_
 simp only[go_sem]
 try rfl
def M9e:MC:=
(Zs [.box 1 0 (.s 0),.mv 2 cF] [1] (.seq (Zs [.mv 3 (ci 0)] [1,3] (.block 0 (.loop ([1,3],[1,2,3]) (.seq (Zs [mS 4 3,fS 5 1 2,fS 6 5 0,lF 7 1 6,nS 8 7,bS 9 .lss 4 8] [1,3,9] (cX 9 0))
(.seq (.block 1 (Zs [fS 12 1 2,fS 13 12 0,lF 14 1 13,mS 15 3,xS 16 4 14 15,lT 17 4 16,.call 18 [1,2,3] (.f N4z) [.s 17],.fldv 19 (.s 18) 0 1 false,bC 20 .neq 19 0] [1,3,20] (.cond (.s 20) (Zs [.mv 2 cF] [2] .ret) .skip)))
(pr [mS 10 3,bC 11 .add 10 1,mS 3 11] [1,3]))))))
(Zs [.mv 2 cT] [2] .ret)))
theorem Chx(a:GArchive):Ctr Tryz.prog Na9 [aS a.enc] [rB (K46 a)]:=by
 refine cA M9e 4 21 [(.tmp 2,[false])] Tryz.func17 rfl rfl ?_;unfold M9e
 intro hb
 simp only[GArchive.enc,bdA,bdL,bdT,K7,K15,roomB,and_true,List.length_map]at hb
 have hl:=hb.2.2.1.1
 clear hb
 simp only[go_sem]
 refine K3 a.Disk.Containers (fun k=>[(3,vI k)]) (fun k=>[]) (fun k=>(a.Disk.Containers.take k).any stray=false) (by simp only[roomB];omega) ?_
 simp only[go_sem]
 refine⟨?_,by simp,?_,?_⟩
 ·simp only[go_sem]
 ·intro k x hx h h0 h1 hw
  simp only[go_sem,K1 hx,h0,h1]
  apply K0 (Cep x)
  simp only[go_sem,hw]
  intros
  refine⟨fun hn=>?_,fun hn=>K1k hx h (by simp[stray,hn])⟩
  rw[K46,K8n hx (by simp[stray,hn])]
  rfl
 ·intro h
  rw[List.take_length]at h
  simp only[go_sem]
  rw[K46,h]
  rfl
end Go.Proofs.YtpeabgkoknjojaaGreatDoorR
namespace Go.Proofs
open Go.Shelf
end Go.Proofs
namespace Go.Proofs.YtpeabgkoknjojaaGreatDoorR
open Go Go.RowKit Go.Proofs
open Nat (reduceEqDiff reduceLT reduceLeDiff reduceAdd reduceMul)
open List (reduceReplicate)
def Ky(keys:List Int)(digest:Int)(out:List Int)(s:GStatement):List Int:=
 if s.Digest=digest∧honest keys s=true∧(zAt out s.Witness<0∨s.Tick<zAt out s.Witness)then out.set s.Witness.toNat s.Tick else out
def Kr(keys:List Int)(l:List GStatement)(digest:Int):List Int:=l.foldl (Ky keys digest) (List.replicate keys.length (-1))
theorem K6c{keys:List Int}{l:List GStatement}{digest:Int}{k:Nat}{s:GStatement}(h:l[k]? =some s):Kr keys (l.take (k+1)) digest=Ky keys digest (Kr keys (l.take k) digest) s:=by
 rw[K8 h,Kr,List.foldl_append];rfl
theorem fsStep_len{keys:List Int}{digest:Int}{out:List Int}{s:GStatement}:(Ky keys digest out s).length=out.length:=by
 unfold Ky;split<;>simp
theorem K2h{keys:List Int}{digest:Int}{l:List GStatement}:(Kr keys l digest).length=keys.length:=by
 suffices H:∀(l:List GStatement) (out:List Int),(l.foldl (Ky keys digest) out).length=out.length by
  unfold Kr;rw[H];simp
 intro l
 induction l with
 |nil=>intro out;rfl
 |cons s l ih=>intro out;rw[List.foldl_cons,ih,fsStep_len]
theorem K6x{keys:List Int}{s:GStatement}(h:honest keys s=true):0≤s.Witness∧s.Witness<keys.length∧0≤s.Tick:=by
 simp only[honest,Bool.and_eq_true,decide_eq_true_eq]at h
 omega
theorem Kbc{keys:List Int}{digest:Int}{l:List GStatement}:∀x∈Kr keys l digest,x= -1∨0≤x:=by
 suffices H:∀(l:List GStatement) (out:List Int),(∀x∈out,x= -1∨0≤x)→∀x∈l.foldl (Ky keys digest) out,x= -1∨0≤x by
  exact H l _ fun x hx=> .inl (List.mem_replicate.1 hx).2
 intro l
 induction l with
 |nil=>intro out h;exact h
 |cons s l ih=>
  intro out h
  rw[List.foldl_cons]
  refine ih _ fun x hx=>?_
  unfold Ky at hx
  split at hx
  ·rename_i hc
   rcases List.mem_or_eq_of_mem_set hx with hx|rfl
   ·exact h x hx
   ·exact .inr (K6x hc.2.1).2.2
  ·exact h x hx
def ltI(x y:Int):Bool:=decide (x<y)
theorem swoI:Srt.Swo ltI:=⟨fun x y h=>by simp only[ltI,decide_eq_true_eq,decide_eq_false_iff_not]at *;omega,fun x y z h=>by simp only[ltI,decide_eq_true_eq]at *;omega⟩
theorem Kbl{x:Int}:∀ {l:List Int},(Srt.ins ltI x l).Perm (x::l)
 | []=>List.Perm.refl _
 |z::l=>by
  simp only[Srt.ins]
  split
  ·exact List.Perm.refl _
  ·exact(List.Perm.cons z Kbl).trans (List.Perm.swap x z l)
theorem K9g:∀(n:Nat) (l:List Int),l.length=n→(Srt.isort ltI l).Perm l
 |0,l,h=>by
  obtain rfl:=List.length_eq_zero_iff.1 h
  exact List.Perm.refl _
 |n+1,l,h=>by
  rcases List.eq_nil_or_concat l with rfl|⟨s,x,rfl⟩
  ·exact List.Perm.refl _
  ·rw[List.concat_eq_append]at*
   rw[Srt.isort_snoc]
   exact Kbl.trans ((List.Perm.cons x (K9g n s (by simpa using h))).trans (List.perm_append_singleton x s).symm)
theorem K9s:∀ {l m:List Int},l.Pairwise (· ≤ ·)→m.Pairwise (· ≤ ·)→l.Perm m→l=m
 | [],m,_,_,h=>h.nil_eq
 |a::l,m,h1,h2,h=>by
  cases m with
  |nil=>exact h.eq_nil
  |cons b m=>
   rw[List.pairwise_cons]at h1 h2
   have hab:a=b:=by
    rcases List.mem_cons.1 (h.mem_iff.1 (List.mem_cons_self ..):a∈b::m)with e|e
    ·exact e
    ·rcases List.mem_cons.1 (h.mem_iff.2 (List.mem_cons_self ..):b∈a::l)with e2|e2
     ·exact e2.symm
     ·have:=h1.1 b e2;have:=h2.1 a e;omega
   subst hab
   rw[K9s h1.2 h2.2 (List.perm_cons a |>.1 h)]
theorem Kcf(l:List Int):Srt.isort ltI l=sortI l:=by
 refine K9s ?_ (Kc0 l) ((K9g _ l rfl).trans (List.mergeSort_perm _ _).symm)
 exact(Srt.srt_isort swoI l).imp fun {a b} h=>by simp only[ltI,decide_eq_false_iff_not]at h;omega
def seenL(keys:List Int)(l:List GStatement)(digest:Int):List Int:=(Kr keys l digest).filter fun n=> !(n== -1)
def K2e(keys:List Int)(l:List GStatement)(digest liars:Int):Int:=if 0≤liars∧liars<((sortI (seenL keys l digest)).length:Int)then zAt (sortI (seenL keys l digest)) liars else -1
def K5i(a:GArchive)(liars:Int):Bool:=a.Disk.Containers.all fun x=>decide (0≤K2e a.Keys a.Statements x.Root liars∧K2e a.Keys a.Statements x.Root liars≤a.Now)
end Go.Proofs.YtpeabgkoknjojaaGreatDoorR
namespace Go.Proofs
open Go.Shelf
def Tryz.lays212_ren:Go.Shelf.Ren:=⟨fun|212=>216|263=>256|264=>257|n=>n,fun|46=>216|51=>256|146=>273|53=>258|148=>275|n=>n,fun|n=>n⟩
theorem Tryz.lays212:Go.Proofs.Lays.n212 Tryz.prog Tryz.lays212_ren:={
 mixed:=by kernel_rfl
 f212:=Tryz.func216.trans (congrArg some (by kernel_rfl))
 f263:=Tryz.func256.trans (congrArg some (by kernel_rfl))
 f264:=Tryz.func257.trans (congrArg some (by kernel_rfl))
 t46:=Tryz.underlying216
 a46:=Tryz.isAgg216
 z46:=Tryz.sizeOf216
 v46:=Tryz.zeroValue216
 t51:=Tryz.underlying256
 a51:=Tryz.isAgg256
 z51:=Tryz.sizeOf256
 v51:=Tryz.zeroValue256
 t53:=Tryz.underlying258
 a53:=Tryz.isAgg258
 z53:=Tryz.sizeOf258
 v53:=Tryz.zeroValue258
 t146:=Tryz.underlying273
 a146:=Tryz.isAgg273
 z146:=Tryz.sizeOf273
 v146:=Tryz.zeroValue273
 t148:=Tryz.underlying275
 a148:=Tryz.isAgg275
 z148:=Tryz.sizeOf275
 v148:=Tryz.zeroValue275}
open Go.RowKit Go.Lib in
theorem Tryz.bits_Mul(x y:Nat)(hx:x<18446744073709551616)(hy:y<18446744073709551616)(w:World):
  Calls Tryz.prog 216 #[.int .u64 x,.int .u64 y] w fun e w'=>e= .returned (.tuple #[.int .u64 ((x*y/18446744073709551616:Nat):Int),.int .u64 ((x*y%18446744073709551616:Nat):Int)])∧w'=w:=Any.bits_Mul Tryz.lays212 x y hx hy w
def Tryz.laysSlH10_f126_ren:Go.Shelf.Ren:=⟨fun|10=>126|6=>172|n=>n,fun|22=>30|23=>3|25=>146|3=>3|4=>4|0=>0|n=>n,fun|n=>n⟩
theorem Tryz.laysSlH10_f126:Go.Proofs.SlLaysH.n10 Tryz.prog Tryz.laysSlH10_f126_ren:={
 mixed:=by kernel_rfl
 f6:=⟨Tryz.f172.name,by decide,Tryz.func172.trans (congrArg some (by kernel_rfl))⟩
 f10:=⟨Tryz.f126.name,by decide,Tryz.func126.trans (congrArg some (by kernel_rfl))⟩
 t0:=Tryz.underlying0
 a0:=Tryz.isAgg0
 z0:=Tryz.sizeOf0
 v0:=Tryz.zeroValue0
 t3:=Tryz.underlying3
 a3:=Tryz.isAgg3
 z3:=Tryz.sizeOf3
 v3:=Tryz.zeroValue3
 t4:=Tryz.underlying4
 a4:=Tryz.isAgg4
 z4:=Tryz.sizeOf4
 v4:=Tryz.zeroValue4
 t22:=Tryz.underlying30
 a22:=Tryz.isAgg30
 z22:=Tryz.sizeOf30
 v22:=Tryz.zeroValue30
 a23:=Tryz.isAgg3
 z23:=Tryz.sizeOf3
 t25:=Tryz.underlying146
 a25:=Tryz.isAgg146
 z25:=Tryz.sizeOf146
 v25:=Tryz.zeroValue146}
open Go.RowKit Go.Lib Go.Sort in
theorem Tryz.slices_DeleteFunc{α:Type} [Inhabited α] (enc:α→Value)(hO:OneCell enc)(p:α→Bool)(g:Nat)(lb:Array Value)(eg:∀args w,(callFunc g args).run Tryz.prog w= .ok (.enter g args) w)(zr:α)(v23:∀w,(zeroValue 3).run Tryz.prog w= .ok (enc zr) w)(blk off cap:Nat)(d:Array α)(w:World)(hp:PredAt Tryz.prog g lb enc p w)(hpo:PredOver Tryz.prog g lb enc p blk off d.size w)(hH:Holds enc w blk off d)(hsz:d.size≤9223372036854775807)(hcap:d.size≤cap):
  Calls Tryz.prog 126 #[.slice (some ⟨blk,off,none⟩) d.size cap,.func (.func g) #[] lb] w fun e w'=>e= .returned (.slice (some ⟨blk,off,none⟩) (d.toList.filter fun x=> !p x).length cap)∧∃q,w'=putRow enc (Sort.ahead w q) blk off ((d.toList.filter fun x=> !p x)++List.replicate (d.size-(d.toList.filter fun x=> !p x).length) zr).toArray:=AnyE.slices_DeleteFunc Tryz.laysSlH10_f126 enc hO p g lb eg zr v23 blk off cap d w hp hpo hH hsz hcap
end Go.Proofs
namespace Go.Proofs.YtpeabgkoknjojaaGreatDoorR
open Go Go.RowKit Go.Proofs
open Nat (reduceEqDiff reduceLT reduceLeDiff reduceAdd reduceMul)
open List (reduceReplicate)
def rowR(v:Int)(n m:Nat):Array Value:=(List.replicate m (Value.int .i64 v)++List.replicate (n-m) (Value.int .i64 0)).toArray
def wR(w:World)(v:Int)(n m d:Nat):World:=(w.drewN d).alloc (.cells (rowR v n m) 3)
theorem wR_at{w:World}{v:Int}{n m d:Nat}:(wR w v n m d).heap[w.heap.size]? =some (.cells (rowR v n m) 3 (0,0)):=by
 simp[wR,World.alloc,World.drewN]
theorem push_mod{xs:Array Obj}{o:Obj}{f:Obj→Obj}:(xs.push o).modify xs.size f=xs.push (f o):=by
 apply Array.ext_getElem?
 intro i
 rw[Array.getElem?_modify,Array.getElem?_push,Array.getElem?_push]
 by_cases h:xs.size=i
 ·subst h;simp
 ·rw[if_neg h,if_neg (fun e=>h e.symm),if_neg (fun e=>h e.symm)]
theorem wR_set{w:World}{v:Int}{n m m' d:Nat}:(wR w v n m d).setRow w.heap.size (rowR v n m')=wR w v n m' d:=by
 simp only[wR,World.alloc,World.drewN,World.setRow]
 congr 1
 exact push_mod
theorem wR_size{w:World}{v:Int}{n m d:Nat}:(wR w v n m d).heap.size=w.heap.size+1:=by simp[wR,World.alloc,World.drewN]
theorem made_zero(n:Nat):madeCells #[Value.int .i64 0] n=Array.replicate n (Value.int .i64 0):=by
 unfold madeCells
 refine Array.ext (by simp) fun i h1 h2=>by simp[Nat.mod_one]
theorem wR_made{w:World}{v:Int}{n:Nat}:w.alloc (.cells (madeCells #[Value.int .i64 0] n) 3)=wR w v n 0 0:=by
 rw[made_zero]
 unfold wR rowR
 congr 2
set_option maxRecDepth 100000 in
theorem copy_first{w:World}{v:Int}{n d ca:Nat}(h0:0<n)(a:Addr)(ha:w.cell? a=some (.int .i64 v))(hab:a.block<w.heap.size)(hs:(Tryz.prog.info? 3).map (·.size)=some 1):(Builtin.copy_ #[30,30] 3 #[.slice (some ⟨w.heap.size,0,none⟩) n n,.slice (some a) 1 ca]).run Tryz.prog (wR w v n 0 d)= .ok (.int .i64 1) (wR w v n 1 d):=by
 have h:=run_copy_row (P:=Tryz.prog) (wR w v n 0 d) 30 30 3 3 w.heap.size 0 n n a 1 ca (rowR v n 0) 3 [.int .i64 v] Tryz.underlying30 hs wR_at (by simp[Nat.min_def];omega) (fun j x hx=>by
  cases j with
  |zero=>
   simp at hx
   subst hx
   have:a.add 0=a:=by cases a;rfl
   rw[this,←ha]
   unfold World.cell?
   rw[show(wR w v n 0 d).heap[a.block]? =w.heap[a.block]? from by simp only[wR,World.alloc,World.drewN];rw[Array.getElem?_push,if_neg (by omega)]]
  |succ j=>simp at hx) (by simp[rowR];omega) (fun v hv=>by simp at hv;subst hv;rfl)
 rw[h,←wR_set (m:=0) (m':=1)]
 show Result.ok (Value.int .i64 1) _=_
 congr 3
 simp[rowR,List.drop_replicate]
set_option maxRecDepth 100000 in
theorem copy_more{w:World}{v:Int}{n m d c:Nat}(h0:0<m)(hm:m<n)(hs:(Tryz.prog.info? 3).map (·.size)=some 1):(Builtin.copy_ #[30,30] 3 #[.slice (some ⟨w.heap.size,m,none⟩) (n-m) c,.slice (some ⟨w.heap.size,0,none⟩) m n]).run Tryz.prog (wR w v n m d)= .ok (.int .i64 ((min m (n-m):Nat):Int)) (wR w v n (m+min m (n-m)) d):=by
 have h:=run_copy_row (P:=Tryz.prog) (wR w v n m d) 30 30 3 3 w.heap.size m (n-m) c ⟨w.heap.size,0,none⟩ m n (rowR v n m) 3 (List.replicate (min m (n-m)) (.int .i64 v)) Tryz.underlying30 hs wR_at (by simp[Nat.min_def]) (fun j x hx=>by
  rw[List.getElem?_replicate]at hx
  split at hx
  ·rename_i hj
   cases hx
   have hc:=wR_at (w:=w) (v:=v) (n:=n) (m:=m) (d:=d)
   have hj2:j<m:=by omega
   rw[Addr.add_lit,Nat.zero_add]
   simp only[World.cell?,hc]
   simp[rowR,List.getElem?_append,hj2]
  ·cases hx) (by simp[rowR];omega) (fun x hx=>by rw[(List.mem_replicate.1 hx).2];rfl)
 rw[h,←wR_set (m:=m) (m':=m+min m (n-m)),List.length_replicate]
 generalize hk:min m (n-m)=k
 have hk':m+k≤n:=by omega
 have e:((rowR v n m).toList.take m++List.replicate k (Value.int .i64 v)++(rowR v n m).toList.drop (m+k)).toArray=rowR v n (m+k):=by
  unfold rowR
  congr 1
  simp only[List.take_append,List.drop_append,List.length_replicate,List.take_replicate,List.drop_replicate,Nat.min_self,Nat.sub_self,List.append_assoc,Nat.add_sub_cancel_left]
  rw[show m-(m+k)=0 by omega,show min 0 (n-m)=0 by omega,show n-m-k=n-(m+k)by omega]
  simp only[List.replicate_zero,List.nil_append]
  rw[←List.append_assoc,List.replicate_append_replicate]
 rw[e]
 rfl
theorem K9m{P:Program}{c:Code}{Q:Exit→Act→World→Prop}{n:Nat}(W:Nat→Nat→World)(A:Nat→Value→Value→Value→Value→Value→Value→Value→Value→Value→Value→Value→Value→Value→Act)
  (h1:∀m d y1 y2 y3 y4 y5 y6 y7 y8 y9 y10 y11 y12 y13 (R:Act→World→Prop),0<m→m<n→(∀d z1 z2 z3 z4 z5 z6 z7 z8 z9 z10 z11 z12 z13,R (A (m+min m (n-m)) z1 z2 z3 z4 z5 z6 z7 z8 z9 z10 z11 z12 z13) (W (m+min m (n-m)) d))→c.wp P (Exit.then R Q) (A m y1 y2 y3 y4 y5 y6 y7 y8 y9 y10 y11 y12 y13) (W m d))
  (h2:∀d y1 y2 y3 y4 y5 y6 y7 y8 y9 y10 y11 y12 y13 (R:Act→World→Prop),c.wp P (Exit.then R Q) (A n y1 y2 y3 y4 y5 y6 y7 y8 y9 y10 y11 y12 y13) (W n d)):
  ∀k m d y1 y2 y3 y4 y5 y6 y7 y8 y9 y10 y11 y12 y13,n-m<k→0<m→m≤n→Code.rounds P c Q k (A m y1 y2 y3 y4 y5 y6 y7 y8 y9 y10 y11 y12 y13) (W m d)
 |0,m,_,_,_,_,_,_,_,_,_,_,_,_,_,_,h,_,_=>by omega
 |k+1,m,d,y1,y2,y3,y4,y5,y6,y7,y8,y9,y10,y11,y12,y13,h,h0,hm=>by
  rw[rounds_succ]
  by_cases e:m=n
  ·subst e;exact h2 _ _ _ _ _ _ _ _ _ _ _ _ _ _ _
  ·exact h1 _ _ _ _ _ _ _ _ _ _ _ _ _ _ _ _ h0 (by omega) fun d z1 z2 z3 z4 z5 z6 z7 z8 z9 z10 z11 z12 z13=>K9m W A h1 h2 k _ d _ _ _ _ _ _ _ _ _ _ _ _ _ (by omega) (by omega) (by omega)
def actR(w:World)(a:Addr)(ca n m:Nat)(y1 y2 y3 y4 y5 y6 y7 y8 y9 y10 y11 y12 y13:Value):Act:={tmps:= #[.slice (some a) 1 ca,.int .i64 n,undef,undef,.slice none 0 0,.int .u64 0,.int .u64 n,.slice (some ⟨w.heap.size,0,none⟩) n n,.int .i64 m,.int .i64 n,.bool (decide ((n:Int)<0)),undef,.tuple #[.int .u64 0,.int .u64 n],.slice (some a) 1 ca,.int .i64 1,.int .u64 1,.int .i64 n,.int .u64 n,.tuple #[.int .u64 0,.int .u64 n],.int .u64 0,.int .u64 n,.int .u64 0,.bool false,.bool false,.int .u64 n,.bool (decide (9223372036854775807<(n:Int))),.bool (decide (9223372036854775807<(n:Int))),undef,.int .u64 n,.int .i64 n,.slice (some ⟨w.heap.size,0,none⟩) n n,.slice (some ⟨w.heap.size,0,none⟩) n n,.slice (some a) 1 ca,.int .i64 1,y1,y2,y3,y4,y5,y6,y7,y8,y9,y10,y11,y12,y13,undef],defers:=[]}
set_option maxRecDepth 100000 in
set_option maxHeartbeats 4000000 in
theorem rep_calls(v:Int)(n ca:Nat)(h0:0<n)(hn:n≤1073741824)(a:Addr)(w:World)(ha:w.cell? a=some (.int .i64 v))(hab:a.block<w.heap.size):Calls Tryz.prog 173 #[.slice (some a) 1 ca,.int .i64 n] w fun e w'=>∃d,e= .returned (.slice (some ⟨w.heap.size,0,none⟩) n n)∧w'=wR w v n n d:=by
 have hcon:∀W,Calls Tryz.prog 216 #[Value.int .u64 1,.int .u64 n] W fun e w'=>e= .returned (.tuple #[.int .u64 0,.int .u64 n])∧w'=W:=fun W=>by
  refine(Tryz.bits_Mul 1 n (by omega) (by omega) W).mono ?_
  rintro e w' ⟨rfl,rfl⟩
  refine⟨?_,rfl⟩
  rw[Nat.one_mul,Nat.div_eq_of_lt (by omega),Nat.mod_eq_of_lt (by omega)]
  rfl
 obtain⟨i3,hi,hz2,hz1,hz3⟩:=info_parts (show(Tryz.prog.info? 3).map (fun i=>(i.zero,i.size,i.bytes))=some (some (Value.int .i64 0),1,8)by kernel_rfl)
 change Tryz.prog.info? 3=some i3 at hi
 have hs:(Tryz.prog.info? 3).map (·.size)=some 1:=by rw[hi];simp[hz1]
 have hmk:∀W,(Instr.makeSlice 30 (.int .i64 (n:Int)) (.int .i64 (n:Int))).run Tryz.prog W= .ok (.slice (some ⟨W.heap.size,0,none⟩) n n) (W.alloc (.cells (madeCells (Value.int .i64 0).cells n) 3)):=fun W=>by
  have:=run_make (P:=Tryz.prog) W 30 3 i3 (.int .i64 0) Tryz.underlying30 hi hz2 .i64 .i64 n n (by omega) (by omega) (by rw[hz3];omega) (by omega)
  rw[hz1]at this
  simpa using this
 have mixed:Tryz.prog.follows .mixedOrders=true:=by kernel_rfl
 have e1:(n:Int)%18446744073709551616=n:=by omega
 have e2:0≤(n:Int):=by omega
 have e3:¬9223372036854775807<(n:Int):=by omega
 have e4:(n:Int)≤9223372036854775807:=by omega
 go_enter Tryz.func173,Tryz.ntmps173
 go_wp2_with (go_at_call 216;refine(hcon _).mono ?_;rintro e w' ⟨rfl,rfl⟩)
 rw[wR_made (v:=v),copy_first h0 a ha hab hs]
 go_wp2
 refine wp_loop_rounds n (K9m (n:=n) (fun m d=>wR _ v n m d) (fun m=>actR _ a ca n m) ?_ ?_ n 1 0 undef undef undef undef undef undef undef undef undef undef undef undef undef (by omega) (by omega) (by omega))
 ·intro m d y1 y2 y3 y4 y5 y6 y7 y8 y9 y10 y11 y12 y13 R hm0 hmn hR
  simp only[actR]at*
  have hcp:∀c,(Builtin.copy_ #[30,30] 3 #[.slice (some ⟨w'.heap.size,m,none⟩) (n-m) c,.slice (some ⟨w'.heap.size,0,none⟩) m n]).run Tryz.prog (wR w' v n m d).drew= .ok (.int .i64 ((min m (n-m):Nat):Int)) (wR w' v n (m+min m (n-m)) (d+1)):=fun c=>copy_more (w:=w') (v:=v) (d:=d+1) (c:=c) hm0 hmn hs
  have hmn':(m:Int)≤(n:Int):=by omega
  have hml:(m:Int)<(n:Int):=by omega
  have hm1:(0:Int)≤(m:Int):=by omega
  have hnm:¬n=m:=by omega
  have hwr:IntKind.i64.wrap ((m:Int)+((min m (n-m):Nat):Int))=((m+min m (n-m):Nat):Int):=by rw[IntKind.wrap_i64];omega
  go_wp2
  go_region_law_o (refine step_copy_runI rfl _ _ 30 30 rfl (.slice (some ⟨w'.heap.size,m,none⟩) (n-m) (n-m)) (.slice (some ⟨w'.heap.size,0,none⟩) m n) (by simp[Act.eval,Act.put]) (by simp[Act.eval,Act.put]) (hcp _) ?_)
  go_wp2
  have hcast:((m:Int)+((min m (n-m):Nat):Int))=((m+min m (n-m):Nat):Int):=by omega
  rw[hcast]
  simp only[Act.put,List.getElem_toArray,List.getElem_cons_succ,List.getElem_cons_zero,List.setIfInBounds_toArray,List.set_cons_succ,List.set_cons_zero]
  exact hR _ _ _ _ _ _ _ _ _ _ _ _ _ _
 ·intro d y1 y2 y3 y4 y5 y6 y7 y8 y9 y10 y11 y12 y13 R
  simp only[actR]at*
  go_wp2
  go_ret
  exact⟨_,rfl,rfl⟩
set_option maxRecDepth 100000 in
set_option maxHeartbeats 4000000 in
theorem rep_zero(v:Int)(ca:Nat)(a:Addr)(w:World):Calls Tryz.prog 173 #[.slice (some a) 1 ca,.int .i64 0] w fun e w'=>∃d,e= .returned (.slice (some ⟨w.heap.size,0,none⟩) 0 0)∧w'=wR w v 0 0 d:=by
 have hcon:∀W,Calls Tryz.prog 216 #[Value.int .u64 1,.int .u64 0] W fun e w'=>e= .returned (.tuple #[.int .u64 0,.int .u64 0])∧w'=W:=fun W=>by
  refine(Tryz.bits_Mul 1 0 (by omega) (by omega) W).mono ?_
  rintro e w' ⟨rfl,rfl⟩
  exact⟨rfl,rfl⟩
 obtain⟨i3,hi,hz2,hz1,hz3⟩:=info_parts (show(Tryz.prog.info? 3).map (fun i=>(i.zero,i.size,i.bytes))=some (some (Value.int .i64 0),1,8)by kernel_rfl)
 change Tryz.prog.info? 3=some i3 at hi
 have hs:(Tryz.prog.info? 3).map (·.size)=some 1:=by rw[hi];simp[hz1]
 have hmk:∀W,(Instr.makeSlice 30 (.int .i64 0) (.int .i64 0)).run Tryz.prog W= .ok (.slice (some ⟨W.heap.size,0,none⟩) 0 0) (W.alloc (.cells (madeCells (Value.int .i64 0).cells 0) 3)):=fun W=>by
  have:=run_make (P:=Tryz.prog) W 30 3 i3 (.int .i64 0) Tryz.underlying30 hi hz2 .i64 .i64 0 0 (by omega) (by omega) (by omega) (by omega)
  rw[hz1]at this
  simpa using this
 have hcp:∀W,(Builtin.copy_ #[30,30] 3 #[.slice (some ⟨w.heap.size,0,none⟩) 0 0,.slice (some a) 1 ca]).run Tryz.prog W= .ok (.int .i64 0) W:=fun W=>run_copy_none W _ _ _ _ _ _ _ _ _ _ Tryz.underlying30 hs rfl
 have mixed:Tryz.prog.follows .mixedOrders=true:=by kernel_rfl
 go_enter Tryz.func173,Tryz.ntmps173
 go_wp2_with (go_at_call 216;refine(hcon _).mono ?_;rintro e w' ⟨rfl,rfl⟩)
 rw[wR_made (v:=v)]
 refine wp_loop_rounds 1 ?_
 rw[rounds_succ]
 go_wp2
 go_ret
 exact⟨_,rfl,rfl⟩
theorem wR_ow{w:World}{v:Int}{n d:Nat}(hv:oneW (.int .i64 v)=true)(hn:n≤1073741824):Ow (wR w v n n d) (.sl 1 ((List.replicate n v).map encI)) (.slice (some ⟨w.heap.size,0,none⟩) n n) [w.heap.size]:=by
 have hl:((List.replicate n v).map encI).length=n:=by simp
 refine⟨some ⟨w.heap.size,0,none⟩,n,by rw[hl],by rw[hl];exact⟨Nat.le_refl _,by simp only[roomB];omega,by simp only[capB];omega⟩,.inr ⟨w.heap.size,0,rowR v n n,3,[],rfl,wR_at,by simp[rowR],?_,rfl⟩⟩
 refine owRow_int' fun j x hx=>?_
 rw[List.getElem?_replicate]at hx
 split at hx
 ·rename_i hj
  cases hx
  refine⟨?_,hv⟩
  have hc:=wR_at (w:=w) (v:=v) (n:=n) (m:=n) (d:=d)
  rw[Nat.zero_add]
  simp only[World.cell?,hc]
  simp[rowR,hj]
 ·cases hx
theorem wR_below{w:World}{v:Int}{n d:Nat}:Below w.heap.size w (wR w v n n d):=by
 refine⟨rfl,rfl,rfl,by rw[wR_size];omega,fun i hi=>?_⟩
 simp only[wR,World.alloc,World.drewN]
 rw[Array.getElem?_push,if_neg (by omega)]
theorem args_rep{w:World}{X:Nat→Prop}{v n:Int}{vs:List Value}(h:ArgsR w X [aL 1 ([v].map encI),aI n] vs):∃b off ca,vs=[.slice (some ⟨b,off,none⟩) 1 ca,.int .i64 n]∧w.cell? ⟨b,off,none⟩=some (.int .i64 v)∧b<w.heap.size∧oneW (.int .i64 v)=true∧X b:=by
 match vs,h with
 | [v1,v2],⟨h1,h2,_⟩=>
  obtain⟨t1,e1,h1⟩:=h1
  obtain rfl:=(List.cons.inj e1).1
  obtain⟨t2,e2,h2⟩:=h2
  obtain rfl:=(List.cons.inj e2).1
  obtain⟨A,cap,rfl,_,hr⟩:=h1
  obtain⟨rfl,_⟩:=h2
  rcases hr with hr|⟨b,off,rfl,hX,hb,_,⟨⟨x,hc,rfl,ho⟩,_⟩,_⟩
  ·simp at hr
  ·exact⟨b,off,cap,rfl,hc,hb,ho,hX⟩
 | [],h=>exact h.elim
 | [_],⟨_,h⟩=>exact h.elim
 |_::_::_::_,⟨_,_,h⟩=>exact h.elim
theorem Cgc(v:Int)(n:Nat)(hn:n≤1073741824):Ctr Tryz.prog N3f [aL 1 ([v].map encI),aI n] [rL 1 ((List.replicate n v).map encI)]:=by
 refine⟨⟨Tryz.f173,Tryz.func173,by kernel_rfl,by kernel_rfl⟩,fun w X vs ht h=>?_⟩
 obtain⟨b,off,ca,rfl,hc,hb,ho,hX⟩:=args_rep h
 have fin:∀e w',(∃d,e=Ending.returned (.slice (some ⟨w.heap.size,0,none⟩) n n)∧w'=wR w v n n d)→match (e,w')with
  |(.returned v',w')=>Below w.heap.size w w'∧∃us G,v'=tupV us∧G.Nodup∧(∀b∈G,w.heap.size≤b)∧ResVs w' (fun b=>(b<w.heap.size→X b)∧b∉G) [rL 1 ((List.replicate n v).map encI)] us G
  |_=>False:=by
  rintro e w' ⟨d,rfl,rfl⟩
  exact⟨wR_below,[_],[w.heap.size],rfl,by simp,by simp,[w.heap.size],[],⟨⟨_,rfl⟩,[w.heap.size],[],wR_ow ho hn,rfl,rfl⟩,rfl,rfl⟩
 by_cases h0:0<n
 ·refine(rep_calls v n ca h0 hn ⟨b,off,none⟩ w hc hb).mono fun e w' h=>?_
  have:=fin e w' h
  obtain⟨d,rfl,rfl⟩:=h
  exact this
 ·obtain rfl:n=0:=by omega
  refine(rep_zero v ca ⟨b,off,none⟩ w).mono fun e w' h=>?_
  have:=fin e w' h
  obtain⟨d,rfl,rfl⟩:=h
  exact this
def delP(n:Int):Bool:=n== -1
theorem Kag(x:Int)(W:World):FnGives Tryz.prog 128 #[] #[.int .i64 x] (.bool (delP x)) W:=by
 show Calls Tryz.prog 128 #[.int .i64 x] W _
 unfold delP
 go_enter Tryz.func128,Tryz.ntmps128
 go_wp2
 go_ret
 exact⟨rfl,0,rfl⟩
theorem K88{a b c:World}(h:Below a.heap.size a b)(k:Below b.heap.size b c):Below a.heap.size a c:=
 ⟨k.os.trans h.os,k.tape.trans h.tape,k.output.trans h.output,Nat.le_trans h.size k.size,fun i hi=>(k.block i (Nat.lt_of_lt_of_le hi h.size)).trans (h.block i hi)⟩
theorem del_none(A:Option Addr)(w:World)(ht:∀w',Below w.heap.size w w'→TabW w'):Calls Tryz.prog 126 #[.slice A 0 0,.func (.func N13) #[] #[]] w fun e w'=>e= .returned (.slice A 0 0)∧Below w.heap.size w w':=by
 have hidx:∀W,Below w.heap.size w W→Calls Tryz.prog 172 #[.slice A 0 0,.func (.func N13) #[] #[]] W fun e w'=>e= .returned (.int .i64 (-1))∧Below w.heap.size w w':=fun W hW=>by
  have h:=(Cdf [] N13 [] delP (by simp)).2 W (fun _=>True) [.slice A 0 0,.func (.func N13) #[] #[]] (fun w' h=>ht w' (K88 hW h)) ⟨⟨_,rfl,A,0,rfl,Ln.z 0,.inl rfl⟩,⟨_,rfl,⟨[],rfl,trivial⟩⟩,trivial⟩
  refine Calls.mono h ?_
  intro e w' h
  cases e with
  |returned v=>
   obtain⟨hB,us,G,rfl,_,_,hr⟩:=h
   refine⟨?_,K88 hW hB⟩
   match us,hr with
   | [v],⟨G1,G2,⟨_,⟨h1,_⟩⟩,_,_⟩=>
    obtain⟨rfl,_⟩:=h1
    rfl
   | [],h=>exact h.elim
   |_::_::_,⟨_,_,_,h,_⟩=>exact h.elim
  |_=>exact h.elim
 have hW0:Below w.heap.size w w:=Below.refl _ _
 have hW1:Below w.heap.size w w.drew:=⟨rfl,rfl,rfl,Nat.le_refl _,fun _ _=>rfl⟩
 go_enter Tryz.func126,Tryz.ntmps126
 go_wp2_with (go_at_call 172;refine(hidx _ (by assumption)).mono ?_;rintro e w' ⟨rfl,hB⟩)
 go_ret
 exact⟨rfl,hB⟩
theorem argsI_fn{w:World}{X:Nat→Prop}{es:List (List T)}{sz:Nat}{f:FuncId}{vs:List Value}{G:List Nat}(h:ResVs w X [oL sz es,fI f] vs G):∃v,vs=[v,.func (.func f) #[] #[]]∧Ow w (.sl sz es) v G:=by
 match vs,h with
 | [v,v2],⟨G1,G2,h1,h2,e⟩=>
  obtain⟨_,Ga,Gb,h3,h4,e2⟩:=h1
  obtain⟨G3,G4,⟨_,hf,h6⟩,h7,e3⟩:=h2
  simp only[ResVs]at h7
  simp only[ResC]at h4 h6
  obtain⟨cvs,rfl,hl⟩:=hf
  cases cvs with
  |nil=>
   subst h4 h6 h7 e3 e2 e
   exact⟨v,rfl,by simpa using h3⟩
  |cons c cs=>exact hl.elim
 | [],h=>exact h.elim
 | [_],⟨_,_,_,h,_⟩=>exact h.elim
 |_::_::_::_,⟨_,_,_,⟨_,_,_,h,_⟩,_⟩=>exact h.elim
theorem filter_mem{zs:List Int}{x:Int}(h:x∈(zs.filter fun n=> !delP n)++List.replicate (zs.length-(zs.filter fun n=> !delP n).length) 0):x∈zs∨x=0:=by
 rcases List.mem_append.1 h with h|h
 ·exact .inl (List.mem_filter.1 h).1
 ·exact .inr (List.mem_replicate.1 h).2
theorem Ccc(zs:List Int):CtrI Tryz.prog N2m [oL 1 (zs.map encI),fI N13] [none] [rL 1 ((zs.filter fun n=> !delP n).map encI)]:=by
 refine⟨⟨Tryz.f126,Tryz.func126,by kernel_rfl,by kernel_rfl⟩,fun w X vs G ht h hG hGb=>?_⟩
 obtain⟨v,rfl,hr⟩:=argsI_fn h
 obtain⟨A,cap,rfl,hln,hr⟩:=hr
 rw[List.length_map]at hln ⊢
 rcases hr with ⟨rfl,hz,rfl⟩|⟨b,off,row,ty,G1,rfl,hh,hc,hrow,rfl⟩
 ·obtain rfl:zs=[]:=by simpa using hz
  refine(del_none A w fun w' h=>ht w' ⟨h.os,h.tape,h.output,h.size,fun k hk=>h.block k hk.1⟩).mono ?_
  rintro e w' ⟨rfl,hB⟩
  exact⟨⟨hB.os,hB.tape,hB.output,hB.size,fun k hk=>hB.block k hk.1⟩,[_],[],[],rfl,rfl,⟨[],[],by simp[ResV,ResC];exact⟨A,0,rfl,hln,.inl ⟨rfl,rfl,rfl⟩⟩,rfl,rfl⟩,by simp,by simp⟩
 ·obtain⟨rfl,hz⟩:=K5t hrow
  have hb:b<w.heap.size:=(hGb b (by simp)).1
  obtain⟨K,hK⟩:∃K,K=zs.filter fun n=> !delP n:=⟨_,rfl⟩
  have hKl:K.length≤zs.length:=by rw[hK];exact List.length_filter_le _ _
  have hin:∀x∈K++List.replicate (zs.length-K.length) 0,oneW (.int .i64 x)=true:=fun x hx=>by
   rw[hK]at hx
   rcases filter_mem hx with hx|rfl
   ·obtain⟨j,hj⟩:=List.getElem?_of_mem hx
    exact(hz j x hj).2
   ·rfl
  have eg:∀args w,(callFunc 128 args).run Tryz.prog w= .ok (.enter 128 args) w:=enters_of Tryz.func128 (by kernel_rfl) rfl
  have hcon:=Tryz.slices_DeleteFunc (Value.int .i64) (fun _=>rfl) delP 128 #[] eg 0 Tryz.zeroValue3 b off cap zs.toArray w (fun W x _=>Kag x W) (fun _ _ _ x _=>Kag x _) (K5o hh hz) (by have:=hln.2.1;simp only[roomB]at this;simp only[List.size_toArray];omega) (by simpa using hln.1)
  refine Calls.mono (show Calls Tryz.prog 126 _ _ _ from hcon) ?_
  rintro e w' ⟨rfl,q,rfl⟩
  have e1:((zs.toArray.toList.filter fun x=> !delP x)++List.replicate (zs.toArray.size-(zs.toArray.toList.filter fun x=> !delP x).length) 0)=K++List.replicate (zs.length-K.length) 0:=by rw[hK];rfl
  have e2:(zs.toArray.toList.filter fun x=> !delP x).length=K.length:=by rw[hK]
  rw[e1,e2,←hK]
  have hB:=K9y (zs:=K++List.replicate (zs.length-K.length) 0) (b:=b) (off:=off) (G:=[b]) q #[] (by simp) hb
  have hO:=ow_put (m:=K.length) (n:=q) (os:= #[]) (ds:=K++List.replicate (zs.length-K.length) 0) hb hh hc hln hz (by simp;omega) hin (by simp)
  rw[List.take_left]at hO
  rw[Go.Sort.grow_empty]at hB hO
  refine⟨hB,[_],[],[b],rfl,rfl,⟨[b],[],?_,rfl,rfl⟩,by simp,fun b' hb'=>⟨.inl (by simpa using hb'),?_⟩⟩
  ·exact⟨⟨_,rfl⟩,[b],[],hO,rfl,rfl⟩
  ·rw[show b'=b by simpa using hb']
   exact Nat.lt_of_lt_of_le hb hB.size
def Mar:MC:=
(Zs [.nilo 6 0 1] [0,1,2] (Zs [.lit 10 1 1 8 [.c (.int .i64 (-1))],mS 11 0,nS 12 11,.call 13 [0] (.f N3f) [.s 10,.s 12],mS 7 13] [0,1,2,7] (.seq (Zs [mS 14 1,nS 15 14,.mv 16 (ci 0)] [0,2,7,14,15,16] (.block 0 (.loop ([0,2,7,14,15,16],[1,2]) (Zs [bS 17 .lss 16 15] [0,2,7,14,15,16,17] (.seq (cX 17 0)
(.seq (.block 1 (Zs [xS 18 4 14 16,lT 19 4 18,.alloc 9 2 [pz,pz,pz,pz],sS 4 9 19] [0,2,7,9,14,15,16] (.seq (.dreg [Zc [22] (fS 20 9 1),Zd [22] [0] (lF 21 1 20),Zc [20,21] (mS 22 2),Ze [0,1,2] (bS 23 .eql 21 22),Ze (.range 4) (mS 24 23),{o:=mS 25 0,g:=some (24,true),hs:=[26],bf:=(.range 5)},{o:=lT 26 4 9,g:=some (24,true),hs:=[25],bf:=(.range 5)},{o:= .call 27 [] (.f N38) [.s 25,.s 26],g:=some (24,true),bf:=(.range 7)},Ze (.range 8) (.pick 28 (.s 24) (.s 27) cF),Ze (.range 9) (mS 29 28),{o:=mS 30 7,g:=some (29,true),hs:=[31,32],bf:=(.range 10)},{o:=fS 31 9 0,g:=some (29,true),hs:=[30],bf:=(.range 10)},{o:=lF 32 1 31,g:=some (29,true),hs:=[30],bf:=[0,1,2,3,4,5,6,7,8,9,11]},{o:=xS 33 1 30 32,g:=some (29,true),bf:=(.range 13)},{o:=lF 34 1 33,g:=some (29,true),bf:=(.range 14)},{o:=bC 35 .lss 34 0,g:=some (29,true),bf:=(.range 15)},{o:=mS 36 35,g:=some (29,true),bf:=(.range 16)},{o:=fS 37 9 2,g:=some (36,false),hs:=[39,40,41,42,43],bf:=(.range 17)},{o:=lF 38 1 37,g:=some (36,false),hs:=[39,40,41,42,43],bf:=(.range 18)},{o:=mS 39 7,g:=some (36,false),hs:=[37,38,40,41],bf:=(.range 17)},{o:=fS 40 9 0,g:=some (36,false),hs:=[37,38,39],bf:=(.range 17)},{o:=lF 41 1 40,g:=some (36,false),hs:=[37,38,39],bf:=[0,1,2,3,4,5,6,7,8,9,10,11,12,13,14,15,16,20]},{o:=xS 42 1 39 41,g:=some (36,false),hs:=[37,38],bf:=[0,1,2,3,4,5,6,7,8,9,10,11,12,13,14,15,16,19,20,21]},{o:=lF 43 1 42,g:=some (36,false),hs:=[37,38],bf:=[0,1,2,3,4,5,6,7,8,9,10,11,12,13,14,15,16,19,20,21,22]},{o:=bS 44 .lss 38 43,g:=some (36,false),bf:=(.range 24)},{o:= .pick 45 (.s 36) cT (.s 44),g:=some (29,true),bf:=(.range 25)},Ze (.range 26) (.pick 46 (.s 29) (.s 45) cF)] [0,2,7,9,14,15,16,46])
(.cond (.s 46) (pr [mS 47 7,fS 48 9 0,lF 49 1 48,fS 50 9 2,lF 51 1 50,xS 52 1 47 49,sS 1 52 51] [0,2,7,14,15,16]) .skip))))
(pr [bC 53 .add 16 1,mS 16 53] [0,2,7,14,15,16])))))))
(Zs [mS 54 7,mS 6 54] [6] .ret))))
set_option maxHeartbeats 2000000 in
theorem Cih(keys:List Int)(l:List GStatement)(d:Int)(hk:keys.length≤1073741824)(hl:l.length≤1073741824):Ctr Tryz.prog Nbo [aL 1 (keys.map encI),aL 4 (l.map GStatement.enc),aI d] [rL 1 ((Kr keys l d).map encI)]:=by
 refine cA Mar 3 55 [(.tmp 6,[true])] Tryz.func127 rfl rfl ?_;unfold Mar
 intro hb
 clear hb
 simp only[go_sem]
 refine⟨by simp only[roomB];omega,?_⟩
 apply K0 (Cgc (-1) keys.length hk)
 simp only[go_sem]
 intros
 refine K3 l (fun k=>[(16,vI k)]) (fun k=>[(0,⟨0,.row true 1 ((Kr keys (l.take k) d).map encI)⟩)]) (fun _=>True) (by simp only[roomB];omega) ?_
 simp only[go_sem,List.length_replicate]
 refine⟨?_,trivial,?_,?_⟩
 ·simp only[go_sem,List.take_zero]
  rfl
 ·intro k s hx _ h0 h1 hw
  have hst:=K6c (keys:=keys) (digest:=d) hx
  rw[hst]
  have hlen:=K2h (keys:=keys) (digest:=d) (l:=l.take k)
  generalize Kr keys (l.take k) d=out at*
  simp only[go_sem,K1 hx,h0,h1,hw]
  refine⟨fun hd=>?_,fun hd=>?_⟩
  ·apply K0 (C6h keys s (by omega))
   simp only[go_sem,hw,hlen]
   refine⟨fun hh=>?_,fun hh=>?_⟩
   ·have ho:=K6x hh
    obtain⟨y,hy⟩:=K5 (l:=out) (k:=s.Witness.toNat) (by omega)
    have hw0:(0:Int)≤s.Witness:=ho.1
    have hw1:s.Witness<(keys.length:Int):=ho.2.1
    have hz:zAt out s.Witness=y:=by simp[zAt,hy]
    simp only[go_sem,hw0,hw1,K1 hy]
    have hyes:y<0∨s.Tick<y→Ky keys d out s=out.set s.Witness.toNat s.Tick:=fun h=>by unfold Ky;rw[if_pos ⟨hd,hh,by rw[hz];exact h⟩]
    have hno:¬(y<0∨s.Tick<y)→Ky keys d out s=out:=fun h=>by unfold Ky;rw[if_neg (fun e=>h (by have:=e.2.2;rw[hz]at this;exact this))]
    refine⟨fun a=>?_,fun a=>⟨fun b=>?_,fun b=>?_⟩⟩
    ·rw[hyes (.inl a),List.map_set];rfl
    ·rw[hyes (.inr b),List.map_set];rfl
    ·rw[hno (by omega)]
   ·rw[show Ky keys d out s=out by unfold Ky;rw[if_neg (by rw[hh];simp)]]
  ·rw[show Ky keys d out s=out by unfold Ky;rw[if_neg (by simp[hd])]]
 ·intro _
  simp only[go_sem,List.take_length,K2h]
def Mbe:MC:=
(Zs [.nilo 6 0 1] [0,1,2] (Zs [.lit 11 0 1 8 [],mS 7 11] [0,1,2,7] (.seq (Zs [.mv 8 (ci 0)] [0,1,2,7,8] (.block 0 (.loop ([0,1,2,7,8],[1]) (.seq (Zs [mS 12 8,mS 13 0,nS 14 13,bS 15 .lss 12 14] [0,1,2,7,8,15] (cX 15 0))
(.seq (.block 1 (pr [mS 18 7,.lit 19 1 1 8 [.c (.int .i64 (-1))],.app 20 0 1 8 (.s 18) (.s 19),mS 7 20] [0,1,2,7,8]))
(pr [mS 16 8,bC 17 .add 16 1,mS 8 17] [0,1,2,7,8]))))))
(.seq (Zs [.mv 9 (ci 0)] [0,1,2,7,9] (.block 2 (.loop ([0,1,2,7,9],[1]) (.seq (Zs [mS 21 9,mS 22 1,nS 23 22,bS 24 .lss 21 23] [0,1,2,7,9,24] (cX 24 2))
(.seq (.block 3 (.seq (.seq (.reg [Za (mS 27 0),Za (mS 28 1),Za (mS 29 9),Za (xS 30 4 28 29),Za (lT 31 4 30),Za (.call 32 [] (.f N3e) [.s 27,.s 31]),Za (.un 33 .not (.s 32)),Za (mS 34 33),Zb 34 false (mS 35 1),Zb 34 false (mS 36 9),Zb 34 false (xS 37 4 35 36),Zb 34 false (fS 38 37 1),Zb 34 false (lF 39 1 38),Zb 34 false (mS 40 2),Zb 34 false (bS 41 .neq 39 40),Za (.pick 42 (.s 34) cT (.s 41))] [0,1,2,7,9,42])
(.cond (.s 42) (.exit 3) .skip))
(Zs [mS 43 1,mS 44 9,xS 45 4 43 44,fS 46 45 0,lF 47 1 46,mS 10 47] [0,1,2,7,9,10] (.seq (.dreg [Zc [49] (mS 48 7),Zc [48] (mS 49 10),Ze [0,1] (xS 50 1 48 49),Ze [0,1,2] (lF 51 1 50),Ze (.range 4) (bC 52 .lss 51 0),Ze (.range 5) (mS 53 52),{o:=mS 54 1,g:=some (53,false),hs:=[55,59,60,61,62],bf:=(.range 6)},{o:=mS 55 9,g:=some (53,false),hs:=[54,59,60,61,62],bf:=(.range 6)},{o:=xS 56 4 54 55,g:=some (53,false),hs:=[59,60,61,62],bf:=(.range 8)},{o:=fS 57 56 2,g:=some (53,false),hs:=[59,60,61,62],bf:=(.range 9)},{o:=lF 58 1 57,g:=some (53,false),hs:=[59,60,61,62],bf:=(.range 10)},{o:=mS 59 7,g:=some (53,false),hs:=[54,55,56,57,58,60],bf:=(.range 6)},{o:=mS 60 10,g:=some (53,false),hs:=[54,55,56,57,58,59],bf:=(.range 6)},{o:=xS 61 1 59 60,g:=some (53,false),hs:=[54,55,56,57,58],bf:=[0,1,2,3,4,5,11,12]},{o:=lF 62 1 61,g:=some (53,false),hs:=[54,55,56,57,58],bf:=[0,1,2,3,4,5,11,12,13]},{o:=bS 63 .lss 58 62,g:=some (53,false),bf:=(.range 15)},Ze (.range 16) (.pick 64 (.s 53) cT (.s 63))] [0,1,2,7,9,10,64])
(.cond (.s 64) (pr [mS 65 7,mS 66 10,mS 67 1,mS 68 9,xS 69 4 67 68,fS 70 69 2,lF 71 1 70,xS 72 1 65 66,sS 1 72 71] [0,1,2,7,9]) .skip)))))
(pr [mS 25 9,bC 26 .add 25 1,mS 9 26] [0,1,2,7,9]))))))
(Zs [mS 73 7,mS 6 73] [6] .ret)))))
set_option maxHeartbeats 2000000 in
theorem Civ(keys:List Int)(l:List GStatement)(d:Int)(hk:keys.length≤1073741824)(hl:l.length≤1073741824):Ctr Tryz.prog Nc6 [aL 1 (keys.map encI),aL 4 (l.map GStatement.enc),aI d] [rL 1 ((Kr keys l d).map encI)]:=by
 refine cA Mbe 2 74 [(.tmp 6,[true])] Tryz.func99 rfl rfl ?_;unfold Mbe
 intro hb
 clear hb
 simp only[go_sem]
 refine K3 keys (fun k=>[(7,.val false [.ref 0 0 1 0 k]),(8,vI k)]) (fun k=>[(0,⟨0,.row true 1 ((List.replicate k (-1)).map encI)⟩)]) (fun _=>True) (by simp only[roomB];omega) ?_
 simp only[go_sem]
 refine⟨?_,trivial,?_,?_⟩
 ·simp only[go_sem]
  try rfl
 ·intro k x hx _ h0 h1 hw
  have hkl:=K9 hx
  simp only[go_sem,h1,hw,List.length_replicate]
  refine⟨by simp only[roomB];omega,by simp only[roomB];omega,?_⟩
  rw[List.map_replicate]
  exact(List.replicate_succ' (n:=k) (a:=encI (-1))).symm.trans List.replicate_succ
 ·intro _
  simp only[go_sem]
  refine K3 l (fun k=>[(9,vI k)]) (fun k=>[(0,⟨0,.row true 1 ((Kr keys (l.take k) d).map encI)⟩)]) (fun _=>True) (by simp only[roomB];omega) ?_
  simp only[go_sem]
  refine⟨?_,trivial,?_,?_⟩
  ·simp only[go_sem,List.take_zero]
   rfl
  ·intro k s hx _ h0 h1 hw
   have hst:=K6c (keys:=keys) (digest:=d) hx
   rw[hst]
   have hlen:=K2h (keys:=keys) (digest:=d) (l:=l.take k)
   generalize Kr keys (l.take k) d=out at*
   simp only[go_sem,K1 hx,h0,h1]
   apply K0 (C6m keys s (by omega))
   simp only[go_sem,K1 hx,h0,h1,hw,hlen]
   refine⟨fun hh=>?_,fun hh=>?_⟩
   ·rw[show Ky keys d out s=out by unfold Ky;rw[if_neg (by rw[hh];simp)]]
   ·have ho:=K6x hh
    obtain⟨y,hy⟩:=K5 (l:=out) (k:=s.Witness.toNat) (by omega)
    have hw0:(0:Int)≤s.Witness:=ho.1
    have hw1:s.Witness<(keys.length:Int):=ho.2.1
    have hz:zAt out s.Witness=y:=by simp[zAt,hy]
    simp only[go_sem,hw0,hw1,K1 hy]
    refine⟨fun hd=>?_,fun hd=>?_⟩
    ·rw[show Ky keys d out s=out by unfold Ky;rw[if_neg (by simp[hd])]]
    ·have hyes:y<0∨s.Tick<y→Ky keys d out s=out.set s.Witness.toNat s.Tick:=fun h=>by unfold Ky;rw[if_pos ⟨hd,hh,by rw[hz];exact h⟩]
     have hno:¬(y<0∨s.Tick<y)→Ky keys d out s=out:=fun h=>by unfold Ky;rw[if_neg (fun e=>h (by have:=e.2.2;rw[hz]at this;exact this))]
     refine⟨fun a=>?_,fun a=>⟨fun b=>?_,fun b=>?_⟩⟩
     ·rw[hyes (.inl a),List.map_set];rfl
     ·rw[hyes (.inr b),List.map_set];rfl
     ·rw[hno (by omega)]
  ·intro _
   simp only[go_sem,List.take_length,K2h]
theorem Kas(keys:List Int)(l:List GStatement)(d:Int):(seenL keys l d).length≤keys.length:=by
 unfold seenL
 have:=K2h (keys:=keys) (digest:=d) (l:=l)
 have:=List.length_filter_le (fun n=> !(n== -1)) (Kr keys l d)
 omega
def Mck:MC:=
(Zs [.mv 8 (ci 0)] [0,1,2,3] (Zs [mS 10 0,mS 11 1,mS 12 2,.call 13 [0] (.f Nbo) [.s 10,.s 11,.s 12],.callI 14 [1] (.f N2m) [.s 13,.f N13] [0] [],mS 9 14] [3,9] (Zs [mS 15 9,.callI 16 [] (.f N2i) [.s 15] [1] []] [3,9] (.seq (Zs [mS 17 3,mS 18 9,nS 19 18,.call 20 [] (.f N2l) [.s 17,.s 19],.un 21 .not (.s 20)] [3,9,21] (.cond (.s 21) (Zs [.mv 8 (.c (.int .i64 (-1)))] [8] .ret) .skip))
(Zs [mS 22 9,mS 23 3,xS 24 1 22 23,lF 25 1 24,mS 8 25] [8] .ret)))))
set_option maxHeartbeats 2000000 in
theorem Cj2(keys:List Int)(l:List GStatement)(d q:Int)(hk:keys.length≤1073741824)(hl:l.length≤1073741824):Ctr Tryz.prog Nd2 [aL 1 (keys.map encI),aL 4 (l.map GStatement.enc),aI d,aI q] [rI (K2e keys l d q)]:=by
 refine cA Mck 2 26 [(.tmp 8,[false])] Tryz.func75 rfl rfl ?_;unfold Mck
 intro hb
 clear hb
 have hsl:=Kas keys l d
 simp only[go_sem]
 apply K0 (Cih keys l d hk hl)
 simp only[go_sem]
 intros
 apply Ka (Ccc (Kr keys l d))
 simp only[go_sem]
 intros
 rw[show((Kr keys l d).filter fun n=> !delP n)=seenL keys l d from rfl]
 apply Ka (C8h (seenL keys l d))
 simp only[go_sem,K2l]
 try intros
 apply K0 (Cce q ((seenL keys l d).length:Int))
 simp only[go_sem,K2l]
 refine⟨fun hn=>?_,fun hy=>⟨hy,?_⟩⟩
 ·unfold K2e
  rw[K2l,if_neg hn]
 ·obtain⟨y,hq⟩:=K5 (l:=sortI (seenL keys l d)) (k:=q.toNat) (by rw[K2l];omega)
  unfold K2e
  rw[K2l,if_pos hy]
  simp only[go_sem,K1 hq]
  simp[zAt,hq]
def posL(f:List Int):List Int:=f.filter fun n=> !(n== -1)
theorem posL_yes{f:List Int}{k:Nat}{y:Int}(h:f[k]? =some y)(u:0≤y):posL (f.take (k+1))=posL (f.take k)++[y]:=by
 rw[K8 h,posL,List.filter_append]
 have:(y== -1)=false:=by simp;omega
 simp[posL,this]
theorem posL_no{f:List Int}{k:Nat}{y:Int}(h:f[k]? =some y)(u:y= -1):posL (f.take (k+1))=posL (f.take k):=by
 rw[K8 h,posL,List.filter_append]
 simp[posL,u]
def Mcv:MC:=
(Zs [.mv 8 (ci 0)] [0,1,2,3] (Zs [mS 13 0,mS 14 1,mS 15 2,.call 16 [0] (.f Nc6) [.s 13,.s 14,.s 15],mS 9 16] [3,9] (Zs [.lit 17 1 1 8 [],mS 10 17] [3,9,10] (.seq (Zs [.mv 11 (ci 0)] [3,9,10,11] (.block 0 (.loop ([3,9,10,11],[2,3]) (.seq (Zs [mS 18 11,mS 19 9,nS 20 19,bS 21 .lss 18 20] [3,9,10,11,21] (cX 21 0))
(.seq (.block 1 (.seq (Zs [mS 24 9,mS 25 11,xS 26 1 24 25,lF 27 1 26,bC 28 .lss 27 0] [3,9,10,11,28] (.cond (.s 28) (.exit 1) .skip))
(Zs [mS 29 10,nS 30 29,mS 12 30] [3,9,10,11,12] (.seq (.block 2 (.loop ([3,9,10,11,12],[2,3]) (.seq (.seq (.dreg [Za (mS 31 12),Ze [0] (bC 32 .gtr 31 0),Ze [0,1] (mS 33 32),{o:=mS 34 10,g:=some (33,true),hs:=[35,36,39,40,41,42],bf:=[0,1,2]},{o:=mS 35 12,g:=some (33,true),hs:=[34,39,40,41,42],bf:=[0,1,2]},{o:=bC 36 .sub 35 1,g:=some (33,true),hs:=[34,39,40,41,42],bf:=[0,1,2,4]},{o:=xS 37 1 34 36,g:=some (33,true),hs:=[39,40,41,42],bf:=(.range 6)},{o:=lF 38 1 37,g:=some (33,true),hs:=[39,40,41,42],bf:=(.range 7)},{o:=mS 39 9,g:=some (33,true),hs:=[34,35,36,37,38,40],bf:=[0,1,2]},{o:=mS 40 11,g:=some (33,true),hs:=[34,35,36,37,38,39],bf:=[0,1,2]},{o:=xS 41 1 39 40,g:=some (33,true),hs:=[34,35,36,37,38],bf:=[0,1,2,8,9]},{o:=lF 42 1 41,g:=some (33,true),hs:=[34,35,36,37,38],bf:=[0,1,2,8,9,10]},{o:=bS 43 .gtr 38 42,g:=some (33,true),bf:=(.range 12)},Ze (.range 13) (.pick 44 (.s 33) (.s 43) cF)] [3,9,10,11,12,44])
(cX 44 2))
(.block 3 (pr [mS 45 12,bC 46 .sub 45 1,mS 12 46] [3,9,10,11,12])))))
(.dreg [{o:= .lit 47 2 1 8 [],hs:=[48,49,50,52,53,54,55,56,58,59,60],ho:=[3],ws:=[2]},Zf [47,49,52,53,54,55,56,58,59,60] [2,3] (mS 48 10),Zf [47,48,52,53,54,55,56,58,59,60] [2,3] (mS 49 12),Zg [47,52,53,54,55,56,58,59,60] [2,3] [1,2] (.slc 50 1 (.s 48) none (some (.s 49)) none),{o:= .app 51 2 1 8 (.s 47) (.s 50),hs:=[52,53,54,55,56,58,59,60],ho:=[3],ws:=[2],bf:=(.range 4)},Zf [47,48,49,50,51,53,58,59,60] [2] (mS 52 9),Zf [47,48,49,50,51,52,58,59,60] [2] (mS 53 11),Zg [47,48,49,50,51,58,59,60] [2] [5,6] (xS 54 1 52 53),Zg [47,48,49,50,51,58,59,60] [2] [5,6,7] (lF 55 1 54),{o:= .lit 56 3 1 8 [.s 55],hs:=[47,48,49,50,51,58,59,60],ho:=[2],ws:=[3],bf:=[5,6,7,8]},{o:= .app 57 2 1 8 (.s 51) (.s 56),hs:=[58,59,60],ws:=[2],bf:=(.range 10)},Zf [47,48,49,50,51,52,53,54,55,56,57,59] [2,3] (mS 58 10),Zf [47,48,49,50,51,52,53,54,55,56,57,58] [2,3] (mS 59 12),Zg [47,48,49,50,51,52,53,54,55,56,57] [2,3] [11,12] (.slc 60 1 (.s 58) (some (.s 59)) none none),{o:= .app 61 1 1 8 (.s 57) (.s 60),ws:=[1,2],bf:=(.range 14)},Ze (.range 15) (mS 10 61)] [3,9,10,11])))))
(pr [mS 22 11,bC 23 .add 22 1,mS 11 23] [3,9,10,11]))))))
(.seq (Zs [mS 62 3,mS 63 10,nS 64 63,bC 65 .sub 64 1,.call 66 [] (.f N0) [.s 62,.c (.int .i64 0),.s 65],.un 67 .not (.s 66)] [3,10,67] (.cond (.s 67) (Zs [.mv 8 (.c (.int .i64 (-1)))] [8] .ret) .skip))
(Zs [mS 68 10,mS 69 3,xS 70 1 68 69,lF 71 1 70,mS 8 71] [8] .ret))))))
set_option maxHeartbeats 2000000 in
theorem Cjc(keys:List Int)(l:List GStatement)(d q:Int)(hk:keys.length≤1073741824)(hl:l.length≤1073741824):Ctr Tryz.prog Ndb [aL 1 (keys.map encI),aL 4 (l.map GStatement.enc),aI d,aI q] [rI (K2e keys l d q)]:=by
 refine cA Mcv 4 72 [(.tmp 8,[false])] Tryz.func50 rfl rfl ?_;unfold Mcv
 intro hb
 clear hb
 have hsl:=Kas keys l d
 have hfl:=K2h (keys:=keys) (digest:=d) (l:=l)
 have hge:=Kbc (keys:=keys) (digest:=d) (l:=l)
 unfold K2e
 rw[show seenL keys l d=posL (Kr keys l d)from rfl]at*
 simp only[go_sem]
 apply K0 (Civ keys l d hk hl)
 simp only[go_sem]
 intros
 generalize Kr keys l d=f at*
 rw[←Kcf]
 refine K3 f (fun k=>[(10,.val false [.ref 1 0 1 0 (Srt.isort ltI (posL (f.take k))).length]),(11,vI k)]) (fun k=>[(1,⟨0,.row true 1 ((Srt.isort ltI (posL (f.take k))).map encI)⟩)]) (fun _=>True) (by simp only[roomB];omega) ?_
 simp only[go_sem]
 refine⟨?_,trivial,?_,?_⟩
 ·simp only[go_sem,List.take_zero]
  exact⟨rfl,rfl⟩
 ·intro i y hx _ g0 g1 gw
  have hi:=K9 hx
  have hol:(Srt.isort ltI (posL (f.take i))).length≤f.length:=by
   rw[Srt.len_isort]
   exact Nat.le_trans (List.length_filter_le _ _) (by rw[List.length_take];omega)
  have hsr:Srt.srt ltI (Srt.isort ltI (posL (f.take i))):=Srt.srt_isort swoI _
  simp only[go_sem,K1 hx,g0,g1,gw]
  refine⟨fun hneg=>?_,fun hpos=>?_⟩
  ·have e:=posL_no hx (by rcases hge y (Ki hx)with e|e<;>omega)
   rw[e]
   exact⟨rfl,rfl⟩
  ·have e:=posL_yes hx (by omega)
   rw[e,Srt.isort_snoc]
   generalize Srt.isort ltI (posL (f.take i))=out at*
   refine Kq (fun n:Nat=>[(12,vI n)]) (fun n=>[]) (fun n=>n≤out.length∧∀z∈out.drop n,ltI y z=true) (fun n=>n) out.length ?_
   simp only[go_sem]
   refine⟨?_,⟨Nat.le_refl _,by simp⟩,?_⟩
   ·simp only[go_sem]
   ·rintro n ⟨hn1,hn2⟩
    simp only[go_sem,K1 hx,g0,g1]
    refine⟨fun hpos=>?_,fun hzero=>?_⟩
    ·obtain⟨m,hm⟩:∃m,m=n-1:=⟨_,rfl⟩
     obtain⟨z,hz⟩:=K5 (show m<out.length by omega)
     have e1:IntKind.i64.wrap ((n:Int)-1)=(m:Int):=by rw[wI (by omega) (by omega)];omega
     rw[e1]
     simp only[go_sem,K1 hz]
     refine⟨⟨by omega,by omega⟩,?_⟩
     refine⟨fun ht=>⟨m,rfl,⟨by omega,?_⟩,by omega⟩,fun hf=>?_⟩
     ·rw[hm]
      exact Srt.drop_step (by omega) (hm▸hz) hn2 (by unfold ltI;exact decide_eq_true ht)
     ·have hstop:n=0∨∃y',out[n-1]? =some y'∧ltI y y'=false:= .inr ⟨z,hm▸hz,by unfold ltI;exact decide_eq_false hf⟩
      rw[cutA hn1]
      refine⟨by omega,by omega,?_⟩
      have hA:(out.take n).length=n:=by rw[List.length_take];omega
      have hB:out.length=n+(out.drop n).length:=by rw[List.length_drop];omega
      have eC:=cutB (f:=encI) hn1
      have e5:List.map encI (out.take n)++[[T.sc (Value.int IntKind.i64 y)]]=(out.take n++[y]).map encI:=by simp[encI]
      have e6:((out.take n++[y]).map encI).length=(out.take n).length+1:=by simp
      simp only[go_sem,K1 hx,g0,g1,↓Kt (f:=encI) (fun _=>rfl) (out.take n),↓eC,↓e5,↓Kt (f:=encI) (fun _=>rfl) (out.drop n)]
      have e7:((out.take n).length+1=(out.take n++[y]).length)=True:=by simp
      simp only[e7,if_true]
      rw[Srt.ins_at swoI hsr hn2 hstop]
      simp only[roomB]
      exact⟨by omega,by omega,by omega,⟨by omega,by omega,by omega⟩,by omega,by simp,by simp only[List.length_map,List.length_append,List.length_cons,List.length_nil];omega,⟨by simp only[List.length_map,List.length_append,List.length_cons,List.length_nil],gw⟩,by rw[←List.map_append]⟩
    ·have hstop:n=0∨∃y',out[n-1]? =some y'∧ltI y y'=false:= .inl (by omega)
     rw[cutA hn1]
     refine⟨by omega,by omega,?_⟩
     have hA:(out.take n).length=n:=by rw[List.length_take];omega
     have hB:out.length=n+(out.drop n).length:=by rw[List.length_drop];omega
     have eC:=cutB (f:=encI) hn1
     have e5:List.map encI (out.take n)++[[T.sc (Value.int IntKind.i64 y)]]=(out.take n++[y]).map encI:=by simp[encI]
     have e6:((out.take n++[y]).map encI).length=(out.take n).length+1:=by simp
     simp only[go_sem,K1 hx,g0,g1,↓Kt (f:=encI) (fun _=>rfl) (out.take n),↓eC,↓e5,↓Kt (f:=encI) (fun _=>rfl) (out.drop n)]
     have e7:((out.take n).length+1=(out.take n++[y]).length)=True:=by simp
     simp only[e7,if_true]
     rw[Srt.ins_at swoI hsr hn2 hstop]
     simp only[roomB]
     exact⟨by omega,by omega,by omega,⟨by omega,by omega,by omega⟩,by omega,by simp,by simp only[List.length_map,List.length_append,List.length_cons,List.length_nil];omega,⟨by simp only[List.length_map,List.length_append,List.length_cons,List.length_nil],gw⟩,by rw[←List.map_append]⟩
 ·intro _
  simp only[go_sem,List.take_length]
  have hsl':(Srt.isort ltI (posL f)).length=(posL f).length:=Srt.len_isort
  have e1:IntKind.i64.wrap (((Srt.isort ltI (posL f)).length:Int)-1)=((Srt.isort ltI (posL f)).length:Int)-1:=by rw[wI (by omega) (by omega)]
  rw[e1]
  apply K0 (C3 q 0 (((Srt.isort ltI (posL f)).length:Int)-1))
  simp only[go_sem]
  refine⟨fun hn=>?_,fun hy=>⟨⟨by omega,by omega⟩,?_⟩⟩
  ·rw[if_neg (by omega)]
  ·obtain⟨y,hq⟩:=K5 (l:=Srt.isort ltI (posL f)) (k:=q.toNat) (by omega)
   rw[if_pos ⟨by omega,by omega⟩]
   simp only[go_sem,K1 hq]
   simp[zAt,hq]
def badP(a:GArchive)(q:Int)(x:GContainer):Bool:= !decide (0≤K2e a.Keys a.Statements x.Root q∧K2e a.Keys a.Statements x.Root q≤a.Now)
theorem K7q(a:GArchive)(q:Int):K5i a q= !(a.Disk.Containers.any (badP a q)):=by
 unfold K5i badP
 rw[List.not_any_eq_all_not]
 simp
def M8r:MC:=
(Zs [.box 3 0 (.s 0),.mv 4 cF] [1,2,3] (.seq (.dreg [Zc [7,8,9,10,11,13,14] (fS 5 1 7),Zd [7,8,9,10,11,13,14] [0] (lF 6 1 5),Zc [5,6,9,10,11,13,14] (fS 7 1 8),Zd [5,6,9,10,11,13,14] [2] (lF 8 1 7),Zc [5,6,7,8,11,13,14] (fS 9 3 3),Zd [5,6,7,8,11,13,14] [4] (lF 10 1 9),Zc [5,6,7,8,9,10,13,14] (lF 11 1 2),Zd [13,14] (.range 7) (.call 12 [] (.f Nd2) [.s 6,.s 8,.s 10,.s 11]),Zc [5,6,7,8,9,10,11,12] (fS 13 1 9),Zd [5,6,7,8,9,10,11,12] [8] (lF 14 1 13),Ze (.range 10) (.call 15 [] (.f N1) [.s 12,.c (.int .i64 0),.s 14]),Ze (.range 11) (.un 16 .not (.s 15)),Ze (.range 12) (mS 4 16)] [4])
.ret))
set_option maxHeartbeats 2000000 in
theorem Chf(x:GContainer)(a:GArchive)(q:Int)(hs:a.size≤268435456):Ctr Tryz.prog N9p [aS x.enc,(false,[.pb a.enc]),(false,[.pb [tI q]])] [rB (badP a q x)]:=by
 refine cA M8r 1 17 [(.tmp 4,[false])] Tryz.func74 rfl rfl ?_;unfold M8r
 intro hb
 clear hb
 have hk:a.Keys.length≤1073741824:=by simp only[GArchive.size]at hs;omega
 have hl:a.Statements.length≤1073741824:=by simp only[GArchive.size]at hs;omega
 simp only[go_sem]
 apply K0 (Cj2 a.Keys a.Statements x.Root q hk hl)
 simp only[go_sem]
 intros
 apply K0 (C4 (K2e a.Keys a.Statements x.Root q) 0 a.Now)
 simp only[go_sem]
 intros
 rfl
def Mch:MC:=
(Zs [.box 2 0 (.s 0),.box 3 1 (.s 1),.mv 4 cF] [2,3] (Zs [fS 5 2 2,fS 6 5 0,lF 7 1 6,.clos 8 N9p [2,3],.call 9 [] (.f N2) [.s 7,.s 8],.un 10 .not (.s 9),mS 4 10] [4] .ret))
set_option maxHeartbeats 2000000 in
theorem Cj0(a:GArchive)(q:Int)(hs:a.size≤268435456):Ctr Tryz.prog Nd0 [aS a.enc,aI q] [rB (K5i a q)]:=by
 refine cA Mch 2 11 [(.tmp 4,[false])] Tryz.func29 rfl rfl ?_;unfold Mch
 intro hb
 clear hb
 rw[K7q]
 simp only[go_sem]
 apply K0 (Ca a.Disk.Containers _ [.pb a.enc,.pb [tI q]] (badP a q) fun x _=>Chf x a q hs)
 simp only[go_sem]
def Mcs:MC:=
(Zs [.box 2 0 (.s 0),.mv 4 cF] [1,2] (.seq (Zs [.mv 5 (ci 0)] [1,2,5] (.block 0 (.loop ([1,2,5],[]) (.seq (Zs [mS 6 5,fS 7 2 2,fS 8 7 0,lF 9 1 8,nS 10 9,bS 11 .lss 6 10] [1,2,5,11] (cX 11 0))
(.seq (.block 1 (.seq (.dreg [Zc [16,17,18,19,20,21,22,23,24,25,27,28] (fS 14 2 7),Zd [16,17,18,19,20,21,22,23,24,25,27,28] [0] (lF 15 1 14),Zc [14,15,18,19,20,21,22,23,24,25,27,28] (fS 16 2 8),Zd [14,15,18,19,20,21,22,23,24,25,27,28] [2] (lF 17 1 16),Zc [14,15,16,17,21,25,27,28] (fS 18 2 2),Zd [14,15,16,17,21,25,27,28] [4] (fS 19 18 0),Zd [14,15,16,17,21,25,27,28] [4,5] (lF 20 1 19),Zc [14,15,16,17,18,19,20,25,27,28] (mS 21 5),Zd [14,15,16,17,25,27,28] [4,5,6,7] (xS 22 4 20 21),Zd [14,15,16,17,25,27,28] [4,5,6,7,8] (fS 23 22 3),Zd [14,15,16,17,25,27,28] [4,5,6,7,8,9] (lF 24 1 23),Zc [14,15,16,17,18,19,20,21,22,23,24,27,28] (mS 25 1),Zd [27,28] (.range 12) (.call 26 [] (.f Ndb) [.s 15,.s 17,.s 24,.s 25]),Zc [14,15,16,17,18,19,20,21,22,23,24,25,26] (fS 27 2 9),Zd [14,15,16,17,18,19,20,21,22,23,24,25,26] [13] (lF 28 1 27),Ze (.range 15) (.call 29 [] (.f N0) [.s 26,.c (.int .i64 0),.s 28]),Ze (.range 16) (.un 30 .not (.s 29))] [1,2,5,30])
(.cond (.s 30) (Zs [.mv 4 cF] [4] .ret) .skip)))
(pr [mS 12 5,bC 13 .add 12 1,mS 5 13] [1,2,5]))))))
(Zs [.mv 4 cT] [4] .ret)))
set_option maxHeartbeats 2000000 in
theorem Cja(a:GArchive)(q:Int)(hs:a.size≤268435456):Ctr Tryz.prog Nda [aS a.enc,aI q] [rB (K5i a q)]:=by
 refine cA Mcs 1 31 [(.tmp 4,[false])] Tryz.func18 rfl rfl ?_;unfold Mcs
 intro hb
 clear hb
 rw[K7q]
 have hk:a.Keys.length≤1073741824:=by simp only[GArchive.size]at hs;omega
 have hl:a.Statements.length≤1073741824:=by simp only[GArchive.size]at hs;omega
 have hcl:a.Disk.Containers.length≤roomB:=by simp only[GArchive.size,GDisk.size]at hs;simp only[roomB];omega
 simp only[go_sem]
 refine K3 a.Disk.Containers (fun k=>[(5,vI k)]) (fun k=>[]) (fun k=>((a.Disk.Containers.take k).any (badP a q))=false) hcl ?_
 simp only[go_sem]
 refine⟨?_,by simp,?_,?_⟩
 ·simp only[go_sem]
  try trivial
 ·intro k x hx hI h0 h1 hw
  simp only[go_sem,K1 hx,h0,h1]
  apply K0 (Cjc a.Keys a.Statements x.Root q hk hl)
  simp only[go_sem]
  intros
  apply K0 (C3 (K2e a.Keys a.Statements x.Root q) 0 a.Now)
  simp only[go_sem,hw]
  intro _
  refine⟨fun h=>?_,fun h=>?_⟩
  ·rw[List.any_eq_true.2 ⟨x,Ki hx,by unfold badP;rw[decide_eq_false h];rfl⟩]
   rfl
  ·exact K1k hx hI (by unfold badP;rw[decide_eq_true h];rfl)
 ·intro hI
  simp only[go_sem]
  rw[List.take_length]at hI
  rw[hI]
  try rfl
def K7y(a:GArchive):List UInt8:=
 if K5c a=false then [97,114,99,104,105,118,101]else if K46 a=false then [112,108,97,121]else if K5i a 1=false then [112,114,111,111,102]else if honoured a=false then [104,111,110,111,117,114]else []
def Y34(v0:Nat)(v1:Nat)(v2:Nat)(v3:Nat):MC:=
(Zs [.box 1 0 (.s 0),.mv 2 (.c (.string ⟨#[]⟩))] [1] (.seq (.block 0 (Zs [lT 4 10 1,.call 5 [] (.f v0) [.s 4],.un 6 .not (.s 5),mS 3 6] [1,3] (.cond (.s 3) (Zs [.mv 2 (.c (.string ⟨#[97,114,99,104,105,118,101]⟩))] [2] .ret) (Zs [lT 8 10 1,.call 9 [] (.f v1) [.s 8],.un 10 .not (.s 9),mS 7 10] [1,7] (.cond (.s 7) (Zs [.mv 2 (.c (.string ⟨#[112,108,97,121]⟩))] [2] .ret) (Zs [lT 12 10 1,.call 13 [] (.f v2) [.s 12,.c (.int .i64 1)],.un 14 .not (.s 13),mS 11 14] [1,11] (.cond (.s 11) (Zs [.mv 2 (.c (.string ⟨#[112,114,111,111,102]⟩))] [2] .ret) (Zs [lT 16 10 1,.call 17 [] (.f v3) [.s 16],.un 18 .not (.s 17),mS 15 18] [15] (.cond (.s 15) (Zs [.mv 2 (.c (.string ⟨#[104,111,110,111,117,114]⟩))] [2] .ret) .skip)))))))))
(Zs [.mv 2 (.c (.string ⟨#[]⟩))] [2] .ret)))
attribute [go_sem] Y34
def Mdp:MC:=Y34 Nbp N9o Nd0 N9n
theorem Cjm(a:GArchive)(hs:a.size≤268435456):Ctr Tryz.prog Ne4 [aS a.enc] [rStr (bs (K7y a))]:=by
 refine cA Mdp 1 19 [(.tmp 2,[false])] Tryz.func7 rfl rfl ?_;unfold Mdp
 intro hb
 clear hb
 unfold K7y
 simp only[go_sem]
 apply K0 (Cii a (by omega))
 simp only[go_sem]
 refine⟨fun h=>by simp[h],fun h=>?_⟩
 apply K0 (Che a)
 simp only[go_sem]
 refine⟨fun h2=>by simp[h,h2],fun h2=>?_⟩
 apply K0 (Cj0 a 1 hs)
 simp only[go_sem]
 refine⟨fun h3=>by simp[h,h2,h3],fun h3=>?_⟩
 apply K0 (Chd a (by omega))
 simp only[go_sem]
 exact⟨fun h4=>by simp[h,h2,h3,h4],fun h4=>by simp[h,h2,h3,h4]⟩
def Mdy:MC:=Y34 Nc7 Na9 Nda Na8
theorem Cjt(a:GArchive)(hs:a.size≤268435456):Ctr Tryz.prog Nec [aS a.enc] [rStr (bs (K7y a))]:=by
 refine cA Mdy 1 19 [(.tmp 2,[false])] Tryz.func5 rfl rfl ?_;unfold Mdy
 intro hb
 clear hb
 unfold K7y
 simp only[go_sem]
 apply K0 (Ciw a (by omega))
 simp only[go_sem]
 refine⟨fun h=>by simp[h],fun h=>?_⟩
 apply K0 (Chx a)
 simp only[go_sem]
 refine⟨fun h2=>by simp[h,h2],fun h2=>?_⟩
 apply K0 (Cja a 1 hs)
 simp only[go_sem]
 refine⟨fun h3=>by simp[h,h2,h3],fun h3=>?_⟩
 apply K0 (Chw a (by omega))
 simp only[go_sem]
 exact⟨fun h4=>by simp[h,h2,h3,h4],fun h4=>by simp[h,h2,h3,h4]⟩
def M4e:MC:=
(Zs [.box 1 0 (.s 0),.mv 2 cF] [1] (Zs [.mv 3 (ci 1048576)] [1,3] (Zs [lT 7 10 1,mS 8 3,.call 9 [] (.f Nbx) [.s 7,.s 8],mS 3 9] [1,3] (.seq (Zs [mS 10 3,bC 11 .lss 10 0] [1,11] (.cond (.s 11) (Zs [.mv 2 cT] [2] .ret) .skip))
(Zs [lT 12 10 1,.call 13 [1,2,3,4,5,6,7,8,9] (.f N2p) [.s 12],.call 14 [] (.f Nec) [.s 13],mS 4 14] [1,4] (Zs [lT 15 10 1,.call 16 [10,11,12,13,14,15,16,17,18] (.f N2p) [.s 15],.alloc 5 19 [.emp 9,.emp 4,.emp 4,.emp 6,.emp 4,.emp 5,.emp 4,.emp 1,.emp 4,pz],sS 10 5 16] [1,4,5] (Zs [lT 17 10 5,.call 18 [] (.f Ne4) [.s 17],mS 6 18] [1,4,5,6] (.seq (Zs [mS 19 6,mS 20 4,bS 21 .neq 19 20] [1,5,21] (.cond (.s 21) (Zs [.mv 2 cF] [2] .ret) .skip))
(.seq (.seq (.dreg [Zf [23,24] [20,21,22,23,24,25,26,27,28] (lT 22 10 5),Zc [22] (lT 23 10 1),{o:= .call 24 [20,21,22,23,24,25,26,27,28] (.f N2p) [.s 23],hs:=[22],ws:=[20,21,22,23,24,25,26,27,28],bf:=[1]},Ze [0,1,2] (.call 25 [] (.f Nbs) [.s 22,.s 24]),Ze (.range 4) (.un 26 .not (.s 25))] [26])
(.cond (.s 26) (Zs [.mv 2 cF] [2] .ret) .skip))
(Zs [.mv 2 cT] [2] .ret))))))))))
theorem c_laws_FnExactFaultOf(a:GArchive):Ctr Tryz.prog Ne7 [aS a.enc] [rB true]:=by
 refine cA M4e 29 27 [(.tmp 2,[false])] Tryz.func3 rfl rfl ?_;unfold M4e
 intro hb
 clear hb
 simp only[go_sem]
 apply K0 (Cio a _ (by omega))
 simp only[go_sem]
 intro _ hz
 have hs:=szr_ok hz
 have hc_a:=GArchive.cts_le a
 apply K0 (C45 a (by omega))
 simp only[go_sem]
 try intros
 apply K0 (Cjt a (by omega))
 simp only[go_sem]
 try intros
 apply K0 (C45 a (by omega))
 simp only[go_sem]
 try intros
 apply K0 (Cjm a (by omega))
 simp only[go_sem]
 try intros
 apply K0 (C45 a (by omega))
 simp only[go_sem]
 try intros
 apply K0 (Cik a a)
 simp only[go_sem]
 try intros
end Go.Proofs.YtpeabgkoknjojaaGreatDoorR
