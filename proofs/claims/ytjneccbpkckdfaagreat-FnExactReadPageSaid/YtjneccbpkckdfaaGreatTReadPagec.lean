/- What the functions compute that the laws of ReadPage reach: contracts. Conditions stand in each theorem. -/
import Derived.Test.YtjneccbpkckdfaaGreatTReadPageb
set_option linter.unusedVariables false
set_option linter.unusedSimpArgs false
namespace Go.Proofs.YtjneccbpkckdfaaGreatR
open Go Go.RowKit Go.Proofs
open Nat (reduceEqDiff reduceLT reduceLeDiff reduceAdd reduceMul)
open List (reduceReplicate)
structure WSt where
 s:GState
 cs:List GChoice
 m:GMarks
 miss:Nat
 asked:Nat
def m00:GMarks:=⟨[0,0,0,0],[0,0,0],[0,0,0,0],0⟩
theorem m00_ok:m00.ok:=by
 refine⟨rfl,rfl,rfl,?_,?_,?_,?_⟩<;>simp[m00]
def K2x(ins:List Int)(n:Nat):Int:=match ins[n]? with
 |some v=>if 0≤v∧v≤999 then v else 0
 |none=>0
def minT(tick:Int):Int:=if tick<999 then tick else 999
section
variable (l:List GOp) (caps:List GCapture) (tick:Int) (ins:List Int)
def wVal(w:GWant)(n:Nat):Int:=if w.Kind=1 then K3i (K3e caps (Ku caps w.Address tick))else if w.Kind=2 then minT tick else if w.Kind=4 then K2x ins n else 0
def wGot(w:GWant):Nat:=if w.Kind=1 then(if (Ku caps w.Address tick).At<0 then 0 else 2^(Ku caps w.Address tick).At.toNat)else 0
def wCs(w:GWant)(cs:List GChoice):List GChoice:=if w.Kind=1 then cs++[Ku caps w.Address tick]else cs
def wMiss(w:GWant)(n:Nat):Nat:=if w.Kind=1 then(if (Ku caps w.Address tick).At<0 then n+1 else n)else n
def wAsk(w:GWant)(n:Nat):Nat:=if w.Kind=4 then n+1 else n
def K5j(t:WSt):WSt:=
 ⟨K3m l t.s (wVal caps tick ins (K1x l t.s) t.asked),wCs caps tick (K1x l t.s) t.cs,K26 l t.s.Pc.toNat (opAt l t.s.Pc) t.m (wGot caps tick (K1x l t.s)),wMiss caps tick (K1x l t.s) t.miss,wAsk (K1x l t.s) t.asked⟩
def w00:WSt:=⟨st0,[],m00,0,0⟩
def wanF:Nat→WSt→WSt
 |0,t=>t
 |n+1,t=>if t.s.Pc≥l.length then t else wanF n (K5j l caps tick ins t)
def K4h:Bool:=K15 l&&(K2d caps&&decide (0≤tick∧tick≤2000))
def walked(t:WSt):GWander:=⟨t.s,t.cs,natI t.m.nd,t.miss⟩
def K1w:GWander:=if K4h l caps tick then walked (wanF l caps tick ins 20 w00)else⟨st0,[],[],0⟩
structure WanI (t:WSt):Prop where
 ok:stOk t.s=true
 mok:t.m.ok
 few:t.cs.length+(l.length-t.s.Pc.toNat)≤16∧t.miss+(l.length-t.s.Pc.toNat)≤16∧t.asked+(l.length-t.s.Pc.toNat)≤16
 run:∃f,l.length-t.s.Pc.toNat<f∧wanF l caps tick ins f t=wanF l caps tick ins 20 w00
end
section
variable {l:List GOp} {caps:List GCapture} {tick:Int} {ins:List Int}
theorem K8r{a:GAddress}{t far:Int}:Ky caps a t far= -1∨∃j:Nat,Ky caps a t far=j∧j<caps.length:=by
 rcases K3v (l:=caps) (a:=a) (t:=t) (far:=far) (Nat.le_refl _)with e|⟨j,b,e,hj,_⟩
 ·exact .inl e
 ·exact .inr ⟨j,e,hj⟩
theorem K6g(a:GAddress)(t:Int):(Ku caps a t=⟨3,-1⟩)∨∃(j:Nat) (r:Int),Ku caps a t=⟨r,j⟩∧j<caps.length∧¬r=3:=by
 unfold Ku
 split
 ·exact .inl rfl
 ·split
  ·rename_i h0
   rcases K8r (caps:=caps) (a:=a) (t:=t) (far:=0)with e|⟨j,e,hj⟩
   ·omega
   ·rw[e]
    obtain⟨c,hc⟩:=Kb hj
    simp only[Int.toNat_natCast,hc]
    split
    ·exact .inr ⟨j,0,rfl,hj,by omega⟩
    ·exact .inr ⟨j,1,rfl,hj,by omega⟩
  ·split
   ·rcases K8r (caps:=caps) (a:=a) (t:=t) (far:=1)with e|⟨j,e,hj⟩
    ·omega
    ·rw[e]
     exact .inr ⟨j,2,rfl,hj,by omega⟩
   ·exact .inl rfl
theorem K80(h:K2d caps=true):caps.length≤20∧(caps.map GCapture.size).sum≤120:=by
 simp only[K2d,K2f,Bool.and_eq_true,decide_eq_true_eq]at h
 refine⟨h.1,?_⟩
 have key:∀cs:List GCapture,(∀c∈cs,c.size≤6)→(cs.map GCapture.size).sum≤6*cs.length:=by
  intro cs
  induction cs with
  |nil=>simp
  |cons c cs ih=>
   intro hc
   have h1:=ih fun x hx=>hc x (by simp[hx])
   have h2:=hc c (by simp)
   simp only[List.map_cons,List.sum_cons,List.length_cons]
   omega
 have:=key caps fun c hc=>by
  have:=List.all_eq_true.1 h.2 c hc
  simp only[K3n,Kz,Bool.and_eq_true]at this
  have hr:=this.2.2
  simp only[GCapture.size,GResource.size]
  split at hr
  ·simp only[Bool.and_eq_true,decide_eq_true_eq]at hr;omega
  ·split at hr
   ·simp only[Bool.and_eq_true,decide_eq_true_eq]at hr;omega
   ·split at hr
    ·simp only[Bool.and_eq_true,decide_eq_true_eq]at hr;omega
    ·cases hr
 omega
theorem K70(hc:K2d caps=true)(w:GWant):wGot caps tick w<1048576:=by
 unfold wGot
 split
 ·split
  ·omega
  ·rcases K6g (caps:=caps) w.Address tick with e|⟨j,r,e,hj,_⟩
   ·rename_i h;rw[e]at h;simp at h
   ·rw[e]
    have:=(K80 hc).1
    have h2:2^j<2^20:=Nat.pow_lt_pow_right (by omega) (by omega)
    have e20:2^20=1048576:=rfl
    simp only[Int.toNat_natCast]
    omega
 ·omega
theorem K7i(h:K4h l caps tick=true):K15 l=true∧K2d caps=true∧(0≤tick∧tick≤2000):=by
 simpa[K4h]using h
theorem K44(h:K15 l=true):l.length≤16:=by
 simp only[K15,K2f,Bool.and_eq_true,decide_eq_true_eq]at h
 exact h.1
theorem K8y(h:K15 l=true):∀x∈l,opOk x=true:=by
 simp only[K15,K2f,Bool.and_eq_true]at h
 exact List.all_eq_true.1 h.2
theorem st0_fine:stOk st0=true:=by decide
theorem WanI.start(h:K15 l=true):WanI l caps tick ins w00:=by
 have hl:=K44 h
 refine⟨st0_fine,m00_ok,?_,20,?_,rfl⟩
 ·simp only[w00,st0,List.length_nil];omega
 ·simp only[w00,st0];omega
theorem WanI.fin{t:WSt}(h:WanI l caps tick ins t)(hd:t.s.Pc≥l.length)(hok:K4h l caps tick=true):K1w l caps tick ins=walked t:=by
 obtain⟨f,hf,hp⟩:=h.run
 obtain⟨f,rfl⟩:∃f',f=f'+1:=⟨f-1,by omega⟩
 rw[wanF,if_pos hd]at hp
 rw[K1w,if_pos hok,←hp]
theorem WanI.less{t:WSt}(h:WanI l caps tick ins t)(h1:K15 l=true)(hd:¬t.s.Pc≥l.length)(u:Int):l.length-(K3m l t.s u).Pc.toNat<l.length-t.s.Pc.toNat:=by
 have h0:=(K8e h.ok).1.1
 have:=stepTo_lt (v:=u) h1 h.ok (by omega)
 omega
theorem WanI.next{t:WSt}(h:WanI l caps tick ins t)(h1:K15 l=true)(h2:K2d caps=true)(hd:¬t.s.Pc≥l.length):WanI l caps tick ins (K5j l caps tick ins t):=by
 obtain⟨f,hf,hp⟩:=h.run
 obtain⟨f,rfl⟩:∃f',f=f'+1:=⟨f-1,by omega⟩
 rw[wanF,if_neg hd]at hp
 have hl:=h.less h1 hd (wVal caps tick ins (K1x l t.s) t.asked)
 obtain⟨f1,f2,f3⟩:=h.few
 refine⟨stepTo_ok h.ok,K76 h.mok (K70 h2 _),?_,f,?_,hp⟩
 ·refine⟨?_,?_,?_⟩
  ·simp only[K5j,wCs]
   split
   ·simp only[List.length_append,List.length_cons,List.length_nil];omega
   ·omega
  ·simp only[K5j,wMiss]
   split
   ·split<;>omega
   ·omega
  ·simp only[K5j,wAsk]
   split<;>omega
 ·simp only[K5j];omega
theorem K5q(h:¬K4h l caps tick=true):K1w l caps tick ins=⟨st0,[],[],0⟩:=by
 rw[K1w,if_neg h]
theorem at_op{s:GState}(h1:K15 l=true)(hs:stOk s=true)(hd:¬s.Pc≥l.length):∃(k:Nat) (o:GOp),s.Pc=k∧l[k]? =some o∧opAt l s.Pc=o∧opOk o=true∧k<l.length:=by
 have h:K2r l s=true:=by unfold K2r;rw[h1,hs,decide_eq_true (by omega)];rfl
 obtain⟨k,o,D⟩:=K2z h
 exact⟨k,o,D.pc,D.op,D.at_,D.ok,D.lt⟩
end
end Go.Proofs.YtjneccbpkckdfaaGreatR
namespace Go.Proofs.YtjneccbpkckdfaaGreatR
open Go Go.RowKit Go.Proofs
open Nat (reduceEqDiff reduceLT reduceLeDiff reduceAdd reduceMul)
open List (reduceReplicate)
theorem shl_one{j:Nat}(h:j≤20):IntKind.i64.wrap (1*2^min j 64)=((2^j:Nat):Int):=by
 have h2p:2^j≤2^20:=Nat.pow_le_pow_right (by omega) h
 have e20:2^20=1048576:=rfl
 have e3:(2:Int)^j=((2^j:Nat):Int):=by simp
 rw[Nat.min_eq_left (by omega),Int.one_mul,e3]
 generalize 2^j=q at*
 exact wI (by omega) (by omega)
def M7i:MC:=
(Zs [.alloc 8 0 [pz,.emp 1,.emp 1,.emp 1,.emp 2,.emp 1,pz]] [0,1,2,3,8] (Zs [.call 16 [1,2,3] (.f N6n) [],.buildO 17 [pz,.emp 1,.emp 1,.emp 1,.emp 2,.emp 1,pz] [(0,4,.s 16)] [none,none,none,none,some 4,none,none],.alloc 9 5 [pz,.emp 1,.emp 1,.emp 1,.emp 2,.emp 1,pz],sS 7 9 17] [0,1,2,3,8,9] (.seq (.seq (.reg [Za (mS 18 0),Za (.call 19 [] (.f N31) [.s 18]),Za (.un 20 .not (.s 19)),Za (mS 21 20),Zb 21 false (mS 22 1),Zb 21 false (.call 23 [] (.f N1z) [.s 22]),Zb 21 false (.un 24 .not (.s 23)),Za (.pick 25 (.s 21) cT (.s 24)),Za (mS 26 25),Zb 26 false (mS 27 2),Zb 26 false (.call 28 [] (.f N1) [.s 27,.c (.int .i64 0),.c (.int .i64 2000)]),Zb 26 false (.un 29 .not (.s 28)),Za (.pick 30 (.s 26) cT (.s 29))] [0,1,2,3,8,9,30])
(.cond (.s 30) (Zs [lT 31 7 9,sS 7 8 31] [8] .ret) .skip))
(Zs [.alloc 10 6 [pz,pz,pz,pz,pz,pz,pz,pz,pz,pz,pz,pz]] [0,1,2,3,8,9,10] (Zs [.mv 11 (ci 0)] [0,1,2,3,8,9,10,11] (.seq (.block 0 (.loop ([0,1,2,3,8,9,10,11],[7,8,9,10]) (.seq (Zs [mS 32 0,fS 33 9 0,lT 34 4 33,.call 35 [] (.f Nby) [.s 32,.s 34],.un 36 .not (.s 35)] [0,1,2,3,8,9,10,11,36] (cX 36 0))
(.block 1 (Zs [.mv 12 (ci 0),.mv 13 (ci 0)] [0,1,2,3,8,9,10,11,12,13] (Zs [mS 37 0,fS 38 9 0,lT 39 4 38,.call 40 [] (.f Nbz) [.s 37,.s 39],.alloc 14 7 [pz,pz,pz,pz],sS 4 14 40] [0,1,2,3,8,9,10,11,12,13,14] (.seq (Zs [fS 41 14 0,lF 42 1 41] [0,1,2,3,8,9,10,11,12,13,14,42] (.block 2 (Zs [bC 44 .eql 42 1,mS 43 44] [0,1,2,3,8,9,10,11,12,13,14,42,43] (.cond (.s 43) (Zs [mS 45 1,fS 46 14 1,lT 47 3 46,mS 48 2,.call 49 [] (.f N89) [.s 45,.s 47,.s 48],.alloc 15 8 [pz,pz],sS 2 15 49] [0,1,2,3,8,9,10,11,13,15] (Zs [fS 50 9 4,lF 51 1 50,lT 52 2 15,.lit 53 9 2 16 [.s 52],.app 54 4 2 16 (.s 51) (.s 53),fS 55 9 4,sS 1 55 54] [0,1,2,3,8,9,10,11,13,15] (Zs [mS 56 1,lT 57 2 15,.call 58 [10] (.f N6m) [.s 56,.s 57],.call 59 [] (.f N2e) [.s 58],mS 12 59] [0,1,2,3,8,9,10,11,12,13,15] (Zs [fS 60 15 0,lF 61 1 60,bC 62 .eql 61 3] [0,1,2,3,8,9,10,11,12,13,15,62] (.cond (.s 62) (pr [fS 63 9 6,lF 64 1 63,bC 65 .add 64 1,fS 66 9 6,sS 1 66 65] [0,1,2,3,8,9,10,11,12,13]) (pr [fS 67 15 1,lF 68 1 67,.bin 69 false .shl (ci 1) (.s 68),mS 13 69] [0,1,2,3,8,9,10,11,12,13])))))) (Zs [bC 71 .eql 42 2,mS 70 71] [0,1,2,3,8,9,10,11,12,13,42,70] (.cond (.s 70) (pr [mS 72 2,.mm 73 false (ci 999) (.s 72),mS 12 73] [0,1,2,3,8,9,10,11,12,13]) (Zs [bC 75 .eql 42 4,mS 74 75] [0,1,2,3,8,9,10,11,12,13,74] (.cond (.s 74) (.seq (.seq (.reg [Za (mS 76 11),Za (mS 77 3),Za (nS 78 77),Za (bS 79 .lss 76 78),Za (mS 80 79),Zb 80 true (mS 81 3),Zb 80 true (mS 82 11),Zb 80 true (xS 83 1 81 82),Zb 80 true (lF 84 1 83),Zb 80 true (.call 85 [] (.f N1) [.s 84,.c (.int .i64 0),.c (.int .i64 999)]),Za (.pick 86 (.s 80) (.s 85) cF)] [0,1,2,3,8,9,10,11,12,13,86])
(.cond (.s 86) (pr [mS 87 3,mS 88 11,xS 89 1 87 88,lF 90 1 89,mS 12 90] [0,1,2,3,8,9,10,11,12,13]) .skip))
(pr [mS 91 11,bC 92 .add 91 1,mS 11 92] [0,1,2,3,8,9,10,11,12,13])) .skip))))))))
(Zs [mS 93 0,fS 94 9 0,fS 95 94 0,lF 96 1 95,mS 97 13,.callB 98 [] (.f N1k) (.s 10) [.s 93,.s 96,.s 97]] [0,1,2,3,8,9,10,11,12] (pr [mS 99 0,fS 100 9 0,lT 101 4 100,mS 102 12,.call 103 [1,2,3] (.f N8a) [.s 99,.s 101,.s 102],fS 104 9 0,sS 4 104 103] [0,1,2,3,8,9,10,11])))))))))
(.seq (.dreg [Zc [107,108] (fS 105 9 5),Zd [107,108] [0] (lF 106 1 105),Zc [105,106] (fS 107 10 7),Zd [105,106] [2] (.sliA 108 4 (.s 107)),{o:= .appA 109 11 8 (.s 106) (.s 108),ws:=[11],bf:=(.range 4)},Ze (.range 5) (fS 110 9 5),{o:=sS 1 110 109,ws:=[5,11],bf:=(.range 6)}] [8,9])
(Zs [lT 111 7 9,sS 7 8 111] [8] .ret))))))))
set_option maxHeartbeats 4000000 in
theorem Ce6(l:List GOp)(caps:List GCapture)(tick:Int)(ins:List Int)(hs:caps.length+(caps.map GCapture.size).sum≤1073741824)(hi:ins.length≤1073741824):Ctr Tryz.prog N8c [aL 4 (l.map GOp.enc),aL 9 (caps.map GCapture.enc),aI tick,aL 1 (ins.map encI)] [rS (K1w l caps tick ins).enc]:=by
 refine cA M7i 12 112 [(.cell 8 true 7,[false,true,true,true,true,true,false])] Tryz.func106 rfl rfl ?_;unfold M7i
 intro hb
 clear hb
 simp only[go_sem]
 apply K0 Cd9
 simp only[go_sem]
 intros
 apply K0 (C92 l)
 simp only[go_sem]
 by_cases hok:K4h l caps tick=true
 ·obtain⟨h1,h2,h3⟩:=K7i hok
  simp only[go_sem,h1]
  apply K0 (C1w caps)
  simp only[go_sem,h2]
  apply K0 (C4 tick 0 2000)
  simp only[go_sem,h3]
  refine Kr (ι:=WSt) (fun t=>[(11,vI t.asked)]) (fun t=>[(1,⟨0,.row true 1 (t.s.Regs.map encI)⟩),(2,⟨0,.row true 1 (t.s.Slots.map encI)⟩),(3,⟨0,.row true 1 (t.s.Nodes.map encI)⟩),(4,⟨0,.row true 2 (t.cs.map GChoice.enc)⟩),
   (5,⟨0,.box [.pl (tI t.s.Pc),.ref 1 0 1 0 t.s.Regs.length,.ref 2 0 1 0 t.s.Slots.length,.ref 3 0 1 0 t.s.Nodes.length,.ref 4 0 2 0 t.cs.length,.emp 1,.pl (tI t.miss)]⟩),(6,⟨0,.box ((cellsM t.m).map .pl)⟩)]) (WanI l caps tick ins) (fun t=>l.length-t.s.Pc.toNat) w00 ?_
  simp only[go_sem]
  refine⟨?_,WanI.start h1,?_⟩
  ·simp only[go_sem]
   repeat' (first|rfl|apply And.intro)
  ·rintro ⟨s,cs,m,miss,asked⟩ hI
   have hs:=hI.ok
   have hm:=hI.mok
   have hsz:=K7e hs
   obtain⟨f1,f2,f3⟩:=hI.few
   simp only at hs hm hsz f1 f2 f3
   obtain⟨r0,r1,r2,r3,s0,s1,s2,n0,n1,n2,n3,p,hM,hMb⟩:=GMarks.parts hm
   subst hM
   simp only[cellsM]
   simp only[go_sem]
   apply K0 (Cfm l s)
   by_cases hd:s.Pc≥l.length
   ·have hf:=hI.fin hd hok
    rw[hf]
    simp only[go_sem,hd]
    exact⟨by decide,rfl,rfl,rfl,rfl,rfl,rfl,rfl⟩
   ·obtain⟨k,o,hk,hko,hat,hoo,hkl⟩:=at_op h1 hs hd
    simp only[go_sem,hd]
    apply K0 (Cfn l s)
    simp only[go_sem]
    intros
    obtain⟨w,hw⟩:∃w,w=K1x l s:=⟨_,rfl⟩
    have hnx:=hI.next h1 h2 hd
    have hls:=hI.less h1 hd (wVal caps tick ins w asked)
    simp only[K5j,hk,Int.toNat_natCast,←hw]at hnx
    rw[←hk,hat]at hnx
    obtain⟨t0,t1,t2,t3,u0,u1,u2,v0,v1,v2,v3,P,hE,hEb⟩:=GMarks.parts (K76 (l:=l) (pc:=k) (got:=wGot caps tick w) (o:=o) hm (K70 h2 w))
    have hst:=Cda l k o (wGot caps tick w) _ hm (K8y h1) hko (K70 h2 w) (by have:=K44 h1;omega)
    rw[hE]at hst hnx
    simp only[cellsM,List.map_cons,List.map_nil,List.cons_append,List.nil_append]at hst
    rw[←hw]
    rw[←hk]at hst
    have hst2:=Ce4 l s (wVal caps tick ins w asked) (by omega)
    have hsl:=K44 h1
    by_cases q1:w.Kind=1
    ·have q4:¬w.Kind=4:=by omega
     have hg:wGot caps tick w=if (Ku caps w.Address tick).At<0 then 0 else 2^(Ku caps w.Address tick).At.toNat:=by simp only[wGot,if_pos q1]
     have hv:wVal caps tick ins w asked=K3i (K3e caps (Ku caps w.Address tick)):=by simp only[wVal,if_pos q1]
     rw[hg]at hst
     rw[hv]at hst2 hnx hls
     simp only[wCs,wMiss,wAsk,if_pos q1,if_neg q4]at hnx
     have hN:=Ce3 caps w.Address tick (by omega)
     have hR:=Cd8 caps (Ku caps w.Address tick) (by omega)
     have hV:=Ca1 (K3e caps (Ku caps w.Address tick))
     simp only[go_sem,q1]
     rcases K6g (caps:=caps) w.Address tick with e|⟨j,r,e,hj,hr3⟩
     ·rw[e]at hst hst2 hnx hls hN hR hV
      have m1:((-1:Int)<0):=by omega
      simp only[if_pos m1]at hst hnx
      have hmw:IntKind.i64.wrap ((miss:Int)+1)=((miss+1:Nat):Int):=by rw[wI (by omega) (by omega)];omega
      apply K0 hN
      simp only[go_sem]
      intros
      refine⟨by decide,by simp only[roomB];omega,?_⟩
      apply K0 hR
      simp only[go_sem]
      intros
      apply K0 hV
      simp only[go_sem,hmw]
      intros
      apply K2y hst
      simp only[go_sem]
      apply K0 hst2
      simp only[go_sem]
      intros
      exact⟨_,by simp[GChoice.enc],hnx,hls⟩
     ·have hcf:=K80 h2
      have m1:¬((j:Int)<0):=by omega
      have hsh:=shl_one (j:=j) (by omega)
      rw[e]at hst hst2 hnx hls hN hR hV
      simp only[if_neg m1,Int.toNat_natCast]at hst hnx
      apply K0 hN
      simp only[go_sem]
      intros
      refine⟨by decide,by simp only[roomB];omega,?_⟩
      apply K0 hR
      simp only[go_sem]
      intros
      apply K0 hV
      simp only[go_sem,hr3,m1,hsh]
      intros
      try simp only[hsh]
      apply K2y hst
      simp only[go_sem]
      apply K0 hst2
      simp only[go_sem]
      intros
      exact⟨_,by simp[GChoice.enc],hnx,hls⟩
    ·have hg:wGot caps tick w=0:=by simp only[wGot,if_neg q1]
     rw[hg]at hst
     simp only[wCs,wMiss,if_neg q1]at hnx
     by_cases q2:w.Kind=2
     ·have q4:¬w.Kind=4:=by omega
      have hv:wVal caps tick ins w asked=minT tick:=by simp only[wVal,if_neg q1,if_pos q2]
      rw[hv]at hst2 hnx hls
      simp only[wAsk,if_neg q4]at hnx
      simp only[minT]at hst2 hnx hls
      simp only[go_sem,q2,Int.reduceEq]
      apply K2y hst
      simp only[go_sem]
      apply K0 hst2
      simp only[go_sem]
      intros
      exact⟨_,by simp[],hnx,hls⟩
     ·by_cases q4:w.Kind=4
      ·have hv:wVal caps tick ins w asked=K2x ins asked:=by simp only[wVal,if_neg q1,if_neg q2,if_pos q4]
       rw[hv]at hst2 hnx hls
       simp only[wAsk,if_pos q4]at hnx
       have haw:IntKind.i64.wrap ((asked:Int)+1)=((asked+1:Nat):Int):=by rw[wI (by omega) (by omega)];omega
       by_cases hlt:asked<ins.length
       ·obtain⟨v,hvv⟩:=Kb hlt
        have c0:(0:Int)≤(asked:Int):=by omega
        have c1:(asked:Int)<(ins.length:Int):=by omega
        have hav:K2x ins asked=if 0≤v∧v≤999 then v else 0:=by simp only[K2x,hvv]
        rw[hav]at hst2 hnx hls
        simp only[go_sem,q4,Int.reduceEq,c0,c1,K4 hvv]
        apply K0 (C4 v 0 999)
        by_cases hr:0≤v∧v≤999
        ·rw[if_pos hr]at hst2 hnx hls
         simp only[go_sem,c0,c1,K4 hvv,hr,haw]
         intros
         apply K2y hst
         simp only[go_sem]
         apply K0 hst2
         simp only[go_sem]
         intros
         exact⟨_,by simp[],hnx,hls⟩
        ·rw[if_neg hr]at hst2 hnx hls
         simp only[go_sem,hr,haw]
         intros
         apply K2y hst
         simp only[go_sem]
         apply K0 hst2
         simp only[go_sem]
         intros
         exact⟨_,by simp[],hnx,hls⟩
       ·have c1:¬(asked:Int)<(ins.length:Int):=by omega
        have hav:K2x ins asked=0:=by simp only[K2x,List.getElem?_eq_none (by omega:ins.length≤asked)]
        rw[hav]at hst2 hnx hls
        simp only[go_sem,q4,Int.reduceEq,c1,haw]
        apply K2y hst
        simp only[go_sem]
        apply K0 hst2
        simp only[go_sem]
        intros
        exact⟨_,by simp[],hnx,hls⟩
      ·have hv:wVal caps tick ins w asked=0:=by simp only[wVal,if_neg q1,if_neg q2,if_neg q4]
       rw[hv]at hst2 hnx hls
       simp only[wAsk,if_neg q4]at hnx
       simp only[go_sem,q1,q2,q4]
       apply K2y hst
       simp only[go_sem]
       apply K0 hst2
       simp only[go_sem]
       intros
       exact⟨_,by simp[],hnx,hls⟩
 ·have hF:K1w l caps tick ins=⟨st0,[],[],0⟩:=K5q hok
  rw[hF]
  repeat' first
   |(refine And.intro ?_ ?_<;>intro h)
   |(apply K0 (C1w caps);simp only[go_sem])
   |(apply K0 (C4 tick 0 2000);simp only[go_sem])
   |(intro h)
  all_goals first|(exact⟨rfl,rfl,rfl,rfl,rfl,rfl,rfl⟩)|(exfalso;apply hok;simp_all[K4h];done)|skip
end Go.Proofs.YtjneccbpkckdfaaGreatR
namespace Go.Proofs.YtjneccbpkckdfaaGreatR
open Go Go.RowKit Go.Proofs
open Nat (reduceEqDiff reduceLT reduceLeDiff reduceAdd reduceMul)
open List (reduceReplicate)
def M86:MC:=
(Zs [.alloc 8 0 [pz,.emp 1,.emp 1,.emp 1,.emp 2,.emp 1,pz]] [0,1,2,3,8] (Zs [.call 17 [1,2,3] (.f N77) [],.buildO 18 [pz,.emp 1,.emp 1,.emp 1,.emp 2,.emp 1,pz] [(0,4,.s 17)] [none,none,none,none,some 4,none,none],.alloc 9 5 [pz,.emp 1,.emp 1,.emp 1,.emp 2,.emp 1,pz],sS 7 9 18] [0,1,2,3,8,9] (.seq (.seq (.reg [Za (mS 19 0),Za (.call 20 [] (.f N35) [.s 19]),Za (.un 21 .not (.s 20)),Za (mS 22 21),Zb 22 false (mS 23 1),Zb 22 false (.call 24 [] (.f N22) [.s 23]),Zb 22 false (.un 25 .not (.s 24)),Za (.pick 26 (.s 22) cT (.s 25)),Za (mS 27 26),Zb 27 false (mS 28 2),Zb 27 false (.call 29 [] (.f N0) [.s 28,.c (.int .i64 0),.c (.int .i64 2000)]),Zb 27 false (.un 30 .not (.s 29)),Za (.pick 31 (.s 27) cT (.s 30))] [0,1,2,3,8,9,31])
(.cond (.s 31) (Zs [lT 32 7 9,sS 7 8 32] [8] .ret) .skip))
(Zs [.call 33 [6] (.f Nr) [.c (.int .i64 4)],.call 34 [7] (.f Nr) [.c (.int .i64 3)],.call 35 [8] (.f Nr) [.c (.int .i64 4)],.build 36 [.emp 1,.emp 1,.emp 1,pz] [(0,1,.s 33),(1,1,.s 34),(2,1,.s 35)],.alloc 10 9 [.emp 1,.emp 1,.emp 1,pz],sS 4 10 36] [0,1,2,3,8,9,10] (Zs [.mv 11 (ci 0)] [0,1,2,3,8,9,10,11] (.seq (.block 0 (.loop ([0,1,2,3,8,9,10,11],[10,11,12,13,14,15,16,17]) (.seq (Zs [mS 37 0,fS 38 9 0,lT 39 4 38,.call 40 [] (.f Nc3) [.s 37,.s 39],.un 41 .not (.s 40)] [0,1,2,3,8,9,10,11,41] (cX 41 0))
(.block 1 (Zs [mS 42 0,fS 43 9 0,lT 44 4 43,.call 45 [] (.f Nc4) [.s 42,.s 44],.alloc 12 10 [pz,pz,pz,pz],sS 4 12 45] [0,1,2,3,8,9,10,11,12] (Zs [.mv 13 (ci 0)] [0,1,2,3,8,9,10,11,12,13] (Zs [.mv 14 (ci 0)] [0,1,2,3,8,9,10,11,12,13,14] (.seq (Zs [fS 46 12 0,lF 47 1 46] [0,1,2,3,8,9,10,11,12,13,14,47] (.block 2 (Zs [bC 49 .eql 47 1,mS 48 49] [0,1,2,3,8,9,10,11,12,13,14,47,48] (.cond (.s 48) (Zs [mS 50 1,fS 51 12 1,lT 52 3 51,mS 53 2,.call 54 [] (.f N8v) [.s 50,.s 52,.s 53],.alloc 15 11 [pz,pz],sS 2 15 54] [0,1,2,3,8,9,10,11,14,15] (Zs [fS 55 9 4,lF 56 1 55,lT 57 2 15,.lit 58 12 2 16 [.s 57],.app 59 4 2 16 (.s 56) (.s 58),fS 60 9 4,sS 1 60 59] [0,1,2,3,8,9,10,11,14,15] (Zs [mS 61 1,lT 62 2 15,.call 63 [13] (.f N76) [.s 61,.s 62],.call 64 [] (.f N2f) [.s 63],mS 13 64] [0,1,2,3,8,9,10,11,13,14,15] (Zs [fS 65 15 1,lF 66 1 65,bC 67 .geq 66 0] [0,1,2,3,8,9,10,11,13,14,15,67] (.cond (.s 67) (pr [fS 68 15 1,lF 69 1 68,.call 70 [] (.f N5d) [.s 69],mS 14 70] [0,1,2,3,8,9,10,11,13,14]) (pr [fS 71 9 6,lF 72 1 71,bC 73 .add 72 1,fS 74 9 6,sS 1 74 73] [0,1,2,3,8,9,10,11,13,14])))))) (Zs [bC 76 .eql 47 2,mS 75 76] [0,1,2,3,8,9,10,11,13,14,47,75] (.cond (.s 75) (pr [mS 77 2,.call 78 [] (.f N79) [.c (.int .i64 999),.s 77],mS 13 78] [0,1,2,3,8,9,10,11,13,14]) (Zs [bC 80 .eql 47 4,mS 79 80] [0,1,2,3,8,9,10,11,13,14,79] (.cond (.s 79) (.seq (.seq (.reg [Za (mS 81 11),Za (mS 82 3),Za (nS 83 82),Za (bS 84 .lss 81 83),Za (mS 85 84),Zb 85 true (mS 86 3),Zb 85 true (mS 87 11),Zb 85 true (xS 88 1 86 87),Zb 85 true (lF 89 1 88),Zb 85 true (.call 90 [] (.f N0) [.s 89,.c (.int .i64 0),.c (.int .i64 999)]),Za (.pick 91 (.s 85) (.s 90) cF)] [0,1,2,3,8,9,10,11,13,14,91])
(.cond (.s 91) (pr [mS 92 3,mS 93 11,xS 94 1 92 93,lF 95 1 94,mS 13 95] [0,1,2,3,8,9,10,11,13,14]) .skip))
(pr [mS 96 11,bC 97 .add 96 1,mS 11 97] [0,1,2,3,8,9,10,11,13,14])) .skip))))))))
(.seq (Zs [mS 98 0,fS 99 9 0,fS 100 99 0,lF 101 1 100,xS 102 4 98 101,lT 103 4 102,.alloc 16 14 [pz,pz,pz,pz],sS 4 16 103] [0,1,2,3,8,9,10,11,13,14,16] (Zs [fS 104 16 0,lF 105 1 104,bC 106 .eql 105 7] [0,1,2,3,8,9,10,11,13,14,16,106] (.cond (.s 106) (pr [mS 107 0,fS 108 9 0,fS 109 108 0,lF 110 1 109,lT 111 4 10,.callI 112 [15,16,17] (.f N49) [.s 107,.s 110,.s 111] [6,7,8] [],sS 4 10 112] [0,1,2,3,8,9,10,11,13]) (pr [lT 113 4 16,lT 114 4 10,mS 115 14,.callI 116 [15,16,17] (.f N4a) [.s 113,.s 114,.s 115] [6,7,8] [],sS 4 10 116] [0,1,2,3,8,9,10,11,13]))))
(.ren [(15,6),(16,7),(17,8)] (pr [mS 117 0,fS 118 9 0,lT 119 4 118,mS 120 13,.call 121 [1,2,3] (.f N8w) [.s 117,.s 119,.s 120],fS 122 9 0,sS 4 122 121] [0,1,2,3,8,9,10,11])))))))))))
(Zs [fS 123 10 2,lF 124 1 123,fS 125 9 5,sS 1 125 124] [8,9] (Zs [lT 126 7 9,sS 7 8 126] [8] .ret))))))))
set_option maxHeartbeats 4000000 in
theorem Ceq(l:List GOp)(caps:List GCapture)(tick:Int)(ins:List Int)(hs:caps.length+(caps.map GCapture.size).sum≤1073741824)(hi:ins.length≤1073741824):Ctr Tryz.prog N8y [aL 4 (l.map GOp.enc),aL 9 (caps.map GCapture.enc),aI tick,aL 1 (ins.map encI)] [rS (K1w l caps tick ins).enc]:=by
 refine cA M86 18 127 [(.cell 8 true 7,[false,true,true,true,true,true,false])] Tryz.func104 rfl rfl ?_;unfold M86
 intro hb
 clear hb
 simp only[go_sem]
 apply K0 Cdr
 simp only[go_sem]
 intros
 apply K0 (C95 l)
 simp only[go_sem]
 by_cases hok:K4h l caps tick=true
 ·obtain⟨h1,h2,h3⟩:=K7i hok
  simp only[go_sem,h1]
  apply K0 (C1y caps)
  simp only[go_sem,h2]
  apply K0 (C2 tick 0 2000)
  simp only[go_sem,h3]
  apply K0 (Cz 4 (by omega))
  simp only[go_sem]
  intros
  apply K0 (Cz 3 (by omega))
  simp only[go_sem]
  intros
  apply K0 (Cz 4 (by omega))
  simp only[go_sem]
  intros
  refine Kr (ι:=WSt) (fun t=>[(11,vI t.asked)]) (fun t=>[(1,⟨0,.row true 1 (t.s.Regs.map encI)⟩),(2,⟨0,.row true 1 (t.s.Slots.map encI)⟩),(3,⟨0,.row true 1 (t.s.Nodes.map encI)⟩),(4,⟨0,.row true 2 (t.cs.map GChoice.enc)⟩),
   (5,⟨0,.box [.pl (tI t.s.Pc),.ref 1 0 1 0 t.s.Regs.length,.ref 2 0 1 0 t.s.Slots.length,.ref 3 0 1 0 t.s.Nodes.length,.ref 4 0 2 0 t.cs.length,.emp 1,.pl (tI t.miss)]⟩),(6,⟨0,.row true 1 ((natI t.m.rg).map encI)⟩),(7,⟨0,.row true 1 ((natI t.m.sl).map encI)⟩),(8,⟨0,.row true 1 ((natI t.m.nd).map encI)⟩),(9,⟨0,.box [.ref 6 0 1 0 4,.ref 7 0 1 0 3,.ref 8 0 1 0 4,.pl (tI t.m.path)]⟩)]) (WanI l caps tick ins) (fun t=>l.length-t.s.Pc.toNat) w00 ?_
  simp only[go_sem]
  refine⟨?_,WanI.start h1,?_⟩
  ·simp only[go_sem]
   repeat' (first|rfl|apply And.intro)
  ·rintro ⟨s,cs,m,miss,asked⟩ hI
   have hs:=hI.ok
   have hm:=hI.mok
   have hsz:=K7e hs
   obtain⟨f1,f2,f3⟩:=hI.few
   simp only at hs hm hsz f1 f2 f3
   obtain⟨r0,r1,r2,r3,s0,s1,s2,n0,n1,n2,n3,p,hM,hMb⟩:=GMarks.parts hm
   subst hM
   simp only[]
   simp only[go_sem]
   apply K0 (Cfr l s)
   by_cases hd:s.Pc≥l.length
   ·have hf:=hI.fin hd hok
    rw[hf]
    simp only[go_sem,hd]
    simp[walked,natI]
   ·obtain⟨k,o,hk,hko,hat,hoo,hkl⟩:=at_op h1 hs hd
    simp only[go_sem,hd]
    apply K0 (Cfs l s)
    simp only[go_sem]
    intros
    obtain⟨w,hw⟩:∃w,w=K1x l s:=⟨_,rfl⟩
    have hnx:=hI.next h1 h2 hd
    have hls:=hI.less h1 hd (wVal caps tick ins w asked)
    simp only[K5j,hk,Int.toNat_natCast,←hw]at hnx
    rw[←hk,hat]at hnx
    obtain⟨t0,t1,t2,t3,u0,u1,u2,v0,v1,v2,v3,P,hE,hEb⟩:=GMarks.parts (K76 (l:=l) (pc:=k) (got:=wGot caps tick w) (o:=o) hm (K70 h2 w))
    rw[hE]at hnx
    have hko2:l[s.Pc.toNat]? =some o:=by rw[hk,Int.toNat_natCast];exact hko
    have p0:0≤s.Pc:=by omega
    have p1:s.Pc<(l.length:Int):=by omega
    have hsk:o.Kind=7→CtrI Tryz.prog N49 [⟨false,[(false,.sl 4 (l.map GOp.enc))]⟩,iI s.Pc,oS (encM ⟨[r0,r1,r2,r3],[s0,s1,s2],[n0,n1,n2,n3],p⟩)] [none,none,none] [rS (encM ⟨[t0,t1,t2,t3],[u0,u1,u2],[v0,v1,v2,v3],P⟩)]:=fun h7=>by
     have:=Cff l k o ⟨[r0,r1,r2,r3],[s0,s1,s2],[n0,n1,n2,n3],p⟩ h7 hm (K8y h1) hko (by have:=K44 h1;omega)
     rw[←hE,K26,if_pos h7,hk]
     exact this
    have hst:¬o.Kind=7→CtrI Tryz.prog N4a [⟨true,[(false,tI o.Kind),(false,tI o.A),(false,tI o.B),(false,tI o.C)]⟩,oS (encM ⟨[r0,r1,r2,r3],[s0,s1,s2],[n0,n1,n2,n3],p⟩),iI (wGot caps tick w)] [none,none,none] [rS (encM ⟨[t0,t1,t2,t3],[u0,u1,u2],[v0,v1,v2,v3],P⟩)]:=fun h7=>by
     have:=Cfg o ⟨[r0,r1,r2,r3],[s0,s1,s2],[n0,n1,n2,n3],p⟩ (wGot caps tick w) hoo h7 hm (K70 h2 w)
     rw[←hE,K26,if_neg h7]
     exact this
    rw[←hw]
    have hst2:=Ceo l s (wVal caps tick ins w asked) (by omega)
    have hsl:=K44 h1
    by_cases q1:w.Kind=1
    ·have q4:¬w.Kind=4:=by omega
     have hg:wGot caps tick w=if (Ku caps w.Address tick).At<0 then 0 else 2^(Ku caps w.Address tick).At.toNat:=by simp only[wGot,if_pos q1]
     have hv:wVal caps tick ins w asked=K3i (K3e caps (Ku caps w.Address tick)):=by simp only[wVal,if_pos q1]
     rw[hg]at hst
     rw[hv]at hst2 hnx hls
     simp only[wCs,wMiss,wAsk,if_pos q1,if_neg q4]at hnx
     have hN:=Cen caps w.Address tick (by omega)
     have hR:=Cdq caps (Ku caps w.Address tick) (by omega)
     have hV:=Ca3 (K3e caps (Ku caps w.Address tick))
     simp only[go_sem,q1]
     rcases K6g (caps:=caps) w.Address tick with e|⟨j,r,e,hj,hr3⟩
     ·rw[e]at hst hst2 hnx hls hN hR hV
      have m1:((-1:Int)<0):=by omega
      have m2:¬((-1:Int)≥0):=by omega
      simp only[if_pos m1]at hst hnx
      have hmw:IntKind.i64.wrap ((miss:Int)+1)=((miss+1:Nat):Int):=by rw[wI (by omega) (by omega)];omega
      apply K0 hN
      simp only[go_sem]
      intros
      refine⟨by decide,by simp only[roomB];omega,?_⟩
      apply K0 hR
      simp only[go_sem]
      intros
      apply K0 hV
      simp only[go_sem,hmw,m2]
      intros
      by_cases h7:o.Kind=7
      ·have hst:=hsk h7
       simp only[encM]at hst
       simp only[go_sem,K4 hko2,p0,p1,h7]
       refine⟨rfl,rfl,rfl,?_⟩
       apply K7 hst
       simp only[go_sem,false_and,and_false,Ke]
       apply K0 hst2
       simp only[go_sem]
       intros
       exact⟨_,by simp[GChoice.enc,natI],hnx,hls⟩
      ·have hst:=hst h7
       simp only[encM]at hst
       simp only[go_sem,K4 hko2,p0,p1,h7]
       refine⟨rfl,rfl,rfl,?_⟩
       apply K7 hst
       simp only[go_sem,false_and,and_false,Ke]
       apply K0 hst2
       simp only[go_sem]
       intros
       exact⟨_,by simp[GChoice.enc,natI],hnx,hls⟩
     ·have hcf:=K80 h2
      have m1:¬((j:Int)<0):=by omega
      have m2:(j:Int)≥0:=by omega
      rw[e]at hst hst2 hnx hls hN hR hV
      simp only[if_neg m1,Int.toNat_natCast]at hst hnx
      apply K0 hN
      simp only[go_sem]
      intros
      refine⟨by decide,by simp only[roomB];omega,?_⟩
      apply K0 hR
      simp only[go_sem]
      intros
      apply K0 hV
      simp only[go_sem,m2]
      intros
      apply K0 (Cbh j (by omega))
      simp only[go_sem]
      intros
      by_cases h7:o.Kind=7
      ·have hst:=hsk h7
       simp only[encM]at hst
       simp only[go_sem,K4 hko2,p0,p1,h7]
       refine⟨rfl,rfl,rfl,?_⟩
       apply K7 hst
       simp only[go_sem,false_and,and_false,Ke]
       apply K0 hst2
       simp only[go_sem]
       intros
       exact⟨_,by simp[GChoice.enc,natI],hnx,hls⟩
      ·have hst:=hst h7
       simp only[encM]at hst
       simp only[go_sem,K4 hko2,p0,p1,h7]
       refine⟨rfl,rfl,rfl,?_⟩
       apply K7 hst
       simp only[go_sem,false_and,and_false,Ke]
       apply K0 hst2
       simp only[go_sem]
       intros
       exact⟨_,by simp[GChoice.enc,natI],hnx,hls⟩
    ·have hg:wGot caps tick w=0:=by simp only[wGot,if_neg q1]
     rw[hg]at hst
     simp only[wCs,wMiss,if_neg q1]at hnx
     by_cases q2:w.Kind=2
     ·have q4:¬w.Kind=4:=by omega
      have hv:wVal caps tick ins w asked=minT tick:=by simp only[wVal,if_neg q1,if_pos q2]
      rw[hv]at hst2 hnx hls
      simp only[wAsk,if_neg q4]at hnx
      simp only[minT]at hst2 hnx hls
      simp only[go_sem,q2,Int.reduceEq]
      apply K0 (Cbe 999 tick)
      simp only[go_sem]
      intros
      by_cases h7:o.Kind=7
      ·have hst:=hsk h7
       simp only[encM]at hst
       simp only[go_sem,K4 hko2,p0,p1,h7]
       refine⟨rfl,rfl,rfl,?_⟩
       apply K7 hst
       simp only[go_sem,false_and,and_false,Ke]
       apply K0 hst2
       simp only[go_sem]
       intros
       exact⟨_,by simp[natI],hnx,hls⟩
      ·have hst:=hst h7
       simp only[encM]at hst
       simp only[go_sem,K4 hko2,p0,p1,h7]
       refine⟨rfl,rfl,rfl,?_⟩
       apply K7 hst
       simp only[go_sem,false_and,and_false,Ke]
       apply K0 hst2
       simp only[go_sem]
       intros
       exact⟨_,by simp[natI],hnx,hls⟩
     ·by_cases q4:w.Kind=4
      ·have hv:wVal caps tick ins w asked=K2x ins asked:=by simp only[wVal,if_neg q1,if_neg q2,if_pos q4]
       rw[hv]at hst2 hnx hls
       simp only[wAsk,if_pos q4]at hnx
       have haw:IntKind.i64.wrap ((asked:Int)+1)=((asked+1:Nat):Int):=by rw[wI (by omega) (by omega)];omega
       by_cases hlt:asked<ins.length
       ·obtain⟨v,hvv⟩:=Kb hlt
        have c0:(0:Int)≤(asked:Int):=by omega
        have c1:(asked:Int)<(ins.length:Int):=by omega
        have hav:K2x ins asked=if 0≤v∧v≤999 then v else 0:=by simp only[K2x,hvv]
        rw[hav]at hst2 hnx hls
        simp only[go_sem,q4,Int.reduceEq,c0,c1,K4 hvv]
        apply K0 (C2 v 0 999)
        by_cases hr:0≤v∧v≤999
        ·rw[if_pos hr]at hst2 hnx hls
         simp only[go_sem,c0,c1,K4 hvv,hr,haw]
         intros
         by_cases h7:o.Kind=7
         ·have hst:=hsk h7
          simp only[encM]at hst
          simp only[go_sem,K4 hko2,p0,p1,h7]
          refine⟨rfl,rfl,rfl,?_⟩
          apply K7 hst
          simp only[go_sem,false_and,and_false,Ke]
          apply K0 hst2
          simp only[go_sem]
          intros
          exact⟨_,by simp[natI],hnx,hls⟩
         ·have hst:=hst h7
          simp only[encM]at hst
          simp only[go_sem,K4 hko2,p0,p1,h7]
          refine⟨rfl,rfl,rfl,?_⟩
          apply K7 hst
          simp only[go_sem,false_and,and_false,Ke]
          apply K0 hst2
          simp only[go_sem]
          intros
          exact⟨_,by simp[natI],hnx,hls⟩
        ·rw[if_neg hr]at hst2 hnx hls
         simp only[go_sem,hr,haw]
         intros
         by_cases h7:o.Kind=7
         ·have hst:=hsk h7
          simp only[encM]at hst
          simp only[go_sem,K4 hko2,p0,p1,h7]
          refine⟨rfl,rfl,rfl,?_⟩
          apply K7 hst
          simp only[go_sem,false_and,and_false,Ke]
          apply K0 hst2
          simp only[go_sem]
          intros
          exact⟨_,by simp[natI],hnx,hls⟩
         ·have hst:=hst h7
          simp only[encM]at hst
          simp only[go_sem,K4 hko2,p0,p1,h7]
          refine⟨rfl,rfl,rfl,?_⟩
          apply K7 hst
          simp only[go_sem,false_and,and_false,Ke]
          apply K0 hst2
          simp only[go_sem]
          intros
          exact⟨_,by simp[natI],hnx,hls⟩
       ·have c1:¬(asked:Int)<(ins.length:Int):=by omega
        have hav:K2x ins asked=0:=by simp only[K2x,List.getElem?_eq_none (by omega:ins.length≤asked)]
        rw[hav]at hst2 hnx hls
        simp only[go_sem,q4,Int.reduceEq,c1,haw]
        by_cases h7:o.Kind=7
        ·have hst:=hsk h7
         simp only[encM]at hst
         simp only[go_sem,K4 hko2,p0,p1,h7]
         refine⟨rfl,rfl,rfl,?_⟩
         apply K7 hst
         simp only[go_sem,false_and,and_false,Ke]
         apply K0 hst2
         simp only[go_sem]
         intros
         exact⟨_,by simp[natI],hnx,hls⟩
        ·have hst:=hst h7
         simp only[encM]at hst
         simp only[go_sem,K4 hko2,p0,p1,h7]
         refine⟨rfl,rfl,rfl,?_⟩
         apply K7 hst
         simp only[go_sem,false_and,and_false,Ke]
         apply K0 hst2
         simp only[go_sem]
         intros
         exact⟨_,by simp[natI],hnx,hls⟩
      ·have hv:wVal caps tick ins w asked=0:=by simp only[wVal,if_neg q1,if_neg q2,if_neg q4]
       rw[hv]at hst2 hnx hls
       simp only[wAsk,if_neg q4]at hnx
       simp only[go_sem,q1,q2,q4]
       by_cases h7:o.Kind=7
       ·have hst:=hsk h7
        simp only[encM]at hst
        simp only[go_sem,K4 hko2,p0,p1,h7]
        refine⟨rfl,rfl,rfl,?_⟩
        apply K7 hst
        simp only[go_sem,false_and,and_false,Ke]
        apply K0 hst2
        simp only[go_sem]
        intros
        exact⟨_,by simp[natI],hnx,hls⟩
       ·have hst:=hst h7
        simp only[encM]at hst
        simp only[go_sem,K4 hko2,p0,p1,h7]
        refine⟨rfl,rfl,rfl,?_⟩
        apply K7 hst
        simp only[go_sem,false_and,and_false,Ke]
        apply K0 hst2
        simp only[go_sem]
        intros
        exact⟨_,by simp[natI],hnx,hls⟩
 ·have hF:K1w l caps tick ins=⟨st0,[],[],0⟩:=K5q hok
  rw[hF]
  repeat' first
   |(refine And.intro ?_ ?_<;>intro h)
   |(apply K0 (C1y caps);simp only[go_sem])
   |(apply K0 (C2 tick 0 2000);simp only[go_sem])
   |(intro h)
  all_goals first|(exact⟨rfl,rfl,rfl,rfl,rfl,rfl,rfl⟩)|(exfalso;apply hok;simp_all[K4h];done)|skip
end Go.Proofs.YtjneccbpkckdfaaGreatR
namespace Go.Proofs.YtjneccbpkckdfaaGreatR
open Go Go.RowKit Go.Proofs
open Nat (reduceEqDiff reduceLT reduceLeDiff reduceAdd reduceMul)
open List (reduceReplicate)
def K2a(a:GArchive)(tick:Int)(ins:List Int):GWander:=K1w a.Script (served a) tick ins
theorem wanF_ok{l:List GOp}{caps:List GCapture}{tick:Int}{ins:List Int}(h1:K15 l=true)(h2:K2d caps=true):∀ {n:Nat} {t:WSt},WanI l caps tick ins t→WanI l caps tick ins (wanF l caps tick ins n t)
 |0,t,h=>h
 |n+1,t,h=>by
  rw[wanF]
  split
  ·exact h
  ·rename_i hd
   exact wanF_ok h1 h2 (h.next h1 h2 hd)
theorem Kbl{l:List GOp}{caps:List GCapture}{tick:Int}{ins:List Int}:(K1w l caps tick ins).size≤31∧(K1w l caps tick ins).Choices.length≤16:=by
 by_cases hok:K4h l caps tick=true
 ·obtain⟨h1,h2,h3⟩:=K7i hok
  have hI:=wanF_ok h1 h2 (WanI.start (caps:=caps) (tick:=tick) (ins:=ins) h1) (n:=20)
  have hsz:=K7e hI.ok
  obtain⟨f1,-⟩:=hI.few
  obtain⟨-,-,hn,-⟩:=hI.mok
  rw[K1w,if_pos hok]
  generalize wanF l caps tick ins 20 w00=t at*
  simp only[walked,GWander.size,Ke]
  omega
 ·rw[K5q hok]
  decide
theorem read_size(a:GArchive)(tick:Int)(ins:List Int):(K2a a tick ins).size≤31:=Kbl.1
def Y22(v0:Nat)(v1:Nat):MC:=
(Zs [.box 3 0 (.s 0),.alloc 6 1 [pz,.emp 1,.emp 1,.emp 1,.emp 2,.emp 1,pz]] [1,2,3,6] (.seq (.dreg [Zf [9,10,11,12] [2] (fS 7 3 1),Zg [9,10,11,12] [2] [0] (lF 8 1 7),Zc [7,8,11,12] (lT 9 10 3),{o:= .call 10 [2] (.f v0) [.s 9],hs:=[7,8,11,12],ws:=[2],bf:=[2]},Zf [7,8,9,10,12] [2] (mS 11 1),Zf [7,8,9,10,11] [2] (mS 12 2),{o:= .call 13 [3,4,5,6,7] (.f v1) [.s 8,.s 10,.s 11,.s 12],ws:=[3,4,5,6,7],bf:=(.range 6)},{o:=sS 7 6 13,ws:=[1,3,4,5,6,7],bf:=(.range 7)}] [6])
.ret))
attribute [go_sem] Y22
def M98:MC:=Y22 N2p N8c
theorem C93(a:GArchive)(tick:Int)(ins:List Int)(hs:a.size≤1073741824)(hi:ins.length≤1073741824):Ctr Tryz.prog N32 [aS a.enc,aI tick,aL 1 (ins.map encI)] [rS (K2a a tick ins).enc]:=by
 refine cA M98 8 14 [(.cell 6 true 7,[false,true,true,true,true,true,false])] Tryz.func30 rfl rfl ?_;unfold M98
 intro hb
 clear hb
 have hss:=K5p a
 simp only[go_sem]
 apply K0 (Ca5 a hs)
 simp only[go_sem]
 intros
 apply K0 (Ce6 a.Script (served a) tick ins (by omega) hi)
 simp only[go_sem]
 intros
 try exact⟨rfl,rfl,rfl,rfl,rfl,rfl,rfl⟩
def M9m:MC:=Y22 N2t N8y
theorem Cf1(a:GArchive)(tick:Int)(ins:List Int)(hs:a.size≤1073741824)(hi:ins.length≤1073741824):Ctr Tryz.prog N9y [aS a.enc,aI tick,aL 1 (ins.map encI)] [rS (K2a a tick ins).enc]:=by
 refine cA M9m 8 14 [(.cell 6 true 7,[false,true,true,true,true,true,false])] Tryz.func29 rfl rfl ?_;unfold M9m
 intro hb
 clear hb
 have hss:=K5p a
 simp only[go_sem]
 apply K0 (Cad a hs)
 simp only[go_sem]
 intros
 apply K0 (Ceq a.Script (served a) tick ins (by omega) hi)
 simp only[go_sem]
 intros
 try exact⟨rfl,rfl,rfl,rfl,rfl,rfl,rfl⟩
end Go.Proofs.YtjneccbpkckdfaaGreatR
namespace Go.Proofs.YtjneccbpkckdfaaGreatR
open Go Go.RowKit Go.Proofs
open Nat (reduceEqDiff reduceLT reduceLeDiff reduceAdd reduceMul)
open List (reduceReplicate)
def M2a:MC:=
(Zs [.box 3 0 (.s 0),.mv 6 cF] [1,2,3] (.seq (Zs [mS 16 2,nS 17 16,bC 18 .gtr 17 1048576] [1,2,3,18] (.cond (.s 18) (Zs [.mv 6 cT] [6] .ret) .skip))
(Zs [.mv 7 (ci 1048576)] [1,2,3,7] (Zs [lT 19 10 3,mS 20 7,.call 21 [] (.f N8m) [.s 19,.s 20],mS 7 21] [1,2,3,7] (.seq (Zs [mS 22 7,bC 23 .lss 22 0] [1,2,3,23] (.cond (.s 23) (Zs [.mv 6 cT] [6] .ret) .skip))
(Zs [lT 24 10 3,.call 25 [1,2,3,4,5,6,7,8,9] (.f N1d) [.s 24],mS 26 1,mS 27 2,.call 28 [10] (.f Nt) [.s 27],.call 29 [11,12,13,14,15] (.f N9y) [.s 25,.s 26,.s 28],.alloc 8 16 [pz,.emp 1,.emp 1,.emp 1,.emp 2,.emp 1,pz],sS 7 8 29] [1,2,3,8] (Zs [lT 30 10 3,.call 31 [17,18,19,20,21,22,23,24,25] (.f N1d) [.s 30],.alloc 9 26 [.emp 9,.emp 4,.emp 4,.emp 6,.emp 4,.emp 5,.emp 4,.emp 1,.emp 4,pz],sS 10 9 31] [1,2,3,8,9] (Zs [mS 32 2,.call 33 [27] (.f Nt) [.s 32],mS 10 33] [1,2,3,8,9,10] (Zs [lT 34 10 9,mS 35 1,mS 36 10,.call 37 [28,29,30,31,32] (.f N32) [.s 34,.s 35,.s 36],.alloc 11 33 [pz,.emp 1,.emp 1,.emp 1,.emp 2,.emp 1,pz],sS 7 11 37] [1,2,3,8,9,10,11] (.seq (Zs [lT 38 7 11,lT 39 7 8,.call 40 [] (.f N1v) [.s 38,.s 39],.un 41 .not (.s 40)] [1,2,3,8,9,10,11,41] (.cond (.s 41) (Zs [.mv 6 cF] [6] .ret) .skip))
(.seq (.seq (.dreg [Zf [43,44] [34,35,36,37,38,39,40,41,42] (lT 42 10 9),Zc [42] (lT 43 10 3),{o:= .call 44 [34,35,36,37,38,39,40,41,42] (.f N1d) [.s 43],hs:=[42],ws:=[34,35,36,37,38,39,40,41,42],bf:=[1]},Ze [0,1,2] (.call 45 [] (.f N8e) [.s 42,.s 44]),Ze (.range 4) (.un 46 .not (.s 45))] [1,2,3,8,9,10,11,46])
(.cond (.s 46) (Zs [.mv 6 cF] [6] .ret) .skip))
(.seq (Zs [mS 47 10,mS 48 2,.call 49 [43] (.f Nt) [.s 48],.call 50 [] (.f Np) [.s 47,.s 49],.un 51 .not (.s 50)] [1,2,3,8,9,10,11,51] (.cond (.s 51) (Zs [.mv 6 cF] [6] .ret) .skip))
(Zs [.mv 12 (ci 1)] [1,2,3,8,9,10,11,12] (Zs [lT 52 10 9,mS 53 12,.callI 54 [] (.f N4z) [.s 52,.s 53] [17,18,19,20,21,22,23,24,25] [],mS 12 54] [1,2,3,8,10,11,12] (Zs [mS 55 10,mS 56 12,.callI 57 [] (.f Nj) [.s 55,.s 56] [27] [],mS 12 57] [1,2,3,8,11,12] (.seq (.seq (.reg [Za (mS 58 12),Za (bC 59 .lss 58 0),Za (mS 60 59),Zb 60 false (lT 61 7 11),Zb 60 false (lT 62 7 8),Zb 60 false (.call 63 [] (.f N1v) [.s 61,.s 62]),Zb 60 false (.un 64 .not (.s 63)),Za (.pick 65 (.s 60) cT (.s 64))] [1,2,3,8,11,65])
(.cond (.s 65) (Zs [.mv 6 cF] [6] .ret) .skip))
(Zs [.mv 13 (ci 1)] [1,2,3,8,11,13] (Zs [lT 66 7 11,mS 67 13,.callI 68 [] (.f N6u) [.s 66,.s 67] [28,29,30,31,32] [],mS 13 68] [1,2,3,8,11,13] (Zs [.mv 14 (ci 1)] [1,2,3,8,11,13,14] (Zs [lT 69 7 11,mS 70 14,.call 71 [] (.f N25) [.s 69,.s 70],mS 14 71] [1,2,3,8,11,13,14] (.seq (Zs [mS 72 14,bC 73 .lss 72 0] [1,2,3,8,11,13,14,73] (.cond (.s 73) (Zs [.mv 6 cF] [6] .ret) .skip))
(.seq (Zs [mS 74 14,mS 75 13,bS 76 .neq 74 75] [1,2,3,8,11,13,76] (.cond (.s 76) (Zs [.mv 6 cF] [6] .ret) .skip))
(Zs [lT 77 10 3,.call 78 [44,45,46,47,48,49,50,51,52] (.f N1d) [.s 77],mS 79 1,mS 80 2,.call 81 [53] (.f Nt) [.s 80],.call 82 [54,55,56,57,58] (.f N32) [.s 78,.s 79,.s 81],.alloc 15 59 [pz,.emp 1,.emp 1,.emp 1,.emp 2,.emp 1,pz],sS 7 15 82] [8,11,13,15] (.seq (Zs [lT 83 7 15,lT 84 7 8,.call 85 [] (.f N1v) [.s 83,.s 84],.un 86 .not (.s 85)] [11,13,86] (.cond (.s 86) (Zs [.mv 6 cF] [6] .ret) .skip))
(Zs [.mv 14 (ci 1)] [11,13,14] (Zs [lT 87 7 11,mS 88 14,.call 89 [] (.f N25) [.s 87,.s 88],mS 14 89] [13,14] (.seq (Zs [mS 90 14,bC 91 .lss 90 0] [13,14,91] (.cond (.s 91) (Zs [.mv 6 cF] [6] .ret) .skip))
(.seq (Zs [mS 92 14,mS 93 13,bS 94 .neq 92 93] [94] (.cond (.s 94) (Zs [.mv 6 cF] [6] .ret) .skip))
(Zs [.mv 6 cT] [6] .ret)))))))))))))))))))))))))))))
theorem c_laws_FnExactReadPage(a:GArchive)(tick:Int)(ins:List Int):Ctr Tryz.prog Na4 [aS a.enc,aI tick,aL 1 (ins.map encI)] [rB true]:=by
 refine cA M2a 60 95 [(.tmp 6,[false])] Tryz.func6 rfl rfl ?_;unfold M2a
 intro hb
 clear hb
 simp only[go_sem]
 intro hI
 apply K0 (Cef a _ (by omega))
 simp only[go_sem]
 intro _ hz
 have hs:=szr_ok hz
 have hc_a:=GArchive.cts_le a
 have hc_ins:=ctL_le' (c:=iCt) (fun y=>by simp only[iCt];omega) ins
 have hr0:=GWander.cts_le (K2a a tick ins)
 have hl_read_size:=read_size a tick ins
 apply K0 (C1m a (by omega))
 simp only[go_sem]
 try intros
 apply K0 (C11 ins (by omega))
 simp only[go_sem]
 try intros
 apply K0 (Cf1 a tick ins (by omega) (by omega))
 simp only[go_sem]
 try intros
 apply K0 (C1m a (by omega))
 simp only[go_sem]
 try intros
 apply K0 (C11 ins (by omega))
 simp only[go_sem]
 try intros
 apply K0 (C93 a tick ins (by omega) (by omega))
 simp only[go_sem]
 try intros
 apply K0 (C2v (K2a a tick ins) (K2a a tick ins))
 simp only[go_sem]
 try intros
 apply K0 (C1m a (by omega))
 simp only[go_sem]
 try intros
 apply K0 (Ce8 a a)
 simp only[go_sem]
 try intros
 apply K0 (C11 ins (by omega))
 simp only[go_sem]
 try intros
 apply K0 (Cs ins ins)
 simp only[go_sem]
 try intros
 apply K7 (Cco a (1) (by omega) (by omega))
 simp only[go_sem]
 try intros
 apply K7 (Cb ins (1+((a).cts:Nat)) (by omega) (by omega))
 simp only[go_sem]
 try intros
 have hk:¬((1+((a).cts:Nat)+(ctL iCt (ins):Nat):Int))<0:=by omega
 simp only[go_sem,hk]
 try intros
 apply K0 (C2v (K2a a tick ins) (K2a a tick ins))
 simp only[go_sem]
 try intros
 apply K7 (Cdg (K2a a tick ins) (1) (by omega) (by omega))
 simp only[go_sem]
 try intros
 apply K0 (C5h (K2a a tick ins) (1) (by omega) (by omega))
 simp only[go_sem]
 have hq0:¬((1+((K2a a tick ins).cts:Nat):Int))<0:=by omega
 try simp only[go_sem,hq0]
 try intros
 apply K0 (C1m a (by omega))
 simp only[go_sem]
 try intros
 apply K0 (C11 ins (by omega))
 simp only[go_sem]
 try intros
 apply K0 (C93 a tick ins (by omega) (by omega))
 simp only[go_sem]
 try intros
 apply K0 (C2v (K2a a tick ins) (K2a a tick ins))
 simp only[go_sem]
 try intros
 apply K0 (C5h (K2a a tick ins) (1) (by omega) (by omega))
 simp only[go_sem]
 have hq0:¬((1+((K2a a tick ins).cts:Nat):Int))<0:=by omega
 try simp only[go_sem,hq0]
 try intros
end Go.Proofs.YtjneccbpkckdfaaGreatR
