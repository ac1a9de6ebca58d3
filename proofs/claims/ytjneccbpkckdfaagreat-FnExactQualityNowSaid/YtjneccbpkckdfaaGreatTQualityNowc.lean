/- What the functions compute that the laws of QualityNow reach: contracts. Conditions stand in each theorem. -/
import Derived.Test.YtjneccbpkckdfaaGreatTQualityNowb
set_option linter.unusedVariables false
set_option linter.unusedSimpArgs false
namespace Go.Proofs.YtjneccbpkckdfaaGreatR
open Go Go.RowKit Go.Proofs
open Nat (reduceEqDiff reduceLT reduceLeDiff reduceAdd reduceMul)
open List (reduceReplicate)
def M7c:MC:=
(Zs [.alloc 8 0 [pz,.emp 1,.emp 1,.emp 1,.emp 2,.emp 1,pz]] [0,1,2,3,8] (Zs [.call 17 [1,2,3] (.f N6e) [],.buildO 18 [pz,.emp 1,.emp 1,.emp 1,.emp 2,.emp 1,pz] [(0,4,.s 17)] [none,none,none,none,some 4,none,none],.alloc 9 5 [pz,.emp 1,.emp 1,.emp 1,.emp 2,.emp 1,pz],sS 7 9 18] [0,1,2,3,8,9] (.seq (.seq (.reg [Za (mS 19 0),Za (.call 20 [] (.f N2p) [.s 19]),Za (.un 21 .not (.s 20)),Za (mS 22 21),Zb 22 false (mS 23 1),Zb 22 false (.call 24 [] (.f N1v) [.s 23]),Zb 22 false (.un 25 .not (.s 24)),Za (.pick 26 (.s 22) cT (.s 25)),Za (mS 27 26),Zb 27 false (mS 28 2),Zb 27 false (.call 29 [] (.f N0) [.s 28,.c (.int .i64 0),.c (.int .i64 2000)]),Zb 27 false (.un 30 .not (.s 29)),Za (.pick 31 (.s 27) cT (.s 30))] [0,1,2,3,8,9,31])
(.cond (.s 31) (Zs [lT 32 7 9,sS 7 8 32] [8] .ret) .skip))
(Zs [.call 33 [6] (.f Nm) [.c (.int .i64 4)],.call 34 [7] (.f Nm) [.c (.int .i64 3)],.call 35 [8] (.f Nm) [.c (.int .i64 4)],.build 36 [.emp 1,.emp 1,.emp 1,pz] [(0,1,.s 33),(1,1,.s 34),(2,1,.s 35)],.alloc 10 9 [.emp 1,.emp 1,.emp 1,pz],sS 4 10 36] [0,1,2,3,8,9,10] (Zs [.mv 11 (ci 0)] [0,1,2,3,8,9,10,11] (.seq (.block 0 (.loop ([0,1,2,3,8,9,10,11],[10,11,12,13,14,15,16,17]) (.seq (Zs [mS 37 0,fS 38 9 0,lT 39 4 38,.call 40 [] (.f Naw) [.s 37,.s 39],.un 41 .not (.s 40)] [0,1,2,3,8,9,10,11,41] (cX 41 0))
(.block 1 (Zs [mS 42 0,fS 43 9 0,lT 44 4 43,.call 45 [] (.f Nax) [.s 42,.s 44],.alloc 12 10 [pz,pz,pz,pz],sS 4 12 45] [0,1,2,3,8,9,10,11,12] (Zs [.mv 13 (ci 0)] [0,1,2,3,8,9,10,11,12,13] (Zs [.mv 14 (ci 0)] [0,1,2,3,8,9,10,11,12,13,14] (.seq (Zs [fS 46 12 0,lF 47 1 46] [0,1,2,3,8,9,10,11,12,13,14,47] (.block 2 (Zs [bC 49 .eql 47 1,mS 48 49] [0,1,2,3,8,9,10,11,12,13,14,47,48] (.cond (.s 48) (Zs [mS 50 1,fS 51 12 1,lT 52 3 51,mS 53 2,.call 54 [] (.f N80) [.s 50,.s 52,.s 53],.alloc 15 11 [pz,pz],sS 2 15 54] [0,1,2,3,8,9,10,11,14,15] (Zs [fS 55 9 4,lF 56 1 55,lT 57 2 15,.lit 58 12 2 16 [.s 57],.app 59 4 2 16 (.s 56) (.s 58),fS 60 9 4,sS 1 60 59] [0,1,2,3,8,9,10,11,14,15] (Zs [mS 61 1,lT 62 2 15,.call 63 [13] (.f N6d) [.s 61,.s 62],.call 64 [] (.f N26) [.s 63],mS 13 64] [0,1,2,3,8,9,10,11,13,14,15] (Zs [fS 65 15 1,lF 66 1 65,bC 67 .geq 66 0] [0,1,2,3,8,9,10,11,13,14,15,67] (.cond (.s 67) (pr [fS 68 15 1,lF 69 1 68,.call 70 [] (.f N4k) [.s 69],mS 14 70] [0,1,2,3,8,9,10,11,13,14]) (pr [fS 71 9 6,lF 72 1 71,bC 73 .add 72 1,fS 74 9 6,sS 1 74 73] [0,1,2,3,8,9,10,11,13,14])))))) (Zs [bC 76 .eql 47 2,mS 75 76] [0,1,2,3,8,9,10,11,13,14,47,75] (.cond (.s 75) (pr [mS 77 2,.call 78 [] (.f N6g) [.c (.int .i64 999),.s 77],mS 13 78] [0,1,2,3,8,9,10,11,13,14]) (Zs [bC 80 .eql 47 4,mS 79 80] [0,1,2,3,8,9,10,11,13,14,79] (.cond (.s 79) (.seq (.seq (.reg [Za (mS 81 11),Za (mS 82 3),Za (nS 83 82),Za (bS 84 .lss 81 83),Za (mS 85 84),Zb 85 true (mS 86 3),Zb 85 true (mS 87 11),Zb 85 true (xS 88 1 86 87),Zb 85 true (lF 89 1 88),Zb 85 true (.call 90 [] (.f N0) [.s 89,.c (.int .i64 0),.c (.int .i64 999)]),Za (.pick 91 (.s 85) (.s 90) cF)] [0,1,2,3,8,9,10,11,13,14,91])
(.cond (.s 91) (pr [mS 92 3,mS 93 11,xS 94 1 92 93,lF 95 1 94,mS 13 95] [0,1,2,3,8,9,10,11,13,14]) .skip))
(pr [mS 96 11,bC 97 .add 96 1,mS 11 97] [0,1,2,3,8,9,10,11,13,14])) .skip))))))))
(.seq (Zs [mS 98 0,fS 99 9 0,fS 100 99 0,lF 101 1 100,xS 102 4 98 101,lT 103 4 102,.alloc 16 14 [pz,pz,pz,pz],sS 4 16 103] [0,1,2,3,8,9,10,11,13,14,16] (Zs [fS 104 16 0,lF 105 1 104,bC 106 .eql 105 7] [0,1,2,3,8,9,10,11,13,14,16,106] (.cond (.s 106) (pr [mS 107 0,fS 108 9 0,fS 109 108 0,lF 110 1 109,lT 111 4 10,.callI 112 [15,16,17] (.f N3m) [.s 107,.s 110,.s 111] [6,7,8] [],sS 4 10 112] [0,1,2,3,8,9,10,11,13]) (pr [lT 113 4 16,lT 114 4 10,mS 115 14,.callI 116 [15,16,17] (.f N3n) [.s 113,.s 114,.s 115] [6,7,8] [],sS 4 10 116] [0,1,2,3,8,9,10,11,13]))))
(.ren [(15,6),(16,7),(17,8)] (pr [mS 117 0,fS 118 9 0,lT 119 4 118,mS 120 13,.call 121 [1,2,3] (.f N82) [.s 117,.s 119,.s 120],fS 122 9 0,sS 4 122 121] [0,1,2,3,8,9,10,11])))))))))))
(Zs [fS 123 10 2,lF 124 1 123,fS 125 9 5,sS 1 125 124] [8,9] (Zs [lT 126 7 9,sS 7 8 126] [8] .ret))))))))
set_option maxHeartbeats 4000000 in
theorem Cde(l:List GOp)(caps:List GCapture)(tick:Int)(ins:List Int)(hs:caps.length+(caps.map GCapture.size).sum≤1073741824)(hi:ins.length≤1073741824):Ctr Tryz.prog N84 [aL 4 (l.map GOp.enc),aL 9 (caps.map GCapture.enc),aI tick,aL 1 (ins.map encI)] [rS (K1p l caps tick ins).enc]:=by
 refine cA M7c 18 127 [(.cell 8 true 7,[false,true,true,true,true,true,false])] Tryz.func104 rfl rfl ?_;unfold M7c
 intro hb
 clear hb
 simp only[go_sem]
 apply K0 Ccg
 simp only[go_sem]
 intros
 apply K0 (C8a l)
 simp only[go_sem]
 by_cases hok:K49 l caps tick=true
 ·obtain⟨h1,h2,h3⟩:=K7c hok
  simp only[go_sem,h1]
  apply K0 (C1r caps)
  simp only[go_sem,h2]
  apply K0 (C2 tick 0 2000)
  simp only[go_sem,h3]
  apply K0 (Ct 4 (by omega))
  simp only[go_sem]
  intros
  apply K0 (Ct 3 (by omega))
  simp only[go_sem]
  intros
  apply K0 (Ct 4 (by omega))
  simp only[go_sem]
  intros
  refine Kl (ι:=WSt) (fun t=>[(11,vI t.asked)]) (fun t=>[(1,⟨0,.row true 1 (t.s.Regs.map encI)⟩),(2,⟨0,.row true 1 (t.s.Slots.map encI)⟩),(3,⟨0,.row true 1 (t.s.Nodes.map encI)⟩),(4,⟨0,.row true 2 (t.cs.map GChoice.enc)⟩),
   (5,⟨0,.box [.pl (tI t.s.Pc),.ref 1 0 1 0 t.s.Regs.length,.ref 2 0 1 0 t.s.Slots.length,.ref 3 0 1 0 t.s.Nodes.length,.ref 4 0 2 0 t.cs.length,.emp 1,.pl (tI t.miss)]⟩),(6,⟨0,.row true 1 ((natI t.m.rg).map encI)⟩),(7,⟨0,.row true 1 ((natI t.m.sl).map encI)⟩),(8,⟨0,.row true 1 ((natI t.m.nd).map encI)⟩),(9,⟨0,.box [.ref 6 0 1 0 4,.ref 7 0 1 0 3,.ref 8 0 1 0 4,.pl (tI t.m.path)]⟩)]) (WanI l caps tick ins) (fun t=>l.length-t.s.Pc.toNat) w00 ?_
  simp only[go_sem]
  refine⟨?_,WanI.start h1,?_⟩
  ·simp only[go_sem]
   repeat' (first|rfl|apply And.intro)
  ·rintro ⟨s,cs,m,miss,asked⟩ hI
   have hs:=hI.ok
   have hm:=hI.mok
   have hsz:=K78 hs
   obtain⟨f1,f2,f3⟩:=hI.few
   simp only at hs hm hsz f1 f2 f3
   obtain⟨r0,r1,r2,r3,s0,s1,s2,n0,n1,n2,n3,p,hM,hMb⟩:=GMarks.parts hm
   subst hM
   simp only[]
   simp only[go_sem]
   apply K0 (Cec l s)
   by_cases hd:s.Pc≥l.length
   ·have hf:=hI.fin hd hok
    rw[hf]
    simp only[go_sem,hd]
    simp[walked,natI]
   ·obtain⟨k,o,hk,hko,hat,hoo,hkl⟩:=at_op h1 hs hd
    simp only[go_sem,hd]
    apply K0 (Ced l s)
    simp only[go_sem]
    intros
    obtain⟨w,hw⟩:∃w,w=K1q l s:=⟨_,rfl⟩
    have hnx:=hI.next h1 h2 hd
    have hls:=hI.less h1 hd (wVal caps tick ins w asked)
    simp only[K5b,hk,Int.toNat_natCast,←hw]at hnx
    rw[←hk,hat]at hnx
    obtain⟨t0,t1,t2,t3,u0,u1,u2,v0,v1,v2,v3,P,hE,hEb⟩:=GMarks.parts (K6y (l:=l) (pc:=k) (got:=wGot caps tick w) (o:=o) hm (K6s h2 w))
    rw[hE]at hnx
    have hko2:l[s.Pc.toNat]? =some o:=by rw[hk,Int.toNat_natCast];exact hko
    have p0:0≤s.Pc:=by omega
    have p1:s.Pc<(l.length:Int):=by omega
    have hsk:o.Kind=7→CtrI Tryz.prog N3m [⟨false,[(false,.sl 4 (l.map GOp.enc))]⟩,iI s.Pc,oS (encM ⟨[r0,r1,r2,r3],[s0,s1,s2],[n0,n1,n2,n3],p⟩)] [none,none,none] [rS (encM ⟨[t0,t1,t2,t3],[u0,u1,u2],[v0,v1,v2,v3],P⟩)]:=fun h7=>by
     have:=Ce1 l k o ⟨[r0,r1,r2,r3],[s0,s1,s2],[n0,n1,n2,n3],p⟩ h7 hm (K8v h1) hko (by have:=K3w h1;omega)
     rw[←hE,K1z,if_pos h7,hk]
     exact this
    have hst:¬o.Kind=7→CtrI Tryz.prog N3n [⟨true,[(false,tI o.Kind),(false,tI o.A),(false,tI o.B),(false,tI o.C)]⟩,oS (encM ⟨[r0,r1,r2,r3],[s0,s1,s2],[n0,n1,n2,n3],p⟩),iI (wGot caps tick w)] [none,none,none] [rS (encM ⟨[t0,t1,t2,t3],[u0,u1,u2],[v0,v1,v2,v3],P⟩)]:=fun h7=>by
     have:=Ce2 o ⟨[r0,r1,r2,r3],[s0,s1,s2],[n0,n1,n2,n3],p⟩ (wGot caps tick w) hoo h7 hm (K6s h2 w)
     rw[←hE,K1z,if_neg h7]
     exact this
    rw[←hw]
    have hst2:=Cdc l s (wVal caps tick ins w asked) (by omega)
    have hsl:=K3w h1
    by_cases q1:w.Kind=1
    ·have q4:¬w.Kind=4:=by omega
     have hg:wGot caps tick w=if (Kn caps w.Address tick).At<0 then 0 else 2^(Kn caps w.Address tick).At.toNat:=by simp only[wGot,if_pos q1]
     have hv:wVal caps tick ins w asked=K37 (K33 caps (Kn caps w.Address tick)):=by simp only[wVal,if_pos q1]
     rw[hg]at hst
     rw[hv]at hst2 hnx hls
     simp only[wCs,wMiss,wAsk,if_pos q1,if_neg q4]at hnx
     have hN:=Cda caps w.Address tick (by omega)
     have hR:=Ccf caps (Kn caps w.Address tick) (by omega)
     have hV:=C92 (K33 caps (Kn caps w.Address tick))
     simp only[go_sem,q1]
     rcases K67 (caps:=caps) w.Address tick with e|⟨j,r,e,hj,hr3⟩
     ·rw[e]at hst hst2 hnx hls hN hR hV
      have m1:((-1:Int)<0):=by omega
      have m2:¬((-1:Int)≥0):=by omega
      simp only[if_pos m1]at hst hnx
      have hmw:IntKind.i64.wrap ((miss:Int)+1)=((miss+1:Nat):Int):=by rw[wI (by omega) (by omega)];omega
      apply K0 hN
      simp only[go_sem]
      intros
      refine⟨by decide,by simp only[roomB];omega,?_⟩
      apply K0 hR
      simp only[go_sem]
      intros
      apply K0 hV
      simp only[go_sem,hmw,m2]
      intros
      by_cases h7:o.Kind=7
      ·have hst:=hsk h7
       simp only[encM]at hst
       simp only[go_sem,K1 hko2,p0,p1,h7]
       refine⟨rfl,rfl,rfl,?_⟩
       apply K6 hst
       simp only[go_sem,false_and,and_false,K9]
       apply K0 hst2
       simp only[go_sem]
       intros
       exact⟨_,by simp[GChoice.enc,natI],hnx,hls⟩
      ·have hst:=hst h7
       simp only[encM]at hst
       simp only[go_sem,K1 hko2,p0,p1,h7]
       refine⟨rfl,rfl,rfl,?_⟩
       apply K6 hst
       simp only[go_sem,false_and,and_false,K9]
       apply K0 hst2
       simp only[go_sem]
       intros
       exact⟨_,by simp[GChoice.enc,natI],hnx,hls⟩
     ·have hcf:=K7v h2
      have m1:¬((j:Int)<0):=by omega
      have m2:(j:Int)≥0:=by omega
      rw[e]at hst hst2 hnx hls hN hR hV
      simp only[if_neg m1,Int.toNat_natCast]at hst hnx
      apply K0 hN
      simp only[go_sem]
      intros
      refine⟨by decide,by simp only[roomB];omega,?_⟩
      apply K0 hR
      simp only[go_sem]
      intros
      apply K0 hV
      simp only[go_sem,m2]
      intros
      apply K0 (Ca9 j (by omega))
      simp only[go_sem]
      intros
      by_cases h7:o.Kind=7
      ·have hst:=hsk h7
       simp only[encM]at hst
       simp only[go_sem,K1 hko2,p0,p1,h7]
       refine⟨rfl,rfl,rfl,?_⟩
       apply K6 hst
       simp only[go_sem,false_and,and_false,K9]
       apply K0 hst2
       simp only[go_sem]
       intros
       exact⟨_,by simp[GChoice.enc,natI],hnx,hls⟩
      ·have hst:=hst h7
       simp only[encM]at hst
       simp only[go_sem,K1 hko2,p0,p1,h7]
       refine⟨rfl,rfl,rfl,?_⟩
       apply K6 hst
       simp only[go_sem,false_and,and_false,K9]
       apply K0 hst2
       simp only[go_sem]
       intros
       exact⟨_,by simp[GChoice.enc,natI],hnx,hls⟩
    ·have hg:wGot caps tick w=0:=by simp only[wGot,if_neg q1]
     rw[hg]at hst
     simp only[wCs,wMiss,if_neg q1]at hnx
     by_cases q2:w.Kind=2
     ·have q4:¬w.Kind=4:=by omega
      have hv:wVal caps tick ins w asked=minT tick:=by simp only[wVal,if_neg q1,if_pos q2]
      rw[hv]at hst2 hnx hls
      simp only[wAsk,if_neg q4]at hnx
      simp only[minT]at hst2 hnx hls
      simp only[go_sem,q2,Int.reduceEq]
      apply K0 (Ca6 999 tick)
      simp only[go_sem]
      intros
      by_cases h7:o.Kind=7
      ·have hst:=hsk h7
       simp only[encM]at hst
       simp only[go_sem,K1 hko2,p0,p1,h7]
       refine⟨rfl,rfl,rfl,?_⟩
       apply K6 hst
       simp only[go_sem,false_and,and_false,K9]
       apply K0 hst2
       simp only[go_sem]
       intros
       exact⟨_,by simp[natI],hnx,hls⟩
      ·have hst:=hst h7
       simp only[encM]at hst
       simp only[go_sem,K1 hko2,p0,p1,h7]
       refine⟨rfl,rfl,rfl,?_⟩
       apply K6 hst
       simp only[go_sem,false_and,and_false,K9]
       apply K0 hst2
       simp only[go_sem]
       intros
       exact⟨_,by simp[natI],hnx,hls⟩
     ·by_cases q4:w.Kind=4
      ·have hv:wVal caps tick ins w asked=K2p ins asked:=by simp only[wVal,if_neg q1,if_neg q2,if_pos q4]
       rw[hv]at hst2 hnx hls
       simp only[wAsk,if_pos q4]at hnx
       have haw:IntKind.i64.wrap ((asked:Int)+1)=((asked+1:Nat):Int):=by rw[wI (by omega) (by omega)];omega
       by_cases hlt:asked<ins.length
       ·obtain⟨v,hvv⟩:=K7 hlt
        have c0:(0:Int)≤(asked:Int):=by omega
        have c1:(asked:Int)<(ins.length:Int):=by omega
        have hav:K2p ins asked=if 0≤v∧v≤999 then v else 0:=by simp only[K2p,hvv]
        rw[hav]at hst2 hnx hls
        simp only[go_sem,q4,Int.reduceEq,c0,c1,K1 hvv]
        apply K0 (C2 v 0 999)
        by_cases hr:0≤v∧v≤999
        ·rw[if_pos hr]at hst2 hnx hls
         simp only[go_sem,c0,c1,K1 hvv,hr,haw]
         intros
         by_cases h7:o.Kind=7
         ·have hst:=hsk h7
          simp only[encM]at hst
          simp only[go_sem,K1 hko2,p0,p1,h7]
          refine⟨rfl,rfl,rfl,?_⟩
          apply K6 hst
          simp only[go_sem,false_and,and_false,K9]
          apply K0 hst2
          simp only[go_sem]
          intros
          exact⟨_,by simp[natI],hnx,hls⟩
         ·have hst:=hst h7
          simp only[encM]at hst
          simp only[go_sem,K1 hko2,p0,p1,h7]
          refine⟨rfl,rfl,rfl,?_⟩
          apply K6 hst
          simp only[go_sem,false_and,and_false,K9]
          apply K0 hst2
          simp only[go_sem]
          intros
          exact⟨_,by simp[natI],hnx,hls⟩
        ·rw[if_neg hr]at hst2 hnx hls
         simp only[go_sem,hr,haw]
         intros
         by_cases h7:o.Kind=7
         ·have hst:=hsk h7
          simp only[encM]at hst
          simp only[go_sem,K1 hko2,p0,p1,h7]
          refine⟨rfl,rfl,rfl,?_⟩
          apply K6 hst
          simp only[go_sem,false_and,and_false,K9]
          apply K0 hst2
          simp only[go_sem]
          intros
          exact⟨_,by simp[natI],hnx,hls⟩
         ·have hst:=hst h7
          simp only[encM]at hst
          simp only[go_sem,K1 hko2,p0,p1,h7]
          refine⟨rfl,rfl,rfl,?_⟩
          apply K6 hst
          simp only[go_sem,false_and,and_false,K9]
          apply K0 hst2
          simp only[go_sem]
          intros
          exact⟨_,by simp[natI],hnx,hls⟩
       ·have c1:¬(asked:Int)<(ins.length:Int):=by omega
        have hav:K2p ins asked=0:=by simp only[K2p,List.getElem?_eq_none (by omega:ins.length≤asked)]
        rw[hav]at hst2 hnx hls
        simp only[go_sem,q4,Int.reduceEq,c1,haw]
        by_cases h7:o.Kind=7
        ·have hst:=hsk h7
         simp only[encM]at hst
         simp only[go_sem,K1 hko2,p0,p1,h7]
         refine⟨rfl,rfl,rfl,?_⟩
         apply K6 hst
         simp only[go_sem,false_and,and_false,K9]
         apply K0 hst2
         simp only[go_sem]
         intros
         exact⟨_,by simp[natI],hnx,hls⟩
        ·have hst:=hst h7
         simp only[encM]at hst
         simp only[go_sem,K1 hko2,p0,p1,h7]
         refine⟨rfl,rfl,rfl,?_⟩
         apply K6 hst
         simp only[go_sem,false_and,and_false,K9]
         apply K0 hst2
         simp only[go_sem]
         intros
         exact⟨_,by simp[natI],hnx,hls⟩
      ·have hv:wVal caps tick ins w asked=0:=by simp only[wVal,if_neg q1,if_neg q2,if_neg q4]
       rw[hv]at hst2 hnx hls
       simp only[wAsk,if_neg q4]at hnx
       simp only[go_sem,q1,q2,q4]
       by_cases h7:o.Kind=7
       ·have hst:=hsk h7
        simp only[encM]at hst
        simp only[go_sem,K1 hko2,p0,p1,h7]
        refine⟨rfl,rfl,rfl,?_⟩
        apply K6 hst
        simp only[go_sem,false_and,and_false,K9]
        apply K0 hst2
        simp only[go_sem]
        intros
        exact⟨_,by simp[natI],hnx,hls⟩
       ·have hst:=hst h7
        simp only[encM]at hst
        simp only[go_sem,K1 hko2,p0,p1,h7]
        refine⟨rfl,rfl,rfl,?_⟩
        apply K6 hst
        simp only[go_sem,false_and,and_false,K9]
        apply K0 hst2
        simp only[go_sem]
        intros
        exact⟨_,by simp[natI],hnx,hls⟩
 ·have hF:K1p l caps tick ins=⟨st0,[],[],0⟩:=K5i hok
  rw[hF]
  repeat' first
   |(refine And.intro ?_ ?_<;>intro h)
   |(apply K0 (C1r caps);simp only[go_sem])
   |(apply K0 (C2 tick 0 2000);simp only[go_sem])
   |(intro h)
  all_goals first|(exact⟨rfl,rfl,rfl,rfl,rfl,rfl,rfl⟩)|(exfalso;apply hok;simp_all[K49];done)|skip
def K4z(a:GArchive)(tick:Int)(ins:List Int):GWander:=K1p a.Script (served a) tick ins
theorem wanF_ok{l:List GOp}{caps:List GCapture}{tick:Int}{ins:List Int}(h1:Kz l=true)(h2:K24 caps=true):∀ {n:Nat} {t:WSt},WanI l caps tick ins t→WanI l caps tick ins (wanF l caps tick ins n t)
 |0,t,h=>h
 |n+1,t,h=>by
  rw[wanF]
  split
  ·exact h
  ·rename_i hd
   exact wanF_ok h1 h2 (h.next h1 h2 hd)
theorem K7s{l:List GOp}{caps:List GCapture}{tick:Int}{ins:List Int}:(K1p l caps tick ins).size≤31∧(K1p l caps tick ins).Choices.length≤16:=by
 by_cases hok:K49 l caps tick=true
 ·obtain⟨h1,h2,h3⟩:=K7c hok
  have hI:=wanF_ok h1 h2 (WanI.start (caps:=caps) (tick:=tick) (ins:=ins) h1) (n:=20)
  have hsz:=K78 hI.ok
  obtain⟨f1,-⟩:=hI.few
  obtain⟨-,-,hn,-⟩:=hI.mok
  rw[K1p,if_pos hok]
  generalize wanF l caps tick ins 20 w00=t at*
  simp only[walked,GWander.size,K9]
  omega
 ·rw[K5i hok]
  decide
def K8p(a:GArchive)(ins:List Int):Int:=K73 (K4z a a.Now ins).Choices
def Y20(v0:Nat)(v1:Nat):MC:=
(Zs [.box 3 0 (.s 0),.alloc 6 1 [pz,.emp 1,.emp 1,.emp 1,.emp 2,.emp 1,pz]] [1,2,3,6] (.seq (.dreg [Zf [9,10,11,12] [2] (fS 7 3 1),Zg [9,10,11,12] [2] [0] (lF 8 1 7),Zc [7,8,11,12] (lT 9 10 3),{o:= .call 10 [2] (.f v0) [.s 9],hs:=[7,8,11,12],ws:=[2],bf:=[2]},Zf [7,8,9,10,12] [2] (mS 11 1),Zf [7,8,9,10,11] [2] (mS 12 2),{o:= .call 13 [3,4,5,6,7] (.f v1) [.s 8,.s 10,.s 11,.s 12],ws:=[3,4,5,6,7],bf:=(.range 6)},{o:=sS 7 6 13,ws:=[1,3,4,5,6,7],bf:=(.range 7)}] [6])
.ret))
attribute [go_sem] Y20
def M8d:MC:=Y20 N2e N7j
theorem Cdh(a:GArchive)(tick:Int)(ins:List Int)(hs:a.size≤1073741824)(hi:ins.length≤1073741824):Ctr Tryz.prog N8q [aS a.enc,aI tick,aL 1 (ins.map encI)] [rS (K4z a tick ins).enc]:=by
 refine cA M8d 8 14 [(.cell 6 true 7,[false,true,true,true,true,true,false])] Tryz.func30 rfl rfl ?_;unfold M8d
 intro hb
 clear hb
 have hss:=K5h a
 simp only[go_sem]
 apply K0 (C93 a hs)
 simp only[go_sem]
 intros
 apply K0 (Ccw a.Script (served a) tick ins (by omega) hi)
 simp only[go_sem]
 intros
 try exact⟨rfl,rfl,rfl,rfl,rfl,rfl,rfl⟩
def M8m:MC:=Y20 N2f N84
theorem Cdo(a:GArchive)(tick:Int)(ins:List Int)(hs:a.size≤1073741824)(hi:ins.length≤1073741824):Ctr Tryz.prog N8x [aS a.enc,aI tick,aL 1 (ins.map encI)] [rS (K4z a tick ins).enc]:=by
 refine cA M8m 8 14 [(.cell 6 true 7,[false,true,true,true,true,true,false])] Tryz.func29 rfl rfl ?_;unfold M8m
 intro hb
 clear hb
 have hss:=K5h a
 simp only[go_sem]
 apply K0 (C98 a hs)
 simp only[go_sem]
 intros
 apply K0 (Cde a.Script (served a) tick ins (by omega) hi)
 simp only[go_sem]
 intros
 try exact⟨rfl,rfl,rfl,rfl,rfl,rfl,rfl⟩
def Y21(v0:Nat)(v1:Nat):MC:=
(Zs [.box 2 0 (.s 0),.mv 4 (ci 0)] [1,2] (Zs [lT 5 10 2,fS 6 2 9,lF 7 1 6,mS 8 1,.call 9 [1,2,3,4,5] (.f v0) [.s 5,.s 7,.s 8],.fldv 10 (.s 9) 4 1 false,.call 11 [] (.f v1) [.s 10],mS 4 11] [4] .ret))
attribute [go_sem] Y21
def M4z:MC:=Y21 N8q N7g
theorem Cbx(a:GArchive)(ins:List Int)(hs:a.size≤1073741824)(hi:ins.length≤1073741824):Ctr Tryz.prog N5t [aS a.enc,aL 1 (ins.map encI)] [rI (K8p a ins)]:=by
 refine cA M4z 6 12 [(.tmp 4,[false])] Tryz.func27 rfl rfl ?_;unfold M4z
 intro hb
 clear hb
 have hl:=(K7s (l:=a.Script) (caps:=served a) (tick:=a.Now) (ins:=ins)).2
 simp only[go_sem]
 apply K0 (Cdh a a.Now ins hs hi)
 simp only[go_sem]
 apply K0 (Cct (K4z a a.Now ins).Choices (by simp only[K4z];omega))
 simp only[go_sem]
 intros
 try rfl
def M5k:MC:=Y21 N8x N81
theorem Cce(a:GArchive)(ins:List Int)(hs:a.size≤1073741824)(hi:ins.length≤1073741824):Ctr Tryz.prog N6c [aS a.enc,aL 1 (ins.map encI)] [rI (K8p a ins)]:=by
 refine cA M5k 6 12 [(.tmp 4,[false])] Tryz.func25 rfl rfl ?_;unfold M5k
 intro hb
 clear hb
 have hl:=(K7s (l:=a.Script) (caps:=served a) (tick:=a.Now) (ins:=ins)).2
 simp only[go_sem]
 apply K0 (Cdo a a.Now ins hs hi)
 simp only[go_sem]
 apply K0 (Cdb (K4z a a.Now ins).Choices (by simp only[K4z];omega))
 simp only[go_sem]
 intros
 try rfl
def M1s:MC:=
(Zs [.box 2 0 (.s 0),.mv 4 cF] [1,2] (.seq (Zs [mS 10 1,nS 11 10,bC 12 .gtr 11 1048576] [1,2,12] (.cond (.s 12) (Zs [.mv 4 cT] [4] .ret) .skip))
(Zs [.mv 5 (ci 1048576)] [1,2,5] (Zs [lT 13 10 2,mS 14 5,.call 15 [] (.f N7r) [.s 13,.s 14],mS 5 15] [1,2,5] (.seq (Zs [mS 16 5,bC 17 .lss 16 0] [1,2,17] (.cond (.s 17) (Zs [.mv 4 cT] [4] .ret) .skip))
(Zs [lT 18 10 2,.call 19 [1,2,3,4,5,6,7,8,9] (.f N1h) [.s 18],mS 20 1,.call 21 [10] (.f Nv) [.s 20],.call 22 [] (.f N6c) [.s 19,.s 21],mS 6 22] [1,2,6] (Zs [lT 23 10 2,.call 24 [11,12,13,14,15,16,17,18,19] (.f N1h) [.s 23],.alloc 7 20 [.emp 9,.emp 4,.emp 4,.emp 6,.emp 4,.emp 5,.emp 4,.emp 1,.emp 4,pz],sS 10 7 24] [1,2,6,7] (Zs [mS 25 1,.call 26 [21] (.f Nv) [.s 25],mS 8 26] [1,2,6,7,8] (Zs [lT 27 10 7,mS 28 8,.call 29 [] (.f N5t) [.s 27,.s 28],mS 9 29] [1,2,6,7,8,9] (.seq (Zs [mS 30 9,mS 31 6,bS 32 .neq 30 31] [1,2,7,8,32] (.cond (.s 32) (Zs [.mv 4 cF] [4] .ret) .skip))
(.seq (.seq (.dreg [Zf [34,35] [22,23,24,25,26,27,28,29,30] (lT 33 10 7),Zc [33] (lT 34 10 2),{o:= .call 35 [22,23,24,25,26,27,28,29,30] (.f N1h) [.s 34],hs:=[33],ws:=[22,23,24,25,26,27,28,29,30],bf:=[1]},Ze [0,1,2] (.call 36 [] (.f N7m) [.s 33,.s 35]),Ze (.range 4) (.un 37 .not (.s 36))] [1,8,37])
(.cond (.s 37) (Zs [.mv 4 cF] [4] .ret) .skip))
(.seq (Zs [mS 38 8,mS 39 1,.call 40 [31] (.f Nv) [.s 39],.call 41 [] (.f N1i) [.s 38,.s 40],.un 42 .not (.s 41)] [42] (.cond (.s 42) (Zs [.mv 4 cF] [4] .ret) .skip))
(Zs [.mv 4 cT] [4] .ret)))))))))))))
theorem c_laws_FnExactQualityNow(a:GArchive)(ins:List Int):Ctr Tryz.prog N7l [aS a.enc,aL 1 (ins.map encI)] [rB true]:=by
 refine cA M1s 32 43 [(.tmp 4,[false])] Tryz.func5 rfl rfl ?_;unfold M1s
 intro hb
 clear hb
 simp only[go_sem]
 intro hI
 apply K0 (Cd2 a _ (by omega))
 simp only[go_sem]
 intro _ hz
 have hs:=szr_ok hz
 have hc_a:=GArchive.cts_le a
 have hc_ins:=ctL_le' (c:=iCt) (fun y=>by simp only[iCt];omega) ins
 apply K0 (C29 a (by omega))
 simp only[go_sem]
 try intros
 apply K0 (C19 ins (by omega))
 simp only[go_sem]
 try intros
 apply K0 (Cce a ins (by omega) (by omega))
 simp only[go_sem]
 try intros
 apply K0 (C29 a (by omega))
 simp only[go_sem]
 try intros
 apply K0 (C19 ins (by omega))
 simp only[go_sem]
 try intros
 apply K0 (Cbx a ins (by omega) (by omega))
 simp only[go_sem]
 try intros
 apply K0 (C29 a (by omega))
 simp only[go_sem]
 try intros
 apply K0 (Ccy a a)
 simp only[go_sem]
 try intros
 apply K0 (C19 ins (by omega))
 simp only[go_sem]
 try intros
 apply K0 (C27 ins ins)
 simp only[go_sem]
 try intros
end Go.Proofs.YtjneccbpkckdfaaGreatR
