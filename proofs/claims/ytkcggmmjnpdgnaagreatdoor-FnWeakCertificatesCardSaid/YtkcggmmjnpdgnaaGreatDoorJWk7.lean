/- Walks, printed by program. -/
import Derived.Test.YtkcggmmjnpdgnaaGreatDoorJWk5
set_option linter.all false
namespace Gv
open Gv.Hp renaming le_refl→zR
open Go.Value renaming slice→zS,bool→zB,pointer→zP,agg→zA
open Option.some renaming inj→zI
open Gv.Hp renaming le_trans→zL
open Go Go.Proofs Go.Proofs.Tryz
set_option maxRecDepth 20000
set_option maxHeartbeats 40000000
variable {G:uK} {K:Hp} {L:List gQ} {w:World} {b1 c3 c8 c11 c17 c20 c6 c9 c12 c18 c21 c2 c5:Nat} {a2 a4 a7 a10 a13 a16 a19 a5 a8 a11 a14 a17 a20 a1:Option Addr}
theorem aDF {e:(List UInt8)} {c1 c2:Int} {a:cB} {u:Nat} {b:cB} {x:Nat} {R:((List (List Int)) × Int × Int)} (hm:aEE e c1 c2 a b=some R) (hs:aI G K (aN 5 K a2 c3 e::box b1 56 [zS a2 e.length c3,i64 c1,Value.int .u64 c2]::L) w) (h6:dT K a4 u (zC a a7 c8 a10 c11)) (h9:bW K a7 c8 a.L) (d5:bW K a10 c11 a.E) (a3:dT K a13 x (zC b a16 c17 a19 c20)) (d6:bW K a16 c17 b.L) (d7:bW K a19 c20 b.E):
  Calls prog 31 ([zP (some ⟨b1,0,none⟩),cC a4 u,cC a13 x]:List Value).toArray w (eV fun v w'=>∃ K' g4 g5,v=zS g4 R.1.length g5/\Hp.le K K'/\aI G K' (aN 63 K' g4 g5 R.1::aN 5 K a2 c3 e::box b1 56 [zS a2 e.length c3,i64 R.2.1,Value.int .u64 R.2.2]::L) w'):=by
 let a5:=[zS a2 e.length c3,i64 c1,Value.int .u64 c2]
 let j:=aN 5 K a2 c3 e
 refine aR func31 rfl (by kernel_rfl) (by show (3:Nat)<=99;decide) ?_;unfold aEE at hm
 refine aK (aE (v:=zS none 0 0) (aG (aO (aO (cH [0,1,2] (fun f w=>∃ d9,vL e c1 c2 a b d9=some R/\f 18=zB d9/\aI G K (j::box b1 56 a5::L) w) ?_ ?_)))))
 ·rintro f v1 ⟨d9,hm,g6,g7⟩
  unfold vL at hm
  refine aB ?_
  rcases aH hm with ⟨e0,hm⟩|⟨e0,hm⟩
  ·refine aL e0 g6 (aK (bT (Kt:=K) (xs:=([0,0]:List Int)) (cs:=[i64 0,i64 0]) (vs:=[(0,i64 0),(1,i64 0)]) bV iD rfl rfl g7 rfl (by kernel_rfl) rfl rfl rfl ⟨rfl,rfl,trivial⟩ (fun Z g8 (k7:aI G K (aN 2 K Z 2 ([0,0]:List Int)::j::box b1 56 a5::L) g8)=>?_)))
   have k8:aI G K (rows [2] ([(Z,2)]:List (Dp.Hd (List Int))) [([0,0]:List Int)]::j::box b1 56 a5::L) g8:=aI.rowsOne k7
   refine bT (Kt:=K) (xs:=dZ ([(Z,2)]:List (Dp.Hd (List Int))) ([([0,0]:List Int)]:List (List Int))) (cs:=[zS Z ([0,0]:List Int).length 2]) (vs:=[(0,zS Z ([0,0]:List Int).length 2)]) eL qL rfl rfl k8 rfl (by kernel_rfl) rfl rfl rfl ⟨rfl,trivial⟩ ?_
   intro g9 k9 (l0:aI G K (aN 63 K g9 1 (dZ ([(Z,2)]:List (Dp.Hd (List Int))) ([([0,0]:List Int)]:List (List Int)))::rows [2] ([(Z,2)]:List (Dp.Hd (List Int))) ([([0,0]:List Int)]:List (List Int))::j::box b1 56 a5::L) k9)
   refine aE (v:=zS g9 ([([0,0]:List Int)]:List (List Int)).length 1) (aG ?_);obtain ⟨v2,v3,v4,v5⟩:=aI.frzRows (i:=0) l0 rfl rfl rfl
   exact eB
  ·refine aJ e0 g6 (aW (aB (aK (aF (v:=cC a4 u) (aF (v:=cC a13 x) ?_)))));obtain ⟨l,l1,hm⟩:=aC hm
   refine aP (vs:=[cC a4 u,cC a13 x]) call73 rfl (aAi l1 g7 h6 h9 d5 a3 d6 d7) ?_
   rintro _ v6 ⟨a6,a8,a9,b0,rfl,l2⟩
   refine cI (vs:=zG) zeroValue27 l2 rfl (fun c4 v7 l3=>(cG (i:=0) (ns:=(zC l a6 a8 a9 b0)) (us:=(zC l a6 a8 a9 b0)) sizeOf27 l3 rfl rfl rfl rfl rfl (dN rfl) rfl rfl (fun l4 (l5:aI G K (box c4 27 (zC l a6 a8 a9 b0)::aN 9 K a6 a8 l.L::aN 66 K a9 b0 l.E::j::box b1 56 a5::L) l4)=>(aG (aK ?_)))));obtain ⟨v8,l6,l7,l8,l9⟩:=aI.lendSp l5 (zR _) zt1
   obtain ⟨v9,m0,m1,m2,m3⟩:=aI.lendSp l8 l6 zt1
   obtain ⟨w0,h0,m4,m5,m6⟩:=aI.lendBp m2 .head
   obtain ⟨e1,m7,hm⟩:=aC hm
   refine aP (vs:=[cC (some ⟨c4,0,none⟩) 0]) call74 rfl (aBB m7 m5 m4 (l7.mono (zL m0 h0)) (m1.mono h0)) ?_
   rintro _ m8 ⟨e2,e3,rfl,m9⟩
   have n0:=m6 _ _ m9
   have n1:=m3 _ _ n0
   have n2:=l9 _ _ n1
   refine aE (v:=zS e2 e1.length e3) (aG (iQ [0,1,2] (fun f w=>∃ c5 c6 b5 c7 c9,vK e a b c5 c6 b5=some R/\f 8=zS c7 b5.length c9/\aI G K (aN 2 K c7 c9 b5::j::box b1 56 [zS a2 e.length c3,i64 c5,Value.int .u64 c6]::L) w) ?_ ?_))
   ·rintro f n3 ⟨c5,c6,b5,c7,c9,hm,n4,n5⟩
    unfold vK at hm
    refine aK (aF (v:=cC a4 u) (aF (v:=cC a13 x) (bC n4 ?_)));obtain ⟨n6,m,n7,e4⟩:=aI.giveSp n5 (zR _) .head
    replace e4:aI G n6 (j::box b1 56 [zS a2 e.length c3,i64 c5,Value.int .u64 c6]::L) n3:=e4
    obtain ⟨k,n8,hm⟩:=aC hm
    refine aP (vs:=[cC a4 u,cC a13 x,zS c7 b5.length c9]) call76 rfl (aBC n8 e4 (h6.mono m) (h9.mono m) (d5.mono m) (a3.mono m) (d6.mono m) (d7.mono m) n7) ?_
    rintro _ w1 ⟨o,c,d,rfl,r,w2⟩
    refine aE (v:=zS c k.length d) (aG (aO (aO (cH [0,1,2,9] (fun f w=>∃ d0 d1 e5,vJ e a b k d0 d1 e5=some R/\f 41=zB e5/\aI G o (aN 63 o c d k::j::box b1 56 [zS a2 e.length c3,i64 d0,Value.int .u64 d1]::L) w) ?_ ?_))))
    ·rintro f n9 ⟨d0,d1,e5,hm,h1,h2⟩
     unfold vJ at hm
     refine aB ?_
     rcases aH hm with ⟨e6,hm⟩|⟨e6,hm⟩
     ·refine aL e6 h1 (aK (aF (v:=zS c k.length d) (aE (v:=zS c k.length d) (aG ?_))));obtain rfl:=zI hm
      exact bM (aZ (bI results31 rfl ⟨o,c,d,rfl,(zL m r),h2⟩))
     ·refine aJ e6 h1 (aW (aB (aK (aF (v:=zP (some ⟨b1,0,none⟩)) (aF (v:=zS c k.length d) (aD (bX (len:=k.length) eL rfl) ?_))))))
      have o1:aI G o (j::box b1 56 [zS a2 e.length c3,i64 d0,Value.int .u64 d1]::aN 63 o c d k::L) n9:=(aI.arr 3 [1,2,0] h2 rfl)
      obtain ⟨a0,o2,hm⟩:=aC hm
      refine aP (vs:=[zP (some ⟨b1,0,none⟩),i64 (k.length:Int)]) call23 rfl (cZ o2 o1) ?_
      rintro _ w3 ⟨rfl,o3⟩
      refine aE (v:=i64 a0.1) (aG (aO (aK (aF (v:=zP (some ⟨b1,0,none⟩)) ?_))));obtain ⟨b2,o4,hm⟩:=aC hm
      refine aP (vs:=[zP (some ⟨b1,0,none⟩),i64 4]) call23 rfl (cZ o4 o3) ?_
      rintro _ w4 ⟨rfl,z⟩
      refine aG (aX [] (fun f w=>∃ b6 b7 e7 e8,Hp.le o b6/\qU b7 e7 e8=some R/\f 9=zS c b7.length d/\aI G b6 (j::box b1 56 [zS a2 e.length c3,i64 e7,Value.int .u64 e8]::aN 63 b6 c d b7::L) w) ?_ ?_)
      ·rintro f w5 ⟨b6,b7,e7,e8,o5,hm,o6,o7⟩
       unfold qU at hm
       refine aB (aK (bC o6 (aE (v:=zS c b7.length d) (aG ?_))));obtain rfl:=zI hm
       exact bM (bI results31 rfl ⟨b6,c,d,rfl,(zL (zL m r) o5),(aI.arr 3 [2,0,1] o7 rfl)⟩)
      refine aK (aD (dM rfl rfl) (aE (v:=zB (b2.1 == 0)) (aG ?_)))
      rcases aH hm with ⟨e9,hm⟩|⟨e9,hm⟩
      ·refine aL e9 rfl (aO (dI (C:=fun w'=>∃ L',aI G o L' w') [(0,0),(1,0),(2,0),(3,0),(4,0),(5,0),(6,0),(7,1),(8,0)] Tryz_mixed (by kernel_rfl) (fun _ hg=>⟨_,aI.mono z hg⟩) (fun w6 o9=>?_)))
       have f0:=aI.mono z o9
       refine bL rfl (fun _ _=>aT (v:=zS c k.length d) rfl) (bL rfl (fun _ _=>aT (v:=i64 a0.1) rfl) ?_);obtain ⟨w7,h3,hm⟩:=aC hm
       have p0:=aIX f0 (i:=2) rfl
       obtain ⟨w8,w9,h4⟩:=Cut.ex 1 c d 0
       refine bL rfl (fun _ _=>aIC eL p0 h4 rfl rfl rfl h3) (bL rfl (fun _ _=>aT (v:=zS c k.length d) rfl) (bL rfl (fun _ _=>aT (v:=i64 a0.1) rfl) (bL rfl (fun _ _=>cL rfl rfl) ?_)));obtain ⟨x0,h5,hm⟩:=aC hm
       have p1:=aIX f0 (i:=2) rfl
       obtain ⟨x1,x2,h7⟩:=Cut.ex 1 c d (wr (a0.1+1))
       refine bL rfl (fun _ _=>aIB eL p1 h7 rfl rfl rfl h5) (fT rfl ?_);obtain ⟨h8,p2,hm⟩:=aC hm
       refine aNV (i:=2) eL underlying28 qL rfl rfl f0 rfl h3 h4 h5 h7 p2 rfl rfl rfl rfl (fun f1 f2 p3 (i0:aI G o (j::box b1 56 [zS a2 e.length c3,i64 b2.2.1,Value.int .u64 b2.2.2]::aN 63 o f1 f2 h8::L) p3)=>(bF (aB ⟨⟨_,i0⟩,?_⟩)))
       refine bL rfl (fun _ _=>gR (v:=zS f1 h8.length f2) rfl) (gD (aB ?_));obtain rfl:=zI hm
       exact bM (cD (aZ (aZ (bI results31 rfl ⟨o,f1,f2,rfl,(zL m r),(aI.arr 3 [2,0,1] i0 rfl)⟩))))
      ·refine aJ e9 rfl (aK (aD (dM rfl rfl) (aE (v:=zB (b2.1 == 1)) (aG ?_))))
       rcases aH hm with ⟨f3,hm⟩|⟨f3,hm⟩
       ·refine aL f3 rfl (dI (C:=fun w'=>∃ L',aI G o L' w') [(0,0),(1,0),(2,0),(3,0),(4,0),(5,0),(6,0),(8,0),(9,0),(10,0),(11,0),(12,0),(7,1),(13,1),(14,1),(15,0),(16,2)] Tryz_mixed (by kernel_rfl) (fun _ hg=>⟨_,aI.mono z hg⟩) (fun x3 p5=>?_))
        have b8:=aI.mono z p5
        refine bL rfl (fun _ _=>aT (v:=zS c k.length d) rfl) (bL rfl (fun _ _=>aT (v:=i64 a0.1) rfl) (bL rfl (fun _ _=>aT (v:=zP (some ⟨b1,0,none⟩)) rfl) (bL rfl (fun _ _=>aT (v:=cC a4 u) rfl) (bL rfl (fun _ _=>cA rfl (h6.mono (zL m r))) (bL rfl (fun _ _=>bS (k':=u+0) cT rfl (h6.mono (zL m r)) rfl) (bL rfl (fun _ ⟨_,b8⟩=>bE (t:=0) cE b8 (h6.mono (zL m r)) rfl rfl) (bL rfl (fun _ _=>aT (v:=zP (some ⟨b1,0,none⟩)) rfl) (bL rfl (fun _ _=>aT (v:=cC a13 x) rfl) (bL rfl (fun _ _=>cA rfl (a3.mono (zL m r))) (bL rfl (fun _ _=>bS (k':=x+0) cT rfl (a3.mono (zL m r)) rfl) (bL rfl (fun _ ⟨_,b8⟩=>bE (t:=0) cE b8 (a3.mono (zL m r)) rfl rfl) (fT rfl ?_))))))))))))
        obtain ⟨d2,p6,hm⟩:=aC hm
        refine aP (vs:=[zP (some ⟨b1,0,none⟩),i64 a.N]) call23 rfl (cZ p6 b8) ?_
        rintro _ x4 ⟨rfl,i1⟩
        refine bF (aB ⟨⟨_,i1⟩,?_⟩)
        refine fT rfl ?_;obtain ⟨q,p7,hm⟩:=aC hm
        refine aP (vs:=[zP (some ⟨b1,0,none⟩),i64 b.N]) call23 rfl (cZ p7 i1) ?_
        rintro _ x5 ⟨rfl,i2⟩
        refine bF (aB ⟨⟨_,i2⟩,?_⟩)
        refine fT rfl (bT (Kt:=K) (xs:=([d2.1,q.1]:List Int)) (cs:=[i64 d2.1,i64 q.1]) (vs:=[(0,i64 d2.1),(1,i64 q.1)]) bV iD rfl rfl i2 rfl (by kernel_rfl) rfl rfl rfl ⟨rfl,rfl,trivial⟩ (fun p8 f4 (f5:aI G o (aN 2 K p8 2 ([d2.1,q.1]:List Int)::j::box b1 56 [zS a2 e.length c3,i64 q.2.1,Value.int .u64 q.2.2]::aN 63 o c d k::L) f4)=>(bF (aB ⟨⟨_,f5⟩,?_⟩))))
        obtain ⟨x6,f6,hm⟩:=aC hm
        have p9:=cQ f5 (i:=3) rfl f6
        refine bL rfl (fun _ _=>dL eL rfl p9 rfl rfl rfl f6) (yH rfl ?_);obtain ⟨b3,i3,q0,f7⟩:=aI.giveSp f5 (zL m r) .head
        replace f7:aI G b3 (j::box b1 56 [zS a2 e.length c3,i64 q.2.1,Value.int .u64 q.2.2]::aN 63 o c d k::L) f4:=f7
        have q1:aI G b3 (j::box b1 56 [zS a2 e.length c3,i64 q.2.1,Value.int .u64 q.2.2]::aN 63 b3 c d k::L) f4:=aI.weak (i:=2) f7 rfl (fun _ h=>aN.mono i3 h)
        obtain ⟨i4,i5,hm⟩:=aC hm
        exact aMW (i:=2) sizeOf63 q1 rfl (zR _) rfl rfl rfl f6 i5 q0 (fun q2 (q3:aI G b3 (j::box b1 56 [zS a2 e.length c3,i64 q.2.1,Value.int .u64 q.2.2]::aN 63 b3 c d i4::L) q2)=>(aG (gD (bA (aB ⟨aM,b3,i4,q.2.1,q.2.2,i3,hm,(Eq.trans rfl (congrArg (fun n=>zS c n d) (iC i5))),q3⟩)))))
       ·refine aJ f3 rfl (aK (aD (dM rfl rfl) (aE (v:=zB (b2.1 == 2)) (aG ?_))))
        rcases aH hm with ⟨f8,hm⟩|⟨f8,hm⟩
        ·refine aL f8 rfl (aK (aF (v:=zS c k.length d) (aF (v:=zP (some ⟨b1,0,none⟩)) ?_)));obtain ⟨J,q4,hm⟩:=aC hm
         refine aP (vs:=[zP (some ⟨b1,0,none⟩),i64 8]) call23 rfl (cZ q4 z) ?_
         rintro _ x7 ⟨rfl,q5⟩
         refine aF (v:=zP (some ⟨b1,0,none⟩)) ?_;obtain ⟨p,q6,hm⟩:=aC hm
         refine aP (vs:=[zP (some ⟨b1,0,none⟩),i64 8]) call23 rfl (cZ q6 q5) ?_
         rintro _ x8 ⟨rfl,q7⟩
         refine bT (Kt:=K) (xs:=([J.1,p.1]:List Int)) (cs:=[i64 J.1,i64 p.1]) (vs:=[(0,i64 J.1),(1,i64 p.1)]) bV iD rfl rfl q7 rfl (by kernel_rfl) rfl rfl rfl ⟨rfl,rfl,trivial⟩ (fun d3 i6 (q8:aI G o (aN 2 K d3 2 ([J.1,p.1]:List Int)::j::box b1 56 [zS a2 e.length c3,i64 p.2.1,Value.int .u64 p.2.2]::aN 63 o c d k::L) i6)=>?_);obtain ⟨V,i7,q9,f9⟩:=aI.giveSp q8 (zL m r) .head
         replace f9:aI G V (j::box b1 56 [zS a2 e.length c3,i64 p.2.1,Value.int .u64 p.2.2]::aN 63 o c d k::L) i6:=f9
         refine bT (Kt:=V) (xs:=([([J.1,p.1]:List Int)]:List (List Int))) (cs:=[zS d3 ([J.1,p.1]:List Int).length 2]) (vs:=[(0,zS d3 ([J.1,p.1]:List Int).length 2)]) eL qL rfl rfl f9 rfl (by kernel_rfl) rfl rfl rfl ⟨⟨d3,2,rfl,q9⟩,trivial⟩ (fun r0 r1 (r2:aI G V (aN 63 V r0 1 ([([J.1,p.1]:List Int)]:List (List Int))::j::box b1 56 [zS a2 e.length c3,i64 p.2.1,Value.int .u64 p.2.2]::aN 63 o c d k::L) r1)=>?_)
         obtain ⟨i8,r3,hm⟩:=aC hm
         refine aIQ (i:=2) V eL underlying28 qL rfl rfl r2 rfl i7 (zR _) r3 rfl rfl rfl rfl (fun _ _ _ h=>El.one h) (fun g0 g1 r4 (r5:aI G V (j::box b1 56 [zS a2 e.length c3,i64 p.2.1,Value.int .u64 p.2.2]::aN 63 V g0 g1 i8::L) r4)=>(aE (v:=zS g0 i8.length g1) (aG ?_)));obtain rfl:=zI hm
         exact bM (cD (aZ (aZ (bI results31 rfl ⟨V,g0,g1,rfl,(zL (zL m r) i7),(aI.arr 3 [2,0,1] r5 rfl)⟩))))
        ·refine aJ f8 rfl (aK (aD (dM rfl rfl) (aE (v:=zB (b2.1 == 3)) (aG ?_))))
         rcases aH hm with ⟨i9,hm⟩|⟨i9,hm⟩
         ·refine aL i9 rfl (aQ (aF (v:=zS c k.length d) (aF (v:=i64 a0.1) (aF (v:=zP (some ⟨b1,0,none⟩)) (aF (v:=zS c k.length d) (aF (v:=i64 a0.1) ?_))))));obtain ⟨j0,b9,hm⟩:=aC hm
          have j1:=cQ z (i:=2) rfl b9
          refine aD (dL eL rfl j1 rfl rfl rfl b9) ?_;obtain ⟨x9,r7,r8⟩:=aJt (sz:=1) rfl z (i:=2) rfl b9
          obtain ⟨j2,j3,rfl,r9⟩:=r8
          refine aD (aLZ (t:=0) (v:=zS j2 j0.length j3) vT r7 rfl rfl) ?_;obtain ⟨b4,s0,hm⟩:=aC hm
          refine aP (vs:=[zP (some ⟨b1,0,none⟩),zS j2 j0.length j3]) call77 rfl (aFq s0 z r9) ?_
          rintro _ s1 ⟨c0,y0,y1,rfl,j4,s2,s3⟩
          refine aD (dL eL rfl j1 rfl rfl rfl b9) ?_
          have s4:aI G c0 (j::box b1 56 [zS a2 e.length c3,i64 b4.2.1,Value.int .u64 b4.2.2]::aN 63 c0 c d k::L) s1:=aI.weak (i:=2) s3 rfl (fun _ h=>aN.mono j4 h)
          obtain ⟨j5,j6,hm⟩:=aC hm
          exact aMW (i:=2) sizeOf63 s4 rfl (zR _) rfl rfl rfl b9 j6 s2 (fun s5 (s6:aI G c0 (j::box b1 56 [zS a2 e.length c3,i64 b4.2.1,Value.int .u64 b4.2.2]::aN 63 c0 c d j5::L) s5)=>(bF (bA (aB ⟨aM,c0,j5,b4.2.1,b4.2.2,j4,hm,(Eq.trans rfl (congrArg (fun n=>zS c n d) (iC j6))),s6⟩))))
         ·exact eB
    exact eB
   refine aK (aF (v:=zP (some ⟨b1,0,none⟩)) ?_)
   have s7:aI G K (j::box b1 56 a5::aN 9 K a6 a8 l.L::aN 66 K a9 b0 l.E::box c4 27 (zC l a6 a8 a9 b0)::aN 2 K e2 e3 e1::L) m8:=(aI.arr 6 [4,5,0,1,2,3] n2 rfl)
   obtain ⟨j7,s8,hm⟩:=aC hm
   refine aP (vs:=[zP (some ⟨b1,0,none⟩),i64 4]) call25 rfl (kJ s8 s7) ?_
   rintro _ y2 ⟨rfl,j8⟩
   refine aG ?_
   rcases aH hm with ⟨g2,hm⟩|⟨g2,hm⟩
   ·refine aL g2 rfl (aQ (aF (v:=zP (some ⟨b1,0,none⟩)) ?_));obtain ⟨g3,s9,hm⟩:=aC hm
    refine aP (vs:=[zP (some ⟨b1,0,none⟩),i64 3]) call23 rfl (cZ s9 j8) ?_
    rintro _ y3 ⟨rfl,t0⟩
    obtain ⟨y4,t1,t2,t3,t4⟩:=aI.lendSp t0 (zR _) zt2
    obtain ⟨y5,t5,t6,t7,t8⟩:=aI.lendSp t3 t1 zt2
    obtain ⟨y6,j9,t9,u0,u1⟩:=aI.lendBp t7 zt2
    obtain ⟨k0,u2,hm⟩:=aC hm
    refine aP (vs:=[cC (some ⟨c4,0,none⟩) 0,i64 g3.1]) call75 rfl (aDv u2 u0 t9 (t2.mono (zL t5 j9)) (t6.mono j9)) ?_
    rintro _ y7 ⟨k1,k2,rfl,u3⟩
    have u4:=u1 _ _ u3
    have u5:=t8 _ _ u4
    have u6:=t4 _ _ u5
    exact aE (v:=zS k1 k0.length k2) (aG ⟨aM,g3.2.1,g3.2.2,k0,k1,k2,hm,rfl,(aI.arr 7 [3,4,5] u6 rfl)⟩)
   ·exact aJ g2 rfl (aW (aB ⟨aM,j7.2.1,j7.2.2,e1,e2,e3,hm,rfl,(aI.arr 6 [5,0,1] j8 rfl)⟩))
 refine aQ (aF (v:=cC a4 u) ?_);obtain ⟨u7,u8,hm⟩:=aC hm
 refine aP (vs:=[cC a4 u]) call15 rfl (lB u8 hs h6 h9 d5) ?_
 rintro _ y8 ⟨rfl,k3⟩
 refine aD (eC rfl) (aF (v:=zB (!u7)) ?_)
 rcases aH hm with ⟨y,hm⟩|⟨y,hm⟩
 ·exact aS y rfl rfl (aS y rfl rfl (aS y rfl rfl (aD (bJ (v:=zB true) y rfl rfl) (aG ⟨aM,true,hm,rfl,k3⟩))))
 ·refine bG y rfl rfl (aF (v:=cC a13 x) (bG y rfl rfl ?_));obtain ⟨k4,u9,hm⟩:=aC hm
  refine aP (vs:=[cC a13 x]) call15 rfl (lB u9 k3 a3 d6 d7) ?_
  rintro _ y9 ⟨rfl,v0⟩
  exact bG y rfl rfl (aD (eC rfl) (aD (bN (v:=zB (!k4)) y rfl rfl) (aG ⟨aM,!k4,hm,rfl,v0⟩)))
theorem aJg {d:(List UInt8)} {r u:Int} {a:cB} {x:Nat} {b:cB} {y:Nat} {R:((List (List Int)) × (List UInt8) × Int × Int)} (hm:aJe d r u a b=some R) (hs:aI G K (aN 5 K a2 c3 d::box b1 56 [zS a2 d.length c3,i64 r,Value.int .u64 u]::L) w) (h6:dT K a4 x (zC a a7 c8 a10 c11)) (h9:bW K a7 c8 a.L) (e2:bW K a10 c11 a.E) (e3:dT K a13 y (zC b a16 c17 a19 c20)) (e4:bW K a16 c17 b.L) (e5:bW K a19 c20 b.E):
  Calls prog 12 ([zP (some ⟨b1,0,none⟩),cC a4 x,cC a13 y]:List Value).toArray w (eV fun v w'=>∃ K' c1 c2 c4 c5,v=zS c1 R.1.length c2/\Hp.le K K'/\aI G K' (aN 63 K' c1 c2 R.1::aN 5 K c4 c5 R.2.1::box b1 56 [zS c4 R.2.1.length c5,i64 R.2.2.1,Value.int .u64 R.2.2.2]::L) w'):=by
 let z:=[zS a2 d.length c3,i64 r,Value.int .u64 u]
 let e:=aN 5 K a2 c3 d
 refine aR func12 rfl (by kernel_rfl) (by show (3:Nat)<=47;decide) ?_;unfold aJe at hm
 refine aK (aE (v:=zS none 0 0) (aG (aO (aO (cH [0,1,2] (fun f w=>∃ a6,aAd d r u a b a6=some R/\f 17=zB a6/\aI G K (e::box b1 56 z::L) w) ?_ ?_)))))
 ·rintro f h5 ⟨a6,hm,c6,c7⟩
  unfold aAd at hm
  refine aB ?_
  rcases aH hm with ⟨a8,hm⟩|⟨a8,hm⟩
  ·refine aL a8 c6 (aK (bT (Kt:=K) (xs:=([0,0]:List Int)) (cs:=[i64 0,i64 0]) (vs:=[(0,i64 0),(1,i64 0)]) bV iD rfl rfl c7 rfl (by kernel_rfl) rfl rfl rfl ⟨rfl,rfl,trivial⟩ (fun l c9 (e6:aI G K (aN 2 K l 2 ([0,0]:List Int)::e::box b1 56 z::L) c9)=>?_)))
   have e7:aI G K (rows [2] ([(l,2)]:List (Dp.Hd (List Int))) [([0,0]:List Int)]::e::box b1 56 z::L) c9:=aI.rowsOne e6
   refine bT (Kt:=K) (xs:=dZ ([(l,2)]:List (Dp.Hd (List Int))) ([([0,0]:List Int)]:List (List Int))) (cs:=[zS l ([0,0]:List Int).length 2]) (vs:=[(0,zS l ([0,0]:List Int).length 2)]) eL qL rfl rfl e7 rfl (by kernel_rfl) rfl rfl rfl ⟨rfl,trivial⟩ ?_
   intro d0 e8 (e9:aI G K (aN 63 K d0 1 (dZ ([(l,2)]:List (Dp.Hd (List Int))) ([([0,0]:List Int)]:List (List Int)))::rows [2] ([(l,2)]:List (Dp.Hd (List Int))) ([([0,0]:List Int)]:List (List Int))::e::box b1 56 z::L) e8)
   refine aE (v:=zS d0 ([([0,0]:List Int)]:List (List Int)).length 1) (aG ?_);obtain ⟨h7,h8,i0,i1⟩:=aI.frzRows (i:=0) e9 rfl rfl rfl
   exact eB
  ·refine aJ a8 c6 (aW (aB (aO (aK (aF (v:=zP (some ⟨b1,0,none⟩)) ?_)))));obtain ⟨d1,f0,hm⟩:=aC hm
   refine aP (vs:=[zP (some ⟨b1,0,none⟩),i64 5]) call25 rfl (kJ f0 c7) ?_
   rintro _ i2 ⟨rfl,f1⟩
   refine aG ?_
   rcases aH hm with ⟨d2,hm⟩|⟨d2,hm⟩
   ·exact eB
   ·refine aJ d2 rfl (aW (aB (aK (aF (v:=cC a4 x) (aF (v:=cC a13 y) ?_)))));obtain ⟨g,f2,hm⟩:=aC hm
    refine aP (vs:=[cC a4 x,cC a13 y]) call32 rfl (aDw f2 f1 h6 h9 e2 e3 e4 e5) ?_
    rintro _ i3 ⟨c,j,k,rfl,i4,f3⟩
    refine aE (v:=zS j g.length k) (aG (aK (bT (Kt:=c) (xs:=([]:List (List Int))) (cs:=[]) (vs:=[]) eL qL rfl rfl f3 rfl (by kernel_rfl) rfl rfl rfl trivial (fun d3 f4 (i5:aI G c (aN 63 c d3 0 ([]:List (List Int))::aN 63 c j k g::e::box b1 56 [zS a2 d.length c3,i64 d1.2.1,Value.int .u64 d1.2.2]::L) f4)=>(aE (v:=zS d3 ([]:List (List Int)).length 0) (aG (aO (aK (aE (v:=i64 0) (aG (aX [] (fun f w=>∃ a9 d4 d5 d6 d7,aAb d a9 d4 d5=some R/\f 8=zS d6 a9.length d7/\aI G c (aN 63 c d6 d7 a9::e::box b1 56 [zS a2 d.length c3,i64 d4,Value.int .u64 d5]::L) w) eB ?_)))))))))))
    obtain ⟨i6,f5,ho⟩:=aC hm
    refine tZ [0,7] f5 (fun b0 b2 n J f w=>∃ o p,f 8=zS o n.length p/\f 9=i64 J/\aI G c (aN 63 c o p n::aN 63 c j k g::e::box b1 56 [zS a2 d.length c3,i64 b0,Value.int .u64 b2]::L) w) eB ?_
    ·rintro b0 b2 n J f6 f f7 hm hr ⟨o,p,f8,b3,f9⟩
     unfold aGT at hm
     refine aO (aK (bC b3 (aF (v:=zS j g.length k) (aD (bX (len:=g.length) eL rfl) (aD (cV rfl rfl) (aG ?_))))))
     rcases aH hm with ⟨d8,hm⟩|⟨d8,hm⟩
     ·refine aL d8 rfl (aW (aB (aO (aX [0,7,9] (fun f w=>∃ b4 b5 V Z a0,aAc J b4 b5 V=some f6/\f 8=zS Z V.length a0/\aI G c (aN 63 c Z a0 V::aN 63 c j k g::e::box b1 56 [zS a2 d.length c3,i64 b4,Value.int .u64 b5]::L) w) ?_ ?_))))
      ·rintro f i7 ⟨b4,b5,V,Z,a0,hm,g0,g1⟩
       unfold aAc at hm
       exact aB (aQ (bC b3 (aD (cL rfl rfl) (aE (v:=i64 (wr (J+1))) (aG ⟨_,(zI hm).symm,aM,Z,a0,g0,rfl,g1⟩)))))
      refine aK (aF (v:=zP (some ⟨b1,0,none⟩)) ?_)
      have g2:aI G c (e::box b1 56 [zS a2 d.length c3,i64 b0,Value.int .u64 b2]::aN 63 c o p n::aN 63 c j k g::L) f7:=(aI.arr 4 [2,3,0,1] f9 rfl)
      obtain ⟨m,g3,hm⟩:=aC hm
      refine aP (vs:=[zP (some ⟨b1,0,none⟩),i64 12]) call25 rfl (kJ g3 g2) ?_
      rintro _ i8 ⟨rfl,b6⟩
      refine aD (eC rfl) (aG ?_)
      rcases aH hm with ⟨d9,hm⟩|⟨d9,hm⟩
      ·refine aL d9 rfl (aQ (bC f8 (aF (v:=zS j g.length k) (bC b3 ?_))));obtain ⟨q,b7,hm⟩:=aC hm
       have g4:=cQ b6 (i:=3) rfl b7
       refine aD (dL eL rfl g4 rfl rfl rfl b7) ?_;obtain ⟨i9,g5,g6⟩:=aJt (sz:=1) rfl b6 (i:=3) rfl b7
       obtain ⟨a1,a3,rfl,g7⟩:=g6
       refine aD (aLZ (t:=0) (v:=zS a1 q.length a3) vT g5 rfl rfl) (bT (Kt:=c) (xs:=([q]:List (List Int))) (cs:=[zS a1 q.length a3]) (vs:=[(0,zS a1 q.length a3)]) eL qL rfl rfl b6 rfl (by kernel_rfl) rfl rfl rfl ⟨⟨a1,a3,rfl,g7⟩,trivial⟩ (fun g8 g9 (h0:aI G c (aN 63 c g8 1 ([q]:List (List Int))::e::box b1 56 [zS a2 d.length c3,i64 m.2.1,Value.int .u64 m.2.2]::aN 63 c o p n::aN 63 c j k g::L) g9)=>?_))
       obtain ⟨b8,h1,hm⟩:=aC hm
       exact aIQ (i:=2) c eL underlying28 qL rfl rfl h0 rfl (zR _) (zR _) h1 rfl rfl rfl rfl (fun _ _ _ h=>El.one h) (fun b9 c0 h2 (h3:aI G c (e::box b1 56 [zS a2 d.length c3,i64 m.2.1,Value.int .u64 m.2.2]::aN 63 c b9 c0 b8::aN 63 c j k g::L) h2)=>(aE (v:=zS b9 b8.length c0) (bF (bA (aB ⟨aM,m.2.1,m.2.2,b8,b9,c0,hm,rfl,(aI.arr 4 [2,3,0,1] h3 rfl)⟩)))))
      ·exact eB
     ·exact eB
 exact eB
theorem aDa {a:(List UInt8)} {j k:Int} {b:(List Int)} {R:((List Int) × Int × Int)} (hm:qF a j k b=some R) (y:aI G K (box b1 56 [zS a2 a.length c3,i64 j,Value.int .u64 k]::L) w) (z:bW K a2 c3 a) (d:bW K a5 c6 b):
  Calls prog 77 ([zP (some ⟨b1,0,none⟩),zS a5 b.length c6]:List Value).toArray w (eV fun v w'=>∃ e l m,v=zS l R.1.length m/\Hp.le K e/\bW e l m R.1/\aI G e (box b1 56 [zS a2 a.length c3,i64 R.2.1,Value.int .u64 R.2.2]::L) w'):=by
 refine aR func77 rfl (by kernel_rfl) (by show (2:Nat)<=13;decide) ?_;unfold qF at hm
 refine aK (aE (v:=zS none 0 0) (aG (aO (aK (aF (v:=zP (some ⟨b1,0,none⟩)) ?_)))));obtain ⟨c,J,hm⟩:=aC hm
 refine aP (vs:=[zP (some ⟨b1,0,none⟩),i64 2]) call25 rfl (dY J y z) ?_
 rintro _ b5 ⟨rfl,n⟩
 refine aG ?_
 rcases aH hm with ⟨g,hm⟩|⟨g,hm⟩
 ·refine aL g rfl (aK (aF (v:=zS a5 b.length c6) ?_));obtain ⟨V,o,hm⟩:=aC hm
  obtain ⟨p,q,r⟩:=Cut.ex 1 a5 c6 0
  have Z:=bW.cut' d o r
  refine aD (aIC bV d.room r rfl rfl rfl o) (aE (v:=zS p V.length q) (aG ?_));obtain rfl:=zI hm
  exact bM (aZ (bI results77 rfl ⟨K,p,q,rfl,(zR _),Z,n⟩))
 ·refine aJ g rfl (aW (aB (aK (aF (v:=zS a5 b.length c6) ?_))));obtain ⟨a1,a3,hm⟩:=aC hm
  refine aP (vs:=[zS a5 b.length c6]) call112 rfl (aFL a3 n d) ?_
  rintro _ b6 ⟨a4,a6,rfl,a7⟩
  refine bT (Kt:=K) (xs:=([0]:List Int)) (cs:=[i64 0]) (vs:=[(0,i64 0)]) bV iD rfl rfl a7 rfl (by kernel_rfl) rfl rfl rfl ⟨rfl,trivial⟩ (fun a8 a9 (b0:aI G K (aN 2 K a8 1 ([0]:List Int)::aN 2 K a4 a6 a1::box b1 56 [zS a2 a.length c3,i64 c.2.1,Value.int .u64 c.2.2]::L) a9)=>?_);obtain ⟨t,b2,hm⟩:=aC hm
  refine eR (i:=0) bV underlying63 iD rfl rfl b0 rfl (zR _) (zR _) b2 rfl rfl rfl rfl (fun _ h=>h) (fun u x b3 (b4:aI G K (aN 2 K u x t::box b1 56 [zS a2 a.length c3,i64 c.2.1,Value.int .u64 c.2.2]::L) b3)=>(aE (v:=zS u t.length x) (aG ?_)));obtain ⟨b7,b8,b9,c0⟩:=aI.giveSp b4 (zR _) .head
  exact eB
theorem aBE {g:(List UInt8)} {b8 b9:Int} {a:cB} {r:Nat} {b:cB} {u:Nat} {R:((List (List Int)) × Int × Int)} (hm:mX g b8 b9 a b=some R) (hs:aI G K (box b1 56 [zS a2 g.length c3,i64 b8,Value.int .u64 b9]::L) w) (q:bW K a2 c3 g) (h7:dT K a5 r (zC a a8 c9 a11 c12)) (f2:bW K a8 c9 a.L) (f3:bW K a11 c12 a.E) (b0:dT K a14 u (zC b a17 c18 a20 c21)) (f4:bW K a17 c18 b.L) (f5:bW K a20 c21 b.E):
  Calls prog 31 ([zP (some ⟨b1,0,none⟩),cC a5 r,cC a14 u]:List Value).toArray w (eV fun v w'=>∃ K' f6 f7,v=zS f6 R.1.length f7/\Hp.le K K'/\aI G K' (aN 63 K' f6 f7 R.1::box b1 56 [zS a2 g.length c3,i64 R.2.1,Value.int .u64 R.2.2]::L) w'):=by
 let Z:=[zS a2 g.length c3,i64 b8,Value.int .u64 b9]
 refine aR func31 rfl (by kernel_rfl) (by show (3:Nat)<=99;decide) ?_;unfold mX at hm
 refine aK (aE (v:=zS none 0 0) (aG (aO (aO (cH [0,1,2] (fun f w=>∃ d2,mQ g b8 b9 a b d2=some R/\f 18=zB d2/\aI G K (box b1 56 Z::L) w) ?_ ?_)))))
 ·rintro f t1 ⟨d2,hm,f8,f9⟩
  unfold mQ at hm
  refine aB ?_
  rcases aH hm with ⟨d3,hm⟩|⟨d3,hm⟩
  ·refine aL d3 f8 (aK (bT (Kt:=K) (xs:=([0,0]:List Int)) (cs:=[i64 0,i64 0]) (vs:=[(0,i64 0),(1,i64 0)]) bV iD rfl rfl f9 rfl (by kernel_rfl) rfl rfl rfl ⟨rfl,rfl,trivial⟩ (fun J g0 (j4:aI G K (aN 2 K J 2 ([0,0]:List Int)::box b1 56 Z::L) g0)=>?_)))
   have j5:aI G K (rows [2] ([(J,2)]:List (Dp.Hd (List Int))) [([0,0]:List Int)]::box b1 56 Z::L) g0:=aI.rowsOne j4
   refine bT (Kt:=K) (xs:=dZ ([(J,2)]:List (Dp.Hd (List Int))) ([([0,0]:List Int)]:List (List Int))) (cs:=[zS J ([0,0]:List Int).length 2]) (vs:=[(0,zS J ([0,0]:List Int).length 2)]) eL qL rfl rfl j5 rfl (by kernel_rfl) rfl rfl rfl ⟨rfl,trivial⟩ ?_
   intro g1 j6 (j7:aI G K (aN 63 K g1 1 (dZ ([(J,2)]:List (Dp.Hd (List Int))) ([([0,0]:List Int)]:List (List Int)))::rows [2] ([(J,2)]:List (Dp.Hd (List Int))) ([([0,0]:List Int)]:List (List Int))::box b1 56 Z::L) j6)
   refine aE (v:=zS g1 ([([0,0]:List Int)]:List (List Int)).length 1) (aG ?_);obtain ⟨t2,t3,t4,t5⟩:=aI.frzRows (i:=0) j7 rfl rfl rfl
   exact eB
  ·refine aJ d3 f8 (aW (aB (aK (aF (v:=cC a5 r) (aF (v:=cC a14 u) ?_)))));obtain ⟨k,j8,hm⟩:=aC hm
   refine aP (vs:=[cC a5 r,cC a14 u]) call73 rfl (aAi j8 f9 h7 f2 f3 b0 f4 f5) ?_
   rintro _ t6 ⟨a0,a1,a3,c45,rfl,j9⟩
   refine cI (vs:=zG) zeroValue27 j9 rfl (fun c0 t7 k0=>(cG (i:=0) (ns:=(zC k a0 a1 a3 c45)) (us:=(zC k a0 a1 a3 c45)) sizeOf27 k0 rfl rfl rfl rfl rfl (dN rfl) rfl rfl (fun k1 (k2:aI G K (box c0 27 (zC k a0 a1 a3 c45)::aN 9 K a0 a1 k.L::aN 66 K a3 c45 k.E::box b1 56 Z::L) k1)=>(aG (aK ?_)))));obtain ⟨t8,k3,k4,k5,k7⟩:=aI.lendSp k2 (zR _) zt1
   obtain ⟨t9,k8,k9,l0,l1⟩:=aI.lendSp k5 k3 zt1
   obtain ⟨u0,g2,l2,l3,l4⟩:=aI.lendBp l0 .head
   obtain ⟨g3,l5,hm⟩:=aC hm
   refine aP (vs:=[cC (some ⟨c0,0,none⟩) 0]) call74 rfl (aBB l5 l3 l2 (k4.mono (zL k8 g2)) (k9.mono g2)) ?_
   rintro _ l6 ⟨g4,g5,rfl,l7⟩
   have l8:=l4 _ _ l7
   have l9:=l1 _ _ l8
   have m0:=k7 _ _ l9
   refine aE (v:=zS g4 g3.length g5) (aG (iQ [0,1,2] (fun f w=>∃ c1 c2 b2 c4 c5,kD g a b c1 c2 b2=some R/\f 8=zS c4 b2.length c5/\aI G K (aN 2 K c4 c5 b2::box b1 56 [zS a2 g.length c3,i64 c1,Value.int .u64 c2]::L) w) ?_ ?_))
   ·rintro f m1 ⟨c1,c2,b2,c4,c5,hm,m2,m3⟩
    unfold kD at hm
    refine aK (aF (v:=cC a5 r) (aF (v:=cC a14 u) (bC m2 ?_)));obtain ⟨m4,e,m5,d4⟩:=aI.giveSp m3 (zR _) .head
    replace d4:aI G m4 (box b1 56 [zS a2 g.length c3,i64 c1,Value.int .u64 c2]::L) m1:=d4
    obtain ⟨j,m6,hm⟩:=aC hm
    refine aP (vs:=[cC a5 r,cC a14 u,zS c4 b2.length c5]) call76 rfl (aBC m6 d4 (h7.mono e) (f2.mono e) (f3.mono e) (b0.mono e) (f4.mono e) (f5.mono e) m5) ?_
    rintro _ u1 ⟨m,c,d,rfl,l,u2⟩
    refine aE (v:=zS c j.length d) (aG (aO (aO (cH [0,1,2,9] (fun f w=>∃ c6 c7 d5,kC g a b j c6 c7 d5=some R/\f 41=zB d5/\aI G m (aN 63 m c d j::box b1 56 [zS a2 g.length c3,i64 c6,Value.int .u64 c7]::L) w) ?_ ?_))))
    ·rintro f m7 ⟨c6,c7,d5,hm,g6,g7⟩
     unfold kC at hm
     refine aB ?_
     rcases aH hm with ⟨d6,hm⟩|⟨d6,hm⟩
     ·refine aL d6 g6 (aK (aF (v:=zS c j.length d) (aE (v:=zS c j.length d) (aG ?_))));obtain rfl:=zI hm
      exact bM (aZ (bI results31 rfl ⟨m,c,d,rfl,(zL e l),g7⟩))
     ·refine aJ d6 g6 (aW (aB (aK (aF (v:=zP (some ⟨b1,0,none⟩)) (aF (v:=zS c j.length d) (aD (bX (len:=j.length) eL rfl) ?_))))))
      have m9:aI G m (box b1 56 [zS a2 g.length c3,i64 c6,Value.int .u64 c7]::aN 63 m c d j::L) m7:=(aI.arr 2 [1,0] g7 rfl)
      obtain ⟨V,n0,hm⟩:=aC hm
      refine aP (vs:=[zP (some ⟨b1,0,none⟩),i64 (j.length:Int)]) call23 rfl (bQ n0 m9 (q.mono (zL e l))) ?_
      rintro _ u3 ⟨rfl,n1⟩
      refine aE (v:=i64 V.1) (aG (aO (aK (aF (v:=zP (some ⟨b1,0,none⟩)) ?_))));obtain ⟨a4,n2,hm⟩:=aC hm
      refine aP (vs:=[zP (some ⟨b1,0,none⟩),i64 4]) call23 rfl (bQ n2 n1 (q.mono (zL e l))) ?_
      rintro _ u4 ⟨rfl,x⟩
      refine aG (aX [] (fun f w=>∃ b3 b4 d7 d8,Hp.le m b3/\mP b4 d7 d8=some R/\f 9=zS c b4.length d/\aI G b3 (box b1 56 [zS a2 g.length c3,i64 d7,Value.int .u64 d8]::aN 63 b3 c d b4::L) w) ?_ ?_)
      ·rintro f u5 ⟨b3,b4,d7,d8,n3,hm,n4,n5⟩
       unfold mP at hm
       refine aB (aK (bC n4 (aE (v:=zS c b4.length d) (aG ?_))));obtain rfl:=zI hm
       exact bM (bI results31 rfl ⟨b3,c,d,rfl,(zL (zL e l) n3),(aI.arr 2 [1,0] n5 rfl)⟩)
      refine aK (aD (dM rfl rfl) (aE (v:=zB (a4.1 == 0)) (aG ?_)))
      rcases aH hm with ⟨d9,hm⟩|⟨d9,hm⟩
      ·refine aL d9 rfl (aO (dI (C:=fun w'=>∃ L',aI G m L' w') [(0,0),(1,0),(2,0),(3,0),(4,0),(5,0),(6,0),(7,1),(8,0)] Tryz_mixed (by kernel_rfl) (fun _ hg=>⟨_,aI.mono x hg⟩) (fun u6 n7=>?_)))
       have e0:=aI.mono x n7
       refine bL rfl (fun _ _=>aT (v:=zS c j.length d) rfl) (bL rfl (fun _ _=>aT (v:=i64 V.1) rfl) ?_);obtain ⟨u7,g8,hm⟩:=aC hm
       have n8:=aIX e0 (i:=1) rfl
       obtain ⟨u8,u9,g9⟩:=Cut.ex 1 c d 0
       refine bL rfl (fun _ _=>aIC eL n8 g9 rfl rfl rfl g8) (bL rfl (fun _ _=>aT (v:=zS c j.length d) rfl) (bL rfl (fun _ _=>aT (v:=i64 V.1) rfl) (bL rfl (fun _ _=>cL rfl rfl) ?_)));obtain ⟨v0,h0,hm⟩:=aC hm
       have n9:=aIX e0 (i:=1) rfl
       obtain ⟨v1,v2,h1⟩:=Cut.ex 1 c d (wr (V.1+1))
       refine bL rfl (fun _ _=>aIB eL n9 h1 rfl rfl rfl h0) (fT rfl ?_);obtain ⟨h2,o0,hm⟩:=aC hm
       refine aNV (i:=1) eL underlying28 qL rfl rfl e0 rfl g8 g9 h0 h1 o0 rfl rfl rfl rfl (fun e1 e2 o1 (h3:aI G m (box b1 56 [zS a2 g.length c3,i64 a4.2.1,Value.int .u64 a4.2.2]::aN 63 m e1 e2 h2::L) o1)=>(bF (aB ⟨⟨_,h3⟩,?_⟩)))
       refine bL rfl (fun _ _=>gR (v:=zS e1 h2.length e2) rfl) (gD (aB ?_));obtain rfl:=zI hm
       exact bM (cD (aZ (aZ (bI results31 rfl ⟨m,e1,e2,rfl,(zL e l),(aI.arr 2 [1,0] h3 rfl)⟩))))
      ·refine aJ d9 rfl (aK (aD (dM rfl rfl) (aE (v:=zB (a4.1 == 1)) (aG ?_))))
       rcases aH hm with ⟨e3,hm⟩|⟨e3,hm⟩
       ·refine aL e3 rfl (dI (C:=fun w'=>∃ L',aI G m L' w') [(0,0),(1,0),(2,0),(3,0),(4,0),(5,0),(6,0),(8,0),(9,0),(10,0),(11,0),(12,0),(7,1),(13,1),(14,1),(15,0),(16,2)] Tryz_mixed (by kernel_rfl) (fun _ hg=>⟨_,aI.mono x hg⟩) (fun v3 o3=>?_))
        have b5:=aI.mono x o3
        refine bL rfl (fun _ _=>aT (v:=zS c j.length d) rfl) (bL rfl (fun _ _=>aT (v:=i64 V.1) rfl) (bL rfl (fun _ _=>aT (v:=zP (some ⟨b1,0,none⟩)) rfl) (bL rfl (fun _ _=>aT (v:=cC a5 r) rfl) (bL rfl (fun _ _=>cA rfl (h7.mono (zL e l))) (bL rfl (fun _ _=>bS (k':=r+0) cT rfl (h7.mono (zL e l)) rfl) (bL rfl (fun _ ⟨_,b5⟩=>bE (t:=0) cE b5 (h7.mono (zL e l)) rfl rfl) (bL rfl (fun _ _=>aT (v:=zP (some ⟨b1,0,none⟩)) rfl) (bL rfl (fun _ _=>aT (v:=cC a14 u) rfl) (bL rfl (fun _ _=>cA rfl (b0.mono (zL e l))) (bL rfl (fun _ _=>bS (k':=u+0) cT rfl (b0.mono (zL e l)) rfl) (bL rfl (fun _ ⟨_,b5⟩=>bE (t:=0) cE b5 (b0.mono (zL e l)) rfl rfl) (fT rfl ?_))))))))))))
        obtain ⟨c8,o4,hm⟩:=aC hm
        refine aP (vs:=[zP (some ⟨b1,0,none⟩),i64 a.N]) call23 rfl (bQ o4 b5 (q.mono (zL e l))) ?_
        rintro _ v4 ⟨rfl,h5⟩
        refine bF (aB ⟨⟨_,h5⟩,?_⟩)
        refine fT rfl ?_;obtain ⟨p,o5,hm⟩:=aC hm
        refine aP (vs:=[zP (some ⟨b1,0,none⟩),i64 b.N]) call23 rfl (bQ o5 h5 (q.mono (zL e l))) ?_
        rintro _ v5 ⟨rfl,h6⟩
        refine bF (aB ⟨⟨_,h6⟩,?_⟩)
        refine fT rfl (bT (Kt:=K) (xs:=([c8.1,p.1]:List Int)) (cs:=[i64 c8.1,i64 p.1]) (vs:=[(0,i64 c8.1),(1,i64 p.1)]) bV iD rfl rfl h6 rfl (by kernel_rfl) rfl rfl rfl ⟨rfl,rfl,trivial⟩ (fun o6 e4 (e5:aI G m (aN 2 K o6 2 ([c8.1,p.1]:List Int)::box b1 56 [zS a2 g.length c3,i64 p.2.1,Value.int .u64 p.2.2]::aN 63 m c d j::L) e4)=>(bF (aB ⟨⟨_,e5⟩,?_⟩))))
        obtain ⟨v6,e6,hm⟩:=aC hm
        have o7:=cQ e5 (i:=2) rfl e6
        refine bL rfl (fun _ _=>dL eL rfl o7 rfl rfl rfl e6) (yH rfl ?_);obtain ⟨a6,h8,o8,e7⟩:=aI.giveSp e5 (zL e l) .head
        replace e7:aI G a6 (box b1 56 [zS a2 g.length c3,i64 p.2.1,Value.int .u64 p.2.2]::aN 63 m c d j::L) e4:=e7
        have o9:aI G a6 (box b1 56 [zS a2 g.length c3,i64 p.2.1,Value.int .u64 p.2.2]::aN 63 a6 c d j::L) e4:=aI.weak (i:=1) e7 rfl (fun _ h=>aN.mono h8 h)
        obtain ⟨h9,i0,hm⟩:=aC hm
        exact aMW (i:=1) sizeOf63 o9 rfl (zR _) rfl rfl rfl e6 i0 o8 (fun p0 (p1:aI G a6 (box b1 56 [zS a2 g.length c3,i64 p.2.1,Value.int .u64 p.2.2]::aN 63 a6 c d h9::L) p0)=>(aG (gD (bA (aB ⟨aM,a6,h9,p.2.1,p.2.2,h8,hm,(Eq.trans rfl (congrArg (fun n=>zS c n d) (iC i0))),p1⟩)))))
       ·refine aJ e3 rfl (aK (aD (dM rfl rfl) (aE (v:=zB (a4.1 == 2)) (aG ?_))))
        rcases aH hm with ⟨e8,hm⟩|⟨e8,hm⟩
        ·refine aL e8 rfl (aK (aF (v:=zS c j.length d) (aF (v:=zP (some ⟨b1,0,none⟩)) ?_)));obtain ⟨y,p2,hm⟩:=aC hm
         refine aP (vs:=[zP (some ⟨b1,0,none⟩),i64 8]) call23 rfl (bQ p2 x (q.mono (zL e l))) ?_
         rintro _ v7 ⟨rfl,p3⟩
         refine aF (v:=zP (some ⟨b1,0,none⟩)) ?_;obtain ⟨o,p4,hm⟩:=aC hm
         refine aP (vs:=[zP (some ⟨b1,0,none⟩),i64 8]) call23 rfl (bQ p4 p3 (q.mono (zL e l))) ?_
         rintro _ v8 ⟨rfl,p5⟩
         refine bT (Kt:=K) (xs:=([y.1,o.1]:List Int)) (cs:=[i64 y.1,i64 o.1]) (vs:=[(0,i64 y.1),(1,i64 o.1)]) bV iD rfl rfl p5 rfl (by kernel_rfl) rfl rfl rfl ⟨rfl,rfl,trivial⟩ (fun d0 i1 (p6:aI G m (aN 2 K d0 2 ([y.1,o.1]:List Int)::box b1 56 [zS a2 g.length c3,i64 o.2.1,Value.int .u64 o.2.2]::aN 63 m c d j::L) i1)=>?_);obtain ⟨z,i2,p7,e9⟩:=aI.giveSp p6 (zL e l) .head
         replace e9:aI G z (box b1 56 [zS a2 g.length c3,i64 o.2.1,Value.int .u64 o.2.2]::aN 63 m c d j::L) i1:=e9
         refine bT (Kt:=z) (xs:=([([y.1,o.1]:List Int)]:List (List Int))) (cs:=[zS d0 ([y.1,o.1]:List Int).length 2]) (vs:=[(0,zS d0 ([y.1,o.1]:List Int).length 2)]) eL qL rfl rfl e9 rfl (by kernel_rfl) rfl rfl rfl ⟨⟨d0,2,rfl,p7⟩,trivial⟩ (fun p8 p9 (q0:aI G z (aN 63 z p8 1 ([([y.1,o.1]:List Int)]:List (List Int))::box b1 56 [zS a2 g.length c3,i64 o.2.1,Value.int .u64 o.2.2]::aN 63 m c d j::L) p9)=>?_)
         obtain ⟨i3,q1,hm⟩:=aC hm
         refine aIQ (i:=1) z eL underlying28 qL rfl rfl q0 rfl i2 (zR _) q1 rfl rfl rfl rfl (fun _ _ _ h=>El.one h) (fun f0 f1 q2 (q3:aI G z (box b1 56 [zS a2 g.length c3,i64 o.2.1,Value.int .u64 o.2.2]::aN 63 z f0 f1 i3::L) q2)=>(aE (v:=zS f0 i3.length f1) (aG ?_)));obtain rfl:=zI hm
         exact bM (cD (aZ (aZ (bI results31 rfl ⟨z,f0,f1,rfl,(zL (zL e l) i2),(aI.arr 2 [1,0] q3 rfl)⟩))))
        ·refine aJ e8 rfl (aK (aD (dM rfl rfl) (aE (v:=zB (a4.1 == 3)) (aG ?_))))
         rcases aH hm with ⟨i4,hm⟩|⟨i4,hm⟩
         ·refine aL i4 rfl (aQ (aF (v:=zS c j.length d) (aF (v:=i64 V.1) (aF (v:=zP (some ⟨b1,0,none⟩)) (aF (v:=zS c j.length d) (aF (v:=i64 V.1) ?_))))));obtain ⟨i5,b6,hm⟩:=aC hm
          have i6:=cQ x (i:=1) rfl b6
          refine aD (dL eL rfl i6 rfl rfl rfl b6) ?_;obtain ⟨v9,q5,q6⟩:=aJt (sz:=1) rfl x (i:=1) rfl b6
          obtain ⟨i7,i8,rfl,q7⟩:=q6
          refine aD (aLZ (t:=0) (v:=zS i7 i5.length i8) vT q5 rfl rfl) ?_;obtain ⟨a7,q8,hm⟩:=aC hm
          refine aP (vs:=[zP (some ⟨b1,0,none⟩),zS i7 i5.length i8]) call77 rfl (aDa q8 x (q.mono (zL e l)) q7) ?_
          rintro _ q9 ⟨b7,w0,w1,rfl,i9,r0,r1⟩
          refine aD (dL eL rfl i6 rfl rfl rfl b6) ?_
          have r2:aI G b7 (box b1 56 [zS a2 g.length c3,i64 a7.2.1,Value.int .u64 a7.2.2]::aN 63 b7 c d j::L) q9:=aI.weak (i:=1) r1 rfl (fun _ h=>aN.mono i9 h)
          obtain ⟨j0,j1,hm⟩:=aC hm
          exact aMW (i:=1) sizeOf63 r2 rfl (zR _) rfl rfl rfl b6 j1 r0 (fun r3 (r4:aI G b7 (box b1 56 [zS a2 g.length c3,i64 a7.2.1,Value.int .u64 a7.2.2]::aN 63 b7 c d j0::L) r3)=>(bF (bA (aB ⟨aM,b7,j0,a7.2.1,a7.2.2,i9,hm,(Eq.trans rfl (congrArg (fun n=>zS c n d) (iC j1))),r4⟩))))
         ·exact eB
    exact eB
   refine aK (aF (v:=zP (some ⟨b1,0,none⟩)) ?_)
   have r5:aI G K (box b1 56 Z::aN 9 K a0 a1 k.L::aN 66 K a3 c45 k.E::box c0 27 (zC k a0 a1 a3 c45)::aN 2 K g4 g5 g3::L) l6:=(aI.arr 5 [4,0,1,2,3] m0 rfl)
   obtain ⟨w2,r6,hm⟩:=aC hm
   refine aP (vs:=[zP (some ⟨b1,0,none⟩),i64 4]) call25 rfl (dY r6 r5 q) ?_
   rintro _ w3 ⟨rfl,r7⟩
   refine aG ?_
   rcases aH hm with ⟨j2,hm⟩|⟨j2,hm⟩
   ·refine aL j2 rfl (aQ (aF (v:=zP (some ⟨b1,0,none⟩)) ?_));obtain ⟨r8,r9,hm⟩:=aC hm
    refine aP (vs:=[zP (some ⟨b1,0,none⟩),i64 3]) call23 rfl (bQ r9 r7 q) ?_
    rintro _ w4 ⟨rfl,s0⟩
    obtain ⟨w5,s1,s2,s3,w6⟩:=aI.lendSp s0 (zR _) zt1
    obtain ⟨w7,s4,s5,s6,w8⟩:=aI.lendSp s3 s1 zt1
    obtain ⟨w9,j3,s7,s8,x0⟩:=aI.lendBp s6 zt1
    obtain ⟨x1,s9,hm⟩:=aC hm
    exact aP (vs:=[cC (some ⟨c0,0,none⟩) 0,i64 r8.1]) call75 rfl (aDv s9 s8 s7 (s2.mono (zL s4 j3)) (s5.mono j3)) eB
   ·exact eB
 exact eB
theorem aDb {d:(List UInt8)} {q r:Int} {a:cB} {u:Nat} {b:cB} {x:Nat} {R:((List (List Int)) × Int × Int)} (hm:qG d q r a b=some R) (hs:aI G K (box b1 56 [zS a2 d.length c3,i64 q,Value.int .u64 r]::L) w) (h4:bW K a2 c3 d) (h7:dT K a5 u (zC a a8 c9 a11 c12)) (d8:bW K a8 c9 a.L) (d9:bW K a11 c12 a.E) (e0:dT K a14 x (zC b a17 c18 a20 c21)) (e1:bW K a17 c18 b.L) (e2:bW K a20 c21 b.E):
  Calls prog 12 ([zP (some ⟨b1,0,none⟩),cC a5 u,cC a14 x]:List Value).toArray w (eV fun v w'=>∃ K' c1 c2,v=zS c1 R.1.length c2/\Hp.le K K'/\aI G K' (aN 63 K' c1 c2 R.1::box b1 56 [zS a2 d.length c3,i64 R.2.1,Value.int .u64 R.2.2]::L) w'):=by
 let y:=[zS a2 d.length c3,i64 q,Value.int .u64 r]
 refine aR func12 rfl (by kernel_rfl) (by show (3:Nat)<=47;decide) ?_;unfold qG at hm
 refine aK (aE (v:=zS none 0 0) (aG (aO (aO (cH [0,1,2] (fun f w=>∃ a4,iI d q r a b a4=some R/\f 17=zB a4/\aI G K (box b1 56 y::L) w) ?_ ?_)))))
 ·rintro f h3 ⟨a4,hm,c4,c5⟩
  unfold iI at hm
  refine aB ?_
  rcases aH hm with ⟨a6,hm⟩|⟨a6,hm⟩
  ·refine aL a6 c4 (aK (bT (Kt:=K) (xs:=([0,0]:List Int)) (cs:=[i64 0,i64 0]) (vs:=[(0,i64 0),(1,i64 0)]) bV iD rfl rfl c5 rfl (by kernel_rfl) rfl rfl rfl ⟨rfl,rfl,trivial⟩ (fun k c6 (e3:aI G K (aN 2 K k 2 ([0,0]:List Int)::box b1 56 y::L) c6)=>?_)))
   have e4:aI G K (rows [2] ([(k,2)]:List (Dp.Hd (List Int))) [([0,0]:List Int)]::box b1 56 y::L) c6:=aI.rowsOne e3
   refine bT (Kt:=K) (xs:=dZ ([(k,2)]:List (Dp.Hd (List Int))) ([([0,0]:List Int)]:List (List Int))) (cs:=[zS k ([0,0]:List Int).length 2]) (vs:=[(0,zS k ([0,0]:List Int).length 2)]) eL qL rfl rfl e4 rfl (by kernel_rfl) rfl rfl rfl ⟨rfl,trivial⟩ ?_
   intro c7 e5 (e6:aI G K (aN 63 K c7 1 (dZ ([(k,2)]:List (Dp.Hd (List Int))) ([([0,0]:List Int)]:List (List Int)))::rows [2] ([(k,2)]:List (Dp.Hd (List Int))) ([([0,0]:List Int)]:List (List Int))::box b1 56 y::L) e5)
   refine aE (v:=zS c7 ([([0,0]:List Int)]:List (List Int)).length 1) (aG ?_);obtain ⟨h5,h6,h8,h9⟩:=aI.frzRows (i:=0) e6 rfl rfl rfl
   exact eB
  ·refine aJ a6 c4 (aW (aB (aO (aK (aF (v:=zP (some ⟨b1,0,none⟩)) ?_)))));obtain ⟨c8,e7,hm⟩:=aC hm
   refine aP (vs:=[zP (some ⟨b1,0,none⟩),i64 5]) call25 rfl (dY e7 c5 h4) ?_
   rintro _ i0 ⟨rfl,e8⟩
   refine aG ?_
   rcases aH hm with ⟨c45,hm⟩|⟨c45,hm⟩
   ·exact eB
   ·refine aJ c45 rfl (aW (aB (aK (aF (v:=cC a5 u) (aF (v:=cC a14 x) ?_)))));obtain ⟨e,e9,hm⟩:=aC hm
    refine aP (vs:=[cC a5 u,cC a14 x]) call32 rfl (aDw e9 e8 h7 d8 d9 e0 e1 e2) ?_
    rintro _ i1 ⟨c,g,j,rfl,f0,f1⟩
    refine aE (v:=zS g e.length j) (aG (aK (bT (Kt:=c) (xs:=([]:List (List Int))) (cs:=[]) (vs:=[]) eL qL rfl rfl f1 rfl (by kernel_rfl) rfl rfl rfl trivial (fun d0 f2 (i2:aI G c (aN 63 c d0 0 ([]:List (List Int))::aN 63 c g j e::box b1 56 [zS a2 d.length c3,i64 c8.2.1,Value.int .u64 c8.2.2]::L) f2)=>(aE (v:=zS d0 ([]:List (List Int)).length 0) (aG (aO (aK (aE (v:=i64 0) (aG (aX [] (fun f w=>∃ a7 d1 d2 d3 d4,pD a7 d1 d2=some R/\f 8=zS d3 a7.length d4/\aI G c (aN 63 c d3 d4 a7::box b1 56 [zS a2 d.length c3,i64 d1,Value.int .u64 d2]::L) w) eB ?_)))))))))))
    obtain ⟨i3,f3,ho⟩:=aC hm
    refine tZ [0,7] f3 (fun a9 b0 m z f w=>∃ n o,f 8=zS n m.length o/\f 9=i64 z/\aI G c (aN 63 c n o m::aN 63 c g j e::box b1 56 [zS a2 d.length c3,i64 a9,Value.int .u64 b0]::L) w) eB ?_
    ·rintro a9 b0 m z f4 f f5 hm hr ⟨n,o,f6,b2,f7⟩
     unfold gL at hm
     refine aO (aK (bC b2 (aF (v:=zS g e.length j) (aD (bX (len:=e.length) eL rfl) (aD (cV rfl rfl) (aG ?_))))))
     rcases aH hm with ⟨d5,hm⟩|⟨d5,hm⟩
     ·refine aL d5 rfl (aW (aB (aO (aX [0,7,9] (fun f w=>∃ b3 b4 J V Z,pE z b3 b4 J=some f4/\f 8=zS V J.length Z/\aI G c (aN 63 c V Z J::aN 63 c g j e::box b1 56 [zS a2 d.length c3,i64 b3,Value.int .u64 b4]::L) w) ?_ ?_))))
      ·rintro f i4 ⟨b3,b4,J,V,Z,hm,f8,f9⟩
       unfold pE at hm
       exact aB (aQ (bC b2 (aD (cL rfl rfl) (aE (v:=i64 (wr (z+1))) (aG ⟨_,(zI hm).symm,aM,V,Z,f8,rfl,f9⟩)))))
      refine aK (aF (v:=zP (some ⟨b1,0,none⟩)) ?_)
      have g0:aI G c (box b1 56 [zS a2 d.length c3,i64 a9,Value.int .u64 b0]::aN 63 c n o m::aN 63 c g j e::L) f5:=(aI.arr 3 [2,0,1] f7 rfl)
      obtain ⟨l,g1,hm⟩:=aC hm
      refine aP (vs:=[zP (some ⟨b1,0,none⟩),i64 12]) call25 rfl (dY g1 g0 (h4.mono f0)) ?_
      rintro _ i5 ⟨rfl,b5⟩
      refine aD (eC rfl) (aG ?_)
      rcases aH hm with ⟨d6,hm⟩|⟨d6,hm⟩
      ·refine aL d6 rfl (aQ (bC f6 (aF (v:=zS g e.length j) (bC b2 ?_))));obtain ⟨p,b6,hm⟩:=aC hm
       have g2:=cQ b5 (i:=2) rfl b6
       refine aD (dL eL rfl g2 rfl rfl rfl b6) ?_;obtain ⟨i6,g3,g4⟩:=aJt (sz:=1) rfl b5 (i:=2) rfl b6
       obtain ⟨a0,a1,rfl,g5⟩:=g4
       refine aD (aLZ (t:=0) (v:=zS a0 p.length a1) vT g3 rfl rfl) (bT (Kt:=c) (xs:=([p]:List (List Int))) (cs:=[zS a0 p.length a1]) (vs:=[(0,zS a0 p.length a1)]) eL qL rfl rfl b5 rfl (by kernel_rfl) rfl rfl rfl ⟨⟨a0,a1,rfl,g5⟩,trivial⟩ (fun g6 g7 (g8:aI G c (aN 63 c g6 1 ([p]:List (List Int))::box b1 56 [zS a2 d.length c3,i64 l.2.1,Value.int .u64 l.2.2]::aN 63 c n o m::aN 63 c g j e::L) g7)=>?_))
       obtain ⟨b7,g9,hm⟩:=aC hm
       exact aIQ (i:=1) c eL underlying28 qL rfl rfl g8 rfl (zR _) (zR _) g9 rfl rfl rfl rfl (fun _ _ _ h=>El.one h) (fun b8 b9 h0 (h1:aI G c (box b1 56 [zS a2 d.length c3,i64 l.2.1,Value.int .u64 l.2.2]::aN 63 c b8 b9 b7::aN 63 c g j e::L) h0)=>(aE (v:=zS b8 b7.length b9) (bF (bA (aB ⟨aM,l.2.1,l.2.2,b7,b8,b9,hm,rfl,(aI.arr 3 [1,2,0] h1 rfl)⟩)))))
      ·exact eB
     ·exact eB
 exact eB
theorem aDG {h:(List UInt8)} {R:(cB × cB × (List (List Int)))} (hm:wR h=some R) (hs:aI G K (L) w) (h3:bW K a1 c2 h):
  Calls prog 5 ([zS a1 h.length c2]:List Value).toArray w (eV fun v w'=>∃ J b9 c0 c1 c3 c4 c5 c6 c7 c8 c9,v=Value.tuple #[zA (zCa R.1 b9 c0 c1 c3),zA (zCa R.2.1 c4 c5 c6 c7),zS c8 R.2.2.length c9]/\Hp.le K J/\bW J b9 c0 R.1.L/\bW J c1 c3 R.1.E/\bW J c4 c5 R.2.1.L/\bW J c6 c7 R.2.1.E/\bW J c8 c9 R.2.2/\aI G J (L) w'):=by
 let g:=zG
 refine aR func5 rfl (by kernel_rfl) (by show (1:Nat)<=19;decide) ?_;unfold wR at hm
 refine aK (cI (vs:=g) zeroValue27 hs rfl (fun p w5 e2=>(cI (vs:=g) zeroValue27 e2 rfl (fun q w8 e3=>(aE (v:=zS none 0 0) (aG (aK (aF (v:=zS a1 h.length c2) ?_))))))));obtain ⟨g6,e4,hm⟩:=aC hm
 refine aP (vs:=[zS a1 h.length c2]) call10 rfl (aEH e4 e3 h3) ?_
 rintro _ g7 ⟨j,rfl,e5⟩
 refine aE (v:=zP (some ⟨j,0,none⟩)) (aG (aK (aF (v:=zP (some ⟨j,0,none⟩)) ?_)));obtain ⟨a,e6,hm⟩:=aC hm
 refine aP (vs:=[zP (some ⟨j,0,none⟩)]) call11 rfl (aFp e6 e5 h3) ?_
 rintro _ g8 ⟨d,e,b,c,m,n,k,l,rfl,e7⟩
 refine aF (v:=Value.tuple #[zA (zCa a.1 d e b c),zA (zCa a.2.1 m n k l)]) (aD (dC rfl rfl) (aD (dC rfl rfl) (cI (vs:=g) zeroValue27 e7 rfl (fun y g9 e8=>(cI (vs:=g) zeroValue27 e8 rfl (fun a3 h0 e9=>(cG (i:=1) (ns:=(zC a.1 d e b c)) (us:=(zC a.1 d e b c)) sizeOf27 e9 rfl rfl rfl rfl rfl (dN rfl) rfl rfl (fun f0 (f1:aI G K (box a3 27 g::box y 27 (zC a.1 d e b c)::aN 9 K d e a.1.L::aN 66 K b c a.1.E::aN 9 K m n a.2.1.L::aN 66 K k l a.2.1.E::box j 56 [zS a1 h.length c2,i64 a.2.2.1,Value.int .u64 a.2.2.2]::box q 27 g::box p 27 g::L) f0)=>(cG (i:=0) (ns:=(zC a.2.1 m n k l)) (us:=(zC a.2.1 m n k l)) sizeOf27 f1 rfl rfl rfl rfl rfl (dN rfl) rfl rfl (fun V (f2:aI G K (box a3 27 (zC a.2.1 m n k l)::box y 27 (zC a.1 d e b c)::aN 9 K d e a.1.L::aN 66 K b c a.1.E::aN 9 K m n a.2.1.L::aN 66 K k l a.2.1.E::box j 56 [zS a1 h.length c2,i64 a.2.2.1,Value.int .u64 a.2.2.2]::box q 27 g::box p 27 g::L) V)=>(aG (aO ?_))))))))))))
 obtain ⟨f3,a4,d0,b2⟩:=aI.giveSp f2 (zR _) zt4
 replace b2:aI G f3 (box a3 27 (zC a.2.1 m n k l)::box y 27 (zC a.1 d e b c)::aN 9 K d e a.1.L::aN 66 K b c a.1.E::aN 66 K k l a.2.1.E::box j 56 [zS a1 h.length c2,i64 a.2.2.1,Value.int .u64 a.2.2.2]::box q 27 g::box p 27 g::L) V:=b2
 obtain ⟨f4,a0,d1,b3⟩:=aI.giveSp b2 a4 zt4
 replace b3:aI G f4 (box a3 27 (zC a.2.1 m n k l)::box y 27 (zC a.1 d e b c)::aN 9 K d e a.1.L::aN 66 K b c a.1.E::box j 56 [zS a1 h.length c2,i64 a.2.2.1,Value.int .u64 a.2.2.2]::box q 27 g::box p 27 g::L) V:=b3
 obtain ⟨f5,z,d2,b5,_⟩:=aI.lendBp b3 .head
 replace b5:aI G f5 (box y 27 (zC a.1 d e b c)::aN 9 K d e a.1.L::aN 66 K b c a.1.E::box j 56 [zS a1 h.length c2,i64 a.2.2.1,Value.int .u64 a.2.2.2]::box q 27 g::box p 27 g::L) V:=b5
 obtain ⟨f6,u,d3,b6⟩:=aI.giveSp b5 (zL (zL a4 a0) z) zt1
 replace b6:aI G f6 (box y 27 (zC a.1 d e b c)::aN 66 K b c a.1.E::box j 56 [zS a1 h.length c2,i64 a.2.2.1,Value.int .u64 a.2.2.2]::box q 27 g::box p 27 g::L) V:=b6
 obtain ⟨f7,r,d4,b8⟩:=aI.giveSp b6 (zL (zL (zL a4 a0) z) u) zt1
 replace b8:aI G f7 (box y 27 (zC a.1 d e b c)::box j 56 [zS a1 h.length c2,i64 a.2.2.1,Value.int .u64 a.2.2.2]::box q 27 g::box p 27 g::L) V:=b8
 obtain ⟨d5,o,d6,a7,_⟩:=aI.lendBp b8 .head
 replace a7:aI G d5 (box j 56 [zS a1 h.length c2,i64 a.2.2.1,Value.int .u64 a.2.2.2]::box q 27 g::box p 27 g::L) V:=a7
 refine dI (C:=fun w'=>∃ L',aI G d5 L' w') [(0,0),(1,0),(2,1),(3,1),(4,1),(5,2),(6,2)] Tryz_mixed (by kernel_rfl) (fun _ hg=>⟨_,aI.mono a7 hg⟩) (fun h1 f8=>?_)
 have a2:=aI.mono a7 f8
 refine bL rfl (fun _ ⟨_,a2⟩=>gC (t:=0) (vs:=(zC a.1 d e b c)) eS a2 d6 (aLY rfl) rfl rfl) (bL rfl (fun _ ⟨_,a2⟩=>gC (t:=0) (vs:=(zC a.2.1 m n k l)) eS a2 (d2.mono (zL (zL u r) o)) (aLY rfl) rfl rfl) (fT rfl (aF (v:=zP (some ⟨j,0,none⟩)) (bF (aB ⟨⟨_,a2⟩,?_⟩)))))
 refine fT rfl ?_;obtain ⟨x,f9,hm⟩:=aC hm
 refine aP (vs:=[zP (some ⟨j,0,none⟩),cC (some ⟨y,0,none⟩) 0,cC (some ⟨a3,0,none⟩) 0]) call12 (lst3 rfl (aLY rfl) (aLY rfl)) (aDb f9 a2 (h3.mono (zL (zL (zL (zL (zL a4 a0) z) u) r) o)) d6 (d3.mono (zL r o)) (d4.mono o) (d2.mono (zL (zL u r) o)) (d0.mono (zL (zL (zL (zL a0 z) u) r) o)) (d1.mono (zL (zL (zL z u) r) o))) ?_
 rintro _ h2 ⟨a8,a9,b0,rfl,Z,d7⟩
 refine bF (aB ⟨⟨_,(aI.weakK d7 Z)⟩,?_⟩)
 refine fT rfl (cG (i:=3) (ns:=(zC a.1 d e b c)) (us:=(zC a.1 d e b c)) sizeOf27 d7 rfl rfl rfl rfl rfl (dN rfl) rfl rfl (fun g0 (d8:aI G a8 (aN 63 a8 a9 b0 x.1::box j 56 [zS a1 h.length c2,i64 x.2.1,Value.int .u64 x.2.2]::box q 27 g::box p 27 (zC a.1 d e b c)::L) g0)=>(bF (aB ⟨⟨_,(aI.weakK d8 Z)⟩,?_⟩))))
 refine yH rfl (cG (i:=2) (ns:=(zC a.2.1 m n k l)) (us:=(zC a.2.1 m n k l)) sizeOf27 d8 rfl rfl rfl rfl rfl (dN rfl) rfl rfl (fun d9 (g1:aI G a8 (aN 63 a8 a9 b0 x.1::box j 56 [zS a1 h.length c2,i64 x.2.1,Value.int .u64 x.2.2]::box q 27 (zC a.2.1 m n k l)::box p 27 (zC a.1 d e b c)::L) d9)=>(aG (yH rfl (aE (v:=zS a9 x.1.length b0) (aG (gD (aB ?_))))))));obtain ⟨e0,a5,g2,a6⟩:=aI.giveSp g1 (zR _) .head
 replace a6:aI G e0 (box j 56 [zS a1 h.length c2,i64 x.2.1,Value.int .u64 x.2.2]::box q 27 (zC a.2.1 m n k l)::box p 27 (zC a.1 d e b c)::L) d9:=a6
 obtain rfl:=zI hm
 exact bM (retQ_m3 results5 (lV (vs:=(zC a.1 d e b c)) rfl eS a6 (i:=2) rfl rfl rfl) (lV (vs:=(zC a.2.1 m n k l)) rfl eS a6 (i:=1) rfl rfl rfl) (rv_tmp rfl rfl) ⟨e0,d,e,b,c,m,n,k,l,a9,b0,rfl,(zL (zL (zL (zL (zL (zL (zL a4 a0) z) u) r) o) Z) a5),(d3.mono (zL (zL (zL r o) Z) a5)),(d4.mono (zL (zL o Z) a5)),(d0.mono (zL (zL (zL (zL (zL (zL a0 z) u) r) o) Z) a5)),(d1.mono (zL (zL (zL (zL (zL z u) r) o) Z) a5)),g2,(aI.arr 3 [] a6 rfl)⟩)
theorem jT {t:cB} {k:Int} {R:Bool} (hm:jC t k=some R) (a:aI G K (L) w) (b:bW K a1 c2 t.L) (c:bW K a4 c5 t.E):
  Calls prog 80 ([zA (zCa t a1 c2 a4 c5),i64 k]:List Value).toArray w (eV fun v w'=>v=zB R/\aI G K (L) w'):=by
 exact eB
theorem aJh {i many:Int} {R:Bool} (hm:aJf i many=some R) (a:aI G K (L) w):
  Calls prog 82 ([i64 i,i64 many]:List Value).toArray w (eV fun v w'=>v=zB R/\aI G K (L) w'):=by
 exact eB
theorem aAk {t:cB} {R:Bool} (hm:aAt t=some R) (hs:aI G K (L) w) (hG:G.lo=0) (q:bW K a1 c2 t.L) (x:bW K a4 c5 t.E):
  Calls prog 33 ([zA (zCa t a1 c2 a4 c5)]:List Value).toArray w (eV fun v w'=>v=zB R/\aI G K (L) w'):=by
 let m:=(zC t a1 c2 a4 c5)
 refine aR func33 rfl (by kernel_rfl) (by show (1:Nat)<=109;decide) ?_;unfold aAt at hm
 refine aK (fO (v:=zA (zCa t a1 c2 a4 c5)) (vs:=m) hs rfl rfl (fun n w8 a3=>(aE (v:=zB false) (aG (aO (aO (cH [1] (fun f w=>∃ y,rO t y=some R/\f 30=zB y/\aI G K (box n 27 m::L) w) ?_ ?_)))))))
 ·rintro f e4 ⟨y,hm,b8,b9⟩
  unfold rO at hm
  refine aB ?_
  rcases aH hm with ⟨a5,hm⟩|⟨a5,hm⟩
  ·exact eB
  ·refine aJ a5 b8 (aW (aB (aO (aK (aD (bH (t':=2) fF rfl rfl) (aD (cR oF b9 (i:=0) rfl rfl rfl) (aD (bX (len:=t.L.length) dE rfl) (aF (v:=i64 0) (aG (aX [1] (fun f w=>zJ t=some R/\aI G K (box n 27 m::L) w) ?_ ?_))))))))))
   ·rintro f e5 ⟨hm,c0⟩
    unfold zJ at hm
    refine aB (aO (aK (aD (bH (t':=3) cM rfl rfl) (aD (cR eK c0 (i:=0) rfl rfl rfl) (aD (bX (len:=t.E.length) cK rfl) (aF (v:=i64 0) (aG (aX [] (fun f w=>aCA=some R/\aI G K (L) w) eB ?_))))))));obtain ⟨e6,c1,ho⟩:=aC hm
    refine fA [1,65,66] c1 (fun r f w=>f 67=i64 r/\aI G K (box n 27 m::L) w) eB ?_
    ·rintro r c3 f e7 hm hr ⟨z,a6⟩
     unfold zH at hm
     refine aK (aD (cV z rfl) (aG (aO ?_)))
     rcases aH hm with ⟨a7,hm⟩|⟨a7,hm⟩
     ·refine aL a7 rfl (aW (aB (aO (dA (aK (bC z ?_))))));obtain ⟨j,a8,hm⟩:=aC hm
      refine aD (cO cK rfl x rfl rfl z a8) ?_;obtain ⟨e8,c4,c6⟩:=bW.el (sz:=3) rfl x a8
      cases c6
      exact aD (gC (t:=0) (vs:=[i64 j.F,i64 j.B,i64 j.To]) oX a6 c4 rfl rfl rfl) (cI (vs:=[i64 0,i64 0,i64 0]) zeroValue66 a6 rfl (fun c7 e9 c8=>(aE (v:=i64 r) (cG (i:=0) (ns:=[i64 j.F,i64 j.B,i64 j.To]) (us:=[i64 j.F,i64 j.B,i64 j.To]) sizeOf66 c8 rfl rfl rfl rfl rfl (dN rfl) rfl rfl (fun c9 (f0:aI G K (box c7 66 [i64 j.F,i64 j.B,i64 j.To]::box n 27 m::L) c9)=>(aG (aO (cH [1,65,66,67] (fun f w=>∃ a9,oI r a9=some c3/\f 107=zB a9/\aI G K (box n 27 m::L) w) eB eB))))))))
     ·exact eB
   obtain ⟨f1,d0,ho⟩:=aC hm
   refine fA [1,32,33] d0 (fun l f w=>f 34=i64 l/\aI G K (box n 27 m::L) w) eB ?_
   ·rintro l d1 f f2 hm hr ⟨J,V⟩
    unfold zN at hm
    refine aK (aD (cV J rfl) (aG (aO ?_)))
    rcases aH hm with ⟨Z,hm⟩|⟨Z,hm⟩
    ·refine aL Z rfl (aW (aB (aO (dA (aK (bC J ?_))))));obtain ⟨b,b0,hm⟩:=aC hm
     refine aD (cO dE rfl q rfl rfl J b0) ?_;obtain ⟨f3,d2,d3⟩:=bW.el (sz:=1) rfl q b0
     cases d3
     refine aD (bE (t:=0) aAU V d2 rfl rfl) (aE (v:=i64 l) (aE (v:=str b) (aG (aO (cH [1,32,33,34] (fun f w=>∃ b1,rN l b1=some d1/\f 62=zB b1/\aI G K (box n 27 m::L) w) eB (aQ (aF (v:=str b) ?_)))))));obtain ⟨d4,d5,hm⟩:=aC hm
     refine aP (vs:=[str b]) call81 rfl (aEG d5 V hG) ?_
     rintro _ f4 ⟨rfl,o⟩
     refine aD (eC rfl) (aF (v:=zB (!d4)) ?_)
     rcases aH hm with ⟨c,hm⟩|⟨c,hm⟩
     ·exact aS c rfl rfl (aS c rfl rfl (aS c rfl rfl (aS c rfl rfl (aS c rfl rfl (aD (bJ (v:=zB true) c rfl rfl) (aF (v:=zB true) (aS (rfl:true=true) rfl rfl (aS (rfl:true=true) rfl rfl (aS (rfl:true=true) rfl rfl (dO (g:=52) rfl rfl (dO (g:=52) rfl rfl (dO (g:=52) rfl rfl (dO (g:=52) rfl rfl (dO (g:=52) rfl rfl (dO (g:=52) rfl rfl (dO (g:=52) rfl rfl (dO (g:=52) rfl rfl (aS (rfl:true=true) rfl rfl (aD (bJ (v:=zB true) (rfl:true=true) rfl rfl) (aG ⟨aM,true,hm,rfl,o⟩))))))))))))))))))))
     ·refine bG c rfl rfl (aF (v:=str b) (bG c rfl rfl (aD (aDp rfl rfl) (bG c rfl rfl (aF (v:=i64 l) (bG c rfl rfl (aD (dM rfl rfl) (bG c rfl rfl (aD (R_neqB runUnderlying4 rfl rfl) (aD (bN (v:=zB ((b == ([116,97,117]:aY)) != (l == 0))) c rfl rfl) (aF (v:=zB ((b == ([116,97,117]:aY)) != (l == 0))) ?_)))))))))))
      rcases aH hm with ⟨d,hm⟩|⟨d,hm⟩
      ·exact aS d rfl rfl (aS d rfl rfl (aS d rfl rfl (dO (g:=52) rfl rfl (dO (g:=52) rfl rfl (dO (g:=52) rfl rfl (dO (g:=52) rfl rfl (dO (g:=52) rfl rfl (dO (g:=52) rfl rfl (dO (g:=52) rfl rfl (dO (g:=52) rfl rfl (aS d rfl rfl (aD (bJ (v:=zB true) d rfl rfl) (aG ⟨aM,true,hm,rfl,o⟩)))))))))))))
      ·refine bG d rfl rfl (aF (v:=i64 l) (bG d rfl rfl (aD (jU rfl rfl) (bG d rfl rfl (aF (v:=zB (decide (1 < l))) ?_)))))
       rcases aH hm with ⟨a,hm⟩|⟨a,hm⟩
       ·refine bK a rfl rfl (aF (v:=str b) (bK a rfl rfl (aD (bH (t':=2) fF rfl rfl) (bK a rfl rfl (aD (cR oF o (i:=0) rfl rfl rfl) (bK a rfl rfl (aF (v:=i64 l) (bK a rfl rfl (aD (kT rfl rfl) (bK a rfl rfl ?_))))))))));obtain ⟨p,b2,hm⟩:=aC hm
        refine aD (cO dE rfl q rfl rfl rfl b2) ?_;obtain ⟨f5,d6,d7⟩:=bW.el (sz:=1) rfl q b2
        cases d7
        exact bK a rfl rfl (aD (bE (t:=0) aAU o d6 rfl rfl) (bK a rfl rfl (aD (R_leqS rfl rfl) (bG d rfl rfl (aD (bJ (v:=zB (ltB b p||b == p)) a rfl rfl) (aD (bN (v:=zB (ltB b p||b == p)) d rfl rfl) (aG ⟨aM,(ltB b p||b == p),hm,rfl,o⟩)))))))
       ·exact bD a rfl rfl (bD a rfl rfl (bD a rfl rfl (bD a rfl rfl (bD a rfl rfl (bD a rfl rfl (bD a rfl rfl (bD a rfl rfl (bG d rfl rfl (aD (bN (v:=zB false) a rfl rfl) (aD (bN (v:=zB false) d rfl rfl) (aG ⟨aM,false,hm,rfl,o⟩)))))))))))
    ·refine aJ Z rfl (cJ (bB (bB ?_)))
     have d8:=hr _ (zI hm).symm
     subst d8
     have hm:(zJ t)=some R:=ho
     clear hr ho
     exact bP (aB ⟨aM,hm,V⟩)
 refine aQ (aD (bH (t':=0) cT rfl rfl) (aD (cR cE a3 (i:=0) rfl rfl rfl) ?_));obtain ⟨d9,e0,hm⟩:=aC hm
 refine aP (vs:=[i64 t.N,i64 1,i64 40]) call79 rfl (rR e0 a3) ?_
 rintro _ f6 ⟨rfl,u⟩
 refine aD (eC rfl) (aF (v:=zB (!d9)) ?_)
 rcases aH hm with ⟨e,hm⟩|⟨e,hm⟩
 ·exact aS e rfl rfl (aS e rfl rfl (aS e rfl rfl (aS e rfl rfl (aS e rfl rfl (aD (bJ (v:=zB true) e rfl rfl) (aF (v:=zB true) (aS (rfl:true=true) rfl rfl (aS (rfl:true=true) rfl rfl (aS (rfl:true=true) rfl rfl (aS (rfl:true=true) rfl rfl (aS (rfl:true=true) rfl rfl (aD (bJ (v:=zB true) (rfl:true=true) rfl rfl) (aF (v:=zB true) (aS (rfl:true=true) rfl rfl (aS (rfl:true=true) rfl rfl (aS (rfl:true=true) rfl rfl (aS (rfl:true=true) rfl rfl (aD (bJ (v:=zB true) (rfl:true=true) rfl rfl) (aG ⟨aM,true,hm,rfl,u⟩)))))))))))))))))))
 ·refine bG e rfl rfl (aD (eJ (us:=m) eS u (i:=0) rfl rfl rfl rfl) (bG e rfl rfl (aD (bH (t':=1) oC rfl rfl) (bG e rfl rfl (aD (cR cE u (i:=0) rfl rfl rfl) (bG e rfl rfl ?_))))));obtain ⟨b3,e1,hm⟩:=aC hm
  refine aP (vs:=[zA (zCa t a1 c2 a4 c5),i64 t.I]) call80 rfl (jT e1 u q x) ?_
  rintro _ f7 ⟨rfl,a0⟩
  refine bG e rfl rfl (aD (eC rfl) (aD (bN (v:=zB (!b3)) e rfl rfl) (aF (v:=zB (!b3)) ?_)))
  rcases aH hm with ⟨h,hm⟩|⟨h,hm⟩
  ·exact aS h rfl rfl (aS h rfl rfl (aS h rfl rfl (aS h rfl rfl (aS h rfl rfl (aD (bJ (v:=zB true) h rfl rfl) (aF (v:=zB true) (aS (rfl:true=true) rfl rfl (aS (rfl:true=true) rfl rfl (aS (rfl:true=true) rfl rfl (aS (rfl:true=true) rfl rfl (aD (bJ (v:=zB true) (rfl:true=true) rfl rfl) (aG ⟨aM,true,hm,rfl,a0⟩))))))))))))
  ·refine bG h rfl rfl (aD (bH (t':=2) fF rfl rfl) (bG h rfl rfl (aD (cR oF a0 (i:=0) rfl rfl rfl) (bG h rfl rfl (aD (bX (len:=t.L.length) dE rfl) (bG h rfl rfl ?_))))));obtain ⟨b4,e2,hm⟩:=aC hm
   refine aP (vs:=[i64 (t.L.length:Int),i64 1,i64 12]) call79 rfl (rR e2 a0) ?_
   rintro _ f8 ⟨rfl,a2⟩
   refine bG h rfl rfl (aD (eC rfl) (aD (bN (v:=zB (!b4)) h rfl rfl) (aF (v:=zB (!b4)) ?_)))
   rcases aH hm with ⟨k,hm⟩|⟨k,hm⟩
   ·exact aS k rfl rfl (aS k rfl rfl (aS k rfl rfl (aS k rfl rfl (aD (bJ (v:=zB true) k rfl rfl) (aG ⟨aM,true,hm,rfl,a2⟩)))))
   ·exact bG k rfl rfl (aD (bH (t':=3) cM rfl rfl) (bG k rfl rfl (aD (cR eK a2 (i:=0) rfl rfl rfl) (bG k rfl rfl (aD (bX (len:=t.E.length) cK rfl) (bG k rfl rfl (aD (jU rfl rfl) (aD (bN (v:=zB (decide (300 < (t.E.length:Int)))) k rfl rfl) (aG ⟨aM,decide (300 < (t.E.length:Int)),hm,rfl,a2⟩)))))))))
end Gv
namespace Gv
open Gv.Hp renaming le_refl→zR
open Go.Value renaming slice→zS,bool→zB,pointer→zP,agg→zA,map→zM
open Option.some renaming inj→zI
open Gv.Hp renaming le_trans→zL
open Go Go.Proofs Go.Proofs.Tryz
set_option maxRecDepth 20000
set_option maxHeartbeats 40000000
variable {G:uK} {K:Hp} {L:List gQ} {w:World} {a1 a4 a7 a10 a13 a16 a19 a21 a24 a22 a25 a28 a31 a36 a34 a39:Option Addr} {c2 c5 c8 c11 c14 c17 c20 c23 c26 c29 c32:Nat}
theorem aHL {a b:cB} {g:(List (List Int))} {R:((List ((Int × Int) × Bool)) × Bool)} (hm:aEg a b g=some R) (hs:aI G K (L) w) (h3:bW K a1 c2 a.L) (h6:bW K a4 c5 a.E) (h9:bW K a7 c8 b.L) (d7:bW K a10 c11 b.E) (a0:bW K a13 c14 g):
  Calls prog 85 ([zA (zCa a a1 c2 a4 c5),zA (zCa b a7 c8 a10 c11),zS a13 g.length c14]:List Value).toArray w (eV fun v w'=>∃ a2,v=Value.tuple #[zM (if R.2=true then some a2 else none),zB R.2]/\aI G K (mpc R.2 a2 R.1::L) w'):=by
 let d:=(zC b a7 c8 a10 c11)
 let e:=(zC a a1 c2 a4 c5)
 refine aR func85 rfl (by kernel_rfl) (by show (3:Nat)<=62;decide) ?_;unfold aEg at hm
 refine aK (fO (v:=zA (zCa a a1 c2 a4 c5)) (vs:=e) hs rfl rfl (fun h d8 b1=>(fO (v:=zA (zCa b a7 c8 a10 c11)) (vs:=d) b1 rfl rfl (fun j d9 b2=>(aE (v:=zM none) (aE (v:=zB false) (aG (aK (WO_mkMap (Int × Int) Bool b2 ?_)))))))))
 intro c b3 (e0:aI G K (mpo c ([]:(List ((Int × Int) × Bool)))::box j 27 d::box h 27 e::L) b3)
 refine aE (v:=zM (some c)) (aG (aO (aK (aF (v:=zS a13 g.length c14) (aD (bX (len:=g.length) eL rfl) (aF (v:=i64 0) (aG (aX [8] (fun f w=>∃ (n:(List ((Int × Int) × Bool))),aDW n=some R/\aI G K (mpo c n::L) w) ?_ ?_))))))))
 ·rintro f b4 ⟨n,hm,b5⟩
  unfold aDW at hm
  refine aB (aK (aF (v:=zM (some c)) (aE (v:=zM (some c)) (aE (v:=zB true) (aG ?_)))))
  have e1:aI G K (mpc true c n::L) b4:=aI.mpcT (i:=0) b5 rfl
  exact eB
 obtain ⟨e2,b6,ho⟩:=aC hm
 refine cP [2,3,4,8,12,13] b6 (fun l o f w=>f 14=i64 o/\aI G K (mpo c l::box j 27 d::box h 27 e::L) w) eB ?_
 ·rintro l o b7 f e3 hm hr ⟨r,b8⟩
  unfold xU at hm
  refine aK (aD (cV r rfl) (aG (aO ?_)))
  rcases aH hm with ⟨a3,hm⟩|⟨a3,hm⟩
  ·refine aL a3 rfl (aW (aB (aO (dA (aK (bC r ?_))))));obtain ⟨p,a5,hm⟩:=aC hm
   refine aD (cO eL rfl a0 rfl rfl r a5) ?_;obtain ⟨e4,b9,c0⟩:=bW.el (sz:=1) rfl a0 a5
   obtain ⟨u,x,rfl,q⟩:=c0
   refine aD (bE (t:=0) vT b8 b9 rfl rfl) (aE (v:=i64 o) (aE (v:=zS u p.length x) (aG (aO (aO (cH [2,3,4,8,10,12,13,14] (fun f w=>∃ y,kX l o p y=some b7/\f 51=zB y/\aI G K (mpo c l::box j 27 d::box h 27 e::L) w) ?_ ?_))))))
   ·rintro f c1 ⟨y,hm,a6,z⟩
    unfold kX at hm
    refine aB ?_
    rcases aH hm with ⟨J,hm⟩|⟨J,hm⟩
    ·refine aL J a6 (aK (aE (v:=zM none) (aE (v:=zB false) (aG (bM (aZ (cD (aZ (aZ ?_)))))))))
     have c3:=hr _ (zI hm).symm
     subst c3
     have hm:(some ([],false))=some R:=ho
     clear hr ho
     have e5:aI G K (mpc false 0 ([]:(List ((Int × Int) × Bool)))::mpo c l::box j 27 d::box h 27 e::L) c1:=aI.mpcN z
     exact eB
    ·refine aJ J a6 (aW (aB (dI (C:=fun w'=>∃ L',aI G K L' w') [(0,0),(1,0),(2,0),(3,0),(4,0),(5,0),(6,0),(7,0),(8,2)] Tryz_mixed (by kernel_rfl) (fun _ hg=>⟨_,aI.mono z hg⟩) (fun e6 c4=>?_))))
     have m:=aI.mono z c4
     refine bL rfl (fun _ _=>aT (v:=zM (some c)) rfl) (bL rfl (fun _ _=>aT (v:=zS u p.length x) rfl) ?_);obtain ⟨V,a8,hm⟩:=aC hm
     refine bL rfl (fun _ _=>cO bV rfl q rfl rfl rfl a8) ?_;obtain ⟨e7,c6,c7⟩:=bW.el (sz:=1) rfl q a8
     cases c7
     refine bL rfl (fun _ ⟨_,m⟩=>bE (t:=0) cE m c6 rfl rfl) (bL rfl (fun _ _=>aT (v:=zS u p.length x) rfl) ?_);obtain ⟨Z,a9,hm⟩:=aC hm
     refine bL rfl (fun _ _=>cO bV rfl q rfl rfl rfl a9) ?_;obtain ⟨e8,c9,d0⟩:=bW.el (sz:=1) rfl q a9
     cases d0
     refine bL rfl (fun _ ⟨_,m⟩=>bE (t:=0) cE m c9 rfl rfl) (bL rfl (fun _ _=>aNQ (vs:=[(0,i64 V),(1,i64 Z)]) (cs:=[i64 V,i64 Z]) aJx bz_126 rfl (by kernel_rfl)) (yH rfl ?_));obtain ⟨d1,d2,hm⟩:=aC hm
     exact WO_mapUp (i:=0) (k:=⟨V,Z⟩) (v:=true) runUnderlying123 ko_126 m rfl rfl rfl rfl d2 (fun d3 (e9:aI G K (mpo c d1::box j 27 d::box h 27 e::L) d3)=>(aG (gD eB)))
   exact eB
  ·exact eB
theorem aEP {t:cB} {k:Int} {R:(List Edge)} (hm:aEh t k=some R) (u:aI G K (L) w) (V:bW K a1 c2 t.L) (Z:bW K a4 c5 t.E):
  Calls prog 140 ([zA (zCa t a1 c2 a4 c5),i64 k]:List Value).toArray w (eV fun v w'=>∃ l m,v=zS l R.length m/\aI G K (aN 66 K l m R::L) w'):=by
 refine aR func140 rfl (by kernel_rfl) (by show (2:Nat)<=25;decide) ?_;unfold aEh at hm
 refine aK (fO (v:=zA (zCa t a1 c2 a4 c5)) (vs:=(zC t a1 c2 a4 c5)) u rfl rfl (fun b7 w8 n=>(aE (v:=zS none 0 0) (aG (aK (aE (v:=zS none 0 0) (aG (aO (aK (aD (bH (t':=3) cM rfl rfl) (aD (cR eK n (i:=0) rfl rfl rfl) (aD (bX (len:=t.E.length) cK rfl) (aF (v:=i64 0) (aG (aX [] (fun f w=>∃ e o p,aBv e=some R/\f 5=zS o e.length p/\aI G K (aN 66 K o p e::L) w) eB ?_)))))))))))))))
 have a3:=aI.nil (α:=Edge) n 66 K
 obtain ⟨a5,x,ho⟩:=aC hm
 refine cP [1,9,10] x (fun g a f w=>∃ h j,f 5=zS h g.length j/\f 11=i64 a/\aI G K (aN 66 K h j g::L) w) eB ?_
 ·rintro g a y f a6 hm hr ⟨h,j,a7,q,a8⟩
  unfold aBx at hm
  refine aK (aD (cV q rfl) (aG (aO ?_)))
  rcases aH hm with ⟨r,hm⟩|⟨r,hm⟩
  ·refine aL r rfl (aW (aB (aO (aX [1,9,10,11] (fun f w=>∃ b c d,aBw a b=some y/\f 5=zS c b.length d/\aI G K (aN 66 K c d b::L) w) ?_ ?_))))
   ·rintro f a9 ⟨b,c,d,hm,z,J⟩
    unfold aBw at hm
    exact aB (aQ (aD (cL q rfl) (aF (v:=i64 (wr (a+1))) (aG ⟨_,(zI hm).symm,aM,c,d,z,rfl,J⟩))))
   exact eB
  ·exact eB
theorem pN {a:(List Int)} {b R:Int} (hm:gI a b=some R) (e:aI G K (L) w) (g:bW K a1 c2 a):
  Calls prog 143 ([zS a1 a.length c2,i64 b]:List Value).toArray w (eV fun v w'=>v=i64 R/\aI G K (L) w'):=by
 refine aR func143 rfl (by kernel_rfl) (by show (2:Nat)<=19;decide) ?_;unfold gI at hm
 refine aK (aE (v:=i64 0) (aG (aO (aK (aF (v:=zS a1 a.length c2) (aD (bX (len:=a.length) bV rfl) (aF (v:=i64 0) (aG (aX [] (fun f w=>hO=some R/\aI G K (L) w) eB ?_)))))))));obtain ⟨h,c,ho⟩:=aC hm
 exact fA [0,1,7] c (fun d f w=>f 8=i64 d/\aI G K (L) w) eB eB
theorem iT {a:(List Int)} {b:Int} {R:Bool} (hm:eN a b=some R) (c:aI G K (L) w) (d:bW K a1 c2 a):
  Calls prog 122 ([zS a1 a.length c2,i64 b]:List Value).toArray w (eV fun v w'=>v=zB R/\aI G K (L) w'):=by
 exact eB
theorem oB {a R:(List Int)} (hm:fW a=some R) (hs:aI G K (aN 2 K a1 c2 a::L) w):
  Calls prog 142 ([zS a1 a.length c2]:List Value).toArray w (eV fun v w'=>∃ a2 a3,v=zS a2 R.length a3/\aI G K (aN 2 K a2 a3 R::L) w'):=by
 refine aR func142 rfl (by kernel_rfl) (by show (1:Nat)<=61;decide) ?_;unfold fW at hm
 refine aK (aE (v:=zS none 0 0) (aG (aO (aK (aF (v:=zS a1 a.length c2) (aD (bX (len:=a.length) bV rfl) (aD (cV rfl rfl) (aG ?_))))))))
 rcases aH hm with ⟨c3,hm⟩|⟨c3,hm⟩
 ·exact eB
 ·refine aJ c3 rfl (aW (aB (aO (aK (aE (v:=i64 1) (aG (aX [0] (fun f w=>gM a=some R/\aI G K (aN 2 K a1 c2 a::L) w) eB ?_)))))));obtain ⟨f2,d4,ho⟩:=aC hm
  refine fA [0] d4 (fun d f w=>f 3=i64 d/\aI G K (aN 2 K a1 c2 a::L) w) eB ?_
  ·rintro d a5 f f3 hm hr ⟨m,b⟩
   unfold fE at hm
   refine aO (aK (bC m (aF (v:=zS a1 a.length c2) (aD (bX (len:=a.length) bV rfl) (aD (cV rfl rfl) (aG ?_))))))
   rcases aH hm with ⟨a6,hm⟩|⟨a6,hm⟩
   ·refine aL a6 rfl (aW (aB (aO (aX [0] (fun f w=>gN d=some a5/\f 3=i64 d/\aI G K (aN 2 K a1 c2 a::L) w) ?_ ?_))))
    ·rintro f f4 ⟨hm,d5,d6⟩
     unfold gN at hm
     exact aB (aQ (bC d5 (aD (cL rfl rfl) (aE (v:=i64 (wr (d+1))) (aG ⟨_,(zI hm).symm,aM,rfl,d6⟩)))))
    refine aO (dR (C:=fun w'=>aI G K (aN 2 K a1 c2 a::L) w') Tryz_mixed (by kernel_rfl) (aI.mono b (dQ.drew _)) (aU (fun _ b=>aT (v:=zS a1 a.length c2) rfl) (aU (fun _ b=>aT m) ?_)));obtain ⟨f5,V,hm⟩:=aC hm
    have e:=cQ b (i:=0) rfl V
    refine aU (fun _ b=>dL bV rfl e rfl rfl rfl V) (aU (fun _ b=>jV (t:=0) cE b (i:=0) rfl V rfl rfl rfl) (aU (fun _ b=>aT (v:=zS a1 a.length c2) rfl) (aU (fun _ b=>aT m) (aU (fun _ b=>kT rfl rfl) ?_))));obtain ⟨f6,a7,hm⟩:=aC hm
    refine aU (fun _ b=>dL bV rfl e rfl rfl rfl a7) (aU (fun _ b=>jV (t:=0) cE b (i:=0) rfl a7 rfl rfl rfl) (aU (fun _ b=>dM rfl rfl) (dU (fun f7 d7=>(aB ?_)))))
    rcases aH hm with ⟨a8,hm⟩|⟨a8,hm⟩
    ·refine aL a8 rfl (aK (aF (v:=zS a1 a.length c2) (bC m ?_)));obtain ⟨g,o,hm⟩:=aC hm
     have p:=aFi d7 (i:=0) rfl
     obtain ⟨j,k,q⟩:=Cut.ex 1 a1 c2 d
     refine aD (aIB bV p q rfl rfl rfl o) (aE (v:=zS j g.length k) (aG (aO (aK (aE (v:=i64 1) (aG (aX [] (fun f w=>∃ r u,fB r u=some a5/\f 0=zS a1 r.length c2/\f 3=i64 u/\aI G K (aN 2 K a1 c2 r::L) w) ?_ ?_)))))))
     ·rintro f f8 ⟨r,u,hm,a9,b0,b1⟩
      unfold fB at hm
      refine aB (aK (bC a9 (bC b0 ?_)));obtain ⟨f9,d8,hm⟩:=aC hm
      have d9:=aFi b1 (i:=0) rfl
      obtain ⟨g0,g1,b2⟩:=Cut.ex 1 a1 c2 u
      refine aD (aIB bV d9 b2 rfl rfl rfl d8) ?_;obtain ⟨b3,b4,hm⟩:=aC hm
      refine WO_clearV bV iD rfl b1 (i:=0) rfl b2 rfl rfl b4 (fun b5 (b6:aI G K (aN 2 K a1 c2 b3::L) b5)=>(aG (aK (bC (v:=zS a1 b3.length c2) (Eq.trans a9 (congrArg (fun n=>zS a1 n c2) (aMI b4))) (bC b0 ?_)))));obtain ⟨Z,b7,hm⟩:=aC hm
      have e0:=aFi b6 (i:=0) rfl
      obtain ⟨b8,b9,c0⟩:=Cut.ex 1 a1 c2 0
      refine aD (aIC bV e0 c0 rfl rfl rfl b7) (aE (v:=zS b8 Z.length b9) (aG (bM (cD (aZ (aZ (aZ ?_)))))))
      have e1:=hr _ (zI hm).symm
      subst e1
      have hm:(some Z)=some R:=ho
      clear hr ho
      have g2:aI G K (aN 2 K b8 b9 Z::L) b5:=aI.cutP b6 (i:=0) rfl b7 c0
      exact eB
     obtain ⟨g3,e2,ho⟩:=aC hm
     refine yL [4] e2 (fun x y z f w=>f 0=zS a1 x.length c2/\f 3=i64 y/\f 5=i64 z/\aI G K (aN 2 K a1 c2 x::L) w) eB ?_
     ·rintro x y z e3 f g4 hm hr ⟨c1,c4,l,c⟩
      unfold fD at hm
      refine aO (aK (bC l (aF (v:=zS j g.length k) (aD (bX (len:=g.length) bV rfl) (aD (cV rfl rfl) (aG ?_))))))
      rcases aH hm with ⟨c5,hm⟩|⟨c5,hm⟩
      ·refine aL c5 rfl (aW (aB (aO (aX [4,5] (fun f w=>∃ J a0,fC z J a0=some e3/\f 0=zS a1 J.length c2/\f 3=i64 a0/\aI G K (aN 2 K a1 c2 J::L) w) ?_ ?_))))
       ·rintro f g5 ⟨J,a0,hm,e4,e5,e6⟩
        unfold fC at hm
        exact aB (aQ (bC l (aD (cL rfl rfl) (aE (v:=i64 (wr (z+1))) (aG ⟨_,(zI hm).symm,aM,e4,e5,rfl,e6⟩)))))
       refine aO (dR (C:=fun w'=>aI G K (aN 2 K a1 c2 x::L) w') Tryz_mixed (by kernel_rfl) (aI.mono c (dQ.drew _)) (aU (fun _ c=>aT (v:=zS j g.length k) rfl) (aU (fun _ c=>aT l) ?_)));obtain ⟨g6,c6,hm⟩:=aC hm
       obtain ⟨c7,c8,hm⟩:=aC hm
       refine aU (fun _ c=>R_ixV bV e q o p rfl rfl rfl c6 rfl) (aU (fun _ c=>jV (t:=0) cE c (i:=0) rfl c8 rfl rfl rfl) (aU (fun _ c=>aT (v:=zS j g.length k) rfl) (aU (fun _ c=>aT l) (aU (fun _ c=>kT rfl rfl) ?_))));obtain ⟨g7,e7,hm⟩:=aC hm
       obtain ⟨g8,e8,hm⟩:=aC hm
       refine aU (fun _ c=>R_ixV bV e q o p rfl rfl rfl e7 rfl) (aU (fun _ c=>jV (t:=0) cE c (i:=0) rfl e8 rfl rfl rfl) (aU (fun _ c=>aDz rfl rfl) (dU (fun g9 c9=>(aB ?_)))))
       rcases aH hm with ⟨d0,hm⟩|⟨d0,hm⟩
       ·refine aL d0 rfl (aK (bC c1 (bC c4 (aF (v:=zS j g.length k) (bC l (aD (R_ixV bV e q o p rfl rfl rfl c6 rfl) (aD (jV (t:=0) cE c9 (i:=0) rfl c8 rfl rfl rfl) ?_)))))));obtain ⟨h0,d1,hm⟩:=aC hm
        refine aD (dL bV rfl e rfl rfl rfl d1) ?_;obtain ⟨d2,d3,hm⟩:=aC hm
        exact kU (i:=0) (t:=0) (ns:=[i64 c7]) (e':=(c7:Int)) sizeOf2 c9 rfl (zR _) rfl rfl rfl d1 d3 rfl rfl (dN rfl) rfl (fun cs h=>by cases h;rfl) (fun e9 (f0:aI G K (aN 2 K a1 c2 d2::L) e9)=>(aG (aQ (bC c4 (aD (cL rfl rfl) (aE (v:=i64 (wr (y+1))) (bF (bA (aB ⟨aM,d2,wr (y+1),hm,(Eq.trans c1 (congrArg (fun n=>zS a1 n c2) (iC d3))),rfl,f0⟩)))))))))
       ·exact eB
      ·exact eB
    ·exact eB
   ·exact eB
theorem aBF {t:cB} {q:(List Int)} {u:aY} {R:(List Int)} (hm:mI t q u=some R) (hs:aI G K (L) w) (h3:bW K a1 c2 t.L) (x:bW K a4 c5 t.E) (h9:bW K a7 c8 q):
  Calls prog 121 ([zA (zCa t a1 c2 a4 c5),zS a7 q.length c8,str u]:List Value).toArray w (eV fun v w'=>∃ y z,v=zS y R.length z/\aI G K (aN 2 K y z R::L) w'):=by
 let e:=(zC t a1 c2 a4 c5)
 refine aR func121 rfl (by kernel_rfl) (by show (3:Nat)<=41;decide) ?_;unfold mI at hm
 refine aK (fO (v:=zA (zCa t a1 c2 a4 c5)) (vs:=e) hs rfl rfl (fun l c6 J=>(aE (v:=zS none 0 0) (aG (aK (aE (v:=zS none 0 0) (aG (aO (aK (aD (bH (t':=3) cM rfl rfl) (aD (cR eK J (i:=0) rfl rfl rfl) (aD (bX (len:=t.E.length) cK rfl) (aF (v:=i64 0) (aG (aX [] (fun f w=>∃ g b c,nN g=some R/\f 7=zS b g.length c/\aI G K (aN 2 K b c g::L) w) ?_ ?_)))))))))))))))
 ·rintro f c7 ⟨g,b,c,hm,V,b0⟩
  unfold nN at hm
  refine aB (aK (bC V ?_));obtain ⟨Z,b1,hm⟩:=aC hm
  refine aP (vs:=[zS b g.length c]) call123 rfl (aHC b0 b1) ?_
  rintro _ c9 ⟨rfl,b2,b3⟩
  refine aG (aK (bC (v:=zS b Z.length c) (Eq.trans V (congrArg (fun n=>zS b n c) b2)) ?_));obtain ⟨d0,b4,hm⟩:=aC hm
  exact aP (vs:=[zS b Z.length c]) call142 rfl (oB b4 b3) eB
 have d1:=aI.nil (α:=Int) J 2 K
 obtain ⟨d2,b5,ho⟩:=aC hm
 refine cP [1,2,3,11,12] b5 (fun d h f w=>∃ j k,f 7=zS j d.length k/\f 13=i64 h/\aI G K (aN 2 K j k d::box l 27 e::L) w) eB ?_
 ·rintro d h a0 f d3 hm hr ⟨j,k,d4,r,a2⟩
  unfold gT at hm
  refine aK (aD (cV r rfl) (aG (aO ?_)))
  rcases aH hm with ⟨a3,hm⟩|⟨a3,hm⟩
  ·refine aL a3 rfl (aW (aB (aO (aX [1,2,3,11,12,13] (fun f w=>∃ m o p,nO h m=some a0/\f 7=zS o m.length p/\aI G K (aN 2 K o p m::box l 27 e::L) w) ?_ ?_))))
   ·rintro f d5 ⟨m,o,p,hm,b6,b7⟩
    unfold nO at hm
    exact aB (aQ (aD (cL r rfl) (aF (v:=i64 (wr (h+1))) (aG ⟨_,(zI hm).symm,aM,o,p,b6,rfl,b7⟩))))
   refine aK ?_;obtain ⟨a,a5,hm⟩:=aC hm
   refine aD (cO cK rfl x rfl rfl r a5) ?_;obtain ⟨d6,b8,b9⟩:=bW.el (sz:=3) rfl x a5
   cases b9
   exact aD (gC (t:=0) (vs:=[i64 a.F,i64 a.B,i64 a.To]) oX a2 b8 rfl rfl rfl) (cI (vs:=[i64 0,i64 0,i64 0]) zeroValue66 a2 rfl (fun a6 d7 c0=>(cG (i:=0) (ns:=[i64 a.F,i64 a.B,i64 a.To]) (us:=[i64 a.F,i64 a.B,i64 a.To]) sizeOf66 c0 rfl rfl rfl rfl rfl (dN rfl) rfl rfl (fun c1 (d8:aI G K (box a6 66 [i64 a.F,i64 a.B,i64 a.To]::aN 2 K j k d::box l 27 e::L) c1)=>(aG (aO (cH [1,2,3,7,9,11,12,13] (fun f w=>∃ a8,nP d h a a8=some a0/\f 30=zB a8/\aI G K (box a6 66 [i64 a.F,i64 a.B,i64 a.To]::aN 2 K j k d::box l 27 e::L) w) eB eB)))))))
  ·exact eB
theorem pO {a R:(List Int)} (hm:gJ a=some R) (j:aI G K (L) w) (d:bW K a1 c2 a):
  Calls prog 120 ([zS a1 a.length c2]:List Value).toArray w (eV fun v w'=>∃ e g,v=zS e R.length g/\aI G K (aN 2 K e g R::L) w'):=by
 refine aR func120 rfl (by kernel_rfl) (by show (1:Nat)<=8;decide) ?_;unfold gJ at hm
 refine aK (aE (v:=zS none 0 0) (aG (aO (aK (aF (v:=zS a1 a.length c2) (aD (aMU bV rfl rfl) (aG ?_)))))))
 rcases aMd d with ⟨k,l,m⟩|n
 ·subst k;subst l;subst m
  refine aNz rfl ?_
  replace hm:(some [])=some R:=hm
  exact eB
 ·refine aNA (Eq.trans rfl (congrArg zB n)) (aW (aB (aK (bT (Kt:=K) (xs:=([]:List Int)) (cs:=[]) (vs:=[]) bV iD rfl rfl j rfl (by kernel_rfl) rfl rfl rfl trivial (fun o p (q:aI G K (aN 2 K o 0 ([]:List Int)::L) p)=>(aF (v:=zS a1 a.length c2) ?_))))));obtain ⟨h,r,hm⟩:=aC hm
  refine nG (i:=0) bV underlying63 iD rfl rfl q rfl (zR _) d r rfl rfl rfl rfl (fun b c t (u:aI G K (aN 2 K b c h::L) t)=>(aE (v:=zS b h.length c) (aG ?_)));obtain rfl:=zI hm
  exact bM (bI results120 rfl ⟨b,c,rfl,u⟩)
theorem yI {t:cB} {d R:(List Int)} (hm:mR t d=some R) (hs:aI G K (L) w) (h3:bW K a1 c2 t.L) (h6:bW K a4 c5 t.E) (h9:bW K a7 c8 d):
  Calls prog 89 ([zA (zCa t a1 c2 a4 c5),zS a7 d.length c8]:List Value).toArray w (eV fun v w'=>∃ a8 a9,v=zS a8 R.length a9/\aI G K (aN 2 K a8 a9 R::L) w'):=by
 let c:=(zC t a1 c2 a4 c5)
 refine aR func89 rfl (by kernel_rfl) (by show (2:Nat)<=41;decide) ?_;unfold mR at hm
 refine aK (fO (v:=zA (zCa t a1 c2 a4 c5)) (vs:=c) hs rfl rfl (fun e g8 d5=>(aE (v:=zS none 0 0) (aG (aK (aF (v:=zS a7 d.length c8) ?_))))));obtain ⟨d6,d7,hm⟩:=aC hm
 refine aP (vs:=[zS a7 d.length c8]) call120 rfl (pO d7 d5 h9) ?_
 rintro _ g9 ⟨d8,d9,rfl,h0⟩
 refine aE (v:=zS d8 d6.length d9) (aG (aO (aK (aE (v:=i64 0) (aG (aX [] (fun f w=>∃ g a b,mY g=some R/\f 5=zS a g.length b/\aI G K (aN 2 K a b g::L) w) ?_ ?_))))))
 ·rintro f h1 ⟨g,a,b,hm,b0,e0⟩
  unfold mY at hm
  refine aB (aK (bC b0 ?_));obtain ⟨b1,e1,hm⟩:=aC hm
  refine aP (vs:=[zS a g.length b]) call123 rfl (aHC e0 e1) ?_
  rintro _ h2 ⟨rfl,e2,e3⟩
  refine aG (aK (bC (v:=zS a b1.length b) (Eq.trans b0 (congrArg (fun n=>zS a n b) e2)) (aE (v:=zS a b1.length b) (aG ?_))));obtain rfl:=zI hm
  exact bM (bI results89 rfl ⟨a,b,rfl,e3⟩)
 obtain ⟨h4,e5,ho⟩:=aC hm
 refine cP [2] e5 (fun l h f w=>∃ y z,f 5=zS y l.length z/\f 6=i64 h/\aI G K (aN 2 K y z l::box e 27 c::L) w) eB ?_
 ·rintro l h b2 f h5 hm hr ⟨y,z,b3,J,e6⟩
  unfold iZ at hm
  refine aO (aK (bC J (bC b3 (aD (bX (len:=l.length) bV rfl) (aD (cV rfl rfl) (aG ?_))))))
  rcases aH hm with ⟨b4,hm⟩|⟨b4,hm⟩
  ·refine aL b4 rfl (aW (aB (aO (aX [2,6] (fun f w=>∃ m o p,qV h m=some b2/\f 5=zS o m.length p/\aI G K (aN 2 K o p m::box e 27 c::L) w) ?_ ?_))))
   ·rintro f h7 ⟨m,o,p,hm,e7,e8⟩
    unfold qV at hm
    exact aB (aQ (bC J (aD (cL rfl rfl) (aE (v:=i64 (wr (h+1))) (aG ⟨_,(zI hm).symm,aM,o,p,e7,rfl,e8⟩)))))
   refine aO ?_;obtain ⟨h8,V,b5,e9,f0⟩:=aI.lendSp e6 (zR _) .head
   obtain ⟨b6,i,f1,b7,f2⟩:=aI.lendBp e9 .head
   refine dI (C:=fun w'=>∃ L',aI G b6 L' w') [(0,0),(1,0),(2,0),(3,0),(4,0),(8,0),(5,1),(6,1),(7,0)] Tryz_mixed (by kernel_rfl) (fun _ hg=>⟨_,aI.mono b7 hg⟩) (fun i0 f3=>?_)
   have j:=aI.mono b7 f3
   refine bL rfl (fun _ ⟨_,j⟩=>gC (t:=0) (vs:=c) eS j f1 rfl rfl rfl) (bL rfl (fun _ _=>aT b3) (bL rfl (fun _ _=>aT J) ?_));obtain ⟨k,Z,hm⟩:=aC hm
   have f4:=aGC (b5.mono i) Z
   refine bL rfl (fun _ _=>dL bV rfl f4 rfl rfl rfl Z) ?_;obtain ⟨i1,f5,f6⟩:=bW.el (sz:=1) rfl (b5.mono i) Z
   cases f6
   refine bL rfl (fun _ ⟨_,j⟩=>bE (t:=0) cE j f5 rfl rfl) (bL rfl (fun _ _=>aT (v:=i64 0) rfl) (fT rfl (bT (Kt:=K) (xs:=([k]:List Int)) (cs:=[i64 k]) (vs:=[(0,i64 k)]) bV iD rfl rfl j rfl (by kernel_rfl) rfl rfl rfl ⟨rfl,trivial⟩ (fun b8 f7 (b9:aI G b6 (aN 2 K b8 1 ([k]:List Int)::L) f7)=>(bF (aB ⟨⟨_,b9⟩,?_⟩))))))
   refine fT rfl ?_;obtain ⟨i2,c0,f8,f9,g0⟩:=aI.lendSp b9 (zL V i) .head
   obtain ⟨a0,g1,hm⟩:=aC hm
   refine aP (vs:=[zA (zCa t a1 c2 a4 c5),zS b8 ([k]:List Int).length 1,str ([116,97,117]:aY)]) call121 rfl (aBF g1 f9 (h3.mono (zL (zL V i) c0)) (h6.mono (zL (zL V i) c0)) f8) ?_
   rintro _ i3 ⟨c1,c3,rfl,g2⟩
   have c4:=g0 _ _ g2
   refine bF (aB ⟨⟨_,c4⟩,?_⟩)
   refine bL rfl (fun _ _=>bX (len:=a0.length) bV rfl) (gD ?_)
   have g3:=f2 _ _ c4
   have i4:=f0 _ _ g3
   refine aB (aX [2,6] (fun f w=>∃ a2 c6 c7,mZ h a2=some b2/\f 5=zS c6 a2.length c7/\aI G K (aN 2 K c6 c7 a2::box e 27 c::L) w) eB ?_);obtain ⟨i5,g4,ho⟩:=aC hm
   refine cP [2,6,23,24] g4 (fun a3 q f w=>∃ a5 a6,f 5=zS a5 a3.length a6/\f 25=i64 q/\aI G K (aN 2 K a5 a6 a3::box e 27 c::aN 2 K c1 c3 a0::L) w) eB ?_
   ·rintro a3 q g5 f i6 hm hr ⟨a5,a6,i7,c9,i8⟩
    unfold gF at hm
    refine aK (aD (cV c9 rfl) (aG (aO ?_)))
    rcases aH hm with ⟨d0,hm⟩|⟨d0,hm⟩
    ·refine aL d0 rfl (aW (aB (aO (aX [2,6,23,24,25] (fun f w=>∃ r u x,nA q r=some g5/\f 5=zS u r.length x/\aI G K (aN 2 K u x r::box e 27 c::aN 2 K c1 c3 a0::L) w) ?_ ?_))))
     ·rintro f i9 ⟨r,u,x,hm,g6,g7⟩
      unfold nA at hm
      exact aB (aQ (aD (cL c9 rfl) (aF (v:=i64 (wr (q+1))) (aG ⟨_,(zI hm).symm,aM,u,x,g6,rfl,g7⟩))))
     exact eB
    ·exact eB
  ·exact eB
theorem aEQ {t:cB} {a:(List Int)} {b:aY} {R:(List Int)} (hm:rP t a b=some R) (g:aI G K (L) w) (k:bW K a1 c2 t.L) (l:bW K a4 c5 t.E) (m:bW K a7 c8 a):
  Calls prog 90 ([zA (zCa t a1 c2 a4 c5),zS a7 a.length c8,str b]:List Value).toArray w (eV fun v w'=>∃ c d,v=zS c R.length d/\aI G K (aN 2 K c d R::L) w'):=by
 refine aR func90 rfl (by kernel_rfl) (by show (3:Nat)<=13;decide) ?_;unfold rP at hm
 refine aK (fO (v:=zA (zCa t a1 c2 a4 c5)) (vs:=(zC t a1 c2 a4 c5)) g rfl rfl (fun n o h=>(aE (v:=zS none 0 0) (aG (aO ?_)))));obtain ⟨i,p,q,e,r⟩:=aI.lendBp h .head
 refine dI (C:=fun w'=>∃ L',aI G i L' w') [(0,0),(1,0),(2,0),(3,0),(4,1),(5,1),(6,0)] Tryz_mixed (by kernel_rfl) (fun _ hg=>⟨_,aI.mono e hg⟩) (fun u j=>?_)
 have x:=aI.mono e j
 exact eB
theorem vO {t:cB} {k:Int} {b:aY} {R:(List Int)} (hm:kY t k b=some R) (g:aI G K (L) w) (n:bW K a1 c2 t.L) (o:bW K a4 c5 t.E):
  Calls prog 39 ([zA (zCa t a1 c2 a4 c5),i64 k,str b]:List Value).toArray w (eV fun v w'=>∃ c d,v=zS c R.length d/\aI G K (aN 2 K c d R::L) w'):=by
 let a:=(zC t a1 c2 a4 c5)
 refine aR func39 rfl (by kernel_rfl) (by show (3:Nat)<=19;decide) ?_;unfold kY at hm
 refine aK (fO (v:=zA (zCa t a1 c2 a4 c5)) (vs:=a) g rfl rfl (fun h p e=>(aE (v:=zS none 0 0) (aG (aK (aD (eJ (us:=a) eS e (i:=0) rfl rfl rfl rfl) (aF (v:=i64 k) (bT (Kt:=K) (xs:=([k]:List Int)) (cs:=[i64 k]) (vs:=[(0,i64 k)]) bV iD rfl rfl e rfl (by kernel_rfl) rfl rfl rfl ⟨rfl,trivial⟩ (fun j l (m:aI G K (aN 2 K j 1 ([k]:List Int)::box h 27 a::L) l)=>?_)))))))));obtain ⟨q,r,u,x,y⟩:=aI.lendSp m (zR _) .head
 exact eB
theorem pP {a b:(List Int)} {R:Bool} (hm:gK a b=some R) (g:aI G K (L) w) (h:bW K a1 c2 a) (i:bW K a4 c5 b):
  Calls prog 36 ([zS a1 a.length c2,zS a4 b.length c5]:List Value).toArray w (eV fun v w'=>v=zB R/\aI G K (L) w'):=by
 refine aR func36 rfl (by kernel_rfl) (by show (2:Nat)<=26;decide) ?_;unfold gK at hm
 refine aK (aE (v:=zB false) (aG (aO (aK (aF (v:=zS a1 a.length c2) (aD (bX (len:=a.length) bV rfl) (aF (v:=zS a4 b.length c5) (aD (bX (len:=b.length) bV rfl) (aD (aDz rfl rfl) (aG ?_))))))))))
 rcases aH hm with ⟨c,hm⟩|⟨c,hm⟩
 ·exact eB
 ·refine aJ c rfl (aW (aB (aO (aK (aF (v:=zS a1 a.length c2) (aD (bX (len:=a.length) bV rfl) (aF (v:=i64 0) (aG (aX [] (fun f w=>hX=some R/\aI G K (L) w) eB ?_)))))))));obtain ⟨j,d,ho⟩:=aC hm
  exact fA [0,1,12] d (fun e f w=>f 13=i64 e/\aI G K (L) w) eB eB
theorem aBP {p:(List Int)} {a:cB} {c:Nat} {b:cB} {d:Nat} {R:Bool} (hm:sZ p a b=some R) (e:aI G K (L) w) (l:bW K a1 c2 p) (g:dT K a4 c (zC a a7 c8 a10 c11)) (m:bW K a7 c8 a.L) (n:bW K a10 c11 a.E) (h:dT K a13 d (zC b a16 c17 a19 c20)) (o:bW K a16 c17 b.L) (q:bW K a19 c20 b.E):
  Calls prog 35 ([zS a1 p.length c2,cC a4 c,cC a13 d]:List Value).toArray w (eV fun v w'=>v=zB R/\aI G K (L) w'):=by
 refine aR func35 rfl (by kernel_rfl) (by show (3:Nat)<=12;decide) ?_;unfold sZ at hm
 refine aK (aE (v:=zB false) (aG (aK (aF (v:=zS a1 p.length c2) (aD (bS (k':=c+1) oC rfl g rfl) (aD (bE (t:=1) cE e g rfl rfl) (aD (bS (k':=d+1) oC rfl h rfl) (aD (bE (t:=1) cE e h rfl rfl) (bT (Kt:=K) (xs:=([a.I,b.I]:List Int)) (cs:=[i64 a.I,i64 b.I]) (vs:=[(0,i64 a.I),(1,i64 b.I)]) bV iD rfl rfl e rfl (by kernel_rfl) rfl rfl rfl ⟨rfl,rfl,trivial⟩ (fun i j (k:aI G K (aN 2 K i 2 ([a.I,b.I]:List Int)::L) j)=>?_))))))))))
 obtain ⟨r,u,x,y,z⟩:=aI.lendSp k (zR _) .head
 exact eB
theorem lD {c:(List (List Int))} {a:cB} {d:Nat} {b:cB} {e:Nat} {R:Int} (hm:eO c a b=some R) (hs:aI G K (L) w) (h:bW K a1 c2 c) (o:dT K a4 d (zC a a7 c8 a10 c11)) (p:bW K a7 c8 a.L) (q:bW K a10 c11 a.E) (r:dT K a13 e (zC b a16 c17 a19 c20)) (u:bW K a16 c17 b.L) (x:bW K a19 c20 b.E):
  Calls prog 84 ([zS a1 c.length c2,Value.func (.func 35) #[] #[cC a4 d,cC a13 e]]:List Value).toArray w (eV fun v w'=>v=i64 R/\aI G K (L) w'):=by
 refine aR func84 rfl (by kernel_rfl) (by show (2:Nat)<=19;decide) ?_;unfold eO at hm
 refine aK (aE (v:=i64 0) (aG (aO (aK (aF (v:=zS a1 c.length c2) (aD (bX (len:=c.length) eL rfl) (aF (v:=i64 0) (aG (aX [] (fun f w=>fG=some R/\aI G K (L) w) eB ?_)))))))));obtain ⟨a2,y,ho⟩:=aC hm
 refine fA [0,1,7] y (fun g f w=>f 8=i64 g/\aI G K (L) w) eB ?_
 ·rintro g a3 f a5 hm hr ⟨i,j⟩
  unfold bZ at hm
  refine aK (aD (cV i rfl) (aG (aO ?_)))
  rcases aH hm with ⟨k,hm⟩|⟨k,hm⟩
  ·refine aL k rfl (aW (aB (aO (dA (aK (bC i (aE (v:=i64 g) (aG (aK (aF (v:=Value.func (.func 35) #[] #[cC a4 d,cC a13 e]) (aF (v:=zS a1 c.length c2) (aF (v:=i64 g) ?_))))))))))));obtain ⟨l,m,hm⟩:=aC hm
   refine aD (cO eL rfl h rfl rfl rfl m) ?_;obtain ⟨a6,z,J⟩:=bW.el (sz:=1) rfl h m
   obtain ⟨n,c48,rfl,V⟩:=J
   refine aD (bE (t:=0) vT j z rfl rfl) ?_;obtain ⟨a8,Z,hm⟩:=aC hm
   exact vS (vs:=[zS n l.length c48]) (caps:=[cC a4 d,cC a13 e]) (us:=[zS n l.length c48,cC a4 d,cC a13 e]) rfl call35 rfl rfl (aBP Z j V o p q r u x) eB
  ·exact eB
theorem jN {c:(List (List Int))} {a:cB} {d:Nat} {b:cB} {e:Nat} {R:Bool} (hm:dF c a b=some R) (g:aI G K (L) w) (h:bW K a1 c2 c) (i:dT K a4 d (zC a a7 c8 a10 c11)) (j:bW K a7 c8 a.L) (k:bW K a10 c11 a.E) (l:dT K a13 e (zC b a16 c17 a19 c20)) (m:bW K a16 c17 b.L) (n:bW K a19 c20 b.E):
  Calls prog 34 ([zS a1 c.length c2,Value.func (.func 35) #[] #[cC a4 d,cC a13 e]]:List Value).toArray w (eV fun v w'=>v=zB R/\aI G K (L) w'):=by
 exact eB
theorem aBG {a y:Int} {d:Nat} {b:(List ((Int × Int) × Bool))} {e:Nat} {R:Bool} (hm:xV a y b=some R) (c:aI G K (L) w) (g:dT K a1 d [zM (some e)]) (h:rdM K e b):
  Calls prog 86 ([i64 a,i64 y,cC a1 d]:List Value).toArray w (eV fun v w'=>v=zB R/\aI G K (L) w'):=by
 refine aR func86 rfl (by kernel_rfl) (by show (3:Nat)<=11;decide) ?_;unfold xV at hm
 refine aK (aE (v:=zB false) (aG (aK (aD (bE (t:=0) sc_123 c g rfl rfl) (aF (v:=i64 a) (aF (v:=i64 y) (aD (aNQ (vs:=[(0,i64 a),(1,i64 y)]) (cs:=[i64 a,i64 y]) aJx bz_126 rfl (by kernel_rfl)) (aD (R_look1K (kv:=b) (k:=⟨a,y⟩) (z:=(false:Bool)) runUnderlying123 ko_126 zeroValue4 c h rfl rfl) (aE (v:=zB ((aGz b ⟨a,y⟩).getD false)) (aG ?_))))))))));obtain rfl:=zI hm
 exact bM (bI results86 rfl ⟨rfl,c⟩)
theorem aFr {a:Int} {c:Nat} {j k:Int} {d:(List aY)} {e:(List Edge)} {l m:Int} {g:(List aY)} {h:(List Edge)} {b:Nat} {n:(List ((Int × Int) × Bool))} {r19:Nat} {p:Int} {o:Nat} {R:Bool} (hm:aDX a j k d e l m g h n p=some R) (i:aI G K (L) w) (q:dT K a1 c [i64 j,i64 k,zS a4 d.length c5,zS a7 e.length c8,i64 l,i64 m,zS a10 g.length c11,zS a13 h.length c14,Value.func (.func 86) #[] #[cC a16 b]]) (z:bW K a4 c5 d) (J:bW K a7 c8 e) (V:bW K a10 c11 g) (Z:bW K a13 c14 h) (r:dT K a16 b [zM (some r19)]) (u:rdM K r19 n) (x:dT K a21 o [i64 p]):
  Calls prog 40 ([i64 a,cC a1 c,cC a21 o]:List Value).toArray w (eV fun v w'=>v=zB R/\aI G K (L) w'):=by
 refine aR func40 rfl (by kernel_rfl) (by show (3:Nat)<=10;decide) ?_;unfold aDX at hm
 refine aK (aE (v:=zB false) (aG (aK (aD (bS (k':=c+8) aKr rfl q rfl) (aD (bE (t:=8) sc_74 i q rfl rfl) (aD (bE (t:=0) cE i x rfl rfl) (aF (v:=i64 a) ?_)))))));obtain ⟨a0,y,hm⟩:=aC hm
 exact vS (vs:=[i64 p,i64 a]) (caps:=[cC a16 b]) (us:=[i64 p,i64 a,cC a16 b]) rfl call86 rfl rfl (aBG y i r u) eB
theorem lP {a:(List Int)} {b:Nat} {j k:Int} {e:(List aY)} {g:(List Edge)} {l m:Int} {h:(List aY)} {i:(List Edge)} {n:Nat} {o:(List ((Int × Int) × Bool))} {p:Nat} {q:Int} {c:Nat} {R:Int} (hm:fZ a j k e g l m h i o q=some R) (hs:aI G K (L) w) (r:bW K a1 c2 a) (V:dT K a4 b [i64 j,i64 k,zS a7 e.length c8,zS a10 g.length c11,i64 l,i64 m,zS a13 h.length c14,zS a16 i.length c17,Value.func (.func 86) #[] #[cC a19 n]]) (Z:bW K a7 c8 e) (a0:bW K a10 c11 g) (a2:bW K a13 c14 h) (a3:bW K a16 c17 i) (a5:dT K a19 n [zM (some p)]) (a6:rdM K p o) (a8:dT K a24 c [i64 q]):
  Calls prog 88 ([zS a1 a.length c2,Value.func (.func 40) #[] #[cC a4 b,cC a24 c]]:List Value).toArray w (eV fun v w'=>v=i64 R/\aI G K (L) w'):=by
 refine aR func88 rfl (by kernel_rfl) (by show (2:Nat)<=19;decide) ?_;unfold fZ at hm
 refine aK (aE (v:=i64 0) (aG (aO (aK (aF (v:=zS a1 a.length c2) (aD (bX (len:=a.length) bV rfl) (aF (v:=i64 0) (aG (aX [] (fun f w=>fK=some R/\aI G K (L) w) eB ?_)))))))));obtain ⟨b4,a9,ho⟩:=aC hm
 refine fA [0,1,7] a9 (fun d f w=>f 8=i64 d/\aI G K (L) w) eB ?_
 ·rintro d b5 f b6 hm hr ⟨u,x⟩
  unfold dG at hm
  refine aK (aD (cV u rfl) (aG (aO ?_)))
  rcases aH hm with ⟨y,hm⟩|⟨y,hm⟩
  ·refine aL y rfl (aW (aB (aO (dA (aK (bC u (aE (v:=i64 d) (aG (aK (aF (v:=Value.func (.func 40) #[] #[cC a4 b,cC a24 c]) (aF (v:=zS a1 a.length c2) (aF (v:=i64 d) ?_))))))))))));obtain ⟨z,J,hm⟩:=aC hm
   refine aD (cO bV rfl r rfl rfl rfl J) ?_;obtain ⟨b7,b0,b1⟩:=bW.el (sz:=1) rfl r J
   cases b1
   refine aD (bE (t:=0) cE x b0 rfl rfl) ?_;obtain ⟨b8,b2,hm⟩:=aC hm
   exact vS (vs:=[i64 z]) (caps:=[cC a4 b,cC a24 c]) (us:=[i64 z,cC a4 b,cC a24 c]) rfl call40 rfl rfl (aFr b2 x V Z a0 a2 a3 a5 a6 a8) eB
  ·exact eB
theorem kK {a:(List Int)} {g:Nat} {h i:Int} {b:(List aY)} {c:(List Edge)} {j k:Int} {d:(List aY)} {e:(List Edge)} {l:Nat} {m:(List ((Int × Int) × Bool))} {n:Nat} {o:Int} {p:Nat} {R:Bool} (hm:eE a h i b c j k d e m o=some R) (q:aI G K (L) w) (r:bW K a1 c2 a) (t:dT K a4 g [i64 h,i64 i,zS a7 b.length c8,zS a10 c.length c11,i64 j,i64 k,zS a13 d.length c14,zS a16 e.length c17,Value.func (.func 86) #[] #[cC a19 l]]) (u:bW K a7 c8 b) (x:bW K a10 c11 c) (y:bW K a13 c14 d) (z:bW K a16 c17 e) (J:dT K a19 l [zM (some n)]) (V:rdM K n m) (Z:dT K a24 p [i64 o]):
  Calls prog 38 ([zS a1 a.length c2,Value.func (.func 40) #[] #[cC a4 g,cC a24 p]]:List Value).toArray w (eV fun v w'=>v=zB R/\aI G K (L) w'):=by
 exact eB
theorem aFs {r_a r_b:cB} {d:Nat} {h:(List ((Int × Int) × Bool))} {j:Nat} {k y:Int} {e:aY} {g:Int} {R:Bool} (hm:xW r_a r_b h k y e g=some R) (q:aI G K (L) w) (r:bW K a1 c2 r_a.L) (t:bW K a4 c5 r_a.E) (l:bW K a7 c8 r_b.L) (m:bW K a10 c11 r_b.E) (u:dT K a13 d [zM (some j)]) (x:rdM K j h):
  Calls prog 14 ([zA #[i64 r_a.N,i64 r_a.I,zS a1 r_a.L.length c2,zS a4 r_a.E.length c5,i64 r_b.N,i64 r_b.I,zS a7 r_b.L.length c8,zS a10 r_b.E.length c11,Value.func (.func 86) #[] #[cC a13 d]],i64 k,i64 y,str e,i64 g]:List Value).toArray w (eV fun v w'=>v=zB R/\aI G K (L) w'):=by
 refine aR func14 rfl (by kernel_rfl) (by show (5:Nat)<=18;decide) ?_;unfold xW at hm
 refine aK (fO (v:=zA #[i64 r_a.N,i64 r_a.I,zS a1 r_a.L.length c2,zS a4 r_a.E.length c5,i64 r_b.N,i64 r_b.I,zS a7 r_b.L.length c8,zS a10 r_b.E.length c11,Value.func (.func 86) #[] #[cC a13 d]]) (vs:=[i64 r_a.N,i64 r_a.I,zS a1 r_a.L.length c2,zS a4 r_a.E.length c5,i64 r_b.N,i64 r_b.I,zS a7 r_b.L.length c8,zS a10 r_b.E.length c11,Value.func (.func 86) #[] #[cC a13 d]]) q rfl rfl (fun n b2 z=>(fO (v:=i64 g) (vs:=[i64 g]) z rfl rfl (fun o b3 p=>(aE (v:=zB false) (aG (aK (aD (bH (t':=4) aKq rfl rfl) (aD (eJ (us:=(zC r_b a7 c8 a10 c11)) eS p (i:=1) rfl rfl rfl rfl) (aF (v:=i64 y) (aF (v:=str e) ?_)))))))))))
 obtain ⟨J,V,hm⟩:=aC hm
 refine aP (vs:=[zA (zCa r_b a7 c8 a10 c11),i64 y,str e]) call39 rfl (vO V p l m) ?_
 rintro _ b4 ⟨Z,a0,rfl,a2⟩
 refine aD (aAn (vs:=[zP (some ⟨n,0,none⟩),zP (some ⟨o,0,none⟩)]) rfl) ?_;obtain ⟨b5,c,a3,a5,b6⟩:=aI.lendSp a2 (zR _) .head
 obtain ⟨b7,b,a6,a8,b8⟩:=aI.lendBp a5 zt1
 obtain ⟨b9,a,a9,b0,c0⟩:=aI.lendBp a8 .head
 obtain ⟨c1,b1,hm⟩:=aC hm
 exact aP (vs:=[zS Z J.length a0,Value.func (.func 40) #[] #[cC (some ⟨n,0,none⟩) 0,cC (some ⟨o,0,none⟩) 0]]) call38 rfl (kK b1 b0 (a3.mono (zL b a)) (a6.mono a) (r.mono (zL (zL c b) a)) (t.mono (zL (zL c b) a)) (l.mono (zL (zL c b) a)) (m.mono (zL (zL c b) a)) (u.mono (zL (zL c b) a)) (x.mono (zL (zL c b) a)) a9) eB
theorem zQ {r_a r_b:cB} {g:Nat} {n:(List ((Int × Int) × Bool))} {o:Nat} {e y:Int} {R:Bool} (hm:lF r_a r_b n e y=some R) (hs:aI G K (L) w) (h:bW K a1 c2 r_a.L) (p:bW K a4 c5 r_a.E) (h9:bW K a7 c8 r_b.L) (b0:bW K a10 c11 r_b.E) (b1:dT K a13 g [zM (some o)]) (b2:rdM K o n):
  Calls prog 118 ([zA #[i64 r_a.N,i64 r_a.I,zS a1 r_a.L.length c2,zS a4 r_a.E.length c5,i64 r_b.N,i64 r_b.I,zS a7 r_b.L.length c8,zS a10 r_b.E.length c11,Value.func (.func 86) #[] #[cC a13 g]],i64 e,i64 y,Value.func (.func 14) #[] #[]]:List Value).toArray w (eV fun v w'=>v=zB R/\aI G K (L) w'):=by
 let j:=[i64 r_a.N,i64 r_a.I,zS a1 r_a.L.length c2,zS a4 r_a.E.length c5,i64 r_b.N,i64 r_b.I,zS a7 r_b.L.length c8,zS a10 r_b.E.length c11,Value.func (.func 86) #[] #[cC a13 g]]
 refine aR func118 rfl (by kernel_rfl) (by show (4:Nat)<=36;decide) ?_;unfold lF at hm
 refine aK (fO (v:=zA #[i64 r_a.N,i64 r_a.I,zS a1 r_a.L.length c2,zS a4 r_a.E.length c5,i64 r_b.N,i64 r_b.I,zS a7 r_b.L.length c8,zS a10 r_b.E.length c11,Value.func (.func 86) #[] #[cC a13 g]]) (vs:=j) hs rfl rfl (fun q d0 r=>(aE (v:=zB false) (aG (aO (aK (aD (bH (t':=0) aHW rfl rfl) (aD (eJ (us:=(zC r_a a1 c2 a4 c5)) eS r (i:=0) rfl rfl rfl rfl) (aF (v:=i64 e) ?_)))))))));obtain ⟨k,b3,hm⟩:=aC hm
 refine aP (vs:=[zA (zCa r_a a1 c2 a4 c5),i64 e]) call140 rfl (aEP b3 r h p) ?_
 rintro _ d1 ⟨u,x,rfl,d2⟩
 refine aD (bX (len:=k.length) cK rfl) (aF (v:=i64 0) (aG (aX [] (fun f w=>oD=some R/\aI G K (L) w) eB ?_)));obtain ⟨d3,b4,ho⟩:=aC hm
 refine fA [1,2,3,4,14,15] b4 (fun z f w=>f 16=i64 z/\aI G K (aN 66 K u x k::box q 76 j::L) w) eB ?_
 ·rintro z d4 f d5 hm hr ⟨J,l⟩
  unfold gO at hm
  refine aK (aD (cV J rfl) (aG (aO ?_)))
  rcases aH hm with ⟨V,hm⟩|⟨V,hm⟩
  ·refine aL V rfl (aW (aB (aO (dA (aK ?_)))));obtain ⟨a,m,hm⟩:=aC hm
   have b5:=cQ l (i:=0) rfl m
   refine aD (dL cK rfl b5 rfl rfl J m) (aD (aJq (t:=0) (vs:=[i64 a.F,i64 a.B,i64 a.To]) oX l (i:=0) rfl m rfl rfl rfl rfl) (cI (vs:=[i64 0,i64 0,i64 0]) zeroValue66 l rfl (fun b6 d6 b7=>(cG (i:=0) (ns:=[i64 a.F,i64 a.B,i64 a.To]) (us:=[i64 a.F,i64 a.B,i64 a.To]) sizeOf66 b7 rfl rfl rfl rfl rfl (dN rfl) rfl rfl (fun b8 (b9:aI G K (box b6 66 [i64 a.F,i64 a.B,i64 a.To]::aN 66 K u x k::box q 76 j::L) b8)=>(aG (aO ?_)))))))
   obtain ⟨d7,d,Z,c0,d8⟩:=aI.lendBp b9 .head
   obtain ⟨c1,c,a0,a2,c3⟩:=aI.lendBp c0 zt1
   refine dI (C:=fun w'=>∃ L',aI G c1 L' w') [(0,0),(1,0),(2,0),(3,0),(4,0),(5,0),(6,0),(7,0),(8,0),(9,0),(10,0),(11,0),(12,0),(13,1),(14,0)] Tryz_mixed (by kernel_rfl) (fun _ hg=>⟨_,aI.mono a2 hg⟩) (fun d9 c4=>?_)
   have b:=aI.mono a2 c4
   refine bL rfl (fun _ _=>aT (v:=Value.func (.func 14) #[] #[]) rfl) (bL rfl (fun _ ⟨_,b⟩=>gC (t:=0) (vs:=j) aMh b a0 rfl rfl rfl) (bL rfl (fun _ _=>aT (v:=i64 e) rfl) (bL rfl (fun _ _=>aT (v:=i64 y) rfl) (bL rfl (fun _ _=>bH (t':=0) aHW rfl rfl) (bL rfl (fun _ _=>bH (t':=2) fF rfl rfl) (bL rfl (fun _ ⟨_,b⟩=>bE (t:=2) oF b a0 rfl rfl) (bL rfl (fun _ _=>bH (t':=1) iR rfl rfl) (bL rfl (fun _ ⟨_,b⟩=>bE (t:=1) cE b (Z.mono c) rfl rfl) ?_))))))))
   obtain ⟨a3,a5,hm⟩:=aC hm
   refine bL rfl (fun _ _=>cO dE rfl (h.mono (zL d c)) rfl rfl rfl a5) ?_;obtain ⟨e0,c6,c7⟩:=bW.el (sz:=1) rfl h a5
   cases c7
   refine bL rfl (fun _ ⟨_,b⟩=>bE (t:=0) aAU b (c6.mono (zL d c)) rfl rfl) (bL rfl (fun _ _=>bH (t':=2) gY rfl rfl) (bL rfl (fun _ ⟨_,b⟩=>bE (t:=2) cE b (Z.mono c) rfl rfl) (fT rfl ?_)));obtain ⟨e1,c9,hm⟩:=aC hm
   refine vS (vs:=[zA #[i64 r_a.N,i64 r_a.I,zS a1 r_a.L.length c2,zS a4 r_a.E.length c5,i64 r_b.N,i64 r_b.I,zS a7 r_b.L.length c8,zS a10 r_b.E.length c11,Value.func (.func 86) #[] #[cC a13 g]],i64 e,i64 y,str a3,i64 a.To]) (caps:=[]) (us:=[zA #[i64 r_a.N,i64 r_a.I,zS a1 r_a.L.length c2,zS a4 r_a.E.length c5,i64 r_b.N,i64 r_b.I,zS a7 r_b.L.length c8,zS a10 r_b.E.length c11,Value.func (.func 86) #[] #[cC a13 g]],i64 e,i64 y,str a3,i64 a.To]) rfl call14 rfl rfl (aFs (r_a:=⟨r_a.N,r_a.I,r_a.L,r_a.E⟩) (r_b:=⟨r_b.N,r_b.I,r_b.L,r_b.E⟩) c9 b (h.mono (zL d c)) (p.mono (zL d c)) (h9.mono (zL d c)) (b0.mono (zL d c)) (b1.mono (zL d c)) (b2.mono (zL d c))) ?_
   rintro _ e2 ⟨rfl,a6⟩
   refine bF (aB ⟨⟨_,a6⟩,?_⟩)
   refine bL rfl (fun _ _=>eC rfl) (gD ?_)
   have e3:=c3 _ _ a6
   exact eB
  ·exact eB
theorem yE {r_a r_b:cB} {b h:Nat} {R:Unit} (hm:qW r_a r_b=some R) (j:aI G K (L) w) (o:bW K a1 c2 r_a.L) (p:bW K a4 c5 r_a.E) (q:bW K a7 c8 r_b.L) (r:bW K a10 c11 r_b.E) (t:dT K a13 b [zM (some h)]):
  Calls prog 119 ([zA #[i64 r_a.N,i64 r_a.I,zS a1 r_a.L.length c2,zS a4 r_a.E.length c5,i64 r_b.N,i64 r_b.I,zS a7 r_b.L.length c8,zS a10 r_b.E.length c11,Value.func (.func 86) #[] #[cC a13 b]]]:List Value).toArray w (eV fun v w'=>∃ d,v=zA #[i64 r_b.N,i64 r_b.I,zS a7 r_b.L.length c8,zS a10 r_b.E.length c11,i64 r_a.N,i64 r_a.I,zS a1 r_a.L.length c2,zS a4 r_a.E.length c5,Value.func (.func 141) #[] #[zP (some ⟨d,0,none⟩)]]/\aI G K (box d 76 [i64 r_a.N,i64 r_a.I,zS a1 r_a.L.length c2,zS a4 r_a.E.length c5,i64 r_b.N,i64 r_b.I,zS a7 r_b.L.length c8,zS a10 r_b.E.length c11,Value.func (.func 86) #[] #[cC a13 b]]::L) w'):=by
 let e:=[i64 r_a.N,i64 r_a.I,zS a1 r_a.L.length c2,zS a4 r_a.E.length c5,i64 r_b.N,i64 r_b.I,zS a7 r_b.L.length c8,zS a10 r_b.E.length c11,Value.func (.func 86) #[] #[cC a13 b]]
 refine aR func119 rfl (by kernel_rfl) (by show (1:Nat)<=9;decide) ?_;unfold qW at hm
 refine aK (fO (v:=zA #[i64 r_a.N,i64 r_a.I,zS a1 r_a.L.length c2,zS a4 r_a.E.length c5,i64 r_b.N,i64 r_b.I,zS a7 r_b.L.length c8,zS a10 r_b.E.length c11,Value.func (.func 86) #[] #[cC a13 b]]) (vs:=e) j rfl rfl (fun a u k=>(cI (vs:=[i64 0,i64 0,zS none 0 0,zS none 0 0,i64 0,i64 0,zS none 0 0,zS none 0 0,Value.nilFunc]) zeroValue76 k rfl (fun l x c=>(aG (aK (aD (bH (t':=4) aKq rfl rfl) (aD (eJ (us:=(zC r_b a7 c8 a10 c11)) eS c (i:=1) rfl rfl rfl rfl) (aD (bH (t':=0) aHW rfl rfl) (aD (eJ (us:=(zC r_a a1 c2 a4 c5)) eS c (i:=1) rfl rfl rfl rfl) (aD (aAn (vs:=[zP (some ⟨a,0,none⟩)]) rfl) (aD (gW (vs:=[(0,zA (zCa r_b a7 c8 a10 c11)),(1,zA (zCa r_a a1 c2 a4 c5)),(2,Value.func (.func 141) #[] #[zP (some ⟨a,0,none⟩)])]) (cs:=[i64 r_b.N,i64 r_b.I,zS a7 r_b.L.length c8,zS a10 r_b.E.length c11,i64 r_a.N,i64 r_a.I,zS a1 r_a.L.length c2,zS a4 r_a.E.length c5,Value.func (.func 141) #[] #[zP (some ⟨a,0,none⟩)]]) bs_76 rfl (by kernel_rfl)) (cG (i:=0) (ns:=[i64 r_b.N,i64 r_b.I,zS a7 r_b.L.length c8,zS a10 r_b.E.length c11,i64 r_a.N,i64 r_a.I,zS a1 r_a.L.length c2,zS a4 r_a.E.length c5,Value.func (.func 141) #[] #[zP (some ⟨a,0,none⟩)]]) (us:=[i64 r_b.N,i64 r_b.I,zS a7 r_b.L.length c8,zS a10 r_b.E.length c11,i64 r_a.N,i64 r_a.I,zS a1 r_a.L.length c2,zS a4 r_a.E.length c5,Value.func (.func 141) #[] #[zP (some ⟨a,0,none⟩)]]) sizeOf76 c rfl rfl rfl rfl rfl (dN rfl) rfl rfl (fun m (g:aI G K (box l 76 [i64 r_b.N,i64 r_b.I,zS a7 r_b.L.length c8,zS a10 r_b.E.length c11,i64 r_a.N,i64 r_a.I,zS a1 r_a.L.length c2,zS a4 r_a.E.length c5,Value.func (.func 141) #[] #[zP (some ⟨a,0,none⟩)]]::box a 76 e::L) m)=>(aG ?_)))))))))))))))
 obtain rfl:=zI hm
 exact bM (vF results119 (lV (vs:=[i64 r_b.N,i64 r_b.I,zS a7 r_b.L.length c8,zS a10 r_b.E.length c11,i64 r_a.N,i64 r_a.I,zS a1 r_a.L.length c2,zS a4 r_a.E.length c5,Value.func (.func 141) #[] #[zP (some ⟨a,0,none⟩)]]) rfl aMh g (i:=0) rfl rfl rfl) ⟨a,rfl,(aI.arr 1 [] g rfl)⟩)
theorem yF {a y:Int} {c:Nat} {i j:Int} {d:(List aY)} {e:(List Edge)} {k l:Int} {g:(List aY)} {h:(List Edge)} {b:Nat} {m:(List ((Int × Int) × Bool))} {r19:Nat} {R:Bool} (hm:qX a y i j d e k l g h m=some R) (n:aI G K (L) w) (o:dT K a1 c [i64 i,i64 j,zS a4 d.length c5,zS a7 e.length c8,i64 k,i64 l,zS a10 g.length c11,zS a13 h.length c14,Value.func (.func 86) #[] #[cC a16 b]]) (u:bW K a4 c5 d) (x:bW K a7 c8 e) (z:bW K a10 c11 g) (J:bW K a13 c14 h) (p:dT K a16 b [zM (some r19)]) (q:rdM K r19 m):
  Calls prog 141 ([i64 a,i64 y,cC a1 c]:List Value).toArray w (eV fun v w'=>v=zB R/\aI G K (L) w'):=by
 refine aR func141 rfl (by kernel_rfl) (by show (3:Nat)<=11;decide) ?_;unfold qX at hm
 refine aK (aE (v:=zB false) (aG (aK (aD (bS (k':=c+8) aKr rfl o rfl) (aD (bE (t:=8) sc_74 n o rfl rfl) (aF (v:=i64 y) (aF (v:=i64 a) ?_)))))));obtain ⟨V,r,hm⟩:=aC hm
 exact vS (vs:=[i64 y,i64 a]) (caps:=[cC a16 b]) (us:=[i64 y,i64 a,cC a16 b]) rfl call86 rfl rfl (aBG r n p q) eB
theorem aDc {a:Int} {c:Nat} {n o:Int} {d:(List aY)} {e:(List Edge)} {q r:Int} {g:(List aY)} {h:(List Edge)} {b:Nat} {u x:Int} {i:(List aY)} {j:(List Edge)} {y z:Int} {k:(List aY)} {l:(List Edge)} {J:Nat} {V:(List ((Int × Int) × Bool))} {Z:Nat} {p:Int} {a0:Nat} {R:Bool} (hm:aAe a n o d e q r g h u x i j y z k l V p=some R) (m:aI G K (L) w) (h3:dT K a1 c [i64 n,i64 o,zS a4 d.length c5,zS a7 e.length c8,i64 q,i64 r,zS a10 g.length c11,zS a13 h.length c14,Value.func (.func 141) #[] #[cC a16 b]]) (h6:bW K a4 c5 d) (h9:bW K a7 c8 e) (b6:bW K a10 c11 g) (b7:bW K a13 c14 h) (a3:dT K a16 b [i64 u,i64 x,zS a19 i.length c20,zS a22 j.length c23,i64 y,i64 z,zS a25 k.length c26,zS a28 l.length c29,Value.func (.func 86) #[] #[cC a31 J]]) (a5:bW K a19 c20 i) (a6:bW K a22 c23 j) (a8:bW K a25 c26 k) (a9:bW K a28 c29 l) (b0:dT K a31 J [zM (some Z)]) (b1:rdM K Z V) (b2:dT K a36 a0 [i64 p]):
  Calls prog 40 ([i64 a,cC a1 c,cC a36 a0]:List Value).toArray w (eV fun v w'=>v=zB R/\aI G K (L) w'):=by
 refine aR func40 rfl (by kernel_rfl) (by show (3:Nat)<=10;decide) ?_;unfold aAe at hm
 refine aK (aE (v:=zB false) (aG (aK (aD (bS (k':=c+8) aKr rfl h3 rfl) (aD (bE (t:=8) sc_74 m h3 rfl rfl) (aD (bE (t:=0) cE m b2 rfl rfl) (aF (v:=i64 a) ?_)))))));obtain ⟨b8,b3,hm⟩:=aC hm
 exact vS (vs:=[i64 p,i64 a]) (caps:=[cC a16 b]) (us:=[i64 p,i64 a,cC a16 b]) rfl call141 rfl rfl (yF b3 m a3 a5 a6 a8 a9 b0 b1) eB
theorem lQ {a:(List Int)} {b:Nat} {n o:Int} {e:(List aY)} {g:(List Edge)} {p q:Int} {h:(List aY)} {i:(List Edge)} {r:Nat} {u x:Int} {j:(List aY)} {k:(List Edge)} {y z:Int} {l:(List aY)} {m:(List Edge)} {J:Nat} {V:(List ((Int × Int) × Bool))} {Z:Nat} {a0:Int} {c:Nat} {R:Int} (hm:gA a n o e g p q h i u x j k y z l m V a0=some R) (hs:aI G K (L) w) (h3:bW K a1 c2 a) (h6:dT K a4 b [i64 n,i64 o,zS a7 e.length c8,zS a10 g.length c11,i64 p,i64 q,zS a13 h.length c14,zS a16 i.length c17,Value.func (.func 141) #[] #[cC a19 r]]) (h9:bW K a7 c8 e) (b2:bW K a10 c11 g) (b3:bW K a13 c14 h) (b4:bW K a16 c17 i) (b5:dT K a19 r [i64 u,i64 x,zS a22 j.length c23,zS a25 k.length c26,i64 y,i64 z,zS a28 l.length c29,zS a31 m.length c32,Value.func (.func 86) #[] #[cC a34 J]]) (b6:bW K a22 c23 j) (b7:bW K a25 c26 k) (b8:bW K a28 c29 l) (b9:bW K a31 c32 m) (c0:dT K a34 J [zM (some Z)]) (c1:rdM K Z V) (c3:dT K a39 c [i64 a0]):
  Calls prog 88 ([zS a1 a.length c2,Value.func (.func 40) #[] #[cC a4 b,cC a39 c]]:List Value).toArray w (eV fun v w'=>v=i64 R/\aI G K (L) w'):=by
 refine aR func88 rfl (by kernel_rfl) (by show (2:Nat)<=19;decide) ?_;unfold gA at hm
 refine aK (aE (v:=i64 0) (aG (aO (aK (aF (v:=zS a1 a.length c2) (aD (bX (len:=a.length) bV rfl) (aF (v:=i64 0) (aG (aX [] (fun f w=>fL=some R/\aI G K (L) w) eB ?_)))))))));obtain ⟨d0,c4,ho⟩:=aC hm
 refine fA [0,1,7] c4 (fun d f w=>f 8=i64 d/\aI G K (L) w) eB ?_
 ·rintro d d1 f d2 hm hr ⟨a3,a5⟩
  unfold dH at hm
  refine aK (aD (cV a3 rfl) (aG (aO ?_)))
  rcases aH hm with ⟨a6,hm⟩|⟨a6,hm⟩
  ·refine aL a6 rfl (aW (aB (aO (dA (aK (bC a3 (aE (v:=i64 d) (aG (aK (aF (v:=Value.func (.func 40) #[] #[cC a4 b,cC a39 c]) (aF (v:=zS a1 a.length c2) (aF (v:=i64 d) ?_))))))))))));obtain ⟨a8,a9,hm⟩:=aC hm
   refine aD (cO bV rfl h3 rfl rfl rfl a9) ?_;obtain ⟨d3,c5,c6⟩:=bW.el (sz:=1) rfl h3 a9
   cases c6
   refine aD (bE (t:=0) cE a5 c5 rfl rfl) ?_;obtain ⟨d4,c7,hm⟩:=aC hm
   exact vS (vs:=[i64 a8]) (caps:=[cC a4 b,cC a39 c]) (us:=[i64 a8,cC a4 b,cC a39 c]) rfl call40 rfl rfl (aDc c7 a5 h6 h9 b2 b3 b4 b5 b6 b7 b8 b9 c0 c1 c3) eB
  ·exact eB
theorem kL {a:(List Int)} {k:Nat} {l m:Int} {b:(List aY)} {c:(List Edge)} {n o:Int} {d:(List aY)} {e:(List Edge)} {p:Nat} {q r:Int} {g:(List aY)} {h:(List Edge)} {t u:Int} {i:(List aY)} {j:(List Edge)} {x:Nat} {y:(List ((Int × Int) × Bool))} {z:Nat} {J:Int} {V:Nat} {R:Bool} (hm:eF a l m b c n o d e q r g h t u i j y J=some R) (Z:aI G K (L) w) (h3:bW K a1 c2 a) (h6:dT K a4 k [i64 l,i64 m,zS a7 b.length c8,zS a10 c.length c11,i64 n,i64 o,zS a13 d.length c14,zS a16 e.length c17,Value.func (.func 141) #[] #[cC a19 p]]) (h9:bW K a7 c8 b) (a5:bW K a10 c11 c) (a6:bW K a13 c14 d) (a8:bW K a16 c17 e) (a9:dT K a19 p [i64 q,i64 r,zS a22 g.length c23,zS a25 h.length c26,i64 t,i64 u,zS a28 i.length c29,zS a31 j.length c32,Value.func (.func 86) #[] #[cC a34 x]]) (b0:bW K a22 c23 g) (b1:bW K a25 c26 h) (b2:bW K a28 c29 i) (b3:bW K a31 c32 j) (b4:dT K a34 x [zM (some z)]) (b5:rdM K z y) (b6:dT K a39 V [i64 J]):
  Calls prog 38 ([zS a1 a.length c2,Value.func (.func 40) #[] #[cC a4 k,cC a39 V]]:List Value).toArray w (eV fun v w'=>v=zB R/\aI G K (L) w'):=by
 exact eB
theorem aFt {r_a r_b:cB} {d:Nat} {m n:Int} {h:(List aY)} {j:(List Edge)} {o p:Int} {k:(List aY)} {l:(List Edge)} {q:Nat} {r:(List ((Int × Int) × Bool))} {t:Nat} {u y:Int} {e:aY} {g:Int} {R:Bool} (hm:xX r_a r_b m n h j o p k l r u y e g=some R) (hs:aI G K (L) w) (h3:bW K a1 c2 r_a.L) (h6:bW K a4 c5 r_a.E) (x:bW K a7 c8 r_b.L) (z:bW K a10 c11 r_b.E) (a5:dT K a13 d [i64 m,i64 n,zS a16 h.length c17,zS a19 j.length c20,i64 o,i64 p,zS a22 k.length c23,zS a25 l.length c26,Value.func (.func 86) #[] #[cC a28 q]]) (a6:bW K a16 c17 h) (a8:bW K a19 c20 j) (a9:bW K a22 c23 k) (b0:bW K a25 c26 l) (b1:dT K a28 q [zM (some t)]) (b2:rdM K t r):
  Calls prog 14 ([zA #[i64 r_a.N,i64 r_a.I,zS a1 r_a.L.length c2,zS a4 r_a.E.length c5,i64 r_b.N,i64 r_b.I,zS a7 r_b.L.length c8,zS a10 r_b.E.length c11,Value.func (.func 141) #[] #[cC a13 d]],i64 u,i64 y,str e,i64 g]:List Value).toArray w (eV fun v w'=>v=zB R/\aI G K (L) w'):=by
 refine aR func14 rfl (by kernel_rfl) (by show (5:Nat)<=18;decide) ?_;unfold xX at hm
 refine aK (fO (v:=zA #[i64 r_a.N,i64 r_a.I,zS a1 r_a.L.length c2,zS a4 r_a.E.length c5,i64 r_b.N,i64 r_b.I,zS a7 r_b.L.length c8,zS a10 r_b.E.length c11,Value.func (.func 141) #[] #[cC a13 d]]) (vs:=[i64 r_a.N,i64 r_a.I,zS a1 r_a.L.length c2,zS a4 r_a.E.length c5,i64 r_b.N,i64 r_b.I,zS a7 r_b.L.length c8,zS a10 r_b.E.length c11,Value.func (.func 141) #[] #[cC a13 d]]) hs rfl rfl (fun J c9 b3=>(fO (v:=i64 g) (vs:=[i64 g]) b3 rfl rfl (fun V d0 Z=>(aE (v:=zB false) (aG (aK (aD (bH (t':=4) aKq rfl rfl) (aD (eJ (us:=(zC r_b a7 c8 a10 c11)) eS Z (i:=1) rfl rfl rfl rfl) (aF (v:=i64 y) (aF (v:=str e) ?_)))))))))))
 obtain ⟨b4,b5,hm⟩:=aC hm
 refine aP (vs:=[zA (zCa r_b a7 c8 a10 c11),i64 y,str e]) call39 rfl (vO b5 Z x z) ?_
 rintro _ d1 ⟨b6,b7,rfl,b8⟩
 refine aD (aAn (vs:=[zP (some ⟨J,0,none⟩),zP (some ⟨V,0,none⟩)]) rfl) ?_;obtain ⟨d2,c,b9,c0,d3⟩:=aI.lendSp b8 (zR _) .head
 obtain ⟨d4,b,c1,c3,d5⟩:=aI.lendBp c0 zt1
 obtain ⟨d6,a,c4,c6,d7⟩:=aI.lendBp c3 .head
 obtain ⟨d8,c7,hm⟩:=aC hm
 exact aP (vs:=[zS b6 b4.length b7,Value.func (.func 40) #[] #[cC (some ⟨J,0,none⟩) 0,cC (some ⟨V,0,none⟩) 0]]) call38 rfl (kL c7 c6 (b9.mono (zL b a)) (c1.mono a) (h3.mono (zL (zL c b) a)) (h6.mono (zL (zL c b) a)) (x.mono (zL (zL c b) a)) (z.mono (zL (zL c b) a)) (a5.mono (zL (zL c b) a)) (a6.mono (zL (zL c b) a)) (a8.mono (zL (zL c b) a)) (a9.mono (zL (zL c b) a)) (b0.mono (zL (zL c b) a)) (b1.mono (zL (zL c b) a)) (b2.mono (zL (zL c b) a)) c4) eB
end Gv
