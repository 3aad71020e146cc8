/- Walks, printed by program. -/
import Derived.Test.YtgpmcacjpjongaaGreatDoorJWk9
set_option linter.all false
namespace Gv
open Go.Value renaming slice→zS,bool→zB,agg→zA,tuple→zT
open Option.some renaming inj→zI
open Gv.Hp renaming le_trans→zL,le_refl→zR
open Go Go.Proofs Go.Proofs.Tryz
set_option maxRecDepth 20000
set_option maxHeartbeats 40000000
variable {G:wY} {K:Hp} {L:List iN} {w:World} {a1 a4 a7 a10 a13 a16:Option Addr} {c2 c5 c8 c11 c14 c17:Nat}
theorem aAl {spec made:bF} {c4 b5:(List aF)} {R:(Int × Int × Int)} (hm:yB spec made c4 b5=some R) (hs:aD G K (L) w) (u:G.lo=0) (h3:bS K a1 c2 spec.L) (h6:bS K a4 c5 spec.E) (h9:bS K a7 c8 made.L) (e3:bS K a10 c11 made.E) (b0:bS K a13 c14 c4) (g9:bS K a16 c17 b5):
  Calls prog 8 ([zA (zCa spec a1 c2 a4 c5),zA (zCa made a7 c8 a10 c11),zS a13 c4.length c14,zS a16 b5.length c17]:List Value).toArray w (eR fun v w'=>v=zT #[i64 R.1,i64 R.2.1,i64 R.2.2]/\aD G K (L) w'):=by
 let e4:=[zA (zCa made a7 c8 a10 c11),zS a13 c4.length c14]
 let b6:=(zC made a7 c8 a10 c11)
 let b7:=(zC spec a1 c2 a4 c5)
 let p:=zG
 let h0:=[zA (zCa spec a1 c2 a4 c5),zS a13 c4.length c14]
 refine aR func8 rfl (by kernel_rfl) (by show (4:Nat)<=83;decide) ?_;unfold yB at hm
 refine aO (fL (v:=zA (zCa spec a1 c2 a4 c5)) (vs:=b7) hs rfl rfl (fun d5 w20 x0=>(fL (v:=zA (zCa made a7 c8 a10 c11)) (vs:=b6) x0 rfl rfl (fun d6 w23 q3=>(aI (v:=i64 0) (aI (v:=i64 0) (aI (v:=i64 0) (aK (aM (cS (aM (bR [2,3,4,5] (fun f w=>∃ n1,aAb spec made c4 b5 n1=some R/\f 15=zB n1/\aD G K (box d6 27 b6::box d5 27 b7::L) w) ?_ ?_))))))))))))
 ·rintro f w27 ⟨n1,hm,x1,x2⟩
  unfold aAb at hm
  refine aB ?_
  rcases aN hm with ⟨q4,hm⟩|⟨q4,hm⟩
  ·exact aP
  ·refine aW q4 x1 (aO (aL (v:=zS a16 b5.length c17) ?_));obtain ⟨x3,x4,hm⟩:=aC hm
   refine aQ (vs:=[zS a16 b5.length c17]) call24 rfl (aDM x4 x2 u g9) ?_
   rintro _ w33 ⟨rfl,x5⟩
   refine aH (rA rfl) (aI (v:=zB (!x3)) (aK ?_))
   rcases aN hm with ⟨q5,hm⟩|⟨q5,hm⟩
   ·exact aP
   ·refine aW q5 rfl (bB (cT (aB (aM (bR [2,3] (fun f w=>∃ b1 b2 x y b8 b9 b3 b4 m3 c0 c1 c3 c45 m4 d7 d8 d9 e0,aBX c4 b5 b1 b2 x y b8 b9 b3 b4=some R/\f 11=Value.pointer (some ⟨m3,0,none⟩)/\f 12=Value.pointer (some ⟨m4,0,none⟩)/\aD G K (aG 46 K d9 e0 b4::aG 9 K d7 d8 b3::box m4 27 [i64 b8,i64 b9,zS d7 b3.length d8,zS d9 b4.length e0]::aG 46 K c3 c45 y::aG 9 K c0 c1 x::box m3 27 [i64 b1,i64 b2,zS c0 x.length c1,zS c3 y.length c45]::L) w) ?_ ?_)))))
    ·rintro f w57 ⟨b1,b2,x,y,b8,b9,b3,b4,m3,c0,c1,c3,c45,m4,d7,d8,d9,e0,hm,m7,n2,q6⟩
     unfold aBX at hm
     refine aB (aM (cS (aM (bR [2,3,11,12] (fun f w=>∃ n3,aAa c4 b5 b1 b2 x y b8 b9 b3 b4 n3=some R/\f 36=zB n3/\aD G K (aG 46 K d9 e0 b4::aG 9 K d7 d8 b3::box m4 27 [i64 b8,i64 b9,zS d7 b3.length d8,zS d9 b4.length e0]::aG 46 K c3 c45 y::aG 9 K c0 c1 x::box m3 27 [i64 b1,i64 b2,zS c0 x.length c1,zS c3 y.length c45]::L) w) ?_ ?_))))
     ·rintro f w61 ⟨n3,hm,x6,q7⟩
      unfold aAa at hm
      refine aB ?_
      rcases aN hm with ⟨q8,hm⟩|⟨q8,hm⟩
      ·exact aP
      ·refine aW q8 x6 (aO (aH (gE (us:=[i64 b1,i64 b2,zS c0 x.length c1,zS c3 y.length c45]) cW q7 (i:=5) rfl m7 rfl rfl) (aL (v:=zS a16 b5.length c17) ?_)));obtain ⟨K65,q9,x7,x8,x9⟩:=aD.lendSp q7 (zR _) zt4
       obtain ⟨K70,r0,y0,y1,y2⟩:=aD.lendSp x8 q9 zt3
       obtain ⟨r1,y3,hm⟩:=aC hm
       refine aQ (vs:=[zA #[i64 b1,i64 b2,zS c0 x.length c1,zS c3 y.length c45],zS a16 b5.length c17]) call21 rfl (mU (t:=⟨b1,b2,x,y⟩) y3 y1 (x7.mono r0) y0 (g9.mono (zL q9 r0))) ?_
       rintro _ w79 ⟨a77,c78,rfl,y4⟩
       have y5:=y2 _ _ y4
       have b88:=x9 _ _ y5
       refine aH (bI (len:=r1.length) dA rfl) (aH (nW rfl rfl) (aI (v:=zB ((r1.length:Int) == 0)) (aK ?_)))
       rcases aN hm with ⟨r2,hm⟩|⟨r2,hm⟩
       ·exact aP
       ·refine aW r2 rfl (bB (cT (aB (aM (aO (aI (v:=i64 0) (aK (aV [3] (fun f w=>aEY b5=some R/\aD G K (L) w) aP ?_))))))));obtain ⟨b89,y6,ho⟩:=aC hm
        refine cY [2,3,11,12] y6 (fun m5 f w=>f 13=i64 m5/\aD G K (aG 9 K c0 c1 x::aG 46 K c3 c45 y::aG 46 K d9 e0 b4::aG 9 K d7 d8 b3::box m4 27 [i64 b8,i64 b9,zS d7 b3.length d8,zS d9 b4.length e0]::box m3 27 [i64 b1,i64 b2,zS c0 x.length c1,zS c3 y.length c45]::L) w) aP ?_
        ·rintro m5 b90 f w97 hm hr ⟨m6,r3⟩
         unfold lC at hm
         refine aM (aO (bC m6 (aL (v:=zS a16 b5.length c17) (aH (bI (len:=b5.length) bE rfl) (aH (R_leq rfl rfl) (aK ?_))))))
         rcases aN hm with ⟨n4,hm⟩|⟨n4,hm⟩
         ·refine aT n4 rfl (bB (aB (aM (cS (aM ?_)))));obtain ⟨y7,n5,y8,r4,y9⟩:=aD.lendBp r3 zt4
          refine dX (C:=fun w'=>∃ L',aD G y7 L' w') [(0,0),(1,0),(2,0),(3,0),(4,1),(5,0)] Tryz_mixed (by kernel_rfl) (fun _ hg=>⟨_,aD.mono r4 hg⟩) (fun b92 z0=>?_)
          have n6:=aD.mono r4 z0
          refine bZ rfl (fun _ ⟨_,n6⟩=>eJ (t:=0) (vs:=[i64 b8,i64 b9,zS d7 b3.length d8,zS d9 b4.length e0]) cW n6 y8 n2 rfl rfl) (bZ rfl (fun _ _=>bJ (v:=zS a16 b5.length c17) rfl) (bZ rfl (fun _ _=>bJ m6) ?_));obtain ⟨z1,r5,hm⟩:=aC hm
          obtain ⟨z2,z3,r6⟩:=Cut.ex 1 a16 c17 0
          have z4:=bS.cut' g9 r5 r6
          refine bZ rfl (fun _ _=>aCy bE g9.room r6 rfl rfl rfl r5) (gP rfl ?_);obtain ⟨b93,r7,z5,z6,z7⟩:=aD.lendSp n6 n5 zt3
          obtain ⟨b94,r8,z8,z9,a00⟩:=aD.lendSp z6 (zL n5 r7) zt2
          obtain ⟨h1,a01,hm⟩:=aC hm
          refine aQ (vs:=[zA #[i64 b8,i64 b9,zS d7 b3.length d8,zS d9 b4.length e0],zS z2 z1.length z3]) call21 rfl (mU (t:=⟨b8,b9,b3,b4⟩) a01 z9 (z5.mono r8) z8 (z4.mono (zL (zL n5 r7) r8))) ?_
          rintro _ b95 ⟨m8,m9,rfl,a02⟩
          have a03:=a00 _ _ a02
          have r9:=z7 _ _ a03
          refine aJ (aB ⟨⟨_,r9⟩,?_⟩)
          refine bZ rfl (fun _ _=>cU (v:=zS m8 h1.length m9) rfl) (aCv ?_)
          have a04:=y9 _ _ r9
          refine aB (cS (aO (aL (v:=zS m8 h1.length m9) (aH (bI (len:=h1.length) dA rfl) (aH (nW rfl rfl) (aI (v:=zB ((h1.length:Int) == 0)) (aK ?_)))))))
          rcases aN hm with ⟨s0,hm⟩|⟨s0,hm⟩
          ·exact aP
          ·refine aW s0 rfl (aM ?_);obtain ⟨b96,f4,a05,a06,a07⟩:=aD.lendBp a04 .head
           obtain ⟨a08,f1,s1,s2,a09⟩:=aD.lendBp a06 zt5
           refine dX (C:=fun w'=>∃ L',aD G a08 L' w') [(0,0),(1,0),(2,0),(3,0),(4,0),(5,0),(6,0),(8,0),(7,1),(9,1),(10,0),(11,0),(12,0)] Tryz_mixed (by kernel_rfl) (fun _ hg=>⟨_,aD.mono s2 hg⟩) (fun b97 a11=>?_)
           have f8:=aD.mono s2 a11
           refine bZ rfl (fun _ ⟨_,f8⟩=>eJ (t:=0) (vs:=[i64 b1,i64 b2,zS c0 x.length c1,zS c3 y.length c45]) cW f8 s1 m7 rfl rfl) (bZ rfl (fun _ ⟨_,f8⟩=>eJ (t:=0) (vs:=[i64 b8,i64 b9,zS d7 b3.length d8,zS d9 b4.length e0]) cW f8 (a05.mono f1) n2 rfl rfl) (bZ rfl (fun _ _=>bJ (v:=zS a13 c4.length c14) rfl) (bZ rfl (fun _ ⟨_,f8⟩=>eJ (t:=0) (vs:=[i64 b1,i64 b2,zS c0 x.length c1,zS c3 y.length c45]) cW f8 s1 m7 rfl rfl) (bZ rfl (fun _ _=>bJ (v:=zS a16 b5.length c17) rfl) (bZ rfl (fun _ _=>bJ m6) ?_)))))
           obtain ⟨a12,s3,hm⟩:=aC hm
           obtain ⟨a14,a15,s4⟩:=Cut.ex 1 a16 c17 0
           have a17:=bS.cut' g9 s3 s4
           refine bZ rfl (fun _ _=>aCy bE g9.room s4 rfl rfl rfl s3) (bZ rfl (fun _ _=>bJ (v:=zS m8 h1.length m9) rfl) (gP rfl ?_));obtain ⟨b98,s5,a18,a19,a20⟩:=aD.lendSp f8 (zL f4 f1) zt3
           obtain ⟨b99,s6,a21,a22,a23⟩:=aD.lendSp a19 (zL (zL f4 f1) s5) zt3
           obtain ⟨a24,a25,hm⟩:=aC hm
           refine aQ (vs:=[zA #[i64 b1,i64 b2,zS c0 x.length c1,zS c3 y.length c45],zS a14 a12.length a15]) call21 rfl (mU (t:=⟨b1,b2,x,y⟩) a25 a22 (a18.mono s6) a21 (a17.mono (zL (zL (zL f4 f1) s5) s6))) ?_
           rintro _ c00 ⟨a26,a27,rfl,a28⟩
           have a29:=a23 _ _ a28
           have s7:=a20 _ _ a29
           refine aJ (aB ⟨⟨_,s7⟩,?_⟩)
           refine gP rfl ?_;obtain ⟨c01,h2,a30,a31,a32⟩:=aD.lendSp s7 (zL f4 f1) .head
           obtain ⟨c02,h4,a33,a34,a35⟩:=aD.lendSp a31 (zL (zL f4 f1) h2) .head
           obtain ⟨c03,h5,a36,a37,a38⟩:=aD.lendSp a34 (zL (zL (zL f4 f1) h2) h4) zt1
           obtain ⟨c04,h7,a39,a40,a42⟩:=aD.lendSp a37 (zL (zL (zL (zL f4 f1) h2) h4) h5) zt1
           obtain ⟨c05,h8,a43,a45,a46⟩:=aD.lendSp a40 (zL (zL (zL (zL (zL f4 f1) h2) h4) h5) h7) .head
           obtain ⟨c06,i0,a47,a48,a49⟩:=aD.lendSp a45 (zL (zL (zL (zL (zL (zL f4 f1) h2) h4) h5) h7) h8) .head
           obtain ⟨s8,a51,hm⟩:=aC hm
           refine aQ (vs:=[zA #[i64 b1,i64 b2,zS c0 x.length c1,zS c3 y.length c45],zA #[i64 b8,i64 b9,zS d7 b3.length d8,zS d9 b4.length e0],zS a13 c4.length c14,zS a26 a24.length a27,zS m8 h1.length m9]) call20 rfl (sW (spec:=⟨b1,b2,x,y⟩) (made:=⟨b8,b9,b3,b4⟩) a51 a48 u (a30.mono (zL (zL (zL (zL h4 h5) h7) h8) i0)) (a33.mono (zL (zL (zL h5 h7) h8) i0)) (a36.mono (zL (zL h7 h8) i0)) (a39.mono (zL h8 i0)) (b0.mono (zL (zL (zL (zL (zL (zL (zL f4 f1) h2) h4) h5) h7) h8) i0)) (a43.mono i0) a47) ?_
           rintro _ c07 ⟨c08,c09,rfl,a52⟩
           have a54:=a49 _ _ a52
           have a55:=a46 _ _ a54
           have a56:=a42 _ _ a55
           have a57:=a38 _ _ a56
           have a58:=a35 _ _ a57
           have s9:=a32 _ _ a58
           refine aJ (aB ⟨⟨_,s9⟩,?_⟩)
           refine bZ rfl (fun _ _=>bI (len:=s8.length) bE rfl) (bZ rfl (fun _ _=>sZ rfl rfl) (bZ rfl (fun _ _=>cU (v:=zB (decide (0 < (s8.length:Int)))) rfl) (aCv ?_)))
           have a59:=a09 _ _ s9
           have t0:=a07 _ _ a59
           refine aB ?_
           rcases aN hm with ⟨n7,hm⟩|⟨n7,hm⟩
           ·refine aT n7 rfl (aO (bC m6 (aI (v:=i64 2) (aI (v:=i64 m5) (aI (v:=i64 0) (aK (kX (gO (gO (cC (cC ?_)))))))))))
            have a60:=hr _ (zI hm).symm
            subst a60
            have hm:(some (2,m5,0))=some R:=ho
            clear hr ho
            obtain rfl:=zI hm
            exact gO (cC (cC (retQ_3 results8 rfl rfl rfl ⟨rfl,(aD.arr 9 [] t0 rfl)⟩)))
           ·exact aW n7 rfl (bB (cT (cT (aB (aZ (bC m6 (aH (eP rfl rfl) (aI (v:=i64 (wr (m5+1))) (aK ⟨_,(zI hm).symm,bW,rfl,(aD.arr 9 [2,3,5,4,0,1] t0 rfl)⟩)))))))))
         ·refine aW n4 rfl (yH (iP (iP ?_)))
          have a62:=hr _ (zI hm).symm
          subst a62
          have hm:(aEY b5)=some R:=ho
          clear hr ho
          exact pC (aB ⟨bW,hm,(aD.arr 6 [] r3 rfl)⟩)
     refine aZ (aH (gE (us:=[i64 b1,i64 b2,zS c0 x.length c1,zS c3 y.length c45]) cW q6 (i:=5) rfl m7 rfl rfl) ?_);obtain ⟨c10,a63,a64,a65,a66⟩:=aD.lendSp q6 (zR _) zt4
     obtain ⟨c12,a67,a68,a69,a70⟩:=aD.lendSp a65 a63 zt3
     obtain ⟨a71,a72,hm⟩:=aC hm
     refine aQ (vs:=[zA #[i64 b1,i64 b2,zS c0 x.length c1,zS c3 y.length c45]]) call25 rfl (wV (t:=⟨b1,b2,x,y⟩) a72 a69 u (a64.mono a67) a68) ?_
     rintro _ c13 ⟨rfl,a73⟩
     have a74:=a70 _ _ a73
     have n8:=a66 _ _ a74
     refine aH (rA rfl) (aL (v:=zB (!a71)) ?_)
     rcases aN hm with ⟨f5,hm⟩|⟨f5,hm⟩
     ·exact aAU f5 rfl rfl (aAU f5 rfl rfl (aAU f5 rfl rfl (aH (aAT (v:=zB true) f5 rfl rfl) (aI (v:=zB true) (aK ⟨bW,true,hm,rfl,(aD.arr 5 [2,3,4,1,0] n8 rfl)⟩)))))
     ·refine eB f5 rfl rfl (aH (gE (us:=[i64 b8,i64 b9,zS d7 b3.length d8,zS d9 b4.length e0]) cW n8 (i:=4) rfl n2 rfl rfl) (eB f5 rfl rfl ?_));obtain ⟨c15,a75,a76,a78,a79⟩:=aD.lendSp n8 (zR _) zt3
      obtain ⟨c16,a80,a81,a82,a83⟩:=aD.lendSp a78 a75 zt2
      obtain ⟨n9,a84,hm⟩:=aC hm
      refine aQ (vs:=[zA #[i64 b8,i64 b9,zS d7 b3.length d8,zS d9 b4.length e0]]) call25 rfl (wV (t:=⟨b8,b9,b3,b4⟩) a84 a82 u (a76.mono a80) a81) ?_
      rintro _ c18 ⟨rfl,a85⟩
      have a86:=a83 _ _ a85
      have a87:=a79 _ _ a86
      exact eB f5 rfl rfl (aH (rA rfl) (aH (vR (v:=zB (!n9)) f5 rfl rfl) (aI (v:=zB (!n9)) (aK ⟨bW,!n9,hm,rfl,(aD.arr 5 [1,0,4,3,2] a87 rfl)⟩))))
    obtain ⟨c19,c,a88,a89,e5⟩:=aD.lendBp x5 .head
    obtain ⟨e1,b,a90,a91,e6⟩:=aD.lendBp a89 .head
    refine mM (C:=fun w'=>∃ L',aD G e1 L' w') [9] Tryz_mixed (by kernel_rfl) (fun c20 a92=>?_)
    have f2:=aD.mono a91 a92
    refine cI (i:=0) rfl (by kernel_rfl) ⟨_,f2⟩ (fun _ ⟨_,f2⟩=>eJ (t:=0) (vs:=b7) cW f2 a90 rfl rfl rfl) (cI (i:=1) rfl (by kernel_rfl) ⟨_,f2⟩ (fun _ _=>bJ (v:=zS a13 c4.length c14) rfl) (cI (i:=3) rfl (by kernel_rfl) ⟨_,f2⟩ (fun _ ⟨_,f2⟩=>eJ (t:=0) (vs:=b6) cW f2 (a88.mono b) rfl rfl rfl) (cI (i:=4) rfl (by kernel_rfl) ⟨_,f2⟩ (fun _ _=>bJ (v:=zS a13 c4.length c14) rfl) (aJt (i:=2) (j:=6) (k:=7) (by kernel_rfl) rfl rfl rfl ?_ ?_ ?_))))
    ·obtain ⟨a,a93,hm⟩:=aC hm
     refine aQ (vs:=h0) call17 rfl (aY a93 f2 u (h3.mono (zL c b)) (h6.mono (zL c b)) (b0.mono (zL c b))) ?_
     rintro _ c21 ⟨h,l,m,n,rfl,n0⟩
     refine aJ (aB ⟨fun _=>⟨_,n0⟩,?_⟩)
     refine aJt (i:=5) (j:=6) (k:=7) (by kernel_rfl) rfl rfl rfl ?_ ?_ ?_
     ·obtain ⟨o,a94,hm⟩:=aC hm
      refine aQ (vs:=e4) call17 rfl (aY a94 n0 u (h9.mono (zL c b)) (e3.mono (zL c b)) (b0.mono (zL c b))) ?_
      rintro _ c22 ⟨e7,e8,e9,f0,rfl,o0⟩
      refine aJ (aB ⟨fun _=>⟨_,o0⟩,?_⟩)
      refine fR (i:=6) (j:=7) (by kernel_rfl) rfl rfl ?_ ?_
      ·refine aX (vs:=p) zeroValue27 o0 rfl (fun o1 c23 t1=>(aJ (aB ⟨fun _=>⟨_,t1⟩,?_⟩)))
       refine aU (i:=7) (by kernel_rfl) rfl (aX (vs:=p) zeroValue27 t1 rfl (fun o2 c24 t2=>(aJ (aB ⟨fun _=>⟨_,t2⟩,?_⟩))))
       refine aU (i:=8) (by kernel_rfl) rfl (bH (i:=1) (ns:=(zC a h l m n)) (us:=(zC a h l m n)) sizeOf27 t2 rfl rfl rfl rfl rfl (cK rfl) rfl rfl (fun a95 (t3:aD G e1 (box o2 27 p::box o1 27 (zC a h l m n)::aG 9 K e7 e8 o.L::aG 46 K e9 f0 o.E::aG 9 K h l a.L::aG 46 K m n a.E::L) a95)=>(aJ (aB ⟨fun _=>⟨_,t3⟩,?_⟩))))
       refine aU (i:=9) (by kernel_rfl) rfl ?_
       have a96:=e6 _ _ t3
       have a97:=e5 _ _ a96
       refine bH (i:=2) (ns:=(zC o e7 e8 e9 f0)) (us:=(zC o e7 e8 e9 f0)) sizeOf27 a97 rfl rfl rfl rfl rfl (cK rfl) rfl rfl (fun a98 (a99:aD G K (box d6 27 b6::box d5 27 b7::box o2 27 (zC o e7 e8 e9 f0)::box o1 27 (zC a h l m n)::aG 9 K e7 e8 o.L::aG 46 K e9 f0 o.E::aG 9 K h l a.L::aG 46 K m n a.E::L) a98)=>(aJ (aB ⟨tD rfl,?_⟩)))
       exact cO (by kernel_rfl) (aB ⟨bW,a.N,a.I,a.L,a.E,o.N,o.I,o.L,o.E,o1,h,l,m,n,o2,e7,e8,e9,f0,hm,rfl,rfl,(aD.arr 8 [5,4,2,7,6,3] a99 rfl)⟩)
      ·refine aX (vs:=p) zeroValue27 o0 rfl (fun o3 c25 t4=>(aJ (aB ⟨fun _=>⟨_,t4⟩,?_⟩)))
       refine aU (i:=6) (by kernel_rfl) rfl (aX (vs:=p) zeroValue27 t4 rfl (fun o4 c26 t5=>(aJ (aB ⟨fun _=>⟨_,t5⟩,?_⟩))))
       refine aU (i:=8) (by kernel_rfl) rfl (bH (i:=0) (ns:=(zC a h l m n)) (us:=(zC a h l m n)) sizeOf27 t5 rfl rfl rfl rfl rfl (cK rfl) rfl rfl (fun b00 (t6:aD G e1 (box o4 27 (zC a h l m n)::box o3 27 p::aG 9 K e7 e8 o.L::aG 46 K e9 f0 o.E::aG 9 K h l a.L::aG 46 K m n a.E::L) b00)=>(aJ (aB ⟨fun _=>⟨_,t6⟩,?_⟩))))
       refine aU (i:=9) (by kernel_rfl) rfl ?_
       have b01:=e6 _ _ t6
       have b02:=e5 _ _ b01
       refine bH (i:=3) (ns:=(zC o e7 e8 e9 f0)) (us:=(zC o e7 e8 e9 f0)) sizeOf27 b02 rfl rfl rfl rfl rfl (cK rfl) rfl rfl (fun b03 (b04:aD G K (box d6 27 b6::box d5 27 b7::box o4 27 (zC a h l m n)::box o3 27 (zC o e7 e8 e9 f0)::aG 9 K e7 e8 o.L::aG 46 K e9 f0 o.E::aG 9 K h l a.L::aG 46 K m n a.E::L) b03)=>(aJ (aB ⟨tD rfl,?_⟩)))
       exact cO (by kernel_rfl) (aB ⟨bW,a.N,a.I,a.L,a.E,o.N,o.I,o.L,o.E,o4,h,l,m,n,o3,e7,e8,e9,f0,hm,rfl,rfl,(aD.arr 8 [5,4,3,7,6,2] b04 rfl)⟩)
     ·refine aX (vs:=p) zeroValue27 n0 rfl (fun i1 c27 o5=>(aJ (aB ⟨fun _=>⟨_,o5⟩,?_⟩)))
      refine fR (i:=5) (j:=7) (by kernel_rfl) rfl rfl ?_ ?_
      ·obtain ⟨z,b05,hm⟩:=aC hm
       refine aQ (vs:=e4) call17 rfl (aY b05 o5 u (h9.mono (zL c b)) (e3.mono (zL c b)) (b0.mono (zL c b))) ?_
       rintro _ c28 ⟨i2,i3,i4,i5,rfl,t7⟩
       refine aJ (aB ⟨fun _=>⟨_,t7⟩,?_⟩)
       refine aU (i:=7) (by kernel_rfl) rfl (aX (vs:=p) zeroValue27 t7 rfl (fun o6 c30 t8=>(aJ (aB ⟨fun _=>⟨_,t8⟩,?_⟩))))
       refine aU (i:=8) (by kernel_rfl) rfl (bH (i:=3) (ns:=(zC a h l m n)) (us:=(zC a h l m n)) sizeOf27 t8 rfl rfl rfl rfl rfl (cK rfl) rfl rfl (fun b06 (t9:aD G e1 (box o6 27 p::aG 9 K i2 i3 z.L::aG 46 K i4 i5 z.E::box i1 27 (zC a h l m n)::aG 9 K h l a.L::aG 46 K m n a.E::L) b06)=>(aJ (aB ⟨fun _=>⟨_,t9⟩,?_⟩))))
       refine aU (i:=9) (by kernel_rfl) rfl ?_
       have b07:=e6 _ _ t9
       have b08:=e5 _ _ b07
       refine bH (i:=2) (ns:=(zC z i2 i3 i4 i5)) (us:=(zC z i2 i3 i4 i5)) sizeOf27 b08 rfl rfl rfl rfl rfl (cK rfl) rfl rfl (fun b09 (b10:aD G K (box d6 27 b6::box d5 27 b7::box o6 27 (zC z i2 i3 i4 i5)::aG 9 K i2 i3 z.L::aG 46 K i4 i5 z.E::box i1 27 (zC a h l m n)::aG 9 K h l a.L::aG 46 K m n a.E::L) b09)=>(aJ (aB ⟨tD rfl,?_⟩)))
       exact cO (by kernel_rfl) (aB ⟨bW,a.N,a.I,a.L,a.E,z.N,z.I,z.L,z.E,i1,h,l,m,n,o6,i2,i3,i4,i5,hm,rfl,rfl,(aD.arr 8 [4,3,2,7,6,5] b10 rfl)⟩)
      ·refine aX (vs:=p) zeroValue27 o5 rfl (fun o7 c31 u0=>(aJ (aB ⟨fun _=>⟨_,u0⟩,?_⟩)))
       refine aU (i:=5) (by kernel_rfl) rfl ?_;obtain ⟨V,b11,hm⟩:=aC hm
       refine aQ (vs:=e4) call17 rfl (aY b11 u0 u (h9.mono (zL c b)) (e3.mono (zL c b)) (b0.mono (zL c b))) ?_
       rintro _ c32 ⟨i6,i7,i8,i9,rfl,u1⟩
       refine aJ (aB ⟨fun _=>⟨_,u1⟩,?_⟩)
       refine aU (i:=8) (by kernel_rfl) rfl (bH (i:=3) (ns:=(zC a h l m n)) (us:=(zC a h l m n)) sizeOf27 u1 rfl rfl rfl rfl rfl (cK rfl) rfl rfl (fun b12 (u2:aD G e1 (aG 9 K i6 i7 V.L::aG 46 K i8 i9 V.E::box o7 27 p::box i1 27 (zC a h l m n)::aG 9 K h l a.L::aG 46 K m n a.E::L) b12)=>(aJ (aB ⟨fun _=>⟨_,u2⟩,?_⟩))))
       refine aU (i:=9) (by kernel_rfl) rfl ?_
       have b13:=e6 _ _ u2
       have b14:=e5 _ _ b13
       refine bH (i:=4) (ns:=(zC V i6 i7 i8 i9)) (us:=(zC V i6 i7 i8 i9)) sizeOf27 b14 rfl rfl rfl rfl rfl (cK rfl) rfl rfl (fun b15 (b16:aD G K (box d6 27 b6::box d5 27 b7::aG 9 K i6 i7 V.L::aG 46 K i8 i9 V.E::box o7 27 (zC V i6 i7 i8 i9)::box i1 27 (zC a h l m n)::aG 9 K h l a.L::aG 46 K m n a.E::L) b15)=>(aJ (aB ⟨tD rfl,?_⟩)))
       exact cO (by kernel_rfl) (aB ⟨bW,a.N,a.I,a.L,a.E,V.N,V.I,V.L,V.E,i1,h,l,m,n,o7,i6,i7,i8,i9,hm,rfl,rfl,(aD.arr 8 [3,2,4,7,6,5] b16 rfl)⟩)
     ·refine aX (vs:=p) zeroValue27 n0 rfl (fun j0 c33 o8=>(aJ (aB ⟨fun _=>⟨_,o8⟩,?_⟩)))
      refine fR (i:=5) (j:=6) (by kernel_rfl) rfl rfl ?_ ?_
      ·obtain ⟨Z,b17,hm⟩:=aC hm
       refine aQ (vs:=e4) call17 rfl (aY b17 o8 u (h9.mono (zL c b)) (e3.mono (zL c b)) (b0.mono (zL c b))) ?_
       rintro _ c34 ⟨j1,j2,j3,j4,rfl,u3⟩
       refine aJ (aB ⟨fun _=>⟨_,u3⟩,?_⟩)
       refine aU (i:=6) (by kernel_rfl) rfl (aX (vs:=p) zeroValue27 u3 rfl (fun o9 c36 u4=>(aJ (aB ⟨fun _=>⟨_,u4⟩,?_⟩))))
       refine aU (i:=8) (by kernel_rfl) rfl (bH (i:=0) (ns:=(zC a h l m n)) (us:=(zC a h l m n)) sizeOf27 u4 rfl rfl rfl rfl rfl (cK rfl) rfl rfl (fun b18 (u5:aD G e1 (box o9 27 (zC a h l m n)::aG 9 K j1 j2 Z.L::aG 46 K j3 j4 Z.E::box j0 27 p::aG 9 K h l a.L::aG 46 K m n a.E::L) b18)=>(aJ (aB ⟨fun _=>⟨_,u5⟩,?_⟩))))
       refine aU (i:=9) (by kernel_rfl) rfl ?_
       have b20:=e6 _ _ u5
       have b21:=e5 _ _ b20
       refine bH (i:=5) (ns:=(zC Z j1 j2 j3 j4)) (us:=(zC Z j1 j2 j3 j4)) sizeOf27 b21 rfl rfl rfl rfl rfl (cK rfl) rfl rfl (fun b23 (b24:aD G K (box d6 27 b6::box d5 27 b7::box o9 27 (zC a h l m n)::aG 9 K j1 j2 Z.L::aG 46 K j3 j4 Z.E::box j0 27 (zC Z j1 j2 j3 j4)::aG 9 K h l a.L::aG 46 K m n a.E::L) b23)=>(aJ (aB ⟨tD rfl,?_⟩)))
       exact cO (by kernel_rfl) (aB ⟨bW,a.N,a.I,a.L,a.E,Z.N,Z.I,Z.L,Z.E,o9,h,l,m,n,j0,j1,j2,j3,j4,hm,rfl,rfl,(aD.arr 8 [4,3,5,7,6,2] b24 rfl)⟩)
      ·refine aX (vs:=p) zeroValue27 o8 rfl (fun p0 c37 u6=>(aJ (aB ⟨fun _=>⟨_,u6⟩,?_⟩)))
       refine aU (i:=5) (by kernel_rfl) rfl ?_;obtain ⟨a0,b25,hm⟩:=aC hm
       refine aQ (vs:=e4) call17 rfl (aY b25 u6 u (h9.mono (zL c b)) (e3.mono (zL c b)) (b0.mono (zL c b))) ?_
       rintro _ c38 ⟨j5,j6,j7,j8,rfl,u7⟩
       refine aJ (aB ⟨fun _=>⟨_,u7⟩,?_⟩)
       refine aU (i:=8) (by kernel_rfl) rfl (bH (i:=2) (ns:=(zC a h l m n)) (us:=(zC a h l m n)) sizeOf27 u7 rfl rfl rfl rfl rfl (cK rfl) rfl rfl (fun b26 (u8:aD G e1 (aG 9 K j5 j6 a0.L::aG 46 K j7 j8 a0.E::box p0 27 (zC a h l m n)::box j0 27 p::aG 9 K h l a.L::aG 46 K m n a.E::L) b26)=>(aJ (aB ⟨fun _=>⟨_,u8⟩,?_⟩))))
       refine aU (i:=9) (by kernel_rfl) rfl ?_
       have b27:=e6 _ _ u8
       have b28:=e5 _ _ b27
       refine bH (i:=5) (ns:=(zC a0 j5 j6 j7 j8)) (us:=(zC a0 j5 j6 j7 j8)) sizeOf27 b28 rfl rfl rfl rfl rfl (cK rfl) rfl rfl (fun b29 (b30:aD G K (box d6 27 b6::box d5 27 b7::aG 9 K j5 j6 a0.L::aG 46 K j7 j8 a0.E::box p0 27 (zC a h l m n)::box j0 27 (zC a0 j5 j6 j7 j8)::aG 9 K h l a.L::aG 46 K m n a.E::L) b29)=>(aJ (aB ⟨tD rfl,?_⟩)))
       exact cO (by kernel_rfl) (aB ⟨bW,a.N,a.I,a.L,a.E,a0.N,a0.I,a0.L,a0.E,p0,h,l,m,n,j0,j5,j6,j7,j8,hm,rfl,rfl,(aD.arr 8 [3,2,5,7,6,4] b30 rfl)⟩)
    ·refine aX (vs:=p) zeroValue27 f2 rfl (fun f6 c39 p1=>(aJ (aB ⟨fun _=>⟨_,p1⟩,?_⟩)))
     refine fR (i:=2) (j:=7) (by kernel_rfl) rfl rfl ?_ ?_
     ·obtain ⟨d,b31,hm⟩:=aC hm
      refine aQ (vs:=h0) call17 rfl (aY b31 p1 u (h3.mono (zL c b)) (h6.mono (zL c b)) (b0.mono (zL c b))) ?_
      rintro _ c40 ⟨c6,c7,c9,d0,rfl,p2⟩
      refine aJ (aB ⟨fun _=>⟨_,p2⟩,?_⟩)
      refine fR (i:=5) (j:=7) (by kernel_rfl) rfl rfl ?_ ?_
      ·obtain ⟨a2,b32,hm⟩:=aC hm
       refine aQ (vs:=e4) call17 rfl (aY b32 p2 u (h9.mono (zL c b)) (e3.mono (zL c b)) (b0.mono (zL c b))) ?_
       rintro _ c41 ⟨j9,k0,k1,k2,rfl,u9⟩
       refine aJ (aB ⟨fun _=>⟨_,u9⟩,?_⟩)
       refine aU (i:=7) (by kernel_rfl) rfl (aX (vs:=p) zeroValue27 u9 rfl (fun p3 c43 v0=>(aJ (aB ⟨fun _=>⟨_,v0⟩,?_⟩))))
       refine aU (i:=8) (by kernel_rfl) rfl (bH (i:=5) (ns:=(zC d c6 c7 c9 d0)) (us:=(zC d c6 c7 c9 d0)) sizeOf27 v0 rfl rfl rfl rfl rfl (cK rfl) rfl rfl (fun b33 (v1:aD G e1 (box p3 27 p::aG 9 K j9 k0 a2.L::aG 46 K k1 k2 a2.E::aG 9 K c6 c7 d.L::aG 46 K c9 d0 d.E::box f6 27 (zC d c6 c7 c9 d0)::L) b33)=>(aJ (aB ⟨fun _=>⟨_,v1⟩,?_⟩))))
       refine aU (i:=9) (by kernel_rfl) rfl ?_
       have b34:=e6 _ _ v1
       have b35:=e5 _ _ b34
       refine bH (i:=2) (ns:=(zC a2 j9 k0 k1 k2)) (us:=(zC a2 j9 k0 k1 k2)) sizeOf27 b35 rfl rfl rfl rfl rfl (cK rfl) rfl rfl (fun b36 (b38:aD G K (box d6 27 b6::box d5 27 b7::box p3 27 (zC a2 j9 k0 k1 k2)::aG 9 K j9 k0 a2.L::aG 46 K k1 k2 a2.E::aG 9 K c6 c7 d.L::aG 46 K c9 d0 d.E::box f6 27 (zC d c6 c7 c9 d0)::L) b36)=>(aJ (aB ⟨tD rfl,?_⟩)))
       exact cO (by kernel_rfl) (aB ⟨bW,d.N,d.I,d.L,d.E,a2.N,a2.I,a2.L,a2.E,f6,c6,c7,c9,d0,p3,j9,k0,k1,k2,hm,rfl,rfl,(aD.arr 7 [4,3,2,6,5] b38 rfl)⟩)
      ·refine aX (vs:=p) zeroValue27 p2 rfl (fun p4 c44 v2=>(aJ (aB ⟨fun _=>⟨_,v2⟩,?_⟩)))
       refine aU (i:=5) (by kernel_rfl) rfl ?_;obtain ⟨a3,b39,hm⟩:=aC hm
       refine aQ (vs:=e4) call17 rfl (aY b39 v2 u (h9.mono (zL c b)) (e3.mono (zL c b)) (b0.mono (zL c b))) ?_
       rintro _ c46 ⟨k3,k4,k5,k6,rfl,v3⟩
       refine aJ (aB ⟨fun _=>⟨_,v3⟩,?_⟩)
       refine aU (i:=8) (by kernel_rfl) rfl (bH (i:=5) (ns:=(zC d c6 c7 c9 d0)) (us:=(zC d c6 c7 c9 d0)) sizeOf27 v3 rfl rfl rfl rfl rfl (cK rfl) rfl rfl (fun b40 (v4:aD G e1 (aG 9 K k3 k4 a3.L::aG 46 K k5 k6 a3.E::box p4 27 p::aG 9 K c6 c7 d.L::aG 46 K c9 d0 d.E::box f6 27 (zC d c6 c7 c9 d0)::L) b40)=>(aJ (aB ⟨fun _=>⟨_,v4⟩,?_⟩))))
       refine aU (i:=9) (by kernel_rfl) rfl ?_
       have b41:=e6 _ _ v4
       have b42:=e5 _ _ b41
       refine bH (i:=4) (ns:=(zC a3 k3 k4 k5 k6)) (us:=(zC a3 k3 k4 k5 k6)) sizeOf27 b42 rfl rfl rfl rfl rfl (cK rfl) rfl rfl (fun b43 (b44:aD G K (box d6 27 b6::box d5 27 b7::aG 9 K k3 k4 a3.L::aG 46 K k5 k6 a3.E::box p4 27 (zC a3 k3 k4 k5 k6)::aG 9 K c6 c7 d.L::aG 46 K c9 d0 d.E::box f6 27 (zC d c6 c7 c9 d0)::L) b43)=>(aJ (aB ⟨tD rfl,?_⟩)))
       exact cO (by kernel_rfl) (aB ⟨bW,d.N,d.I,d.L,d.E,a3.N,a3.I,a3.L,a3.E,f6,c6,c7,c9,d0,p4,k3,k4,k5,k6,hm,rfl,rfl,(aD.arr 7 [3,2,4,6,5] b44 rfl)⟩)
     ·refine aX (vs:=p) zeroValue27 p1 rfl (fun p5 c47 v5=>(aJ (aB ⟨fun _=>⟨_,v5⟩,?_⟩)))
      refine aU (i:=2) (by kernel_rfl) rfl ?_;obtain ⟨q,b45,hm⟩:=aC hm
      refine aQ (vs:=h0) call17 rfl (aY b45 v5 u (h3.mono (zL c b)) (h6.mono (zL c b)) (b0.mono (zL c b))) ?_
      rintro _ c48 ⟨f9,g0,g1,g2,rfl,v6⟩
      refine aJ (aB ⟨fun _=>⟨_,v6⟩,?_⟩)
      refine aU (i:=5) (by kernel_rfl) rfl ?_;obtain ⟨a5,b47,hm⟩:=aC hm
      refine aQ (vs:=e4) call17 rfl (aY b47 v6 u (h9.mono (zL c b)) (e3.mono (zL c b)) (b0.mono (zL c b))) ?_
      rintro _ c49 ⟨k7,k8,k9,l0,rfl,v7⟩
      refine aJ (aB ⟨fun _=>⟨_,v7⟩,?_⟩)
      refine aU (i:=8) (by kernel_rfl) rfl (bH (i:=5) (ns:=(zC q f9 g0 g1 g2)) (us:=(zC q f9 g0 g1 g2)) sizeOf27 v7 rfl rfl rfl rfl rfl (cK rfl) rfl rfl (fun b48 (v8:aD G e1 (aG 9 K k7 k8 a5.L::aG 46 K k9 l0 a5.E::aG 9 K f9 g0 q.L::aG 46 K g1 g2 q.E::box p5 27 p::box f6 27 (zC q f9 g0 g1 g2)::L) b48)=>(aJ (aB ⟨fun _=>⟨_,v8⟩,?_⟩))))
      refine aU (i:=9) (by kernel_rfl) rfl ?_
      have b49:=e6 _ _ v8
      have b50:=e5 _ _ b49
      refine bH (i:=6) (ns:=(zC a5 k7 k8 k9 l0)) (us:=(zC a5 k7 k8 k9 l0)) sizeOf27 b50 rfl rfl rfl rfl rfl (cK rfl) rfl rfl (fun b51 (b52:aD G K (box d6 27 b6::box d5 27 b7::aG 9 K k7 k8 a5.L::aG 46 K k9 l0 a5.E::aG 9 K f9 g0 q.L::aG 46 K g1 g2 q.E::box p5 27 (zC a5 k7 k8 k9 l0)::box f6 27 (zC q f9 g0 g1 g2)::L) b51)=>(aJ (aB ⟨tD rfl,?_⟩)))
      exact cO (by kernel_rfl) (aB ⟨bW,q.N,q.I,q.L,q.E,a5.N,a5.I,a5.L,a5.E,f6,f9,g0,g1,g2,p5,k7,k8,k9,l0,hm,rfl,rfl,(aD.arr 7 [3,2,6,5,4] b52 rfl)⟩)
    ·refine aX (vs:=p) zeroValue27 f2 rfl (fun f7 c50 p6=>(aJ (aB ⟨fun _=>⟨_,p6⟩,?_⟩)))
     refine fR (i:=2) (j:=6) (by kernel_rfl) rfl rfl ?_ ?_
     ·obtain ⟨e,b53,hm⟩:=aC hm
      refine aQ (vs:=h0) call17 rfl (aY b53 p6 u (h3.mono (zL c b)) (h6.mono (zL c b)) (b0.mono (zL c b))) ?_
      rintro _ c52 ⟨d1,d2,d3,d4,rfl,p7⟩
      refine aJ (aB ⟨fun _=>⟨_,p7⟩,?_⟩)
      refine fR (i:=5) (j:=6) (by kernel_rfl) rfl rfl ?_ ?_
      ·obtain ⟨a6,b54,hm⟩:=aC hm
       refine aQ (vs:=e4) call17 rfl (aY b54 p7 u (h9.mono (zL c b)) (e3.mono (zL c b)) (b0.mono (zL c b))) ?_
       rintro _ c53 ⟨l1,l2,l3,l4,rfl,v9⟩
       refine aJ (aB ⟨fun _=>⟨_,v9⟩,?_⟩)
       refine aU (i:=6) (by kernel_rfl) rfl (aX (vs:=p) zeroValue27 v9 rfl (fun p8 c55 w0=>(aJ (aB ⟨fun _=>⟨_,w0⟩,?_⟩))))
       refine aU (i:=8) (by kernel_rfl) rfl (bH (i:=0) (ns:=(zC e d1 d2 d3 d4)) (us:=(zC e d1 d2 d3 d4)) sizeOf27 w0 rfl rfl rfl rfl rfl (cK rfl) rfl rfl (fun b55 (w1:aD G e1 (box p8 27 (zC e d1 d2 d3 d4)::aG 9 K l1 l2 a6.L::aG 46 K l3 l4 a6.E::aG 9 K d1 d2 e.L::aG 46 K d3 d4 e.E::box f7 27 p::L) b55)=>(aJ (aB ⟨fun _=>⟨_,w1⟩,?_⟩))))
       refine aU (i:=9) (by kernel_rfl) rfl ?_
       have b56:=e6 _ _ w1
       have b57:=e5 _ _ b56
       refine bH (i:=7) (ns:=(zC a6 l1 l2 l3 l4)) (us:=(zC a6 l1 l2 l3 l4)) sizeOf27 b57 rfl rfl rfl rfl rfl (cK rfl) rfl rfl (fun b58 (b59:aD G K (box d6 27 b6::box d5 27 b7::box p8 27 (zC e d1 d2 d3 d4)::aG 9 K l1 l2 a6.L::aG 46 K l3 l4 a6.E::aG 9 K d1 d2 e.L::aG 46 K d3 d4 e.E::box f7 27 (zC a6 l1 l2 l3 l4)::L) b58)=>(aJ (aB ⟨tD rfl,?_⟩)))
       exact cO (by kernel_rfl) (aB ⟨bW,e.N,e.I,e.L,e.E,a6.N,a6.I,a6.L,a6.E,p8,d1,d2,d3,d4,f7,l1,l2,l3,l4,hm,rfl,rfl,(aD.arr 8 [4,3,7,6,5,2] b59 rfl)⟩)
      ·refine aX (vs:=p) zeroValue27 p7 rfl (fun p9 c56 w2=>(aJ (aB ⟨fun _=>⟨_,w2⟩,?_⟩)))
       refine aU (i:=5) (by kernel_rfl) rfl ?_;obtain ⟨a8,b60,hm⟩:=aC hm
       refine aQ (vs:=e4) call17 rfl (aY b60 w2 u (h9.mono (zL c b)) (e3.mono (zL c b)) (b0.mono (zL c b))) ?_
       rintro _ c57 ⟨l5,l6,l7,l8,rfl,w3⟩
       refine aJ (aB ⟨fun _=>⟨_,w3⟩,?_⟩)
       refine aU (i:=8) (by kernel_rfl) rfl (bH (i:=2) (ns:=(zC e d1 d2 d3 d4)) (us:=(zC e d1 d2 d3 d4)) sizeOf27 w3 rfl rfl rfl rfl rfl (cK rfl) rfl rfl (fun b61 (w4:aD G e1 (aG 9 K l5 l6 a8.L::aG 46 K l7 l8 a8.E::box p9 27 (zC e d1 d2 d3 d4)::aG 9 K d1 d2 e.L::aG 46 K d3 d4 e.E::box f7 27 p::L) b61)=>(aJ (aB ⟨fun _=>⟨_,w4⟩,?_⟩))))
       refine aU (i:=9) (by kernel_rfl) rfl ?_
       have b62:=e6 _ _ w4
       have b63:=e5 _ _ b62
       refine bH (i:=7) (ns:=(zC a8 l5 l6 l7 l8)) (us:=(zC a8 l5 l6 l7 l8)) sizeOf27 b63 rfl rfl rfl rfl rfl (cK rfl) rfl rfl (fun b64 (b65:aD G K (box d6 27 b6::box d5 27 b7::aG 9 K l5 l6 a8.L::aG 46 K l7 l8 a8.E::box p9 27 (zC e d1 d2 d3 d4)::aG 9 K d1 d2 e.L::aG 46 K d3 d4 e.E::box f7 27 (zC a8 l5 l6 l7 l8)::L) b64)=>(aJ (aB ⟨tD rfl,?_⟩)))
       exact cO (by kernel_rfl) (aB ⟨bW,e.N,e.I,e.L,e.E,a8.N,a8.I,a8.L,a8.E,p9,d1,d2,d3,d4,f7,l5,l6,l7,l8,hm,rfl,rfl,(aD.arr 8 [3,2,7,6,5,4] b65 rfl)⟩)
     ·refine aX (vs:=p) zeroValue27 p6 rfl (fun q0 c58 w5=>(aJ (aB ⟨fun _=>⟨_,w5⟩,?_⟩)))
      refine aU (i:=2) (by kernel_rfl) rfl ?_;obtain ⟨r,b66,hm⟩:=aC hm
      refine aQ (vs:=h0) call17 rfl (aY b66 w5 u (h3.mono (zL c b)) (h6.mono (zL c b)) (b0.mono (zL c b))) ?_
      rintro _ c59 ⟨g3,g4,g5,g6,rfl,w6⟩
      refine aJ (aB ⟨fun _=>⟨_,w6⟩,?_⟩)
      refine aU (i:=5) (by kernel_rfl) rfl ?_;obtain ⟨a9,b67,hm⟩:=aC hm
      refine aQ (vs:=e4) call17 rfl (aY b67 w6 u (h9.mono (zL c b)) (e3.mono (zL c b)) (b0.mono (zL c b))) ?_
      rintro _ c60 ⟨l9,m0,m1,m2,rfl,w7⟩
      refine aJ (aB ⟨fun _=>⟨_,w7⟩,?_⟩)
      refine aU (i:=8) (by kernel_rfl) rfl (bH (i:=4) (ns:=(zC r g3 g4 g5 g6)) (us:=(zC r g3 g4 g5 g6)) sizeOf27 w7 rfl rfl rfl rfl rfl (cK rfl) rfl rfl (fun b68 (w8:aD G e1 (aG 9 K l9 m0 a9.L::aG 46 K m1 m2 a9.E::aG 9 K g3 g4 r.L::aG 46 K g5 g6 r.E::box q0 27 (zC r g3 g4 g5 g6)::box f7 27 p::L) b68)=>(aJ (aB ⟨fun _=>⟨_,w8⟩,?_⟩))))
      refine aU (i:=9) (by kernel_rfl) rfl ?_
      have b69:=e6 _ _ w8
      have b70:=e5 _ _ b69
      refine bH (i:=7) (ns:=(zC a9 l9 m0 m1 m2)) (us:=(zC a9 l9 m0 m1 m2)) sizeOf27 b70 rfl rfl rfl rfl rfl (cK rfl) rfl rfl (fun b71 (b72:aD G K (box d6 27 b6::box d5 27 b7::aG 9 K l9 m0 a9.L::aG 46 K m1 m2 a9.E::aG 9 K g3 g4 r.L::aG 46 K g5 g6 r.E::box q0 27 (zC r g3 g4 g5 g6)::box f7 27 (zC a9 l9 m0 m1 m2)::L) b71)=>(aJ (aB ⟨tD rfl,?_⟩)))
      exact cO (by kernel_rfl) (aB ⟨bW,r.N,r.I,r.L,r.E,a9.N,a9.I,a9.L,a9.E,q0,g3,g4,g5,g6,f7,l9,m0,m1,m2,hm,rfl,rfl,(aD.arr 8 [3,2,7,5,4,6] b72 rfl)⟩)
 refine aZ (aH (gE (us:=b7) cW q3 (i:=1) rfl rfl rfl rfl) (aL (v:=zS a13 c4.length c14) ?_));obtain ⟨b73,b74,hm⟩:=aC hm
 refine aQ (vs:=h0) call15 rfl (kP b74 q3 u h3 h6 b0) ?_
 rintro _ c61 ⟨rfl,q1⟩
 refine aH (rA rfl) (aL (v:=zB (!b73)) ?_)
 rcases aN hm with ⟨f3,hm⟩|⟨f3,hm⟩
 ·exact aAU f3 rfl rfl (aAU f3 rfl rfl (aAU f3 rfl rfl (aAU f3 rfl rfl (aH (aAT (v:=zB true) f3 rfl rfl) (aI (v:=zB true) (aK ⟨bW,true,hm,rfl,q1⟩))))))
 ·refine eB f3 rfl rfl (aH (gE (us:=b6) cW q1 (i:=0) rfl rfl rfl rfl) (eB f3 rfl rfl (aL (v:=zS a13 c4.length c14) (eB f3 rfl rfl ?_))));obtain ⟨q2,b75,hm⟩:=aC hm
  refine aQ (vs:=e4) call15 rfl (kP b75 q1 u h9 e3 b0) ?_
  rintro _ c62 ⟨rfl,b76⟩
  exact eB f3 rfl rfl (aH (rA rfl) (aH (vR (v:=zB (!q2)) f3 rfl rfl) (aI (v:=zB (!q2)) (aK ⟨bW,!q2,hm,rfl,b76⟩))))
theorem aEy {t:bF} {n:Int} {R:(bF × Int)} (hm:aDL t n=some R) (e:aD G K (L) w) (g:G.lo=0) (h:bS K a1 c2 t.L) (i:bS K a4 c5 t.E):
  Calls prog 68 ([zA (zCa t a1 c2 a4 c5),i64 n]:List Value).toArray w (eR fun v w'=>∃ a b c d,v=zT #[zA (zCa R.1 a b c d),i64 R.2]/\aD G K (aG 9 K a b R.1.L::aG 46 K c d R.1.E::L) w'):=by
 exact aP
theorem aFw {t:bF} {n:Int} {R:((List (List aF)) × Int)} (hm:aAC t n=some R) (hs:aD G K (L) w) (hG:G.lo=0) (h3:bS K a1 c2 t.L) (h6:bS K a4 c5 t.E):
  Calls prog 28 ([zA (zCa t a1 c2 a4 c5),i64 n]:List Value).toArray w (eR fun v w'=>∃ K' j7 j8,v=zT #[zS j7 R.1.length j8,i64 R.2]/\Hp.le K K'/\aD G K' (aG 24 K' j7 j8 R.1::L) w'):=by
 let c0:=(zC t a1 c2 a4 c5)
 let f2:=[i64 0,i64 0,zS none 0 0]
 refine aR func28 rfl (by kernel_rfl) (by show (2:Nat)<=90;decide) ?_;unfold aAC at hm
 refine aO (fL (v:=zA (zCa t a1 c2 a4 c5)) (vs:=c0) hs rfl rfl (fun b7 w8 j9=>(aI (v:=zS none 0 0) (aI (v:=i64 0) (aK (aO (aH (gE (us:=c0) cW j9 (i:=0) rfl rfl rfl rfl) (aL (v:=i64 n) ?_))))))));obtain ⟨c,n6,hm⟩:=aC hm
 refine aQ (vs:=[zA (zCa t a1 c2 a4 c5),i64 n]) call68 rfl (aEy n6 j9 hG h3 h6) ?_
 rintro _ w2 ⟨a8,a9,a3,a5,rfl,n7⟩
 refine aL (v:=zT #[zA (zCa c.1 a8 a9 a3 a5),i64 c.2]) (aH (bD rfl rfl) (aH (bD rfl rfl) (aX (vs:=zG) zeroValue27 n7 rfl (fun g8 w3 n8=>(bH (i:=0) (ns:=(zC c.1 a8 a9 a3 a5)) (us:=(zC c.1 a8 a9 a3 a5)) sizeOf27 n8 rfl rfl rfl rfl rfl (cK rfl) rfl rfl (fun f3 (n9:aD G K (box g8 27 (zC c.1 a8 a9 a3 a5)::aG 9 K a8 a9 c.1.L::aG 46 K a3 a5 c.1.E::box b7 27 c0::L) f3)=>?_))))));obtain ⟨o0,b2,g9,h0⟩:=aD.giveSp n9 (zR _) zt1
 replace h0:aD G o0 (box g8 27 (zC c.1 a8 a9 a3 a5)::aG 46 K a3 a5 c.1.E::box b7 27 c0::L) f3:=h0
 obtain ⟨o1,a6,o2,h1⟩:=aD.giveSp h0 b2 zt1
 replace h1:aD G o1 (box g8 27 (zC c.1 a8 a9 a3 a5)::box b7 27 c0::L) f3:=h1
 obtain ⟨d1,a0,h2,h4,_⟩:=aD.lendBp h1 .head
 replace h4:aD G d1 (box b7 27 c0::L) f3:=h4
 refine aI (v:=i64 c.2) (aK (aM (aO (aL (v:=i64 c.2) (aH (aFE rfl rfl) (aK ?_))))))
 rcases aN hm with ⟨k0,hm⟩|⟨k0,hm⟩
 ·exact aP
 ·refine aW k0 rfl (bB (aB (aO (aH (fF (vs:=[(0,i64 0)]) (cs:=f2) aDx rfl (by kernel_rfl)) (bL (Kt:=d1) (xs:=([⟨0,0,[]⟩]:List aS)) (cs:=f2) (vs:=[(0,zA #[i64 0,i64 0,zS none 0 0])]) lM sI rfl rfl h4 rfl (by kernel_rfl) rfl rfl rfl ⟨⟨none,0,rfl,uG _⟩,trivial⟩ (fun k1 o3 (w4:aD G d1 (aG 93 d1 k1 1 ([⟨0,0,[]⟩]:List aS)::box b7 27 c0::L) o3)=>(aI (v:=zS k1 ([⟨0,0,[]⟩]:List aS).length 1) (aK (aM (aO (aI (v:=i64 0) (aK (aV [] (fun f w=>∃ Z a2 b3 c45,Hp.le d1 Z/\aAQ a2=some R/\f 8=zS b3 a2.length c45/\aD G Z (aG 93 Z b3 c45 a2::L) w) ?_ ?_)))))))))))))
  ·rintro f w5 ⟨Z,a2,b3,c45,o4,hm,k2,o5⟩
   unfold aAQ at hm
   refine aB (aM (aO (bC k2 (aH (bI (len:=a2.length) lM rfl) (aH (sZ rfl rfl) (aK ?_))))))
   rcases aN hm with ⟨k3,hm⟩|⟨k3,hm⟩
   ·exact aP
   ·refine aW k3 rfl (bB (aB (aO (aI (v:=zS none 0 0) (aK (aM (aO (bC k2 (aH (bI (len:=a2.length) lM rfl) (aL (v:=i64 0) (aK (aV [] (fun f w=>∃ e4 e5 e6 e7,Hp.le Z e4/\aDZ e5=some R/\f 13=zS e6 e5.length e7/\aD G e4 (aG 24 e4 e6 e7 e5::L) w) ?_ ?_))))))))))))
    ·rintro f w6 ⟨e4,e5,e6,e7,o6,hm,o7,o8⟩
     unfold aDZ at hm
     refine aB (aO (bC o7 (aI (v:=zS e6 e5.length e7) (aI (v:=i64 0) (aK ?_)))));obtain rfl:=zI hm
     exact kX (aGX results28 rfl rfl ⟨e4,e6,e7,rfl,(zL (zL (zL (zL b2 a6) a0) o4) o6),o8⟩)
    have w7:=aD.nil (α:=(List aF)) o5 24 Z
    obtain ⟨w9,p0,ho⟩:=aC hm
    refine cZ [77,78] p0 (fun d2 h5 f w=>∃ b4 d3 d4,Hp.le Z b4/\f 13=zS d3 d2.length d4/\f 79=i64 h5/\aD G b4 (aG 24 b4 d3 d4 d2::aG 93 Z b3 c45 a2::L) w) aP ?_
    ·rintro d2 h5 x0 f x1 hm hr ⟨b4,d3,d4,k4,p1,h7,h8⟩
     unfold mK at hm
     refine aO (aH (cQ h7 rfl) (aK (aM ?_)))
     rcases aN hm with ⟨k5,hm⟩|⟨k5,hm⟩
     ·refine aT k5 rfl (bB (aB (aM (cS (aO ?_)))));obtain ⟨m,h9,hm⟩:=aC hm
      have p2:=dM h8 (i:=1) rfl h9
      refine aH (fQ lM rfl p2 rfl rfl h7 h9) ?_;obtain ⟨x2,p3,p4⟩:=aJP (sz:=3) rfl h8 (i:=1) rfl h9
      obtain ⟨c1,c3,rfl,p5⟩:=p4
      refine aH (aMs (t:=0) (vs:=[i64 m.a,i64 m.b,zS c1 m.trace.length c3]) ag_93 p3 rfl rfl rfl) (aX (vs:=f2) zeroValue93 h8 rfl (fun p6 x3 p7=>(bH (i:=0) (ns:=[i64 m.a,i64 m.b,zS c1 m.trace.length c3]) (us:=[i64 m.a,i64 m.b,zS c1 m.trace.length c3]) sizeOf93 p7 rfl rfl rfl rfl rfl (cK rfl) rfl rfl (fun k6 (p8:aD G b4 (box p6 93 [i64 m.a,i64 m.b,zS c1 m.trace.length c3]::aG 24 b4 d3 d4 d2::aG 93 Z b3 c45 a2::L) k6)=>?_))))
      obtain ⟨b5,i0,k7,f4,_⟩:=aD.lendBp p8 .head
      replace f4:aD G b5 (aG 24 b4 d3 d4 d2::aG 93 Z b3 c45 a2::L) k6:=f4
      refine aK (aZ (bC p1 (aH (cH (k':=0+2) aDy (eY rfl) k7 rfl) (aH (bG (t:=2) gY f4 k7 rfl rfl) (bL (Kt:=b5) (xs:=([m.trace]:List (List aF))) (cs:=[zS c1 m.trace.length c3]) (vs:=[(0,zS c1 m.trace.length c3)]) sH aFK rfl rfl f4 rfl (by kernel_rfl) rfl rfl rfl ⟨⟨c1,c3,rfl,(p5.mono (zL k4 i0))⟩,trivial⟩ (fun p9 q0 (q1:aD G b5 (aG 24 b5 p9 1 ([m.trace]:List (List aF))::aG 24 b4 d3 d4 d2::aG 93 Z b3 c45 a2::L) q0)=>?_))))))
      obtain ⟨k8,q2,hm⟩:=aC hm
      exact wN (i:=0) b5 sH underlying34 aFK rfl rfl q1 rfl i0 (zR _) q2 rfl rfl rfl rfl (fun _ _ _ h=>El.one h) (fun i1 i2 q3 (q4:aD G b5 (aG 24 b5 i1 i2 k8::aG 93 Z b3 c45 a2::L) q3)=>(aI (v:=zS i1 k8.length i2) (aJ (cT (aB (aZ (aH (eP h7 rfl) (aL (v:=i64 (wr (h5+1))) (aK ⟨_,(zI hm).symm,bW,b5,i1,i2,(zL k4 i0),rfl,rfl,q4⟩)))))))))
     ·exact aP
  obtain ⟨x4,q5,ho⟩:=aC hm
  refine cZ [1,6] q5 (fun b0 d5 f w=>∃ a7 b6 b8,Hp.le d1 a7/\f 8=zS b6 b0.length b8/\f 9=i64 d5/\aD G a7 (aG 93 a7 b6 b8 b0::L) w) aP ?_
  ·rintro b0 d5 i3 f x5 hm hr ⟨a7,b6,b8,x,q6,k9,x6⟩
   unfold jQ at hm
   refine aM (aM (bR [1,6,8,9] (fun f w=>∃ i4,oQ n c b0 d5 i4=some i3/\f 35=zB i4/\aD G a7 (aG 93 a7 b6 b8 b0::L) w) ?_ ?_))
   ·rintro f x7 ⟨i4,hm,q7,i5⟩
    unfold oQ at hm
    refine aB ?_
    rcases aN hm with ⟨l0,hm⟩|⟨l0,hm⟩
    ·refine aT l0 q7 (bB (aB (aM (aV [1,6,9] (fun f w=>∃ e8 f5 f6 f7,Hp.le a7 e8/\rX d5 f5=some i3/\f 8=zS f6 f5.length f7/\aD G e8 (aG 93 e8 f6 f7 f5::L) w) ?_ ?_))))
     ·rintro f x8 ⟨e8,f5,f6,f7,q8,hm,q9,r0⟩
      unfold rX at hm
      exact aB (aZ (bC k9 (aH (eP rfl rfl) (aI (v:=i64 (wr (d5+1))) (aK ⟨_,(zI hm).symm,bW,e8,f6,f7,(zL x q8),q9,rfl,r0⟩)))))
     refine aO (bC q6 (bC k9 ?_));obtain ⟨o,i6,hm⟩:=aC hm
     have r1:=dM i5 (i:=0) rfl i6
     refine aH (fQ lM rfl r1 rfl rfl rfl i6) ?_;obtain ⟨x9,r2,r3⟩:=aJP (sz:=3) rfl i5 (i:=0) rfl i6
     obtain ⟨d6,d7,rfl,l1⟩:=r3
     refine aH (aMs (t:=0) (vs:=[i64 o.a,i64 o.b,zS d6 o.trace.length d7]) ag_93 r2 rfl rfl rfl) (aX (vs:=f2) zeroValue93 i5 rfl (fun r4 y0 r5=>(bH (i:=0) (ns:=[i64 o.a,i64 o.b,zS d6 o.trace.length d7]) (us:=[i64 o.a,i64 o.b,zS d6 o.trace.length d7]) sizeOf93 r5 rfl rfl rfl rfl rfl (cK rfl) rfl rfl (fun i7 (r6:aD G a7 (box r4 93 [i64 o.a,i64 o.b,zS d6 o.trace.length d7]::aG 93 a7 b6 b8 b0::L) i7)=>?_))))
     obtain ⟨c4,g,d8,c6,_⟩:=aD.lendBp r6 .head
     replace c6:aD G c4 (aG 93 a7 b6 b8 b0::L) i7:=c6
     refine aK (aM (aO (aH (cH (k':=0+2) aDy (eY rfl) d8 rfl) (aH (bG (t:=2) gY c6 d8 rfl rfl) (aH (bI (len:=o.trace.length) bE rfl) (aL (v:=i64 n) (aH (nW rfl rfl) (aK ?_))))))))
     rcases aN hm with ⟨i8,hm⟩|⟨i8,hm⟩
     ·refine aT i8 rfl ?_
      have y1:aD G c4 (aG 93 c4 b6 b8 b0::L) i7:=aD.weak (i:=0) c6 rfl (fun _ h=>aG.mono g h)
      exact aP
     ·refine aW i8 rfl (bB (aB (aO (aH (eJ (t:=0) (vs:=(zC c.1 a8 a9 a3 a5)) cW c6 (h2.mono (zL x g)) (eY rfl) rfl rfl) (aH (cH (k':=0+0) sJ (eY rfl) d8 rfl) (aH (bG (t:=0) fK c6 d8 rfl rfl) ?_))))));obtain ⟨k,r7,hm⟩:=aC hm
      refine aQ (vs:=[zA (zCa c.1 a8 a9 a3 a5),i64 o.a]) call69 rfl (aDh r7 c6 (g9.mono (zL (zL (zL a6 a0) x) g)) (o2.mono (zL (zL a0 x) g))) ?_
      rintro _ r8 ⟨p,q,rfl,r9⟩
      refine aH (bI (len:=k.length) cM rfl) (aL (v:=i64 0) (aK (aV [1,6,9] (fun f w=>∃ e9 f0 f8 f9,Hp.le c4 e9/\aEa d5 f0=some i3/\f 8=zS f8 f0.length f9/\aD G e9 (aG 93 e9 f8 f9 f0::L) w) ?_ ?_)))
      ·rintro f y2 ⟨e9,f0,f8,f9,s0,hm,s1,s2⟩
       unfold aEa at hm
       exact cT (aB ⟨bW,e9,f0,f8,f9,(zL g s0),hm,s1,s2⟩)
      have y3:aD G c4 (aG 46 K p q k::aG 93 c4 b6 b8 b0::L) r8:=aD.weak (i:=1) r9 rfl (fun _ h=>aG.mono g h)
      obtain ⟨y4,s3,ho⟩:=aC hm
      refine cZ [1,6,9,10,50,51] s3 (fun y g0 f w=>∃ r z V,Hp.le c4 r/\f 8=zS z y.length V/\f 52=i64 g0/\aD G r (aG 46 K p q k::aG 93 r z V y::L) w) aP ?_
      ·rintro y g0 s4 f y5 hm hr ⟨r,z,V,u,s5,i9,j0⟩
       unfold mL at hm
       refine aO (aH (cQ i9 rfl) (aK (aM ?_)))
       rcases aN hm with ⟨l2,hm⟩|⟨l2,hm⟩
       ·refine aT l2 rfl (bB (aB (aM (cS (aO ?_)))));obtain ⟨d,j1,hm⟩:=aC hm
        have s6:=dM j0 (i:=0) rfl j1
        refine aH (fQ cM rfl s6 rfl rfl i9 j1) (aH (aCs (t:=0) (vs:=[i64 d.F,i64 d.B,i64 d.To]) tE j0 (i:=0) rfl j1 rfl rfl rfl rfl) (aX (vs:=[i64 0,i64 0,i64 0]) zeroValue46 j0 rfl (fun s7 y6 s8=>(bH (i:=0) (ns:=[i64 d.F,i64 d.B,i64 d.To]) (us:=[i64 d.F,i64 d.B,i64 d.To]) sizeOf46 s8 rfl rfl rfl rfl rfl (cK rfl) rfl rfl (fun l3 (s9:aD G r (box s7 46 [i64 d.F,i64 d.B,i64 d.To]::aG 46 K p q k::aG 93 r z V y::L) l3)=>?_)))))
        obtain ⟨b9,l,g1,j2,_⟩:=aD.lendBp s9 .head
        replace j2:aD G b9 (aG 46 K p q k::aG 93 r z V y::L) l3:=j2
        refine aK (bR [1,6,9,10,50,51,52] (fun f w=>∃ f1 g2 g3 g4,Hp.le b9 f1/\aAR g0 g2=some s4/\f 8=zS g3 g2.length g4/\aD G f1 (aG 93 f1 g3 g4 g2::aG 46 K p q k::L) w) ?_ ?_)
        ·rintro f y7 ⟨f1,g2,g3,g4,t0,hm,t1,t2⟩
         unfold aAR at hm
         exact cT (aB (aZ (aH (eP i9 rfl) (aL (v:=i64 (wr (g0+1))) (aK ⟨_,(zI hm).symm,bW,f1,g3,g4,(zL (zL u l) t0),t1,rfl,(aD.arr 2 [1,0] t2 rfl)⟩)))))
        refine mM (C:=fun w'=>∃ L',aD G b9 L' w') [] Tryz_mixed (by kernel_rfl) (fun y8 t3=>?_)
        have e:=aD.mono j2 t3
        refine cI (i:=0) rfl (by kernel_rfl) ⟨_,e⟩ (fun _ _=>bJ s5) (cI (i:=1) rfl (by kernel_rfl) ⟨_,e⟩ (fun _ _=>cH (k':=0+2) aBM (eY rfl) g1 rfl) (cI (i:=2) rfl (by kernel_rfl) ⟨_,e⟩ (fun _ ⟨_,e⟩=>bG (t:=2) fK e g1 rfl rfl) (cI (i:=3) rfl (by kernel_rfl) ⟨_,e⟩ (fun _ _=>cH (k':=0+2) aDy (eY rfl) (d8.mono (zL u l)) rfl) (cI (i:=4) rfl (by kernel_rfl) ⟨_,e⟩ (fun _ ⟨_,e⟩=>bG (t:=2) gY e (d8.mono (zL u l)) rfl rfl) (cI (i:=6) rfl (by kernel_rfl) ⟨_,e⟩ (fun _ _=>cH (k':=0+2) fT (eY rfl) (h2.mono (zL (zL (zL x g) u) l)) rfl) (cI (i:=7) rfl (by kernel_rfl) ⟨_,e⟩ (fun _ ⟨_,e⟩=>bG (t:=2) gY e (h2.mono (zL (zL (zL x g) u) l)) rfl rfl) (cI (i:=8) rfl (by kernel_rfl) ⟨_,e⟩ (fun _ _=>cH (k':=0+1) aAG (eY rfl) g1 rfl) (cI (i:=9) rfl (by kernel_rfl) ⟨_,e⟩ (fun _ ⟨_,e⟩=>bG (t:=1) fK e g1 rfl rfl) ?_))))))))
        obtain ⟨b1,l4,hm⟩:=aC hm
        refine cI (i:=10) rfl (by kernel_rfl) ⟨_,e⟩ (fun _ _=>jF bE rfl (g9.mono (zL (zL (zL (zL (zL a6 a0) x) g) u) l)) rfl rfl rfl l4) ?_;obtain ⟨y9,t4,t5⟩:=bS.el (sz:=1) rfl g9 l4
        cases t5
        refine cI (i:=11) rfl (by kernel_rfl) ⟨_,e⟩ (fun _ ⟨_,e⟩=>bG (t:=0) xB e (t4.mono (zL (zL (zL (zL (zL a6 a0) x) g) u) l)) rfl rfl) (fR (i:=5) (j:=12) (by kernel_rfl) rfl rfl ?_ ?_)
        ·obtain ⟨t6,t7,hm⟩:=aC hm
         refine aQ (vs:=[zS d6 o.trace.length d7]) call30 rfl (bA t7 e (l1.mono (zL (zL g u) l))) ?_
         rintro _ z0 ⟨t8,t9,rfl,l5⟩
         refine aJ (aB ⟨fun _=>⟨_,l5⟩,?_⟩)
         refine aU (i:=12) (by kernel_rfl) rfl (bL (Kt:=K) (xs:=([b1]:List aF)) (cs:=[str b1]) (vs:=[(0,str b1)]) bE iW rfl rfl l5 rfl (by kernel_rfl) rfl rfl rfl ⟨rfl,trivial⟩ (fun u0 u1 (l6:aD G b9 (aG 9 K u0 1 ([b1]:List aF)::aG 9 K t8 t9 t6::aG 46 K p q k::aG 93 r z V y::L) u1)=>(aJ (aB ⟨fun _=>⟨_,l6⟩,?_⟩))))
         refine aU (i:=13) (by kernel_rfl) rfl ?_;obtain ⟨c7,u2,hm⟩:=aC hm
         refine eX (i:=0) bE underlying24 iW rfl rfl l6 rfl (zL (zL (zL (zL (zL (zL b2 a6) a0) x) g) u) l) (zL (zL (zL (zL (zL (zL b2 a6) a0) x) g) u) l) u2 rfl rfl rfl rfl (fun _ h=>h) (fun d9 e0 l7 (j3:aD G b9 (aG 9 K d9 e0 c7::aG 46 K p q k::aG 93 r z V y::L) l7)=>(aJ (aB ⟨fun _=>⟨_,j3⟩,?_⟩)))
         refine cI (i:=14) rfl (by kernel_rfl) ⟨_,j3⟩ (fun _ _=>fF (vs:=[(0,i64 d.To),(2,zS d9 c7.length e0)]) (cs:=[i64 d.To,i64 0,zS d9 c7.length e0]) aDx rfl (by kernel_rfl)) (aU (i:=15) (by kernel_rfl) rfl ?_);obtain ⟨c8,g5,u3,j4⟩:=aD.giveSp j3 (zL (zL (zL (zL (zL (zL b2 a6) a0) x) g) u) l) .head
         replace j4:aD G c8 (aG 46 K p q k::aG 93 r z V y::L) l7:=j4
         refine bL (Kt:=c8) (xs:=([⟨d.To,0,c7⟩]:List aS)) (cs:=[i64 d.To,i64 0,zS d9 c7.length e0]) (vs:=[(0,zA #[i64 d.To,i64 0,zS d9 c7.length e0])]) lM sI rfl rfl j4 rfl (by kernel_rfl) rfl rfl rfl ⟨⟨d9,e0,rfl,u3⟩,trivial⟩ (fun u4 u5 (l8:aD G c8 (aG 93 c8 u4 1 ([⟨d.To,0,c7⟩]:List aS)::aG 46 K p q k::aG 93 r z V y::L) u5)=>(aJ (aB ⟨fun _=>⟨_,(aD.weakK l8 g5)⟩,?_⟩)))
         refine aU (i:=16) (by kernel_rfl) rfl ?_;obtain ⟨l9,u6,hm⟩:=aC hm
         refine wN (i:=1) c8 lM underlying94 sI rfl rfl l8 rfl (zL l g5) (zR _) u6 rfl rfl rfl rfl (fun _ _ _ h=>El.one h) (fun m0 m1 u7 (m2:aD G c8 (aG 46 K p q k::aG 93 c8 m0 m1 l9::L) u7)=>(aJ (aB ⟨fun _=>⟨_,(aD.weakK m2 g5)⟩,?_⟩)))
         exact cI (i:=17) rfl (by kernel_rfl) ⟨_,(aD.weakK m2 g5)⟩ (fun _ _=>cU (v:=zS m0 l9.length m1) rfl) (cO (by kernel_rfl) aP)
        ·refine bL (Kt:=K) (xs:=([b1]:List aF)) (cs:=[str b1]) (vs:=[(0,str b1)]) bE iW rfl rfl e rfl (by kernel_rfl) rfl rfl rfl ⟨rfl,trivial⟩ (fun m3 u8 (m4:aD G b9 (aG 9 K m3 1 ([b1]:List aF)::aG 46 K p q k::aG 93 r z V y::L) u8)=>(aJ (aB ⟨fun _=>⟨_,m4⟩,?_⟩)))
         refine aU (i:=5) (by kernel_rfl) rfl ?_;obtain ⟨u9,v0,hm⟩:=aC hm
         refine aQ (vs:=[zS d6 o.trace.length d7]) call30 rfl (bA v0 m4 (l1.mono (zL (zL g u) l))) ?_
         rintro _ v1 ⟨v2,v3,rfl,m5⟩
         refine aJ (aB ⟨fun _=>⟨_,m5⟩,?_⟩)
         refine aU (i:=13) (by kernel_rfl) rfl ?_;obtain ⟨c9,v4,hm⟩:=aC hm
         have v5:aD G b9 (aG 9 K m3 1 ([b1]:List aF)::aG 9 K v2 v3 u9::aG 46 K p q k::aG 93 r z V y::L) v1:=(aD.arr 2 [1,0] m5 rfl)
         refine eX (i:=0) bE underlying24 iW rfl rfl v5 rfl (zL (zL (zL (zL (zL (zL b2 a6) a0) x) g) u) l) (zL (zL (zL (zL (zL (zL b2 a6) a0) x) g) u) l) v4 rfl rfl rfl rfl (fun _ h=>h) (fun e1 e2 m6 (j5:aD G b9 (aG 9 K e1 e2 c9::aG 46 K p q k::aG 93 r z V y::L) m6)=>(aJ (aB ⟨fun _=>⟨_,j5⟩,?_⟩)))
         refine cI (i:=14) rfl (by kernel_rfl) ⟨_,j5⟩ (fun _ _=>fF (vs:=[(0,i64 d.To),(2,zS e1 c9.length e2)]) (cs:=[i64 d.To,i64 0,zS e1 c9.length e2]) aDx rfl (by kernel_rfl)) (aU (i:=15) (by kernel_rfl) rfl ?_);obtain ⟨d0,g6,v6,j6⟩:=aD.giveSp j5 (zL (zL (zL (zL (zL (zL b2 a6) a0) x) g) u) l) .head
         replace j6:aD G d0 (aG 46 K p q k::aG 93 r z V y::L) m6:=j6
         refine bL (Kt:=d0) (xs:=([⟨d.To,0,c9⟩]:List aS)) (cs:=[i64 d.To,i64 0,zS e1 c9.length e2]) (vs:=[(0,zA #[i64 d.To,i64 0,zS e1 c9.length e2])]) lM sI rfl rfl j6 rfl (by kernel_rfl) rfl rfl rfl ⟨⟨e1,e2,rfl,v6⟩,trivial⟩ (fun v7 v8 (m7:aD G d0 (aG 93 d0 v7 1 ([⟨d.To,0,c9⟩]:List aS)::aG 46 K p q k::aG 93 r z V y::L) v8)=>(aJ (aB ⟨fun _=>⟨_,(aD.weakK m7 g6)⟩,?_⟩)))
         refine aU (i:=16) (by kernel_rfl) rfl ?_;obtain ⟨m8,v9,hm⟩:=aC hm
         refine wN (i:=1) d0 lM underlying94 sI rfl rfl m7 rfl (zL l g6) (zR _) v9 rfl rfl rfl rfl (fun _ _ _ h=>El.one h) (fun m9 n0 w0 (n1:aD G d0 (aG 46 K p q k::aG 93 d0 m9 n0 m8::L) w0)=>(aJ (aB ⟨fun _=>⟨_,(aD.weakK n1 g6)⟩,?_⟩)))
         exact cI (i:=17) rfl (by kernel_rfl) ⟨_,(aD.weakK n1 g6)⟩ (fun _ _=>cU (v:=zS m9 m8.length n0) rfl) (cO (by kernel_rfl) aP)
       ·exact aP
    ·exact aP
   exact aP
theorem aGe {spec:bF} {b:(List aF)} {n:Int} {R:((List (List aF)) × Int)} (hm:aCi spec b n=some R) (hs:aD G K (L) w) (j:G.lo=0) (l:bS K a1 c2 spec.L) (m:bS K a4 c5 spec.E) (o:bS K a7 c8 b):
  Calls prog 9 ([zA (zCa spec a1 c2 a4 c5),zS a7 b.length c8,i64 n]:List Value).toArray w (eR fun v w'=>∃ k p q,v=zT #[zS p R.1.length q,i64 R.2]/\Hp.le K k/\aD G k (aG 24 k p q R.1::L) w'):=by
 let h:=(zC spec a1 c2 a4 c5)
 let r:=[zA (zCa spec a1 c2 a4 c5),zS a7 b.length c8]
 refine aR func9 rfl (by kernel_rfl) (by show (3:Nat)<=33;decide) ?_;unfold aCi at hm
 refine aO (fL (v:=zA (zCa spec a1 c2 a4 c5)) (vs:=h) hs rfl rfl (fun a5 c9 t=>(aI (v:=zS none 0 0) (aI (v:=i64 0) (aK (aM (cS (aO (aH (gE (us:=h) cW t (i:=0) rfl rfl rfl rfl) (aL (v:=zS a7 b.length c8) ?_))))))))));obtain ⟨a6,a8,hm⟩:=aC hm
 refine aQ (vs:=r) call15 rfl (kP a8 t j l m o) ?_
 rintro _ d0 ⟨rfl,a9⟩
 refine aH (rA rfl) (aI (v:=zB (!a6)) (aK ?_))
 rcases aN hm with ⟨u,hm⟩|⟨u,hm⟩
 ·exact aP
 ·refine aW u rfl (aO (aL (v:=i64 n) ?_));obtain ⟨b0,b1,hm⟩:=aC hm
  refine aQ (vs:=[i64 n,i64 0,i64 8]) call26 rfl (aGT b1 a9) ?_
  rintro _ d1 ⟨rfl,x⟩
  refine aH (rA rfl) (aI (v:=zB (!b0)) (aK ?_))
  rcases aN hm with ⟨y,hm⟩|⟨y,hm⟩
  ·exact aP
  ·refine aW y rfl (bB (cT (aB (aO (aH (gE (us:=h) cW x (i:=0) rfl rfl rfl rfl) (aL (v:=zS a7 b.length c8) ?_))))));obtain ⟨a,b2,hm⟩:=aC hm
   refine aQ (vs:=r) call27 rfl (uC b2 x j l m o) ?_
   rintro _ d2 ⟨b3,c,d,e,g,rfl,b4,b5,b6,b7⟩
   refine aL (v:=zT #[zA (zCa a.1 c d e g),i64 a.2]) (aH (bD rfl rfl) (aH (bD rfl rfl) (aX (vs:=zG) zeroValue27 b7 rfl (fun b8 d3 b9=>(bH (i:=0) (ns:=(zC a.1 c d e g)) (us:=(zC a.1 c d e g)) sizeOf27 b9 rfl rfl rfl rfl rfl (cK rfl) rfl rfl (fun c0 (z:aD G b3 (box b8 27 (zC a.1 c d e g)::box a5 27 h::L) c0)=>(aI (v:=i64 a.2) (aK (aM (aO (aL (v:=i64 a.2) (aH (aFE rfl rfl) (aK ?_)))))))))))))
   rcases aN hm with ⟨V,hm⟩|⟨V,hm⟩
   ·exact aP
   ·refine aW V rfl (bB (aB (aO (aH (gE (us:=(zC a.1 c d e g)) cW z (i:=0) rfl rfl rfl rfl) (aL (v:=i64 n) ?_)))));obtain ⟨Z,c1,hm⟩:=aC hm
    refine aQ (vs:=[zA (zCa a.1 c d e g),i64 n]) call28 rfl (aFw c1 z j b5 b6) ?_
    rintro _ d4 ⟨c3,a0,a2,rfl,c4,c6⟩
    refine aH (bD rfl rfl) (aH (bD rfl rfl) (aI (v:=zS a0 Z.1.length a2) (aI (v:=i64 Z.2) (aK ?_))));obtain rfl:=zI hm
    exact kX (aGX results9 rfl rfl ⟨c3,a0,a2,rfl,(zL b4 c4),(aD.arr 3 [0] c6 rfl)⟩)
theorem mB {a b:(List aF)} {R:Bool} (hm:eI a b=some R) (g:aD G K (L) w) (h:bS K a1 c2 a) (i:bS K a4 c5 b):
  Calls prog 72 ([zS a1 a.length c2,zS a4 b.length c5]:List Value).toArray w (eR fun v w'=>v=zB R/\aD G K (L) w'):=by
 refine aR func72 rfl (by kernel_rfl) (by show (2:Nat)<=26;decide) ?_;unfold eI at hm
 refine aO (aI (v:=zB false) (aK (aM (aO (aL (v:=zS a1 a.length c2) (aH (bI (len:=a.length) bE rfl) (aL (v:=zS a4 b.length c5) (aH (bI (len:=b.length) bE rfl) (aH (aFE rfl rfl) (aK ?_))))))))))
 rcases aN hm with ⟨c,hm⟩|⟨c,hm⟩
 ·exact aP
 ·refine aW c rfl (bB (aB (aM (aO (aL (v:=zS a1 a.length c2) (aH (bI (len:=a.length) bE rfl) (aL (v:=i64 0) (aK (aV [] (fun f w=>nG=some R/\aD G K (L) w) aP ?_)))))))));obtain ⟨j,d,ho⟩:=aC hm
  exact cY [0,1,12] d (fun e f w=>f 13=i64 e/\aD G K (L) w) aP aP
theorem aLq {b a:(List aF)} {R:Bool} (hm:aFR b a=some R) (j:aD G K (L) w) (d:bS K a1 c2 b) (k:bS K a4 c5 a):
  Calls prog 74 ([zS a1 b.length c2,zS a4 a.length c5]:List Value).toArray w (eR fun v w'=>v=zB R/\aD G K (L) w'):=by
 refine aR func74 rfl (by kernel_rfl) (by show (2:Nat)<=18;decide) ?_;unfold aFR at hm
 refine aO (aI (v:=zB false) (aK (aM (bR [] (fun f w=>∃ e,aFQ e=some R/\f 4=zB e/\aD G K (L) w) aP (aZ (aL (v:=zS a4 a.length c5) (aH (bI (len:=a.length) bE rfl) (aL (v:=zS a1 b.length c2) (aH (bI (len:=b.length) bE rfl) (aH (cQ rfl rfl) (aL (v:=zB (decide ((a.length:Int) < (b.length:Int)))) ?_)))))))))))
 rcases aN hm with ⟨c,hm⟩|⟨c,hm⟩
 ·refine fZ c rfl rfl (aL (v:=zS a1 b.length c2) (fZ c rfl rfl (aL (v:=zS a4 a.length c5) (fZ c rfl rfl (aH (bI (len:=a.length) bE rfl) (fZ c rfl rfl ?_))))));obtain ⟨l,h,hm⟩:=aC hm
  obtain ⟨m,n,i⟩:=Cut.ex 1 a1 c2 0
  have o:=bS.cut' d h i
  refine aH (aCy bE d.room i rfl rfl rfl h) (fZ c rfl rfl (aL (v:=zS a4 a.length c5) (fZ c rfl rfl ?_)));obtain ⟨q,p,hm⟩:=aC hm
  exact aQ (vs:=[zS m l.length n,zS a4 a.length c5]) call72 rfl (mB p j o k) aP
 ·exact aP
theorem aAt {t p:(List aF)} {a:Nat} {R:Bool} (hm:uW t p=some R) (b:aD G K (L) w) (c:bS K a1 c2 t) (d:fD K a4 a [zS a7 p.length c8]) (e:bS K a7 c8 p):
  Calls prog 71 ([zS a1 t.length c2,cP a4 a]:List Value).toArray w (eR fun v w'=>v=zB R/\aD G K (L) w'):=by
 exact aP
theorem pS {a:(List (List aF))} {d:(List aF)} {b:Nat} {R:Int} (hm:fC a d=some R) (y:aD G K (L) w) (e:bS K a1 c2 a) (n:fD K a4 b [zS a7 d.length c8]) (o:bS K a7 c8 d):
  Calls prog 117 ([zS a1 a.length c2,Value.func (.func 71) #[] #[cP a4 b]]:List Value).toArray w (eR fun v w'=>v=i64 R/\aD G K (L) w'):=by
 refine aR func117 rfl (by kernel_rfl) (by show (2:Nat)<=19;decide) ?_;unfold fC at hm
 refine aO (aI (v:=i64 0) (aK (aM (aO (aL (v:=zS a1 a.length c2) (aH (bI (len:=a.length) sH rfl) (aL (v:=i64 0) (aK (aV [] (fun f w=>jZ=some R/\aD G K (L) w) aP ?_)))))))));obtain ⟨z,p,ho⟩:=aC hm
 refine cY [0,1,7] p (fun c f w=>f 8=i64 c/\aD G K (L) w) aP ?_
 ·rintro c V f Z hm hr ⟨g,h⟩
  unfold gN at hm
  refine aO (aH (cQ g rfl) (aK (aM ?_)))
  rcases aN hm with ⟨i,hm⟩|⟨i,hm⟩
  ·refine aT i rfl (bB (aB (aM (cS (aO (bC g (aI (v:=i64 c) (aK (aO (aL (v:=Value.func (.func 71) #[] #[cP a4 b]) (aL (v:=zS a1 a.length c2) (aL (v:=i64 c) ?_))))))))))));obtain ⟨j,k,hm⟩:=aC hm
   refine aH (jF sH rfl e rfl rfl rfl k) ?_;obtain ⟨a0,q,r⟩:=bS.el (sz:=1) rfl e k
   obtain ⟨l,m,rfl,u⟩:=r
   refine aH (bG (t:=0) gY h q rfl rfl) ?_;obtain ⟨a2,x,hm⟩:=aC hm
   exact kN (vs:=[zS l j.length m]) (caps:=[cP a4 b]) (us:=[zS l j.length m,cP a4 b]) rfl call71 rfl rfl (aAt x h u n o) aP
  ·exact aP
theorem iV {a:(List (List aF))} {b:(List aF)} {c:Nat} {R:Bool} (hm:eN a b=some R) (d:aD G K (L) w) (e:bS K a1 c2 a) (g:fD K a4 c [zS a7 b.length c8]) (h:bS K a7 c8 b):
  Calls prog 70 ([zS a1 a.length c2,Value.func (.func 71) #[] #[cP a4 c]]:List Value).toArray w (eR fun v w'=>v=zB R/\aD G K (L) w'):=by
 exact aP
theorem aAu {t p:(List aF)} {a:Nat} {R:Bool} (hm:uX t p=some R) (b:aD G K (L) w) (c:bS K a1 c2 t) (d:fD K a4 a [zS a7 p.length c8]) (e:bS K a7 c8 p):
  Calls prog 73 ([zS a1 t.length c2,cP a4 a]:List Value).toArray w (eR fun v w'=>v=zB R/\aD G K (L) w'):=by
 exact aP
theorem oK {a:(List (List aF))} {d:(List aF)} {b:Nat} {R:Int} (hm:eO a d=some R) (y:aD G K (L) w) (e:bS K a1 c2 a) (n:fD K a4 b [zS a7 d.length c8]) (o:bS K a7 c8 d):
  Calls prog 117 ([zS a1 a.length c2,Value.func (.func 73) #[] #[cP a4 b]]:List Value).toArray w (eR fun v w'=>v=i64 R/\aD G K (L) w'):=by
 refine aR func117 rfl (by kernel_rfl) (by show (2:Nat)<=19;decide) ?_;unfold eO at hm
 refine aO (aI (v:=i64 0) (aK (aM (aO (aL (v:=zS a1 a.length c2) (aH (bI (len:=a.length) sH rfl) (aL (v:=i64 0) (aK (aV [] (fun f w=>jD=some R/\aD G K (L) w) aP ?_)))))))));obtain ⟨z,p,ho⟩:=aC hm
 refine cY [0,1,7] p (fun c f w=>f 8=i64 c/\aD G K (L) w) aP ?_
 ·rintro c V f Z hm hr ⟨g,h⟩
  unfold fO at hm
  refine aO (aH (cQ g rfl) (aK (aM ?_)))
  rcases aN hm with ⟨i,hm⟩|⟨i,hm⟩
  ·refine aT i rfl (bB (aB (aM (cS (aO (bC g (aI (v:=i64 c) (aK (aO (aL (v:=Value.func (.func 73) #[] #[cP a4 b]) (aL (v:=zS a1 a.length c2) (aL (v:=i64 c) ?_))))))))))));obtain ⟨j,k,hm⟩:=aC hm
   refine aH (jF sH rfl e rfl rfl rfl k) ?_;obtain ⟨a0,q,r⟩:=bS.el (sz:=1) rfl e k
   obtain ⟨l,m,rfl,u⟩:=r
   refine aH (bG (t:=0) gY h q rfl rfl) ?_;obtain ⟨a2,x,hm⟩:=aC hm
   exact kN (vs:=[zS l j.length m]) (caps:=[cP a4 b]) (us:=[zS l j.length m,cP a4 b]) rfl call73 rfl rfl (aAu x h u n o) aP
  ·exact aP
theorem iL {a:(List (List aF))} {b:(List aF)} {c:Nat} {R:Bool} (hm:dW a b=some R) (d:aD G K (L) w) (e:bS K a1 c2 a) (g:fD K a4 c [zS a7 b.length c8]) (h:bS K a7 c8 b):
  Calls prog 70 ([zS a1 a.length c2,Value.func (.func 73) #[] #[cP a4 c]]:List Value).toArray w (eR fun v w'=>v=zB R/\aD G K (L) w'):=by
 exact aP
end Gv
namespace Gv
open Go.Value renaming slice→zS,bool→zB,agg→zA,tuple→zT
open Option.some renaming inj→zI
open Gv.Hp renaming le_trans→zL,le_refl→zR
open Go Go.Proofs Go.Proofs.Tryz
set_option maxRecDepth 20000
set_option maxHeartbeats 40000000
variable {G:wY} {K:Hp} {L:List iN} {w:World} {a1 a4 a7 a10 a13:Option Addr} {c2 c5 c8 c11:Nat}
theorem aDm {j R:(List (List aF))} (hm:wJ j=some R) (hs:aD G K (L) w) (r:bS K a1 c2 j):
  Calls prog 31 ([zS a1 j.length c2]:List Value).toArray w (eR fun v w'=>∃ b0 b1 a2,v=zS b0 R.length b1/\List.length a2=List.length R/\aD G K (aG 24 K b0 b1 (cL a2 R)::rows [9] a2 R::L) w'):=by
 refine aR func31 rfl (by kernel_rfl) (by show (1:Nat)<=34;decide) ?_;unfold wJ at hm
 refine aO (aI (v:=zS none 0 0) (aK (aO (aI (v:=zS none 0 0) (aK (aM (aO (aL (v:=zS a1 j.length c2) (aH (bI (len:=j.length) sH rfl) (aL (v:=i64 0) (aK (aV [] (fun f w=>∃ u a5 c6 a3,aEs u=some R/\f 3=zS a5 u.length c6/\List.length a3=List.length u/\aD G K (aG 24 K a5 c6 (cL a3 u)::rows [9] a3 u::L) w) aP ?_))))))))))))
 have c8:aD G K (aG 24 K none 0 (cL ([]:List (Dp.Hd (List aF))) ([]:List (List aF)))::rows [9] ([]:List (Dp.Hd (List aF))) ([]:List (List aF))::L) w:=aD.nil (α:=Cells _) (aD.rowsNil (α:=(List aF)) (tys:=[9]) hs) 24 K
 obtain ⟨g4,c9,ho⟩:=aC hm
 refine cZ [0,7,8] c9 (fun b m f w=>∃ n o a,f 3=zS n b.length o/\f 9=i64 m/\List.length a=List.length b/\aD G K (aG 24 K n o (cL a b)::rows [9] a b::L) w) ?_ ?_
 ·exact ⟨none,0,[],rfl,rfl,rfl,c8⟩
 ·rintro b m b4 f g5 hm hr ⟨n,o,a,d0,y,b5,b6⟩
  unfold mT at hm
  refine aO (aH (cQ y rfl) (aK (aM ?_)))
  rcases aN hm with ⟨c48,hm⟩|⟨c48,hm⟩
  ·refine aT c48 rfl (bB (aB (aM (aV [0,7,8,9] (fun f w=>∃ p z V x,pP m p=some b4/\f 3=zS z p.length V/\List.length x=List.length p/\aD G K (aG 24 K z V (cL x p)::rows [9] x p::L) w) ?_ ?_))))
   ·rintro f g6 ⟨p,z,V,x,hm,d1,d2,d3⟩
    unfold pP at hm
    exact aB (aZ (aH (eP y rfl) (aL (v:=i64 (wr (m+1))) (aK ⟨_,(zI hm).symm,bW,z,V,x,d1,rfl,d2,d3⟩))))
   refine aO (bC y ?_);obtain ⟨e,b7,hm⟩:=aC hm
   refine aH (jF sH rfl r rfl rfl y b7) ?_;obtain ⟨g7,d4,d5⟩:=bS.el (sz:=1) rfl r b7
   obtain ⟨k,l,rfl,a4⟩:=d5
   refine aH (bG (t:=0) gY b6 d4 rfl rfl) (aX (vs:=[zS none 0 0]) zeroValue24 b6 rfl (fun h g8 d6=>(aI (v:=i64 m) (bH (i:=0) (ns:=[zS k e.length l]) (us:=[zS k e.length l]) sizeOf24 d6 rfl rfl rfl rfl rfl (cK rfl) rfl rfl (fun d7 (d8:aD G K (box h 24 [zS k e.length l]::aG 24 K n o (cL a b)::rows [9] a b::L) d7)=>(aK (aO (aL (v:=zS a1 j.length c2) (aL (v:=i64 m) ?_)))))))));obtain ⟨d9,b8,hm⟩:=aC hm
   obtain ⟨e0,e1,b9⟩:=Cut.ex 1 a1 c2 0
   have e2:=bS.cut' r b8 b9
   refine aH (aCy sH r.room b9 rfl rfl rfl b8) (aH (oM (vs:=[Value.pointer (some ⟨h,0,none⟩)]) rfl) ?_);obtain ⟨g9,c0,e3,e4,e5⟩:=aD.lendBp d8 .head
   obtain ⟨a6,e6,hm⟩:=aC hm
   refine aQ (vs:=[zS e0 d9.length e1,Value.func (.func 71) #[] #[cP (some ⟨h,0,none⟩) 0]]) call70 rfl (iV e6 e4 (e2.mono c0) e3 (a4.mono c0)) ?_
   rintro _ h0 ⟨rfl,e7⟩
   have e8:=e5 _ _ e7
   refine aI (v:=zB a6) (aK (aM (bR [0,3,5,7,8,9] (fun f w=>∃ a7,mS b m e a7=some b4/\f 26=zB a7/\aD G K (box h 24 [zS k e.length l]::aG 24 K n o (cL a b)::rows [9] a b::L) w) ?_ ?_)))
   ·rintro f h1 ⟨a7,hm,e9,c1⟩
    unfold mS at hm
    refine aB ?_
    rcases aN hm with ⟨c3,hm⟩|⟨c3,hm⟩
    ·refine aT c3 e9 (aZ (bC d0 (aH (fP gY c1 (i:=0) rfl rfl rfl) ?_)));obtain ⟨q,f0,hm⟩:=aC hm
     refine aQ (vs:=[zS k e.length l]) call30 rfl (bA f0 c1 a4) ?_
     rintro _ f1 ⟨c,d,rfl,f2⟩
     have f3:aD G K (rows [9] ([(c,d)]:List (Dp.Hd (List aF))) [q]::box h 24 [zS k e.length l]::aG 24 K n o (cL a b)::rows [9] a b::L) f1:=aD.rowsOne f2
     refine bL (Kt:=K) (xs:=cL ([(c,d)]:List (Dp.Hd (List aF))) ([q]:List (List aF))) (cs:=[zS c q.length d]) (vs:=[(0,zS c q.length d)]) sH aFK rfl rfl f3 rfl (by kernel_rfl) rfl rfl rfl ⟨rfl,trivial⟩ ?_
     intro f4 f5 (f6:aD G K (aG 24 K f4 1 (cL ([(c,d)]:List (Dp.Hd (List aF))) ([q]:List (List aF)))::rows [9] ([(c,d)]:List (Dp.Hd (List aF))) ([q]:List (List aF))::box h 24 [zS k e.length l]::aG 24 K n o (cL a b)::rows [9] a b::L) f5)
     obtain ⟨Z,c4,hm⟩:=aC hm
     refine aJs (i:=1) (tys:=[9]) (hds:=a) (hds2:=([(c,d)]:List (Dp.Hd (List aF)))) sH underlying34 aFK rfl rfl f6 b5 rfl rfl rfl c4 rfl rfl rfl rfl ?_
     intro a8 a9 f7 (f8:aD G K (aG 24 K a8 a9 (cL (a++([(c,d)]:List (Dp.Hd (List aF)))) Z)::rows [9] (a++([(c,d)]:List (Dp.Hd (List aF)))) Z::box h 24 [zS k e.length l]::L) f7)
     exact aI (v:=zS a8 Z.length a9) (aJ (cT (aB ⟨bW,Z,a8,a9,(a++([(c,d)]:List (Dp.Hd (List aF)))),hm,rfl,(aHC b5 rfl c4),(aD.arr 3 [0,1] f8 rfl)⟩)))
    ·exact aP
   refine aZ (aL (v:=zB a6) (aH (rA rfl) (aL (v:=zB (!a6)) ?_)))
   rcases aN hm with ⟨a0,hm⟩|⟨a0,hm⟩
   ·refine fZ a0 rfl rfl (aL (v:=zS a1 j.length c2) (fZ a0 rfl rfl (aH (oM (vs:=[Value.pointer (some ⟨h,0,none⟩)]) rfl) (fZ a0 rfl rfl ?_))));obtain ⟨h2,c5,f9,g0,g1⟩:=aD.lendBp e8 .head
    obtain ⟨h4,g2,hm⟩:=aC hm
    refine aQ (vs:=[zS a1 j.length c2,Value.func (.func 73) #[] #[cP (some ⟨h,0,none⟩) 0]]) call70 rfl (iL g2 g0 (r.mono c5) f9 (a4.mono c5)) ?_
    rintro _ h5 ⟨rfl,g3⟩
    have h6:=g1 _ _ g3
    exact aP
   ·exact aP
  ·exact aP
theorem yD {p b:Int} {a:Edge} {c:Nat} {R:Bool} (hm:qR p b a=some R) (d:aD G K (L) w) (e:fD K a1 c [i64 a.F,i64 a.B,i64 a.To]):
  Calls prog 29 ([i64 p,i64 b,cP a1 c]:List Value).toArray w (eR fun v w'=>v=zB R/\aD G K (L) w'):=by
 exact aP
theorem aBl {a b:bF} {found_c0_:Edge} {e5:Nat} {R:((List aF) × Bool)} (hm:nU a b found_c0_=some R) (hs:aD G K (L) w) (h3:bS K a1 c2 a.L) (h6:bS K a4 c5 a.E) (h9:bS K a7 c8 b.L) (h8:bS K a10 c11 b.E) (q6:fD K a13 e5 [i64 found_c0_.F,i64 found_c0_.B,i64 found_c0_.To]):
  Calls prog 18 ([zA (zCa a a1 c2 a4 c5),zA (zCa b a7 c8 a10 c11),Value.func (.func 29) #[] #[cP a13 e5]]:List Value).toArray w (eR fun v w'=>∃ K' l1 l2,v=zT #[zS l1 R.1.length l2,zB R.2]/\Hp.le K K'/\bS K' l1 l2 R.1/\aD G K' (L) w'):=by
 let l3:=(zC b a7 c8 a10 c11)
 let l4:=(zC a a1 c2 a4 c5)
 let l5:=[i64 a.I,i64 b.I,zS none 0 0]
 refine aR func18 rfl (by kernel_rfl) (by show (3:Nat)<=96;decide) ?_;unfold nU at hm
 refine aO (fL (v:=zA (zCa a a1 c2 a4 c5)) (vs:=l4) hs rfl rfl (fun b16 q7 q8=>?_));obtain ⟨q9,y,e6,i1,_⟩:=aD.lendBp q8 .head
 replace i1:aD G q9 (L) q7:=i1
 refine fL (v:=zA (zCa b a7 c8 a10 c11)) (vs:=l3) i1 rfl rfl (fun b23 r0 r1=>?_);obtain ⟨a6,q,e7,e8,_⟩:=aD.lendBp r1 .head
 replace e8:aD G a6 (L) r0:=e8
 refine aI (v:=zS none 0 0) (aI (v:=zB false) (aK (aO (aH (cH (k':=0+2) fT (eY rfl) (e6.mono q) rfl) (aH (bG (t:=2) gY e8 (e6.mono q) rfl rfl) (aH (cH (k':=0+2) fT (eY rfl) e7 rfl) (aH (bG (t:=2) gY e8 e7 rfl rfl) (bL (Kt:=a6) (xs:=([a.L,b.L]:List (List aF))) (cs:=[zS a1 a.L.length c2,zS a7 b.L.length c8]) (vs:=[(0,zS a1 a.L.length c2),(1,zS a7 b.L.length c8)]) sH aFK rfl rfl e8 rfl (by kernel_rfl) rfl rfl rfl ⟨⟨a1,c2,rfl,(h3.mono (zL y q))⟩,⟨a7,c8,rfl,(h9.mono (zL y q))⟩,trivial⟩ (fun e9 r2 (r3:aD G a6 (aG 24 a6 e9 2 ([a.L,b.L]:List (List aF))::L) r2)=>?_)))))))))
 obtain ⟨K33,a21,r4,r5,r6⟩:=aD.lendSp r3 (zR _) .head
 obtain ⟨f6,r7,hm⟩:=aC hm
 refine aQ (vs:=[zS e9 ([a.L,b.L]:List (List aF)).length 2]) call50 rfl (iR r7 r5 r4) ?_
 rintro _ w42 ⟨f7,f8,rfl,r8⟩
 have r9:=r6 _ _ r8
 obtain ⟨K45,a24,s0,s1,s2⟩:=aD.lendSp r9 (zL y q) zt1
 obtain ⟨f9,s3,hm⟩:=aC hm
 have hcl:=qV s3 s1 s0 (uG (α:=mN) _)
 refine aQ (vs:=[i64 1,i64 0,zS f7 f6.length f8,zS none 0 0]) call49 rfl hcl ?_
 rintro _ s4 ⟨l6,l7,i2,i3,rfl,s5⟩
 have l8:=s2 _ _ s5
 refine aH (aMl (v:=zS l6 f9.L.length l7) aMx rfl rfl) ?_;obtain ⟨d,l9,hm⟩:=aC hm
 have s6:=lL l8 (i:=1) rfl
 obtain ⟨l,m,m0⟩:=Cut.ex 1 l6 l7 1
 refine aH (vK bE s6 m0 rfl rfl rfl l9) ?_
 have s7:aD G a6 (aG 9 K f7 f8 f6::aG 9 K l m d::aG 46 K i2 i3 f9.E::aG 24 a6 e9 2 ([a.L,b.L]:List (List aF))::L) s4:=aD.cutP l8 (i:=1) rfl l9 m0
 refine aI (v:=zS l d.length m) (aK (aO (aJS (Int × Int) Bool s7 ?_)))
 intro e s8 (i4:aD G a6 (jE e ([]:(List ((Int × Int) × Bool)))::aG 9 K f7 f8 f6::aG 9 K l m d::aG 46 K i2 i3 f9.E::aG 24 a6 e9 2 ([a.L,b.L]:List (List aF))::L) s8)
 refine aI (v:=Value.map (some e)) (aK (aO (aH (cH (k':=0+1) yK (eY rfl) (e6.mono q) rfl) (aH (bG (t:=1) fK i4 (e6.mono q) rfl rfl) (aH (cH (k':=0+1) yK (eY rfl) e7 rfl) (aH (bG (t:=1) fK i4 e7 rfl rfl) (aH (fF (vs:=[(0,i64 a.I),(1,i64 b.I),(2,zS none 0 0)]) (cs:=l5) aDx rfl (by kernel_rfl)) (bL (Kt:=a6) (xs:=([⟨a.I,b.I,[]⟩]:List aS)) (cs:=l5) (vs:=[(0,zA #[i64 a.I,i64 b.I,zS none 0 0])]) lM sI rfl rfl i4 rfl (by kernel_rfl) rfl rfl rfl ⟨⟨none,0,rfl,uG _⟩,trivial⟩ ?_))))))))
 intro i5 s9 (t0:aD G a6 (aG 93 a6 i5 1 ([⟨a.I,b.I,[]⟩]:List aS)::jE e ([]:(List ((Int × Int) × Bool)))::aG 9 K f7 f8 f6::aG 9 K l m d::aG 46 K i2 i3 f9.E::aG 24 a6 e9 2 ([a.L,b.L]:List (List aF))::L) s9)
 refine aI (v:=zS i5 ([⟨a.I,b.I,[]⟩]:List aS).length 1) (aK (aM (aV [] (fun f w=>∃ m1,Hp.le a6 m1/\aDa=some R/\aD G m1 (L) w) aP ?_)));obtain ⟨a25,t1,ho⟩:=aC hm
 refine cZ [2,3,4,8,9] t1 (fun a8 c9 f w=>∃ b0 d0 d1,Hp.le a6 b0/\f 10=zS d0 c9.length d1/\aD G b0 (aG 93 b0 d0 d1 c9::jE e a8::aG 9 K l m d::L) w) ?_ ?_
 ·exact ⟨a6,i5,1,(zR _),rfl,(aD.arr 6 [0,1,3] t0 rfl)⟩
 ·rintro a8 c9 i6 f w97 hm hr ⟨b0,d0,d1,V,i7,i8⟩
  unfold eW at hm
  refine aM (aO (bC i7 (aH (bI (len:=c9.length) lM rfl) (aH (sZ rfl rfl) (aK ?_)))))
  rcases aN hm with ⟨m2,hm⟩|⟨m2,hm⟩
  ·refine aT m2 rfl (bB (aB (aV [2,3,4,8,9] (fun f w=>∃ (f0:Hp) (i9:(List ((Int × Int) × Bool))) (g0:List aS) (g1:Option Addr) (g2:Nat),Hp.le b0 f0/\qS i9 g0=some i6/\f 10=zS g1 g0.length g2/\aD G f0 (aG 93 f0 g1 g2 g0::jE e i9::aG 9 K l m d::L) w) ?_ ?_)))
   ·rintro f a27 ⟨f0,i9,g0,g1,g2,t2,hm,t3,t4⟩
    unfold qS at hm
    exact aB ⟨_,(zI hm).symm,bW,f0,g1,g2,(zL V t2),t3,t4⟩
   refine aO (bC i7 ?_);obtain ⟨c,j0,hm⟩:=aC hm
   have t5:=dM i8 (i:=0) rfl j0
   refine aH (fQ lM rfl t5 rfl rfl rfl j0) ?_;obtain ⟨a28,t6,t7⟩:=aJP (sz:=3) rfl i8 (i:=0) rfl j0
   obtain ⟨b2,b3,rfl,f1⟩:=t7
   refine aH (aMs (t:=0) (vs:=[i64 c.a,i64 c.b,zS b2 c.trace.length b3]) ag_93 t6 rfl rfl rfl) (aX (vs:=[i64 0,i64 0,zS none 0 0]) zeroValue93 i8 rfl (fun t8 a29 t9=>(bH (i:=0) (ns:=[i64 c.a,i64 c.b,zS b2 c.trace.length b3]) (us:=[i64 c.a,i64 c.b,zS b2 c.trace.length b3]) sizeOf93 t9 rfl rfl rfl rfl rfl (cK rfl) rfl rfl (fun j1 (u0:aD G b0 (box t8 93 [i64 c.a,i64 c.b,zS b2 c.trace.length b3]::aG 93 b0 d0 d1 c9::jE e a8::aG 9 K l m d::L) j1)=>?_))))
   obtain ⟨b1,p,u,g3,_⟩:=aD.lendBp u0 .head
   replace g3:aD G b1 (aG 93 b0 d0 d1 c9::jE e a8::aG 9 K l m d::L) j1:=g3
   refine aK (aO (bC i7 ?_));obtain ⟨b7,m3,hm⟩:=aC hm
   have u1:=aNy g3 (i:=0) rfl
   obtain ⟨d2,d3,m4⟩:=Cut.ex 3 d0 d1 1
   refine aH (vK lM u1 m4 rfl rfl rfl m3) ?_
   have b4:aD G b1 (aG 93 b0 d2 d3 b7::jE e a8::aG 9 K l m d::L) j1:=aD.cutPE g3 (i:=0) rfl m3 m4
   refine aI (v:=zS d2 b7.length d3) (aK (aM (aM (bR [2,3,4,8,9,10,11] (fun f w=>∃ j2,iJ a b found_c0_ d a8 c b7 j2=some i6/\f 54=zB j2/\aD G b1 (aG 93 b0 d2 d3 b7::jE e a8::aG 9 K l m d::L) w) ?_ ?_))))
   ·rintro f u2 ⟨j2,hm,m5,g4⟩
    unfold iJ at hm
    refine aB ?_
    rcases aN hm with ⟨j3,hm⟩|⟨j3,hm⟩
    ·refine aT j3 m5 ?_
     have a31:aD G b1 (aG 93 b1 d2 d3 b7::jE e a8::aG 9 K l m d::L) u2:=aD.weak (i:=0) g4 rfl (fun _ h=>aG.mono p h)
     exact aP
    ·refine aW j3 m5 (bB (aB (aO (aL (v:=Value.map (some e)) (aH (cH (k':=0+0) sJ (eY rfl) u rfl) (aH (bG (t:=0) fK g4 u rfl rfl) (aH (cH (k':=0+1) uJ (eY rfl) u rfl) (aH (bG (t:=1) fK g4 u rfl rfl) (aH (aEe (vs:=[(0,i64 c.a),(1,i64 c.b)]) (cs:=[i64 c.a,i64 c.b]) aLH aLI rfl (by kernel_rfl)) ?_)))))))));obtain ⟨r,u3,hm⟩:=aC hm
     refine aJV (i:=1) (k:=⟨c.a,c.b⟩) (v:=true) runUnderlying91 aLJ g4 rfl rfl rfl rfl u3 (fun u4 (j4:aD G b1 (aG 93 b0 d2 d3 b7::jE e r::aG 9 K l m d::L) u4)=>(aK (aM (aO (aL (v:=Value.func (.func 29) #[] #[cP a13 e5]) (aH (cH (k':=0+0) sJ (eY rfl) u rfl) (aH (bG (t:=0) fK j4 u rfl rfl) (aH (cH (k':=0+1) uJ (eY rfl) u rfl) (aH (bG (t:=1) fK j4 u rfl rfl) ?_)))))))));obtain ⟨a32,u5,hm⟩:=aC hm
     refine kN (vs:=[i64 c.a,i64 c.b]) (caps:=[cP a13 e5]) (us:=[i64 c.a,i64 c.b,cP a13 e5]) rfl call29 rfl rfl (yD u5 j4 (q6.mono (zL (zL (zL y q) V) p))) ?_
     rintro _ u6 ⟨rfl,j5⟩
     refine aK ?_
     rcases aN hm with ⟨j6,hm⟩|⟨j6,hm⟩
     ·refine aT j6 rfl (aO (aH (cH (k':=0+2) aDy (eY rfl) u rfl) (aH (bG (t:=2) gY j5 u rfl rfl) (aI (v:=zS b2 c.trace.length b3) (aI (v:=zB true) (aK (kX (cC (gO (cC (cC ?_)))))))))))
      have u7:=hr _ (zI hm).symm
      subst u7
      have hm:(some (c.trace,true))=some R:=ho
      clear hr ho
      obtain rfl:=zI hm
      exact gO (cC (cC (aGX results18 rfl rfl ⟨b1,b2,b3,rfl,(zL (zL (zL y q) V) p),(f1.mono p),(aD.arr 3 [] j5 rfl)⟩)))
     ·refine aW j6 rfl (bB (aB (aO (aL (v:=zS l d.length m) (aH (bI (len:=d.length) bE rfl) (aL (v:=i64 0) (aK (aV [2,3,4,8,9] (fun f w=>∃ f2 f3 g5 g6,Hp.le b1 f2/\xL r f3=some i6/\f 10=zS g5 f3.length g6/\aD G f2 (aG 93 f2 g5 g6 f3::jE e r::aG 9 K l m d::L) w) ?_ ?_))))))))
      ·rintro f a33 ⟨f2,f3,g5,g6,u9,hm,v0,v1⟩
       unfold xL at hm
       exact cT (aB ⟨bW,f2,r,f3,g5,g6,(zL p u9),hm,v0,v1⟩)
      have a34:aD G b1 (aG 93 b1 d2 d3 b7::jE e r::aG 9 K l m d::L) u6:=aD.weak (i:=0) j5 rfl (fun _ h=>aG.mono p h)
      obtain ⟨a35,v2,ho⟩:=aC hm
      refine cZ [2,3,4,8,9,11,69,70] v2 (fun a0 g7 f w=>∃ n a2 a3,Hp.le b1 n/\f 10=zS a2 a0.length a3/\f 71=i64 g7/\aD G n (aG 93 n a2 a3 a0::jE e r::aG 9 K l m d::L) w) aP ?_
      ·rintro a0 g7 v3 f a36 hm hr ⟨n,a2,a3,o,v4,j7,j8⟩
       unfold xN at hm
       refine aO (aH (cQ j7 rfl) (aK (aM ?_)))
       rcases aN hm with ⟨m6,hm⟩|⟨m6,hm⟩
       ·refine aT m6 rfl (bB (aB (aM (cS (aO ?_)))));obtain ⟨x,j9,hm⟩:=aC hm
        have v5:=dM j8 (i:=2) rfl j9
        refine aH (fQ bE rfl v5 rfl rfl j7 j9) (aH (rB (t:=0) xB j8 (i:=2) rfl j9 rfl rfl rfl) (aI (v:=str x) (aK (bR [2,3,4,8,9,11,69,70,71] (fun f w=>∃ f4 g8 g9 h0,Hp.le n f4/\xM g7 g8=some v3/\f 10=zS g9 g8.length h0/\aD G f4 (aG 93 f4 g9 h0 g8::jE e r::aG 9 K l m d::L) w) ?_ ?_))))
        ·rintro f a37 ⟨f4,g8,g9,h0,v6,hm,v7,v8⟩
         unfold xM at hm
         exact cT (aB (aZ (aH (eP j7 rfl) (aL (v:=i64 (wr (g7+1))) (aK ⟨_,(zI hm).symm,bW,f4,g9,h0,(zL o v6),v7,rfl,v8⟩)))))
        refine mM (C:=fun w'=>∃ L',aD G n L' w') [] Tryz_mixed (by kernel_rfl) (fun a38 v9=>?_)
        have Z:=aD.mono j8 v9
        refine cI (i:=0) rfl (by kernel_rfl) ⟨_,Z⟩ (fun _ _=>bJ v4) (cI (i:=1) rfl (by kernel_rfl) ⟨_,Z⟩ (fun _ ⟨_,Z⟩=>eJ (t:=0) (vs:=l4) cW Z (e6.mono (zL (zL (zL q V) p) o)) (eY rfl) rfl rfl) (cI (i:=2) rfl (by kernel_rfl) ⟨_,Z⟩ (fun _ _=>cH (k':=0+0) sJ (eY rfl) (u.mono o) rfl) (cI (i:=3) rfl (by kernel_rfl) ⟨_,Z⟩ (fun _ ⟨_,Z⟩=>bG (t:=0) fK Z (u.mono o) rfl rfl) (cI (i:=4) rfl (by kernel_rfl) ⟨_,Z⟩ (fun _ _=>bJ (v:=str x) rfl) (cI (i:=6) rfl (by kernel_rfl) ⟨_,Z⟩ (fun _ ⟨_,Z⟩=>eJ (t:=0) (vs:=l3) cW Z (e7.mono (zL (zL V p) o)) (eY rfl) rfl rfl) (cI (i:=7) rfl (by kernel_rfl) ⟨_,Z⟩ (fun _ _=>cH (k':=0+1) uJ (eY rfl) (u.mono o) rfl) (cI (i:=8) rfl (by kernel_rfl) ⟨_,Z⟩ (fun _ ⟨_,Z⟩=>bG (t:=1) fK Z (u.mono o) rfl rfl) (cI (i:=9) rfl (by kernel_rfl) ⟨_,Z⟩ (fun _ _=>bJ (v:=str x) rfl) (cI (i:=11) rfl (by kernel_rfl) ⟨_,Z⟩ (fun _ _=>cH (k':=0+2) aDy (eY rfl) (u.mono o) rfl) (cI (i:=12) rfl (by kernel_rfl) ⟨_,Z⟩ (fun _ ⟨_,Z⟩=>bG (t:=2) gY Z (u.mono o) rfl rfl) (cI (i:=14) rfl (by kernel_rfl) ⟨_,Z⟩ (fun _ _=>bJ (v:=str x) rfl) (fR (i:=5) (j:=15) (by kernel_rfl) rfl rfl ?_ ?_))))))))))))
        ·obtain ⟨a5,w0,hm⟩:=aC hm
         refine aQ (vs:=[zA (zCa a a1 c2 a4 c5),i64 c.a,str x]) call51 rfl (gV w0 Z (h3.mono (zL (zL (zL (zL y q) V) p) o)) (h6.mono (zL (zL (zL (zL y q) V) p) o))) ?_
         rintro _ a39 ⟨rfl,k0⟩
         refine aJ (aB ⟨fun _=>⟨_,k0⟩,?_⟩)
         refine fR (i:=10) (j:=15) (by kernel_rfl) rfl rfl ?_ ?_
         ·obtain ⟨a9,w1,hm⟩:=aC hm
          refine aQ (vs:=[zA (zCa b a7 c8 a10 c11),i64 c.b,str x]) call51 rfl (gV w1 k0 (h9.mono (zL (zL (zL (zL y q) V) p) o)) (h8.mono (zL (zL (zL (zL y q) V) p) o))) ?_
          rintro _ a41 ⟨rfl,k1⟩
          refine aJ (aB ⟨fun _=>⟨_,k1⟩,?_⟩)
          refine fR (i:=13) (j:=15) (by kernel_rfl) rfl rfl ?_ ?_
          ·obtain ⟨w2,w3,hm⟩:=aC hm
           refine aQ (vs:=[zS b2 c.trace.length b3]) call30 rfl (bA w3 k1 (f1.mono (zL p o))) ?_
           rintro _ a42 ⟨w4,w5,rfl,m7⟩
           refine aJ (aB ⟨fun _=>⟨_,m7⟩,?_⟩)
           refine aU (i:=15) (by kernel_rfl) rfl (bL (Kt:=K) (xs:=([x]:List aF)) (cs:=[str x]) (vs:=[(0,str x)]) bE iW rfl rfl m7 rfl (by kernel_rfl) rfl rfl rfl ⟨rfl,trivial⟩ (fun w6 w7 (m8:aD G n (aG 9 K w6 1 ([x]:List aF)::aG 9 K w4 w5 w2::aG 93 n a2 a3 a0::jE e r::aG 9 K l m d::L) w7)=>(aJ (aB ⟨fun _=>⟨_,m8⟩,?_⟩))))
           refine aU (i:=16) (by kernel_rfl) rfl ?_;obtain ⟨b8,w8,hm⟩:=aC hm
           refine eX (i:=0) bE underlying24 iW rfl rfl m8 rfl (zL (zL (zL (zL y q) V) p) o) (zL (zL (zL (zL y q) V) p) o) w8 rfl rfl rfl rfl (fun _ h=>h) (fun d4 d5 m9 (k2:aD G n (aG 9 K d4 d5 b8::aG 93 n a2 a3 a0::jE e r::aG 9 K l m d::L) m9)=>(aJ (aB ⟨fun _=>⟨_,k2⟩,?_⟩)))
           refine cI (i:=17) rfl (by kernel_rfl) ⟨_,k2⟩ (fun _ _=>fF (vs:=[(0,i64 a5),(1,i64 a9),(2,zS d4 b8.length d5)]) (cs:=[i64 a5,i64 a9,zS d4 b8.length d5]) aDx rfl (by kernel_rfl)) (aU (i:=18) (by kernel_rfl) rfl ?_);obtain ⟨b9,h1,w9,k3⟩:=aD.giveSp k2 (zL (zL (zL (zL y q) V) p) o) .head
           replace k3:aD G b9 (aG 93 n a2 a3 a0::jE e r::aG 9 K l m d::L) m9:=k3
           refine bL (Kt:=b9) (xs:=([⟨a5,a9,b8⟩]:List aS)) (cs:=[i64 a5,i64 a9,zS d4 b8.length d5]) (vs:=[(0,zA #[i64 a5,i64 a9,zS d4 b8.length d5])]) lM sI rfl rfl k3 rfl (by kernel_rfl) rfl rfl rfl ⟨⟨d4,d5,rfl,w9⟩,trivial⟩ (fun x0 x1 (n0:aD G b9 (aG 93 b9 x0 1 ([⟨a5,a9,b8⟩]:List aS)::aG 93 n a2 a3 a0::jE e r::aG 9 K l m d::L) x1)=>(aJ (aB ⟨fun _=>⟨_,(aD.weakK n0 h1)⟩,?_⟩)))
           refine aU (i:=19) (by kernel_rfl) rfl ?_;obtain ⟨n1,x2,hm⟩:=aC hm
           refine wN (i:=0) b9 lM underlying94 sI rfl rfl n0 rfl h1 (zR _) x2 rfl rfl rfl rfl (fun _ _ _ h=>El.one h) (fun n2 n3 x3 (n4:aD G b9 (aG 93 b9 n2 n3 n1::jE e r::aG 9 K l m d::L) x3)=>(aJ (aB ⟨fun _=>⟨_,(aD.weakK n4 h1)⟩,?_⟩)))
           exact cI (i:=20) rfl (by kernel_rfl) ⟨_,(aD.weakK n4 h1)⟩ (fun _ _=>cU (v:=zS n2 n1.length n3) rfl) (cO (by kernel_rfl) aP)
          ·refine bL (Kt:=K) (xs:=([x]:List aF)) (cs:=[str x]) (vs:=[(0,str x)]) bE iW rfl rfl k1 rfl (by kernel_rfl) rfl rfl rfl ⟨rfl,trivial⟩ (fun n5 x4 (n6:aD G n (aG 9 K n5 1 ([x]:List aF)::aG 93 n a2 a3 a0::jE e r::aG 9 K l m d::L) x4)=>(aJ (aB ⟨fun _=>⟨_,n6⟩,?_⟩)))
           refine aU (i:=13) (by kernel_rfl) rfl ?_;obtain ⟨x5,x6,hm⟩:=aC hm
           refine aQ (vs:=[zS b2 c.trace.length b3]) call30 rfl (bA x6 n6 (f1.mono (zL p o))) ?_
           rintro _ x7 ⟨x8,x9,rfl,n7⟩
           refine aJ (aB ⟨fun _=>⟨_,n7⟩,?_⟩)
           refine aU (i:=16) (by kernel_rfl) rfl ?_;obtain ⟨c0,y0,hm⟩:=aC hm
           have y1:aD G n (aG 9 K n5 1 ([x]:List aF)::aG 9 K x8 x9 x5::aG 93 n a2 a3 a0::jE e r::aG 9 K l m d::L) x7:=(aD.arr 2 [1,0] n7 rfl)
           refine eX (i:=0) bE underlying24 iW rfl rfl y1 rfl (zL (zL (zL (zL y q) V) p) o) (zL (zL (zL (zL y q) V) p) o) y0 rfl rfl rfl rfl (fun _ h=>h) (fun d6 d7 n8 (k4:aD G n (aG 9 K d6 d7 c0::aG 93 n a2 a3 a0::jE e r::aG 9 K l m d::L) n8)=>(aJ (aB ⟨fun _=>⟨_,k4⟩,?_⟩)))
           refine cI (i:=17) rfl (by kernel_rfl) ⟨_,k4⟩ (fun _ _=>fF (vs:=[(0,i64 a5),(1,i64 a9),(2,zS d6 c0.length d7)]) (cs:=[i64 a5,i64 a9,zS d6 c0.length d7]) aDx rfl (by kernel_rfl)) (aU (i:=18) (by kernel_rfl) rfl ?_);obtain ⟨c1,h2,y2,k5⟩:=aD.giveSp k4 (zL (zL (zL (zL y q) V) p) o) .head
           replace k5:aD G c1 (aG 93 n a2 a3 a0::jE e r::aG 9 K l m d::L) n8:=k5
           refine bL (Kt:=c1) (xs:=([⟨a5,a9,c0⟩]:List aS)) (cs:=[i64 a5,i64 a9,zS d6 c0.length d7]) (vs:=[(0,zA #[i64 a5,i64 a9,zS d6 c0.length d7])]) lM sI rfl rfl k5 rfl (by kernel_rfl) rfl rfl rfl ⟨⟨d6,d7,rfl,y2⟩,trivial⟩ (fun y3 y4 (n9:aD G c1 (aG 93 c1 y3 1 ([⟨a5,a9,c0⟩]:List aS)::aG 93 n a2 a3 a0::jE e r::aG 9 K l m d::L) y4)=>(aJ (aB ⟨fun _=>⟨_,(aD.weakK n9 h2)⟩,?_⟩)))
           refine aU (i:=19) (by kernel_rfl) rfl ?_;obtain ⟨o0,y5,hm⟩:=aC hm
           refine wN (i:=0) c1 lM underlying94 sI rfl rfl n9 rfl h2 (zR _) y5 rfl rfl rfl rfl (fun _ _ _ h=>El.one h) (fun o1 o2 y6 (o3:aD G c1 (aG 93 c1 o1 o2 o0::jE e r::aG 9 K l m d::L) y6)=>(aJ (aB ⟨fun _=>⟨_,(aD.weakK o3 h2)⟩,?_⟩)))
           exact cI (i:=20) rfl (by kernel_rfl) ⟨_,(aD.weakK o3 h2)⟩ (fun _ _=>cU (v:=zS o1 o0.length o2) rfl) (cO (by kernel_rfl) aP)
         ·refine bL (Kt:=K) (xs:=([x]:List aF)) (cs:=[str x]) (vs:=[(0,str x)]) bE iW rfl rfl k0 rfl (by kernel_rfl) rfl rfl rfl ⟨rfl,trivial⟩ (fun o4 y7 (o5:aD G n (aG 9 K o4 1 ([x]:List aF)::aG 93 n a2 a3 a0::jE e r::aG 9 K l m d::L) y7)=>(aJ (aB ⟨fun _=>⟨_,o5⟩,?_⟩)))
          refine aU (i:=10) (by kernel_rfl) rfl ?_;obtain ⟨d8,y8,hm⟩:=aC hm
          refine aQ (vs:=[zA (zCa b a7 c8 a10 c11),i64 c.b,str x]) call51 rfl (gV y8 o5 (h9.mono (zL (zL (zL (zL y q) V) p) o)) (h8.mono (zL (zL (zL (zL y q) V) p) o))) ?_
          rintro _ a43 ⟨rfl,o6⟩
          refine aJ (aB ⟨fun _=>⟨_,o6⟩,?_⟩)
          refine aU (i:=13) (by kernel_rfl) rfl ?_;obtain ⟨y9,z0,hm⟩:=aC hm
          refine aQ (vs:=[zS b2 c.trace.length b3]) call30 rfl (bA z0 o6 (f1.mono (zL p o))) ?_
          rintro _ z1 ⟨z2,z3,rfl,o7⟩
          refine aJ (aB ⟨fun _=>⟨_,o7⟩,?_⟩)
          refine aU (i:=16) (by kernel_rfl) rfl ?_;obtain ⟨c3,z4,hm⟩:=aC hm
          have z5:aD G n (aG 9 K o4 1 ([x]:List aF)::aG 9 K z2 z3 y9::aG 93 n a2 a3 a0::jE e r::aG 9 K l m d::L) z1:=(aD.arr 2 [1,0] o7 rfl)
          refine eX (i:=0) bE underlying24 iW rfl rfl z5 rfl (zL (zL (zL (zL y q) V) p) o) (zL (zL (zL (zL y q) V) p) o) z4 rfl rfl rfl rfl (fun _ h=>h) (fun d9 e0 o8 (k6:aD G n (aG 9 K d9 e0 c3::aG 93 n a2 a3 a0::jE e r::aG 9 K l m d::L) o8)=>(aJ (aB ⟨fun _=>⟨_,k6⟩,?_⟩)))
          refine cI (i:=17) rfl (by kernel_rfl) ⟨_,k6⟩ (fun _ _=>fF (vs:=[(0,i64 a5),(1,i64 d8),(2,zS d9 c3.length e0)]) (cs:=[i64 a5,i64 d8,zS d9 c3.length e0]) aDx rfl (by kernel_rfl)) (aU (i:=18) (by kernel_rfl) rfl ?_);obtain ⟨c4,h4,z6,k7⟩:=aD.giveSp k6 (zL (zL (zL (zL y q) V) p) o) .head
          replace k7:aD G c4 (aG 93 n a2 a3 a0::jE e r::aG 9 K l m d::L) o8:=k7
          refine bL (Kt:=c4) (xs:=([⟨a5,d8,c3⟩]:List aS)) (cs:=[i64 a5,i64 d8,zS d9 c3.length e0]) (vs:=[(0,zA #[i64 a5,i64 d8,zS d9 c3.length e0])]) lM sI rfl rfl k7 rfl (by kernel_rfl) rfl rfl rfl ⟨⟨d9,e0,rfl,z6⟩,trivial⟩ (fun z7 z8 (o9:aD G c4 (aG 93 c4 z7 1 ([⟨a5,d8,c3⟩]:List aS)::aG 93 n a2 a3 a0::jE e r::aG 9 K l m d::L) z8)=>(aJ (aB ⟨fun _=>⟨_,(aD.weakK o9 h4)⟩,?_⟩)))
          refine aU (i:=19) (by kernel_rfl) rfl ?_;obtain ⟨p0,z9,hm⟩:=aC hm
          refine wN (i:=0) c4 lM underlying94 sI rfl rfl o9 rfl h4 (zR _) z9 rfl rfl rfl rfl (fun _ _ _ h=>El.one h) (fun p1 p2 a00 (p3:aD G c4 (aG 93 c4 p1 p2 p0::jE e r::aG 9 K l m d::L) a00)=>(aJ (aB ⟨fun _=>⟨_,(aD.weakK p3 h4)⟩,?_⟩)))
          exact cI (i:=20) rfl (by kernel_rfl) ⟨_,(aD.weakK p3 h4)⟩ (fun _ _=>cU (v:=zS p1 p0.length p2) rfl) (cO (by kernel_rfl) aP)
        ·refine bL (Kt:=K) (xs:=([x]:List aF)) (cs:=[str x]) (vs:=[(0,str x)]) bE iW rfl rfl Z rfl (by kernel_rfl) rfl rfl rfl ⟨rfl,trivial⟩ (fun p4 a01 (p5:aD G n (aG 9 K p4 1 ([x]:List aF)::aG 93 n a2 a3 a0::jE e r::aG 9 K l m d::L) a01)=>(aJ (aB ⟨fun _=>⟨_,p5⟩,?_⟩)))
         refine aU (i:=5) (by kernel_rfl) rfl ?_;obtain ⟨e1,a02,hm⟩:=aC hm
         refine aQ (vs:=[zA (zCa a a1 c2 a4 c5),i64 c.a,str x]) call51 rfl (gV a02 p5 (h3.mono (zL (zL (zL (zL y q) V) p) o)) (h6.mono (zL (zL (zL (zL y q) V) p) o))) ?_
         rintro _ a44 ⟨rfl,p6⟩
         refine aJ (aB ⟨fun _=>⟨_,p6⟩,?_⟩)
         refine aU (i:=10) (by kernel_rfl) rfl ?_;obtain ⟨e2,a03,hm⟩:=aC hm
         refine aQ (vs:=[zA (zCa b a7 c8 a10 c11),i64 c.b,str x]) call51 rfl (gV a03 p6 (h9.mono (zL (zL (zL (zL y q) V) p) o)) (h8.mono (zL (zL (zL (zL y q) V) p) o))) ?_
         rintro _ a45 ⟨rfl,p7⟩
         refine aJ (aB ⟨fun _=>⟨_,p7⟩,?_⟩)
         refine aU (i:=13) (by kernel_rfl) rfl ?_;obtain ⟨a04,a05,hm⟩:=aC hm
         refine aQ (vs:=[zS b2 c.trace.length b3]) call30 rfl (bA a05 p7 (f1.mono (zL p o))) ?_
         rintro _ a06 ⟨a07,a08,rfl,p8⟩
         refine aJ (aB ⟨fun _=>⟨_,p8⟩,?_⟩)
         refine aU (i:=16) (by kernel_rfl) rfl ?_;obtain ⟨c6,a09,hm⟩:=aC hm
         have a11:aD G n (aG 9 K p4 1 ([x]:List aF)::aG 9 K a07 a08 a04::aG 93 n a2 a3 a0::jE e r::aG 9 K l m d::L) a06:=(aD.arr 2 [1,0] p8 rfl)
         refine eX (i:=0) bE underlying24 iW rfl rfl a11 rfl (zL (zL (zL (zL y q) V) p) o) (zL (zL (zL (zL y q) V) p) o) a09 rfl rfl rfl rfl (fun _ h=>h) (fun e3 e4 p9 (k8:aD G n (aG 9 K e3 e4 c6::aG 93 n a2 a3 a0::jE e r::aG 9 K l m d::L) p9)=>(aJ (aB ⟨fun _=>⟨_,k8⟩,?_⟩)))
         refine cI (i:=17) rfl (by kernel_rfl) ⟨_,k8⟩ (fun _ _=>fF (vs:=[(0,i64 e1),(1,i64 e2),(2,zS e3 c6.length e4)]) (cs:=[i64 e1,i64 e2,zS e3 c6.length e4]) aDx rfl (by kernel_rfl)) (aU (i:=18) (by kernel_rfl) rfl ?_);obtain ⟨c7,h5,a12,k9⟩:=aD.giveSp k8 (zL (zL (zL (zL y q) V) p) o) .head
         replace k9:aD G c7 (aG 93 n a2 a3 a0::jE e r::aG 9 K l m d::L) p9:=k9
         refine bL (Kt:=c7) (xs:=([⟨e1,e2,c6⟩]:List aS)) (cs:=[i64 e1,i64 e2,zS e3 c6.length e4]) (vs:=[(0,zA #[i64 e1,i64 e2,zS e3 c6.length e4])]) lM sI rfl rfl k9 rfl (by kernel_rfl) rfl rfl rfl ⟨⟨e3,e4,rfl,a12⟩,trivial⟩ (fun a14 a15 (q0:aD G c7 (aG 93 c7 a14 1 ([⟨e1,e2,c6⟩]:List aS)::aG 93 n a2 a3 a0::jE e r::aG 9 K l m d::L) a15)=>(aJ (aB ⟨fun _=>⟨_,(aD.weakK q0 h5)⟩,?_⟩)))
         refine aU (i:=19) (by kernel_rfl) rfl ?_;obtain ⟨q1,a16,hm⟩:=aC hm
         refine wN (i:=0) c7 lM underlying94 sI rfl rfl q0 rfl h5 (zR _) a16 rfl rfl rfl rfl (fun _ _ _ h=>El.one h) (fun q2 q3 a17 (q4:aD G c7 (aG 93 c7 q2 q3 q1::jE e r::aG 9 K l m d::L) a17)=>(aJ (aB ⟨fun _=>⟨_,(aD.weakK q4 h5)⟩,?_⟩)))
         exact cI (i:=20) rfl (by kernel_rfl) ⟨_,(aD.weakK q4 h5)⟩ (fun _ _=>cU (v:=zS q2 q1.length q3) rfl) (cO (by kernel_rfl) aP)
       ·exact aP
   refine aZ (aH (cH (k':=0+0) sJ (eY rfl) u rfl) (aH (bG (t:=0) fK b4 u rfl rfl) (aH (cQ rfl rfl) (aL (v:=zB (decide (c.a < 0))) ?_))))
   rcases aN hm with ⟨b5,hm⟩|⟨b5,hm⟩
   ·refine fZ b5 rfl rfl (aH (cH (k':=0+1) uJ (eY rfl) u rfl) (fZ b5 rfl rfl (aH (bG (t:=1) fK b4 u rfl rfl) (fZ b5 rfl rfl (aH (cQ rfl rfl) (aH (aAT (v:=zB (decide (c.b < 0))) b5 rfl rfl) (aL (v:=zB (decide (c.b < 0))) ?_)))))))
    rcases aN hm with ⟨b6,hm⟩|⟨b6,hm⟩
    ·exact aP
    ·exact eB b6 rfl rfl (aL (v:=Value.map (some e)) (eB b6 rfl rfl (aH (cH (k':=0+0) sJ (eY rfl) u rfl) (eB b6 rfl rfl (aH (bG (t:=0) fK b4 u rfl rfl) (eB b6 rfl rfl (aH (cH (k':=0+1) uJ (eY rfl) u rfl) (eB b6 rfl rfl (aH (bG (t:=1) fK b4 u rfl rfl) (eB b6 rfl rfl (aH (aEe (vs:=[(0,i64 c.a),(1,i64 c.b)]) (cs:=[i64 c.a,i64 c.b]) aLH aLI rfl (by kernel_rfl)) (eB b6 rfl rfl (aH (aJu (kv:=a8) (k:=⟨c.a,c.b⟩) (z:=(false:Bool)) runUnderlying91 aLJ zeroValue4 b4 (i:=1) rfl rfl rfl) (aH (vR (v:=zB ((oL a8 ⟨c.a,c.b⟩).getD false)) b6 rfl rfl) (aK ⟨bW,((oL a8 ⟨c.a,c.b⟩).getD false),hm,rfl,b4⟩)))))))))))))))
   ·exact yI b5 rfl rfl (yI b5 rfl rfl (yI b5 rfl rfl (aH (vR (v:=zB false) b5 rfl rfl) (aL (v:=zB false) (eB (by decide:¬ false=true) rfl rfl (aL (v:=Value.map (some e)) (eB (by decide:¬ false=true) rfl rfl (aH (cH (k':=0+0) sJ (eY rfl) u rfl) (eB (by decide:¬ false=true) rfl rfl (aH (bG (t:=0) fK b4 u rfl rfl) (eB (by decide:¬ false=true) rfl rfl (aH (cH (k':=0+1) uJ (eY rfl) u rfl) (eB (by decide:¬ false=true) rfl rfl (aH (bG (t:=1) fK b4 u rfl rfl) (eB (by decide:¬ false=true) rfl rfl (aH (aEe (vs:=[(0,i64 c.a),(1,i64 c.b)]) (cs:=[i64 c.a,i64 c.b]) aLH aLI rfl (by kernel_rfl)) (eB (by decide:¬ false=true) rfl rfl (aH (aJu (kv:=a8) (k:=⟨c.a,c.b⟩) (z:=(false:Bool)) runUnderlying91 aLJ zeroValue4 b4 (i:=1) rfl rfl rfl) (aH (vR (v:=zB ((oL a8 ⟨c.a,c.b⟩).getD false)) (by decide:¬ false=true) rfl rfl) (aK ⟨bW,((oL a8 ⟨c.a,c.b⟩).getD false),hm,rfl,b4⟩))))))))))))))))))))
  ·exact aP
theorem aBm {spec:bF} {c0:(List aF)} {R:((List (List aF)) × Int)} (hm:rJ spec c0=some R) (hs:aD G K (L) w) (hG:G.lo=0) (h3:bS K a1 c2 spec.L) (h6:bS K a4 c5 spec.E) (h9:bS K a7 c8 c0):
  Calls prog 10 ([zA (zCa spec a1 c2 a4 c5),zS a7 c0.length c8]:List Value).toArray w (eR fun v w'=>∃ f7 f8 e0,v=zT #[zS f7 R.1.length f8,i64 R.2]/\List.length e0=List.length R.1/\aD G K (aG 24 K f7 f8 (cL e0 R.1)::rows [9] e0 R.1::L) w'):=by
 let a3:=(zC spec a1 c2 a4 c5)
 let f9:=aG 24 K none 0 (cL ([]:List (Dp.Hd (List aF))) ([]:List (List aF)))
 refine aR func10 rfl (by kernel_rfl) (by show (2:Nat)<=54;decide) ?_;unfold rJ at hm
 refine aO (fL (v:=zA (zCa spec a1 c2 a4 c5)) (vs:=a3) hs rfl rfl (fun b5 p1 g0=>(aI (v:=zS none 0 0) (aI (v:=i64 0) (aK (aO (aH (gE (us:=a3) cW g0 (i:=0) rfl rfl rfl rfl) (aL (v:=zS a7 c0.length c8) ?_))))))));obtain ⟨a,j0,hm⟩:=aC hm
 refine aQ (vs:=[zA (zCa spec a1 c2 a4 c5),zS a7 c0.length c8]) call16 rfl (kA j0 g0 hG h3 h6 h9) ?_
 rintro _ p2 ⟨a9,r,u,o,p,a5,a6,rfl,a8,j1⟩
 refine aL (v:=zT #[zA (zCa a.1 r u o p),zS a5 a.2.1.length a6,i64 a.2.2]) (aH (bD rfl rfl) (aH (bD rfl rfl) (aH (bD rfl rfl) (aX (vs:=zG) zeroValue27 j1 rfl (fun e1 p3 j2=>(bH (i:=0) (ns:=(zC a.1 r u o p)) (us:=(zC a.1 r u o p)) sizeOf27 j2 rfl rfl rfl rfl rfl (cK rfl) rfl rfl (fun b6 (j3:aD G a9 (box e1 27 (zC a.1 r u o p)::aG 9 K r u a.1.L::aG 46 K o p a.1.E::aG 55 a9 a5 a6 a.2.1::box b5 27 a3::L) b6)=>?_)))))))
 obtain ⟨j4,b0,c7,e2⟩:=aD.giveSp j3 a8 zt1
 replace e2:aD G j4 (box e1 27 (zC a.1 r u o p)::aG 46 K o p a.1.E::aG 55 a9 a5 a6 a.2.1::box b5 27 a3::L) b6:=e2
 obtain ⟨j5,a0,c9,e3⟩:=aD.giveSp e2 (zL a8 b0) zt1
 replace e3:aD G j5 (box e1 27 (zC a.1 r u o p)::aG 55 a9 a5 a6 a.2.1::box b5 27 a3::L) b6:=e3
 obtain ⟨b7,g,b8,c1,_⟩:=aD.lendBp e3 .head
 replace c1:aD G b7 (aG 55 a9 a5 a6 a.2.1::box b5 27 a3::L) b6:=c1
 refine aI (v:=zS a5 a.2.1.length a6) (aI (v:=i64 a.2.2) (aK (aM (aO (aL (v:=i64 a.2.2) (aH (aFE rfl rfl) (aK ?_)))))))
 rcases aN hm with ⟨e4,hm⟩|⟨e4,hm⟩
 ·refine aT e4 rfl (aO (aL (v:=i64 a.2.2) (aI (v:=zS none 0 0) (aI (v:=i64 a.2.2) (aK ?_)))))
  have j6:aD G b7 (f9::rows [9] ([]:List (Dp.Hd (List aF))) ([]:List (List aF))::aG 55 a9 a5 a6 a.2.1::box b5 27 a3::L) b6:=aD.nil (α:=Cells _) (aD.rowsNil (α:=(List aF)) (tys:=[9]) c1) 24 K
  obtain rfl:=zI hm
  exact kX (cC (aGX results10 rfl rfl ⟨none,0,([]:List (Dp.Hd (List aF))),rfl,rfl,(aD.weakK (aD.arr 4 [0,1] j6 rfl) (zL (zL (zL a8 b0) a0) g))⟩))
 ·refine aW e4 rfl (bB (aB (aO (aI (v:=zS none 0 0) (aK (aM (aO (aH (cH (k':=0+3) dF (eY rfl) b8 rfl) (aH (bG (t:=3) iT c1 b8 rfl rfl) (aH (bI (len:=a.1.E.length) cM rfl) (aL (v:=i64 0) (aK (aV [] (fun f w=>∃ e5 b1 d0 d1 d2,Hp.le b7 e5/\qT b1=some R/\f 9=zS d0 b1.length d1/\List.length d2=List.length b1/\aD G e5 (aG 24 K d0 d1 (cL d2 b1)::rows [9] d2 b1::L) w) ?_ ?_)))))))))))))
  ·rintro f p4 ⟨e5,b1,d0,d1,d2,j8,hm,j9,k0,k1⟩
   unfold qT at hm
   refine aB (aO (bC j9 ?_));obtain ⟨p5,p6,k2,p7,k3,k4⟩:=aD.lendD' (i:=0) k1 k0 rfl rfl
   obtain ⟨k5,k6,hm⟩:=aC hm
   refine aQ (vs:=[zS d0 b1.length d1]) call31 rfl (aDm k6 k3 k2) ?_
   rintro _ p8 ⟨g1,g2,k7,rfl,k8,k9⟩
   have l0:=k4 _ _ k9
   refine aI (v:=zS g1 k5.length g2) (aI (v:=i64 0) (aK ?_));obtain rfl:=zI hm
   exact kX (aGX results10 rfl rfl ⟨g1,g2,k7,rfl,k8,(aD.weakK (aD.arr 2 [] l0 rfl) (zL (zL (zL (zL a8 b0) a0) g) j8))⟩)
  have l2:aD G b7 (f9::rows [9] ([]:List (Dp.Hd (List aF))) ([]:List (List aF))::aG 55 a9 a5 a6 a.2.1::box b5 27 a3::L) b6:=aD.nil (α:=Cells _) (aD.rowsNil (α:=(List aF)) (tys:=[9]) c1) 24 K
  obtain ⟨p9,l3,ho⟩:=aC hm
  refine cZ [6,25,26] l3 (fun c d3 f w=>∃ d4 k l b,Hp.le b7 d4/\f 9=zS k c.length l/\f 27=i64 d3/\List.length b=List.length c/\aD G d4 (aG 24 K k l (cL b c)::rows [9] b c::L) w) ?_ ?_
  ·exact ⟨b7,none,0,[],(zR _),rfl,rfl,rfl,(aD.arr 4 [0,1] l2 rfl)⟩
  ·rintro c d3 l4 f q0 hm hr ⟨d4,k,l,b,d,l5,e6,d5,g3⟩
   unfold kV at hm
   refine aO (aH (cQ e6 rfl) (aK (aM ?_)))
   rcases aN hm with ⟨g4,hm⟩|⟨g4,hm⟩
   ·refine aT g4 rfl (bB (aB (aM (cS (aO ?_)))));obtain ⟨q,g5,hm⟩:=aC hm
    refine aH (jF cM rfl (c9.mono (zL g d)) rfl rfl e6 g5) ?_;obtain ⟨q1,l6,l7⟩:=bS.el (sz:=3) rfl c9 g5
    cases l7
    refine aH (eJ (t:=0) (vs:=[i64 q.F,i64 q.B,i64 q.To]) tE g3 (l6.mono (zL g d)) rfl rfl rfl) (aX (vs:=[i64 0,i64 0,i64 0]) zeroValue46 g3 rfl (fun e7 q2 l8=>(bH (i:=0) (ns:=[i64 q.F,i64 q.B,i64 q.To]) (us:=[i64 q.F,i64 q.B,i64 q.To]) sizeOf46 l8 rfl rfl rfl rfl rfl (cK rfl) rfl rfl (fun g6 (e8:aD G d4 (box e7 46 [i64 q.F,i64 q.B,i64 q.To]::aG 24 K k l (cL b c)::rows [9] b c::L) g6)=>(aK (aO (aH (eJ (t:=0) (vs:=(zC a.1 r u o p)) cW e8 (b8.mono d) (eY rfl) rfl rfl) (aH (eJ (t:=0) (vs:=(zC a.1 r u o p)) cW e8 (b8.mono d) (eY rfl) rfl rfl) (aH (oM (vs:=[Value.pointer (some ⟨e7,0,none⟩)]) rfl) ?_)))))))))
    obtain ⟨l9,n,e9,f0,_⟩:=aD.lendBp e8 .head
    replace f0:aD G l9 (aG 24 K k l (cL b c)::rows [9] b c::L) g6:=f0
    obtain ⟨b2,m0,hm⟩:=aC hm
    refine aQ (vs:=[zA (zCa a.1 r u o p),zA (zCa a.1 r u o p),Value.func (.func 29) #[] #[cP (some ⟨e7,0,none⟩) 0]]) call18 rfl (aBl m0 f0 (c7.mono (zL (zL (zL a0 g) d) n)) (c9.mono (zL (zL g d) n)) (c7.mono (zL (zL (zL a0 g) d) n)) (c9.mono (zL (zL g d) n)) e9) ?_
    rintro _ q3 ⟨m,c3,c4,rfl,x,g7,m1⟩
    refine aL (v:=zT #[zS c3 b2.1.length c4,zB b2.2]) (aH (bD rfl rfl) (aH (bD rfl rfl) (aI (v:=zS c3 b2.1.length c4) (aI (v:=zB b2.2) (aK (bR [6,25,26,27] (fun f w=>∃ b9 d6 d7 c6,qU d3 b9=some l4/\f 9=zS d6 b9.length d7/\List.length c6=List.length b9/\aD G m (aG 24 K d6 d7 (cL c6 b9)::rows [9] c6 b9::L) w) ?_ ?_))))))
    ·rintro f q4 ⟨b9,d6,d7,c6,hm,m2,m3,m4⟩
     unfold qU at hm
     exact cT (aB (aZ (aH (eP e6 rfl) (aL (v:=i64 (wr (d3+1))) (aK ⟨_,(zI hm).symm,bW,m,d6,d7,c6,(zL (zL d n) x),m2,rfl,m3,m4⟩)))))
    refine mM (C:=fun w'=>∃ L',aD G m L' w') [] Tryz_mixed (by kernel_rfl) (fun q5 m5=>?_)
    have e:=aD.mono m1 m5
    refine cI (i:=0) rfl (by kernel_rfl) ⟨_,e⟩ (fun _ _=>bJ l5) (cI (i:=1) rfl (by kernel_rfl) ⟨_,e⟩ (fun _ _=>bJ (v:=zS c3 b2.1.length c4) rfl) (cI (i:=3) rfl (by kernel_rfl) ⟨_,e⟩ (fun _ _=>cH (k':=0+2) fT (eY rfl) (b8.mono (zL (zL d n) x)) rfl) (cI (i:=4) rfl (by kernel_rfl) ⟨_,e⟩ (fun _ ⟨_,e⟩=>bG (t:=2) gY e (b8.mono (zL (zL d n) x)) rfl rfl) (cI (i:=5) rfl (by kernel_rfl) ⟨_,e⟩ (fun _ _=>cH (k':=0+1) aAG (eY rfl) (e9.mono x) rfl) (cI (i:=6) rfl (by kernel_rfl) ⟨_,e⟩ (fun _ ⟨_,e⟩=>bG (t:=1) fK e (e9.mono x) rfl rfl) ?_)))))
    obtain ⟨a2,g8,hm⟩:=aC hm
    refine cI (i:=7) rfl (by kernel_rfl) ⟨_,e⟩ (fun _ _=>jF bE rfl (c7.mono (zL (zL (zL (zL a0 g) d) n) x)) rfl rfl rfl g8) ?_;obtain ⟨q6,m6,m7⟩:=bS.el (sz:=1) rfl c7 g8
    cases m7
    refine cI (i:=8) rfl (by kernel_rfl) ⟨_,e⟩ (fun _ ⟨_,e⟩=>bG (t:=0) xB e (m6.mono (zL (zL (zL (zL a0 g) d) n) x)) rfl rfl) (fR (i:=2) (j:=9) (by kernel_rfl) rfl rfl ?_ ?_)
    ·obtain ⟨m8,m9,hm⟩:=aC hm
     refine aQ (vs:=[zS c3 b2.1.length c4]) call30 rfl (bA m9 e g7) ?_
     rintro _ q7 ⟨n0,n1,rfl,g9⟩
     refine aJ (aB ⟨fun _=>⟨_,g9⟩,?_⟩)
     refine aU (i:=9) (by kernel_rfl) rfl (bL (Kt:=K) (xs:=([a2]:List aF)) (cs:=[str a2]) (vs:=[(0,str a2)]) bE iW rfl rfl g9 rfl (by kernel_rfl) rfl rfl rfl ⟨rfl,trivial⟩ (fun n2 n3 (h0:aD G m (aG 9 K n2 1 ([a2]:List aF)::aG 9 K n0 n1 m8::aG 24 K k l (cL b c)::rows [9] b c::L) n3)=>(aJ (aB ⟨fun _=>⟨_,h0⟩,?_⟩))))
     refine aU (i:=10) (by kernel_rfl) rfl ?_;obtain ⟨b3,n4,hm⟩:=aC hm
     refine eX (i:=0) bE underlying24 iW rfl rfl h0 rfl (zL (zL (zL (zL (zL (zL a8 b0) a0) g) d) n) x) (zL (zL (zL (zL (zL (zL a8 b0) a0) g) d) n) x) n4 rfl rfl rfl rfl (fun _ h=>h) (fun y z h1 (h2:aD G m (aG 9 K y z b3::aG 24 K k l (cL b c)::rows [9] b c::L) h1)=>(aJ (aB ⟨fun _=>⟨_,h2⟩,?_⟩)))
     refine aU (i:=11) (by kernel_rfl) rfl ?_
     have n5:aD G m (rows [9] ([(y,z)]:List (Dp.Hd (List aF))) [b3]::aG 24 K k l (cL b c)::rows [9] b c::L) h1:=aD.rowsOne h2
     refine bL (Kt:=K) (xs:=cL ([(y,z)]:List (Dp.Hd (List aF))) ([b3]:List (List aF))) (cs:=[zS y b3.length z]) (vs:=[(0,zS y b3.length z)]) sH aFK rfl rfl n5 rfl (by kernel_rfl) rfl rfl rfl ⟨rfl,trivial⟩ ?_
     intro n6 n7 (h4:aD G m (aG 24 K n6 1 (cL ([(y,z)]:List (Dp.Hd (List aF))) ([b3]:List (List aF)))::rows [9] ([(y,z)]:List (Dp.Hd (List aF))) ([b3]:List (List aF))::aG 24 K k l (cL b c)::rows [9] b c::L) n7)
     refine aJ (aB ⟨fun _=>⟨_,h4⟩,?_⟩)
     refine aU (i:=12) (by kernel_rfl) rfl ?_;obtain ⟨d8,h5,hm⟩:=aC hm
     refine aJs (i:=0) (tys:=[9]) (hds:=b) (hds2:=([(y,z)]:List (Dp.Hd (List aF)))) sH underlying34 aFK rfl rfl h4 d5 rfl rfl rfl h5 rfl rfl rfl rfl ?_
     intro f1 f2 n8 (f3:aD G m (aG 24 K f1 f2 (cL (b++([(y,z)]:List (Dp.Hd (List aF)))) d8)::rows [9] (b++([(y,z)]:List (Dp.Hd (List aF)))) d8::L) n8)
     refine aJ (aB ⟨fun _=>⟨_,f3⟩,?_⟩)
     exact cI (i:=13) rfl (by kernel_rfl) ⟨_,f3⟩ (fun _ _=>cU (v:=zS f1 d8.length f2) rfl) (cO (by kernel_rfl) (aB ⟨bW,d8,f1,f2,(b++([(y,z)]:List (Dp.Hd (List aF)))),hm,rfl,(aHC d5 rfl h5),f3⟩))
    ·refine bL (Kt:=K) (xs:=([a2]:List aF)) (cs:=[str a2]) (vs:=[(0,str a2)]) bE iW rfl rfl e rfl (by kernel_rfl) rfl rfl rfl ⟨rfl,trivial⟩ (fun h7 n9 (h8:aD G m (aG 9 K h7 1 ([a2]:List aF)::aG 24 K k l (cL b c)::rows [9] b c::L) n9)=>(aJ (aB ⟨fun _=>⟨_,h8⟩,?_⟩)))
     refine aU (i:=2) (by kernel_rfl) rfl ?_;obtain ⟨o0,o1,hm⟩:=aC hm
     refine aQ (vs:=[zS c3 b2.1.length c4]) call30 rfl (bA o1 h8 g7) ?_
     rintro _ o2 ⟨o3,o4,rfl,i0⟩
     refine aJ (aB ⟨fun _=>⟨_,i0⟩,?_⟩)
     refine aU (i:=10) (by kernel_rfl) rfl ?_;obtain ⟨b4,o5,hm⟩:=aC hm
     have o6:aD G m (aG 9 K h7 1 ([a2]:List aF)::aG 9 K o3 o4 o0::aG 24 K k l (cL b c)::rows [9] b c::L) o2:=(aD.arr 2 [1,0] i0 rfl)
     refine eX (i:=0) bE underlying24 iW rfl rfl o6 rfl (zL (zL (zL (zL (zL (zL a8 b0) a0) g) d) n) x) (zL (zL (zL (zL (zL (zL a8 b0) a0) g) d) n) x) o5 rfl rfl rfl rfl (fun _ h=>h) (fun V Z i1 (i2:aD G m (aG 9 K V Z b4::aG 24 K k l (cL b c)::rows [9] b c::L) i1)=>(aJ (aB ⟨fun _=>⟨_,i2⟩,?_⟩)))
     refine aU (i:=11) (by kernel_rfl) rfl ?_
     have o7:aD G m (rows [9] ([(V,Z)]:List (Dp.Hd (List aF))) [b4]::aG 24 K k l (cL b c)::rows [9] b c::L) i1:=aD.rowsOne i2
     refine bL (Kt:=K) (xs:=cL ([(V,Z)]:List (Dp.Hd (List aF))) ([b4]:List (List aF))) (cs:=[zS V b4.length Z]) (vs:=[(0,zS V b4.length Z)]) sH aFK rfl rfl o7 rfl (by kernel_rfl) rfl rfl rfl ⟨rfl,trivial⟩ ?_
     intro o8 o9 (i3:aD G m (aG 24 K o8 1 (cL ([(V,Z)]:List (Dp.Hd (List aF))) ([b4]:List (List aF)))::rows [9] ([(V,Z)]:List (Dp.Hd (List aF))) ([b4]:List (List aF))::aG 24 K k l (cL b c)::rows [9] b c::L) o9)
     refine aJ (aB ⟨fun _=>⟨_,i3⟩,?_⟩)
     refine aU (i:=12) (by kernel_rfl) rfl ?_;obtain ⟨d9,i4,hm⟩:=aC hm
     refine aJs (i:=0) (tys:=[9]) (hds:=b) (hds2:=([(V,Z)]:List (Dp.Hd (List aF)))) sH underlying34 aFK rfl rfl i3 d5 rfl rfl rfl i4 rfl rfl rfl rfl ?_
     intro f4 f5 p0 (f6:aD G m (aG 24 K f4 f5 (cL (b++([(V,Z)]:List (Dp.Hd (List aF)))) d9)::rows [9] (b++([(V,Z)]:List (Dp.Hd (List aF)))) d9::L) p0)
     refine aJ (aB ⟨fun _=>⟨_,f6⟩,?_⟩)
     exact cI (i:=13) rfl (by kernel_rfl) ⟨_,f6⟩ (fun _ _=>cU (v:=zS f4 d9.length f5) rfl) (cO (by kernel_rfl) (aB ⟨bW,d9,f4,f5,(b++([(V,Z)]:List (Dp.Hd (List aF)))),hm,rfl,(aHC d5 rfl i4),f6⟩))
   ·exact aP
theorem aGf {a7:(List UInt8)} {R:Bool} (hm:aGx a7=some R) (hs:aD G K (L) w) (hG:G.lo=0) (h3:bS K a1 c2 a7):
  Calls prog 3 ([zS a1 a7.length c2]:List Value).toArray w (eR fun v w'=>v=zB R/\aD G K (L) w'):=by
 let c1:=zG
 refine aR func3 rfl (by kernel_rfl) (by show (1:Nat)<=186;decide) ?_;unfold aGx at hm
 refine aO (aI (v:=zB false) (aK (aM (aO (aL (v:=zS a1 a7.length c2) ?_)))));obtain ⟨r4,q5,hm⟩:=aC hm
 refine aQ (vs:=[zS a1 a7.length c2]) call4 rfl (aFU q5 hs h3) ?_
 rintro _ w6 ⟨rfl,f8⟩
 refine aK ?_
 rcases aN hm with ⟨c8,hm⟩|⟨c8,hm⟩
 ·exact aP
 ·refine aW c8 rfl (bB (aB (aO (aL (v:=zS a1 a7.length c2) ?_))));obtain ⟨a,f9,hm⟩:=aC hm
  refine aQ (vs:=[zS a1 a7.length c2]) call5 rfl (aEv f9 f8 h3) ?_
  rintro _ l8 ⟨e0,b,c,d,e,p,q,r,u,n,o,rfl,b7,a3,a4,c3,c4,a9,g0⟩
  refine aL (v:=zT #[zA (zCa a.1 b c d e),zA (zCa a.2.1 p q r u),zS n a.2.2.length o]) (aH (bD rfl rfl) (aH (bD rfl rfl) (aH (bD rfl rfl) (aX (vs:=c1) zeroValue27 g0 rfl (fun a0 l9 g1=>(aX (vs:=c1) zeroValue27 g1 rfl (fun b0 m0 g2=>(bH (i:=1) (ns:=(zC a.1 b c d e)) (us:=(zC a.1 b c d e)) sizeOf27 g2 rfl rfl rfl rfl rfl (cK rfl) rfl rfl (fun g3 (g4:aD G e0 (box b0 27 c1::box a0 27 (zC a.1 b c d e)::L) g3)=>(bH (i:=0) (ns:=(zC a.2.1 p q r u)) (us:=(zC a.2.1 p q r u)) sizeOf27 g4 rfl rfl rfl rfl rfl (cK rfl) rfl rfl (fun g5 (c5:aD G e0 (box b0 27 (zC a.2.1 p q r u)::box a0 27 (zC a.1 b c d e)::L) g5)=>(aI (v:=zS n a.2.2.length o) (aK (aO (aH (gE (us:=(zC a.1 b c d e)) cW c5 (i:=1) rfl rfl rfl rfl) (aH (gE (us:=(zC a.2.1 p q r u)) cW c5 (i:=0) rfl rfl rfl rfl) (aL (v:=zS n a.2.2.length o) ?_)))))))))))))))))
  obtain ⟨y,g6,hm⟩:=aC hm
  refine aQ (vs:=[zA (zCa a.1 b c d e),zA (zCa a.2.1 p q r u),zS n a.2.2.length o]) call6 rfl (aBx g6 c5 hG a3 a4 c3 c4 a9) ?_
  rintro _ m1 ⟨m2,b8,b9,rfl,g,g7,c6⟩
  refine aL (v:=zT #[zB y.1,zS b8 y.2.1.length b9,str y.2.2.1,i64 y.2.2.2]) (aH (bD rfl rfl) (aH (bD rfl rfl) (aH (bD rfl rfl) (aH (bD rfl rfl) (aI (v:=zB y.1) (aI (v:=zS b8 y.2.1.length b9) (aI (v:=str y.2.2.1) (aI (v:=i64 y.2.2.2) (aK (aO (aH (gE (us:=(zC a.1 b c d e)) cW c6 (i:=1) rfl rfl rfl rfl) (aH (gE (us:=(zC a.1 b c d e)) cW c6 (i:=1) rfl rfl rfl rfl) (aL (v:=zS n a.2.2.length o) ?_)))))))))))))
  obtain ⟨a2,g8,hm⟩:=aC hm
  refine aQ (vs:=[zA (zCa a.1 b c d e),zA (zCa a.1 b c d e),zS n a.2.2.length o]) call6 rfl (aBx g8 c6 hG (a3.mono g) (a4.mono g) (a3.mono g) (a4.mono g) (a9.mono g)) ?_
  rintro _ m3 ⟨e1,e2,e3,rfl,h,m4,m5⟩
  refine aL (v:=zT #[zB a2.1,zS e2 a2.2.1.length e3,str a2.2.2.1,i64 a2.2.2.2]) (aH (bD rfl rfl) (aH (bD rfl rfl) (aH (bD rfl rfl) (aH (bD rfl rfl) (aI (v:=zB a2.1) (aI (v:=zS e2 a2.2.1.length e3) (aI (v:=str a2.2.2.1) (aI (v:=i64 a2.2.2.2) (aK (aM (aM (bR [3,4,5,6,7,8,9,10] (fun f w=>∃ c7,mF a y a2 c7=some R/\f 64=zB c7/\aD G e1 (box b0 27 (zC a.2.1 p q r u)::box a0 27 (zC a.1 b c d e)::L) w) ?_ ?_))))))))))))
  ·rintro f m6 ⟨c7,hm,g9,b4⟩
   unfold mF at hm
   refine aB ?_
   rcases aN hm with ⟨e4,hm⟩|⟨e4,hm⟩
   ·exact aP
   ·refine aW e4 g9 (bB (aB (aM (aO (aL (v:=zB a2.1) (aH (rA rfl) (aK ?_)))))))
    rcases aN hm with ⟨e5,hm⟩|⟨e5,hm⟩
    ·exact aP
    ·refine aW e5 rfl (bB (aB (aM (aO (aL (v:=zB y.1) (aH (rA rfl) (aK ?_)))))))
     rcases aN hm with ⟨c9,hm⟩|⟨c9,hm⟩
     ·refine aT c9 rfl (aO (aH (gE (us:=(zC a.1 b c d e)) cW b4 (i:=1) rfl rfl rfl rfl) (aH (gE (us:=(zC a.2.1 p q r u)) cW b4 (i:=0) rfl rfl rfl rfl) (aL (v:=zS n a.2.2.length o) (aL (v:=zS b8 y.2.1.length b9) ?_)))));obtain ⟨b1,h0,hm⟩:=aC hm
      refine aQ (vs:=[zA (zCa a.1 b c d e),zA (zCa a.2.1 p q r u),zS n a.2.2.length o,zS b8 y.2.1.length b9]) call8 rfl (aAl h0 b4 hG (a3.mono (zL g h)) (a4.mono (zL g h)) (c3.mono (zL g h)) (c4.mono (zL g h)) (a9.mono (zL g h)) (g7.mono h)) ?_
      rintro _ m7 ⟨rfl,m8⟩
      exact aL (v:=zT #[i64 b1.1,i64 b1.2.1,i64 b1.2.2]) (aH (bD rfl rfl) (aH (bD rfl rfl) (aH (bD rfl rfl) (aI (v:=i64 b1.1) (aI (v:=i64 b1.2.1) (aI (v:=i64 b1.2.2) (aK (aM (bR [] (fun f w=>∃ e6,uY e6=some R/\f 2=zB e6/\aD G e1 (L) w) aP aP)))))))))
     ·refine aW c9 rfl (bB (aB (aO (aH (gE (us:=(zC a.1 b c d e)) cW b4 (i:=1) rfl rfl rfl rfl) (aL (v:=zS n a.2.2.length o) ?_)))));obtain ⟨l,h1,hm⟩:=aC hm
      refine aQ (vs:=[zA (zCa a.1 b c d e),zS n a.2.2.length o,i64 2]) call9 rfl (aGe h1 b4 hG (a3.mono (zL g h)) (a4.mono (zL g h)) (a9.mono (zL g h))) ?_
      rintro _ m9 ⟨x,V,Z,rfl,m,h2⟩
      refine aL (v:=zT #[zS V l.1.length Z,i64 l.2]) (aH (bD rfl rfl) (aH (bD rfl rfl) (aI (v:=zS V l.1.length Z) (aI (v:=i64 l.2) (aK (aM (aO (aL (v:=i64 l.2) (aH (aFE rfl rfl) (aK ?_))))))))))
      rcases aN hm with ⟨d0,hm⟩|⟨d0,hm⟩
      ·refine aT d0 rfl (aO (aL (v:=i64 l.2) (aH (nW rfl rfl) (aI (v:=zB (l.2 == 5)) (aK ?_)))));obtain rfl:=zI hm
       exact kX (cC (aCr results3 rfl ⟨rfl,(aD.weakK (aD.arr 3 [] h2 rfl) (zL (zL (zL b7 g) h) m))⟩))
      ·refine aW d0 rfl (bB (aB (aM (aO (aI (v:=i64 0) (aK (aV [3,5,21] (fun f w=>aAf a l=some R/\aD G x (aG 24 x V Z l.1::box a0 27 (zC a.1 b c d e)::L) w) ?_ ?_)))))))
       ·rintro f n0 ⟨hm,e7⟩
        unfold aAf at hm
        refine aB (aO (aH (gE (us:=(zC a.1 b c d e)) cW e7 (i:=1) rfl rfl rfl rfl) (aL (v:=zS n a.2.2.length o) ?_)));obtain ⟨z,h5,hm⟩:=aC hm
        refine aQ (vs:=[zA (zCa a.1 b c d e),zS n a.2.2.length o]) call10 rfl (aBm h5 e7 hG (a3.mono (zL (zL g h) m)) (a4.mono (zL (zL g h) m)) (a9.mono (zL (zL g h) m))) ?_
        rintro _ n1 ⟨b2,b3,c0,rfl,h6,n2⟩
        refine aL (v:=zT #[zS b2 z.1.length b3,i64 z.2]) (aH (bD rfl rfl) (aH (bD rfl rfl) (aI (v:=zS b2 z.1.length b3) (aI (v:=i64 z.2) (aK (aM (aO (aI (v:=i64 0) (aK (aV [21,28] (fun f w=>aAd l z=some R/\aD G x (aG 24 x V Z l.1::L) w) ?_ ?_))))))))))
        ·rintro f n3 ⟨hm,n4⟩
         unfold aAd at hm
         refine aB (aM (bR [] (fun f w=>∃ d1,aAc d1=some R/\f 2=zB d1/\aD G x (L) w) ?_ ?_))
         ·rintro f n5 ⟨d1,hm,h7,h8⟩
          unfold aAc at hm
          refine aB ?_;obtain rfl:=zI hm
          exact kX (aCr results3 rfl ⟨h7,(aD.weakK h8 (zL (zL (zL b7 g) h) m))⟩)
         exact aP
        obtain ⟨n6,i0,ho⟩:=aC hm
        refine cY [3,5,21,27,28] i0 (fun d2 f w=>f 29=i64 d2/\aD G x (aG 24 K b2 b3 (cL c0 z.1)::rows [9] c0 z.1::aG 24 x V Z l.1::box a0 27 (zC a.1 b c d e)::L) w) aP ?_
        ·rintro d2 i1 f n7 hm hr ⟨e8,i2⟩
         unfold aAe at hm
         refine aM (aO (bC e8 (aL (v:=zS b2 z.1.length b3) (aH (bI (len:=z.1.length) sH rfl) (aH (cQ rfl rfl) (aK ?_))))))
         rcases aN hm with ⟨e9,hm⟩|⟨e9,hm⟩
         ·refine aT e9 rfl (bB (aB (aM (cS (aM ?_)))));obtain ⟨i3,b5,f0,n8,j,i4⟩:=aD.lendD' (i:=0) i2 h6 rfl rfl
          refine pE (C:=fun w'=>aD G i3 (aG 24 x V Z l.1::box a0 27 (zC a.1 b c d e)::L) w') Tryz_mixed (by kernel_rfl) (aD.mono j (fN.drew _)) (dR (fun _ j=>gE (us:=(zC a.1 b c d e)) cW j (i:=1) rfl rfl rfl rfl) (dR (fun _ j=>gE (us:=(zC a.1 b c d e)) cW j (i:=1) rfl rfl rfl rfl) (dR (fun _ j=>bJ (v:=zS n a.2.2.length o) rfl) (dR (fun _ j=>bJ (v:=zS b2 z.1.length b3) rfl) (dR (fun _ j=>bJ e8) ?_)))))
          obtain ⟨i5,d3,hm⟩:=aC hm
          have i6:=aHD f0 d3
          refine dR (fun _ j=>fQ sH rfl i6 rfl rfl rfl d3) ?_;obtain ⟨n9,i7,i8⟩:=bS.el (sz:=1) rfl f0 d3
          obtain ⟨i9,j0,rfl,j1⟩:=i8
          refine dR (fun _ j=>bG (t:=0) gY j i7 rfl rfl) ?_;obtain ⟨a5,j2,hm⟩:=aC hm
          refine aMm (vs:=[zA (zCa a.1 b c d e),zA (zCa a.1 b c d e),zS n a.2.2.length o,zS i9 i5.length j0]) (v:=zT #[i64 a5.1,i64 a5.2.1,i64 a5.2.2]) call8 rfl (fun _ j=>(aAl j2 j hG (a3.mono (zL (zL (zL g h) m) b5)) (a4.mono (zL (zL (zL g h) m) b5)) (a3.mono (zL (zL (zL g h) m) b5)) (a4.mono (zL (zL (zL g h) m) b5)) (a9.mono (zL (zL (zL g h) m) b5)) j1)) (dR (fun _ j=>bJ (v:=zT #[i64 a5.1,i64 a5.2.1,i64 a5.2.2]) rfl) (dR (fun _ j=>bD rfl rfl) (dR (fun _ j=>bD rfl rfl) (dR (fun _ j=>bD rfl rfl) (dR (fun _ j=>cU (v:=i64 a5.1) rfl) (dR (fun _ j=>cU (v:=i64 a5.2.1) rfl) (dR (fun _ j=>cU (v:=i64 a5.2.2) rfl) (aCu (fun o0 j3=>?_)))))))))
          have o1:=i4 _ _ j3
          refine aB (aM (bR [3,5,21,27,28,29] (fun f w=>∃ d4,uZ d2 d4=some i1/\f 178=zB d4/\aD G x (aG 24 K b2 b3 (cL c0 z.1)::rows [9] c0 z.1::aG 24 x V Z l.1::box a0 27 (zC a.1 b c d e)::L) w) ?_ ?_))
          ·rintro f o2 ⟨d4,hm,j4,j5⟩
           unfold uZ at hm
           refine aB ?_
           rcases aN hm with ⟨f1,hm⟩|⟨f1,hm⟩
           ·refine aT f1 j4 (aO (aI (v:=zB false) (aK (kX (gO (cC (cC ?_)))))))
            have j6:=hr _ (zI hm).symm
            subst j6
            have hm:(some false)=some R:=ho
            clear hr ho
            obtain rfl:=zI hm
            exact gO (cC (cC (aCr results3 rfl ⟨rfl,(aD.weakK (aD.arr 4 [] j5 rfl) (zL (zL (zL b7 g) h) m))⟩)))
           ·exact aP
          exact aP
         ·exact aP
       obtain ⟨o3,j8,ho⟩:=aC hm
       refine cY [3,4,5,21] j8 (fun d5 f w=>f 23=i64 d5/\aD G x (aG 24 x V Z l.1::box b0 27 (zC a.2.1 p q r u)::box a0 27 (zC a.1 b c d e)::L) w) aP ?_
       ·rintro d5 j9 f o4 hm hr ⟨f2,k0⟩
        unfold aAh at hm
        refine aM (aO (bC f2 (aL (v:=zS V l.1.length Z) (aH (bI (len:=l.1.length) sH rfl) (aH (cQ rfl rfl) (aK ?_))))))
        rcases aN hm with ⟨f3,hm⟩|⟨f3,hm⟩
        ·refine aT f3 rfl (bB (aB (aM (cS (aM ?_)))));obtain ⟨k1,b6,f4,k,k2⟩:=aD.lendSp k0 (zR _) .head
         refine pE (C:=fun w'=>aD G k1 (box b0 27 (zC a.2.1 p q r u)::box a0 27 (zC a.1 b c d e)::L) w') Tryz_mixed (by kernel_rfl) (aD.mono k (fN.drew _)) (dR (fun _ k=>gE (us:=(zC a.1 b c d e)) cW k (i:=1) rfl rfl rfl rfl) (dR (fun _ k=>gE (us:=(zC a.2.1 p q r u)) cW k (i:=0) rfl rfl rfl rfl) (dR (fun _ k=>bJ (v:=zS n a.2.2.length o) rfl) (dR (fun _ k=>bJ (v:=zS V l.1.length Z) rfl) (dR (fun _ k=>bJ f2) ?_)))))
         obtain ⟨k3,d6,hm⟩:=aC hm
         have k4:=aHD f4 d6
         refine dR (fun _ k=>fQ sH rfl k4 rfl rfl rfl d6) ?_;obtain ⟨o5,k5,k6⟩:=bS.el (sz:=1) rfl f4 d6
         obtain ⟨k7,k8,rfl,k9⟩:=k6
         refine dR (fun _ k=>bG (t:=0) gY k k5 rfl rfl) ?_;obtain ⟨a6,l0,hm⟩:=aC hm
         refine aMm (vs:=[zA (zCa a.1 b c d e),zA (zCa a.2.1 p q r u),zS n a.2.2.length o,zS k7 k3.length k8]) (v:=zT #[i64 a6.1,i64 a6.2.1,i64 a6.2.2]) call8 rfl (fun _ k=>(aAl l0 k hG (a3.mono (zL (zL (zL g h) m) b6)) (a4.mono (zL (zL (zL g h) m) b6)) (c3.mono (zL (zL (zL g h) m) b6)) (c4.mono (zL (zL (zL g h) m) b6)) (a9.mono (zL (zL (zL g h) m) b6)) k9)) (dR (fun _ k=>bJ (v:=zT #[i64 a6.1,i64 a6.2.1,i64 a6.2.2]) rfl) (dR (fun _ k=>bD rfl rfl) (dR (fun _ k=>bD rfl rfl) (dR (fun _ k=>bD rfl rfl) (dR (fun _ k=>cU (v:=i64 a6.1) rfl) (dR (fun _ k=>cU (v:=i64 a6.2.1) rfl) (dR (fun _ k=>cU (v:=i64 a6.2.2) rfl) (aCu (fun o6 l1=>?_)))))))))
         have o7:=k2 _ _ l1
         refine aB (aM (bR [3,4,5,21,23] (fun f w=>∃ d7,aAg d5 d7=some j9/\f 139=zB d7/\aD G x (aG 24 x V Z l.1::box b0 27 (zC a.2.1 p q r u)::box a0 27 (zC a.1 b c d e)::L) w) ?_ ?_))
         ·rintro f o8 ⟨d7,hm,l2,l3⟩
          unfold aAg at hm
          refine aB ?_
          rcases aN hm with ⟨f5,hm⟩|⟨f5,hm⟩
          ·refine aT f5 l2 (aO (aI (v:=zB false) (aK (kX (gO (cC (cC ?_)))))))
           have l4:=hr _ (zI hm).symm
           subst l4
           have hm:(some false)=some R:=ho
           clear hr ho
           obtain rfl:=zI hm
           exact gO (cC (cC (aCr results3 rfl ⟨rfl,(aD.weakK (aD.arr 3 [] l3 rfl) (zL (zL (zL b7 g) h) m))⟩)))
          ·exact aP
         exact aP
        ·exact aP
  exact aP
end Gv
