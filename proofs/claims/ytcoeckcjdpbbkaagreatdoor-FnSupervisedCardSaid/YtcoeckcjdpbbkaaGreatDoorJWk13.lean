/- Walks, printed by program. -/
import Derived.Test.YtcoeckcjdpbbkaaGreatDoorJWk11
set_option linter.all false
namespace Gv
open Go.Value renaming slice→zS,bool→zB,agg→zA,tuple→zT
open Gv.Hp renaming le_trans→zL,le_refl→zR
open Go Go.Proofs Go.Proofs.Tryz
set_option maxRecDepth 20000
set_option maxHeartbeats 40000000
variable {G:Env} {K:Hp} {L:List gV} {w:World} {a1 a4:Option Addr} {c2 c5:Nat}
theorem aDB {b4 d9:(List UInt8)} {R:Bool} (hm:aBY b4 d9=some R) (hs:aD G K (L) w) (hG:G.lo=0) (h3:aN K a1 c2 b4) (h6:aN K a4 c5 d9):
  Calls prog 3 ([zS a1 b4.length c2,zS a4 d9.length c5]:List Value).toArray w (dS fun v w'=>v=zB R/\aD G K (L) w'):=by
 let d8:=zG
 let g9:=zK
 refine nT func3 rfl (by kernel_rfl) (by show (2:Nat)<=109;decide) ?_;unfold aBY at hm
 refine bS (bH (v:=zB false) (bF (bI (bS (aU (v:=zS a1 b4.length c2) (aU (v:=zS a4 d9.length c5) ?_))))));obtain ⟨r7,q8,hm⟩:=aB hm
 refine cI (vs:=[zS a1 b4.length c2,zS a4 d9.length c5]) call4 rfl (aIR q8 hs h3 h6) ?_
 rintro _ w9 ⟨rfl,l7⟩
 refine bF ?_
 rcases aI hm with ⟨j8,hm⟩|⟨j8,hm⟩
 ·exact aJ
 ·refine bM j8 rfl (dD (aG (bS (aU (v:=zS a1 b4.length c2) ?_))));obtain ⟨a,l8,hm⟩:=aB hm
  refine cI (vs:=[zS a1 b4.length c2]) call5 rfl (aIa l8 l7 h3) ?_
  rintro _ w31 ⟨e,h,j,k,l,m,n,o,J,V,Z,a0,p,q,r,t,rfl,l9⟩
  refine aU (v:=zT #[zA (zEa a.1 e h j k l m n o),zA (zCa a.2.1 J V Z a0),zA (zCa a.2.2 p q r t)]) (aL (cN rfl rfl) (aL (cN rfl rfl) (aL (cN rfl rfl) (fG (vs:=g9) zeroValue30 l9 rfl (fun b1 w34 m0=>(fG (vs:=d8) zeroValue27 m0 rfl (fun g3 w37 m1=>(fG (vs:=d8) zeroValue27 m1 rfl (fun b2 w40 m2=>(iS (i:=2) (ns:=(zE a.1 e h j k l m n o)) (us:=(zE a.1 e h j k l m n o)) sizeOf30 m2 rfl rfl rfl rfl rfl (lS rfl) rfl rfl (fun m3 (m4:aD G K (box b2 27 d8::box g3 27 d8::box b1 30 (zE a.1 e h j k l m n o)::aF 9 K e h a.1.S.L::aF 90 K j k a.1.S.E::aF 2 K l m a.1.M::aF 9 K n o a.1.C::aF 9 K J V a.2.1.L::aF 90 K Z a0 a.2.1.E::aF 9 K p q a.2.2.L::aF 90 K r t a.2.2.E::L) m3)=>(iS (i:=1) (ns:=(zC a.2.1 J V Z a0)) (us:=(zC a.2.1 J V Z a0)) sizeOf27 m4 rfl rfl rfl rfl rfl (lS rfl) rfl rfl (fun m5 (m6:aD G K (box b2 27 d8::box g3 27 (zC a.2.1 J V Z a0)::box b1 30 (zE a.1 e h j k l m n o)::aF 9 K e h a.1.S.L::aF 90 K j k a.1.S.E::aF 2 K l m a.1.M::aF 9 K n o a.1.C::aF 9 K J V a.2.1.L::aF 90 K Z a0 a.2.1.E::aF 9 K p q a.2.2.L::aF 90 K r t a.2.2.E::L) m5)=>(iS (i:=0) (ns:=(zC a.2.2 p q r t)) (us:=(zC a.2.2 p q r t)) sizeOf27 m6 rfl rfl rfl rfl rfl (lS rfl) rfl rfl (fun m7 (h0:aD G K (box b2 27 (zC a.2.2 p q r t)::box g3 27 (zC a.2.1 J V Z a0)::box b1 30 (zE a.1 e h j k l m n o)::aF 9 K e h a.1.S.L::aF 90 K j k a.1.S.E::aF 2 K l m a.1.M::aF 9 K n o a.1.C::aF 9 K J V a.2.1.L::aF 90 K Z a0 a.2.1.E::aF 9 K p q a.2.2.L::aF 90 K r t a.2.2.E::L) m7)=>(bF (bS (aL (kH (us:=(zE a.1 e h j k l m n o)) aCP h0 (i:=2) rfl rfl rfl rfl) (aL (kH (us:=(zC a.2.1 J V Z a0)) sM h0 (i:=1) rfl rfl rfl rfl) ?_)))))))))))))))))))
  obtain ⟨K48,e0,m8,m9,n0⟩:=aD.lendSp h0 (zR _) zt3
  obtain ⟨K53,e1,n1,n2,n3⟩:=aD.lendSp m9 e0 zt3
  obtain ⟨K58,e2,n4,n5,n6⟩:=aD.lendSp n2 (zL e0 e1) zt3
  obtain ⟨K63,e3,n7,n8,n9⟩:=aD.lendSp n5 (zL (zL e0 e1) e2) zt3
  obtain ⟨K68,e4,o0,o1,o2⟩:=aD.lendSp n8 (zL (zL (zL e0 e1) e2) e3) zt3
  obtain ⟨K73,e5,o3,o4,o5⟩:=aD.lendSp o1 (zL (zL (zL (zL e0 e1) e2) e3) e4) zt3
  obtain ⟨c,o6,hm⟩:=aB hm
  refine cI (vs:=[zA (zEa a.1 e h j k l m n o),zA (zCa a.2.1 J V Z a0)]) call6 rfl (aDA o6 o4 hG (m8.mono (zL (zL (zL (zL e1 e2) e3) e4) e5)) (n1.mono (zL (zL (zL e2 e3) e4) e5)) (n4.mono (zL (zL e3 e4) e5)) (n7.mono (zL e4 e5)) (o0.mono e5) o3) ?_
  rintro _ w84 ⟨a7,a8,a9,b0,rfl,o7⟩
  have o8:=o5 _ _ o7
  have o9:=o2 _ _ o8
  have p0:=n9 _ _ o9
  have p1:=n6 _ _ p0
  have p2:=n3 _ _ p1
  have p3:=n0 _ _ p2
  refine aU (v:=zT #[zA (zCa c.1 a7 a8 a9 b0),i64 c.2]) (aL (cN rfl rfl) (aL (cN rfl rfl) (fG (vs:=d8) zeroValue27 p3 rfl (fun h1 w93 p4=>(iS (i:=0) (ns:=(zC c.1 a7 a8 a9 b0)) (us:=(zC c.1 a7 a8 a9 b0)) sizeOf27 p4 rfl rfl rfl rfl rfl (lS rfl) rfl rfl (fun p5 (g4:aD G K (box h1 27 (zC c.1 a7 a8 a9 b0)::aF 9 K e h a.1.S.L::aF 90 K j k a.1.S.E::aF 2 K l m a.1.M::aF 9 K n o a.1.C::aF 9 K J V a.2.1.L::aF 90 K Z a0 a.2.1.E::aF 9 K a7 a8 c.1.L::aF 90 K a9 b0 c.1.E::box b2 27 (zC a.2.2 p q r t)::box g3 27 (zC a.2.1 J V Z a0)::box b1 30 (zE a.1 e h j k l m n o)::aF 9 K p q a.2.2.L::aF 90 K r t a.2.2.E::L) p5)=>(bH (v:=i64 c.2) (bF (bS (aL (kH (us:=(zE a.1 e h j k l m n o)) aCP g4 (i:=11) rfl rfl rfl rfl) (aL (kH (us:=(zC a.2.1 J V Z a0)) sM g4 (i:=10) rfl rfl rfl rfl) (aL (kH (us:=(zC a.2.2 p q r t)) sM g4 (i:=9) rfl rfl rfl rfl) ?_))))))))))))
  obtain ⟨K97,b5,p6,p7,p8⟩:=aD.lendSp g4 (zR _) zt1
  obtain ⟨b02,b6,p9,q0,q1⟩:=aD.lendSp p7 b5 zt1
  obtain ⟨b03,b7,q2,q3,q4⟩:=aD.lendSp q0 (zL b5 b6) zt1
  obtain ⟨b04,b8,q5,q6,q7⟩:=aD.lendSp q3 (zL (zL b5 b6) b7) zt1
  obtain ⟨b05,b9,q9,r0,r1⟩:=aD.lendSp q6 (zL (zL (zL b5 b6) b7) b8) zt1
  obtain ⟨b06,c0,r2,r3,r4⟩:=aD.lendSp r0 (zL (zL (zL (zL b5 b6) b7) b8) b9) zt1
  obtain ⟨b07,c1,r5,r6,r8⟩:=aD.lendSp r3 (zL (zL (zL (zL (zL b5 b6) b7) b8) b9) c0) zt6
  obtain ⟨b08,c3,r9,s0,s1⟩:=aD.lendSp r6 (zL (zL (zL (zL (zL (zL b5 b6) b7) b8) b9) c0) c1) zt6
  obtain ⟨e6,s2,hm⟩:=aB hm
  refine cI (vs:=[zA (zEa a.1 e h j k l m n o),zA (zCa a.2.1 J V Z a0),zA (zCa a.2.2 p q r t)]) call7 rfl (yX s2 s0 hG (p6.mono (zL (zL (zL (zL (zL (zL b6 b7) b8) b9) c0) c1) c3)) (p9.mono (zL (zL (zL (zL (zL b7 b8) b9) c0) c1) c3)) (q2.mono (zL (zL (zL (zL b8 b9) c0) c1) c3)) (q5.mono (zL (zL (zL b9 c0) c1) c3)) (q9.mono (zL (zL c0 c1) c3)) (r2.mono (zL c1 c3)) (r5.mono c3) r9) ?_
  rintro _ b09 ⟨rfl,s3⟩
  have s4:=s1 _ _ s3
  have s5:=r8 _ _ s4
  have s6:=r4 _ _ s5
  have s7:=r1 _ _ s6
  have s8:=q7 _ _ s7
  have s9:=q4 _ _ s8
  have t0:=q1 _ _ s9
  have g5:=p8 _ _ t0
  refine bH (v:=zB e6) (bF (bI (bS (aU (v:=i64 c.2) (aL (aMg rfl rfl) (bF ?_))))))
  rcases aI hm with ⟨j9,hm⟩|⟨j9,hm⟩
  ·exact aJ
  ·refine bM j9 rfl (dD (aG (bI (bS (aU (v:=i64 c.2) (aL (aMg rfl rfl) (bF ?_)))))))
   rcases aI hm with ⟨k0,hm⟩|⟨k0,hm⟩
   ·exact aJ
   ·refine bM k0 rfl (dD (aG (bI (bI (aW [5,7,8,10] (fun f w=>∃ h2,rR a c e6 h2=some R/\f 54=zB h2/\aD G K (aF 9 K e h a.1.S.L::aF 90 K j k a.1.S.E::aF 2 K l m a.1.M::aF 9 K n o a.1.C::aF 9 K p q a.2.2.L::aF 90 K r t a.2.2.E::box h1 27 (zC c.1 a7 a8 a9 b0)::aF 9 K a7 a8 c.1.L::aF 90 K a9 b0 c.1.E::box b2 27 (zC a.2.2 p q r t)::box b1 30 (zE a.1 e h j k l m n o)::L) w) ?_ ?_)))))
    ·rintro f b10 ⟨h2,hm,t1,h4⟩
     unfold rR at hm
     refine aG ?_
     rcases aI hm with ⟨k1,hm⟩|⟨k1,hm⟩
     ·exact aJ
     ·refine bM k1 t1 (dD (aG (bS (aL (kH (us:=(zE a.1 e h j k l m n o)) aCP h4 (i:=10) rfl rfl rfl rfl) (aL (kH (us:=(zC c.1 a7 a8 a9 b0)) sM h4 (i:=6) rfl rfl rfl rfl) ?_)))));obtain ⟨b11,e7,t2,t3,t4⟩:=aD.lendSp h4 (zR _) .head
      obtain ⟨b12,e8,t5,t6,t7⟩:=aD.lendSp t3 e7 .head
      obtain ⟨b13,e9,t8,t9,u0⟩:=aD.lendSp t6 (zL e7 e8) .head
      obtain ⟨b14,f0,u1,u2,u3⟩:=aD.lendSp t9 (zL (zL e7 e8) e9) .head
      obtain ⟨b15,f1,u4,u5,u6⟩:=aD.lendSp u2 (zL (zL (zL e7 e8) e9) f0) zt3
      obtain ⟨b16,f2,u7,u8,u9⟩:=aD.lendSp u5 (zL (zL (zL (zL e7 e8) e9) f0) f1) zt3
      obtain ⟨b,v0,hm⟩:=aB hm
      refine cI (vs:=[zA (zEa a.1 e h j k l m n o),zA (zCa c.1 a7 a8 a9 b0)]) call8 rfl (sU v0 u8 hG (t2.mono (zL (zL (zL (zL e8 e9) f0) f1) f2)) (t5.mono (zL (zL (zL e9 f0) f1) f2)) (t8.mono (zL (zL f0 f1) f2)) (u1.mono (zL f1 f2)) (u4.mono f2) u7) ?_
      rintro _ b17 ⟨u,x,y,z,a2,a3,a5,a6,h5,h7,k2,rfl,b18,v1⟩
      have v2:=u9 _ _ v1
      have v3:=u6 _ _ v2
      have v4:=u3 _ _ v3
      have v5:=u0 _ _ v4
      have v6:=t7 _ _ v5
      have v7:=t4 _ _ v6
      refine aU (v:=zT #[zA (zEa b.1 u x y z a2 a3 a5 a6),zS h5 b.2.1.length h7,i64 b.2.2]) (aL (cN rfl rfl) (aL (cN rfl rfl) (aL (cN rfl rfl) (fG (vs:=g9) zeroValue30 v7 rfl (fun g6 b19 v8=>(iS (i:=0) (ns:=(zE b.1 u x y z a2 a3 a5 a6)) (us:=(zE b.1 u x y z a2 a3 a5 a6)) sizeOf30 v8 rfl rfl rfl rfl rfl (lS rfl) rfl rfl (fun v9 (k3:aD G K (box g6 30 (zE b.1 u x y z a2 a3 a5 a6)::aF 9 K e h a.1.S.L::aF 90 K j k a.1.S.E::aF 2 K l m a.1.M::aF 9 K n o a.1.C::aF 9 K a7 a8 c.1.L::aF 90 K a9 b0 c.1.E::aF 9 K u x b.1.S.L::aF 90 K y z b.1.S.E::aF 2 K a2 a3 b.1.M::aF 9 K a5 a6 b.1.C::aF 28 K h5 h7 (aY k2 b.2.1)::rows [2] k2 b.2.1::aF 9 K p q a.2.2.L::aF 90 K r t a.2.2.E::box h1 27 (zC c.1 a7 a8 a9 b0)::box b2 27 (zC a.2.2 p q r t)::box b1 30 (zE a.1 e h j k l m n o)::L) v9)=>(bH (v:=zS h5 b.2.1.length h7) (bH (v:=i64 b.2.2) (bF (bI (bI (aW [5,7,10,11] (fun f w=>∃ h8,rQ a e6 b h8=some R/\f 68=zB h8/\aD G K (box g6 30 (zE b.1 u x y z a2 a3 a5 a6)::aF 9 K e h a.1.S.L::aF 90 K j k a.1.S.E::aF 2 K l m a.1.M::aF 9 K n o a.1.C::aF 9 K u x b.1.S.L::aF 90 K y z b.1.S.E::aF 2 K a2 a3 b.1.M::aF 9 K a5 a6 b.1.C::aF 9 K p q a.2.2.L::aF 90 K r t a.2.2.E::box b2 27 (zC a.2.2 p q r t)::box b1 30 (zE a.1 e h j k l m n o)::L) w) ?_ ?_)))))))))))))
      ·rintro f b20 ⟨h8,hm,w0,k4⟩
       unfold rQ at hm
       refine aG ?_
       rcases aI hm with ⟨k5,hm⟩|⟨k5,hm⟩
       ·exact aJ
       ·refine bM k5 w0 (dD (aG (bS (aL (kH (us:=(zE b.1 u x y z a2 a3 a5 a6)) aCP k4 (i:=0) rfl rfl rfl rfl) ?_))));obtain ⟨b21,h9,w1,w2,w3⟩:=aD.lendSp k4 (zR _) zt5
        obtain ⟨b22,i0,w4,w5,w6⟩:=aD.lendSp w2 h9 zt5
        obtain ⟨b23,i1,w7,w8,x0⟩:=aD.lendSp w5 (zL h9 i0) zt5
        obtain ⟨b24,i2,x1,x2,x3⟩:=aD.lendSp w8 (zL (zL h9 i0) i1) zt5
        obtain ⟨g7,x4,hm⟩:=aB hm
        refine cI (vs:=[zA (zEa b.1 u x y z a2 a3 a5 a6)]) call10 rfl (aCk x4 x2 hG (w1.mono (zL (zL i0 i1) i2)) (w4.mono (zL i1 i2)) (w7.mono i2) x1) ?_
        rintro _ b25 ⟨k6,k7,rfl,x5⟩
        have x6:=x3 _ _ x5
        have x7:=x0 _ _ x6
        have x8:=w6 _ _ x7
        have b26:=w3 _ _ x8
        refine aU (v:=zT #[zS k6 g7.1.length k7,i64 g7.2]) (aL (cN rfl rfl) (aL (cN rfl rfl) (bH (v:=zS k6 g7.1.length k7) (bH (v:=i64 g7.2) (bF (bI (bI (aW [5,7,10,11] (fun f w=>∃ i3,rP a e6 b i3=some R/\f 80=zB i3/\aD G K (aF 9 K u x b.1.S.L::aF 90 K y z b.1.S.E::aF 2 K a2 a3 b.1.M::aF 9 K a5 a6 b.1.C::box g6 30 (zE b.1 u x y z a2 a3 a5 a6)::aF 9 K e h a.1.S.L::aF 90 K j k a.1.S.E::aF 2 K l m a.1.M::aF 9 K n o a.1.C::aF 9 K p q a.2.2.L::aF 90 K r t a.2.2.E::box b2 27 (zC a.2.2 p q r t)::box b1 30 (zE a.1 e h j k l m n o)::L) w) ?_ ?_))))))))
        ·rintro f b27 ⟨i3,hm,x9,i4⟩
         unfold rP at hm
         refine aG ?_
         rcases aI hm with ⟨k8,hm⟩|⟨k8,hm⟩
         ·exact aJ
         ·refine bM k8 x9 (dD (aG (bI (bS (aU (v:=zB e6) (aL (aHw rfl) (bF ?_)))))))
          rcases aI hm with ⟨k9,hm⟩|⟨k9,hm⟩
          ·exact aJ
          ·refine bM k9 rfl (dD (aG (bS (aL (kH (us:=(zE a.1 e h j k l m n o)) aCP i4 (i:=12) rfl rfl rfl rfl) (aL (kH (us:=(zC a.2.2 p q r t)) sM i4 (i:=11) rfl rfl rfl rfl) ?_)))));obtain ⟨b28,f3,y0,y1,y2⟩:=aD.lendSp i4 (zR _) zt5
           obtain ⟨b29,f4,y3,y4,y5⟩:=aD.lendSp y1 f3 zt5
           obtain ⟨b30,f5,y6,y7,y8⟩:=aD.lendSp y4 (zL f3 f4) zt5
           obtain ⟨b31,f6,y9,z0,z1⟩:=aD.lendSp y7 (zL (zL f3 f4) f5) zt5
           obtain ⟨b32,f7,z2,z3,z4⟩:=aD.lendSp z0 (zL (zL (zL f3 f4) f5) f6) zt5
           obtain ⟨b34,f8,z5,z6,z7⟩:=aD.lendSp z3 (zL (zL (zL (zL f3 f4) f5) f6) f7) zt5
           obtain ⟨d,z8,hm⟩:=aB hm
           refine cI (vs:=[zA (zEa a.1 e h j k l m n o),zA (zCa a.2.2 p q r t)]) call8 rfl (sU z8 z6 hG (y0.mono (zL (zL (zL (zL f4 f5) f6) f7) f8)) (y3.mono (zL (zL (zL f5 f6) f7) f8)) (y6.mono (zL (zL f6 f7) f8)) (y9.mono (zL f7 f8)) (z2.mono f8) z5) ?_
           rintro _ b35 ⟨c4,c6,c7,c8,f9,g0,g1,g2,i5,i6,l0,rfl,b37,z9⟩
           have a00:=z7 _ _ z9
           have a01:=z4 _ _ a00
           have a02:=z1 _ _ a01
           have a03:=y8 _ _ a02
           have a04:=y5 _ _ a03
           have a05:=y2 _ _ a04
           refine aU (v:=zT #[zA (zEa d.1 c4 c6 c7 c8 f9 g0 g1 g2),zS i5 d.2.1.length i6,i64 d.2.2]) (aL (cN rfl rfl) (aL (cN rfl rfl) (aL (cN rfl rfl) (fG (vs:=g9) zeroValue30 a05 rfl (fun a06 b38 a07=>(iS (i:=0) (ns:=(zE d.1 c4 c6 c7 c8 f9 g0 g1 g2)) (us:=(zE d.1 c4 c6 c7 c8 f9 g0 g1 g2)) sizeOf30 a07 rfl rfl rfl rfl rfl (lS rfl) rfl rfl (fun a08 (i7:aD G K (box a06 30 (zE d.1 c4 c6 c7 c8 f9 g0 g1 g2)::aF 9 K e h a.1.S.L::aF 90 K j k a.1.S.E::aF 2 K l m a.1.M::aF 9 K n o a.1.C::aF 9 K p q a.2.2.L::aF 90 K r t a.2.2.E::aF 9 K c4 c6 d.1.S.L::aF 90 K c7 c8 d.1.S.E::aF 2 K f9 g0 d.1.M::aF 9 K g1 g2 d.1.C::aF 28 K i5 i6 (aY l0 d.2.1)::rows [2] l0 d.2.1::aF 9 K u x b.1.S.L::aF 90 K y z b.1.S.E::aF 2 K a2 a3 b.1.M::aF 9 K a5 a6 b.1.C::box g6 30 (zE b.1 u x y z a2 a3 a5 a6)::box b2 27 (zC a.2.2 p q r t)::box b1 30 (zE a.1 e h j k l m n o)::L) a08)=>(bH (v:=zS i5 d.2.1.length i6) (bH (v:=i64 d.2.2) (bF (bI (bS (aU (v:=i64 d.2.2) (aL (aMg rfl rfl) (bF ?_)))))))))))))))
           rcases aI hm with ⟨l1,hm⟩|⟨l1,hm⟩
           ·exact aJ
           ·refine bM l1 rfl (dD (aG (bS (aL (cE (t':=0) aCA rfl rfl) (aL (kH (us:=(zC d.1.S c4 c6 c7 c8)) sM i7 (i:=0) rfl rfl rfl rfl) (aL (cE (t':=0) aCA rfl rfl) (aL (kH (us:=(zC b.1.S u x y z)) sM i7 (i:=17) rfl rfl rfl rfl) ?_)))))));obtain ⟨b40,i8,a09,a10,a11⟩:=aD.lendSp i7 (zR _) zt7
            obtain ⟨b41,i9,a12,a13,a14⟩:=aD.lendSp a10 i8 zt7
            obtain ⟨b42,j0,a16,a18,a20⟩:=aD.lendSp a13 (zL i8 i9) zt11
            obtain ⟨b43,j1,a22,a24,a26⟩:=aD.lendSp a18 (zL (zL i8 i9) j0) zt11
            obtain ⟨g8,a28,hm⟩:=aB hm
            refine cI (vs:=[zA (zCa d.1.S c4 c6 c7 c8),zA (zCa b.1.S u x y z),i64 0]) call11 rfl (aGo a28 a24 hG (a09.mono (zL (zL i9 j0) j1)) (a12.mono (zL j0 j1)) (a16.mono j1) a22) ?_
            rintro _ b44 ⟨rfl,a30⟩
            have a31:=a26 _ _ a30
            have a32:=a20 _ _ a31
            have a33:=a14 _ _ a32
            have b45:=a11 _ _ a33
            exact aU (v:=zT #[zB g8.1,i64 g8.2]) (aL (cN rfl rfl) (aL (cN rfl rfl) (bH (v:=zB g8.1) (bH (v:=i64 g8.2) (bF (bI (aW [] (fun f w=>∃ l2,wR l2=some R/\f 4=zB l2/\aD G K (L) w) aJ aJ)))))))
        exact aJ
      refine cK (aU (v:=i64 b.2.2) (aL (R_neq rfl rfl) (aU (v:=zB (b.2.2 != 0)) ?_)))
      rcases aI hm with ⟨j2,hm⟩|⟨j2,hm⟩
      ·exact aJ
      ·refine kG j2 rfl rfl (aL (kH (us:=(zE b.1 u x y z a2 a3 a5 a6)) aCP k3 (i:=0) rfl rfl rfl rfl) (kG j2 rfl rfl ?_));obtain ⟨b46,j3,a34,a35,a36⟩:=aD.lendSp k3 (zR _) zt7
       obtain ⟨b47,j4,a37,a38,a39⟩:=aD.lendSp a35 j3 zt7
       obtain ⟨b48,j5,a40,a41,a42⟩:=aD.lendSp a38 (zL j3 j4) zt7
       obtain ⟨b49,j6,a43,a44,a45⟩:=aD.lendSp a41 (zL (zL j3 j4) j5) zt7
       obtain ⟨b50,a46,hm⟩:=aB hm
       refine cI (vs:=[zA (zEa b.1 u x y z a2 a3 a5 a6)]) call9 rfl (wT a46 a44 hG (a34.mono (zL (zL j4 j5) j6)) (a37.mono (zL j5 j6)) (a40.mono j6) a43) ?_
       rintro _ b51 ⟨rfl,a47⟩
       have a48:=a45 _ _ a47
       have a49:=a42 _ _ a48
       have a50:=a39 _ _ a49
       have b52:=a36 _ _ a50
       exact aJ
    refine cK (aU (v:=i64 c.2) (aL (R_neq rfl rfl) (aU (v:=zB (c.2 != 0)) ?_)))
    rcases aI hm with ⟨c9,hm⟩|⟨c9,hm⟩
    ·exact aJ
    ·refine kG c9 rfl rfl (aL (kH (us:=(zE a.1 e h j k l m n o)) aCP g5 (i:=13) rfl rfl rfl rfl) (kG c9 rfl rfl (aL (kH (us:=(zC a.2.1 J V Z a0)) sM g5 (i:=12) rfl rfl rfl rfl) (kG c9 rfl rfl (aL (kH (us:=(zC c.1 a7 a8 a9 b0)) sM g5 (i:=8) rfl rfl rfl rfl) (kG c9 rfl rfl ?_))))));obtain ⟨b53,d0,a51,a52,a53⟩:=aD.lendSp g5 (zR _) .head
     obtain ⟨b54,d1,a54,a55,a56⟩:=aD.lendSp a52 d0 .head
     obtain ⟨b55,d2,a57,a58,a59⟩:=aD.lendSp a55 (zL d0 d1) .head
     obtain ⟨b56,d3,a60,a61,a62⟩:=aD.lendSp a58 (zL (zL d0 d1) d2) .head
     obtain ⟨b57,d4,a63,a64,a65⟩:=aD.lendSp a61 (zL (zL (zL d0 d1) d2) d3) .head
     obtain ⟨b58,d5,a66,a67,a68⟩:=aD.lendSp a64 (zL (zL (zL (zL d0 d1) d2) d3) d4) .head
     obtain ⟨b59,d6,a69,a70,a71⟩:=aD.lendSp a67 (zL (zL (zL (zL (zL d0 d1) d2) d3) d4) d5) zt3
     obtain ⟨b60,d7,a72,a73,a74⟩:=aD.lendSp a70 (zL (zL (zL (zL (zL (zL d0 d1) d2) d3) d4) d5) d6) zt3
     obtain ⟨l3,a75,hm⟩:=aB hm
     refine cI (vs:=[zA (zEa a.1 e h j k l m n o),zA (zCa a.2.1 J V Z a0),zA (zCa c.1 a7 a8 a9 b0)]) call7 rfl (yX a75 a73 hG (a51.mono (zL (zL (zL (zL (zL (zL d1 d2) d3) d4) d5) d6) d7)) (a54.mono (zL (zL (zL (zL (zL d2 d3) d4) d5) d6) d7)) (a57.mono (zL (zL (zL (zL d3 d4) d5) d6) d7)) (a60.mono (zL (zL (zL d4 d5) d6) d7)) (a63.mono (zL (zL d5 d6) d7)) (a66.mono (zL d6 d7)) (a69.mono d7) a72) ?_
     rintro _ b61 ⟨rfl,a76⟩
     have a77:=a74 _ _ a76
     have a78:=a71 _ _ a77
     have a79:=a68 _ _ a78
     have a81:=a65 _ _ a79
     have a83:=a62 _ _ a81
     have a84:=a59 _ _ a83
     have a85:=a56 _ _ a84
     have a86:=a53 _ _ a85
     exact kG c9 rfl rfl (aL (aHw rfl) (aL (aEc (v:=zB (!l3)) c9 rfl rfl) (bF ⟨aR,!l3,hm,rfl,(aD.arr 13 [0,1,2,3,8,9,10,6,7,11] a86 rfl)⟩)))
end Gv
