/- Walks, printed by program. -/
import Derived.Test.YtfhgggimcgajdaaGreatDoorJWk9
set_option linter.all false
namespace Gv
open Gv.Hp renaming le_refl→zR
open Go.Value renaming slice→zS,bool→zB,agg→zA
open Option.some renaming inj→zI
open Gv.Hp renaming le_trans→zL
open Go Go.Proofs Go.Proofs.Tryz
set_option maxRecDepth 20000
set_option maxHeartbeats 40000000
variable {G:qG} {K:Hp} {L:List iU} {w:World} {a1 a4 a7 a10 a13:Option Addr} {c2 c5 c8 c11 c14:Nat}
theorem aFC {l:bZ} {c0 c1 c3:Int} {R:Bool} (hm:rC l c0 c1 c3=some R) (hs:aM G K (L) w) (hG:G.lo=0) (h3:bY K a1 c2 l.Definitions) (h6:bY K a4 c5 l.Components) (h9:bY K a7 c8 l.Meetings) (f2:bY K a10 c11 l.Allowed) (f3:bY K a13 c14 l.Hidden):
  Calls prog 3 ([zA #[zS a1 l.Definitions.length c2,zS a4 l.Components.length c5,zS a7 l.Meetings.length c8,zS a10 l.Allowed.length c11,zS a13 l.Hidden.length c14],i64 c0,i64 c1,i64 c3]:List Value).toArray w (eK fun v w'=>v=zB R/\aM G K (L) w'):=by
 let y:=[zS a1 l.Definitions.length c2,zS a4 l.Components.length c5,zS a7 l.Meetings.length c8,zS a10 l.Allowed.length c11,zS a13 l.Hidden.length c14]
 let f9:=[zA #[zS a1 l.Definitions.length c2,zS a4 l.Components.length c5,zS a7 l.Meetings.length c8,zS a10 l.Allowed.length c11,zS a13 l.Hidden.length c14]]
 refine aP func3 rfl (by kernel_rfl) (by show (4:Nat)<=148;decide) ?_;unfold rC at hm
 refine aJ (dM (v:=zA #[zS a1 l.Definitions.length c2,zS a4 l.Components.length c5,zS a7 l.Meetings.length c8,zS a10 l.Allowed.length c11,zS a13 l.Hidden.length c14]) (vs:=y) hs rfl rfl (fun b2 w17 m6=>(aD (v:=zB false) (aF (aJ (aD (v:=i64 1048576) (aF (aJ (aA (fQ (us:=y) ag_27 m6 (i:=0) rfl rfl rfl rfl) (aG (v:=i64 1048576) ?_))))))))));obtain ⟨m7,p7,hm⟩:=aC hm
 refine aQ (vs:=[zA #[zS a1 l.Definitions.length c2,zS a4 l.Components.length c5,zS a7 l.Meetings.length c8,zS a10 l.Allowed.length c11,zS a13 l.Hidden.length c14],i64 1048576]) call4 rfl (aKX p7 m6 h3 h6 h9 f2 f3) ?_
 rintro _ w21 ⟨rfl,i3⟩
 refine aD (v:=i64 m7) (aF (aN (aJ (aG (v:=i64 m7) (aA (cF rfl rfl) (aF ?_))))))
 rcases aH hm with ⟨i4,hm⟩|⟨i4,hm⟩
 ·refine aL i4 rfl (aJ (aD (v:=zB true) (aF ?_)));obtain rfl:=zI hm
  exact aX (aK (aO results3 rfl ⟨rfl,(aM.arr 1 [] i3 rfl)⟩))
 ·refine aI i4 rfl (aW (aB (aJ (aA (fQ (us:=y) ag_27 i3 (i:=0) rfl rfl rfl rfl) ?_))));obtain ⟨o,p9,hm⟩:=aC hm
  refine aQ (vs:=f9) call6 rfl (xZ p9 i3 h3 h6 h9 f2 f3) ?_
  rintro _ f4 ⟨q0,q1,b36,m8,m9,n0,i5,i6,g0,g1,f5,f6,rfl,q2,q3,q4⟩
  refine aG (v:=i64 c0) (aG (v:=i64 c1) (aG (v:=i64 c3) ?_));obtain ⟨q5,h,q6,_,i7,_⟩:=aM.lendD' (i:=0) q4 q2 rfl rfl
  replace i7:aM G q5 (bN 100 K m8 m9 (bK n0 o.Components)::rows [2] n0 o.Components::bN 107 K i5 i6 o.Meetings::bN 9 K g0 g1 o.Allowed::bN 9 K f5 f6 o.Hidden::box b2 27 y::L) f4:=i7
  obtain ⟨q7,b,q8,_,i8,_⟩:=aM.lendD' (i:=0) i7 q3 rfl rfl
  replace i8:aM G q7 (bN 107 K i5 i6 o.Meetings::bN 9 K g0 g1 o.Allowed::bN 9 K f5 f6 o.Hidden::box b2 27 y::L) f4:=i8
  obtain ⟨q9,c,r0,i9⟩:=aM.giveSp i8 (zL h b) .head
  replace i9:aM G q9 (bN 9 K g0 g1 o.Allowed::bN 9 K f5 f6 o.Hidden::box b2 27 y::L) f4:=i9
  obtain ⟨r1,d,r2,j0⟩:=aM.giveSp i9 (zL (zL h b) c) .head
  replace j0:aM G r1 (bN 9 K f5 f6 o.Hidden::box b2 27 y::L) f4:=j0
  obtain ⟨r3,e,r4,j1⟩:=aM.giveSp j0 (zL (zL (zL h b) c) d) .head
  replace j1:aM G r3 (box b2 27 y::L) f4:=j1
  obtain ⟨m,r5,hm⟩:=aC hm
  refine aQ (vs:=[zA #[zS q0 o.Definitions.length q1,zS m8 o.Components.length m9,zS i5 o.Meetings.length i6,zS g0 o.Allowed.length g1,zS f5 o.Hidden.length f6],i64 c0,i64 c1,i64 c3]) call5 rfl (aKe (s_:=⟨o.Definitions,o.Components,o.Meetings,o.Allowed,o.Hidden⟩) r5 j1 (q6.mono (zL (zL (zL b c) d) e)) (q8.mono (zL (zL c d) e)) (r0.mono (zL d e)) (r2.mono e) r4) ?_
  rintro _ w73 ⟨d4,d5,d6,d7,d8,rfl,j,j2,j3,n1⟩
  refine aG (v:=Value.tuple #[zS d5 m.1.length d6,zS d7 m.2.1.length d8,i64 m.2.2]) (aA (cJ rfl rfl) (aA (cJ rfl rfl) (aA (cJ rfl rfl) (aD (v:=zS d5 m.1.length d6) (aD (v:=zS d7 m.2.1.length d8) (aD (v:=i64 m.2.2) (aF (aJ (aA (fQ (us:=y) ag_27 n1 (i:=0) rfl rfl rfl rfl) ?_)))))))));obtain ⟨a,r6,hm⟩:=aC hm
  refine aQ (vs:=f9) call6 rfl (xZ r6 n1 (h3.mono (zL (zL (zL (zL (zL h b) c) d) e) j)) (h6.mono (zL (zL (zL (zL (zL h b) c) d) e) j)) (h9.mono (zL (zL (zL (zL (zL h b) c) d) e) j)) (f2.mono (zL (zL (zL (zL (zL h b) c) d) e) j)) (f3.mono (zL (zL (zL (zL (zL h b) c) d) e) j))) ?_
  rintro _ w91 ⟨z,J,d9,V,O,e0,a0,a2,a3,a5,a6,a8,rfl,j4,j5,r7⟩
  refine eA (vs:=[zS none 0 0,zS none 0 0,zS none 0 0,zS none 0 0,zS none 0 0]) zeroValue37 r7 rfl (fun g2 w94 r8=>(eD (i:=0) (ns:=[zS z a.Definitions.length J,zS V a.Components.length O,zS a0 a.Meetings.length a2,zS a3 a.Allowed.length a5,zS a6 a.Hidden.length a8]) (us:=[zS z a.Definitions.length J,zS V a.Components.length O,zS a0 a.Meetings.length a2,zS a3 a.Allowed.length a5,zS a6 a.Hidden.length a8]) sizeOf37 r8 rfl rfl rfl rfl rfl (gJ rfl) rfl rfl (fun r9 (n2:aM G d4 (box g2 37 [zS z a.Definitions.length J,zS V a.Components.length O,zS a0 a.Meetings.length a2,zS a3 a.Allowed.length a5,zS a6 a.Hidden.length a8]::bN 104 K z J (bK d9 a.Definitions)::rows [152,190,224] d9 a.Definitions::bN 100 K V O (bK e0 a.Components)::rows [2] e0 a.Components::bN 107 K a0 a2 a.Meetings::bN 9 K a3 a5 a.Allowed::bN 9 K a6 a8 a.Hidden::box b2 27 y::L) r9)=>(aF (aJ (aA (fQ (us:=[zS z a.Definitions.length J,zS V a.Components.length O,zS a0 a.Meetings.length a2,zS a3 a.Allowed.length a5,zS a6 a.Hidden.length a8]) aFf n2 (i:=0) rfl rfl rfl rfl) (aG (v:=i64 c0) (aG (v:=i64 c1) (aG (v:=i64 c3) ?_)))))))))
  obtain ⟨K98,j6,s0,b41,s1,s2⟩:=aM.lendD' (i:=1) n2 j4 rfl rfl
  obtain ⟨b42,g3,s3,b43,s4,s5⟩:=aM.lendD' (i:=1) s1 j5 rfl rfl
  obtain ⟨b44,g4,s6,s7,s8⟩:=aM.lendSp s4 (zL (zL (zL (zL (zL (zL (zL h b) c) d) e) j) j6) g3) zt1
  obtain ⟨b45,g5,s9,t0,t1⟩:=aM.lendSp s7 (zL (zL (zL (zL (zL (zL (zL (zL h b) c) d) e) j) j6) g3) g4) zt1
  obtain ⟨b46,g6,t2,t3,t4⟩:=aM.lendSp t0 (zL (zL (zL (zL (zL (zL (zL (zL (zL h b) c) d) e) j) j6) g3) g4) g5) zt1
  obtain ⟨k,t5,hm⟩:=aC hm
  refine aQ (vs:=[zA #[zS z a.Definitions.length J,zS V a.Components.length O,zS a0 a.Meetings.length a2,zS a3 a.Allowed.length a5,zS a6 a.Hidden.length a8],i64 c0,i64 c1,i64 c3]) call7 rfl (aFA t5 t3 hG (s0.mono (zL (zL (zL g3 g4) g5) g6)) (s3.mono (zL (zL g4 g5) g6)) (s6.mono (zL g5 g6)) (s9.mono g6) t2) ?_
  rintro _ b47 ⟨p,q,r,u,a9,rfl,e2,t6⟩
  have t7:=t4 _ _ t6
  have t8:=t1 _ _ t7
  have t9:=s8 _ _ t8
  have u0:=s5 _ _ t9
  have u1:=s2 _ _ u0
  refine aG (v:=Value.tuple #[zS p k.1.length q,zS r k.2.1.length u,i64 k.2.2]) (aA (cJ rfl rfl) (aA (cJ rfl rfl) (aA (cJ rfl rfl) (aD (v:=zS p k.1.length q) (aD (v:=zS r k.2.1.length u) (aD (v:=i64 k.2.2) (aF (aN (aN (cP [1,2,3,4,10,11,12,13,14,15,16] (fun f w=>∃ j7,jB l c0 c1 c3 m a k j7=some R/\f 63=zB j7/\aM G d4 (bN 104 K z J (bK d9 a.Definitions)::rows [152,190,224] d9 a.Definitions::bN 100 K V O (bK e0 a.Components)::rows [2] e0 a.Components::bN 107 K a0 a2 a.Meetings::bN 9 K a3 a5 a.Allowed::bN 9 K a6 a8 a.Hidden::bN 66 K p q k.1::bN 70 K r u (bK a9 k.2.1)::rows [2] a9 k.2.1::box g2 37 [zS z a.Definitions.length J,zS V a.Components.length O,zS a0 a.Meetings.length a2,zS a3 a.Allowed.length a5,zS a6 a.Hidden.length a8]::box b2 27 y::L) w) ?_ ?_))))))))))
  ·rintro f b48 ⟨j7,hm,n3,n4⟩
   unfold jB at hm
   refine aB ?_
   rcases aH hm with ⟨j8,hm⟩|⟨j8,hm⟩
   ·refine aL j8 n3 (aJ (aD (v:=zB false) (aF ?_)));obtain rfl:=zI hm
    exact aX (aK (aO results3 rfl ⟨rfl,(aM.weakK (aM.arr 12 [] n4 rfl) (zL (zL (zL (zL (zL h b) c) d) e) j))⟩))
   ·refine aI j8 n3 (aW (aB (aN (aN ?_))));obtain ⟨b49,b4,u3,u4,u5⟩:=aM.lendBp n4 zt10
    obtain ⟨u6,b3,u7,n5,u8⟩:=aM.lendBp u4 zt10
    refine kT (C:=fun w'=>∃ L',aM G u6 L' w') [(0,0),(1,0),(2,1),(3,1),(4,0)] cI (by kernel_rfl) (fun _ hg=>⟨_,aM.mono n5 hg⟩) (fun b50 u9=>?_)
    have f7:=aM.mono n5 u9
    refine dB rfl (fun _ ⟨_,f7⟩=>dZ (t:=0) (vs:=[zS z a.Definitions.length J,zS V a.Components.length O,zS a0 a.Meetings.length a2,zS a3 a.Allowed.length a5,zS a6 a.Hidden.length a8]) aFf f7 (u3.mono b3) rfl rfl rfl) (dB rfl (fun _ ⟨_,f7⟩=>dZ (t:=0) (vs:=y) ag_27 f7 u7 rfl rfl rfl) (yC rfl ?_));obtain ⟨x,v0,hm⟩:=aC hm
    refine aQ (vs:=f9) call6 rfl (xZ v0 f7 (h3.mono (zL (zL (zL (zL (zL (zL (zL h b) c) d) e) j) b4) b3)) (h6.mono (zL (zL (zL (zL (zL (zL (zL h b) c) d) e) j) b4) b3)) (h9.mono (zL (zL (zL (zL (zL (zL (zL h b) c) d) e) j) b4) b3)) (f2.mono (zL (zL (zL (zL (zL (zL (zL h b) c) d) e) j) b4) b3)) (f3.mono (zL (zL (zL (zL (zL (zL (zL h b) c) d) e) j) b4) b3))) ?_
    rintro _ b51 ⟨j9,k0,g7,k1,k2,g8,k3,k4,k5,k6,k7,k8,rfl,v1,v2,n6⟩
    refine cW (aB ⟨⟨_,n6⟩,?_⟩)
    refine yC rfl ?_;obtain ⟨b52,e7,v3,b53,v4,v5⟩:=aM.lendD' (i:=7) n6 j4 rfl rfl
    obtain ⟨b54,e3,v6,b55,v7,v8⟩:=aM.lendD' (i:=7) v4 j5 rfl rfl
    obtain ⟨b56,e4,v9,w0,w1⟩:=aM.lendSp v7 (zL (zL (zL (zL (zL (zL (zL (zL (zL h b) c) d) e) j) b4) b3) e7) e3) zt7
    obtain ⟨b57,e5,w2,w3,w4⟩:=aM.lendSp w0 (zL (zL (zL (zL (zL (zL (zL (zL (zL (zL h b) c) d) e) j) b4) b3) e7) e3) e4) zt7
    obtain ⟨b58,e6,w5,w6,w7⟩:=aM.lendSp w3 (zL (zL (zL (zL (zL (zL (zL (zL (zL (zL (zL h b) c) d) e) j) b4) b3) e7) e3) e4) e5) zt7
    obtain ⟨b59,e1,w8,b60,w9,x0⟩:=aM.lendD' (i:=0) w6 v1 rfl rfl
    obtain ⟨b61,c6,x1,b62,x2,x3⟩:=aM.lendD' (i:=0) w9 v2 rfl rfl
    obtain ⟨b63,c7,x4,x5,x6⟩:=aM.lendSp x2 (zL (zL (zL (zL (zL (zL (zL (zL (zL (zL (zL (zL (zL (zL h b) c) d) e) j) b4) b3) e7) e3) e4) e5) e6) e1) c6) .head
    obtain ⟨b64,c9,x7,x8,x9⟩:=aM.lendSp x5 (zL (zL (zL (zL (zL (zL (zL (zL (zL (zL (zL (zL (zL (zL (zL h b) c) d) e) j) b4) b3) e7) e3) e4) e5) e6) e1) c6) c7) .head
    obtain ⟨b65,d0,y0,y1,y2⟩:=aM.lendSp x8 (zL (zL (zL (zL (zL (zL (zL (zL (zL (zL (zL (zL (zL (zL (zL (zL h b) c) d) e) j) b4) b3) e7) e3) e4) e5) e6) e1) c6) c7) c9) .head
    obtain ⟨b66,y3,hm⟩:=aC hm
    refine aQ (vs:=[zA #[zS z a.Definitions.length J,zS V a.Components.length O,zS a0 a.Meetings.length a2,zS a3 a.Allowed.length a5,zS a6 a.Hidden.length a8],zA #[zS j9 x.Definitions.length k0,zS k1 x.Components.length k2,zS k3 x.Meetings.length k4,zS k5 x.Allowed.length k6,zS k7 x.Hidden.length k8]]) call10 rfl (aLk y3 y1 (v3.mono (zL (zL (zL (zL (zL (zL (zL (zL e3 e4) e5) e6) e1) c6) c7) c9) d0)) (v6.mono (zL (zL (zL (zL (zL (zL (zL e4 e5) e6) e1) c6) c7) c9) d0)) (v9.mono (zL (zL (zL (zL (zL (zL e5 e6) e1) c6) c7) c9) d0)) (w2.mono (zL (zL (zL (zL (zL e6 e1) c6) c7) c9) d0)) (w5.mono (zL (zL (zL (zL e1 c6) c7) c9) d0)) (w8.mono (zL (zL (zL c6 c7) c9) d0)) (x1.mono (zL (zL c7 c9) d0)) (x4.mono (zL c9 d0)) (x7.mono d0) y0) ?_
    rintro _ y4 ⟨rfl,y5⟩
    have y6:=y2 _ _ y5
    have y7:=x9 _ _ y6
    have y8:=x6 _ _ y7
    have y9:=x3 _ _ y8
    have z0:=x0 _ _ y9
    have z1:=w7 _ _ z0
    have z2:=w4 _ _ z1
    have z3:=w1 _ _ z2
    have z4:=v8 _ _ z3
    have n7:=v5 _ _ z4
    refine cW (aB ⟨⟨_,n7⟩,?_⟩)
    refine dB rfl (fun _ _=>dA rfl) (yB ?_)
    have z5:=u8 _ _ n7
    have k9:=u5 _ _ z5
    refine aB ?_
    rcases aH hm with ⟨l0,hm⟩|⟨l0,hm⟩
    ·refine aL l0 rfl (aJ (aD (v:=zB false) (aF ?_)));obtain rfl:=zI hm
     exact aX (aK (aO results3 rfl ⟨rfl,(aM.weakK (aM.arr 19 [] k9 rfl) (zL (zL (zL (zL (zL h b) c) d) e) j))⟩))
    ·refine aI l0 rfl (aW (aB (aJ (aD (v:=i64 1) (aF (aJ (aA (fQ (us:=[zS z a.Definitions.length J,zS V a.Components.length O,zS a0 a.Meetings.length a2,zS a3 a.Allowed.length a5,zS a6 a.Hidden.length a8]) aFf k9 (i:=0) rfl rfl rfl rfl) (aG (v:=i64 1) ?_))))))))
     have z7:aM G d4 (bN 104 K z J (bK d9 a.Definitions)::rows [152,190,224] d9 a.Definitions::bN 100 K V O (bK e0 a.Components)::rows [2] e0 a.Components::bN 107 K a0 a2 a.Meetings::bN 9 K a3 a5 a.Allowed::bN 9 K a6 a8 a.Hidden::box g2 37 [zS z a.Definitions.length J,zS V a.Components.length O,zS a0 a.Meetings.length a2,zS a3 a.Allowed.length a5,zS a6 a.Hidden.length a8]::box b2 27 y::bN 104 K j9 k0 (bK g7 x.Definitions)::rows [152,190,224] g7 x.Definitions::bN 100 K k1 k2 (bK g8 x.Components)::rows [2] g8 x.Components::bN 107 K k3 k4 x.Meetings::bN 9 K k5 k6 x.Allowed::bN 9 K k7 k8 x.Hidden::bN 66 K p q k.1::bN 70 K r u (bK a9 k.2.1)::rows [2] a9 k.2.1::L) y4:=(aM.arr 9 [2,3,4,5,6,7,8,0,1] k9 rfl)
     obtain ⟨b0,z8,hm⟩:=aC hm
     refine aQ (vs:=[zA #[zS z a.Definitions.length J,zS V a.Components.length O,zS a0 a.Meetings.length a2,zS a3 a.Allowed.length a5,zS a6 a.Hidden.length a8],i64 1]) call11 rfl (aJr z8 z7 j4 j5) ?_
     rintro _ z9 ⟨rfl,a00,a01,a02,a03,a04,a05⟩
     have n8:aM G d4 (bN 104 K z J (bK d9 b0.2.1)::rows [152,190,224] d9 b0.2.1::bN 100 K V O (bK e0 b0.2.2.1)::rows [2] e0 b0.2.2.1::bN 107 K a0 a2 b0.2.2.2.1::bN 9 K a3 a5 b0.2.2.2.2.1::bN 9 K a6 a8 b0.2.2.2.2.2::box g2 37 [zS z b0.2.1.length J,zS V b0.2.2.1.length O,zS a0 b0.2.2.2.1.length a2,zS a3 b0.2.2.2.2.1.length a5,zS a6 b0.2.2.2.2.2.length a8]::box b2 27 y::bN 104 K j9 k0 (bK g7 x.Definitions)::rows [152,190,224] g7 x.Definitions::bN 100 K k1 k2 (bK g8 x.Components)::rows [2] g8 x.Components::bN 107 K k3 k4 x.Meetings::bN 9 K k5 k6 x.Allowed::bN 9 K k7 k8 x.Hidden::bN 66 K p q k.1::bN 70 K r u (bK a9 k.2.1)::rows [2] a9 k.2.1::L) z9:=by rw [←a00,←a01,←a02,←a03,←a04];exact a05
     refine aD (v:=i64 b0.1) (aF (aN (aN (cP [1,2,3,4,10,11,12,14,15] (fun f w=>∃ l1,iB l c0 c1 c3 m k l1=some R/\f 90=zB l1/\aM G d4 (box b2 27 y::bN 66 K p q k.1::bN 70 K r u (bK a9 k.2.1)::rows [2] a9 k.2.1::L) w) ?_ ?_))))
     ·rintro f a06 ⟨l1,hm,n9,o0⟩
      unfold iB at hm
      refine aB ?_
      rcases aH hm with ⟨l2,hm⟩|⟨l2,hm⟩
      ·refine aL l2 n9 (aJ (aD (v:=zB false) (aF ?_)));obtain rfl:=zI hm
       exact aX (aK (aO results3 rfl ⟨rfl,(aM.weakK (aM.arr 4 [] o0 rfl) (zL (zL (zL (zL (zL h b) c) d) e) j))⟩))
      ·refine aI l2 n9 (aW (aB (aJ (aD (v:=i64 1) (aF (aJ (aG (v:=zS p k.1.length q) (aG (v:=i64 1) ?_))))))))
       have a08:aM G d4 (bN 66 K p q k.1::box b2 27 y::bN 70 K r u (bK a9 k.2.1)::rows [2] a9 k.2.1::L) a06:=(aM.arr 2 [1,0] o0 rfl)
       obtain ⟨c4,a09,hm⟩:=aC hm
       refine aQ (vs:=[zS p k.1.length q,i64 1]) call12 rfl (aJs a09 a08) ?_
       rintro _ a11 ⟨rfl,o1,a12⟩
       refine aD (v:=i64 c4.1) (aF (aJ (aG (v:=zS r k.2.1.length u) (aG (v:=i64 c4.1) ?_))))
       have a14:aM G d4 (bN 70 K r u (bK a9 k.2.1)::rows [2] a9 k.2.1::bN 66 K p q c4.2::box b2 27 y::L) a11:=(aM.arr 4 [2,3,0,1] a12 rfl)
       obtain ⟨b5,a15,hm⟩:=aC hm
       refine aQ (vs:=[zS r k.2.1.length u,i64 c4.1]) call13 rfl (aJt a15 a14 e2) ?_
       rintro _ b67 ⟨rfl,e8,a16⟩
       refine aD (v:=i64 b5.1) (aF (aJ (aD (v:=i64 1) (aF (aJ (bF (v:=zS p c4.2.length q) (Eq.trans rfl (congrArg (fun n=>zS p n q) o1)) (aG (v:=i64 1) ?_)))))));obtain ⟨b68,b69,a17,a18,a19⟩:=aM.lendSp a16 (zL (zL (zL (zL (zL h b) c) d) e) j) zt2
       obtain ⟨g9,a20,hm⟩:=aC hm
       refine aQ (vs:=[zS p c4.2.length q,i64 1]) call14 rfl (aEI a20 a18 a17) ?_
       rintro _ b70 ⟨rfl,a21⟩
       have o2:=a19 _ _ a21
       refine aD (v:=i64 g9) (aF (aN (aJ (aG (v:=i64 g9) (aA (cF rfl rfl) (aF ?_))))))
       rcases aH hm with ⟨l3,hm⟩|⟨l3,hm⟩
       ·refine aL l3 rfl (aJ (aD (v:=zB false) (aF ?_)));obtain rfl:=zI hm
        exact aX (aK (aO results3 rfl ⟨rfl,(aM.weakK (aM.arr 4 [] o2 rfl) (zL (zL (zL (zL (zL h b) c) d) e) j))⟩))
       ·refine aI l3 rfl (aW (aB (aJ (bF (v:=zS r b5.2.length u) (Eq.trans rfl (congrArg (fun n=>zS r n u) e8)) (aG (v:=i64 g9) ?_)))));obtain ⟨b71,b72,a23,b73,a24,a25⟩:=aM.lendD' (i:=1) o2 (e2.trans e8) rfl rfl
        obtain ⟨l4,a26,hm⟩:=aC hm
        refine aQ (vs:=[zS r b5.2.length u,i64 g9]) call15 rfl (aEJ a26 a24 a23) ?_
        rintro _ b74 ⟨rfl,a28⟩
        have h0:=a25 _ _ a28
        refine aD (v:=i64 l4) (aF (aN (aJ (aG (v:=i64 l4) (aA (cF rfl rfl) (aF ?_))))))
        rcases aH hm with ⟨l5,hm⟩|⟨l5,hm⟩
        ·refine aL l5 rfl (aJ (aD (v:=zB false) (aF ?_)));obtain rfl:=zI hm
         exact aX (aK (aO results3 rfl ⟨rfl,(aM.weakK (aM.arr 4 [] h0 rfl) (zL (zL (zL (zL (zL h b) c) d) e) j))⟩))
        ·refine aI l5 rfl (aW (aB (aN (aJ (aG (v:=i64 l4) (aG (v:=i64 b5.1) (aA (fV rfl rfl) (aF ?_))))))))
         rcases aH hm with ⟨l6,hm⟩|⟨l6,hm⟩
         ·refine aL l6 rfl (aJ (aD (v:=zB false) (aF ?_)));obtain rfl:=zI hm
          exact aX (aK (aO results3 rfl ⟨rfl,(aM.weakK (aM.arr 4 [] h0 rfl) (zL (zL (zL (zL (zL h b) c) d) e) j))⟩))
         ·refine aI l6 rfl (aW (aB (aJ (aA (fQ (us:=y) ag_27 h0 (i:=3) rfl rfl rfl rfl) ?_))));obtain ⟨f8,a32,hm⟩:=aC hm
          refine aQ (vs:=f9) call6 rfl (xZ a32 h0 (h3.mono (zL (zL (zL (zL (zL h b) c) d) e) j)) (h6.mono (zL (zL (zL (zL (zL h b) c) d) e) j)) (h9.mono (zL (zL (zL (zL (zL h b) c) d) e) j)) (f2.mono (zL (zL (zL (zL (zL h b) c) d) e) j)) (f3.mono (zL (zL (zL (zL (zL h b) c) d) e) j))) ?_
          rintro _ b75 ⟨a33,a34,b76,a36,a38,b77,a40,a41,a42,a43,a44,a45,rfl,a46,a47,a48⟩
          refine aG (v:=i64 c0) (aG (v:=i64 c1) (aG (v:=i64 c3) ?_));obtain ⟨b78,l7,a49,b79,a50,a51⟩:=aM.lendD' (i:=0) a48 a46 rfl rfl
          obtain ⟨b80,h1,a52,b81,a53,a54⟩:=aM.lendD' (i:=0) a50 a47 rfl rfl
          obtain ⟨b82,h2,a55,a56,a57⟩:=aM.lendSp a53 (zL (zL (zL (zL (zL (zL (zL h b) c) d) e) j) l7) h1) .head
          obtain ⟨b83,h4,a58,a59,a60⟩:=aM.lendSp a56 (zL (zL (zL (zL (zL (zL (zL (zL h b) c) d) e) j) l7) h1) h2) .head
          obtain ⟨b84,h5,a61,a62,a63⟩:=aM.lendSp a59 (zL (zL (zL (zL (zL (zL (zL (zL (zL h b) c) d) e) j) l7) h1) h2) h4) .head
          obtain ⟨b1,a64,hm⟩:=aC hm
          refine aQ (vs:=[zA #[zS a33 f8.Definitions.length a34,zS a36 f8.Components.length a38,zS a40 f8.Meetings.length a41,zS a42 f8.Allowed.length a43,zS a44 f8.Hidden.length a45],i64 c0,i64 c1,i64 c3]) call7 rfl (aFA a64 a62 hG (a49.mono (zL (zL (zL h1 h2) h4) h5)) (a52.mono (zL (zL h2 h4) h5)) (a55.mono (zL h4 h5)) (a58.mono h5) a61) ?_
          rintro _ b85 ⟨h7,h8,i0,i1,b86,rfl,a65,a66⟩
          have a68:=a63 _ _ a66
          have a69:=a60 _ _ a68
          have a71:=a57 _ _ a69
          have a72:=a54 _ _ a71
          have a73:=a51 _ _ a72
          refine aG (v:=Value.tuple #[zS h7 b1.1.length h8,zS i0 b1.2.1.length i1,i64 b1.2.2]) (aA (cJ rfl rfl) (aA (cJ rfl rfl) (aA (cJ rfl rfl) (aD (v:=zS h7 b1.1.length h8) (aD (v:=zS i0 b1.2.1.length i1) (aD (v:=i64 b1.2.2) (aF (aN (aN (cP [14,15,18] (fun f w=>∃ l8,jA c4 b5 l8=some R/\f 134=zB l8/\List.length a9=List.length b5.2/\aM G d4 (bN 70 K r u (bK a9 b5.2)::rows [2] a9 b5.2::bN 66 K p q c4.2::L) w) ?_ ?_))))))))))
          ·rintro f b87 ⟨l8,hm,o3,a74,o4⟩
           unfold jA at hm
           refine aB ?_
           rcases aH hm with ⟨l9,hm⟩|⟨l9,hm⟩
           ·refine aL l9 o3 (aJ (aD (v:=zB false) (aF ?_)));obtain rfl:=zI hm
            exact aX (aK (aO results3 rfl ⟨rfl,(aM.weakK (aM.arr 3 [] o4 rfl) (zL (zL (zL (zL (zL h b) c) d) e) j))⟩))
           ·refine aI l9 o3 (aW (aB (aJ (aD (v:=i64 1) (aF (aJ (bF (v:=zS p c4.2.length q) (Eq.trans rfl (congrArg (fun n=>zS p n q) o1)) (aG (v:=i64 1) ?_))))))));obtain ⟨b88,b89,a76,a78,a79⟩:=aM.lendSp o4 (zL (zL (zL (zL (zL h b) c) d) e) j) zt2
            obtain ⟨i2,a80,hm⟩:=aC hm
            refine aQ (vs:=[zS p c4.2.length q,i64 1]) call14 rfl (aEI a80 a78 a76) ?_
            rintro _ b90 ⟨rfl,a82⟩
            have o5:=a79 _ _ a82
            refine aD (v:=i64 i2) (aF (aN (aJ (aG (v:=i64 i2) (aA (cF rfl rfl) (aF ?_))))))
            rcases aH hm with ⟨m0,hm⟩|⟨m0,hm⟩
            ·refine aL m0 rfl (aJ (aD (v:=zB false) (aF ?_)));obtain rfl:=zI hm
             exact aX (aK (aO results3 rfl ⟨rfl,(aM.weakK (aM.arr 3 [] o5 rfl) (zL (zL (zL (zL (zL h b) c) d) e) j))⟩))
            ·refine aI m0 rfl (aW (aB (aJ (bF (v:=zS r b5.2.length u) (Eq.trans rfl (congrArg (fun n=>zS r n u) e8)) (aG (v:=i64 i2) ?_)))));obtain ⟨b91,b92,a84,b94,a86,a88⟩:=aM.lendD' (i:=1) o5 a74 rfl rfl
             obtain ⟨m1,a90,hm⟩:=aC hm
             refine aQ (vs:=[zS r b5.2.length u,i64 i2]) call15 rfl (aEJ a90 a86 a84) ?_
             rintro _ b95 ⟨rfl,a91⟩
             have m2:=a88 _ _ a91
             refine aD (v:=i64 m1) (aF (aN (aJ (aG (v:=i64 m1) (aA (cF rfl rfl) (aF ?_))))))
             rcases aH hm with ⟨m3,hm⟩|⟨m3,hm⟩
             ·refine aL m3 rfl (aJ (aD (v:=zB false) (aF ?_)));obtain rfl:=zI hm
              exact aX (aK (aO results3 rfl ⟨rfl,(aM.weakK (aM.arr 3 [] m2 rfl) (zL (zL (zL (zL (zL h b) c) d) e) j))⟩))
             ·refine aI m3 rfl (aW (aB (aN (aJ (aG (v:=i64 m1) (aG (v:=i64 b5.1) (aA (fV rfl rfl) (aF ?_))))))))
              rcases aH hm with ⟨m4,hm⟩|⟨m4,hm⟩
              ·refine aL m4 rfl (aJ (aD (v:=zB false) (aF ?_)));obtain rfl:=zI hm
               exact aX (aK (aO results3 rfl ⟨rfl,(aM.weakK (aM.arr 3 [] m2 rfl) (zL (zL (zL (zL (zL h b) c) d) e) j))⟩))
              ·refine aI m4 rfl (aW (aB (aJ (aD (v:=zB true) (aF ?_)))));obtain rfl:=zI hm
               exact aX (aO results3 rfl ⟨rfl,(aM.weakK (aM.arr 3 [] m2 rfl) (zL (zL (zL (zL (zL h b) c) d) e) j))⟩)
          refine aU (aG (v:=zS h7 b1.1.length h8) (aG (v:=zS d5 m.1.length d6) ?_));obtain ⟨b96,a95,a96,a97,a98⟩:=aM.lendSp a73 (zL (zL (zL (zL (zL h b) c) d) e) j) zt7
          obtain ⟨a99,b00,hm⟩:=aC hm
          refine aQ (vs:=[zS h7 b1.1.length h8,zS d5 m.1.length d6]) call8 rfl (aCL b00 a97 a96 (j2.mono a95)) ?_
          rintro _ b97 ⟨rfl,b01⟩
          have o6:=a98 _ _ b01
          refine aA (dA rfl) (aG (v:=zB (!a99)) ?_)
          rcases aH hm with ⟨b6,hm⟩|⟨b6,hm⟩
          ·exact aR b6 rfl rfl (aR b6 rfl rfl (aR b6 rfl rfl (aR b6 rfl rfl (aA (bI (v:=zB true) b6 rfl rfl) (aG (v:=zB true) (aR (rfl:true=true) rfl rfl (aR (rfl:true=true) rfl rfl (aR (rfl:true=true) rfl rfl (aA (bI (v:=zB true) (rfl:true=true) rfl rfl) (aF ⟨aT,true,hm,rfl,(e2.trans e8),(aM.arr 14 [10,11,12] o6 rfl)⟩))))))))))
          ·refine bD b6 rfl rfl (aG (v:=zS i0 b1.2.1.length i1) (bD b6 rfl rfl (aG (v:=zS d7 m.2.1.length d8) (bD b6 rfl rfl ?_))));obtain ⟨b98,b02,b03,b99,b04,b05⟩:=aM.lendD' (i:=8) o6 a65 rfl rfl
           obtain ⟨o7,b06,hm⟩:=aC hm
           refine aQ (vs:=[zS i0 b1.2.1.length i1,zS d7 m.2.1.length d8]) call9 rfl (aCM b06 b04 b03 (j3.mono b02)) ?_
           rintro _ c00 ⟨rfl,b07⟩
           have o8:=b05 _ _ b07
           refine bD b6 rfl rfl (aA (dA rfl) (aA (bL (v:=zB (!o7)) b6 rfl rfl) (aG (v:=zB (!o7)) ?_)))
           rcases aH hm with ⟨d1,hm⟩|⟨d1,hm⟩
           ·exact aR d1 rfl rfl (aR d1 rfl rfl (aR d1 rfl rfl (aA (bI (v:=zB true) d1 rfl rfl) (aF ⟨aT,true,hm,rfl,(e2.trans e8),(aM.arr 14 [10,11,12] o8 rfl)⟩))))
           ·exact bD d1 rfl rfl (aG (v:=i64 b1.2.2) (bD d1 rfl rfl (aG (v:=i64 m.2.2) (bD d1 rfl rfl (aA (fV rfl rfl) (aA (bL (v:=zB (b1.2.2 != m.2.2)) d1 rfl rfl) (aF ⟨aT,b1.2.2 != m.2.2,hm,rfl,(e2.trans e8),(aM.arr 14 [10,11,12] o8 rfl)⟩)))))))
     refine aU (aG (v:=i64 b0.1) (aA (cF rfl rfl) (aG (v:=zB (decide (b0.1 < 0))) ?_)))
     rcases aH hm with ⟨b7,hm⟩|⟨b7,hm⟩
     ·exact aR b7 rfl rfl (aR b7 rfl rfl (aR b7 rfl rfl (aR b7 rfl rfl (aA (bI (v:=zB true) b7 rfl rfl) (aG (v:=zB true) (aR (rfl:true=true) rfl rfl (aR (rfl:true=true) rfl rfl (aR (rfl:true=true) rfl rfl (aR (rfl:true=true) rfl rfl (aA (bI (v:=zB true) (rfl:true=true) rfl rfl) (aG (v:=zB true) (aR (rfl:true=true) rfl rfl (aR (rfl:true=true) rfl rfl (aR (rfl:true=true) rfl rfl (aA (bI (v:=zB true) (rfl:true=true) rfl rfl) (aF ⟨aT,true,hm,rfl,(aM.arr 16 [8] n8 rfl)⟩))))))))))))))))
     ·refine bD b7 rfl rfl (aG (v:=zS p k.1.length q) (bD b7 rfl rfl (aG (v:=zS d5 m.1.length d6) (bD b7 rfl rfl ?_))));obtain ⟨c01,b08,b09,b10,b11⟩:=aM.lendSp n8 (zL (zL (zL (zL (zL h b) c) d) e) j) (.tail (.tail (.tail (.tail zt12))))
      obtain ⟨o9,b12,hm⟩:=aC hm
      refine aQ (vs:=[zS p k.1.length q,zS d5 m.1.length d6]) call8 rfl (aCL b12 b10 b09 (j2.mono b08)) ?_
      rintro _ c02 ⟨rfl,b13⟩
      have p0:=b11 _ _ b13
      refine bD b7 rfl rfl (aA (dA rfl) (aA (bL (v:=zB (!o9)) b7 rfl rfl) (aG (v:=zB (!o9)) ?_)))
      rcases aH hm with ⟨b8,hm⟩|⟨b8,hm⟩
      ·exact aR b8 rfl rfl (aR b8 rfl rfl (aR b8 rfl rfl (aR b8 rfl rfl (aA (bI (v:=zB true) b8 rfl rfl) (aG (v:=zB true) (aR (rfl:true=true) rfl rfl (aR (rfl:true=true) rfl rfl (aR (rfl:true=true) rfl rfl (aA (bI (v:=zB true) (rfl:true=true) rfl rfl) (aF ⟨aT,true,hm,rfl,(aM.arr 17 [9,0] p0 rfl)⟩))))))))))
      ·refine bD b8 rfl rfl (aG (v:=zS r k.2.1.length u) (bD b8 rfl rfl (aG (v:=zS d7 m.2.1.length d8) (bD b8 rfl rfl ?_))));obtain ⟨c03,b14,b15,c04,b17,b18⟩:=aM.lendD' (i:=17) p0 e2 rfl rfl
       obtain ⟨p1,b19,hm⟩:=aC hm
       refine aQ (vs:=[zS r k.2.1.length u,zS d7 m.2.1.length d8]) call9 rfl (aCM b19 b17 b15 (j3.mono b14)) ?_
       rintro _ c05 ⟨rfl,b20⟩
       have p2:=b18 _ _ b20
       refine bD b8 rfl rfl (aA (dA rfl) (aA (bL (v:=zB (!p1)) b8 rfl rfl) (aG (v:=zB (!p1)) ?_)))
       rcases aH hm with ⟨d2,hm⟩|⟨d2,hm⟩
       ·exact aR d2 rfl rfl (aR d2 rfl rfl (aR d2 rfl rfl (aA (bI (v:=zB true) d2 rfl rfl) (aF ⟨aT,true,hm,rfl,(aM.arr 19 [11,2,0,1] p2 rfl)⟩))))
       ·exact bD d2 rfl rfl (aG (v:=i64 k.2.2) (bD d2 rfl rfl (aG (v:=i64 m.2.2) (bD d2 rfl rfl (aA (fV rfl rfl) (aA (bL (v:=zB (k.2.2 != m.2.2)) d2 rfl rfl) (aF ⟨aT,k.2.2 != m.2.2,hm,rfl,(aM.arr 19 [11,2,0,1] p2 rfl)⟩)))))))
  refine aU (aG (v:=zS p k.1.length q) (aG (v:=zS d5 m.1.length d6) ?_));obtain ⟨c06,b21,b22,b23,b24⟩:=aM.lendSp u1 (zL (zL (zL (zL (zL h b) c) d) e) j) zt7
  obtain ⟨b25,b26,hm⟩:=aC hm
  refine aQ (vs:=[zS p k.1.length q,zS d5 m.1.length d6]) call8 rfl (aCL b26 b23 b22 (j2.mono b21)) ?_
  rintro _ c07 ⟨rfl,b27⟩
  have p3:=b24 _ _ b27
  refine aA (dA rfl) (aG (v:=zB (!b25)) ?_)
  rcases aH hm with ⟨b9,hm⟩|⟨b9,hm⟩
  ·exact aR b9 rfl rfl (aR b9 rfl rfl (aR b9 rfl rfl (aR b9 rfl rfl (aA (bI (v:=zB true) b9 rfl rfl) (aG (v:=zB true) (aR (rfl:true=true) rfl rfl (aR (rfl:true=true) rfl rfl (aR (rfl:true=true) rfl rfl (aA (bI (v:=zB true) (rfl:true=true) rfl rfl) (aF ⟨aT,true,hm,rfl,(aM.arr 8 [1,2,3,4,5,6,7,0] p3 rfl)⟩))))))))))
  ·refine bD b9 rfl rfl (aG (v:=zS r k.2.1.length u) (bD b9 rfl rfl (aG (v:=zS d7 m.2.1.length d8) (bD b9 rfl rfl ?_))));obtain ⟨c08,b28,b29,c09,b30,b31⟩:=aM.lendD' (i:=8) p3 e2 rfl rfl
   obtain ⟨p4,b32,hm⟩:=aC hm
   refine aQ (vs:=[zS r k.2.1.length u,zS d7 m.2.1.length d8]) call9 rfl (aCM b32 b30 b29 (j3.mono b28)) ?_
   rintro _ c10 ⟨rfl,b33⟩
   have p5:=b31 _ _ b33
   refine bD b9 rfl rfl (aA (dA rfl) (aA (bL (v:=zB (!p4)) b9 rfl rfl) (aG (v:=zB (!p4)) ?_)))
   rcases aH hm with ⟨d3,hm⟩|⟨d3,hm⟩
   ·exact aR d3 rfl rfl (aR d3 rfl rfl (aR d3 rfl rfl (aA (bI (v:=zB true) d3 rfl rfl) (aF ⟨aT,true,hm,rfl,(aM.arr 10 [3,4,5,6,7,8,9,2,0,1] p5 rfl)⟩))))
   ·exact bD d3 rfl rfl (aG (v:=i64 k.2.2) (bD d3 rfl rfl (aG (v:=i64 m.2.2) (bD d3 rfl rfl (aA (fV rfl rfl) (aA (bL (v:=zB (k.2.2 != m.2.2)) d3 rfl rfl) (aF ⟨aT,k.2.2 != m.2.2,hm,rfl,(aM.arr 10 [3,4,5,6,7,8,9,2,0,1] p5 rfl)⟩)))))))
end Gv
