/- Walks, printed by program. -/
import Derived.Test.YtnaggbljhaoimaaGreatDoorJWk7
set_option linter.all false
namespace Gv
open Gv.Hp renaming le_refl→zR
open Go.Value renaming slice→zS,bool→zB,agg→zA
open Option.some renaming inj→zI
open Gv.Hp renaming le_trans→zL
open Go Go.Proofs Go.Proofs.Tryz
set_option maxRecDepth 20000
set_option maxHeartbeats 40000000
variable {G:vF} {K:Hp} {L:List gC} {w:World} {a1 a4 a7 a10:Option Addr} {c2 c5 c8 c11:Nat}
theorem qU {aN:bB} {d1:Int} {R:Bool} (hm:kU aN d1=some R) (hs:aD G K (L) w) (hG:G.lo=0) (h3:bK K a1 c2 aN.Parts) (h6:bK K a4 c5 aN.Meetings) (h9:bK K a7 c8 aN.Allowed) (i7:bK K a10 c11 aN.Hidden):
  Calls prog 3 ([zA #[zS a1 aN.Parts.length c2,zS a4 aN.Meetings.length c5,zS a7 aN.Allowed.length c8,zS a10 aN.Hidden.length c11],i64 d1]:List Value).toArray w (dV fun v w'=>v=zB R/\aD G K (L) w'):=by
 let b2:=[zS a1 aN.Parts.length c2,zS a4 aN.Meetings.length c5,zS a7 aN.Allowed.length c8,zS a10 aN.Hidden.length c11]
 let j0:=[zA #[zS a1 aN.Parts.length c2,zS a4 aN.Meetings.length c5,zS a7 aN.Allowed.length c8,zS a10 aN.Hidden.length c11]]
 let j1:=[zS none 0 0,zS none 0 0,zS none 0 0,zS none 0 0]
 refine aO func3 rfl (by kernel_rfl) (by show (2:Nat)<=101;decide) ?_;unfold kU at hm
 refine aI (eQ (v:=zA #[zS a1 aN.Parts.length c2,zS a4 aN.Meetings.length c5,zS a7 aN.Allowed.length c8,zS a10 aN.Hidden.length c11]) (vs:=b2) hs rfl rfl (fun c1 w14 p0=>(aH (v:=zB false) (aG (aI (aH (v:=i64 1048576) (aG (aI (aF (gH (us:=b2) aKF p0 (i:=0) rfl rfl rfl rfl) (aL (v:=i64 1048576) ?_))))))))));obtain ⟨p1,s3,hm⟩:=aB hm
 refine aS (vs:=[zA #[zS a1 aN.Parts.length c2,zS a4 aN.Meetings.length c5,zS a7 aN.Allowed.length c8,zS a10 aN.Hidden.length c11],i64 1048576]) call4 rfl (aCS s3 p0 h3 h6 h9 i7) ?_
 rintro _ w18 ⟨rfl,p2⟩
 refine aH (v:=i64 p1) (aG (aJ (aI (aL (v:=i64 p1) (aF (cE rfl rfl) (aG ?_))))))
 rcases aP hm with ⟨p3,hm⟩|⟨p3,hm⟩
 ·exact aK
 ·refine bF p3 rfl (aY (aC (aI (aF (gH (us:=b2) aKF p2 (i:=0) rfl rfl rfl rfl) ?_))));obtain ⟨c3,s4,hm⟩:=aB hm
  refine aS (vs:=j0) call6 rfl (oE s4 p2 h3 h6 h9 i7) ?_
  rintro _ j2 ⟨s5,s6,c14,p4,p5,j8,j9,j3,j4,rfl,s7,s8⟩
  refine aL (v:=i64 d1) ?_;obtain ⟨s9,e,t0,_,k0,_⟩:=aD.lendD' (i:=0) s8 s7 rfl rfl
  replace k0:aD G s9 (aM 73 K p4 p5 c3.Meetings::aM 9 K j8 j9 c3.Allowed::aM 9 K j3 j4 c3.Hidden::box c1 26 b2::L) j2:=k0
  obtain ⟨t1,h,t2,k1⟩:=aD.giveSp k0 e .head
  replace k1:aD G t1 (aM 9 K j8 j9 c3.Allowed::aM 9 K j3 j4 c3.Hidden::box c1 26 b2::L) j2:=k1
  obtain ⟨t3,j,t4,k2⟩:=aD.giveSp k1 (zL e h) .head
  replace k2:aD G t3 (aM 9 K j3 j4 c3.Hidden::box c1 26 b2::L) j2:=k2
  obtain ⟨t5,k,t6,k3⟩:=aD.giveSp k2 (zL (zL e h) j) .head
  replace k3:aD G t5 (box c1 26 b2::L) j2:=k3
  obtain ⟨b,t7,hm⟩:=aB hm
  refine aS (vs:=[zA #[zS s5 c3.Parts.length s6,zS p4 c3.Meetings.length p5,zS j8 c3.Allowed.length j9,zS j3 c3.Hidden.length j4],i64 d1]) call5 rfl (yS (n:=⟨c3.Parts,c3.Meetings,c3.Allowed,c3.Hidden⟩) t7 k3 (t0.mono (zL (zL h j) k)) (t2.mono (zL j k)) (t4.mono k) t6) ?_
  rintro _ w64 ⟨b1,V,a0,a2,a3,a5,a6,a8,a9,rfl,l,t8⟩
  refine aL (v:=Value.tuple #[zA #[zS V b.1.Parts.length a0,zS a2 b.1.Meetings.length a3,zS a5 b.1.Allowed.length a6,zS a8 b.1.Hidden.length a9],i64 b.2]) (aF (fU rfl rfl) (aF (fU rfl rfl) (bH (vs:=j1) zeroValue31 t8 rfl (fun d2 w67 t9=>(cF (i:=0) (ns:=[zS V b.1.Parts.length a0,zS a2 b.1.Meetings.length a3,zS a5 b.1.Allowed.length a6,zS a8 b.1.Hidden.length a9]) (us:=[zS V b.1.Parts.length a0,zS a2 b.1.Meetings.length a3,zS a5 b.1.Allowed.length a6,zS a8 b.1.Hidden.length a9]) sizeOf31 t9 rfl rfl rfl rfl rfl (eD rfl) rfl rfl (fun u0 (p6:aD G b1 (box d2 31 [zS V b.1.Parts.length a0,zS a2 b.1.Meetings.length a3,zS a5 b.1.Allowed.length a6,zS a8 b.1.Hidden.length a9]::aM 68 b1 V a0 b.1.Parts::aM 73 K a2 a3 b.1.Meetings::aM 9 K a5 a6 b.1.Allowed::aM 9 K a8 a9 b.1.Hidden::box c1 26 b2::L) u0)=>(aH (v:=i64 b.2) (aG (aI (aF (gH (us:=b2) aKF p6 (i:=5) rfl rfl rfl rfl) ?_))))))))))
  obtain ⟨d,u1,hm⟩:=aB hm
  refine aS (vs:=j0) call6 rfl (oE u1 p6 (h3.mono (zL (zL (zL (zL e h) j) k) l)) (h6.mono (zL (zL (zL (zL e h) j) k) l)) (h9.mono (zL (zL (zL (zL e h) j) k) l)) (i7.mono (zL (zL (zL (zL e h) j) k) l))) ?_
  rintro _ w83 ⟨b3,b4,d9,b5,b6,b7,b8,b9,c0,rfl,k4,u2⟩
  refine bH (vs:=j1) zeroValue31 u2 rfl (fun i8 w86 u3=>(cF (i:=0) (ns:=[zS b3 d.Parts.length b4,zS b5 d.Meetings.length b6,zS b7 d.Allowed.length b8,zS b9 d.Hidden.length c0]) (us:=[zS b3 d.Parts.length b4,zS b5 d.Meetings.length b6,zS b7 d.Allowed.length b8,zS b9 d.Hidden.length c0]) sizeOf31 u3 rfl rfl rfl rfl rfl (eD rfl) rfl rfl (fun u4 (p7:aD G b1 (box i8 31 [zS b3 d.Parts.length b4,zS b5 d.Meetings.length b6,zS b7 d.Allowed.length b8,zS b9 d.Hidden.length c0]::aM 68 K b3 b4 (aZ d9 d.Parts)::rows [9,87] d9 d.Parts::aM 73 K b5 b6 d.Meetings::aM 9 K b7 b8 d.Allowed::aM 9 K b9 c0 d.Hidden::box d2 31 [zS V b.1.Parts.length a0,zS a2 b.1.Meetings.length a3,zS a5 b.1.Allowed.length a6,zS a8 b.1.Hidden.length a9]::aM 68 b1 V a0 b.1.Parts::aM 73 K a2 a3 b.1.Meetings::aM 9 K a5 a6 b.1.Allowed::aM 9 K a8 a9 b.1.Hidden::box c1 26 b2::L) u4)=>(aG (aI (aF (gH (us:=[zS b3 d.Parts.length b4,zS b5 d.Meetings.length b6,zS b7 d.Allowed.length b8,zS b9 d.Hidden.length c0]) qN p7 (i:=0) rfl rfl rfl rfl) (aL (v:=i64 d1) ?_)))))))
  obtain ⟨K90,k5,u5,c21,u6,u7⟩:=aD.lendD' (i:=1) p7 k4 rfl rfl
  obtain ⟨K96,k6,u8,u9,v0⟩:=aD.lendSp u6 (zL (zL (zL (zL (zL e h) j) k) l) k5) zt1
  obtain ⟨c23,k7,v1,v2,v3⟩:=aD.lendSp u9 (zL (zL (zL (zL (zL (zL e h) j) k) l) k5) k6) zt1
  obtain ⟨c24,k8,v4,v5,v6⟩:=aD.lendSp v2 (zL (zL (zL (zL (zL (zL (zL e h) j) k) l) k5) k6) k7) zt1
  obtain ⟨c,v7,hm⟩:=aB hm
  refine aS (vs:=[zA #[zS b3 d.Parts.length b4,zS b5 d.Meetings.length b6,zS b7 d.Allowed.length b8,zS b9 d.Hidden.length c0],i64 d1]) call7 rfl (rT v7 v5 hG (u5.mono (zL (zL k6 k7) k8)) (u8.mono (zL k7 k8)) (v1.mono k8) v4) ?_
  rintro _ c26 ⟨p,q,c6,r,u,x,y,z,J,rfl,k9,v8⟩
  have v9:=v6 _ _ v8
  have w0:=v3 _ _ v9
  have w1:=v0 _ _ w0
  have w2:=u7 _ _ w1
  refine aL (v:=Value.tuple #[zA #[zS p c.1.Parts.length q,zS r c.1.Meetings.length u,zS x c.1.Allowed.length y,zS z c.1.Hidden.length J],i64 c.2]) (aF (fU rfl rfl) (aF (fU rfl rfl) (bH (vs:=j1) zeroValue31 w2 rfl (fun d4 c27 w3=>(cF (i:=0) (ns:=[zS p c.1.Parts.length q,zS r c.1.Meetings.length u,zS x c.1.Allowed.length y,zS z c.1.Hidden.length J]) (us:=[zS p c.1.Parts.length q,zS r c.1.Meetings.length u,zS x c.1.Allowed.length y,zS z c.1.Hidden.length J]) sizeOf31 w3 rfl rfl rfl rfl rfl (eD rfl) rfl rfl (fun w4 (l0:aD G b1 (box d4 31 [zS p c.1.Parts.length q,zS r c.1.Meetings.length u,zS x c.1.Allowed.length y,zS z c.1.Hidden.length J]::aM 68 K b3 b4 (aZ d9 d.Parts)::rows [9,87] d9 d.Parts::aM 73 K b5 b6 d.Meetings::aM 9 K b7 b8 d.Allowed::aM 9 K b9 c0 d.Hidden::aM 68 K p q (aZ c6 c.1.Parts)::rows [9,87] c6 c.1.Parts::aM 73 K r u c.1.Meetings::aM 9 K x y c.1.Allowed::aM 9 K z J c.1.Hidden::box i8 31 [zS b3 d.Parts.length b4,zS b5 d.Meetings.length b6,zS b7 d.Allowed.length b8,zS b9 d.Hidden.length c0]::box d2 31 [zS V b.1.Parts.length a0,zS a2 b.1.Meetings.length a3,zS a5 b.1.Allowed.length a6,zS a8 b.1.Hidden.length a9]::aM 68 b1 V a0 b.1.Parts::aM 73 K a2 a3 b.1.Meetings::aM 9 K a5 a6 b.1.Allowed::aM 9 K a8 a9 b.1.Hidden::box c1 26 b2::L) w4)=>(aH (v:=i64 c.2) (aG (aJ (aJ (bO [1,2,6,7,8,9,10] (fun f w=>∃ l1,gN aN d1 b d c l1=some R/\f 44=zB l1/\aD G b1 (box d4 31 [zS p c.1.Parts.length q,zS r c.1.Meetings.length u,zS x c.1.Allowed.length y,zS z c.1.Hidden.length J]::aM 68 K b3 b4 (aZ d9 d.Parts)::rows [9,87] d9 d.Parts::aM 73 K b5 b6 d.Meetings::aM 9 K b7 b8 d.Allowed::aM 9 K b9 c0 d.Hidden::aM 68 K p q (aZ c6 c.1.Parts)::rows [9,87] c6 c.1.Parts::aM 73 K r u c.1.Meetings::aM 9 K x y c.1.Allowed::aM 9 K z J c.1.Hidden::box i8 31 [zS b3 d.Parts.length b4,zS b5 d.Meetings.length b6,zS b7 d.Allowed.length b8,zS b9 d.Hidden.length c0]::box d2 31 [zS V b.1.Parts.length a0,zS a2 b.1.Meetings.length a3,zS a5 b.1.Allowed.length a6,zS a8 b.1.Hidden.length a9]::aM 68 b1 V a0 b.1.Parts::aM 73 K a2 a3 b.1.Meetings::aM 9 K a5 a6 b.1.Allowed::aM 9 K a8 a9 b.1.Hidden::box c1 26 b2::L) w) ?_ ?_)))))))))))
  ·rintro f c28 ⟨l1,hm,p8,p9⟩
   unfold gN at hm
   refine aC ?_
   rcases aP hm with ⟨l2,hm⟩|⟨l2,hm⟩
   ·refine aR l2 p8 (aI (aH (v:=zB false) (aG ?_)));obtain rfl:=zI hm
    exact lC (jU (nA results3 rfl ⟨rfl,(aD.weakK (aD.arr 18 [] p9 rfl) (zL (zL (zL (zL e h) j) k) l))⟩))
   ·refine bF l2 p8 (aY (aC (aJ (aJ ?_))));obtain ⟨c30,d3,w6,w7,w8⟩:=aD.lendBp p9 zt11
    obtain ⟨w9,c9,x0,q0,x1⟩:=aD.lendBp w7 (.tail (.tail (.tail (.tail zt12))))
    refine fO (C:=fun w'=>∃ L',aD G w9 L' w') [(0,0),(1,0),(2,1),(3,1),(4,0)] Tryz_mixed (by kernel_rfl) (fun _ hg=>⟨_,aD.mono q0 hg⟩) (fun c32 x2=>?_)
    have i9:=aD.mono q0 x2
    refine bS rfl (fun _ ⟨_,i9⟩=>gQ (t:=0) (vs:=[zS b3 d.Parts.length b4,zS b5 d.Meetings.length b6,zS b7 d.Allowed.length b8,zS b9 d.Hidden.length c0]) qN i9 (w6.mono c9) rfl rfl rfl) (bS rfl (fun _ ⟨_,i9⟩=>gQ (t:=0) (vs:=b2) aKF i9 x0 rfl rfl rfl) (qX rfl ?_));obtain ⟨c4,x3,hm⟩:=aB hm
    refine aS (vs:=j0) call6 rfl (oE x3 i9 (h3.mono (zL (zL (zL (zL (zL (zL e h) j) k) l) d3) c9)) (h6.mono (zL (zL (zL (zL (zL (zL e h) j) k) l) d3) c9)) (h9.mono (zL (zL (zL (zL (zL (zL e h) j) k) l) d3) c9)) (i7.mono (zL (zL (zL (zL (zL (zL e h) j) k) l) d3) c9))) ?_
    rintro _ c34 ⟨l3,l4,j5,l5,l6,l7,l8,l9,m0,rfl,x4,q1⟩
    refine bG (aC ⟨⟨_,q1⟩,?_⟩)
    refine qX rfl ?_;obtain ⟨c35,h8,x5,c36,x6,x7⟩:=aD.lendD' (i:=6) q1 k4 rfl rfl
    obtain ⟨c37,i0,x8,x9,y0⟩:=aD.lendSp x6 (zL (zL (zL (zL (zL (zL (zL e h) j) k) l) d3) c9) h8) zt6
    obtain ⟨c38,i1,y1,y2,y3⟩:=aD.lendSp x9 (zL (zL (zL (zL (zL (zL (zL (zL e h) j) k) l) d3) c9) h8) i0) zt6
    obtain ⟨c39,i2,y4,y5,y6⟩:=aD.lendSp y2 (zL (zL (zL (zL (zL (zL (zL (zL (zL e h) j) k) l) d3) c9) h8) i0) i1) zt6
    obtain ⟨c40,e0,y7,c41,y8,y9⟩:=aD.lendD' (i:=0) y5 x4 rfl rfl
    obtain ⟨c42,e1,z0,z1,z2⟩:=aD.lendSp y8 (zL (zL (zL (zL (zL (zL (zL (zL (zL (zL (zL e h) j) k) l) d3) c9) h8) i0) i1) i2) e0) .head
    obtain ⟨c43,e2,z3,z4,z5⟩:=aD.lendSp z1 (zL (zL (zL (zL (zL (zL (zL (zL (zL (zL (zL (zL e h) j) k) l) d3) c9) h8) i0) i1) i2) e0) e1) .head
    obtain ⟨c44,e3,z6,z7,z8⟩:=aD.lendSp z4 (zL (zL (zL (zL (zL (zL (zL (zL (zL (zL (zL (zL (zL e h) j) k) l) d3) c9) h8) i0) i1) i2) e0) e1) e2) .head
    obtain ⟨c45,z9,hm⟩:=aB hm
    refine aS (vs:=[zA #[zS b3 d.Parts.length b4,zS b5 d.Meetings.length b6,zS b7 d.Allowed.length b8,zS b9 d.Hidden.length c0],zA #[zS l3 c4.Parts.length l4,zS l5 c4.Meetings.length l6,zS l7 c4.Allowed.length l8,zS l9 c4.Hidden.length m0]]) call8 rfl (oI z9 z7 (x5.mono (zL (zL (zL (zL (zL (zL i0 i1) i2) e0) e1) e2) e3)) (x8.mono (zL (zL (zL (zL (zL i1 i2) e0) e1) e2) e3)) (y1.mono (zL (zL (zL (zL i2 e0) e1) e2) e3)) (y4.mono (zL (zL (zL e0 e1) e2) e3)) (y7.mono (zL (zL e1 e2) e3)) (z0.mono (zL e2 e3)) (z3.mono e3) z6) ?_
    rintro _ a00 ⟨rfl,a01⟩
    have a02:=z8 _ _ a01
    have a03:=z5 _ _ a02
    have a04:=z2 _ _ a03
    have a05:=y9 _ _ a04
    have a06:=y6 _ _ a05
    have a07:=y3 _ _ a06
    have a08:=y0 _ _ a07
    have q2:=x7 _ _ a08
    refine bG (aC ⟨⟨_,q2⟩,?_⟩)
    refine bS rfl (fun _ _=>zY rfl) (wY ?_)
    have a09:=x1 _ _ q2
    have m1:=w8 _ _ a09
    refine aC ?_
    rcases aP hm with ⟨m2,hm⟩|⟨m2,hm⟩
    ·refine aR m2 rfl (aI (aH (v:=zB false) (aG ?_)));obtain rfl:=zI hm
     exact lC (jU (nA results3 rfl ⟨rfl,(aD.weakK (aD.arr 23 [] m1 rfl) (zL (zL (zL (zL e h) j) k) l))⟩))
    ·refine bF m2 rfl (aY (aC (aI (aH (v:=i64 1) (aG (aI (aF (gH (us:=[zS b3 d.Parts.length b4,zS b5 d.Meetings.length b6,zS b7 d.Allowed.length b8,zS b9 d.Hidden.length c0]) qN m1 (i:=0) rfl rfl rfl rfl) (aL (v:=i64 1) ?_))))))))
     have a12:aD G b1 (aM 68 K b3 b4 (aZ d9 d.Parts)::rows [9,87] d9 d.Parts::aM 73 K b5 b6 d.Meetings::aM 9 K b7 b8 d.Allowed::aM 9 K b9 c0 d.Hidden::box i8 31 [zS b3 d.Parts.length b4,zS b5 d.Meetings.length b6,zS b7 d.Allowed.length b8,zS b9 d.Hidden.length c0]::box c1 26 b2::aM 68 K l3 l4 (aZ j5 c4.Parts)::rows [9,87] j5 c4.Parts::aM 73 K l5 l6 c4.Meetings::aM 9 K l7 l8 c4.Allowed::aM 9 K l9 m0 c4.Hidden::box d4 31 [zS p c.1.Parts.length q,zS r c.1.Meetings.length u,zS x c.1.Allowed.length y,zS z c.1.Hidden.length J]::aM 68 K p q (aZ c6 c.1.Parts)::rows [9,87] c6 c.1.Parts::aM 73 K r u c.1.Meetings::aM 9 K x y c.1.Allowed::aM 9 K z J c.1.Hidden::box d2 31 [zS V b.1.Parts.length a0,zS a2 b.1.Meetings.length a3,zS a5 b.1.Allowed.length a6,zS a8 b.1.Hidden.length a9]::aM 68 b1 V a0 b.1.Parts::aM 73 K a2 a3 b.1.Meetings::aM 9 K a5 a6 b.1.Allowed::aM 9 K a8 a9 b.1.Hidden::L) a00:=(aD.arr 7 [2,3,4,5,6,0,1] m1 rfl)
     obtain ⟨c7,a13,hm⟩:=aB hm
     refine aS (vs:=[zA #[zS b3 d.Parts.length b4,zS b5 d.Meetings.length b6,zS b7 d.Allowed.length b8,zS b9 d.Hidden.length c0],i64 1]) call9 rfl (uN a13 a12 k4) ?_
     rintro _ a14 ⟨q3,rfl,a15,c46,a16,a17,a18,a19⟩
     have j6:aD G b1 (aM 68 K b3 b4 (aZ q3 c7.2.1)::rows [9,87] q3 c7.2.1::aM 73 K b5 b6 c7.2.2.1::aM 9 K b7 b8 c7.2.2.2.1::aM 9 K b9 c0 c7.2.2.2.2::box i8 31 [zS b3 c7.2.1.length b4,zS b5 c7.2.2.1.length b6,zS b7 c7.2.2.2.1.length b8,zS b9 c7.2.2.2.2.length c0]::box c1 26 b2::aM 68 K l3 l4 (aZ j5 c4.Parts)::rows [9,87] j5 c4.Parts::aM 73 K l5 l6 c4.Meetings::aM 9 K l7 l8 c4.Allowed::aM 9 K l9 m0 c4.Hidden::box d4 31 [zS p c.1.Parts.length q,zS r c.1.Meetings.length u,zS x c.1.Allowed.length y,zS z c.1.Hidden.length J]::aM 68 K p q (aZ c6 c.1.Parts)::rows [9,87] c6 c.1.Parts::aM 73 K r u c.1.Meetings::aM 9 K x y c.1.Allowed::aM 9 K z J c.1.Hidden::box d2 31 [zS V b.1.Parts.length a0,zS a2 b.1.Meetings.length a3,zS a5 b.1.Allowed.length a6,zS a8 b.1.Hidden.length a9]::aM 68 b1 V a0 b.1.Parts::aM 73 K a2 a3 b.1.Meetings::aM 9 K a5 a6 b.1.Allowed::aM 9 K a8 a9 b.1.Hidden::L) a14:=by rw [←a15,←a16,←a17,←a18];exact a19
     refine aH (v:=i64 c7.1) (aG (aJ (aJ (bO [1,2,6,7,9] (fun f w=>∃ m3,fA aN d1 b c m3=some R/\f 65=zB m3/\aD G b1 (box c1 26 b2::box d4 31 [zS p c.1.Parts.length q,zS r c.1.Meetings.length u,zS x c.1.Allowed.length y,zS z c.1.Hidden.length J]::aM 68 K p q (aZ c6 c.1.Parts)::rows [9,87] c6 c.1.Parts::aM 73 K r u c.1.Meetings::aM 9 K x y c.1.Allowed::aM 9 K z J c.1.Hidden::box d2 31 [zS V b.1.Parts.length a0,zS a2 b.1.Meetings.length a3,zS a5 b.1.Allowed.length a6,zS a8 b.1.Hidden.length a9]::aM 68 b1 V a0 b.1.Parts::aM 73 K a2 a3 b.1.Meetings::aM 9 K a5 a6 b.1.Allowed::aM 9 K a8 a9 b.1.Hidden::L) w) ?_ ?_))))
     ·rintro f a20 ⟨m3,hm,q4,m4⟩
      unfold fA at hm
      refine aC ?_
      rcases aP hm with ⟨m5,hm⟩|⟨m5,hm⟩
      ·refine aR m5 q4 (aI (aH (v:=zB false) (aG ?_)));obtain rfl:=zI hm
       exact lC (jU (nA results3 rfl ⟨rfl,(aD.weakK (aD.arr 12 [] m4 rfl) (zL (zL (zL (zL e h) j) k) l))⟩))
      ·refine bF m5 q4 (aY (aC (aI (aH (v:=i64 1) (aG (aI (aF (gH (us:=[zS p c.1.Parts.length q,zS r c.1.Meetings.length u,zS x c.1.Allowed.length y,zS z c.1.Hidden.length J]) qN m4 (i:=1) rfl rfl rfl rfl) (aL (v:=i64 1) ?_))))))))
       have a22:aD G b1 (aM 68 K p q (aZ c6 c.1.Parts)::rows [9,87] c6 c.1.Parts::aM 73 K r u c.1.Meetings::aM 9 K x y c.1.Allowed::aM 9 K z J c.1.Hidden::box c1 26 b2::box d4 31 [zS p c.1.Parts.length q,zS r c.1.Meetings.length u,zS x c.1.Allowed.length y,zS z c.1.Hidden.length J]::box d2 31 [zS V b.1.Parts.length a0,zS a2 b.1.Meetings.length a3,zS a5 b.1.Allowed.length a6,zS a8 b.1.Hidden.length a9]::aM 68 b1 V a0 b.1.Parts::aM 73 K a2 a3 b.1.Meetings::aM 9 K a5 a6 b.1.Allowed::aM 9 K a8 a9 b.1.Hidden::L) a20:=(aD.arr 7 [2,3,4,5,6,0,1] m4 rfl)
       obtain ⟨m,a23,hm⟩:=aB hm
       refine aS (vs:=[zA #[zS p c.1.Parts.length q,zS r c.1.Meetings.length u,zS x c.1.Allowed.length y,zS z c.1.Hidden.length J],i64 1]) call9 rfl (uN a23 a22 k9) ?_
       rintro _ a25 ⟨i3,rfl,a26,q5,a27,a29,a31,a33⟩
       have q6:aD G b1 (aM 68 K p q (aZ i3 m.2.1)::rows [9,87] i3 m.2.1::aM 73 K r u m.2.2.1::aM 9 K x y m.2.2.2.1::aM 9 K z J m.2.2.2.2::box c1 26 b2::box d4 31 [zS p m.2.1.length q,zS r m.2.2.1.length u,zS x m.2.2.2.1.length y,zS z m.2.2.2.2.length J]::box d2 31 [zS V b.1.Parts.length a0,zS a2 b.1.Meetings.length a3,zS a5 b.1.Allowed.length a6,zS a8 b.1.Hidden.length a9]::aM 68 b1 V a0 b.1.Parts::aM 73 K a2 a3 b.1.Meetings::aM 9 K a5 a6 b.1.Allowed::aM 9 K a8 a9 b.1.Hidden::L) a25:=by rw [←a26,←a27,←a29,←a31];exact a33
       refine aH (v:=i64 m.1) (aG (aI (aH (v:=i64 1) (aG (aI (aF (gH (us:=[zS p m.2.1.length q,zS r m.2.2.1.length u,zS x m.2.2.2.1.length y,zS z m.2.2.2.2.length J]) qN q6 (i:=6) rfl rfl rfl rfl) (aL (v:=i64 1) ?_)))))));obtain ⟨c47,m6,a34,c48,a35,a36⟩:=aD.lendD' (i:=0) q6 q5 rfl rfl
       obtain ⟨c49,m7,a37,a38,a39⟩:=aD.lendSp a35 (zL (zL (zL (zL (zL e h) j) k) l) m6) .head
       obtain ⟨c50,m8,a40,a41,a42⟩:=aD.lendSp a38 (zL (zL (zL (zL (zL (zL e h) j) k) l) m6) m7) .head
       obtain ⟨c51,m9,a43,a44,a45⟩:=aD.lendSp a41 (zL (zL (zL (zL (zL (zL (zL e h) j) k) l) m6) m7) m8) .head
       obtain ⟨n0,a46,hm⟩:=aB hm
       refine aS (vs:=[zA #[zS p m.2.1.length q,zS r m.2.2.1.length u,zS x m.2.2.2.1.length y,zS z m.2.2.2.2.length J],i64 1]) call10 rfl (uO (a:=⟨m.2.1,m.2.2.1,m.2.2.2.1,m.2.2.2.2⟩) a46 a44 (a34.mono (zL (zL m7 m8) m9)) (a37.mono (zL m8 m9)) (a40.mono m9) a43) ?_
       rintro _ c52 ⟨rfl,a47⟩
       have a48:=a45 _ _ a47
       have a49:=a42 _ _ a48
       have a50:=a39 _ _ a49
       have j7:=a36 _ _ a50
       refine aH (v:=i64 n0) (aG (aJ (aI (aL (v:=i64 n0) (aF (cE rfl rfl) (aG ?_))))))
       rcases aP hm with ⟨n1,hm⟩|⟨n1,hm⟩
       ·refine aR n1 rfl (aI (aH (v:=zB false) (aG ?_)));obtain rfl:=zI hm
        exact lC (jU (nA results3 rfl ⟨rfl,(aD.weakK (aD.arr 12 [] j7 rfl) (zL (zL (zL (zL e h) j) k) l))⟩))
       ·refine bF n1 rfl (aY (aC (aJ (aI (aL (v:=i64 n0) (aL (v:=i64 m.1) (aF (aAO rfl rfl) (aG ?_))))))))
        rcases aP hm with ⟨n2,hm⟩|⟨n2,hm⟩
        ·refine aR n2 rfl (aI (aH (v:=zB false) (aG ?_)));obtain rfl:=zI hm
         exact lC (jU (nA results3 rfl ⟨rfl,(aD.weakK (aD.arr 12 [] j7 rfl) (zL (zL (zL (zL e h) j) k) l))⟩))
        ·refine bF n2 rfl (aY (aC (aI (aF (gH (us:=b2) aKF j7 (i:=5) rfl rfl rfl rfl) ?_))));obtain ⟨d5,a53,hm⟩:=aB hm
         refine aS (vs:=j0) call6 rfl (oE a53 j7 (h3.mono (zL (zL (zL (zL e h) j) k) l)) (h6.mono (zL (zL (zL (zL e h) j) k) l)) (h9.mono (zL (zL (zL (zL e h) j) k) l)) (i7.mono (zL (zL (zL (zL e h) j) k) l))) ?_
         rintro _ c53 ⟨q7,q8,q9,r0,r1,r2,r3,r4,r5,rfl,a54,a55⟩
         refine aL (v:=i64 d1) ?_;obtain ⟨c54,n3,a57,c55,a59,a61⟩:=aD.lendD' (i:=0) a55 a54 rfl rfl
         obtain ⟨c56,n4,a63,a64,a65⟩:=aD.lendSp a59 (zL (zL (zL (zL (zL e h) j) k) l) n3) .head
         obtain ⟨c58,n5,a66,a67,a68⟩:=aD.lendSp a64 (zL (zL (zL (zL (zL (zL e h) j) k) l) n3) n4) .head
         obtain ⟨c60,n6,a69,a70,a71⟩:=aD.lendSp a67 (zL (zL (zL (zL (zL (zL (zL e h) j) k) l) n3) n4) n5) .head
         obtain ⟨o,a72,hm⟩:=aB hm
         refine aS (vs:=[zA #[zS q7 d5.Parts.length q8,zS r0 d5.Meetings.length r1,zS r2 d5.Allowed.length r3,zS r4 d5.Hidden.length r5],i64 d1]) call7 rfl (rT a72 a70 hG (a57.mono (zL (zL n4 n5) n6)) (a63.mono (zL n5 n6)) (a66.mono n6) a69) ?_
         rintro _ c62 ⟨e4,e5,r6,e6,e7,e8,e9,f0,f1,rfl,a74,a75⟩
         have a76:=a71 _ _ a75
         have a78:=a68 _ _ a76
         have a80:=a65 _ _ a78
         have a82:=a61 _ _ a80
         refine aL (v:=Value.tuple #[zA #[zS e4 o.1.Parts.length e5,zS e6 o.1.Meetings.length e7,zS e8 o.1.Allowed.length e9,zS f0 o.1.Hidden.length f1],i64 o.2]) (aF (fU rfl rfl) (aF (fU rfl rfl) (bH (vs:=j1) zeroValue31 a82 rfl (fun a83 c64 a84=>(cF (i:=0) (ns:=[zS e4 o.1.Parts.length e5,zS e6 o.1.Meetings.length e7,zS e8 o.1.Allowed.length e9,zS f0 o.1.Hidden.length f1]) (us:=[zS e4 o.1.Parts.length e5,zS e6 o.1.Meetings.length e7,zS e8 o.1.Allowed.length e9,zS f0 o.1.Hidden.length f1]) sizeOf31 a84 rfl rfl rfl rfl rfl (eD rfl) rfl rfl (fun a85 (n7:aD G b1 (box a83 31 [zS e4 o.1.Parts.length e5,zS e6 o.1.Meetings.length e7,zS e8 o.1.Allowed.length e9,zS f0 o.1.Hidden.length f1]::aM 68 K q7 q8 (aZ q9 d5.Parts)::rows [9,87] q9 d5.Parts::aM 73 K r0 r1 d5.Meetings::aM 9 K r2 r3 d5.Allowed::aM 9 K r4 r5 d5.Hidden::aM 68 K e4 e5 (aZ r6 o.1.Parts)::rows [9,87] r6 o.1.Parts::aM 73 K e6 e7 o.1.Meetings::aM 9 K e8 e9 o.1.Allowed::aM 9 K f0 f1 o.1.Hidden::aM 68 K p q (aZ i3 m.2.1)::rows [9,87] i3 m.2.1::aM 73 K r u m.2.2.1::aM 9 K x y m.2.2.2.1::aM 9 K z J m.2.2.2.2::box c1 26 b2::box d4 31 [zS p m.2.1.length q,zS r m.2.2.1.length u,zS x m.2.2.2.1.length y,zS z m.2.2.2.2.length J]::box d2 31 [zS V b.1.Parts.length a0,zS a2 b.1.Meetings.length a3,zS a5 b.1.Allowed.length a6,zS a8 b.1.Hidden.length a9]::aM 68 b1 V a0 b.1.Parts::aM 73 K a2 a3 b.1.Meetings::aM 9 K a5 a6 b.1.Allowed::aM 9 K a8 a9 b.1.Hidden::L) a85)=>(aH (v:=i64 o.2) (aG (aJ (aJ (bO [9,12] (fun f w=>∃ n8,gM m n8=some R/\f 92=zB n8/\aD G b1 (aM 68 K p q (aZ i3 m.2.1)::rows [9,87] i3 m.2.1::aM 73 K r u m.2.2.1::aM 9 K x y m.2.2.2.1::aM 9 K z J m.2.2.2.2::box d4 31 [zS p m.2.1.length q,zS r m.2.2.1.length u,zS x m.2.2.2.1.length y,zS z m.2.2.2.2.length J]::L) w) ?_ ?_)))))))))))
         ·rintro f c65 ⟨n8,hm,r7,n9⟩
          unfold gM at hm
          refine aC ?_
          rcases aP hm with ⟨o0,hm⟩|⟨o0,hm⟩
          ·refine aR o0 r7 (aI (aH (v:=zB false) (aG ?_)));obtain rfl:=zI hm
           exact lC (jU (nA results3 rfl ⟨rfl,(aD.weakK (aD.arr 6 [] n9 rfl) (zL (zL (zL (zL e h) j) k) l))⟩))
          ·refine bF o0 r7 (aY (aC (aI (aH (v:=i64 1) (aG (aI (aF (gH (us:=[zS p m.2.1.length q,zS r m.2.2.1.length u,zS x m.2.2.2.1.length y,zS z m.2.2.2.2.length J]) qN n9 (i:=5) rfl rfl rfl rfl) (aL (v:=i64 1) ?_))))))));obtain ⟨c66,o1,a87,c67,a88,a89⟩:=aD.lendD' (i:=0) n9 q5 rfl rfl
           obtain ⟨c68,o2,a90,a91,a92⟩:=aD.lendSp a88 (zL (zL (zL (zL (zL e h) j) k) l) o1) .head
           obtain ⟨c69,o3,a93,a94,a95⟩:=aD.lendSp a91 (zL (zL (zL (zL (zL (zL e h) j) k) l) o1) o2) .head
           obtain ⟨c70,o4,a96,a97,a98⟩:=aD.lendSp a94 (zL (zL (zL (zL (zL (zL (zL e h) j) k) l) o1) o2) o3) .head
           obtain ⟨o5,a99,hm⟩:=aB hm
           refine aS (vs:=[zA #[zS p m.2.1.length q,zS r m.2.2.1.length u,zS x m.2.2.2.1.length y,zS z m.2.2.2.2.length J],i64 1]) call10 rfl (uO (a:=⟨m.2.1,m.2.2.1,m.2.2.2.1,m.2.2.2.2⟩) a99 a97 (a87.mono (zL (zL o2 o3) o4)) (a90.mono (zL o3 o4)) (a93.mono o4) a96) ?_
           rintro _ c71 ⟨rfl,b00⟩
           have b01:=a98 _ _ b00
           have b02:=a95 _ _ b01
           have b03:=a92 _ _ b02
           have o6:=a89 _ _ b03
           refine aH (v:=i64 o5) (aG (aJ (aI (aL (v:=i64 o5) (aF (cE rfl rfl) (aG ?_))))))
           rcases aP hm with ⟨o7,hm⟩|⟨o7,hm⟩
           ·refine aR o7 rfl (aI (aH (v:=zB false) (aG ?_)));obtain rfl:=zI hm
            exact lC (jU (nA results3 rfl ⟨rfl,(aD.weakK (aD.arr 6 [] o6 rfl) (zL (zL (zL (zL e h) j) k) l))⟩))
           ·refine bF o7 rfl (aY (aC (aJ (aI (aL (v:=i64 o5) (aL (v:=i64 m.1) (aF (aAO rfl rfl) (aG ?_))))))))
            rcases aP hm with ⟨o8,hm⟩|⟨o8,hm⟩
            ·refine aR o8 rfl (aI (aH (v:=zB false) (aG ?_)));obtain rfl:=zI hm
             exact lC (jU (nA results3 rfl ⟨rfl,(aD.weakK (aD.arr 6 [] o6 rfl) (zL (zL (zL (zL e h) j) k) l))⟩))
            ·refine bF o8 rfl (aY (aC (aI (aH (v:=zB true) (aG ?_)))));obtain rfl:=zI hm
             exact lC (nA results3 rfl ⟨rfl,(aD.weakK (aD.arr 6 [] o6 rfl) (zL (zL (zL (zL e h) j) k) l))⟩)
         refine aU (aF (gH (us:=[zS e4 o.1.Parts.length e5,zS e6 o.1.Meetings.length e7,zS e8 o.1.Allowed.length e9,zS f0 o.1.Hidden.length f1]) qN n7 (i:=0) rfl rfl rfl rfl) (aF (gH (us:=[zS V b.1.Parts.length a0,zS a2 b.1.Meetings.length a3,zS a5 b.1.Allowed.length a6,zS a8 b.1.Hidden.length a9]) qN n7 (i:=18) rfl rfl rfl rfl) ?_));obtain ⟨c72,f2,b07,c73,b08,b09⟩:=aD.lendD' (i:=6) n7 a74 rfl rfl
         obtain ⟨c75,f3,b10,b11,b12⟩:=aD.lendSp b08 (zL (zL (zL (zL (zL e h) j) k) l) f2) zt6
         obtain ⟨c76,f4,b14,b15,b16⟩:=aD.lendSp b11 (zL (zL (zL (zL (zL (zL e h) j) k) l) f2) f3) zt6
         obtain ⟨c77,f5,b17,b18,b19⟩:=aD.lendSp b15 (zL (zL (zL (zL (zL (zL (zL e h) j) k) l) f2) f3) f4) zt6
         obtain ⟨c79,f6,b20,b21,b22⟩:=aD.lendSp b18 (zL (zL (zL f2 f3) f4) f5) (.tail (.tail zt12))
         obtain ⟨c81,f7,b23,b24,b25⟩:=aD.lendSp b21 (zL (zL (zL (zL (zL (zL (zL (zL (zL e h) j) k) l) f2) f3) f4) f5) f6) (.tail (.tail zt12))
         obtain ⟨c83,f8,b26,b27,b28⟩:=aD.lendSp b24 (zL (zL (zL (zL (zL (zL (zL (zL (zL (zL e h) j) k) l) f2) f3) f4) f5) f6) f7) (.tail (.tail zt12))
         obtain ⟨c84,f9,b29,b30,b31⟩:=aD.lendSp b27 (zL (zL (zL (zL (zL (zL (zL (zL (zL (zL (zL e h) j) k) l) f2) f3) f4) f5) f6) f7) f8) (.tail (.tail zt12))
         obtain ⟨b32,b33,hm⟩:=aB hm
         refine aS (vs:=[zA #[zS e4 o.1.Parts.length e5,zS e6 o.1.Meetings.length e7,zS e8 o.1.Allowed.length e9,zS f0 o.1.Hidden.length f1],zA #[zS V b.1.Parts.length a0,zS a2 b.1.Meetings.length a3,zS a5 b.1.Allowed.length a6,zS a8 b.1.Hidden.length a9]]) call8 rfl (oI b33 b30 (b07.mono (zL (zL (zL (zL (zL (zL f3 f4) f5) f6) f7) f8) f9)) (b10.mono (zL (zL (zL (zL (zL f4 f5) f6) f7) f8) f9)) (b14.mono (zL (zL (zL (zL f5 f6) f7) f8) f9)) (b17.mono (zL (zL (zL f6 f7) f8) f9)) (b20.mono (zL (zL f7 f8) f9)) (b23.mono (zL f8 f9)) (b26.mono f9) b29) ?_
         rintro _ c85 ⟨rfl,b34⟩
         have b35:=b31 _ _ b34
         have b36:=b28 _ _ b35
         have b37:=b25 _ _ b36
         have b38:=b22 _ _ b37
         have b39:=b19 _ _ b38
         have b40:=b16 _ _ b39
         have b41:=b12 _ _ b40
         have r8:=b09 _ _ b41
         refine aF (zY rfl) (aL (v:=zB (!b32)) ?_)
         rcases aP hm with ⟨d6,hm⟩|⟨d6,hm⟩
         ·exact gW d6 rfl rfl (gW d6 rfl rfl (gW d6 rfl rfl (aF (lE (v:=zB true) d6 rfl rfl) (aG ⟨bZ,true,hm,rfl,(aD.arr 23 [15,16,17,18,19,21] r8 rfl)⟩))))
         ·exact iR d6 rfl rfl (aL (v:=i64 o.2) (iR d6 rfl rfl (aL (v:=i64 b.2) (iR d6 rfl rfl (aF (aAO rfl rfl) (aF (qW (v:=zB (o.2 != b.2)) d6 rfl rfl) (aG ⟨bZ,o.2 != b.2,hm,rfl,(aD.arr 23 [15,16,17,18,19,21] r8 rfl)⟩)))))))
     refine aU (aL (v:=i64 c7.1) (aF (cE rfl rfl) (aL (v:=zB (decide (c7.1 < 0))) ?_)))
     rcases aP hm with ⟨d0,hm⟩|⟨d0,hm⟩
     ·exact gW d0 rfl rfl (gW d0 rfl rfl (gW d0 rfl rfl (gW d0 rfl rfl (aF (lE (v:=zB true) d0 rfl rfl) (aL (v:=zB true) (gW (rfl:true=true) rfl rfl (gW (rfl:true=true) rfl rfl (gW (rfl:true=true) rfl rfl (aF (lE (v:=zB true) (rfl:true=true) rfl rfl) (aG ⟨bZ,true,hm,rfl,(aD.arr 12 [6] j6 rfl)⟩))))))))))
     ·refine iR d0 rfl rfl (aF (gH (us:=[zS p c.1.Parts.length q,zS r c.1.Meetings.length u,zS x c.1.Allowed.length y,zS z c.1.Hidden.length J]) qN j6 (i:=12) rfl rfl rfl rfl) (iR d0 rfl rfl (aF (gH (us:=[zS V b.1.Parts.length a0,zS a2 b.1.Meetings.length a3,zS a5 b.1.Allowed.length a6,zS a8 b.1.Hidden.length a9]) qN j6 (i:=18) rfl rfl rfl rfl) (iR d0 rfl rfl ?_))));obtain ⟨c86,g0,b42,c87,b43,b44⟩:=aD.lendD' (i:=13) j6 k9 rfl rfl
      obtain ⟨c88,g1,b45,b46,b47⟩:=aD.lendSp b43 (zL (zL (zL (zL (zL e h) j) k) l) g0) (.tail zt12)
      obtain ⟨c89,g2,b48,b49,b50⟩:=aD.lendSp b46 (zL (zL (zL (zL (zL (zL e h) j) k) l) g0) g1) (.tail zt12)
      obtain ⟨c90,g3,b51,b52,b53⟩:=aD.lendSp b49 (zL (zL (zL (zL (zL (zL (zL e h) j) k) l) g0) g1) g2) (.tail zt12)
      obtain ⟨c91,g4,b54,b55,b56⟩:=aD.lendSp b52 (zL (zL (zL g0 g1) g2) g3) (.tail (.tail zt12))
      obtain ⟨c92,g5,b57,b58,b59⟩:=aD.lendSp b55 (zL (zL (zL (zL (zL (zL (zL (zL (zL e h) j) k) l) g0) g1) g2) g3) g4) (.tail (.tail zt12))
      obtain ⟨c93,g6,b60,b61,b62⟩:=aD.lendSp b58 (zL (zL (zL (zL (zL (zL (zL (zL (zL (zL e h) j) k) l) g0) g1) g2) g3) g4) g5) (.tail (.tail zt12))
      obtain ⟨c94,g7,b63,b64,b65⟩:=aD.lendSp b61 (zL (zL (zL (zL (zL (zL (zL (zL (zL (zL (zL e h) j) k) l) g0) g1) g2) g3) g4) g5) g6) (.tail (.tail zt12))
      obtain ⟨r9,b67,hm⟩:=aB hm
      refine aS (vs:=[zA #[zS p c.1.Parts.length q,zS r c.1.Meetings.length u,zS x c.1.Allowed.length y,zS z c.1.Hidden.length J],zA #[zS V b.1.Parts.length a0,zS a2 b.1.Meetings.length a3,zS a5 b.1.Allowed.length a6,zS a8 b.1.Hidden.length a9]]) call8 rfl (oI b67 b64 (b42.mono (zL (zL (zL (zL (zL (zL g1 g2) g3) g4) g5) g6) g7)) (b45.mono (zL (zL (zL (zL (zL g2 g3) g4) g5) g6) g7)) (b48.mono (zL (zL (zL (zL g3 g4) g5) g6) g7)) (b51.mono (zL (zL (zL g4 g5) g6) g7)) (b54.mono (zL (zL g5 g6) g7)) (b57.mono (zL g6 g7)) (b60.mono g7) b63) ?_
      rintro _ c95 ⟨rfl,b68⟩
      have b69:=b65 _ _ b68
      have b70:=b62 _ _ b69
      have b71:=b59 _ _ b70
      have b72:=b56 _ _ b71
      have b73:=b53 _ _ b72
      have b74:=b50 _ _ b73
      have b75:=b47 _ _ b74
      have s0:=b44 _ _ b75
      refine iR d0 rfl rfl (aF (zY rfl) (aF (qW (v:=zB (!r9)) d0 rfl rfl) (aL (v:=zB (!r9)) ?_)))
      rcases aP hm with ⟨d7,hm⟩|⟨d7,hm⟩
      ·exact gW d7 rfl rfl (gW d7 rfl rfl (gW d7 rfl rfl (aF (lE (v:=zB true) d7 rfl rfl) (aG ⟨bZ,true,hm,rfl,(aD.arr 23 [15,21,0,1,2,3,4,22,5,6,7,8] s0 rfl)⟩))))
      ·exact iR d7 rfl rfl (aL (v:=i64 c.2) (iR d7 rfl rfl (aL (v:=i64 b.2) (iR d7 rfl rfl (aF (aAO rfl rfl) (aF (qW (v:=zB (c.2 != b.2)) d7 rfl rfl) (aG ⟨bZ,c.2 != b.2,hm,rfl,(aD.arr 23 [15,21,0,1,2,3,4,22,5,6,7,8] s0 rfl)⟩)))))))
  refine aU (aF (gH (us:=[zS p c.1.Parts.length q,zS r c.1.Meetings.length u,zS x c.1.Allowed.length y,zS z c.1.Hidden.length J]) qN l0 (i:=0) rfl rfl rfl rfl) (aF (gH (us:=[zS V b.1.Parts.length a0,zS a2 b.1.Meetings.length a3,zS a5 b.1.Allowed.length a6,zS a8 b.1.Hidden.length a9]) qN l0 (i:=12) rfl rfl rfl rfl) ?_));obtain ⟨c96,g8,b76,c97,b77,b78⟩:=aD.lendD' (i:=6) l0 k9 rfl rfl
  obtain ⟨c98,g9,b79,b80,b81⟩:=aD.lendSp b77 (zL (zL (zL (zL (zL e h) j) k) l) g8) zt6
  obtain ⟨c99,h0,b82,b83,b84⟩:=aD.lendSp b80 (zL (zL (zL (zL (zL (zL e h) j) k) l) g8) g9) zt6
  obtain ⟨d00,h1,b86,b87,b88⟩:=aD.lendSp b83 (zL (zL (zL (zL (zL (zL (zL e h) j) k) l) g8) g9) h0) zt6
  obtain ⟨d01,h2,b89,b90,b91⟩:=aD.lendSp b87 (zL (zL (zL g8 g9) h0) h1) zt8
  obtain ⟨d02,h4,b92,b93,b94⟩:=aD.lendSp b90 (zL (zL (zL (zL (zL (zL (zL (zL (zL e h) j) k) l) g8) g9) h0) h1) h2) zt8
  obtain ⟨d03,h5,b95,b96,b97⟩:=aD.lendSp b93 (zL (zL (zL (zL (zL (zL (zL (zL (zL (zL e h) j) k) l) g8) g9) h0) h1) h2) h4) zt8
  obtain ⟨d04,h7,b98,b99,c00⟩:=aD.lendSp b96 (zL (zL (zL (zL (zL (zL (zL (zL (zL (zL (zL e h) j) k) l) g8) g9) h0) h1) h2) h4) h5) zt8
  obtain ⟨c01,c02,hm⟩:=aB hm
  refine aS (vs:=[zA #[zS p c.1.Parts.length q,zS r c.1.Meetings.length u,zS x c.1.Allowed.length y,zS z c.1.Hidden.length J],zA #[zS V b.1.Parts.length a0,zS a2 b.1.Meetings.length a3,zS a5 b.1.Allowed.length a6,zS a8 b.1.Hidden.length a9]]) call8 rfl (oI c02 b99 (b76.mono (zL (zL (zL (zL (zL (zL g9 h0) h1) h2) h4) h5) h7)) (b79.mono (zL (zL (zL (zL (zL h0 h1) h2) h4) h5) h7)) (b82.mono (zL (zL (zL (zL h1 h2) h4) h5) h7)) (b86.mono (zL (zL (zL h2 h4) h5) h7)) (b89.mono (zL (zL h4 h5) h7)) (b92.mono (zL h5 h7)) (b95.mono h7) b98) ?_
  rintro _ d05 ⟨rfl,c03⟩
  have c04:=c00 _ _ c03
  have c05:=b97 _ _ c04
  have c06:=b94 _ _ c05
  have c07:=b91 _ _ c06
  have c08:=b88 _ _ c07
  have c09:=b84 _ _ c08
  have c10:=b81 _ _ c09
  have s1:=b78 _ _ c10
  refine aF (zY rfl) (aL (v:=zB (!c01)) ?_)
  rcases aP hm with ⟨d8,hm⟩|⟨d8,hm⟩
  ·exact gW d8 rfl rfl (gW d8 rfl rfl (gW d8 rfl rfl (aF (lE (v:=zB true) d8 rfl rfl) (aG ⟨bZ,true,hm,rfl,(aD.arr 17 [9,10,11,12,13,14,0,1,2,3,4,15,16,5,6,7,8] s1 rfl)⟩))))
  ·exact iR d8 rfl rfl (aL (v:=i64 c.2) (iR d8 rfl rfl (aL (v:=i64 b.2) (iR d8 rfl rfl (aF (aAO rfl rfl) (aF (qW (v:=zB (c.2 != b.2)) d8 rfl rfl) (aG ⟨bZ,c.2 != b.2,hm,rfl,(aD.arr 17 [9,10,11,12,13,14,0,1,2,3,4,15,16,5,6,7,8] s1 rfl)⟩)))))))
end Gv
