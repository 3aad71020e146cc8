/- Walks, printed by program. -/
import Derived.Test.YtgpmcacjpjongaaGreatDoorJWk3
set_option linter.all false
namespace Gv
open Go.Value renaming slice→zS,bool→zB,pointer→zP,agg→zA
open Option.some renaming inj→zI
open Gv.Hp renaming le_trans→zL,le_refl→zR
open Go Go.Proofs Go.Proofs.Tryz
set_option maxRecDepth 20000
set_option maxHeartbeats 40000000
variable {G:wY} {K:Hp} {L:List iN} {w:World} {b1 c3 c2 c5:Nat} {a2 a1 a4:Option Addr}
theorem aDg {n:(List UInt8)} {d0 d1:Int} {R:(bF × bF × Int × Int)} (hm:vY n d0 d1=some R) (hs:aD G K (box b1 72 [zS a2 n.length c3,i64 d0,Value.int .u64 d1]::L) w) (V:bS K a2 c3 n):
  Calls prog 12 ([zP (some ⟨b1,0,none⟩)]:List Value).toArray w (eR fun v w'=>∃ e5 e6 e7 e8 e9 f0 f1 f2,v=Value.tuple #[zA (zCa R.1 e5 e6 e7 e8),zA (zCa R.2.1 e9 f0 f1 f2)]/\aD G K (aG 9 K e5 e6 R.1.L::aG 46 K e7 e8 R.1.E::aG 9 K e9 f0 R.2.1.L::aG 46 K f1 f2 R.2.1.E::box b1 72 [zS a2 n.length c3,i64 R.2.2.1,Value.int .u64 R.2.2.2]::L) w'):=by
 let c:=zG
 refine aR func12 rfl (by kernel_rfl) (by show (1:Nat)<=67;decide) ?_;unfold vY at hm
 refine aO (aX (vs:=c) zeroValue27 hs rfl (fun q w6 i9=>(aX (vs:=c) zeroValue27 i9 rfl (fun r w9 j1=>(aK (aO (aL (v:=zP (some ⟨b1,0,none⟩)) ?_)))))))
 have j2:aD G K (box b1 72 [zS a2 n.length c3,i64 d0,Value.int .u64 d1]::box r 27 c::box q 27 c::L) w9:=(aD.arr 3 [2,0,1] j1 rfl)
 obtain ⟨a,j3,hm⟩:=aC hm
 refine aQ (vs:=[zP (some ⟨b1,0,none⟩)]) call32 rfl (aFY j3 j2 V) ?_
 rintro _ s9 ⟨d,e,h,k,rfl,j4⟩
 refine aX (vs:=c) zeroValue27 j4 rfl (fun o t0 j5=>(bH (i:=0) (ns:=(zC a.1 d e h k)) (us:=(zC a.1 d e h k)) sizeOf27 j5 rfl rfl rfl rfl rfl (cK rfl) rfl rfl (fun j6 (j7:aD G K (box o 27 (zC a.1 d e h k)::aG 9 K d e a.1.L::aG 46 K h k a.1.E::box b1 72 [zS a2 n.length c3,i64 a.2.1,Value.int .u64 a.2.2]::box r 27 c::box q 27 c::L) j6)=>(aK (aM (aM (bR [0,2,3,4] (fun f w=>∃ b7 b9 d2,mR n a b7 b9 d2=some R/\f 15=zB d2/\aD G K (box o 27 (zC a.1 d e h k)::aG 9 K d e a.1.L::aG 46 K h k a.1.E::box b1 72 [zS a2 n.length c3,i64 b7,Value.int .u64 b9]::box r 27 c::box q 27 c::L) w) ?_ ?_)))))))
 ·rintro f t1 ⟨b7,b9,d2,hm,f3,f4⟩
  unfold mR at hm
  refine aB ?_
  rcases aN hm with ⟨d3,hm⟩|⟨d3,hm⟩
  ·refine aT d3 f3 (aM ?_);obtain ⟨j8,t2,t3,f5,t4⟩:=aD.lendBp f4 .head
   refine dX (C:=fun w'=>∃ L',aD G j8 L' w') [(0,0),(1,1),(2,1),(3,2),(4,2)] Tryz_mixed (by kernel_rfl) (fun _ hg=>⟨_,aD.mono f5 hg⟩) (fun t5 j9=>?_)
   have t6:=aD.mono f5 j9
   exact aP
  ·refine aW d3 f3 (bB (aB (aO ?_)));obtain ⟨t7,k0,k1,k2,k3⟩:=aD.lendSp f4 (zR _) zt1
   obtain ⟨t8,k4,k5,k6,k7⟩:=aD.lendSp k2 k0 zt1
   obtain ⟨t9,f6,k8,k9,l0⟩:=aD.lendBp k6 .head
   obtain ⟨b,l1,hm⟩:=aC hm
   refine aQ (vs:=[cP (some ⟨o,0,none⟩) 0]) call35 rfl (aAS l1 k9 k8 (k1.mono (zL k4 f6)) (k5.mono f6)) ?_
   rintro _ u0 ⟨l,m,a1,a3,rfl,l2⟩
   have l3:=l0 _ _ l2
   have l4:=k7 _ _ l3
   have l5:=k3 _ _ l4
   refine aX (vs:=c) zeroValue27 l5 rfl (fun a0 u1 l6=>(bH (i:=0) (ns:=(zC b l m a1 a3)) (us:=(zC b l m a1 a3)) sizeOf27 l6 rfl rfl rfl rfl rfl (cK rfl) rfl rfl (fun l7 (u2:aD G K (box a0 27 (zC b l m a1 a3)::aG 9 K d e a.1.L::aG 46 K h k a.1.E::box o 27 (zC a.1 d e h k)::aG 9 K l m b.L::aG 46 K a1 a3 b.E::box b1 72 [zS a2 n.length c3,i64 b7,Value.int .u64 b9]::box r 27 c::box q 27 c::L) l7)=>(aK (qE [0,2,3,4,5] (fun f w=>∃ c0 c1 p u x,mP n a b c0 c1 p=some R/\aD G K (aG 46 K u x p::box a0 27 [i64 b.N,i64 b.I,zS l b.L.length m,zS u p.length x]::aG 9 K d e a.1.L::aG 46 K h k a.1.E::box o 27 (zC a.1 d e h k)::aG 9 K l m b.L::box b1 72 [zS a2 n.length c3,i64 c0,Value.int .u64 c1]::box r 27 c::box q 27 c::L) w) ?_ ?_)))))
   ·rintro f l8 ⟨c0,c1,p,u,x,hm,l9⟩
    unfold mP at hm
    refine qE [2,3,4,5] (fun f w=>∃ b2 d4 d5 c2 c4,uP a b b2 d4 d5=some R/\aD G K (aG 46 K c2 c4 b2::box a0 27 [i64 b.N,i64 b.I,zS l b.L.length m,zS c2 b2.length c4]::aG 9 K d e a.1.L::aG 46 K h k a.1.E::box o 27 (zC a.1 d e h k)::aG 9 K l m b.L::box b1 72 [zS a2 n.length c3,i64 d4,Value.int .u64 d5]::box r 27 c::box q 27 c::L) w) ?_ ?_
    ·rintro f u3 ⟨b2,d4,d5,c2,c4,hm,m0⟩
     unfold uP at hm
     refine aM ?_;obtain ⟨u4,u5,m1,m2,u6⟩:=aD.lendBp m0 zt1
     obtain ⟨m3,m4,m5,f7,u7⟩:=aD.lendBp m2 zt3
     refine dX (C:=fun w'=>∃ L',aD G m3 L' w') [(0,0),(1,0),(2,1),(3,2)] Tryz_mixed (by kernel_rfl) (fun _ hg=>⟨_,aD.mono f7 hg⟩) (fun u8 m6=>?_)
     have c5:=aD.mono f7 m6
     exact bZ rfl (fun _ ⟨_,c5⟩=>eJ (t:=0) (vs:=(zC a.1 d e h k)) cW c5 m5 rfl rfl rfl) (bZ rfl (fun _ ⟨_,c5⟩=>eJ (t:=0) (vs:=[i64 b.N,i64 b.I,zS l b.L.length m,zS c2 b2.length c4]) cW c5 (m1.mono m4) rfl rfl rfl) (gP rfl aP))
    refine aO (aL (v:=zP (some ⟨b1,0,none⟩)) ?_)
    have m7:aD G K (box b1 72 [zS a2 n.length c3,i64 c0,Value.int .u64 c1]::aG 46 K u x p::box a0 27 [i64 b.N,i64 b.I,zS l b.L.length m,zS u p.length x]::aG 9 K d e a.1.L::aG 46 K h k a.1.E::box o 27 (zC a.1 d e h k)::aG 9 K l m b.L::box r 27 c::box q 27 c::L) l8:=(aD.arr 7 [6,0,1,2,3,4,5] l9 rfl)
    obtain ⟨f8,m8,hm⟩:=aC hm
    refine aQ (vs:=[zP (some ⟨b1,0,none⟩),i64 2]) call34 rfl (oJ m8 m7 V) ?_
    rintro _ u9 ⟨rfl,m9⟩
    refine aK ?_
    rcases aN hm with ⟨f9,hm⟩|⟨f9,hm⟩
    ·refine aT f9 rfl (aM (bR [2,3,4,5] (fun f w=>∃ g0 g1 g2 g3 g4 g5,aAy a b p g0 g1 g2 g3 g4=some R/\f 7=zP (some ⟨g5,0,none⟩)/\aD G K (box g5 46 [i64 g0,i64 g1,i64 g2]::box b1 72 [zS a2 n.length c3,i64 g3,Value.int .u64 g4]::aG 46 K u x p::box a0 27 [i64 b.N,i64 b.I,zS l b.L.length m,zS u p.length x]::aG 9 K d e a.1.L::aG 46 K h k a.1.E::box o 27 (zC a.1 d e h k)::aG 9 K l m b.L::box r 27 c::box q 27 c::L) w) aP ?_))
     obtain ⟨c6,a4,d6,n0,c7⟩:=aD.lendBp m9 zt2
     refine mM (C:=fun w'=>∃ L',aD G c6 L' w') [15] Tryz_mixed (by kernel_rfl) (fun v0 n1=>?_)
     have y:=aD.mono n0 n1
     refine cI (i:=0) rfl (by kernel_rfl) ⟨_,y⟩ (fun _ _=>bJ (v:=zP (some ⟨b1,0,none⟩)) rfl) (cI (i:=1) rfl (by kernel_rfl) ⟨_,y⟩ (fun _ _=>bP (t':=0) lB rfl rfl) (cI (i:=2) rfl (by kernel_rfl) ⟨_,y⟩ (fun _ ⟨_,y⟩=>bG (t:=0) fK y d6 rfl rfl) (cI (i:=4) rfl (by kernel_rfl) ⟨_,y⟩ (fun _ _=>bJ (v:=zP (some ⟨b1,0,none⟩)) rfl) (cI (i:=5) rfl (by kernel_rfl) ⟨_,y⟩ (fun _ _=>bP (t':=2) fT rfl rfl) (cI (i:=6) rfl (by kernel_rfl) ⟨_,y⟩ (fun _ ⟨_,y⟩=>bG (t:=2) gY y d6 rfl rfl) (cI (i:=7) rfl (by kernel_rfl) ⟨_,y⟩ (fun _ _=>bI (len:=b.L.length) bE rfl) (cI (i:=9) rfl (by kernel_rfl) ⟨_,y⟩ (fun _ _=>bJ (v:=zP (some ⟨b1,0,none⟩)) rfl) (cI (i:=10) rfl (by kernel_rfl) ⟨_,y⟩ (fun _ _=>bP (t':=0) lB rfl rfl) (cI (i:=11) rfl (by kernel_rfl) ⟨_,y⟩ (fun _ ⟨_,y⟩=>bG (t:=0) fK y d6 rfl rfl) (fR (i:=3) (j:=14) (by kernel_rfl) rfl rfl ?_ ?_))))))))))
     ·obtain ⟨z,n2,hm⟩:=aC hm
      refine aQ (vs:=[zP (some ⟨b1,0,none⟩),i64 b.N]) call36 rfl (bK n2 y (V.mono a4)) ?_
      rintro _ v1 ⟨rfl,d7⟩
      refine aJ (aB ⟨fun _=>⟨_,d7⟩,?_⟩)
      refine fR (i:=8) (j:=14) (by kernel_rfl) rfl rfl ?_ ?_
      ·obtain ⟨Z,n3,hm⟩:=aC hm
       refine aQ (vs:=[zP (some ⟨b1,0,none⟩),i64 (b.L.length:Int)]) call36 rfl (bK n3 d7 (V.mono a4)) ?_
       rintro _ v2 ⟨rfl,d8⟩
       refine aJ (aB ⟨fun _=>⟨_,d8⟩,?_⟩)
       refine fR (i:=12) (j:=14) (by kernel_rfl) rfl rfl ?_ ?_
       ·obtain ⟨a5,n4,hm⟩:=aC hm
        refine aQ (vs:=[zP (some ⟨b1,0,none⟩),i64 b.N]) call36 rfl (bK n4 d8 (V.mono a4)) ?_
        rintro _ v3 ⟨rfl,d9⟩
        refine aJ (aB ⟨fun _=>⟨_,d9⟩,?_⟩)
        refine cI (i:=13) rfl (by kernel_rfl) ⟨_,d9⟩ (fun _ _=>fF (vs:=[(0,i64 z.1),(1,i64 Z.1),(2,i64 a5.1)]) (cs:=[i64 z.1,i64 Z.1,i64 a5.1]) aFk rfl (by kernel_rfl)) (aU (i:=14) (by kernel_rfl) rfl (aX (vs:=[i64 0,i64 0,i64 0]) zeroValue46 d9 rfl (fun n5 v4 g6=>(aJ (aB ⟨fun _=>⟨_,g6⟩,?_⟩)))))
        refine aU (i:=15) (by kernel_rfl) rfl ?_
        have n6:=c7 _ _ g6
        refine bH (i:=1) (ns:=[i64 z.1,i64 Z.1,i64 a5.1]) (us:=[i64 z.1,i64 Z.1,i64 a5.1]) sizeOf46 n6 rfl rfl rfl rfl rfl (cK rfl) rfl rfl (fun n7 (v5:aD G K (box a0 27 [i64 b.N,i64 b.I,zS l b.L.length m,zS u p.length x]::box n5 46 [i64 z.1,i64 Z.1,i64 a5.1]::box b1 72 [zS a2 n.length c3,i64 a5.2.1,Value.int .u64 a5.2.2]::aG 46 K u x p::aG 9 K d e a.1.L::aG 46 K h k a.1.E::box o 27 (zC a.1 d e h k)::aG 9 K l m b.L::box r 27 c::box q 27 c::L) n7)=>(aJ (aB ⟨tD rfl,?_⟩)))
        exact cO (by kernel_rfl) aP
       ·refine aX (vs:=[i64 0,i64 0,i64 0]) zeroValue46 d8 rfl (fun g7 n8 g8=>(aJ (aB ⟨fun _=>⟨_,g8⟩,?_⟩)))
        refine aU (i:=12) (by kernel_rfl) rfl ?_
        have n9:aD G c6 (box b1 72 [zS a2 n.length c3,i64 Z.2.1,Value.int .u64 Z.2.2]::box g7 46 [i64 0,i64 0,i64 0]::aG 46 K u x p::aG 9 K d e a.1.L::aG 46 K h k a.1.E::box o 27 (zC a.1 d e h k)::aG 9 K l m b.L::box r 27 c::box q 27 c::L) n8:=(aD.arr 2 [1,0] g8 rfl)
        obtain ⟨a6,o0,hm⟩:=aC hm
        refine aQ (vs:=[zP (some ⟨b1,0,none⟩),i64 b.N]) call36 rfl (bK o0 n9 (V.mono a4)) ?_
        rintro _ v6 ⟨rfl,e0⟩
        refine aJ (aB ⟨fun _=>⟨_,e0⟩,?_⟩)
        refine cI (i:=13) rfl (by kernel_rfl) ⟨_,e0⟩ (fun _ _=>fF (vs:=[(0,i64 z.1),(1,i64 Z.1),(2,i64 a6.1)]) (cs:=[i64 z.1,i64 Z.1,i64 a6.1]) aFk rfl (by kernel_rfl)) (aU (i:=15) (by kernel_rfl) rfl ?_)
        have o1:=c7 _ _ e0
        refine bH (i:=2) (ns:=[i64 z.1,i64 Z.1,i64 a6.1]) (us:=[i64 z.1,i64 Z.1,i64 a6.1]) sizeOf46 o1 rfl rfl rfl rfl rfl (cK rfl) rfl rfl (fun o2 (v7:aD G K (box a0 27 [i64 b.N,i64 b.I,zS l b.L.length m,zS u p.length x]::box b1 72 [zS a2 n.length c3,i64 a6.2.1,Value.int .u64 a6.2.2]::box g7 46 [i64 z.1,i64 Z.1,i64 a6.1]::aG 46 K u x p::aG 9 K d e a.1.L::aG 46 K h k a.1.E::box o 27 (zC a.1 d e h k)::aG 9 K l m b.L::box r 27 c::box q 27 c::L) o2)=>(aJ (aB ⟨tD rfl,?_⟩)))
        exact cO (by kernel_rfl) aP
      ·refine aX (vs:=[i64 0,i64 0,i64 0]) zeroValue46 d7 rfl (fun g9 o3 h0=>(aJ (aB ⟨fun _=>⟨_,h0⟩,?_⟩)))
       refine aU (i:=8) (by kernel_rfl) rfl ?_
       have o4:aD G c6 (box b1 72 [zS a2 n.length c3,i64 z.2.1,Value.int .u64 z.2.2]::box g9 46 [i64 0,i64 0,i64 0]::aG 46 K u x p::aG 9 K d e a.1.L::aG 46 K h k a.1.E::box o 27 (zC a.1 d e h k)::aG 9 K l m b.L::box r 27 c::box q 27 c::L) o3:=(aD.arr 2 [1,0] h0 rfl)
       obtain ⟨b3,o5,hm⟩:=aC hm
       refine aQ (vs:=[zP (some ⟨b1,0,none⟩),i64 (b.L.length:Int)]) call36 rfl (bK o5 o4 (V.mono a4)) ?_
       rintro _ v8 ⟨rfl,h1⟩
       refine aJ (aB ⟨fun _=>⟨_,h1⟩,?_⟩)
       refine aU (i:=12) (by kernel_rfl) rfl ?_;obtain ⟨a7,o6,hm⟩:=aC hm
       refine aQ (vs:=[zP (some ⟨b1,0,none⟩),i64 b.N]) call36 rfl (bK o6 h1 (V.mono a4)) ?_
       rintro _ v9 ⟨rfl,e1⟩
       refine aJ (aB ⟨fun _=>⟨_,e1⟩,?_⟩)
       refine cI (i:=13) rfl (by kernel_rfl) ⟨_,e1⟩ (fun _ _=>fF (vs:=[(0,i64 z.1),(1,i64 b3.1),(2,i64 a7.1)]) (cs:=[i64 z.1,i64 b3.1,i64 a7.1]) aFk rfl (by kernel_rfl)) (aU (i:=15) (by kernel_rfl) rfl ?_)
       have o7:=c7 _ _ e1
       refine bH (i:=2) (ns:=[i64 z.1,i64 b3.1,i64 a7.1]) (us:=[i64 z.1,i64 b3.1,i64 a7.1]) sizeOf46 o7 rfl rfl rfl rfl rfl (cK rfl) rfl rfl (fun o8 (w0:aD G K (box a0 27 [i64 b.N,i64 b.I,zS l b.L.length m,zS u p.length x]::box b1 72 [zS a2 n.length c3,i64 a7.2.1,Value.int .u64 a7.2.2]::box g9 46 [i64 z.1,i64 b3.1,i64 a7.1]::aG 46 K u x p::aG 9 K d e a.1.L::aG 46 K h k a.1.E::box o 27 (zC a.1 d e h k)::aG 9 K l m b.L::box r 27 c::box q 27 c::L) o8)=>(aJ (aB ⟨tD rfl,?_⟩)))
       exact cO (by kernel_rfl) aP
     ·refine aX (vs:=[i64 0,i64 0,i64 0]) zeroValue46 y rfl (fun h2 o9 h3=>(aJ (aB ⟨fun _=>⟨_,h3⟩,?_⟩)))
      refine aU (i:=3) (by kernel_rfl) rfl ?_
      have p0:aD G c6 (box b1 72 [zS a2 n.length c3,i64 f8.2.1,Value.int .u64 f8.2.2]::box h2 46 [i64 0,i64 0,i64 0]::aG 46 K u x p::aG 9 K d e a.1.L::aG 46 K h k a.1.E::box o 27 (zC a.1 d e h k)::aG 9 K l m b.L::box r 27 c::box q 27 c::L) o9:=(aD.arr 2 [1,0] h3 rfl)
      obtain ⟨b4,p1,hm⟩:=aC hm
      refine aQ (vs:=[zP (some ⟨b1,0,none⟩),i64 b.N]) call36 rfl (bK p1 p0 (V.mono a4)) ?_
      rintro _ w1 ⟨rfl,h5⟩
      refine aJ (aB ⟨fun _=>⟨_,h5⟩,?_⟩)
      refine aU (i:=8) (by kernel_rfl) rfl ?_;obtain ⟨b6,p2,hm⟩:=aC hm
      refine aQ (vs:=[zP (some ⟨b1,0,none⟩),i64 (b.L.length:Int)]) call36 rfl (bK p2 h5 (V.mono a4)) ?_
      rintro _ w2 ⟨rfl,h6⟩
      refine aJ (aB ⟨fun _=>⟨_,h6⟩,?_⟩)
      refine aU (i:=12) (by kernel_rfl) rfl ?_;obtain ⟨a8,p3,hm⟩:=aC hm
      refine aQ (vs:=[zP (some ⟨b1,0,none⟩),i64 b.N]) call36 rfl (bK p3 h6 (V.mono a4)) ?_
      rintro _ w3 ⟨rfl,e2⟩
      refine aJ (aB ⟨fun _=>⟨_,e2⟩,?_⟩)
      refine cI (i:=13) rfl (by kernel_rfl) ⟨_,e2⟩ (fun _ _=>fF (vs:=[(0,i64 b4.1),(1,i64 b6.1),(2,i64 a8.1)]) (cs:=[i64 b4.1,i64 b6.1,i64 a8.1]) aFk rfl (by kernel_rfl)) (aU (i:=15) (by kernel_rfl) rfl ?_)
      have p4:=c7 _ _ e2
      refine bH (i:=2) (ns:=[i64 b4.1,i64 b6.1,i64 a8.1]) (us:=[i64 b4.1,i64 b6.1,i64 a8.1]) sizeOf46 p4 rfl rfl rfl rfl rfl (cK rfl) rfl rfl (fun p5 (w4:aD G K (box a0 27 [i64 b.N,i64 b.I,zS l b.L.length m,zS u p.length x]::box b1 72 [zS a2 n.length c3,i64 a8.2.1,Value.int .u64 a8.2.2]::box h2 46 [i64 b4.1,i64 b6.1,i64 a8.1]::aG 46 K u x p::aG 9 K d e a.1.L::aG 46 K h k a.1.E::box o 27 (zC a.1 d e h k)::aG 9 K l m b.L::box r 27 c::box q 27 c::L) p5)=>(aJ (aB ⟨tD rfl,?_⟩)))
      exact cO (by kernel_rfl) aP
    ·exact aP
   refine aM (bR [0,2,3,4,5] (fun f w=>∃ c8 c9 e3,mQ n a b c8 c9 e3=some R/\f 27=zB e3/\aD G K (box a0 27 (zC b l m a1 a3)::aG 9 K d e a.1.L::aG 46 K h k a.1.E::box o 27 (zC a.1 d e h k)::aG 9 K l m b.L::aG 46 K a1 a3 b.E::box b1 72 [zS a2 n.length c3,i64 c8,Value.int .u64 c9]::box r 27 c::box q 27 c::L) w) ?_ ?_)
   ·rintro f p6 ⟨c8,c9,e3,hm,p7,h7⟩
    unfold mQ at hm
    refine aB ?_
    rcases aN hm with ⟨h8,hm⟩|⟨h8,hm⟩
    ·refine aT h8 p7 (aO (aL (v:=zP (some ⟨b1,0,none⟩)) (aH (bP (t':=3) dF rfl rfl) (aH (fP iT h7 (i:=0) rfl rfl rfl) (aH (bI (len:=b.E.length) cM rfl) ?_)))))
     have p8:aD G K (box b1 72 [zS a2 n.length c3,i64 c8,Value.int .u64 c9]::box a0 27 (zC b l m a1 a3)::aG 9 K d e a.1.L::aG 46 K h k a.1.E::box o 27 (zC a.1 d e h k)::aG 9 K l m b.L::aG 46 K a1 a3 b.E::box r 27 c::box q 27 c::L) p6:=(aD.arr 7 [6,0,1,2,3,4,5] h7 rfl)
     obtain ⟨b0,p9,hm⟩:=aC hm
     refine aQ (vs:=[zP (some ⟨b1,0,none⟩),i64 (b.E.length:Int)]) call36 rfl (bK p9 p8 V) ?_
     rintro _ w5 ⟨rfl,q0⟩
     refine aI (v:=i64 b0.1) (aK ?_);obtain ⟨h9,w7,i0,i1,q1⟩:=aD.lendBp q0 zt1
     refine dX (C:=fun w'=>∃ L',aD G h9 L' w') [(0,0),(1,0),(2,0),(3,0),(4,0),(5,0),(6,0),(7,0),(8,0),(9,1),(10,0),(11,2)] Tryz_mixed (by kernel_rfl) (fun _ hg=>⟨_,aD.mono i1 hg⟩) (fun w8 q2=>?_)
     have a9:=aD.mono i1 q2
     refine bZ rfl (fun _ _=>bP (t':=3) dF rfl rfl) (bZ rfl (fun _ ⟨_,a9⟩=>bG (t:=3) iT a9 i0 rfl rfl) (bZ rfl (fun _ _=>bJ (v:=i64 b0.1) rfl) ?_));obtain ⟨x0,i2,hm⟩:=aC hm
     have q3:=lL a9 (i:=5) rfl
     obtain ⟨x1,x2,i3⟩:=Cut.ex 3 a1 a3 0
     refine bZ rfl (fun _ _=>aCy cM q3 i3 rfl rfl rfl i2) (bZ rfl (fun _ _=>bP (t':=3) dF rfl rfl) (bZ rfl (fun _ ⟨_,a9⟩=>bG (t:=3) iT a9 i0 rfl rfl) (bZ rfl (fun _ _=>bJ (v:=i64 b0.1) rfl) (bZ rfl (fun _ _=>eP rfl rfl) ?_))));obtain ⟨x3,i4,hm⟩:=aC hm
     have q4:=lL a9 (i:=5) rfl
     obtain ⟨x4,x5,i5⟩:=Cut.ex 3 a1 a3 (wr (b0.1+1))
     refine bZ rfl (fun _ _=>vK cM q4 i5 rfl rfl rfl i4) (gP rfl ?_);obtain ⟨q5,q6,hm⟩:=aC hm
     refine WO_appV (i:=5) cM underlying25 qA rfl rfl a9 rfl i2 i3 i4 i5 q6 rfl rfl rfl rfl (fun q7 q8 q9 (i6:aD G h9 (box b1 72 [zS a2 n.length c3,i64 b0.2.1,Value.int .u64 b0.2.2]::aG 9 K d e a.1.L::aG 46 K h k a.1.E::box o 27 (zC a.1 d e h k)::aG 9 K l m b.L::aG 46 K q7 q8 q5::box r 27 c::box q 27 c::L) q9)=>(aJ (aB ⟨⟨_,i6⟩,?_⟩)))
     refine bZ rfl (fun _ _=>bP (t':=3) dF rfl rfl) ?_
     have x6:=q1 _ _ i6
     exact aP
    ·exact aP
   exact aP
 refine aZ ?_;obtain ⟨x7,r0,r1,r2,r3⟩:=aD.lendSp j7 (zR _) zt1
 obtain ⟨x8,r4,r5,r6,r7⟩:=aD.lendSp r2 r0 zt1
 obtain ⟨x9,i7,r8,r9,s0⟩:=aD.lendBp r6 .head
 obtain ⟨s1,s2,hm⟩:=aC hm
 refine aQ (vs:=[cP (some ⟨o,0,none⟩) 0]) call33 rfl (aEZ s2 r9 r8 (r1.mono (zL r4 i7)) (r5.mono i7)) ?_
 rintro _ s3 ⟨rfl,s4⟩
 have s5:=s0 _ _ s4
 have s6:=r7 _ _ s5
 have s7:=r3 _ _ s6
 refine aH (rA rfl) (aL (v:=zB (!s1)) ?_)
 rcases aN hm with ⟨e4,hm⟩|⟨e4,hm⟩
 ·exact aP
 ·refine eB e4 rfl rfl (aL (v:=zP (some ⟨b1,0,none⟩)) (eB e4 rfl rfl ?_))
  have y0:aD G K (box b1 72 [zS a2 n.length c3,i64 a.2.1,Value.int .u64 a.2.2]::aG 9 K d e a.1.L::aG 46 K h k a.1.E::box o 27 (zC a.1 d e h k)::box r 27 c::box q 27 c::L) s3:=(aD.arr 4 [3,0,1,2] s7 rfl)
  exact aP
theorem aBi {a:(List UInt8)} {m n:Int} {R:((List aF) × Int × Int)} (hm:rF a m n=some R) (hs:aD G K (box b1 72 [zS a2 a.length c3,i64 m,Value.int .u64 n]::L) w) (h4:bS K a2 c3 a):
  Calls prog 13 ([zP (some ⟨b1,0,none⟩)]:List Value).toArray w (eR fun v w'=>∃ y z,v=zS y R.1.length z/\aD G K (aG 9 K y z R.1::box b1 72 [zS a2 a.length c3,i64 R.2.1,Value.int .u64 R.2.2]::L) w'):=by
 let V:=box b1 72 [zS a2 a.length c3,i64 m,Value.int .u64 n]
 refine aR func13 rfl (by kernel_rfl) (by show (1:Nat)<=32;decide) ?_;unfold rF at hm
 refine aO (aI (v:=zS none 0 0) (aK (aO (bL (Kt:=K) (xs:=([]:List aF)) (cs:=[]) (vs:=[]) bE iW rfl rfl hs rfl (by kernel_rfl) rfl rfl rfl trivial (fun o w6 (b6:aD G K (aG 9 K o 0 ([]:List aF)::V::L) w6)=>(aI (v:=zS o ([]:List aF).length 0) (aK (aO (bL (Kt:=K) (xs:=([([97]:aF),([98]:aF),([103,101,116]:aF),([112,117,116]:aF)]:List aF)) (cs:=[str ([97]:aF),str ([98]:aF),str ([103,101,116]:aF),str ([112,117,116]:aF)]) (vs:=[(0,str ([97]:aF)),(1,str ([98]:aF)),(2,str ([103,101,116]:aF)),(3,str ([112,117,116]:aF))]) bE iW rfl rfl b6 rfl (by kernel_rfl) rfl rfl rfl ⟨rfl,rfl,rfl,rfl,trivial⟩ (fun c w9 (d2:aD G K (aG 9 K c 4 ([([97]:aF),([98]:aF),([103,101,116]:aF),([112,117,116]:aF)]:List aF)::aG 9 K o 0 ([]:List aF)::V::L) w9)=>(aI (v:=zS c ([([97]:aF),([98]:aF),([103,101,116]:aF),([112,117,116]:aF)]:List aF).length 4) (aK (aM (aO (aI (v:=i64 0) (aK (aV [0] (fun f w=>∃ g h b d e,qK a g h b=some R/\f 3=zS d b.length e/\aD G K (aG 9 K d e b::box b1 72 [zS a2 a.length c3,i64 g,Value.int .u64 h]::L) w) ?_ ?_)))))))))))))))))
 ·rintro f b8 ⟨g,h,b,d,e,hm,b9,c0⟩
  unfold qK at hm
  refine aB (qE [] (fun f w=>∃ p Z a0 a1 a3,xI p Z a0=some R/\f 3=zS a1 p.length a3/\aD G K (aG 9 K a1 a3 p::box b1 72 [zS a2 a.length c3,i64 Z,Value.int .u64 a0]::L) w) aP (aO (aL (v:=zP (some ⟨b1,0,none⟩)) ?_)))
  have c1:aD G K (box b1 72 [zS a2 a.length c3,i64 g,Value.int .u64 h]::aG 9 K d e b::L) b8:=(aD.arr 2 [1,0] c0 rfl)
  obtain ⟨a4,c2,hm⟩:=aC hm
  refine aQ (vs:=[zP (some ⟨b1,0,none⟩),i64 20]) call34 rfl (oJ c2 c1 h4) ?_
  rintro _ d3 ⟨rfl,c4⟩
  refine aK ?_
  rcases aN hm with ⟨a6,hm⟩|⟨a6,hm⟩
  ·refine aT a6 rfl (aZ (bC b9 (aL (v:=zP (some ⟨b1,0,none⟩)) (bL (Kt:=K) (xs:=([([100,101,108,116,97]:aF),([116,97,117]:aF),([97]:aF),([65]:aF),([122,122]:aF)]:List aF)) (cs:=[str ([100,101,108,116,97]:aF),str ([116,97,117]:aF),str ([97]:aF),str ([65]:aF),str ([122,122]:aF)]) (vs:=[(0,str ([100,101,108,116,97]:aF)),(1,str ([116,97,117]:aF)),(2,str ([97]:aF)),(3,str ([65]:aF)),(4,str ([122,122]:aF))]) bE iW rfl rfl c4 rfl (by kernel_rfl) rfl rfl rfl ⟨rfl,rfl,rfl,rfl,rfl,trivial⟩ (fun c5 c6 (c7:aD G K (aG 9 K c5 5 ([([100,101,108,116,97]:aF),([116,97,117]:aF),([97]:aF),([65]:aF),([122,122]:aF)]:List aF)::box b1 72 [zS a2 a.length c3,i64 a4.2.1,Value.int .u64 a4.2.2]::aG 9 K d e b::L) c6)=>?_)))))
   obtain ⟨d4,d5,d6,d7,d8⟩:=aD.lendSp c7 (zR _) .head
   exact aP
  ·exact aP
 obtain ⟨d9,c8,ho⟩:=aC hm
 refine mX [0,4] c8 (fun a7 a9 q i f w=>∃ r t,f 3=zS r q.length t/\f 5=i64 i/\aD G K (aG 9 K c 4 ([([97]:aF),([98]:aF),([103,101,116]:aF),([112,117,116]:aF)]:List aF)::aG 9 K r t q::box b1 72 [zS a2 a.length c3,i64 a7,Value.int .u64 a9]::L) w) aP ?_
 ·rintro a7 a9 q i c9 f e0 hm hr ⟨r,t,e1,b0,e2⟩
  unfold nA at hm
  refine aM (aO (bC b0 (aL (v:=zS c ([([97]:aF),([98]:aF),([103,101,116]:aF),([112,117,116]:aF)]:List aF).length 4) (aH (bI (len:=([([97]:aF),([98]:aF),([103,101,116]:aF),([112,117,116]:aF)]:List aF).length) bE rfl) (aH (cQ rfl rfl) (aK ?_))))))
  rcases aN hm with ⟨b2,hm⟩|⟨b2,hm⟩
  ·refine aT b2 rfl (bB (aB (aM (aV [0,4,5] (fun f w=>∃ u x j k l,kQ i u x j=some c9/\f 3=zS k j.length l/\aD G K (aG 9 K k l j::aG 9 K c 4 ([([97]:aF),([98]:aF),([103,101,116]:aF),([112,117,116]:aF)]:List aF)::box b1 72 [zS a2 a.length c3,i64 u,Value.int .u64 x]::L) w) ?_ ?_))))
   ·rintro f e3 ⟨u,x,j,k,l,hm,d0,d1⟩
    unfold kQ at hm
    exact aB (aZ (bC b0 (aH (eP rfl rfl) (aI (v:=i64 (wr (i+1))) (aK ⟨_,(zI hm).symm,bW,k,l,d0,rfl,(aD.arr 2 [1,0] d1 rfl)⟩)))))
   exact aP
  ·exact aP
theorem aEv {x:(List UInt8)} {R:(bF × bF × (List aF))} (hm:aBe x=some R) (hs:aD G K (L) w) (h3:bS K a1 c2 x):
  Calls prog 5 ([zS a1 x.length c2]:List Value).toArray w (eR fun v w'=>∃ K' e1 e2 e3 e4 e5 e6 e7 e8 e9 f0,v=Value.tuple #[zA (zCa R.1 e1 e2 e3 e4),zA (zCa R.2.1 e5 e6 e7 e8),zS e9 R.2.2.length f0]/\Hp.le K K'/\bS K' e1 e2 R.1.L/\bS K' e3 e4 R.1.E/\bS K' e5 e6 R.2.1.L/\bS K' e7 e8 R.2.1.E/\bS K' e9 f0 R.2.2/\aD G K' (L) w'):=by
 let m:=zG
 refine aR func5 rfl (by kernel_rfl) (by show (1:Nat)<=40;decide) ?_;unfold aBe at hm
 refine aO (aX (vs:=m) zeroValue27 hs rfl (fun r w5 h8=>(aX (vs:=m) zeroValue27 h8 rfl (fun u w8 h9=>(aI (v:=zS none 0 0) (aK (aO (aL (v:=zS a1 x.length c2) ?_))))))));obtain ⟨s1,i0,hm⟩:=aC hm
 refine aQ (vs:=[zS a1 x.length c2]) call11 rfl (aFV i0 h9 h3) ?_
 rintro _ s2 ⟨y,rfl,s3⟩
 refine aI (v:=zP (some ⟨y,0,none⟩)) (aK (aM (aO (aI (v:=i64 0) (aK (aV [2,3] (fun f w=>aCU=some R/\aD G K (box u 27 m::box r 27 m::L) w) ?_ ?_))))))
 ·rintro f s4 ⟨hm,i1⟩
  unfold aCU at hm
  refine aB (aO (bL (Kt:=K) (xs:=([([116,97,117]:aF),([97]:aF)]:List aF)) (cs:=[str ([116,97,117]:aF),str ([97]:aF)]) (vs:=[(0,str ([116,97,117]:aF)),(1,str ([97]:aF))]) bE iW rfl rfl i1 rfl (by kernel_rfl) rfl rfl rfl ⟨rfl,rfl,trivial⟩ (fun b i2 (i3:aD G K (aG 9 K b 2 ([([116,97,117]:aF),([97]:aF)]:List aF)::box u 27 m::box r 27 m::L) i2)=>(aH (fF (vs:=[(1,i64 1)]) (cs:=[i64 0,i64 1,i64 0]) aFk rfl (by kernel_rfl)) (bL (Kt:=K) (xs:=([⟨0,1,0⟩]:List Edge)) (cs:=[i64 0,i64 1,i64 0]) (vs:=[(0,zA #[i64 0,i64 1,i64 0])]) cM qA rfl rfl i3 rfl (by kernel_rfl) rfl rfl rfl ⟨rfl,trivial⟩ (fun c i4 (i5:aD G K (aG 46 K c 1 ([⟨0,1,0⟩]:List Edge)::aG 9 K b 2 ([([116,97,117]:aF),([97]:aF)]:List aF)::box u 27 m::box r 27 m::L) i4)=>(aH (fF (vs:=[(0,i64 1),(2,zS b ([([116,97,117]:aF),([97]:aF)]:List aF).length 2),(3,zS c ([⟨0,1,0⟩]:List Edge).length 1)]) (cs:=[i64 1,i64 0,zS b ([([116,97,117]:aF),([97]:aF)]:List aF).length 2,zS c ([⟨0,1,0⟩]:List Edge).length 1]) aJX rfl (by kernel_rfl)) (aX (vs:=m) zeroValue27 i5 rfl (fun i6 s5 i7=>(bH (i:=0) (ns:=[i64 1,i64 0,zS b ([([116,97,117]:aF),([97]:aF)]:List aF).length 2,zS c ([⟨0,1,0⟩]:List Edge).length 1]) (us:=[i64 1,i64 0,zS b ([([116,97,117]:aF),([97]:aF)]:List aF).length 2,zS c ([⟨0,1,0⟩]:List Edge).length 1]) sizeOf27 i7 rfl rfl rfl rfl rfl (cK rfl) rfl rfl (fun i8 (i9:aD G K (box i6 27 [i64 1,i64 0,zS b ([([116,97,117]:aF),([97]:aF)]:List aF).length 2,zS c ([⟨0,1,0⟩]:List Edge).length 1]::aG 46 K c 1 ([⟨0,1,0⟩]:List Edge)::aG 9 K b 2 ([([116,97,117]:aF),([97]:aF)]:List aF)::box u 27 m::box r 27 m::L) i8)=>(aK (aM (bR [2,3] (fun f w=>∃ a5 a6,aCT=some R/\f 4=zS a5 ([]:List aF).length a6/\aD G K (aG 9 K a5 a6 ([]:List aF)::aG 46 K c 1 ([⟨0,1,0⟩]:List Edge)::aG 9 K b 2 ([([116,97,117]:aF),([97]:aF)]:List aF)::box u 27 [i64 1,i64 0,zS b ([([116,97,117]:aF),([97]:aF)]:List aF).length 2,zS c ([⟨0,1,0⟩]:List Edge).length 1]::box r 27 [i64 1,i64 0,zS b ([([116,97,117]:aF),([97]:aF)]:List aF).length 2,zS c ([⟨0,1,0⟩]:List Edge).length 1]::L) w) ?_ ?_))))))))))))))
  ·rintro f c3 ⟨a5,a6,hm,j0,j1⟩
   unfold aCT at hm
   refine aB ?_;obtain ⟨j2,c4,f1,c5⟩:=aD.giveSp j1 (zR _) zt2
   replace c5:aD G j2 (aG 9 K a5 a6 ([]:List aF)::aG 46 K c 1 ([⟨0,1,0⟩]:List Edge)::box u 27 [i64 1,i64 0,zS b ([([116,97,117]:aF),([97]:aF)]:List aF).length 2,zS c ([⟨0,1,0⟩]:List Edge).length 1]::box r 27 [i64 1,i64 0,zS b ([([116,97,117]:aF),([97]:aF)]:List aF).length 2,zS c ([⟨0,1,0⟩]:List Edge).length 1]::L) c3:=c5
   obtain ⟨j3,b9,f2,c6⟩:=aD.giveSp c5 c4 zt1
   replace c6:aD G j3 (aG 9 K a5 a6 ([]:List aF)::box u 27 [i64 1,i64 0,zS b ([([116,97,117]:aF),([97]:aF)]:List aF).length 2,zS c ([⟨0,1,0⟩]:List Edge).length 1]::box r 27 [i64 1,i64 0,zS b ([([116,97,117]:aF),([97]:aF)]:List aF).length 2,zS c ([⟨0,1,0⟩]:List Edge).length 1]::L) c3:=c6
   obtain ⟨f3,a8,j4,a9⟩:=aD.giveSp c6 (zL c4 b9) .head
   replace a9:aD G f3 (box u 27 [i64 1,i64 0,zS b ([([116,97,117]:aF),([97]:aF)]:List aF).length 2,zS c ([⟨0,1,0⟩]:List Edge).length 1]::box r 27 [i64 1,i64 0,zS b ([([116,97,117]:aF),([97]:aF)]:List aF).length 2,zS c ([⟨0,1,0⟩]:List Edge).length 1]::L) c3:=a9
   obtain rfl:=zI hm
   exact kX (aDw results5 (tC (vs:=[i64 1,i64 0,zS b ([([116,97,117]:aF),([97]:aF)]:List aF).length 2,zS c ([⟨0,1,0⟩]:List Edge).length 1]) rfl cW a9 (i:=1) rfl rfl rfl) (tC (vs:=[i64 1,i64 0,zS b ([([116,97,117]:aF),([97]:aF)]:List aF).length 2,zS c ([⟨0,1,0⟩]:List Edge).length 1]) rfl cW a9 (i:=0) rfl rfl rfl) (yJ rfl j0) ⟨f3,b,2,c,1,b,2,c,1,a5,a6,rfl,(zL (zL c4 b9) a8),(f1.mono (zL b9 a8)),(f2.mono a8),(f1.mono (zL b9 a8)),(f2.mono a8),j4,(aD.arr 2 [] a9 rfl)⟩)
  obtain ⟨a2,s6,f4,j6,s7⟩:=aD.lendBp i9 .head
  refine mM (C:=fun w'=>∃ L',aD G a2 L' w') [] Tryz_mixed (by kernel_rfl) (fun s8 j7=>?_)
  have a3:=aD.mono j6 j7
  refine cI (i:=0) rfl (by kernel_rfl) ⟨_,a3⟩ (fun _ ⟨_,a3⟩=>eJ (t:=0) (vs:=[i64 1,i64 0,zS b ([([116,97,117]:aF),([97]:aF)]:List aF).length 2,zS c ([⟨0,1,0⟩]:List Edge).length 1]) cW a3 f4 rfl rfl rfl) (cI (i:=1) rfl (by kernel_rfl) ⟨_,a3⟩ (fun _ ⟨_,a3⟩=>eJ (t:=0) (vs:=[i64 1,i64 0,zS b ([([116,97,117]:aF),([97]:aF)]:List aF).length 2,zS c ([⟨0,1,0⟩]:List Edge).length 1]) cW a3 f4 rfl rfl rfl) (fR (i:=2) (j:=3) (by kernel_rfl) rfl rfl ?_ ?_))
  ·refine bL (Kt:=K) (xs:=([]:List aF)) (cs:=[]) (vs:=[]) bE iW rfl rfl a3 rfl (by kernel_rfl) rfl rfl rfl trivial (fun c0 j8 (f5:aD G a2 (aG 9 K c0 0 ([]:List aF)::aG 46 K c 1 ([⟨0,1,0⟩]:List Edge)::aG 9 K b 2 ([([116,97,117]:aF),([97]:aF)]:List aF)::box u 27 m::box r 27 m::L) j8)=>(aJ (aB ⟨fun _=>⟨_,f5⟩,?_⟩)))
   refine aU (i:=3) (by kernel_rfl) rfl (bH (i:=4) (ns:=[i64 1,i64 0,zS b ([([116,97,117]:aF),([97]:aF)]:List aF).length 2,zS c ([⟨0,1,0⟩]:List Edge).length 1]) (us:=[i64 1,i64 0,zS b ([([116,97,117]:aF),([97]:aF)]:List aF).length 2,zS c ([⟨0,1,0⟩]:List Edge).length 1]) sizeOf27 f5 rfl rfl rfl rfl rfl (cK rfl) rfl rfl (fun j9 (f6:aD G a2 (aG 9 K c0 0 ([]:List aF)::aG 46 K c 1 ([⟨0,1,0⟩]:List Edge)::aG 9 K b 2 ([([116,97,117]:aF),([97]:aF)]:List aF)::box u 27 m::box r 27 [i64 1,i64 0,zS b ([([116,97,117]:aF),([97]:aF)]:List aF).length 2,zS c ([⟨0,1,0⟩]:List Edge).length 1]::L) j9)=>(aJ (aB ⟨fun _=>⟨_,f6⟩,?_⟩))))
   refine aU (i:=4) (by kernel_rfl) rfl (bH (i:=3) (ns:=[i64 1,i64 0,zS b ([([116,97,117]:aF),([97]:aF)]:List aF).length 2,zS c ([⟨0,1,0⟩]:List Edge).length 1]) (us:=[i64 1,i64 0,zS b ([([116,97,117]:aF),([97]:aF)]:List aF).length 2,zS c ([⟨0,1,0⟩]:List Edge).length 1]) sizeOf27 f6 rfl rfl rfl rfl rfl (cK rfl) rfl rfl (fun k0 (f7:aD G a2 (aG 9 K c0 0 ([]:List aF)::aG 46 K c 1 ([⟨0,1,0⟩]:List Edge)::aG 9 K b 2 ([([116,97,117]:aF),([97]:aF)]:List aF)::box u 27 [i64 1,i64 0,zS b ([([116,97,117]:aF),([97]:aF)]:List aF).length 2,zS c ([⟨0,1,0⟩]:List Edge).length 1]::box r 27 [i64 1,i64 0,zS b ([([116,97,117]:aF),([97]:aF)]:List aF).length 2,zS c ([⟨0,1,0⟩]:List Edge).length 1]::L) k0)=>(aJ (aB ⟨fun _=>⟨_,f7⟩,?_⟩))))
   exact cI (i:=5) rfl (by kernel_rfl) ⟨_,f7⟩ (fun _ _=>cU (v:=zS c0 ([]:List aF).length 0) rfl) (cO (by kernel_rfl) aP)
  ·refine bH (i:=3) (ns:=[i64 1,i64 0,zS b ([([116,97,117]:aF),([97]:aF)]:List aF).length 2,zS c ([⟨0,1,0⟩]:List Edge).length 1]) (us:=[i64 1,i64 0,zS b ([([116,97,117]:aF),([97]:aF)]:List aF).length 2,zS c ([⟨0,1,0⟩]:List Edge).length 1]) sizeOf27 a3 rfl rfl rfl rfl rfl (cK rfl) rfl rfl (fun k1 (c7:aD G a2 (aG 46 K c 1 ([⟨0,1,0⟩]:List Edge)::aG 9 K b 2 ([([116,97,117]:aF),([97]:aF)]:List aF)::box u 27 m::box r 27 [i64 1,i64 0,zS b ([([116,97,117]:aF),([97]:aF)]:List aF).length 2,zS c ([⟨0,1,0⟩]:List Edge).length 1]::L) k1)=>(aJ (aB ⟨fun _=>⟨_,c7⟩,?_⟩)))
   refine fR (i:=2) (j:=4) (by kernel_rfl) rfl rfl ?_ ?_
   ·refine bL (Kt:=K) (xs:=([]:List aF)) (cs:=[]) (vs:=[]) bE iW rfl rfl c7 rfl (by kernel_rfl) rfl rfl rfl trivial (fun c8 k2 (f8:aD G a2 (aG 9 K c8 0 ([]:List aF)::aG 46 K c 1 ([⟨0,1,0⟩]:List Edge)::aG 9 K b 2 ([([116,97,117]:aF),([97]:aF)]:List aF)::box u 27 m::box r 27 [i64 1,i64 0,zS b ([([116,97,117]:aF),([97]:aF)]:List aF).length 2,zS c ([⟨0,1,0⟩]:List Edge).length 1]::L) k2)=>(aJ (aB ⟨fun _=>⟨_,f8⟩,?_⟩)))
    refine aU (i:=4) (by kernel_rfl) rfl (bH (i:=3) (ns:=[i64 1,i64 0,zS b ([([116,97,117]:aF),([97]:aF)]:List aF).length 2,zS c ([⟨0,1,0⟩]:List Edge).length 1]) (us:=[i64 1,i64 0,zS b ([([116,97,117]:aF),([97]:aF)]:List aF).length 2,zS c ([⟨0,1,0⟩]:List Edge).length 1]) sizeOf27 f8 rfl rfl rfl rfl rfl (cK rfl) rfl rfl (fun k3 (f9:aD G a2 (aG 9 K c8 0 ([]:List aF)::aG 46 K c 1 ([⟨0,1,0⟩]:List Edge)::aG 9 K b 2 ([([116,97,117]:aF),([97]:aF)]:List aF)::box u 27 [i64 1,i64 0,zS b ([([116,97,117]:aF),([97]:aF)]:List aF).length 2,zS c ([⟨0,1,0⟩]:List Edge).length 1]::box r 27 [i64 1,i64 0,zS b ([([116,97,117]:aF),([97]:aF)]:List aF).length 2,zS c ([⟨0,1,0⟩]:List Edge).length 1]::L) k3)=>(aJ (aB ⟨fun _=>⟨_,f9⟩,?_⟩))))
    exact cI (i:=5) rfl (by kernel_rfl) ⟨_,f9⟩ (fun _ _=>cU (v:=zS c8 ([]:List aF).length 0) rfl) (cO (by kernel_rfl) aP)
   ·refine bH (i:=2) (ns:=[i64 1,i64 0,zS b ([([116,97,117]:aF),([97]:aF)]:List aF).length 2,zS c ([⟨0,1,0⟩]:List Edge).length 1]) (us:=[i64 1,i64 0,zS b ([([116,97,117]:aF),([97]:aF)]:List aF).length 2,zS c ([⟨0,1,0⟩]:List Edge).length 1]) sizeOf27 c7 rfl rfl rfl rfl rfl (cK rfl) rfl rfl (fun k4 (g0:aD G a2 (aG 46 K c 1 ([⟨0,1,0⟩]:List Edge)::aG 9 K b 2 ([([116,97,117]:aF),([97]:aF)]:List aF)::box u 27 [i64 1,i64 0,zS b ([([116,97,117]:aF),([97]:aF)]:List aF).length 2,zS c ([⟨0,1,0⟩]:List Edge).length 1]::box r 27 [i64 1,i64 0,zS b ([([116,97,117]:aF),([97]:aF)]:List aF).length 2,zS c ([⟨0,1,0⟩]:List Edge).length 1]::L) k4)=>(aJ (aB ⟨fun _=>⟨_,g0⟩,?_⟩)))
    refine aU (i:=2) (by kernel_rfl) rfl (bL (Kt:=K) (xs:=([]:List aF)) (cs:=[]) (vs:=[]) bE iW rfl rfl g0 rfl (by kernel_rfl) rfl rfl rfl trivial (fun g1 k5 (g2:aD G a2 (aG 9 K g1 0 ([]:List aF)::aG 46 K c 1 ([⟨0,1,0⟩]:List Edge)::aG 9 K b 2 ([([116,97,117]:aF),([97]:aF)]:List aF)::box u 27 [i64 1,i64 0,zS b ([([116,97,117]:aF),([97]:aF)]:List aF).length 2,zS c ([⟨0,1,0⟩]:List Edge).length 1]::box r 27 [i64 1,i64 0,zS b ([([116,97,117]:aF),([97]:aF)]:List aF).length 2,zS c ([⟨0,1,0⟩]:List Edge).length 1]::L) k5)=>(aJ (aB ⟨fun _=>⟨_,g2⟩,?_⟩))))
    exact cI (i:=5) rfl (by kernel_rfl) ⟨_,g2⟩ (fun _ _=>cU (v:=zS g1 ([]:List aF).length 0) rfl) (cO (by kernel_rfl) aP)
 obtain ⟨s9,k6,ho⟩:=aC hm
 refine tB [2,3,5] k6 (fun g3 g4 c9 f w=>f 6=i64 c9/\aD G K (box y 72 [zS a1 x.length c2,i64 g3,Value.int .u64 g4]::box u 27 m::box r 27 m::L) w) aP ?_
 ·rintro g3 g4 c9 k7 f t0 hm hr ⟨k8,k9⟩
  unfold tU at hm
  refine aM (aO (bC k8 (aH (cQ rfl rfl) (aK ?_))))
  rcases aN hm with ⟨g5,hm⟩|⟨g5,hm⟩
  ·refine aT g5 rfl (bB (aB (aM (cS (aO (aL (v:=zP (some ⟨y,0,none⟩)) ?_))))));obtain ⟨a,l0,hm⟩:=aC hm
   refine aQ (vs:=[zP (some ⟨y,0,none⟩)]) call12 rfl (aDg l0 k9 h3) ?_
   rintro _ t1 ⟨n,o,e,h,p,q,k,l,rfl,l1⟩
   refine aL (v:=Value.tuple #[zA (zCa a.1 n o e h),zA (zCa a.2.1 p q k l)]) (aH (bD rfl rfl) (aH (bD rfl rfl) (aX (vs:=m) zeroValue27 l1 rfl (fun Z t2 l2=>(aX (vs:=m) zeroValue27 l2 rfl (fun a0 t3 l3=>(bH (i:=1) (ns:=(zC a.1 n o e h)) (us:=(zC a.1 n o e h)) sizeOf27 l3 rfl rfl rfl rfl rfl (cK rfl) rfl rfl (fun l4 (l5:aD G K (box a0 27 m::box Z 27 (zC a.1 n o e h)::aG 9 K n o a.1.L::aG 46 K e h a.1.E::aG 9 K p q a.2.1.L::aG 46 K k l a.2.1.E::box y 72 [zS a1 x.length c2,i64 a.2.2.1,Value.int .u64 a.2.2.2]::box u 27 m::box r 27 m::L) l4)=>(bH (i:=0) (ns:=(zC a.2.1 p q k l)) (us:=(zC a.2.1 p q k l)) sizeOf27 l5 rfl rfl rfl rfl rfl (cK rfl) rfl rfl (fun g6 (l6:aD G K (box a0 27 (zC a.2.1 p q k l)::box Z 27 (zC a.1 n o e h)::aG 9 K n o a.1.L::aG 46 K e h a.1.E::aG 9 K p q a.2.1.L::aG 46 K k l a.2.1.E::box y 72 [zS a1 x.length c2,i64 a.2.2.1,Value.int .u64 a.2.2.2]::box u 27 m::box r 27 m::L) g6)=>(aK (aO (aL (v:=zP (some ⟨y,0,none⟩)) ?_)))))))))))))
   have l7:aD G K (box y 72 [zS a1 x.length c2,i64 a.2.2.1,Value.int .u64 a.2.2.2]::box a0 27 (zC a.2.1 p q k l)::box Z 27 (zC a.1 n o e h)::aG 9 K n o a.1.L::aG 46 K e h a.1.E::aG 9 K p q a.2.1.L::aG 46 K k l a.2.1.E::box u 27 m::box r 27 m::L) g6:=(aD.arr 7 [6,0,1,2,3,4,5] l6 rfl)
   obtain ⟨d,l8,hm⟩:=aC hm
   refine aQ (vs:=[zP (some ⟨y,0,none⟩)]) call13 rfl (aBi l8 l7 h3) ?_
   rintro _ t4 ⟨z,V,rfl,l9⟩
   refine aI (v:=zS z d.1.length V) (aK (aM (bR [2,3,5,6,7,8,9] (fun f w=>∃ d0,tT c9 a d d0=some k7/\f 29=zB d0/\aD G K (aG 9 K z V d.1::box y 72 [zS a1 x.length c2,i64 d.2.1,Value.int .u64 d.2.2]::box a0 27 (zC a.2.1 p q k l)::box Z 27 (zC a.1 n o e h)::aG 9 K n o a.1.L::aG 46 K e h a.1.E::aG 9 K p q a.2.1.L::aG 46 K k l a.2.1.E::box u 27 m::box r 27 m::L) w) ?_ ?_)))
   ·rintro f t5 ⟨d0,hm,m0,m1⟩
    unfold tT at hm
    refine aB ?_
    rcases aN hm with ⟨g7,hm⟩|⟨g7,hm⟩
    ·refine aT g7 m0 (aM ?_);obtain ⟨t6,t7,m2,m3,m4⟩:=aD.lendBp m1 zt2
     obtain ⟨d1,m5,m6,g8,m7⟩:=aD.lendBp m3 zt2
     refine dX (C:=fun w'=>∃ L',aD G d1 L' w') [(0,0),(1,0),(2,0),(3,1),(4,1),(5,2)] Tryz_mixed (by kernel_rfl) (fun _ hg=>⟨_,aD.mono g8 hg⟩) (fun t8 m8=>?_)
     have b0:=aD.mono g8 m8
     refine bZ rfl (fun _ ⟨_,b0⟩=>eJ (t:=0) (vs:=(zC a.1 n o e h)) cW b0 m6 rfl rfl rfl) (bZ rfl (fun _ ⟨_,b0⟩=>eJ (t:=0) (vs:=(zC a.2.1 p q k l)) cW b0 (m2.mono m5) rfl rfl rfl) (bZ rfl (fun _ _=>bJ (v:=zS z d.1.length V) rfl) (gP rfl (bH (i:=7) (ns:=(zC a.1 n o e h)) (us:=(zC a.1 n o e h)) sizeOf27 b0 rfl rfl rfl rfl rfl (cK rfl) rfl rfl (fun m9 (g9:aD G d1 (aG 9 K z V d.1::box y 72 [zS a1 x.length c2,i64 d.2.1,Value.int .u64 d.2.2]::aG 9 K n o a.1.L::aG 46 K e h a.1.E::aG 9 K p q a.2.1.L::aG 46 K k l a.2.1.E::box u 27 m::box r 27 (zC a.1 n o e h)::L) m9)=>(aJ (aB ⟨⟨_,g9⟩,?_⟩)))))))
     refine gP rfl (bH (i:=6) (ns:=(zC a.2.1 p q k l)) (us:=(zC a.2.1 p q k l)) sizeOf27 g9 rfl rfl rfl rfl rfl (cK rfl) rfl rfl (fun a7 (h0:aD G d1 (aG 9 K z V d.1::box y 72 [zS a1 x.length c2,i64 d.2.1,Value.int .u64 d.2.2]::aG 9 K n o a.1.L::aG 46 K e h a.1.E::aG 9 K p q a.2.1.L::aG 46 K k l a.2.1.E::box u 27 (zC a.2.1 p q k l)::box r 27 (zC a.1 n o e h)::L) a7)=>(aJ (aB ⟨⟨_,h0⟩,?_⟩))))
     have n0:=m7 _ _ h0
     have n1:=m4 _ _ n0
     refine aFy rfl (aI (v:=zS z d.1.length V) (aK (aCv (aB (kX (gO (cC (cC ?_))))))))
     have n2:=hr _ (zI hm).symm
     subst n2
     have hm:(some (a.1,a.2.1,d.1))=some R:=ho
     clear hr ho
     obtain ⟨n3,b1,n4,d2⟩:=aD.giveSp n1 (zR _) zt4
     replace d2:aD G n3 (box a0 27 (zC a.2.1 p q k l)::box Z 27 (zC a.1 n o e h)::aG 9 K z V d.1::box y 72 [zS a1 x.length c2,i64 d.2.1,Value.int .u64 d.2.2]::aG 46 K e h a.1.E::aG 9 K p q a.2.1.L::aG 46 K k l a.2.1.E::box u 27 (zC a.2.1 p q k l)::box r 27 (zC a.1 n o e h)::L) a7:=d2
     obtain ⟨n5,b2,n6,d3⟩:=aD.giveSp d2 b1 zt4
     replace d3:aD G n5 (box a0 27 (zC a.2.1 p q k l)::box Z 27 (zC a.1 n o e h)::aG 9 K z V d.1::box y 72 [zS a1 x.length c2,i64 d.2.1,Value.int .u64 d.2.2]::aG 9 K p q a.2.1.L::aG 46 K k l a.2.1.E::box u 27 (zC a.2.1 p q k l)::box r 27 (zC a.1 n o e h)::L) a7:=d3
     obtain ⟨n7,b3,n8,d4⟩:=aD.giveSp d3 (zL b1 b2) zt4
     replace d4:aD G n7 (box a0 27 (zC a.2.1 p q k l)::box Z 27 (zC a.1 n o e h)::aG 9 K z V d.1::box y 72 [zS a1 x.length c2,i64 d.2.1,Value.int .u64 d.2.2]::aG 46 K k l a.2.1.E::box u 27 (zC a.2.1 p q k l)::box r 27 (zC a.1 n o e h)::L) a7:=d4
     obtain ⟨n9,b5,o0,d5⟩:=aD.giveSp d4 (zL (zL b1 b2) b3) zt4
     replace d5:aD G n9 (box a0 27 (zC a.2.1 p q k l)::box Z 27 (zC a.1 n o e h)::aG 9 K z V d.1::box y 72 [zS a1 x.length c2,i64 d.2.1,Value.int .u64 d.2.2]::box u 27 (zC a.2.1 p q k l)::box r 27 (zC a.1 n o e h)::L) a7:=d5
     obtain ⟨h1,b6,o1,b8⟩:=aD.giveSp d5 (zL (zL (zL b1 b2) b3) b5) zt2
     replace b8:aD G h1 (box a0 27 (zC a.2.1 p q k l)::box Z 27 (zC a.1 n o e h)::box y 72 [zS a1 x.length c2,i64 d.2.1,Value.int .u64 d.2.2]::box u 27 (zC a.2.1 p q k l)::box r 27 (zC a.1 n o e h)::L) a7:=b8
     obtain rfl:=zI hm
     exact gO (cC (cC (aDw results5 (tC (vs:=(zC a.1 n o e h)) rfl cW b8 (i:=4) rfl rfl rfl) (tC (vs:=(zC a.2.1 p q k l)) rfl cW b8 (i:=3) rfl rfl rfl) (yJ rfl rfl) ⟨h1,n,o,e,h,p,q,k,l,z,V,rfl,(zL (zL (zL (zL b1 b2) b3) b5) b6),(n4.mono (zL (zL (zL b2 b3) b5) b6)),(n6.mono (zL (zL b3 b5) b6)),(n8.mono (zL b5 b6)),(o0.mono b6),o1,(aD.arr 5 [] b8 rfl)⟩)))
    ·exact aP
   refine aZ (aL (v:=zS z d.1.length V) ?_);obtain ⟨t9,h2,o3,o4,o5⟩:=aD.lendSp l9 (zR _) zt4
   obtain ⟨u0,h4,o6,o7,o8⟩:=aD.lendSp o4 h2 zt4
   obtain ⟨u1,d6,o9,p0,p1⟩:=aD.lendBp o7 zt3
   obtain ⟨u2,d7,p2,p3,p4⟩:=aD.lendSp p0 (zL (zL h2 h4) d6) .head
   obtain ⟨p5,p6,hm⟩:=aC hm
   refine aQ (vs:=[cP (some ⟨Z,0,none⟩) 0,zS z d.1.length V]) call14 rfl (aAi p6 p3 (o9.mono d7) (o3.mono (zL (zL h4 d6) d7)) (o6.mono (zL d6 d7)) p2) ?_
   rintro _ u3 ⟨rfl,p7⟩
   have p8:=p4 _ _ p7
   have p9:=p1 _ _ p8
   have q0:=o8 _ _ p9
   have q1:=o5 _ _ q0
   refine aL (v:=zB p5) ?_
   rcases aN hm with ⟨d8,hm⟩|⟨d8,hm⟩
   ·refine fZ d8 rfl rfl (aL (v:=zS z d.1.length V) (fZ d8 rfl rfl ?_));obtain ⟨u4,h5,q2,q3,q4⟩:=aD.lendSp q1 (zR _) zt6
    obtain ⟨u5,h6,q5,q6,q7⟩:=aD.lendSp q3 h5 zt6
    obtain ⟨u6,d9,q8,q9,r0⟩:=aD.lendBp q6 zt5
    obtain ⟨u7,e0,r1,r2,r3⟩:=aD.lendSp q9 (zL (zL h5 h6) d9) zt3
    obtain ⟨u8,r4,hm⟩:=aC hm
    refine aQ (vs:=[cP (some ⟨a0,0,none⟩) 0,zS z d.1.length V]) call14 rfl (aAi r4 r2 (q8.mono e0) (q2.mono (zL (zL h6 d9) e0)) (q5.mono (zL d9 e0)) r1) ?_
    rintro _ u9 ⟨rfl,r5⟩
    have r6:=r3 _ _ r5
    have r7:=r0 _ _ r6
    have r8:=q7 _ _ r7
    have v0:=q4 _ _ r8
    exact aP
   ·exact aP
  ·exact aP
theorem aHj {t:bF} {k:Int} {R:Bool} (hm:rR t k=some R) (a:aD G K (L) w) (b:bS K a1 c2 t.L) (c:bS K a4 c5 t.E):
  Calls prog 63 ([zA (zCa t a1 c2 a4 c5),i64 k]:List Value).toArray w (eR fun v w'=>v=zB R/\aD G K (L) w'):=by
 exact aP
theorem aMB {i many:Int} {R:Bool} (hm:aJw i many=some R) (a:aD G K (L) w):
  Calls prog 65 ([i64 i,i64 many]:List Value).toArray w (eR fun v w'=>v=zB R/\aD G K (L) w'):=by
 exact aP
theorem wV {t:bF} {R:Bool} (hm:nB t=some R) (y:aD G K (L) w) (hG:G.lo=0) (k:bS K a1 c2 t.L) (l:bS K a4 c5 t.E):
  Calls prog 25 ([zA (zCa t a1 c2 a4 c5)]:List Value).toArray w (eR fun v w'=>v=zB R/\aD G K (L) w'):=by
 let b:=(zC t a1 c2 a4 c5)
 refine aR func25 rfl (by kernel_rfl) (by show (1:Nat)<=109;decide) ?_;unfold nB at hm
 refine aO (fL (v:=zA (zCa t a1 c2 a4 c5)) (vs:=b) y rfl rfl (fun c w8 b8=>(aI (v:=zB false) (aK (aM (aM (bR [1] (fun f w=>∃ g,oO t g=some R/\f 30=zB g/\aD G K (box c 27 b::L) w) ?_ ?_)))))))
 ·rintro f b9 ⟨g,hm,z,V⟩
  unfold oO at hm
  refine aB ?_
  rcases aN hm with ⟨m,hm⟩|⟨m,hm⟩
  ·exact aP
  ·refine aW m z (bB (aB (aM (aO (aH (bP (t':=2) fT rfl rfl) (aH (fP gY V (i:=0) rfl rfl rfl) (aH (bI (len:=t.L.length) bE rfl) (aL (v:=i64 0) (aK (aV [1] (fun f w=>aAK t=some R/\aD G K (box c 27 b::L) w) ?_ ?_))))))))))
   ·rintro f c0 ⟨hm,Z⟩
    unfold aAK at hm
    refine aB (aM (aO (aH (bP (t':=3) dF rfl rfl) (aH (fP iT Z (i:=0) rfl rfl rfl) (aH (bI (len:=t.E.length) cM rfl) (aL (v:=i64 0) (aK (aV [] (fun f w=>aGM=some R/\aD G K (L) w) aP ?_))))))));obtain ⟨c1,a0,ho⟩:=aC hm
    refine cY [1,65,66] a0 (fun d f w=>f 67=i64 d/\aD G K (box c 27 b::L) w) aP ?_
    ·rintro d a2 f c3 hm hr ⟨h,n⟩
     unfold wA at hm
     refine aO (aH (cQ h rfl) (aK (aM ?_)))
     rcases aN hm with ⟨o,hm⟩|⟨o,hm⟩
     ·refine aT o rfl (bB (aB (aM (cS (aO (bC h ?_))))));obtain ⟨a,p,hm⟩:=aC hm
      refine aH (jF cM rfl l rfl rfl h p) ?_;obtain ⟨c4,a3,a5⟩:=bS.el (sz:=3) rfl l p
      cases a5
      exact aH (eJ (t:=0) (vs:=[i64 a.F,i64 a.B,i64 a.To]) tE n a3 rfl rfl rfl) (aX (vs:=[i64 0,i64 0,i64 0]) zeroValue46 n rfl (fun a6 c6 a7=>(aI (v:=i64 d) (bH (i:=0) (ns:=[i64 a.F,i64 a.B,i64 a.To]) (us:=[i64 a.F,i64 a.B,i64 a.To]) sizeOf46 a7 rfl rfl rfl rfl rfl (cK rfl) rfl rfl (fun a8 (c7:aD G K (box a6 46 [i64 a.F,i64 a.B,i64 a.To]::box c 27 b::L) a8)=>(aK (aM (bR [1,65,66,67] (fun f w=>∃ q,oN d q=some a2/\f 107=zB q/\aD G K (box c 27 b::L) w) aP aP))))))))
     ·exact aP
   obtain ⟨c8,a9,ho⟩:=aC hm
   refine cY [1,32,33] a9 (fun e f w=>f 34=i64 e/\aD G K (box c 27 b::L) w) aP ?_
   ·rintro e b0 f c9 hm hr ⟨j,b1⟩
    unfold wB at hm
    refine aO (aH (cQ j rfl) (aK (aM ?_)))
    rcases aN hm with ⟨r,hm⟩|⟨r,hm⟩
    ·refine aT r rfl (bB (aB (aM (cS (aO (bC j ?_))))));obtain ⟨b2,u,hm⟩:=aC hm
     refine aH (jF bE rfl k rfl rfl j u) ?_;obtain ⟨d0,b3,b4⟩:=bS.el (sz:=1) rfl k u
     cases b4
     exact aH (bG (t:=0) xB b1 b3 rfl rfl) (aI (v:=i64 e) (aI (v:=str b2) (aK (aM (bR [1,32,33,34] (fun f w=>∃ x,rS e x=some b0/\f 62=zB x/\aD G K (box c 27 b::L) w) aP aP)))))
    ·exact aP
 exact aP
theorem aBj {a:aF} {R:Bool} (hm:aBs a=some R) (b:aD G K (L) w):
  Calls prog 122 ([str a]:List Value).toArray w (eR fun v w'=>v=zB R/\aD G K (L) w'):=by
 exact aP
theorem pX {a:(List aF)} {R:Int} (hm:fG a=some R) (n:aD G K (L) w) (c:bS K a1 c2 a):
  Calls prog 85 ([zS a1 a.length c2,Value.func (.func 122) #[] #[]]:List Value).toArray w (eR fun v w'=>v=i64 R/\aD G K (L) w'):=by
 refine aR func85 rfl (by kernel_rfl) (by show (2:Nat)<=19;decide) ?_;unfold fG at hm
 refine aO (aI (v:=i64 0) (aK (aM (aO (aL (v:=zS a1 a.length c2) (aH (bI (len:=a.length) bE rfl) (aL (v:=i64 0) (aK (aV [] (fun f w=>kB=some R/\aD G K (L) w) aP ?_)))))))));obtain ⟨o,j,ho⟩:=aC hm
 refine cY [0,1,7] j (fun b f w=>f 8=i64 b/\aD G K (L) w) aP ?_
 ·rintro b p f q hm hr ⟨d,e⟩
  unfold dG at hm
  refine aO (aH (cQ d rfl) (aK (aM ?_)))
  rcases aN hm with ⟨g,hm⟩|⟨g,hm⟩
  ·refine aT g rfl (bB (aB (aM (cS (aO (bC d (aI (v:=i64 b) (aK (aO (aL (v:=Value.func (.func 122) #[] #[]) (aL (v:=zS a1 a.length c2) (aL (v:=i64 b) ?_))))))))))));obtain ⟨h,i,hm⟩:=aC hm
   refine aH (jF bE rfl c rfl rfl rfl i) ?_;obtain ⟨r,k,l⟩:=bS.el (sz:=1) rfl c i
   cases l
   refine aH (bG (t:=0) xB e k rfl rfl) ?_;obtain ⟨u,m,hm⟩:=aC hm
   exact kN (vs:=[str h]) (caps:=[]) (us:=[str h]) rfl call122 rfl rfl (aBj m e) aP
  ·exact aP
theorem oR {a:(List aF)} {R:Bool} (hm:gR a=some R) (b:aD G K (L) w) (c:bS K a1 c2 a):
  Calls prog 43 ([zS a1 a.length c2,Value.func (.func 122) #[] #[]]:List Value).toArray w (eR fun v w'=>v=zB R/\aD G K (L) w'):=by
 exact aP
theorem aHS {a:(List aF)} {R:Bool} (hm:aEV a=some R) (b:aD G K (L) w) (c:bS K a1 c2 a):
  Calls prog 83 ([zS a1 a.length c2]:List Value).toArray w (eR fun v w'=>v=zB R/\aD G K (L) w'):=by
 exact aP
theorem aFZ {a:(List aF)} {R:Bool} (hm:rG a=some R) (o:aD G K (L) w) (d:bS K a1 c2 a):
  Calls prog 41 ([zS a1 a.length c2]:List Value).toArray w (eR fun v w'=>v=zB R/\aD G K (L) w'):=by
 refine aR func41 rfl (by kernel_rfl) (by show (1:Nat)<=26;decide) ?_;unfold rG at hm
 refine aO (aI (v:=zB false) (aK (aM (aO (aL (v:=zS a1 a.length c2) (aH (bI (len:=a.length) bE rfl) (aL (v:=i64 0) (aK (aV [0] (fun f w=>qM a=some R/\aD G K (L) w) aP ?_)))))))));obtain ⟨p,i,ho⟩:=aC hm
 refine cY [0,5,6] i (fun b f w=>f 7=i64 b/\aD G K (L) w) aP ?_
 ·rintro b j f q hm hr ⟨c,k⟩
  unfold nC at hm
  refine aO (aH (cQ c rfl) (aK (aM ?_)))
  rcases aN hm with ⟨e,hm⟩|⟨e,hm⟩
  ·refine aT e rfl (bB (aB (aM (cS (aO (bC c ?_))))));obtain ⟨l,g,hm⟩:=aC hm
   refine aH (jF bE rfl d rfl rfl c g) ?_;obtain ⟨r,m,n⟩:=bS.el (sz:=1) rfl d g
   cases n
   exact aH (bG (t:=0) xB k m rfl rfl) (aI (v:=i64 b) (aI (v:=str l) (aK (aM (bR [0,5,6,7] (fun f w=>∃ h,qN b h=some j/\f 22=zB h/\aD G K (L) w) aP aP)))))
  ·exact aP
theorem aIx {a R:aF} (hm:aBf a=some R) (b:aD G K (L) w) (c:G.lo=0):
  Calls prog 45 ([str a]:List Value).toArray w (eR fun v w'=>v=str R/\aD G K (L) w'):=by
 exact aP
theorem wK {a:aF} {R:Bool} (hm:vO a=some R) (b:aD G K (L) w) (c:G.lo=0):
  Calls prog 44 ([str a]:List Value).toArray w (eR fun v w'=>v=zB R/\aD G K (L) w'):=by
 exact aP
end Gv
namespace Gv
open Go.Value renaming slice→zS,bool→zB,agg→zA
open Option.some renaming inj→zI
open Gv.Hp renaming le_trans→zL,le_refl→zR
open Go Go.Proofs Go.Proofs.Tryz
set_option maxRecDepth 20000
set_option maxHeartbeats 40000000
variable {G:wY} {K Kf:Hp} {L:List iN} {w:World} {a1 a4 a7 a10 a13 a16 a3 a6 a9 a12 a15:Option Addr} {c2 c5 c8 c14 c11 c17 c7 c10 c16:Nat}
theorem pY {a:(List aF)} {R:Int} (hm:fH a=some R) (o:aD G K (L) w) (j:G.lo=0) (c:bS K a1 c2 a):
  Calls prog 85 ([zS a1 a.length c2,Value.func (.func 44) #[] #[]]:List Value).toArray w (eR fun v w'=>v=i64 R/\aD G K (L) w'):=by
 refine aR func85 rfl (by kernel_rfl) (by show (2:Nat)<=19;decide) ?_;unfold fH at hm
 refine aO (aI (v:=i64 0) (aK (aM (aO (aL (v:=zS a1 a.length c2) (aH (bI (len:=a.length) bE rfl) (aL (v:=i64 0) (aK (aV [] (fun f w=>kC=some R/\aD G K (L) w) aP ?_)))))))));obtain ⟨p,k,ho⟩:=aC hm
 refine cY [0,1,7] k (fun b f w=>f 8=i64 b/\aD G K (L) w) aP ?_
 ·rintro b q f r hm hr ⟨d,e⟩
  unfold dH at hm
  refine aO (aH (cQ d rfl) (aK (aM ?_)))
  rcases aN hm with ⟨g,hm⟩|⟨g,hm⟩
  ·refine aT g rfl (bB (aB (aM (cS (aO (bC d (aI (v:=i64 b) (aK (aO (aL (v:=Value.func (.func 44) #[] #[]) (aL (v:=zS a1 a.length c2) (aL (v:=i64 b) ?_))))))))))));obtain ⟨h,i,hm⟩:=aC hm
   refine aH (jF bE rfl c rfl rfl rfl i) ?_;obtain ⟨u,l,m⟩:=bS.el (sz:=1) rfl c i
   cases m
   refine aH (bG (t:=0) xB e l rfl rfl) ?_;obtain ⟨x,n,hm⟩:=aC hm
   exact kN (vs:=[str h]) (caps:=[]) (us:=[str h]) rfl call44 rfl rfl (wK n e j) aP
  ·exact aP
theorem oS {a:(List aF)} {R:Bool} (hm:gS a=some R) (b:aD G K (L) w) (c:G.lo=0) (d:bS K a1 c2 a):
  Calls prog 43 ([zS a1 a.length c2,Value.func (.func 44) #[] #[]]:List Value).toArray w (eR fun v w'=>v=zB R/\aD G K (L) w'):=by
 exact aP
theorem kP {t:bF} {a:(List aF)} {R:Bool} (hm:fY t a=some R) (c:aD G K (L) w) (d:G.lo=0) (e:bS K a1 c2 t.L) (g:bS K a4 c5 t.E) (h:bS K a7 c8 a):
  Calls prog 15 ([zA (zCa t a1 c2 a4 c5),zS a7 a.length c8]:List Value).toArray w (eR fun v w'=>v=zB R/\aD G K (L) w'):=by
 refine aR func15 rfl (by kernel_rfl) (by show (2:Nat)<=22;decide) ?_;unfold fY at hm
 exact aO (fL (v:=zA (zCa t a1 c2 a4 c5)) (vs:=(zC t a1 c2 a4 c5)) c rfl rfl (fun i j k=>(aI (v:=zB false) (aK (aM (bR [] (fun f w=>∃ b,lV b=some R/\f 4=zB b/\aD G K (L) w) aP aP))))))
theorem aBv {t:bF} {R:(List mN)} (hm:xJ t=some R) (hs:aD G K (L) w) (p:bS K a1 c2 t.L) (q:bS K a4 c5 t.E):
  Calls prog 47 ([zA (zCa t a1 c2 a4 c5)]:List Value).toArray w (eR fun v w'=>∃ r u,v=zS r R.length u/\aD G K (aG 88 K r u R::L) w'):=by
 let l:=(zC t a1 c2 a4 c5)
 refine aR func47 rfl (by kernel_rfl) (by show (1:Nat)<=29;decide) ?_;unfold xJ at hm
 refine aO (fL (v:=zA (zCa t a1 c2 a4 c5)) (vs:=l) hs rfl rfl (fun x w8 y=>(aI (v:=zS none 0 0) (aK (aO (aI (v:=zS none 0 0) (aK (aM (aO (aH (bP (t':=3) dF rfl rfl) (aH (fP iT y (i:=0) rfl rfl rfl) (aH (bI (len:=t.E.length) cM rfl) (aL (v:=i64 0) (aK (aV [] (fun f w=>∃ m z V,aGN m=some R/\f 3=zS z m.length V/\aD G K (aG 88 K z V m::L) w) aP ?_)))))))))))))))
 have d6:=aD.nil (α:=mN) y 88 K
 obtain ⟨d7,b4,ho⟩:=aC hm
 refine cZ [1,7,8] b4 (fun e Z f w=>∃ g j,f 3=zS g e.length j/\f 9=i64 Z/\aD G K (aG 88 K g j e::box x 27 l::L) w) aP ?_
 ·rintro e Z d8 f d9 hm hr ⟨g,j,b5,a0,a2⟩
  unfold wC at hm
  refine aO (aH (cQ a0 rfl) (aK (aM ?_)))
  rcases aN hm with ⟨a3,hm⟩|⟨a3,hm⟩
  ·refine aT a3 rfl (bB (aB (aM (cS (aO ?_)))));obtain ⟨a,a5,hm⟩:=aC hm
   refine aH (jF cM rfl q rfl rfl a0 a5) ?_;obtain ⟨e0,b6,b8⟩:=bS.el (sz:=3) rfl q a5
   cases b8
   refine aH (eJ (t:=0) (vs:=[i64 a.F,i64 a.B,i64 a.To]) tE a2 b6 rfl rfl rfl) (aX (vs:=[i64 0,i64 0,i64 0]) zeroValue46 a2 rfl (fun b9 e1 c0=>(bH (i:=0) (ns:=[i64 a.F,i64 a.B,i64 a.To]) (us:=[i64 a.F,i64 a.B,i64 a.To]) sizeOf46 c0 rfl rfl rfl rfl rfl (cK rfl) rfl rfl (fun c1 (c3:aD G K (box b9 46 [i64 a.F,i64 a.B,i64 a.To]::aG 88 K g j e::box x 27 l::L) c1)=>(aK ?_)))));obtain ⟨e2,k,n,c4,e3⟩:=aD.lendBp c3 .head
   obtain ⟨o,c,c6,a6,c7⟩:=aD.lendBp c4 zt1
   refine dX (C:=fun w'=>∃ L',aD G o L' w') [(0,0),(1,0),(2,0),(3,0),(4,0),(5,0),(6,0),(7,0),(8,0),(9,0),(10,0),(11,0),(12,1),(13,1),(14,0)] Tryz_mixed (by kernel_rfl) (fun _ hg=>⟨_,aD.mono a6 hg⟩) (fun e4 c8=>?_)
   have b:=aD.mono a6 c8
   refine bZ rfl (fun _ _=>bJ b5) (bZ rfl (fun _ _=>bP (t':=0) aJv rfl rfl) (bZ rfl (fun _ ⟨_,b⟩=>bG (t:=0) fK b (n.mono c) rfl rfl) (bZ rfl (fun _ _=>bP (t':=2) fT rfl rfl) (bZ rfl (fun _ ⟨_,b⟩=>bG (t:=2) gY b c6 rfl rfl) (bZ rfl (fun _ _=>bP (t':=1) aAG rfl rfl) (bZ rfl (fun _ ⟨_,b⟩=>bG (t:=1) fK b (n.mono c) rfl rfl) ?_))))));obtain ⟨d,a7,hm⟩:=aC hm
   refine bZ rfl (fun _ _=>jF bE rfl (p.mono (zL k c)) rfl rfl rfl a7) ?_;obtain ⟨e5,c9,d0⟩:=bS.el (sz:=1) rfl p a7
   cases d0
   refine bZ rfl (fun _ ⟨_,b⟩=>bG (t:=0) xB b (c9.mono (zL k c)) rfl rfl) (bZ rfl (fun _ _=>bP (t':=2) aBM rfl rfl) (bZ rfl (fun _ ⟨_,b⟩=>bG (t:=2) fK b (n.mono c) rfl rfl) (bZ rfl (fun _ _=>fF (vs:=[(0,i64 a.F),(1,str d),(2,i64 a.To)]) (cs:=[i64 a.F,str d,i64 a.To]) bs_88 rfl (by kernel_rfl)) (gP rfl (bL (Kt:=K) (xs:=([⟨a.F,d,a.To⟩]:List mN)) (cs:=[i64 a.F,str d,i64 a.To]) (vs:=[(0,zA #[i64 a.F,str d,i64 a.To])]) aFl aHH rfl rfl b rfl (by kernel_rfl) rfl rfl rfl ⟨rfl,trivial⟩ (fun d1 d2 (a8:aD G o (aG 88 K d1 1 ([⟨a.F,d,a.To⟩]:List mN)::aG 88 K g j e::L) d2)=>(aJ (aB ⟨⟨_,a8⟩,?_⟩))))))))
   refine gP rfl ?_;obtain ⟨a9,d3,hm⟩:=aC hm
   refine eX (i:=0) aFl underlying85 aHH rfl rfl a8 rfl (zL k c) (zL k c) d3 rfl rfl rfl rfl (fun _ h=>h) (fun b0 b1 d4 (b2:aD G o (aG 88 K b0 b1 a9::L) d4)=>(aJ (aB ⟨⟨_,b2⟩,?_⟩)))
   refine bZ rfl (fun _ _=>cU (v:=zS b0 a9.length b1) rfl) (aCv ?_)
   have e6:=c7 _ _ b2
   exact aP
  ·exact aP
theorem aIW {n:Int} {R:(List Int)} (hm:aKb n=some R) (j:aD G K (L) w):
  Calls prog 89 ([i64 n]:List Value).toArray w (eR fun v w'=>∃ b c,v=zS b R.length c/\aD G K (aG 2 K b c R::L) w'):=by
 refine aR func89 rfl (by kernel_rfl) (by show (1:Nat)<=15;decide) ?_;unfold aKb at hm
 refine aO (aI (v:=zS none 0 0) (aK (aO (aI (v:=zS none 0 0) (aK (aM (aO (aL (v:=i64 n) (aL (v:=i64 0) (aK (aV [] (fun f w=>∃ a d e,aLL a=some R/\f 3=zS d a.length e/\aD G K (aG 2 K d e a::L) w) aP ?_)))))))))))
 have m:=aD.nil (α:=Int) j 2 K
 obtain ⟨o,k,ho⟩:=aC hm
 exact cZ [5] k (fun g l f w=>∃ h i,f 3=zS h g.length i/\f 6=i64 l/\aD G K (aG 2 K h i g::L) w) aP aP
theorem aDh {t:bF} {k:Int} {R:(List Edge)} (hm:uR t k=some R) (u:aD G K (L) w) (Z:bS K a1 c2 t.L) (h6:bS K a4 c5 t.E):
  Calls prog 69 ([zA (zCa t a1 c2 a4 c5),i64 k]:List Value).toArray w (eR fun v w'=>∃ l m,v=zS l R.length m/\aD G K (aG 46 K l m R::L) w'):=by
 refine aR func69 rfl (by kernel_rfl) (by show (2:Nat)<=25;decide) ?_;unfold uR at hm
 refine aO (fL (v:=zA (zCa t a1 c2 a4 c5)) (vs:=(zC t a1 c2 a4 c5)) u rfl rfl (fun b7 w8 n=>(aI (v:=zS none 0 0) (aK (aO (aI (v:=zS none 0 0) (aK (aM (aO (aH (bP (t':=3) dF rfl rfl) (aH (fP iT n (i:=0) rfl rfl rfl) (aH (bI (len:=t.E.length) cM rfl) (aL (v:=i64 0) (aK (aV [] (fun f w=>∃ e o p,aBS e=some R/\f 5=zS o e.length p/\aD G K (aG 46 K o p e::L) w) aP ?_)))))))))))))))
 have a5:=aD.nil (α:=Edge) n 46 K
 obtain ⟨a6,x,ho⟩:=aC hm
 refine cZ [1,9,10] x (fun g a f w=>∃ h j,f 5=zS h g.length j/\f 11=i64 a/\aD G K (aG 46 K h j g::L) w) aP ?_
 ·rintro g a y f a7 hm hr ⟨h,j,a8,q,a9⟩
  unfold oC at hm
  refine aO (aH (cQ q rfl) (aK (aM ?_)))
  rcases aN hm with ⟨r,hm⟩|⟨r,hm⟩
  ·refine aT r rfl (bB (aB (aM (aV [1,9,10,11] (fun f w=>∃ b c d,uQ a b=some y/\f 5=zS c b.length d/\aD G K (aG 46 K c d b::L) w) ?_ ?_))))
   ·rintro f b0 ⟨b,c,d,hm,z,V⟩
    unfold uQ at hm
    exact aB (aZ (aH (eP q rfl) (aL (v:=i64 (wr (a+1))) (aK ⟨_,(zI hm).symm,bW,c,d,z,rfl,V⟩))))
   exact aP
  ·exact aP
theorem iK {a R:(List aF)} (hm:dS a=some R) (hs:aD G K (aG 9 K a1 c2 a::L) w):
  Calls prog 96 ([zS a1 a.length c2]:List Value).toArray w (eR fun v w'=>∃ a3 a4,v=zS a3 R.length a4/\aD G K (aG 9 K a3 a4 R::L) w'):=by
 refine aR func96 rfl (by kernel_rfl) (by show (1:Nat)<=61;decide) ?_;unfold dS at hm
 refine aO (aI (v:=zS none 0 0) (aK (aM (aO (aL (v:=zS a1 a.length c2) (aH (bI (len:=a.length) bE rfl) (aH (cQ rfl rfl) (aK ?_))))))))
 rcases aN hm with ⟨c3,hm⟩|⟨c3,hm⟩
 ·exact aP
 ·refine aW c3 rfl (bB (aB (aM (aO (aI (v:=i64 1) (aK (aV [0] (fun f w=>lW a=some R/\aD G K (aG 9 K a1 c2 a::L) w) aP ?_)))))));obtain ⟨f3,d5,ho⟩:=aC hm
  refine cY [0] d5 (fun d f w=>f 3=i64 d/\aD G K (aG 9 K a1 c2 a::L) w) aP ?_
  ·rintro d a6 f f4 hm hr ⟨m,b⟩
   unfold eF at hm
   refine aM (aO (bC m (aL (v:=zS a1 a.length c2) (aH (bI (len:=a.length) bE rfl) (aH (cQ rfl rfl) (aK ?_))))))
   rcases aN hm with ⟨a7,hm⟩|⟨a7,hm⟩
   ·refine aT a7 rfl (bB (aB (aM (aV [0] (fun f w=>fU d=some a6/\f 3=i64 d/\aD G K (aG 9 K a1 c2 a::L) w) ?_ ?_))))
    ·rintro f f5 ⟨hm,d6,d7⟩
     unfold fU at hm
     exact aB (aZ (bC d6 (aH (eP rfl rfl) (aI (v:=i64 (wr (d+1))) (aK ⟨_,(zI hm).symm,bW,rfl,d7⟩)))))
    refine aM (pE (C:=fun w'=>aD G K (aG 9 K a1 c2 a::L) w') Tryz_mixed (by kernel_rfl) (aD.mono b (fN.drew _)) (dR (fun _ b=>bJ (v:=zS a1 a.length c2) rfl) (dR (fun _ b=>bJ m) ?_)));obtain ⟨f6,Z,hm⟩:=aC hm
    have e:=dM b (i:=0) rfl Z
    refine dR (fun _ b=>fQ bE rfl e rfl rfl rfl Z) (dR (fun _ b=>rB (t:=0) xB b (i:=0) rfl Z rfl rfl rfl) (dR (fun _ b=>bJ (v:=zS a1 a.length c2) rfl) (dR (fun _ b=>bJ m) (dR (fun _ b=>qZ rfl rfl) ?_))));obtain ⟨f7,a8,hm⟩:=aC hm
    refine dR (fun _ b=>fQ bE rfl e rfl rfl rfl a8) (dR (fun _ b=>rB (t:=0) xB b (i:=0) rfl a8 rfl rfl rfl) (dR (fun _ b=>aMk rfl rfl) (aCu (fun f8 d8=>(aB ?_)))))
    rcases aN hm with ⟨a9,hm⟩|⟨a9,hm⟩
    ·refine aT a9 rfl (aO (aL (v:=zS a1 a.length c2) (bC m ?_)));obtain ⟨g,o,hm⟩:=aC hm
     have p:=lL d8 (i:=0) rfl
     obtain ⟨j,k,q⟩:=Cut.ex 1 a1 c2 d
     refine aH (vK bE p q rfl rfl rfl o) (aI (v:=zS j g.length k) (aK (aM (aO (aI (v:=i64 1) (aK (aV [] (fun f w=>∃ r u,fV r u=some a6/\f 0=zS a1 r.length c2/\f 3=i64 u/\aD G K (aG 9 K a1 c2 r::L) w) ?_ ?_)))))))
     ·rintro f f9 ⟨r,u,hm,b0,b1,b2⟩
      unfold fV at hm
      refine aB (aO (bC b0 (bC b1 ?_)));obtain ⟨g0,d9,hm⟩:=aC hm
      have e0:=lL b2 (i:=0) rfl
      obtain ⟨g1,g2,b3⟩:=Cut.ex 1 a1 c2 u
      refine aH (vK bE e0 b3 rfl rfl rfl d9) ?_;obtain ⟨b4,b5,hm⟩:=aC hm
      refine aCb bE iW rfl b2 (i:=0) rfl b3 rfl rfl b5 (fun b6 (b7:aD G K (aG 9 K a1 c2 b4::L) b6)=>(aK (aO (bC (v:=zS a1 b4.length c2) (Eq.trans b0 (congrArg (fun n=>zS a1 n c2) (aGq b5))) (bC b1 ?_)))));obtain ⟨a0,b8,hm⟩:=aC hm
      have e1:=lL b7 (i:=0) rfl
      obtain ⟨b9,c0,c1⟩:=Cut.ex 1 a1 c2 0
      refine aH (aCy bE e1 c1 rfl rfl rfl b8) (aI (v:=zS b9 a0.length c0) (aK (kX (gO (cC (cC (cC ?_)))))))
      have e2:=hr _ (zI hm).symm
      subst e2
      have hm:(some a0)=some R:=ho
      clear hr ho
      have g3:aD G K (aG 9 K b9 c0 a0::L) b6:=aD.cutP b7 (i:=0) rfl b8 c1
      exact aP
     obtain ⟨g4,e3,ho⟩:=aC hm
     refine tB [4] e3 (fun x y z f w=>f 0=zS a1 x.length c2/\f 3=i64 y/\f 5=i64 z/\aD G K (aG 9 K a1 c2 x::L) w) aP ?_
     ·rintro x y z e4 f g5 hm hr ⟨c4,c5,l,c⟩
      unfold eE at hm
      refine aM (aO (bC l (aL (v:=zS j g.length k) (aH (bI (len:=g.length) bE rfl) (aH (cQ rfl rfl) (aK ?_))))))
      rcases aN hm with ⟨c6,hm⟩|⟨c6,hm⟩
      ·refine aT c6 rfl (bB (aB (aM (aV [4,5] (fun f w=>∃ V a2,eD z V a2=some e4/\f 0=zS a1 V.length c2/\f 3=i64 a2/\aD G K (aG 9 K a1 c2 V::L) w) ?_ ?_))))
       ·rintro f g6 ⟨V,a2,hm,e5,e6,e7⟩
        unfold eD at hm
        exact aB (aZ (bC l (aH (eP rfl rfl) (aI (v:=i64 (wr (z+1))) (aK ⟨_,(zI hm).symm,bW,e5,e6,rfl,e7⟩)))))
       refine aM (pE (C:=fun w'=>aD G K (aG 9 K a1 c2 x::L) w') Tryz_mixed (by kernel_rfl) (aD.mono c (fN.drew _)) (dR (fun _ c=>bJ (v:=zS j g.length k) rfl) (dR (fun _ c=>bJ l) ?_)));obtain ⟨g7,c7,hm⟩:=aC hm
       obtain ⟨c8,c9,hm⟩:=aC hm
       refine dR (fun _ c=>aHF bE e q o p rfl rfl rfl c7 rfl) (dR (fun _ c=>rB (t:=0) xB c (i:=0) rfl c9 rfl rfl rfl) (dR (fun _ c=>bJ (v:=zS j g.length k) rfl) (dR (fun _ c=>bJ l) (dR (fun _ c=>qZ rfl rfl) ?_))));obtain ⟨g8,e8,hm⟩:=aC hm
       obtain ⟨g9,e9,hm⟩:=aC hm
       refine dR (fun _ c=>aHF bE e q o p rfl rfl rfl e8 rfl) (dR (fun _ c=>rB (t:=0) xB c (i:=0) rfl e9 rfl rfl rfl) (dR (fun _ c=>R_neqS rfl rfl) (aCu (fun h0 d0=>(aB ?_)))))
       rcases aN hm with ⟨d1,hm⟩|⟨d1,hm⟩
       ·refine aT d1 rfl (aO (bC c4 (bC c5 (aL (v:=zS j g.length k) (bC l (aH (aHF bE e q o p rfl rfl rfl c7 rfl) (aH (rB (t:=0) xB d0 (i:=0) rfl c9 rfl rfl rfl) ?_)))))));obtain ⟨h1,d2,hm⟩:=aC hm
        refine aH (fQ bE rfl e rfl rfl rfl d2) ?_;obtain ⟨d3,d4,hm⟩:=aC hm
        exact pD (i:=0) (t:=0) (ns:=[str c8]) (e':=(c8:aF)) sizeOf9 d0 rfl (zR _) rfl rfl rfl d2 d4 rfl rfl (cK rfl) rfl (fun cs h=>by cases h;rfl) (fun f0 (f1:aD G K (aG 9 K a1 c2 d3::L) f0)=>(aK (aZ (bC c5 (aH (eP rfl rfl) (aI (v:=i64 (wr (y+1))) (aJ (cT (aB ⟨bW,d3,wr (y+1),hm,(Eq.trans c4 (congrArg (fun n=>zS a1 n c2) (mV d4))),rfl,f1⟩)))))))))
       ·exact aP
      ·exact aP
    ·exact aP
   ·exact aP
theorem aFa {t:bF} {k:Int} {R:(List aF)} (hm:oE t k=some R) (r:aD G K (L) w) (u:bS K a1 c2 t.L) (x:bS K a4 c5 t.E):
  Calls prog 91 ([zA (zCa t a1 c2 a4 c5),i64 k]:List Value).toArray w (eR fun v w'=>∃ e g,v=zS e R.length g/\aD G K (aG 9 K e g R::L) w'):=by
 let d:=(zC t a1 c2 a4 c5)
 refine aR func91 rfl (by kernel_rfl) (by show (2:Nat)<=30;decide) ?_;unfold oE at hm
 refine aO (fL (v:=zA (zCa t a1 c2 a4 c5)) (vs:=d) r rfl rfl (fun y w8 h=>(aI (v:=zS none 0 0) (aK (aO (aI (v:=zS none 0 0) (aK (aM (aO (aH (gE (us:=d) cW h (i:=0) rfl rfl rfl rfl) (aL (v:=i64 k) ?_)))))))))));obtain ⟨j,z,hm⟩:=aC hm
 refine aQ (vs:=[zA (zCa t a1 c2 a4 c5),i64 k]) call69 rfl (aDh z h u x) ?_
 rintro _ b1 ⟨V,Z,rfl,a0⟩
 refine aH (bI (len:=j.length) cM rfl) (aL (v:=i64 0) (aK (aV [] (fun f w=>∃ c a b,oD c=some R/\f 5=zS a c.length b/\aD G K (aG 9 K a b c::L) w) ?_ ?_)))
 ·rintro f b2 ⟨c,a,b,hm,l,a2⟩
  unfold oD at hm
  refine aB (aO (bC l ?_));obtain ⟨m,a3,hm⟩:=aC hm
  refine aQ (vs:=[zS a c.length b,Value.func (.func 95) #[] #[]]) call94 rfl (lib_SortStr a2 a3) ?_
  rintro _ b3 ⟨rfl,a5,a6⟩
  refine aK (aO (bC (v:=zS a m.length b) (Eq.trans l (congrArg (fun n=>zS a n b) a5)) ?_));obtain ⟨b4,a7,hm⟩:=aC hm
  exact aQ (vs:=[zS a m.length b]) call96 rfl (iK a7 a6) aP
 have b5:=aD.nil (α:=aF) a0 9 K
 obtain ⟨b6,a8,ho⟩:=aC hm
 exact cZ [2,10,11] a8 (fun o a9 f w=>∃ p q,f 5=zS p o.length q/\f 12=i64 a9/\aD G K (aG 9 K p q o::aG 46 K V Z j::box y 27 d::L) w) aP aP
theorem aKl {a:(List aF)} {b:aF} {R:Bool} (hm:aEo a b=some R) (c:aD G K (L) w) (d:G.lo=0) (e:bS K a1 c2 a):
  Calls prog 93 ([zS a1 a.length c2,str b]:List Value).toArray w (eR fun v w'=>v=zB R/\aD G K (L) w'):=by
 exact aP
theorem uB {a:aF} {p:(List aF)} {b:Nat} {R:Bool} (hm:sA a p=some R) (c:aD G K (L) w) (d:G.lo=0) (e:fD K a1 b [zS a4 p.length c5]) (g:bS K a4 c5 p):
  Calls prog 92 ([str a,cP a1 b]:List Value).toArray w (eR fun v w'=>v=zB R/\aD G K (L) w'):=by
 exact aP
theorem pZ {a d:(List aF)} {b:Nat} {R:Int} (hm:fI a d=some R) (u:aD G K (L) w) (l:G.lo=0) (e:bS K a1 c2 a) (m:fD K a4 b [zS a7 d.length c8]) (n:bS K a7 c8 d):
  Calls prog 85 ([zS a1 a.length c2,Value.func (.func 92) #[] #[cP a4 b]]:List Value).toArray w (eR fun v w'=>v=i64 R/\aD G K (L) w'):=by
 refine aR func85 rfl (by kernel_rfl) (by show (2:Nat)<=19;decide) ?_;unfold fI at hm
 refine aO (aI (v:=i64 0) (aK (aM (aO (aL (v:=zS a1 a.length c2) (aH (bI (len:=a.length) bE rfl) (aL (v:=i64 0) (aK (aV [] (fun f w=>kD=some R/\aD G K (L) w) aP ?_)))))))));obtain ⟨x,o,ho⟩:=aC hm
 refine cY [0,1,7] o (fun c f w=>f 8=i64 c/\aD G K (L) w) aP ?_
 ·rintro c y f z hm hr ⟨g,h⟩
  unfold dI at hm
  refine aO (aH (cQ g rfl) (aK (aM ?_)))
  rcases aN hm with ⟨i,hm⟩|⟨i,hm⟩
  ·refine aT i rfl (bB (aB (aM (cS (aO (bC g (aI (v:=i64 c) (aK (aO (aL (v:=Value.func (.func 92) #[] #[cP a4 b]) (aL (v:=zS a1 a.length c2) (aL (v:=i64 c) ?_))))))))))));obtain ⟨j,k,hm⟩:=aC hm
   refine aH (jF bE rfl e rfl rfl rfl k) ?_;obtain ⟨V,p,q⟩:=bS.el (sz:=1) rfl e k
   cases q
   refine aH (bG (t:=0) xB h p rfl rfl) ?_;obtain ⟨Z,r,hm⟩:=aC hm
   exact kN (vs:=[str j]) (caps:=[cP a4 b]) (us:=[str j,cP a4 b]) rfl call92 rfl rfl (uB r h l m n) aP
  ·exact aP
theorem oT {a b:(List aF)} {c:Nat} {R:Bool} (hm:eS a b=some R) (d:aD G K (L) w) (e:G.lo=0) (g:bS K a1 c2 a) (h:fD K a4 c [zS a7 b.length c8]) (i:bS K a7 c8 b):
  Calls prog 43 ([zS a1 a.length c2,Value.func (.func 92) #[] #[cP a4 c]]:List Value).toArray w (eR fun v w'=>v=zB R/\aD G K (L) w'):=by
 exact aP
theorem pQ {k:Int} {p:bF} {b:Nat} {a:(List aF)} {c:Nat} {R:Bool} (hm:nD k p a=some R) (d:aD G K (L) w) (e:G.lo=0) (g:fD K a1 b (zC p a4 c5 a7 c8)) (h:bS K a4 c5 p.L) (i:bS K a7 c8 p.E) (j:fD K a10 c [zS a13 a.length c14]) (l:bS K a13 c14 a):
  Calls prog 90 ([i64 k,cP a1 b,cP a10 c]:List Value).toArray w (eR fun v w'=>v=zB R/\aD G K (L) w'):=by
 exact aP
theorem kH {b:(List Int)} {a:bF} {c:Nat} {g:(List aF)} {d:Nat} {R:Int} (hm:eG b a g=some R) (Z:aD G K (L) w) (n:G.lo=0) (h:bS K a1 c2 b) (o:fD K a4 c (zC a a7 c8 a10 c11)) (p:bS K a7 c8 a.L) (q:bS K a10 c11 a.E) (r:fD K a13 d [zS a16 g.length c17]) (u:bS K a16 c17 g):
  Calls prog 133 ([zS a1 b.length c2,Value.func (.func 90) #[] #[cP a4 c,cP a13 d]]:List Value).toArray w (eR fun v w'=>v=i64 R/\aD G K (L) w'):=by
 refine aR func133 rfl (by kernel_rfl) (by show (2:Nat)<=19;decide) ?_;unfold eG at hm
 refine aO (aI (v:=i64 0) (aK (aM (aO (aL (v:=zS a1 b.length c2) (aH (bI (len:=b.length) dA rfl) (aL (v:=i64 0) (aK (aV [] (fun f w=>kY=some R/\aD G K (L) w) aP ?_)))))))));obtain ⟨a0,x,ho⟩:=aC hm
 refine cY [0,1,7] x (fun e f w=>f 8=i64 e/\aD G K (L) w) aP ?_
 ·rintro e a2 f a3 hm hr ⟨i,j⟩
  unfold dN at hm
  refine aO (aH (cQ i rfl) (aK (aM ?_)))
  rcases aN hm with ⟨k,hm⟩|⟨k,hm⟩
  ·refine aT k rfl (bB (aB (aM (cS (aO (bC i (aI (v:=i64 e) (aK (aO (aL (v:=Value.func (.func 90) #[] #[cP a4 c,cP a13 d]) (aL (v:=zS a1 b.length c2) (aL (v:=i64 e) ?_))))))))))));obtain ⟨l,m,hm⟩:=aC hm
   refine aH (jF dA rfl h rfl rfl rfl m) ?_;obtain ⟨a5,y,z⟩:=bS.el (sz:=1) rfl h m
   cases z
   refine aH (bG (t:=0) fK j y rfl rfl) ?_;obtain ⟨a6,V,hm⟩:=aC hm
   exact kN (vs:=[i64 l]) (caps:=[cP a4 c,cP a13 d]) (us:=[i64 l,cP a4 c,cP a13 d]) rfl call90 rfl rfl (pQ V j n o p q r u) aP
  ·exact aP
theorem kZ {e:(List Int)} {a:bF} {b:Nat} {u:(List aF)} {c:Nat} {R:(List Int)} (hm:gH e a u=some R) (hs:aD G K (aG 2 K a1 c2 e::L) w) (Z:G.lo=0) (h5:fD K a3 b (zC a a6 c7 a9 c10)) (h8:bS K a6 c7 a.L) (a4:bS K a9 c10 a.E) (a5:fD K a12 c [zS a15 u.length c16]) (a7:bS K a15 c16 u):
  Calls prog 88 ([zS a1 e.length c2,Value.func (.func 90) #[] #[cP a3 b,cP a12 c]]:List Value).toArray w (eR fun v w'=>∃ a8 b0,v=zS a8 R.length b0/\aD G K (aG 2 K a8 b0 R::L) w'):=by
 refine aR func88 rfl (by kernel_rfl) (by show (2:Nat)<=42;decide) ?_;unfold gH at hm
 refine aO (aI (v:=zS none 0 0) (aK (aO (aL (v:=zS a1 e.length c2) (aL (v:=Value.func (.func 90) #[] #[cP a3 b,cP a12 c]) ?_)))));obtain ⟨f2,g,d5,d6,d7⟩:=aD.lendSp hs (zR _) .head
 obtain ⟨j,d8,hm⟩:=aC hm
 refine aQ (vs:=[zS a1 e.length c2,Value.func (.func 90) #[] #[cP a3 b,cP a12 c]]) call133 rfl (kH d8 d6 Z d5 (h5.mono g) (h8.mono g) (a4.mono g) (a5.mono g) (a7.mono g)) ?_
 rintro _ f3 ⟨rfl,d9⟩
 have f4:=d7 _ _ d9
 refine aI (v:=i64 j) (aK (aM (aO (aL (v:=i64 j) (aH (nW rfl rfl) (aK ?_))))))
 rcases aN hm with ⟨b1,hm⟩|⟨b1,hm⟩
 ·exact aP
 ·refine aW b1 rfl (bB (aB (aM (aO (aL (v:=i64 j) (aH (eP rfl rfl) (aI (v:=i64 (wr (j+1))) (aK (aV [] (fun f w=>∃ k l,iQ k l=some R/\f 0=zS a1 k.length c2/\f 5=i64 l/\aD G K (aG 2 K a1 c2 k::L) w) ?_ ?_)))))))))
  ·rintro f f5 ⟨k,l,hm,b2,b3,b4⟩
   unfold iQ at hm
   refine aB (aO (bC b2 (bC b3 ?_)));obtain ⟨f6,e0,hm⟩:=aC hm
   have e1:=lL b4 (i:=0) rfl
   obtain ⟨f7,f8,b5⟩:=Cut.ex 1 a1 c2 l
   refine aH (vK dA e1 b5 rfl rfl rfl e0) ?_;obtain ⟨b6,b7,hm⟩:=aC hm
   refine aCb dA rZ rfl b4 (i:=0) rfl b5 rfl rfl b7 (fun b8 (b9:aD G K (aG 2 K a1 c2 b6::L) b8)=>(aK (aO (bC (v:=zS a1 b6.length c2) (Eq.trans b2 (congrArg (fun n=>zS a1 n c2) (aGq b7))) (bC b3 ?_)))));obtain ⟨c0,c1,hm⟩:=aC hm
   have e2:=lL b9 (i:=0) rfl
   obtain ⟨c3,c4,c5⟩:=Cut.ex 1 a1 c2 0
   refine aH (aCy dA e2 c5 rfl rfl rfl c1) (aI (v:=zS c3 c0.length c4) (aK ?_))
   have f9:aD G K (aG 2 K c3 c4 c0::L) b8:=aD.cutP b9 (i:=0) rfl c1 c5
   exact aP
  obtain ⟨g0,e3,ho⟩:=aC hm
  refine tB [1] e3 (fun m o p f w=>f 0=zS a1 m.length c2/\f 5=i64 o/\f 6=i64 p/\aD G K (aG 2 K a1 c2 m::L) w) aP ?_
  ·rintro m o p e4 f g1 hm hr ⟨q,c6,x,y⟩
   unfold dZ at hm
   refine aM (aO (bC x (bC q (aH (bI (len:=m.length) dA rfl) (aH (cQ rfl rfl) (aK ?_))))))
   rcases aN hm with ⟨c8,hm⟩|⟨c8,hm⟩
   ·refine aT c8 rfl (bB (aB (aM (aV [1,6] (fun f w=>∃ r z,dY p r z=some e4/\f 0=zS a1 r.length c2/\f 5=i64 z/\aD G K (aG 2 K a1 c2 r::L) w) ?_ ?_))))
    ·rintro f g2 ⟨r,z,hm,e5,e6,e7⟩
     unfold dY at hm
     exact aB (aZ (bC x (aH (eP rfl rfl) (aI (v:=i64 (wr (p+1))) (aK ⟨_,(zI hm).symm,bW,e5,e6,rfl,e7⟩)))))
    refine aO (bC q (bC x ?_));obtain ⟨d,V,hm⟩:=aC hm
    have c9:=dM y (i:=0) rfl V
    refine aH (fQ dA rfl c9 rfl rfl rfl V) (aH (rB (t:=0) fK y (i:=0) rfl V rfl rfl rfl) (aI (v:=i64 d) (aK (aO (aL (v:=Value.func (.func 90) #[] #[cP a3 b,cP a12 c]) (aL (v:=i64 d) ?_))))));obtain ⟨g3,e8,hm⟩:=aC hm
    refine kN (vs:=[i64 d]) (caps:=[cP a3 b,cP a12 c]) (us:=[i64 d,cP a3 b,cP a12 c]) rfl call90 rfl rfl (pQ e8 y Z h5 h8 a4 a5 a7) ?_
    rintro _ g4 ⟨rfl,e9⟩
    refine aH (rA rfl) (aK ?_)
    rcases aN hm with ⟨d0,hm⟩|⟨d0,hm⟩
    ·refine aT d0 rfl (aO (bC q (bC c6 (aL (v:=i64 d) ?_))));obtain ⟨g5,d1,hm⟩:=aC hm
     refine aH (fQ dA rfl c9 rfl rfl rfl d1) ?_;obtain ⟨d2,d3,hm⟩:=aC hm
     exact pD (i:=0) (t:=0) (ns:=[i64 d]) (e':=(d:Int)) sizeOf2 e9 rfl (zR _) rfl rfl rfl d1 d3 rfl rfl (cK rfl) rfl (fun cs h=>by cases h;rfl) (fun f0 (f1:aD G K (aG 2 K a1 c2 d2::L) f0)=>(aK (aZ (bC c6 (aH (eP rfl rfl) (aI (v:=i64 (wr (o+1))) (aJ (cT (aB ⟨bW,d2,wr (o+1),hm,(Eq.trans q (congrArg (fun n=>zS a1 n c2) (mV d3))),rfl,f1⟩)))))))))
    ·exact aP
   ·exact aP
theorem aBk {t:bF} {a:(List aF)} {R:(List Int)} (hm:rH t a=some R) (k:aD G K (L) w) (l:G.lo=0) (m:bS K a1 c2 t.L) (n:bS K a4 c5 t.E) (o:bS K a7 c8 a):
  Calls prog 48 ([zA (zCa t a1 c2 a4 c5),zS a7 a.length c8]:List Value).toArray w (eR fun v w'=>∃ d e,v=zS d R.length e/\aD G K (aG 2 K d e R::L) w'):=by
 refine aR func48 rfl (by kernel_rfl) (by show (2:Nat)<=10;decide) ?_;unfold rH at hm
 refine aO (fL (v:=zA (zCa t a1 c2 a4 c5)) (vs:=(zC t a1 c2 a4 c5)) k rfl rfl (fun g a3 p=>(fL (v:=zS a7 a.length c8) (vs:=[zS a7 a.length c8]) p rfl rfl (fun h a5 j=>(aI (v:=zS none 0 0) (aK (aO (aH (bP (t':=0) lB rfl rfl) (aH (fP fK j (i:=1) rfl rfl rfl) ?_)))))))));obtain ⟨q,r,hm⟩:=aC hm
 refine aQ (vs:=[i64 t.N]) call89 rfl (aIW r j) ?_
 rintro _ a6 ⟨u,x,rfl,y⟩
 refine aH (oM (vs:=[Value.pointer (some ⟨g,0,none⟩),Value.pointer (some ⟨h,0,none⟩)]) rfl) ?_;obtain ⟨a8,c,z,V,a9⟩:=aD.lendBp y zt2
 obtain ⟨b0,b,Z,a0,b1⟩:=aD.lendBp V zt1
 obtain ⟨b2,a2,hm⟩:=aC hm
 exact aQ (vs:=[zS u q.length x,Value.func (.func 90) #[] #[cP (some ⟨g,0,none⟩) 0,cP (some ⟨h,0,none⟩) 0]]) call88 rfl (kZ a2 a0 l (z.mono b) (m.mono (zL c b)) (n.mono (zL c b)) Z (o.mono (zL c b))) aP
theorem pR {a R:(List Edge)} (hm:dO a=some R) (hs:aD G K (aG 46 K a1 c2 a::L) w):
  Calls prog 98 ([zS a1 a.length c2]:List Value).toArray w (eR fun v w'=>∃ a9 b0,v=zS a9 R.length b0/\aD G K (aG 46 K a9 b0 R::L) w'):=by
 refine aR func98 rfl (by kernel_rfl) (by show (1:Nat)<=61;decide) ?_;unfold dO at hm
 refine aO (aI (v:=zS none 0 0) (aK (aM (aO (aL (v:=zS a1 a.length c2) (aH (bI (len:=a.length) cM rfl) (aH (cQ rfl rfl) (aK ?_))))))))
 rcases aN hm with ⟨c3,hm⟩|⟨c3,hm⟩
 ·exact aP
 ·refine aW c3 rfl (bB (aB (aM (aO (aI (v:=i64 1) (aK (aV [0] (fun f w=>jT a=some R/\aD G K (aG 46 K a1 c2 a::L) w) aP ?_)))))));obtain ⟨f8,e0,ho⟩:=aC hm
  refine cY [0] e0 (fun e f w=>f 3=i64 e/\aD G K (aG 46 K a1 c2 a::L) w) aP ?_
  ·rintro e b2 f f9 hm hr ⟨o,b⟩
   unfold dB at hm
   refine aM (aO (bC o (aL (v:=zS a1 a.length c2) (aH (bI (len:=a.length) cM rfl) (aH (cQ rfl rfl) (aK ?_))))))
   rcases aN hm with ⟨b3,hm⟩|⟨b3,hm⟩
   ·refine aT b3 rfl (bB (aB (aM (aV [0] (fun f w=>eK e=some b2/\f 3=i64 e/\aD G K (aG 46 K a1 c2 a::L) w) ?_ ?_))))
    ·rintro f g0 ⟨hm,e1,e2⟩
     unfold eK at hm
     exact aB (aZ (bC e1 (aH (eP rfl rfl) (aI (v:=i64 (wr (e+1))) (aK ⟨_,(zI hm).symm,bW,rfl,e2⟩)))))
    refine aM (pE (C:=fun w'=>aD G K (aG 46 K a1 c2 a::L) w') Tryz_mixed (by kernel_rfl) (aD.mono b (fN.drew _)) (dR (fun _ b=>bJ (v:=zS a1 a.length c2) rfl) (dR (fun _ b=>bJ o) ?_)));obtain ⟨p,a6,hm⟩:=aC hm
    have g:=dM b (i:=0) rfl a6
    refine dR (fun _ b=>fQ cM rfl g rfl rfl rfl a6) (dR (fun _ b=>aCs (t:=0) (vs:=[i64 p.F,i64 p.B,i64 p.To]) tE b (i:=0) rfl a6 rfl rfl rfl rfl) (dR (fun _ b=>bJ (v:=zS a1 a.length c2) rfl) (dR (fun _ b=>bJ o) (dR (fun _ b=>qZ rfl rfl) ?_))));obtain ⟨q,b4,hm⟩:=aC hm
    refine dR (fun _ b=>fQ cM rfl g rfl rfl rfl b4) (dR (fun _ b=>aCs (t:=0) (vs:=[i64 q.F,i64 q.B,i64 q.To]) tE b (i:=0) rfl b4 rfl rfl rfl rfl) (dR (fun _ b=>R_eqlG (eq_46 (x:=p) (y:=q)) rfl rfl) (aCu (fun g1 e3=>(aB ?_)))))
    rcases aN hm with ⟨b5,hm⟩|⟨b5,hm⟩
    ·refine aT b5 rfl (aO (aL (v:=zS a1 a.length c2) (bC o ?_)));obtain ⟨j,r,hm⟩:=aC hm
     have u:=lL e3 (i:=0) rfl
     obtain ⟨k,l,z⟩:=Cut.ex 3 a1 c2 e
     refine aH (vK cM u z rfl rfl rfl r) (aI (v:=zS k j.length l) (aK (aM (aO (aI (v:=i64 1) (aK (aV [] (fun f w=>∃ V Z,gI V Z=some b2/\f 0=zS a1 V.length c2/\f 3=i64 Z/\aD G K (aG 46 K a1 c2 V::L) w) ?_ ?_)))))))
     ·rintro f g2 ⟨V,Z,hm,b6,b7,b8⟩
      unfold gI at hm
      refine aB (aO (bC b6 (bC b7 ?_)));obtain ⟨g3,e4,hm⟩:=aC hm
      have e5:=lL b8 (i:=0) rfl
      obtain ⟨g4,g5,b9⟩:=Cut.ex 3 a1 c2 Z
      refine aH (vK cM e5 b9 rfl rfl rfl e4) ?_;obtain ⟨c0,c1,hm⟩:=aC hm
      refine aCb cM qA rfl b8 (i:=0) rfl b9 rfl rfl c1 (fun c4 (c5:aD G K (aG 46 K a1 c2 c0::L) c4)=>(aK (aO (bC (v:=zS a1 c0.length c2) (Eq.trans b6 (congrArg (fun n=>zS a1 n c2) (aGq c1))) (bC b7 ?_)))));obtain ⟨a7,c6,hm⟩:=aC hm
      have e6:=lL c5 (i:=0) rfl
      obtain ⟨c7,c8,c9⟩:=Cut.ex 3 a1 c2 0
      refine aH (aCy cM e6 c9 rfl rfl rfl c6) (aI (v:=zS c7 a7.length c8) (aK (kX (gO (cC (cC (cC ?_)))))))
      have e7:=hr _ (zI hm).symm
      subst e7
      have hm:(some a7)=some R:=ho
      clear hr ho
      have g6:aD G K (aG 46 K c7 c8 a7::L) c4:=aD.cutP c5 (i:=0) rfl c6 c9
      exact aP
     obtain ⟨g7,e8,ho⟩:=aC hm
     refine tB [4] e8 (fun a0 a2 a3 f w=>f 0=zS a1 a0.length c2/\f 3=i64 a2/\f 5=i64 a3/\aD G K (aG 46 K a1 c2 a0::L) w) aP ?_
     ·rintro a0 a2 a3 e9 f g8 hm hr ⟨d0,d1,m,c⟩
      unfold jU at hm
      refine aM (aO (bC m (aL (v:=zS k j.length l) (aH (bI (len:=j.length) cM rfl) (aH (cQ rfl rfl) (aK ?_))))))
      rcases aN hm with ⟨d2,hm⟩|⟨d2,hm⟩
      ·refine aT d2 rfl (bB (aB (aM (aV [4,5] (fun f w=>∃ a4 a8,eL a3 a4 a8=some e9/\f 0=zS a1 a4.length c2/\f 3=i64 a8/\aD G K (aG 46 K a1 c2 a4::L) w) ?_ ?_))))
       ·rintro f g9 ⟨a4,a8,hm,f0,f1,f2⟩
        unfold eL at hm
        exact aB (aZ (bC m (aH (eP rfl rfl) (aI (v:=i64 (wr (a3+1))) (aK ⟨_,(zI hm).symm,bW,f0,f1,rfl,f2⟩)))))
       refine aM (pE (C:=fun w'=>aD G K (aG 46 K a1 c2 a0::L) w') Tryz_mixed (by kernel_rfl) (aD.mono c (fN.drew _)) (dR (fun _ c=>bJ (v:=zS k j.length l) rfl) (dR (fun _ c=>bJ m) ?_)));obtain ⟨h0,d3,hm⟩:=aC hm
       obtain ⟨d,d4,hm⟩:=aC hm
       refine dR (fun _ c=>aHF cM g z r u rfl rfl rfl d3 rfl) (dR (fun _ c=>aCs (t:=0) (vs:=[i64 d.F,i64 d.B,i64 d.To]) tE c (i:=0) rfl d4 rfl rfl rfl rfl) (dR (fun _ c=>bJ (v:=zS k j.length l) rfl) (dR (fun _ c=>bJ m) (dR (fun _ c=>qZ rfl rfl) ?_))));obtain ⟨h1,f3,hm⟩:=aC hm
       obtain ⟨a5,f4,hm⟩:=aC hm
       refine dR (fun _ c=>aHF cM g z r u rfl rfl rfl f3 rfl) (dR (fun _ c=>aCs (t:=0) (vs:=[i64 a5.F,i64 a5.B,i64 a5.To]) tE c (i:=0) rfl f4 rfl rfl rfl rfl) (dR (fun _ c=>R_neqG (eq_46 (x:=d) (y:=a5)) rfl rfl) (aCu (fun h2 d5=>(aB ?_)))))
       rcases aN hm with ⟨d6,hm⟩|⟨d6,hm⟩
       ·refine aT d6 rfl (aO (bC d0 (bC d1 (aL (v:=zS k j.length l) (bC m (aH (aHF cM g z r u rfl rfl rfl d3 rfl) (aH (aCs (t:=0) (vs:=[i64 d.F,i64 d.B,i64 d.To]) tE d5 (i:=0) rfl d4 rfl rfl rfl rfl) ?_)))))));obtain ⟨h3,d7,hm⟩:=aC hm
        refine aH (fQ cM rfl g rfl rfl rfl d7) ?_;obtain ⟨d8,d9,hm⟩:=aC hm
        exact pD (i:=0) (t:=0) (ns:=[i64 d.F,i64 d.B,i64 d.To]) (e':=(⟨d.F,d.B,d.To⟩:Edge)) sizeOf46 d5 rfl (zR _) rfl rfl rfl d7 d9 rfl rfl (cK rfl) rfl (fun cs h=>by cases h;rfl) (fun f5 (f6:aD G K (aG 46 K a1 c2 d8::L) f5)=>(aK (aZ (bC d1 (aH (eP rfl rfl) (aI (v:=i64 (wr (a2+1))) (aJ (cT (aB ⟨bW,d8,wr (a2+1),hm,(Eq.trans d0 (congrArg (fun n=>zS a1 n c2) (mV d9))),rfl,f6⟩)))))))))
       ·exact aP
      ·exact aP
    ·exact aP
   ·exact aP
theorem qV {b c:Int} {labels:(List aF)} {arcs:(List mN)} {R:bF} (hm:aCV b c labels arcs=some R) (hs:aD G K (L) w) (h3:bS K a1 c2 labels) (h6:bS K a4 c5 arcs):
  Calls prog 49 ([i64 b,i64 c,zS a1 labels.length c2,zS a4 arcs.length c5]:List Value).toArray w (eR fun v w'=>∃ a7 a8 a9 b0,v=zA (zCa R a7 a8 a9 b0)/\aD G K (aG 9 K a7 a8 R.L::aG 46 K a9 b0 R.E::L) w'):=by
 let j:=zG
 refine aR func49 rfl (by kernel_rfl) (by show (4:Nat)<=55;decide) ?_;unfold aCV at hm
 refine aO (aX (vs:=j) zeroValue27 hs rfl (fun m w8 d1=>(aK (aO (aL (v:=i64 b) (aL (v:=i64 c) (bL (Kt:=K) (xs:=([([116,97,117]:aF)]:List aF)) (cs:=[str ([116,97,117]:aF)]) (vs:=[(0,str ([116,97,117]:aF))]) bE iW rfl rfl d1 rfl (by kernel_rfl) rfl rfl rfl ⟨rfl,trivial⟩ (fun d2 d3 (d4:aD G K (aG 9 K d2 1 ([([116,97,117]:aF)]:List aF)::box m 27 j::L) d3)=>(aL (v:=zS a1 labels.length c2) ?_)))))))));obtain ⟨o,d5,hm⟩:=aC hm
 refine aGY (i:=0) bE underlying24 iW rfl rfl d4 rfl (zR _) h3 d5 rfl rfl rfl rfl (fun k l d6 (d7:aD G K (aG 9 K k l o::box m 27 j::L) d6)=>(aH (fF (vs:=[(0,i64 b),(1,i64 c),(2,zS k o.length l)]) (cs:=[i64 b,i64 c,zS k o.length l,zS none 0 0]) aJX rfl (by kernel_rfl)) (aX (vs:=j) zeroValue27 d7 rfl (fun p h7 d8=>(bH (i:=0) (ns:=[i64 b,i64 c,zS k o.length l,zS none 0 0]) (us:=[i64 b,i64 c,zS k o.length l,zS none 0 0]) sizeOf27 d8 rfl rfl rfl rfl rfl (cK rfl) rfl rfl (fun b1 (b2:aD G K (box p 27 [i64 b,i64 c,zS k o.length l,zS none 0 0]::aG 9 K k l o::box m 27 j::L) b1)=>(aK (aO (aH (bP (t':=2) fT rfl rfl) (aH (fP gY b2 (i:=0) rfl rfl rfl) ?_))))))))))
 have d9:aD G K (aG 9 K k l o::box p 27 [i64 b,i64 c,zS k o.length l,zS none 0 0]::box m 27 j::L) b1:=(aD.arr 2 [1,0] b2 rfl)
 obtain ⟨a0,e0,hm⟩:=aC hm
 refine aQ (vs:=[zS k o.length l,Value.func (.func 95) #[] #[]]) call94 rfl (lib_SortStr d9 e0) ?_
 rintro _ e1 ⟨rfl,e2,e3⟩
 have b3:aD G K (aG 9 K k l a0::box p 27 [i64 b,i64 c,zS k a0.length l,zS none 0 0]::box m 27 j::L) e1:=by rw [←e2];exact e3
 refine aK (aO (aH (bP (t':=2) fT rfl rfl) (aH (fP gY b3 (i:=1) rfl rfl rfl) ?_)));obtain ⟨d,e4,hm⟩:=aC hm
 refine aQ (vs:=[zS k a0.length l]) call96 rfl (iK e4 b3) ?_
 rintro _ h8 ⟨e,g,rfl,e5⟩
 refine aH (bP (t':=2) fT rfl rfl) (bH (i:=1) (ns:=[zS e d.length g]) (us:=[i64 b,i64 c,zS e d.length g,zS none 0 0]) sizeOf24 e5 rfl rfl rfl rfl rfl (cK rfl) rfl rfl (fun e6 (e7:aD G K (aG 9 K e g d::box p 27 [i64 b,i64 c,zS e d.length g,zS none 0 0]::box m 27 j::L) e6)=>(aK (aM (aO (aL (v:=zS a4 arcs.length c5) (aH (bI (len:=arcs.length) aFl rfl) (aL (v:=i64 0) (aK (aV [8,9] (fun f w=>∃ Z q r,aFO b c d Z=some R/\aD G K (aG 46 K q r Z::aG 9 K e g d::box p 27 [i64 b,i64 c,zS e d.length g,zS q Z.length r]::box m 27 j::L) w) ?_ ?_))))))))))
 ·rintro f h9 ⟨Z,q,r,hm,b4⟩
  unfold aFO at hm
  refine aB (aO (aH (bP (t':=3) dF rfl rfl) (aH (fP iT b4 (i:=2) rfl rfl rfl) ?_)));obtain ⟨b5,e8,hm⟩:=aC hm
  refine aQ (vs:=[zS q Z.length r,Value.func (.func 66) #[] #[]]) call97 rfl (lib_SortEdge b4 e8) ?_
  rintro _ e9 ⟨rfl,f0,f1⟩
  have i0:aD G K (aG 46 K q r b5::aG 9 K e g d::box p 27 [i64 b,i64 c,zS e d.length g,zS q b5.length r]::box m 27 j::L) e9:=by rw [←f0];exact f1
  exact aP
 have i1:=aD.nil (α:=Edge) e7 46 K
 obtain ⟨i2,f2,ho⟩:=aC hm
 refine cZ [8,9,25,26] f2 (fun u b6 f w=>∃ x y,f 27=i64 b6/\aD G K (aG 46 K x y u::aG 9 K e g d::box p 27 [i64 b,i64 c,zS e d.length g,zS x u.length y]::box m 27 j::L) w) aP ?_
 ·rintro u b6 i3 f i4 hm hr ⟨x,y,b8,b9⟩
  unfold aBg at hm
  refine aO (aH (cQ b8 rfl) (aK (aM ?_)))
  rcases aN hm with ⟨c0,hm⟩|⟨c0,hm⟩
  ·refine aT c0 rfl (bB (aB (aM (cS (aO ?_)))));obtain ⟨a,c1,hm⟩:=aC hm
   refine aH (jF aFl rfl h6 rfl rfl b8 c1) ?_;obtain ⟨i5,f3,f4⟩:=bS.el (sz:=3) rfl h6 c1
   cases f4
   refine aH (eJ (t:=0) (vs:=[i64 a.from_,str a.label,i64 a.to_]) ag_88 b9 f3 rfl rfl rfl) (aX (vs:=[i64 0,str ([]:aF),i64 0]) zeroValue88 b9 rfl (fun f5 i6 f6=>(bH (i:=0) (ns:=[i64 a.from_,str a.label,i64 a.to_]) (us:=[i64 a.from_,str a.label,i64 a.to_]) sizeOf88 f6 rfl rfl rfl rfl rfl (cK rfl) rfl rfl (fun f7 (f8:aD G K (box f5 88 [i64 a.from_,str a.label,i64 a.to_]::aG 46 K x y u::aG 9 K e g d::box p 27 [i64 b,i64 c,zS e d.length g,zS x u.length y]::box m 27 j::L) f7)=>(aK ?_)))))
   obtain ⟨i7,a2,a3,f9,i8⟩:=aD.lendBp f8 .head
   obtain ⟨a5,z,c3,c4,g0⟩:=aD.lendBp f9 zt2
   refine dX (C:=fun w'=>∃ L',aD G a5 L' w') [(0,0),(1,0),(2,0),(3,0),(4,0),(5,0),(6,0),(7,0),(9,0),(10,0),(8,1),(11,0),(12,1),(13,1),(14,0),(15,2)] Tryz_mixed (by kernel_rfl) (fun _ hg=>⟨_,aD.mono c4 hg⟩) (fun i9 g1=>?_)
   have n:=aD.mono c4 g1
   refine bZ rfl (fun _ _=>bP (t':=3) dF rfl rfl) (bZ rfl (fun _ ⟨_,n⟩=>bG (t:=3) iT n c3 rfl rfl) (bZ rfl (fun _ _=>bP (t':=0) fa_88_0 rfl rfl) (bZ rfl (fun _ ⟨_,n⟩=>bG (t:=0) fK n (a3.mono z) rfl rfl) (bZ rfl (fun _ _=>bP (t':=2) fT rfl rfl) (bZ rfl (fun _ ⟨_,n⟩=>bG (t:=2) gY n c3 rfl rfl) (bZ rfl (fun _ _=>bP (t':=1) fa_88_1 rfl rfl) (bZ rfl (fun _ ⟨_,n⟩=>bG (t:=1) xB n (a3.mono z) rfl rfl) (bZ rfl (fun _ _=>bP (t':=2) fa_88_2 rfl rfl) (bZ rfl (fun _ ⟨_,n⟩=>bG (t:=2) fK n (a3.mono z) rfl rfl) (gP rfl ?_))))))))))
   obtain ⟨j0,j1,g2,g3,g4⟩:=aD.lendSp n (zL a2 z) zt1
   obtain ⟨V,g5,hm⟩:=aC hm
   refine aQ (vs:=[zS e d.length g,str a.label]) call84 rfl (lZ g5 g3 g2) ?_
   rintro _ j2 ⟨rfl,g6⟩
   have c6:=g4 _ _ g6
   refine aJ (aB ⟨⟨_,c6⟩,?_⟩)
   refine bZ rfl (fun _ _=>fF (vs:=[(0,i64 a.from_),(1,i64 V),(2,i64 a.to_)]) (cs:=[i64 a.from_,i64 V,i64 a.to_]) aFk rfl (by kernel_rfl)) (gP rfl (bL (Kt:=K) (xs:=([⟨a.from_,V,a.to_⟩]:List Edge)) (cs:=[i64 a.from_,i64 V,i64 a.to_]) (vs:=[(0,zA #[i64 a.from_,i64 V,i64 a.to_])]) cM qA rfl rfl c6 rfl (by kernel_rfl) rfl rfl rfl ⟨rfl,trivial⟩ (fun g7 g8 (c7:aD G a5 (aG 46 K g7 1 ([⟨a.from_,V,a.to_⟩]:List Edge)::aG 9 K e g d::aG 46 K x y u::box m 27 j::L) g8)=>(aJ (aB ⟨⟨_,c7⟩,?_⟩)))))
   refine gP rfl ?_;obtain ⟨g9,h0,hm⟩:=aC hm
   refine eX (i:=1) cM underlying25 qA rfl rfl c7 rfl (zL a2 z) (zL a2 z) h0 rfl rfl rfl rfl (fun _ h=>h) (fun h1 h2 h4 (c8:aD G a5 (aG 9 K e g d::aG 46 K h1 h2 g9::box m 27 j::L) h4)=>(aJ (aB ⟨⟨_,c8⟩,?_⟩)))
   refine bZ rfl (fun _ _=>bP (t':=3) dF rfl rfl) ?_
   have j3:=g0 _ _ c8
   exact aP
  ·exact aP
theorem bA {a R:(List aF)} (hm:bQ a=some R) (j:aD G K (L) w) (d:bS K a1 c2 a):
  Calls prog 30 ([zS a1 a.length c2]:List Value).toArray w (eR fun v w'=>∃ e g,v=zS e R.length g/\aD G K (aG 9 K e g R::L) w'):=by
 refine aR func30 rfl (by kernel_rfl) (by show (1:Nat)<=8;decide) ?_;unfold bQ at hm
 refine aO (aI (v:=zS none 0 0) (aK (aM (aO (aL (v:=zS a1 a.length c2) (aH (aMt bE rfl rfl) (aK ?_)))))))
 rcases aLC d with ⟨k,l,m⟩|n
 ·subst k;subst l;subst m
  refine aNh rfl ?_
  replace hm:(some [])=some R:=hm
  exact aP
 ·refine aNi (Eq.trans rfl (congrArg zB n)) (bB (aB (aO (bL (Kt:=K) (xs:=([]:List aF)) (cs:=[]) (vs:=[]) bE iW rfl rfl j rfl (by kernel_rfl) rfl rfl rfl trivial (fun o p (q:aD G K (aG 9 K o 0 ([]:List aF)::L) p)=>(aL (v:=zS a1 a.length c2) ?_))))));obtain ⟨h,r,hm⟩:=aC hm
  refine aGY (i:=0) bE underlying24 iW rfl rfl q rfl (zR _) d r rfl rfl rfl rfl (fun b c t (u:aD G K (aG 9 K b c h::L) t)=>(aI (v:=zS b h.length c) (aK ?_)));obtain rfl:=zI hm
  exact kX (aCr results30 rfl ⟨b,c,rfl,u⟩)
theorem aY {t:bF} {p:(List aF)} {R:bF} (hm:gX t p=some R) (hs:aD G K (L) w) (hG:G.lo=0) (q:bS K a1 c2 t.L) (h6:bS K a4 c5 t.E) (h9:bS K a7 c8 p):
  Calls prog 17 ([zA (zCa t a1 c2 a4 c5),zS a7 p.length c8]:List Value).toArray w (eR fun v w'=>∃ b5 b6 b7 b8,v=zA (zCa R b5 b6 b7 b8)/\aD G K (aG 9 K b5 b6 R.L::aG 46 K b7 b8 R.E::L) w'):=by
 let n:=(zC t a1 c2 a4 c5)
 let m:=zG
 refine aR func17 rfl (by kernel_rfl) (by show (2:Nat)<=36;decide) ?_;unfold gX at hm
 refine aO (fL (v:=zA (zCa t a1 c2 a4 c5)) (vs:=n) hs rfl rfl (fun r k7 e7=>(aX (vs:=m) zeroValue27 e7 rfl (fun k k8 b9=>(aK (aO (aH (gE (us:=n) cW b9 (i:=1) rfl rfl rfl rfl) ?_)))))));obtain ⟨e8,e9,hm⟩:=aC hm
 refine aQ (vs:=[zA (zCa t a1 c2 a4 c5)]) call47 rfl (aBv e9 b9 q h6) ?_
 rintro _ k9 ⟨f0,f1,rfl,c0⟩
 refine aI (v:=zS f0 e8.length f1) (aK (aM (aO (aH (gE (us:=n) cW c0 (i:=2) rfl rfl rfl rfl) (aL (v:=zS a7 p.length c8) ?_)))));obtain ⟨c1,f2,hm⟩:=aC hm
 refine aQ (vs:=[zA (zCa t a1 c2 a4 c5),zS a7 p.length c8]) call48 rfl (aBk f2 c0 hG q h6 h9) ?_
 rintro _ l0 ⟨f3,f4,rfl,l1⟩
 refine aH (bI (len:=c1.length) dA rfl) (aL (v:=i64 0) (aK (aV [2,4] (fun f w=>∃ d e g,oX t d=some R/\f 5=zS e d.length g/\aD G K (aG 88 K e g d::box k 27 m::box r 27 n::L) w) ?_ ?_)))
 ·rintro f l2 ⟨d,e,g,hm,f5,f6⟩
  unfold oX at hm
  refine aB (aM (bR [4] (fun f w=>∃ c3 c4 a3 a5 c6 c7 c9 d0,aBD c3 c4 a3 a5=some R/\aD G K (aG 46 K c9 d0 a5::aG 9 K c6 c7 a3::box k 27 [i64 c3,i64 c4,zS c6 a3.length c7,zS c9 a5.length d0]::L) w) aP ?_));obtain ⟨o,l,a6,f7,d1⟩:=aD.lendBp f6 zt2
  refine mM (C:=fun w'=>∃ L',aD G o L' w') [11] Tryz_mixed (by kernel_rfl) (fun l3 f8=>?_)
  have a:=aD.mono f7 f8
  refine cI (i:=0) rfl (by kernel_rfl) ⟨_,a⟩ (fun _ _=>bP (t':=0) lB rfl rfl) (cI (i:=1) rfl (by kernel_rfl) ⟨_,a⟩ (fun _ ⟨_,a⟩=>bG (t:=0) fK a a6 rfl rfl) (cI (i:=2) rfl (by kernel_rfl) ⟨_,a⟩ (fun _ _=>bP (t':=1) yK rfl rfl) (cI (i:=3) rfl (by kernel_rfl) ⟨_,a⟩ (fun _ ⟨_,a⟩=>bG (t:=1) fK a a6 rfl rfl) (cI (i:=4) rfl (by kernel_rfl) ⟨_,a⟩ (fun _ _=>bP (t':=2) fT rfl rfl) (cI (i:=5) rfl (by kernel_rfl) ⟨_,a⟩ (fun _ ⟨_,a⟩=>bG (t:=2) gY a a6 rfl rfl) (cI (i:=9) rfl (by kernel_rfl) ⟨_,a⟩ (fun _ _=>bJ f5) (fR (i:=6) (j:=7) (by kernel_rfl) rfl rfl ?_ ?_)))))))
  ·obtain ⟨f9,g0,hm⟩:=aC hm
   refine aQ (vs:=[zS a1 t.L.length c2]) call30 rfl (bA g0 a (q.mono l)) ?_
   rintro _ l4 ⟨g1,g2,rfl,d2⟩
   refine aJ (aB ⟨fun _=>⟨_,d2⟩,?_⟩)
   refine aU (i:=7) (by kernel_rfl) rfl (bL (Kt:=K) (xs:=([([100,101,108,116,97]:aF)]:List aF)) (cs:=[str ([100,101,108,116,97]:aF)]) (vs:=[(0,str ([100,101,108,116,97]:aF))]) bE iW rfl rfl d2 rfl (by kernel_rfl) rfl rfl rfl ⟨rfl,trivial⟩ (fun g3 g4 (d3:aD G o (aG 9 K g3 1 ([([100,101,108,116,97]:aF)]:List aF)::aG 9 K g1 g2 f9::aG 88 K e g d::box k 27 m::L) g4)=>(aJ (aB ⟨fun _=>⟨_,d3⟩,?_⟩))))
   refine aU (i:=8) (by kernel_rfl) rfl ?_;obtain ⟨a8,g5,hm⟩:=aC hm
   refine eX (i:=0) bE underlying24 iW rfl rfl d3 rfl l l g5 rfl rfl rfl rfl (fun _ h=>h) (fun a9 b0 g6 (d4:aD G o (aG 9 K a9 b0 a8::aG 88 K e g d::box k 27 m::L) g6)=>(aJ (aB ⟨fun _=>⟨_,d4⟩,?_⟩)))
   refine aU (i:=10) (by kernel_rfl) rfl ?_;obtain ⟨l5,g7,g8,g9,h0⟩:=aD.lendSp d4 l .head
   obtain ⟨l6,h1,h2,h4,h5⟩:=aD.lendSp g9 (zL l g7) .head
   obtain ⟨b,h7,hm⟩:=aC hm
   refine aQ (vs:=[i64 t.N,i64 t.I,zS a9 a8.length b0,zS e d.length g]) call49 rfl (qV h7 h4 (g8.mono h1) h2) ?_
   rintro _ l7 ⟨u,x,y,z,rfl,h8⟩
   have i0:=h5 _ _ h8
   have d5:=h0 _ _ i0
   refine aJ (aB ⟨fun _=>⟨_,d5⟩,?_⟩)
   refine aU (i:=11) (by kernel_rfl) rfl ?_
   have i1:=d1 _ _ d5
   refine bH (i:=5) (ns:=(zC b u x y z)) (us:=(zC b u x y z)) sizeOf27 i1 rfl rfl rfl rfl rfl (cK rfl) rfl rfl (fun i2 (l8:aD G K (box r 27 n::aG 9 K a9 b0 a8::aG 88 K e g d::aG 9 K u x b.L::aG 46 K y z b.E::box k 27 (zC b u x y z)::L) i2)=>(aJ (aB ⟨tD rfl,?_⟩)))
   exact cO (by kernel_rfl) aP
  ·refine bL (Kt:=K) (xs:=([([100,101,108,116,97]:aF)]:List aF)) (cs:=[str ([100,101,108,116,97]:aF)]) (vs:=[(0,str ([100,101,108,116,97]:aF))]) bE iW rfl rfl a rfl (by kernel_rfl) rfl rfl rfl ⟨rfl,trivial⟩ (fun d6 i3 (d7:aD G o (aG 9 K d6 1 ([([100,101,108,116,97]:aF)]:List aF)::aG 88 K e g d::box k 27 m::L) i3)=>(aJ (aB ⟨fun _=>⟨_,d7⟩,?_⟩)))
   refine aU (i:=6) (by kernel_rfl) rfl ?_;obtain ⟨i4,i5,hm⟩:=aC hm
   refine aQ (vs:=[zS a1 t.L.length c2]) call30 rfl (bA i5 d7 (q.mono l)) ?_
   rintro _ i6 ⟨i7,i8,rfl,d8⟩
   refine aJ (aB ⟨fun _=>⟨_,d8⟩,?_⟩)
   refine aU (i:=8) (by kernel_rfl) rfl ?_;obtain ⟨b1,i9,hm⟩:=aC hm
   have j0:aD G o (aG 9 K d6 1 ([([100,101,108,116,97]:aF)]:List aF)::aG 9 K i7 i8 i4::aG 88 K e g d::box k 27 m::L) i6:=(aD.arr 2 [1,0] d8 rfl)
   refine eX (i:=0) bE underlying24 iW rfl rfl j0 rfl l l i9 rfl rfl rfl rfl (fun _ h=>h) (fun b2 b3 j1 (d9:aD G o (aG 9 K b2 b3 b1::aG 88 K e g d::box k 27 m::L) j1)=>(aJ (aB ⟨fun _=>⟨_,d9⟩,?_⟩)))
   refine aU (i:=10) (by kernel_rfl) rfl ?_;obtain ⟨l9,j2,j3,j4,j5⟩:=aD.lendSp d9 l .head
   obtain ⟨m0,j6,j7,j8,j9⟩:=aD.lendSp j4 (zL l j2) .head
   obtain ⟨c,k0,hm⟩:=aC hm
   refine aQ (vs:=[i64 t.N,i64 t.I,zS b2 b1.length b3,zS e d.length g]) call49 rfl (qV k0 j8 (j3.mono j6) j7) ?_
   rintro _ m1 ⟨V,Z,a0,a2,rfl,k1⟩
   have k2:=j9 _ _ k1
   have e0:=j5 _ _ k2
   refine aJ (aB ⟨fun _=>⟨_,e0⟩,?_⟩)
   refine aU (i:=11) (by kernel_rfl) rfl ?_
   have k3:=d1 _ _ e0
   refine bH (i:=5) (ns:=(zC c V Z a0 a2)) (us:=(zC c V Z a0 a2)) sizeOf27 k3 rfl rfl rfl rfl rfl (cK rfl) rfl rfl (fun k4 (m2:aD G K (box r 27 n::aG 9 K b2 b3 b1::aG 88 K e g d::aG 9 K V Z c.L::aG 46 K a0 a2 c.E::box k 27 (zC c V Z a0 a2)::L) k4)=>(aJ (aB ⟨tD rfl,?_⟩)))
   exact cO (by kernel_rfl) aP
 obtain ⟨m3,k5,ho⟩:=aC hm
 exact cZ [2,4,12,13] k5 (fun e1 k6 f w=>∃ e2 e3,f 5=zS e2 e1.length e3/\f 14=i64 k6/\aD G K (aG 2 K f3 f4 c1::aG 88 K e2 e3 e1::box k 27 m::box r 27 n::L) w) aP aP
theorem aGa {t:bF} {R:(bF × Int)} (hm:aIq t=some R) (e:aD G K (L) w) (g:G.lo=0) (h:Hp.le Kf K) (i:bS Kf a1 c2 t.L) (j:bS Kf a4 c5 t.E):
  Calls prog 67 ([zA (zCa t a1 c2 a4 c5)]:List Value).toArray w (eR fun v w'=>∃ a b c d,v=Value.tuple #[zA (zCa R.1 a b c d),i64 R.2]/\bS Kf a b R.1.L/\bS Kf c d R.1.E/\aD G K (L) w'):=by
 exact aP
theorem uC {t:bF} {c:(List aF)} {R:(bF × Int)} (hm:nP t c=some R) (hs:aD G K (L) w) (m:G.lo=0) (u:bS K a1 c2 t.L) (x:bS K a4 c5 t.E) (y:bS K a7 c8 c):
  Calls prog 27 ([zA (zCa t a1 c2 a4 c5),zS a7 c.length c8]:List Value).toArray w (eR fun v w'=>∃ k z V Z a0,v=Value.tuple #[zA (zCa R.1 z V Z a0),i64 R.2]/\Hp.le K k/\bS k z V R.1.L/\bS k Z a0 R.1.E/\aD G k (L) w'):=by
 let d:=(zC t a1 c2 a4 c5)
 let a2:=[zA (zCa t a1 c2 a4 c5),zS a7 c.length c8]
 let n:=zG
 refine aR func27 rfl (by kernel_rfl) (by show (2:Nat)<=17;decide) ?_;unfold nP at hm
 refine aO (fL (v:=zA (zCa t a1 c2 a4 c5)) (vs:=d) hs rfl rfl (fun o d3 b5=>(aX (vs:=n) zeroValue27 b5 rfl (fun p d4 a3=>(aI (v:=i64 0) (aK (aM (aO (aH (gE (us:=d) cW a3 (i:=1) rfl rfl rfl rfl) (aL (v:=zS a7 c.length c8) ?_))))))))));obtain ⟨d5,b6,hm⟩:=aC hm
 refine aQ (vs:=a2) call15 rfl (kP b6 a3 m u x y) ?_
 rintro _ d6 ⟨rfl,a5⟩
 refine aH (rA rfl) (aK ?_)
 rcases aN hm with ⟨a6,hm⟩|⟨a6,hm⟩
 ·exact aP
 ·refine aW a6 rfl (bB (aB (aO (aH (gE (us:=d) cW a5 (i:=1) rfl rfl rfl rfl) (aL (v:=zS a7 c.length c8) ?_)))));obtain ⟨b,b7,hm⟩:=aC hm
  refine aQ (vs:=a2) call17 rfl (aY b7 a5 m u x y) ?_
  rintro _ a8 ⟨b8,b9,a9,b0,rfl,c0⟩
  obtain ⟨c1,b1,c3,q⟩:=aD.giveSp c0 (zR _) .head
  replace q:aD G c1 (aG 46 K a9 b0 b.E::box p 27 n::box o 27 d::L) a8:=q
  obtain ⟨l,b2,c4,r⟩:=aD.giveSp q b1 .head
  replace r:aD G l (box p 27 n::box o 27 d::L) a8:=r
  obtain ⟨a,c6,hm⟩:=aC hm
  refine aQ (vs:=[zA (zCa b b8 b9 a9 b0)]) call67 rfl (aGa (Kf:=l) (t:=⟨b.N,b.I,b.L,b.E⟩) c6 r m (zR _) (c3.mono b2) c4) ?_
  rintro _ d7 ⟨e,g,h,j,rfl,c7,c9,d0⟩
  refine aH (bD rfl rfl) (aH (bD rfl rfl) (bH (i:=0) (ns:=(zC a.1 e g h j)) (us:=(zC a.1 e g h j)) sizeOf27 d0 rfl rfl rfl rfl rfl (cK rfl) rfl rfl (fun d1 (b3:aD G l (box p 27 (zC a.1 e g h j)::box o 27 d::L) d1)=>(aI (v:=i64 a.2) (aK ?_)))));obtain rfl:=zI hm
  exact kX (retQ_m2 results27 (tC (vs:=(zC a.1 e g h j)) rfl cW b3 (i:=0) rfl rfl rfl) (yJ rfl rfl) ⟨l,e,g,h,j,rfl,(zL b1 b2),c7,c9,(aD.arr 2 [] b3 rfl)⟩)
theorem xO {a:(List Int)} {b R:Int} (hm:gD a b=some R) (e:aD G K (L) w) (g:bS K a1 c2 a):
  Calls prog 139 ([zS a1 a.length c2,i64 b]:List Value).toArray w (eR fun v w'=>v=i64 R/\aD G K (L) w'):=by
 refine aR func139 rfl (by kernel_rfl) (by show (2:Nat)<=19;decide) ?_;unfold gD at hm
 refine aO (aI (v:=i64 0) (aK (aM (aO (aL (v:=zS a1 a.length c2) (aH (bI (len:=a.length) dA rfl) (aL (v:=i64 0) (aK (aV [] (fun f w=>oF=some R/\aD G K (L) w) aP ?_)))))))));obtain ⟨h,c,ho⟩:=aC hm
 exact cY [0,1,7] c (fun d f w=>f 8=i64 d/\aD G K (L) w) aP aP
theorem vB {a:(List Int)} {b:Int} {R:Bool} (hm:fJ a b=some R) (c:aD G K (L) w) (d:bS K a1 c2 a):
  Calls prog 105 ([zS a1 a.length c2,i64 b]:List Value).toArray w (eR fun v w'=>v=zB R/\aD G K (L) w'):=by
 exact aP
end Gv
