/- Walks, printed by program. -/
import Derived.Test.YtkgakibhmcbflaaGreatDoorJWk1
import Derived.Test.YtkgakibhmcbflaaGreatDoorJWk3
set_option linter.all false
namespace Gv
open Go.Value renaming slice→zS,bool→zB,pointer→zP,agg→zA
open Option.some renaming inj→zI
open Gv.Hp renaming le_trans→zL,le_refl→zR
open Go Go.Proofs
set_option maxRecDepth 20000
set_option maxHeartbeats 40000000
variable {G:Env} {K:Hp} {L:List nG} {w:World} {b1 c3 c9 c12 c2 c5:Nat} {a2 a5 a8 a11 a1 a4:Option Addr}
theorem aFT {b:(List UInt8)} {j2 j3:Int} {R:(cD × Int × Int)} (hs:aI G K (box b1 79 [zS a2 b.length c3,i64 j2,Value.int .u64 j3]::L) w) (h4:bX K a2 c3 b) (g:aAm b j2 j3=some R):
  Calls Tryz.prog 38 ([zP (some ⟨b1,0,none⟩)]:List Value).toArray w (gQ fun v w'=>∃ (o5:Option Addr) (o6:Nat) (o7:Option Addr) (o8:Nat),v=zA (zCa R.1 o5 o6 o7 o8)∧aI G K (aR 9 K o5 o6 R.1.L::aR 51 K o7 o8 R.1.E::box b1 79 [zS a2 b.length c3,i64 R.2.1,Value.int .u64 R.2.2]::L) w'):=by
 let k:=zG
 refine aS Tryz.func38 rfl (by kernel_rfl) (by show (1:Nat)≤125;decide) ?_
 unfold aAm at g
 refine aK (cQ (vs:=k) Tryz.zeroValue27 hs rfl (fun j w6 r5=>(aG (aK (aL (v:=zP (some ⟨b1,0,none⟩)) ?_)))))
 have r6:aI G K (box b1 79 [zS a2 b.length c3,i64 j2,Value.int .u64 j3]::box j 27 k::L) w6:=(aI.arr 2 [1,0] r5 rfl)
 obtain ⟨c,r7,g⟩:=aC g
 refine aQ (vs:=[zP (some ⟨b1,0,none⟩),i64 4]) Tryz.call15 rfl (cB r6 h4 r7) ?_
 rintro _ w11 ⟨rfl,r8⟩
 refine aD (cK rfl rfl) (aF (v:=i64 (wr (1+c.1))) (aG (aK (aL (v:=i64 (wr (1+c.1))) (aL (v:=zP (some ⟨b1,0,none⟩)) (aL (v:=i64 (wr (1+c.1))) (aD (nI rfl rfl) ?_)))))))
 obtain ⟨n,s0,g⟩:=aC g
 refine aQ (vs:=[zP (some ⟨b1,0,none⟩),i64 (wr (7 - (wr (1+c.1))))]) Tryz.call15 rfl (cB r8 h4 s0) ?_
 rintro _ w16 ⟨rfl,s1⟩
 refine aD (cK rfl rfl) (aF (v:=i64 (wr ((wr (1+c.1))+n.1))) (aG (aK (aL (v:=zP (some ⟨b1,0,none⟩)) ?_))))
 obtain ⟨a,s2,g⟩:=aC g
 refine aQ (vs:=[zP (some ⟨b1,0,none⟩)]) Tryz.call71 rfl (aDR s1 h4 s2) ?_
 rintro _ w23 ⟨d,e,rfl,s3⟩
 refine aF (v:=zS d a.1.length e) (aG (aK (cJ (Kt:=K) (xs:=([]:List Int)) (cs:=[]) (vs:=[]) bO jU rfl rfl s3 rfl (by kernel_rfl) rfl rfl rfl trivial (fun j4 s4 (s5:aI G K (aR 2 K j4 0 ([]:List Int)::aR 9 K d e a.1::box b1 79 [zS a2 b.length c3,i64 a.2.1,Value.int .u64 a.2.2]::box j 27 k::L) s4)=>(aF (v:=zS j4 ([]:List Int).length 0) (aG (aO (aK (aF (v:=i64 0) (aG (aZ (fun f w=>∃ (e0:Int) (e1:Int) (l:List Int) (o:Option Addr) (p:Nat),qV b c n a e0 e1 l=some R∧f 0=zP (some ⟨b1,0,none⟩)∧f 2=zP (some ⟨j,0,none⟩)∧f 3=i64 (wr (1+c.1))∧f 4=i64 (wr ((wr (1+c.1))+n.1))∧f 5=zS d a.1.length e∧f 6=zS o l.length p∧aI G K (aR 2 K o p l::aR 9 K d e a.1::box b1 79 [zS a2 b.length c3,i64 e0,Value.int .u64 e1]::box j 27 k::L) w) ?_ ?_)))))))))))
 ·rintro f w39 ⟨e0,e1,l,o,p,g,o9,s6,p0,s7,s8,s9,t0⟩
  unfold qV at g
  refine aA (aK (cJ (Kt:=K) (xs:=([]:List Edge)) (cs:=[]) (vs:=[]) cN jD rfl rfl t0 rfl (by kernel_rfl) rfl rfl rfl trivial (fun f6 p1 (t1:aI G K (aR 51 K f6 0 ([]:List Edge)::aR 2 K o p l::aR 9 K d e a.1::box b1 79 [zS a2 b.length c3,i64 e0,Value.int .u64 e1]::box j 27 k::L) p1)=>(aF (v:=zS f6 ([]:List Edge).length 0) (aG (aO (aK (aN o9 (aN p0 (aD (R_mul rfl rfl) (aD (cK rfl rfl) ?_)))))))))))
  have t2:aI G K (box b1 79 [zS a2 b.length c3,i64 e0,Value.int .u64 e1]::aR 51 K f6 0 ([]:List Edge)::aR 2 K o p l::aR 9 K d e a.1::box j 27 k::L) p1:=(aI.arr 4 [3,0,1,2] t1 rfl)
  obtain ⟨t3,t4,g⟩:=aC g
  refine aQ (vs:=[zP (some ⟨b1,0,none⟩),i64 (wr (2+(wr (2 * (wr (1+c.1))))))]) Tryz.call15 rfl (cB t2 h4 t4) ?_
  rintro _ w47 ⟨rfl,t5⟩
  refine aF (v:=i64 t3.1) (aG (aZ (fun f w=>∃ (f7:Int) (f8:Int) (b7:List Edge) (c4:Option Addr) (c5:Nat),sX b c n a f7 f8 b7=some R∧f 0=zP (some ⟨b1,0,none⟩)∧f 2=zP (some ⟨j,0,none⟩)∧f 4=i64 (wr ((wr (1+c.1))+n.1))∧f 5=zS d a.1.length e∧f 8=zS c4 b7.length c5∧aI G K (aR 51 K c4 c5 b7::box b1 79 [zS a2 b.length c3,i64 f7,Value.int .u64 f8]::aR 9 K d e a.1::box j 27 k::L) w) ?_ ?_))
  ·rintro f t6 ⟨f7,f8,b7,c4,c5,g,c6,p2,f9,j5,p3,t7⟩
   unfold sX at g
   refine aA (lV (fun f w=>∃ (g0:Int) (g1:Int) (b8:List Edge) (c7:Option Addr) (c8:Nat),pL b c n a g0 g1 b8=some R∧f 0=zP (some ⟨b1,0,none⟩)∧f 2=zP (some ⟨j,0,none⟩)∧f 4=i64 (wr ((wr (1+c.1))+n.1))∧f 5=zS d a.1.length e∧f 8=zS c7 b8.length c8∧aI G K (aR 51 K c7 c8 b8::box b1 79 [zS a2 b.length c3,i64 g0,Value.int .u64 g1]::aR 9 K d e a.1::box j 27 k::L) w) ?_ ?_)
   ·rintro f t8 ⟨g0,g1,b8,c7,c8,g,t9,p4,p5,u0,u1,u2⟩
    unfold pL at g
    refine aK (aN p5 (aN t9 (aN p5 ?_)))
    have u3:aI G K (box b1 79 [zS a2 b.length c3,i64 g0,Value.int .u64 g1]::aR 51 K c7 c8 b8::aR 9 K d e a.1::box j 27 k::L) t8:=(aI.arr 2 [1,0] u2 rfl)
    obtain ⟨j6,u4,g⟩:=aC g
    refine aQ (vs:=[zP (some ⟨b1,0,none⟩),i64 (wr ((wr (1+c.1))+n.1))]) Tryz.call15 rfl (cB u3 h4 u4) ?_
    rintro _ w76 ⟨rfl,u5⟩
    refine aN u0 (aN u1 ?_)
    obtain ⟨K78,u6,u7,u8,u9⟩:=aI.lendS (i:=2) u5 (zR _) rfl
    obtain ⟨K83,v0,v1,v2,v3⟩:=aI.lendS (i:=1) u8 u6 rfl
    obtain ⟨y,v4,g⟩:=aC g
    refine aQ (vs:=[i64 (wr ((wr (1+c.1))+n.1)),i64 j6.1,zS d a.1.length e,zS c7 b8.length c8]) Tryz.call20 rfl (nC v2 (u7.mono v0) v1 v4) ?_
    rintro _ w94 ⟨c9,d0,d1,d2,rfl,v5⟩
    have v6:=v3 _ _ v5
    have v7:=u9 _ _ v6
    refine cZ (i:=5) (ns:=(zC y c9 d0 d1 d2)) (us:=(zC y c9 d0 d1 d2)) Tryz.sizeOf27 v7 rfl p4 rfl rfl rfl (fO rfl) rfl rfl (fun v8 (p6:aI G K (aR 9 K d e a.1::aR 51 K c7 c8 b8::aR 9 K c9 d0 y.L::aR 51 K d1 d2 y.E::box b1 79 [zS a2 b.length c3,i64 j6.2.1,Value.int .u64 j6.2.2]::box j 27 (zC y c9 d0 d1 d2)::L) v8)=>(aG ?_))
    obtain rfl:=zI g
    exact bK (vF Tryz.results38 (oB (vs:=(zC y c9 d0 d1 d2)) rfl dB p6 (i:=5) rfl p4 rfl) ⟨c9,d0,d1,d2,rfl,(aI.arr 6 [2,3,4] p6 rfl)⟩)
   refine aK (aN c6 ?_)
   have w0:aI G K (box b1 79 [zS a2 b.length c3,i64 f7,Value.int .u64 f8]::aR 51 K c4 c5 b7::aR 9 K d e a.1::box j 27 k::L) t6:=(aI.arr 2 [1,0] t7 rfl)
   obtain ⟨p7,w1,g⟩:=aC g
   refine aQ (vs:=[zP (some ⟨b1,0,none⟩),i64 3]) Tryz.call18 rfl (jC w0 h4 w1) ?_
   rintro _ b13 ⟨rfl,p8⟩
   refine aG ?_
   rcases aH g with ⟨j7,g⟩|⟨j7,g⟩
   ·refine aM j7 rfl (aP (aN p3 (aN c6 (aN f9 ?_))))
    obtain ⟨d3,w2,g⟩:=aC g
    refine aQ (vs:=[zP (some ⟨b1,0,none⟩),i64 (wr ((wr (1+c.1))+n.1))]) Tryz.call15 rfl (cB p8 h4 w2) ?_
    rintro _ b14 ⟨rfl,w3⟩
    refine aN c6 (aN j5 (aD (bT (len:=a.1.length) dM rfl) ?_))
    obtain ⟨d4,w4,g⟩:=aC g
    refine aQ (vs:=[zP (some ⟨b1,0,none⟩),i64 (a.1.length:Int)]) Tryz.call15 rfl (cB w3 h4 w4) ?_
    rintro _ b15 ⟨rfl,w5⟩
    refine aN c6 (aN f9 ?_)
    obtain ⟨a5,w7,g⟩:=aC g
    refine aQ (vs:=[zP (some ⟨b1,0,none⟩),i64 (wr ((wr (1+c.1))+n.1))]) Tryz.call15 rfl (cB w5 h4 w7) ?_
    rintro _ b16 ⟨rfl,w8⟩
    refine aD (nH (vs:=[(0,i64 d3.1),(1,i64 d4.1),(2,i64 a5.1)]) (cs:=[i64 d3.1,i64 d4.1,i64 a5.1]) aEd rfl (by kernel_rfl)) (cJ (Kt:=K) (xs:=([⟨d3.1,d4.1,a5.1⟩]:List Edge)) (cs:=[i64 d3.1,i64 d4.1,i64 a5.1]) (vs:=[(0,zA #[i64 d3.1,i64 d4.1,i64 a5.1])]) cN jD rfl rfl w8 rfl (by kernel_rfl) rfl rfl rfl ⟨rfl,trivial⟩ (fun w9 x0 (x1:aI G K (aR 51 K w9 1 ([⟨d3.1,d4.1,a5.1⟩]:List Edge)::box b1 79 [zS a2 b.length c3,i64 a5.2.1,Value.int .u64 a5.2.2]::aR 51 K c4 c5 b7::aR 9 K d e a.1::box j 27 k::L) x0)=>?_))
    obtain ⟨j8,x2,g⟩:=aC g
    exact eK (i:=1) cN Tryz.underlying25 jD rfl rfl x1 rfl (zR _) (zR _) x2 rfl rfl rfl rfl (fun _ h=>h) (fun j9 k0 x3 (x4:aI G K (box b1 79 [zS a2 b.length c3,i64 a5.2.1,Value.int .u64 a5.2.2]::aR 51 K j9 k0 j8::aR 9 K d e a.1::box j 27 k::L) x3)=>(aF (v:=zS j9 j8.length k0) (aG ⟨a5.2.1,a5.2.2,j8,j9,k0,g,c6,p2,f9,j5,rfl,(aI.arr 2 [1,0] x4 rfl)⟩)))
   ·exact aJ j7 rfl (aY (aA ⟨p7.2.1,p7.2.2,b7,c4,c5,g,c6,p2,f9,j5,p3,(aI.arr 2 [1,0] p8 rfl)⟩))
  obtain ⟨b17,x5,g⟩:=aC g
  refine cC x5 (fun (s:(Int × Int × List Edge × Int)) f w=>match s with|(e2,e3,d5,J)=>∃ (e4:Option Addr) (e5:Nat),f 0=zP (some ⟨b1,0,none⟩)∧f 2=zP (some ⟨j,0,none⟩)∧f 3=i64 (wr (1+c.1))∧f 4=i64 (wr ((wr (1+c.1))+n.1))∧f 5=zS d a.1.length e∧f 6=zS o l.length p∧f 8=zS e4 d5.length e5∧f 9=i64 J∧aI G K (box b1 79 [zS a2 b.length c3,i64 e2,Value.int .u64 e3]::aR 51 K e4 e5 d5::aR 2 K o p l::aR 9 K d e a.1::box j 27 k::L) w) ?_ ?_
  ·exact ⟨f6,0,o9,s6,p0,s7,s8,s9,rfl,rfl,t5⟩
  ·rintro ⟨e2,e3,d5,J⟩ g2 f b18 q x6 ⟨e4,e5,e6,p9,k1,q0,k2,x7,q1,q2,q3⟩
   replace q:lQ b c n a l e2 e3 d5 J=some g2:=q
   unfold lQ at q
   refine aO (aK (aN q2 (aD (sL rfl rfl) (aG ?_))))
   rcases aH q with ⟨k3,q⟩|⟨k3,q⟩
   ·refine aM k3 rfl (aY (aA (aO (aZ (fun f w=>∃ (g3:Int) (g4:Int) (e7:List Edge) (g5:Option Addr) (g6:Nat),xP J g3 g4 e7=some g2∧f 0=zP (some ⟨b1,0,none⟩)∧f 2=zP (some ⟨j,0,none⟩)∧f 3=i64 (wr (1+c.1))∧f 4=i64 (wr ((wr (1+c.1))+n.1))∧f 5=zS d a.1.length e∧f 6=zS o l.length p∧f 8=zS g5 e7.length g6∧f 9=i64 J∧aI G K (aR 51 K g5 g6 e7::box b1 79 [zS a2 b.length c3,i64 g3,Value.int .u64 g4]::aR 2 K o p l::aR 9 K d e a.1::box j 27 k::L) w) ?_ ?_))))
    ·rintro f b19 ⟨g3,g4,e7,g5,g6,q,x8,x9,y0,y1,y2,y3,y4,y5,y6⟩
     unfold xP at q
     exact aA (aP (aN y5 (aD (nI rfl rfl) (aF (v:=i64 (wr (J - 1))) (aG ⟨(g3,g4,e7,wr (J - 1)),(zI q).symm,g5,g6,x8,x9,y0,y1,y2,y3,y4,rfl,(aI.arr 2 [1,0] y6 rfl)⟩)))))
    refine aK (aN e6 (aN k1 ?_))
    obtain ⟨b9,y7,q⟩:=aC q
    refine aQ (vs:=[zP (some ⟨b1,0,none⟩),i64 (wr (1+c.1))]) Tryz.call15 rfl (cB q3 h4 y7) ?_
    rintro _ b20 ⟨rfl,y8⟩
    refine aF (v:=i64 b9.1) (aG (aK (aN e6 (aN k2 (aD (bT (len:=a.1.length) dM rfl) ?_)))))
    obtain ⟨V,y9,q⟩:=aC q
    refine aQ (vs:=[zP (some ⟨b1,0,none⟩),i64 (a.1.length:Int)]) Tryz.call15 rfl (cB y8 h4 y9) ?_
    rintro _ b21 ⟨rfl,z0⟩
    refine aF (v:=i64 V.1) (aG (aK (aN e6 (aN k1 ?_))))
    obtain ⟨b4,z1,q⟩:=aC q
    refine aQ (vs:=[zP (some ⟨b1,0,none⟩),i64 (wr (1+c.1))]) Tryz.call15 rfl (cB z0 h4 z1) ?_
    rintro _ b22 ⟨rfl,z2⟩
    refine aF (v:=i64 b4.1) (aG (aK (aF (v:=i64 0) (aG (aZ (fun f w=>∃ (g7:Int) (g8:Int) (e8:List Edge) (g9:Option Addr) (h0:Nat),sY J g7 g8 e8=some g2∧f 0=zP (some ⟨b1,0,none⟩)∧f 2=zP (some ⟨j,0,none⟩)∧f 3=i64 (wr (1+c.1))∧f 4=i64 (wr ((wr (1+c.1))+n.1))∧f 5=zS d a.1.length e∧f 6=zS o l.length p∧f 8=zS g9 e8.length h0∧f 9=i64 J∧aI G K (aR 51 K g9 h0 e8::box b1 79 [zS a2 b.length c3,i64 g7,Value.int .u64 g8]::aR 2 K o p l::aR 9 K d e a.1::box j 27 k::L) w) ?_ ?_)))))
    ·rintro f b23 ⟨g7,g8,e8,g9,h0,q,z3,z4,z5,z6,z7,z8,z9,a00,a01⟩
     unfold sY at q
     exact bA (aA ⟨g7,g8,e8,g9,h0,q,z3,z4,z5,z6,z7,z8,z9,a00,a01⟩)
    obtain ⟨b24,a02,q⟩:=aC q
    refine cC a02 (fun (s:(Int × Int × List Edge × Int)) f w=>match s with|(a3,a4,u,z)=>∃ (Z:Option Addr) (a0:Nat),f 0=zP (some ⟨b1,0,none⟩)∧f 2=zP (some ⟨j,0,none⟩)∧f 3=i64 (wr (1+c.1))∧f 4=i64 (wr ((wr (1+c.1))+n.1))∧f 5=zS d a.1.length e∧f 6=zS o l.length p∧f 8=zS Z u.length a0∧f 9=i64 J∧f 10=i64 b9.1∧f 11=i64 V.1∧f 12=i64 b4.1∧f 13=i64 z∧aI G K (box b1 79 [zS a2 b.length c3,i64 a3,Value.int .u64 a4]::aR 51 K Z a0 u::aR 2 K o p l::aR 9 K d e a.1::box j 27 k::L) w) ?_ ?_
    ·exact ⟨e4,e5,e6,p9,k1,q0,k2,x7,q1,q2,rfl,rfl,rfl,rfl,z2⟩
    ·rintro ⟨a3,a4,u,z⟩ h1 f b25 m a03 ⟨Z,a0,k4,k5,k6,h2,k7,h3,k8,k9,l0,q4,q5,h5,e9⟩
     replace m:mX b c n l b9 V b4 a3 a4 u z=some h1:=m
     unfold mX at m
     refine aO (aK (aN h5 (aN h2 (aD (cT rfl rfl) (aG ?_)))))
     rcases aH m with ⟨l1,m⟩|⟨l1,m⟩
     ·refine aM l1 rfl (aY (aA (aO (aZ (fun f w=>∃ (h6:Int) (h7:Int) (f0:List Edge) (h8:Option Addr) (h9:Nat),sZ z h6 h7 f0=some h1∧f 0=zP (some ⟨b1,0,none⟩)∧f 2=zP (some ⟨j,0,none⟩)∧f 3=i64 (wr (1+c.1))∧f 4=i64 (wr ((wr (1+c.1))+n.1))∧f 5=zS d a.1.length e∧f 6=zS o l.length p∧f 8=zS h8 f0.length h9∧f 9=i64 J∧f 10=i64 b9.1∧f 11=i64 V.1∧f 12=i64 b4.1∧f 13=i64 z∧aI G K (box b1 79 [zS a2 b.length c3,i64 h6,Value.int .u64 h7]::aR 51 K h8 h9 f0::aR 2 K o p l::aR 9 K d e a.1::box j 27 k::L) w) ?_ ?_))))
      ·rintro f b26 ⟨h6,h7,f0,h8,h9,m,a04,a05,a06,a07,a08,a09,a10,a11,a12,a13,a14,a15,a16⟩
       unfold sZ at m
       exact aA (aP (aN a15 (aD (cK rfl rfl) (aF (v:=i64 (wr (z+1))) (aG ⟨(h6,h7,f0,wr (z+1)),(zI m).symm,h8,h9,a04,a05,a06,a07,a08,a09,a10,a11,a12,a13,a14,rfl,a16⟩)))))
      refine aO (aK (aN h3 (aN h5 ?_)))
      obtain ⟨b27,l2,m⟩:=aC m
      have q6:=dZ e9 (i:=2) rfl l2
      refine aD (eM bO rfl q6 rfl rfl rfl l2) (aD (lB (t:=0) bY e9 (i:=2) rfl l2 rfl rfl rfl) (aN l0 (aD (uK rfl rfl) (aG ?_))))
      rcases aH m with ⟨l3,m⟩|⟨l3,m⟩
      ·exact aM l3 rfl (cA (aV (bN (aA ⟨a3,a4,u,Z,a0,m,k4,k5,k6,h2,k7,h3,k8,k9,l0,q4,q5,h5,e9⟩))))
      ·refine aJ l3 rfl (aY (aA (aK (cJ (Kt:=K) (xs:=([]:List Int)) (cs:=[]) (vs:=[]) bO jU rfl rfl e9 rfl (by kernel_rfl) rfl rfl rfl trivial (fun l4 a17 (a18:aI G K (aR 2 K l4 0 ([]:List Int)::box b1 79 [zS a2 b.length c3,i64 a3,Value.int .u64 a4]::aR 51 K Z a0 u::aR 2 K o p l::aR 9 K d e a.1::box j 27 k::L) a17)=>(aF (v:=zS l4 ([]:List Int).length 0) (aG (aO (aK (aF (v:=i64 0) (aG (aZ (fun f w=>∃ (c0:List Int) (d6:Option Addr) (d7:Nat),tA b V a3 a4 u z c0=some h1∧f 0=zP (some ⟨b1,0,none⟩)∧f 2=zP (some ⟨j,0,none⟩)∧f 3=i64 (wr (1+c.1))∧f 4=i64 (wr ((wr (1+c.1))+n.1))∧f 5=zS d a.1.length e∧f 6=zS o l.length p∧f 8=zS Z u.length a0∧f 9=i64 J∧f 10=i64 b9.1∧f 11=i64 V.1∧f 12=i64 b4.1∧f 13=i64 z∧f 14=zS d6 c0.length d7∧aI G K (aR 2 K d6 d7 c0::box b1 79 [zS a2 b.length c3,i64 a3,Value.int .u64 a4]::aR 51 K Z a0 u::aR 2 K o p l::aR 9 K d e a.1::box j 27 k::L) w) ?_ ?_))))))))))))
       ·rintro f b28 ⟨c0,d6,d7,m,q7,a19,a20,a22,a23,a24,a26,a27,a28,q8,a29,q9,a30,a32⟩
        unfold tA at m
        refine aA (aP (aN a26 (aN q9 (aN q8 (aN q7 (aN a30 ?_))))))
        obtain ⟨b29,a33,a34,a35,a36⟩:=aI.lendS (i:=0) a32 (zR _) rfl
        obtain ⟨a6,a37,m⟩:=aC m
        refine aQ (vs:=[zP (some ⟨b1,0,none⟩),zS d6 c0.length d7]) Tryz.call72 rfl (aDS a35 (h4.mono a33) a34 a37) ?_
        rintro _ b30 ⟨rfl,a38⟩
        have a39:=a36 _ _ a38
        refine aD (nH (vs:=[(0,i64 z),(1,i64 V.1),(2,i64 a6.1)]) (cs:=[i64 z,i64 V.1,i64 a6.1]) aEd rfl (by kernel_rfl)) (cJ (Kt:=K) (xs:=([⟨z,V.1,a6.1⟩]:List Edge)) (cs:=[i64 z,i64 V.1,i64 a6.1]) (vs:=[(0,zA #[i64 z,i64 V.1,i64 a6.1])]) cN jD rfl rfl a39 rfl (by kernel_rfl) rfl rfl rfl ⟨rfl,trivial⟩ (fun a40 a42 (a43:aI G K (aR 51 K a40 1 ([⟨z,V.1,a6.1⟩]:List Edge)::aR 2 K d6 d7 c0::box b1 79 [zS a2 b.length c3,i64 a6.2.1,Value.int .u64 a6.2.2]::aR 51 K Z a0 u::aR 2 K o p l::aR 9 K d e a.1::box j 27 k::L) a42)=>?_))
        obtain ⟨l5,a44,m⟩:=aC m
        exact eK (i:=2) cN Tryz.underlying25 jD rfl rfl a43 rfl (zR _) (zR _) a44 rfl rfl rfl rfl (fun _ h=>h) (fun l6 l7 a45 (a46:aI G K (aR 2 K d6 d7 c0::box b1 79 [zS a2 b.length c3,i64 a6.2.1,Value.int .u64 a6.2.2]::aR 51 K l6 l7 l5::aR 2 K o p l::aR 9 K d e a.1::box j 27 k::L) a45)=>(aF (v:=zS l6 l5.length l7) (bM (bA (aA ⟨a6.2.1,a6.2.2,l5,l6,l7,m,q7,a19,a20,a22,a23,a24,rfl,a27,a28,q8,a29,q9,(aI.arr 1 [] a46 rfl)⟩)))))
       obtain ⟨b31,a47,m⟩:=aC m
       refine cC a47 (fun (s:(List Int × Int)) f w=>match s with|(b6,a7)=>∃ (d8:Option Addr) (d9:Nat),f 0=zP (some ⟨b1,0,none⟩)∧f 2=zP (some ⟨j,0,none⟩)∧f 3=i64 (wr (1+c.1))∧f 4=i64 (wr ((wr (1+c.1))+n.1))∧f 5=zS d a.1.length e∧f 6=zS o l.length p∧f 8=zS Z u.length a0∧f 9=i64 J∧f 10=i64 b9.1∧f 11=i64 V.1∧f 12=i64 b4.1∧f 13=i64 z∧f 14=zS d8 b6.length d9∧f 15=i64 a7∧aI G K (aR 2 K d8 d9 b6::box b1 79 [zS a2 b.length c3,i64 a3,Value.int .u64 a4]::aR 51 K Z a0 u::aR 2 K o p l::aR 9 K d e a.1::box j 27 k::L) w) ?_ ?_
       ·exact ⟨l4,0,k4,k5,k6,h2,k7,h3,k8,k9,l0,q4,q5,h5,rfl,rfl,a18⟩
       ·rintro ⟨b6,a7⟩ r0 f b32 x a48 ⟨d8,d9,l8,l9,m0,i0,m1,i1,m2,m3,m4,m5,i2,m6,m7,f1,i3⟩
        replace x:kD c n l b4 b6 a7=some r0:=x
        unfold kD at x
        refine aO (aK (aN f1 (aN i0 (aD (cT rfl rfl) (aG ?_)))))
        rcases aH x with ⟨m8,x⟩|⟨m8,x⟩
        ·refine aM m8 rfl (aY (aA (aO (aZ (fun f w=>∃ (f2:List Int) (i4:Option Addr) (i5:Nat),tB a7 f2=some r0∧f 0=zP (some ⟨b1,0,none⟩)∧f 2=zP (some ⟨j,0,none⟩)∧f 3=i64 (wr (1+c.1))∧f 4=i64 (wr ((wr (1+c.1))+n.1))∧f 5=zS d a.1.length e∧f 6=zS o l.length p∧f 8=zS Z u.length a0∧f 9=i64 J∧f 10=i64 b9.1∧f 11=i64 V.1∧f 12=i64 b4.1∧f 13=i64 z∧f 14=zS i4 f2.length i5∧f 15=i64 a7∧aI G K (aR 2 K i4 i5 f2::box b1 79 [zS a2 b.length c3,i64 a3,Value.int .u64 a4]::aR 51 K Z a0 u::aR 2 K o p l::aR 9 K d e a.1::box j 27 k::L) w) ?_ ?_))))
         ·rintro f b33 ⟨f2,i4,i5,x,a49,a50,a51,a53,a54,a55,a56,a57,a58,a59,a60,a61,a62,a63,a65⟩
          unfold tB at x
          exact aA (aP (aN a63 (aD (cK rfl rfl) (aF (v:=i64 (wr (a7+1))) (aG ⟨(f2,wr (a7+1)),(zI x).symm,i4,i5,a49,a50,a51,a53,a54,a55,a56,a57,a58,a59,a60,a61,a62,rfl,a65⟩)))))
         refine aK (aN i1 (aN f1 ?_))
         obtain ⟨b34,r1,x⟩:=aC x
         refine aD (eM bO rfl q6 rfl rfl rfl r1) (aD (lB (t:=0) bY i3 (i:=3) rfl r1 rfl rfl rfl) (aN i2 (aD (lA rfl rfl) (aG ?_))))
         rcases aH x with ⟨m9,x⟩|⟨m9,x⟩
         ·refine aM m9 rfl (aP (aN m7 (aN f1 (cJ (Kt:=K) (xs:=([a7]:List Int)) (cs:=[i64 a7]) (vs:=[(0,i64 a7)]) bO jU rfl rfl i3 rfl (by kernel_rfl) rfl rfl rfl ⟨rfl,trivial⟩ (fun a66 a67 (a68:aI G K (aR 2 K a66 1 ([a7]:List Int)::aR 2 K d8 d9 b6::box b1 79 [zS a2 b.length c3,i64 a3,Value.int .u64 a4]::aR 51 K Z a0 u::aR 2 K o p l::aR 9 K d e a.1::box j 27 k::L) a67)=>?_)))))
          obtain ⟨n0,a69,x⟩:=aC x
          exact eK (i:=0) bO Tryz.underlying40 jU rfl rfl a68 rfl (zR _) (zR _) a69 rfl rfl rfl rfl (fun _ h=>h) (fun n1 n2 a70 (a71:aI G K (aR 2 K n1 n2 n0::box b1 79 [zS a2 b.length c3,i64 a3,Value.int .u64 a4]::aR 51 K Z a0 u::aR 2 K o p l::aR 9 K d e a.1::box j 27 k::L) a70)=>(aF (v:=zS n1 n0.length n2) (bM (bA (aA ⟨n0,n1,n2,x,l8,l9,m0,i0,m1,i1,m2,m3,m4,m5,i2,m6,rfl,f1,a71⟩)))))
         ·exact aJ m9 rfl (aY (bA (aA ⟨b6,d8,d9,x,l8,l9,m0,i0,m1,i1,m2,m3,m4,m5,i2,m6,m7,f1,i3⟩)))
        ·refine aJ m8 rfl (cA (aV (aV ?_)))
         have a72:=a48 _ (zI x).symm
         subst a72
         have m:(tA b V a3 a4 u z b6)=some h1:=m
         exact bN (aA ⟨b6,d8,d9,m,l8,l9,m0,i0,m1,i1,m2,m3,m4,m5,i2,m6,m7,i3⟩)
     ·refine aJ l1 rfl (cA (aV (aV ?_)))
      have a73:=a03 _ (zI m).symm
      subst a73
      have q:(sY J a3 a4 u)=some g2:=q
      exact bN (aA ⟨a3,a4,u,Z,a0,q,k4,k5,k6,h2,k7,h3,k8,k9,(aI.arr 2 [1,0] e9 rfl)⟩)
   ·refine aJ k3 rfl (cA (aV (aV ?_)))
    have a74:=x6 _ (zI q).symm
    subst a74
    have g:(sX b c n a e2 e3 d5)=some R:=g
    exact bN (aA ⟨e2,e3,d5,e4,e5,g,e6,p9,q0,k2,q1,(aI.arr 3 [1,0] q3 rfl)⟩)
 obtain ⟨b35,a75,g⟩:=aC g
 refine cC a75 (fun (s:(Int × Int × List Int × Int)) f w=>match s with|(b0,b2,b3,a8)=>∃ (c1:Option Addr) (c2:Nat),f 0=zP (some ⟨b1,0,none⟩)∧f 2=zP (some ⟨j,0,none⟩)∧f 3=i64 (wr (1+c.1))∧f 4=i64 (wr ((wr (1+c.1))+n.1))∧f 5=zS d a.1.length e∧f 6=zS c1 b3.length c2∧f 7=i64 a8∧aI G K (aR 2 K c1 c2 b3::aR 9 K d e a.1::box b1 79 [zS a2 b.length c3,i64 b0,Value.int .u64 b2]::box j 27 k::L) w) ?_ ?_
 ·exact ⟨j4,0,rfl,rfl,rfl,rfl,rfl,rfl,rfl,s5⟩
 ·rintro ⟨b0,b2,b3,a8⟩ r2 f a76 r a77 ⟨c1,c2,i6,n3,f3,i7,n4,n5,f4,n6⟩
  replace r:lR b c n b0 b2 b3 a8=some r2:=r
  unfold lR at r
  refine aO (aK (aN f4 (aN i7 (aD (cT rfl rfl) (aG ?_)))))
  rcases aH r with ⟨n7,r⟩|⟨n7,r⟩
  ·refine aM n7 rfl (aY (aA (aO (aZ (fun f w=>∃ (i8:Int) (i9:Int) (f5:List Int) (j0:Option Addr) (j1:Nat),nP a8 i8 i9 f5=some r2∧f 0=zP (some ⟨b1,0,none⟩)∧f 2=zP (some ⟨j,0,none⟩)∧f 3=i64 (wr (1+c.1))∧f 4=i64 (wr ((wr (1+c.1))+n.1))∧f 5=zS d a.1.length e∧f 6=zS j0 f5.length j1∧f 7=i64 a8∧aI G K (aR 2 K j0 j1 f5::aR 9 K d e a.1::box b1 79 [zS a2 b.length c3,i64 i8,Value.int .u64 i9]::box j 27 k::L) w) ?_ ?_))))
   ·rintro f b36 ⟨i8,i9,f5,j0,j1,r,a78,a79,a80,a81,a82,a83,a84,a85⟩
    unfold nP at r
    exact aA (aP (aN a84 (aD (cK rfl rfl) (aF (v:=i64 (wr (a8+1))) (aG ⟨(i8,i9,f5,wr (a8+1)),(zI r).symm,j0,j1,a78,a79,a80,a81,a82,a83,rfl,a85⟩)))))
   refine aK (aN f4 (aN f3 (aD (cT rfl rfl) (aG ?_))))
   rcases aH r with ⟨n8,r⟩|⟨n8,r⟩
   ·refine aM n8 rfl (aP (aN n5 (aN f4 (cJ (Kt:=K) (xs:=([a8]:List Int)) (cs:=[i64 a8]) (vs:=[(0,i64 a8)]) bO jU rfl rfl n6 rfl (by kernel_rfl) rfl rfl rfl ⟨rfl,trivial⟩ (fun a86 a87 (a88:aI G K (aR 2 K a86 1 ([a8]:List Int)::aR 2 K c1 c2 b3::aR 9 K d e a.1::box b1 79 [zS a2 b.length c3,i64 b0,Value.int .u64 b2]::box j 27 k::L) a87)=>?_)))))
    obtain ⟨n9,a89,r⟩:=aC r
    exact eK (i:=0) bO Tryz.underlying40 jU rfl rfl a88 rfl (zR _) (zR _) a89 rfl rfl rfl rfl (fun _ h=>h) (fun o0 o1 a91 (a93:aI G K (aR 2 K o0 o1 n9::aR 9 K d e a.1::box b1 79 [zS a2 b.length c3,i64 b0,Value.int .u64 b2]::box j 27 k::L) a91)=>(aF (v:=zS o0 n9.length o1) (bM (bA (aA ⟨b0,b2,n9,o0,o1,r,i6,n3,f3,i7,n4,rfl,f4,a93⟩)))))
   ·refine aJ n8 rfl (aP (aN n5 (aN i6 (aN f3 ?_))))
    have a94:aI G K (box b1 79 [zS a2 b.length c3,i64 b0,Value.int .u64 b2]::aR 2 K c1 c2 b3::aR 9 K d e a.1::box j 27 k::L) a76:=(aI.arr 3 [2,0,1] n6 rfl)
    obtain ⟨a9,a95,r⟩:=aC r
    refine aQ (vs:=[zP (some ⟨b1,0,none⟩),i64 (wr (1+c.1))]) Tryz.call15 rfl (cB a94 h4 a95) ?_
    rintro _ b37 ⟨rfl,a96⟩
    refine cJ (Kt:=K) (xs:=([a9.1]:List Int)) (cs:=[i64 a9.1]) (vs:=[(0,i64 a9.1)]) bO jU rfl rfl a96 rfl (by kernel_rfl) rfl rfl rfl ⟨rfl,trivial⟩ (fun a97 a98 (a99:aI G K (aR 2 K a97 1 ([a9.1]:List Int)::box b1 79 [zS a2 b.length c3,i64 a9.2.1,Value.int .u64 a9.2.2]::aR 2 K c1 c2 b3::aR 9 K d e a.1::box j 27 k::L) a98)=>?_)
    obtain ⟨o2,b00,r⟩:=aC r
    exact eK (i:=1) bO Tryz.underlying40 jU rfl rfl a99 rfl (zR _) (zR _) b00 rfl rfl rfl rfl (fun _ h=>h) (fun o3 o4 b01 (b02:aI G K (box b1 79 [zS a2 b.length c3,i64 a9.2.1,Value.int .u64 a9.2.2]::aR 2 K o3 o4 o2::aR 9 K d e a.1::box j 27 k::L) b01)=>(aF (v:=zS o3 o2.length o4) (bM (bA (aA ⟨a9.2.1,a9.2.2,o2,o3,o4,r,i6,n3,f3,i7,n4,rfl,f4,(aI.arr 3 [1,2,0] b02 rfl)⟩)))))
  ·refine aJ n7 rfl (cA (aV (aV ?_)))
   have b03:=a77 _ (zI r).symm
   subst b03
   have g:(qV b c n a b0 b2 b3)=some R:=g
   exact bN (aA ⟨b0,b2,b3,c1,c2,g,i6,n3,f3,i7,n4,n5,n6⟩)
theorem aCn {j:(List UInt8)} {d8 d9:Int} {R:(cD × Int × Int)} (hs:aI G K (box b1 79 [zS a2 j.length c3,i64 d8,Value.int .u64 d9]::L) w) (h4:bX K a2 c3 j) (k:qH j d8 d9=some R):
  Calls Tryz.prog 14 ([zP (some ⟨b1,0,none⟩)]:List Value).toArray w (gQ fun v w'=>∃ (f6:Option Addr) (f7:Nat) (f8:Option Addr) (f9:Nat),v=zA (zCa R.1 f6 f7 f8 f9)∧aI G K (aR 9 K f6 f7 R.1.L::aR 51 K f8 f9 R.1.E::box b1 79 [zS a2 j.length c3,i64 R.2.1,Value.int .u64 R.2.2]::L) w'):=by
 let o:=zG
 refine aS Tryz.func14 rfl (by kernel_rfl) (by show (1:Nat)≤56;decide) ?_
 unfold qH at k
 refine aK (cQ (vs:=o) Tryz.zeroValue27 hs rfl (fun l w6 i0=>(aG (aK (aL (v:=zP (some ⟨b1,0,none⟩)) ?_)))))
 have i1:aI G K (box b1 79 [zS a2 j.length c3,i64 d8,Value.int .u64 d9]::box l 27 o::L) w6:=(aI.arr 2 [1,0] i0 rfl)
 obtain ⟨a,i2,k⟩:=aC k
 refine aQ (vs:=[zP (some ⟨b1,0,none⟩)]) Tryz.call38 rfl (aFT i1 h4 i2) ?_
 rintro _ o8 ⟨c,d,e,g,rfl,i3⟩
 refine cQ (vs:=o) Tryz.zeroValue27 i3 rfl (fun n o9 i4=>(cZ (i:=0) (ns:=(zC a.1 c d e g)) (us:=(zC a.1 c d e g)) Tryz.sizeOf27 i4 rfl rfl rfl rfl rfl (fO rfl) rfl rfl (fun i5 (i6:aI G K (box n 27 (zC a.1 c d e g)::aR 9 K c d a.1.L::aR 51 K e g a.1.E::box b1 79 [zS a2 j.length c3,i64 a.2.1,Value.int .u64 a.2.2]::box l 27 o::L) i5)=>(aG (aK (cJ (Kt:=K) (xs:=([]:List Edge)) (cs:=[]) (vs:=[]) cN jD rfl rfl i6 rfl (by kernel_rfl) rfl rfl rfl trivial (fun e0 i7 (i8:aI G K (aR 51 K e0 0 ([]:List Edge)::box n 27 (zC a.1 c d e g)::aR 9 K c d a.1.L::aR 51 K e g a.1.E::box b1 79 [zS a2 j.length c3,i64 a.2.1,Value.int .u64 a.2.2]::box l 27 o::L) i7)=>(aF (v:=zS e0 ([]:List Edge).length 0) (aG (aO (aK (aF (v:=i64 0) (aG (aZ (fun f w=>∃ (c9:Int) (d0:Int) (b6:List Edge) (b7:Option Addr) (b8:Nat),tD j a c9 d0 b6=some R∧f 0=zP (some ⟨b1,0,none⟩)∧f 2=zP (some ⟨l,0,none⟩)∧f 3=zP (some ⟨n,0,none⟩)∧f 4=zS b7 b6.length b8∧aI G K (aR 51 K b7 b8 b6::box n 27 (zC a.1 c d e g)::aR 9 K c d a.1.L::aR 51 K e g a.1.E::box b1 79 [zS a2 j.length c3,i64 c9,Value.int .u64 d0]::box l 27 o::L) w) ?_ ?_))))))))))))))
 ·rintro f i9 ⟨c9,d0,b6,b7,b8,k,g0,j0,j1,j2,j3⟩
  unfold tD at k
  refine aA (aO (aK (aN g0 ?_)))
  have j4:aI G K (box b1 79 [zS a2 j.length c3,i64 c9,Value.int .u64 d0]::aR 51 K b7 b8 b6::box n 27 (zC a.1 c d e g)::aR 9 K c d a.1.L::aR 51 K e g a.1.E::box l 27 o::L) i9:=(aI.arr 5 [4,0,1,2,3] j3 rfl)
  obtain ⟨j5,j6,k⟩:=aC k
  refine aQ (vs:=[zP (some ⟨b1,0,none⟩),i64 3]) Tryz.call15 rfl (cB j4 h4 j6) ?_
  rintro _ p0 ⟨rfl,j7⟩
  refine aF (v:=i64 j5.1) (aG (aZ (fun f w=>∃ (a3:List Edge) (d1:Int) (d2:Int) (b9:Option Addr) (c0:Nat),tC a a3 d1 d2=some R∧f 2=zP (some ⟨l,0,none⟩)∧f 3=zP (some ⟨n,0,none⟩)∧f 4=zS b9 a3.length c0∧aI G K (aR 51 K b9 c0 a3::box b1 79 [zS a2 j.length c3,i64 d1,Value.int .u64 d2]::box n 27 (zC a.1 c d e g)::aR 9 K c d a.1.L::aR 51 K e g a.1.E::box l 27 o::L) w) ?_ ?_))
  ·rintro f p1 ⟨a3,d1,d2,b9,c0,k,g1,e1,j8,d3⟩
   unfold tC at k
   refine aA (aK (aD (bL (t':=0) dP e1 rfl) (aD (dG bY d3 (i:=2) rfl rfl rfl) (aD (bL (t':=1) oV e1 rfl) (aD (dG bY d3 (i:=2) rfl rfl rfl) (aD (bL (t':=2) gV e1 rfl) (aD (dG oC d3 (i:=2) rfl rfl rfl) (aN j8 ?_))))))))
   obtain ⟨p2,j9,k0,k1,k2⟩:=aI.lendS (i:=3) d3 (zR _) rfl
   obtain ⟨p3,k3,k4,k5,k6⟩:=aI.lendS (i:=0) k1 j9 rfl
   obtain ⟨p,k7,k⟩:=aC k
   refine aQ (vs:=[i64 a.1.N,i64 a.1.I,zS c a.1.L.length d,zS b9 a3.length c0]) Tryz.call20 rfl (nC k5 (k0.mono k3) k4 k7) ?_
   rintro _ p4 ⟨a4,a5,a6,a7,rfl,k8⟩
   have k9:=k6 _ _ k8
   have l0:=k2 _ _ k9
   refine cZ (i:=7) (ns:=(zC p a4 a5 a6 a7)) (us:=(zC p a4 a5 a6 a7)) Tryz.sizeOf27 l0 rfl g1 rfl rfl rfl (fO rfl) rfl rfl (fun l1 (g2:aI G K (aR 9 K c d a.1.L::aR 51 K b9 c0 a3::aR 9 K a4 a5 p.L::aR 51 K a6 a7 p.E::box b1 79 [zS a2 j.length c3,i64 d1,Value.int .u64 d2]::box n 27 (zC a.1 c d e g)::aR 51 K e g a.1.E::box l 27 (zC p a4 a5 a6 a7)::L) l1)=>(aG ?_))
   obtain rfl:=zI k
   exact bK (vF Tryz.results14 (oB (vs:=(zC p a4 a5 a6 a7)) rfl dB g2 (i:=7) rfl g1 rfl) ⟨a4,a5,a6,a7,rfl,(aI.arr 8 [2,3,4] g2 rfl)⟩)
  obtain ⟨p5,l3,k⟩:=aC k
  refine cC l3 (fun (s:(Int × Int × List Edge × Int)) f w=>match s with|(c1,c2,J,c4)=>∃ (c5:Option Addr) (c6:Nat),f 0=zP (some ⟨b1,0,none⟩)∧f 2=zP (some ⟨l,0,none⟩)∧f 3=zP (some ⟨n,0,none⟩)∧f 4=zS c5 J.length c6∧f 7=i64 c4∧aI G K (box b1 79 [zS a2 j.length c3,i64 c1,Value.int .u64 c2]::aR 51 K c5 c6 J::box n 27 (zC a.1 c d e g)::aR 9 K c d a.1.L::aR 51 K e g a.1.E::box l 27 o::L) w) ?_ ?_
  ·exact ⟨b7,b8,g0,j0,j1,j2,rfl,j7⟩
  ·rintro ⟨c1,c2,J,c4⟩ l4 f p6 q l5 ⟨c5,c6,e2,g3,d4,g4,g5,g6⟩
   replace q:mY j a c1 c2 J c4=some l4:=q
   unfold mY at q
   refine aO (aK (aN g5 (aD (sL rfl rfl) (aG ?_))))
   rcases aH q with ⟨e3,q⟩|⟨e3,q⟩
   ·refine aM e3 rfl (aY (aA (aO (cI ?_))))
    obtain ⟨e4,d5,g7,g8,l6⟩:=aI.lendB (i:=2) g6 rfl
    refine dQ (C:=fun w'=>∃ L',aI G e4 L' w') [(0,0),(1,0),(2,0),(3,0),(5,0),(6,0),(7,0),(4,1),(8,1),(9,0),(10,1),(11,1),(12,0)] bP (by kernel_rfl) (fun _ hg=>⟨_,aI.mono g8 hg⟩) (fun p7 l7=>?_)
    have c7:=aI.mono g8 l7
    refine bJ rfl (fun _ _=>aW g4) (bJ rfl (fun _ _=>aW e2) (bJ rfl (fun _ _=>bL (t':=0) dP d4 rfl) (bJ rfl (fun _ ⟨_,c7⟩=>bG (t:=0) bY c7 g7 rfl rfl) (bJ rfl (fun _ _=>aW e2) (bJ rfl (fun _ _=>bL (t':=0) dP d4 rfl) (bJ rfl (fun _ ⟨_,c7⟩=>bG (t:=0) bY c7 g7 rfl rfl) (gZ rfl ?_)))))))
    obtain ⟨a8,l8,q⟩:=aC q
    refine aQ (vs:=[zP (some ⟨b1,0,none⟩),i64 a.1.N]) Tryz.call15 rfl (cB c7 (h4.mono d5) l8) ?_
    rintro _ p8 ⟨rfl,g9⟩
    refine bM (aA ⟨⟨_,g9⟩,?_⟩)
    refine gZ rfl ?_
    obtain ⟨u,l9,q⟩:=aC q
    refine aQ (vs:=[zP (some ⟨b1,0,none⟩),i64 a.1.N]) Tryz.call15 rfl (cB g9 (h4.mono d5) l9) ?_
    rintro _ p9 ⟨rfl,h0⟩
    refine bM (aA ⟨⟨_,h0⟩,?_⟩)
    refine bJ rfl (fun _ _=>nH (vs:=[(0,i64 a8.1),(2,i64 u.1)]) (cs:=[i64 a8.1,i64 0,i64 u.1]) aEd rfl (by kernel_rfl)) (gZ rfl (cJ (Kt:=K) (xs:=([⟨a8.1,0,u.1⟩]:List Edge)) (cs:=[i64 a8.1,i64 0,i64 u.1]) (vs:=[(0,zA #[i64 a8.1,i64 0,i64 u.1])]) cN jD rfl rfl h0 rfl (by kernel_rfl) rfl rfl rfl ⟨rfl,trivial⟩ (fun m0 m1 (h1:aI G e4 (aR 51 K m0 1 ([⟨a8.1,0,u.1⟩]:List Edge)::box b1 79 [zS a2 j.length c3,i64 u.2.1,Value.int .u64 u.2.2]::aR 51 K c5 c6 J::aR 9 K c d a.1.L::aR 51 K e g a.1.E::box l 27 o::L) m1)=>(bM (aA ⟨⟨_,h1⟩,?_⟩)))))
    refine gZ rfl ?_
    obtain ⟨e5,m2,q⟩:=aC q
    refine eK (i:=1) cN Tryz.underlying25 jD rfl rfl h1 rfl d5 d5 m2 rfl rfl rfl rfl (fun _ h=>h) (fun e6 e7 m3 (h2:aI G e4 (box b1 79 [zS a2 j.length c3,i64 u.2.1,Value.int .u64 u.2.2]::aR 51 K e6 e7 e5::aR 9 K c d a.1.L::aR 51 K e g a.1.E::box l 27 o::L) m3)=>(bM (aA ⟨⟨_,h2⟩,?_⟩)))
    refine bJ rfl (fun _ _=>gB (v:=zS e6 e5.length e7) rfl) (gR ?_)
    have m4:=l6 _ _ h2
    exact bA (aA (aP (aN g5 (aD (nI rfl rfl) (aF (v:=i64 (wr (c4 - 1))) (aG ⟨(u.2.1,u.2.2,e5,wr (c4 - 1)),(zI q).symm,e6,e7,e2,g3,d4,rfl,rfl,(aI.arr 3 [1,2,0] m4 rfl)⟩))))))
   ·refine aJ e3 rfl (cA (aV (aV ?_)))
    have m5:=l5 _ (zI q).symm
    subst m5
    have k:(tC a J c1 c2)=some R:=k
    exact bN (aA ⟨J,c1,c2,c5,c6,k,g3,d4,g4,(aI.arr 2 [1,0] g6 rfl)⟩)
 obtain ⟨q0,m6,k⟩:=aC k
 refine cC m6 (fun (s:(Int × Int × List Edge × Int)) f w=>match s with|(V,Z,r,a0)=>∃ (x:Option Addr) (y:Nat),f 0=zP (some ⟨b1,0,none⟩)∧f 2=zP (some ⟨l,0,none⟩)∧f 3=zP (some ⟨n,0,none⟩)∧f 4=zS x r.length y∧f 5=i64 a0∧aI G K (aR 51 K x y r::box n 27 (zC a.1 c d e g)::aR 9 K c d a.1.L::aR 51 K e g a.1.E::box b1 79 [zS a2 j.length c3,i64 V,Value.int .u64 Z]::box l 27 o::L) w) ?_ ?_
 ·exact ⟨e0,0,rfl,rfl,rfl,rfl,rfl,i8⟩
 ·rintro ⟨V,Z,r,a0⟩ h3 f q1 m m7 ⟨x,y,d6,e8,c8,e9,d7,a9⟩
  replace m:mZ j a V Z r a0=some h3:=m
  unfold mZ at m
  refine aO (aK (aN d7 (aD (bL (t':=3) dY c8 rfl) (aD (dG jR a9 (i:=1) rfl rfl rfl) (aD (bT (len:=a.1.E.length) cN rfl) (aD (cT rfl rfl) (aG ?_)))))))
  rcases aH m with ⟨f0,m⟩|⟨f0,m⟩
  ·refine aM f0 rfl (aY (aA (aO (cI (aK (aD (bL (t':=3) dY c8 rfl) (aD (dG jR a9 (i:=1) rfl rfl rfl) (aN d7 ?_))))))))
   obtain ⟨b,f1,m⟩:=aC m
   have m8:=dZ a9 (i:=3) rfl f1
   refine aD (eM cN rfl m8 rfl rfl rfl f1) (aD (wZ (t:=0) (vs:=[i64 b.F,i64 b.B,i64 b.To]) kW a9 (i:=3) rfl f1 rfl rfl rfl rfl) (cQ (vs:=[i64 0,i64 0,i64 0]) Tryz.zeroValue51 a9 rfl (fun a1 q2 m9=>(cZ (i:=0) (ns:=[i64 b.F,i64 b.B,i64 b.To]) (us:=[i64 b.F,i64 b.B,i64 b.To]) Tryz.sizeOf51 m9 rfl rfl rfl rfl rfl (fO rfl) rfl rfl (fun h5 (n0:aI G K (box a1 51 [i64 b.F,i64 b.B,i64 b.To]::aR 51 K x y r::box n 27 (zC a.1 c d e g)::aR 9 K c d a.1.L::aR 51 K e g a.1.E::box b1 79 [zS a2 j.length c3,i64 V,Value.int .u64 Z]::box l 27 o::L) h5)=>(aG (lV (fun f w=>∃ (b0:Int) (b2:Int) (z:Int),pM r a0 b b0 b2 z=some h3∧f 0=zP (some ⟨b1,0,none⟩)∧f 2=zP (some ⟨l,0,none⟩)∧f 3=zP (some ⟨n,0,none⟩)∧f 4=zS x r.length y∧f 5=i64 a0∧f 6=zP (some ⟨a1,0,none⟩)∧aI G K (box a1 51 [i64 b.F,i64 z,i64 b.To]::aR 51 K x y r::box n 27 (zC a.1 c d e g)::aR 9 K c d a.1.L::aR 51 K e g a.1.E::box b1 79 [zS a2 j.length c3,i64 b0,Value.int .u64 b2]::box l 27 o::L) w) ?_ ?_)))))))
   ·rintro f q3 ⟨b0,b2,z,m,n1,n2,n3,n4,n5,n6,h6⟩
    unfold pM at m
    refine aP (aN n4 (aD (cS (us:=[i64 b.F,i64 z,i64 b.To]) kW h6 (i:=0) rfl n6 rfl rfl) (cJ (Kt:=K) (xs:=([⟨b.F,z,b.To⟩]:List Edge)) (cs:=[i64 b.F,i64 z,i64 b.To]) (vs:=[(0,zA #[i64 b.F,i64 z,i64 b.To])]) cN jD rfl rfl h6 rfl (by kernel_rfl) rfl rfl rfl ⟨rfl,trivial⟩ (fun n7 n8 (n9:aI G K (aR 51 K n7 1 ([⟨b.F,z,b.To⟩]:List Edge)::box a1 51 [i64 b.F,i64 z,i64 b.To]::aR 51 K x y r::box n 27 (zC a.1 c d e g)::aR 9 K c d a.1.L::aR 51 K e g a.1.E::box b1 79 [zS a2 j.length c3,i64 b0,Value.int .u64 b2]::box l 27 o::L) n8)=>?_))))
    obtain ⟨f2,o0,m⟩:=aC m
    exact eK (i:=1) cN Tryz.underlying25 jD rfl rfl n9 rfl (zR _) (zR _) o0 rfl rfl rfl rfl (fun _ h=>h) (fun f3 f4 o1 (o2:aI G K (box a1 51 [i64 b.F,i64 z,i64 b.To]::aR 51 K f3 f4 f2::box n 27 (zC a.1 c d e g)::aR 9 K c d a.1.L::aR 51 K e g a.1.E::box b1 79 [zS a2 j.length c3,i64 b0,Value.int .u64 b2]::box l 27 o::L) o1)=>(aF (v:=zS f3 f2.length f4) (bM (bA (aA (aP (aN n5 (aD (cK rfl rfl) (aF (v:=i64 (wr (a0+1))) (aG ⟨(b0,b2,f2,wr (a0+1)),(zI m).symm,f3,f4,n1,n2,n3,rfl,rfl,(aI.arr 1 [] o2 rfl)⟩))))))))))
   refine aK (aN d6 ?_)
   have o3:aI G K (box b1 79 [zS a2 j.length c3,i64 V,Value.int .u64 Z]::box a1 51 [i64 b.F,i64 b.B,i64 b.To]::aR 51 K x y r::box n 27 (zC a.1 c d e g)::aR 9 K c d a.1.L::aR 51 K e g a.1.E::box l 27 o::L) h5:=(aI.arr 6 [5,0,1,2,3,4] n0 rfl)
   obtain ⟨b3,o4,m⟩:=aC m
   refine aQ (vs:=[zP (some ⟨b1,0,none⟩),i64 3]) Tryz.call18 rfl (jC o3 h4 o4) ?_
   rintro _ q4 ⟨rfl,h7⟩
   refine aG ?_
   rcases aH m with ⟨f5,m⟩|⟨f5,m⟩
   ·exact aM f5 rfl (aP (aD (bL (t':=1) iZ rfl rfl) (cZ (i:=1) (ns:=[i64 0]) (us:=[i64 b.F,i64 0,i64 b.To]) Tryz.sizeOf2 h7 rfl rfl rfl rfl rfl (fO rfl) rfl rfl (fun o5 (o6:aI G K (box b1 79 [zS a2 j.length c3,i64 b3.2.1,Value.int .u64 b3.2.2]::box a1 51 [i64 b.F,i64 0,i64 b.To]::aR 51 K x y r::box n 27 (zC a.1 c d e g)::aR 9 K c d a.1.L::aR 51 K e g a.1.E::box l 27 o::L) o5)=>(aG ⟨b3.2.1,b3.2.2,0,m,d6,e8,c8,e9,d7,rfl,(aI.arr 6 [1,2,3,4,5,0] o6 rfl)⟩)))))
   ·exact aJ f5 rfl (aY (aA ⟨b3.2.1,b3.2.2,b.B,m,d6,e8,c8,e9,d7,rfl,(aI.arr 6 [1,2,3,4,5,0] h7 rfl)⟩))
  ·refine aJ f0 rfl (cA (aV (aV ?_)))
   have o7:=m7 _ (zI m).symm
   subst o7
   have k:(tD j a V Z r)=some R:=k
   exact bN (aA ⟨V,Z,r,x,y,k,d6,e8,c8,e9,a9⟩)
theorem aEy {m:(List UInt8)} {g3 g4:Int} {t:cD} {k:Nat} {R:(cD × Int × Int)} (hs:aI G K (box b1 79 [zS a2 m.length c3,i64 g3,Value.int .u64 g4]::L) w) (h4:bX K a2 c3 m) (b:fP K a5 k (zC t a8 c9 a11 c12)) (i5:bX K a8 c9 t.L) (m1:bX K a11 c12 t.E) (n:uX m g3 g4 t=some R):
  Calls Tryz.prog 16 ([zP (some ⟨b1,0,none⟩),cP a5 k]:List Value).toArray w (gQ fun v w'=>∃ (i6:Option Addr) (i7:Nat) (i8:Option Addr) (i9:Nat),v=zA (zCa R.1 i6 i7 i8 i9)∧aI G K (aR 9 K i6 i7 R.1.L::aR 51 K i8 i9 R.1.E::box b1 79 [zS a2 m.length c3,i64 R.2.1,Value.int .u64 R.2.2]::L) w'):=by
 let p:=zG
 refine aS Tryz.func16 rfl (by kernel_rfl) (by show (2:Nat)≤115;decide) ?_
 unfold uX at n
 refine aK (cQ (vs:=p) Tryz.zeroValue27 hs rfl (fun l m2 j0=>(aG (aK (aL (v:=zP (some ⟨b1,0,none⟩)) (aL (v:=cP a5 k) (aD (cX rfl b) (aD (cG (k':=k+0) dP rfl b rfl) (aD (bG (t:=0) bY j0 b rfl rfl) ?_)))))))))
 have m3:aI G K (box b1 79 [zS a2 m.length c3,i64 g3,Value.int .u64 g4]::box l 27 p::L) m2:=(aI.arr 2 [1,0] j0 rfl)
 obtain ⟨q,m4,n⟩:=aC n
 refine aQ (vs:=[zP (some ⟨b1,0,none⟩),i64 t.N]) Tryz.call15 rfl (cB m3 h4 m4) ?_
 rintro _ t9 ⟨rfl,g6⟩
 refine aF (v:=i64 q.1) (aG (aK (aF (v:=i64 0) (aG (lV (fun f w=>∃ (e2:Int) (e3:Int) (e:Int),kU m t q e2 e3 e=some R∧f 0=zP (some ⟨b1,0,none⟩)∧f 1=cP a5 k∧f 4=zP (some ⟨l,0,none⟩)∧f 5=i64 q.1∧f 6=i64 e∧aI G K (box b1 79 [zS a2 m.length c3,i64 e2,Value.int .u64 e3]::box l 27 p::L) w) ?_ ?_)))))
 ·rintro f u0 ⟨e2,e3,e,n,m5,j1,m6,m7,j2,j3⟩
  unfold kU at n
  refine aK (aN j1 (aD (cX rfl b) (aD (cG (k':=k+0) dP rfl b rfl) (aD (bG (t:=0) bY j3 b rfl rfl) (aN j2 (aD (cK rfl rfl) (aF (v:=i64 (wr (t.N+e))) (aG (aK (cJ (Kt:=K) (xs:=([]:List Edge)) (cs:=[]) (vs:=[]) cN jD rfl rfl j3 rfl (by kernel_rfl) rfl rfl rfl trivial (fun g7 m8 (m9:aI G K (aR 51 K g7 0 ([]:List Edge)::box b1 79 [zS a2 m.length c3,i64 e2,Value.int .u64 e3]::box l 27 p::L) m8)=>(aF (v:=zS g7 ([]:List Edge).length 0) (aG (aO (aK (aF (v:=i64 0) (aG (aZ (fun f w=>∃ (b4:List Edge) (e4:Int) (e5:Int) (c4:Option Addr) (c5:Nat),pN t e b4 e4 e5=some R∧f 1=cP a5 k∧f 4=zP (some ⟨l,0,none⟩)∧f 7=i64 (wr (t.N+e))∧f 8=zS c4 b4.length c5∧aI G K (aR 51 K c4 c5 b4::box b1 79 [zS a2 m.length c3,i64 e4,Value.int .u64 e5]::box l 27 p::L) w) ?_ ?_))))))))))))))))))
  ·rintro f u1 ⟨b4,e4,e5,c4,c5,n,j4,j5,n0,n1,j6⟩
   unfold pN at n
   refine aA (aO (dQ (C:=fun w'=>∃ L',aI G K L' w') [(0,0),(1,0),(2,0),(3,0),(4,0),(5,0),(6,0),(7,0),(8,0),(9,0),(10,1),(11,2)] bP (by kernel_rfl) (fun _ hg=>⟨_,aI.mono j6 hg⟩) (fun u2 n2=>?_)))
   have c6:=aI.mono j6 n2
   refine bJ rfl (fun _ _=>aW n0) (bJ rfl (fun _ _=>aW j4) (bJ rfl (fun _ _=>cX rfl b) (bJ rfl (fun _ _=>cG (k':=k+1) oV rfl b rfl) (bJ rfl (fun _ ⟨_,c6⟩=>bG (t:=1) bY c6 b rfl rfl) (bJ rfl (fun _ _=>aW j4) (bJ rfl (fun _ _=>cX rfl b) (bJ rfl (fun _ _=>cG (k':=k+2) gV rfl b rfl) (bJ rfl (fun _ ⟨_,c6⟩=>bG (t:=2) oC c6 b rfl rfl) (bJ rfl (fun _ _=>aW n1) (gZ rfl ?_))))))))))
   obtain ⟨u3,n3,n4,n5,n6⟩:=aI.lendS (i:=0) c6 (zR _) rfl
   obtain ⟨o,n7,n⟩:=aC n
   refine aQ (vs:=[i64 (wr (t.N+e)),i64 t.I,zS a8 t.L.length c9,zS c4 b4.length c5]) Tryz.call20 rfl (nC n5 (i5.mono n3) n4 n7) ?_
   rintro _ u4 ⟨b5,b6,b7,b8,rfl,n8⟩
   have j7:=n6 _ _ n8
   refine bM (aA ⟨⟨_,j7⟩,?_⟩)
   refine aGr rfl (cZ (i:=4) (ns:=(zC o b5 b6 b7 b8)) (us:=(zC o b5 b6 b7 b8)) Tryz.sizeOf27 j7 rfl j5 rfl rfl rfl (fO rfl) rfl rfl (fun n9 (j8:aI G K (aR 51 K c4 c5 b4::aR 9 K b5 b6 o.L::aR 51 K b7 b8 o.E::box b1 79 [zS a2 m.length c3,i64 e4,Value.int .u64 e5]::box l 27 (zC o b5 b6 b7 b8)::L) n9)=>(aG (gR (aA ?_)))))
   obtain rfl:=zI n
   exact bK (vF Tryz.results16 (oB (vs:=(zC o b5 b6 b7 b8)) rfl dB j8 (i:=4) rfl j5 rfl) ⟨b5,b6,b7,b8,rfl,(aI.arr 5 [1,2,3] j8 rfl)⟩)
  obtain ⟨u5,o1,n⟩:=aC n
  refine cC o1 (fun (s:(Int × Int × List Edge × Int)) f w=>match s with|(a7,a9,a0,j)=>∃ (b0:Option Addr) (b2:Nat),f 0=zP (some ⟨b1,0,none⟩)∧f 1=cP a5 k∧f 4=zP (some ⟨l,0,none⟩)∧f 5=i64 q.1∧f 6=i64 e∧f 7=i64 (wr (t.N+e))∧f 8=zS b0 a0.length b2∧f 9=i64 j∧aI G K (aR 51 K b0 b2 a0::box b1 79 [zS a2 m.length c3,i64 a7,Value.int .u64 a9]::box l 27 p::L) w) ?_ ?_
  ·exact ⟨g7,0,m5,j1,m6,m7,j2,rfl,rfl,rfl,m9⟩
  ·rintro ⟨a7,a9,a0,j⟩ c7 f u6 c o2 ⟨b0,b2,j9,c8,g8,g9,k0,e6,h0,b9,d0⟩
   replace c:iM m t q e a7 a9 a0 j=some c7:=c
   unfold iM at c
   refine aO (aK (aN b9 (aN e6 (aD (cT rfl rfl) (aG ?_)))))
   rcases aH c with ⟨h1,c⟩|⟨h1,c⟩
   ·refine aM h1 rfl (aY (aA (aO (aZ (fun f w=>∃ (e7:Int) (e8:Int) (d1:List Edge) (e9:Option Addr) (f0:Nat),tW j e7 e8 d1=some c7∧f 0=zP (some ⟨b1,0,none⟩)∧f 1=cP a5 k∧f 4=zP (some ⟨l,0,none⟩)∧f 5=i64 q.1∧f 6=i64 e∧f 7=i64 (wr (t.N+e))∧f 8=zS e9 d1.length f0∧f 9=i64 j∧aI G K (aR 51 K e9 f0 d1::box b1 79 [zS a2 m.length c3,i64 e7,Value.int .u64 e8]::box l 27 p::L) w) ?_ ?_))))
    ·rintro f u7 ⟨e7,e8,d1,e9,f0,c,o3,o4,o5,o6,o7,o8,o9,p0,p1⟩
     unfold tW at c
     exact aA (aP (aN p0 (aD (cK rfl rfl) (aF (v:=i64 (wr (j+1))) (aG ⟨(e7,e8,d1,wr (j+1)),(zI c).symm,e9,f0,o3,o4,o5,o6,o7,o8,o9,rfl,p1⟩)))))
    refine aK (aN b9 (aF (v:=i64 j) (aG (lV (fun f w=>∃ (f1:Int),mO m t q e a7 a9 a0 j f1=some c7∧f 0=zP (some ⟨b1,0,none⟩)∧f 1=cP a5 k∧f 4=zP (some ⟨l,0,none⟩)∧f 5=i64 q.1∧f 6=i64 e∧f 7=i64 (wr (t.N+e))∧f 8=zS b0 a0.length b2∧f 9=i64 j∧f 10=i64 f1∧aI G K (aR 51 K b0 b2 a0::box b1 79 [zS a2 m.length c3,i64 a7,Value.int .u64 a9]::box l 27 p::L) w) ?_ ?_))))
    ·rintro f u8 ⟨f1,c,p2,k1,p3,p4,p5,p6,p7,p8,p9,q0⟩
     unfold mO at c
     refine aK (aN k1 (aN p9 ?_))
     obtain ⟨x,q1,c⟩:=aC c
     refine aQ (vs:=[cP a5 k,i64 f1]) Tryz.call40 rfl (aIn q0 b i5 m1 q1) ?_
     rintro _ u9 ⟨z,J,rfl,q2⟩
     refine aF (v:=zS z x.length J) (aG (aK (aF (v:=i64 0) (aG (aZ (fun f w=>∃ (f2:Int) (f3:Int) (d2:List Edge) (f4:Option Addr) (f5:Nat),pO j f2 f3 d2=some c7∧f 0=zP (some ⟨b1,0,none⟩)∧f 1=cP a5 k∧f 4=zP (some ⟨l,0,none⟩)∧f 5=i64 q.1∧f 6=i64 e∧f 7=i64 (wr (t.N+e))∧f 8=zS f4 d2.length f5∧f 9=i64 j∧aI G K (aR 51 K f4 f5 d2::box b1 79 [zS a2 m.length c3,i64 f2,Value.int .u64 f3]::box l 27 p::L) w) ?_ ?_)))))
     ·rintro f v0 ⟨f2,f3,d2,f4,f5,c,q3,q4,q5,q6,q7,q8,q9,r0,r1⟩
      unfold pO at c
      exact bA (aA ⟨f2,f3,d2,f4,f5,c,q3,q4,q5,q6,q7,q8,q9,r0,r1⟩)
     obtain ⟨v1,r2,c⟩:=aC c
     refine cC r2 (fun (s:(Int × Int × List Edge × Int)) f w=>match s with|(a4,a6,r,y)=>∃ (V:Option Addr) (Z:Nat),f 0=zP (some ⟨b1,0,none⟩)∧f 1=cP a5 k∧f 4=zP (some ⟨l,0,none⟩)∧f 5=i64 q.1∧f 6=i64 e∧f 7=i64 (wr (t.N+e))∧f 8=zS V r.length Z∧f 9=i64 j∧f 11=zS z x.length J∧f 12=i64 y∧aI G K (aR 51 K z J x::aR 51 K V Z r::box b1 79 [zS a2 m.length c3,i64 a4,Value.int .u64 a6]::box l 27 p::L) w) ?_ ?_
     ·exact ⟨b0,b2,p2,k1,p3,p4,p5,p6,p7,p8,rfl,rfl,q2⟩
     ·rintro ⟨a4,a6,r,y⟩ h2 f v2 a r3 ⟨V,Z,d3,c0,f6,d4,d5,f7,f8,f9,d6,d7,d8⟩
      replace a:iL m t q e j x a4 a6 r y=some h2:=a
      unfold iL at a
      refine aO (aK (aN d7 (aN d6 (aD (bT (len:=x.length) cN rfl) (aD (cT rfl rfl) (aG ?_))))))
      rcases aH a with ⟨h3,a⟩|⟨h3,a⟩
      ·refine aM h3 rfl (aY (aA (aO (cI (aK (aN d6 (aN d7 ?_)))))))
       obtain ⟨u,d9,a⟩:=aC a
       have g0:=dZ d8 (i:=0) rfl d9
       refine aD (eM cN rfl g0 rfl rfl rfl d9) (aD (R_fldA (k':=y.toNat * 3+2) iC g0 rfl rfl) (aD (lB (t:=2) bY d8 (i:=0) rfl d9 rfl rfl rfl) (aF (v:=i64 u.To) (aG (lV (fun f w=>∃ (c1:Int) (c2:Int) (a1:Int),mM j r y u c1 c2 a1=some h2∧f 0=zP (some ⟨b1,0,none⟩)∧f 1=cP a5 k∧f 4=zP (some ⟨l,0,none⟩)∧f 5=i64 q.1∧f 6=i64 e∧f 7=i64 (wr (t.N+e))∧f 8=zS V r.length Z∧f 9=i64 j∧f 11=zS z x.length J∧f 12=i64 y∧f 13=i64 a1∧aI G K (aR 51 K z J x::aR 51 K V Z r::box b1 79 [zS a2 m.length c3,i64 c1,Value.int .u64 c2]::box l 27 p::L) w) ?_ ?_)))))
       ·rintro f v3 ⟨c1,c2,a1,a,r4,r5,r6,r7,r8,r9,s0,k2,k3,k4,s1,k5⟩
        unfold mM at a
        refine aP (aN s0 (aN k2 (aN k3 (aN k4 (aD (eM cN rfl g0 rfl rfl rfl d9) (aD (R_fldA (k':=y.toNat * 3+1) iZ g0 rfl rfl) (aD (lB (t:=1) bY k5 (i:=0) rfl d9 rfl rfl rfl) (aN s1 (aD (nH (vs:=[(0,i64 j),(1,i64 u.B),(2,i64 a1)]) (cs:=[i64 j,i64 u.B,i64 a1]) aEd rfl (by kernel_rfl)) (cJ (Kt:=K) (xs:=([⟨j,u.B,a1⟩]:List Edge)) (cs:=[i64 j,i64 u.B,i64 a1]) (vs:=[(0,zA #[i64 j,i64 u.B,i64 a1])]) cN jD rfl rfl k5 rfl (by kernel_rfl) rfl rfl rfl ⟨rfl,trivial⟩ (fun s2 s3 (s4:aI G K (aR 51 K s2 1 ([⟨j,u.B,a1⟩]:List Edge)::aR 51 K z J x::aR 51 K V Z r::box b1 79 [zS a2 m.length c3,i64 c1,Value.int .u64 c2]::box l 27 p::L) s3)=>?_)))))))))))
        obtain ⟨h5,s5,a⟩:=aC a
        exact eK (i:=1) cN Tryz.underlying25 jD rfl rfl s4 rfl (zR _) (zR _) s5 rfl rfl rfl rfl (fun _ h=>h) (fun h6 h8 s6 (s7:aI G K (aR 51 K z J x::aR 51 K h6 h8 h5::box b1 79 [zS a2 m.length c3,i64 c1,Value.int .u64 c2]::box l 27 p::L) s6)=>(aF (v:=zS h6 h5.length h8) (bM (bA (aA (aP (aN k4 (aD (cK rfl rfl) (aF (v:=i64 (wr (y+1))) (aG ⟨(c1,c2,h5,wr (y+1)),(zI a).symm,h6,h8,r4,r5,r6,r7,r8,r9,rfl,k2,k3,rfl,s7⟩))))))))))
       refine aO (dO (fun f w=>∃ (e0:Int) (e1:Int) (h9:Bool),kT t j r y u e0 e1 h9=some h2∧f 0=zP (some ⟨b1,0,none⟩)∧f 1=cP a5 k∧f 4=zP (some ⟨l,0,none⟩)∧f 5=i64 q.1∧f 6=i64 e∧f 7=i64 (wr (t.N+e))∧f 8=zS V r.length Z∧f 9=i64 j∧f 11=zS z x.length J∧f 12=i64 y∧f 13=i64 u.To∧f 88=zB h9∧aI G K (aR 51 K z J x::aR 51 K V Z r::box b1 79 [zS a2 m.length c3,i64 e0,Value.int .u64 e1]::box l 27 p::L) w) ?_ ?_)
       ·rintro f v4 ⟨e0,e1,h9,a,k7,i0,k8,k9,l0,l1,l2,l3,l4,l5,s8,l6,i1⟩
        unfold kT at a
        refine aA ?_
        rcases aH a with ⟨i2,a⟩|⟨i2,a⟩
        ·exact aM i2 l6 (aP (aN i0 (aD (cX rfl b) (aD (cG (k':=k+0) dP rfl b rfl) (aD (bG (t:=0) bY i1 b rfl rfl) (aF (v:=i64 t.N) (aG ⟨e0,e1,t.N,a,k7,i0,k8,k9,l0,l1,l2,l3,l4,l5,rfl,i1⟩)))))))
        ·exact aJ i2 l6 (aY (aA ⟨e0,e1,u.To,a,k7,i0,k8,k9,l0,l1,l2,l3,l4,l5,s8,i1⟩))
       refine dQ (C:=fun w'=>∃ L',aI G K L' w') [(0,0),(1,0),(2,0),(3,0),(4,0),(5,0),(6,0),(7,0),(8,0),(9,0),(10,0),(11,0),(12,0),(13,0),(14,0),(15,0),(16,0),(17,0),(18,0),(19,1),(20,0)] bP (by kernel_rfl) (fun _ hg=>⟨_,aI.mono d8 hg⟩) (fun s9 t0=>?_)
       have a3:=aI.mono d8 t0
       refine bJ rfl (fun _ _=>aW d5) (bJ rfl (fun _ _=>sL rfl rfl) (bJ rfl (fun _ _=>aW (v:=zB (decide (0 < e))) rfl) ?_))
       rcases aH a with ⟨d,a⟩|⟨d,a⟩
       ·refine mA rfl rfl rfl d (fun _ _=>aW c0) (mA rfl rfl rfl d (fun _ _=>cX rfl b) (mA rfl rfl rfl d (fun _ _=>cG (k':=k+0) dP rfl b rfl) (mA rfl rfl rfl d (fun _ ⟨_,a3⟩=>bG (t:=0) bY a3 b rfl rfl) (mA rfl rfl rfl d (fun _ _=>aW d4) (mA rfl rfl rfl d (fun _ _=>cK rfl rfl) (mA rfl rfl rfl d (fun _ _=>aW c0) (mA rfl rfl rfl d (fun _ _=>cX rfl b) (mA rfl rfl rfl d (fun _ _=>cG (k':=k+0) dP rfl b rfl) (mA rfl rfl rfl d (fun _ ⟨_,a3⟩=>bG (t:=0) bY a3 b rfl rfl) ?_)))))))))
        obtain ⟨l7,t1,a⟩:=aC a
        refine mA rfl rfl rfl d (fun _ _=>R_rem rfl rfl t1) (mA rfl rfl rfl d (fun _ _=>aW (v:=i64 u.To) rfl) (mA rfl rfl rfl d (fun _ _=>lA rfl rfl) (bJ rfl (fun _ _=>bF (v:=zB (l7 == u.To)) d rfl rfl) (bJ rfl (fun _ _=>aW (v:=zB (l7 == u.To)) rfl) ?_))))
        rcases aH a with ⟨b3,a⟩|⟨b3,a⟩
        ·refine mA rfl rfl rfl b3 (fun _ _=>aW d3) (gZ rfl (bB b3 rfl rfl ?_))
         have t2:aI G K (box b1 79 [zS a2 m.length c3,i64 a4,Value.int .u64 a6]::aR 51 K z J x::aR 51 K V Z r::box l 27 p::L) s9:=(aI.arr 3 [2,0,1] a3 rfl)
         obtain ⟨g1,t3,a⟩:=aC a
         refine aQ (vs:=[zP (some ⟨b1,0,none⟩),i64 2]) Tryz.call18 rfl (jC t2 h4 t3) ?_
         rintro _ v5 ⟨rfl,l8⟩
         refine bM (aA ⟨⟨_,l8⟩,?_⟩)
         exact bJ rfl (fun _ _=>bF (v:=zB g1.1) b3 rfl rfl) (gR (aA ⟨g1.2.1,g1.2.2,g1.1,a,d3,c0,f6,d4,d5,f7,f8,f9,d6,d7,rfl,rfl,(aI.arr 3 [1,2,0] l8 rfl)⟩))
        ·refine iR rfl rfl rfl (dC b3) (gZ rfl (aU (g:=85) b3 (by exact rfl) rfl (bM (aA ⟨⟨_,a3⟩,?_⟩))))
         exact bJ rfl (fun _ _=>bH (v:=zB false) b3 rfl rfl) (gR (aA ⟨a4,a6,false,a,d3,c0,f6,d4,d5,f7,f8,f9,d6,d7,rfl,rfl,a3⟩))
       ·refine iR rfl rfl rfl (dC d) (iR rfl rfl rfl (dC d) (iR rfl rfl rfl (dC d) (iR rfl rfl rfl (dC d) (iR rfl rfl rfl (dC d) (iR rfl rfl rfl (dC d) (iR rfl rfl rfl (dC d) (iR rfl rfl rfl (dC d) (iR rfl rfl rfl (dC d) (iR rfl rfl rfl (dC d) (iR rfl rfl rfl (dC d) (iR rfl rfl rfl (dC d) (iR rfl rfl rfl (dC d) (bJ rfl (fun _ _=>bH (v:=zB false) d rfl rfl) (bJ rfl (fun _ _=>aW (v:=zB false) rfl) (iR rfl rfl rfl (dC (by decide:¬ false=true)) (gZ rfl (aU (g:=85) (by decide:¬ false=true) (by exact rfl) rfl (bM (aA ⟨⟨_,a3⟩,?_⟩)))))))))))))))))))
        exact bJ rfl (fun _ _=>bH (v:=zB false) (by decide:¬ false=true) rfl rfl) (gR (aA ⟨a4,a6,false,a,d3,c0,f6,d4,d5,f7,f8,f9,d6,d7,rfl,rfl,a3⟩))
      ·refine aJ h3 rfl (cA (aV (aV ?_)))
       have t4:=r3 _ (zI a).symm
       subst t4
       have c:(pO j a4 a6 r)=some c7:=c
       exact bN (aA ⟨a4,a6,r,V,Z,c,d3,c0,f6,d4,d5,f7,f8,f9,(aI.arr 1 [] d8 rfl)⟩)
    refine aK (aN b9 (aN c8 (aD (cX rfl b) (aD (cG (k':=k+0) dP rfl b rfl) (aD (bG (t:=0) bY d0 b rfl rfl) (aD (uJ rfl rfl) (aG ?_)))))))
    rcases aH c with ⟨i3,c⟩|⟨i3,c⟩
    ·refine aM i3 rfl (aP (aN b9 (aN g9 (aD (cK rfl rfl) (aN c8 (aD (cX rfl b) (aD (cG (k':=k+0) dP rfl b rfl) (aD (bG (t:=0) bY d0 b rfl rfl) ?_))))))))
     obtain ⟨l9,t5,c⟩:=aC c
     exact aD (R_rem rfl rfl t5) (aF (v:=i64 l9) (aG ⟨l9,c,j9,c8,g8,g9,k0,e6,h0,b9,rfl,d0⟩))
    ·exact aJ i3 rfl (aY (aA ⟨j,c,j9,c8,g8,g9,k0,e6,h0,b9,rfl,d0⟩))
   ·refine aJ h1 rfl (cA (aV (aV ?_)))
    have t6:=o2 _ (zI c).symm
    subst t6
    have n:(pN t e a0 a7 a9)=some R:=n
    exact bN (aA ⟨a0,a7,a9,b0,b2,n,c8,g8,e6,h0,d0⟩)
 refine aK (aL (v:=cP a5 k) (aD (cX rfl b) (aD (cG (k':=k+0) dP rfl b rfl) (aD (bG (t:=0) bY g6 b rfl rfl) (aD (cT rfl rfl) (aG ?_))))))
 rcases aH n with ⟨i4,n⟩|⟨i4,n⟩
 ·refine aM i4 rfl (aP (aL (v:=zP (some ⟨b1,0,none⟩)) ?_))
  obtain ⟨g2,t7,n⟩:=aC n
  refine aQ (vs:=[zP (some ⟨b1,0,none⟩),i64 3]) Tryz.call15 rfl (cB g6 h4 t7) ?_
  rintro _ v6 ⟨rfl,t8⟩
  exact aF (v:=i64 g2.1) (aG ⟨g2.2.1,g2.2.2,g2.1,n,rfl,rfl,rfl,rfl,rfl,t8⟩)
 ·exact aJ i4 rfl (aY (aA ⟨q.2.1,q.2.2,0,n,rfl,rfl,rfl,rfl,rfl,g6⟩))
theorem aJE {q:(List UInt8)} {R:(cD × cD)} (hs:aI G K (L) w) (h3:bX K a1 c2 q) (c:aFc q=some R):
  Calls Tryz.prog 5 ([zS a1 q.length c2]:List Value).toArray w (gQ fun v w'=>∃ (g1:Option Addr) (g2:Nat) (g3:Option Addr) (g4:Nat) (g5:Option Addr) (g6:Nat) (g7:Option Addr) (g8:Nat),v=Value.tuple #[zA (zCa R.1 g1 g2 g3 g4),zA (zCa R.2 g5 g6 g7 g8)]∧aI G K (aR 9 K g1 g2 R.1.L::aR 51 K g3 g4 R.1.E::aR 9 K g5 g6 R.2.L::aR 51 K g7 g8 R.2.E::L) w'):=by
 let k:=zG
 refine aS Tryz.func5 rfl (by kernel_rfl) (by show (1:Nat)≤62;decide) ?_
 unfold aFc at c
 refine aK (cQ (vs:=k) Tryz.zeroValue27 hs rfl (fun u w5 j3=>(cQ (vs:=k) Tryz.zeroValue27 j3 rfl (fun x w8 j4=>(aG (aK (aL (v:=zS a1 q.length c2) ?_)))))))
 obtain ⟨u8,j5,c⟩:=aC c
 refine aQ (vs:=[zS a1 q.length c2]) Tryz.call13 rfl (aDf j4 h3 j5) ?_
 rintro _ u9 ⟨l,rfl,j6⟩
 refine aF (v:=zP (some ⟨l,0,none⟩)) (aG (aK (aL (v:=zP (some ⟨l,0,none⟩)) ?_)))
 obtain ⟨a,j7,c⟩:=aC c
 refine aQ (vs:=[zP (some ⟨l,0,none⟩)]) Tryz.call14 rfl (aCn j6 h3 j7) ?_
 rintro _ v0 ⟨d,e,g,j,rfl,j8⟩
 refine cQ (vs:=k) Tryz.zeroValue27 j8 rfl (fun z v1 j9=>(cZ (i:=0) (ns:=(zC a.1 d e g j)) (us:=(zC a.1 d e g j)) Tryz.sizeOf27 j9 rfl rfl rfl rfl rfl (fO rfl) rfl rfl (fun g9 (k0:aI G K (box z 27 (zC a.1 d e g j)::aR 9 K d e a.1.L::aR 51 K g j a.1.E::box l 79 [zS a1 q.length c2,i64 a.2.1,Value.int .u64 a.2.2]::box x 27 k::box u 27 k::L) g9)=>(aG (aK (aL (v:=zP (some ⟨l,0,none⟩)) ?_))))))
 have k1:aI G K (box l 79 [zS a1 q.length c2,i64 a.2.1,Value.int .u64 a.2.2]::box z 27 (zC a.1 d e g j)::aR 9 K d e a.1.L::aR 51 K g j a.1.E::box x 27 k::box u 27 k::L) g9:=(aI.arr 4 [3,0,1,2] k0 rfl)
 obtain ⟨b,k2,c⟩:=aC c
 refine aQ (vs:=[zP (some ⟨l,0,none⟩)]) Tryz.call14 rfl (aCn k1 h3 k2) ?_
 rintro _ v2 ⟨m,n,o,p,rfl,k3⟩
 refine cQ (vs:=k) Tryz.zeroValue27 k3 rfl (fun a0 v3 k4=>(cZ (i:=0) (ns:=(zC b.1 m n o p)) (us:=(zC b.1 m n o p)) Tryz.sizeOf27 k4 rfl rfl rfl rfl rfl (fO rfl) rfl rfl (fun h0 (k5:aI G K (box a0 27 (zC b.1 m n o p)::aR 9 K m n b.1.L::aR 51 K o p b.1.E::box l 79 [zS a1 q.length c2,i64 b.2.1,Value.int .u64 b.2.2]::box z 27 (zC a.1 d e g j)::aR 9 K d e a.1.L::aR 51 K g j a.1.E::box x 27 k::box u 27 k::L) h0)=>(aG (aO (aK (aL (v:=zP (some ⟨l,0,none⟩)) ?_)))))))
 have k6:aI G K (box l 79 [zS a1 q.length c2,i64 b.2.1,Value.int .u64 b.2.2]::box a0 27 (zC b.1 m n o p)::aR 9 K m n b.1.L::aR 51 K o p b.1.E::box z 27 (zC a.1 d e g j)::aR 9 K d e a.1.L::aR 51 K g j a.1.E::box x 27 k::box u 27 k::L) h0:=(aI.arr 4 [3,0,1,2] k5 rfl)
 obtain ⟨r,k7,c⟩:=aC c
 refine aQ (vs:=[zP (some ⟨l,0,none⟩),i64 6]) Tryz.call15 rfl (cB k6 h3 k7) ?_
 rintro _ v4 ⟨rfl,h1⟩
 refine aG (aZ (fun f w=>∃ (b1:Int) (b2:Int) (a3:List bI) (a4:List Edge) (a5:Option Addr) (a6:Nat) (a7:Option Addr) (a8:Nat),wA a b1 b2 a3 a4=some R∧f 2=zP (some ⟨u,0,none⟩)∧f 3=zP (some ⟨x,0,none⟩)∧f 5=zP (some ⟨z,0,none⟩)∧f 6=zP (some ⟨a0,0,none⟩)∧aI G K (aR 51 K a7 a8 a4::aR 9 K a5 a6 a3::box a0 27 [i64 b1,i64 b2,zS a5 a3.length a6,zS a7 a4.length a8]::box z 27 (zC a.1 d e g j)::aR 9 K d e a.1.L::aR 51 K g j a.1.E::box x 27 k::box u 27 k::L) w) ?_ ?_)
 ·rintro f v5 ⟨b1,b2,a3,a4,a5,a6,a7,a8,c,h2,h4,k8,k9,l0⟩
  unfold wA at c
  refine aA (aO ?_)
  obtain ⟨v6,v7,l1,l2,l3⟩:=aI.lendB (i:=2) l0 rfl
  obtain ⟨h5,l4,l5,h6,l6⟩:=aI.lendB (i:=2) l2 rfl
  refine dQ (C:=fun w'=>∃ L',aI G h5 L' w') [(0,0),(1,0),(2,1),(3,2)] bP (by kernel_rfl) (fun _ hg=>⟨_,aI.mono h6 hg⟩) (fun v8 l7=>?_)
  have b9:=aI.mono h6 l7
  refine bJ rfl (fun _ ⟨_,b9⟩=>iD (t:=0) (vs:=(zC a.1 d e g j)) dB b9 l5 k8 rfl rfl) (bJ rfl (fun _ ⟨_,b9⟩=>iD (t:=0) (vs:=[i64 b1,i64 b2,zS a5 a3.length a6,zS a7 a4.length a8]) dB b9 (l1.mono l4) k9 rfl rfl) (gZ rfl (cZ (i:=5) (ns:=(zC a.1 d e g j)) (us:=(zC a.1 d e g j)) Tryz.sizeOf27 b9 rfl h2 rfl rfl rfl (fO rfl) rfl rfl (fun l8 (h7:aI G h5 (aR 51 K a7 a8 a4::aR 9 K a5 a6 a3::aR 9 K d e a.1.L::aR 51 K g j a.1.E::box x 27 k::box u 27 (zC a.1 d e g j)::L) l8)=>(bM (aA ⟨⟨_,h7⟩,?_⟩))))))
  have l9:=l6 _ _ h7
  have m0:=l3 _ _ l9
  refine aGr rfl (cZ (i:=6) (ns:=[i64 b1,i64 b2,zS a5 a3.length a6,zS a7 a4.length a8]) (us:=[i64 b1,i64 b2,zS a5 a3.length a6,zS a7 a4.length a8]) Tryz.sizeOf27 m0 rfl h4 rfl rfl rfl (fO rfl) rfl rfl (fun m1 (f0:aI G K (box a0 27 [i64 b1,i64 b2,zS a5 a3.length a6,zS a7 a4.length a8]::box z 27 (zC a.1 d e g j)::aR 51 K a7 a8 a4::aR 9 K a5 a6 a3::aR 9 K d e a.1.L::aR 51 K g j a.1.E::box x 27 [i64 b1,i64 b2,zS a5 a3.length a6,zS a7 a4.length a8]::box u 27 (zC a.1 d e g j)::L) m1)=>(aG (gR (aA ?_)))))
  obtain rfl:=zI c
  exact bK (retQ_m2 Tryz.results5 (oB (vs:=(zC a.1 d e g j)) rfl dB f0 (i:=7) rfl h2 rfl) (oB (vs:=[i64 b1,i64 b2,zS a5 a3.length a6,zS a7 a4.length a8]) rfl dB f0 (i:=6) rfl h4 rfl) ⟨d,e,g,j,a5,a6,a7,a8,rfl,(aI.arr 8 [4,5,3,2] f0 rfl)⟩)
 refine lV (fun f w=>∃ (f1:Bool),tE q a b r f1=some R∧f 2=zP (some ⟨u,0,none⟩)∧f 3=zP (some ⟨x,0,none⟩)∧f 4=zP (some ⟨l,0,none⟩)∧f 5=zP (some ⟨z,0,none⟩)∧f 6=zP (some ⟨a0,0,none⟩)∧f 15=i64 r.1∧f 16=zB f1∧aI G K (box l 79 [zS a1 q.length c2,i64 r.2.1,Value.int .u64 r.2.2]::box a0 27 (zC b.1 m n o p)::aR 9 K m n b.1.L::aR 51 K o p b.1.E::box z 27 (zC a.1 d e g j)::aR 9 K d e a.1.L::aR 51 K g j a.1.E::box x 27 k::box u 27 k::L) w) ?_ ?_
 ·rintro f v9 ⟨f1,c,c0,c1,c3,a2,b3,f2,h8,c4⟩
  unfold tE at c
  rcases aH c with ⟨f3,c⟩|⟨f3,c⟩
  ·refine aM f3 h8 (aP (aN c3 ?_))
   obtain ⟨w0,h9,m3,m4,m5⟩:=aI.lendS (i:=5) c4 (zR _) rfl
   obtain ⟨w1,i0,m6,m7,m8⟩:=aI.lendS (i:=5) m4 h9 rfl
   obtain ⟨w2,f4,m9,n0,n1⟩:=aI.lendB (i:=4) m7 rfl
   obtain ⟨y,n2,c⟩:=aC c
   refine aQ (vs:=[zP (some ⟨l,0,none⟩),cP (some ⟨z,0,none⟩) 0]) Tryz.call16 (lst2 rfl a2) (aEy n0 (h3.mono (zL (zL h9 i0) f4)) m9 (m3.mono (zL i0 f4)) (m6.mono f4) n2) ?_
   rintro _ w3 ⟨c5,c6,c7,c8,rfl,n3⟩
   have n4:=n1 _ _ n3
   have n5:=m8 _ _ n4
   have n6:=m5 _ _ n5
   exact cZ (i:=6) (ns:=(zC y.1 c5 c6 c7 c8)) (us:=(zC y.1 c5 c6 c7 c8)) Tryz.sizeOf27 n6 rfl b3 rfl rfl rfl (fO rfl) rfl rfl (fun n7 (n8:aI G K (aR 9 K d e a.1.L::aR 51 K g j a.1.E::box z 27 (zC a.1 d e g j)::aR 9 K c5 c6 y.1.L::aR 51 K c7 c8 y.1.E::box l 79 [zS a1 q.length c2,i64 y.2.1,Value.int .u64 y.2.2]::box a0 27 (zC y.1 c5 c6 c7 c8)::aR 9 K m n b.1.L::aR 51 K o p b.1.E::box x 27 k::box u 27 k::L) n7)=>(bM (bA (aA ⟨y.1.N,y.1.I,y.1.L,y.1.E,c5,c6,c7,c8,c,c0,c1,a2,b3,(aI.arr 9 [4,3,6,2,0,1] n8 rfl)⟩))))
  ·refine aJ f3 h8 (aK (aD (lA f2 rfl) (aF (v:=zB (r.1 == 2)) (aG ?_))))
   rcases aH c with ⟨f5,c⟩|⟨f5,c⟩
   ·refine aM f5 rfl (aP (aN c3 ?_))
    obtain ⟨f6,n9,c⟩:=aC c
    refine aQ (vs:=[zP (some ⟨l,0,none⟩),i64 2]) Tryz.call18 rfl (jC c4 h3 n9) ?_
    rintro _ w4 ⟨rfl,o0⟩
    obtain ⟨w6,o1,o2,o3,o4⟩:=aI.lendS (i:=5) o0 (zR _) rfl
    obtain ⟨w7,o5,o6,o7,o8⟩:=aI.lendS (i:=5) o3 o1 rfl
    obtain ⟨w9,i1,o9,p0,p1⟩:=aI.lendB (i:=4) o7 rfl
    obtain ⟨J,p2,c⟩:=aC c
    refine aQ (vs:=[cP (some ⟨z,0,none⟩) 0,zB f6.1]) Tryz.call17 (lst2 a2 rfl) (aGv p0 o9 (o2.mono (zL o5 i1)) (o6.mono i1) p2) ?_
    rintro _ x0 ⟨c9,d0,d1,d2,rfl,p3⟩
    have p4:=p1 _ _ p3
    have p5:=o8 _ _ p4
    have p6:=o4 _ _ p5
    exact cZ (i:=6) (ns:=(zC J c9 d0 d1 d2)) (us:=(zC J c9 d0 d1 d2)) Tryz.sizeOf27 p6 rfl b3 rfl rfl rfl (fO rfl) rfl rfl (fun p7 (p8:aI G K (aR 9 K d e a.1.L::aR 51 K g j a.1.E::box z 27 (zC a.1 d e g j)::aR 9 K c9 d0 J.L::aR 51 K d1 d2 J.E::box l 79 [zS a1 q.length c2,i64 f6.2.1,Value.int .u64 f6.2.2]::box a0 27 (zC J c9 d0 d1 d2)::aR 9 K m n b.1.L::aR 51 K o p b.1.E::box x 27 k::box u 27 k::L) p7)=>(bM (bA (aA ⟨J.N,J.I,J.L,J.E,c9,d0,d1,d2,c,c0,c1,a2,b3,(aI.arr 9 [4,3,6,2,0,1] p8 rfl)⟩))))
   ·refine aJ f5 rfl (aK (aD (lA f2 rfl) (aF (v:=zB (r.1 == 3)) (aG ?_))))
    rcases aH c with ⟨f7,c⟩|⟨f7,c⟩
    ·refine aM f7 rfl (aP ?_)
     obtain ⟨x1,p9,q0,q1,q2⟩:=aI.lendS (i:=5) c4 (zR _) rfl
     obtain ⟨x2,q3,q4,q5,q6⟩:=aI.lendS (i:=5) q1 p9 rfl
     obtain ⟨x3,i2,q7,q8,q9⟩:=aI.lendB (i:=4) q5 rfl
     obtain ⟨V,r0,c⟩:=aC c
     refine aQ (vs:=[cP (some ⟨z,0,none⟩) 0]) Tryz.call19 (lst1 a2) (aGw q8 q7 (q0.mono (zL q3 i2)) (q4.mono i2) r0) ?_
     rintro _ x4 ⟨d3,d4,d5,d6,rfl,r1⟩
     have r2:=q9 _ _ r1
     have r3:=q6 _ _ r2
     have r4:=q2 _ _ r3
     exact cZ (i:=6) (ns:=(zC V d3 d4 d5 d6)) (us:=(zC V d3 d4 d5 d6)) Tryz.sizeOf27 r4 rfl b3 rfl rfl rfl (fO rfl) rfl rfl (fun r5 (r6:aI G K (aR 9 K d e a.1.L::aR 51 K g j a.1.E::box z 27 (zC a.1 d e g j)::aR 9 K d3 d4 V.L::aR 51 K d5 d6 V.E::box l 79 [zS a1 q.length c2,i64 r.2.1,Value.int .u64 r.2.2]::box a0 27 (zC V d3 d4 d5 d6)::aR 9 K m n b.1.L::aR 51 K o p b.1.E::box x 27 k::box u 27 k::L) r5)=>(bM (bA (aA ⟨V.N,V.I,V.L,V.E,d3,d4,d5,d6,c,c0,c1,a2,b3,(aI.arr 9 [4,3,6,2,0,1] r6 rfl)⟩))))
    ·refine aJ f7 rfl (aK (aD (lA f2 rfl) (aF (v:=zB (r.1 == 4)) (aG ?_))))
     rcases aH c with ⟨f8,c⟩|⟨f8,c⟩
     ·refine aM f8 rfl (aK (cJ (Kt:=K) (xs:=([]:List Edge)) (cs:=[]) (vs:=[]) cN jD rfl rfl c4 rfl (by kernel_rfl) rfl rfl rfl trivial (fun i3 i4 (i5:aI G K (aR 51 K i3 0 ([]:List Edge)::box l 79 [zS a1 q.length c2,i64 r.2.1,Value.int .u64 r.2.2]::box a0 27 (zC b.1 m n o p)::aR 9 K m n b.1.L::aR 51 K o p b.1.E::box z 27 (zC a.1 d e g j)::aR 9 K d e a.1.L::aR 51 K g j a.1.E::box x 27 k::box u 27 k::L) i4)=>(aD (bL (t':=3) dY a2 rfl) (aD (dG jR i5 (i:=5) rfl rfl rfl) ?_)))))
      obtain ⟨d7,r7,c⟩:=aC c
      have r8:aI G K (aR 51 K g j a.1.E::aR 51 K i3 0 ([]:List Edge)::box l 79 [zS a1 q.length c2,i64 r.2.1,Value.int .u64 r.2.2]::box a0 27 (zC b.1 m n o p)::aR 9 K m n b.1.L::aR 51 K o p b.1.E::box z 27 (zC a.1 d e g j)::aR 9 K d e a.1.L::box x 27 k::box u 27 k::L) i4:=(aI.arr 8 [7,0,1,2,3,4,5,6] i5 rfl)
      refine WO_appK (i:=0) cN Tryz.underlying25 jD rfl rfl r8 rfl (zR _) (zR _) r7 rfl rfl rfl rfl (fun _ h=>h) (fun d8 d9 r9 (s0:aI G K (aR 51 K g j a.1.E::aR 51 K d8 d9 d7::box l 79 [zS a1 q.length c2,i64 r.2.1,Value.int .u64 r.2.2]::box a0 27 (zC b.1 m n o p)::aR 9 K m n b.1.L::aR 51 K o p b.1.E::box z 27 (zC a.1 d e g j)::aR 9 K d e a.1.L::box x 27 k::box u 27 k::L) r9)=>(aF (v:=zS d8 d7.length d9) (aG (aO ?_))))
      obtain ⟨e8,e0,f9,i6,s1⟩:=aI.lendB (i:=6) s0 rfl
      refine dQ (C:=fun w'=>∃ L',aI G e8 L' w') [(0,0),(1,0),(2,0),(3,0),(5,0),(6,0),(7,0),(8,0),(10,0),(11,0),(12,0),(4,1),(9,1),(13,1),(14,0),(15,1),(16,1),(17,0)] bP (by kernel_rfl) (fun _ hg=>⟨_,aI.mono i6 hg⟩) (fun s2 s3=>?_)
      have b5:=aI.mono i6 s3
      refine bJ rfl (fun _ _=>aW (v:=zS d8 d7.length d9) rfl) (bJ rfl (fun _ _=>aW c3) (bJ rfl (fun _ _=>bL (t':=0) dP a2 rfl) (bJ rfl (fun _ ⟨_,b5⟩=>bG (t:=0) bY b5 f9 rfl rfl) (bJ rfl (fun _ _=>aW c3) (bJ rfl (fun _ _=>bL (t':=2) gV a2 rfl) (bJ rfl (fun _ ⟨_,b5⟩=>bG (t:=2) oC b5 f9 rfl rfl) (bJ rfl (fun _ _=>bT (len:=a.1.L.length) dM rfl) (bJ rfl (fun _ _=>aW c3) (bJ rfl (fun _ _=>bL (t':=0) dP a2 rfl) (bJ rfl (fun _ ⟨_,b5⟩=>bG (t:=0) bY b5 f9 rfl rfl) (gZ rfl ?_)))))))))))
      have s4:aI G e8 (box l 79 [zS a1 q.length c2,i64 r.2.1,Value.int .u64 r.2.2]::aR 51 K g j a.1.E::aR 51 K d8 d9 d7::box a0 27 (zC b.1 m n o p)::aR 9 K m n b.1.L::aR 51 K o p b.1.E::aR 9 K d e a.1.L::box x 27 k::box u 27 k::L) s2:=(aI.arr 3 [2,0,1] b5 rfl)
      obtain ⟨b6,s5,c⟩:=aC c
      refine aQ (vs:=[zP (some ⟨l,0,none⟩),i64 a.1.N]) Tryz.call15 rfl (cB s4 (h3.mono e0) s5) ?_
      rintro _ x5 ⟨rfl,i7⟩
      refine bM (aA ⟨⟨_,i7⟩,?_⟩)
      refine gZ rfl ?_
      obtain ⟨b8,s6,c⟩:=aC c
      refine aQ (vs:=[zP (some ⟨l,0,none⟩),i64 (a.1.L.length:Int)]) Tryz.call15 rfl (cB i7 (h3.mono e0) s6) ?_
      rintro _ x6 ⟨rfl,i8⟩
      refine bM (aA ⟨⟨_,i8⟩,?_⟩)
      refine gZ rfl ?_
      obtain ⟨a9,s7,c⟩:=aC c
      refine aQ (vs:=[zP (some ⟨l,0,none⟩),i64 a.1.N]) Tryz.call15 rfl (cB i8 (h3.mono e0) s7) ?_
      rintro _ x7 ⟨rfl,i9⟩
      refine bM (aA ⟨⟨_,i9⟩,?_⟩)
      refine bJ rfl (fun _ _=>nH (vs:=[(0,i64 b6.1),(1,i64 b8.1),(2,i64 a9.1)]) (cs:=[i64 b6.1,i64 b8.1,i64 a9.1]) aEd rfl (by kernel_rfl)) (gZ rfl (cJ (Kt:=K) (xs:=([⟨b6.1,b8.1,a9.1⟩]:List Edge)) (cs:=[i64 b6.1,i64 b8.1,i64 a9.1]) (vs:=[(0,zA #[i64 b6.1,i64 b8.1,i64 a9.1])]) cN jD rfl rfl i9 rfl (by kernel_rfl) rfl rfl rfl ⟨rfl,trivial⟩ (fun s8 s9 (j0:aI G e8 (aR 51 K s8 1 ([⟨b6.1,b8.1,a9.1⟩]:List Edge)::box l 79 [zS a1 q.length c2,i64 a9.2.1,Value.int .u64 a9.2.2]::aR 51 K g j a.1.E::aR 51 K d8 d9 d7::box a0 27 (zC b.1 m n o p)::aR 9 K m n b.1.L::aR 51 K o p b.1.E::aR 9 K d e a.1.L::box x 27 k::box u 27 k::L) s9)=>(bM (aA ⟨⟨_,j0⟩,?_⟩)))))
      refine gZ rfl ?_
      obtain ⟨e1,t0,c⟩:=aC c
      refine eK (i:=2) cN Tryz.underlying25 jD rfl rfl j0 rfl e0 e0 t0 rfl rfl rfl rfl (fun _ h=>h) (fun e2 e3 t1 (j1:aI G e8 (box l 79 [zS a1 q.length c2,i64 a9.2.1,Value.int .u64 a9.2.2]::aR 51 K g j a.1.E::aR 51 K e2 e3 e1::box a0 27 (zC b.1 m n o p)::aR 9 K m n b.1.L::aR 51 K o p b.1.E::aR 9 K d e a.1.L::box x 27 k::box u 27 k::L) t1)=>(bM (aA ⟨⟨_,j1⟩,?_⟩)))
      refine bJ rfl (fun _ _=>gB (v:=zS e2 e1.length e3) rfl) (gR ?_)
      have e9:=s1 _ _ j1
      refine aA (aP (aD (bL (t':=0) dP a2 rfl) (aD (dG bY e9 (i:=0) rfl rfl rfl) (aD (bL (t':=1) oV a2 rfl) (aD (dG bY e9 (i:=0) rfl rfl rfl) (aD (bL (t':=2) gV a2 rfl) (aD (dG oC e9 (i:=0) rfl rfl rfl) (aL (v:=zS e2 e1.length e3) ?_))))))))
      obtain ⟨x8,t2,t3,t4,t5⟩:=aI.lendS (i:=7) e9 (zR _) rfl
      obtain ⟨x9,t6,t7,t8,t9⟩:=aI.lendS (i:=3) t4 t2 rfl
      obtain ⟨Z,u0,c⟩:=aC c
      refine aQ (vs:=[i64 a.1.N,i64 a.1.I,zS d a.1.L.length e,zS e2 e1.length e3]) Tryz.call20 rfl (nC t8 (t3.mono t6) t7 u0) ?_
      rintro _ y0 ⟨e4,e5,e6,e7,rfl,u1⟩
      have u2:=t9 _ _ u1
      have u3:=t5 _ _ u2
      exact cZ (i:=7) (ns:=(zC Z e4 e5 e6 e7)) (us:=(zC Z e4 e5 e6 e7)) Tryz.sizeOf27 u3 rfl b3 rfl rfl rfl (fO rfl) rfl rfl (fun u4 (u5:aI G K (aR 9 K d e a.1.L::aR 51 K e2 e3 e1::aR 9 K e4 e5 Z.L::aR 51 K e6 e7 Z.E::box z 27 (zC a.1 d e g j)::box l 79 [zS a1 q.length c2,i64 a9.2.1,Value.int .u64 a9.2.2]::aR 51 K g j a.1.E::box a0 27 (zC Z e4 e5 e6 e7)::aR 9 K m n b.1.L::aR 51 K o p b.1.E::box x 27 k::box u 27 k::L) u4)=>(bM (bA (aA ⟨Z.N,Z.I,Z.L,Z.E,e4,e5,e6,e7,c,c0,c1,a2,b3,(aI.arr 10 [3,2,7,4,0,6] u5 rfl)⟩))))
     ·exact aJ f8 rfl (aY (bA (aA ⟨b.1.N,b.1.I,b.1.L,b.1.E,m,n,o,p,c,c0,c1,a2,b3,(aI.arr 4 [3,2,1] c4 rfl)⟩)))
 refine aK (aD (lA rfl rfl) (aF (v:=zB (r.1 == 0)) (aG ?_)))
 rcases aH c with ⟨g0,c⟩|⟨g0,c⟩
 ·exact aM g0 rfl (aY (aA ⟨r.1 == 0,c,rfl,rfl,rfl,rfl,rfl,rfl,rfl,h1⟩))
 ·exact aJ g0 rfl (aP (aD (lA rfl rfl) (aF (v:=zB (r.1 == 1)) (aG ⟨r.1 == 1,c,rfl,rfl,rfl,rfl,rfl,rfl,rfl,h1⟩))))
theorem aKI {c:(List UInt8)} {k n R:Int} (i:aI G K (L) w) (j:bX K a1 c2 c) (a:aHi c k n=some R):
  Calls Tryz.prog 6 ([zS a1 c.length c2,i64 k,i64 n]:List Value).toArray w (gQ fun v w'=>v=i64 R∧aI G K (L) w'):=by
 refine aS Tryz.func6 rfl (by kernel_rfl) (by show (3:Nat)≤22;decide) ?_
 unfold aHi at a
 refine aK (aF (v:=i64 0) (aG (aO (aO (dO (fun f w=>∃ (d:Bool),aCi c k n d=some R∧f 0=zS a1 c.length c2∧f 1=i64 k∧f 2=i64 n∧f 14=zB d∧aI G K (L) w) ?_ ?_)))))
 ·rintro f V ⟨d,a,o,p,q,l,e⟩
  unfold aCi at a
  refine aA ?_
  rcases aH a with ⟨h,a⟩|⟨h,a⟩
  ·refine aM h l (aK (aF (v:=i64 0) (aG ?_)))
   obtain rfl:=zI a
   exact bK (aX (bE Tryz.results6 rfl ⟨rfl,e⟩))
  ·refine aJ h l (aY (aA (aK (aN o (aN p ?_)))))
   obtain ⟨Z,m,a⟩:=aC a
   refine aD (cU aHf rfl j rfl rfl rfl m) ?_
   obtain ⟨a0,u,x⟩:=bX.el (sz:=1) rfl j m
   cases x
   refine aD (bG (t:=0) sc_5 e u rfl rfl) (aD (aGY Tryz.runUnderlying2 rfl ⟨_,Tryz.runUnderlying5⟩) (aN q ?_))
   obtain ⟨y,z,a⟩:=aC a
   refine aD (R_rem rfl rfl z) (aF (v:=i64 y) (aG ?_))
   obtain rfl:=zI a
   exact bK (bE Tryz.results6 rfl ⟨rfl,e⟩)
 refine aP (aL (v:=i64 n) (aD (aGU rfl rfl) (aL (v:=zB (decide (n≤1))) ?_)))
 rcases aH a with ⟨b,a⟩|⟨b,a⟩
 ·exact aT b rfl rfl (aT b rfl rfl (aT b rfl rfl (aT b rfl rfl (aD (bF (v:=zB true) b rfl rfl) (aG ⟨true,a,rfl,rfl,rfl,rfl,i⟩)))))
 ·exact bD b rfl rfl (aL (v:=i64 k) (bD b rfl rfl (aL (v:=zS a1 c.length c2) (bD b rfl rfl (aD (bT (len:=c.length) aHf rfl) (bD b rfl rfl (aD (uJ rfl rfl) (aD (bH (v:=zB (decide ((c.length:Int)≤k))) b rfl rfl) (aG ⟨decide ((c.length:Int)≤k),a,rfl,rfl,rfl,rfl,i⟩)))))))))
theorem nD {t:cD} {k:Int} {R:Bool} (c:aI G K (L) w) (j:bX K a1 c2 t.L) (l:bX K a4 c5 t.E) (a:jV t k=some R):
  Calls Tryz.prog 59 ([zA (zCa t a1 c2 a4 c5),i64 k]:List Value).toArray w (gQ fun v w'=>v=zB R∧aI G K (L) w'):=by
 refine aS Tryz.func59 rfl (by kernel_rfl) (by show (2:Nat)≤10;decide) ?_
 unfold jV at a
 refine aK (eA (v:=zA (zCa t a1 c2 a4 c5)) (vs:=(zC t a1 c2 a4 c5)) c rfl rfl (fun m n b=>(aF (v:=zB false) (aG (aK (aL (v:=i64 k) (aD (bL (t':=0) dP rfl rfl) (aD (dG bY b (i:=0) rfl rfl rfl) (aD (nI rfl rfl) ?_)))))))))
 obtain ⟨d,e,a⟩:=aC a
 refine aQ (vs:=[i64 k,i64 0,i64 (wr (t.N - 1))]) Tryz.call58 rfl (rZ b e) ?_
 rintro _ o ⟨rfl,g⟩
 refine aF (v:=zB d) (aG ?_)
 obtain rfl:=zI a
 exact bK (bE Tryz.results59 rfl ⟨rfl,(aI.arr 1 [] g rfl)⟩)
theorem aJF {i many:Int} {R:Bool} (b:aI G K (L) w) (a:aFd i many=some R):
  Calls Tryz.prog 61 ([i64 i,i64 many]:List Value).toArray w (gQ fun v w'=>v=zB R∧aI G K (L) w'):=by
 refine aS Tryz.func61 rfl (by kernel_rfl) (by show (2:Nat)≤9;decide) ?_
 unfold aFd at a
 refine aK (aF (v:=zB false) (aG (aK (aL (v:=i64 i) (aL (v:=i64 many) (aD (nI rfl rfl) ?_))))))
 obtain ⟨c,d,a⟩:=aC a
 refine aQ (vs:=[i64 i,i64 0,i64 (wr (many - 1))]) Tryz.call58 rfl (rZ b d) ?_
 rintro _ h ⟨rfl,e⟩
 refine aF (v:=zB c) (aG ?_)
 obtain rfl:=zI a
 exact bK (bE Tryz.results61 rfl ⟨rfl,e⟩)
end Gv
