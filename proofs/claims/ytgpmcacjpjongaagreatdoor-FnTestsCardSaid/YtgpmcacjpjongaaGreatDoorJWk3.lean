/- Walks, printed by program. -/
import Derived.Test.YtgpmcacjpjongaaGreatDoorJWk1
set_option linter.all false
namespace Gv
open Go.Value renaming slice→zS,bool→zB,pointer→zP,agg→zA
open Option.some renaming inj→zI
open Gv.Hp renaming le_refl→zR
open Go Go.Proofs Go.Proofs.Tryz
set_option maxRecDepth 20000
set_option maxHeartbeats 40000000
variable {G:wY} {K:Hp} {L:List iN} {w:World} {b1 c3 c6 c9 c5:Nat} {a2 a5 a8 a4:Option Addr}
theorem aEu {b:(List UInt8)} {e6 e7:Int} {R:(bF × Int × Int)} (hm:aBb b e6 e7=some R) (hs:aD G K (box b1 72 [zS a2 b.length c3,i64 e6,Value.int .u64 e7]::L) w) (o:bS K a2 c3 b):
  Calls prog 118 ([zP (some ⟨b1,0,none⟩)]:List Value).toArray w (eR fun v w'=>∃ i4 i5 i6 i7,v=zA (zCa R.1 i4 i5 i6 i7)/\aD G K (aG 9 K i4 i5 R.1.L::aG 46 K i6 i7 R.1.E::box b1 72 [zS a2 b.length c3,i64 R.2.1,Value.int .u64 R.2.2]::L) w'):=by
 let e:=zG
 refine aR func118 rfl (by kernel_rfl) (by show (1:Nat)<=125;decide) ?_;unfold aBb at hm
 refine aO (aX (vs:=e) zeroValue27 hs rfl (fun g w6 k9=>(aK (aO (aL (v:=zP (some ⟨b1,0,none⟩)) ?_)))))
 have l0:aD G K (box b1 72 [zS a2 b.length c3,i64 e6,Value.int .u64 e7]::box g 27 e::L) w6:=(aD.arr 2 [1,0] k9 rfl)
 obtain ⟨j,l1,hm⟩:=aC hm
 refine aQ (vs:=[zP (some ⟨b1,0,none⟩),i64 4]) call36 rfl (bK l1 l0 o) ?_
 rintro _ t9 ⟨rfl,l2⟩
 refine aH (eP rfl rfl) (aI (v:=i64 (wr (1+j.1))) (aK (aO (aL (v:=i64 (wr (1+j.1))) (aL (v:=zP (some ⟨b1,0,none⟩)) (aL (v:=i64 (wr (1+j.1))) (aH (qZ rfl rfl) ?_)))))));obtain ⟨p,l3,hm⟩:=aC hm
 refine aQ (vs:=[zP (some ⟨b1,0,none⟩),i64 (wr (7 - (wr (1+j.1))))]) call36 rfl (bK l3 l2 o) ?_
 rintro _ u0 ⟨rfl,l4⟩
 refine aH (eP rfl rfl) (aI (v:=i64 (wr ((wr (1+j.1))+p.1))) (aK (aO (aL (v:=zP (some ⟨b1,0,none⟩)) ?_))));obtain ⟨a,l5,hm⟩:=aC hm
 refine aQ (vs:=[zP (some ⟨b1,0,none⟩)]) call147 rfl (aBH l5 l4 o) ?_
 rintro _ u1 ⟨c,d,rfl,l6⟩
 refine aI (v:=zS c a.1.length d) (aK (aO (bL (Kt:=K) (xs:=([]:List Int)) (cs:=[]) (vs:=[]) dA rZ rfl rfl l6 rfl (by kernel_rfl) rfl rfl rfl trivial (fun e8 l7 (l8:aD G K (aG 2 K e8 0 ([]:List Int)::aG 9 K c d a.1::box b1 72 [zS a2 b.length c3,i64 a.2.1,Value.int .u64 a.2.2]::box g 27 e::L) l7)=>(aI (v:=zS e8 ([]:List Int).length 0) (aK (aM (aO (aI (v:=i64 0) (aK (aV [0,2,3,4,5] (fun f w=>∃ b7 b8 k l m,rD b j p a b7 b8 k=some R/\f 6=zS l k.length m/\aD G K (aG 2 K l m k::aG 9 K c d a.1::box b1 72 [zS a2 b.length c3,i64 b7,Value.int .u64 b8]::box g 27 e::L) w) ?_ ?_)))))))))))
 ·rintro f u2 ⟨b7,b8,k,l,m,hm,i8,l9⟩
  unfold rD at hm
  refine aB (aO (bL (Kt:=K) (xs:=([]:List Edge)) (cs:=[]) (vs:=[]) cM qA rfl rfl l9 rfl (by kernel_rfl) rfl rfl rfl trivial (fun e9 i9 (m0:aD G K (aG 46 K e9 0 ([]:List Edge)::aG 2 K l m k::aG 9 K c d a.1::box b1 72 [zS a2 b.length c3,i64 b7,Value.int .u64 b8]::box g 27 e::L) i9)=>(aI (v:=zS e9 ([]:List Edge).length 0) (aK (aM (aO (aL (v:=zP (some ⟨b1,0,none⟩)) (aL (v:=i64 (wr (1+j.1))) (aH (R_mul rfl rfl) (aH (eP rfl rfl) ?_)))))))))))
  have m1:aD G K (box b1 72 [zS a2 b.length c3,i64 b7,Value.int .u64 b8]::aG 46 K e9 0 ([]:List Edge)::aG 2 K l m k::aG 9 K c d a.1::box g 27 e::L) i9:=(aD.arr 4 [3,0,1,2] m0 rfl)
  obtain ⟨m2,m3,hm⟩:=aC hm
  refine aQ (vs:=[zP (some ⟨b1,0,none⟩),i64 (wr (2+(wr (2 * (wr (1+j.1))))))]) call36 rfl (bK m3 m1 o) ?_
  rintro _ u3 ⟨rfl,u4⟩
  refine aI (v:=i64 m2.1) (aK (aV [0,2,4,5] (fun f w=>∃ c1 c2 b9 c4 c48,tL b j p a c1 c2 b9=some R/\f 8=zS c4 b9.length c48/\aD G K (aG 46 K c4 c48 b9::box b1 72 [zS a2 b.length c3,i64 c1,Value.int .u64 c2]::aG 9 K c d a.1::box g 27 e::L) w) ?_ ?_))
  ·rintro f m4 ⟨c1,c2,b9,c4,c48,hm,m5,m6⟩
   unfold tL at hm
   refine aB (qE [0,2,4,5] (fun f w=>∃ j0 j1 f0 j2 j3,tK b j p a j0 j1 f0=some R/\f 8=zS j2 f0.length j3/\aD G K (aG 46 K j2 j3 f0::box b1 72 [zS a2 b.length c3,i64 j0,Value.int .u64 j1]::aG 9 K c d a.1::box g 27 e::L) w) aP (aO (aL (v:=zP (some ⟨b1,0,none⟩)) ?_)))
   have m7:aD G K (box b1 72 [zS a2 b.length c3,i64 c1,Value.int .u64 c2]::aG 46 K c4 c48 b9::aG 9 K c d a.1::box g 27 e::L) m4:=(aD.arr 2 [1,0] m6 rfl)
   obtain ⟨u5,m8,hm⟩:=aC hm
   refine aQ (vs:=[zP (some ⟨b1,0,none⟩),i64 3]) call34 rfl (oJ m8 m7 o) ?_
   rintro _ u6 ⟨rfl,m9⟩
   refine aK ?_
   rcases aN hm with ⟨j4,hm⟩|⟨j4,hm⟩
   ·refine aT j4 rfl (aZ (bC m5 (aL (v:=zP (some ⟨b1,0,none⟩)) (aL (v:=i64 (wr ((wr (1+j.1))+p.1))) ?_))));obtain ⟨u7,n0,hm⟩:=aC hm
    refine aQ (vs:=[zP (some ⟨b1,0,none⟩),i64 (wr ((wr (1+j.1))+p.1))]) call36 rfl (bK n0 m9 o) ?_
    rintro _ u8 ⟨rfl,n1⟩
    refine aL (v:=zP (some ⟨b1,0,none⟩)) (aL (v:=zS c a.1.length d) (aH (bI (len:=a.1.length) bE rfl) ?_));obtain ⟨u9,n2,hm⟩:=aC hm
    refine aQ (vs:=[zP (some ⟨b1,0,none⟩),i64 (a.1.length:Int)]) call36 rfl (bK n2 n1 o) ?_
    rintro _ v0 ⟨rfl,n3⟩
    refine aL (v:=zP (some ⟨b1,0,none⟩)) (aL (v:=i64 (wr ((wr (1+j.1))+p.1))) ?_);obtain ⟨v1,n4,hm⟩:=aC hm
    exact aQ (vs:=[zP (some ⟨b1,0,none⟩),i64 (wr ((wr (1+j.1))+p.1))]) call36 rfl (bK n4 n3 o) aP
   ·exact aP
  obtain ⟨v2,n5,ho⟩:=aC hm
  refine mX [0,2,3,4,5,6] n5 (fun c5 c6 c0 b0 f w=>∃ c7 c8,f 8=zS c7 c0.length c8/\f 9=i64 b0/\aD G K (box b1 72 [zS a2 b.length c3,i64 c5,Value.int .u64 c6]::aG 46 K c7 c8 c0::aG 2 K l m k::aG 9 K c d a.1::box g 27 e::L) w) aP ?_
  ·rintro c5 c6 c0 b0 f1 f v3 hm hr ⟨c7,c8,n6,j5,j6⟩
   unfold nM at hm
   refine aM (aO (bC j5 (aH (sZ rfl rfl) (aK ?_))))
   rcases aN hm with ⟨f2,hm⟩|⟨f2,hm⟩
   ·refine aT f2 rfl (bB (aB (aM (aV [0,2,3,4,5,6,9] (fun f w=>∃ f3 f4 c9 d0 d1,yT b0 f3 f4 c9=some f1/\f 8=zS d0 c9.length d1/\aD G K (aG 46 K d0 d1 c9::box b1 72 [zS a2 b.length c3,i64 f3,Value.int .u64 f4]::aG 2 K l m k::aG 9 K c d a.1::box g 27 e::L) w) ?_ ?_))))
    ·rintro f v4 ⟨f3,f4,c9,d0,d1,hm,n7,n8⟩
     unfold yT at hm
     exact aB (aZ (bC j5 (aH (qZ rfl rfl) (aI (v:=i64 (wr (b0 - 1))) (aK ⟨_,(zI hm).symm,bW,d0,d1,n7,rfl,(aD.arr 2 [1,0] n8 rfl)⟩)))))
    refine aO (aL (v:=zP (some ⟨b1,0,none⟩)) (aL (v:=i64 (wr (1+j.1))) ?_));obtain ⟨j7,n9,hm⟩:=aC hm
    refine aQ (vs:=[zP (some ⟨b1,0,none⟩),i64 (wr (1+j.1))]) call36 rfl (bK n9 j6 o) ?_
    rintro _ v5 ⟨rfl,o0⟩
    refine aI (v:=i64 j7.1) (aK (aO (aL (v:=zP (some ⟨b1,0,none⟩)) (aL (v:=zS c a.1.length d) (aH (bI (len:=a.1.length) bE rfl) ?_)))));obtain ⟨V,o1,hm⟩:=aC hm
    refine aQ (vs:=[zP (some ⟨b1,0,none⟩),i64 (a.1.length:Int)]) call36 rfl (bK o1 o0 o) ?_
    rintro _ v6 ⟨rfl,o2⟩
    refine aI (v:=i64 V.1) (aK (aO (aL (v:=zP (some ⟨b1,0,none⟩)) (aL (v:=i64 (wr (1+j.1))) ?_))));obtain ⟨j8,o3,hm⟩:=aC hm
    refine aQ (vs:=[zP (some ⟨b1,0,none⟩),i64 (wr (1+j.1))]) call36 rfl (bK o3 o2 o) ?_
    rintro _ v7 ⟨rfl,v8⟩
    refine aI (v:=i64 j8.1) (aK (aO (aI (v:=i64 0) (aK (aV [0,2,3,4,5,6,9] (fun f w=>∃ j9 k0 f5 k1 k2,yU b0 j9 k0 f5=some f1/\f 8=zS k1 f5.length k2/\aD G K (aG 46 K k1 k2 f5::box b1 72 [zS a2 b.length c3,i64 j9,Value.int .u64 k0]::aG 2 K l m k::aG 9 K c d a.1::box g 27 e::L) w) aP ?_)))));obtain ⟨v9,o4,ho⟩:=aC hm
    refine mX [0,2,3,4,5,6,9,10,11,12] o4 (fun q r n u f w=>∃ y z,f 8=zS y n.length z/\f 13=i64 u/\aD G K (box b1 72 [zS a2 b.length c3,i64 q,Value.int .u64 r]::aG 46 K y z n::aG 2 K l m k::aG 9 K c d a.1::box g 27 e::L) w) aP ?_
    ·rintro q r n u f6 f w0 hm hr ⟨y,z,k3,d2,d3⟩
     unfold pK at hm
     refine aM (aO (bC d2 (aL (v:=i64 (wr ((wr (1+j.1))+p.1))) (aH (cQ rfl rfl) (aK ?_)))))
     rcases aN hm with ⟨f7,hm⟩|⟨f7,hm⟩
     ·refine aT f7 rfl (bB (aB (aM (aV [0,2,3,4,5,6,9,10,11,12,13] (fun f w=>∃ f8 f9 d4 d5 d6,tM u f8 f9 d4=some f6/\f 8=zS d5 d4.length d6/\aD G K (box b1 72 [zS a2 b.length c3,i64 f8,Value.int .u64 f9]::aG 46 K d5 d6 d4::aG 2 K l m k::aG 9 K c d a.1::box g 27 e::L) w) ?_ ?_))))
      ·rintro f w1 ⟨f8,f9,d4,d5,d6,hm,o5,o6⟩
       unfold tM at hm
       exact aB (aZ (bC d2 (aH (eP rfl rfl) (aI (v:=i64 (wr (u+1))) (aK ⟨_,(zI hm).symm,bW,d5,d6,o5,rfl,o6⟩)))))
      refine aM (aO (bC i8 (bC d2 ?_)));obtain ⟨w2,g0,hm⟩:=aC hm
      have k4:=dM d3 (i:=2) rfl g0
      refine aH (fQ dA rfl k4 rfl rfl rfl g0) (aH (rB (t:=0) fK d3 (i:=2) rfl g0 rfl rfl rfl) (aL (v:=i64 j7.1) (aH (aFE rfl rfl) (aK ?_))))
      rcases aN hm with ⟨k5,hm⟩|⟨k5,hm⟩
      ·exact aP
      ·refine aW k5 rfl (bB (aB (aO (bL (Kt:=K) (xs:=([]:List Int)) (cs:=[]) (vs:=[]) dA rZ rfl rfl d3 rfl (by kernel_rfl) rfl rfl rfl trivial (fun g1 o7 (o8:aD G K (aG 2 K g1 0 ([]:List Int)::box b1 72 [zS a2 b.length c3,i64 q,Value.int .u64 r]::aG 46 K y z n::aG 2 K l m k::aG 9 K c d a.1::box g 27 e::L) o7)=>(aI (v:=zS g1 ([]:List Int).length 0) (aK (aM (aO (aI (v:=i64 0) (aK (aV [0,2,3,4,5,6,8,9,10,11,12,13] (fun f w=>∃ a6 b2 b3,tN b V q r n u a6=some f6/\f 14=zS b2 a6.length b3/\aD G K (aG 2 K b2 b3 a6::box b1 72 [zS a2 b.length c3,i64 q,Value.int .u64 r]::aG 46 K y z n::aG 2 K l m k::aG 9 K c d a.1::box g 27 e::L) w) ?_ ?_))))))))))))
       ·rintro f w3 ⟨a6,b2,b3,hm,o9,p0⟩
        unfold tN at hm
        refine aB (aZ (bC k3 (bC d2 (aL (v:=i64 V.1) (aL (v:=zP (some ⟨b1,0,none⟩)) (bC o9 ?_))))));obtain ⟨w4,p1,p2,p3,p4⟩:=aD.lendSp p0 (zR _) .head
        obtain ⟨x,p5,hm⟩:=aC hm
        refine aQ (vs:=[zP (some ⟨b1,0,none⟩),zS b2 a6.length b3]) call119 rfl (oZ p5 p3 (o.mono p1) p2) ?_
        rintro _ w5 ⟨rfl,p6⟩
        have p7:=p4 _ _ p6
        refine aH (fF (vs:=[(0,i64 u),(1,i64 V.1),(2,i64 x.1)]) (cs:=[i64 u,i64 V.1,i64 x.1]) aFk rfl (by kernel_rfl)) (bL (Kt:=K) (xs:=([⟨u,V.1,x.1⟩]:List Edge)) (cs:=[i64 u,i64 V.1,i64 x.1]) (vs:=[(0,zA #[i64 u,i64 V.1,i64 x.1])]) cM qA rfl rfl p7 rfl (by kernel_rfl) rfl rfl rfl ⟨rfl,trivial⟩ (fun p8 p9 (q0:aD G K (aG 46 K p8 1 ([⟨u,V.1,x.1⟩]:List Edge)::aG 2 K b2 b3 a6::box b1 72 [zS a2 b.length c3,i64 x.2.1,Value.int .u64 x.2.2]::aG 46 K y z n::aG 2 K l m k::aG 9 K c d a.1::box g 27 e::L) p9)=>?_))
        obtain ⟨g2,q1,hm⟩:=aC hm
        exact eX (i:=2) cM underlying25 qA rfl rfl q0 rfl (zR _) (zR _) q1 rfl rfl rfl rfl (fun _ h=>h) (fun g3 g4 q2 (q3:aD G K (aG 2 K b2 b3 a6::box b1 72 [zS a2 b.length c3,i64 x.2.1,Value.int .u64 x.2.2]::aG 46 K g3 g4 g2::aG 2 K l m k::aG 9 K c d a.1::box g 27 e::L) q2)=>(aI (v:=zS g3 g2.length g4) (aJ (cT (aB ⟨bW,x.2.1,x.2.2,g2,g3,g4,hm,rfl,(aD.arr 1 [] q3 rfl)⟩)))))
       obtain ⟨w7,q4,ho⟩:=aC hm
       refine cZ [0,2,3,4,5,6,8,9,10,11,12,13] q4 (fun a7 a0 f w=>∃ b4 b6,f 14=zS b4 a7.length b6/\f 15=i64 a0/\aD G K (aG 2 K b4 b6 a7::box b1 72 [zS a2 b.length c3,i64 q,Value.int .u64 r]::aG 46 K y z n::aG 2 K l m k::aG 9 K c d a.1::box g 27 e::L) w) ?_ ?_
       ·exact ⟨g1,0,rfl,rfl,o8⟩
       ·rintro a7 a0 q5 f w8 hm hr ⟨b4,b6,g5,d7,d8⟩
        unfold lH at hm
        refine aM (aO (bC d7 (aL (v:=i64 (wr ((wr (1+j.1))+p.1))) (aH (cQ rfl rfl) (aK ?_)))))
        rcases aN hm with ⟨g6,hm⟩|⟨g6,hm⟩
        ·refine aT g6 rfl (bB (aB (aM (aV [0,2,3,4,5,6,8,9,10,11,12,13,15] (fun f w=>∃ d9 e0 e1,tO a0 d9=some q5/\f 14=zS e0 d9.length e1/\aD G K (aG 2 K e0 e1 d9::box b1 72 [zS a2 b.length c3,i64 q,Value.int .u64 r]::aG 46 K y z n::aG 2 K l m k::aG 9 K c d a.1::box g 27 e::L) w) ?_ ?_))))
         ·rintro f w9 ⟨d9,e0,e1,hm,q6,q7⟩
          unfold tO at hm
          exact aB (aZ (bC d7 (aH (eP rfl rfl) (aI (v:=i64 (wr (a0+1))) (aK ⟨_,(zI hm).symm,bW,e0,e1,q6,rfl,q7⟩)))))
         refine aO (bC i8 (bC d7 ?_));obtain ⟨x0,k6,hm⟩:=aC hm
         refine aH (fQ dA rfl k4 rfl rfl rfl k6) (aH (rB (t:=0) fK d8 (i:=3) rfl k6 rfl rfl rfl) (aL (v:=i64 j8.1) (aH (nW rfl rfl) (aK ?_))))
         rcases aN hm with ⟨g7,hm⟩|⟨g7,hm⟩
         ·refine aT g7 rfl (aZ (bC g5 (bC d7 (bL (Kt:=K) (xs:=([a0]:List Int)) (cs:=[i64 a0]) (vs:=[(0,i64 a0)]) dA rZ rfl rfl d8 rfl (by kernel_rfl) rfl rfl rfl ⟨rfl,trivial⟩ (fun q8 q9 (r0:aD G K (aG 2 K q8 1 ([a0]:List Int)::aG 2 K b4 b6 a7::box b1 72 [zS a2 b.length c3,i64 q,Value.int .u64 r]::aG 46 K y z n::aG 2 K l m k::aG 9 K c d a.1::box g 27 e::L) q9)=>?_)))));obtain ⟨g8,r1,hm⟩:=aC hm
          exact eX (i:=0) dA underlying55 rZ rfl rfl r0 rfl (zR _) (zR _) r1 rfl rfl rfl rfl (fun _ h=>h) (fun g9 h0 r2 (r3:aD G K (aG 2 K g9 h0 g8::box b1 72 [zS a2 b.length c3,i64 q,Value.int .u64 r]::aG 46 K y z n::aG 2 K l m k::aG 9 K c d a.1::box g 27 e::L) r2)=>(aI (v:=zS g9 g8.length h0) (aJ (cT (aB ⟨bW,g8,g9,h0,hm,rfl,r3⟩)))))
         ·exact aW g7 rfl (bB (cT (aB ⟨bW,a7,b4,b6,hm,g5,d8⟩)))
        ·refine aW g6 rfl (yH (iP (iP ?_)))
         have r4:=hr _ (zI hm).symm
         subst r4
         have hm:(tN b V q r n u a7)=some f6:=ho
         clear hr ho
         exact pC (aB ⟨bW,a7,b4,b6,hm,g5,d8⟩)
     ·refine aW f7 rfl (yH (iP (iP ?_)))
      have r5:=hr _ (zI hm).symm
      subst r5
      have hm:(yU b0 q r n)=some f1:=ho
      clear hr ho
      exact pC (aB ⟨bW,q,r,n,y,z,hm,k3,(aD.arr 2 [1,0] d3 rfl)⟩)
   ·refine aW f2 rfl (yH (iP (iP ?_)))
    have r6:=hr _ (zI hm).symm
    subst r6
    have hm:(tL b j p a c5 c6 c0)=some R:=ho
    clear hr ho
    exact pC (aB ⟨bW,c5,c6,c0,c7,c8,hm,n6,(aD.arr 3 [1,0] j6 rfl)⟩)
 obtain ⟨x1,r7,ho⟩:=aC hm
 refine mX [0,2,3,4,5] r7 (fun a1 a3 a4 a5 f w=>∃ a8 a9,f 6=zS a8 a4.length a9/\f 7=i64 a5/\aD G K (aG 2 K a8 a9 a4::aG 9 K c d a.1::box b1 72 [zS a2 b.length c3,i64 a1,Value.int .u64 a3]::box g 27 e::L) w) ?_ ?_
 ·exact ⟨e8,0,rfl,rfl,l8⟩
 ·rintro a1 a3 a4 a5 r8 f s0 hm hr ⟨a8,a9,h1,e2,h2⟩
  unfold nO at hm
  refine aM (aO (bC e2 (aL (v:=i64 (wr ((wr (1+j.1))+p.1))) (aH (cQ rfl rfl) (aK ?_)))))
  rcases aN hm with ⟨h3,hm⟩|⟨h3,hm⟩
  ·refine aT h3 rfl (bB (aB (aM (aV [0,2,3,4,5,7] (fun f w=>∃ h5 h6 e3 e4 e5,nN a5 h5 h6 e3=some r8/\f 6=zS e4 e3.length e5/\aD G K (aG 2 K e4 e5 e3::aG 9 K c d a.1::box b1 72 [zS a2 b.length c3,i64 h5,Value.int .u64 h6]::box g 27 e::L) w) ?_ ?_))))
   ·rintro f x2 ⟨h5,h6,e3,e4,e5,hm,s1,s2⟩
    unfold nN at hm
    exact aB (aZ (bC e2 (aH (eP rfl rfl) (aI (v:=i64 (wr (a5+1))) (aK ⟨_,(zI hm).symm,bW,e4,e5,s1,rfl,s2⟩)))))
   refine aO (bC e2 (aL (v:=i64 (wr (1+j.1))) (aH (cQ rfl rfl) (aK ?_))))
   rcases aN hm with ⟨h7,hm⟩|⟨h7,hm⟩
   ·refine aT h7 rfl (aZ (bC h1 (bC e2 (bL (Kt:=K) (xs:=([a5]:List Int)) (cs:=[i64 a5]) (vs:=[(0,i64 a5)]) dA rZ rfl rfl h2 rfl (by kernel_rfl) rfl rfl rfl ⟨rfl,trivial⟩ (fun s3 s4 (s5:aD G K (aG 2 K s3 1 ([a5]:List Int)::aG 2 K a8 a9 a4::aG 9 K c d a.1::box b1 72 [zS a2 b.length c3,i64 a1,Value.int .u64 a3]::box g 27 e::L) s4)=>?_)))));obtain ⟨h8,s6,hm⟩:=aC hm
    exact eX (i:=0) dA underlying55 rZ rfl rfl s5 rfl (zR _) (zR _) s6 rfl rfl rfl rfl (fun _ h=>h) (fun h9 i0 s7 (s8:aD G K (aG 2 K h9 i0 h8::aG 9 K c d a.1::box b1 72 [zS a2 b.length c3,i64 a1,Value.int .u64 a3]::box g 27 e::L) s7)=>(aI (v:=zS h9 h8.length i0) (aJ (cT (aB ⟨bW,a1,a3,h8,h9,i0,hm,rfl,s8⟩)))))
   ·refine aW h7 rfl (aZ (bC h1 (aL (v:=zP (some ⟨b1,0,none⟩)) (aL (v:=i64 (wr (1+j.1))) ?_))))
    have s9:aD G K (box b1 72 [zS a2 b.length c3,i64 a1,Value.int .u64 a3]::aG 2 K a8 a9 a4::aG 9 K c d a.1::box g 27 e::L) s0:=(aD.arr 3 [2,0,1] h2 rfl)
    obtain ⟨Z,t0,hm⟩:=aC hm
    refine aQ (vs:=[zP (some ⟨b1,0,none⟩),i64 (wr (1+j.1))]) call36 rfl (bK t0 s9 o) ?_
    rintro _ x3 ⟨rfl,t1⟩
    refine bL (Kt:=K) (xs:=([Z.1]:List Int)) (cs:=[i64 Z.1]) (vs:=[(0,i64 Z.1)]) dA rZ rfl rfl t1 rfl (by kernel_rfl) rfl rfl rfl ⟨rfl,trivial⟩ (fun t2 t3 (t4:aD G K (aG 2 K t2 1 ([Z.1]:List Int)::box b1 72 [zS a2 b.length c3,i64 Z.2.1,Value.int .u64 Z.2.2]::aG 2 K a8 a9 a4::aG 9 K c d a.1::box g 27 e::L) t3)=>?_);obtain ⟨i1,t5,hm⟩:=aC hm
    exact eX (i:=1) dA underlying55 rZ rfl rfl t4 rfl (zR _) (zR _) t5 rfl rfl rfl rfl (fun _ h=>h) (fun i2 i3 t6 (t7:aD G K (box b1 72 [zS a2 b.length c3,i64 Z.2.1,Value.int .u64 Z.2.2]::aG 2 K i2 i3 i1::aG 9 K c d a.1::box g 27 e::L) t6)=>(aI (v:=zS i2 i1.length i3) (aJ (cT (aB ⟨bW,Z.2.1,Z.2.2,i1,i2,i3,hm,rfl,(aD.arr 3 [1,2,0] t7 rfl)⟩)))))
  ·refine aW h3 rfl (yH (iP (iP ?_)))
   have t8:=hr _ (zI hm).symm
   subst t8
   have hm:(rD b j p a a1 a3 a4)=some R:=ho
   clear hr ho
   exact pC (aB ⟨bW,a1,a3,a4,a8,a9,hm,h1,h2⟩)
theorem sC {a:(List UInt8)} {b c:Int} {R:(Int × Int × Int)} (hm:mO a b c=some R) (e:aD G K (aG 5 K a2 c3 a::box b1 72 [zS a2 a.length c3,i64 b,Value.int .u64 c]::L) w):
  Calls prog 80 ([zP (some ⟨b1,0,none⟩)]:List Value).toArray w (eR fun v w'=>v=i64 R.1/\aD G K (aG 5 K a2 c3 a::box b1 72 [zS a2 a.length c3,i64 R.2.1,Value.int .u64 R.2.2]::L) w'):=by
 refine aR func80 rfl (by kernel_rfl) (by show (1:Nat)<=62;decide) ?_;unfold mO at hm
 exact aO (aI (v:=i64 0) (aK (aO (aI (v:=i64 0) (aK (qE [0] (fun f w=>∃ d,vL a b c d=some R/\f 3=i64 d/\aD G K (aG 5 K a2 c3 a::box b1 72 [zS a2 a.length c3,i64 b,Value.int .u64 c]::L) w) aP aP))))))
theorem aFz {a:(List UInt8)} {b c n:Int} {R:(Int × (List UInt8) × Int × Int)} (hm:aEl a b c n=some R) (k:aD G K (aG 5 K a2 c3 a::box b1 72 [zS a2 a.length c3,i64 b,Value.int .u64 c]::L) w):
  Calls prog 36 ([zP (some ⟨b1,0,none⟩),i64 n]:List Value).toArray w (eR fun v w'=>∃ d e,v=i64 R.1/\aD G K (aG 5 K d e R.2.1::box b1 72 [zS d R.2.1.length e,i64 R.2.2.1,Value.int .u64 R.2.2.2]::L) w'):=by
 refine aR func36 rfl (by kernel_rfl) (by show (2:Nat)<=20;decide) ?_;unfold aEl at hm
 refine aO (aI (v:=i64 0) (aK (aM (aO (aL (v:=i64 n) (aH (R_leq rfl rfl) (aK ?_)))))))
 rcases aN hm with ⟨g,hm⟩|⟨g,hm⟩
 ·exact aP
 ·refine aW g rfl (bB (aB (aO (aL (v:=zP (some ⟨b1,0,none⟩)) ?_))));obtain ⟨l,m,hm⟩:=aC hm
  refine aQ (vs:=[zP (some ⟨b1,0,none⟩)]) call80 rfl (sC m k) ?_
  rintro _ o ⟨rfl,p⟩
  exact aI (v:=i64 l.1) (aK (qE [1] (fun f w=>∃ h i j,vM a n h i j=some R/\f 5=i64 h/\aD G K (aG 5 K a2 c3 a::box b1 72 [zS a2 a.length c3,i64 i,Value.int .u64 j]::L) w) aP aP))
theorem aIw {g:(List UInt8)} {a7 a8:Int} {R:(bF × Int × Int)} (hm:aBc g a7 a8=some R) (hs:aD G K (box b1 72 [zS a2 g.length c3,i64 a7,Value.int .u64 a8]::L) w) (z:bS K a2 c3 g):
  Calls prog 75 ([zP (some ⟨b1,0,none⟩)]:List Value).toArray w (eR fun v w'=>∃ b7 b8 b9 c0,v=zA (zCa R.1 b7 b8 b9 c0)/\aD G K (aG 9 K b7 b8 R.1.L::aG 46 K b9 c0 R.1.E::box b1 72 [zS a2 g.length c3,i64 R.2.1,Value.int .u64 R.2.2]::L) w'):=by
 let k:=zG
 refine aR func75 rfl (by kernel_rfl) (by show (1:Nat)<=56;decide) ?_;unfold aBc at hm
 refine aO (aX (vs:=k) zeroValue27 hs rfl (fun l w6 e8=>(aK (aO (aL (v:=zP (some ⟨b1,0,none⟩)) ?_)))))
 have e9:aD G K (box b1 72 [zS a2 g.length c3,i64 a7,Value.int .u64 a8]::box l 27 k::L) w6:=(aD.arr 2 [1,0] e8 rfl)
 obtain ⟨a,f0,hm⟩:=aC hm
 refine aQ (vs:=[zP (some ⟨b1,0,none⟩)]) call118 rfl (aEu f0 e9 z) ?_
 rintro _ h9 ⟨b,c,d,e,rfl,f1⟩
 refine aX (vs:=k) zeroValue27 f1 rfl (fun n i0 f2=>(bH (i:=0) (ns:=(zC a.1 b c d e)) (us:=(zC a.1 b c d e)) sizeOf27 f2 rfl rfl rfl rfl rfl (cK rfl) rfl rfl (fun f3 (f4:aD G K (box n 27 (zC a.1 b c d e)::aG 9 K b c a.1.L::aG 46 K d e a.1.E::box b1 72 [zS a2 g.length c3,i64 a.2.1,Value.int .u64 a.2.2]::box l 27 k::L) f3)=>(aK (aO (bL (Kt:=K) (xs:=([]:List Edge)) (cs:=[]) (vs:=[]) cM qA rfl rfl f4 rfl (by kernel_rfl) rfl rfl rfl trivial (fun c1 f5 (i1:aD G K (aG 46 K c1 0 ([]:List Edge)::box n 27 (zC a.1 b c d e)::aG 9 K b c a.1.L::aG 46 K d e a.1.E::box b1 72 [zS a2 g.length c3,i64 a.2.1,Value.int .u64 a.2.2]::box l 27 k::L) f5)=>(aI (v:=zS c1 ([]:List Edge).length 0) (aK (aM (aO (aI (v:=i64 0) (aK (aV [0,2,3] (fun f w=>∃ V Z q a0 a1,yV g a V Z q=some R/\f 4=zS a0 q.length a1/\aD G K (aG 46 K a0 a1 q::box n 27 (zC a.1 b c d e)::aG 9 K b c a.1.L::aG 46 K d e a.1.E::box b1 72 [zS a2 g.length c3,i64 V,Value.int .u64 Z]::box l 27 k::L) w) ?_ ?_))))))))))))))
 ·rintro f f6 ⟨V,Z,q,a0,a1,hm,i2,f7⟩
  unfold yV at hm
  refine aB (aM (aO (aL (v:=zP (some ⟨b1,0,none⟩)) ?_)))
  have f8:aD G K (box b1 72 [zS a2 g.length c3,i64 V,Value.int .u64 Z]::aG 46 K a0 a1 q::box n 27 (zC a.1 b c d e)::aG 9 K b c a.1.L::aG 46 K d e a.1.E::box l 27 k::L) f6:=(aD.arr 5 [4,0,1,2,3] f7 rfl)
  obtain ⟨f9,g0,hm⟩:=aC hm
  refine aQ (vs:=[zP (some ⟨b1,0,none⟩),i64 3]) call36 rfl (bK g0 f8 z) ?_
  rintro _ i3 ⟨rfl,i4⟩
  refine aI (v:=i64 f9.1) (aK (aV [2,3] (fun f w=>∃ a9 c2 c4 c5 c6,aCO a a9 c2 c4=some R/\f 4=zS c5 a9.length c6/\aD G K (aG 46 K c5 c6 a9::box b1 72 [zS a2 g.length c3,i64 c2,Value.int .u64 c4]::box n 27 (zC a.1 b c d e)::aG 9 K b c a.1.L::aG 46 K d e a.1.E::box l 27 k::L) w) aP ?_));obtain ⟨i5,g1,ho⟩:=aC hm
  refine mX [0,2,3] g1 (fun c7 c8 a3 c9 f w=>∃ a4 a5,f 4=zS a4 a3.length a5/\f 7=i64 c9/\aD G K (box b1 72 [zS a2 g.length c3,i64 c7,Value.int .u64 c8]::aG 46 K a4 a5 a3::box n 27 (zC a.1 b c d e)::aG 9 K b c a.1.L::aG 46 K d e a.1.E::box l 27 k::L) w) aP ?_
  ·rintro c7 c8 a3 c9 i6 f i7 hm hr ⟨a4,a5,g2,g3,g4⟩
   unfold pL at hm
   refine aM (aO (bC g3 (aH (sZ rfl rfl) (aK ?_))))
   rcases aN hm with ⟨d0,hm⟩|⟨d0,hm⟩
   ·refine aT d0 rfl (bB (aB (aM (cS ?_))));obtain ⟨b0,a6,d1,d2,g5⟩:=aD.lendBp g4 zt2
    refine dX (C:=fun w'=>∃ L',aD G b0 L' w') [(0,0),(1,0),(2,0),(3,0),(5,0),(6,0),(7,0),(4,1),(8,1),(9,0),(10,1),(11,1),(12,0)] Tryz_mixed (by kernel_rfl) (fun _ hg=>⟨_,aD.mono d2 hg⟩) (fun i8 g6=>?_)
    have r:=aD.mono d2 g6
    refine bZ rfl (fun _ _=>bJ g2) (bZ rfl (fun _ _=>bJ (v:=zP (some ⟨b1,0,none⟩)) rfl) (bZ rfl (fun _ _=>bP (t':=0) lB rfl rfl) (bZ rfl (fun _ ⟨_,r⟩=>bG (t:=0) fK r d1 rfl rfl) (bZ rfl (fun _ _=>bJ (v:=zP (some ⟨b1,0,none⟩)) rfl) (bZ rfl (fun _ _=>bP (t':=0) lB rfl rfl) (bZ rfl (fun _ ⟨_,r⟩=>bG (t:=0) fK r d1 rfl rfl) (gP rfl ?_)))))));obtain ⟨o,g7,hm⟩:=aC hm
    refine aQ (vs:=[zP (some ⟨b1,0,none⟩),i64 a.1.N]) call36 rfl (bK g7 r (z.mono a6)) ?_
    rintro _ i9 ⟨rfl,d3⟩
    refine aJ (aB ⟨⟨_,d3⟩,?_⟩)
    refine gP rfl ?_;obtain ⟨m,g8,hm⟩:=aC hm
    refine aQ (vs:=[zP (some ⟨b1,0,none⟩),i64 a.1.N]) call36 rfl (bK g8 d3 (z.mono a6)) ?_
    rintro _ j0 ⟨rfl,d4⟩
    refine aJ (aB ⟨⟨_,d4⟩,?_⟩)
    refine bZ rfl (fun _ _=>fF (vs:=[(0,i64 o.1),(2,i64 m.1)]) (cs:=[i64 o.1,i64 0,i64 m.1]) aFk rfl (by kernel_rfl)) (gP rfl (bL (Kt:=K) (xs:=([⟨o.1,0,m.1⟩]:List Edge)) (cs:=[i64 o.1,i64 0,i64 m.1]) (vs:=[(0,zA #[i64 o.1,i64 0,i64 m.1])]) cM qA rfl rfl d4 rfl (by kernel_rfl) rfl rfl rfl ⟨rfl,trivial⟩ (fun g9 h0 (d5:aD G b0 (aG 46 K g9 1 ([⟨o.1,0,m.1⟩]:List Edge)::box b1 72 [zS a2 g.length c3,i64 m.2.1,Value.int .u64 m.2.2]::aG 46 K a4 a5 a3::aG 9 K b c a.1.L::aG 46 K d e a.1.E::box l 27 k::L) h0)=>(aJ (aB ⟨⟨_,d5⟩,?_⟩)))))
    refine gP rfl ?_;obtain ⟨d6,h1,hm⟩:=aC hm
    refine eX (i:=1) cM underlying25 qA rfl rfl d5 rfl a6 a6 h1 rfl rfl rfl rfl (fun _ h=>h) (fun d7 d8 h2 (d9:aD G b0 (box b1 72 [zS a2 g.length c3,i64 m.2.1,Value.int .u64 m.2.2]::aG 46 K d7 d8 d6::aG 9 K b c a.1.L::aG 46 K d e a.1.E::box l 27 k::L) h2)=>(aJ (aB ⟨⟨_,d9⟩,?_⟩)))
    refine bZ rfl (fun _ _=>cU (v:=zS d7 d6.length d8) rfl) (aCv ?_)
    have j1:=g5 _ _ d9
    exact aP
   ·exact aP
 obtain ⟨j2,h3,ho⟩:=aC hm
 refine mX [0,2,3] h3 (fun b2 b3 p b4 f w=>∃ u x,f 4=zS u p.length x/\f 5=i64 b4/\aD G K (aG 46 K u x p::box n 27 (zC a.1 b c d e)::aG 9 K b c a.1.L::aG 46 K d e a.1.E::box b1 72 [zS a2 g.length c3,i64 b2,Value.int .u64 b3]::box l 27 k::L) w) aP ?_
 ·rintro b2 b3 p b4 h5 f j3 hm hr ⟨u,x,j4,e0,y⟩
  unfold pM at hm
  refine aM (aO (bC e0 (aH (bP (t':=3) dF rfl rfl) (aH (fP iT y (i:=1) rfl rfl rfl) (aH (bI (len:=a.1.E.length) cM rfl) (aH (cQ rfl rfl) (aK ?_)))))))
  rcases aN hm with ⟨e1,hm⟩|⟨e1,hm⟩
  ·refine aT e1 rfl (bB (aB (aM (cS (aO (aH (bP (t':=3) dF rfl rfl) (aH (fP iT y (i:=1) rfl rfl rfl) (bC e0 ?_))))))));obtain ⟨j,b6,hm⟩:=aC hm
   have h6:=dM y (i:=3) rfl b6
   exact aH (fQ cM rfl h6 rfl rfl rfl b6) (aH (aCs (t:=0) (vs:=[i64 j.F,i64 j.B,i64 j.To]) tE y (i:=3) rfl b6 rfl rfl rfl rfl) (aX (vs:=[i64 0,i64 0,i64 0]) zeroValue46 y rfl (fun e2 j5 h7=>(bH (i:=0) (ns:=[i64 j.F,i64 j.B,i64 j.To]) (us:=[i64 j.F,i64 j.B,i64 j.To]) sizeOf46 h7 rfl rfl rfl rfl rfl (cK rfl) rfl rfl (fun h8 (j6:aD G K (box e2 46 [i64 j.F,i64 j.B,i64 j.To]::aG 46 K u x p::box n 27 (zC a.1 b c d e)::aG 9 K b c a.1.L::aG 46 K d e a.1.E::box b1 72 [zS a2 g.length c3,i64 b2,Value.int .u64 b3]::box l 27 k::L) h8)=>(aK (qE [0,2,3,4,5,6] (fun f w=>∃ e3 e4 e5,tP p b4 j e3 e4 e5=some h5/\aD G K (box e2 46 [i64 j.F,i64 e5,i64 j.To]::aG 46 K u x p::box n 27 (zC a.1 b c d e)::aG 9 K b c a.1.L::aG 46 K d e a.1.E::box b1 72 [zS a2 g.length c3,i64 e3,Value.int .u64 e4]::box l 27 k::L) w) aP aP)))))))
  ·exact aP
theorem aDf {a:(List UInt8)} {c d:Int} {b:(List aF)} {R:(aF × Int × Int)} (hm:rQ a c d b=some R) (e:aD G K (box b1 72 [zS a2 a.length c3,i64 c,Value.int .u64 d]::L) w) (g:bS K a2 c3 a) (h:bS K a5 c6 b):
  Calls prog 38 ([zP (some ⟨b1,0,none⟩),zS a5 b.length c6]:List Value).toArray w (eR fun v w'=>v=str R.1/\aD G K (box b1 72 [zS a2 a.length c3,i64 R.2.1,Value.int .u64 R.2.2]::L) w'):=by
 exact aP
theorem aKk {g:(List UInt8)} {b0 b2:Int} {t:bF} {R:(bF × Int × Int)} (hm:aCg g b0 b2 t=some R) (hs:aD G K (box b1 72 [zS a2 g.length c3,i64 b0,Value.int .u64 b2]::L) w) (x:bS K a2 c3 g) (h7:bS K a5 c6 t.L) (j3:bS K a8 c9 t.E):
  Calls prog 76 ([zP (some ⟨b1,0,none⟩),zA (zCa t a5 c6 a8 c9)]:List Value).toArray w (eR fun v w'=>∃ d2 d3 d4 d5,v=zA (zCa R.1 d2 d3 d4 d5)/\aD G K (aG 9 K d2 d3 R.1.L::aG 46 K d4 d5 R.1.E::box b1 72 [zS a2 g.length c3,i64 R.2.1,Value.int .u64 R.2.2]::L) w'):=by
 let l:=(zC t a5 c6 a8 c9)
 let k:=zG
 let d6:=box b1 72 [zS a2 g.length c3,i64 b0,Value.int .u64 b2]
 refine aR func76 rfl (by kernel_rfl) (by show (2:Nat)<=110;decide) ?_;unfold aCg at hm
 refine aO (fL (v:=zA (zCa t a5 c6 a8 c9)) (vs:=l) hs rfl rfl (fun m q7 j4=>(aX (vs:=k) zeroValue27 j4 rfl (fun n q8 j5=>(aK (aO ?_))))));obtain ⟨q9,d7,j6,j7,j8⟩:=aD.lendBp j5 zt1
 obtain ⟨a,j9,hm⟩:=aC hm
 refine aQ (vs:=[cP (some ⟨m,0,none⟩) 0]) call35 rfl (aAS j9 j7 j6 (h7.mono d7) (j3.mono d7)) ?_
 rintro _ r0 ⟨b,c,d,e,rfl,k0⟩
 have k1:=j8 _ _ k0
 refine aX (vs:=k) zeroValue27 k1 rfl (fun p r1 k2=>(bH (i:=0) (ns:=(zC a b c d e)) (us:=(zC a b c d e)) sizeOf27 k2 rfl rfl rfl rfl rfl (cK rfl) rfl rfl (fun d8 (k3:aD G K (box p 27 (zC a b c d e)::box m 27 l::aG 9 K b c a.L::aG 46 K d e a.E::box n 27 k::d6::L) d8)=>(aK (aM (aO (aL (v:=zP (some ⟨b1,0,none⟩)) ?_)))))))
 have k4:aD G K (d6::box p 27 (zC a b c d e)::box m 27 l::aG 9 K b c a.L::aG 46 K d e a.E::box n 27 k::L) d8:=(aD.arr 6 [5,0,1,2,3,4] k3 rfl)
 obtain ⟨r2,k5,hm⟩:=aC hm
 refine aQ (vs:=[zP (some ⟨b1,0,none⟩),i64 8]) call34 rfl (oJ k5 k4 x) ?_
 rintro _ r3 ⟨rfl,k6⟩
 refine aH (rA rfl) (aK ?_)
 rcases aN hm with ⟨d9,hm⟩|⟨d9,hm⟩
 ·exact aP
 ·refine aW d9 rfl (bB (aB (aM (aO (aL (v:=zP (some ⟨b1,0,none⟩)) ?_)))));obtain ⟨j,k7,hm⟩:=aC hm
  refine aQ (vs:=[zP (some ⟨b1,0,none⟩),i64 8]) call36 rfl (bK k7 k6 x) ?_
  rintro _ r4 ⟨rfl,o⟩
  refine aK (aV [4,5] (fun f w=>∃ e0 e1 b3 b4 e2 e3 e4 e5 e6 e7,gG e0 e1 b3 b4 e2 e3=some R/\aD G K (box b1 72 [zS a2 g.length c3,i64 e2,Value.int .u64 e3]::box p 27 [i64 e0,i64 e1,zS e4 b3.length e5,zS e6 b4.length e7]::aG 9 K e4 e5 b3::aG 46 K e6 e7 b4::box n 27 k::L) w) aP (aO (aH (nW rfl rfl) (aI (v:=zB (j.1 == 0)) (aK ?_)))))
  rcases aN hm with ⟨b5,hm⟩|⟨b5,hm⟩
  ·refine aT b5 rfl (aZ (aL (v:=zP (some ⟨b1,0,none⟩)) (aH (bP (t':=0) lB rfl rfl) (aH (fP fK o (i:=1) rfl rfl rfl) (aH (qZ rfl rfl) (bL (Kt:=K) (xs:=([0,(-1),41,40,wr (a.N - 1)]:List Int)) (cs:=[i64 0,i64 (-1),i64 41,i64 40,i64 (wr (a.N - 1))]) (vs:=[(0,i64 0),(1,i64 (-1)),(2,i64 41),(3,i64 40),(4,i64 (wr (a.N - 1)))]) dA rZ rfl rfl o rfl (by kernel_rfl) rfl rfl rfl ⟨rfl,rfl,rfl,rfl,rfl,trivial⟩ (fun k8 k9 (l0:aD G K (aG 2 K k8 5 ([0,(-1),41,40,wr (a.N - 1)]:List Int)::box b1 72 [zS a2 g.length c3,i64 j.2.1,Value.int .u64 j.2.2]::box p 27 (zC a b c d e)::box m 27 l::aG 9 K b c a.L::aG 46 K d e a.E::box n 27 k::L) k9)=>?_)))))))
   obtain ⟨r5,r6,r7,r8,r9⟩:=aD.lendSp l0 (zR _) .head
   exact aP
  ·refine aW b5 rfl (aO (aH (nW rfl rfl) (aI (v:=zB (j.1 == 1)) (aK ?_))))
   rcases aN hm with ⟨b6,hm⟩|⟨b6,hm⟩
   ·refine aT b6 rfl (aZ (aL (v:=zP (some ⟨b1,0,none⟩)) (aH (bP (t':=0) lB rfl rfl) (aH (fP fK o (i:=1) rfl rfl rfl) (bL (Kt:=K) (xs:=([(-1),a.N]:List Int)) (cs:=[i64 (-1),i64 a.N]) (vs:=[(0,i64 (-1)),(1,i64 a.N)]) dA rZ rfl rfl o rfl (by kernel_rfl) rfl rfl rfl ⟨rfl,rfl,trivial⟩ (fun l1 l2 (l3:aD G K (aG 2 K l1 2 ([(-1),a.N]:List Int)::box b1 72 [zS a2 g.length c3,i64 j.2.1,Value.int .u64 j.2.2]::box p 27 (zC a b c d e)::box m 27 l::aG 9 K b c a.L::aG 46 K d e a.E::box n 27 k::L) l2)=>?_))))))
    obtain ⟨s0,s1,s2,s3,s4⟩:=aD.lendSp l3 (zR _) .head
    exact aP
   ·refine aW b6 rfl (aO (aH (nW rfl rfl) (aI (v:=zB (j.1 == 2)) (aK ?_))))
    rcases aN hm with ⟨b7,hm⟩|⟨b7,hm⟩
    ·refine aT b7 rfl (aZ (aH (bP (t':=2) fT rfl rfl) (aH (fP gY o (i:=1) rfl rfl rfl) ?_)));obtain ⟨s5,b8,hm⟩:=aC hm
     have l4:=dM o (i:=3) rfl b8
     refine aH (fQ bE rfl l4 rfl rfl rfl b8) ?_;obtain ⟨b9,e8,hm⟩:=aC hm
     refine pD (i:=3) (t:=0) (ns:=[str ([97]:aF)]) (e':=(([97]:aF):aF)) sizeOf9 o rfl (zR _) rfl rfl rfl b8 e8 rfl rfl (cK rfl) rfl (fun cs h=>by cases h;rfl) (fun e9 (l5:aD G K (box b1 72 [zS a2 g.length c3,i64 j.2.1,Value.int .u64 j.2.2]::box p 27 (zC a b c d e)::box m 27 l::aG 9 K b c b9::aG 46 K d e a.E::box n 27 k::L) e9)=>?_)
     have s6:aD G K (box b1 72 [zS a2 g.length c3,i64 j.2.1,Value.int .u64 j.2.2]::box p 27 [i64 a.N,i64 a.I,zS b b9.length c,zS d a.E.length e]::box m 27 l::aG 9 K b c b9::aG 46 K d e a.E::box n 27 k::L) e9:=by rw [←(mV e8)];exact l5
     exact aP
    ·refine aW b7 rfl (aO (aH (nW rfl rfl) (aI (v:=zB (j.1 == 3)) (aK ?_))))
     rcases aN hm with ⟨c0,hm⟩|⟨c0,hm⟩
     ·refine aT c0 rfl ?_;obtain ⟨a3,a4,l6,f0,l7⟩:=aD.lendBp o zt1
      refine dX (C:=fun w'=>∃ L',aD G a3 L' w') [(0,0),(1,0),(2,0),(3,1),(4,1),(5,1),(6,1),(7,0),(8,2)] Tryz_mixed (by kernel_rfl) (fun _ hg=>⟨_,aD.mono f0 hg⟩) (fun s7 l8=>?_)
      have c1:=aD.mono f0 l8
      refine bZ rfl (fun _ _=>bP (t':=2) fT rfl rfl) (bZ rfl (fun _ ⟨_,c1⟩=>bG (t:=2) gY c1 l6 rfl rfl) (bZ rfl (fun _ _=>bJ (v:=zP (some ⟨b1,0,none⟩)) rfl) (gP rfl (bL (Kt:=K) (xs:=([([116,97,117]:aF),([97]:aF),([122,122]:aF),([65]:aF),([]:aF)]:List aF)) (cs:=[str ([116,97,117]:aF),str ([97]:aF),str ([122,122]:aF),str ([65]:aF),str ([]:aF)]) (vs:=[(0,str ([116,97,117]:aF)),(1,str ([97]:aF)),(2,str ([122,122]:aF)),(3,str ([65]:aF)),(4,str ([]:aF))]) bE iW rfl rfl c1 rfl (by kernel_rfl) rfl rfl rfl ⟨rfl,rfl,rfl,rfl,rfl,trivial⟩ (fun a6 l9 (f1:aD G a3 (aG 9 K a6 5 ([([116,97,117]:aF),([97]:aF),([122,122]:aF),([65]:aF),([]:aF)]:List aF)::box b1 72 [zS a2 g.length c3,i64 j.2.1,Value.int .u64 j.2.2]::box m 27 l::aG 9 K b c a.L::aG 46 K d e a.E::box n 27 k::L) l9)=>(aJ (aB ⟨⟨_,f1⟩,?_⟩)))))))
      refine gP rfl ?_;obtain ⟨s8,m0,m1,m2,m3⟩:=aD.lendSp f1 a4 .head
      obtain ⟨r,m4,hm⟩:=aC hm
      refine aQ (vs:=[zP (some ⟨b1,0,none⟩),zS a6 ([([116,97,117]:aF),([97]:aF),([122,122]:aF),([65]:aF),([]:aF)]:List aF).length 5]) call38 rfl (aDf m4 m2 (x.mono (Hp.le_trans a4 m0)) m1) ?_
      rintro _ s9 ⟨rfl,m5⟩
      have f2:=m3 _ _ m5
      refine aJ (aB ⟨⟨_,f2⟩,?_⟩)
      refine gP rfl (bL (Kt:=K) (xs:=([r.1]:List aF)) (cs:=[str r.1]) (vs:=[(0,str r.1)]) bE iW rfl rfl f2 rfl (by kernel_rfl) rfl rfl rfl ⟨rfl,trivial⟩ (fun m6 m7 (f3:aD G a3 (aG 9 K m6 1 ([r.1]:List aF)::aG 9 K a6 5 ([([116,97,117]:aF),([97]:aF),([122,122]:aF),([65]:aF),([]:aF)]:List aF)::box b1 72 [zS a2 g.length c3,i64 r.2.1,Value.int .u64 r.2.2]::box m 27 l::aG 9 K b c a.L::aG 46 K d e a.E::box n 27 k::L) m7)=>(aJ (aB ⟨⟨_,f3⟩,?_⟩))))
      refine gP rfl ?_;obtain ⟨m8,m9,hm⟩:=aC hm
      refine eX (i:=3) bE underlying24 iW rfl rfl f3 rfl a4 a4 m9 rfl rfl rfl rfl (fun _ h=>h) (fun n0 n1 n2 (f4:aD G a3 (aG 9 K a6 5 ([([116,97,117]:aF),([97]:aF),([122,122]:aF),([65]:aF),([]:aF)]:List aF)::box b1 72 [zS a2 g.length c3,i64 r.2.1,Value.int .u64 r.2.2]::box m 27 l::aG 9 K n0 n1 m8::aG 46 K d e a.E::box n 27 k::L) n2)=>(aJ (aB ⟨⟨_,f4⟩,?_⟩)))
      refine bZ rfl (fun _ _=>bP (t':=2) fT rfl rfl) ?_
      have t0:=l7 _ _ f4
      exact aP
     ·refine aW c0 rfl (aO (aH (nW rfl rfl) (aI (v:=zB (j.1 == 4)) (aK ?_))))
      rcases aN hm with ⟨c2,hm⟩|⟨c2,hm⟩
      ·refine aT c2 rfl (aO (aH (bP (t':=3) dF rfl rfl) (aH (fP iT o (i:=1) rfl rfl rfl) (aH (bI (len:=a.E.length) cM rfl) (aH (sZ rfl rfl) (aK ?_))))))
       rcases aN hm with ⟨f5,hm⟩|⟨f5,hm⟩
       ·refine aT f5 rfl ?_;obtain ⟨t1,n3,f6,n4,n5⟩:=aD.lendBp o zt1
        obtain ⟨f7,f8,f9,g0,n6⟩:=aD.lendSp n4 n3 zt3
        refine dX (C:=fun w'=>∃ L',aD G f7 L' w') [(0,3),(1,0),(2,3),(3,1),(4,1),(5,1),(6,1),(7,2),(8,3),(9,2)] Tryz_mixed (by kernel_rfl) (fun _ hg=>⟨_,aD.mono g0 hg⟩) (fun t2 n7=>?_)
        have u:=aD.mono g0 n7
        refine WE_t rfl (fun _=>bP (t':=3) dF rfl rfl) (bZ rfl (fun _ ⟨_,u⟩=>bG (t:=3) iT u (f6.mono f8) rfl rfl) (WE_t rfl (fun _=>bP (t':=3) dF rfl rfl) (gP rfl (aH (bG (t:=3) iT u (f6.mono f8) rfl rfl) (aJ (aB ⟨⟨_,u⟩,?_⟩))))))
        refine gP rfl ?_;obtain ⟨q,c4,hm⟩:=aC hm
        have n8:=aHD f9 c4
        refine aH (fQ cM rfl n8 rfl rfl rfl c4) (aJ (aB ⟨⟨_,u⟩,?_⟩))
        refine gP rfl ?_;obtain ⟨t3,n9,o0⟩:=bS.el (sz:=3) rfl f9 c4
        cases o0
        refine aH (eJ (t:=0) (vs:=[i64 q.F,i64 q.B,i64 q.To]) tE u n9 rfl rfl rfl) (aJ (aB ⟨⟨_,u⟩,?_⟩))
        refine gP rfl (bL (Kt:=K) (xs:=([q]:List Edge)) (cs:=[i64 q.F,i64 q.B,i64 q.To]) (vs:=[(0,zA #[i64 q.F,i64 q.B,i64 q.To])]) cM qA rfl rfl u rfl (by kernel_rfl) rfl rfl rfl ⟨rfl,trivial⟩ (fun g1 g2 (g3:aD G f7 (aG 46 K g1 1 ([q]:List Edge)::box b1 72 [zS a2 g.length c3,i64 j.2.1,Value.int .u64 j.2.2]::box m 27 l::aG 9 K b c a.L::box n 27 k::L) g2)=>(aJ (aB ⟨⟨_,g3⟩,?_⟩))))
        have o1:=n6 _ _ g3
        have o2:=n5 _ _ o1
        refine aFy rfl ?_;obtain ⟨t4,t5,hm⟩:=aC hm
        have t6:aD G K (aG 46 K g1 1 ([q]:List Edge)::box p 27 (zC a b c d e)::aG 46 K d e a.E::box b1 72 [zS a2 g.length c3,i64 j.2.1,Value.int .u64 j.2.2]::box m 27 l::aG 9 K b c a.L::box n 27 k::L) g2:=(aD.arr 3 [2,0,1] o2 rfl)
        exact aP
       ·exact aP
      ·refine aW c2 rfl (aO (aH (nW rfl rfl) (aI (v:=zB (j.1 == 5)) (aK ?_))))
       rcases aN hm with ⟨c5,hm⟩|⟨c5,hm⟩
       ·refine aT c5 rfl (aO (aH (bP (t':=3) dF rfl rfl) (aH (fP iT o (i:=1) rfl rfl rfl) (aH (bI (len:=a.E.length) cM rfl) (aH (sZ rfl rfl) (aK ?_))))))
        rcases aN hm with ⟨g4,hm⟩|⟨g4,hm⟩
        ·refine aT g4 rfl (aO (aL (v:=zP (some ⟨b1,0,none⟩)) (aH (bP (t':=3) dF rfl rfl) (aH (fP iT o (i:=1) rfl rfl rfl) (aH (bI (len:=a.E.length) cM rfl) ?_)))));obtain ⟨a0,o3,hm⟩:=aC hm
         refine aQ (vs:=[zP (some ⟨b1,0,none⟩),i64 (a.E.length:Int)]) call36 rfl (bK o3 o x) ?_
         rintro _ t7 ⟨rfl,o4⟩
         refine aI (v:=i64 a0.1) (aK ?_);obtain ⟨g5,g6,g7,g8,o5⟩:=aD.lendBp o4 zt1
         refine dX (C:=fun w'=>∃ L',aD G g5 L' w') [(0,0),(1,0),(2,0),(3,0),(4,1),(5,1),(6,1),(7,1),(8,1),(9,2),(10,2),(11,2)] Tryz_mixed (by kernel_rfl) (fun _ hg=>⟨_,aD.mono g8 hg⟩) (fun t8 o6=>?_)
         have y:=aD.mono g8 o6
         refine bZ rfl (fun _ _=>bP (t':=3) dF rfl rfl) (bZ rfl (fun _ ⟨_,y⟩=>bG (t:=3) iT y g7 rfl rfl) (bZ rfl (fun _ _=>bJ (v:=i64 a0.1) rfl) (bZ rfl (fun _ _=>bJ (v:=zP (some ⟨b1,0,none⟩)) rfl) (gP rfl (aH (bP (t':=2) fT rfl rfl) (aJ (aB ⟨⟨_,y⟩,?_⟩)))))))
         refine gP rfl (aH (bG (t:=2) gY y g7 rfl rfl) (aJ (aB ⟨⟨_,y⟩,?_⟩)))
         refine gP rfl (aH (bI (len:=a.L.length) bE rfl) (aJ (aB ⟨⟨_,y⟩,?_⟩)))
         refine gP rfl (bL (Kt:=K) (xs:=([(-1),(a.L.length:Int),0]:List Int)) (cs:=[i64 (-1),i64 (a.L.length:Int),i64 0]) (vs:=[(0,i64 (-1)),(1,i64 (a.L.length:Int)),(2,i64 0)]) dA rZ rfl rfl y rfl (by kernel_rfl) rfl rfl rfl ⟨rfl,rfl,rfl,trivial⟩ (fun a7 o7 (g9:aD G g5 (aG 2 K a7 3 ([(-1),(a.L.length:Int),0]:List Int)::box b1 72 [zS a2 g.length c3,i64 a0.2.1,Value.int .u64 a0.2.2]::box m 27 l::aG 9 K b c a.L::aG 46 K d e a.E::box n 27 k::L) o7)=>(aJ (aB ⟨⟨_,g9⟩,?_⟩))))
         refine gP rfl ?_;obtain ⟨t9,o8,o9,p0,p1⟩:=aD.lendSp g9 g6 .head
         obtain ⟨z,p2,hm⟩:=aC hm
         refine aQ (vs:=[zP (some ⟨b1,0,none⟩),zS a7 ([(-1),(a.L.length:Int),0]:List Int).length 3]) call119 rfl (oZ p2 p0 (x.mono (Hp.le_trans g6 o8)) o9) ?_
         rintro _ u0 ⟨rfl,p3⟩
         have h0:=p1 _ _ p3
         refine aJ (aB ⟨⟨_,h0⟩,?_⟩)
         have h1:=o5 _ _ h0
         refine aFy rfl ?_;obtain ⟨h2,c7,hm⟩:=aC hm
         have h3:=dM h1 (i:=5) rfl c7
         refine aH (fQ cM rfl h3 rfl rfl rfl c7) (aK (aFy rfl (aH (aMr (k':=a0.1.toNat * 3+1) aAG h3 rfl rfl) (aK (aFy rfl ?_)))));obtain ⟨c8,h5,hm⟩:=aC hm
         refine pD (i:=5) (t:=1) (ns:=[i64 z.1]) (e':=(⟨h2.F,z.1,h2.To⟩:Edge)) sizeOf2 h1 rfl (zR _) rfl rfl rfl c7 h5 rfl rfl (cK rfl) rfl (fun cs h=>by cases h;rfl) (fun h6 (p4:aD G K (box p 27 (zC a b c d e)::aG 2 K a7 3 ([(-1),(a.L.length:Int),0]:List Int)::box b1 72 [zS a2 g.length c3,i64 z.2.1,Value.int .u64 z.2.2]::box m 27 l::aG 9 K b c a.L::aG 46 K d e c8::box n 27 k::L) h6)=>?_)
         have u1:aD G K (box p 27 [i64 a.N,i64 a.I,zS b a.L.length c,zS d c8.length e]::aG 2 K a7 3 ([(-1),(a.L.length:Int),0]:List Int)::box b1 72 [zS a2 g.length c3,i64 z.2.1,Value.int .u64 z.2.2]::box m 27 l::aG 9 K b c a.L::aG 46 K d e c8::box n 27 k::L) h6:=by rw [←(mV h5)];exact p4
         exact aP
        ·exact aP
       ·refine aW c5 rfl (aO (aH (nW rfl rfl) (aI (v:=zB (j.1 == 6)) (aK ?_))))
        rcases aN hm with ⟨h8,hm⟩|⟨h8,hm⟩
        ·refine aT h8 rfl (aO (aH (bP (t':=3) dF rfl rfl) (aH (fP iT o (i:=1) rfl rfl rfl) (aH (bI (len:=a.E.length) cM rfl) (aH (sZ rfl rfl) (aK ?_))))))
         rcases aN hm with ⟨h9,hm⟩|⟨h9,hm⟩
         ·refine aT h9 rfl (aO (aL (v:=zP (some ⟨b1,0,none⟩)) (aH (bP (t':=3) dF rfl rfl) (aH (fP iT o (i:=1) rfl rfl rfl) (aH (bI (len:=a.E.length) cM rfl) ?_)))));obtain ⟨a1,p5,hm⟩:=aC hm
          refine aQ (vs:=[zP (some ⟨b1,0,none⟩),i64 (a.E.length:Int)]) call36 rfl (bK p5 o x) ?_
          rintro _ u2 ⟨rfl,p6⟩
          refine aI (v:=i64 a1.1) (aK ?_);obtain ⟨i0,i1,i2,i3,p7⟩:=aD.lendBp p6 zt1
          refine dX (C:=fun w'=>∃ L',aD G i0 L' w') [(0,0),(1,0),(2,0),(3,0),(4,1),(5,1),(6,1),(7,1),(8,2),(9,2),(10,2)] Tryz_mixed (by kernel_rfl) (fun _ hg=>⟨_,aD.mono i3 hg⟩) (fun u3 p8=>?_)
          have V:=aD.mono i3 p8
          refine bZ rfl (fun _ _=>bP (t':=3) dF rfl rfl) (bZ rfl (fun _ ⟨_,V⟩=>bG (t:=3) iT V i2 rfl rfl) (bZ rfl (fun _ _=>bJ (v:=i64 a1.1) rfl) (bZ rfl (fun _ _=>bJ (v:=zP (some ⟨b1,0,none⟩)) rfl) (gP rfl (aH (bP (t':=0) lB rfl rfl) (aJ (aB ⟨⟨_,V⟩,?_⟩)))))))
          refine gP rfl (aH (bG (t:=0) fK V i2 rfl rfl) (aJ (aB ⟨⟨_,V⟩,?_⟩)))
          refine gP rfl (bL (Kt:=K) (xs:=([(-1),a.N,0]:List Int)) (cs:=[i64 (-1),i64 a.N,i64 0]) (vs:=[(0,i64 (-1)),(1,i64 a.N),(2,i64 0)]) dA rZ rfl rfl V rfl (by kernel_rfl) rfl rfl rfl ⟨rfl,rfl,rfl,trivial⟩ (fun a9 p9 (i4:aD G i0 (aG 2 K a9 3 ([(-1),a.N,0]:List Int)::box b1 72 [zS a2 g.length c3,i64 a1.2.1,Value.int .u64 a1.2.2]::box m 27 l::aG 9 K b c a.L::aG 46 K d e a.E::box n 27 k::L) p9)=>(aJ (aB ⟨⟨_,i4⟩,?_⟩))))
          refine gP rfl ?_;obtain ⟨u4,q0,q1,q2,q3⟩:=aD.lendSp i4 i1 .head
          obtain ⟨Z,q4,hm⟩:=aC hm
          refine aQ (vs:=[zP (some ⟨b1,0,none⟩),zS a9 ([(-1),a.N,0]:List Int).length 3]) call119 rfl (oZ q4 q2 (x.mono (Hp.le_trans i1 q0)) q1) ?_
          rintro _ u5 ⟨rfl,q5⟩
          have i5:=q3 _ _ q5
          refine aJ (aB ⟨⟨_,i5⟩,?_⟩)
          have i6:=p7 _ _ i5
          refine aFy rfl ?_;obtain ⟨i7,d0,hm⟩:=aC hm
          have i8:=dM i6 (i:=5) rfl d0
          refine aH (fQ cM rfl i8 rfl rfl rfl d0) (aK (aFy rfl (aH (aMr (k':=a1.1.toNat * 3+2) aBM i8 rfl rfl) (aK (aFy rfl ?_)))));obtain ⟨d1,i9,hm⟩:=aC hm
          refine pD (i:=5) (t:=2) (ns:=[i64 Z.1]) (e':=(⟨i7.F,i7.B,Z.1⟩:Edge)) sizeOf2 i6 rfl (zR _) rfl rfl rfl d0 i9 rfl rfl (cK rfl) rfl (fun cs h=>by cases h;rfl) (fun j0 (q6:aD G K (box p 27 (zC a b c d e)::aG 2 K a9 3 ([(-1),a.N,0]:List Int)::box b1 72 [zS a2 g.length c3,i64 Z.2.1,Value.int .u64 Z.2.2]::box m 27 l::aG 9 K b c a.L::aG 46 K d e d1::box n 27 k::L) j0)=>?_)
          have u6:aD G K (box p 27 [i64 a.N,i64 a.I,zS b a.L.length c,zS d d1.length e]::aG 2 K a9 3 ([(-1),a.N,0]:List Int)::box b1 72 [zS a2 g.length c3,i64 Z.2.1,Value.int .u64 Z.2.2]::box m 27 l::aG 9 K b c a.L::aG 46 K d e d1::box n 27 k::L) j0:=by rw [←(mV i9)];exact q6
          exact aP
         ·exact aP
        ·exact aP
theorem aFY {a:(List UInt8)} {b c:Int} {R:(bF × Int × Int)} (hm:aEm a b c=some R) (i:aD G K (box b1 72 [zS a2 a.length c3,i64 b,Value.int .u64 c]::L) w) (j:bS K a2 c3 a):
  Calls prog 32 ([zP (some ⟨b1,0,none⟩)]:List Value).toArray w (eR fun v w'=>∃ d e g h,v=zA (zCa R.1 d e g h)/\aD G K (aG 9 K d e R.1.L::aG 46 K g h R.1.E::box b1 72 [zS a2 a.length c3,i64 R.2.1,Value.int .u64 R.2.2]::L) w'):=by
 exact aP
theorem bY {a:(List UInt8)} {b c n:Int} {R:(Int × Int × Int)} (hm:cD a b c n=some R) (i:aD G K (aG 5 K a2 c3 a::box b1 72 [zS a2 a.length c3,i64 b,Value.int .u64 c]::L) w):
  Calls prog 36 ([zP (some ⟨b1,0,none⟩),i64 n]:List Value).toArray w (eR fun v w'=>v=i64 R.1/\aD G K (aG 5 K a2 c3 a::box b1 72 [zS a2 a.length c3,i64 R.2.1,Value.int .u64 R.2.2]::L) w'):=by
 refine aR func36 rfl (by kernel_rfl) (by show (2:Nat)<=20;decide) ?_;unfold cD at hm
 refine aO (aI (v:=i64 0) (aK (aM (aO (aL (v:=i64 n) (aH (R_leq rfl rfl) (aK ?_)))))))
 rcases aN hm with ⟨d,hm⟩|⟨d,hm⟩
 ·exact aP
 ·refine aW d rfl (bB (aB (aO (aL (v:=zP (some ⟨b1,0,none⟩)) ?_))));obtain ⟨j,k,hm⟩:=aC hm
  refine aQ (vs:=[zP (some ⟨b1,0,none⟩)]) call80 rfl (sC k i) ?_
  rintro _ l ⟨rfl,m⟩
  exact aI (v:=i64 j.1) (aK (qE [1] (fun f w=>∃ e g h,vN n e g h=some R/\f 5=i64 e/\aD G K (aG 5 K a2 c3 a::box b1 72 [zS a2 a.length c3,i64 g,Value.int .u64 h]::L) w) aP aP))
theorem uA {a:(List UInt8)} {b c n:Int} {R:(Bool × Int × Int)} (hm:rE a b c n=some R) (d:aD G K (aG 5 K a2 c3 a::box b1 72 [zS a2 a.length c3,i64 b,Value.int .u64 c]::L) w):
  Calls prog 34 ([zP (some ⟨b1,0,none⟩),i64 n]:List Value).toArray w (eR fun v w'=>v=zB R.1/\aD G K (aG 5 K a2 c3 a::box b1 72 [zS a2 a.length c3,i64 R.2.1,Value.int .u64 R.2.2]::L) w'):=by
 exact aP
theorem aAj {a:(List UInt8)} {o p:Int} {R:((List aF) × Int × Int)} (hm:yW a o p=some R) (hs:aD G K (aG 5 K a2 c3 a::box b1 72 [zS a2 a.length c3,i64 o,Value.int .u64 p]::L) w):
  Calls prog 147 ([zP (some ⟨b1,0,none⟩)]:List Value).toArray w (eR fun v w'=>∃ z V,v=zS z R.1.length V/\aD G K (aG 9 K z V R.1::aG 5 K a2 c3 a::box b1 72 [zS a2 a.length c3,i64 R.2.1,Value.int .u64 R.2.2]::L) w'):=by
 let Z:=box b1 72 [zS a2 a.length c3,i64 o,Value.int .u64 p]
 let b:=aG 5 K a2 c3 a
 refine aR func147 rfl (by kernel_rfl) (by show (1:Nat)<=35;decide) ?_;unfold yW at hm
 refine aO (aI (v:=zS none 0 0) (aK (aO (bL (Kt:=K) (xs:=([([116,97,117]:aF)]:List aF)) (cs:=[str ([116,97,117]:aF)]) (vs:=[(0,str ([116,97,117]:aF))]) bE iW rfl rfl hs rfl (by kernel_rfl) rfl rfl rfl ⟨rfl,trivial⟩ (fun q w5 (b6:aD G K (aG 9 K q 1 ([([116,97,117]:aF)]:List aF)::b::Z::L) w5)=>(aI (v:=zS q ([([116,97,117]:aF)]:List aF).length 1) (aK (aO (bL (Kt:=K) (xs:=([([97]:aF),([98]:aF),([99]:aF),([103,101,116,40,48,41]:aF),([103,101,116,40,49,41]:aF)]:List aF)) (cs:=[str ([97]:aF),str ([98]:aF),str ([99]:aF),str ([103,101,116,40,48,41]:aF),str ([103,101,116,40,49,41]:aF)]) (vs:=[(0,str ([97]:aF)),(1,str ([98]:aF)),(2,str ([99]:aF)),(3,str ([103,101,116,40,48,41]:aF)),(4,str ([103,101,116,40,49,41]:aF))]) bE iW rfl rfl b6 rfl (by kernel_rfl) rfl rfl rfl ⟨rfl,rfl,rfl,rfl,rfl,trivial⟩ (fun c w8 (c1:aD G K (aG 9 K c 5 ([([97]:aF),([98]:aF),([99]:aF),([103,101,116,40,48,41]:aF),([103,101,116,40,49,41]:aF)]:List aF)::aG 9 K q 1 ([([116,97,117]:aF)]:List aF)::b::Z::L) w8)=>(aI (v:=zS c ([([97]:aF),([98]:aF),([99]:aF),([103,101,116,40,48,41]:aF),([103,101,116,40,49,41]:aF)]:List aF).length 5) (aK (aM (aO (aI (v:=i64 0) (aK (aV [] (fun f w=>∃ i d e r t,tR i d e=some R/\f 3=zS r i.length t/\aD G K (aG 9 K r t i::b::box b1 72 [zS a2 a.length c3,i64 d,Value.int .u64 e]::L) w) ?_ ?_)))))))))))))))))
 ·rintro f c2 ⟨i,d,e,r,t,hm,c4,c5⟩
  unfold tR at hm
  exact aB (qE [] (fun f w=>∃ u a0 a1,tQ d e u=some R/\f 3=zS a0 u.length a1/\aD G K (aG 9 K a0 a1 u::b::box b1 72 [zS a2 a.length c3,i64 d,Value.int .u64 e]::L) w) aP aP)
 obtain ⟨c6,b8,ho⟩:=aC hm
 refine mX [0,4] b8 (fun a3 a5 g h f w=>∃ j k,f 3=zS j g.length k/\f 5=i64 h/\aD G K (aG 9 K c 5 ([([97]:aF),([98]:aF),([99]:aF),([103,101,116,40,48,41]:aF),([103,101,116,40,49,41]:aF)]:List aF)::aG 9 K j k g::b::box b1 72 [zS a2 a.length c3,i64 a3,Value.int .u64 a5]::L) w) aP ?_
 ·rintro a3 a5 g h a6 f c7 hm hr ⟨j,k,c8,a8,c9⟩
  unfold aBd at hm
  refine aM (aO (bC a8 (aL (v:=zS c ([([97]:aF),([98]:aF),([99]:aF),([103,101,116,40,48,41]:aF),([103,101,116,40,49,41]:aF)]:List aF).length 5) (aH (bI (len:=([([97]:aF),([98]:aF),([99]:aF),([103,101,116,40,48,41]:aF),([103,101,116,40,49,41]:aF)]:List aF).length) bE rfl) (aH (cQ rfl rfl) (aK ?_))))))
  rcases aN hm with ⟨a9,hm⟩|⟨a9,hm⟩
  ·refine aT a9 rfl (bB (aB (aM (aV [0,4,5] (fun f w=>∃ x y l m n,oB h x y l=some a6/\f 3=zS m l.length n/\aD G K (aG 9 K m n l::aG 9 K c 5 ([([97]:aF),([98]:aF),([99]:aF),([103,101,116,40,48,41]:aF),([103,101,116,40,49,41]:aF)]:List aF)::b::box b1 72 [zS a2 a.length c3,i64 x,Value.int .u64 y]::L) w) ?_ ?_))))
   ·rintro f d0 ⟨x,y,l,m,n,hm,b9,c0⟩
    unfold oB at hm
    exact aB (aZ (bC a8 (aH (eP rfl rfl) (aI (v:=i64 (wr (h+1))) (aK ⟨_,(zI hm).symm,bW,m,n,b9,rfl,(aD.arr 2 [1,0] c0 rfl)⟩)))))
   exact aM (bR [0,3,4,5] (fun f w=>∃ b0 b2 b3,tS g h b0 b2 b3=some a6/\f 20=zB b3/\aD G K (aG 9 K c 5 ([([97]:aF),([98]:aF),([99]:aF),([103,101,116,40,48,41]:aF),([103,101,116,40,49,41]:aF)]:List aF)::aG 9 K j k g::b::box b1 72 [zS a2 a.length c3,i64 b0,Value.int .u64 b2]::L) w) aP aP)
  ·exact aP
theorem mG {a:(List UInt8)} {c d:Int} {b:(List Int)} {R:(Int × Int × Int)} (hm:lO a c d b=some R) (e:aD G K (aG 5 K a2 c3 a::box b1 72 [zS a2 a.length c3,i64 c,Value.int .u64 d]::L) w) (g:bS K a4 c5 b):
  Calls prog 119 ([zP (some ⟨b1,0,none⟩),zS a4 b.length c5]:List Value).toArray w (eR fun v w'=>v=i64 R.1/\aD G K (aG 5 K a2 c3 a::box b1 72 [zS a2 a.length c3,i64 R.2.1,Value.int .u64 R.2.2]::L) w'):=by
 exact aP
end Gv
namespace Gv
open Go.Value renaming slice→zS,bool→zB,pointer→zP,agg→zA
open Option.some renaming inj→zI
open Gv.Hp renaming le_refl→zR
open Go Go.Proofs Go.Proofs.Tryz
set_option maxRecDepth 20000
set_option maxHeartbeats 40000000
variable {G:wY} {K:Hp} {L:List iN} {w:World} {b1 c3 c5 c8:Nat} {a2 a4 a7:Option Addr}
theorem aBI {a:(List UInt8)} {e7 e8:Int} {R:(bF × Int × Int)} (hm:aCR a e7 e8=some R) (hs:aD G K (aG 5 K a2 c3 a::box b1 72 [zS a2 a.length c3,i64 e7,Value.int .u64 e8]::L) w):
  Calls prog 118 ([zP (some ⟨b1,0,none⟩)]:List Value).toArray w (eR fun v w'=>∃ i4 i5 i6 i7,v=zA (zCa R.1 i4 i5 i6 i7)/\aD G K (aG 9 K i4 i5 R.1.L::aG 46 K i6 i7 R.1.E::aG 5 K a2 c3 a::box b1 72 [zS a2 a.length c3,i64 R.2.1,Value.int .u64 R.2.2]::L) w'):=by
 let e:=zG
 let g:=aG 5 K a2 c3 a
 refine aR func118 rfl (by kernel_rfl) (by show (1:Nat)<=125;decide) ?_;unfold aCR at hm
 refine aO (aX (vs:=e) zeroValue27 hs rfl (fun j w5 k9=>(aK (aO (aL (v:=zP (some ⟨b1,0,none⟩)) ?_)))))
 have l0:aD G K (g::box b1 72 [zS a2 a.length c3,i64 e7,Value.int .u64 e8]::box j 27 e::L) w5:=(aD.arr 3 [1,2,0] k9 rfl)
 obtain ⟨k,q9,hm⟩:=aC hm
 refine aQ (vs:=[zP (some ⟨b1,0,none⟩),i64 4]) call36 rfl (bY q9 l0) ?_
 rintro _ t9 ⟨rfl,l2⟩
 refine aH (eP rfl rfl) (aI (v:=i64 (wr (1+k.1))) (aK (aO (aL (v:=i64 (wr (1+k.1))) (aL (v:=zP (some ⟨b1,0,none⟩)) (aL (v:=i64 (wr (1+k.1))) (aH (qZ rfl rfl) ?_)))))));obtain ⟨p,l3,hm⟩:=aC hm
 refine aQ (vs:=[zP (some ⟨b1,0,none⟩),i64 (wr (7 - (wr (1+k.1))))]) call36 rfl (bY l3 l2) ?_
 rintro _ u0 ⟨rfl,l4⟩
 refine aH (eP rfl rfl) (aI (v:=i64 (wr ((wr (1+k.1))+p.1))) (aK (aO (aL (v:=zP (some ⟨b1,0,none⟩)) ?_))));obtain ⟨b,l5,hm⟩:=aC hm
 refine aQ (vs:=[zP (some ⟨b1,0,none⟩)]) call147 rfl (aAj l5 l4) ?_
 rintro _ u1 ⟨c,d,rfl,l6⟩
 refine aI (v:=zS c b.1.length d) (aK (aO (bL (Kt:=K) (xs:=([]:List Int)) (cs:=[]) (vs:=[]) dA rZ rfl rfl l6 rfl (by kernel_rfl) rfl rfl rfl trivial (fun e9 l7 (l8:aD G K (aG 2 K e9 0 ([]:List Int)::aG 9 K c d b.1::g::box b1 72 [zS a2 a.length c3,i64 b.2.1,Value.int .u64 b.2.2]::box j 27 e::L) l7)=>(aI (v:=zS e9 ([]:List Int).length 0) (aK (aM (aO (aI (v:=i64 0) (aK (aV [0,2,3,4,5] (fun f w=>∃ b7 b8 l m n,qI a k p b b7 b8 l=some R/\f 6=zS m l.length n/\aD G K (aG 2 K m n l::aG 9 K c d b.1::g::box b1 72 [zS a2 a.length c3,i64 b7,Value.int .u64 b8]::box j 27 e::L) w) ?_ ?_)))))))))))
 ·rintro f u2 ⟨b7,b8,l,m,n,hm,i8,l9⟩
  unfold qI at hm
  refine aB (aO (bL (Kt:=K) (xs:=([]:List Edge)) (cs:=[]) (vs:=[]) cM qA rfl rfl l9 rfl (by kernel_rfl) rfl rfl rfl trivial (fun f0 i9 (m0:aD G K (aG 46 K f0 0 ([]:List Edge)::aG 2 K m n l::aG 9 K c d b.1::g::box b1 72 [zS a2 a.length c3,i64 b7,Value.int .u64 b8]::box j 27 e::L) i9)=>(aI (v:=zS f0 ([]:List Edge).length 0) (aK (aM (aO (aL (v:=zP (some ⟨b1,0,none⟩)) (aL (v:=i64 (wr (1+k.1))) (aH (R_mul rfl rfl) (aH (eP rfl rfl) ?_)))))))))))
  have m1:aD G K (g::box b1 72 [zS a2 a.length c3,i64 b7,Value.int .u64 b8]::aG 46 K f0 0 ([]:List Edge)::aG 2 K m n l::aG 9 K c d b.1::box j 27 e::L) i9:=(aD.arr 5 [3,4,0,1,2] m0 rfl)
  obtain ⟨m2,m3,hm⟩:=aC hm
  refine aQ (vs:=[zP (some ⟨b1,0,none⟩),i64 (wr (2+(wr (2 * (wr (1+k.1))))))]) call36 rfl (bY m3 m1) ?_
  rintro _ u3 ⟨rfl,u4⟩
  refine aI (v:=i64 m2.1) (aK (aV [0,2,4,5] (fun f w=>∃ c1 c2 b9 c4 c5,sO a k p b c1 c2 b9=some R/\f 8=zS c4 b9.length c5/\aD G K (aG 46 K c4 c5 b9::g::box b1 72 [zS a2 a.length c3,i64 c1,Value.int .u64 c2]::aG 9 K c d b.1::box j 27 e::L) w) ?_ ?_))
  ·rintro f m4 ⟨c1,c2,b9,c4,c5,hm,m5,m6⟩
   unfold sO at hm
   refine aB (qE [0,2,4,5] (fun f w=>∃ j0 j1 f1 j2 j3,yX a k p b j0 j1 f1=some R/\f 8=zS j2 f1.length j3/\aD G K (aG 46 K j2 j3 f1::g::box b1 72 [zS a2 a.length c3,i64 j0,Value.int .u64 j1]::aG 9 K c d b.1::box j 27 e::L) w) aP (aO (aL (v:=zP (some ⟨b1,0,none⟩)) ?_)))
   have m7:aD G K (g::box b1 72 [zS a2 a.length c3,i64 c1,Value.int .u64 c2]::aG 46 K c4 c5 b9::aG 9 K c d b.1::box j 27 e::L) m4:=(aD.arr 3 [1,2,0] m6 rfl)
   obtain ⟨u5,m8,hm⟩:=aC hm
   refine aQ (vs:=[zP (some ⟨b1,0,none⟩),i64 3]) call34 rfl (uA m8 m7) ?_
   rintro _ u6 ⟨rfl,m9⟩
   refine aK ?_
   rcases aN hm with ⟨j4,hm⟩|⟨j4,hm⟩
   ·refine aT j4 rfl (aZ (bC m5 (aL (v:=zP (some ⟨b1,0,none⟩)) (aL (v:=i64 (wr ((wr (1+k.1))+p.1))) ?_))));obtain ⟨u7,n0,hm⟩:=aC hm
    refine aQ (vs:=[zP (some ⟨b1,0,none⟩),i64 (wr ((wr (1+k.1))+p.1))]) call36 rfl (bY n0 m9) ?_
    rintro _ u8 ⟨rfl,n1⟩
    refine aL (v:=zP (some ⟨b1,0,none⟩)) (aL (v:=zS c b.1.length d) (aH (bI (len:=b.1.length) bE rfl) ?_));obtain ⟨u9,n2,hm⟩:=aC hm
    refine aQ (vs:=[zP (some ⟨b1,0,none⟩),i64 (b.1.length:Int)]) call36 rfl (bY n2 n1) ?_
    rintro _ v0 ⟨rfl,n3⟩
    refine aL (v:=zP (some ⟨b1,0,none⟩)) (aL (v:=i64 (wr ((wr (1+k.1))+p.1))) ?_);obtain ⟨v1,n4,hm⟩:=aC hm
    exact aQ (vs:=[zP (some ⟨b1,0,none⟩),i64 (wr ((wr (1+k.1))+p.1))]) call36 rfl (bY n4 n3) aP
   ·exact aP
  obtain ⟨v2,n5,ho⟩:=aC hm
  refine mX [0,2,3,4,5,6] n5 (fun c6 c7 c0 b0 f w=>∃ c8 c9,f 8=zS c8 c0.length c9/\f 9=i64 b0/\aD G K (g::box b1 72 [zS a2 a.length c3,i64 c6,Value.int .u64 c7]::aG 46 K c8 c9 c0::aG 2 K m n l::aG 9 K c d b.1::box j 27 e::L) w) aP ?_
  ·rintro c6 c7 c0 b0 f2 f v3 hm hr ⟨c8,c9,n6,j5,j6⟩
   unfold aCP at hm
   refine aM (aO (bC j5 (aH (sZ rfl rfl) (aK ?_))))
   rcases aN hm with ⟨f3,hm⟩|⟨f3,hm⟩
   ·refine aT f3 rfl (bB (aB (aM (aV [0,2,3,4,5,6,9] (fun f w=>∃ f4 f5 d0 d1 d2,yY b0 f4 f5 d0=some f2/\f 8=zS d1 d0.length d2/\aD G K (aG 46 K d1 d2 d0::g::box b1 72 [zS a2 a.length c3,i64 f4,Value.int .u64 f5]::aG 2 K m n l::aG 9 K c d b.1::box j 27 e::L) w) ?_ ?_))))
    ·rintro f v4 ⟨f4,f5,d0,d1,d2,hm,n7,n8⟩
     unfold yY at hm
     exact aB (aZ (bC j5 (aH (qZ rfl rfl) (aI (v:=i64 (wr (b0 - 1))) (aK ⟨_,(zI hm).symm,bW,d1,d2,n7,rfl,(aD.arr 3 [1,2,0] n8 rfl)⟩)))))
    refine aO (aL (v:=zP (some ⟨b1,0,none⟩)) (aL (v:=i64 (wr (1+k.1))) ?_));obtain ⟨j7,n9,hm⟩:=aC hm
    refine aQ (vs:=[zP (some ⟨b1,0,none⟩),i64 (wr (1+k.1))]) call36 rfl (bY n9 j6) ?_
    rintro _ v5 ⟨rfl,o0⟩
    refine aI (v:=i64 j7.1) (aK (aO (aL (v:=zP (some ⟨b1,0,none⟩)) (aL (v:=zS c b.1.length d) (aH (bI (len:=b.1.length) bE rfl) ?_)))));obtain ⟨V,o1,hm⟩:=aC hm
    refine aQ (vs:=[zP (some ⟨b1,0,none⟩),i64 (b.1.length:Int)]) call36 rfl (bY o1 o0) ?_
    rintro _ v6 ⟨rfl,o2⟩
    refine aI (v:=i64 V.1) (aK (aO (aL (v:=zP (some ⟨b1,0,none⟩)) (aL (v:=i64 (wr (1+k.1))) ?_))));obtain ⟨j8,o3,hm⟩:=aC hm
    refine aQ (vs:=[zP (some ⟨b1,0,none⟩),i64 (wr (1+k.1))]) call36 rfl (bY o3 o2) ?_
    rintro _ v7 ⟨rfl,v8⟩
    refine aI (v:=i64 j8.1) (aK (aO (aI (v:=i64 0) (aK (aV [0,2,3,4,5,6,9] (fun f w=>∃ j9 k0 f6 k1 k2,yZ b0 j9 k0 f6=some f2/\f 8=zS k1 f6.length k2/\aD G K (aG 46 K k1 k2 f6::g::box b1 72 [zS a2 a.length c3,i64 j9,Value.int .u64 k0]::aG 2 K m n l::aG 9 K c d b.1::box j 27 e::L) w) aP ?_)))));obtain ⟨v9,o4,ho⟩:=aC hm
    refine mX [0,2,3,4,5,6,9,10,11,12] o4 (fun q r o u f w=>∃ y z,f 8=zS y o.length z/\f 13=i64 u/\aD G K (g::box b1 72 [zS a2 a.length c3,i64 q,Value.int .u64 r]::aG 46 K y z o::aG 2 K m n l::aG 9 K c d b.1::box j 27 e::L) w) aP ?_
    ·rintro q r o u f7 f w0 hm hr ⟨y,z,k3,d3,d4⟩
     unfold aDH at hm
     refine aM (aO (bC d3 (aL (v:=i64 (wr ((wr (1+k.1))+p.1))) (aH (cQ rfl rfl) (aK ?_)))))
     rcases aN hm with ⟨f8,hm⟩|⟨f8,hm⟩
     ·refine aT f8 rfl (bB (aB (aM (aV [0,2,3,4,5,6,9,10,11,12,13] (fun f w=>∃ f9 g0 d5 d6 d7,sP u f9 g0 d5=some f7/\f 8=zS d6 d5.length d7/\aD G K (g::box b1 72 [zS a2 a.length c3,i64 f9,Value.int .u64 g0]::aG 46 K d6 d7 d5::aG 2 K m n l::aG 9 K c d b.1::box j 27 e::L) w) ?_ ?_))))
      ·rintro f w1 ⟨f9,g0,d5,d6,d7,hm,o5,o6⟩
       unfold sP at hm
       exact aB (aZ (bC d3 (aH (eP rfl rfl) (aI (v:=i64 (wr (u+1))) (aK ⟨_,(zI hm).symm,bW,d6,d7,o5,rfl,o6⟩)))))
      refine aM (aO (bC i8 (bC d3 ?_)));obtain ⟨w2,g1,hm⟩:=aC hm
      have k4:=dM d4 (i:=3) rfl g1
      refine aH (fQ dA rfl k4 rfl rfl rfl g1) (aH (rB (t:=0) fK d4 (i:=3) rfl g1 rfl rfl rfl) (aL (v:=i64 j7.1) (aH (aFE rfl rfl) (aK ?_))))
      rcases aN hm with ⟨k5,hm⟩|⟨k5,hm⟩
      ·exact aP
      ·refine aW k5 rfl (bB (aB (aO (bL (Kt:=K) (xs:=([]:List Int)) (cs:=[]) (vs:=[]) dA rZ rfl rfl d4 rfl (by kernel_rfl) rfl rfl rfl trivial (fun g2 o7 (o8:aD G K (aG 2 K g2 0 ([]:List Int)::g::box b1 72 [zS a2 a.length c3,i64 q,Value.int .u64 r]::aG 46 K y z o::aG 2 K m n l::aG 9 K c d b.1::box j 27 e::L) o7)=>(aI (v:=zS g2 ([]:List Int).length 0) (aK (aM (aO (aI (v:=i64 0) (aK (aV [0,2,3,4,5,6,8,9,10,11,12,13] (fun f w=>∃ a6 b2 b3,sQ a V q r o u a6=some f7/\f 14=zS b2 a6.length b3/\aD G K (aG 2 K b2 b3 a6::g::box b1 72 [zS a2 a.length c3,i64 q,Value.int .u64 r]::aG 46 K y z o::aG 2 K m n l::aG 9 K c d b.1::box j 27 e::L) w) ?_ ?_))))))))))))
       ·rintro f w3 ⟨a6,b2,b3,hm,o9,p0⟩
        unfold sQ at hm
        refine aB (aZ (bC k3 (bC d3 (aL (v:=i64 V.1) (aL (v:=zP (some ⟨b1,0,none⟩)) (bC o9 ?_))))));obtain ⟨w4,w6,p1,p2,p3⟩:=aD.lendSp p0 (zR _) .head
        obtain ⟨x,p4,hm⟩:=aC hm
        refine aQ (vs:=[zP (some ⟨b1,0,none⟩),zS b2 a6.length b3]) call119 rfl (mG p4 p2 p1) ?_
        rintro _ w7 ⟨rfl,p5⟩
        have p6:=p3 _ _ p5
        refine aH (fF (vs:=[(0,i64 u),(1,i64 V.1),(2,i64 x.1)]) (cs:=[i64 u,i64 V.1,i64 x.1]) aFk rfl (by kernel_rfl)) (bL (Kt:=K) (xs:=([⟨u,V.1,x.1⟩]:List Edge)) (cs:=[i64 u,i64 V.1,i64 x.1]) (vs:=[(0,zA #[i64 u,i64 V.1,i64 x.1])]) cM qA rfl rfl p6 rfl (by kernel_rfl) rfl rfl rfl ⟨rfl,trivial⟩ (fun p7 p8 (p9:aD G K (aG 46 K p7 1 ([⟨u,V.1,x.1⟩]:List Edge)::aG 2 K b2 b3 a6::g::box b1 72 [zS a2 a.length c3,i64 x.2.1,Value.int .u64 x.2.2]::aG 46 K y z o::aG 2 K m n l::aG 9 K c d b.1::box j 27 e::L) p8)=>?_))
        obtain ⟨g3,q0,hm⟩:=aC hm
        exact eX (i:=3) cM underlying25 qA rfl rfl p9 rfl (zR _) (zR _) q0 rfl rfl rfl rfl (fun _ h=>h) (fun g4 g5 q1 (q2:aD G K (aG 2 K b2 b3 a6::g::box b1 72 [zS a2 a.length c3,i64 x.2.1,Value.int .u64 x.2.2]::aG 46 K g4 g5 g3::aG 2 K m n l::aG 9 K c d b.1::box j 27 e::L) q1)=>(aI (v:=zS g4 g3.length g5) (aJ (cT (aB ⟨bW,x.2.1,x.2.2,g3,g4,g5,hm,rfl,(aD.arr 1 [] q2 rfl)⟩)))))
       obtain ⟨w8,q3,ho⟩:=aC hm
       refine cZ [0,2,3,4,5,6,8,9,10,11,12,13] q3 (fun a7 a0 f w=>∃ b5 b6,f 14=zS b5 a7.length b6/\f 15=i64 a0/\aD G K (aG 2 K b5 b6 a7::g::box b1 72 [zS a2 a.length c3,i64 q,Value.int .u64 r]::aG 46 K y z o::aG 2 K m n l::aG 9 K c d b.1::box j 27 e::L) w) ?_ ?_
       ·exact ⟨g2,0,rfl,rfl,o8⟩
       ·rintro a7 a0 q4 f w9 hm hr ⟨b5,b6,g6,d8,d9⟩
        unfold aDG at hm
        refine aM (aO (bC d8 (aL (v:=i64 (wr ((wr (1+k.1))+p.1))) (aH (cQ rfl rfl) (aK ?_)))))
        rcases aN hm with ⟨g7,hm⟩|⟨g7,hm⟩
        ·refine aT g7 rfl (bB (aB (aM (aV [0,2,3,4,5,6,8,9,10,11,12,13,15] (fun f w=>∃ e0 e1 e2,sS a0 e0=some q4/\f 14=zS e1 e0.length e2/\aD G K (aG 2 K e1 e2 e0::g::box b1 72 [zS a2 a.length c3,i64 q,Value.int .u64 r]::aG 46 K y z o::aG 2 K m n l::aG 9 K c d b.1::box j 27 e::L) w) ?_ ?_))))
         ·rintro f x0 ⟨e0,e1,e2,hm,q5,q6⟩
          unfold sS at hm
          exact aB (aZ (bC d8 (aH (eP rfl rfl) (aI (v:=i64 (wr (a0+1))) (aK ⟨_,(zI hm).symm,bW,e1,e2,q5,rfl,q6⟩)))))
         refine aO (bC i8 (bC d8 ?_));obtain ⟨x1,k6,hm⟩:=aC hm
         refine aH (fQ dA rfl k4 rfl rfl rfl k6) (aH (rB (t:=0) fK d9 (i:=4) rfl k6 rfl rfl rfl) (aL (v:=i64 j8.1) (aH (nW rfl rfl) (aK ?_))))
         rcases aN hm with ⟨g8,hm⟩|⟨g8,hm⟩
         ·refine aT g8 rfl (aZ (bC g6 (bC d8 (bL (Kt:=K) (xs:=([a0]:List Int)) (cs:=[i64 a0]) (vs:=[(0,i64 a0)]) dA rZ rfl rfl d9 rfl (by kernel_rfl) rfl rfl rfl ⟨rfl,trivial⟩ (fun q7 q8 (r0:aD G K (aG 2 K q7 1 ([a0]:List Int)::aG 2 K b5 b6 a7::g::box b1 72 [zS a2 a.length c3,i64 q,Value.int .u64 r]::aG 46 K y z o::aG 2 K m n l::aG 9 K c d b.1::box j 27 e::L) q8)=>?_)))));obtain ⟨g9,r1,hm⟩:=aC hm
          exact eX (i:=0) dA underlying55 rZ rfl rfl r0 rfl (zR _) (zR _) r1 rfl rfl rfl rfl (fun _ h=>h) (fun h0 h1 r2 (r3:aD G K (aG 2 K h0 h1 g9::g::box b1 72 [zS a2 a.length c3,i64 q,Value.int .u64 r]::aG 46 K y z o::aG 2 K m n l::aG 9 K c d b.1::box j 27 e::L) r2)=>(aI (v:=zS h0 g9.length h1) (aJ (cT (aB ⟨bW,g9,h0,h1,hm,rfl,r3⟩)))))
         ·exact aW g8 rfl (bB (cT (aB ⟨bW,a7,b5,b6,hm,g6,d9⟩)))
        ·refine aW g7 rfl (yH (iP (iP ?_)))
         have r4:=hr _ (zI hm).symm
         subst r4
         have hm:(sQ a V q r o u a7)=some f7:=ho
         clear hr ho
         exact pC (aB ⟨bW,a7,b5,b6,hm,g6,d9⟩)
     ·refine aW f8 rfl (yH (iP (iP ?_)))
      have r5:=hr _ (zI hm).symm
      subst r5
      have hm:(yZ b0 q r o)=some f2:=ho
      clear hr ho
      exact pC (aB ⟨bW,q,r,o,y,z,hm,k3,(aD.arr 3 [2,0,1] d4 rfl)⟩)
   ·refine aW f3 rfl (yH (iP (iP ?_)))
    have r6:=hr _ (zI hm).symm
    subst r6
    have hm:(sO a k p b c6 c7 c0)=some R:=ho
    clear hr ho
    exact pC (aB ⟨bW,c6,c7,c0,c8,c9,hm,n6,(aD.arr 4 [2,0,1] j6 rfl)⟩)
 obtain ⟨x2,r7,ho⟩:=aC hm
 refine mX [0,2,3,4,5] r7 (fun a1 a3 a4 a5 f w=>∃ a8 a9,f 6=zS a8 a4.length a9/\f 7=i64 a5/\aD G K (aG 2 K a8 a9 a4::aG 9 K c d b.1::g::box b1 72 [zS a2 a.length c3,i64 a1,Value.int .u64 a3]::box j 27 e::L) w) ?_ ?_
 ·exact ⟨e9,0,rfl,rfl,l8⟩
 ·rintro a1 a3 a4 a5 r9 f s0 hm hr ⟨a8,a9,h2,e3,h3⟩
  unfold aCQ at hm
  refine aM (aO (bC e3 (aL (v:=i64 (wr ((wr (1+k.1))+p.1))) (aH (cQ rfl rfl) (aK ?_)))))
  rcases aN hm with ⟨h4,hm⟩|⟨h4,hm⟩
  ·refine aT h4 rfl (bB (aB (aM (aV [0,2,3,4,5,7] (fun f w=>∃ h5 h6 e4 e5 e6,qJ a5 h5 h6 e4=some r9/\f 6=zS e5 e4.length e6/\aD G K (aG 2 K e5 e6 e4::aG 9 K c d b.1::g::box b1 72 [zS a2 a.length c3,i64 h5,Value.int .u64 h6]::box j 27 e::L) w) ?_ ?_))))
   ·rintro f x3 ⟨h5,h6,e4,e5,e6,hm,s1,s2⟩
    unfold qJ at hm
    exact aB (aZ (bC e3 (aH (eP rfl rfl) (aI (v:=i64 (wr (a5+1))) (aK ⟨_,(zI hm).symm,bW,e5,e6,s1,rfl,s2⟩)))))
   refine aO (bC e3 (aL (v:=i64 (wr (1+k.1))) (aH (cQ rfl rfl) (aK ?_))))
   rcases aN hm with ⟨h7,hm⟩|⟨h7,hm⟩
   ·refine aT h7 rfl (aZ (bC h2 (bC e3 (bL (Kt:=K) (xs:=([a5]:List Int)) (cs:=[i64 a5]) (vs:=[(0,i64 a5)]) dA rZ rfl rfl h3 rfl (by kernel_rfl) rfl rfl rfl ⟨rfl,trivial⟩ (fun s3 s4 (s5:aD G K (aG 2 K s3 1 ([a5]:List Int)::aG 2 K a8 a9 a4::aG 9 K c d b.1::g::box b1 72 [zS a2 a.length c3,i64 a1,Value.int .u64 a3]::box j 27 e::L) s4)=>?_)))));obtain ⟨h8,s6,hm⟩:=aC hm
    exact eX (i:=0) dA underlying55 rZ rfl rfl s5 rfl (zR _) (zR _) s6 rfl rfl rfl rfl (fun _ h=>h) (fun h9 i0 s7 (s8:aD G K (aG 2 K h9 i0 h8::aG 9 K c d b.1::g::box b1 72 [zS a2 a.length c3,i64 a1,Value.int .u64 a3]::box j 27 e::L) s7)=>(aI (v:=zS h9 h8.length i0) (aJ (cT (aB ⟨bW,a1,a3,h8,h9,i0,hm,rfl,s8⟩)))))
   ·refine aW h7 rfl (aZ (bC h2 (aL (v:=zP (some ⟨b1,0,none⟩)) (aL (v:=i64 (wr (1+k.1))) ?_))))
    have s9:aD G K (g::box b1 72 [zS a2 a.length c3,i64 a1,Value.int .u64 a3]::aG 2 K a8 a9 a4::aG 9 K c d b.1::box j 27 e::L) s0:=(aD.arr 4 [2,3,0,1] h3 rfl)
    obtain ⟨Z,t0,hm⟩:=aC hm
    refine aQ (vs:=[zP (some ⟨b1,0,none⟩),i64 (wr (1+k.1))]) call36 rfl (bY t0 s9) ?_
    rintro _ x4 ⟨rfl,t1⟩
    refine bL (Kt:=K) (xs:=([Z.1]:List Int)) (cs:=[i64 Z.1]) (vs:=[(0,i64 Z.1)]) dA rZ rfl rfl t1 rfl (by kernel_rfl) rfl rfl rfl ⟨rfl,trivial⟩ (fun t2 t3 (t4:aD G K (aG 2 K t2 1 ([Z.1]:List Int)::g::box b1 72 [zS a2 a.length c3,i64 Z.2.1,Value.int .u64 Z.2.2]::aG 2 K a8 a9 a4::aG 9 K c d b.1::box j 27 e::L) t3)=>?_);obtain ⟨i1,t5,hm⟩:=aC hm
    exact eX (i:=2) dA underlying55 rZ rfl rfl t4 rfl (zR _) (zR _) t5 rfl rfl rfl rfl (fun _ h=>h) (fun i2 i3 t6 (t7:aD G K (g::box b1 72 [zS a2 a.length c3,i64 Z.2.1,Value.int .u64 Z.2.2]::aG 2 K i2 i3 i1::aG 9 K c d b.1::box j 27 e::L) t6)=>(aI (v:=zS i2 i1.length i3) (aJ (cT (aB ⟨bW,Z.2.1,Z.2.2,i1,i2,i3,hm,rfl,(aD.arr 4 [2,3,0,1] t7 rfl)⟩)))))
  ·refine aW h4 rfl (yH (iP (iP ?_)))
   have t8:=hr _ (zI hm).symm
   subst t8
   have hm:(qI a k p b a1 a3 a4)=some R:=ho
   clear hr ho
   exact pC (aB ⟨bW,a1,a3,a4,a8,a9,hm,h2,h3⟩)
theorem aGF {g:(List UInt8)} {a8 a9:Int} {R:(bF × Int × Int)} (hm:aCS g a8 a9=some R) (hs:aD G K (aG 5 K a2 c3 g::box b1 72 [zS a2 g.length c3,i64 a8,Value.int .u64 a9]::L) w):
  Calls prog 75 ([zP (some ⟨b1,0,none⟩)]:List Value).toArray w (eR fun v w'=>∃ c1 c2 c4 c5,v=zA (zCa R.1 c1 c2 c4 c5)/\aD G K (aG 9 K c1 c2 R.1.L::aG 46 K c4 c5 R.1.E::aG 5 K a2 c3 g::box b1 72 [zS a2 g.length c3,i64 R.2.1,Value.int .u64 R.2.2]::L) w'):=by
 let k:=zG
 let l:=aG 5 K a2 c3 g
 refine aR func75 rfl (by kernel_rfl) (by show (1:Nat)<=56;decide) ?_;unfold aCS at hm
 refine aO (aX (vs:=k) zeroValue27 hs rfl (fun m w5 e9=>(aK (aO (aL (v:=zP (some ⟨b1,0,none⟩)) ?_)))))
 have f0:aD G K (l::box b1 72 [zS a2 g.length c3,i64 a8,Value.int .u64 a9]::box m 27 k::L) w5:=(aD.arr 3 [1,2,0] e9 rfl)
 obtain ⟨a,q9,hm⟩:=aC hm
 refine aQ (vs:=[zP (some ⟨b1,0,none⟩)]) call118 rfl (aBI q9 f0) ?_
 rintro _ i0 ⟨b,c,d,e,rfl,f2⟩
 refine aX (vs:=k) zeroValue27 f2 rfl (fun o i1 f3=>(bH (i:=0) (ns:=(zC a.1 b c d e)) (us:=(zC a.1 b c d e)) sizeOf27 f3 rfl rfl rfl rfl rfl (cK rfl) rfl rfl (fun f4 (f5:aD G K (box o 27 (zC a.1 b c d e)::aG 9 K b c a.1.L::aG 46 K d e a.1.E::l::box b1 72 [zS a2 g.length c3,i64 a.2.1,Value.int .u64 a.2.2]::box m 27 k::L) f4)=>(aK (aO (bL (Kt:=K) (xs:=([]:List Edge)) (cs:=[]) (vs:=[]) cM qA rfl rfl f5 rfl (by kernel_rfl) rfl rfl rfl trivial (fun c6 f6 (i2:aD G K (aG 46 K c6 0 ([]:List Edge)::box o 27 (zC a.1 b c d e)::aG 9 K b c a.1.L::aG 46 K d e a.1.E::l::box b1 72 [zS a2 g.length c3,i64 a.2.1,Value.int .u64 a.2.2]::box m 27 k::L) f6)=>(aI (v:=zS c6 ([]:List Edge).length 0) (aK (aM (aO (aI (v:=i64 0) (aK (aV [0,2,3] (fun f w=>∃ V Z r a0 a1,zF g a V Z r=some R/\f 4=zS a0 r.length a1/\aD G K (aG 46 K a0 a1 r::box o 27 (zC a.1 b c d e)::aG 9 K b c a.1.L::aG 46 K d e a.1.E::l::box b1 72 [zS a2 g.length c3,i64 V,Value.int .u64 Z]::box m 27 k::L) w) ?_ ?_))))))))))))))
 ·rintro f f7 ⟨V,Z,r,a0,a1,hm,i3,f8⟩
  unfold zF at hm
  refine aB (aM (aO (aL (v:=zP (some ⟨b1,0,none⟩)) ?_)))
  have f9:aD G K (l::box b1 72 [zS a2 g.length c3,i64 V,Value.int .u64 Z]::aG 46 K a0 a1 r::box o 27 (zC a.1 b c d e)::aG 9 K b c a.1.L::aG 46 K d e a.1.E::box m 27 k::L) f7:=(aD.arr 6 [4,5,0,1,2,3] f8 rfl)
  obtain ⟨g0,g1,hm⟩:=aC hm
  refine aQ (vs:=[zP (some ⟨b1,0,none⟩),i64 3]) call36 rfl (bY g1 f9) ?_
  rintro _ i4 ⟨rfl,i5⟩
  refine aI (v:=i64 g0.1) (aK (aV [2,3] (fun f w=>∃ a3 b0 b2 b3 b5,zD a a3 b0 b2=some R/\f 4=zS b3 a3.length b5/\aD G K (aG 46 K b3 b5 a3::l::box b1 72 [zS a2 g.length c3,i64 b0,Value.int .u64 b2]::box o 27 (zC a.1 b c d e)::aG 9 K b c a.1.L::aG 46 K d e a.1.E::box m 27 k::L) w) ?_ ?_))
  ·rintro f i6 ⟨a3,b0,b2,b3,b5,hm,g2,a4⟩
   unfold zD at hm
   refine aB (aO (aH (bP (t':=0) lB rfl rfl) (aH (fP fK a4 (i:=3) rfl rfl rfl) (aH (bP (t':=1) yK rfl rfl) (aH (fP fK a4 (i:=3) rfl rfl rfl) (aH (bP (t':=2) fT rfl rfl) (aH (fP gY a4 (i:=3) rfl rfl rfl) (bC g2 ?_))))))));obtain ⟨i7,i8,i9,j0,j1⟩:=aD.lendSp a4 (zR _) zt4
   exact aP
  obtain ⟨j2,g3,ho⟩:=aC hm
  refine mX [0,2,3] g3 (fun c7 c8 a5 c9 f w=>∃ a6 a7,f 4=zS a6 a5.length a7/\f 7=i64 c9/\aD G K (l::box b1 72 [zS a2 g.length c3,i64 c7,Value.int .u64 c8]::aG 46 K a6 a7 a5::box o 27 (zC a.1 b c d e)::aG 9 K b c a.1.L::aG 46 K d e a.1.E::box m 27 k::L) w) aP ?_
  ·rintro c7 c8 a5 c9 j3 f j4 hm hr ⟨a6,a7,g4,g5,g6⟩
   unfold aDI at hm
   refine aM (aO (bC g5 (aH (sZ rfl rfl) (aK ?_))))
   rcases aN hm with ⟨d0,hm⟩|⟨d0,hm⟩
   ·refine aT d0 rfl (bB (aB (aM (cS ?_))));obtain ⟨b6,d1,d2,d3,g7⟩:=aD.lendBp g6 zt3
    refine dX (C:=fun w'=>∃ L',aD G b6 L' w') [(0,0),(1,0),(2,0),(3,0),(5,0),(6,0),(7,0),(4,1),(8,1),(9,0),(10,1),(11,1),(12,0)] Tryz_mixed (by kernel_rfl) (fun _ hg=>⟨_,aD.mono d3 hg⟩) (fun j5 g8=>?_)
    have u:=aD.mono d3 g8
    refine bZ rfl (fun _ _=>bJ g4) (bZ rfl (fun _ _=>bJ (v:=zP (some ⟨b1,0,none⟩)) rfl) (bZ rfl (fun _ _=>bP (t':=0) lB rfl rfl) (bZ rfl (fun _ ⟨_,u⟩=>bG (t:=0) fK u d2 rfl rfl) (bZ rfl (fun _ _=>bJ (v:=zP (some ⟨b1,0,none⟩)) rfl) (bZ rfl (fun _ _=>bP (t':=0) lB rfl rfl) (bZ rfl (fun _ ⟨_,u⟩=>bG (t:=0) fK u d2 rfl rfl) (gP rfl ?_)))))));obtain ⟨p,g9,hm⟩:=aC hm
    refine aQ (vs:=[zP (some ⟨b1,0,none⟩),i64 a.1.N]) call36 rfl (bY g9 u) ?_
    rintro _ j6 ⟨rfl,d4⟩
    refine aJ (aB ⟨⟨_,d4⟩,?_⟩)
    refine gP rfl ?_;obtain ⟨n,h0,hm⟩:=aC hm
    refine aQ (vs:=[zP (some ⟨b1,0,none⟩),i64 a.1.N]) call36 rfl (bY h0 d4) ?_
    rintro _ j7 ⟨rfl,d5⟩
    refine aJ (aB ⟨⟨_,d5⟩,?_⟩)
    refine bZ rfl (fun _ _=>fF (vs:=[(0,i64 p.1),(2,i64 n.1)]) (cs:=[i64 p.1,i64 0,i64 n.1]) aFk rfl (by kernel_rfl)) (gP rfl (bL (Kt:=K) (xs:=([⟨p.1,0,n.1⟩]:List Edge)) (cs:=[i64 p.1,i64 0,i64 n.1]) (vs:=[(0,zA #[i64 p.1,i64 0,i64 n.1])]) cM qA rfl rfl d5 rfl (by kernel_rfl) rfl rfl rfl ⟨rfl,trivial⟩ (fun h1 h2 (d6:aD G b6 (aG 46 K h1 1 ([⟨p.1,0,n.1⟩]:List Edge)::l::box b1 72 [zS a2 g.length c3,i64 n.2.1,Value.int .u64 n.2.2]::aG 46 K a6 a7 a5::aG 9 K b c a.1.L::aG 46 K d e a.1.E::box m 27 k::L) h2)=>(aJ (aB ⟨⟨_,d6⟩,?_⟩)))))
    refine gP rfl ?_;obtain ⟨d7,h3,hm⟩:=aC hm
    refine eX (i:=2) cM underlying25 qA rfl rfl d6 rfl d1 d1 h3 rfl rfl rfl rfl (fun _ h=>h) (fun d8 d9 h4 (e0:aD G b6 (l::box b1 72 [zS a2 g.length c3,i64 n.2.1,Value.int .u64 n.2.2]::aG 46 K d8 d9 d7::aG 9 K b c a.1.L::aG 46 K d e a.1.E::box m 27 k::L) h4)=>(aJ (aB ⟨⟨_,e0⟩,?_⟩)))
    refine bZ rfl (fun _ _=>cU (v:=zS d8 d7.length d9) rfl) (aCv ?_)
    have j8:=g7 _ _ e0
    exact aP
   ·exact aP
 obtain ⟨j9,h5,ho⟩:=aC hm
 refine mX [0,2,3] h5 (fun b7 b8 q b9 f w=>∃ x y,f 4=zS x q.length y/\f 5=i64 b9/\aD G K (aG 46 K x y q::box o 27 (zC a.1 b c d e)::aG 9 K b c a.1.L::aG 46 K d e a.1.E::l::box b1 72 [zS a2 g.length c3,i64 b7,Value.int .u64 b8]::box m 27 k::L) w) aP ?_
 ·rintro b7 b8 q b9 h6 f k0 hm hr ⟨x,y,k1,e1,z⟩
  unfold aDJ at hm
  refine aM (aO (bC e1 (aH (bP (t':=3) dF rfl rfl) (aH (fP iT z (i:=1) rfl rfl rfl) (aH (bI (len:=a.1.E.length) cM rfl) (aH (cQ rfl rfl) (aK ?_)))))))
  rcases aN hm with ⟨e2,hm⟩|⟨e2,hm⟩
  ·refine aT e2 rfl (bB (aB (aM (cS (aO (aH (bP (t':=3) dF rfl rfl) (aH (fP iT z (i:=1) rfl rfl rfl) (bC e1 ?_))))))));obtain ⟨j,c0,hm⟩:=aC hm
   have h7:=dM z (i:=3) rfl c0
   exact aH (fQ cM rfl h7 rfl rfl rfl c0) (aH (aCs (t:=0) (vs:=[i64 j.F,i64 j.B,i64 j.To]) tE z (i:=3) rfl c0 rfl rfl rfl rfl) (aX (vs:=[i64 0,i64 0,i64 0]) zeroValue46 z rfl (fun e3 k2 h8=>(bH (i:=0) (ns:=[i64 j.F,i64 j.B,i64 j.To]) (us:=[i64 j.F,i64 j.B,i64 j.To]) sizeOf46 h8 rfl rfl rfl rfl rfl (cK rfl) rfl rfl (fun h9 (k3:aD G K (box e3 46 [i64 j.F,i64 j.B,i64 j.To]::aG 46 K x y q::box o 27 (zC a.1 b c d e)::aG 9 K b c a.1.L::aG 46 K d e a.1.E::l::box b1 72 [zS a2 g.length c3,i64 b7,Value.int .u64 b8]::box m 27 k::L) h9)=>(aK (qE [0,2,3,4,5,6] (fun f w=>∃ e4 e5 e6,zH q b9 j e4 e5 e6=some h6/\aD G K (box e3 46 [i64 j.F,i64 e6,i64 j.To]::aG 46 K x y q::box o 27 (zC a.1 b c d e)::aG 9 K b c a.1.L::aG 46 K d e a.1.E::l::box b1 72 [zS a2 g.length c3,i64 e4,Value.int .u64 e5]::box m 27 k::L) w) aP aP)))))))
  ·exact aP
theorem aAr {a:(List UInt8)} {c d:Int} {b:(List aF)} {R:(aF × Int × Int)} (hm:aEn a c d b=some R) (e:aD G K (aG 5 K a2 c3 a::box b1 72 [zS a2 a.length c3,i64 c,Value.int .u64 d]::L) w) (g:bS K a4 c5 b):
  Calls prog 38 ([zP (some ⟨b1,0,none⟩),zS a4 b.length c5]:List Value).toArray w (eR fun v w'=>v=str R.1/\aD G K (aG 5 K a2 c3 a::box b1 72 [zS a2 a.length c3,i64 R.2.1,Value.int .u64 R.2.2]::L) w'):=by
 exact aP
theorem aHQ {g:(List UInt8)} {a9 b0:Int} {t:bF} {R:(bF × Int × Int)} (hm:aEU g a9 b0 t=some R) (hs:aD G K (aG 5 K a2 c3 g::box b1 72 [zS a2 g.length c3,i64 a9,Value.int .u64 b0]::L) w) (h6:bS K a4 c5 t.L) (h9:bS K a7 c8 t.E):
  Calls prog 76 ([zP (some ⟨b1,0,none⟩),zA (zCa t a4 c5 a7 c8)]:List Value).toArray w (eR fun v w'=>∃ d2 d3 d4 d5,v=zA (zCa R.1 d2 d3 d4 d5)/\aD G K (aG 9 K d2 d3 R.1.L::aG 46 K d4 d5 R.1.E::aG 5 K a2 c3 g::box b1 72 [zS a2 g.length c3,i64 R.2.1,Value.int .u64 R.2.2]::L) w'):=by
 let l:=(zC t a4 c5 a7 c8)
 let k:=zG
 let m:=aG 5 K a2 c3 g
 let d6:=box b1 72 [zS a2 g.length c3,i64 a9,Value.int .u64 b0]
 refine aR func76 rfl (by kernel_rfl) (by show (2:Nat)<=110;decide) ?_;unfold aEU at hm
 refine aO (fL (v:=zA (zCa t a4 c5 a7 c8)) (vs:=l) hs rfl rfl (fun n q4 j2=>(aX (vs:=k) zeroValue27 j2 rfl (fun o q5 j3=>(aK (aO ?_))))));obtain ⟨q6,d7,j4,j5,j6⟩:=aD.lendBp j3 zt1
 obtain ⟨a,j7,hm⟩:=aC hm
 refine aQ (vs:=[cP (some ⟨n,0,none⟩) 0]) call35 rfl (aAS j7 j5 j4 (h6.mono d7) (h9.mono d7)) ?_
 rintro _ q7 ⟨b,c,d,e,rfl,j8⟩
 have j9:=j6 _ _ j8
 refine aX (vs:=k) zeroValue27 j9 rfl (fun q q8 k0=>(bH (i:=0) (ns:=(zC a b c d e)) (us:=(zC a b c d e)) sizeOf27 k0 rfl rfl rfl rfl rfl (cK rfl) rfl rfl (fun d8 (k1:aD G K (box q 27 (zC a b c d e)::box n 27 l::aG 9 K b c a.L::aG 46 K d e a.E::box o 27 k::m::d6::L) d8)=>(aK (aM (aO (aL (v:=zP (some ⟨b1,0,none⟩)) ?_)))))))
 have k2:aD G K (m::d6::box q 27 (zC a b c d e)::box n 27 l::aG 9 K b c a.L::aG 46 K d e a.E::box o 27 k::L) d8:=(aD.arr 7 [5,6,0,1,2,3,4] k1 rfl)
 obtain ⟨q9,k3,hm⟩:=aC hm
 refine aQ (vs:=[zP (some ⟨b1,0,none⟩),i64 8]) call34 rfl (uA k3 k2) ?_
 rintro _ r0 ⟨rfl,k4⟩
 refine aH (rA rfl) (aK ?_)
 rcases aN hm with ⟨d9,hm⟩|⟨d9,hm⟩
 ·exact aP
 ·refine aW d9 rfl (bB (aB (aM (aO (aL (v:=zP (some ⟨b1,0,none⟩)) ?_)))));obtain ⟨j,k5,hm⟩:=aC hm
  refine aQ (vs:=[zP (some ⟨b1,0,none⟩),i64 8]) call36 rfl (bY k5 k4) ?_
  rintro _ r1 ⟨rfl,p⟩
  refine aK (aV [4,5] (fun f w=>∃ e0 e1 b2 b3 e2 e3 e4 e5 e6 e7,fE e0 e1 b2 b3 e2 e3=some R/\aD G K (m::box b1 72 [zS a2 g.length c3,i64 e2,Value.int .u64 e3]::box q 27 [i64 e0,i64 e1,zS e4 b2.length e5,zS e6 b3.length e7]::aG 9 K e4 e5 b2::aG 46 K e6 e7 b3::box o 27 k::L) w) aP (aO (aH (nW rfl rfl) (aI (v:=zB (j.1 == 0)) (aK ?_)))))
  rcases aN hm with ⟨b4,hm⟩|⟨b4,hm⟩
  ·refine aT b4 rfl (aZ (aL (v:=zP (some ⟨b1,0,none⟩)) (aH (bP (t':=0) lB rfl rfl) (aH (fP fK p (i:=2) rfl rfl rfl) (aH (qZ rfl rfl) (bL (Kt:=K) (xs:=([0,(-1),41,40,wr (a.N - 1)]:List Int)) (cs:=[i64 0,i64 (-1),i64 41,i64 40,i64 (wr (a.N - 1))]) (vs:=[(0,i64 0),(1,i64 (-1)),(2,i64 41),(3,i64 40),(4,i64 (wr (a.N - 1)))]) dA rZ rfl rfl p rfl (by kernel_rfl) rfl rfl rfl ⟨rfl,rfl,rfl,rfl,rfl,trivial⟩ (fun k6 k7 (k8:aD G K (aG 2 K k6 5 ([0,(-1),41,40,wr (a.N - 1)]:List Int)::m::box b1 72 [zS a2 g.length c3,i64 j.2.1,Value.int .u64 j.2.2]::box q 27 (zC a b c d e)::box n 27 l::aG 9 K b c a.L::aG 46 K d e a.E::box o 27 k::L) k7)=>?_)))))))
   obtain ⟨r2,r3,r4,r5,r6⟩:=aD.lendSp k8 (zR _) .head
   exact aP
  ·refine aW b4 rfl (aO (aH (nW rfl rfl) (aI (v:=zB (j.1 == 1)) (aK ?_))))
   rcases aN hm with ⟨b5,hm⟩|⟨b5,hm⟩
   ·refine aT b5 rfl (aZ (aL (v:=zP (some ⟨b1,0,none⟩)) (aH (bP (t':=0) lB rfl rfl) (aH (fP fK p (i:=2) rfl rfl rfl) (bL (Kt:=K) (xs:=([(-1),a.N]:List Int)) (cs:=[i64 (-1),i64 a.N]) (vs:=[(0,i64 (-1)),(1,i64 a.N)]) dA rZ rfl rfl p rfl (by kernel_rfl) rfl rfl rfl ⟨rfl,rfl,trivial⟩ (fun k9 l0 (l1:aD G K (aG 2 K k9 2 ([(-1),a.N]:List Int)::m::box b1 72 [zS a2 g.length c3,i64 j.2.1,Value.int .u64 j.2.2]::box q 27 (zC a b c d e)::box n 27 l::aG 9 K b c a.L::aG 46 K d e a.E::box o 27 k::L) l0)=>?_))))))
    obtain ⟨r7,r8,r9,s0,s1⟩:=aD.lendSp l1 (zR _) .head
    exact aP
   ·refine aW b5 rfl (aO (aH (nW rfl rfl) (aI (v:=zB (j.1 == 2)) (aK ?_))))
    rcases aN hm with ⟨b6,hm⟩|⟨b6,hm⟩
    ·refine aT b6 rfl (aZ (aH (bP (t':=2) fT rfl rfl) (aH (fP gY p (i:=2) rfl rfl rfl) ?_)));obtain ⟨s2,b7,hm⟩:=aC hm
     have l2:=dM p (i:=4) rfl b7
     refine aH (fQ bE rfl l2 rfl rfl rfl b7) ?_;obtain ⟨b8,e8,hm⟩:=aC hm
     refine pD (i:=4) (t:=0) (ns:=[str ([97]:aF)]) (e':=(([97]:aF):aF)) sizeOf9 p rfl (zR _) rfl rfl rfl b7 e8 rfl rfl (cK rfl) rfl (fun cs h=>by cases h;rfl) (fun e9 (l3:aD G K (m::box b1 72 [zS a2 g.length c3,i64 j.2.1,Value.int .u64 j.2.2]::box q 27 (zC a b c d e)::box n 27 l::aG 9 K b c b8::aG 46 K d e a.E::box o 27 k::L) e9)=>?_)
     have s3:aD G K (m::box b1 72 [zS a2 g.length c3,i64 j.2.1,Value.int .u64 j.2.2]::box q 27 [i64 a.N,i64 a.I,zS b b8.length c,zS d a.E.length e]::box n 27 l::aG 9 K b c b8::aG 46 K d e a.E::box o 27 k::L) e9:=by rw [←(mV e8)];exact l3
     exact aP
    ·refine aW b6 rfl (aO (aH (nW rfl rfl) (aI (v:=zB (j.1 == 3)) (aK ?_))))
     rcases aN hm with ⟨b9,hm⟩|⟨b9,hm⟩
     ·refine aT b9 rfl ?_;obtain ⟨a3,c0,l4,f0,l5⟩:=aD.lendBp p zt2
      refine dX (C:=fun w'=>∃ L',aD G a3 L' w') [(0,0),(1,0),(2,0),(3,1),(4,1),(5,1),(6,1),(7,0),(8,2)] Tryz_mixed (by kernel_rfl) (fun _ hg=>⟨_,aD.mono f0 hg⟩) (fun s4 l6=>?_)
      have c1:=aD.mono f0 l6
      refine bZ rfl (fun _ _=>bP (t':=2) fT rfl rfl) (bZ rfl (fun _ ⟨_,c1⟩=>bG (t:=2) gY c1 l4 rfl rfl) (bZ rfl (fun _ _=>bJ (v:=zP (some ⟨b1,0,none⟩)) rfl) (gP rfl (bL (Kt:=K) (xs:=([([116,97,117]:aF),([97]:aF),([122,122]:aF),([65]:aF),([]:aF)]:List aF)) (cs:=[str ([116,97,117]:aF),str ([97]:aF),str ([122,122]:aF),str ([65]:aF),str ([]:aF)]) (vs:=[(0,str ([116,97,117]:aF)),(1,str ([97]:aF)),(2,str ([122,122]:aF)),(3,str ([65]:aF)),(4,str ([]:aF))]) bE iW rfl rfl c1 rfl (by kernel_rfl) rfl rfl rfl ⟨rfl,rfl,rfl,rfl,rfl,trivial⟩ (fun a5 l7 (f1:aD G a3 (aG 9 K a5 5 ([([116,97,117]:aF),([97]:aF),([122,122]:aF),([65]:aF),([]:aF)]:List aF)::m::box b1 72 [zS a2 g.length c3,i64 j.2.1,Value.int .u64 j.2.2]::box n 27 l::aG 9 K b c a.L::aG 46 K d e a.E::box o 27 k::L) l7)=>(aJ (aB ⟨⟨_,f1⟩,?_⟩)))))))
      refine gP rfl ?_;obtain ⟨s5,s6,l8,l9,m0⟩:=aD.lendSp f1 c0 .head
      obtain ⟨u,m1,hm⟩:=aC hm
      refine aQ (vs:=[zP (some ⟨b1,0,none⟩),zS a5 ([([116,97,117]:aF),([97]:aF),([122,122]:aF),([65]:aF),([]:aF)]:List aF).length 5]) call38 rfl (aAr m1 l9 l8) ?_
      rintro _ s7 ⟨rfl,m2⟩
      have f2:=m0 _ _ m2
      refine aJ (aB ⟨⟨_,f2⟩,?_⟩)
      refine gP rfl (bL (Kt:=K) (xs:=([u.1]:List aF)) (cs:=[str u.1]) (vs:=[(0,str u.1)]) bE iW rfl rfl f2 rfl (by kernel_rfl) rfl rfl rfl ⟨rfl,trivial⟩ (fun m3 m4 (f3:aD G a3 (aG 9 K m3 1 ([u.1]:List aF)::aG 9 K a5 5 ([([116,97,117]:aF),([97]:aF),([122,122]:aF),([65]:aF),([]:aF)]:List aF)::m::box b1 72 [zS a2 g.length c3,i64 u.2.1,Value.int .u64 u.2.2]::box n 27 l::aG 9 K b c a.L::aG 46 K d e a.E::box o 27 k::L) m4)=>(aJ (aB ⟨⟨_,f3⟩,?_⟩))))
      refine gP rfl ?_;obtain ⟨m5,m6,hm⟩:=aC hm
      refine eX (i:=4) bE underlying24 iW rfl rfl f3 rfl c0 c0 m6 rfl rfl rfl rfl (fun _ h=>h) (fun m7 m8 m9 (f4:aD G a3 (aG 9 K a5 5 ([([116,97,117]:aF),([97]:aF),([122,122]:aF),([65]:aF),([]:aF)]:List aF)::m::box b1 72 [zS a2 g.length c3,i64 u.2.1,Value.int .u64 u.2.2]::box n 27 l::aG 9 K m7 m8 m5::aG 46 K d e a.E::box o 27 k::L) m9)=>(aJ (aB ⟨⟨_,f4⟩,?_⟩)))
      refine bZ rfl (fun _ _=>bP (t':=2) fT rfl rfl) ?_
      have s8:=l5 _ _ f4
      exact aP
     ·refine aW b9 rfl (aO (aH (nW rfl rfl) (aI (v:=zB (j.1 == 4)) (aK ?_))))
      rcases aN hm with ⟨c2,hm⟩|⟨c2,hm⟩
      ·refine aT c2 rfl (aO (aH (bP (t':=3) dF rfl rfl) (aH (fP iT p (i:=2) rfl rfl rfl) (aH (bI (len:=a.E.length) cM rfl) (aH (sZ rfl rfl) (aK ?_))))))
       rcases aN hm with ⟨f5,hm⟩|⟨f5,hm⟩
       ·refine aT f5 rfl ?_;obtain ⟨s9,n0,f6,n1,n2⟩:=aD.lendBp p zt2
        obtain ⟨f7,f8,f9,g0,n3⟩:=aD.lendSp n1 n0 zt4
        refine dX (C:=fun w'=>∃ L',aD G f7 L' w') [(0,3),(1,0),(2,3),(3,1),(4,1),(5,1),(6,1),(7,2),(8,3),(9,2)] Tryz_mixed (by kernel_rfl) (fun _ hg=>⟨_,aD.mono g0 hg⟩) (fun t0 n4=>?_)
        have x:=aD.mono g0 n4
        refine WE_t rfl (fun _=>bP (t':=3) dF rfl rfl) (bZ rfl (fun _ ⟨_,x⟩=>bG (t:=3) iT x (f6.mono f8) rfl rfl) (WE_t rfl (fun _=>bP (t':=3) dF rfl rfl) (gP rfl (aH (bG (t:=3) iT x (f6.mono f8) rfl rfl) (aJ (aB ⟨⟨_,x⟩,?_⟩))))))
        refine gP rfl ?_;obtain ⟨r,c4,hm⟩:=aC hm
        have n5:=aHD f9 c4
        refine aH (fQ cM rfl n5 rfl rfl rfl c4) (aJ (aB ⟨⟨_,x⟩,?_⟩))
        refine gP rfl ?_;obtain ⟨t1,n6,n7⟩:=bS.el (sz:=3) rfl f9 c4
        cases n7
        refine aH (eJ (t:=0) (vs:=[i64 r.F,i64 r.B,i64 r.To]) tE x n6 rfl rfl rfl) (aJ (aB ⟨⟨_,x⟩,?_⟩))
        refine gP rfl (bL (Kt:=K) (xs:=([r]:List Edge)) (cs:=[i64 r.F,i64 r.B,i64 r.To]) (vs:=[(0,zA #[i64 r.F,i64 r.B,i64 r.To])]) cM qA rfl rfl x rfl (by kernel_rfl) rfl rfl rfl ⟨rfl,trivial⟩ (fun g1 g2 (g3:aD G f7 (aG 46 K g1 1 ([r]:List Edge)::m::box b1 72 [zS a2 g.length c3,i64 j.2.1,Value.int .u64 j.2.2]::box n 27 l::aG 9 K b c a.L::box o 27 k::L) g2)=>(aJ (aB ⟨⟨_,g3⟩,?_⟩))))
        have n8:=n3 _ _ g3
        have n9:=n2 _ _ n8
        refine aFy rfl ?_;obtain ⟨t2,t3,hm⟩:=aC hm
        have t4:aD G K (aG 46 K g1 1 ([r]:List Edge)::box q 27 (zC a b c d e)::aG 46 K d e a.E::m::box b1 72 [zS a2 g.length c3,i64 j.2.1,Value.int .u64 j.2.2]::box n 27 l::aG 9 K b c a.L::box o 27 k::L) g2:=(aD.arr 3 [2,0,1] n9 rfl)
        exact aP
       ·exact aP
      ·refine aW c2 rfl (aO (aH (nW rfl rfl) (aI (v:=zB (j.1 == 5)) (aK ?_))))
       rcases aN hm with ⟨c6,hm⟩|⟨c6,hm⟩
       ·refine aT c6 rfl (aO (aH (bP (t':=3) dF rfl rfl) (aH (fP iT p (i:=2) rfl rfl rfl) (aH (bI (len:=a.E.length) cM rfl) (aH (sZ rfl rfl) (aK ?_))))))
        rcases aN hm with ⟨g4,hm⟩|⟨g4,hm⟩
        ·refine aT g4 rfl (aO (aL (v:=zP (some ⟨b1,0,none⟩)) (aH (bP (t':=3) dF rfl rfl) (aH (fP iT p (i:=2) rfl rfl rfl) (aH (bI (len:=a.E.length) cM rfl) ?_)))));obtain ⟨a0,o0,hm⟩:=aC hm
         refine aQ (vs:=[zP (some ⟨b1,0,none⟩),i64 (a.E.length:Int)]) call36 rfl (bY o0 p) ?_
         rintro _ t5 ⟨rfl,o1⟩
         refine aI (v:=i64 a0.1) (aK ?_);obtain ⟨g5,o2,g6,g7,o3⟩:=aD.lendBp o1 zt2
         refine dX (C:=fun w'=>∃ L',aD G g5 L' w') [(0,0),(1,0),(2,0),(3,0),(4,1),(5,1),(6,1),(7,1),(8,1),(9,2),(10,2),(11,2)] Tryz_mixed (by kernel_rfl) (fun _ hg=>⟨_,aD.mono g7 hg⟩) (fun t6 o4=>?_)
         have y:=aD.mono g7 o4
         refine bZ rfl (fun _ _=>bP (t':=3) dF rfl rfl) (bZ rfl (fun _ ⟨_,y⟩=>bG (t:=3) iT y g6 rfl rfl) (bZ rfl (fun _ _=>bJ (v:=i64 a0.1) rfl) (bZ rfl (fun _ _=>bJ (v:=zP (some ⟨b1,0,none⟩)) rfl) (gP rfl (aH (bP (t':=2) fT rfl rfl) (aJ (aB ⟨⟨_,y⟩,?_⟩)))))))
         refine gP rfl (aH (bG (t:=2) gY y g6 rfl rfl) (aJ (aB ⟨⟨_,y⟩,?_⟩)))
         refine gP rfl (aH (bI (len:=a.L.length) bE rfl) (aJ (aB ⟨⟨_,y⟩,?_⟩)))
         refine gP rfl (bL (Kt:=K) (xs:=([(-1),(a.L.length:Int),0]:List Int)) (cs:=[i64 (-1),i64 (a.L.length:Int),i64 0]) (vs:=[(0,i64 (-1)),(1,i64 (a.L.length:Int)),(2,i64 0)]) dA rZ rfl rfl y rfl (by kernel_rfl) rfl rfl rfl ⟨rfl,rfl,rfl,trivial⟩ (fun a6 o5 (g8:aD G g5 (aG 2 K a6 3 ([(-1),(a.L.length:Int),0]:List Int)::m::box b1 72 [zS a2 g.length c3,i64 a0.2.1,Value.int .u64 a0.2.2]::box n 27 l::aG 9 K b c a.L::aG 46 K d e a.E::box o 27 k::L) o5)=>(aJ (aB ⟨⟨_,g8⟩,?_⟩))))
         refine gP rfl ?_;obtain ⟨t7,t8,o6,o7,o8⟩:=aD.lendSp g8 o2 .head
         obtain ⟨z,o9,hm⟩:=aC hm
         refine aQ (vs:=[zP (some ⟨b1,0,none⟩),zS a6 ([(-1),(a.L.length:Int),0]:List Int).length 3]) call119 rfl (mG o9 o7 o6) ?_
         rintro _ t9 ⟨rfl,p0⟩
         have g9:=o8 _ _ p0
         refine aJ (aB ⟨⟨_,g9⟩,?_⟩)
         have h0:=o3 _ _ g9
         refine aFy rfl ?_;obtain ⟨h1,c7,hm⟩:=aC hm
         have h2:=dM h0 (i:=6) rfl c7
         refine aH (fQ cM rfl h2 rfl rfl rfl c7) (aK (aFy rfl (aH (aMr (k':=a0.1.toNat * 3+1) aAG h2 rfl rfl) (aK (aFy rfl ?_)))));obtain ⟨c9,h3,hm⟩:=aC hm
         refine pD (i:=6) (t:=1) (ns:=[i64 z.1]) (e':=(⟨h1.F,z.1,h1.To⟩:Edge)) sizeOf2 h0 rfl (zR _) rfl rfl rfl c7 h3 rfl rfl (cK rfl) rfl (fun cs h=>by cases h;rfl) (fun h4 (p1:aD G K (box q 27 (zC a b c d e)::aG 2 K a6 3 ([(-1),(a.L.length:Int),0]:List Int)::m::box b1 72 [zS a2 g.length c3,i64 z.2.1,Value.int .u64 z.2.2]::box n 27 l::aG 9 K b c a.L::aG 46 K d e c9::box o 27 k::L) h4)=>?_)
         have u0:aD G K (box q 27 [i64 a.N,i64 a.I,zS b a.L.length c,zS d c9.length e]::aG 2 K a6 3 ([(-1),(a.L.length:Int),0]:List Int)::m::box b1 72 [zS a2 g.length c3,i64 z.2.1,Value.int .u64 z.2.2]::box n 27 l::aG 9 K b c a.L::aG 46 K d e c9::box o 27 k::L) h4:=by rw [←(mV h3)];exact p1
         exact aP
        ·exact aP
       ·refine aW c6 rfl (aO (aH (nW rfl rfl) (aI (v:=zB (j.1 == 6)) (aK ?_))))
        rcases aN hm with ⟨h5,hm⟩|⟨h5,hm⟩
        ·refine aT h5 rfl (aO (aH (bP (t':=3) dF rfl rfl) (aH (fP iT p (i:=2) rfl rfl rfl) (aH (bI (len:=a.E.length) cM rfl) (aH (sZ rfl rfl) (aK ?_))))))
         rcases aN hm with ⟨h7,hm⟩|⟨h7,hm⟩
         ·refine aT h7 rfl (aO (aL (v:=zP (some ⟨b1,0,none⟩)) (aH (bP (t':=3) dF rfl rfl) (aH (fP iT p (i:=2) rfl rfl rfl) (aH (bI (len:=a.E.length) cM rfl) ?_)))));obtain ⟨a1,p2,hm⟩:=aC hm
          refine aQ (vs:=[zP (some ⟨b1,0,none⟩),i64 (a.E.length:Int)]) call36 rfl (bY p2 p) ?_
          rintro _ u1 ⟨rfl,p3⟩
          refine aI (v:=i64 a1.1) (aK ?_);obtain ⟨h8,p4,i0,i1,p5⟩:=aD.lendBp p3 zt2
          refine dX (C:=fun w'=>∃ L',aD G h8 L' w') [(0,0),(1,0),(2,0),(3,0),(4,1),(5,1),(6,1),(7,1),(8,2),(9,2),(10,2)] Tryz_mixed (by kernel_rfl) (fun _ hg=>⟨_,aD.mono i1 hg⟩) (fun u2 p6=>?_)
          have V:=aD.mono i1 p6
          refine bZ rfl (fun _ _=>bP (t':=3) dF rfl rfl) (bZ rfl (fun _ ⟨_,V⟩=>bG (t:=3) iT V i0 rfl rfl) (bZ rfl (fun _ _=>bJ (v:=i64 a1.1) rfl) (bZ rfl (fun _ _=>bJ (v:=zP (some ⟨b1,0,none⟩)) rfl) (gP rfl (aH (bP (t':=0) lB rfl rfl) (aJ (aB ⟨⟨_,V⟩,?_⟩)))))))
          refine gP rfl (aH (bG (t:=0) fK V i0 rfl rfl) (aJ (aB ⟨⟨_,V⟩,?_⟩)))
          refine gP rfl (bL (Kt:=K) (xs:=([(-1),a.N,0]:List Int)) (cs:=[i64 (-1),i64 a.N,i64 0]) (vs:=[(0,i64 (-1)),(1,i64 a.N),(2,i64 0)]) dA rZ rfl rfl V rfl (by kernel_rfl) rfl rfl rfl ⟨rfl,rfl,rfl,trivial⟩ (fun a8 p7 (i2:aD G h8 (aG 2 K a8 3 ([(-1),a.N,0]:List Int)::m::box b1 72 [zS a2 g.length c3,i64 a1.2.1,Value.int .u64 a1.2.2]::box n 27 l::aG 9 K b c a.L::aG 46 K d e a.E::box o 27 k::L) p7)=>(aJ (aB ⟨⟨_,i2⟩,?_⟩))))
          refine gP rfl ?_;obtain ⟨u3,u4,p8,p9,q0⟩:=aD.lendSp i2 p4 .head
          obtain ⟨Z,q1,hm⟩:=aC hm
          refine aQ (vs:=[zP (some ⟨b1,0,none⟩),zS a8 ([(-1),a.N,0]:List Int).length 3]) call119 rfl (mG q1 p9 p8) ?_
          rintro _ u5 ⟨rfl,q2⟩
          have i3:=q0 _ _ q2
          refine aJ (aB ⟨⟨_,i3⟩,?_⟩)
          have i4:=p5 _ _ i3
          refine aFy rfl ?_;obtain ⟨i5,d0,hm⟩:=aC hm
          have i6:=dM i4 (i:=6) rfl d0
          refine aH (fQ cM rfl i6 rfl rfl rfl d0) (aK (aFy rfl (aH (aMr (k':=a1.1.toNat * 3+2) aBM i6 rfl rfl) (aK (aFy rfl ?_)))));obtain ⟨d1,i7,hm⟩:=aC hm
          refine pD (i:=6) (t:=2) (ns:=[i64 Z.1]) (e':=(⟨i5.F,i5.B,Z.1⟩:Edge)) sizeOf2 i4 rfl (zR _) rfl rfl rfl d0 i7 rfl rfl (cK rfl) rfl (fun cs h=>by cases h;rfl) (fun i8 (q3:aD G K (box q 27 (zC a b c d e)::aG 2 K a8 3 ([(-1),a.N,0]:List Int)::m::box b1 72 [zS a2 g.length c3,i64 Z.2.1,Value.int .u64 Z.2.2]::box n 27 l::aG 9 K b c a.L::aG 46 K d e d1::box o 27 k::L) i8)=>?_)
          have u6:aD G K (box q 27 [i64 a.N,i64 a.I,zS b a.L.length c,zS d d1.length e]::aG 2 K a8 3 ([(-1),a.N,0]:List Int)::m::box b1 72 [zS a2 g.length c3,i64 Z.2.1,Value.int .u64 Z.2.2]::box n 27 l::aG 9 K b c a.L::aG 46 K d e d1::box o 27 k::L) i8:=by rw [←(mV i7)];exact q3
          exact aP
         ·exact aP
        ·exact aP
theorem aHR {a:(List UInt8)} {b c:Int} {R:(bF × (List UInt8) × Int × Int)} (hm:aMz a b c=some R) (k:aD G K (aG 5 K a2 c3 a::box b1 72 [zS a2 a.length c3,i64 b,Value.int .u64 c]::L) w):
  Calls prog 32 ([zP (some ⟨b1,0,none⟩)]:List Value).toArray w (eR fun v w'=>∃ d e g h i j,v=zA (zCa R.1 d e g h)/\aD G K (aG 9 K d e R.1.L::aG 46 K g h R.1.E::aG 5 K i j R.2.1::box b1 72 [zS i R.2.1.length j,i64 R.2.2.1,Value.int .u64 R.2.2.2]::L) w'):=by
 exact aP
end Gv
