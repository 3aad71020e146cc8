/- Walks, printed by program. -/
import Derived.Test.YtfneiajlaacfoaaGreatDoorJWk1
set_option linter.all false
namespace Gv
open Gv.Hp renaming le_refl→zR
open Go.Value renaming slice→zS,bool→zB,pointer→zP,agg→zA
open Option.some renaming inj→zI
open Gv.Hp renaming le_trans→zL
open Go Go.Proofs Go.Proofs.Tryz
set_option maxRecDepth 20000
set_option maxHeartbeats 40000000
variable {G:rY} {K:Hp} {L:List fD} {w:World} {b1 c3 c6 c9:Nat} {a2 a5 a8:Option Addr}
theorem jJ {a:(List UInt8)} {c d:Int} {b:(List Int)} {R:(Int × Int × Int)} (hm:eE a c d b=some R) (e:aE G K (box b1 75 [zS a2 a.length c3,i64 c,Value.int .u64 d]::L) w) (g:bL K a2 c3 a) (h:bL K a5 c6 b):
  Calls prog 44 ([zP (some ⟨b1,0,none⟩),zS a5 b.length c6]:List Value).toArray w (dQ fun v w'=>v=i64 R.1/\aE G K (box b1 75 [zS a2 a.length c3,i64 R.2.1,Value.int .u64 R.2.2]::L) w'):=by
 exact aM
theorem aDw {b:(List UInt8)} {e6 e7:Int} {R:(cR × Int × Int)} (hm:wA b e6 e7=some R) (hs:aE G K (box b1 75 [zS a2 b.length c3,i64 e6,Value.int .u64 e7]::L) w) (o:bL K a2 c3 b):
  Calls prog 19 ([zP (some ⟨b1,0,none⟩)]:List Value).toArray w (dQ fun v w'=>∃ i4 i5 i6 i7,v=zA (zCa R.1 i4 i5 i6 i7)/\aE G K (own 9 K i4 i5 R.1.L::own 86 K i6 i7 R.1.E::box b1 75 [zS a2 b.length c3,i64 R.2.1,Value.int .u64 R.2.2]::L) w'):=by
 let e:=zG
 refine aN func19 rfl (by kernel_rfl) (by show (1:Nat)<=125;decide) ?_;unfold wA at hm
 refine aL (cT (vs:=e) zeroValue28 hs rfl (fun g w6 k9=>(aI (aL (aG (v:=zP (some ⟨b1,0,none⟩)) ?_)))))
 have l0:aE G K (box b1 75 [zS a2 b.length c3,i64 e6,Value.int .u64 e7]::box g 28 e::L) w6:=(aE.arr 2 [1,0] k9 rfl)
 obtain ⟨j,l1,hm⟩:=aB hm
 refine aP (vs:=[zP (some ⟨b1,0,none⟩),i64 4]) call36 rfl (bB l1 l0 o) ?_
 rintro _ t9 ⟨rfl,l2⟩
 refine aD (dA rfl rfl) (aH (v:=i64 (wr (1+j.1))) (aI (aL (aG (v:=i64 (wr (1+j.1))) (aG (v:=zP (some ⟨b1,0,none⟩)) (aG (v:=i64 (wr (1+j.1))) (aD (pT rfl rfl) ?_)))))));obtain ⟨p,l3,hm⟩:=aB hm
 refine aP (vs:=[zP (some ⟨b1,0,none⟩),i64 (wr (7 - (wr (1+j.1))))]) call36 rfl (bB l3 l2 o) ?_
 rintro _ u0 ⟨rfl,l4⟩
 refine aD (dA rfl rfl) (aH (v:=i64 (wr ((wr (1+j.1))+p.1))) (aI (aL (aG (v:=zP (some ⟨b1,0,none⟩)) ?_))));obtain ⟨a,l5,hm⟩:=aB hm
 refine aP (vs:=[zP (some ⟨b1,0,none⟩)]) call43 rfl (aAx l5 l4 o) ?_
 rintro _ u1 ⟨c,d,rfl,l6⟩
 refine aH (v:=zS c a.1.length d) (aI (aL (bM (Kt:=K) (xs:=([]:List Int)) (cs:=[]) (vs:=[]) bJ lN rfl rfl l6 rfl (by kernel_rfl) rfl rfl rfl trivial (fun e8 l7 (l8:aE G K (own 2 K e8 0 ([]:List Int)::own 9 K c d a.1::box b1 75 [zS a2 b.length c3,i64 a.2.1,Value.int .u64 a.2.2]::box g 28 e::L) l7)=>(aH (v:=zS e8 ([]:List Int).length 0) (aI (aJ (aL (aH (v:=i64 0) (aI (aR [0,2,3,4,5] (fun f w=>∃ b7 b8 k l m,qW b j p a b7 b8 k=some R/\f 6=zS l k.length m/\aE G K (own 2 K l m k::own 9 K c d a.1::box b1 75 [zS a2 b.length c3,i64 b7,Value.int .u64 b8]::box g 28 e::L) w) ?_ ?_)))))))))))
 ·rintro f u2 ⟨b7,b8,k,l,m,hm,i8,l9⟩
  unfold qW at hm
  refine aC (aL (bM (Kt:=K) (xs:=([]:List Edge)) (cs:=[]) (vs:=[]) jK aEH rfl rfl l9 rfl (by kernel_rfl) rfl rfl rfl trivial (fun e9 i9 (m0:aE G K (own 86 K e9 0 ([]:List Edge)::own 2 K l m k::own 9 K c d a.1::box b1 75 [zS a2 b.length c3,i64 b7,Value.int .u64 b8]::box g 28 e::L) i9)=>(aH (v:=zS e9 ([]:List Edge).length 0) (aI (aJ (aL (aG (v:=zP (some ⟨b1,0,none⟩)) (aG (v:=i64 (wr (1+j.1))) (aD (aFR rfl rfl) (aD (dA rfl rfl) ?_)))))))))))
  have m1:aE G K (box b1 75 [zS a2 b.length c3,i64 b7,Value.int .u64 b8]::own 86 K e9 0 ([]:List Edge)::own 2 K l m k::own 9 K c d a.1::box g 28 e::L) i9:=(aE.arr 4 [3,0,1,2] m0 rfl)
  obtain ⟨m2,m3,hm⟩:=aB hm
  refine aP (vs:=[zP (some ⟨b1,0,none⟩),i64 (wr (2+(wr (2 * (wr (1+j.1))))))]) call36 rfl (bB m3 m1 o) ?_
  rintro _ u3 ⟨rfl,u4⟩
  refine aH (v:=i64 m2.1) (aI (aR [0,2,4,5] (fun f w=>∃ c1 c2 b9 c4 c48,sL b j p a c1 c2 b9=some R/\f 8=zS c4 b9.length c48/\aE G K (own 86 K c4 c48 b9::box b1 75 [zS a2 b.length c3,i64 c1,Value.int .u64 c2]::own 9 K c d a.1::box g 28 e::L) w) ?_ ?_))
  ·rintro f m4 ⟨c1,c2,b9,c4,c48,hm,m5,m6⟩
   unfold sL at hm
   refine aC (jV [0,2,4,5] (fun f w=>∃ j0 j1 f0 j2 j3,sK b j p a j0 j1 f0=some R/\f 8=zS j2 f0.length j3/\aE G K (own 86 K j2 j3 f0::box b1 75 [zS a2 b.length c3,i64 j0,Value.int .u64 j1]::own 9 K c d a.1::box g 28 e::L) w) aM (aL (aG (v:=zP (some ⟨b1,0,none⟩)) ?_)))
   have m7:aE G K (box b1 75 [zS a2 b.length c3,i64 c1,Value.int .u64 c2]::own 86 K c4 c48 b9::own 9 K c d a.1::box g 28 e::L) m4:=(aE.arr 2 [1,0] m6 rfl)
   obtain ⟨u5,m8,hm⟩:=aB hm
   refine aP (vs:=[zP (some ⟨b1,0,none⟩),i64 3]) call34 rfl (lE m8 m7 o) ?_
   rintro _ u6 ⟨rfl,m9⟩
   refine aI ?_
   rcases aK hm with ⟨j4,hm⟩|⟨j4,hm⟩
   ·refine aQ j4 rfl (aU (bI m5 (aG (v:=zP (some ⟨b1,0,none⟩)) (aG (v:=i64 (wr ((wr (1+j.1))+p.1))) ?_))));obtain ⟨u7,n0,hm⟩:=aB hm
    refine aP (vs:=[zP (some ⟨b1,0,none⟩),i64 (wr ((wr (1+j.1))+p.1))]) call36 rfl (bB n0 m9 o) ?_
    rintro _ u8 ⟨rfl,n1⟩
    refine aG (v:=zP (some ⟨b1,0,none⟩)) (aG (v:=zS c a.1.length d) (aD (bF (len:=a.1.length) kN rfl) ?_));obtain ⟨u9,n2,hm⟩:=aB hm
    refine aP (vs:=[zP (some ⟨b1,0,none⟩),i64 (a.1.length:Int)]) call36 rfl (bB n2 n1 o) ?_
    rintro _ v0 ⟨rfl,n3⟩
    refine aG (v:=zP (some ⟨b1,0,none⟩)) (aG (v:=i64 (wr ((wr (1+j.1))+p.1))) ?_);obtain ⟨v1,n4,hm⟩:=aB hm
    exact aP (vs:=[zP (some ⟨b1,0,none⟩),i64 (wr ((wr (1+j.1))+p.1))]) call36 rfl (bB n4 n3 o) aM
   ·exact aM
  obtain ⟨v2,n5,ho⟩:=aB hm
  refine aEB [0,2,3,4,5,6] n5 (fun c5 c6 c0 b0 f w=>∃ c7 c8,f 8=zS c7 c0.length c8/\f 9=i64 b0/\aE G K (box b1 75 [zS a2 b.length c3,i64 c5,Value.int .u64 c6]::own 86 K c7 c8 c0::own 2 K l m k::own 9 K c d a.1::box g 28 e::L) w) aM ?_
  ·rintro c5 c6 c0 b0 f1 f v3 hm hr ⟨c7,c8,n6,j5,j6⟩
   unfold nE at hm
   refine aJ (aL (bI j5 (aD (xU rfl rfl) (aI ?_))))
   rcases aK hm with ⟨f2,hm⟩|⟨f2,hm⟩
   ·refine aQ f2 rfl (aW (aC (aJ (aR [0,2,3,4,5,6,9] (fun f w=>∃ f3 f4 c9 d0 d1,wQ b0 f3 f4 c9=some f1/\f 8=zS d0 c9.length d1/\aE G K (own 86 K d0 d1 c9::box b1 75 [zS a2 b.length c3,i64 f3,Value.int .u64 f4]::own 2 K l m k::own 9 K c d a.1::box g 28 e::L) w) ?_ ?_))))
    ·rintro f v4 ⟨f3,f4,c9,d0,d1,hm,n7,n8⟩
     unfold wQ at hm
     exact aC (aU (bI j5 (aD (pT rfl rfl) (aH (v:=i64 (wr (b0 - 1))) (aI ⟨_,(zI hm).symm,bK,d0,d1,n7,rfl,(aE.arr 2 [1,0] n8 rfl)⟩)))))
    refine aL (aG (v:=zP (some ⟨b1,0,none⟩)) (aG (v:=i64 (wr (1+j.1))) ?_));obtain ⟨j7,n9,hm⟩:=aB hm
    refine aP (vs:=[zP (some ⟨b1,0,none⟩),i64 (wr (1+j.1))]) call36 rfl (bB n9 j6 o) ?_
    rintro _ v5 ⟨rfl,o0⟩
    refine aH (v:=i64 j7.1) (aI (aL (aG (v:=zP (some ⟨b1,0,none⟩)) (aG (v:=zS c a.1.length d) (aD (bF (len:=a.1.length) kN rfl) ?_)))));obtain ⟨J,o1,hm⟩:=aB hm
    refine aP (vs:=[zP (some ⟨b1,0,none⟩),i64 (a.1.length:Int)]) call36 rfl (bB o1 o0 o) ?_
    rintro _ v6 ⟨rfl,o2⟩
    refine aH (v:=i64 J.1) (aI (aL (aG (v:=zP (some ⟨b1,0,none⟩)) (aG (v:=i64 (wr (1+j.1))) ?_))));obtain ⟨j8,o3,hm⟩:=aB hm
    refine aP (vs:=[zP (some ⟨b1,0,none⟩),i64 (wr (1+j.1))]) call36 rfl (bB o3 o2 o) ?_
    rintro _ v7 ⟨rfl,v8⟩
    refine aH (v:=i64 j8.1) (aI (aL (aH (v:=i64 0) (aI (aR [0,2,3,4,5,6,9] (fun f w=>∃ j9 k0 f5 k1 k2,wR b0 j9 k0 f5=some f1/\f 8=zS k1 f5.length k2/\aE G K (own 86 K k1 k2 f5::box b1 75 [zS a2 b.length c3,i64 j9,Value.int .u64 k0]::own 2 K l m k::own 9 K c d a.1::box g 28 e::L) w) aM ?_)))));obtain ⟨v9,o4,ho⟩:=aB hm
    refine aEB [0,2,3,4,5,6,9,10,11,12] o4 (fun q r n u f w=>∃ y z,f 8=zS y n.length z/\f 13=i64 u/\aE G K (box b1 75 [zS a2 b.length c3,i64 q,Value.int .u64 r]::own 86 K y z n::own 2 K l m k::own 9 K c d a.1::box g 28 e::L) w) aM ?_
    ·rintro q r n u f6 f w0 hm hr ⟨y,z,k3,d2,d3⟩
     unfold pI at hm
     refine aJ (aL (bI d2 (aG (v:=i64 (wr ((wr (1+j.1))+p.1))) (aD (cW rfl rfl) (aI ?_)))))
     rcases aK hm with ⟨f7,hm⟩|⟨f7,hm⟩
     ·refine aQ f7 rfl (aW (aC (aJ (aR [0,2,3,4,5,6,9,10,11,12,13] (fun f w=>∃ f8 f9 d4 d5 d6,sM u f8 f9 d4=some f6/\f 8=zS d5 d4.length d6/\aE G K (box b1 75 [zS a2 b.length c3,i64 f8,Value.int .u64 f9]::own 86 K d5 d6 d4::own 2 K l m k::own 9 K c d a.1::box g 28 e::L) w) ?_ ?_))))
      ·rintro f w1 ⟨f8,f9,d4,d5,d6,hm,o5,o6⟩
       unfold sM at hm
       exact aC (aU (bI d2 (aD (dA rfl rfl) (aH (v:=i64 (wr (u+1))) (aI ⟨_,(zI hm).symm,bK,d5,d6,o5,rfl,o6⟩)))))
      refine aJ (aL (bI i8 (bI d2 ?_)));obtain ⟨w2,g0,hm⟩:=aB hm
      have k4:=bV d3 (i:=2) rfl g0
      refine aD (cQ bJ rfl k4 rfl rfl rfl g0) (aD (nB (t:=0) dM d3 (i:=2) rfl g0 rfl rfl rfl) (aG (v:=i64 j7.1) (aD (aCf rfl rfl) (aI ?_))))
      rcases aK hm with ⟨k5,hm⟩|⟨k5,hm⟩
      ·exact aM
      ·refine aT k5 rfl (aW (aC (aL (bM (Kt:=K) (xs:=([]:List Int)) (cs:=[]) (vs:=[]) bJ lN rfl rfl d3 rfl (by kernel_rfl) rfl rfl rfl trivial (fun g1 o7 (o8:aE G K (own 2 K g1 0 ([]:List Int)::box b1 75 [zS a2 b.length c3,i64 q,Value.int .u64 r]::own 86 K y z n::own 2 K l m k::own 9 K c d a.1::box g 28 e::L) o7)=>(aH (v:=zS g1 ([]:List Int).length 0) (aI (aJ (aL (aH (v:=i64 0) (aI (aR [0,2,3,4,5,6,8,9,10,11,12,13] (fun f w=>∃ a6 b2 b3,sO b J q r n u a6=some f6/\f 14=zS b2 a6.length b3/\aE G K (own 2 K b2 b3 a6::box b1 75 [zS a2 b.length c3,i64 q,Value.int .u64 r]::own 86 K y z n::own 2 K l m k::own 9 K c d a.1::box g 28 e::L) w) ?_ ?_))))))))))))
       ·rintro f w3 ⟨a6,b2,b3,hm,o9,p0⟩
        unfold sO at hm
        refine aC (aU (bI k3 (bI d2 (aG (v:=i64 J.1) (aG (v:=zP (some ⟨b1,0,none⟩)) (bI o9 ?_))))));obtain ⟨w4,p1,p2,p3,p4⟩:=aE.lendSp p0 (zR _) .head
        obtain ⟨x,p5,hm⟩:=aB hm
        refine aP (vs:=[zP (some ⟨b1,0,none⟩),zS b2 a6.length b3]) call44 rfl (jJ p5 p3 (o.mono p1) p2) ?_
        rintro _ w5 ⟨rfl,p6⟩
        have p7:=p4 _ _ p6
        refine aD (cN (vs:=[(0,i64 u),(1,i64 J.1),(2,i64 x.1)]) (cs:=[i64 u,i64 J.1,i64 x.1]) bs_86 rfl (by kernel_rfl)) (bM (Kt:=K) (xs:=([⟨u,J.1,x.1⟩]:List Edge)) (cs:=[i64 u,i64 J.1,i64 x.1]) (vs:=[(0,zA #[i64 u,i64 J.1,i64 x.1])]) jK aEH rfl rfl p7 rfl (by kernel_rfl) rfl rfl rfl ⟨rfl,trivial⟩ (fun p8 p9 (q0:aE G K (own 86 K p8 1 ([⟨u,J.1,x.1⟩]:List Edge)::own 2 K b2 b3 a6::box b1 75 [zS a2 b.length c3,i64 x.2.1,Value.int .u64 x.2.2]::own 86 K y z n::own 2 K l m k::own 9 K c d a.1::box g 28 e::L) p9)=>?_))
        obtain ⟨g2,q1,hm⟩:=aB hm
        exact hJ (i:=2) jK underlying26 aEH rfl rfl q0 rfl (zR _) (zR _) q1 rfl rfl rfl rfl (fun _ h=>h) (fun g3 g4 q2 (q3:aE G K (own 2 K b2 b3 a6::box b1 75 [zS a2 b.length c3,i64 x.2.1,Value.int .u64 x.2.2]::own 86 K g3 g4 g2::own 2 K l m k::own 9 K c d a.1::box g 28 e::L) q2)=>(aH (v:=zS g3 g2.length g4) (aZ (cL (aC ⟨bK,x.2.1,x.2.2,g2,g3,g4,hm,rfl,(aE.arr 1 [] q3 rfl)⟩)))))
       obtain ⟨w7,q4,ho⟩:=aB hm
       refine bX [0,2,3,4,5,6,8,9,10,11,12,13] q4 (fun a7 a0 f w=>∃ b4 b6,f 14=zS b4 a7.length b6/\f 15=i64 a0/\aE G K (own 2 K b4 b6 a7::box b1 75 [zS a2 b.length c3,i64 q,Value.int .u64 r]::own 86 K y z n::own 2 K l m k::own 9 K c d a.1::box g 28 e::L) w) ?_ ?_
       ·exact ⟨g1,0,rfl,rfl,o8⟩
       ·rintro a7 a0 q5 f w8 hm hr ⟨b4,b6,g5,d7,d8⟩
        unfold kQ at hm
        refine aJ (aL (bI d7 (aG (v:=i64 (wr ((wr (1+j.1))+p.1))) (aD (cW rfl rfl) (aI ?_)))))
        rcases aK hm with ⟨g6,hm⟩|⟨g6,hm⟩
        ·refine aQ g6 rfl (aW (aC (aJ (aR [0,2,3,4,5,6,8,9,10,11,12,13,15] (fun f w=>∃ d9 e0 e1,sP a0 d9=some q5/\f 14=zS e0 d9.length e1/\aE G K (own 2 K e0 e1 d9::box b1 75 [zS a2 b.length c3,i64 q,Value.int .u64 r]::own 86 K y z n::own 2 K l m k::own 9 K c d a.1::box g 28 e::L) w) ?_ ?_))))
         ·rintro f w9 ⟨d9,e0,e1,hm,q6,q7⟩
          unfold sP at hm
          exact aC (aU (bI d7 (aD (dA rfl rfl) (aH (v:=i64 (wr (a0+1))) (aI ⟨_,(zI hm).symm,bK,e0,e1,q6,rfl,q7⟩)))))
         refine aL (bI i8 (bI d7 ?_));obtain ⟨x0,k6,hm⟩:=aB hm
         refine aD (cQ bJ rfl k4 rfl rfl rfl k6) (aD (nB (t:=0) dM d8 (i:=3) rfl k6 rfl rfl rfl) (aG (v:=i64 j8.1) (aD (lX rfl rfl) (aI ?_))))
         rcases aK hm with ⟨g7,hm⟩|⟨g7,hm⟩
         ·refine aQ g7 rfl (aU (bI g5 (bI d7 (bM (Kt:=K) (xs:=([a0]:List Int)) (cs:=[i64 a0]) (vs:=[(0,i64 a0)]) bJ lN rfl rfl d8 rfl (by kernel_rfl) rfl rfl rfl ⟨rfl,trivial⟩ (fun q8 q9 (r0:aE G K (own 2 K q8 1 ([a0]:List Int)::own 2 K b4 b6 a7::box b1 75 [zS a2 b.length c3,i64 q,Value.int .u64 r]::own 86 K y z n::own 2 K l m k::own 9 K c d a.1::box g 28 e::L) q9)=>?_)))));obtain ⟨g8,r1,hm⟩:=aB hm
          exact hJ (i:=0) bJ underlying41 lN rfl rfl r0 rfl (zR _) (zR _) r1 rfl rfl rfl rfl (fun _ h=>h) (fun g9 h0 r2 (r3:aE G K (own 2 K g9 h0 g8::box b1 75 [zS a2 b.length c3,i64 q,Value.int .u64 r]::own 86 K y z n::own 2 K l m k::own 9 K c d a.1::box g 28 e::L) r2)=>(aH (v:=zS g9 g8.length h0) (aZ (cL (aC ⟨bK,g8,g9,h0,hm,rfl,r3⟩)))))
         ·exact aT g7 rfl (aW (cL (aC ⟨bK,a7,b4,b6,hm,g5,d8⟩)))
        ·refine aT g6 rfl (aBk (kG (kG ?_)))
         have r4:=hr _ (zI hm).symm
         subst r4
         have hm:(sO b J q r n u a7)=some f6:=ho
         clear hr ho
         exact uF (aC ⟨bK,a7,b4,b6,hm,g5,d8⟩)
     ·refine aT f7 rfl (aBk (kG (kG ?_)))
      have r5:=hr _ (zI hm).symm
      subst r5
      have hm:(wR b0 q r n)=some f1:=ho
      clear hr ho
      exact uF (aC ⟨bK,q,r,n,y,z,hm,k3,(aE.arr 2 [1,0] d3 rfl)⟩)
   ·refine aT f2 rfl (aBk (kG (kG ?_)))
    have r6:=hr _ (zI hm).symm
    subst r6
    have hm:(sL b j p a c5 c6 c0)=some R:=ho
    clear hr ho
    exact uF (aC ⟨bK,c5,c6,c0,c7,c8,hm,n6,(aE.arr 3 [1,0] j6 rfl)⟩)
 obtain ⟨x1,r7,ho⟩:=aB hm
 refine aEB [0,2,3,4,5] r7 (fun a1 a3 a4 a5 f w=>∃ a8 a9,f 6=zS a8 a4.length a9/\f 7=i64 a5/\aE G K (own 2 K a8 a9 a4::own 9 K c d a.1::box b1 75 [zS a2 b.length c3,i64 a1,Value.int .u64 a3]::box g 28 e::L) w) ?_ ?_
 ·exact ⟨e8,0,rfl,rfl,l8⟩
 ·rintro a1 a3 a4 a5 r8 f s0 hm hr ⟨a8,a9,h1,e2,h2⟩
  unfold nG at hm
  refine aJ (aL (bI e2 (aG (v:=i64 (wr ((wr (1+j.1))+p.1))) (aD (cW rfl rfl) (aI ?_)))))
  rcases aK hm with ⟨h3,hm⟩|⟨h3,hm⟩
  ·refine aQ h3 rfl (aW (aC (aJ (aR [0,2,3,4,5,7] (fun f w=>∃ h5 h6 e3 e4 e5,nF a5 h5 h6 e3=some r8/\f 6=zS e4 e3.length e5/\aE G K (own 2 K e4 e5 e3::own 9 K c d a.1::box b1 75 [zS a2 b.length c3,i64 h5,Value.int .u64 h6]::box g 28 e::L) w) ?_ ?_))))
   ·rintro f x2 ⟨h5,h6,e3,e4,e5,hm,s1,s2⟩
    unfold nF at hm
    exact aC (aU (bI e2 (aD (dA rfl rfl) (aH (v:=i64 (wr (a5+1))) (aI ⟨_,(zI hm).symm,bK,e4,e5,s1,rfl,s2⟩)))))
   refine aL (bI e2 (aG (v:=i64 (wr (1+j.1))) (aD (cW rfl rfl) (aI ?_))))
   rcases aK hm with ⟨h7,hm⟩|⟨h7,hm⟩
   ·refine aQ h7 rfl (aU (bI h1 (bI e2 (bM (Kt:=K) (xs:=([a5]:List Int)) (cs:=[i64 a5]) (vs:=[(0,i64 a5)]) bJ lN rfl rfl h2 rfl (by kernel_rfl) rfl rfl rfl ⟨rfl,trivial⟩ (fun s3 s4 (s5:aE G K (own 2 K s3 1 ([a5]:List Int)::own 2 K a8 a9 a4::own 9 K c d a.1::box b1 75 [zS a2 b.length c3,i64 a1,Value.int .u64 a3]::box g 28 e::L) s4)=>?_)))));obtain ⟨h8,s6,hm⟩:=aB hm
    exact hJ (i:=0) bJ underlying41 lN rfl rfl s5 rfl (zR _) (zR _) s6 rfl rfl rfl rfl (fun _ h=>h) (fun h9 i0 s7 (s8:aE G K (own 2 K h9 i0 h8::own 9 K c d a.1::box b1 75 [zS a2 b.length c3,i64 a1,Value.int .u64 a3]::box g 28 e::L) s7)=>(aH (v:=zS h9 h8.length i0) (aZ (cL (aC ⟨bK,a1,a3,h8,h9,i0,hm,rfl,s8⟩)))))
   ·refine aT h7 rfl (aU (bI h1 (aG (v:=zP (some ⟨b1,0,none⟩)) (aG (v:=i64 (wr (1+j.1))) ?_))))
    have s9:aE G K (box b1 75 [zS a2 b.length c3,i64 a1,Value.int .u64 a3]::own 2 K a8 a9 a4::own 9 K c d a.1::box g 28 e::L) s0:=(aE.arr 3 [2,0,1] h2 rfl)
    obtain ⟨Z,t0,hm⟩:=aB hm
    refine aP (vs:=[zP (some ⟨b1,0,none⟩),i64 (wr (1+j.1))]) call36 rfl (bB t0 s9 o) ?_
    rintro _ x3 ⟨rfl,t1⟩
    refine bM (Kt:=K) (xs:=([Z.1]:List Int)) (cs:=[i64 Z.1]) (vs:=[(0,i64 Z.1)]) bJ lN rfl rfl t1 rfl (by kernel_rfl) rfl rfl rfl ⟨rfl,trivial⟩ (fun t2 t3 (t4:aE G K (own 2 K t2 1 ([Z.1]:List Int)::box b1 75 [zS a2 b.length c3,i64 Z.2.1,Value.int .u64 Z.2.2]::own 2 K a8 a9 a4::own 9 K c d a.1::box g 28 e::L) t3)=>?_);obtain ⟨i1,t5,hm⟩:=aB hm
    exact hJ (i:=1) bJ underlying41 lN rfl rfl t4 rfl (zR _) (zR _) t5 rfl rfl rfl rfl (fun _ h=>h) (fun i2 i3 t6 (t7:aE G K (box b1 75 [zS a2 b.length c3,i64 Z.2.1,Value.int .u64 Z.2.2]::own 2 K i2 i3 i1::own 9 K c d a.1::box g 28 e::L) t6)=>(aH (v:=zS i2 i1.length i3) (aZ (cL (aC ⟨bK,Z.2.1,Z.2.2,i1,i2,i3,hm,rfl,(aE.arr 3 [1,2,0] t7 rfl)⟩)))))
  ·refine aT h3 rfl (aBk (kG (kG ?_)))
   have t8:=hr _ (zI hm).symm
   subst t8
   have hm:(qW b j p a a1 a3 a4)=some R:=ho
   clear hr ho
   exact uF (aC ⟨bK,a1,a3,a4,a8,a9,hm,h1,h2⟩)
theorem vO {a:(List UInt8)} {c d:Int} {b:(List aF)} {R:(aF × Int × Int)} (hm:oK a c d b=some R) (e:aE G K (box b1 75 [zS a2 a.length c3,i64 c,Value.int .u64 d]::L) w) (g:bL K a2 c3 a) (h:bL K a5 c6 b):
  Calls prog 129 ([zP (some ⟨b1,0,none⟩),zS a5 b.length c6]:List Value).toArray w (dQ fun v w'=>v=str R.1/\aE G K (box b1 75 [zS a2 a.length c3,i64 R.2.1,Value.int .u64 R.2.2]::L) w'):=by
 exact aM
theorem aJm {g:(List UInt8)} {b0 b2:Int} {t:cR} {R:(cR × Int × Int)} (hm:aBe g b0 b2 t=some R) (hs:aE G K (box b1 75 [zS a2 g.length c3,i64 b0,Value.int .u64 b2]::L) w) (x:bL K a2 c3 g) (h7:bL K a5 c6 t.L) (j3:bL K a8 c9 t.E):
  Calls prog 81 ([zP (some ⟨b1,0,none⟩),zA (zCa t a5 c6 a8 c9)]:List Value).toArray w (dQ fun v w'=>∃ d2 d3 d4 d5,v=zA (zCa R.1 d2 d3 d4 d5)/\aE G K (own 9 K d2 d3 R.1.L::own 86 K d4 d5 R.1.E::box b1 75 [zS a2 g.length c3,i64 R.2.1,Value.int .u64 R.2.2]::L) w'):=by
 let l:=(zC t a5 c6 a8 c9)
 let k:=zG
 let d6:=box b1 75 [zS a2 g.length c3,i64 b0,Value.int .u64 b2]
 refine aN func81 rfl (by kernel_rfl) (by show (2:Nat)<=110;decide) ?_;unfold aBe at hm
 refine aL (gO (v:=zA (zCa t a5 c6 a8 c9)) (vs:=l) hs rfl rfl (fun m q7 j4=>(cT (vs:=k) zeroValue28 j4 rfl (fun n q8 j5=>(aI (aL ?_))))));obtain ⟨q9,d7,j6,j7,j8⟩:=aE.lendBp j5 zt1
 obtain ⟨a,j9,hm⟩:=aB hm
 refine aP (vs:=[cH (some ⟨m,0,none⟩) 0]) call128 rfl (aFY j9 j7 j6 (h7.mono d7) (j3.mono d7)) ?_
 rintro _ r0 ⟨b,c,d,e,rfl,k0⟩
 have k1:=j8 _ _ k0
 refine cT (vs:=k) zeroValue28 k1 rfl (fun p r1 k2=>(eW (i:=0) (ns:=(zC a b c d e)) (us:=(zC a b c d e)) sizeOf28 k2 rfl rfl rfl rfl rfl (gH rfl) rfl rfl (fun d8 (k3:aE G K (box p 28 (zC a b c d e)::box m 28 l::own 9 K b c a.L::own 86 K d e a.E::box n 28 k::d6::L) d8)=>(aI (aJ (aL (aG (v:=zP (some ⟨b1,0,none⟩)) ?_)))))))
 have k4:aE G K (d6::box p 28 (zC a b c d e)::box m 28 l::own 9 K b c a.L::own 86 K d e a.E::box n 28 k::L) d8:=(aE.arr 6 [5,0,1,2,3,4] k3 rfl)
 obtain ⟨r2,k5,hm⟩:=aB hm
 refine aP (vs:=[zP (some ⟨b1,0,none⟩),i64 8]) call34 rfl (lE k5 k4 x) ?_
 rintro _ r3 ⟨rfl,k6⟩
 refine aD (tZ rfl) (aI ?_)
 rcases aK hm with ⟨d9,hm⟩|⟨d9,hm⟩
 ·exact aM
 ·refine aT d9 rfl (aW (aC (aJ (aL (aG (v:=zP (some ⟨b1,0,none⟩)) ?_)))));obtain ⟨j,k7,hm⟩:=aB hm
  refine aP (vs:=[zP (some ⟨b1,0,none⟩),i64 8]) call36 rfl (bB k7 k6 x) ?_
  rintro _ r4 ⟨rfl,o⟩
  refine aI (aR [4,5] (fun f w=>∃ e0 e1 b3 b4 e2 e3 e4 e5 e6 e7,eX e0 e1 b3 b4 e2 e3=some R/\aE G K (box b1 75 [zS a2 g.length c3,i64 e2,Value.int .u64 e3]::box p 28 [i64 e0,i64 e1,zS e4 b3.length e5,zS e6 b4.length e7]::own 9 K e4 e5 b3::own 86 K e6 e7 b4::box n 28 k::L) w) aM (aL (aD (lX rfl rfl) (aH (v:=zB (j.1 == 0)) (aI ?_)))))
  rcases aK hm with ⟨b5,hm⟩|⟨b5,hm⟩
  ·refine aQ b5 rfl (aU (aG (v:=zP (some ⟨b1,0,none⟩)) (aD (bU (t':=0) kZ rfl rfl) (aD (eP dM o (i:=1) rfl rfl rfl) (aD (pT rfl rfl) (bM (Kt:=K) (xs:=([0,(-1),41,40,wr (a.N - 1)]:List Int)) (cs:=[i64 0,i64 (-1),i64 41,i64 40,i64 (wr (a.N - 1))]) (vs:=[(0,i64 0),(1,i64 (-1)),(2,i64 41),(3,i64 40),(4,i64 (wr (a.N - 1)))]) bJ lN rfl rfl o rfl (by kernel_rfl) rfl rfl rfl ⟨rfl,rfl,rfl,rfl,rfl,trivial⟩ (fun k8 k9 (l0:aE G K (own 2 K k8 5 ([0,(-1),41,40,wr (a.N - 1)]:List Int)::box b1 75 [zS a2 g.length c3,i64 j.2.1,Value.int .u64 j.2.2]::box p 28 (zC a b c d e)::box m 28 l::own 9 K b c a.L::own 86 K d e a.E::box n 28 k::L) k9)=>?_)))))))
   obtain ⟨r5,r6,r7,r8,r9⟩:=aE.lendSp l0 (zR _) .head
   exact aM
  ·refine aT b5 rfl (aL (aD (lX rfl rfl) (aH (v:=zB (j.1 == 1)) (aI ?_))))
   rcases aK hm with ⟨b6,hm⟩|⟨b6,hm⟩
   ·refine aQ b6 rfl (aU (aG (v:=zP (some ⟨b1,0,none⟩)) (aD (bU (t':=0) kZ rfl rfl) (aD (eP dM o (i:=1) rfl rfl rfl) (bM (Kt:=K) (xs:=([(-1),a.N]:List Int)) (cs:=[i64 (-1),i64 a.N]) (vs:=[(0,i64 (-1)),(1,i64 a.N)]) bJ lN rfl rfl o rfl (by kernel_rfl) rfl rfl rfl ⟨rfl,rfl,trivial⟩ (fun l1 l2 (l3:aE G K (own 2 K l1 2 ([(-1),a.N]:List Int)::box b1 75 [zS a2 g.length c3,i64 j.2.1,Value.int .u64 j.2.2]::box p 28 (zC a b c d e)::box m 28 l::own 9 K b c a.L::own 86 K d e a.E::box n 28 k::L) l2)=>?_))))))
    obtain ⟨s0,s1,s2,s3,s4⟩:=aE.lendSp l3 (zR _) .head
    exact aM
   ·refine aT b6 rfl (aL (aD (lX rfl rfl) (aH (v:=zB (j.1 == 2)) (aI ?_))))
    rcases aK hm with ⟨b7,hm⟩|⟨b7,hm⟩
    ·refine aQ b7 rfl (aU (aD (bU (t':=2) aCk rfl rfl) (aD (eP aIY o (i:=1) rfl rfl rfl) ?_)));obtain ⟨s5,b8,hm⟩:=aB hm
     have l4:=bV o (i:=3) rfl b8
     refine aD (cQ kN rfl l4 rfl rfl rfl b8) ?_;obtain ⟨b9,e8,hm⟩:=aB hm
     refine gP (i:=3) (t:=0) (ns:=[str ([97]:aF)]) (e':=(([97]:aF):aF)) sizeOf9 o rfl (zR _) rfl rfl rfl b8 e8 rfl rfl (gH rfl) rfl (fun cs h=>by cases h;rfl) (fun e9 (l5:aE G K (box b1 75 [zS a2 g.length c3,i64 j.2.1,Value.int .u64 j.2.2]::box p 28 (zC a b c d e)::box m 28 l::own 9 K b c b9::own 86 K d e a.E::box n 28 k::L) e9)=>?_)
     have s6:aE G K (box b1 75 [zS a2 g.length c3,i64 j.2.1,Value.int .u64 j.2.2]::box p 28 [i64 a.N,i64 a.I,zS b b9.length c,zS d a.E.length e]::box m 28 l::own 9 K b c b9::own 86 K d e a.E::box n 28 k::L) e9:=by rw [←(fP e8)];exact l5
     exact aM
    ·refine aT b7 rfl (aL (aD (lX rfl rfl) (aH (v:=zB (j.1 == 3)) (aI ?_))))
     rcases aK hm with ⟨c0,hm⟩|⟨c0,hm⟩
     ·refine aQ c0 rfl ?_;obtain ⟨a3,a4,l6,f0,l7⟩:=aE.lendBp o zt1
      refine cM (C:=fun w'=>∃ L',aE G a3 L' w') [(0,0),(1,0),(2,0),(3,1),(4,1),(5,1),(6,1),(7,0),(8,2)] Tryz_mixed (by kernel_rfl) (fun _ hg=>⟨_,aE.mono f0 hg⟩) (fun s7 l8=>?_)
      have c1:=aE.mono f0 l8
      refine aX rfl (fun _ _=>bU (t':=2) aCk rfl rfl) (aX rfl (fun _ ⟨_,c1⟩=>bG (t:=2) aIY c1 l6 rfl rfl) (aX rfl (fun _ _=>aY (v:=zP (some ⟨b1,0,none⟩)) rfl) (gK rfl (bM (Kt:=K) (xs:=([([116,97,117]:aF),([97]:aF),([122,122]:aF),([65]:aF),([]:aF)]:List aF)) (cs:=[str ([116,97,117]:aF),str ([97]:aF),str ([122,122]:aF),str ([65]:aF),str ([]:aF)]) (vs:=[(0,str ([116,97,117]:aF)),(1,str ([97]:aF)),(2,str ([122,122]:aF)),(3,str ([65]:aF)),(4,str ([]:aF))]) kN aGK rfl rfl c1 rfl (by kernel_rfl) rfl rfl rfl ⟨rfl,rfl,rfl,rfl,rfl,trivial⟩ (fun a6 l9 (f1:aE G a3 (own 9 K a6 5 ([([116,97,117]:aF),([97]:aF),([122,122]:aF),([65]:aF),([]:aF)]:List aF)::box b1 75 [zS a2 g.length c3,i64 j.2.1,Value.int .u64 j.2.2]::box m 28 l::own 9 K b c a.L::own 86 K d e a.E::box n 28 k::L) l9)=>(aZ (aC ⟨⟨_,f1⟩,?_⟩)))))))
      refine gK rfl ?_;obtain ⟨s8,m0,m1,m2,m3⟩:=aE.lendSp f1 a4 .head
      obtain ⟨r,m4,hm⟩:=aB hm
      refine aP (vs:=[zP (some ⟨b1,0,none⟩),zS a6 ([([116,97,117]:aF),([97]:aF),([122,122]:aF),([65]:aF),([]:aF)]:List aF).length 5]) call129 rfl (vO m4 m2 (x.mono (zL a4 m0)) m1) ?_
      rintro _ s9 ⟨rfl,m5⟩
      have f2:=m3 _ _ m5
      refine aZ (aC ⟨⟨_,f2⟩,?_⟩)
      refine gK rfl (bM (Kt:=K) (xs:=([r.1]:List aF)) (cs:=[str r.1]) (vs:=[(0,str r.1)]) kN aGK rfl rfl f2 rfl (by kernel_rfl) rfl rfl rfl ⟨rfl,trivial⟩ (fun m6 m7 (f3:aE G a3 (own 9 K m6 1 ([r.1]:List aF)::own 9 K a6 5 ([([116,97,117]:aF),([97]:aF),([122,122]:aF),([65]:aF),([]:aF)]:List aF)::box b1 75 [zS a2 g.length c3,i64 r.2.1,Value.int .u64 r.2.2]::box m 28 l::own 9 K b c a.L::own 86 K d e a.E::box n 28 k::L) m7)=>(aZ (aC ⟨⟨_,f3⟩,?_⟩))))
      refine gK rfl ?_;obtain ⟨m8,m9,hm⟩:=aB hm
      refine hJ (i:=3) kN underlying25 aGK rfl rfl f3 rfl a4 a4 m9 rfl rfl rfl rfl (fun _ h=>h) (fun n0 n1 n2 (f4:aE G a3 (own 9 K a6 5 ([([116,97,117]:aF),([97]:aF),([122,122]:aF),([65]:aF),([]:aF)]:List aF)::box b1 75 [zS a2 g.length c3,i64 r.2.1,Value.int .u64 r.2.2]::box m 28 l::own 9 K n0 n1 m8::own 86 K d e a.E::box n 28 k::L) n2)=>(aZ (aC ⟨⟨_,f4⟩,?_⟩)))
      refine aX rfl (fun _ _=>bU (t':=2) aCk rfl rfl) ?_
      have t0:=l7 _ _ f4
      exact aM
     ·refine aT c0 rfl (aL (aD (lX rfl rfl) (aH (v:=zB (j.1 == 4)) (aI ?_))))
      rcases aK hm with ⟨c2,hm⟩|⟨c2,hm⟩
      ·refine aQ c2 rfl (aL (aD (bU (t':=3) lW rfl rfl) (aD (eP xV o (i:=1) rfl rfl rfl) (aD (bF (len:=a.E.length) jK rfl) (aD (xU rfl rfl) (aI ?_))))))
       rcases aK hm with ⟨f5,hm⟩|⟨f5,hm⟩
       ·refine aQ f5 rfl ?_;obtain ⟨t1,n3,f6,n4,n5⟩:=aE.lendBp o zt1
        obtain ⟨f7,f8,f9,g0,n6⟩:=aE.lendSp n4 n3 zt3
        refine cM (C:=fun w'=>∃ L',aE G f7 L' w') [(0,3),(1,0),(2,3),(3,1),(4,1),(5,1),(6,1),(7,2),(8,3),(9,2)] Tryz_mixed (by kernel_rfl) (fun _ hg=>⟨_,aE.mono g0 hg⟩) (fun t2 n7=>?_)
        have u:=aE.mono g0 n7
        refine WE_t rfl (fun _=>bU (t':=3) lW rfl rfl) (aX rfl (fun _ ⟨_,u⟩=>bG (t:=3) xV u (f6.mono f8) rfl rfl) (WE_t rfl (fun _=>bU (t':=3) lW rfl rfl) (gK rfl (aD (bG (t:=3) xV u (f6.mono f8) rfl rfl) (aZ (aC ⟨⟨_,u⟩,?_⟩))))))
        refine gK rfl ?_;obtain ⟨q,c4,hm⟩:=aB hm
        have n8:=aCi f9 c4
        refine aD (cQ jK rfl n8 rfl rfl rfl c4) (aZ (aC ⟨⟨_,u⟩,?_⟩))
        refine gK rfl ?_;obtain ⟨t3,n9,o0⟩:=bL.el (sz:=3) rfl f9 c4
        cases o0
        refine aD (lV (t:=0) (vs:=[i64 q.F,i64 q.B,i64 q.To]) aEG u n9 rfl rfl rfl) (aZ (aC ⟨⟨_,u⟩,?_⟩))
        refine gK rfl (bM (Kt:=K) (xs:=([q]:List Edge)) (cs:=[i64 q.F,i64 q.B,i64 q.To]) (vs:=[(0,zA #[i64 q.F,i64 q.B,i64 q.To])]) jK aEH rfl rfl u rfl (by kernel_rfl) rfl rfl rfl ⟨rfl,trivial⟩ (fun g1 g2 (g3:aE G f7 (own 86 K g1 1 ([q]:List Edge)::box b1 75 [zS a2 g.length c3,i64 j.2.1,Value.int .u64 j.2.2]::box m 28 l::own 9 K b c a.L::box n 28 k::L) g2)=>(aZ (aC ⟨⟨_,g3⟩,?_⟩))))
        have o1:=n6 _ _ g3
        have o2:=n5 _ _ o1
        refine aGf rfl ?_;obtain ⟨t4,t5,hm⟩:=aB hm
        have t6:aE G K (own 86 K g1 1 ([q]:List Edge)::box p 28 (zC a b c d e)::own 86 K d e a.E::box b1 75 [zS a2 g.length c3,i64 j.2.1,Value.int .u64 j.2.2]::box m 28 l::own 9 K b c a.L::box n 28 k::L) g2:=(aE.arr 3 [2,0,1] o2 rfl)
        exact aM
       ·exact aM
      ·refine aT c2 rfl (aL (aD (lX rfl rfl) (aH (v:=zB (j.1 == 5)) (aI ?_))))
       rcases aK hm with ⟨c5,hm⟩|⟨c5,hm⟩
       ·refine aQ c5 rfl (aL (aD (bU (t':=3) lW rfl rfl) (aD (eP xV o (i:=1) rfl rfl rfl) (aD (bF (len:=a.E.length) jK rfl) (aD (xU rfl rfl) (aI ?_))))))
        rcases aK hm with ⟨g4,hm⟩|⟨g4,hm⟩
        ·refine aQ g4 rfl (aL (aG (v:=zP (some ⟨b1,0,none⟩)) (aD (bU (t':=3) lW rfl rfl) (aD (eP xV o (i:=1) rfl rfl rfl) (aD (bF (len:=a.E.length) jK rfl) ?_)))));obtain ⟨a0,o3,hm⟩:=aB hm
         refine aP (vs:=[zP (some ⟨b1,0,none⟩),i64 (a.E.length:Int)]) call36 rfl (bB o3 o x) ?_
         rintro _ t7 ⟨rfl,o4⟩
         refine aH (v:=i64 a0.1) (aI ?_);obtain ⟨g5,g6,g7,g8,o5⟩:=aE.lendBp o4 zt1
         refine cM (C:=fun w'=>∃ L',aE G g5 L' w') [(0,0),(1,0),(2,0),(3,0),(4,1),(5,1),(6,1),(7,1),(8,1),(9,2),(10,2),(11,2)] Tryz_mixed (by kernel_rfl) (fun _ hg=>⟨_,aE.mono g8 hg⟩) (fun t8 o6=>?_)
         have y:=aE.mono g8 o6
         refine aX rfl (fun _ _=>bU (t':=3) lW rfl rfl) (aX rfl (fun _ ⟨_,y⟩=>bG (t:=3) xV y g7 rfl rfl) (aX rfl (fun _ _=>aY (v:=i64 a0.1) rfl) (aX rfl (fun _ _=>aY (v:=zP (some ⟨b1,0,none⟩)) rfl) (gK rfl (aD (bU (t':=2) aCk rfl rfl) (aZ (aC ⟨⟨_,y⟩,?_⟩)))))))
         refine gK rfl (aD (bG (t:=2) aIY y g7 rfl rfl) (aZ (aC ⟨⟨_,y⟩,?_⟩)))
         refine gK rfl (aD (bF (len:=a.L.length) kN rfl) (aZ (aC ⟨⟨_,y⟩,?_⟩)))
         refine gK rfl (bM (Kt:=K) (xs:=([(-1),(a.L.length:Int),0]:List Int)) (cs:=[i64 (-1),i64 (a.L.length:Int),i64 0]) (vs:=[(0,i64 (-1)),(1,i64 (a.L.length:Int)),(2,i64 0)]) bJ lN rfl rfl y rfl (by kernel_rfl) rfl rfl rfl ⟨rfl,rfl,rfl,trivial⟩ (fun a7 o7 (g9:aE G g5 (own 2 K a7 3 ([(-1),(a.L.length:Int),0]:List Int)::box b1 75 [zS a2 g.length c3,i64 a0.2.1,Value.int .u64 a0.2.2]::box m 28 l::own 9 K b c a.L::own 86 K d e a.E::box n 28 k::L) o7)=>(aZ (aC ⟨⟨_,g9⟩,?_⟩))))
         refine gK rfl ?_;obtain ⟨t9,o8,o9,p0,p1⟩:=aE.lendSp g9 g6 .head
         obtain ⟨z,p2,hm⟩:=aB hm
         refine aP (vs:=[zP (some ⟨b1,0,none⟩),zS a7 ([(-1),(a.L.length:Int),0]:List Int).length 3]) call44 rfl (jJ p2 p0 (x.mono (zL g6 o8)) o9) ?_
         rintro _ u0 ⟨rfl,p3⟩
         have h0:=p1 _ _ p3
         refine aZ (aC ⟨⟨_,h0⟩,?_⟩)
         have h1:=o5 _ _ h0
         refine aGf rfl ?_;obtain ⟨h2,c7,hm⟩:=aB hm
         have h3:=bV h1 (i:=5) rfl c7
         refine aD (cQ jK rfl h3 rfl rfl rfl c7) (aI (aGf rfl (aD (aGg (k':=a0.1.toNat * 3+1) aDN h3 rfl rfl) (aI (aGf rfl ?_)))));obtain ⟨c8,h5,hm⟩:=aB hm
         refine gP (i:=5) (t:=1) (ns:=[i64 z.1]) (e':=(⟨h2.F,z.1,h2.To⟩:Edge)) sizeOf2 h1 rfl (zR _) rfl rfl rfl c7 h5 rfl rfl (gH rfl) rfl (fun cs h=>by cases h;rfl) (fun h6 (p4:aE G K (box p 28 (zC a b c d e)::own 2 K a7 3 ([(-1),(a.L.length:Int),0]:List Int)::box b1 75 [zS a2 g.length c3,i64 z.2.1,Value.int .u64 z.2.2]::box m 28 l::own 9 K b c a.L::own 86 K d e c8::box n 28 k::L) h6)=>?_)
         have u1:aE G K (box p 28 [i64 a.N,i64 a.I,zS b a.L.length c,zS d c8.length e]::own 2 K a7 3 ([(-1),(a.L.length:Int),0]:List Int)::box b1 75 [zS a2 g.length c3,i64 z.2.1,Value.int .u64 z.2.2]::box m 28 l::own 9 K b c a.L::own 86 K d e c8::box n 28 k::L) h6:=by rw [←(fP h5)];exact p4
         exact aM
        ·exact aM
       ·refine aT c5 rfl (aL (aD (lX rfl rfl) (aH (v:=zB (j.1 == 6)) (aI ?_))))
        rcases aK hm with ⟨h8,hm⟩|⟨h8,hm⟩
        ·refine aQ h8 rfl (aL (aD (bU (t':=3) lW rfl rfl) (aD (eP xV o (i:=1) rfl rfl rfl) (aD (bF (len:=a.E.length) jK rfl) (aD (xU rfl rfl) (aI ?_))))))
         rcases aK hm with ⟨h9,hm⟩|⟨h9,hm⟩
         ·refine aQ h9 rfl (aL (aG (v:=zP (some ⟨b1,0,none⟩)) (aD (bU (t':=3) lW rfl rfl) (aD (eP xV o (i:=1) rfl rfl rfl) (aD (bF (len:=a.E.length) jK rfl) ?_)))));obtain ⟨a1,p5,hm⟩:=aB hm
          refine aP (vs:=[zP (some ⟨b1,0,none⟩),i64 (a.E.length:Int)]) call36 rfl (bB p5 o x) ?_
          rintro _ u2 ⟨rfl,p6⟩
          refine aH (v:=i64 a1.1) (aI ?_);obtain ⟨i0,i1,i2,i3,p7⟩:=aE.lendBp p6 zt1
          refine cM (C:=fun w'=>∃ L',aE G i0 L' w') [(0,0),(1,0),(2,0),(3,0),(4,1),(5,1),(6,1),(7,1),(8,2),(9,2),(10,2)] Tryz_mixed (by kernel_rfl) (fun _ hg=>⟨_,aE.mono i3 hg⟩) (fun u3 p8=>?_)
          have J:=aE.mono i3 p8
          refine aX rfl (fun _ _=>bU (t':=3) lW rfl rfl) (aX rfl (fun _ ⟨_,J⟩=>bG (t:=3) xV J i2 rfl rfl) (aX rfl (fun _ _=>aY (v:=i64 a1.1) rfl) (aX rfl (fun _ _=>aY (v:=zP (some ⟨b1,0,none⟩)) rfl) (gK rfl (aD (bU (t':=0) kZ rfl rfl) (aZ (aC ⟨⟨_,J⟩,?_⟩)))))))
          refine gK rfl (aD (bG (t:=0) dM J i2 rfl rfl) (aZ (aC ⟨⟨_,J⟩,?_⟩)))
          refine gK rfl (bM (Kt:=K) (xs:=([(-1),a.N,0]:List Int)) (cs:=[i64 (-1),i64 a.N,i64 0]) (vs:=[(0,i64 (-1)),(1,i64 a.N),(2,i64 0)]) bJ lN rfl rfl J rfl (by kernel_rfl) rfl rfl rfl ⟨rfl,rfl,rfl,trivial⟩ (fun a9 p9 (i4:aE G i0 (own 2 K a9 3 ([(-1),a.N,0]:List Int)::box b1 75 [zS a2 g.length c3,i64 a1.2.1,Value.int .u64 a1.2.2]::box m 28 l::own 9 K b c a.L::own 86 K d e a.E::box n 28 k::L) p9)=>(aZ (aC ⟨⟨_,i4⟩,?_⟩))))
          refine gK rfl ?_;obtain ⟨u4,q0,q1,q2,q3⟩:=aE.lendSp i4 i1 .head
          obtain ⟨Z,q4,hm⟩:=aB hm
          refine aP (vs:=[zP (some ⟨b1,0,none⟩),zS a9 ([(-1),a.N,0]:List Int).length 3]) call44 rfl (jJ q4 q2 (x.mono (zL i1 q0)) q1) ?_
          rintro _ u5 ⟨rfl,q5⟩
          have i5:=q3 _ _ q5
          refine aZ (aC ⟨⟨_,i5⟩,?_⟩)
          have i6:=p7 _ _ i5
          refine aGf rfl ?_;obtain ⟨i7,d0,hm⟩:=aB hm
          have i8:=bV i6 (i:=5) rfl d0
          refine aD (cQ jK rfl i8 rfl rfl rfl d0) (aI (aGf rfl (aD (aGg (k':=a1.1.toNat * 3+2) aGL i8 rfl rfl) (aI (aGf rfl ?_)))));obtain ⟨d1,i9,hm⟩:=aB hm
          refine gP (i:=5) (t:=2) (ns:=[i64 Z.1]) (e':=(⟨i7.F,i7.B,Z.1⟩:Edge)) sizeOf2 i6 rfl (zR _) rfl rfl rfl d0 i9 rfl rfl (gH rfl) rfl (fun cs h=>by cases h;rfl) (fun j0 (q6:aE G K (box p 28 (zC a b c d e)::own 2 K a9 3 ([(-1),a.N,0]:List Int)::box b1 75 [zS a2 g.length c3,i64 Z.2.1,Value.int .u64 Z.2.2]::box m 28 l::own 9 K b c a.L::own 86 K d e d1::box n 28 k::L) j0)=>?_)
          have u6:aE G K (box p 28 [i64 a.N,i64 a.I,zS b a.L.length c,zS d d1.length e]::own 2 K a9 3 ([(-1),a.N,0]:List Int)::box b1 75 [zS a2 g.length c3,i64 Z.2.1,Value.int .u64 Z.2.2]::box m 28 l::own 9 K b c a.L::own 86 K d e d1::box n 28 k::L) j0:=by rw [←(fP i9)];exact q6
          exact aM
         ·exact aM
        ·exact aM
theorem aFb {a:(List UInt8)} {b c:Int} {R:(cR × Int × Int)} (hm:aFx a b c=some R) (i:aE G K (box b1 75 [zS a2 a.length c3,i64 b,Value.int .u64 c]::L) w) (j:bL K a2 c3 a):
  Calls prog 32 ([zP (some ⟨b1,0,none⟩)]:List Value).toArray w (dQ fun v w'=>∃ d e g h,v=zA (zCa R.1 d e g h)/\aE G K (own 9 K d e R.1.L::own 86 K g h R.1.E::box b1 75 [zS a2 a.length c3,i64 R.2.1,Value.int .u64 R.2.2]::L) w'):=by
 exact aM
theorem uE {a:(List UInt8)} {b c:Int} {R:(aO × Int × Int)} (hm:pJ a b c=some R) (h:aE G K (box b1 75 [zS a2 a.length c3,i64 b,Value.int .u64 c]::L) w) (i:bL K a2 c3 a):
  Calls prog 155 ([zP (some ⟨b1,0,none⟩)]:List Value).toArray w (dQ fun v w'=>v=zA #[i64 R.1.Kind,i64 R.1.Variable,str R.1.B,zB R.1.Not]/\aE G K (box b1 75 [zS a2 a.length c3,i64 R.2.1,Value.int .u64 R.2.2]::L) w'):=by
 let d:=[i64 0,i64 0,str ([]:aF),zB false]
 refine aN func155 rfl (by kernel_rfl) (by show (1:Nat)<=15;decide) ?_;unfold pJ at hm
 refine aL (cT (vs:=d) zeroValue55 h rfl (fun e j k=>(aI (aL (aG (v:=zP (some ⟨b1,0,none⟩)) ?_)))))
 have l:aE G K (box b1 75 [zS a2 a.length c3,i64 b,Value.int .u64 c]::box e 55 d::L) j:=(aE.arr 2 [1,0] k rfl)
 obtain ⟨g,m,hm⟩:=aB hm
 refine aP (vs:=[zP (some ⟨b1,0,none⟩),i64 2]) call36 rfl (bB m l i) ?_
 rintro _ r ⟨rfl,n⟩
 refine aD (dA rfl rfl) (aG (v:=zP (some ⟨b1,0,none⟩)) (bM (Kt:=K) (xs:=([([]:aF),([]:aF),([97]:aF),([98]:aF),([116,97,117]:aF),([103,101,116,42]:aF),([103,101,116,40,48,41]:aF),([99]:aF)]:List aF)) (cs:=[str ([]:aF),str ([]:aF),str ([97]:aF),str ([98]:aF),str ([116,97,117]:aF),str ([103,101,116,42]:aF),str ([103,101,116,40,48,41]:aF),str ([99]:aF)]) (vs:=[(0,str ([]:aF)),(1,str ([]:aF)),(2,str ([97]:aF)),(3,str ([98]:aF)),(4,str ([116,97,117]:aF)),(5,str ([103,101,116,42]:aF)),(6,str ([103,101,116,40,48,41]:aF)),(7,str ([99]:aF))]) kN aGK rfl rfl n rfl (by kernel_rfl) rfl rfl rfl ⟨rfl,rfl,rfl,rfl,rfl,rfl,rfl,rfl,trivial⟩ (fun o p (q:aE G K (own 9 K o 8 ([([]:aF),([]:aF),([97]:aF),([98]:aF),([116,97,117]:aF),([103,101,116,42]:aF),([103,101,116,40,48,41]:aF),([99]:aF)]:List aF)::box b1 75 [zS a2 a.length c3,i64 g.2.1,Value.int .u64 g.2.2]::box e 55 d::L) p)=>?_)))
 obtain ⟨t,u,x,y,z⟩:=aE.lendSp q (zR _) .head
 exact aM
theorem aAf {rec_:(List UInt8)->Int->Int->(List Int)->Int->Option ((List aO) × Int × Int)} (ih:∀ {G:rY} {K:Hp} {L:List fD} {w:World} {b1:Nat} {b:(List UInt8)} {a2:Option Addr} {c3:Nat} {c1:Int} {c2:Int} {e:(List Int)} {a5:Option Addr} {c6:Nat} {g:Int} {R:((List aO) × Int × Int)} (hm:rec_ b c1 c2 e g=some R) (hs:aE G K (box b1 75 [zS a2 b.length c3,i64 c1,Value.int .u64 c2]::L) w) (k:bL K a2 c3 b) (Z:bL K a5 c6 e),
  Calls prog 130 ([zP (some ⟨b1,0,none⟩),zS a5 e.length c6,i64 g]:List Value).toArray w (dQ fun v w'=>∃ c4 c5,v=zS c4 R.1.length c5/\aE G K (own 55 K c4 c5 R.1::box b1 75 [zS a2 b.length c3,i64 R.2.1,Value.int .u64 R.2.2]::L) w'))
  {G:rY} {K:Hp} {L:List fD} {w:World} {b1:Nat} {b:(List UInt8)} {a2:Option Addr} {c3:Nat} {c1:Int} {c2:Int} {e:(List Int)} {a5:Option Addr} {c6:Nat} {g:Int} {R:((List aO) × Int × Int)} (hm:qX rec_ b c1 c2 e g=some R) (hs:aE G K (box b1 75 [zS a2 b.length c3,i64 c1,Value.int .u64 c2]::L) w) (k:bL K a2 c3 b) (Z:bL K a5 c6 e):
  Calls prog 130 ([zP (some ⟨b1,0,none⟩),zS a5 e.length c6,i64 g]:List Value).toArray w (dQ fun v w'=>∃ c4 c5,v=zS c4 R.1.length c5/\aE G K (own 55 K c4 c5 R.1::box b1 75 [zS a2 b.length c3,i64 R.2.1,Value.int .u64 R.2.2]::L) w'):=by
 let b4:=[zP (some ⟨b1,0,none⟩),i64 2]
 let d3:=[zS a5 e.length c6]
 refine aN func130 rfl (by kernel_rfl) (by show (3:Nat)<=143;decide) ?_;unfold qX at hm
 refine aL (aH (v:=zS none 0 0) (aI (aJ (aL (aG (v:=i64 g) (aD (R_leq rfl rfl) (aI ?_)))))))
 rcases aK hm with ⟨c8,hm⟩|⟨c8,hm⟩
 ·refine aQ c8 rfl (aJ (aJ (bD [0,1] (fun f w=>∃ s9 e3 e4,mG b e s9 e3 e4=some R/\f 26=zB e4/\aE G K (box b1 75 [zS a2 b.length c3,i64 s9,Value.int .u64 e3]::L) w) ?_ ?_)))
  ·rintro f w13 ⟨s9,e3,e4,hm,g4,g5⟩
   unfold mG at hm
   refine aC ?_
   rcases aK hm with ⟨e5,hm⟩|⟨e5,hm⟩
   ·refine aQ e5 g4 (aL (aG (v:=zP (some ⟨b1,0,none⟩)) (aG (v:=zS a5 e.length c6) ?_)));obtain ⟨a0,m6,hm⟩:=aB hm
    refine aP (vs:=[zP (some ⟨b1,0,none⟩),zS a5 e.length c6]) call44 rfl (jJ m6 g5 k Z) ?_
    rintro _ w19 ⟨rfl,m7⟩
    refine aD (cN (vs:=[(0,i64 6),(1,i64 a0.1)]) (cs:=[i64 6,i64 a0.1,str ([]:aF),zB false]) kD rfl (by kernel_rfl)) (bM (Kt:=K) (xs:=([⟨6,a0.1,([]:aF),false⟩]:List aO)) (cs:=[i64 6,i64 a0.1,str ([]:aF),zB false]) (vs:=[(0,zA #[i64 6,i64 a0.1,str ([]:aF),zB false])]) fQ rZ rfl rfl m7 rfl (by kernel_rfl) rfl rfl rfl ⟨rfl,trivial⟩ (fun e6 m8 (m9:aE G K (own 55 K e6 1 ([⟨6,a0.1,([]:aF),false⟩]:List aO)::box b1 75 [zS a2 b.length c3,i64 a0.2.1,Value.int .u64 a0.2.2]::L) m8)=>(aH (v:=zS e6 ([⟨6,a0.1,([]:aF),false⟩]:List aO).length 1) (aI ?_))))
    obtain rfl:=zI hm
    exact pS (gZ (gZ (rT results130 rfl ⟨e6,1,rfl,m9⟩)))
   ·refine aT e5 g4 (aW (aC (aL (aG (v:=zP (some ⟨b1,0,none⟩)) ?_))));obtain ⟨a1,n1,hm⟩:=aB hm
    refine aP (vs:=b4) call36 rfl (bB n1 g5 k) ?_
    rintro _ w28 ⟨rfl,n2⟩
    refine aD (cN (vs:=[(0,i64 a1.1)]) (cs:=[i64 a1.1,i64 0,str ([]:aF),zB false]) kD rfl (by kernel_rfl)) (bM (Kt:=K) (xs:=([⟨a1.1,0,([]:aF),false⟩]:List aO)) (cs:=[i64 a1.1,i64 0,str ([]:aF),zB false]) (vs:=[(0,zA #[i64 a1.1,i64 0,str ([]:aF),zB false])]) fQ rZ rfl rfl n2 rfl (by kernel_rfl) rfl rfl rfl ⟨rfl,trivial⟩ (fun e7 n3 (n4:aE G K (own 55 K e7 1 ([⟨a1.1,0,([]:aF),false⟩]:List aO)::box b1 75 [zS a2 b.length c3,i64 a1.2.1,Value.int .u64 a1.2.2]::L) n3)=>(aH (v:=zS e7 ([⟨a1.1,0,([]:aF),false⟩]:List aO).length 1) (aI ?_))))
    obtain rfl:=zI hm
    exact pS (gZ (rT results130 rfl ⟨e7,1,rfl,n4⟩))
  exact aM
 ·refine aT c8 rfl (aW (aC (aJ (aL (aG (v:=zP (some ⟨b1,0,none⟩)) ?_)))));obtain ⟨a8,n6,hm⟩:=aB hm
  refine aP (vs:=[zP (some ⟨b1,0,none⟩),i64 6]) call36 rfl (bB n6 hs k) ?_
  rintro _ w43 ⟨rfl,a25⟩
  refine aI (cD (jV [0,1,2,37] (fun f w=>∃ e8,iI rec_ b e g a8 e8=some R/\f 38=zB e8/\aE G K (box b1 75 [zS a2 b.length c3,i64 a8.2.1,Value.int .u64 a8.2.2]::L) w) ?_ ?_))
  ·rintro f w47 ⟨e8,hm,g6,n7⟩
   unfold iI at hm
   rcases aK hm with ⟨e9,hm⟩|⟨e9,hm⟩
   ·refine aQ e9 g6 (aL (aG (v:=zP (some ⟨b1,0,none⟩)) ?_));obtain ⟨n,n8,hm⟩:=aB hm
    refine aP (vs:=[zP (some ⟨b1,0,none⟩)]) call155 rfl (uE n8 n7 k) ?_
    rintro _ w53 ⟨rfl,n9⟩
    refine bM (Kt:=K) (xs:=([n.1]:List aO)) (cs:=[i64 n.1.Kind,i64 n.1.Variable,str n.1.B,zB n.1.Not]) (vs:=[(0,zA #[i64 n.1.Kind,i64 n.1.Variable,str n.1.B,zB n.1.Not])]) fQ rZ rfl rfl n9 rfl (by kernel_rfl) rfl rfl rfl ⟨rfl,trivial⟩ (fun d4 g7 (o0:aE G K (own 55 K d4 1 ([n.1]:List aO)::box b1 75 [zS a2 b.length c3,i64 n.2.1,Value.int .u64 n.2.2]::L) g7)=>(aH (v:=zS d4 ([n.1]:List aO).length 1) (aI (aL (aG (v:=zS d4 ([n.1]:List aO).length 1) (aG (v:=zP (some ⟨b1,0,none⟩)) (aG (v:=zS a5 e.length c6) (aG (v:=i64 g) (aD (pT rfl rfl) ?_)))))))))
    have o1:aE G K (box b1 75 [zS a2 b.length c3,i64 n.2.1,Value.int .u64 n.2.2]::own 55 K d4 1 ([n.1]:List aO)::L) g7:=(aE.arr 2 [1,0] o0 rfl)
    obtain ⟨r59,o2,hm⟩:=aB hm
    exact aP (vs:=[zP (some ⟨b1,0,none⟩),zS a5 e.length c6,i64 (wr (g - 1))]) call130 rfl (ih o2 o1 k Z) aM
   ·refine aT e9 g6 (jV [0,1,2,37] (fun f w=>∃ f0,mI rec_ b e g a8 f0=some R/\f 51=zB f0/\aE G K (box b1 75 [zS a2 b.length c3,i64 a8.2.1,Value.int .u64 a8.2.2]::L) w) ?_ ?_)
    ·rintro f w74 ⟨f0,hm,g8,f1⟩
     unfold mI at hm
     rcases aK hm with ⟨f2,hm⟩|⟨f2,hm⟩
     ·refine aQ f2 g8 (aL (aG (v:=zP (some ⟨b1,0,none⟩)) ?_));obtain ⟨o,o3,hm⟩:=aB hm
      refine aP (vs:=b4) call36 rfl (bB o3 f1 k) ?_
      rintro _ w80 ⟨rfl,o4⟩
      refine aD (dA rfl rfl) (aD (cN (vs:=[(0,i64 (wr (2+o.1)))]) (cs:=[i64 (wr (2+o.1)),i64 0,str ([]:aF),zB false]) kD rfl (by kernel_rfl)) (bM (Kt:=K) (xs:=([⟨wr (2+o.1),0,([]:aF),false⟩]:List aO)) (cs:=[i64 (wr (2+o.1)),i64 0,str ([]:aF),zB false]) (vs:=[(0,zA #[i64 (wr (2+o.1)),i64 0,str ([]:aF),zB false])]) fQ rZ rfl rfl o4 rfl (by kernel_rfl) rfl rfl rfl ⟨rfl,trivial⟩ (fun b5 g9 (o5:aE G K (own 55 K b5 1 ([⟨wr (2+o.1),0,([]:aF),false⟩]:List aO)::box b1 75 [zS a2 b.length c3,i64 o.2.1,Value.int .u64 o.2.2]::L) g9)=>(aH (v:=zS b5 ([⟨wr (2+o.1),0,([]:aF),false⟩]:List aO).length 1) (aI (aL (aG (v:=zP (some ⟨b1,0,none⟩)) (aG (v:=zS a5 e.length c6) (aG (v:=i64 g) (aD (pT rfl rfl) ?_))))))))))
      obtain ⟨o6,o7,hm⟩:=aB hm
      refine aD (aGA rfl rfl o7) ?_
      have o8:aE G K (box b1 75 [zS a2 b.length c3,i64 o.2.1,Value.int .u64 o.2.2]::own 55 K b5 1 ([⟨wr (2+o.1),0,([]:aF),false⟩]:List aO)::L) g9:=(aE.arr 2 [1,0] o5 rfl)
      obtain ⟨b6,o9,hm⟩:=aB hm
      refine aP (vs:=[zP (some ⟨b1,0,none⟩),zS a5 e.length c6,i64 o6]) call130 rfl (ih o9 o8 k Z) ?_
      rintro _ p0 ⟨d5,d6,rfl,p1⟩
      refine aH (v:=zS d5 b6.1.length d6) (aI (aL (aG (v:=zP (some ⟨b1,0,none⟩)) (aG (v:=zS a5 e.length c6) (aG (v:=i64 g) (aD (pT rfl rfl) ?_))))));obtain ⟨p2,p3,hm⟩:=aB hm
      refine aD (aGA rfl rfl p3) ?_
      have p4:aE G K (box b1 75 [zS a2 b.length c3,i64 b6.2.1,Value.int .u64 b6.2.2]::own 55 K d5 d6 b6.1::own 55 K b5 1 ([⟨wr (2+o.1),0,([]:aF),false⟩]:List aO)::L) p0:=(aE.arr 2 [1,0] p1 rfl)
      obtain ⟨d7,p5,hm⟩:=aB hm
      refine aP (vs:=[zP (some ⟨b1,0,none⟩),zS a5 e.length c6,i64 p2]) call130 rfl (ih p5 p4 k Z) ?_
      rintro _ p6 ⟨h0,h1,rfl,p7⟩
      refine aH (v:=zS h0 d7.1.length h1) (aI (aL (aG (v:=zS b5 ([⟨wr (2+o.1),0,([]:aF),false⟩]:List aO).length 1) (aG (v:=zS d5 b6.1.length d6) ?_))));obtain ⟨a32,a33,hm⟩:=aB hm
      have a34:aE G K (own 55 K d5 d6 b6.1::own 55 K h0 h1 d7.1::box b1 75 [zS a2 b.length c3,i64 d7.2.1,Value.int .u64 d7.2.2]::own 55 K b5 1 ([⟨wr (2+o.1),0,([]:aF),false⟩]:List aO)::L) p6:=(aE.arr 3 [2,0,1] p7 rfl)
      exact aM
     ·refine aT f2 g8 (aL (aD (lX rfl rfl) (aH (v:=zB (a8.1 == 4)) (aI ?_))))
      rcases aK hm with ⟨f3,hm⟩|⟨f3,hm⟩
      ·refine aQ f3 rfl (aL (aG (v:=zP (some ⟨b1,0,none⟩)) ?_));obtain ⟨l,p8,hm⟩:=aB hm
       refine aP (vs:=b4) call36 rfl (bB p8 f1 k) ?_
       rintro _ a35 ⟨rfl,p9⟩
       refine aD (dA rfl rfl) (aG (v:=zP (some ⟨b1,0,none⟩)) ?_);obtain ⟨c,q0,hm⟩:=aB hm
       refine aP (vs:=[zP (some ⟨b1,0,none⟩),i64 3]) call36 rfl (bB q0 p9 k) ?_
       rintro _ a36 ⟨rfl,q1⟩
       refine aD (cN (vs:=[(0,i64 (wr (7+l.1))),(1,i64 c.1)]) (cs:=[i64 (wr (7+l.1)),i64 c.1,str ([]:aF),zB false]) kD rfl (by kernel_rfl)) (cT (vs:=[i64 0,i64 0,str ([]:aF),zB false]) zeroValue55 q1 rfl (fun h2 a37 q2=>(eW (i:=0) (ns:=[i64 (wr (7+l.1)),i64 c.1,str ([]:aF),zB false]) (us:=[i64 (wr (7+l.1)),i64 c.1,str ([]:aF),zB false]) sizeOf55 q2 rfl rfl rfl rfl rfl (gH rfl) rfl rfl (fun q3 (q4:aE G K (box h2 55 [i64 (wr (7+l.1)),i64 c.1,str ([]:aF),zB false]::box b1 75 [zS a2 b.length c3,i64 c.2.1,Value.int .u64 c.2.2]::L) q3)=>(aI (aJ (bD [0,2,11] (fun f w=>∃ r z J,tM rec_ b g l c r=some R/\f 12=zS z r.length J/\aE G K (own 2 K z J r::box h2 55 [i64 (wr (7+l.1)),i64 c.1,str ([]:aF),zB false]::box b1 75 [zS a2 b.length c3,i64 c.2.1,Value.int .u64 c.2.2]::L) w) ?_ ?_)))))))
       ·rintro f a38 ⟨r,z,J,hm,q5,q6⟩
        unfold tM at hm
        refine aC (aJ (bD [] (fun f w=>∃ f4 h3 h5 h6 h8,yI f4 h3 h5=some R/\f 6=zS h6 f4.length h8/\aE G K (own 55 K h6 h8 f4::box b1 75 [zS a2 b.length c3,i64 h3,Value.int .u64 h5]::L) w) aM ?_));obtain ⟨a9,a4,q7,q8,a39⟩:=aE.lendBp q6 zt1
        refine aDc (C:=fun w'=>∃ L',aE G a9 L' w') [] Tryz_mixed (by kernel_rfl) (fun a40 q9=>?_)
        have a3:=aE.mono q8 q9
        refine oV (i:=0) rfl (by kernel_rfl) ⟨_,a3⟩ (fun _ ⟨_,a3⟩=>lV (t:=0) (vs:=[i64 (wr (7+l.1)),i64 c.1,str ([]:aF),zB false]) aEI a3 q7 rfl rfl rfl) (oV (i:=2) rfl (by kernel_rfl) ⟨_,a3⟩ (fun _ _=>aY (v:=zP (some ⟨b1,0,none⟩)) rfl) (oV (i:=3) rfl (by kernel_rfl) ⟨_,a3⟩ (fun _ _=>aY q5) (oV (i:=4) rfl (by kernel_rfl) ⟨_,a3⟩ (fun _ _=>aY (v:=i64 g) rfl) (oV (i:=5) rfl (by kernel_rfl) ⟨_,a3⟩ (fun _ _=>pT rfl rfl) (aFv (i:=1) (j:=6) (by kernel_rfl) rfl rfl ?_ ?_)))))
        ·refine bM (Kt:=K) (xs:=([⟨wr (7+l.1),c.1,([]:aF),false⟩]:List aO)) (cs:=[i64 (wr (7+l.1)),i64 c.1,str ([]:aF),zB false]) (vs:=[(0,zA #[i64 (wr (7+l.1)),i64 c.1,str ([]:aF),zB false])]) fQ rZ rfl rfl a3 rfl (by kernel_rfl) rfl rfl rfl ⟨rfl,trivial⟩ (fun f5 h9 (i0:aE G a9 (own 55 K f5 1 ([⟨wr (7+l.1),c.1,([]:aF),false⟩]:List aO)::own 2 K z J r::box b1 75 [zS a2 b.length c3,i64 c.2.1,Value.int .u64 c.2.2]::L) h9)=>(aZ (aC ⟨fun _=>⟨_,i0⟩,?_⟩)))
         refine hQ (i:=6) (by kernel_rfl) rfl ?_;obtain ⟨r0,r1,r2,r3,r4⟩:=aE.lendSp i0 a4 zt1
         have r5:aE G r0 (box b1 75 [zS a2 b.length c3,i64 c.2.1,Value.int .u64 c.2.2]::own 55 K f5 1 ([⟨wr (7+l.1),c.1,([]:aF),false⟩]:List aO)::L) h9:=(aE.arr 2 [1,0] r3 rfl)
         obtain ⟨c7,r6,hm⟩:=aB hm
         refine aP (vs:=[zP (some ⟨b1,0,none⟩),zS z r.length J,i64 (wr (g - 1))]) call130 rfl (ih r6 r5 (k.mono (zL a4 r1)) r2) ?_
         rintro _ r7 ⟨r8,r9,rfl,s0⟩
         have i1:=r4 _ _ s0
         refine aZ (aC ⟨fun _=>⟨_,i1⟩,?_⟩)
         refine hQ (i:=7) (by kernel_rfl) rfl ?_;obtain ⟨i2,s1,hm⟩:=aB hm
         have s2:aE G a9 (own 55 K r8 r9 c7.1::own 2 K z J r::box b1 75 [zS a2 b.length c3,i64 c7.2.1,Value.int .u64 c7.2.2]::own 55 K f5 1 ([⟨wr (7+l.1),c.1,([]:aF),false⟩]:List aO)::L) r7:=(aE.arr 2 [1,0] i1 rfl)
         refine hJ (i:=2) fQ underlying24 rZ rfl rfl s2 rfl a4 a4 s1 rfl rfl rfl rfl (fun _ h=>h) (fun i3 i4 s3 (i5:aE G a9 (own 2 K z J r::box b1 75 [zS a2 b.length c3,i64 c7.2.1,Value.int .u64 c7.2.2]::own 55 K i3 i4 i2::L) s3)=>(aZ (aC ⟨fun _=>⟨_,i5⟩,?_⟩)))
         exact oV (i:=8) rfl (by kernel_rfl) ⟨_,i5⟩ (fun _ _=>dX (v:=zS i3 i2.length i4) rfl) (wI (by kernel_rfl) aM)
        ·obtain ⟨a41,s4,s5,s6,s7⟩:=aE.lendSp a3 a4 .head
         obtain ⟨a6,s8,hm⟩:=aB hm
         refine aP (vs:=[zP (some ⟨b1,0,none⟩),zS z r.length J,i64 (wr (g - 1))]) call130 rfl (ih s8 s6 (k.mono (zL a4 s4)) s5) ?_
         rintro _ a42 ⟨i6,i7,rfl,t0⟩
         have i8:=s7 _ _ t0
         refine aZ (aC ⟨fun _=>⟨_,i8⟩,?_⟩)
         refine hQ (i:=1) (by kernel_rfl) rfl (bM (Kt:=K) (xs:=([⟨wr (7+l.1),c.1,([]:aF),false⟩]:List aO)) (cs:=[i64 (wr (7+l.1)),i64 c.1,str ([]:aF),zB false]) (vs:=[(0,zA #[i64 (wr (7+l.1)),i64 c.1,str ([]:aF),zB false])]) fQ rZ rfl rfl i8 rfl (by kernel_rfl) rfl rfl rfl ⟨rfl,trivial⟩ (fun i9 j0 (j1:aE G a9 (own 55 K i9 1 ([⟨wr (7+l.1),c.1,([]:aF),false⟩]:List aO)::own 2 K z J r::own 55 K i6 i7 a6.1::box b1 75 [zS a2 b.length c3,i64 a6.2.1,Value.int .u64 a6.2.2]::L) j0)=>(aZ (aC ⟨fun _=>⟨_,j1⟩,?_⟩))))
         refine hQ (i:=7) (by kernel_rfl) rfl ?_;obtain ⟨j2,t1,hm⟩:=aB hm
         have t2:aE G a9 (own 55 K i6 i7 a6.1::own 55 K i9 1 ([⟨wr (7+l.1),c.1,([]:aF),false⟩]:List aO)::own 2 K z J r::box b1 75 [zS a2 b.length c3,i64 a6.2.1,Value.int .u64 a6.2.2]::L) j0:=(aE.arr 3 [2,0,1] j1 rfl)
         refine hJ (i:=0) fQ underlying24 rZ rfl rfl t2 rfl a4 a4 t1 rfl rfl rfl rfl (fun _ h=>h) (fun j3 j4 t3 (j5:aE G a9 (own 55 K j3 j4 j2::own 2 K z J r::box b1 75 [zS a2 b.length c3,i64 a6.2.1,Value.int .u64 a6.2.2]::L) t3)=>(aZ (aC ⟨fun _=>⟨_,j5⟩,?_⟩)))
         exact oV (i:=8) rfl (by kernel_rfl) ⟨_,j5⟩ (fun _ _=>dX (v:=zS j3 j2.length j4) rfl) (wI (by kernel_rfl) aM)
       obtain ⟨b7,b8,t4,t5,j6⟩:=aE.lendBp q4 .head
       refine aDc (C:=fun w'=>∃ L',aE G b7 L' w') [] Tryz_mixed (by kernel_rfl) (fun a43 t6=>?_)
       have b0:=aE.mono t5 t6
       refine oV (i:=0) rfl (by kernel_rfl) ⟨_,b0⟩ (fun _ _=>aY (v:=zS a5 e.length c6) rfl) (oV (i:=2) rfl (by kernel_rfl) ⟨_,b0⟩ (fun _ _=>bU (t':=1) aGN rfl rfl) (oV (i:=3) rfl (by kernel_rfl) ⟨_,b0⟩ (fun _ ⟨_,b0⟩=>bG (t:=1) dM b0 t4 rfl rfl) (aFv (i:=1) (j:=4) (by kernel_rfl) rfl rfl ?_ ?_)))
       ·obtain ⟨t7,t8,hm⟩:=aB hm
        refine aP (vs:=d3) call156 rfl (uV t8 b0 (Z.mono b8)) ?_
        rintro _ a44 ⟨t9,u0,rfl,j7⟩
        refine aZ (aC ⟨fun _=>⟨_,j7⟩,?_⟩)
        refine hQ (i:=4) (by kernel_rfl) rfl (bM (Kt:=K) (xs:=([c.1]:List Int)) (cs:=[i64 c.1]) (vs:=[(0,i64 c.1)]) bJ lN rfl rfl j7 rfl (by kernel_rfl) rfl rfl rfl ⟨rfl,trivial⟩ (fun u1 u2 (j8:aE G b7 (own 2 K u1 1 ([c.1]:List Int)::own 2 K t9 u0 t7::box b1 75 [zS a2 b.length c3,i64 c.2.1,Value.int .u64 c.2.2]::L) u2)=>(aZ (aC ⟨fun _=>⟨_,j8⟩,?_⟩))))
        refine hQ (i:=5) (by kernel_rfl) rfl ?_;obtain ⟨j9,u3,hm⟩:=aB hm
        refine hJ (i:=0) bJ underlying41 lN rfl rfl j8 rfl b8 b8 u3 rfl rfl rfl rfl (fun _ h=>h) (fun k0 k1 u4 (f6:aE G b7 (own 2 K k0 k1 j9::box b1 75 [zS a2 b.length c3,i64 c.2.1,Value.int .u64 c.2.2]::L) u4)=>(aZ (aC ⟨fun _=>⟨_,f6⟩,?_⟩)))
        refine oV (i:=6) rfl (by kernel_rfl) ⟨_,f6⟩ (fun _ _=>dX (v:=zS k0 j9.length k1) rfl) (wI (by kernel_rfl) ?_)
        have a45:=j6 _ _ f6
        exact aM
       ·refine bM (Kt:=K) (xs:=([c.1]:List Int)) (cs:=[i64 c.1]) (vs:=[(0,i64 c.1)]) bJ lN rfl rfl b0 rfl (by kernel_rfl) rfl rfl rfl ⟨rfl,trivial⟩ (fun k2 u5 (k3:aE G b7 (own 2 K k2 1 ([c.1]:List Int)::box b1 75 [zS a2 b.length c3,i64 c.2.1,Value.int .u64 c.2.2]::L) u5)=>(aZ (aC ⟨fun _=>⟨_,k3⟩,?_⟩)))
        refine hQ (i:=1) (by kernel_rfl) rfl ?_;obtain ⟨u6,u7,hm⟩:=aB hm
        refine aP (vs:=d3) call156 rfl (uV u7 k3 (Z.mono b8)) ?_
        rintro _ u8 ⟨u9,v0,rfl,k4⟩
        refine aZ (aC ⟨fun _=>⟨_,k4⟩,?_⟩)
        refine hQ (i:=5) (by kernel_rfl) rfl ?_;obtain ⟨k5,v1,hm⟩:=aB hm
        have v2:aE G b7 (own 2 K k2 1 ([c.1]:List Int)::own 2 K u9 v0 u6::box b1 75 [zS a2 b.length c3,i64 c.2.1,Value.int .u64 c.2.2]::L) u8:=(aE.arr 2 [1,0] k4 rfl)
        refine hJ (i:=0) bJ underlying41 lN rfl rfl v2 rfl b8 b8 v1 rfl rfl rfl rfl (fun _ h=>h) (fun k6 k7 v3 (f7:aE G b7 (own 2 K k6 k7 k5::box b1 75 [zS a2 b.length c3,i64 c.2.1,Value.int .u64 c.2.2]::L) v3)=>(aZ (aC ⟨fun _=>⟨_,f7⟩,?_⟩)))
        refine oV (i:=6) rfl (by kernel_rfl) ⟨_,f7⟩ (fun _ _=>dX (v:=zS k6 k5.length k7) rfl) (wI (by kernel_rfl) ?_)
        have a46:=j6 _ _ f7
        exact aM
      ·refine aT f3 rfl (aW (cL (aC (aJ (aL (aG (v:=zP (some ⟨b1,0,none⟩)) ?_))))));obtain ⟨a47,v4,hm⟩:=aB hm
       refine aP (vs:=b4) call34 rfl (lE v4 f1 k) ?_
       rintro _ a48 ⟨rfl,k8⟩
       refine aI ?_
       rcases aK hm with ⟨f8,hm⟩|⟨f8,hm⟩
       ·refine aQ f8 rfl (aL (aG (v:=zP (some ⟨b1,0,none⟩)) (aG (v:=zS a5 e.length c6) (aG (v:=i64 g) ?_))));obtain ⟨v5,v6,hm⟩:=aB hm
        refine aD (aGA rfl rfl v6) ?_;obtain ⟨a49,v7,hm⟩:=aB hm
        exact aP (vs:=[zP (some ⟨b1,0,none⟩),zS a5 e.length c6,i64 v5]) call130 rfl (ih v7 k8 k Z) aM
       ·refine aT f8 rfl (aW (aC (aL (aG (v:=zP (some ⟨b1,0,none⟩)) ?_))));obtain ⟨d,v8,hm⟩:=aB hm
        refine aP (vs:=b4) call36 rfl (bB v8 k8 k) ?_
        rintro _ a50 ⟨rfl,v9⟩
        refine aD (dA rfl rfl) (aG (v:=zP (some ⟨b1,0,none⟩)) ?_);obtain ⟨a,w0,hm⟩:=aB hm
        refine aP (vs:=b4) call36 rfl (bB w0 v9 k) ?_
        rintro _ a51 ⟨rfl,w1⟩
        refine aD (cN (vs:=[(0,i64 (wr (7+d.1))),(1,i64 a.1)]) (cs:=[i64 (wr (7+d.1)),i64 a.1,str ([]:aF),zB false]) kD rfl (by kernel_rfl)) (cT (vs:=[i64 0,i64 0,str ([]:aF),zB false]) zeroValue55 w1 rfl (fun u a52 w2=>(eW (i:=0) (ns:=[i64 (wr (7+d.1)),i64 a.1,str ([]:aF),zB false]) (us:=[i64 (wr (7+d.1)),i64 a.1,str ([]:aF),zB false]) sizeOf55 w2 rfl rfl rfl rfl rfl (gH rfl) rfl rfl (fun w3 (a53:aE G K (box u 55 [i64 (wr (7+d.1)),i64 a.1,str ([]:aF),zB false]::box b1 75 [zS a2 b.length c3,i64 a.2.1,Value.int .u64 a.2.2]::L) w3)=>(aI (aL (aH (v:=i64 3) (aI (jV [0,1,2,13] (fun f w=>∃ p,mH rec_ b e g d a p=some R/\f 14=i64 p/\aE G K (box u 55 [i64 (wr (7+d.1)),i64 a.1,str ([]:aF),zB false]::box b1 75 [zS a2 b.length c3,i64 a.2.1,Value.int .u64 a.2.2]::L) w) ?_ ?_)))))))))
        ·rintro f a54 ⟨p,hm,w4,w5⟩
         unfold mH at hm
         refine aJ (bD [0,2,13,14] (fun f w=>∃ q x y,tN rec_ b g d a p q=some R/\f 15=zS x q.length y/\aE G K (own 2 K x y q::box u 55 [i64 (wr (7+d.1)),i64 a.1,str ([]:aF),zB false]::box b1 75 [zS a2 b.length c3,i64 a.2.1,Value.int .u64 a.2.2]::L) w) ?_ ?_)
         ·rintro f a56 ⟨q,x,y,hm,w6,k9⟩
          unfold tN at hm
          refine aC (aL (aD (pB (us:=[i64 (wr (7+d.1)),i64 a.1,str ([]:aF),zB false]) aEI k9 (i:=1) rfl rfl rfl rfl) (bI w4 (aD (cN (vs:=[(0,i64 p)]) (cs:=[i64 p,i64 0,str ([]:aF),zB false]) kD rfl (by kernel_rfl)) (bM (Kt:=K) (xs:=([⟨wr (7+d.1),a.1,([]:aF),false⟩,⟨p,0,([]:aF),false⟩]:List aO)) (cs:=[i64 (wr (7+d.1)),i64 a.1,str ([]:aF),zB false,i64 p,i64 0,str ([]:aF),zB false]) (vs:=[(0,zA #[i64 (wr (7+d.1)),i64 a.1,str ([]:aF),zB false]),(1,zA #[i64 p,i64 0,str ([]:aF),zB false])]) fQ rZ rfl rfl k9 rfl (by kernel_rfl) rfl rfl rfl ⟨rfl,rfl,trivial⟩ (fun c9 l0 (w7:aE G K (own 55 K c9 2 ([⟨wr (7+d.1),a.1,([]:aF),false⟩,⟨p,0,([]:aF),false⟩]:List aO)::own 2 K x y q::box u 55 [i64 (wr (7+d.1)),i64 a.1,str ([]:aF),zB false]::box b1 75 [zS a2 b.length c3,i64 a.2.1,Value.int .u64 a.2.2]::L) l0)=>(aH (v:=zS c9 ([⟨wr (7+d.1),a.1,([]:aF),false⟩,⟨p,0,([]:aF),false⟩]:List aO).length 2) (aI (aL (aG (v:=zS c9 ([⟨wr (7+d.1),a.1,([]:aF),false⟩,⟨p,0,([]:aF),false⟩]:List aO).length 2) (aG (v:=zP (some ⟨b1,0,none⟩)) (bI w6 (aG (v:=i64 g) ?_)))))))))))))
          obtain ⟨w8,w9,hm⟩:=aB hm
          refine aD (aGA rfl rfl w9) ?_;obtain ⟨x0,x1,x2,x3,x4⟩:=aE.lendSp w7 (zR _) zt1
          have x5:aE G x0 (box b1 75 [zS a2 b.length c3,i64 a.2.1,Value.int .u64 a.2.2]::own 55 K c9 2 ([⟨wr (7+d.1),a.1,([]:aF),false⟩,⟨p,0,([]:aF),false⟩]:List aO)::box u 55 [i64 (wr (7+d.1)),i64 a.1,str ([]:aF),zB false]::L) l0:=(aE.arr 3 [2,0,1] x3 rfl)
          obtain ⟨b2,x6,hm⟩:=aB hm
          refine aP (vs:=[zP (some ⟨b1,0,none⟩),zS x q.length y,i64 w8]) call130 rfl (ih x6 x5 (k.mono x1) x2) ?_
          rintro _ x7 ⟨x8,x9,rfl,y0⟩
          have y1:=x4 _ _ y0
          obtain ⟨d0,y2,hm⟩:=aB hm
          have y3:aE G K (own 55 K x8 x9 b2.1::own 2 K x y q::box b1 75 [zS a2 b.length c3,i64 b2.2.1,Value.int .u64 b2.2.2]::own 55 K c9 2 ([⟨wr (7+d.1),a.1,([]:aF),false⟩,⟨p,0,([]:aF),false⟩]:List aO)::box u 55 [i64 (wr (7+d.1)),i64 a.1,str ([]:aF),zB false]::L) x7:=(aE.arr 2 [1,0] y1 rfl)
          refine hJ (i:=2) fQ underlying24 rZ rfl rfl y3 rfl (zR _) (zR _) y2 rfl rfl rfl rfl (fun _ h=>h) (fun d1 d2 l1 (y4:aE G K (own 2 K x y q::box b1 75 [zS a2 b.length c3,i64 b2.2.1,Value.int .u64 b2.2.2]::own 55 K d1 d2 d0::box u 55 [i64 (wr (7+d.1)),i64 a.1,str ([]:aF),zB false]::L) l1)=>(aH (v:=zS d1 d0.length d2) (aI (aL (aG (v:=zS d1 d0.length d2) (aG (v:=zP (some ⟨b1,0,none⟩)) ?_))))))
          have y5:aE G K (box b1 75 [zS a2 b.length c3,i64 b2.2.1,Value.int .u64 b2.2.2]::own 2 K x y q::own 55 K d1 d2 d0::box u 55 [i64 (wr (7+d.1)),i64 a.1,str ([]:aF),zB false]::L) l1:=(aE.arr 2 [1,0] y4 rfl)
          obtain ⟨m,y6,hm⟩:=aB hm
          refine aP (vs:=[zP (some ⟨b1,0,none⟩)]) call155 rfl (uE y6 y5 k) ?_
          rintro _ a57 ⟨rfl,y7⟩
          refine bM (Kt:=K) (xs:=([m.1]:List aO)) (cs:=[i64 m.1.Kind,i64 m.1.Variable,str m.1.B,zB m.1.Not]) (vs:=[(0,zA #[i64 m.1.Kind,i64 m.1.Variable,str m.1.B,zB m.1.Not])]) fQ rZ rfl rfl y7 rfl (by kernel_rfl) rfl rfl rfl ⟨rfl,trivial⟩ (fun y8 y9 (z0:aE G K (own 55 K y8 1 ([m.1]:List aO)::box b1 75 [zS a2 b.length c3,i64 m.2.1,Value.int .u64 m.2.2]::own 2 K x y q::own 55 K d1 d2 d0::box u 55 [i64 (wr (7+d.1)),i64 a.1,str ([]:aF),zB false]::L) y9)=>?_)
          obtain ⟨d8,z1,hm⟩:=aB hm
          refine hJ (i:=2) fQ underlying24 rZ rfl rfl z0 rfl (zR _) (zR _) z1 rfl rfl rfl rfl (fun _ h=>h) (fun d9 e0 z2 (l2:aE G K (box b1 75 [zS a2 b.length c3,i64 m.2.1,Value.int .u64 m.2.2]::own 2 K x y q::own 55 K d9 e0 d8::box u 55 [i64 (wr (7+d.1)),i64 a.1,str ([]:aF),zB false]::L) z2)=>(aH (v:=zS d9 d8.length e0) (aI (aL (aG (v:=zS d9 d8.length e0) (aD (bU (t':=1) aGN rfl rfl) (aD (eP dM l2 (i:=3) rfl rfl rfl) (aD (cN (vs:=[(0,i64 6),(1,i64 a.1)]) (cs:=[i64 6,i64 a.1,str ([]:aF),zB false]) kD rfl (by kernel_rfl)) (bM (Kt:=K) (xs:=([⟨6,a.1,([]:aF),false⟩]:List aO)) (cs:=[i64 6,i64 a.1,str ([]:aF),zB false]) (vs:=[(0,zA #[i64 6,i64 a.1,str ([]:aF),zB false])]) fQ rZ rfl rfl l2 rfl (by kernel_rfl) rfl rfl rfl ⟨rfl,trivial⟩ (fun z3 z4 (z5:aE G K (own 55 K z3 1 ([⟨6,a.1,([]:aF),false⟩]:List aO)::box b1 75 [zS a2 b.length c3,i64 m.2.1,Value.int .u64 m.2.2]::own 2 K x y q::own 55 K d9 e0 d8::box u 55 [i64 (wr (7+d.1)),i64 a.1,str ([]:aF),zB false]::L) z4)=>?_))))))))))
          obtain ⟨l3,z6,hm⟩:=aB hm
          refine hJ (i:=2) fQ underlying24 rZ rfl rfl z5 rfl (zR _) (zR _) z6 rfl rfl rfl rfl (fun _ h=>h) (fun f9 g0 z7 (z8:aE G K (box b1 75 [zS a2 b.length c3,i64 m.2.1,Value.int .u64 m.2.2]::own 2 K x y q::own 55 K f9 g0 l3::box u 55 [i64 (wr (7+d.1)),i64 a.1,str ([]:aF),zB false]::L) z7)=>(aH (v:=zS f9 l3.length g0) (aI ?_)));obtain rfl:=zI hm
          exact pS (rT results130 rfl ⟨f9,g0,rfl,(aE.arr 4 [2,0] z8 rfl)⟩)
         obtain ⟨b9,c0,a00,a01,l4⟩:=aE.lendBp w5 .head
         refine aDc (C:=fun w'=>∃ L',aE G b9 L' w') [] Tryz_mixed (by kernel_rfl) (fun a58 a02=>?_)
         have b3:=aE.mono a01 a02
         refine oV (i:=0) rfl (by kernel_rfl) ⟨_,b3⟩ (fun _ _=>aY (v:=zS a5 e.length c6) rfl) (oV (i:=2) rfl (by kernel_rfl) ⟨_,b3⟩ (fun _ _=>bU (t':=1) aGN rfl rfl) (oV (i:=3) rfl (by kernel_rfl) ⟨_,b3⟩ (fun _ ⟨_,b3⟩=>bG (t:=1) dM b3 a00 rfl rfl) (aFv (i:=1) (j:=4) (by kernel_rfl) rfl rfl ?_ ?_)))
         ·obtain ⟨a03,a04,hm⟩:=aB hm
          refine aP (vs:=d3) call156 rfl (uV a04 b3 (Z.mono c0)) ?_
          rintro _ a59 ⟨a05,a06,rfl,l5⟩
          refine aZ (aC ⟨fun _=>⟨_,l5⟩,?_⟩)
          refine hQ (i:=4) (by kernel_rfl) rfl (bM (Kt:=K) (xs:=([a.1]:List Int)) (cs:=[i64 a.1]) (vs:=[(0,i64 a.1)]) bJ lN rfl rfl l5 rfl (by kernel_rfl) rfl rfl rfl ⟨rfl,trivial⟩ (fun a07 a08 (l6:aE G b9 (own 2 K a07 1 ([a.1]:List Int)::own 2 K a05 a06 a03::box b1 75 [zS a2 b.length c3,i64 a.2.1,Value.int .u64 a.2.2]::L) a08)=>(aZ (aC ⟨fun _=>⟨_,l6⟩,?_⟩))))
          refine hQ (i:=5) (by kernel_rfl) rfl ?_;obtain ⟨l7,a09,hm⟩:=aB hm
          refine hJ (i:=0) bJ underlying41 lN rfl rfl l6 rfl c0 c0 a09 rfl rfl rfl rfl (fun _ h=>h) (fun l8 l9 a10 (g1:aE G b9 (own 2 K l8 l9 l7::box b1 75 [zS a2 b.length c3,i64 a.2.1,Value.int .u64 a.2.2]::L) a10)=>(aZ (aC ⟨fun _=>⟨_,g1⟩,?_⟩)))
          refine oV (i:=6) rfl (by kernel_rfl) ⟨_,g1⟩ (fun _ _=>dX (v:=zS l8 l7.length l9) rfl) (wI (by kernel_rfl) ?_)
          have a60:=l4 _ _ g1
          exact aM
         ·refine bM (Kt:=K) (xs:=([a.1]:List Int)) (cs:=[i64 a.1]) (vs:=[(0,i64 a.1)]) bJ lN rfl rfl b3 rfl (by kernel_rfl) rfl rfl rfl ⟨rfl,trivial⟩ (fun m0 a11 (m1:aE G b9 (own 2 K m0 1 ([a.1]:List Int)::box b1 75 [zS a2 b.length c3,i64 a.2.1,Value.int .u64 a.2.2]::L) a11)=>(aZ (aC ⟨fun _=>⟨_,m1⟩,?_⟩)))
          refine hQ (i:=1) (by kernel_rfl) rfl ?_;obtain ⟨a12,a13,hm⟩:=aB hm
          refine aP (vs:=d3) call156 rfl (uV a13 m1 (Z.mono c0)) ?_
          rintro _ a14 ⟨a15,a16,rfl,m2⟩
          refine aZ (aC ⟨fun _=>⟨_,m2⟩,?_⟩)
          refine hQ (i:=5) (by kernel_rfl) rfl ?_;obtain ⟨m3,a17,hm⟩:=aB hm
          have a18:aE G b9 (own 2 K m0 1 ([a.1]:List Int)::own 2 K a15 a16 a12::box b1 75 [zS a2 b.length c3,i64 a.2.1,Value.int .u64 a.2.2]::L) a14:=(aE.arr 2 [1,0] m2 rfl)
          refine hJ (i:=0) bJ underlying41 lN rfl rfl a18 rfl c0 c0 a17 rfl rfl rfl rfl (fun _ h=>h) (fun m4 m5 a19 (g2:aE G b9 (own 2 K m4 m5 m3::box b1 75 [zS a2 b.length c3,i64 a.2.1,Value.int .u64 a.2.2]::L) a19)=>(aZ (aC ⟨fun _=>⟨_,g2⟩,?_⟩)))
          refine oV (i:=6) rfl (by kernel_rfl) ⟨_,g2⟩ (fun _ _=>dX (v:=zS m4 m3.length m5) rfl) (wI (by kernel_rfl) ?_)
          have a61:=l4 _ _ g2
          exact aM
        exact aM
    exact aM
  exact aM
theorem aAg (n:Nat):∀ {G:rY} {K:Hp} {L:List fD} {w:World} {b1:Nat} {a:(List UInt8)} {a2:Option Addr} {c3:Nat} {g:Int} {h:Int} {b:(List Int)} {a5:Option Addr} {c6:Nat} {i:Int} {R:((List aO) × Int × Int)} (hm:jL n a g h b i=some R) (c:aE G K (box b1 75 [zS a2 a.length c3,i64 g,Value.int .u64 h]::L) w) (d:bL K a2 c3 a) (e:bL K a5 c6 b),
  Calls prog 130 ([zP (some ⟨b1,0,none⟩),zS a5 b.length c6,i64 i]:List Value).toArray w (dQ fun v w'=>∃ j k,v=zS j R.1.length k/\aE G K (own 55 K j k R.1::box b1 75 [zS a2 a.length c3,i64 R.2.1,Value.int .u64 R.2.2]::L) w'):=by
 induction n with
 |zero=>
  intro G K L w b1 a a2 c3 g h b a5 c6 i R hm c d e
  unfold jL at hm
  cases hm
 |succ n ih=>
  intro G K L w b1 a a2 c3 g h b a5 c6 i R hm c d e
  exact aAf (rec_:=jL n) (fun hm c d e=>ih hm c d e) hm c d e
theorem aBR {s0_:(List UInt8)} {s1_ s2_:Int} {bound:(List Int)} {most:Int} {R:((List aO) × Int × Int)} (hm:aCS s0_ s1_ s2_ bound most=some R) (hs:aE G K (box b1 75 [zS a2 s0_.length c3,i64 s1_,Value.int .u64 s2_]::L) w) (h4:bL K a2 c3 s0_) (h7:bL K a5 c6 bound):
  Calls prog 130 ([zP (some ⟨b1,0,none⟩),zS a5 bound.length c6,i64 most]:List Value).toArray w (dQ fun v w'=>∃ ra0 rc0,v=zS ra0 R.1.length rc0/\aE G K (own 55 K ra0 rc0 R.1::box b1 75 [zS a2 s0_.length c3,i64 R.2.1,Value.int .u64 R.2.2]::L) w'):=aAg 100000 hm hs h4 h7
end Gv
namespace Gv
open Gv.Hp renaming le_refl→zR
open Go.Value renaming slice→zS,bool→zB,pointer→zP,agg→zA
open Option.some renaming inj→zI
open Gv.Hp renaming le_trans→zL
open Go Go.Proofs Go.Proofs.Tryz
set_option maxRecDepth 20000
set_option maxHeartbeats 40000000
variable {G:rY} {K:Hp} {L:List fD} {w:World} {b1 c3 c6 c2 c5:Nat} {a2 a5 a1 a4:Option Addr}
theorem aHC {a:(List UInt8)} {e g:Int} {R:((List aO) × Int × Int)} (hm:zV a e g=some R) (t:aE G K (box b1 75 [zS a2 a.length c3,i64 e,Value.int .u64 g]::L) w) (m:bL K a2 c3 a):
  Calls prog 82 ([zP (some ⟨b1,0,none⟩)]:List Value).toArray w (dQ fun v w'=>∃ n o,v=zS n R.1.length o/\aE G K (own 55 K n o R.1::box b1 75 [zS a2 a.length c3,i64 R.2.1,Value.int .u64 R.2.2]::L) w'):=by
 let p:=box b1 75 [zS a2 a.length c3,i64 e,Value.int .u64 g]
 refine aN func82 rfl (by kernel_rfl) (by show (1:Nat)<=28;decide) ?_;unfold zV at hm
 refine aL (aH (v:=zS none 0 0) (aI (aL (aG (v:=zP (some ⟨b1,0,none⟩)) (bM (Kt:=K) (xs:=([]:List Int)) (cs:=[]) (vs:=[]) bJ lN rfl rfl t rfl (by kernel_rfl) rfl rfl rfl trivial (fun h q (u:aE G K (own 2 K h 0 ([]:List Int)::p::L) q)=>(aG (v:=zP (some ⟨b1,0,none⟩)) ?_)))))))
 have x:aE G K (p::own 2 K h 0 ([]:List Int)::L) q:=(aE.arr 2 [1,0] u rfl)
 obtain ⟨y,z,hm⟩:=aB hm
 refine aP (vs:=[zP (some ⟨b1,0,none⟩),i64 8]) call36 rfl (bB z x m) ?_
 rintro _ b3 ⟨rfl,J⟩
 refine aD (dA rfl rfl) ?_;obtain ⟨b4,Z,a0,a1,a3⟩:=aE.lendSp J (zR _) zt1
 obtain ⟨b,a4,hm⟩:=aB hm
 refine aP (vs:=[zP (some ⟨b1,0,none⟩),zS h ([]:List Int).length 0,i64 (wr (1+y.1))]) call130 rfl (aBR a4 a1 (m.mono Z) a0) ?_
 rintro _ b5 ⟨i,j,rfl,a6⟩
 have b6:=a3 _ _ a6
 refine aH (v:=zS i b.1.length j) (aI (aJ (aJ (bD [3] (fun f w=>∃ k c d,mQ b k c d=some R/\f 22=zB k/\aE G K (own 55 K i j b.1::box b1 75 [zS a2 a.length c3,i64 c,Value.int .u64 d]::L) w) ?_ ?_))))
 ·rintro f b7 ⟨k,c,d,hm,a7,a8⟩
  unfold mQ at hm
  refine aC ?_
  rcases aK hm with ⟨r,hm⟩|⟨r,hm⟩
  ·refine aQ r a7 (aL (aD (cN (vs:=[(0,i64 7),(1,i64 1)]) (cs:=[i64 7,i64 1,str ([]:aF),zB false]) kD rfl (by kernel_rfl)) (aD (cN (vs:=[(0,i64 4),(2,str ([97]:aF))]) (cs:=[i64 4,i64 0,str ([97]:aF),zB false]) kD rfl (by kernel_rfl)) (aD (cN (vs:=[(0,i64 6),(1,i64 1)]) (cs:=[i64 6,i64 1,str ([]:aF),zB false]) kD rfl (by kernel_rfl)) (bM (Kt:=K) (xs:=([⟨7,1,([]:aF),false⟩,⟨4,0,([97]:aF),false⟩,⟨6,1,([]:aF),false⟩]:List aO)) (cs:=[i64 7,i64 1,str ([]:aF),zB false,i64 4,i64 0,str ([97]:aF),zB false,i64 6,i64 1,str ([]:aF),zB false]) (vs:=[(0,zA #[i64 7,i64 1,str ([]:aF),zB false]),(1,zA #[i64 4,i64 0,str ([97]:aF),zB false]),(2,zA #[i64 6,i64 1,str ([]:aF),zB false])]) fQ rZ rfl rfl a8 rfl (by kernel_rfl) rfl rfl rfl ⟨rfl,rfl,rfl,trivial⟩ (fun l a9 (b0:aE G K (own 55 K l 3 ([⟨7,1,([]:aF),false⟩,⟨4,0,([97]:aF),false⟩,⟨6,1,([]:aF),false⟩]:List aO)::own 55 K i j b.1::box b1 75 [zS a2 a.length c3,i64 c,Value.int .u64 d]::L) a9)=>(aH (v:=zS l ([⟨7,1,([]:aF),false⟩,⟨4,0,([97]:aF),false⟩,⟨6,1,([]:aF),false⟩]:List aO).length 3) (aI ?_))))))))
   obtain rfl:=zI hm
   exact pS (gZ (rT results82 rfl ⟨l,3,rfl,(aE.arr 2 [0] b0 rfl)⟩))
  ·exact aM
 exact aM
theorem aJn {c:(List UInt8)} {a6 a7:Int} {z:(List aO)} {R:((List aO) × Int × Int)} (hm:aDl c a6 a7 z=some R) (hs:aE G K (box b1 75 [zS a2 c.length c3,i64 a6,Value.int .u64 a7]::L) w) (k:bL K a2 c3 c) (h7:bL K a5 c6 z):
  Calls prog 83 ([zP (some ⟨b1,0,none⟩),zS a5 z.length c6]:List Value).toArray w (dQ fun v w'=>∃ c7 c8,v=zS c7 R.1.length c8/\aE G K (own 55 K c7 c8 R.1::box b1 75 [zS a2 c.length c3,i64 R.2.1,Value.int .u64 R.2.2]::L) w'):=by
 let a9:=[zS a2 c.length c3,i64 a6,Value.int .u64 a7]
 let c9:=[i64 4,i64 0,str ([]:aF),zB false]
 refine aN func83 rfl (by kernel_rfl) (by show (2:Nat)<=77;decide) ?_;unfold aDl at hm
 refine aL (aH (v:=zS none 0 0) (aI (aL (bM (Kt:=K) (xs:=([]:List aO)) (cs:=[]) (vs:=[]) fQ rZ rfl rfl hs rfl (by kernel_rfl) rfl rfl rfl trivial (fun a8 w9 (g6:aE G K (own 55 K a8 0 ([]:List aO)::box b1 75 a9::L) w9)=>(aG (v:=zS a5 z.length c6) ?_))))));obtain ⟨e,g7,hm⟩:=aB hm
 refine aHn (i:=0) fQ underlying24 rZ rfl rfl g6 rfl (zR _) h7 g7 rfl rfl rfl rfl (fun a b d0 (g8:aE G K (own 55 K a b e::box b1 75 a9::L) d0)=>(aH (v:=zS a e.length b) (aI (aJ (aL (aG (v:=zP (some ⟨b1,0,none⟩)) ?_))))))
 have g9:aE G K (box b1 75 a9::own 55 K a b e::L) d0:=(aE.arr 2 [1,0] g8 rfl)
 obtain ⟨l1,h0,hm⟩:=aB hm
 refine aP (vs:=[zP (some ⟨b1,0,none⟩),i64 8]) call34 rfl (lE h0 g9 k) ?_
 rintro _ l2 ⟨rfl,h1⟩
 refine aD (tZ rfl) (aI ?_)
 rcases aK hm with ⟨d1,hm⟩|⟨d1,hm⟩
 ·exact aM
 ·refine aT d1 rfl (aW (aC (aL (aG (v:=zP (some ⟨b1,0,none⟩)) (aG (v:=zS a e.length b) (aD (bF (len:=e.length) fQ rfl) ?_))))));obtain ⟨g,h2,hm⟩:=aB hm
  refine aP (vs:=[zP (some ⟨b1,0,none⟩),i64 (e.length:Int)]) call36 rfl (bB h2 h1 k) ?_
  rintro _ l3 ⟨rfl,h3⟩
  refine aH (v:=i64 g.1) (aI (aJ (aL (aG (v:=zP (some ⟨b1,0,none⟩)) ?_))));obtain ⟨d,h5,hm⟩:=aB hm
  refine aP (vs:=[zP (some ⟨b1,0,none⟩),i64 6]) call36 rfl (bB h5 h3 k) ?_
  rintro _ h6 ⟨rfl,j⟩
  refine aI (aR [] (fun f w=>∃ b0 d2 d3 d4 d5,nT b0 d2 d3=some R/\f 5=zS d4 b0.length d5/\aE G K (box b1 75 [zS a2 c.length c3,i64 d2,Value.int .u64 d3]::own 55 K d4 d5 b0::L) w) aM (aL (aD (lX rfl rfl) (aH (v:=zB (d.1 == 0)) (aI ?_)))))
  rcases aK hm with ⟨b2,hm⟩|⟨b2,hm⟩
  ·refine aQ b2 rfl (aU (aG (v:=zS a e.length b) (aG (v:=i64 g.1) (aG (v:=zP (some ⟨b1,0,none⟩)) ?_))));obtain ⟨l,h8,hm⟩:=aB hm
   refine aP (vs:=[zP (some ⟨b1,0,none⟩),i64 11]) call36 rfl (bB h8 j k) ?_
   rintro _ l4 ⟨rfl,d6⟩
   refine aD (pT rfl rfl) ?_;obtain ⟨b3,b4,hm⟩:=aB hm
   have d7:=bV d6 (i:=1) rfl b4
   refine aD (cQ fQ rfl d7 rfl rfl rfl b4) (aD (aGg (k':=g.1.toNat * 4+0) uX d7 rfl rfl) ?_);obtain ⟨d8,d9,hm⟩:=aB hm
   exact gP (i:=1) (t:=0) (ns:=[i64 (wr (l.1 - 1))]) (e':=(⟨wr (l.1 - 1),b3.Variable,b3.B,b3.Not⟩:aO)) sizeOf2 d6 rfl (zR _) rfl rfl rfl b4 d9 rfl rfl (gH rfl) rfl (fun cs h=>by cases h;rfl) (fun h9 (i0:aE G K (box b1 75 [zS a2 c.length c3,i64 l.2.1,Value.int .u64 l.2.2]::own 55 K a b d8::L) h9)=>(aZ (cL (aC ⟨bK,d8,l.2.1,l.2.2,a,b,hm,(Eq.trans rfl (congrArg (fun n=>zS a n b) (fP d9))),i0⟩))))
  ·refine aT b2 rfl (aL (aD (lX rfl rfl) (aH (v:=zB (d.1 == 1)) (aI ?_))))
   rcases aK hm with ⟨b5,hm⟩|⟨b5,hm⟩
   ·refine aQ b5 rfl (aU (aG (v:=zS a e.length b) (aG (v:=i64 g.1) (aG (v:=zP (some ⟨b1,0,none⟩)) (bM (Kt:=K) (xs:=([(-1),0,1,2,3]:List Int)) (cs:=[i64 (-1),i64 0,i64 1,i64 2,i64 3]) (vs:=[(0,i64 (-1)),(1,i64 0),(2,i64 1),(3,i64 2),(4,i64 3)]) bJ lN rfl rfl j rfl (by kernel_rfl) rfl rfl rfl ⟨rfl,rfl,rfl,rfl,rfl,trivial⟩ (fun b6 i1 (i2:aE G K (own 2 K b6 5 ([(-1),0,1,2,3]:List Int)::box b1 75 [zS a2 c.length c3,i64 d.2.1,Value.int .u64 d.2.2]::own 55 K a b e::L) i1)=>?_))))))
    obtain ⟨l5,i3,i4,i5,i6⟩:=aE.lendSp i2 (zR _) .head
    obtain ⟨m,i7,hm⟩:=aB hm
    refine aP (vs:=[zP (some ⟨b1,0,none⟩),zS b6 ([(-1),0,1,2,3]:List Int).length 5]) call44 rfl (jJ i7 i5 (k.mono i3) i4) ?_
    rintro _ l6 ⟨rfl,i8⟩
    have e0:=i6 _ _ i8
    obtain ⟨b7,b8,hm⟩:=aB hm
    have e1:=bV e0 (i:=2) rfl b8
    refine aD (cQ fQ rfl e1 rfl rfl rfl b8) (aD (aGg (k':=g.1.toNat * 4+1) aGN e1 rfl rfl) ?_);obtain ⟨e2,e3,hm⟩:=aB hm
    exact gP (i:=2) (t:=1) (ns:=[i64 m.1]) (e':=(⟨b7.Kind,m.1,b7.B,b7.Not⟩:aO)) sizeOf2 e0 rfl (zR _) rfl rfl rfl b8 e3 rfl rfl (gH rfl) rfl (fun cs h=>by cases h;rfl) (fun i9 (j0:aE G K (own 2 K b6 5 ([(-1),0,1,2,3]:List Int)::box b1 75 [zS a2 c.length c3,i64 m.2.1,Value.int .u64 m.2.2]::own 55 K a b e2::L) i9)=>(aZ (cL (aC ⟨bK,e2,m.2.1,m.2.2,a,b,hm,(Eq.trans rfl (congrArg (fun n=>zS a n b) (fP e3))),(aE.arr 1 [] j0 rfl)⟩))))
   ·refine aT b5 rfl (aL (aD (lX rfl rfl) (aH (v:=zB (d.1 == 2)) (aI ?_))))
    rcases aK hm with ⟨b9,hm⟩|⟨b9,hm⟩
    ·refine aQ b9 rfl (aU (aG (v:=zS a e.length b) (aG (v:=i64 g.1) (aG (v:=zP (some ⟨b1,0,none⟩)) (bM (Kt:=K) (xs:=([([97]:aF),([]:aF),([116,97,117,42]:aF),([97,40,54,52,41]:aF),([103,101,116,42]:aF)]:List aF)) (cs:=[str ([97]:aF),str ([]:aF),str ([116,97,117,42]:aF),str ([97,40,54,52,41]:aF),str ([103,101,116,42]:aF)]) (vs:=[(0,str ([97]:aF)),(1,str ([]:aF)),(2,str ([116,97,117,42]:aF)),(3,str ([97,40,54,52,41]:aF)),(4,str ([103,101,116,42]:aF))]) kN aGK rfl rfl j rfl (by kernel_rfl) rfl rfl rfl ⟨rfl,rfl,rfl,rfl,rfl,trivial⟩ (fun c0 j1 (j2:aE G K (own 9 K c0 5 ([([97]:aF),([]:aF),([116,97,117,42]:aF),([97,40,54,52,41]:aF),([103,101,116,42]:aF)]:List aF)::box b1 75 [zS a2 c.length c3,i64 d.2.1,Value.int .u64 d.2.2]::own 55 K a b e::L) j1)=>?_))))))
     obtain ⟨l7,j3,j4,j5,j6⟩:=aE.lendSp j2 (zR _) .head
     obtain ⟨o,j7,hm⟩:=aB hm
     refine aP (vs:=[zP (some ⟨b1,0,none⟩),zS c0 ([([97]:aF),([]:aF),([116,97,117,42]:aF),([97,40,54,52,41]:aF),([103,101,116,42]:aF)]:List aF).length 5]) call129 rfl (vO j7 j5 (k.mono j3) j4) ?_
     rintro _ l8 ⟨rfl,j8⟩
     have e4:=j6 _ _ j8
     obtain ⟨c1,c2,hm⟩:=aB hm
     have e5:=bV e4 (i:=2) rfl c2
     refine aD (cQ fQ rfl e5 rfl rfl rfl c2) (aD (aGg (k':=g.1.toNat * 4+2) aGM e5 rfl rfl) ?_);obtain ⟨e6,e7,hm⟩:=aB hm
     exact gP (i:=2) (t:=2) (ns:=[str o.1]) (e':=(⟨c1.Kind,c1.Variable,o.1,c1.Not⟩:aO)) sizeOf9 e4 rfl (zR _) rfl rfl rfl c2 e7 rfl rfl (gH rfl) rfl (fun cs h=>by cases h;rfl) (fun j9 (k0:aE G K (own 9 K c0 5 ([([97]:aF),([]:aF),([116,97,117,42]:aF),([97,40,54,52,41]:aF),([103,101,116,42]:aF)]:List aF)::box b1 75 [zS a2 c.length c3,i64 o.2.1,Value.int .u64 o.2.2]::own 55 K a b e6::L) j9)=>(aZ (cL (aC ⟨bK,e6,o.2.1,o.2.2,a,b,hm,(Eq.trans rfl (congrArg (fun n=>zS a n b) (fP e7))),(aE.arr 1 [] k0 rfl)⟩))))
    ·refine aT b9 rfl (aL (aD (lX rfl rfl) (aH (v:=zB (d.1 == 3)) (aI ?_))))
     rcases aK hm with ⟨c4,hm⟩|⟨c4,hm⟩
     ·refine aQ c4 rfl (aU (aG (v:=zS a e.length b) (aG (v:=i64 g.1) (aG (v:=zS a e.length b) (aG (v:=i64 g.1) ?_)))));obtain ⟨q,r,hm⟩:=aB hm
      have J:=bV j (i:=1) rfl r
      refine aD (cQ fQ rfl J rfl rfl rfl r) (aD (aGg (k':=g.1.toNat * 4+3) aIB J rfl rfl) (aD (nB (t:=3) aCc j (i:=1) rfl r rfl rfl rfl) (aD (tZ rfl) (aD (cQ fQ rfl J rfl rfl rfl r) (aD (aGg (k':=g.1.toNat * 4+3) aIB J rfl rfl) ?_)))));obtain ⟨e8,e9,hm⟩:=aB hm
      exact gP (i:=1) (t:=3) (ns:=[zB (!q.Not)]) (e':=(⟨q.Kind,q.Variable,q.B,!q.Not⟩:aO)) sizeOf4 j rfl (zR _) rfl rfl rfl r e9 rfl rfl (gH rfl) rfl (fun cs h=>by cases h;rfl) (fun k1 (k2:aE G K (box b1 75 [zS a2 c.length c3,i64 d.2.1,Value.int .u64 d.2.2]::own 55 K a b e8::L) k1)=>(aZ (cL (aC ⟨bK,e8,d.2.1,d.2.2,a,b,hm,(Eq.trans rfl (congrArg (fun n=>zS a n b) (fP e9))),k2⟩))))
     ·refine aT c4 rfl (aL (aD (lX rfl rfl) (aH (v:=zB (d.1 == 4)) (aI ?_))))
      rcases aK hm with ⟨c5,hm⟩|⟨c5,hm⟩
      ·refine aQ c5 rfl (aL (aG (v:=zS a e.length b) (aG (v:=i64 g.1) ?_)));obtain ⟨f0,f1,hm⟩:=aB hm
       have k3:=aCj j (i:=1) rfl
       obtain ⟨f2,f3,f4⟩:=Cut.ex 4 a b 0
       refine aD (R_slVH fQ k3 f4 rfl rfl rfl f1) (aH (v:=zS f2 f0.length f3) (aI ?_))
       have l9:aE G K (box b1 75 [zS a2 c.length c3,i64 d.2.1,Value.int .u64 d.2.2]::own 55 K f2 f3 f0::L) h6:=aE.cutP j (i:=1) rfl f1 f4
       exact aM
      ·refine aT c5 rfl (aL (aD (lX rfl rfl) (aH (v:=zB (d.1 == 5)) (aI ?_))))
       rcases aK hm with ⟨f5,hm⟩|⟨f5,hm⟩
       ·refine aQ f5 rfl (aR [] (fun f w=>∃ u Z a0 a1 a3,aDS u Z a0=some R/\f 5=zS a1 u.length a3/\aE G K (own 55 K a1 a3 u::box b1 75 [zS a2 c.length c3,i64 Z,Value.int .u64 a0]::L) w) ?_ ?_)
        ·rintro f m0 ⟨u,Z,a0,a1,a3,hm,k4,k5⟩
         unfold aDS at hm
         exact cL (aC ⟨bK,u,Z,a0,a1,a3,hm,k4,(aE.arr 2 [1,0] k5 rfl)⟩)
        obtain ⟨m1,k6,ho⟩:=aB hm
        refine qT [0] k6 (fun f6 f7 p f w=>∃ x y,f 5=zS x p.length y/\aE G K (box b1 75 [zS a2 c.length c3,i64 f6,Value.int .u64 f7]::own 55 K x y p::L) w) aM ?_
        ·rintro f6 f7 p m2 f m3 hm hr ⟨x,y,f8,k7⟩
         unfold tO at hm
         refine aJ (aL (bI f8 (aD (bF (len:=p.length) fQ rfl) (aG (v:=zP (some ⟨b1,0,none⟩)) ?_))));obtain ⟨a4,k8,hm⟩:=aB hm
         refine aP (vs:=[zP (some ⟨b1,0,none⟩),i64 3]) call36 rfl (bB k8 k7 k) ?_
         rintro _ m4 ⟨rfl,k9⟩
         refine aD (dA rfl rfl) (aD (cW rfl rfl) (aI ?_))
         rcases aK hm with ⟨f9,hm⟩|⟨f9,hm⟩
         ·refine aQ f9 rfl (aW (aC (cD (aU (aD (cN (vs:=[(0,i64 4)]) (cs:=c9) kD rfl (by kernel_rfl)) (bM (Kt:=K) (xs:=([⟨4,0,([]:aF),false⟩]:List aO)) (cs:=c9) (vs:=[(0,zA #[i64 4,i64 0,str ([]:aF),zB false])]) fQ rZ rfl rfl k9 rfl (by kernel_rfl) rfl rfl rfl ⟨rfl,trivial⟩ (fun g0 g1 (l0:aE G K (own 55 K g0 1 ([⟨4,0,([]:aF),false⟩]:List aO)::box b1 75 [zS a2 c.length c3,i64 a4.2.1,Value.int .u64 a4.2.2]::own 55 K x y p::L) g1)=>(bI f8 ?_))))))))
          obtain ⟨m5,m6,hm⟩:=aB hm
          have m7:aE G K (own 55 K x y p::own 55 K g0 1 ([⟨4,0,([]:aF),false⟩]:List aO)::box b1 75 [zS a2 c.length c3,i64 a4.2.1,Value.int .u64 a4.2.2]::L) g1:=(aE.arr 3 [2,0,1] l0 rfl)
          exact aM
         ·exact aM
       ·exact aM
theorem aFc {a:(List UInt8)} {b c:Int} {R:((List aO) × Int × Int)} (hm:aFy a b c=some R) (g:aE G K (box b1 75 [zS a2 a.length c3,i64 b,Value.int .u64 c]::L) w) (h:bL K a2 c3 a):
  Calls prog 33 ([zP (some ⟨b1,0,none⟩)]:List Value).toArray w (dQ fun v w'=>∃ d e,v=zS d R.1.length e/\aE G K (own 55 K d e R.1::box b1 75 [zS a2 a.length c3,i64 R.2.1,Value.int .u64 R.2.2]::L) w'):=by
 exact aM
theorem aFJ {c:(List UInt8)} {z J:Int} {R:(cR × Int × Int)} (hm:sQ c z J=some R) (hs:aE G K (box b1 75 [zS a2 c.length c3,i64 z,Value.int .u64 J]::L) w) (h4:bL K a2 c3 c):
  Calls prog 35 ([zP (some ⟨b1,0,none⟩)]:List Value).toArray w (dQ fun v w'=>∃ a7 a8 a9 b0,v=zA (zCa R.1 a7 a8 a9 b0)/\aE G K (own 9 K a7 a8 R.1.L::own 86 K a9 b0 R.1.E::box b1 75 [zS a2 c.length c3,i64 R.2.1,Value.int .u64 R.2.2]::L) w'):=by
 let d:=zG
 refine aN func35 rfl (by kernel_rfl) (by show (1:Nat)<=43;decide) ?_;unfold sQ at hm
 refine aL (cT (vs:=d) zeroValue28 hs rfl (fun e w6 d0=>(aI (aL (aG (v:=zP (some ⟨b1,0,none⟩)) ?_)))))
 have d1:aE G K (box b1 75 [zS a2 c.length c3,i64 z,Value.int .u64 J]::box e 28 d::L) w6:=(aE.arr 2 [1,0] d0 rfl)
 obtain ⟨a,d2,hm⟩:=aB hm
 refine aP (vs:=[zP (some ⟨b1,0,none⟩),i64 26]) call36 rfl (bB d2 d1 h4) ?_
 rintro _ f7 ⟨rfl,d3⟩
 refine aD (dA rfl rfl) (bM (Kt:=K) (xs:=([([116,97,117]:aF),([97]:aF),([98]:aF),([99]:aF),([100]:aF),([101]:aF),([102]:aF),([103]:aF),([104]:aF)]:List aF)) (cs:=[str ([116,97,117]:aF),str ([97]:aF),str ([98]:aF),str ([99]:aF),str ([100]:aF),str ([101]:aF),str ([102]:aF),str ([103]:aF),str ([104]:aF)]) (vs:=[(0,str ([116,97,117]:aF)),(1,str ([97]:aF)),(2,str ([98]:aF)),(3,str ([99]:aF)),(4,str ([100]:aF)),(5,str ([101]:aF)),(6,str ([102]:aF)),(7,str ([103]:aF)),(8,str ([104]:aF))]) kN aGK rfl rfl d3 rfl (by kernel_rfl) rfl rfl rfl ⟨rfl,rfl,rfl,rfl,rfl,rfl,rfl,rfl,rfl,trivial⟩ (fun b d4 (d5:aE G K (own 9 K b 9 ([([116,97,117]:aF),([97]:aF),([98]:aF),([99]:aF),([100]:aF),([101]:aF),([102]:aF),([103]:aF),([104]:aF)]:List aF)::box b1 75 [zS a2 c.length c3,i64 a.2.1,Value.int .u64 a.2.2]::box e 28 d::L) d4)=>(bM (Kt:=K) (xs:=([]:List Edge)) (cs:=[]) (vs:=[]) jK aEH rfl rfl d5 rfl (by kernel_rfl) rfl rfl rfl trivial (fun k d6 (d7:aE G K (own 86 K k 0 ([]:List Edge)::own 9 K b 9 ([([116,97,117]:aF),([97]:aF),([98]:aF),([99]:aF),([100]:aF),([101]:aF),([102]:aF),([103]:aF),([104]:aF)]:List aF)::box b1 75 [zS a2 c.length c3,i64 a.2.1,Value.int .u64 a.2.2]::box e 28 d::L) d6)=>(aD (cN (vs:=[(0,i64 (wr (15+a.1))),(2,zS b ([([116,97,117]:aF),([97]:aF),([98]:aF),([99]:aF),([100]:aF),([101]:aF),([102]:aF),([103]:aF),([104]:aF)]:List aF).length 9),(3,zS k ([]:List Edge).length 0)]) (cs:=[i64 (wr (15+a.1)),i64 0,zS b ([([116,97,117]:aF),([97]:aF),([98]:aF),([99]:aF),([100]:aF),([101]:aF),([102]:aF),([103]:aF),([104]:aF)]:List aF).length 9,zS k ([]:List Edge).length 0]) bs_28 rfl (by kernel_rfl)) (cT (vs:=d) zeroValue28 d7 rfl (fun l f8 d8=>(eW (i:=0) (ns:=[i64 (wr (15+a.1)),i64 0,zS b ([([116,97,117]:aF),([97]:aF),([98]:aF),([99]:aF),([100]:aF),([101]:aF),([102]:aF),([103]:aF),([104]:aF)]:List aF).length 9,zS k ([]:List Edge).length 0]) (us:=[i64 (wr (15+a.1)),i64 0,zS b ([([116,97,117]:aF),([97]:aF),([98]:aF),([99]:aF),([100]:aF),([101]:aF),([102]:aF),([103]:aF),([104]:aF)]:List aF).length 9,zS k ([]:List Edge).length 0]) sizeOf28 d8 rfl rfl rfl rfl rfl (gH rfl) rfl rfl (fun d9 (f9:aE G K (box l 28 [i64 (wr (15+a.1)),i64 0,zS b ([([116,97,117]:aF),([97]:aF),([98]:aF),([99]:aF),([100]:aF),([101]:aF),([102]:aF),([103]:aF),([104]:aF)]:List aF).length 9,zS k ([]:List Edge).length 0]::own 86 K k 0 ([]:List Edge)::own 9 K b 9 ([([116,97,117]:aF),([97]:aF),([98]:aF),([99]:aF),([100]:aF),([101]:aF),([102]:aF),([103]:aF),([104]:aF)]:List aF)::box b1 75 [zS a2 c.length c3,i64 a.2.1,Value.int .u64 a.2.2]::box e 28 d::L) d9)=>(aI (aJ (aL (aH (v:=i64 0) (aI (aR [2,3] (fun f w=>∃ Z b2 b3,aCr a Z=some R/\aE G K (own 86 K b2 b3 Z::box l 28 [i64 (wr (15+a.1)),i64 0,zS b ([([116,97,117]:aF),([97]:aF),([98]:aF),([99]:aF),([100]:aF),([101]:aF),([102]:aF),([103]:aF),([104]:aF)]:List aF).length 9,zS b2 Z.length b3]::own 9 K b 9 ([([116,97,117]:aF),([97]:aF),([98]:aF),([99]:aF),([100]:aF),([101]:aF),([102]:aF),([103]:aF),([104]:aF)]:List aF)::box b1 75 [zS a2 c.length c3,i64 a.2.1,Value.int .u64 a.2.2]::box e 28 d::L) w) aM ?_)))))))))))))))
 obtain ⟨g0,e0,ho⟩:=aB hm
 refine bX [2,3] e0 (fun a0 g f w=>∃ a1 a3,f 4=i64 g/\aE G K (box l 28 [i64 (wr (15+a.1)),i64 0,zS b ([([116,97,117]:aF),([97]:aF),([98]:aF),([99]:aF),([100]:aF),([101]:aF),([102]:aF),([103]:aF),([104]:aF)]:List aF).length 9,zS a1 a0.length a3]::own 86 K a1 a3 a0::own 9 K b 9 ([([116,97,117]:aF),([97]:aF),([98]:aF),([99]:aF),([100]:aF),([101]:aF),([102]:aF),([103]:aF),([104]:aF)]:List aF)::box b1 75 [zS a2 c.length c3,i64 a.2.1,Value.int .u64 a.2.2]::box e 28 d::L) w) aM ?_
 ·rintro a0 g b4 f g1 hm hr ⟨a1,a3,r,e1⟩
  unfold lC at hm
  refine aJ (aL (bI r (aD (bU (t':=0) kZ rfl rfl) (aD (eP dM e1 (i:=0) rfl rfl rfl) (aD (cW rfl rfl) (aI ?_))))))
  rcases aK hm with ⟨b6,hm⟩|⟨b6,hm⟩
  ·refine aQ b6 rfl (aW (aC (aJ (aR [2,3,4] (fun f w=>∃ u x y,sC g u=some b4/\aE G K (own 86 K x y u::box l 28 [i64 (wr (15+a.1)),i64 0,zS b ([([116,97,117]:aF),([97]:aF),([98]:aF),([99]:aF),([100]:aF),([101]:aF),([102]:aF),([103]:aF),([104]:aF)]:List aF).length 9,zS x u.length y]::own 9 K b 9 ([([116,97,117]:aF),([97]:aF),([98]:aF),([99]:aF),([100]:aF),([101]:aF),([102]:aF),([103]:aF),([104]:aF)]:List aF)::box b1 75 [zS a2 c.length c3,i64 a.2.1,Value.int .u64 a.2.2]::box e 28 d::L) w) ?_ ?_))))
   ·rintro f g2 ⟨u,x,y,hm,e2⟩
    unfold sC at hm
    exact aC (aU (bI r (aD (dA rfl rfl) (aH (v:=i64 (wr (g+1))) (aI ⟨_,(zI hm).symm,bK,x,y,rfl,(aE.arr 2 [1,0] e2 rfl)⟩)))))
   refine aL (aH (v:=i64 0) (aI (aR [2,3,4] (fun f w=>∃ a4 b7 b8,wS g a4=some b4/\aE G K (own 86 K b7 b8 a4::box l 28 [i64 (wr (15+a.1)),i64 0,zS b ([([116,97,117]:aF),([97]:aF),([98]:aF),([99]:aF),([100]:aF),([101]:aF),([102]:aF),([103]:aF),([104]:aF)]:List aF).length 9,zS b7 a4.length b8]::own 9 K b 9 ([([116,97,117]:aF),([97]:aF),([98]:aF),([99]:aF),([100]:aF),([101]:aF),([102]:aF),([103]:aF),([104]:aF)]:List aF)::box b1 75 [zS a2 c.length c3,i64 a.2.1,Value.int .u64 a.2.2]::box e 28 d::L) w) aM ?_)))
   obtain ⟨g3,e3,ho⟩:=aB hm
   refine bX [2,3,4] e3 (fun m j f w=>∃ n o,f 5=i64 j/\aE G K (box l 28 [i64 (wr (15+a.1)),i64 0,zS b ([([116,97,117]:aF),([97]:aF),([98]:aF),([99]:aF),([100]:aF),([101]:aF),([102]:aF),([103]:aF),([104]:aF)]:List aF).length 9,zS n m.length o]::own 86 K n o m::own 9 K b 9 ([([116,97,117]:aF),([97]:aF),([98]:aF),([99]:aF),([100]:aF),([101]:aF),([102]:aF),([103]:aF),([104]:aF)]:List aF)::box b1 75 [zS a2 c.length c3,i64 a.2.1,Value.int .u64 a.2.2]::box e 28 d::L) w) aM ?_
   ·rintro m j e4 f g4 hm hr ⟨n,o,b9,g5⟩
    unfold lB at hm
    refine aJ (aJ (bD [2,3,4,5] (fun f w=>∃ a5,nU a g m j a5=some e4/\f 25=zB a5/\aE G K (box l 28 [i64 (wr (15+a.1)),i64 0,zS b ([([116,97,117]:aF),([97]:aF),([98]:aF),([99]:aF),([100]:aF),([101]:aF),([102]:aF),([103]:aF),([104]:aF)]:List aF).length 9,zS n m.length o]::own 86 K n o m::own 9 K b 9 ([([116,97,117]:aF),([97]:aF),([98]:aF),([99]:aF),([100]:aF),([101]:aF),([102]:aF),([103]:aF),([104]:aF)]:List aF)::box b1 75 [zS a2 c.length c3,i64 a.2.1,Value.int .u64 a.2.2]::box e 28 d::L) w) ?_ ?_))
    ·rintro f g6 ⟨a5,hm,e5,e6⟩
     unfold nU at hm
     refine aC ?_
     rcases aK hm with ⟨c0,hm⟩|⟨c0,hm⟩
     ·refine aQ c0 e5 (aW (aC (aJ (cD ?_))));obtain ⟨a6,c1,c2,c4,e7⟩:=aE.lendBp e6 .head
      refine cM (C:=fun w'=>∃ L',aE G a6 L' w') [(0,0),(1,0),(2,0),(3,0),(4,0),(5,0),(6,0),(7,0),(8,0),(9,0),(10,0),(11,1),(12,1),(13,0),(14,2)] Tryz_mixed (by kernel_rfl) (fun _ hg=>⟨_,aE.mono c4 hg⟩) (fun g7 e8=>?_)
      have q:=aE.mono c4 e8
      refine aX rfl (fun _ _=>bU (t':=3) lW rfl rfl) (aX rfl (fun _ ⟨_,q⟩=>bG (t:=3) xV q c2 rfl rfl) (aX rfl (fun _ _=>aY r) (aX rfl (fun _ _=>aY b9) (aX rfl (fun _ _=>aY r) (aX rfl (fun _ _=>aY b9) (aX rfl (fun _ _=>dA rfl rfl) (aX rfl (fun _ _=>bU (t':=0) kZ rfl rfl) (aX rfl (fun _ ⟨_,q⟩=>bG (t:=0) dM q c2 rfl rfl) ?_))))))));obtain ⟨p,e9,hm⟩:=aB hm
      refine aX rfl (fun _ _=>aIK rfl rfl e9) (aX rfl (fun _ _=>cN (vs:=[(0,i64 g),(1,i64 j),(2,i64 p)]) (cs:=[i64 g,i64 j,i64 p]) bs_86 rfl (by kernel_rfl)) (gK rfl (bM (Kt:=K) (xs:=([⟨g,j,p⟩]:List Edge)) (cs:=[i64 g,i64 j,i64 p]) (vs:=[(0,zA #[i64 g,i64 j,i64 p])]) jK aEH rfl rfl q rfl (by kernel_rfl) rfl rfl rfl ⟨rfl,trivial⟩ (fun f0 f1 (c5:aE G a6 (own 86 K f0 1 ([⟨g,j,p⟩]:List Edge)::own 86 K n o m::own 9 K b 9 ([([116,97,117]:aF),([97]:aF),([98]:aF),([99]:aF),([100]:aF),([101]:aF),([102]:aF),([103]:aF),([104]:aF)]:List aF)::box b1 75 [zS a2 c.length c3,i64 a.2.1,Value.int .u64 a.2.2]::box e 28 d::L) f1)=>(aZ (aC ⟨⟨_,c5⟩,?_⟩))))))
      refine gK rfl ?_;obtain ⟨f2,f3,hm⟩:=aB hm
      refine hJ (i:=0) jK underlying26 aEH rfl rfl c5 rfl c1 c1 f3 rfl rfl rfl rfl (fun _ h=>h) (fun f4 f5 f6 (c6:aE G a6 (own 86 K f4 f5 f2::own 9 K b 9 ([([116,97,117]:aF),([97]:aF),([98]:aF),([99]:aF),([100]:aF),([101]:aF),([102]:aF),([103]:aF),([104]:aF)]:List aF)::box b1 75 [zS a2 c.length c3,i64 a.2.1,Value.int .u64 a.2.2]::box e 28 d::L) f6)=>(aZ (aC ⟨⟨_,c6⟩,?_⟩)))
      refine aX rfl (fun _ _=>bU (t':=3) lW rfl rfl) ?_
      have g8:=e7 _ _ c6
      exact aM
     ·exact aM
    exact aM
  ·exact aM
theorem aBS {h:(List UInt8)} {a4 a5:Int} {R:((List aO) × cR × Int × Int)} (hm:uN h a4 a5=some R) (hs:aE G K (box b1 75 [zS a2 h.length c3,i64 a4,Value.int .u64 a5]::L) w) (h4:bL K a2 c3 h):
  Calls prog 16 ([zP (some ⟨b1,0,none⟩)]:List Value).toArray w (dQ fun v w'=>∃ K' c0 c1 c2 c4 c5 c6,v=Value.tuple #[zS c0 R.1.length c1,zA (zCa R.2.1 c2 c4 c5 c6)]/\Hp.le K K'/\bL K' c0 c1 R.1/\aE G K' (own 9 K c2 c4 R.2.1.L::own 86 K c5 c6 R.2.1.E::box b1 75 [zS a2 h.length c3,i64 R.2.2.1,Value.int .u64 R.2.2.2]::L) w'):=by
 let j:=zG
 let a7:=[i64 4,i64 0,str ([]:aF),zB false]
 let a8:=[i64 6,i64 0,str ([]:aF),zB false]
 let c7:=[i64 4,i64 0,str ([97]:aF),zB false]
 let c8:=[i64 3,i64 0,str ([]:aF),zB false]
 let c9:=[i64 8,i64 0,str ([]:aF),zB false]
 let d0:=[i64 0,i64 0,str ([]:aF),zB false]
 refine aN func16 rfl (by kernel_rfl) (by show (1:Nat)<=56;decide) ?_;unfold uN at hm
 refine aL (aH (v:=zS none 0 0) (cT (vs:=j) zeroValue28 hs rfl (fun k w6 e7=>(aI (aL (aG (v:=zP (some ⟨b1,0,none⟩)) ?_))))))
 have e8:aE G K (box b1 75 [zS a2 h.length c3,i64 a4,Value.int .u64 a5]::box k 28 j::L) w6:=(aE.arr 2 [1,0] e7 rfl)
 obtain ⟨a,e9,hm⟩:=aB hm
 refine aP (vs:=[zP (some ⟨b1,0,none⟩)]) call32 rfl (aFb e9 e8 h4) ?_
 rintro _ i8 ⟨b,c,d,e,rfl,f0⟩
 refine cT (vs:=j) zeroValue28 f0 rfl (fun m i9 f1=>(eW (i:=0) (ns:=(zC a.1 b c d e)) (us:=(zC a.1 b c d e)) sizeOf28 f1 rfl rfl rfl rfl rfl (gH rfl) rfl rfl (fun d1 (f2:aE G K (box m 28 (zC a.1 b c d e)::own 9 K b c a.1.L::own 86 K d e a.1.E::box b1 75 [zS a2 h.length c3,i64 a.2.1,Value.int .u64 a.2.2]::box k 28 j::L) d1)=>(aI (aL (aG (v:=zP (some ⟨b1,0,none⟩)) ?_))))))
 have f3:aE G K (box b1 75 [zS a2 h.length c3,i64 a.2.1,Value.int .u64 a.2.2]::box m 28 (zC a.1 b c d e)::own 9 K b c a.1.L::own 86 K d e a.1.E::box k 28 j::L) d1:=(aE.arr 4 [3,0,1,2] f2 rfl)
 obtain ⟨r,f4,hm⟩:=aB hm
 refine aP (vs:=[zP (some ⟨b1,0,none⟩)]) call33 rfl (aFc f4 f3 h4) ?_
 rintro _ f5 ⟨a9,b0,rfl,f6⟩
 refine aH (v:=zS a9 r.1.length b0) ?_;obtain ⟨p,b2,f7,b3⟩:=aE.giveSp f6 (zR _) .head
 replace b3:aE G p (box b1 75 [zS a2 h.length c3,i64 r.2.1,Value.int .u64 r.2.2]::box m 28 (zC a.1 b c d e)::own 9 K b c a.1.L::own 86 K d e a.1.E::box k 28 j::L) f5:=b3
 refine aI (aJ (aL (aG (v:=zP (some ⟨b1,0,none⟩)) ?_)));obtain ⟨g,f8,hm⟩:=aB hm
 refine aP (vs:=[zP (some ⟨b1,0,none⟩),i64 40]) call34 rfl (lE f8 b3 (h4.mono b2)) ?_
 rintro _ j0 ⟨rfl,b4⟩
 refine aI ?_
 rcases aK hm with ⟨d2,hm⟩|⟨d2,hm⟩
 ·exact aM
 ·refine aT d2 rfl (aW (aC (jV [3,4] (fun f w=>∃ u z a1 a3 J Z,Hp.le p u/\tP a z a1 a3=some R/\f 5=zS J z.length Z/\bL u J Z z/\aE G u (box b1 75 [zS a2 h.length c3,i64 a1,Value.int .u64 a3]::box m 28 (zC a.1 b c d e)::own 9 K b c a.1.L::own 86 K d e a.1.E::box k 28 j::L) w) ?_ ?_)))
  ·rintro f j1 ⟨u,z,a1,a3,J,Z,f9,hm,g0,g1,g2⟩
   unfold tP at hm
   refine aJ ?_;obtain ⟨g3,j2,g4,d3,g5⟩:=aE.lendBp g2 zt1
   refine cM (C:=fun w'=>∃ L',aE G g3 L' w') [(0,0),(1,0),(2,0),(3,2)] Tryz_mixed (by kernel_rfl) (fun _ hg=>⟨_,aE.mono d3 hg⟩) (fun j3 g6=>?_)
   have b6:=aE.mono d3 g6
   refine aX rfl (fun _ _=>aY g0) (aX rfl (fun _ ⟨_,b6⟩=>lV (t:=0) (vs:=(zC a.1 b c d e)) xW b6 g4 rfl rfl rfl) (aX rfl (fun _ _=>dX (v:=zS J z.length Z) rfl) ?_))
   have g7:=g5 _ _ b6
   refine aGf rfl (eW (i:=4) (ns:=(zC a.1 b c d e)) (us:=(zC a.1 b c d e)) sizeOf28 g7 rfl rfl rfl rfl rfl (gH rfl) rfl rfl (fun g8 (d4:aE G u (box m 28 (zC a.1 b c d e)::box b1 75 [zS a2 h.length c3,i64 a1,Value.int .u64 a3]::own 9 K b c a.1.L::own 86 K d e a.1.E::box k 28 (zC a.1 b c d e)::L) g8)=>(aI (pC (aC ?_)))));obtain rfl:=zI hm
   exact pS (aIA results16 (aLi rfl rfl) (aGG (vs:=(zC a.1 b c d e)) rfl xW d4 (i:=4) rfl rfl rfl) ⟨u,J,Z,b,c,d,e,rfl,(zL b2 f9),g1,(aE.arr 5 [2,3,1] d4 rfl)⟩)
  refine aL (aG (v:=zS a9 r.1.length b0) (aD (bF (len:=r.1.length) fQ rfl) (aD (bU (t':=0) kZ rfl rfl) (aD (eP dM b4 (i:=1) rfl rfl rfl) (aD (aFR rfl rfl) (aD (xU rfl rfl) (aI ?_)))))))
  rcases aK hm with ⟨b7,hm⟩|⟨b7,hm⟩
  ·refine aQ b7 rfl (aL (aD (cN (vs:=[(0,i64 7)]) (cs:=[i64 7,i64 0,str ([]:aF),zB false]) kD rfl (by kernel_rfl)) (aD (cN (vs:=[(0,i64 3)]) (cs:=c8) kD rfl (by kernel_rfl)) (aD (cN (vs:=[(0,i64 5),(2,str ([97]:aF))]) (cs:=[i64 5,i64 0,str ([97]:aF),zB false]) kD rfl (by kernel_rfl)) (aD (cN (vs:=[(0,i64 1)]) (cs:=[i64 1,i64 0,str ([]:aF),zB false]) kD rfl (by kernel_rfl)) (aD (cN (vs:=[(0,i64 4)]) (cs:=a7) kD rfl (by kernel_rfl)) (aD (cN (vs:=[(0,i64 6)]) (cs:=a8) kD rfl (by kernel_rfl)) (bM (Kt:=K) (xs:=([⟨7,0,([]:aF),false⟩,⟨3,0,([]:aF),false⟩,⟨5,0,([97]:aF),false⟩,⟨1,0,([]:aF),false⟩,⟨4,0,([]:aF),false⟩,⟨6,0,([]:aF),false⟩]:List aO)) (cs:=[i64 7,i64 0,str ([]:aF),zB false,i64 3,i64 0,str ([]:aF),zB false,i64 5,i64 0,str ([97]:aF),zB false,i64 1,i64 0,str ([]:aF),zB false,i64 4,i64 0,str ([]:aF),zB false,i64 6,i64 0,str ([]:aF),zB false]) (vs:=[(0,zA #[i64 7,i64 0,str ([]:aF),zB false]),(1,zA #[i64 3,i64 0,str ([]:aF),zB false]),(2,zA #[i64 5,i64 0,str ([97]:aF),zB false]),(3,zA #[i64 1,i64 0,str ([]:aF),zB false]),(4,zA #[i64 4,i64 0,str ([]:aF),zB false]),(5,zA #[i64 6,i64 0,str ([]:aF),zB false])]) fQ rZ rfl rfl b4 rfl (by kernel_rfl) rfl rfl rfl ⟨rfl,rfl,rfl,rfl,rfl,rfl,trivial⟩ (fun l h0 (h1:aE G p (own 55 K l 6 ([⟨7,0,([]:aF),false⟩,⟨3,0,([]:aF),false⟩,⟨5,0,([97]:aF),false⟩,⟨1,0,([]:aF),false⟩,⟨4,0,([]:aF),false⟩,⟨6,0,([]:aF),false⟩]:List aO)::box b1 75 [zS a2 h.length c3,i64 g.2.1,Value.int .u64 g.2.2]::box m 28 (zC a.1 b c d e)::own 9 K b c a.1.L::own 86 K d e a.1.E::box k 28 j::L) h0)=>(aD (cN (vs:=[(0,i64 8)]) (cs:=c9) kD rfl (by kernel_rfl)) (aD (cN (vs:=[(0,i64 2)]) (cs:=[i64 2,i64 0,str ([]:aF),zB false]) kD rfl (by kernel_rfl)) (aD (cN (vs:=[(0,i64 4),(2,str ([97]:aF))]) (cs:=c7) kD rfl (by kernel_rfl)) (aD (cN (vs:=[(0,i64 0)]) (cs:=d0) kD rfl (by kernel_rfl)) (aD (cN (vs:=[(0,i64 5)]) (cs:=[i64 5,i64 0,str ([]:aF),zB false]) kD rfl (by kernel_rfl)) (aD (cN (vs:=[(0,i64 6)]) (cs:=a8) kD rfl (by kernel_rfl)) (bM (Kt:=K) (xs:=([⟨8,0,([]:aF),false⟩,⟨2,0,([]:aF),false⟩,⟨4,0,([97]:aF),false⟩,⟨0,0,([]:aF),false⟩,⟨5,0,([]:aF),false⟩,⟨6,0,([]:aF),false⟩]:List aO)) (cs:=[i64 8,i64 0,str ([]:aF),zB false,i64 2,i64 0,str ([]:aF),zB false,i64 4,i64 0,str ([97]:aF),zB false,i64 0,i64 0,str ([]:aF),zB false,i64 5,i64 0,str ([]:aF),zB false,i64 6,i64 0,str ([]:aF),zB false]) (vs:=[(0,zA #[i64 8,i64 0,str ([]:aF),zB false]),(1,zA #[i64 2,i64 0,str ([]:aF),zB false]),(2,zA #[i64 4,i64 0,str ([97]:aF),zB false]),(3,zA #[i64 0,i64 0,str ([]:aF),zB false]),(4,zA #[i64 5,i64 0,str ([]:aF),zB false]),(5,zA #[i64 6,i64 0,str ([]:aF),zB false])]) fQ rZ rfl rfl h1 rfl (by kernel_rfl) rfl rfl rfl ⟨rfl,rfl,rfl,rfl,rfl,rfl,trivial⟩ (fun n h2 (h3:aE G p (own 55 K n 6 ([⟨8,0,([]:aF),false⟩,⟨2,0,([]:aF),false⟩,⟨4,0,([97]:aF),false⟩,⟨0,0,([]:aF),false⟩,⟨5,0,([]:aF),false⟩,⟨6,0,([]:aF),false⟩]:List aO)::own 55 K l 6 ([⟨7,0,([]:aF),false⟩,⟨3,0,([]:aF),false⟩,⟨5,0,([97]:aF),false⟩,⟨1,0,([]:aF),false⟩,⟨4,0,([]:aF),false⟩,⟨6,0,([]:aF),false⟩]:List aO)::box b1 75 [zS a2 h.length c3,i64 g.2.1,Value.int .u64 g.2.2]::box m 28 (zC a.1 b c d e)::own 9 K b c a.1.L::own 86 K d e a.1.E::box k 28 j::L) h2)=>(aD (cN (vs:=[(0,i64 8)]) (cs:=c9) kD rfl (by kernel_rfl)) (aD (cN (vs:=[(0,i64 7),(1,i64 1)]) (cs:=[i64 7,i64 1,str ([]:aF),zB false]) kD rfl (by kernel_rfl)) (aD (cN (vs:=[(0,i64 3)]) (cs:=c8) kD rfl (by kernel_rfl)) (aD (cN (vs:=[(0,i64 4),(2,str ([97]:aF))]) (cs:=c7) kD rfl (by kernel_rfl)) (aD (cN (vs:=[(0,i64 6)]) (cs:=a8) kD rfl (by kernel_rfl)) (aD (cN (vs:=[(0,i64 4)]) (cs:=a7) kD rfl (by kernel_rfl)) ?_)))))))))))))))))))))))
   refine aD (cN (vs:=[(0,i64 6),(1,i64 1)]) (cs:=[i64 6,i64 1,str ([]:aF),zB false]) kD rfl (by kernel_rfl)) (bM (Kt:=K) (xs:=([⟨8,0,([]:aF),false⟩,⟨7,1,([]:aF),false⟩,⟨3,0,([]:aF),false⟩,⟨4,0,([97]:aF),false⟩,⟨6,0,([]:aF),false⟩,⟨4,0,([]:aF),false⟩,⟨6,1,([]:aF),false⟩]:List aO)) (cs:=[i64 8,i64 0,str ([]:aF),zB false,i64 7,i64 1,str ([]:aF),zB false,i64 3,i64 0,str ([]:aF),zB false,i64 4,i64 0,str ([97]:aF),zB false,i64 6,i64 0,str ([]:aF),zB false,i64 4,i64 0,str ([]:aF),zB false,i64 6,i64 1,str ([]:aF),zB false]) (vs:=[(0,zA #[i64 8,i64 0,str ([]:aF),zB false]),(1,zA #[i64 7,i64 1,str ([]:aF),zB false]),(2,zA #[i64 3,i64 0,str ([]:aF),zB false]),(3,zA #[i64 4,i64 0,str ([97]:aF),zB false]),(4,zA #[i64 6,i64 0,str ([]:aF),zB false]),(5,zA #[i64 4,i64 0,str ([]:aF),zB false]),(6,zA #[i64 6,i64 1,str ([]:aF),zB false])]) fQ rZ rfl rfl h3 rfl (by kernel_rfl) rfl rfl rfl ⟨rfl,rfl,rfl,rfl,rfl,rfl,rfl,trivial⟩ (fun o h5 (h6:aE G p (own 55 K o 7 ([⟨8,0,([]:aF),false⟩,⟨7,1,([]:aF),false⟩,⟨3,0,([]:aF),false⟩,⟨4,0,([97]:aF),false⟩,⟨6,0,([]:aF),false⟩,⟨4,0,([]:aF),false⟩,⟨6,1,([]:aF),false⟩]:List aO)::own 55 K n 6 ([⟨8,0,([]:aF),false⟩,⟨2,0,([]:aF),false⟩,⟨4,0,([97]:aF),false⟩,⟨0,0,([]:aF),false⟩,⟨5,0,([]:aF),false⟩,⟨6,0,([]:aF),false⟩]:List aO)::own 55 K l 6 ([⟨7,0,([]:aF),false⟩,⟨3,0,([]:aF),false⟩,⟨5,0,([97]:aF),false⟩,⟨1,0,([]:aF),false⟩,⟨4,0,([]:aF),false⟩,⟨6,0,([]:aF),false⟩]:List aO)::box b1 75 [zS a2 h.length c3,i64 g.2.1,Value.int .u64 g.2.2]::box m 28 (zC a.1 b c d e)::own 9 K b c a.1.L::own 86 K d e a.1.E::box k 28 j::L) h5)=>(aD (cN (vs:=[(0,i64 5),(2,str ([98]:aF))]) (cs:=[i64 5,i64 0,str ([98]:aF),zB false]) kD rfl (by kernel_rfl)) (aD (cN (vs:=[(0,i64 4)]) (cs:=a7) kD rfl (by kernel_rfl)) (aD (cN (vs:=[(0,i64 0)]) (cs:=d0) kD rfl (by kernel_rfl)) (bM (Kt:=K) (xs:=([⟨5,0,([98]:aF),false⟩,⟨4,0,([]:aF),false⟩,⟨0,0,([]:aF),false⟩]:List aO)) (cs:=[i64 5,i64 0,str ([98]:aF),zB false,i64 4,i64 0,str ([]:aF),zB false,i64 0,i64 0,str ([]:aF),zB false]) (vs:=[(0,zA #[i64 5,i64 0,str ([98]:aF),zB false]),(1,zA #[i64 4,i64 0,str ([]:aF),zB false]),(2,zA #[i64 0,i64 0,str ([]:aF),zB false])]) fQ rZ rfl rfl h6 rfl (by kernel_rfl) rfl rfl rfl ⟨rfl,rfl,rfl,trivial⟩ (fun q y (h7:aE G p (own 55 K q 3 ([⟨5,0,([98]:aF),false⟩,⟨4,0,([]:aF),false⟩,⟨0,0,([]:aF),false⟩]:List aO)::own 55 K o 7 ([⟨8,0,([]:aF),false⟩,⟨7,1,([]:aF),false⟩,⟨3,0,([]:aF),false⟩,⟨4,0,([97]:aF),false⟩,⟨6,0,([]:aF),false⟩,⟨4,0,([]:aF),false⟩,⟨6,1,([]:aF),false⟩]:List aO)::own 55 K n 6 ([⟨8,0,([]:aF),false⟩,⟨2,0,([]:aF),false⟩,⟨4,0,([97]:aF),false⟩,⟨0,0,([]:aF),false⟩,⟨5,0,([]:aF),false⟩,⟨6,0,([]:aF),false⟩]:List aO)::own 55 K l 6 ([⟨7,0,([]:aF),false⟩,⟨3,0,([]:aF),false⟩,⟨5,0,([97]:aF),false⟩,⟨1,0,([]:aF),false⟩,⟨4,0,([]:aF),false⟩,⟨6,0,([]:aF),false⟩]:List aO)::box b1 75 [zS a2 h.length c3,i64 g.2.1,Value.int .u64 g.2.2]::box m 28 (zC a.1 b c d e)::own 9 K b c a.1.L::own 86 K d e a.1.E::box k 28 j::L) y)=>?_)))))))
   have h8:aE G p (own 55 K l 6 ([⟨7,0,([]:aF),false⟩,⟨3,0,([]:aF),false⟩,⟨5,0,([97]:aF),false⟩,⟨1,0,([]:aF),false⟩,⟨4,0,([]:aF),false⟩,⟨6,0,([]:aF),false⟩]:List aO)::own 55 K q 3 ([⟨5,0,([98]:aF),false⟩,⟨4,0,([]:aF),false⟩,⟨0,0,([]:aF),false⟩]:List aO)::own 55 K o 7 ([⟨8,0,([]:aF),false⟩,⟨7,1,([]:aF),false⟩,⟨3,0,([]:aF),false⟩,⟨4,0,([97]:aF),false⟩,⟨6,0,([]:aF),false⟩,⟨4,0,([]:aF),false⟩,⟨6,1,([]:aF),false⟩]:List aO)::own 55 K n 6 ([⟨8,0,([]:aF),false⟩,⟨2,0,([]:aF),false⟩,⟨4,0,([97]:aF),false⟩,⟨0,0,([]:aF),false⟩,⟨5,0,([]:aF),false⟩,⟨6,0,([]:aF),false⟩]:List aO)::box b1 75 [zS a2 h.length c3,i64 g.2.1,Value.int .u64 g.2.2]::box m 28 (zC a.1 b c d e)::own 9 K b c a.1.L::own 86 K d e a.1.E::box k 28 j::L) y:=(aE.arr 4 [3,0,1,2] h7 rfl)
   have h9:aE G p (rows [55] ([(l,6)]:List (Dp.Hd (List aO))) [([⟨7,0,([]:aF),false⟩,⟨3,0,([]:aF),false⟩,⟨5,0,([97]:aF),false⟩,⟨1,0,([]:aF),false⟩,⟨4,0,([]:aF),false⟩,⟨6,0,([]:aF),false⟩]:List aO)]::own 55 K q 3 ([⟨5,0,([98]:aF),false⟩,⟨4,0,([]:aF),false⟩,⟨0,0,([]:aF),false⟩]:List aO)::own 55 K o 7 ([⟨8,0,([]:aF),false⟩,⟨7,1,([]:aF),false⟩,⟨3,0,([]:aF),false⟩,⟨4,0,([97]:aF),false⟩,⟨6,0,([]:aF),false⟩,⟨4,0,([]:aF),false⟩,⟨6,1,([]:aF),false⟩]:List aO)::own 55 K n 6 ([⟨8,0,([]:aF),false⟩,⟨2,0,([]:aF),false⟩,⟨4,0,([97]:aF),false⟩,⟨0,0,([]:aF),false⟩,⟨5,0,([]:aF),false⟩,⟨6,0,([]:aF),false⟩]:List aO)::box b1 75 [zS a2 h.length c3,i64 g.2.1,Value.int .u64 g.2.2]::box m 28 (zC a.1 b c d e)::own 9 K b c a.1.L::own 86 K d e a.1.E::box k 28 j::L) y:=aE.rowsOne h8
   have i0:aE G p (rows [55] ([(l,6),(n,6)]:List (Dp.Hd (List aO))) [([⟨7,0,([]:aF),false⟩,⟨3,0,([]:aF),false⟩,⟨5,0,([97]:aF),false⟩,⟨1,0,([]:aF),false⟩,⟨4,0,([]:aF),false⟩,⟨6,0,([]:aF),false⟩]:List aO),([⟨8,0,([]:aF),false⟩,⟨2,0,([]:aF),false⟩,⟨4,0,([97]:aF),false⟩,⟨0,0,([]:aF),false⟩,⟨5,0,([]:aF),false⟩,⟨6,0,([]:aF),false⟩]:List aO)]::own 55 K q 3 ([⟨5,0,([98]:aF),false⟩,⟨4,0,([]:aF),false⟩,⟨0,0,([]:aF),false⟩]:List aO)::own 55 K o 7 ([⟨8,0,([]:aF),false⟩,⟨7,1,([]:aF),false⟩,⟨3,0,([]:aF),false⟩,⟨4,0,([97]:aF),false⟩,⟨6,0,([]:aF),false⟩,⟨4,0,([]:aF),false⟩,⟨6,1,([]:aF),false⟩]:List aO)::box b1 75 [zS a2 h.length c3,i64 g.2.1,Value.int .u64 g.2.2]::box m 28 (zC a.1 b c d e)::own 9 K b c a.1.L::own 86 K d e a.1.E::box k 28 j::L) y:=aE.rowPush (α:=(List aO)) (tys:=[55]) (hd:=(n,6)) (x:=([⟨8,0,([]:aF),false⟩,⟨2,0,([]:aF),false⟩,⟨4,0,([97]:aF),false⟩,⟨0,0,([]:aF),false⟩,⟨5,0,([]:aF),false⟩,⟨6,0,([]:aF),false⟩]:List aO)) (hds:=[(l,6)]) (xs:=[([⟨7,0,([]:aF),false⟩,⟨3,0,([]:aF),false⟩,⟨5,0,([97]:aF),false⟩,⟨1,0,([]:aF),false⟩,⟨4,0,([]:aF),false⟩,⟨6,0,([]:aF),false⟩]:List aO)]) (aE.pull (i:=3) h9 rfl) rfl
   have i1:aE G p (rows [55] ([(l,6),(n,6),(o,7)]:List (Dp.Hd (List aO))) [([⟨7,0,([]:aF),false⟩,⟨3,0,([]:aF),false⟩,⟨5,0,([97]:aF),false⟩,⟨1,0,([]:aF),false⟩,⟨4,0,([]:aF),false⟩,⟨6,0,([]:aF),false⟩]:List aO),([⟨8,0,([]:aF),false⟩,⟨2,0,([]:aF),false⟩,⟨4,0,([97]:aF),false⟩,⟨0,0,([]:aF),false⟩,⟨5,0,([]:aF),false⟩,⟨6,0,([]:aF),false⟩]:List aO),([⟨8,0,([]:aF),false⟩,⟨7,1,([]:aF),false⟩,⟨3,0,([]:aF),false⟩,⟨4,0,([97]:aF),false⟩,⟨6,0,([]:aF),false⟩,⟨4,0,([]:aF),false⟩,⟨6,1,([]:aF),false⟩]:List aO)]::own 55 K q 3 ([⟨5,0,([98]:aF),false⟩,⟨4,0,([]:aF),false⟩,⟨0,0,([]:aF),false⟩]:List aO)::box b1 75 [zS a2 h.length c3,i64 g.2.1,Value.int .u64 g.2.2]::box m 28 (zC a.1 b c d e)::own 9 K b c a.1.L::own 86 K d e a.1.E::box k 28 j::L) y:=aE.rowPush (α:=(List aO)) (tys:=[55]) (hd:=(o,7)) (x:=([⟨8,0,([]:aF),false⟩,⟨7,1,([]:aF),false⟩,⟨3,0,([]:aF),false⟩,⟨4,0,([97]:aF),false⟩,⟨6,0,([]:aF),false⟩,⟨4,0,([]:aF),false⟩,⟨6,1,([]:aF),false⟩]:List aO)) (hds:=[(l,6),(n,6)]) (xs:=[([⟨7,0,([]:aF),false⟩,⟨3,0,([]:aF),false⟩,⟨5,0,([97]:aF),false⟩,⟨1,0,([]:aF),false⟩,⟨4,0,([]:aF),false⟩,⟨6,0,([]:aF),false⟩]:List aO),([⟨8,0,([]:aF),false⟩,⟨2,0,([]:aF),false⟩,⟨4,0,([97]:aF),false⟩,⟨0,0,([]:aF),false⟩,⟨5,0,([]:aF),false⟩,⟨6,0,([]:aF),false⟩]:List aO)]) (aE.pull (i:=2) i0 rfl) rfl
   have i2:aE G p (rows [55] ([(l,6),(n,6),(o,7),(q,3)]:List (Dp.Hd (List aO))) [([⟨7,0,([]:aF),false⟩,⟨3,0,([]:aF),false⟩,⟨5,0,([97]:aF),false⟩,⟨1,0,([]:aF),false⟩,⟨4,0,([]:aF),false⟩,⟨6,0,([]:aF),false⟩]:List aO),([⟨8,0,([]:aF),false⟩,⟨2,0,([]:aF),false⟩,⟨4,0,([97]:aF),false⟩,⟨0,0,([]:aF),false⟩,⟨5,0,([]:aF),false⟩,⟨6,0,([]:aF),false⟩]:List aO),([⟨8,0,([]:aF),false⟩,⟨7,1,([]:aF),false⟩,⟨3,0,([]:aF),false⟩,⟨4,0,([97]:aF),false⟩,⟨6,0,([]:aF),false⟩,⟨4,0,([]:aF),false⟩,⟨6,1,([]:aF),false⟩]:List aO),([⟨5,0,([98]:aF),false⟩,⟨4,0,([]:aF),false⟩,⟨0,0,([]:aF),false⟩]:List aO)]::box b1 75 [zS a2 h.length c3,i64 g.2.1,Value.int .u64 g.2.2]::box m 28 (zC a.1 b c d e)::own 9 K b c a.1.L::own 86 K d e a.1.E::box k 28 j::L) y:=aE.rowPush (α:=(List aO)) (tys:=[55]) (hd:=(q,3)) (x:=([⟨5,0,([98]:aF),false⟩,⟨4,0,([]:aF),false⟩,⟨0,0,([]:aF),false⟩]:List aO)) (hds:=[(l,6),(n,6),(o,7)]) (xs:=[([⟨7,0,([]:aF),false⟩,⟨3,0,([]:aF),false⟩,⟨5,0,([97]:aF),false⟩,⟨1,0,([]:aF),false⟩,⟨4,0,([]:aF),false⟩,⟨6,0,([]:aF),false⟩]:List aO),([⟨8,0,([]:aF),false⟩,⟨2,0,([]:aF),false⟩,⟨4,0,([97]:aF),false⟩,⟨0,0,([]:aF),false⟩,⟨5,0,([]:aF),false⟩,⟨6,0,([]:aF),false⟩]:List aO),([⟨8,0,([]:aF),false⟩,⟨7,1,([]:aF),false⟩,⟨3,0,([]:aF),false⟩,⟨4,0,([97]:aF),false⟩,⟨6,0,([]:aF),false⟩,⟨4,0,([]:aF),false⟩,⟨6,1,([]:aF),false⟩]:List aO)]) (aE.pull (i:=1) i1 rfl) rfl
   refine bM (Kt:=K) (xs:=cP ([(l,6),(n,6),(o,7),(q,3)]:List (Dp.Hd (List aO))) ([([⟨7,0,([]:aF),false⟩,⟨3,0,([]:aF),false⟩,⟨5,0,([97]:aF),false⟩,⟨1,0,([]:aF),false⟩,⟨4,0,([]:aF),false⟩,⟨6,0,([]:aF),false⟩]:List aO),([⟨8,0,([]:aF),false⟩,⟨2,0,([]:aF),false⟩,⟨4,0,([97]:aF),false⟩,⟨0,0,([]:aF),false⟩,⟨5,0,([]:aF),false⟩,⟨6,0,([]:aF),false⟩]:List aO),([⟨8,0,([]:aF),false⟩,⟨7,1,([]:aF),false⟩,⟨3,0,([]:aF),false⟩,⟨4,0,([97]:aF),false⟩,⟨6,0,([]:aF),false⟩,⟨4,0,([]:aF),false⟩,⟨6,1,([]:aF),false⟩]:List aO),([⟨5,0,([98]:aF),false⟩,⟨4,0,([]:aF),false⟩,⟨0,0,([]:aF),false⟩]:List aO)]:List (List aO))) (cs:=[zS l ([⟨7,0,([]:aF),false⟩,⟨3,0,([]:aF),false⟩,⟨5,0,([97]:aF),false⟩,⟨1,0,([]:aF),false⟩,⟨4,0,([]:aF),false⟩,⟨6,0,([]:aF),false⟩]:List aO).length 6,zS n ([⟨8,0,([]:aF),false⟩,⟨2,0,([]:aF),false⟩,⟨4,0,([97]:aF),false⟩,⟨0,0,([]:aF),false⟩,⟨5,0,([]:aF),false⟩,⟨6,0,([]:aF),false⟩]:List aO).length 6,zS o ([⟨8,0,([]:aF),false⟩,⟨7,1,([]:aF),false⟩,⟨3,0,([]:aF),false⟩,⟨4,0,([97]:aF),false⟩,⟨6,0,([]:aF),false⟩,⟨4,0,([]:aF),false⟩,⟨6,1,([]:aF),false⟩]:List aO).length 7,zS q ([⟨5,0,([98]:aF),false⟩,⟨4,0,([]:aF),false⟩,⟨0,0,([]:aF),false⟩]:List aO).length 3]) (vs:=[(0,zS l ([⟨7,0,([]:aF),false⟩,⟨3,0,([]:aF),false⟩,⟨5,0,([97]:aF),false⟩,⟨1,0,([]:aF),false⟩,⟨4,0,([]:aF),false⟩,⟨6,0,([]:aF),false⟩]:List aO).length 6),(1,zS n ([⟨8,0,([]:aF),false⟩,⟨2,0,([]:aF),false⟩,⟨4,0,([97]:aF),false⟩,⟨0,0,([]:aF),false⟩,⟨5,0,([]:aF),false⟩,⟨6,0,([]:aF),false⟩]:List aO).length 6),(2,zS o ([⟨8,0,([]:aF),false⟩,⟨7,1,([]:aF),false⟩,⟨3,0,([]:aF),false⟩,⟨4,0,([97]:aF),false⟩,⟨6,0,([]:aF),false⟩,⟨4,0,([]:aF),false⟩,⟨6,1,([]:aF),false⟩]:List aO).length 7),(3,zS q ([⟨5,0,([98]:aF),false⟩,⟨4,0,([]:aF),false⟩,⟨0,0,([]:aF),false⟩]:List aO).length 3)]) aIZ ez_24 rfl rfl i2 rfl (by kernel_rfl) rfl rfl rfl ⟨rfl,rfl,rfl,rfl,trivial⟩ ?_
   intro b8 d5 (i3:aE G p (own 24 K b8 4 (cP ([(l,6),(n,6),(o,7),(q,3)]:List (Dp.Hd (List aO))) ([([⟨7,0,([]:aF),false⟩,⟨3,0,([]:aF),false⟩,⟨5,0,([97]:aF),false⟩,⟨1,0,([]:aF),false⟩,⟨4,0,([]:aF),false⟩,⟨6,0,([]:aF),false⟩]:List aO),([⟨8,0,([]:aF),false⟩,⟨2,0,([]:aF),false⟩,⟨4,0,([97]:aF),false⟩,⟨0,0,([]:aF),false⟩,⟨5,0,([]:aF),false⟩,⟨6,0,([]:aF),false⟩]:List aO),([⟨8,0,([]:aF),false⟩,⟨7,1,([]:aF),false⟩,⟨3,0,([]:aF),false⟩,⟨4,0,([97]:aF),false⟩,⟨6,0,([]:aF),false⟩,⟨4,0,([]:aF),false⟩,⟨6,1,([]:aF),false⟩]:List aO),([⟨5,0,([98]:aF),false⟩,⟨4,0,([]:aF),false⟩,⟨0,0,([]:aF),false⟩]:List aO)]:List (List aO)))::rows [55] ([(l,6),(n,6),(o,7),(q,3)]:List (Dp.Hd (List aO))) ([([⟨7,0,([]:aF),false⟩,⟨3,0,([]:aF),false⟩,⟨5,0,([97]:aF),false⟩,⟨1,0,([]:aF),false⟩,⟨4,0,([]:aF),false⟩,⟨6,0,([]:aF),false⟩]:List aO),([⟨8,0,([]:aF),false⟩,⟨2,0,([]:aF),false⟩,⟨4,0,([97]:aF),false⟩,⟨0,0,([]:aF),false⟩,⟨5,0,([]:aF),false⟩,⟨6,0,([]:aF),false⟩]:List aO),([⟨8,0,([]:aF),false⟩,⟨7,1,([]:aF),false⟩,⟨3,0,([]:aF),false⟩,⟨4,0,([97]:aF),false⟩,⟨6,0,([]:aF),false⟩,⟨4,0,([]:aF),false⟩,⟨6,1,([]:aF),false⟩]:List aO),([⟨5,0,([98]:aF),false⟩,⟨4,0,([]:aF),false⟩,⟨0,0,([]:aF),false⟩]:List aO)]:List (List aO))::box b1 75 [zS a2 h.length c3,i64 g.2.1,Value.int .u64 g.2.2]::box m 28 (zC a.1 b c d e)::own 9 K b c a.1.L::own 86 K d e a.1.E::box k 28 j::L) d5)
   refine aH (v:=zS b8 ([([⟨7,0,([]:aF),false⟩,⟨3,0,([]:aF),false⟩,⟨5,0,([97]:aF),false⟩,⟨1,0,([]:aF),false⟩,⟨4,0,([]:aF),false⟩,⟨6,0,([]:aF),false⟩]:List aO),([⟨8,0,([]:aF),false⟩,⟨2,0,([]:aF),false⟩,⟨4,0,([97]:aF),false⟩,⟨0,0,([]:aF),false⟩,⟨5,0,([]:aF),false⟩,⟨6,0,([]:aF),false⟩]:List aO),([⟨8,0,([]:aF),false⟩,⟨7,1,([]:aF),false⟩,⟨3,0,([]:aF),false⟩,⟨4,0,([97]:aF),false⟩,⟨6,0,([]:aF),false⟩,⟨4,0,([]:aF),false⟩,⟨6,1,([]:aF),false⟩]:List aO),([⟨5,0,([98]:aF),false⟩,⟨4,0,([]:aF),false⟩,⟨0,0,([]:aF),false⟩]:List aO)]:List (List aO)).length 4) ?_
   obtain ⟨d6,d7,d8,_,b9,_⟩:=aE.lendD' (i:=0) i3 rfl rfl rfl
   replace b9:aE G d6 (box b1 75 [zS a2 h.length c3,i64 g.2.1,Value.int .u64 g.2.2]::box m 28 (zC a.1 b c d e)::own 9 K b c a.1.L::own 86 K d e a.1.E::box k 28 j::L) d5:=b9
   refine aI (aU (aG (v:=zS b8 ([([⟨7,0,([]:aF),false⟩,⟨3,0,([]:aF),false⟩,⟨5,0,([97]:aF),false⟩,⟨1,0,([]:aF),false⟩,⟨4,0,([]:aF),false⟩,⟨6,0,([]:aF),false⟩]:List aO),([⟨8,0,([]:aF),false⟩,⟨2,0,([]:aF),false⟩,⟨4,0,([97]:aF),false⟩,⟨0,0,([]:aF),false⟩,⟨5,0,([]:aF),false⟩,⟨6,0,([]:aF),false⟩]:List aO),([⟨8,0,([]:aF),false⟩,⟨7,1,([]:aF),false⟩,⟨3,0,([]:aF),false⟩,⟨4,0,([97]:aF),false⟩,⟨6,0,([]:aF),false⟩,⟨4,0,([]:aF),false⟩,⟨6,1,([]:aF),false⟩]:List aO),([⟨5,0,([98]:aF),false⟩,⟨4,0,([]:aF),false⟩,⟨0,0,([]:aF),false⟩]:List aO)]:List (List aO)).length 4) (aG (v:=zP (some ⟨b1,0,none⟩)) ?_)))
   obtain ⟨d9,i4,hm⟩:=aB hm
   refine aP (vs:=[zP (some ⟨b1,0,none⟩),i64 4]) call36 rfl (bB i4 b9 (h4.mono (zL b2 d7))) ?_
   rintro _ j4 ⟨rfl,e0⟩
   obtain ⟨e1,e2,hm⟩:=aB hm
   refine aD (dD aIZ rfl d8 rfl rfl rfl e2) ?_;obtain ⟨j5,i5,i6⟩:=bL.el (sz:=1) rfl d8 e2
   obtain ⟨e3,e4,rfl,i7⟩:=i6
   exact aD (bG (t:=0) sc_24 e0 i5 rfl rfl) (aH (v:=zS e3 e1.length e4) (aI ⟨bK,d6,e1,d9.2.1,d9.2.2,e3,e4,d7,hm,rfl,i7,e0⟩))
  ·exact aT b7 rfl (aW (aC ⟨bK,p,r.1,g.2.1,g.2.2,a9,b0,(zR _),hm,rfl,f7,b4⟩))
theorem aFd {c:(List UInt8)} {R:((List aO) × cR)} (hm:aDm c=some R) (hs:aE G K (L) w) (h3:bL K a1 c2 c):
  Calls prog 5 ([zS a1 c.length c2]:List Value).toArray w (dQ fun v w'=>∃ K' b2 b3 b5 b6 b7 b8,v=Value.tuple #[zS b2 R.1.length b3,zA (zCa R.2 b5 b6 b7 b8)]/\Hp.le K K'/\bL K' b2 b3 R.1/\aE G K' (own 9 K b5 b6 R.2.L::own 86 K b7 b8 R.2.E::L) w'):=by
 let m:=zG
 refine aN func5 rfl (by kernel_rfl) (by show (1:Nat)<=36;decide) ?_;unfold aDm at hm
 refine aL (aH (v:=zS none 0 0) (cT (vs:=m) zeroValue28 hs rfl (fun l w5 d4=>(aI (aL (aG (v:=zS a1 c.length c2) ?_))))));obtain ⟨r7,q8,hm⟩:=aB hm
 refine aP (vs:=[zS a1 c.length c2]) call15 rfl (aEY q8 d4 h3) ?_
 rintro _ i5 ⟨k,rfl,i6⟩
 refine aH (v:=zP (some ⟨k,0,none⟩)) (aI (aJ (aL (aH (v:=i64 0) (aI (aR [3,4] (fun f w=>∃ x y z,Hp.le K x/\aAP c y z=some R/\aE G x (box k 75 [zS a1 c.length c2,i64 y,Value.int .u64 z]::box l 28 m::L) w) ?_ ?_))))))
 ·rintro f i7 ⟨x,y,z,a6,hm,d6⟩
  unfold aAP at hm
  refine aC (aL (aD (cN (vs:=[(0,i64 4),(2,str ([97]:aF))]) (cs:=[i64 4,i64 0,str ([97]:aF),zB false]) kD rfl (by kernel_rfl)) (aD (cN (vs:=[]) (cs:=[i64 0,i64 0,str ([]:aF),zB false]) kD rfl (by kernel_rfl)) (bM (Kt:=K) (xs:=([⟨4,0,([97]:aF),false⟩,⟨0,0,([]:aF),false⟩]:List aO)) (cs:=[i64 4,i64 0,str ([97]:aF),zB false,i64 0,i64 0,str ([]:aF),zB false]) (vs:=[(0,zA #[i64 4,i64 0,str ([97]:aF),zB false]),(1,zA #[i64 0,i64 0,str ([]:aF),zB false])]) fQ rZ rfl rfl d6 rfl (by kernel_rfl) rfl rfl rfl ⟨rfl,rfl,trivial⟩ (fun J c0 (d7:aE G x (own 55 K J 2 ([⟨4,0,([97]:aF),false⟩,⟨0,0,([]:aF),false⟩]:List aO)::box k 75 [zS a1 c.length c2,i64 y,Value.int .u64 z]::box l 28 m::L) c0)=>(aG (v:=zP (some ⟨k,0,none⟩)) ?_))))))
  have d8:aE G x (box k 75 [zS a1 c.length c2,i64 y,Value.int .u64 z]::own 55 K J 2 ([⟨4,0,([97]:aF),false⟩,⟨0,0,([]:aF),false⟩]:List aO)::box l 28 m::L) c0:=(aE.arr 2 [1,0] d7 rfl)
  obtain ⟨b,d9,hm⟩:=aB hm
  refine aP (vs:=[zP (some ⟨k,0,none⟩)]) call19 rfl (aDw d9 d8 (h3.mono a6)) ?_
  rintro _ i8 ⟨n,o,p,q,rfl,e0⟩
  refine aH (v:=zS J ([⟨4,0,([97]:aF),false⟩,⟨0,0,([]:aF),false⟩]:List aO).length 2) (eW (i:=4) (ns:=(zC b.1 n o p q)) (us:=(zC b.1 n o p q)) sizeOf28 e0 rfl rfl rfl rfl rfl (gH rfl) rfl rfl (fun c1 (e1:aE G x (own 9 K n o b.1.L::own 86 K p q b.1.E::box k 75 [zS a1 c.length c2,i64 b.2.1,Value.int .u64 b.2.2]::own 55 K J 2 ([⟨4,0,([97]:aF),false⟩,⟨0,0,([]:aF),false⟩]:List aO)::box l 28 (zC b.1 n o p q)::L) c1)=>(aI ?_)))
  obtain ⟨c3,e2,e3,Z⟩:=aE.giveSp e1 a6 zt3
  replace Z:aE G c3 (own 9 K n o b.1.L::own 86 K p q b.1.E::box k 75 [zS a1 c.length c2,i64 b.2.1,Value.int .u64 b.2.2]::box l 28 (zC b.1 n o p q)::L) c1:=Z
  obtain rfl:=zI hm
  exact pS (aIA results5 (aLi rfl rfl) (aGG (vs:=(zC b.1 n o p q)) rfl xW Z (i:=3) rfl rfl rfl) ⟨c3,J,2,n,o,p,q,rfl,(zL a6 e2),e3,(aE.arr 4 [0,1] Z rfl)⟩)
 obtain ⟨i9,e5,ho⟩:=aB hm
 refine qT [3,4] e5 (fun c4 c5 a7 f w=>∃ a8,Hp.le K a8/\f 5=i64 a7/\aE G a8 (box k 75 [zS a1 c.length c2,i64 c4,Value.int .u64 c5]::box l 28 m::L) w) aM ?_
 ·rintro c4 c5 a7 e6 f j0 hm hr ⟨a8,a0,e7,e8⟩
  unfold tQ at hm
  refine aJ (aL (bI e7 (aD (cW rfl rfl) (aI ?_))))
  rcases aK hm with ⟨c6,hm⟩|⟨c6,hm⟩
  ·refine aQ c6 rfl (aW (aC (aJ (cD (aL (aG (v:=zP (some ⟨k,0,none⟩)) ?_))))));obtain ⟨a,e9,hm⟩:=aB hm
   refine aP (vs:=[zP (some ⟨k,0,none⟩)]) call16 rfl (aBS e9 e8 (h3.mono a0)) ?_
   rintro _ j1 ⟨a2,r,u,d,e,h,j,rfl,a9,c7,f0⟩
   refine aG (v:=Value.tuple #[zS r a.1.length u,zA (zCa a.2.1 d e h j)]) (aD (bW rfl rfl) (aD (bW rfl rfl) (cT (vs:=m) zeroValue28 f0 rfl (fun a3 j2 f1=>(aH (v:=zS r a.1.length u) (eW (i:=0) (ns:=(zC a.2.1 d e h j)) (us:=(zC a.2.1 d e h j)) sizeOf28 f1 rfl rfl rfl rfl rfl (gH rfl) rfl rfl (fun f2 (f3:aE G a2 (box a3 28 (zC a.2.1 d e h j)::own 9 K d e a.2.1.L::own 86 K h j a.2.1.E::box k 75 [zS a1 c.length c2,i64 a.2.2.1,Value.int .u64 a.2.2.2]::box l 28 m::L) f2)=>(aI (aJ (bD [3,4,5,6,7] (fun f w=>∃ b0,nV a7 a b0=some e6/\f 28=zB b0/\aE G a2 (box a3 28 (zC a.2.1 d e h j)::own 9 K d e a.2.1.L::own 86 K h j a.2.1.E::box k 75 [zS a1 c.length c2,i64 a.2.2.1,Value.int .u64 a.2.2.2]::box l 28 m::L) w) ?_ ?_))))))))))
   ·rintro f j3 ⟨b0,hm,f4,f5⟩
    unfold nV at hm
    refine aC ?_
    rcases aK hm with ⟨c8,hm⟩|⟨c8,hm⟩
    ·refine aQ c8 f4 (aJ ?_);obtain ⟨f6,j4,f7,c9,f8⟩:=aE.lendBp f5 .head
     refine cM (C:=fun w'=>∃ L',aE G f6 L' w') [(0,0),(1,0),(2,0),(3,2)] Tryz_mixed (by kernel_rfl) (fun _ hg=>⟨_,aE.mono c9 hg⟩) (fun j5 f9=>?_)
     have b1:=aE.mono c9 f9
     refine aX rfl (fun _ _=>aY (v:=zS r a.1.length u) rfl) (aX rfl (fun _ ⟨_,b1⟩=>lV (t:=0) (vs:=(zC a.2.1 d e h j)) xW b1 f7 rfl rfl rfl) (aX rfl (fun _ _=>dX (v:=zS r a.1.length u) rfl) ?_))
     have g0:=f8 _ _ b1
     refine aGf rfl (eW (i:=4) (ns:=(zC a.2.1 d e h j)) (us:=(zC a.2.1 d e h j)) sizeOf28 g0 rfl rfl rfl rfl rfl (gH rfl) rfl rfl (fun g1 (d0:aE G a2 (box a3 28 (zC a.2.1 d e h j)::own 9 K d e a.2.1.L::own 86 K h j a.2.1.E::box k 75 [zS a1 c.length c2,i64 a.2.2.1,Value.int .u64 a.2.2.2]::box l 28 (zC a.2.1 d e h j)::L) g1)=>(aI (pC (aC (pS (aDb (gZ (gZ ?_)))))))))
     have g2:=hr _ (zI hm).symm
     subst g2
     have hm:(some (a.1,a.2.1))=some R:=ho
     clear hr ho
     obtain rfl:=zI hm
     exact aDb (gZ (gZ (aIA results5 (aLi rfl rfl) (aGG (vs:=(zC a.2.1 d e h j)) rfl xW d0 (i:=4) rfl rfl rfl) ⟨a2,r,u,d,e,h,j,rfl,(zL a0 a9),c7,(aE.arr 5 [1,2] d0 rfl)⟩)))
    ·exact aM
   refine aU (aG (v:=zS r a.1.length u) ?_);obtain ⟨g4,g5,hm⟩:=aB hm
   refine aP (vs:=[zS r a.1.length u]) call17 rfl (aDX g5 f3 c7) ?_
   rintro _ j6 ⟨rfl,g6⟩
   refine aG (v:=zB g4) ?_
   rcases aK hm with ⟨d1,hm⟩|⟨d1,hm⟩
   ·refine cA d1 rfl rfl ?_;obtain ⟨j7,g7,g8,g9,h0⟩:=aE.lendSp g6 (zL a0 a9) zt1
    obtain ⟨j8,h1,h2,h4,h5⟩:=aE.lendSp g9 (zL (zL a0 a9) g7) zt1
    obtain ⟨j9,d2,h6,h7,h8⟩:=aE.lendBp h4 .head
    obtain ⟨k0,h9,hm⟩:=aB hm
    refine aP (vs:=[cH (some ⟨a3,0,none⟩) 0]) call18 rfl (aDY h9 h7 h6 (g8.mono (zL h1 d2)) (h2.mono d2)) ?_
    rintro _ k1 ⟨rfl,i0⟩
    have i1:=h8 _ _ i0
    have i2:=h5 _ _ i1
    have k2:=h0 _ _ i2
    exact aM
   ·exact aM
  ·exact aM
theorem aGn {t:cR} {k:Int} {R:Bool} (hm:rL t k=some R) (a:aE G K (L) w) (b:bL K a1 c2 t.L) (c:bL K a4 c5 t.E):
  Calls prog 92 ([zA (zCa t a1 c2 a4 c5),i64 k]:List Value).toArray w (dQ fun v w'=>v=zB R/\aE G K (L) w'):=by
 exact aM
theorem aLw {i many:Int} {R:Bool} (hm:aGV i many=some R) (a:aE G K (L) w):
  Calls prog 94 ([i64 i,i64 many]:List Value).toArray w (dQ fun v w'=>v=zB R/\aE G K (L) w'):=by
 exact aM
theorem aIt {t:cR} {R:Bool} (hm:aBB t=some R) (y:aE G K (L) w) (hG:G.lo=0) (k:bL K a1 c2 t.L) (l:bL K a4 c5 t.E):
  Calls prog 46 ([zA (zCa t a1 c2 a4 c5)]:List Value).toArray w (dQ fun v w'=>v=zB R/\aE G K (L) w'):=by
 let b:=(zC t a1 c2 a4 c5)
 refine aN func46 rfl (by kernel_rfl) (by show (1:Nat)<=109;decide) ?_;unfold aBB at hm
 refine aL (gO (v:=zA (zCa t a1 c2 a4 c5)) (vs:=b) y rfl rfl (fun c w8 b8=>(aH (v:=zB false) (aI (aJ (aJ (bD [1] (fun f w=>∃ g,oM t g=some R/\f 30=zB g/\aE G K (box c 28 b::L) w) ?_ ?_)))))))
 ·rintro f b9 ⟨g,hm,z,J⟩
  unfold oM at hm
  refine aC ?_
  rcases aK hm with ⟨m,hm⟩|⟨m,hm⟩
  ·exact aM
  ·refine aT m z (aW (aC (aJ (aL (aD (bU (t':=2) aCk rfl rfl) (aD (eP aIY J (i:=0) rfl rfl rfl) (aD (bF (len:=t.L.length) kN rfl) (aG (v:=i64 0) (aI (aR [1] (fun f w=>yV t=some R/\aE G K (box c 28 b::L) w) ?_ ?_))))))))))
   ·rintro f c0 ⟨hm,Z⟩
    unfold yV at hm
    refine aC (aJ (aL (aD (bU (t':=3) lW rfl rfl) (aD (eP xV Z (i:=0) rfl rfl rfl) (aD (bF (len:=t.E.length) jK rfl) (aG (v:=i64 0) (aI (aR [] (fun f w=>aFT=some R/\aE G K (L) w) aM ?_))))))));obtain ⟨c1,a0,ho⟩:=aB hm
    refine dY [1,65,66] a0 (fun d f w=>f 67=i64 d/\aE G K (box c 28 b::L) w) aM ?_
    ·rintro d a2 f c3 hm hr ⟨h,n⟩
     unfold uP at hm
     refine aL (aD (cW h rfl) (aI (aJ ?_)))
     rcases aK hm with ⟨o,hm⟩|⟨o,hm⟩
     ·refine aQ o rfl (aW (aC (aJ (cD (aL (bI h ?_))))));obtain ⟨a,p,hm⟩:=aB hm
      refine aD (dD jK rfl l rfl rfl h p) ?_;obtain ⟨c4,a3,a5⟩:=bL.el (sz:=3) rfl l p
      cases a5
      exact aD (lV (t:=0) (vs:=[i64 a.F,i64 a.B,i64 a.To]) aEG n a3 rfl rfl rfl) (cT (vs:=[i64 0,i64 0,i64 0]) zeroValue86 n rfl (fun a6 c6 a7=>(aH (v:=i64 d) (eW (i:=0) (ns:=[i64 a.F,i64 a.B,i64 a.To]) (us:=[i64 a.F,i64 a.B,i64 a.To]) sizeOf86 a7 rfl rfl rfl rfl rfl (gH rfl) rfl rfl (fun a8 (c7:aE G K (box a6 86 [i64 a.F,i64 a.B,i64 a.To]::box c 28 b::L) a8)=>(aI (aJ (bD [1,65,66,67] (fun f w=>∃ q,oL d q=some a2/\f 107=zB q/\aE G K (box c 28 b::L) w) aM aM))))))))
     ·exact aM
   obtain ⟨c8,a9,ho⟩:=aB hm
   refine dY [1,32,33] a9 (fun e f w=>f 34=i64 e/\aE G K (box c 28 b::L) w) aM ?_
   ·rintro e b0 f c9 hm hr ⟨j,b1⟩
    unfold uQ at hm
    refine aL (aD (cW j rfl) (aI (aJ ?_)))
    rcases aK hm with ⟨r,hm⟩|⟨r,hm⟩
    ·refine aQ r rfl (aW (aC (aJ (cD (aL (bI j ?_))))));obtain ⟨b2,u,hm⟩:=aB hm
     refine aD (dD kN rfl k rfl rfl j u) ?_;obtain ⟨d0,b3,b4⟩:=bL.el (sz:=1) rfl k u
     cases b4
     exact aD (bG (t:=0) sc_9 b1 b3 rfl rfl) (aH (v:=i64 e) (aH (v:=str b2) (aI (aJ (bD [1,32,33,34] (fun f w=>∃ x,rM e x=some b0/\f 62=zB x/\aE G K (box c 28 b::L) w) aM aM)))))
    ·exact aM
 exact aM
theorem aAh {n:aO} {R:Int} (hm:lG n=some R) (d:aE G K (L) w):
  Calls prog 135 ([zA #[i64 n.Kind,i64 n.Variable,str n.B,zB n.Not]]:List Value).toArray w (dQ fun v w'=>v=i64 R/\aE G K (L) w'):=by
 refine aN func135 rfl (by kernel_rfl) (by show (1:Nat)<=13;decide) ?_;unfold lG at hm
 refine aL (gO (v:=zA #[i64 n.Kind,i64 n.Variable,str n.B,zB n.Not]) (vs:=[i64 n.Kind,i64 n.Variable,str n.B,zB n.Not]) d rfl rfl (fun h j e=>(aH (v:=i64 0) (aI (aJ (aL (aD (bU (t':=0) uX rfl rfl) (aD (eP dM e (i:=0) rfl rfl rfl) (aI (cD (jV [4] (fun f w=>∃ a,mS n a=some R/\f 5=zB a/\aE G K (L) w) ?_ ?_)))))))))))
 ·rintro f k ⟨a,hm,g,l⟩
  unfold mS at hm
  rcases aK hm with ⟨b,hm⟩|⟨b,hm⟩
  ·exact aM
  ·exact aT b g (jV [] (fun f w=>∃ c,jW c=some R/\f 8=zB c/\aE G K (L) w) aM aM)
 exact aM
theorem aJo {a:(List aO)} {R:Bool} (hm:aDn a=some R) (g:aE G K (L) w) (h:bL K a1 c2 a):
  Calls prog 97 ([zS a1 a.length c2]:List Value).toArray w (dQ fun v w'=>v=zB R/\aE G K (L) w'):=by
 refine aN func97 rfl (by kernel_rfl) (by show (1:Nat)<=22;decide) ?_;unfold aDn at hm
 refine aL (aH (v:=zB false) (aI (aL (aH (v:=i64 1) (aI (aJ (aL (aG (v:=zS a1 a.length c2) (aD (bF (len:=a.length) fQ rfl) (aG (v:=i64 0) (aI (aR [] (fun f w=>∃ b,aGW b=some R/\f 3=i64 b/\aE G K (L) w) aM ?_))))))))))));obtain ⟨i,c,ho⟩:=aB hm
 exact bX [6,7] c (fun d e f w=>f 3=i64 d/\f 8=i64 e/\aE G K (L) w) aM aM
end Gv
