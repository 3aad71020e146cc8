/- Walks, printed by program. -/
import Derived.Test.YthmfdhgeglgpbaaGreatDoorJWk1
set_option linter.all false
namespace Gv
open Gv.Hp renaming le_refl→zR
open Go.Value renaming slice→zS,bool→zB,pointer→zP,agg→zA
open Option.some renaming inj→zI
open Gv.Hp renaming le_trans→zL
open Go Go.Proofs Go.Proofs.Tryz
set_option maxRecDepth 20000
set_option maxHeartbeats 40000000
variable {G:rT} {K:Hp} {L:List fM} {w:World} {b1 c3 c6 c9:Nat} {a2 a5 a8:Option Addr}
theorem lG {a:(List UInt8)} {c d:Int} {b:(List Int)} {R:(Int × Int × Int)} (hm:fA a c d b=some R) (e:aF G K (box b1 74 [zS a2 a.length c3,i64 c,Value.int .u64 d]::L) w) (g:bI K a2 c3 a) (h:bI K a5 c6 b):
  Calls prog 42 ([zP (some ⟨b1,0,none⟩),zS a5 b.length c6]:List Value).toArray w (dL fun v w'=>v=i64 R.1/\aF G K (box b1 74 [zS a2 a.length c3,i64 R.2.1,Value.int .u64 R.2.2]::L) w'):=by
 exact aN
theorem aFY {b:(List UInt8)} {e6 e7:Int} {R:(cN × Int × Int)} (hm:aAb b e6 e7=some R) (hs:aF G K (box b1 74 [zS a2 b.length c3,i64 e6,Value.int .u64 e7]::L) w) (o:bI K a2 c3 b):
  Calls prog 15 ([zP (some ⟨b1,0,none⟩)]:List Value).toArray w (dL fun v w'=>∃ i4 i5 i6 i7,v=zA (zCa R.1 i4 i5 i6 i7)/\aF G K (own 9 K i4 i5 R.1.L::own 68 K i6 i7 R.1.E::box b1 74 [zS a2 b.length c3,i64 R.2.1,Value.int .u64 R.2.2]::L) w'):=by
 let e:=zG
 refine aP func15 rfl (by kernel_rfl) (by show (1:Nat)<=125;decide) ?_;unfold aAb at hm
 refine aL (cF (vs:=e) zeroValue28 hs rfl (fun g w6 k9=>(aI (aL (aG (v:=zP (some ⟨b1,0,none⟩)) ?_)))))
 have l0:aF G K (box b1 74 [zS a2 b.length c3,i64 e6,Value.int .u64 e7]::box g 28 e::L) w6:=(aF.arr 2 [1,0] k9 rfl)
 obtain ⟨j,l1,hm⟩:=aB hm
 refine aQ (vs:=[zP (some ⟨b1,0,none⟩),i64 4]) call34 rfl (bH l1 l0 o) ?_
 rintro _ t9 ⟨rfl,l2⟩
 refine aD (cJ rfl rfl) (aH (v:=i64 (wr (1+j.1))) (aI (aL (aG (v:=i64 (wr (1+j.1))) (aG (v:=zP (some ⟨b1,0,none⟩)) (aG (v:=i64 (wr (1+j.1))) (aD (oX rfl rfl) ?_)))))));obtain ⟨p,l3,hm⟩:=aB hm
 refine aQ (vs:=[zP (some ⟨b1,0,none⟩),i64 (wr (7 - (wr (1+j.1))))]) call34 rfl (bH l3 l2 o) ?_
 rintro _ u0 ⟨rfl,l4⟩
 refine aD (cJ rfl rfl) (aH (v:=i64 (wr ((wr (1+j.1))+p.1))) (aI (aL (aG (v:=zP (some ⟨b1,0,none⟩)) ?_))));obtain ⟨a,l5,hm⟩:=aB hm
 refine aQ (vs:=[zP (some ⟨b1,0,none⟩)]) call41 rfl (aCF l5 l4 o) ?_
 rintro _ u1 ⟨c,d,rfl,l6⟩
 refine aH (v:=zS c a.1.length d) (aI (aL (bO (Kt:=K) (xs:=([]:List Int)) (cs:=[]) (vs:=[]) bF jV rfl rfl l6 rfl (by kernel_rfl) rfl rfl rfl trivial (fun e8 l7 (l8:aF G K (own 2 K e8 0 ([]:List Int)::own 9 K c d a.1::box b1 74 [zS a2 b.length c3,i64 a.2.1,Value.int .u64 a.2.2]::box g 28 e::L) l7)=>(aH (v:=zS e8 ([]:List Int).length 0) (aI (aK (aL (aH (v:=i64 0) (aI (aS [0,2,3,4,5] (fun f w=>∃ b7 b8 k l m,tV b j p a b7 b8 k=some R/\f 6=zS l k.length m/\aF G K (own 2 K l m k::own 9 K c d a.1::box b1 74 [zS a2 b.length c3,i64 b7,Value.int .u64 b8]::box g 28 e::L) w) ?_ ?_)))))))))))
 ·rintro f u2 ⟨b7,b8,k,l,m,hm,i8,l9⟩
  unfold tV at hm
  refine aC (aL (bO (Kt:=K) (xs:=([]:List Edge)) (cs:=[]) (vs:=[]) eW aEE rfl rfl l9 rfl (by kernel_rfl) rfl rfl rfl trivial (fun e9 i9 (m0:aF G K (own 68 K e9 0 ([]:List Edge)::own 2 K l m k::own 9 K c d a.1::box b1 74 [zS a2 b.length c3,i64 b7,Value.int .u64 b8]::box g 28 e::L) i9)=>(aH (v:=zS e9 ([]:List Edge).length 0) (aI (aK (aL (aG (v:=zP (some ⟨b1,0,none⟩)) (aG (v:=i64 (wr (1+j.1))) (aD (aJf rfl rfl) (aD (cJ rfl rfl) ?_)))))))))))
  have m1:aF G K (box b1 74 [zS a2 b.length c3,i64 b7,Value.int .u64 b8]::own 68 K e9 0 ([]:List Edge)::own 2 K l m k::own 9 K c d a.1::box g 28 e::L) i9:=(aF.arr 4 [3,0,1,2] m0 rfl)
  obtain ⟨m2,m3,hm⟩:=aB hm
  refine aQ (vs:=[zP (some ⟨b1,0,none⟩),i64 (wr (2+(wr (2 * (wr (1+j.1))))))]) call34 rfl (bH m3 m1 o) ?_
  rintro _ u3 ⟨rfl,u4⟩
  refine aH (v:=i64 m2.1) (aI (aS [0,2,4,5] (fun f w=>∃ c1 c2 b9 c4 c48,vJ b j p a c1 c2 b9=some R/\f 8=zS c4 b9.length c48/\aF G K (own 68 K c4 c48 b9::box b1 74 [zS a2 b.length c3,i64 c1,Value.int .u64 c2]::own 9 K c d a.1::box g 28 e::L) w) ?_ ?_))
  ·rintro f m4 ⟨c1,c2,b9,c4,c48,hm,m5,m6⟩
   unfold vJ at hm
   refine aC (gQ [0,2,4,5] (fun f w=>∃ j0 j1 f0 j2 j3,vI b j p a j0 j1 f0=some R/\f 8=zS j2 f0.length j3/\aF G K (own 68 K j2 j3 f0::box b1 74 [zS a2 b.length c3,i64 j0,Value.int .u64 j1]::own 9 K c d a.1::box g 28 e::L) w) aN (aL (aG (v:=zP (some ⟨b1,0,none⟩)) ?_)))
   have m7:aF G K (box b1 74 [zS a2 b.length c3,i64 c1,Value.int .u64 c2]::own 68 K c4 c48 b9::own 9 K c d a.1::box g 28 e::L) m4:=(aF.arr 2 [1,0] m6 rfl)
   obtain ⟨u5,m8,hm⟩:=aB hm
   refine aQ (vs:=[zP (some ⟨b1,0,none⟩),i64 3]) call32 rfl (nJ m8 m7 o) ?_
   rintro _ u6 ⟨rfl,m9⟩
   refine aI ?_
   rcases aM hm with ⟨j4,hm⟩|⟨j4,hm⟩
   ·refine aR j4 rfl (aU (bA m5 (aG (v:=zP (some ⟨b1,0,none⟩)) (aG (v:=i64 (wr ((wr (1+j.1))+p.1))) ?_))));obtain ⟨u7,n0,hm⟩:=aB hm
    refine aQ (vs:=[zP (some ⟨b1,0,none⟩),i64 (wr ((wr (1+j.1))+p.1))]) call34 rfl (bH n0 m9 o) ?_
    rintro _ u8 ⟨rfl,n1⟩
    refine aG (v:=zP (some ⟨b1,0,none⟩)) (aG (v:=zS c a.1.length d) (aD (bC (len:=a.1.length) lI rfl) ?_));obtain ⟨u9,n2,hm⟩:=aB hm
    refine aQ (vs:=[zP (some ⟨b1,0,none⟩),i64 (a.1.length:Int)]) call34 rfl (bH n2 n1 o) ?_
    rintro _ v0 ⟨rfl,n3⟩
    refine aG (v:=zP (some ⟨b1,0,none⟩)) (aG (v:=i64 (wr ((wr (1+j.1))+p.1))) ?_);obtain ⟨v1,n4,hm⟩:=aB hm
    exact aQ (vs:=[zP (some ⟨b1,0,none⟩),i64 (wr ((wr (1+j.1))+p.1))]) call34 rfl (bH n4 n3 o) aN
   ·exact aN
  obtain ⟨v2,n5,ho⟩:=aB hm
  refine aFB [0,2,3,4,5,6] n5 (fun c5 c6 c0 b0 f w=>∃ c7 c8,f 8=zS c7 c0.length c8/\f 9=i64 b0/\aF G K (box b1 74 [zS a2 b.length c3,i64 c5,Value.int .u64 c6]::own 68 K c7 c8 c0::own 2 K l m k::own 9 K c d a.1::box g 28 e::L) w) aN ?_
  ·rintro c5 c6 c0 b0 f1 f v3 hm hr ⟨c7,c8,n6,j5,j6⟩
   unfold pT at hm
   refine aK (aL (bA j5 (aD (zU rfl rfl) (aI ?_))))
   rcases aM hm with ⟨f2,hm⟩|⟨f2,hm⟩
   ·refine aR f2 rfl (aW (aC (aK (aS [0,2,3,4,5,6,9] (fun f w=>∃ f3 f4 c9 d0 d1,aAx b0 f3 f4 c9=some f1/\f 8=zS d0 c9.length d1/\aF G K (own 68 K d0 d1 c9::box b1 74 [zS a2 b.length c3,i64 f3,Value.int .u64 f4]::own 2 K l m k::own 9 K c d a.1::box g 28 e::L) w) ?_ ?_))))
    ·rintro f v4 ⟨f3,f4,c9,d0,d1,hm,n7,n8⟩
     unfold aAx at hm
     exact aC (aU (bA j5 (aD (oX rfl rfl) (aH (v:=i64 (wr (b0 - 1))) (aI ⟨_,(zI hm).symm,bG,d0,d1,n7,rfl,(aF.arr 2 [1,0] n8 rfl)⟩)))))
    refine aL (aG (v:=zP (some ⟨b1,0,none⟩)) (aG (v:=i64 (wr (1+j.1))) ?_));obtain ⟨j7,n9,hm⟩:=aB hm
    refine aQ (vs:=[zP (some ⟨b1,0,none⟩),i64 (wr (1+j.1))]) call34 rfl (bH n9 j6 o) ?_
    rintro _ v5 ⟨rfl,o0⟩
    refine aH (v:=i64 j7.1) (aI (aL (aG (v:=zP (some ⟨b1,0,none⟩)) (aG (v:=zS c a.1.length d) (aD (bC (len:=a.1.length) lI rfl) ?_)))));obtain ⟨J,o1,hm⟩:=aB hm
    refine aQ (vs:=[zP (some ⟨b1,0,none⟩),i64 (a.1.length:Int)]) call34 rfl (bH o1 o0 o) ?_
    rintro _ v6 ⟨rfl,o2⟩
    refine aH (v:=i64 J.1) (aI (aL (aG (v:=zP (some ⟨b1,0,none⟩)) (aG (v:=i64 (wr (1+j.1))) ?_))));obtain ⟨j8,o3,hm⟩:=aB hm
    refine aQ (vs:=[zP (some ⟨b1,0,none⟩),i64 (wr (1+j.1))]) call34 rfl (bH o3 o2 o) ?_
    rintro _ v7 ⟨rfl,v8⟩
    refine aH (v:=i64 j8.1) (aI (aL (aH (v:=i64 0) (aI (aS [0,2,3,4,5,6,9] (fun f w=>∃ j9 k0 f5 k1 k2,aAy b0 j9 k0 f5=some f1/\f 8=zS k1 f5.length k2/\aF G K (own 68 K k1 k2 f5::box b1 74 [zS a2 b.length c3,i64 j9,Value.int .u64 k0]::own 2 K l m k::own 9 K c d a.1::box g 28 e::L) w) aN ?_)))));obtain ⟨v9,o4,ho⟩:=aB hm
    refine aFB [0,2,3,4,5,6,9,10,11,12] o4 (fun q r n u f w=>∃ y z,f 8=zS y n.length z/\f 13=i64 u/\aF G K (box b1 74 [zS a2 b.length c3,i64 q,Value.int .u64 r]::own 68 K y z n::own 2 K l m k::own 9 K c d a.1::box g 28 e::L) w) aN ?_
    ·rintro q r n u f6 f w0 hm hr ⟨y,z,k3,d2,d3⟩
     unfold rZ at hm
     refine aK (aL (bA d2 (aG (v:=i64 (wr ((wr (1+j.1))+p.1))) (aD (cH rfl rfl) (aI ?_)))))
     rcases aM hm with ⟨f7,hm⟩|⟨f7,hm⟩
     ·refine aR f7 rfl (aW (aC (aK (aS [0,2,3,4,5,6,9,10,11,12,13] (fun f w=>∃ f8 f9 d4 d5 d6,vK u f8 f9 d4=some f6/\f 8=zS d5 d4.length d6/\aF G K (box b1 74 [zS a2 b.length c3,i64 f8,Value.int .u64 f9]::own 68 K d5 d6 d4::own 2 K l m k::own 9 K c d a.1::box g 28 e::L) w) ?_ ?_))))
      ·rintro f w1 ⟨f8,f9,d4,d5,d6,hm,o5,o6⟩
       unfold vK at hm
       exact aC (aU (bA d2 (aD (cJ rfl rfl) (aH (v:=i64 (wr (u+1))) (aI ⟨_,(zI hm).symm,bG,d5,d6,o5,rfl,o6⟩)))))
      refine aK (aL (bA i8 (bA d2 ?_)));obtain ⟨w2,g0,hm⟩:=aB hm
      have k4:=bM d3 (i:=2) rfl g0
      refine aD (cB bF rfl k4 rfl rfl rfl g0) (aD (lH (t:=0) dJ d3 (i:=2) rfl g0 rfl rfl rfl) (aG (v:=i64 j7.1) (aD (aFA rfl rfl) (aI ?_))))
      rcases aM hm with ⟨k5,hm⟩|⟨k5,hm⟩
      ·exact aN
      ·refine aX k5 rfl (aW (aC (aL (bO (Kt:=K) (xs:=([]:List Int)) (cs:=[]) (vs:=[]) bF jV rfl rfl d3 rfl (by kernel_rfl) rfl rfl rfl trivial (fun g1 o7 (o8:aF G K (own 2 K g1 0 ([]:List Int)::box b1 74 [zS a2 b.length c3,i64 q,Value.int .u64 r]::own 68 K y z n::own 2 K l m k::own 9 K c d a.1::box g 28 e::L) o7)=>(aH (v:=zS g1 ([]:List Int).length 0) (aI (aK (aL (aH (v:=i64 0) (aI (aS [0,2,3,4,5,6,8,9,10,11,12,13] (fun f w=>∃ a6 b2 b3,vL b J q r n u a6=some f6/\f 14=zS b2 a6.length b3/\aF G K (own 2 K b2 b3 a6::box b1 74 [zS a2 b.length c3,i64 q,Value.int .u64 r]::own 68 K y z n::own 2 K l m k::own 9 K c d a.1::box g 28 e::L) w) ?_ ?_))))))))))))
       ·rintro f w3 ⟨a6,b2,b3,hm,o9,p0⟩
        unfold vL at hm
        refine aC (aU (bA k3 (bA d2 (aG (v:=i64 J.1) (aG (v:=zP (some ⟨b1,0,none⟩)) (bA o9 ?_))))));obtain ⟨w4,p1,p2,p3,p4⟩:=aF.lendSp p0 (zR _) .head
        obtain ⟨x,p5,hm⟩:=aB hm
        refine aQ (vs:=[zP (some ⟨b1,0,none⟩),zS b2 a6.length b3]) call42 rfl (lG p5 p3 (o.mono p1) p2) ?_
        rintro _ w5 ⟨rfl,p6⟩
        have p7:=p4 _ _ p6
        refine aD (cO (vs:=[(0,i64 u),(1,i64 J.1),(2,i64 x.1)]) (cs:=[i64 u,i64 J.1,i64 x.1]) bs_68 rfl (by kernel_rfl)) (bO (Kt:=K) (xs:=([⟨u,J.1,x.1⟩]:List Edge)) (cs:=[i64 u,i64 J.1,i64 x.1]) (vs:=[(0,zA #[i64 u,i64 J.1,i64 x.1])]) eW aEE rfl rfl p7 rfl (by kernel_rfl) rfl rfl rfl ⟨rfl,trivial⟩ (fun p8 p9 (q0:aF G K (own 68 K p8 1 ([⟨u,J.1,x.1⟩]:List Edge)::own 2 K b2 b3 a6::box b1 74 [zS a2 b.length c3,i64 x.2.1,Value.int .u64 x.2.2]::own 68 K y z n::own 2 K l m k::own 9 K c d a.1::box g 28 e::L) p9)=>?_))
        obtain ⟨g2,q1,hm⟩:=aB hm
        exact iR (i:=2) eW underlying26 aEE rfl rfl q0 rfl (zR _) (zR _) q1 rfl rfl rfl rfl (fun _ h=>h) (fun g3 g4 q2 (q3:aF G K (own 2 K b2 b3 a6::box b1 74 [zS a2 b.length c3,i64 x.2.1,Value.int .u64 x.2.2]::own 68 K g3 g4 g2::own 2 K l m k::own 9 K c d a.1::box g 28 e::L) q2)=>(aH (v:=zS g3 g2.length g4) (aY (bW (aC ⟨bG,x.2.1,x.2.2,g2,g3,g4,hm,rfl,(aF.arr 1 [] q3 rfl)⟩)))))
       obtain ⟨w7,q4,ho⟩:=aB hm
       refine bN [0,2,3,4,5,6,8,9,10,11,12,13] q4 (fun a7 a0 f w=>∃ b4 b6,f 14=zS b4 a7.length b6/\f 15=i64 a0/\aF G K (own 2 K b4 b6 a7::box b1 74 [zS a2 b.length c3,i64 q,Value.int .u64 r]::own 68 K y z n::own 2 K l m k::own 9 K c d a.1::box g 28 e::L) w) ?_ ?_
       ·exact ⟨g1,0,rfl,rfl,o8⟩
       ·rintro a7 a0 q5 f w8 hm hr ⟨b4,b6,g5,d7,d8⟩
        unfold mS at hm
        refine aK (aL (bA d7 (aG (v:=i64 (wr ((wr (1+j.1))+p.1))) (aD (cH rfl rfl) (aI ?_)))))
        rcases aM hm with ⟨g6,hm⟩|⟨g6,hm⟩
        ·refine aR g6 rfl (aW (aC (aK (aS [0,2,3,4,5,6,8,9,10,11,12,13,15] (fun f w=>∃ d9 e0 e1,vM a0 d9=some q5/\f 14=zS e0 d9.length e1/\aF G K (own 2 K e0 e1 d9::box b1 74 [zS a2 b.length c3,i64 q,Value.int .u64 r]::own 68 K y z n::own 2 K l m k::own 9 K c d a.1::box g 28 e::L) w) ?_ ?_))))
         ·rintro f w9 ⟨d9,e0,e1,hm,q6,q7⟩
          unfold vM at hm
          exact aC (aU (bA d7 (aD (cJ rfl rfl) (aH (v:=i64 (wr (a0+1))) (aI ⟨_,(zI hm).symm,bG,e0,e1,q6,rfl,q7⟩)))))
         refine aL (bA i8 (bA d7 ?_));obtain ⟨x0,k6,hm⟩:=aB hm
         refine aD (cB bF rfl k4 rfl rfl rfl k6) (aD (lH (t:=0) dJ d8 (i:=3) rfl k6 rfl rfl rfl) (aG (v:=i64 j8.1) (aD (kK rfl rfl) (aI ?_))))
         rcases aM hm with ⟨g7,hm⟩|⟨g7,hm⟩
         ·refine aR g7 rfl (aU (bA g5 (bA d7 (bO (Kt:=K) (xs:=([a0]:List Int)) (cs:=[i64 a0]) (vs:=[(0,i64 a0)]) bF jV rfl rfl d8 rfl (by kernel_rfl) rfl rfl rfl ⟨rfl,trivial⟩ (fun q8 q9 (r0:aF G K (own 2 K q8 1 ([a0]:List Int)::own 2 K b4 b6 a7::box b1 74 [zS a2 b.length c3,i64 q,Value.int .u64 r]::own 68 K y z n::own 2 K l m k::own 9 K c d a.1::box g 28 e::L) q9)=>?_)))));obtain ⟨g8,r1,hm⟩:=aB hm
          exact iR (i:=0) bF underlying88 jV rfl rfl r0 rfl (zR _) (zR _) r1 rfl rfl rfl rfl (fun _ h=>h) (fun g9 h0 r2 (r3:aF G K (own 2 K g9 h0 g8::box b1 74 [zS a2 b.length c3,i64 q,Value.int .u64 r]::own 68 K y z n::own 2 K l m k::own 9 K c d a.1::box g 28 e::L) r2)=>(aH (v:=zS g9 g8.length h0) (aY (bW (aC ⟨bG,g8,g9,h0,hm,rfl,r3⟩)))))
         ·exact aX g7 rfl (aW (bW (aC ⟨bG,a7,b4,b6,hm,g5,d8⟩)))
        ·refine aX g6 rfl (yO (gZ (gZ ?_)))
         have r4:=hr _ (zI hm).symm
         subst r4
         have hm:(vL b J q r n u a7)=some f6:=ho
         clear hr ho
         exact vB (aC ⟨bG,a7,b4,b6,hm,g5,d8⟩)
     ·refine aX f7 rfl (yO (gZ (gZ ?_)))
      have r5:=hr _ (zI hm).symm
      subst r5
      have hm:(aAy b0 q r n)=some f1:=ho
      clear hr ho
      exact vB (aC ⟨bG,q,r,n,y,z,hm,k3,(aF.arr 2 [1,0] d3 rfl)⟩)
   ·refine aX f2 rfl (yO (gZ (gZ ?_)))
    have r6:=hr _ (zI hm).symm
    subst r6
    have hm:(vJ b j p a c5 c6 c0)=some R:=ho
    clear hr ho
    exact vB (aC ⟨bG,c5,c6,c0,c7,c8,hm,n6,(aF.arr 3 [1,0] j6 rfl)⟩)
 obtain ⟨x1,r7,ho⟩:=aB hm
 refine aFB [0,2,3,4,5] r7 (fun a1 a3 a4 a5 f w=>∃ a8 a9,f 6=zS a8 a4.length a9/\f 7=i64 a5/\aF G K (own 2 K a8 a9 a4::own 9 K c d a.1::box b1 74 [zS a2 b.length c3,i64 a1,Value.int .u64 a3]::box g 28 e::L) w) ?_ ?_
 ·exact ⟨e8,0,rfl,rfl,l8⟩
 ·rintro a1 a3 a4 a5 r8 f s0 hm hr ⟨a8,a9,h1,e2,h2⟩
  unfold pV at hm
  refine aK (aL (bA e2 (aG (v:=i64 (wr ((wr (1+j.1))+p.1))) (aD (cH rfl rfl) (aI ?_)))))
  rcases aM hm with ⟨h3,hm⟩|⟨h3,hm⟩
  ·refine aR h3 rfl (aW (aC (aK (aS [0,2,3,4,5,7] (fun f w=>∃ h5 h6 e3 e4 e5,pU a5 h5 h6 e3=some r8/\f 6=zS e4 e3.length e5/\aF G K (own 2 K e4 e5 e3::own 9 K c d a.1::box b1 74 [zS a2 b.length c3,i64 h5,Value.int .u64 h6]::box g 28 e::L) w) ?_ ?_))))
   ·rintro f x2 ⟨h5,h6,e3,e4,e5,hm,s1,s2⟩
    unfold pU at hm
    exact aC (aU (bA e2 (aD (cJ rfl rfl) (aH (v:=i64 (wr (a5+1))) (aI ⟨_,(zI hm).symm,bG,e4,e5,s1,rfl,s2⟩)))))
   refine aL (bA e2 (aG (v:=i64 (wr (1+j.1))) (aD (cH rfl rfl) (aI ?_))))
   rcases aM hm with ⟨h7,hm⟩|⟨h7,hm⟩
   ·refine aR h7 rfl (aU (bA h1 (bA e2 (bO (Kt:=K) (xs:=([a5]:List Int)) (cs:=[i64 a5]) (vs:=[(0,i64 a5)]) bF jV rfl rfl h2 rfl (by kernel_rfl) rfl rfl rfl ⟨rfl,trivial⟩ (fun s3 s4 (s5:aF G K (own 2 K s3 1 ([a5]:List Int)::own 2 K a8 a9 a4::own 9 K c d a.1::box b1 74 [zS a2 b.length c3,i64 a1,Value.int .u64 a3]::box g 28 e::L) s4)=>?_)))));obtain ⟨h8,s6,hm⟩:=aB hm
    exact iR (i:=0) bF underlying88 jV rfl rfl s5 rfl (zR _) (zR _) s6 rfl rfl rfl rfl (fun _ h=>h) (fun h9 i0 s7 (s8:aF G K (own 2 K h9 i0 h8::own 9 K c d a.1::box b1 74 [zS a2 b.length c3,i64 a1,Value.int .u64 a3]::box g 28 e::L) s7)=>(aH (v:=zS h9 h8.length i0) (aY (bW (aC ⟨bG,a1,a3,h8,h9,i0,hm,rfl,s8⟩)))))
   ·refine aX h7 rfl (aU (bA h1 (aG (v:=zP (some ⟨b1,0,none⟩)) (aG (v:=i64 (wr (1+j.1))) ?_))))
    have s9:aF G K (box b1 74 [zS a2 b.length c3,i64 a1,Value.int .u64 a3]::own 2 K a8 a9 a4::own 9 K c d a.1::box g 28 e::L) s0:=(aF.arr 3 [2,0,1] h2 rfl)
    obtain ⟨Z,t0,hm⟩:=aB hm
    refine aQ (vs:=[zP (some ⟨b1,0,none⟩),i64 (wr (1+j.1))]) call34 rfl (bH t0 s9 o) ?_
    rintro _ x3 ⟨rfl,t1⟩
    refine bO (Kt:=K) (xs:=([Z.1]:List Int)) (cs:=[i64 Z.1]) (vs:=[(0,i64 Z.1)]) bF jV rfl rfl t1 rfl (by kernel_rfl) rfl rfl rfl ⟨rfl,trivial⟩ (fun t2 t3 (t4:aF G K (own 2 K t2 1 ([Z.1]:List Int)::box b1 74 [zS a2 b.length c3,i64 Z.2.1,Value.int .u64 Z.2.2]::own 2 K a8 a9 a4::own 9 K c d a.1::box g 28 e::L) t3)=>?_);obtain ⟨i1,t5,hm⟩:=aB hm
    exact iR (i:=1) bF underlying88 jV rfl rfl t4 rfl (zR _) (zR _) t5 rfl rfl rfl rfl (fun _ h=>h) (fun i2 i3 t6 (t7:aF G K (box b1 74 [zS a2 b.length c3,i64 Z.2.1,Value.int .u64 Z.2.2]::own 2 K i2 i3 i1::own 9 K c d a.1::box g 28 e::L) t6)=>(aH (v:=zS i2 i1.length i3) (aY (bW (aC ⟨bG,Z.2.1,Z.2.2,i1,i2,i3,hm,rfl,(aF.arr 3 [1,2,0] t7 rfl)⟩)))))
  ·refine aX h3 rfl (yO (gZ (gZ ?_)))
   have t8:=hr _ (zI hm).symm
   subst t8
   have hm:(tV b j p a a1 a3 a4)=some R:=ho
   clear hr ho
   exact vB (aC ⟨bG,a1,a3,a4,a8,a9,hm,h1,h2⟩)
theorem yZ {a:(List UInt8)} {c d:Int} {b:(List aJ)} {R:(aJ × Int × Int)} (hm:qZ a c d b=some R) (e:aF G K (box b1 74 [zS a2 a.length c3,i64 c,Value.int .u64 d]::L) w) (g:bI K a2 c3 a) (h:bI K a5 c6 b):
  Calls prog 138 ([zP (some ⟨b1,0,none⟩),zS a5 b.length c6]:List Value).toArray w (dL fun v w'=>v=str R.1/\aF G K (box b1 74 [zS a2 a.length c3,i64 R.2.1,Value.int .u64 R.2.2]::L) w'):=by
 exact aN
theorem aNj {g:(List UInt8)} {x y:Int} {t:cN} {R:(cN × Int × Int)} (hm:aDs g x y t=some R) (hs:aF G K (box b1 74 [zS a2 g.length c3,i64 x,Value.int .u64 y]::L) w) (o:bI K a2 c3 g) (h7:bI K a5 c6 t.L) (f6:bI K a8 c9 t.E):
  Calls prog 76 ([zP (some ⟨b1,0,none⟩),zA (zCa t a5 c6 a8 c9)]:List Value).toArray w (dL fun v w'=>∃ b2 b3 b4 b5,v=zA (zCa R.1 b2 b3 b4 b5)/\aF G K (own 9 K b2 b3 R.1.L::own 68 K b4 b5 R.1.E::box b1 74 [zS a2 g.length c3,i64 R.2.1,Value.int .u64 R.2.2]::L) w'):=by
 let m:=(zC t a5 c6 a8 c9)
 let j:=zG
 refine aBM func76 ?_;unfold aDs at hm
 refine aAW ?_;refine aGg fun n m7 m8=>?_
 refine aEx fun k m9 f7=>?_;refine aAW ?_
 obtain ⟨n0,b6,f8,f9,g0⟩:=aF.lendBp f7 zt1
 obtain ⟨a,g1,hm⟩:=aB hm
 refine aAZ call66 (aJq g1 f9 f8 (h7.mono b6) (f6.mono b6)) ?_
 rintro _ n1 ⟨b,c,d,e,rfl,g2⟩
 have n2:=g0 _ _ g2
 refine aEx fun l n3 n4=>?_;refine aFy fun g3 n5=>?_
 refine aAW ?_
 have g4:aF G K (box b1 74 [zS a2 g.length c3,i64 x,Value.int .u64 y]::box l 28 (zC a b c d e)::box n 28 m::own 9 K b c a.L::own 68 K d e a.E::box k 28 j::L) g3:=aCN
 obtain ⟨n6,g5,hm⟩:=aB hm
 refine aAZ call32 (nJ g5 g4 o) ?_
 rintro _ n7 ⟨rfl,g6⟩
 refine aAW ?_
 rcases aM hm with ⟨g7,hm⟩|⟨g7,hm⟩
 ·exact aN
 ·refine aAW ?_;obtain ⟨p,g8,hm⟩:=aB hm
  refine aAZ call34 (bH g8 g6 o) ?_
  rintro _ n8 ⟨rfl,q⟩
  refine aAW ?_;refine aS [4,5] (fun f w=>∃ b7 b8 z J b9 c0 c1 c2 c4 c5,gA b7 b8 z J b9 c0=some R/\aF G K (box b1 74 [zS a2 g.length c3,i64 b9,Value.int .u64 c0]::box l 28 [i64 b7,i64 b8,zS c1 z.length c2,zS c4 J.length c5]::own 9 K c1 c2 z::own 68 K c4 c5 J::box k 28 j::L) w) aN (aAW ?_)
  rcases aM hm with ⟨g9,hm⟩|⟨g9,hm⟩
  ·refine aAW ?_;refine aCp ([0,(-1),41,40,wr (a.N - 1)]:List Int) fun n9 o0 h0=>?_
   obtain ⟨o1,o2,o3,o4,o5⟩:=aF.lendSp h0 (zR _) .head
   exact aN
  ·refine aAW ?_
   rcases aM hm with ⟨h1,hm⟩|⟨h1,hm⟩
   ·refine aAW ?_;refine aCp ([(-1),a.N]:List Int) fun o6 o7 h2=>?_
    obtain ⟨o8,o9,p0,p1,p2⟩:=aF.lendSp h2 (zR _) .head
    exact aN
   ·refine aAW ?_
    rcases aM hm with ⟨h3,hm⟩|⟨h3,hm⟩
    ·refine aAW ?_;obtain ⟨p3,Z,hm⟩:=aB hm
     have h5:=bM q (i:=3) rfl Z
     refine aD (cB lI rfl h5 rfl rfl rfl Z) ?_;obtain ⟨a0,c7,hm⟩:=aB hm
     refine eC (i:=3) (t:=0) (ns:=[str ([97]:aJ)]) (e':=(([97]:aJ):aJ)) sizeOf9 q rfl (zR _) rfl rfl rfl Z c7 rfl rfl (eB rfl) rfl (fun cs h=>by cases h;rfl) (fun c8 (h6:aF G K (box b1 74 [zS a2 g.length c3,i64 p.2.1,Value.int .u64 p.2.2]::box l 28 (zC a b c d e)::box n 28 m::own 9 K b c a0::own 68 K d e a.E::box k 28 j::L) c8)=>?_)
     have p4:aF G K (box b1 74 [zS a2 g.length c3,i64 p.2.1,Value.int .u64 p.2.2]::box l 28 [i64 a.N,i64 a.I,zS b a0.length c,zS d a.E.length e]::box n 28 m::own 9 K b c a0::own 68 K d e a.E::box k 28 j::L) c8:=by rw [←(dH c7)];exact h6
     exact aN
    ·refine aAW ?_
     rcases aM hm with ⟨h8,hm⟩|⟨h8,hm⟩
     ·refine aAW ?_;obtain ⟨p5,d0,p6,p7,h9⟩:=aF.lendBp q zt1
      refine aGG [(0,0),(1,0),(2,0),(3,1),(4,1),(5,1),(6,1),(7,0),(8,2)] fun p8 p9=>?_;refine aAW ?_
      refine fR rfl (aCp ([([116,97,117]:aJ),([97]:aJ),([122,122]:aJ),([65]:aJ),([]:aJ)]:List aJ) fun q0 q1 d1=>?_);refine aY (aC ⟨⟨_,d1⟩,?_⟩)
      refine fR rfl ?_;obtain ⟨q2,i0,i1,i2,i3⟩:=aF.lendSp d1 d0 .head
      obtain ⟨i4,i5,hm⟩:=aB hm
      refine aAZ call138 (yZ i5 i2 (o.mono (zL d0 i0)) i1) ?_
      rintro _ q3 ⟨rfl,i6⟩
      have i7:=i3 _ _ i6
      refine aY (aC ⟨⟨_,i7⟩,?_⟩)
      refine fR rfl (aCp ([i4.1]:List aJ) fun q4 q5 i8=>?_);refine aY (aC ⟨⟨_,i8⟩,?_⟩)
      refine fR rfl ?_;obtain ⟨q6,q7,hm⟩:=aB hm
      refine aNS fun q8 q9 r0 d2=>?_;refine aY (aC ⟨⟨_,d2⟩,?_⟩)
      refine aAW ?_
      have r1:=h9 _ _ d2
      exact aN
     ·refine aAW ?_
      rcases aM hm with ⟨i9,hm⟩|⟨i9,hm⟩
      ·refine aAW ?_
       rcases aM hm with ⟨j0,hm⟩|⟨j0,hm⟩
       ·refine aAW ?_;obtain ⟨r2,j1,r3,j2,j3⟩:=aF.lendBp q zt1
        obtain ⟨r4,r5,d3,r6,j4⟩:=aF.lendSp j2 j1 zt3
        refine aGG [(0,3),(1,0),(2,3),(3,1),(4,1),(5,1),(6,1),(7,2),(8,3),(9,2)] fun r7 a1=>?_;refine aAW ?_
        refine fR rfl ?_
        iterate 1 refine aBh ?_
        refine aY (aC ⟨⟨_,a1⟩,?_⟩)
        refine fR rfl ?_;obtain ⟨d4,a3,hm⟩:=aB hm
        have j5:=wF d3 a3
        refine aD (cB eW rfl j5 rfl rfl rfl a3) (aY (aC ⟨⟨_,a1⟩,?_⟩))
        refine fR rfl ?_;obtain ⟨r8,r9,j6⟩:=bI.el (sz:=3) rfl d3 a3
        cases j6
        iterate 1 refine aBh ?_
        refine aY (aC ⟨⟨_,a1⟩,?_⟩)
        refine fR rfl (aCp ([d4]:List Edge) fun j7 j8 d5=>?_);refine aY (aC ⟨⟨_,d5⟩,?_⟩)
        have j9:=j4 _ _ d5
        have s0:=j3 _ _ j9
        refine aHm rfl ?_;obtain ⟨s1,s2,hm⟩:=aB hm
        have s3:aF G K (own 68 K j7 1 ([d4]:List Edge)::box l 28 (zC a b c d e)::own 68 K d e a.E::box b1 74 [zS a2 g.length c3,i64 p.2.1,Value.int .u64 p.2.2]::box n 28 m::own 9 K b c a.L::box k 28 j::L) j8:=aCN
        exact aN
       ·exact aN
      ·refine aAW ?_
       rcases aM hm with ⟨k0,hm⟩|⟨k0,hm⟩
       ·refine aAW ?_
        rcases aM hm with ⟨k1,hm⟩|⟨k1,hm⟩
        ·refine aAW ?_;obtain ⟨k2,k3,hm⟩:=aB hm
         refine aAZ call34 (bH k3 q o) ?_
         rintro _ s4 ⟨rfl,k4⟩
         refine aAW ?_;obtain ⟨s5,d6,s6,s7,k5⟩:=aF.lendBp k4 zt1
         refine aGG [(0,0),(1,0),(2,0),(3,0),(4,1),(5,1),(6,1),(7,1),(8,1),(9,2),(10,2),(11,2)] fun s8 a4=>?_;refine aAW ?_
         refine fR rfl ?_
         iterate 1 refine aBh ?_
         refine aY (aC ⟨⟨_,a4⟩,?_⟩)
         refine fR rfl ?_
         iterate 1 refine aBh ?_
         refine aY (aC ⟨⟨_,a4⟩,?_⟩)
         refine fR rfl ?_
         iterate 1 refine aBh ?_
         refine aY (aC ⟨⟨_,a4⟩,?_⟩)
         refine fR rfl (aCp ([(-1),(a.L.length:Int),0]:List Int) fun d7 s9 d8=>?_);refine aY (aC ⟨⟨_,d8⟩,?_⟩)
         refine fR rfl ?_;obtain ⟨t0,k6,k7,k8,k9⟩:=aF.lendSp d8 d6 .head
         obtain ⟨r,l0,hm⟩:=aB hm
         refine aAZ call42 (lG l0 k8 (o.mono (zL d6 k6)) k7) ?_
         rintro _ t1 ⟨rfl,l1⟩
         have d9:=k9 _ _ l1
         refine aY (aC ⟨⟨_,d9⟩,?_⟩)
         have e0:=k5 _ _ d9
         refine aHm rfl ?_;obtain ⟨e1,a6,hm⟩:=aB hm
         have e2:=bM e0 (i:=5) rfl a6
         refine aD (cB eW rfl e2 rfl rfl rfl a6) (aAW ?_);refine aHm rfl (aD (aBi (k':=k2.1.toNat * 3+1) aGt e2 rfl rfl) (aAW ?_))
         refine aHm rfl ?_;obtain ⟨a7,e3,hm⟩:=aB hm
         refine eC (i:=5) (t:=1) (ns:=[i64 r.1]) (e':=(⟨e1.F,r.1,e1.To⟩:Edge)) sizeOf2 e0 rfl (zR _) rfl rfl rfl a6 e3 rfl rfl (eB rfl) rfl (fun cs h=>by cases h;rfl) (fun e4 (l2:aF G K (box l 28 (zC a b c d e)::own 2 K d7 3 ([(-1),(a.L.length:Int),0]:List Int)::box b1 74 [zS a2 g.length c3,i64 r.2.1,Value.int .u64 r.2.2]::box n 28 m::own 9 K b c a.L::own 68 K d e a7::box k 28 j::L) e4)=>?_)
         have t2:aF G K (box l 28 [i64 a.N,i64 a.I,zS b a.L.length c,zS d a7.length e]::own 2 K d7 3 ([(-1),(a.L.length:Int),0]:List Int)::box b1 74 [zS a2 g.length c3,i64 r.2.1,Value.int .u64 r.2.2]::box n 28 m::own 9 K b c a.L::own 68 K d e a7::box k 28 j::L) e4:=by rw [←(dH e3)];exact l2
         exact aN
        ·exact aN
       ·refine aAW ?_
        rcases aM hm with ⟨l3,hm⟩|⟨l3,hm⟩
        ·refine aAW ?_
         rcases aM hm with ⟨l4,hm⟩|⟨l4,hm⟩
         ·refine aAW ?_;obtain ⟨l5,l6,hm⟩:=aB hm
          refine aAZ call34 (bH l6 q o) ?_
          rintro _ t3 ⟨rfl,l7⟩
          refine aAW ?_;obtain ⟨t4,e5,t5,t6,l8⟩:=aF.lendBp l7 zt1
          refine aGG [(0,0),(1,0),(2,0),(3,0),(4,1),(5,1),(6,1),(7,1),(8,2),(9,2),(10,2)] fun t7 e6=>?_;refine aAW ?_
          refine fR rfl ?_
          iterate 1 refine aBh ?_
          refine aY (aC ⟨⟨_,e6⟩,?_⟩)
          refine fR rfl ?_
          iterate 1 refine aBh ?_
          refine aY (aC ⟨⟨_,e6⟩,?_⟩)
          refine fR rfl (aCp ([(-1),a.N,0]:List Int) fun e7 t8 e8=>?_);refine aY (aC ⟨⟨_,e8⟩,?_⟩)
          refine fR rfl ?_;obtain ⟨t9,l9,m0,m1,m2⟩:=aF.lendSp e8 e5 .head
          obtain ⟨u,m3,hm⟩:=aB hm
          refine aAZ call42 (lG m3 m1 (o.mono (zL e5 l9)) m0) ?_
          rintro _ u0 ⟨rfl,m4⟩
          have e9:=m2 _ _ m4
          refine aY (aC ⟨⟨_,e9⟩,?_⟩)
          have f0:=l8 _ _ e9
          refine aHm rfl ?_;obtain ⟨f1,a9,hm⟩:=aB hm
          have f2:=bM f0 (i:=5) rfl a9
          refine aD (cB eW rfl f2 rfl rfl rfl a9) (aAW ?_);refine aHm rfl (aD (aBi (k':=l5.1.toNat * 3+2) aKi f2 rfl rfl) (aAW ?_))
          refine aHm rfl ?_;obtain ⟨b0,f3,hm⟩:=aB hm
          refine eC (i:=5) (t:=2) (ns:=[i64 u.1]) (e':=(⟨f1.F,f1.B,u.1⟩:Edge)) sizeOf2 f0 rfl (zR _) rfl rfl rfl a9 f3 rfl rfl (eB rfl) rfl (fun cs h=>by cases h;rfl) (fun f4 (m5:aF G K (box l 28 (zC a b c d e)::own 2 K e7 3 ([(-1),a.N,0]:List Int)::box b1 74 [zS a2 g.length c3,i64 u.2.1,Value.int .u64 u.2.2]::box n 28 m::own 9 K b c a.L::own 68 K d e b0::box k 28 j::L) f4)=>?_)
          have u1:aF G K (box l 28 [i64 a.N,i64 a.I,zS b a.L.length c,zS d b0.length e]::own 2 K e7 3 ([(-1),a.N,0]:List Int)::box b1 74 [zS a2 g.length c3,i64 u.2.1,Value.int .u64 u.2.2]::box n 28 m::own 9 K b c a.L::own 68 K d e b0::box k 28 j::L) f4:=by rw [←(dH f3)];exact m5
          exact aN
         ·exact aN
        ·exact aN
theorem aIg {a:(List UInt8)} {b c:Int} {R:(cN × Int × Int)} (hm:aII a b c=some R) (i:aF G K (box b1 74 [zS a2 a.length c3,i64 b,Value.int .u64 c]::L) w) (j:bI K a2 c3 a):
  Calls prog 30 ([zP (some ⟨b1,0,none⟩)]:List Value).toArray w (dL fun v w'=>∃ d e g h,v=zA (zCa R.1 d e g h)/\aF G K (own 9 K d e R.1.L::own 68 K g h R.1.E::box b1 74 [zS a2 a.length c3,i64 R.2.1,Value.int .u64 R.2.2]::L) w'):=by
 exact aN
theorem xC {a:(List UInt8)} {b c:Int} {R:(aT × Int × Int)} (hm:sA a b c=some R) (k:aF G K (box b1 74 [zS a2 a.length c3,i64 b,Value.int .u64 c]::L) w) (d:bI K a2 c3 a):
  Calls prog 193 ([zP (some ⟨b1,0,none⟩)]:List Value).toArray w (dL fun v w'=>v=zA #[i64 R.1.Kind,i64 R.1.Variable,str R.1.B,zB R.1.Not]/\aF G K (box b1 74 [zS a2 a.length c3,i64 R.2.1,Value.int .u64 R.2.2]::L) w'):=by
 refine aBM func193 ?_;unfold sA at hm
 refine aAW ?_;refine aEx fun e g l=>?_
 refine aAW ?_
 have h:aF G K (box b1 74 [zS a2 a.length c3,i64 b,Value.int .u64 c]::box e 45 [i64 0,i64 0,str ([]:aJ),zB false]::L) g:=aCN
 obtain ⟨m,i,hm⟩:=aB hm
 refine aAZ call34 (bH i h d) ?_
 rintro _ n ⟨rfl,o⟩
 refine aAW ?_;refine aCp ([([]:aJ),([]:aJ),([97]:aJ),([98]:aJ),([116,97,117]:aJ),([103,101,116,42]:aJ),([103,101,116,40,48,41]:aJ),([99]:aJ)]:List aJ) fun p q j=>?_
 obtain ⟨r,t,u,x,y⟩:=aF.lendSp j (zR _) .head
 exact aN
theorem aCf {rec_:(List UInt8)->Int->Int->(List Int)->Int->Option ((List aT) × Int × Int)} (o:∀ {G:rT} {K:Hp} {L:List fM} {w:World} {b1:Nat} {a:(List UInt8)} {a2:Option Addr} {c3:Nat} {t:Int} {u:Int} {g:(List Int)} {a5:Option Addr} {c6:Nat} {h:Int} {R:((List aT) × Int × Int)} (hm:rec_ a t u g h=some R) (hs:aF G K (box b1 74 [zS a2 a.length c3,i64 t,Value.int .u64 u]::L) w) (c:bI K a2 c3 a) (k:bI K a5 c6 g),
  Calls prog 139 ([zP (some ⟨b1,0,none⟩),zS a5 g.length c6,i64 h]:List Value).toArray w (dL fun v w'=>∃ x y,v=zS x R.1.length y/\aF G K (own 45 K x y R.1::box b1 74 [zS a2 a.length c3,i64 R.2.1,Value.int .u64 R.2.2]::L) w'))
  {G:rT} {K:Hp} {L:List fM} {w:World} {b1:Nat} {a:(List UInt8)} {a2:Option Addr} {c3:Nat} {t:Int} {u:Int} {g:(List Int)} {a5:Option Addr} {c6:Nat} {h:Int} {R:((List aT) × Int × Int)} (hm:tW rec_ a t u g h=some R) (hs:aF G K (box b1 74 [zS a2 a.length c3,i64 t,Value.int .u64 u]::L) w) (c:bI K a2 c3 a) (k:bI K a5 c6 g):
  Calls prog 139 ([zP (some ⟨b1,0,none⟩),zS a5 g.length c6,i64 h]:List Value).toArray w (dL fun v w'=>∃ x y,v=zS x R.1.length y/\aF G K (own 45 K x y R.1::box b1 74 [zS a2 a.length c3,i64 R.2.1,Value.int .u64 R.2.2]::L) w'):=by
 refine aBM func139 ?_;unfold tW at hm
 refine aAW ?_
 rcases aM hm with ⟨c8,hm⟩|⟨c8,hm⟩
 ·iterate 3 refine aBh ?_
  refine bD [0,1] (fun f w=>∃ s9 a9 b0,oN a g s9 a9 b0=some R/\f 26=zB b0/\aF G K (box b1 74 [zS a2 a.length c3,i64 s9,Value.int .u64 a9]::L) w) ?_ ?_
  ·rintro f r6 ⟨s9,a9,b0,hm,r7,c5⟩
   unfold oN at hm
   refine aAW ?_
   rcases aM hm with ⟨f1,hm⟩|⟨f1,hm⟩
   ·refine aAW ?_;obtain ⟨b2,f2,hm⟩:=aB hm
    refine aAZ call42 (lG f2 c5 c k) ?_
    rintro _ r8 ⟨rfl,r9⟩
    refine aD (cO (vs:=[(0,i64 6),(1,i64 b2.1)]) (cs:=[i64 6,i64 b2.1,str ([]:aJ),zB false]) mC rfl (by kernel_rfl)) (aCp ([⟨6,b2.1,([]:aJ),false⟩]:List aT) fun f3 s0 f4=>?_);refine aAW ?_
    obtain rfl:=zI hm
    exact nD (kJ (kJ (oW results139 rfl ⟨f3,1,rfl,f4⟩)))
   ·refine aAW ?_;obtain ⟨b3,f6,hm⟩:=aB hm
    refine aAZ call34 (bH f6 c5 c) ?_
    rintro _ s1 ⟨rfl,s2⟩
    refine aD (cO (vs:=[(0,i64 b3.1)]) (cs:=[i64 b3.1,i64 0,str ([]:aJ),zB false]) mC rfl (by kernel_rfl)) (aCp ([⟨b3.1,0,([]:aJ),false⟩]:List aT) fun f7 s3 f8=>?_);refine aAW ?_
    obtain rfl:=zI hm
    exact nD (kJ (oW results139 rfl ⟨f7,1,rfl,f8⟩))
  exact aN
 ·refine aAW ?_;obtain ⟨p,g0,hm⟩:=aB hm
  refine aAZ call34 (bH g0 hs c) ?_
  rintro _ s4 ⟨rfl,s5⟩
  refine aAW ?_;refine bZ (gQ [0,1,2,37] (fun f w=>∃ b4,jW rec_ a g h p b4=some R/\f 38=zB b4/\aF G K (box b1 74 [zS a2 a.length c3,i64 p.2.1,Value.int .u64 p.2.2]::L) w) ?_ ?_)
  ·rintro f s6 ⟨b4,hm,s7,g1⟩
   unfold jW at hm
   rcases aM hm with ⟨g2,hm⟩|⟨g2,hm⟩
   ·refine aAW ?_;obtain ⟨a4,g3,hm⟩:=aB hm
    refine aAZ call193 (xC g3 g1 c) ?_
    rintro _ s8 ⟨rfl,t0⟩
    refine aCp ([a4.1]:List aT) fun g4 g5 t1=>?_;refine aAW ?_
    have g6:aF G K (box b1 74 [zS a2 a.length c3,i64 a4.2.1,Value.int .u64 a4.2.2]::own 45 K g4 1 ([a4.1]:List aT)::L) g5:=aCN
    obtain ⟨t2,g7,hm⟩:=aB hm
    exact aAZ call139 (o g7 g6 c k) aN
   ·iterate 1 refine aBh ?_
    refine gQ [0,1,2,37] (fun f w=>∃ b5,oP rec_ a g h p b5=some R/\f 51=zB b5/\aF G K (box b1 74 [zS a2 a.length c3,i64 p.2.1,Value.int .u64 p.2.2]::L) w) ?_ ?_
    ·rintro f t3 ⟨b5,hm,t4,b6⟩
     unfold oP at hm
     rcases aM hm with ⟨g8,hm⟩|⟨g8,hm⟩
     ·refine aAW ?_;obtain ⟨n,g9,hm⟩:=aB hm
      refine aAZ call34 (bH g9 b6 c) ?_
      rintro _ t5 ⟨rfl,t6⟩
      iterate 1 refine aBh ?_
      refine aD (cO (vs:=[(0,i64 (wr (2+n.1)))]) (cs:=[i64 (wr (2+n.1)),i64 0,str ([]:aJ),zB false]) mC rfl (by kernel_rfl)) (aCp ([⟨wr (2+n.1),0,([]:aJ),false⟩]:List aT) fun b7 h0 t7=>?_);refine aAW ?_
      obtain ⟨t8,h1,hm⟩:=aB hm
      refine aD (aLz rfl rfl h1) ?_
      have h2:aF G K (box b1 74 [zS a2 a.length c3,i64 n.2.1,Value.int .u64 n.2.2]::own 45 K b7 1 ([⟨wr (2+n.1),0,([]:aJ),false⟩]:List aT)::L) h0:=aCN
      obtain ⟨a6,h3,hm⟩:=aB hm
      refine aAZ call139 (o h3 h2 c k) ?_
      rintro _ h5 ⟨c7,c9,rfl,t9⟩
      iterate 9 refine aBh ?_
      obtain ⟨u0,h6,hm⟩:=aB hm
      refine aD (aLz rfl rfl h6) ?_
      have h8:aF G K (box b1 74 [zS a2 a.length c3,i64 a6.2.1,Value.int .u64 a6.2.2]::own 45 K c7 c9 a6.1::own 45 K b7 1 ([⟨wr (2+n.1),0,([]:aJ),false⟩]:List aT)::L) h5:=aCN
      obtain ⟨b8,h9,hm⟩:=aB hm
      refine aAZ call139 (o h9 h8 c k) ?_
      rintro _ i0 ⟨i1,i2,rfl,u1⟩
      refine aAW ?_;obtain ⟨u2,u3,hm⟩:=aB hm
      have u4:aF G K (own 45 K c7 c9 a6.1::own 45 K i1 i2 b8.1::box b1 74 [zS a2 a.length c3,i64 b8.2.1,Value.int .u64 b8.2.2]::own 45 K b7 1 ([⟨wr (2+n.1),0,([]:aJ),false⟩]:List aT)::L) i0:=aCN
      exact aN
     ·refine aAW ?_
      rcases aM hm with ⟨i3,hm⟩|⟨i3,hm⟩
      ·refine aAW ?_;obtain ⟨l,i4,hm⟩:=aB hm
       refine aAZ call34 (bH i4 b6 c) ?_
       rintro _ u5 ⟨rfl,i5⟩
       refine aAW ?_;obtain ⟨d,i6,hm⟩:=aB hm
       refine aAZ call34 (bH i6 i5 c) ?_
       rintro _ u6 ⟨rfl,u7⟩
       refine aD (cO (vs:=[(0,i64 (wr (7+l.1))),(1,i64 d.1)]) (cs:=[i64 (wr (7+l.1)),i64 d.1,str ([]:aJ),zB false]) mC rfl (by kernel_rfl)) (aEx fun i7 u8 u9=>?_);refine aFy fun v0 i8=>?_
       refine aAW ?_;refine bD [0,2,11] (fun f w=>∃ q z J,wK rec_ a h l d q=some R/\f 12=zS z q.length J/\aF G K (own 2 K z J q::box i7 45 [i64 (wr (7+l.1)),i64 d.1,str ([]:aJ),zB false]::box b1 74 [zS a2 a.length c3,i64 d.2.1,Value.int .u64 d.2.2]::L) w) ?_ ?_
       ·rintro f v1 ⟨q,z,J,hm,v2,i9⟩
        unfold wK at hm
        refine aAW ?_;refine bD [] (fun f w=>∃ b9 d0 d1 d2 d3,aBp b9 d0 d1=some R/\f 6=zS d2 b9.length d3/\aF G K (own 45 K d2 d3 b9::box b1 74 [zS a2 a.length c3,i64 d0,Value.int .u64 d1]::L) w) aN ?_
        obtain ⟨c0,a7,v3,j0,v4⟩:=aF.lendBp i9 zt1
        refine aBj (C:=fun w'=>∃ L',aF G c0 L' w') [] Tryz_mixed (by kernel_rfl) (fun v5 j1=>?_)
        have j2:=aF.mono j0 j1
        refine aDz 0 ?_;refine aDz 2 ?_
        refine aDz 3 ?_;refine aDz 4 ?_
        refine aDz 5 ?_;refine aED (i:=1) (j:=6) (by kernel_rfl) rfl rfl ?_ ?_
        ·refine aCp ([⟨wr (7+l.1),d.1,([]:aJ),false⟩]:List aT) fun d4 j3 d5=>?_;refine aY (aC ⟨fun _=>⟨_,d5⟩,?_⟩)
         refine fK (i:=6) (by kernel_rfl) rfl ?_;obtain ⟨j4,j5,j6,v6,j7⟩:=aF.lendSp d5 a7 zt1
         have j8:aF G j4 (box b1 74 [zS a2 a.length c3,i64 d.2.1,Value.int .u64 d.2.2]::own 45 K d4 1 ([⟨wr (7+l.1),d.1,([]:aJ),false⟩]:List aT)::L) j3:=aCN
         obtain ⟨c1,j9,hm⟩:=aB hm
         refine aAZ call139 (o j9 j8 (c.mono (zL a7 j5)) j6) ?_
         rintro _ k0 ⟨k1,k2,rfl,k3⟩
         have k4:=j7 _ _ k3
         refine aY (aC ⟨fun _=>⟨_,k4⟩,?_⟩)
         refine fK (i:=7) (by kernel_rfl) rfl ?_;obtain ⟨v7,v8,hm⟩:=aB hm
         have v9:aF G c0 (own 45 K k1 k2 c1.1::own 2 K z J q::box b1 74 [zS a2 a.length c3,i64 c1.2.1,Value.int .u64 c1.2.2]::own 45 K d4 1 ([⟨wr (7+l.1),d.1,([]:aJ),false⟩]:List aT)::L) k0:=aCN
         refine aNS fun w0 w1 w2 k5=>?_;refine aY (aC ⟨fun _=>⟨_,k5⟩,?_⟩)
         refine aDz 8 ?_;exact sX (by kernel_rfl) aN
        ·obtain ⟨w3,k6,k7,k8,k9⟩:=aF.lendSp j2 a7 .head
         obtain ⟨c2,l0,hm⟩:=aB hm
         refine aAZ call139 (o l0 k8 (c.mono (zL a7 k6)) k7) ?_
         rintro _ w4 ⟨l1,l2,rfl,l3⟩
         have l4:=k9 _ _ l3
         refine aY (aC ⟨fun _=>⟨_,l4⟩,?_⟩)
         refine fK (i:=1) (by kernel_rfl) rfl (aCp ([⟨wr (7+l.1),d.1,([]:aJ),false⟩]:List aT) fun l5 l6 l7=>?_);refine aY (aC ⟨fun _=>⟨_,l7⟩,?_⟩)
         refine fK (i:=7) (by kernel_rfl) rfl ?_;obtain ⟨w5,w6,hm⟩:=aB hm
         have w7:aF G c0 (own 45 K l1 l2 c2.1::own 45 K l5 1 ([⟨wr (7+l.1),d.1,([]:aJ),false⟩]:List aT)::own 2 K z J q::box b1 74 [zS a2 a.length c3,i64 c2.2.1,Value.int .u64 c2.2.2]::L) l6:=aCN
         refine aNS fun w8 w9 x0 l8=>?_;refine aY (aC ⟨fun _=>⟨_,l8⟩,?_⟩)
         refine aDz 8 ?_;exact sX (by kernel_rfl) aN
       obtain ⟨d6,d7,x1,l9,d8⟩:=aF.lendBp i8 .head
       refine aBj (C:=fun w'=>∃ L',aF G d6 L' w') [] Tryz_mixed (by kernel_rfl) (fun x2 m0=>?_)
       have m1:=aF.mono l9 m0
       refine aDz 0 ?_;refine aDz 2 ?_
       refine aDz 3 ?_;refine aED (i:=1) (j:=4) (by kernel_rfl) rfl rfl ?_ ?_
       ·obtain ⟨x3,m2,hm⟩:=aB hm
        refine aAZ call109 (mL m2 m1 (k.mono d7)) ?_
        rintro _ x4 ⟨x5,x6,rfl,m3⟩
        refine aY (aC ⟨fun _=>⟨_,m3⟩,?_⟩)
        refine fK (i:=4) (by kernel_rfl) rfl (aCp ([d.1]:List Int) fun x7 x8 m4=>?_);refine aY (aC ⟨fun _=>⟨_,m4⟩,?_⟩)
        refine fK (i:=5) (by kernel_rfl) rfl ?_;obtain ⟨x9,y0,hm⟩:=aB hm
        refine aNS fun y1 y2 y3 d9=>?_;refine aY (aC ⟨fun _=>⟨_,d9⟩,?_⟩)
        refine aDz 6 ?_;refine sX (by kernel_rfl) ?_
        have y4:=d8 _ _ d9
        exact aN
       ·refine aCp ([d.1]:List Int) fun m5 y5 e0=>?_;refine aY (aC ⟨fun _=>⟨_,e0⟩,?_⟩)
        refine fK (i:=1) (by kernel_rfl) rfl ?_;obtain ⟨m6,m7,hm⟩:=aB hm
        refine aAZ call109 (mL m7 e0 (k.mono d7)) ?_
        rintro _ m8 ⟨m9,n0,rfl,n1⟩
        refine aY (aC ⟨fun _=>⟨_,n1⟩,?_⟩)
        refine fK (i:=5) (by kernel_rfl) rfl ?_;obtain ⟨y6,y7,hm⟩:=aB hm
        have y8:aF G d6 (own 2 K m5 1 ([d.1]:List Int)::own 2 K m9 n0 m6::box b1 74 [zS a2 a.length c3,i64 d.2.1,Value.int .u64 d.2.2]::L) m8:=aCN
        refine aNS fun y9 z0 z1 e1=>?_;refine aY (aC ⟨fun _=>⟨_,e1⟩,?_⟩)
        refine aDz 6 ?_;refine sX (by kernel_rfl) ?_
        have z2:=d8 _ _ e1
        exact aN
      ·refine aAW ?_;obtain ⟨z3,n2,hm⟩:=aB hm
       refine aAZ call32 (nJ n2 b6 c) ?_
       rintro _ z4 ⟨rfl,e2⟩
       refine aAW ?_
       rcases aM hm with ⟨n3,hm⟩|⟨n3,hm⟩
       ·refine aAW ?_;obtain ⟨z5,n4,hm⟩:=aB hm
        refine aD (aLz rfl rfl n4) ?_;obtain ⟨z6,n5,hm⟩:=aB hm
        exact aAZ call139 (o n5 e2 c k) aN
       ·refine aAW ?_;obtain ⟨e,n6,hm⟩:=aB hm
        refine aAZ call34 (bH n6 e2 c) ?_
        rintro _ z7 ⟨rfl,n7⟩
        refine aAW ?_;obtain ⟨b,n8,hm⟩:=aB hm
        refine aAZ call34 (bH n8 n7 c) ?_
        rintro _ z8 ⟨rfl,z9⟩
        refine aD (cO (vs:=[(0,i64 (wr (7+e.1))),(1,i64 b.1)]) (cs:=[i64 (wr (7+e.1)),i64 b.1,str ([]:aJ),zB false]) mC rfl (by kernel_rfl)) (aEx fun Z a00 a01=>?_);refine aFy fun a02 a03=>?_
        iterate 7 refine aBh ?_
        refine gQ [0,1,2,13] (fun f w=>∃ m,oO rec_ a g h e b m=some R/\f 14=i64 m/\aF G K (box Z 45 [i64 (wr (7+e.1)),i64 b.1,str ([]:aJ),zB false]::box b1 74 [zS a2 a.length c3,i64 b.2.1,Value.int .u64 b.2.2]::L) w) ?_ ?_
        ·rintro f a04 ⟨m,hm,a05,n9⟩
         unfold oO at hm
         refine aAW ?_;refine bD [0,2,13,14] (fun f w=>∃ r a0 a1,wL rec_ a h e b m r=some R/\f 15=zS a0 r.length a1/\aF G K (own 2 K a0 a1 r::box Z 45 [i64 (wr (7+e.1)),i64 b.1,str ([]:aJ),zB false]::box b1 74 [zS a2 a.length c3,i64 b.2.1,Value.int .u64 b.2.2]::L) w) ?_ ?_
         ·rintro f a06 ⟨r,a0,a1,hm,a07,a08⟩
          unfold wL at hm
          iterate 5 refine aBh ?_
          refine aD (cO (vs:=[(0,i64 m)]) (cs:=[i64 m,i64 0,str ([]:aJ),zB false]) mC rfl (by kernel_rfl)) (aCp ([⟨wr (7+e.1),b.1,([]:aJ),false⟩,⟨m,0,([]:aJ),false⟩]:List aT) fun e3 o0 o1=>?_);refine aAW ?_
          obtain ⟨a09,o2,hm⟩:=aB hm
          refine aD (aLz rfl rfl o2) ?_;obtain ⟨o3,o4,o5,a10,o6⟩:=aF.lendSp o1 (zR _) zt1
          have o7:aF G o3 (box b1 74 [zS a2 a.length c3,i64 b.2.1,Value.int .u64 b.2.2]::own 45 K e3 2 ([⟨wr (7+e.1),b.1,([]:aJ),false⟩,⟨m,0,([]:aJ),false⟩]:List aT)::box Z 45 [i64 (wr (7+e.1)),i64 b.1,str ([]:aJ),zB false]::L) o0:=aCN
          obtain ⟨a3,o8,hm⟩:=aB hm
          refine aAZ call139 (o o8 o7 (c.mono o4) o5) ?_
          rintro _ o9 ⟨p0,p1,rfl,p2⟩
          have a11:=o6 _ _ p2
          obtain ⟨p3,a12,hm⟩:=aB hm
          have a13:aF G K (own 45 K p0 p1 a3.1::own 2 K a0 a1 r::box b1 74 [zS a2 a.length c3,i64 a3.2.1,Value.int .u64 a3.2.2]::own 45 K e3 2 ([⟨wr (7+e.1),b.1,([]:aJ),false⟩,⟨m,0,([]:aJ),false⟩]:List aT)::box Z 45 [i64 (wr (7+e.1)),i64 b.1,str ([]:aJ),zB false]::L) o9:=aCN
          refine aNS fun p4 p5 p6 a14=>?_;refine aAW ?_
          have p7:aF G K (box b1 74 [zS a2 a.length c3,i64 a3.2.1,Value.int .u64 a3.2.2]::own 2 K a0 a1 r::own 45 K p4 p5 p3::box Z 45 [i64 (wr (7+e.1)),i64 b.1,str ([]:aJ),zB false]::L) p6:=aCN
          obtain ⟨p8,p9,hm⟩:=aB hm
          refine aAZ call193 (xC p9 p7 c) ?_
          rintro _ a15 ⟨rfl,a16⟩
          refine aCp ([p8.1]:List aT) fun a17 a18 a19=>?_;obtain ⟨a20,a22,hm⟩:=aB hm
          refine aNS fun a23 a24 a25 a26=>?_
          iterate 8 refine aBh ?_
          refine aD (cO (vs:=[(0,i64 6),(1,i64 b.1)]) (cs:=[i64 6,i64 b.1,str ([]:aJ),zB false]) mC rfl (by kernel_rfl)) (aCp ([⟨6,b.1,([]:aJ),false⟩]:List aT) fun a27 a28 a29=>?_);obtain ⟨a31,a32,hm⟩:=aB hm
          refine aNS fun q0 q1 a33 a34=>?_;refine aAW ?_
          obtain rfl:=zI hm
          exact aOM results139 ⟨q0,q1,rfl,aCN⟩
         obtain ⟨e4,e5,a35,q3,e6⟩:=aF.lendBp n9 .head
         refine aBj (C:=fun w'=>∃ L',aF G e4 L' w') [] Tryz_mixed (by kernel_rfl) (fun a36 q4=>?_)
         have q5:=aF.mono q3 q4
         refine aDz 0 ?_;refine aDz 2 ?_
         refine aDz 3 ?_;refine aED (i:=1) (j:=4) (by kernel_rfl) rfl rfl ?_ ?_
         ·obtain ⟨a37,q6,hm⟩:=aB hm
          refine aAZ call109 (mL q6 q5 (k.mono e5)) ?_
          rintro _ a38 ⟨a39,a40,rfl,q7⟩
          refine aY (aC ⟨fun _=>⟨_,q7⟩,?_⟩)
          refine fK (i:=4) (by kernel_rfl) rfl (aCp ([b.1]:List Int) fun a41 a42 q8=>?_);refine aY (aC ⟨fun _=>⟨_,q8⟩,?_⟩)
          refine fK (i:=5) (by kernel_rfl) rfl ?_;obtain ⟨a43,a44,hm⟩:=aB hm
          refine aNS fun a45 a46 a47 e7=>?_;refine aY (aC ⟨fun _=>⟨_,e7⟩,?_⟩)
          refine aDz 6 ?_;refine sX (by kernel_rfl) ?_
          have a48:=e6 _ _ e7
          exact aN
         ·refine aCp ([b.1]:List Int) fun q9 a49 e8=>?_;refine aY (aC ⟨fun _=>⟨_,e8⟩,?_⟩)
          refine fK (i:=1) (by kernel_rfl) rfl ?_;obtain ⟨r0,r1,hm⟩:=aB hm
          refine aAZ call109 (mL r1 e8 (k.mono e5)) ?_
          rintro _ r2 ⟨r3,r4,rfl,r5⟩
          refine aY (aC ⟨fun _=>⟨_,r5⟩,?_⟩)
          refine fK (i:=5) (by kernel_rfl) rfl ?_;obtain ⟨a50,a51,hm⟩:=aB hm
          have a52:aF G e4 (own 2 K q9 1 ([b.1]:List Int)::own 2 K r3 r4 r0::box b1 74 [zS a2 a.length c3,i64 b.2.1,Value.int .u64 b.2.2]::L) r2:=aCN
          refine aNS fun a53 a54 a56 e9=>?_;refine aY (aC ⟨fun _=>⟨_,e9⟩,?_⟩)
          refine aDz 6 ?_;refine sX (by kernel_rfl) ?_
          have a57:=e6 _ _ e9
          exact aN
        exact aN
    exact aN
  exact aN
theorem aCg (n:Nat):∀ {G:rT} {K:Hp} {L:List fM} {w:World} {b1:Nat} {a:(List UInt8)} {a2:Option Addr} {c3:Nat} {g:Int} {h:Int} {b:(List Int)} {a5:Option Addr} {c6:Nat} {i:Int} {R:((List aT) × Int × Int)} (hm:lJ n a g h b i=some R) (c:aF G K (box b1 74 [zS a2 a.length c3,i64 g,Value.int .u64 h]::L) w) (d:bI K a2 c3 a) (e:bI K a5 c6 b),
  Calls prog 139 ([zP (some ⟨b1,0,none⟩),zS a5 b.length c6,i64 i]:List Value).toArray w (dL fun v w'=>∃ j k,v=zS j R.1.length k/\aF G K (own 45 K j k R.1::box b1 74 [zS a2 a.length c3,i64 R.2.1,Value.int .u64 R.2.2]::L) w'):=by
 induction n with
 |zero=>
  intro G K L w b1 a a2 c3 g h b a5 c6 i R hm c d e
  unfold lJ at hm
  cases hm
 |succ n ih=>
  intro G K L w b1 a a2 c3 g h b a5 c6 i R hm c d e
  exact aCf (rec_:=lJ n) (fun hm c d e=>ih hm c d e) hm c d e
theorem aEn {s0_:(List UInt8)} {s1_ s2_:Int} {bound:(List Int)} {most:Int} {R:((List aT) × Int × Int)} (hm:aFp s0_ s1_ s2_ bound most=some R) (hs:aF G K (box b1 74 [zS a2 s0_.length c3,i64 s1_,Value.int .u64 s2_]::L) w) (h4:bI K a2 c3 s0_) (h7:bI K a5 c6 bound):
  Calls prog 139 ([zP (some ⟨b1,0,none⟩),zS a5 bound.length c6,i64 most]:List Value).toArray w (dL fun v w'=>∃ ra0 rc0,v=zS ra0 R.1.length rc0/\aF G K (own 45 K ra0 rc0 R.1::box b1 74 [zS a2 s0_.length c3,i64 R.2.1,Value.int .u64 R.2.2]::L) w'):=aCg 100000 hm hs h4 h7
end Gv
namespace Gv
open Gv.Hp renaming le_refl→zR
open Go.Value renaming slice→zS,bool→zB,pointer→zP,agg→zA
open Option.some renaming inj→zI
open Gv.Hp renaming le_trans→zL
open Go Go.Proofs Go.Proofs.Tryz
set_option maxRecDepth 20000
set_option maxHeartbeats 40000000
variable {G:rT} {K:Hp} {L:List fM} {w:World} {b1 c3 c6 c2 c5:Nat} {a2 a5 a1 a4:Option Addr}
theorem aLk {a:(List UInt8)} {b c:Int} {R:((List aT) × Int × Int)} (hm:aBV a b c=some R) (hs:aF G K (box b1 74 [zS a2 a.length c3,i64 b,Value.int .u64 c]::L) w) (h:bI K a2 c3 a):
  Calls prog 77 ([zP (some ⟨b1,0,none⟩)]:List Value).toArray w (dL fun v w'=>∃ i j,v=zS i R.1.length j/\aF G K (own 45 K i j R.1::box b1 74 [zS a2 a.length c3,i64 R.2.1,Value.int .u64 R.2.2]::L) w'):=by
 refine aBM func77 ?_;unfold aBV at hm
 refine aAW ?_;refine aCp ([]:List Int) fun l m a4=>?_
 refine aAW ?_
 have n:aF G K (box b1 74 [zS a2 a.length c3,i64 b,Value.int .u64 c]::own 2 K l 0 ([]:List Int)::L) m:=aCN
 obtain ⟨r9,o,hm⟩:=aB hm
 refine aAZ call34 (bH o n h) ?_
 rintro _ a7 ⟨rfl,p⟩
 refine aAW ?_;obtain ⟨a8,q,r,t,u⟩:=aF.lendSp p (zR _) zt1
 obtain ⟨k,x,hm⟩:=aB hm
 refine aAZ call139 (aEn x t (h.mono q) r) ?_
 rintro _ a9 ⟨y,z,rfl,J⟩
 have b0:=u _ _ J
 iterate 5 refine aBh ?_
 refine bD [3] (fun f w=>∃ d e g,pC k d e g=some R/\f 22=zB d/\aF G K (own 45 K y z k.1::box b1 74 [zS a2 a.length c3,i64 e,Value.int .u64 g]::L) w) ?_ ?_
 ·rintro f b2 ⟨d,e,g,hm,b3,b4⟩
  unfold pC at hm
  refine aAW ?_
  rcases aM hm with ⟨Z,hm⟩|⟨Z,hm⟩
  ·iterate 3 refine aBh ?_
   refine aD (cO (vs:=[(0,i64 7),(1,i64 1)]) (cs:=[i64 7,i64 1,str ([]:aJ),zB false]) mC rfl (by kernel_rfl)) (aD (cO (vs:=[(0,i64 4),(2,str ([97]:aJ))]) (cs:=[i64 4,i64 0,str ([97]:aJ),zB false]) mC rfl (by kernel_rfl)) (aD (cO (vs:=[(0,i64 6),(1,i64 1)]) (cs:=[i64 6,i64 1,str ([]:aJ),zB false]) mC rfl (by kernel_rfl)) (aCp ([⟨7,1,([]:aJ),false⟩,⟨4,0,([97]:aJ),false⟩,⟨6,1,([]:aJ),false⟩]:List aT) fun a0 b5 b6=>?_)))
   refine aAW ?_;obtain rfl:=zI hm
   exact nD (kJ (oW results77 rfl ⟨a0,3,rfl,aCN⟩))
  ·exact aN
 exact aN
theorem aNk {c:(List UInt8)} {a1 a3:Int} {f_:(List aT)} {R:((List aT) × Int × Int)} (hm:aFM c a1 a3 f_=some R) (hs:aF G K (box b1 74 [zS a2 c.length c3,i64 a1,Value.int .u64 a3]::L) w) (d:bI K a2 c3 c) (h7:bI K a5 c6 f_):
  Calls prog 78 ([zP (some ⟨b1,0,none⟩),zS a5 f_.length c6]:List Value).toArray w (dL fun v w'=>∃ b5 b6,v=zS b5 R.1.length b6/\aF G K (own 45 K b5 b6 R.1::box b1 74 [zS a2 c.length c3,i64 R.2.1,Value.int .u64 R.2.2]::L) w'):=by
 let b7:=box b1 74 [zS a2 c.length c3,i64 a1,Value.int .u64 a3]
 refine aBM func78 ?_;unfold aFM at hm
 refine aAW ?_;refine aCp ([]:List aT) fun a8 w9 e6=>?_
 refine aAW ?_;obtain ⟨b8,e7,hm⟩:=aB hm
 refine aFg (i:=0) gS underlying24 uU rfl rfl e6 rfl (zR _) h7 e7 rfl rfl rfl rfl (fun a b b9 (k1:aF G K (own 45 K a b b8::b7::L) b9)=>(aAW ?_))
 have e8:aF G K (b7::own 45 K a b b8::L) b9:=aCN
 obtain ⟨k2,e9,hm⟩:=aB hm
 refine aAZ call32 (nJ e9 e8 d) ?_
 rintro _ k3 ⟨rfl,f0⟩
 refine aAW ?_
 rcases aM hm with ⟨f1,hm⟩|⟨f1,hm⟩
 ·exact aN
 ·refine aAW ?_;obtain ⟨l,f2,hm⟩:=aB hm
  refine aAZ call34 (bH f2 f0 d) ?_
  rintro _ k4 ⟨rfl,f3⟩
  refine aAW ?_;obtain ⟨e,f4,hm⟩:=aB hm
  refine aAZ call34 (bH f4 f3 d) ?_
  rintro _ f5 ⟨rfl,m⟩
  refine aAW ?_;refine aS [] (fun f w=>∃ a6 c0 c1 c2 c4,qG a6 c0 c1=some R/\f 5=zS c2 a6.length c4/\aF G K (box b1 74 [zS a2 c.length c3,i64 c0,Value.int .u64 c1]::own 45 K c2 c4 a6::L) w) aN (aAW ?_)
  rcases aM hm with ⟨f6,hm⟩|⟨f6,hm⟩
  ·refine aAW ?_;obtain ⟨g,f7,hm⟩:=aB hm
   refine aAZ call34 (bH f7 m d) ?_
   rintro _ k5 ⟨rfl,c5⟩
   refine aAW ?_;obtain ⟨a7,a9,hm⟩:=aB hm
   have c7:=bM c5 (i:=1) rfl a9
   refine aD (cB gS rfl c7 rfl rfl rfl a9) (aD (aBi (k':=l.1.toNat * 4+0) yD c7 rfl rfl) ?_);obtain ⟨c8,c9,hm⟩:=aB hm
   refine eC (i:=1) (t:=0) (ns:=[i64 (wr (g.1 - 1))]) (e':=(⟨wr (g.1 - 1),a7.Variable,a7.B,a7.Not⟩:aT)) sizeOf2 c5 rfl (zR _) rfl rfl rfl a9 c9 rfl rfl (eB rfl) rfl (fun cs h=>by cases h;rfl) (fun f8 (f9:aF G K (box b1 74 [zS a2 c.length c3,i64 g.2.1,Value.int .u64 g.2.2]::own 45 K a b c8::L) f8)=>(aAW ?_));exact ⟨bG,c8,g.2.1,g.2.2,a,b,hm,(Eq.trans rfl (congrArg (fun n=>zS a n b) (dH c9))),f9⟩
  ·refine aAW ?_
   rcases aM hm with ⟨g0,hm⟩|⟨g0,hm⟩
   ·refine aAW ?_;refine aCp ([(-1),0,1,2,3]:List Int) fun g1 k6 g2=>?_
    obtain ⟨k7,g3,g4,g5,g6⟩:=aF.lendSp g2 (zR _) .head
    obtain ⟨j,g7,hm⟩:=aB hm
    refine aAZ call42 (lG g7 g5 (d.mono g3) g4) ?_
    rintro _ k8 ⟨rfl,g8⟩
    have d0:=g6 _ _ g8
    obtain ⟨b0,b2,hm⟩:=aB hm
    have d1:=bM d0 (i:=2) rfl b2
    refine aD (cB gS rfl d1 rfl rfl rfl b2) (aD (aBi (k':=l.1.toNat * 4+1) aKk d1 rfl rfl) ?_);obtain ⟨d2,d3,hm⟩:=aB hm
    refine eC (i:=2) (t:=1) (ns:=[i64 j.1]) (e':=(⟨b0.Kind,j.1,b0.B,b0.Not⟩:aT)) sizeOf2 d0 rfl (zR _) rfl rfl rfl b2 d3 rfl rfl (eB rfl) rfl (fun cs h=>by cases h;rfl) (fun g9 (k9:aF G K (own 2 K g1 5 ([(-1),0,1,2,3]:List Int)::box b1 74 [zS a2 c.length c3,i64 j.2.1,Value.int .u64 j.2.2]::own 45 K a b d2::L) g9)=>(aAW ?_));exact ⟨bG,d2,j.2.1,j.2.2,a,b,hm,(Eq.trans rfl (congrArg (fun n=>zS a n b) (dH d3))),aCN⟩
   ·refine aAW ?_
    rcases aM hm with ⟨h0,hm⟩|⟨h0,hm⟩
    ·refine aAW ?_;refine aCp ([([97]:aJ),([]:aJ),([116,97,117,42]:aJ),([97,40,54,52,41]:aJ),([103,101,116,42]:aJ)]:List aJ) fun h1 l0 h2=>?_
     obtain ⟨l1,h3,h5,h6,h8⟩:=aF.lendSp h2 (zR _) .head
     obtain ⟨k,h9,hm⟩:=aB hm
     refine aAZ call138 (yZ h9 h6 (d.mono h3) h5) ?_
     rintro _ l2 ⟨rfl,i0⟩
     have d4:=h8 _ _ i0
     obtain ⟨b3,b4,hm⟩:=aB hm
     have d5:=bM d4 (i:=2) rfl b4
     refine aD (cB gS rfl d5 rfl rfl rfl b4) (aD (aBi (k':=l.1.toNat * 4+2) aKj d5 rfl rfl) ?_);obtain ⟨d6,d7,hm⟩:=aB hm
     refine eC (i:=2) (t:=2) (ns:=[str k.1]) (e':=(⟨b3.Kind,b3.Variable,k.1,b3.Not⟩:aT)) sizeOf9 d4 rfl (zR _) rfl rfl rfl b4 d7 rfl rfl (eB rfl) rfl (fun cs h=>by cases h;rfl) (fun i1 (l3:aF G K (own 9 K h1 5 ([([97]:aJ),([]:aJ),([116,97,117,42]:aJ),([97,40,54,52,41]:aJ),([103,101,116,42]:aJ)]:List aJ)::box b1 74 [zS a2 c.length c3,i64 k.2.1,Value.int .u64 k.2.2]::own 45 K a b d6::L) i1)=>(aAW ?_))
     exact ⟨bG,d6,k.2.1,k.2.2,a,b,hm,(Eq.trans rfl (congrArg (fun n=>zS a n b) (dH d7))),aCN⟩
    ·refine aAW ?_
     rcases aM hm with ⟨i2,hm⟩|⟨i2,hm⟩
     ·refine aAW ?_;obtain ⟨o,q,hm⟩:=aB hm
      have r:=bM m (i:=1) rfl q
      refine aD (cB gS rfl r rfl rfl rfl q) (aD (aBi (k':=l.1.toNat * 4+3) aMt r rfl rfl) ?_)
      iterate 2 refine aBh ?_
      refine aD (cB gS rfl r rfl rfl rfl q) (aD (aBi (k':=l.1.toNat * 4+3) aMt r rfl rfl) ?_);obtain ⟨d8,d9,hm⟩:=aB hm
      refine eC (i:=1) (t:=3) (ns:=[zB (!o.Not)]) (e':=(⟨o.Kind,o.Variable,o.B,!o.Not⟩:aT)) sizeOf4 m rfl (zR _) rfl rfl rfl q d9 rfl rfl (eB rfl) rfl (fun cs h=>by cases h;rfl) (fun i3 (i4:aF G K (box b1 74 [zS a2 c.length c3,i64 e.2.1,Value.int .u64 e.2.2]::own 45 K a b d8::L) i3)=>(aAW ?_));exact ⟨bG,d8,e.2.1,e.2.2,a,b,hm,(Eq.trans rfl (congrArg (fun n=>zS a n b) (dH d9))),i4⟩
     ·refine aAW ?_
      rcases aM hm with ⟨i5,hm⟩|⟨i5,hm⟩
      ·refine aAW ?_;obtain ⟨i6,e0,hm⟩:=aB hm
       have i7:=qA m (i:=1) rfl
       obtain ⟨i8,i9,e1⟩:=Cut.ex 4 a b 0
       refine aD (aKV gS i7 e1 rfl rfl rfl e0) (aAW ?_)
       have l4:aF G K (box b1 74 [zS a2 c.length c3,i64 e.2.1,Value.int .u64 e.2.2]::own 45 K i8 i9 i6::L) f5:=aF.cutP m (i:=1) rfl e0 e1
       exact aN
      ·refine aAW ?_
       rcases aM hm with ⟨j0,hm⟩|⟨j0,hm⟩
       ·refine aAW ?_;refine aS [] (fun f w=>∃ p u x y z,aGx p u x=some R/\f 5=zS y p.length z/\aF G K (own 45 K y z p::box b1 74 [zS a2 c.length c3,i64 u,Value.int .u64 x]::L) w) ?_ ?_
        ·rintro f l5 ⟨p,u,x,y,z,hm,j1,l6⟩
         unfold aGx at hm
         refine aAW ?_;exact ⟨bG,p,u,x,y,z,hm,j1,aCN⟩
        obtain ⟨l7,j2,ho⟩:=aB hm
        refine lR [0] j2 (fun e2 e3 J f w=>∃ Z a0,f 5=zS Z J.length a0/\aF G K (box b1 74 [zS a2 c.length c3,i64 e2,Value.int .u64 e3]::own 45 K Z a0 J::L) w) aN ?_
        ·rintro e2 e3 J l8 f l9 hm hr ⟨Z,a0,m0,j3⟩
         unfold wM at hm
         refine aAW ?_;obtain ⟨e4,j4,hm⟩:=aB hm
         refine aAZ call34 (bH j4 j3 d) ?_
         rintro _ m1 ⟨rfl,m2⟩
         refine aAW ?_
         rcases aM hm with ⟨j5,hm⟩|⟨j5,hm⟩
         ·refine aAW ?_;refine bZ ?_
          iterate 1 refine aBh ?_
          refine aD (cO (vs:=[(0,i64 4)]) (cs:=[i64 4,i64 0,str ([]:aJ),zB false]) mC rfl (by kernel_rfl)) (aCp ([⟨4,0,([]:aJ),false⟩]:List aT) fun j6 j7 m3=>?_);refine aAW ?_
          obtain ⟨m4,m5,hm⟩:=aB hm
          have m6:aF G K (own 45 K Z a0 J::own 45 K j6 1 ([⟨4,0,([]:aJ),false⟩]:List aT)::box b1 74 [zS a2 c.length c3,i64 e4.2.1,Value.int .u64 e4.2.2]::L) j7:=aCN
          exact aN
         ·exact aN
       ·exact aN
theorem aIh {a:(List UInt8)} {b c:Int} {R:((List aT) × Int × Int)} (hm:aIJ a b c=some R) (g:aF G K (box b1 74 [zS a2 a.length c3,i64 b,Value.int .u64 c]::L) w) (h:bI K a2 c3 a):
  Calls prog 31 ([zP (some ⟨b1,0,none⟩)]:List Value).toArray w (dL fun v w'=>∃ d e,v=zS d R.1.length e/\aF G K (own 45 K d e R.1::box b1 74 [zS a2 a.length c3,i64 R.2.1,Value.int .u64 R.2.2]::L) w'):=by
 exact aN
theorem aIZ {c:(List UInt8)} {p q:Int} {R:(cN × Int × Int)} (hm:vN c p q=some R) (hs:aF G K (box b1 74 [zS a2 c.length c3,i64 p,Value.int .u64 q]::L) w) (h4:bI K a2 c3 c):
  Calls prog 33 ([zP (some ⟨b1,0,none⟩)]:List Value).toArray w (dL fun v w'=>∃ Z a0 a1 a3,v=zA (zCa R.1 Z a0 a1 a3)/\aF G K (own 9 K Z a0 R.1.L::own 68 K a1 a3 R.1.E::box b1 74 [zS a2 c.length c3,i64 R.2.1,Value.int .u64 R.2.2]::L) w'):=by
 let e:=zG
 refine aBM func33 ?_;unfold vN at hm
 refine aAW ?_;refine aEx fun g w6 c8=>?_
 refine aAW ?_
 have b4:aF G K (box b1 74 [zS a2 c.length c3,i64 p,Value.int .u64 q]::box g 28 e::L) w6:=aCN
 obtain ⟨a,b6,hm⟩:=aB hm
 refine aAZ call34 (bH b6 b4 h4) ?_
 rintro _ c9 ⟨rfl,d0⟩
 refine aAW ?_;refine aCp ([([116,97,117]:aJ),([97]:aJ),([98]:aJ),([99]:aJ),([100]:aJ),([101]:aJ),([102]:aJ),([103]:aJ),([104]:aJ)]:List aJ) fun b d1 d2=>?_
 refine aCp ([]:List Edge) fun a4 d3 d4=>?_;refine aD (cO (vs:=[(0,i64 (wr (15+a.1))),(2,zS b ([([116,97,117]:aJ),([97]:aJ),([98]:aJ),([99]:aJ),([100]:aJ),([101]:aJ),([102]:aJ),([103]:aJ),([104]:aJ)]:List aJ).length 9),(3,zS a4 ([]:List Edge).length 0)]) (cs:=[i64 (wr (15+a.1)),i64 0,zS b ([([116,97,117]:aJ),([97]:aJ),([98]:aJ),([99]:aJ),([100]:aJ),([101]:aJ),([102]:aJ),([103]:aJ),([104]:aJ)]:List aJ).length 9,zS a4 ([]:List Edge).length 0]) bs_28 rfl (by kernel_rfl)) (aEx fun h d5 d6=>?_)
 refine aFy fun d7 d8=>?_;refine aAW ?_
 refine aS [2,3] (fun f w=>∃ r a5 a6,aEM a r=some R/\aF G K (own 68 K a5 a6 r::box h 28 [i64 (wr (15+a.1)),i64 0,zS b ([([116,97,117]:aJ),([97]:aJ),([98]:aJ),([99]:aJ),([100]:aJ),([101]:aJ),([102]:aJ),([103]:aJ),([104]:aJ)]:List aJ).length 9,zS a5 r.length a6]::own 9 K b 9 ([([116,97,117]:aJ),([97]:aJ),([98]:aJ),([99]:aJ),([100]:aJ),([101]:aJ),([102]:aJ),([103]:aJ),([104]:aJ)]:List aJ)::box b1 74 [zS a2 c.length c3,i64 a.2.1,Value.int .u64 a.2.2]::box g 28 e::L) w) aN ?_
 obtain ⟨d9,b7,ho⟩:=aB hm
 refine bN [2,3] b7 (fun t d f w=>∃ u x,f 4=i64 d/\aF G K (box h 28 [i64 (wr (15+a.1)),i64 0,zS b ([([116,97,117]:aJ),([97]:aJ),([98]:aJ),([99]:aJ),([100]:aJ),([101]:aJ),([102]:aJ),([103]:aJ),([104]:aJ)]:List aJ).length 9,zS u t.length x]::own 68 K u x t::own 9 K b 9 ([([116,97,117]:aJ),([97]:aJ),([98]:aJ),([99]:aJ),([100]:aJ),([101]:aJ),([102]:aJ),([103]:aJ),([104]:aJ)]:List aJ)::box b1 74 [zS a2 c.length c3,i64 a.2.1,Value.int .u64 a.2.2]::box g 28 e::L) w) aN ?_
 ·rintro t d a7 f e0 hm hr ⟨u,x,e1,e2⟩
  unfold nI at hm
  refine aAW ?_
  rcases aM hm with ⟨b8,hm⟩|⟨b8,hm⟩
  ·refine aAW ?_;refine aS [2,3,4] (fun f w=>∃ m n o,uX d m=some a7/\aF G K (own 68 K n o m::box h 28 [i64 (wr (15+a.1)),i64 0,zS b ([([116,97,117]:aJ),([97]:aJ),([98]:aJ),([99]:aJ),([100]:aJ),([101]:aJ),([102]:aJ),([103]:aJ),([104]:aJ)]:List aJ).length 9,zS n m.length o]::own 9 K b 9 ([([116,97,117]:aJ),([97]:aJ),([98]:aJ),([99]:aJ),([100]:aJ),([101]:aJ),([102]:aJ),([103]:aJ),([104]:aJ)]:List aJ)::box b1 74 [zS a2 c.length c3,i64 a.2.1,Value.int .u64 a.2.2]::box g 28 e::L) w) ?_ ?_
   ·rintro f e3 ⟨m,n,o,hm,e4⟩
    unfold uX at hm
    refine aAW ?_;exact ⟨_,(zI hm).symm,bG,n,o,rfl,aCN⟩
   refine aAW ?_;refine aS [2,3,4] (fun f w=>∃ y a8 a9,aAz d y=some a7/\aF G K (own 68 K a8 a9 y::box h 28 [i64 (wr (15+a.1)),i64 0,zS b ([([116,97,117]:aJ),([97]:aJ),([98]:aJ),([99]:aJ),([100]:aJ),([101]:aJ),([102]:aJ),([103]:aJ),([104]:aJ)]:List aJ).length 9,zS a8 y.length a9]::own 9 K b 9 ([([116,97,117]:aJ),([97]:aJ),([98]:aJ),([99]:aJ),([100]:aJ),([101]:aJ),([102]:aJ),([103]:aJ),([104]:aJ)]:List aJ)::box b1 74 [zS a2 c.length c3,i64 a.2.1,Value.int .u64 a.2.2]::box g 28 e::L) w) aN ?_
   obtain ⟨e5,b9,ho⟩:=aB hm
   refine bN [2,3,4] b9 (fun i j f w=>∃ k l,f 5=i64 j/\aF G K (box h 28 [i64 (wr (15+a.1)),i64 0,zS b ([([116,97,117]:aJ),([97]:aJ),([98]:aJ),([99]:aJ),([100]:aJ),([101]:aJ),([102]:aJ),([103]:aJ),([104]:aJ)]:List aJ).length 9,zS k i.length l]::own 68 K k l i::own 9 K b 9 ([([116,97,117]:aJ),([97]:aJ),([98]:aJ),([99]:aJ),([100]:aJ),([101]:aJ),([102]:aJ),([103]:aJ),([104]:aJ)]:List aJ)::box b1 74 [zS a2 c.length c3,i64 a.2.1,Value.int .u64 a.2.2]::box g 28 e::L) w) aN ?_
   ·rintro i j c0 f e6 hm hr ⟨k,l,e7,e8⟩
    unfold nH at hm
    iterate 2 refine aBh ?_
    refine bD [2,3,4,5] (fun f w=>∃ z,qH a d i j z=some c0/\f 25=zB z/\aF G K (box h 28 [i64 (wr (15+a.1)),i64 0,zS b ([([116,97,117]:aJ),([97]:aJ),([98]:aJ),([99]:aJ),([100]:aJ),([101]:aJ),([102]:aJ),([103]:aJ),([104]:aJ)]:List aJ).length 9,zS k i.length l]::own 68 K k l i::own 9 K b 9 ([([116,97,117]:aJ),([97]:aJ),([98]:aJ),([99]:aJ),([100]:aJ),([101]:aJ),([102]:aJ),([103]:aJ),([104]:aJ)]:List aJ)::box b1 74 [zS a2 c.length c3,i64 a.2.1,Value.int .u64 a.2.2]::box g 28 e::L) w) ?_ ?_
    ·rintro f e9 ⟨z,hm,f0,c1⟩
     unfold qH at hm
     refine aAW ?_
     rcases aM hm with ⟨c2,hm⟩|⟨c2,hm⟩
     ·refine aAW ?_;refine bZ ?_
      obtain ⟨f1,f2,f3,f4,c4⟩:=aF.lendBp c1 .head
      refine aGG [(0,0),(1,0),(2,0),(3,0),(4,0),(5,0),(6,0),(7,0),(8,0),(9,0),(10,0),(11,1),(12,1),(13,0),(14,2)] fun f5 f6=>?_;refine aAW ?_
      obtain ⟨J,c5,hm⟩:=aB hm
      refine aZ rfl (fun _ _=>aME rfl rfl c5) (aZ rfl (fun _ _=>cO (vs:=[(0,i64 d),(1,i64 j),(2,i64 J)]) (cs:=[i64 d,i64 j,i64 J]) bs_68 rfl (by kernel_rfl)) (fR rfl (aCp ([⟨d,j,J⟩]:List Edge) fun f7 f8 c6=>?_)));refine aY (aC ⟨⟨_,c6⟩,?_⟩)
      refine fR rfl ?_;obtain ⟨f9,g0,hm⟩:=aB hm
      refine aNS fun g1 g2 g3 b0=>?_;refine aY (aC ⟨⟨_,b0⟩,?_⟩)
      refine aAW ?_
      have g4:=c4 _ _ b0
      exact aN
     ·exact aN
    exact aN
  ·exact aN
theorem aEo {h:(List UInt8)} {a0 a1:Int} {R:((List aT) × cN × Int × Int)} (hm:xN h a0 a1=some R) (hs:aF G K (box b1 74 [zS a2 h.length c3,i64 a0,Value.int .u64 a1]::L) w) (y:bI K a2 c3 h):
  Calls prog 12 ([zP (some ⟨b1,0,none⟩)]:List Value).toArray w (dL fun v w'=>∃ K' b6 b7 b8 b9 c0 c1,v=Value.tuple #[zS b6 R.1.length b7,zA (zCa R.2.1 b8 b9 c0 c1)]/\Hp.le K K'/\bI K' b6 b7 R.1/\aF G K' (own 9 K b8 b9 R.2.1.L::own 68 K c0 c1 R.2.1.E::box b1 74 [zS a2 h.length c3,i64 R.2.2.1,Value.int .u64 R.2.2.2]::L) w'):=by
 let l:=zG
 let a4:=[i64 4,i64 0,str ([]:aJ),zB false]
 let a5:=[i64 6,i64 0,str ([]:aJ),zB false]
 let c2:=[i64 4,i64 0,str ([97]:aJ),zB false]
 let c4:=[i64 3,i64 0,str ([]:aJ),zB false]
 let c5:=[i64 8,i64 0,str ([]:aJ),zB false]
 let c6:=[i64 0,i64 0,str ([]:aJ),zB false]
 refine aBM func12 ?_;unfold xN at hm
 refine aAW ?_;refine aEx fun m w6 h7=>?_
 refine aAW ?_
 have d9:aF G K (box b1 74 [zS a2 h.length c3,i64 a0,Value.int .u64 a1]::box m 28 l::L) w6:=aCN
 obtain ⟨a,e0,hm⟩:=aB hm
 refine aAZ call30 (aIg e0 d9 y) ?_
 rintro _ h8 ⟨b,c,d,e,rfl,h9⟩
 refine aEx fun n i0 i1=>?_;refine aFy fun e1 i2=>?_
 refine aAW ?_
 have e2:aF G K (box b1 74 [zS a2 h.length c3,i64 a.2.1,Value.int .u64 a.2.2]::box n 28 (zC a.1 b c d e)::own 9 K b c a.1.L::own 68 K d e a.1.E::box m 28 l::L) e1:=aCN
 obtain ⟨a6,e3,hm⟩:=aB hm
 refine aAZ call31 (aIh e3 e2 y) ?_
 rintro _ e4 ⟨e5,e6,rfl,e7⟩
 iterate 1 refine aBh ?_
 obtain ⟨p,a7,e8,a8⟩:=aF.giveSp e7 (zR _) .head
 replace a8:aF G p (box b1 74 [zS a2 h.length c3,i64 a6.2.1,Value.int .u64 a6.2.2]::box n 28 (zC a.1 b c d e)::own 9 K b c a.1.L::own 68 K d e a.1.E::box m 28 l::L) e4:=a8
 refine aAW ?_;obtain ⟨g,e9,hm⟩:=aB hm
 refine aAZ call32 (nJ e9 a8 (y.mono a7)) ?_
 rintro _ i3 ⟨rfl,c7⟩
 refine aAW ?_
 rcases aM hm with ⟨f0,hm⟩|⟨f0,hm⟩
 ·exact aN
 ·iterate 3 refine aBh ?_
  refine gQ [3,4] (fun f w=>∃ u z a9 b0 J Z,Hp.le p u/\wN a z a9 b0=some R/\f 5=zS J z.length Z/\bI u J Z z/\aF G u (box b1 74 [zS a2 h.length c3,i64 a9,Value.int .u64 b0]::box n 28 (zC a.1 b c d e)::own 9 K b c a.1.L::own 68 K d e a.1.E::box m 28 l::L) w) ?_ ?_
  ·rintro f i4 ⟨u,z,a9,b0,J,Z,f1,hm,i5,f2,f3⟩
   unfold wN at hm
   refine aAW ?_;obtain ⟨i6,i7,i8,i9,f4⟩:=aF.lendBp f3 zt1
   refine aGG [(0,0),(1,0),(2,0),(3,2)] fun j0 f5=>?_;refine aAW ?_
   have j1:=f4 _ _ f5
   refine aHm rfl (aFy fun j2 f6=>?_);refine aAW ?_
   refine lV (aAW ?_);obtain rfl:=zI hm
   exact nD (aMs results12 (aKQ rfl rfl) (aHB (vs:=(zC a.1 b c d e)) rfl sQ f6 (i:=4) rfl rfl rfl) ⟨u,J,Z,b,c,d,e,rfl,(zL a7 f1),f2,aCN⟩)
  refine aAW ?_
  rcases aM hm with ⟨b2,hm⟩|⟨b2,hm⟩
  ·refine aR b2 rfl (aL (aD (cO (vs:=[(0,i64 7)]) (cs:=[i64 7,i64 0,str ([]:aJ),zB false]) mC rfl (by kernel_rfl)) (aD (cO (vs:=[(0,i64 3)]) (cs:=c4) mC rfl (by kernel_rfl)) (aD (cO (vs:=[(0,i64 5),(2,str ([97]:aJ))]) (cs:=[i64 5,i64 0,str ([97]:aJ),zB false]) mC rfl (by kernel_rfl)) (aD (cO (vs:=[(0,i64 1)]) (cs:=[i64 1,i64 0,str ([]:aJ),zB false]) mC rfl (by kernel_rfl)) (aD (cO (vs:=[(0,i64 4)]) (cs:=a4) mC rfl (by kernel_rfl)) (aD (cO (vs:=[(0,i64 6)]) (cs:=a5) mC rfl (by kernel_rfl)) (bO (Kt:=K) (xs:=([⟨7,0,([]:aJ),false⟩,⟨3,0,([]:aJ),false⟩,⟨5,0,([97]:aJ),false⟩,⟨1,0,([]:aJ),false⟩,⟨4,0,([]:aJ),false⟩,⟨6,0,([]:aJ),false⟩]:List aT)) (cs:=[i64 7,i64 0,str ([]:aJ),zB false,i64 3,i64 0,str ([]:aJ),zB false,i64 5,i64 0,str ([97]:aJ),zB false,i64 1,i64 0,str ([]:aJ),zB false,i64 4,i64 0,str ([]:aJ),zB false,i64 6,i64 0,str ([]:aJ),zB false]) (vs:=[(0,zA #[i64 7,i64 0,str ([]:aJ),zB false]),(1,zA #[i64 3,i64 0,str ([]:aJ),zB false]),(2,zA #[i64 5,i64 0,str ([97]:aJ),zB false]),(3,zA #[i64 1,i64 0,str ([]:aJ),zB false]),(4,zA #[i64 4,i64 0,str ([]:aJ),zB false]),(5,zA #[i64 6,i64 0,str ([]:aJ),zB false])]) gS uU rfl rfl c7 rfl (by kernel_rfl) rfl rfl rfl ⟨rfl,rfl,rfl,rfl,rfl,rfl,trivial⟩ (fun j f8 (f9:aF G p (own 45 K j 6 ([⟨7,0,([]:aJ),false⟩,⟨3,0,([]:aJ),false⟩,⟨5,0,([97]:aJ),false⟩,⟨1,0,([]:aJ),false⟩,⟨4,0,([]:aJ),false⟩,⟨6,0,([]:aJ),false⟩]:List aT)::box b1 74 [zS a2 h.length c3,i64 g.2.1,Value.int .u64 g.2.2]::box n 28 (zC a.1 b c d e)::own 9 K b c a.1.L::own 68 K d e a.1.E::box m 28 l::L) f8)=>(aD (cO (vs:=[(0,i64 8)]) (cs:=c5) mC rfl (by kernel_rfl)) (aD (cO (vs:=[(0,i64 2)]) (cs:=[i64 2,i64 0,str ([]:aJ),zB false]) mC rfl (by kernel_rfl)) (aD (cO (vs:=[(0,i64 4),(2,str ([97]:aJ))]) (cs:=c2) mC rfl (by kernel_rfl)) (aD (cO (vs:=[(0,i64 0)]) (cs:=c6) mC rfl (by kernel_rfl)) (aD (cO (vs:=[(0,i64 5)]) (cs:=[i64 5,i64 0,str ([]:aJ),zB false]) mC rfl (by kernel_rfl)) (aD (cO (vs:=[(0,i64 6)]) (cs:=a5) mC rfl (by kernel_rfl)) (bO (Kt:=K) (xs:=([⟨8,0,([]:aJ),false⟩,⟨2,0,([]:aJ),false⟩,⟨4,0,([97]:aJ),false⟩,⟨0,0,([]:aJ),false⟩,⟨5,0,([]:aJ),false⟩,⟨6,0,([]:aJ),false⟩]:List aT)) (cs:=[i64 8,i64 0,str ([]:aJ),zB false,i64 2,i64 0,str ([]:aJ),zB false,i64 4,i64 0,str ([97]:aJ),zB false,i64 0,i64 0,str ([]:aJ),zB false,i64 5,i64 0,str ([]:aJ),zB false,i64 6,i64 0,str ([]:aJ),zB false]) (vs:=[(0,zA #[i64 8,i64 0,str ([]:aJ),zB false]),(1,zA #[i64 2,i64 0,str ([]:aJ),zB false]),(2,zA #[i64 4,i64 0,str ([97]:aJ),zB false]),(3,zA #[i64 0,i64 0,str ([]:aJ),zB false]),(4,zA #[i64 5,i64 0,str ([]:aJ),zB false]),(5,zA #[i64 6,i64 0,str ([]:aJ),zB false])]) gS uU rfl rfl f9 rfl (by kernel_rfl) rfl rfl rfl ⟨rfl,rfl,rfl,rfl,rfl,rfl,trivial⟩ (fun k g0 (g1:aF G p (own 45 K k 6 ([⟨8,0,([]:aJ),false⟩,⟨2,0,([]:aJ),false⟩,⟨4,0,([97]:aJ),false⟩,⟨0,0,([]:aJ),false⟩,⟨5,0,([]:aJ),false⟩,⟨6,0,([]:aJ),false⟩]:List aT)::own 45 K j 6 ([⟨7,0,([]:aJ),false⟩,⟨3,0,([]:aJ),false⟩,⟨5,0,([97]:aJ),false⟩,⟨1,0,([]:aJ),false⟩,⟨4,0,([]:aJ),false⟩,⟨6,0,([]:aJ),false⟩]:List aT)::box b1 74 [zS a2 h.length c3,i64 g.2.1,Value.int .u64 g.2.2]::box n 28 (zC a.1 b c d e)::own 9 K b c a.1.L::own 68 K d e a.1.E::box m 28 l::L) g0)=>(aD (cO (vs:=[(0,i64 8)]) (cs:=c5) mC rfl (by kernel_rfl)) (aD (cO (vs:=[(0,i64 7),(1,i64 1)]) (cs:=[i64 7,i64 1,str ([]:aJ),zB false]) mC rfl (by kernel_rfl)) (aD (cO (vs:=[(0,i64 3)]) (cs:=c4) mC rfl (by kernel_rfl)) (aD (cO (vs:=[(0,i64 4),(2,str ([97]:aJ))]) (cs:=c2) mC rfl (by kernel_rfl)) (aD (cO (vs:=[(0,i64 6)]) (cs:=a5) mC rfl (by kernel_rfl)) (aD (cO (vs:=[(0,i64 4)]) (cs:=a4) mC rfl (by kernel_rfl)) ?_)))))))))))))))))))))))
   refine aD (cO (vs:=[(0,i64 6),(1,i64 1)]) (cs:=[i64 6,i64 1,str ([]:aJ),zB false]) mC rfl (by kernel_rfl)) (bO (Kt:=K) (xs:=([⟨8,0,([]:aJ),false⟩,⟨7,1,([]:aJ),false⟩,⟨3,0,([]:aJ),false⟩,⟨4,0,([97]:aJ),false⟩,⟨6,0,([]:aJ),false⟩,⟨4,0,([]:aJ),false⟩,⟨6,1,([]:aJ),false⟩]:List aT)) (cs:=[i64 8,i64 0,str ([]:aJ),zB false,i64 7,i64 1,str ([]:aJ),zB false,i64 3,i64 0,str ([]:aJ),zB false,i64 4,i64 0,str ([97]:aJ),zB false,i64 6,i64 0,str ([]:aJ),zB false,i64 4,i64 0,str ([]:aJ),zB false,i64 6,i64 1,str ([]:aJ),zB false]) (vs:=[(0,zA #[i64 8,i64 0,str ([]:aJ),zB false]),(1,zA #[i64 7,i64 1,str ([]:aJ),zB false]),(2,zA #[i64 3,i64 0,str ([]:aJ),zB false]),(3,zA #[i64 4,i64 0,str ([97]:aJ),zB false]),(4,zA #[i64 6,i64 0,str ([]:aJ),zB false]),(5,zA #[i64 4,i64 0,str ([]:aJ),zB false]),(6,zA #[i64 6,i64 1,str ([]:aJ),zB false])]) gS uU rfl rfl g1 rfl (by kernel_rfl) rfl rfl rfl ⟨rfl,rfl,rfl,rfl,rfl,rfl,rfl,trivial⟩ (fun o g2 (g3:aF G p (own 45 K o 7 ([⟨8,0,([]:aJ),false⟩,⟨7,1,([]:aJ),false⟩,⟨3,0,([]:aJ),false⟩,⟨4,0,([97]:aJ),false⟩,⟨6,0,([]:aJ),false⟩,⟨4,0,([]:aJ),false⟩,⟨6,1,([]:aJ),false⟩]:List aT)::own 45 K k 6 ([⟨8,0,([]:aJ),false⟩,⟨2,0,([]:aJ),false⟩,⟨4,0,([97]:aJ),false⟩,⟨0,0,([]:aJ),false⟩,⟨5,0,([]:aJ),false⟩,⟨6,0,([]:aJ),false⟩]:List aT)::own 45 K j 6 ([⟨7,0,([]:aJ),false⟩,⟨3,0,([]:aJ),false⟩,⟨5,0,([97]:aJ),false⟩,⟨1,0,([]:aJ),false⟩,⟨4,0,([]:aJ),false⟩,⟨6,0,([]:aJ),false⟩]:List aT)::box b1 74 [zS a2 h.length c3,i64 g.2.1,Value.int .u64 g.2.2]::box n 28 (zC a.1 b c d e)::own 9 K b c a.1.L::own 68 K d e a.1.E::box m 28 l::L) g2)=>(aD (cO (vs:=[(0,i64 5),(2,str ([98]:aJ))]) (cs:=[i64 5,i64 0,str ([98]:aJ),zB false]) mC rfl (by kernel_rfl)) (aD (cO (vs:=[(0,i64 4)]) (cs:=a4) mC rfl (by kernel_rfl)) (aD (cO (vs:=[(0,i64 0)]) (cs:=c6) mC rfl (by kernel_rfl)) (bO (Kt:=K) (xs:=([⟨5,0,([98]:aJ),false⟩,⟨4,0,([]:aJ),false⟩,⟨0,0,([]:aJ),false⟩]:List aT)) (cs:=[i64 5,i64 0,str ([98]:aJ),zB false,i64 4,i64 0,str ([]:aJ),zB false,i64 0,i64 0,str ([]:aJ),zB false]) (vs:=[(0,zA #[i64 5,i64 0,str ([98]:aJ),zB false]),(1,zA #[i64 4,i64 0,str ([]:aJ),zB false]),(2,zA #[i64 0,i64 0,str ([]:aJ),zB false])]) gS uU rfl rfl g3 rfl (by kernel_rfl) rfl rfl rfl ⟨rfl,rfl,rfl,trivial⟩ (fun q r (g4:aF G p (own 45 K q 3 ([⟨5,0,([98]:aJ),false⟩,⟨4,0,([]:aJ),false⟩,⟨0,0,([]:aJ),false⟩]:List aT)::own 45 K o 7 ([⟨8,0,([]:aJ),false⟩,⟨7,1,([]:aJ),false⟩,⟨3,0,([]:aJ),false⟩,⟨4,0,([97]:aJ),false⟩,⟨6,0,([]:aJ),false⟩,⟨4,0,([]:aJ),false⟩,⟨6,1,([]:aJ),false⟩]:List aT)::own 45 K k 6 ([⟨8,0,([]:aJ),false⟩,⟨2,0,([]:aJ),false⟩,⟨4,0,([97]:aJ),false⟩,⟨0,0,([]:aJ),false⟩,⟨5,0,([]:aJ),false⟩,⟨6,0,([]:aJ),false⟩]:List aT)::own 45 K j 6 ([⟨7,0,([]:aJ),false⟩,⟨3,0,([]:aJ),false⟩,⟨5,0,([97]:aJ),false⟩,⟨1,0,([]:aJ),false⟩,⟨4,0,([]:aJ),false⟩,⟨6,0,([]:aJ),false⟩]:List aT)::box b1 74 [zS a2 h.length c3,i64 g.2.1,Value.int .u64 g.2.2]::box n 28 (zC a.1 b c d e)::own 9 K b c a.1.L::own 68 K d e a.1.E::box m 28 l::L) r)=>?_)))))))
   have g5:aF G p (own 45 K j 6 ([⟨7,0,([]:aJ),false⟩,⟨3,0,([]:aJ),false⟩,⟨5,0,([97]:aJ),false⟩,⟨1,0,([]:aJ),false⟩,⟨4,0,([]:aJ),false⟩,⟨6,0,([]:aJ),false⟩]:List aT)::own 45 K q 3 ([⟨5,0,([98]:aJ),false⟩,⟨4,0,([]:aJ),false⟩,⟨0,0,([]:aJ),false⟩]:List aT)::own 45 K o 7 ([⟨8,0,([]:aJ),false⟩,⟨7,1,([]:aJ),false⟩,⟨3,0,([]:aJ),false⟩,⟨4,0,([97]:aJ),false⟩,⟨6,0,([]:aJ),false⟩,⟨4,0,([]:aJ),false⟩,⟨6,1,([]:aJ),false⟩]:List aT)::own 45 K k 6 ([⟨8,0,([]:aJ),false⟩,⟨2,0,([]:aJ),false⟩,⟨4,0,([97]:aJ),false⟩,⟨0,0,([]:aJ),false⟩,⟨5,0,([]:aJ),false⟩,⟨6,0,([]:aJ),false⟩]:List aT)::box b1 74 [zS a2 h.length c3,i64 g.2.1,Value.int .u64 g.2.2]::box n 28 (zC a.1 b c d e)::own 9 K b c a.1.L::own 68 K d e a.1.E::box m 28 l::L) r:=(aF.arr 4 [3,0,1,2] g4 rfl)
   have g6:aF G p (rows [45] ([(j,6)]:List (Dp.Hd (List aT))) [([⟨7,0,([]:aJ),false⟩,⟨3,0,([]:aJ),false⟩,⟨5,0,([97]:aJ),false⟩,⟨1,0,([]:aJ),false⟩,⟨4,0,([]:aJ),false⟩,⟨6,0,([]:aJ),false⟩]:List aT)]::own 45 K q 3 ([⟨5,0,([98]:aJ),false⟩,⟨4,0,([]:aJ),false⟩,⟨0,0,([]:aJ),false⟩]:List aT)::own 45 K o 7 ([⟨8,0,([]:aJ),false⟩,⟨7,1,([]:aJ),false⟩,⟨3,0,([]:aJ),false⟩,⟨4,0,([97]:aJ),false⟩,⟨6,0,([]:aJ),false⟩,⟨4,0,([]:aJ),false⟩,⟨6,1,([]:aJ),false⟩]:List aT)::own 45 K k 6 ([⟨8,0,([]:aJ),false⟩,⟨2,0,([]:aJ),false⟩,⟨4,0,([97]:aJ),false⟩,⟨0,0,([]:aJ),false⟩,⟨5,0,([]:aJ),false⟩,⟨6,0,([]:aJ),false⟩]:List aT)::box b1 74 [zS a2 h.length c3,i64 g.2.1,Value.int .u64 g.2.2]::box n 28 (zC a.1 b c d e)::own 9 K b c a.1.L::own 68 K d e a.1.E::box m 28 l::L) r:=aF.rowsOne g5
   have g7:aF G p (rows [45] ([(j,6),(k,6)]:List (Dp.Hd (List aT))) [([⟨7,0,([]:aJ),false⟩,⟨3,0,([]:aJ),false⟩,⟨5,0,([97]:aJ),false⟩,⟨1,0,([]:aJ),false⟩,⟨4,0,([]:aJ),false⟩,⟨6,0,([]:aJ),false⟩]:List aT),([⟨8,0,([]:aJ),false⟩,⟨2,0,([]:aJ),false⟩,⟨4,0,([97]:aJ),false⟩,⟨0,0,([]:aJ),false⟩,⟨5,0,([]:aJ),false⟩,⟨6,0,([]:aJ),false⟩]:List aT)]::own 45 K q 3 ([⟨5,0,([98]:aJ),false⟩,⟨4,0,([]:aJ),false⟩,⟨0,0,([]:aJ),false⟩]:List aT)::own 45 K o 7 ([⟨8,0,([]:aJ),false⟩,⟨7,1,([]:aJ),false⟩,⟨3,0,([]:aJ),false⟩,⟨4,0,([97]:aJ),false⟩,⟨6,0,([]:aJ),false⟩,⟨4,0,([]:aJ),false⟩,⟨6,1,([]:aJ),false⟩]:List aT)::box b1 74 [zS a2 h.length c3,i64 g.2.1,Value.int .u64 g.2.2]::box n 28 (zC a.1 b c d e)::own 9 K b c a.1.L::own 68 K d e a.1.E::box m 28 l::L) r:=aF.rowPush (α:=(List aT)) (tys:=[45]) (hd:=(k,6)) (x:=([⟨8,0,([]:aJ),false⟩,⟨2,0,([]:aJ),false⟩,⟨4,0,([97]:aJ),false⟩,⟨0,0,([]:aJ),false⟩,⟨5,0,([]:aJ),false⟩,⟨6,0,([]:aJ),false⟩]:List aT)) (hds:=[(j,6)]) (xs:=[([⟨7,0,([]:aJ),false⟩,⟨3,0,([]:aJ),false⟩,⟨5,0,([97]:aJ),false⟩,⟨1,0,([]:aJ),false⟩,⟨4,0,([]:aJ),false⟩,⟨6,0,([]:aJ),false⟩]:List aT)]) (aF.pull (i:=3) g6 rfl) rfl
   have g8:aF G p (rows [45] ([(j,6),(k,6),(o,7)]:List (Dp.Hd (List aT))) [([⟨7,0,([]:aJ),false⟩,⟨3,0,([]:aJ),false⟩,⟨5,0,([97]:aJ),false⟩,⟨1,0,([]:aJ),false⟩,⟨4,0,([]:aJ),false⟩,⟨6,0,([]:aJ),false⟩]:List aT),([⟨8,0,([]:aJ),false⟩,⟨2,0,([]:aJ),false⟩,⟨4,0,([97]:aJ),false⟩,⟨0,0,([]:aJ),false⟩,⟨5,0,([]:aJ),false⟩,⟨6,0,([]:aJ),false⟩]:List aT),([⟨8,0,([]:aJ),false⟩,⟨7,1,([]:aJ),false⟩,⟨3,0,([]:aJ),false⟩,⟨4,0,([97]:aJ),false⟩,⟨6,0,([]:aJ),false⟩,⟨4,0,([]:aJ),false⟩,⟨6,1,([]:aJ),false⟩]:List aT)]::own 45 K q 3 ([⟨5,0,([98]:aJ),false⟩,⟨4,0,([]:aJ),false⟩,⟨0,0,([]:aJ),false⟩]:List aT)::box b1 74 [zS a2 h.length c3,i64 g.2.1,Value.int .u64 g.2.2]::box n 28 (zC a.1 b c d e)::own 9 K b c a.1.L::own 68 K d e a.1.E::box m 28 l::L) r:=aF.rowPush (α:=(List aT)) (tys:=[45]) (hd:=(o,7)) (x:=([⟨8,0,([]:aJ),false⟩,⟨7,1,([]:aJ),false⟩,⟨3,0,([]:aJ),false⟩,⟨4,0,([97]:aJ),false⟩,⟨6,0,([]:aJ),false⟩,⟨4,0,([]:aJ),false⟩,⟨6,1,([]:aJ),false⟩]:List aT)) (hds:=[(j,6),(k,6)]) (xs:=[([⟨7,0,([]:aJ),false⟩,⟨3,0,([]:aJ),false⟩,⟨5,0,([97]:aJ),false⟩,⟨1,0,([]:aJ),false⟩,⟨4,0,([]:aJ),false⟩,⟨6,0,([]:aJ),false⟩]:List aT),([⟨8,0,([]:aJ),false⟩,⟨2,0,([]:aJ),false⟩,⟨4,0,([97]:aJ),false⟩,⟨0,0,([]:aJ),false⟩,⟨5,0,([]:aJ),false⟩,⟨6,0,([]:aJ),false⟩]:List aT)]) (aF.pull (i:=2) g7 rfl) rfl
   have g9:aF G p (rows [45] ([(j,6),(k,6),(o,7),(q,3)]:List (Dp.Hd (List aT))) [([⟨7,0,([]:aJ),false⟩,⟨3,0,([]:aJ),false⟩,⟨5,0,([97]:aJ),false⟩,⟨1,0,([]:aJ),false⟩,⟨4,0,([]:aJ),false⟩,⟨6,0,([]:aJ),false⟩]:List aT),([⟨8,0,([]:aJ),false⟩,⟨2,0,([]:aJ),false⟩,⟨4,0,([97]:aJ),false⟩,⟨0,0,([]:aJ),false⟩,⟨5,0,([]:aJ),false⟩,⟨6,0,([]:aJ),false⟩]:List aT),([⟨8,0,([]:aJ),false⟩,⟨7,1,([]:aJ),false⟩,⟨3,0,([]:aJ),false⟩,⟨4,0,([97]:aJ),false⟩,⟨6,0,([]:aJ),false⟩,⟨4,0,([]:aJ),false⟩,⟨6,1,([]:aJ),false⟩]:List aT),([⟨5,0,([98]:aJ),false⟩,⟨4,0,([]:aJ),false⟩,⟨0,0,([]:aJ),false⟩]:List aT)]::box b1 74 [zS a2 h.length c3,i64 g.2.1,Value.int .u64 g.2.2]::box n 28 (zC a.1 b c d e)::own 9 K b c a.1.L::own 68 K d e a.1.E::box m 28 l::L) r:=aF.rowPush (α:=(List aT)) (tys:=[45]) (hd:=(q,3)) (x:=([⟨5,0,([98]:aJ),false⟩,⟨4,0,([]:aJ),false⟩,⟨0,0,([]:aJ),false⟩]:List aT)) (hds:=[(j,6),(k,6),(o,7)]) (xs:=[([⟨7,0,([]:aJ),false⟩,⟨3,0,([]:aJ),false⟩,⟨5,0,([97]:aJ),false⟩,⟨1,0,([]:aJ),false⟩,⟨4,0,([]:aJ),false⟩,⟨6,0,([]:aJ),false⟩]:List aT),([⟨8,0,([]:aJ),false⟩,⟨2,0,([]:aJ),false⟩,⟨4,0,([97]:aJ),false⟩,⟨0,0,([]:aJ),false⟩,⟨5,0,([]:aJ),false⟩,⟨6,0,([]:aJ),false⟩]:List aT),([⟨8,0,([]:aJ),false⟩,⟨7,1,([]:aJ),false⟩,⟨3,0,([]:aJ),false⟩,⟨4,0,([97]:aJ),false⟩,⟨6,0,([]:aJ),false⟩,⟨4,0,([]:aJ),false⟩,⟨6,1,([]:aJ),false⟩]:List aT)]) (aF.pull (i:=1) g8 rfl) rfl
   refine bO (Kt:=K) (xs:=cA ([(j,6),(k,6),(o,7),(q,3)]:List (Dp.Hd (List aT))) ([([⟨7,0,([]:aJ),false⟩,⟨3,0,([]:aJ),false⟩,⟨5,0,([97]:aJ),false⟩,⟨1,0,([]:aJ),false⟩,⟨4,0,([]:aJ),false⟩,⟨6,0,([]:aJ),false⟩]:List aT),([⟨8,0,([]:aJ),false⟩,⟨2,0,([]:aJ),false⟩,⟨4,0,([97]:aJ),false⟩,⟨0,0,([]:aJ),false⟩,⟨5,0,([]:aJ),false⟩,⟨6,0,([]:aJ),false⟩]:List aT),([⟨8,0,([]:aJ),false⟩,⟨7,1,([]:aJ),false⟩,⟨3,0,([]:aJ),false⟩,⟨4,0,([97]:aJ),false⟩,⟨6,0,([]:aJ),false⟩,⟨4,0,([]:aJ),false⟩,⟨6,1,([]:aJ),false⟩]:List aT),([⟨5,0,([98]:aJ),false⟩,⟨4,0,([]:aJ),false⟩,⟨0,0,([]:aJ),false⟩]:List aT)]:List (List aT))) (cs:=[zS j ([⟨7,0,([]:aJ),false⟩,⟨3,0,([]:aJ),false⟩,⟨5,0,([97]:aJ),false⟩,⟨1,0,([]:aJ),false⟩,⟨4,0,([]:aJ),false⟩,⟨6,0,([]:aJ),false⟩]:List aT).length 6,zS k ([⟨8,0,([]:aJ),false⟩,⟨2,0,([]:aJ),false⟩,⟨4,0,([97]:aJ),false⟩,⟨0,0,([]:aJ),false⟩,⟨5,0,([]:aJ),false⟩,⟨6,0,([]:aJ),false⟩]:List aT).length 6,zS o ([⟨8,0,([]:aJ),false⟩,⟨7,1,([]:aJ),false⟩,⟨3,0,([]:aJ),false⟩,⟨4,0,([97]:aJ),false⟩,⟨6,0,([]:aJ),false⟩,⟨4,0,([]:aJ),false⟩,⟨6,1,([]:aJ),false⟩]:List aT).length 7,zS q ([⟨5,0,([98]:aJ),false⟩,⟨4,0,([]:aJ),false⟩,⟨0,0,([]:aJ),false⟩]:List aT).length 3]) (vs:=[(0,zS j ([⟨7,0,([]:aJ),false⟩,⟨3,0,([]:aJ),false⟩,⟨5,0,([97]:aJ),false⟩,⟨1,0,([]:aJ),false⟩,⟨4,0,([]:aJ),false⟩,⟨6,0,([]:aJ),false⟩]:List aT).length 6),(1,zS k ([⟨8,0,([]:aJ),false⟩,⟨2,0,([]:aJ),false⟩,⟨4,0,([97]:aJ),false⟩,⟨0,0,([]:aJ),false⟩,⟨5,0,([]:aJ),false⟩,⟨6,0,([]:aJ),false⟩]:List aT).length 6),(2,zS o ([⟨8,0,([]:aJ),false⟩,⟨7,1,([]:aJ),false⟩,⟨3,0,([]:aJ),false⟩,⟨4,0,([97]:aJ),false⟩,⟨6,0,([]:aJ),false⟩,⟨4,0,([]:aJ),false⟩,⟨6,1,([]:aJ),false⟩]:List aT).length 7),(3,zS q ([⟨5,0,([98]:aJ),false⟩,⟨4,0,([]:aJ),false⟩,⟨0,0,([]:aJ),false⟩]:List aT).length 3)]) aMU ez_24 rfl rfl g9 rfl (by kernel_rfl) rfl rfl rfl ⟨rfl,rfl,rfl,rfl,trivial⟩ ?_
   intro b3 c8 (h0:aF G p (own 24 K b3 4 (cA ([(j,6),(k,6),(o,7),(q,3)]:List (Dp.Hd (List aT))) ([([⟨7,0,([]:aJ),false⟩,⟨3,0,([]:aJ),false⟩,⟨5,0,([97]:aJ),false⟩,⟨1,0,([]:aJ),false⟩,⟨4,0,([]:aJ),false⟩,⟨6,0,([]:aJ),false⟩]:List aT),([⟨8,0,([]:aJ),false⟩,⟨2,0,([]:aJ),false⟩,⟨4,0,([97]:aJ),false⟩,⟨0,0,([]:aJ),false⟩,⟨5,0,([]:aJ),false⟩,⟨6,0,([]:aJ),false⟩]:List aT),([⟨8,0,([]:aJ),false⟩,⟨7,1,([]:aJ),false⟩,⟨3,0,([]:aJ),false⟩,⟨4,0,([97]:aJ),false⟩,⟨6,0,([]:aJ),false⟩,⟨4,0,([]:aJ),false⟩,⟨6,1,([]:aJ),false⟩]:List aT),([⟨5,0,([98]:aJ),false⟩,⟨4,0,([]:aJ),false⟩,⟨0,0,([]:aJ),false⟩]:List aT)]:List (List aT)))::rows [45] ([(j,6),(k,6),(o,7),(q,3)]:List (Dp.Hd (List aT))) ([([⟨7,0,([]:aJ),false⟩,⟨3,0,([]:aJ),false⟩,⟨5,0,([97]:aJ),false⟩,⟨1,0,([]:aJ),false⟩,⟨4,0,([]:aJ),false⟩,⟨6,0,([]:aJ),false⟩]:List aT),([⟨8,0,([]:aJ),false⟩,⟨2,0,([]:aJ),false⟩,⟨4,0,([97]:aJ),false⟩,⟨0,0,([]:aJ),false⟩,⟨5,0,([]:aJ),false⟩,⟨6,0,([]:aJ),false⟩]:List aT),([⟨8,0,([]:aJ),false⟩,⟨7,1,([]:aJ),false⟩,⟨3,0,([]:aJ),false⟩,⟨4,0,([97]:aJ),false⟩,⟨6,0,([]:aJ),false⟩,⟨4,0,([]:aJ),false⟩,⟨6,1,([]:aJ),false⟩]:List aT),([⟨5,0,([98]:aJ),false⟩,⟨4,0,([]:aJ),false⟩,⟨0,0,([]:aJ),false⟩]:List aT)]:List (List aT))::box b1 74 [zS a2 h.length c3,i64 g.2.1,Value.int .u64 g.2.2]::box n 28 (zC a.1 b c d e)::own 9 K b c a.1.L::own 68 K d e a.1.E::box m 28 l::L) c8)
   refine aH (v:=zS b3 ([([⟨7,0,([]:aJ),false⟩,⟨3,0,([]:aJ),false⟩,⟨5,0,([97]:aJ),false⟩,⟨1,0,([]:aJ),false⟩,⟨4,0,([]:aJ),false⟩,⟨6,0,([]:aJ),false⟩]:List aT),([⟨8,0,([]:aJ),false⟩,⟨2,0,([]:aJ),false⟩,⟨4,0,([97]:aJ),false⟩,⟨0,0,([]:aJ),false⟩,⟨5,0,([]:aJ),false⟩,⟨6,0,([]:aJ),false⟩]:List aT),([⟨8,0,([]:aJ),false⟩,⟨7,1,([]:aJ),false⟩,⟨3,0,([]:aJ),false⟩,⟨4,0,([97]:aJ),false⟩,⟨6,0,([]:aJ),false⟩,⟨4,0,([]:aJ),false⟩,⟨6,1,([]:aJ),false⟩]:List aT),([⟨5,0,([98]:aJ),false⟩,⟨4,0,([]:aJ),false⟩,⟨0,0,([]:aJ),false⟩]:List aT)]:List (List aT)).length 4) ?_
   obtain ⟨c9,d0,d1,_,b4,_⟩:=aF.lendD' (i:=0) h0 rfl rfl rfl
   replace b4:aF G c9 (box b1 74 [zS a2 h.length c3,i64 g.2.1,Value.int .u64 g.2.2]::box n 28 (zC a.1 b c d e)::own 9 K b c a.1.L::own 68 K d e a.1.E::box m 28 l::L) c8:=b4
   refine aI (aU (aG (v:=zS b3 ([([⟨7,0,([]:aJ),false⟩,⟨3,0,([]:aJ),false⟩,⟨5,0,([97]:aJ),false⟩,⟨1,0,([]:aJ),false⟩,⟨4,0,([]:aJ),false⟩,⟨6,0,([]:aJ),false⟩]:List aT),([⟨8,0,([]:aJ),false⟩,⟨2,0,([]:aJ),false⟩,⟨4,0,([97]:aJ),false⟩,⟨0,0,([]:aJ),false⟩,⟨5,0,([]:aJ),false⟩,⟨6,0,([]:aJ),false⟩]:List aT),([⟨8,0,([]:aJ),false⟩,⟨7,1,([]:aJ),false⟩,⟨3,0,([]:aJ),false⟩,⟨4,0,([97]:aJ),false⟩,⟨6,0,([]:aJ),false⟩,⟨4,0,([]:aJ),false⟩,⟨6,1,([]:aJ),false⟩]:List aT),([⟨5,0,([98]:aJ),false⟩,⟨4,0,([]:aJ),false⟩,⟨0,0,([]:aJ),false⟩]:List aT)]:List (List aT)).length 4) (aG (v:=zP (some ⟨b1,0,none⟩)) ?_)))
   obtain ⟨d2,h1,hm⟩:=aB hm
   refine aAZ call34 (bH h1 b4 (y.mono (zL a7 d0))) ?_
   rintro _ j3 ⟨rfl,d3⟩
   obtain ⟨d4,d5,hm⟩:=aB hm
   refine aD (cU aMU rfl d1 rfl rfl rfl d5) ?_;obtain ⟨j4,h2,h3⟩:=bI.el (sz:=1) rfl d1 d5
   obtain ⟨d6,d7,rfl,h5⟩:=h3
   exact aD (bE (t:=0) sc_24 d3 h2 rfl rfl) (aH (v:=zS d6 d4.length d7) (aI ⟨bG,c9,d4,d2.2.1,d2.2.2,d6,d7,d0,hm,rfl,h5,d3⟩))
  ·exact aX b2 rfl (aW (aC ⟨bG,p,a6.1,g.2.1,g.2.2,e5,e6,(zR _),hm,rfl,e8,c7⟩))
theorem aIi {c:(List UInt8)} {R:((List aT) × cN)} (hm:aFN c=some R) (hs:aF G K (L) w) (x:bI K a1 c2 c):
  Calls prog 5 ([zS a1 c.length c2]:List Value).toArray w (dL fun v w'=>∃ y a4 a5 a6 a7 a8 a9,v=Value.tuple #[zS a4 R.1.length a5,zA (zCa R.2 a6 a7 a8 a9)]/\Hp.le K y/\bI y a4 a5 R.1/\aF G y (own 9 K a6 a7 R.2.L::own 68 K a8 a9 R.2.E::L) w'):=by
 let g:=zG
 refine aBM func5 ?_;unfold aFN at hm
 refine aAW ?_;refine aEx fun d w5 b8=>?_
 refine aAW ?_;obtain ⟨r7,q8,hm⟩:=aB hm
 refine aAZ call11 (aId q8 b8 x) ?_
 rintro _ g7 ⟨e,rfl,g8⟩
 refine aAW ?_;refine aS [3,4] (fun f w=>∃ h j k,Hp.le K h/\aCV c j k=some R/\aF G h (box e 74 [zS a1 c.length c2,i64 j,Value.int .u64 k]::box d 28 g::L) w) ?_ ?_
 ·rintro f g9 ⟨h,j,k,z,hm,h0⟩
  unfold aCV at hm
  iterate 3 refine aBh ?_
  refine aD (cO (vs:=[(0,i64 4),(2,str ([97]:aJ))]) (cs:=[i64 4,i64 0,str ([97]:aJ),zB false]) mC rfl (by kernel_rfl)) (aD (cO (vs:=[]) (cs:=[i64 0,i64 0,str ([]:aJ),zB false]) mC rfl (by kernel_rfl)) (aCp ([⟨4,0,([97]:aJ),false⟩,⟨0,0,([]:aJ),false⟩]:List aT) fun b0 c1 h1=>?_));refine aAW ?_
  have c3:aF G h (box e 74 [zS a1 c.length c2,i64 j,Value.int .u64 k]::own 45 K b0 2 ([⟨4,0,([97]:aJ),false⟩,⟨0,0,([]:aJ),false⟩]:List aT)::box d 28 g::L) c1:=aCN
  obtain ⟨b,c4,hm⟩:=aB hm
  refine aAZ call15 (aFY c4 c3 (x.mono z)) ?_
  rintro _ h2 ⟨l,m,n,o,rfl,h4⟩
  refine aAW ?_;refine aFy fun c5 c6=>?_
  refine aAW ?_;obtain ⟨b1,c7,c8,J⟩:=aF.giveSp c6 z zt3
  replace J:aF G b1 (own 9 K l m b.1.L::own 68 K n o b.1.E::box e 74 [zS a1 c.length c2,i64 b.2.1,Value.int .u64 b.2.2]::box d 28 (zC b.1 l m n o)::L) c5:=J
  obtain rfl:=zI hm
  exact nD (aMs results5 (aKQ rfl rfl) (aHB (vs:=(zC b.1 l m n o)) rfl sQ J (i:=3) rfl rfl rfl) ⟨b1,b0,2,l,m,n,o,rfl,(zL z c7),c8,aCN⟩)
 obtain ⟨h5,d0,ho⟩:=aB hm
 refine lR [3,4] d0 (fun b2 b3 Z f w=>∃ a0,Hp.le K a0/\f 5=i64 Z/\aF G a0 (box e 74 [zS a1 c.length c2,i64 b2,Value.int .u64 b3]::box d 28 g::L) w) aN ?_
 ·rintro b2 b3 Z d1 f h6 hm hr ⟨a0,p,h7,d2⟩
  unfold wO at hm
  refine aAW ?_
  rcases aM hm with ⟨d3,hm⟩|⟨d3,hm⟩
  ·refine aAW ?_;refine bZ (aAW ?_)
   obtain ⟨a,d4,hm⟩:=aB hm
   refine aAZ call12 (aEo d4 d2 (x.mono p)) ?_
   rintro _ h8 ⟨b5,d5,d6,q,r,t,u,rfl,a2,b6,h9⟩
   refine aAW ?_;refine aEx fun d7 i0 i1=>?_
   refine aAW ?_;refine aFy fun i2 d8=>?_
   iterate 3 refine aBh ?_
   refine bD [3,4,5,6,7] (fun f w=>∃ a3,qI Z a a3=some d1/\f 28=zB a3/\aF G b5 (box d7 28 (zC a.2.1 q r t u)::own 9 K q r a.2.1.L::own 68 K t u a.2.1.E::box e 74 [zS a1 c.length c2,i64 a.2.2.1,Value.int .u64 a.2.2.2]::box d 28 g::L) w) ?_ ?_
   ·rintro f i3 ⟨a3,hm,i4,d9⟩
    unfold qI at hm
    refine aAW ?_
    rcases aM hm with ⟨e0,hm⟩|⟨e0,hm⟩
    ·refine aAW ?_;obtain ⟨i5,i6,i7,i8,e1⟩:=aF.lendBp d9 .head
     refine aGG [(0,0),(1,0),(2,0),(3,2)] fun i9 e2=>?_;refine aAW ?_
     have j0:=e1 _ _ e2
     refine aHm rfl (aFy fun j1 e3=>?_);refine aAW ?_
     refine lV (aAW ?_);refine nD (aHv (kJ (kJ ?_)))
     have e4:=hr _ (zI hm).symm
     subst e4
     have hm:(some (a.1,a.2.1))=some R:=ho
     clear hr ho
     obtain rfl:=zI hm
     exact aHv (kJ (kJ (aMs results5 (aKQ rfl rfl) (aHB (vs:=(zC a.2.1 q r t u)) rfl sQ e3 (i:=4) rfl rfl rfl) ⟨b5,d5,d6,q,r,t,u,rfl,(zL p a2),b6,aCN⟩)))
    ·exact aN
   refine aAW ?_;obtain ⟨j2,e6,hm⟩:=aB hm
   refine aAZ call13 (aGD e6 d8 b6) ?_
   rintro _ j3 ⟨rfl,e7⟩
   refine aAW ?_
   rcases aM hm with ⟨e8,hm⟩|⟨e8,hm⟩
   ·refine aAW ?_;obtain ⟨j4,e9,f0,f1,f2⟩:=aF.lendSp e7 (zL p a2) zt1
    obtain ⟨j5,f3,f4,f5,f6⟩:=aF.lendSp f1 (zL (zL p a2) e9) zt1
    obtain ⟨j6,b7,f7,f8,f9⟩:=aF.lendBp f5 .head
    obtain ⟨j7,g0,hm⟩:=aB hm
    refine aAZ call14 (aGE g0 f8 f7 (f0.mono (zL f3 b7)) (f4.mono b7)) ?_
    rintro _ j8 ⟨rfl,g1⟩
    have g2:=f9 _ _ g1
    have g3:=f6 _ _ g2
    have j9:=f2 _ _ g3
    exact aN
   ·exact aN
  ·exact aN
theorem aJF {t:cN} {k:Int} {R:Bool} (hm:uH t k=some R) (a:aF G K (L) w) (b:bI K a1 c2 t.L) (c:bI K a4 c5 t.E):
  Calls prog 116 ([zA (zCa t a1 c2 a4 c5),i64 k]:List Value).toArray w (dL fun v w'=>v=zB R/\aF G K (L) w'):=by
 exact aN
theorem aPG {i many:Int} {R:Bool} (hm:aMv i many=some R) (a:aF G K (L) w):
  Calls prog 118 ([i64 i,i64 many]:List Value).toArray w (dL fun v w'=>v=zB R/\aF G K (L) w'):=by
 exact aN
theorem aMh {t:cN} {R:Bool} (hm:aDS t=some R) (z:aF G K (L) w) (J:G.lo=0) (i:bI K a1 c2 t.L) (j:bI K a4 c5 t.E):
  Calls prog 69 ([zA (zCa t a1 c2 a4 c5)]:List Value).toArray w (dL fun v w'=>v=zB R/\aF G K (L) w'):=by
 let a:=(zC t a1 c2 a4 c5)
 refine aBM func69 ?_;unfold aDS at hm
 refine aAW ?_;refine aGg fun b Z a0=>?_
 iterate 5 refine aBh ?_
 refine bD [1] (fun f w=>∃ c,rB t c=some R/\f 30=zB c/\aF G K (box b 28 a::L) w) ?_ ?_
 ·rintro f a2 ⟨c,hm,a3,a5⟩
  unfold rB at hm
  refine aAW ?_
  rcases aM hm with ⟨k,hm⟩|⟨k,hm⟩
  ·exact aN
  ·refine aAW ?_;refine aS [1] (fun f w=>aBE t=some R/\aF G K (box b 28 a::L) w) ?_ ?_
   ·rintro f a6 ⟨hm,a7⟩
    unfold aBE at hm
    refine aAW ?_;refine aS [] (fun f w=>aJh=some R/\aF G K (L) w) aN ?_
    obtain ⟨a8,l,ho⟩:=aB hm
    refine eK [1,65,66] l (fun d f w=>f 67=i64 d/\aF G K (box b 28 a::L) w) aN ?_
    ·rintro d m f a9 hm hr ⟨b0,b1⟩
     unfold xP at hm
     refine aAW ?_
     rcases aM hm with ⟨n,hm⟩|⟨n,hm⟩
     ·refine aAW ?_;refine bZ (aAW ?_)
      obtain ⟨b2,o,hm⟩:=aB hm
      refine aAW ?_;obtain ⟨b3,b4,p⟩:=bI.el (sz:=3) rfl j o
      cases p
      refine aAW ?_;refine aEx fun b5 b6 b8=>?_
      refine aAW ?_;refine aFy fun b9 c0=>?_
      refine aAW ?_;exact bD [1,65,66,67] (fun f w=>∃ g,rA d g=some m/\f 107=zB g/\aF G K (box b 28 a::L) w) aN aN
     ·exact aN
   obtain ⟨c1,q,ho⟩:=aB hm
   refine eK [1,32,33] q (fun e f w=>f 34=i64 e/\aF G K (box b 28 a::L) w) aN ?_
   ·rintro e r f c3 hm hr ⟨c4,c6⟩
    unfold xQ at hm
    refine aAW ?_
    rcases aM hm with ⟨u,hm⟩|⟨u,hm⟩
    ·refine aAW ?_;refine bZ (aAW ?_)
     obtain ⟨c7,x,hm⟩:=aB hm
     refine aAW ?_;obtain ⟨c8,c9,y⟩:=bI.el (sz:=1) rfl i x
     cases y
     iterate 6 refine aBh ?_
     exact bD [1,32,33,34] (fun f w=>∃ h,uI e h=some r/\f 62=zB h/\aF G K (box b 28 a::L) w) aN aN
    ·exact aN
 exact aN
theorem aCh {n:aT} {R:Int} (hm:nL n=some R) (d:aF G K (L) w):
  Calls prog 180 ([zA #[i64 n.Kind,i64 n.Variable,str n.B,zB n.Not]]:List Value).toArray w (dL fun v w'=>v=i64 R/\aF G K (L) w'):=by
 refine aBM func180 ?_;unfold nL at hm
 refine aAW ?_;refine aGg fun e g h=>?_
 refine aAW ?_;refine bZ (gQ [4] (fun f w=>∃ a,pE n a=some R/\f 5=zB a/\aF G K (L) w) ?_ ?_)
 ·rintro f i ⟨a,hm,j,k⟩
  unfold pE at hm
  rcases aM hm with ⟨c,hm⟩|⟨c,hm⟩
  ·exact aN
  ·iterate 1 refine aBh ?_
   exact gQ [] (fun f w=>∃ b,lW b=some R/\f 8=zB b/\aF G K (L) w) aN aN
 exact aN
theorem aNl {a:(List aT)} {R:Bool} (hm:aFO a=some R) (g:aF G K (L) w) (h:bI K a1 c2 a):
  Calls prog 120 ([zS a1 a.length c2]:List Value).toArray w (dL fun v w'=>v=zB R/\aF G K (L) w'):=by
 refine aBM func120 ?_;unfold aFO at hm
 refine aAW ?_;refine aS [] (fun f w=>∃ b,aKr b=some R/\f 3=i64 b/\aF G K (L) w) aN ?_
 obtain ⟨i,c,ho⟩:=aB hm
 exact bN [6,7] c (fun d e f w=>f 3=i64 d/\f 8=i64 e/\aF G K (L) w) aN aN
end Gv
