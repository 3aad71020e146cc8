/- Walks, printed by program. -/
import Derived.Test.YtkcggmmjnpdgnaaGreatDoorJWk3
set_option linter.all false
namespace Gv
open Gv.Hp renaming le_refl→zR
open Go.Value renaming slice→zS,bool→zB,pointer→zP
open Option.some renaming inj→zI
open Go Go.Proofs Go.Proofs.Tryz
set_option maxRecDepth 20000
set_option maxHeartbeats 40000000
variable {G:uK} {K:Hp} {L:List gQ} {w:World} {b1 c3 c6 c9 c12 c5:Nat} {a2 a5 a8 a11 a4:Option Addr}
theorem aAv {a:(List UInt8)} {b c:Int} {R:(Int × Int × Int)} (hm:uW a b c=some R) (e:aI G K (box b1 56 [zS a2 a.length c3,i64 b,Value.int .u64 c]::L) w) (g:bW K a2 c3 a):
  Calls prog 57 ([zP (some ⟨b1,0,none⟩)]:List Value).toArray w (eV fun v w'=>v=i64 R.1/\aI G K (box b1 56 [zS a2 a.length c3,i64 R.2.1,Value.int .u64 R.2.2]::L) w'):=by
 refine aR func57 rfl (by kernel_rfl) (by show (1:Nat)<=62;decide) ?_;unfold uW at hm
 exact aK (aE (v:=i64 0) (aG (aK (aE (v:=i64 0) (aG (iQ [0] (fun f w=>∃ d,oO a b c d=some R/\f 3=i64 d/\aI G K (box b1 56 [zS a2 a.length c3,i64 b,Value.int .u64 c]::L) w) eB eB))))))
theorem bQ {a:(List UInt8)} {b c n:Int} {R:(Int × Int × Int)} (hm:bR a b c n=some R) (i:aI G K (box b1 56 [zS a2 a.length c3,i64 b,Value.int .u64 c]::L) w) (j:bW K a2 c3 a):
  Calls prog 23 ([zP (some ⟨b1,0,none⟩),i64 n]:List Value).toArray w (eV fun v w'=>v=i64 R.1/\aI G K (box b1 56 [zS a2 a.length c3,i64 R.2.1,Value.int .u64 R.2.2]::L) w'):=by
 refine aR func23 rfl (by kernel_rfl) (by show (2:Nat)<=20;decide) ?_;unfold bR at hm
 refine aK (aE (v:=i64 0) (aG (aO (aK (aF (v:=i64 n) (aD (aIO rfl rfl) (aG ?_)))))))
 rcases aH hm with ⟨d,hm⟩|⟨d,hm⟩
 ·exact eB
 ·refine aJ d rfl (aW (aB (aK (aF (v:=zP (some ⟨b1,0,none⟩)) ?_))));obtain ⟨k,l,hm⟩:=aC hm
  refine aP (vs:=[zP (some ⟨b1,0,none⟩)]) call57 rfl (aAv l i j) ?_
  rintro _ m ⟨rfl,o⟩
  exact aE (v:=i64 k.1) (aG (iQ [1] (fun f w=>∃ e g h,oP n e g h=some R/\f 5=i64 e/\aI G K (box b1 56 [zS a2 a.length c3,i64 g,Value.int .u64 h]::L) w) eB eB))
theorem dY {a:(List UInt8)} {b c n:Int} {R:(Bool × Int × Int)} (hm:eI a b c n=some R) (d:aI G K (box b1 56 [zS a2 a.length c3,i64 b,Value.int .u64 c]::L) w) (e:bW K a2 c3 a):
  Calls prog 25 ([zP (some ⟨b1,0,none⟩),i64 n]:List Value).toArray w (eV fun v w'=>v=zB R.1/\aI G K (box b1 56 [zS a2 a.length c3,i64 R.2.1,Value.int .u64 R.2.2]::L) w'):=by
 exact eB
theorem aDE {a:(List UInt8)} {n o:Int} {R:((List aY) × Int × Int)} (hm:wI a n o=some R) (hs:aI G K (box b1 56 [zS a2 a.length c3,i64 n,Value.int .u64 o]::L) w) (h4:bW K a2 c3 a):
  Calls prog 105 ([zP (some ⟨b1,0,none⟩)]:List Value).toArray w (eV fun v w'=>∃ y z,v=zS y R.1.length z/\aI G K (aN 9 K y z R.1::box b1 56 [zS a2 a.length c3,i64 R.2.1,Value.int .u64 R.2.2]::L) w'):=by
 let J:=box b1 56 [zS a2 a.length c3,i64 n,Value.int .u64 o]
 refine aR func105 rfl (by kernel_rfl) (by show (1:Nat)<=35;decide) ?_;unfold wI at hm
 refine aK (aE (v:=zS none 0 0) (aG (aK (bT (Kt:=K) (xs:=([([116,97,117]:aY)]:List aY)) (cs:=[str ([116,97,117]:aY)]) (vs:=[(0,str ([116,97,117]:aY))]) dE oM rfl rfl hs rfl (by kernel_rfl) rfl rfl rfl ⟨rfl,trivial⟩ (fun p w6 (b4:aI G K (aN 9 K p 1 ([([116,97,117]:aY)]:List aY)::J::L) w6)=>(aE (v:=zS p ([([116,97,117]:aY)]:List aY).length 1) (aG (aK (bT (Kt:=K) (xs:=([([97]:aY),([98]:aY),([99]:aY),([103,101,116,40,48,41]:aY),([103,101,116,40,49,41]:aY)]:List aY)) (cs:=[str ([97]:aY),str ([98]:aY),str ([99]:aY),str ([103,101,116,40,48,41]:aY),str ([103,101,116,40,49,41]:aY)]) (vs:=[(0,str ([97]:aY)),(1,str ([98]:aY)),(2,str ([99]:aY)),(3,str ([103,101,116,40,48,41]:aY)),(4,str ([103,101,116,40,49,41]:aY))]) dE oM rfl rfl b4 rfl (by kernel_rfl) rfl rfl rfl ⟨rfl,rfl,rfl,rfl,rfl,trivial⟩ (fun b w9 (c0:aI G K (aN 9 K b 5 ([([97]:aY),([98]:aY),([99]:aY),([103,101,116,40,48,41]:aY),([103,101,116,40,49,41]:aY)]:List aY)::aN 9 K p 1 ([([116,97,117]:aY)]:List aY)::J::L) w9)=>(aE (v:=zS b ([([97]:aY),([98]:aY),([99]:aY),([103,101,116,40,48,41]:aY),([103,101,116,40,49,41]:aY)]:List aY).length 5) (aG (aO (aK (aE (v:=i64 0) (aG (aX [] (fun f w=>∃ h c d q r,qS h c d=some R/\f 3=zS q h.length r/\aI G K (aN 9 K q r h::box b1 56 [zS a2 a.length c3,i64 c,Value.int .u64 d]::L) w) ?_ ?_)))))))))))))))))
 ·rintro f c1 ⟨h,c,d,q,r,hm,c2,c4⟩
  unfold qS at hm
  exact aB (iQ [] (fun f w=>∃ t V Z,qR c d t=some R/\f 3=zS V t.length Z/\aI G K (aN 9 K V Z t::box b1 56 [zS a2 a.length c3,i64 c,Value.int .u64 d]::L) w) eB eB)
 obtain ⟨c5,b6,ho⟩:=aC hm
 refine tZ [0,4] b6 (fun a0 a1 e g f w=>∃ i j,f 3=zS i e.length j/\f 5=i64 g/\aI G K (aN 9 K b 5 ([([97]:aY),([98]:aY),([99]:aY),([103,101,116,40,48,41]:aY),([103,101,116,40,49,41]:aY)]:List aY)::aN 9 K i j e::box b1 56 [zS a2 a.length c3,i64 a0,Value.int .u64 a1]::L) w) eB ?_
 ·rintro a0 a1 e g a3 f c6 hm hr ⟨i,j,c7,a4,c8⟩
  unfold mV at hm
  refine aO (aK (bC a4 (aF (v:=zS b ([([97]:aY),([98]:aY),([99]:aY),([103,101,116,40,48,41]:aY),([103,101,116,40,49,41]:aY)]:List aY).length 5) (aD (bX (len:=([([97]:aY),([98]:aY),([99]:aY),([103,101,116,40,48,41]:aY),([103,101,116,40,49,41]:aY)]:List aY).length) dE rfl) (aD (cV rfl rfl) (aG ?_))))))
  rcases aH hm with ⟨a6,hm⟩|⟨a6,hm⟩
  ·refine aL a6 rfl (aW (aB (aO (aX [0,4,5] (fun f w=>∃ u x k l m,kW g u x k=some a3/\f 3=zS l k.length m/\aI G K (aN 9 K l m k::aN 9 K b 5 ([([97]:aY),([98]:aY),([99]:aY),([103,101,116,40,48,41]:aY),([103,101,116,40,49,41]:aY)]:List aY)::box b1 56 [zS a2 a.length c3,i64 u,Value.int .u64 x]::L) w) ?_ ?_))))
   ·rintro f c9 ⟨u,x,k,l,m,hm,b7,b8⟩
    unfold kW at hm
    exact aB (aQ (bC a4 (aD (cL rfl rfl) (aE (v:=i64 (wr (g+1))) (aG ⟨_,(zI hm).symm,aM,l,m,b7,rfl,(aI.arr 2 [1,0] b8 rfl)⟩)))))
   exact aO (cH [0,3,4,5] (fun f w=>∃ a7 a9 b0,mU e g a7 a9 b0=some a3/\f 20=zB b0/\aI G K (aN 9 K b 5 ([([97]:aY),([98]:aY),([99]:aY),([103,101,116,40,48,41]:aY),([103,101,116,40,49,41]:aY)]:List aY)::aN 9 K i j e::box b1 56 [zS a2 a.length c3,i64 a7,Value.int .u64 a9]::L) w) eB eB)
  ·exact eB
theorem iW {a:(List UInt8)} {c d:Int} {b:(List Int)} {R:(Int × Int × Int)} (hm:eU a c d b=some R) (e:aI G K (box b1 56 [zS a2 a.length c3,i64 c,Value.int .u64 d]::L) w) (g:bW K a2 c3 a) (h:bW K a5 c6 b):
  Calls prog 71 ([zP (some ⟨b1,0,none⟩),zS a5 b.length c6]:List Value).toArray w (eV fun v w'=>v=i64 R.1/\aI G K (box b1 56 [zS a2 a.length c3,i64 R.2.1,Value.int .u64 R.2.2]::L) w'):=by
 exact eB
theorem aGn {b:(List UInt8)} {e5 e6:Int} {R:(cB × Int × Int)} (hm:aCW b e5 e6=some R) (hs:aI G K (box b1 56 [zS a2 b.length c3,i64 e5,Value.int .u64 e6]::L) w) (o:bW K a2 c3 b):
  Calls prog 56 ([zP (some ⟨b1,0,none⟩)]:List Value).toArray w (eV fun v w'=>∃ i3 i4 i5 i6,v=Value.agg (zCa R.1 i3 i4 i5 i6)/\aI G K (aN 9 K i3 i4 R.1.L::aN 66 K i5 i6 R.1.E::box b1 56 [zS a2 b.length c3,i64 R.2.1,Value.int .u64 R.2.2]::L) w'):=by
 let e:=zG
 refine aR func56 rfl (by kernel_rfl) (by show (1:Nat)<=125;decide) ?_;unfold aCW at hm
 refine aK (cI (vs:=e) zeroValue27 hs rfl (fun g w6 k8=>(aG (aK (aF (v:=zP (some ⟨b1,0,none⟩)) ?_)))))
 have k9:aI G K (box b1 56 [zS a2 b.length c3,i64 e5,Value.int .u64 e6]::box g 27 e::L) w6:=(aI.arr 2 [1,0] k8 rfl)
 obtain ⟨j,l0,hm⟩:=aC hm
 refine aP (vs:=[zP (some ⟨b1,0,none⟩),i64 4]) call23 rfl (bQ l0 k9 o) ?_
 rintro _ t8 ⟨rfl,l1⟩
 refine aD (cL rfl rfl) (aE (v:=i64 (wr (1+j.1))) (aG (aK (aF (v:=i64 (wr (1+j.1))) (aF (v:=zP (some ⟨b1,0,none⟩)) (aF (v:=i64 (wr (1+j.1))) (aD (kT rfl rfl) ?_)))))));obtain ⟨p,l2,hm⟩:=aC hm
 refine aP (vs:=[zP (some ⟨b1,0,none⟩),i64 (wr (7 - (wr (1+j.1))))]) call23 rfl (bQ l2 l1 o) ?_
 rintro _ t9 ⟨rfl,l3⟩
 refine aD (cL rfl rfl) (aE (v:=i64 (wr ((wr (1+j.1))+p.1))) (aG (aK (aF (v:=zP (some ⟨b1,0,none⟩)) ?_))));obtain ⟨a,l4,hm⟩:=aC hm
 refine aP (vs:=[zP (some ⟨b1,0,none⟩)]) call105 rfl (aDE l4 l3 o) ?_
 rintro _ u0 ⟨c,d,rfl,l5⟩
 refine aE (v:=zS c a.1.length d) (aG (aK (bT (Kt:=K) (xs:=([]:List Int)) (cs:=[]) (vs:=[]) bV iD rfl rfl l5 rfl (by kernel_rfl) rfl rfl rfl trivial (fun e7 l6 (l7:aI G K (aN 2 K e7 0 ([]:List Int)::aN 9 K c d a.1::box b1 56 [zS a2 b.length c3,i64 a.2.1,Value.int .u64 a.2.2]::box g 27 e::L) l6)=>(aE (v:=zS e7 ([]:List Int).length 0) (aG (aO (aK (aE (v:=i64 0) (aG (aX [0,2,3,4,5] (fun f w=>∃ b6 b7 k l m,uE b j p a b6 b7 k=some R/\f 6=zS l k.length m/\aI G K (aN 2 K l m k::aN 9 K c d a.1::box b1 56 [zS a2 b.length c3,i64 b6,Value.int .u64 b7]::box g 27 e::L) w) ?_ ?_)))))))))))
 ·rintro f u1 ⟨b6,b7,k,l,m,hm,i7,l8⟩
  unfold uE at hm
  refine aB (aK (bT (Kt:=K) (xs:=([]:List Edge)) (cs:=[]) (vs:=[]) cK gP rfl rfl l8 rfl (by kernel_rfl) rfl rfl rfl trivial (fun e8 i8 (l9:aI G K (aN 66 K e8 0 ([]:List Edge)::aN 2 K l m k::aN 9 K c d a.1::box b1 56 [zS a2 b.length c3,i64 b6,Value.int .u64 b7]::box g 27 e::L) i8)=>(aE (v:=zS e8 ([]:List Edge).length 0) (aG (aO (aK (aF (v:=zP (some ⟨b1,0,none⟩)) (aF (v:=i64 (wr (1+j.1))) (aD (aCD rfl rfl) (aD (cL rfl rfl) ?_)))))))))))
  have m0:aI G K (box b1 56 [zS a2 b.length c3,i64 b6,Value.int .u64 b7]::aN 66 K e8 0 ([]:List Edge)::aN 2 K l m k::aN 9 K c d a.1::box g 27 e::L) i8:=(aI.arr 4 [3,0,1,2] l9 rfl)
  obtain ⟨m1,m2,hm⟩:=aC hm
  refine aP (vs:=[zP (some ⟨b1,0,none⟩),i64 (wr (2+(wr (2 * (wr (1+j.1))))))]) call23 rfl (bQ m2 m0 o) ?_
  rintro _ u2 ⟨rfl,u3⟩
  refine aE (v:=i64 m1.1) (aG (aX [0,2,4,5] (fun f w=>∃ c0 c1 b8 c2 c48,wJ b j p a c0 c1 b8=some R/\f 8=zS c2 b8.length c48/\aI G K (aN 66 K c2 c48 b8::box b1 56 [zS a2 b.length c3,i64 c0,Value.int .u64 c1]::aN 9 K c d a.1::box g 27 e::L) w) ?_ ?_))
  ·rintro f m3 ⟨c0,c1,b8,c2,c48,hm,m4,m5⟩
   unfold wJ at hm
   refine aB (iQ [0,2,4,5] (fun f w=>∃ i9 j0 e9 j1 j2,sS b j p a i9 j0 e9=some R/\f 8=zS j1 e9.length j2/\aI G K (aN 66 K j1 j2 e9::box b1 56 [zS a2 b.length c3,i64 i9,Value.int .u64 j0]::aN 9 K c d a.1::box g 27 e::L) w) eB (aK (aF (v:=zP (some ⟨b1,0,none⟩)) ?_)))
   have m6:aI G K (box b1 56 [zS a2 b.length c3,i64 c0,Value.int .u64 c1]::aN 66 K c2 c48 b8::aN 9 K c d a.1::box g 27 e::L) m3:=(aI.arr 2 [1,0] m5 rfl)
   obtain ⟨u4,m7,hm⟩:=aC hm
   refine aP (vs:=[zP (some ⟨b1,0,none⟩),i64 3]) call25 rfl (dY m7 m6 o) ?_
   rintro _ u5 ⟨rfl,m8⟩
   refine aG ?_
   rcases aH hm with ⟨j3,hm⟩|⟨j3,hm⟩
   ·refine aL j3 rfl (aQ (bC m4 (aF (v:=zP (some ⟨b1,0,none⟩)) (aF (v:=i64 (wr ((wr (1+j.1))+p.1))) ?_))));obtain ⟨u6,m9,hm⟩:=aC hm
    refine aP (vs:=[zP (some ⟨b1,0,none⟩),i64 (wr ((wr (1+j.1))+p.1))]) call23 rfl (bQ m9 m8 o) ?_
    rintro _ u7 ⟨rfl,n0⟩
    refine aF (v:=zP (some ⟨b1,0,none⟩)) (aF (v:=zS c a.1.length d) (aD (bX (len:=a.1.length) dE rfl) ?_));obtain ⟨u8,n1,hm⟩:=aC hm
    refine aP (vs:=[zP (some ⟨b1,0,none⟩),i64 (a.1.length:Int)]) call23 rfl (bQ n1 n0 o) ?_
    rintro _ u9 ⟨rfl,n2⟩
    refine aF (v:=zP (some ⟨b1,0,none⟩)) (aF (v:=i64 (wr ((wr (1+j.1))+p.1))) ?_);obtain ⟨v0,n3,hm⟩:=aC hm
    exact aP (vs:=[zP (some ⟨b1,0,none⟩),i64 (wr ((wr (1+j.1))+p.1))]) call23 rfl (bQ n3 n2 o) eB
   ·exact eB
  obtain ⟨v1,n4,ho⟩:=aC hm
  refine tZ [0,2,3,4,5,6] n4 (fun c4 c5 b9 a9 f w=>∃ c6 c7,f 8=zS c6 b9.length c7/\f 9=i64 a9/\aI G K (box b1 56 [zS a2 b.length c3,i64 c4,Value.int .u64 c5]::aN 66 K c6 c7 b9::aN 2 K l m k::aN 9 K c d a.1::box g 27 e::L) w) eB ?_
  ·rintro c4 c5 b9 a9 f0 f v2 hm hr ⟨c6,c7,n5,j4,j5⟩
   unfold pY at hm
   refine aO (aK (bC j4 (aD (jU rfl rfl) (aG ?_))))
   rcases aH hm with ⟨f1,hm⟩|⟨f1,hm⟩
   ·refine aL f1 rfl (aW (aB (aO (aX [0,2,3,4,5,6,9] (fun f w=>∃ f2 f3 c8 c9 d0,aBu a9 f2 f3 c8=some f0/\f 8=zS c9 c8.length d0/\aI G K (aN 66 K c9 d0 c8::box b1 56 [zS a2 b.length c3,i64 f2,Value.int .u64 f3]::aN 2 K l m k::aN 9 K c d a.1::box g 27 e::L) w) ?_ ?_))))
    ·rintro f v3 ⟨f2,f3,c8,c9,d0,hm,n6,n7⟩
     unfold aBu at hm
     exact aB (aQ (bC j4 (aD (kT rfl rfl) (aE (v:=i64 (wr (a9 - 1))) (aG ⟨_,(zI hm).symm,aM,c9,d0,n6,rfl,(aI.arr 2 [1,0] n7 rfl)⟩)))))
    refine aK (aF (v:=zP (some ⟨b1,0,none⟩)) (aF (v:=i64 (wr (1+j.1))) ?_));obtain ⟨j6,n8,hm⟩:=aC hm
    refine aP (vs:=[zP (some ⟨b1,0,none⟩),i64 (wr (1+j.1))]) call23 rfl (bQ n8 j5 o) ?_
    rintro _ v4 ⟨rfl,n9⟩
    refine aE (v:=i64 j6.1) (aG (aK (aF (v:=zP (some ⟨b1,0,none⟩)) (aF (v:=zS c a.1.length d) (aD (bX (len:=a.1.length) dE rfl) ?_)))));obtain ⟨J,o0,hm⟩:=aC hm
    refine aP (vs:=[zP (some ⟨b1,0,none⟩),i64 (a.1.length:Int)]) call23 rfl (bQ o0 n9 o) ?_
    rintro _ v5 ⟨rfl,o1⟩
    refine aE (v:=i64 J.1) (aG (aK (aF (v:=zP (some ⟨b1,0,none⟩)) (aF (v:=i64 (wr (1+j.1))) ?_))));obtain ⟨j7,o2,hm⟩:=aC hm
    refine aP (vs:=[zP (some ⟨b1,0,none⟩),i64 (wr (1+j.1))]) call23 rfl (bQ o2 o1 o) ?_
    rintro _ v6 ⟨rfl,v7⟩
    refine aE (v:=i64 j7.1) (aG (aK (aE (v:=i64 0) (aG (aX [0,2,3,4,5,6,9] (fun f w=>∃ j8 j9 f4 k0 k1,wK a9 j8 j9 f4=some f0/\f 8=zS k0 f4.length k1/\aI G K (aN 66 K k0 k1 f4::box b1 56 [zS a2 b.length c3,i64 j8,Value.int .u64 j9]::aN 2 K l m k::aN 9 K c d a.1::box g 27 e::L) w) eB ?_)))));obtain ⟨v8,o3,ho⟩:=aC hm
    refine tZ [0,2,3,4,5,6,9,10,11,12] o3 (fun q r n u f w=>∃ y z,f 8=zS y n.length z/\f 13=i64 u/\aI G K (box b1 56 [zS a2 b.length c3,i64 q,Value.int .u64 r]::aN 66 K y z n::aN 2 K l m k::aN 9 K c d a.1::box g 27 e::L) w) eB ?_
    ·rintro q r n u f5 f v9 hm hr ⟨y,z,k2,d1,d2⟩
     unfold sT at hm
     refine aO (aK (bC d1 (aF (v:=i64 (wr ((wr (1+j.1))+p.1))) (aD (cV rfl rfl) (aG ?_)))))
     rcases aH hm with ⟨f6,hm⟩|⟨f6,hm⟩
     ·refine aL f6 rfl (aW (aB (aO (aX [0,2,3,4,5,6,9,10,11,12,13] (fun f w=>∃ f7 f8 d3 d4 d5,wL u f7 f8 d3=some f5/\f 8=zS d4 d3.length d5/\aI G K (box b1 56 [zS a2 b.length c3,i64 f7,Value.int .u64 f8]::aN 66 K d4 d5 d3::aN 2 K l m k::aN 9 K c d a.1::box g 27 e::L) w) ?_ ?_))))
      ·rintro f w0 ⟨f7,f8,d3,d4,d5,hm,o4,o5⟩
       unfold wL at hm
       exact aB (aQ (bC d1 (aD (cL rfl rfl) (aE (v:=i64 (wr (u+1))) (aG ⟨_,(zI hm).symm,aM,d4,d5,o4,rfl,o5⟩)))))
      refine aO (aK (bC i7 (bC d1 ?_)));obtain ⟨w1,f9,hm⟩:=aC hm
      have k3:=cQ d2 (i:=2) rfl f9
      refine aD (dL bV rfl k3 rfl rfl rfl f9) (aD (jV (t:=0) cE d2 (i:=2) rfl f9 rfl rfl rfl) (aF (v:=i64 j6.1) (aD (aDz rfl rfl) (aG ?_))))
      rcases aH hm with ⟨k4,hm⟩|⟨k4,hm⟩
      ·exact eB
      ·refine aJ k4 rfl (aW (aB (aK (bT (Kt:=K) (xs:=([]:List Int)) (cs:=[]) (vs:=[]) bV iD rfl rfl d2 rfl (by kernel_rfl) rfl rfl rfl trivial (fun g0 o6 (o7:aI G K (aN 2 K g0 0 ([]:List Int)::box b1 56 [zS a2 b.length c3,i64 q,Value.int .u64 r]::aN 66 K y z n::aN 2 K l m k::aN 9 K c d a.1::box g 27 e::L) o6)=>(aE (v:=zS g0 ([]:List Int).length 0) (aG (aO (aK (aE (v:=i64 0) (aG (aX [0,2,3,4,5,6,8,9,10,11,12,13] (fun f w=>∃ a5 b0 b2,wM b J q r n u a5=some f5/\f 14=zS b0 a5.length b2/\aI G K (aN 2 K b0 b2 a5::box b1 56 [zS a2 b.length c3,i64 q,Value.int .u64 r]::aN 66 K y z n::aN 2 K l m k::aN 9 K c d a.1::box g 27 e::L) w) ?_ ?_))))))))))))
       ·rintro f w2 ⟨a5,b0,b2,hm,o8,o9⟩
        unfold wM at hm
        refine aB (aQ (bC k2 (bC d1 (aF (v:=i64 J.1) (aF (v:=zP (some ⟨b1,0,none⟩)) (bC o8 ?_))))));obtain ⟨w3,p0,p1,p2,p3⟩:=aI.lendSp o9 (zR _) .head
        obtain ⟨x,p4,hm⟩:=aC hm
        refine aP (vs:=[zP (some ⟨b1,0,none⟩),zS b0 a5.length b2]) call71 rfl (iW p4 p2 (o.mono p0) p1) ?_
        rintro _ w4 ⟨rfl,p5⟩
        have p6:=p3 _ _ p5
        refine aD (gW (vs:=[(0,i64 u),(1,i64 J.1),(2,i64 x.1)]) (cs:=[i64 u,i64 J.1,i64 x.1]) aIn rfl (by kernel_rfl)) (bT (Kt:=K) (xs:=([⟨u,J.1,x.1⟩]:List Edge)) (cs:=[i64 u,i64 J.1,i64 x.1]) (vs:=[(0,Value.agg #[i64 u,i64 J.1,i64 x.1])]) cK gP rfl rfl p6 rfl (by kernel_rfl) rfl rfl rfl ⟨rfl,trivial⟩ (fun p7 p8 (p9:aI G K (aN 66 K p7 1 ([⟨u,J.1,x.1⟩]:List Edge)::aN 2 K b0 b2 a5::box b1 56 [zS a2 b.length c3,i64 x.2.1,Value.int .u64 x.2.2]::aN 66 K y z n::aN 2 K l m k::aN 9 K c d a.1::box g 27 e::L) p8)=>?_))
        obtain ⟨g1,q0,hm⟩:=aC hm
        exact eR (i:=2) cK underlying25 gP rfl rfl p9 rfl (zR _) (zR _) q0 rfl rfl rfl rfl (fun _ h=>h) (fun g2 g3 q1 (q2:aI G K (aN 2 K b0 b2 a5::box b1 56 [zS a2 b.length c3,i64 x.2.1,Value.int .u64 x.2.2]::aN 66 K g2 g3 g1::aN 2 K l m k::aN 9 K c d a.1::box g 27 e::L) q1)=>(aE (v:=zS g2 g1.length g3) (bF (bA (aB ⟨aM,x.2.1,x.2.2,g1,g2,g3,hm,rfl,(aI.arr 1 [] q2 rfl)⟩)))))
       obtain ⟨w5,q3,ho⟩:=aC hm
       refine cP [0,2,3,4,5,6,8,9,10,11,12,13] q3 (fun a6 Z f w=>∃ b3 b4,f 14=zS b3 a6.length b4/\f 15=i64 Z/\aI G K (aN 2 K b3 b4 a6::box b1 56 [zS a2 b.length c3,i64 q,Value.int .u64 r]::aN 66 K y z n::aN 2 K l m k::aN 9 K c d a.1::box g 27 e::L) w) ?_ ?_
       ·exact ⟨g0,0,rfl,rfl,o7⟩
       ·rintro a6 Z q4 f w7 hm hr ⟨b3,b4,g4,d6,d7⟩
        unfold mO at hm
        refine aO (aK (bC d6 (aF (v:=i64 (wr ((wr (1+j.1))+p.1))) (aD (cV rfl rfl) (aG ?_)))))
        rcases aH hm with ⟨g5,hm⟩|⟨g5,hm⟩
        ·refine aL g5 rfl (aW (aB (aO (aX [0,2,3,4,5,6,8,9,10,11,12,13,15] (fun f w=>∃ d8 d9 e0,wN Z d8=some q4/\f 14=zS d9 d8.length e0/\aI G K (aN 2 K d9 e0 d8::box b1 56 [zS a2 b.length c3,i64 q,Value.int .u64 r]::aN 66 K y z n::aN 2 K l m k::aN 9 K c d a.1::box g 27 e::L) w) ?_ ?_))))
         ·rintro f w8 ⟨d8,d9,e0,hm,q5,q6⟩
          unfold wN at hm
          exact aB (aQ (bC d6 (aD (cL rfl rfl) (aE (v:=i64 (wr (Z+1))) (aG ⟨_,(zI hm).symm,aM,d9,e0,q5,rfl,q6⟩)))))
         refine aK (bC i7 (bC d6 ?_));obtain ⟨w9,k5,hm⟩:=aC hm
         refine aD (dL bV rfl k3 rfl rfl rfl k5) (aD (jV (t:=0) cE d7 (i:=3) rfl k5 rfl rfl rfl) (aF (v:=i64 j7.1) (aD (dM rfl rfl) (aG ?_))))
         rcases aH hm with ⟨g6,hm⟩|⟨g6,hm⟩
         ·refine aL g6 rfl (aQ (bC g4 (bC d6 (bT (Kt:=K) (xs:=([Z]:List Int)) (cs:=[i64 Z]) (vs:=[(0,i64 Z)]) bV iD rfl rfl d7 rfl (by kernel_rfl) rfl rfl rfl ⟨rfl,trivial⟩ (fun q7 q8 (q9:aI G K (aN 2 K q7 1 ([Z]:List Int)::aN 2 K b3 b4 a6::box b1 56 [zS a2 b.length c3,i64 q,Value.int .u64 r]::aN 66 K y z n::aN 2 K l m k::aN 9 K c d a.1::box g 27 e::L) q8)=>?_)))));obtain ⟨g7,r0,hm⟩:=aC hm
          exact eR (i:=0) bV underlying63 iD rfl rfl q9 rfl (zR _) (zR _) r0 rfl rfl rfl rfl (fun _ h=>h) (fun g8 g9 r1 (r2:aI G K (aN 2 K g8 g9 g7::box b1 56 [zS a2 b.length c3,i64 q,Value.int .u64 r]::aN 66 K y z n::aN 2 K l m k::aN 9 K c d a.1::box g 27 e::L) r1)=>(aE (v:=zS g8 g7.length g9) (bF (bA (aB ⟨aM,g7,g8,g9,hm,rfl,r2⟩)))))
         ·exact aJ g6 rfl (aW (bA (aB ⟨aM,a6,b3,b4,hm,g4,d7⟩)))
        ·refine aJ g5 rfl (cJ (bB (bB ?_)))
         have r3:=hr _ (zI hm).symm
         subst r3
         have hm:(wM b J q r n u a6)=some f5:=ho
         clear hr ho
         exact bP (aB ⟨aM,a6,b3,b4,hm,g4,d7⟩)
     ·refine aJ f6 rfl (cJ (bB (bB ?_)))
      have r4:=hr _ (zI hm).symm
      subst r4
      have hm:(wK a9 q r n)=some f0:=ho
      clear hr ho
      exact bP (aB ⟨aM,q,r,n,y,z,hm,k2,(aI.arr 2 [1,0] d2 rfl)⟩)
   ·refine aJ f1 rfl (cJ (bB (bB ?_)))
    have r5:=hr _ (zI hm).symm
    subst r5
    have hm:(wJ b j p a c4 c5 b9)=some R:=ho
    clear hr ho
    exact bP (aB ⟨aM,c4,c5,b9,c6,c7,hm,n5,(aI.arr 3 [1,0] j5 rfl)⟩)
 obtain ⟨x0,r6,ho⟩:=aC hm
 refine tZ [0,2,3,4,5] r6 (fun a0 a1 a3 a4 f w=>∃ a7 a8,f 6=zS a7 a3.length a8/\f 7=i64 a4/\aI G K (aN 2 K a7 a8 a3::aN 9 K c d a.1::box b1 56 [zS a2 b.length c3,i64 a0,Value.int .u64 a1]::box g 27 e::L) w) ?_ ?_
 ·exact ⟨e7,0,rfl,rfl,l7⟩
 ·rintro a0 a1 a3 a4 r7 f r8 hm hr ⟨a7,a8,h0,e1,h1⟩
  unfold qA at hm
  refine aO (aK (bC e1 (aF (v:=i64 (wr ((wr (1+j.1))+p.1))) (aD (cV rfl rfl) (aG ?_)))))
  rcases aH hm with ⟨h2,hm⟩|⟨h2,hm⟩
  ·refine aL h2 rfl (aW (aB (aO (aX [0,2,3,4,5,7] (fun f w=>∃ h3 h5 e2 e3 e4,pZ a4 h3 h5 e2=some r7/\f 6=zS e3 e2.length e4/\aI G K (aN 2 K e3 e4 e2::aN 9 K c d a.1::box b1 56 [zS a2 b.length c3,i64 h3,Value.int .u64 h5]::box g 27 e::L) w) ?_ ?_))))
   ·rintro f x1 ⟨h3,h5,e2,e3,e4,hm,s0,s1⟩
    unfold pZ at hm
    exact aB (aQ (bC e1 (aD (cL rfl rfl) (aE (v:=i64 (wr (a4+1))) (aG ⟨_,(zI hm).symm,aM,e3,e4,s0,rfl,s1⟩)))))
   refine aK (bC e1 (aF (v:=i64 (wr (1+j.1))) (aD (cV rfl rfl) (aG ?_))))
   rcases aH hm with ⟨h6,hm⟩|⟨h6,hm⟩
   ·refine aL h6 rfl (aQ (bC h0 (bC e1 (bT (Kt:=K) (xs:=([a4]:List Int)) (cs:=[i64 a4]) (vs:=[(0,i64 a4)]) bV iD rfl rfl h1 rfl (by kernel_rfl) rfl rfl rfl ⟨rfl,trivial⟩ (fun s2 s3 (s4:aI G K (aN 2 K s2 1 ([a4]:List Int)::aN 2 K a7 a8 a3::aN 9 K c d a.1::box b1 56 [zS a2 b.length c3,i64 a0,Value.int .u64 a1]::box g 27 e::L) s3)=>?_)))));obtain ⟨h7,s5,hm⟩:=aC hm
    exact eR (i:=0) bV underlying63 iD rfl rfl s4 rfl (zR _) (zR _) s5 rfl rfl rfl rfl (fun _ h=>h) (fun h8 h9 s6 (s7:aI G K (aN 2 K h8 h9 h7::aN 9 K c d a.1::box b1 56 [zS a2 b.length c3,i64 a0,Value.int .u64 a1]::box g 27 e::L) s6)=>(aE (v:=zS h8 h7.length h9) (bF (bA (aB ⟨aM,a0,a1,h7,h8,h9,hm,rfl,s7⟩)))))
   ·refine aJ h6 rfl (aQ (bC h0 (aF (v:=zP (some ⟨b1,0,none⟩)) (aF (v:=i64 (wr (1+j.1))) ?_))))
    have s8:aI G K (box b1 56 [zS a2 b.length c3,i64 a0,Value.int .u64 a1]::aN 2 K a7 a8 a3::aN 9 K c d a.1::box g 27 e::L) r8:=(aI.arr 3 [2,0,1] h1 rfl)
    obtain ⟨V,s9,hm⟩:=aC hm
    refine aP (vs:=[zP (some ⟨b1,0,none⟩),i64 (wr (1+j.1))]) call23 rfl (bQ s9 s8 o) ?_
    rintro _ x2 ⟨rfl,t0⟩
    refine bT (Kt:=K) (xs:=([V.1]:List Int)) (cs:=[i64 V.1]) (vs:=[(0,i64 V.1)]) bV iD rfl rfl t0 rfl (by kernel_rfl) rfl rfl rfl ⟨rfl,trivial⟩ (fun t1 t2 (t3:aI G K (aN 2 K t1 1 ([V.1]:List Int)::box b1 56 [zS a2 b.length c3,i64 V.2.1,Value.int .u64 V.2.2]::aN 2 K a7 a8 a3::aN 9 K c d a.1::box g 27 e::L) t2)=>?_);obtain ⟨i0,t4,hm⟩:=aC hm
    exact eR (i:=1) bV underlying63 iD rfl rfl t3 rfl (zR _) (zR _) t4 rfl rfl rfl rfl (fun _ h=>h) (fun i1 i2 t5 (t6:aI G K (box b1 56 [zS a2 b.length c3,i64 V.2.1,Value.int .u64 V.2.2]::aN 2 K i1 i2 i0::aN 9 K c d a.1::box g 27 e::L) t5)=>(aE (v:=zS i1 i0.length i2) (bF (bA (aB ⟨aM,V.2.1,V.2.2,i0,i1,i2,hm,rfl,(aI.arr 3 [1,2,0] t6 rfl)⟩)))))
  ·refine aJ h2 rfl (cJ (bB (bB ?_)))
   have t7:=hr _ (zI hm).symm
   subst t7
   have hm:(uE b j p a a0 a1 a3)=some R:=ho
   clear hr ho
   exact bP (aB ⟨aM,a0,a1,a3,a7,a8,hm,h0,h1⟩)
theorem lX {a:(List UInt8)} {b c:Int} {R:(Int × Int × Int)} (hm:oQ a b c=some R) (e:aI G K (aN 5 K a2 c3 a::box b1 56 [zS a2 a.length c3,i64 b,Value.int .u64 c]::L) w):
  Calls prog 57 ([zP (some ⟨b1,0,none⟩)]:List Value).toArray w (eV fun v w'=>v=i64 R.1/\aI G K (aN 5 K a2 c3 a::box b1 56 [zS a2 a.length c3,i64 R.2.1,Value.int .u64 R.2.2]::L) w'):=by
 refine aR func57 rfl (by kernel_rfl) (by show (1:Nat)<=62;decide) ?_;unfold oQ at hm
 exact aK (aE (v:=i64 0) (aG (aK (aE (v:=i64 0) (aG (iQ [0] (fun f w=>∃ d,rT a b c d=some R/\f 3=i64 d/\aI G K (aN 5 K a2 c3 a::box b1 56 [zS a2 a.length c3,i64 b,Value.int .u64 c]::L) w) eB eB))))))
theorem aHg {a:(List UInt8)} {b c n:Int} {R:(Int × (List UInt8) × Int × Int)} (hm:aGc a b c n=some R) (k:aI G K (aN 5 K a2 c3 a::box b1 56 [zS a2 a.length c3,i64 b,Value.int .u64 c]::L) w):
  Calls prog 23 ([zP (some ⟨b1,0,none⟩),i64 n]:List Value).toArray w (eV fun v w'=>∃ d e,v=i64 R.1/\aI G K (aN 5 K d e R.2.1::box b1 56 [zS d R.2.1.length e,i64 R.2.2.1,Value.int .u64 R.2.2.2]::L) w'):=by
 refine aR func23 rfl (by kernel_rfl) (by show (2:Nat)<=20;decide) ?_;unfold aGc at hm
 refine aK (aE (v:=i64 0) (aG (aO (aK (aF (v:=i64 n) (aD (aIO rfl rfl) (aG ?_)))))))
 rcases aH hm with ⟨g,hm⟩|⟨g,hm⟩
 ·exact eB
 ·refine aJ g rfl (aW (aB (aK (aF (v:=zP (some ⟨b1,0,none⟩)) ?_))));obtain ⟨l,m,hm⟩:=aC hm
  refine aP (vs:=[zP (some ⟨b1,0,none⟩)]) call57 rfl (lX m k) ?_
  rintro _ o ⟨rfl,p⟩
  exact aE (v:=i64 l.1) (aG (iQ [1] (fun f w=>∃ h i j,rU a n h i j=some R/\f 5=i64 h/\aI G K (aN 5 K a2 c3 a::box b1 56 [zS a2 a.length c3,i64 i,Value.int .u64 j]::L) w) eB eB))
theorem aCh {g:(List UInt8)} {a6 a7:Int} {R:(cB × Int × Int)} (hm:wQ g a6 a7=some R) (hs:aI G K (box b1 56 [zS a2 g.length c3,i64 a6,Value.int .u64 a7]::L) w) (z:bW K a2 c3 g):
  Calls prog 22 ([zP (some ⟨b1,0,none⟩)]:List Value).toArray w (eV fun v w'=>∃ b6 b7 b8 b9,v=Value.agg (zCa R.1 b6 b7 b8 b9)/\aI G K (aN 9 K b6 b7 R.1.L::aN 66 K b8 b9 R.1.E::box b1 56 [zS a2 g.length c3,i64 R.2.1,Value.int .u64 R.2.2]::L) w'):=by
 let k:=zG
 refine aR func22 rfl (by kernel_rfl) (by show (1:Nat)<=56;decide) ?_;unfold wQ at hm
 refine aK (cI (vs:=k) zeroValue27 hs rfl (fun l w6 e7=>(aG (aK (aF (v:=zP (some ⟨b1,0,none⟩)) ?_)))))
 have e8:aI G K (box b1 56 [zS a2 g.length c3,i64 a6,Value.int .u64 a7]::box l 27 k::L) w6:=(aI.arr 2 [1,0] e7 rfl)
 obtain ⟨a,e9,hm⟩:=aC hm
 refine aP (vs:=[zP (some ⟨b1,0,none⟩)]) call56 rfl (aGn e9 e8 z) ?_
 rintro _ h8 ⟨b,c,d,e,rfl,f0⟩
 refine cI (vs:=k) zeroValue27 f0 rfl (fun n h9 f1=>(cG (i:=0) (ns:=(zC a.1 b c d e)) (us:=(zC a.1 b c d e)) sizeOf27 f1 rfl rfl rfl rfl rfl (dN rfl) rfl rfl (fun f2 (f3:aI G K (box n 27 (zC a.1 b c d e)::aN 9 K b c a.1.L::aN 66 K d e a.1.E::box b1 56 [zS a2 g.length c3,i64 a.2.1,Value.int .u64 a.2.2]::box l 27 k::L) f2)=>(aG (aK (bT (Kt:=K) (xs:=([]:List Edge)) (cs:=[]) (vs:=[]) cK gP rfl rfl f3 rfl (by kernel_rfl) rfl rfl rfl trivial (fun c0 f4 (i0:aI G K (aN 66 K c0 0 ([]:List Edge)::box n 27 (zC a.1 b c d e)::aN 9 K b c a.1.L::aN 66 K d e a.1.E::box b1 56 [zS a2 g.length c3,i64 a.2.1,Value.int .u64 a.2.2]::box l 27 k::L) f4)=>(aE (v:=zS c0 ([]:List Edge).length 0) (aG (aO (aK (aE (v:=i64 0) (aG (aX [0,2,3] (fun f w=>∃ J V q Z a0,wP g a J V q=some R/\f 4=zS Z q.length a0/\aI G K (aN 66 K Z a0 q::box n 27 (zC a.1 b c d e)::aN 9 K b c a.1.L::aN 66 K d e a.1.E::box b1 56 [zS a2 g.length c3,i64 J,Value.int .u64 V]::box l 27 k::L) w) ?_ ?_))))))))))))))
 ·rintro f f5 ⟨J,V,q,Z,a0,hm,i1,f6⟩
  unfold wP at hm
  refine aB (aO (aK (aF (v:=zP (some ⟨b1,0,none⟩)) ?_)))
  have f7:aI G K (box b1 56 [zS a2 g.length c3,i64 J,Value.int .u64 V]::aN 66 K Z a0 q::box n 27 (zC a.1 b c d e)::aN 9 K b c a.1.L::aN 66 K d e a.1.E::box l 27 k::L) f5:=(aI.arr 5 [4,0,1,2,3] f6 rfl)
  obtain ⟨f8,f9,hm⟩:=aC hm
  refine aP (vs:=[zP (some ⟨b1,0,none⟩),i64 3]) call23 rfl (bQ f9 f7 z) ?_
  rintro _ i2 ⟨rfl,i3⟩
  refine aE (v:=i64 f8.1) (aG (aX [2,3] (fun f w=>∃ a8 c1 c2 c4 c5,wO a a8 c1 c2=some R/\f 4=zS c4 a8.length c5/\aI G K (aN 66 K c4 c5 a8::box b1 56 [zS a2 g.length c3,i64 c1,Value.int .u64 c2]::box n 27 (zC a.1 b c d e)::aN 9 K b c a.1.L::aN 66 K d e a.1.E::box l 27 k::L) w) eB ?_));obtain ⟨i4,g0,ho⟩:=aC hm
  refine tZ [0,2,3] g0 (fun c6 c7 a1 c8 f w=>∃ a3 a4,f 4=zS a3 a1.length a4/\f 7=i64 c8/\aI G K (box b1 56 [zS a2 g.length c3,i64 c6,Value.int .u64 c7]::aN 66 K a3 a4 a1::box n 27 (zC a.1 b c d e)::aN 9 K b c a.1.L::aN 66 K d e a.1.E::box l 27 k::L) w) eB ?_
  ·rintro c6 c7 a1 c8 i5 f i6 hm hr ⟨a3,a4,g1,g2,g3⟩
   unfold sU at hm
   refine aO (aK (bC g2 (aD (jU rfl rfl) (aG ?_))))
   rcases aH hm with ⟨c9,hm⟩|⟨c9,hm⟩
   ·refine aL c9 rfl (aW (aB (aO (dA ?_))));obtain ⟨a9,a5,d0,d1,g4⟩:=aI.lendBp g3 zt2
    refine dI (C:=fun w'=>∃ L',aI G a9 L' w') [(0,0),(1,0),(2,0),(3,0),(5,0),(6,0),(7,0),(4,1),(8,1),(9,0),(10,1),(11,1),(12,0)] Tryz_mixed (by kernel_rfl) (fun _ hg=>⟨_,aI.mono d1 hg⟩) (fun i7 g5=>?_)
    have r:=aI.mono d1 g5
    refine bL rfl (fun _ _=>aT g1) (bL rfl (fun _ _=>aT (v:=zP (some ⟨b1,0,none⟩)) rfl) (bL rfl (fun _ _=>bH (t':=0) cT rfl rfl) (bL rfl (fun _ ⟨_,r⟩=>bE (t:=0) cE r d0 rfl rfl) (bL rfl (fun _ _=>aT (v:=zP (some ⟨b1,0,none⟩)) rfl) (bL rfl (fun _ _=>bH (t':=0) cT rfl rfl) (bL rfl (fun _ ⟨_,r⟩=>bE (t:=0) cE r d0 rfl rfl) (fT rfl ?_)))))));obtain ⟨o,g6,hm⟩:=aC hm
    refine aP (vs:=[zP (some ⟨b1,0,none⟩),i64 a.1.N]) call23 rfl (bQ g6 r (z.mono a5)) ?_
    rintro _ i8 ⟨rfl,d2⟩
    refine bF (aB ⟨⟨_,d2⟩,?_⟩)
    refine fT rfl ?_;obtain ⟨m,g7,hm⟩:=aC hm
    refine aP (vs:=[zP (some ⟨b1,0,none⟩),i64 a.1.N]) call23 rfl (bQ g7 d2 (z.mono a5)) ?_
    rintro _ i9 ⟨rfl,d3⟩
    refine bF (aB ⟨⟨_,d3⟩,?_⟩)
    refine bL rfl (fun _ _=>gW (vs:=[(0,i64 o.1),(2,i64 m.1)]) (cs:=[i64 o.1,i64 0,i64 m.1]) aIn rfl (by kernel_rfl)) (fT rfl (bT (Kt:=K) (xs:=([⟨o.1,0,m.1⟩]:List Edge)) (cs:=[i64 o.1,i64 0,i64 m.1]) (vs:=[(0,Value.agg #[i64 o.1,i64 0,i64 m.1])]) cK gP rfl rfl d3 rfl (by kernel_rfl) rfl rfl rfl ⟨rfl,trivial⟩ (fun g8 g9 (d4:aI G a9 (aN 66 K g8 1 ([⟨o.1,0,m.1⟩]:List Edge)::box b1 56 [zS a2 g.length c3,i64 m.2.1,Value.int .u64 m.2.2]::aN 66 K a3 a4 a1::aN 9 K b c a.1.L::aN 66 K d e a.1.E::box l 27 k::L) g9)=>(bF (aB ⟨⟨_,d4⟩,?_⟩)))))
    refine fT rfl ?_;obtain ⟨d5,h0,hm⟩:=aC hm
    refine eR (i:=1) cK underlying25 gP rfl rfl d4 rfl a5 a5 h0 rfl rfl rfl rfl (fun _ h=>h) (fun d6 d7 h1 (d8:aI G a9 (box b1 56 [zS a2 g.length c3,i64 m.2.1,Value.int .u64 m.2.2]::aN 66 K d6 d7 d5::aN 9 K b c a.1.L::aN 66 K d e a.1.E::box l 27 k::L) h1)=>(bF (aB ⟨⟨_,d8⟩,?_⟩)))
    refine bL rfl (fun _ _=>gR (v:=zS d6 d5.length d7) rfl) (gD ?_)
    have j0:=g4 _ _ d8
    exact eB
   ·exact eB
 obtain ⟨j1,h2,ho⟩:=aC hm
 refine tZ [0,2,3] h2 (fun b0 b2 p b3 f w=>∃ u x,f 4=zS u p.length x/\f 5=i64 b3/\aI G K (aN 66 K u x p::box n 27 (zC a.1 b c d e)::aN 9 K b c a.1.L::aN 66 K d e a.1.E::box b1 56 [zS a2 g.length c3,i64 b0,Value.int .u64 b2]::box l 27 k::L) w) eB ?_
 ·rintro b0 b2 p b3 h3 f j2 hm hr ⟨u,x,j3,d9,y⟩
  unfold sW at hm
  refine aO (aK (bC d9 (aD (bH (t':=3) cM rfl rfl) (aD (cR eK y (i:=1) rfl rfl rfl) (aD (bX (len:=a.1.E.length) cK rfl) (aD (cV rfl rfl) (aG ?_)))))))
  rcases aH hm with ⟨e0,hm⟩|⟨e0,hm⟩
  ·refine aL e0 rfl (aW (aB (aO (dA (aK (aD (bH (t':=3) cM rfl rfl) (aD (cR eK y (i:=1) rfl rfl rfl) (bC d9 ?_))))))));obtain ⟨j,b4,hm⟩:=aC hm
   have h5:=cQ y (i:=3) rfl b4
   exact aD (dL cK rfl h5 rfl rfl rfl b4) (aD (aJq (t:=0) (vs:=[i64 j.F,i64 j.B,i64 j.To]) oX y (i:=3) rfl b4 rfl rfl rfl rfl) (cI (vs:=[i64 0,i64 0,i64 0]) zeroValue66 y rfl (fun e1 j4 h6=>(cG (i:=0) (ns:=[i64 j.F,i64 j.B,i64 j.To]) (us:=[i64 j.F,i64 j.B,i64 j.To]) sizeOf66 h6 rfl rfl rfl rfl rfl (dN rfl) rfl rfl (fun h7 (j5:aI G K (box e1 66 [i64 j.F,i64 j.B,i64 j.To]::aN 66 K u x p::box n 27 (zC a.1 b c d e)::aN 9 K b c a.1.L::aN 66 K d e a.1.E::box b1 56 [zS a2 g.length c3,i64 b0,Value.int .u64 b2]::box l 27 k::L) h7)=>(aG (iQ [0,2,3,4,5,6] (fun f w=>∃ e2 e3 e4,sV p b3 j e2 e3 e4=some h3/\aI G K (box e1 66 [i64 j.F,i64 e4,i64 j.To]::aN 66 K u x p::box n 27 (zC a.1 b c d e)::aN 9 K b c a.1.L::aN 66 K d e a.1.E::box b1 56 [zS a2 g.length c3,i64 e2,Value.int .u64 e3]::box l 27 k::L) w) eB eB)))))))
  ·exact eB
theorem cZ {a:(List UInt8)} {b c n:Int} {R:(Int × Int × Int)} (hm:dS a b c n=some R) (i:aI G K (aN 5 K a2 c3 a::box b1 56 [zS a2 a.length c3,i64 b,Value.int .u64 c]::L) w):
  Calls prog 23 ([zP (some ⟨b1,0,none⟩),i64 n]:List Value).toArray w (eV fun v w'=>v=i64 R.1/\aI G K (aN 5 K a2 c3 a::box b1 56 [zS a2 a.length c3,i64 R.2.1,Value.int .u64 R.2.2]::L) w'):=by
 refine aR func23 rfl (by kernel_rfl) (by show (2:Nat)<=20;decide) ?_;unfold dS at hm
 refine aK (aE (v:=i64 0) (aG (aO (aK (aF (v:=i64 n) (aD (aIO rfl rfl) (aG ?_)))))))
 rcases aH hm with ⟨d,hm⟩|⟨d,hm⟩
 ·exact eB
 ·refine aJ d rfl (aW (aB (aK (aF (v:=zP (some ⟨b1,0,none⟩)) ?_))));obtain ⟨j,k,hm⟩:=aC hm
  refine aP (vs:=[zP (some ⟨b1,0,none⟩)]) call57 rfl (lX k i) ?_
  rintro _ l ⟨rfl,m⟩
  exact aE (v:=i64 j.1) (aG (iQ [1] (fun f w=>∃ e g h,rV n e g h=some R/\f 5=i64 e/\aI G K (aN 5 K a2 c3 a::box b1 56 [zS a2 a.length c3,i64 g,Value.int .u64 h]::L) w) eB eB))
theorem aHK {a:(List UInt8)} {b c n:Int} {R:(Bool × (List UInt8) × Int × Int)} (hm:aGS a b c n=some R) (g:aI G K (aN 5 K a2 c3 a::box b1 56 [zS a2 a.length c3,i64 b,Value.int .u64 c]::L) w):
  Calls prog 25 ([zP (some ⟨b1,0,none⟩),i64 n]:List Value).toArray w (eV fun v w'=>∃ d e,v=zB R.1/\aI G K (aN 5 K d e R.2.1::box b1 56 [zS d R.2.1.length e,i64 R.2.2.1,Value.int .u64 R.2.2.2]::L) w'):=by
 exact eB
theorem aEN {b:(List UInt8)} {b3 b4:Int} {t:cB} {d:Nat} {R:(cB × Int × Int)} (hm:uX b b3 b4 t=some R) (hs:aI G K (box b1 56 [zS a2 b.length c3,i64 b3,Value.int .u64 b4]::L) w) (h4:bW K a2 c3 b) (c:dT K a5 d (zC t a8 c9 a11 c12)) (f7:bW K a8 c9 t.L) (f8:bW K a11 c12 t.E):
  Calls prog 26 ([zP (some ⟨b1,0,none⟩),cC a5 d]:List Value).toArray w (eV fun v w'=>∃ c7 c8 d0 d1,v=Value.agg (zCa R.1 c7 c8 d0 d1)/\aI G K (aN 9 K c7 c8 R.1.L::aN 66 K d0 d1 R.1.E::box b1 56 [zS a2 b.length c3,i64 R.2.1,Value.int .u64 R.2.2]::L) w'):=by
 let e:=zG
 refine aR func26 rfl (by kernel_rfl) (by show (2:Nat)<=115;decide) ?_;unfold uX at hm
 refine aK (cI (vs:=e) zeroValue27 hs rfl (fun h f9 d2=>(aG (aK (aF (v:=zP (some ⟨b1,0,none⟩)) (aF (v:=cC a5 d) (aD (cA rfl c) (aD (bS (k':=d+0) cT rfl c rfl) (aD (bE (t:=0) cE d2 c rfl rfl) ?_)))))))))
 have g0:aI G K (box b1 56 [zS a2 b.length c3,i64 b3,Value.int .u64 b4]::box h 27 e::L) f9:=(aI.arr 2 [1,0] d2 rfl)
 obtain ⟨y,g1,hm⟩:=aC hm
 refine aP (vs:=[zP (some ⟨b1,0,none⟩),i64 t.N]) call23 rfl (bQ g1 g0 h4) ?_
 rintro _ h3 ⟨rfl,h5⟩
 refine aE (v:=i64 y.1) (aG (aK (aE (v:=i64 0) (aG (iQ [0,1,4,5] (fun f w=>∃ z J k,mC b t y z J k=some R/\f 6=i64 k/\aI G K (box b1 56 [zS a2 b.length c3,i64 z,Value.int .u64 J]::box h 27 e::L) w) ?_ ?_)))))
 ·rintro f h6 ⟨z,J,k,hm,d3,d4⟩
  unfold mC at hm
  refine aK (aF (v:=cC a5 d) (aD (cA rfl c) (aD (bS (k':=d+0) cT rfl c rfl) (aD (bE (t:=0) cE d4 c rfl rfl) (bC d3 (aD (cL rfl rfl) (aE (v:=i64 (wr (t.N+k))) (aG (aK (bT (Kt:=K) (xs:=([]:List Edge)) (cs:=[]) (vs:=[]) cK gP rfl rfl d4 rfl (by kernel_rfl) rfl rfl rfl trivial (fun d5 g2 (h8:aI G K (aN 66 K d5 0 ([]:List Edge)::box b1 56 [zS a2 b.length c3,i64 z,Value.int .u64 J]::box h 27 e::L) g2)=>(aE (v:=zS d5 ([]:List Edge).length 0) (aG (aO (aK (aE (v:=i64 0) (aG (aX [1,4,7] (fun f w=>∃ V b5 b6 b7 b8,sX t k V b5 b6=some R/\f 8=zS b7 V.length b8/\aI G K (aN 66 K b7 b8 V::box b1 56 [zS a2 b.length c3,i64 b5,Value.int .u64 b6]::box h 27 e::L) w) ?_ ?_))))))))))))))))))
  ·rintro f h9 ⟨V,b5,b6,b7,b8,hm,i0,d6⟩
   unfold sX at hm
   refine aB (aO (dI (C:=fun w'=>∃ L',aI G K L' w') [(0,0),(1,0),(2,0),(3,0),(4,0),(5,0),(6,0),(7,0),(8,0),(9,0),(10,1),(11,2)] Tryz_mixed (by kernel_rfl) (fun _ hg=>⟨_,aI.mono d6 hg⟩) (fun i1 g3=>?_)))
   have i2:=aI.mono d6 g3
   exact eB
  obtain ⟨i3,g4,ho⟩:=aC hm
  refine tZ [0,1,4,5,6,7] g4 (fun Z a0 q j f w=>∃ a1 a3,f 8=zS a1 q.length a3/\f 9=i64 j/\aI G K (aN 66 K a1 a3 q::box b1 56 [zS a2 b.length c3,i64 Z,Value.int .u64 a0]::box h 27 e::L) w) eB ?_
  ·rintro Z a0 q j b9 f i4 hm hr ⟨a1,a3,i5,c0,i6⟩
   unfold kB at hm
   refine aO (aK (bC c0 (aF (v:=i64 (wr (t.N+k))) (aD (cV rfl rfl) (aG ?_)))))
   rcases aH hm with ⟨d7,hm⟩|⟨d7,hm⟩
   ·refine aL d7 rfl (aW (aB (aO (aX [0,1,4,5,6,7,9] (fun f w=>∃ c1 c2 a4 a6 a7,xS j c1 c2 a4=some b9/\f 8=zS a6 a4.length a7/\aI G K (aN 66 K a6 a7 a4::box b1 56 [zS a2 b.length c3,i64 c1,Value.int .u64 c2]::box h 27 e::L) w) ?_ ?_))))
    ·rintro f i7 ⟨c1,c2,a4,a6,a7,hm,g5,g6⟩
     unfold xS at hm
     exact aB (aQ (bC c0 (aD (cL rfl rfl) (aE (v:=i64 (wr (j+1))) (aG ⟨_,(zI hm).symm,aM,a6,a7,g5,rfl,g6⟩)))))
    refine aK (bC c0 (aE (v:=i64 j) (aG (iQ [0,1,4,5,6,7,8,9] (fun f w=>∃ a9,oS b t y k Z a0 q j a9=some b9/\f 10=i64 a9/\aI G K (aN 66 K a1 a3 q::box b1 56 [zS a2 b.length c3,i64 Z,Value.int .u64 a0]::box h 27 e::L) w) ?_ ?_))))
    ·rintro f i8 ⟨a9,hm,g7,g8⟩
     unfold oS at hm
     refine aK (aF (v:=cC a5 d) (bC g7 ?_));obtain ⟨l,g9,hm⟩:=aC hm
     refine aP (vs:=[cC a5 d,i64 a9]) call61 rfl (aIs g9 g8 c f7 f8) ?_
     rintro _ i9 ⟨n,o,rfl,j0⟩
     refine aE (v:=zS n l.length o) (aG (aK (aE (v:=i64 0) (aG (aX [0,1,4,5,6,7,9] (fun f w=>∃ d8 d9 c4 e0 e1,sY j d8 d9 c4=some b9/\f 8=zS e0 c4.length e1/\aI G K (aN 66 K e0 e1 c4::box b1 56 [zS a2 b.length c3,i64 d8,Value.int .u64 d9]::box h 27 e::L) w) eB ?_)))));obtain ⟨j1,h0,ho⟩:=aC hm
     refine tZ [0,1,4,5,6,7,9,11] h0 (fun e2 e3 m r f w=>∃ u x,f 8=zS u m.length x/\f 12=i64 r/\aI G K (aN 66 K n o l::aN 66 K u x m::box b1 56 [zS a2 b.length c3,i64 e2,Value.int .u64 e3]::box h 27 e::L) w) eB ?_
     ·rintro e2 e3 m r e4 f j2 hm hr ⟨u,x,j3,e5,b0⟩
      unfold kA at hm
      refine aO (aK (bC e5 (aF (v:=zS n l.length o) (aD (bX (len:=l.length) cK rfl) (aD (cV rfl rfl) (aG ?_))))))
      rcases aH hm with ⟨e6,hm⟩|⟨e6,hm⟩
      ·refine aL e6 rfl (aW (aB (aO (dA (aK (aF (v:=zS n l.length o) (bC e5 ?_)))))));obtain ⟨p,c5,hm⟩:=aC hm
       have e7:=cQ b0 (i:=0) rfl c5
       refine aD (dL cK rfl e7 rfl rfl rfl c5) (aD (aJs (k':=r.toNat * 3+2) gY e7 rfl rfl) (aD (jV (t:=2) cE b0 (i:=0) rfl c5 rfl rfl rfl) (aE (v:=i64 p.To) (aG (iQ [0,1,4,5,6,7,8,9,11,12] (fun f w=>∃ e8 e9 f0,oR j m r p e8 e9 f0=some e4/\f 13=i64 f0/\aI G K (aN 66 K n o l::aN 66 K u x m::box b1 56 [zS a2 b.length c3,i64 e8,Value.int .u64 e9]::box h 27 e::L) w) eB (aO (cH [0,1,4,5,6,7,8,9,11,12,13] (fun f w=>∃ f1 f2 f3,mB t j m r p f1 f2 f3=some e4/\f 88=zB f3/\aI G K (aN 66 K n o l::aN 66 K u x m::box b1 56 [zS a2 b.length c3,i64 f1,Value.int .u64 f2]::box h 27 e::L) w) eB (dI (C:=fun w'=>∃ L',aI G K L' w') [(0,0),(1,0),(2,0),(3,0),(4,0),(5,0),(6,0),(7,0),(8,0),(9,0),(10,0),(11,0),(12,0),(13,0),(14,0),(15,0),(16,0),(17,0),(18,0),(19,1),(20,0)] Tryz_mixed (by kernel_rfl) (fun _ hg=>⟨_,aI.mono b0 hg⟩) (fun j4 h1=>?_)))))))))
       have b2:=aI.mono b0 h1
       refine bL rfl (fun _ _=>aT d3) (bL rfl (fun _ _=>jU rfl rfl) (bL rfl (fun _ _=>aT (v:=zB (decide (0 < k))) rfl) ?_))
       rcases aH hm with ⟨a,hm⟩|⟨a,hm⟩
       ·refine yM rfl rfl rfl a (fun _ _=>aT (v:=cC a5 d) rfl) (yM rfl rfl rfl a (fun _ _=>cA rfl c) (yM rfl rfl rfl a (fun _ _=>bS (k':=d+0) cT rfl c rfl) (yM rfl rfl rfl a (fun _ ⟨_,b2⟩=>bE (t:=0) cE b2 c rfl rfl) (yM rfl rfl rfl a (fun _ _=>aT (v:=i64 y.1) rfl) (yM rfl rfl rfl a (fun _ _=>cL rfl rfl) (yM rfl rfl rfl a (fun _ _=>aT (v:=cC a5 d) rfl) (yM rfl rfl rfl a (fun _ _=>cA rfl c) (yM rfl rfl rfl a (fun _ _=>bS (k':=d+0) cT rfl c rfl) (yM rfl rfl rfl a (fun _ ⟨_,b2⟩=>bE (t:=0) cE b2 c rfl rfl) ?_)))))))))
        obtain ⟨f4,h2,hm⟩:=aC hm
        refine yM rfl rfl rfl a (fun _ _=>aLS rfl rfl h2) (yM rfl rfl rfl a (fun _ _=>aT (v:=i64 p.To) rfl) (yM rfl rfl rfl a (fun _ _=>dM rfl rfl) (bL rfl (fun _ _=>bJ (v:=zB (f4 == p.To)) a rfl rfl) (bL rfl (fun _ _=>aT (v:=zB (f4 == p.To)) rfl) ?_))))
        rcases aH hm with ⟨c6,hm⟩|⟨c6,hm⟩
        ·exact yM rfl rfl rfl c6 (fun _ _=>aT (v:=zP (some ⟨b1,0,none⟩)) rfl) (fT rfl eB)
        ·exact pT rfl rfl rfl (cW c6) eB
       ·exact pT rfl rfl rfl (cW a) (pT rfl rfl rfl (cW a) (pT rfl rfl rfl (cW a) (pT rfl rfl rfl (cW a) (pT rfl rfl rfl (cW a) (pT rfl rfl rfl (cW a) (pT rfl rfl rfl (cW a) (pT rfl rfl rfl (cW a) (pT rfl rfl rfl (cW a) (pT rfl rfl rfl (cW a) (pT rfl rfl rfl (cW a) (pT rfl rfl rfl (cW a) (pT rfl rfl rfl (cW a) (bL rfl (fun _ _=>bN (v:=zB false) a rfl rfl) (bL rfl (fun _ _=>aT (v:=zB false) rfl) (pT rfl rfl rfl (cW (by decide:¬ false=true)) eB)))))))))))))))
      ·exact eB
    exact eB
   ·exact eB
 exact eB
theorem kJ {a:(List UInt8)} {b c n:Int} {R:(Bool × Int × Int)} (hm:nL a b c n=some R) (d:aI G K (aN 5 K a2 c3 a::box b1 56 [zS a2 a.length c3,i64 b,Value.int .u64 c]::L) w):
  Calls prog 25 ([zP (some ⟨b1,0,none⟩),i64 n]:List Value).toArray w (eV fun v w'=>v=zB R.1/\aI G K (aN 5 K a2 c3 a::box b1 56 [zS a2 a.length c3,i64 R.2.1,Value.int .u64 R.2.2]::L) w'):=by
 exact eB
theorem lC {a:(List UInt8)} {c d:Int} {b:(List Int)} {R:(Int × Int × Int)} (hm:mW a c d b=some R) (e:aI G K (aN 5 K a2 c3 a::box b1 56 [zS a2 a.length c3,i64 c,Value.int .u64 d]::L) w) (g:bW K a4 c5 b):
  Calls prog 71 ([zP (some ⟨b1,0,none⟩),zS a4 b.length c5]:List Value).toArray w (eV fun v w'=>v=i64 R.1/\aI G K (aN 5 K a2 c3 a::box b1 56 [zS a2 a.length c3,i64 R.2.1,Value.int .u64 R.2.2]::L) w'):=by
 exact eB
theorem aEO {a:(List UInt8)} {c d:Int} {b:(List aY)} {R:(aY × Int × Int)} (hm:aFG a c d b=some R) (e:aI G K (aN 5 K a2 c3 a::box b1 56 [zS a2 a.length c3,i64 c,Value.int .u64 d]::L) w) (g:bW K a4 c5 b):
  Calls prog 72 ([zP (some ⟨b1,0,none⟩),zS a4 b.length c5]:List Value).toArray w (eV fun v w'=>v=str R.1/\aI G K (aN 5 K a2 c3 a::box b1 56 [zS a2 a.length c3,i64 R.2.1,Value.int .u64 R.2.2]::L) w'):=by
 exact eB
end Gv
namespace Gv
open Gv.Hp renaming le_refl→zR
open Go.Value renaming slice→zS,bool→zB,pointer→zP,agg→zA
open Gv.Hp renaming le_trans→zL
open Go Go.Proofs Go.Proofs.Tryz
set_option maxRecDepth 20000
set_option maxHeartbeats 40000000
variable {G:uK} {K:Hp} {L:List gQ} {w:World} {b1 c3 c5 c8 c6 c9:Nat} {a2 a4 a7 a5 a8:Option Addr}
theorem aKP {g:(List UInt8)} {a8 a9:Int} {t:cB} {R:(cB × (List UInt8) × Int × Int)} (hm:aMj g a8 a9 t=some R) (hs:aI G K (aN 5 K a2 c3 g::box b1 56 [zS a2 g.length c3,i64 a8,Value.int .u64 a9]::L) w) (h6:bW K a4 c5 t.L) (h9:bW K a7 c8 t.E):
  Calls prog 30 ([zP (some ⟨b1,0,none⟩),zA (zCa t a4 c5 a7 c8)]:List Value).toArray w (eV fun v w'=>∃ d1 d2 d3 d4 d5 d6,v=zA (zCa R.1 d1 d2 d3 d4)/\aI G K (aN 9 K d1 d2 R.1.L::aN 66 K d3 d4 R.1.E::aN 5 K d5 d6 R.2.1::box b1 56 [zS d5 R.2.1.length d6,i64 R.2.2.1,Value.int .u64 R.2.2.2]::L) w'):=by
 let l:=(zC t a4 c5 a7 c8)
 let k:=zG
 let m:=aN 5 K a2 c3 g
 let d7:=box b1 56 [zS a2 g.length c3,i64 a8,Value.int .u64 a9]
 refine aR func30 rfl (by kernel_rfl) (by show (2:Nat)<=110;decide) ?_;unfold aMj at hm
 refine aK (fO (v:=zA (zCa t a4 c5 a7 c8)) (vs:=l) hs rfl rfl (fun n q5 j3=>(cI (vs:=k) zeroValue27 j3 rfl (fun o q6 j4=>(aG (aK ?_))))));obtain ⟨q7,d8,j5,j6,j7⟩:=aI.lendBp j4 zt1
 obtain ⟨a,j8,hm⟩:=aC hm
 refine aP (vs:=[cC (some ⟨n,0,none⟩) 0]) call70 rfl (aFK j8 j6 j5 (h6.mono d8) (h9.mono d8)) ?_
 rintro _ q8 ⟨b,c,d,e,rfl,j9⟩
 have k0:=j7 _ _ j9
 refine cI (vs:=k) zeroValue27 k0 rfl (fun q q9 k1=>(cG (i:=0) (ns:=(zC a b c d e)) (us:=(zC a b c d e)) sizeOf27 k1 rfl rfl rfl rfl rfl (dN rfl) rfl rfl (fun d9 (k2:aI G K (box q 27 (zC a b c d e)::box n 27 l::aN 9 K b c a.L::aN 66 K d e a.E::box o 27 k::m::d7::L) d9)=>(aG (aO (aK (aF (v:=zP (some ⟨b1,0,none⟩)) ?_)))))))
 have k3:aI G K (m::d7::box q 27 (zC a b c d e)::box n 27 l::aN 9 K b c a.L::aN 66 K d e a.E::box o 27 k::L) d9:=(aI.arr 7 [5,6,0,1,2,3,4] k2 rfl)
 obtain ⟨r0,k4,hm⟩:=aC hm
 refine aP (vs:=[zP (some ⟨b1,0,none⟩),i64 8]) call25 rfl (kJ k4 k3) ?_
 rintro _ r1 ⟨rfl,k5⟩
 refine aD (eC rfl) (aG ?_)
 rcases aH hm with ⟨e0,hm⟩|⟨e0,hm⟩
 ·exact eB
 ·refine aJ e0 rfl (aW (aB (aO (aK (aF (v:=zP (some ⟨b1,0,none⟩)) ?_)))));obtain ⟨j,k6,hm⟩:=aC hm
  refine aP (vs:=[zP (some ⟨b1,0,none⟩),i64 8]) call23 rfl (cZ k6 k5) ?_
  rintro _ r2 ⟨rfl,p⟩
  refine aG (aX [4,5] (fun f w=>∃ e1 e2 b0 b2 e3 e4 e5 e6 e7 e8,hJ g e1 e2 b0 b2 e3 e4=some R/\aI G K (m::box b1 56 [zS a2 g.length c3,i64 e3,Value.int .u64 e4]::box q 27 [i64 e1,i64 e2,zS e5 b0.length e6,zS e7 b2.length e8]::aN 9 K e5 e6 b0::aN 66 K e7 e8 b2::box o 27 k::L) w) eB (aK (aD (dM rfl rfl) (aE (v:=zB (j.1 == 0)) (aG ?_)))))
  rcases aH hm with ⟨b3,hm⟩|⟨b3,hm⟩
  ·refine aL b3 rfl (aQ (aF (v:=zP (some ⟨b1,0,none⟩)) (aD (bH (t':=0) cT rfl rfl) (aD (cR cE p (i:=2) rfl rfl rfl) (aD (kT rfl rfl) (bT (Kt:=K) (xs:=([0,(-1),41,40,wr (a.N - 1)]:List Int)) (cs:=[i64 0,i64 (-1),i64 41,i64 40,i64 (wr (a.N - 1))]) (vs:=[(0,i64 0),(1,i64 (-1)),(2,i64 41),(3,i64 40),(4,i64 (wr (a.N - 1)))]) bV iD rfl rfl p rfl (by kernel_rfl) rfl rfl rfl ⟨rfl,rfl,rfl,rfl,rfl,trivial⟩ (fun k7 k8 (k9:aI G K (aN 2 K k7 5 ([0,(-1),41,40,wr (a.N - 1)]:List Int)::m::box b1 56 [zS a2 g.length c3,i64 j.2.1,Value.int .u64 j.2.2]::box q 27 (zC a b c d e)::box n 27 l::aN 9 K b c a.L::aN 66 K d e a.E::box o 27 k::L) k8)=>?_)))))))
   obtain ⟨r3,r4,r5,r6,r7⟩:=aI.lendSp k9 (zR _) .head
   exact eB
  ·refine aJ b3 rfl (aK (aD (dM rfl rfl) (aE (v:=zB (j.1 == 1)) (aG ?_))))
   rcases aH hm with ⟨b4,hm⟩|⟨b4,hm⟩
   ·refine aL b4 rfl (aQ (aF (v:=zP (some ⟨b1,0,none⟩)) (aD (bH (t':=0) cT rfl rfl) (aD (cR cE p (i:=2) rfl rfl rfl) (bT (Kt:=K) (xs:=([(-1),a.N]:List Int)) (cs:=[i64 (-1),i64 a.N]) (vs:=[(0,i64 (-1)),(1,i64 a.N)]) bV iD rfl rfl p rfl (by kernel_rfl) rfl rfl rfl ⟨rfl,rfl,trivial⟩ (fun l0 l1 (l2:aI G K (aN 2 K l0 2 ([(-1),a.N]:List Int)::m::box b1 56 [zS a2 g.length c3,i64 j.2.1,Value.int .u64 j.2.2]::box q 27 (zC a b c d e)::box n 27 l::aN 9 K b c a.L::aN 66 K d e a.E::box o 27 k::L) l1)=>?_))))))
    obtain ⟨r8,r9,s0,s1,s2⟩:=aI.lendSp l2 (zR _) .head
    exact eB
   ·refine aJ b4 rfl (aK (aD (dM rfl rfl) (aE (v:=zB (j.1 == 2)) (aG ?_))))
    rcases aH hm with ⟨b5,hm⟩|⟨b5,hm⟩
    ·refine aL b5 rfl (aQ (aD (bH (t':=2) fF rfl rfl) (aD (cR oF p (i:=2) rfl rfl rfl) ?_)));obtain ⟨s3,b6,hm⟩:=aC hm
     have l3:=cQ p (i:=4) rfl b6
     refine aD (dL dE rfl l3 rfl rfl rfl b6) ?_;obtain ⟨b7,e9,hm⟩:=aC hm
     refine kU (i:=4) (t:=0) (ns:=[str ([97]:aY)]) (e':=(([97]:aY):aY)) sizeOf9 p rfl (zR _) rfl rfl rfl b6 e9 rfl rfl (dN rfl) rfl (fun cs h=>by cases h;rfl) (fun f0 (l4:aI G K (m::box b1 56 [zS a2 g.length c3,i64 j.2.1,Value.int .u64 j.2.2]::box q 27 (zC a b c d e)::box n 27 l::aN 9 K b c b7::aN 66 K d e a.E::box o 27 k::L) f0)=>?_)
     have s4:aI G K (m::box b1 56 [zS a2 g.length c3,i64 j.2.1,Value.int .u64 j.2.2]::box q 27 [i64 a.N,i64 a.I,zS b b7.length c,zS d a.E.length e]::box n 27 l::aN 9 K b c b7::aN 66 K d e a.E::box o 27 k::L) f0:=by rw [←(iC e9)];exact l4
     exact eB
    ·refine aJ b5 rfl (aK (aD (dM rfl rfl) (aE (v:=zB (j.1 == 3)) (aG ?_))))
     rcases aH hm with ⟨b8,hm⟩|⟨b8,hm⟩
     ·refine aL b8 rfl ?_;obtain ⟨a1,b9,l5,f1,l6⟩:=aI.lendBp p zt2
      refine dI (C:=fun w'=>∃ L',aI G a1 L' w') [(0,0),(1,0),(2,0),(3,1),(4,1),(5,1),(6,1),(7,0),(8,2)] Tryz_mixed (by kernel_rfl) (fun _ hg=>⟨_,aI.mono f1 hg⟩) (fun s5 l7=>?_)
      have c0:=aI.mono f1 l7
      refine bL rfl (fun _ _=>bH (t':=2) fF rfl rfl) (bL rfl (fun _ ⟨_,c0⟩=>bE (t:=2) oF c0 l5 rfl rfl) (bL rfl (fun _ _=>aT (v:=zP (some ⟨b1,0,none⟩)) rfl) (fT rfl (bT (Kt:=K) (xs:=([([116,97,117]:aY),([97]:aY),([122,122]:aY),([65]:aY),([]:aY)]:List aY)) (cs:=[str ([116,97,117]:aY),str ([97]:aY),str ([122,122]:aY),str ([65]:aY),str ([]:aY)]) (vs:=[(0,str ([116,97,117]:aY)),(1,str ([97]:aY)),(2,str ([122,122]:aY)),(3,str ([65]:aY)),(4,str ([]:aY))]) dE oM rfl rfl c0 rfl (by kernel_rfl) rfl rfl rfl ⟨rfl,rfl,rfl,rfl,rfl,trivial⟩ (fun a3 l8 (f2:aI G a1 (aN 9 K a3 5 ([([116,97,117]:aY),([97]:aY),([122,122]:aY),([65]:aY),([]:aY)]:List aY)::m::box b1 56 [zS a2 g.length c3,i64 j.2.1,Value.int .u64 j.2.2]::box n 27 l::aN 9 K b c a.L::aN 66 K d e a.E::box o 27 k::L) l8)=>(bF (aB ⟨⟨_,f2⟩,?_⟩)))))))
      refine fT rfl ?_;obtain ⟨s6,s7,l9,m0,m1⟩:=aI.lendSp f2 b9 .head
      obtain ⟨u,m2,hm⟩:=aC hm
      refine aP (vs:=[zP (some ⟨b1,0,none⟩),zS a3 ([([116,97,117]:aY),([97]:aY),([122,122]:aY),([65]:aY),([]:aY)]:List aY).length 5]) call72 rfl (aEO m2 m0 l9) ?_
      rintro _ s8 ⟨rfl,m3⟩
      have f3:=m1 _ _ m3
      refine bF (aB ⟨⟨_,f3⟩,?_⟩)
      refine fT rfl (bT (Kt:=K) (xs:=([u.1]:List aY)) (cs:=[str u.1]) (vs:=[(0,str u.1)]) dE oM rfl rfl f3 rfl (by kernel_rfl) rfl rfl rfl ⟨rfl,trivial⟩ (fun m4 m5 (f4:aI G a1 (aN 9 K m4 1 ([u.1]:List aY)::aN 9 K a3 5 ([([116,97,117]:aY),([97]:aY),([122,122]:aY),([65]:aY),([]:aY)]:List aY)::m::box b1 56 [zS a2 g.length c3,i64 u.2.1,Value.int .u64 u.2.2]::box n 27 l::aN 9 K b c a.L::aN 66 K d e a.E::box o 27 k::L) m5)=>(bF (aB ⟨⟨_,f4⟩,?_⟩))))
      refine fT rfl ?_;obtain ⟨m6,m7,hm⟩:=aC hm
      refine eR (i:=4) dE underlying24 oM rfl rfl f4 rfl b9 b9 m7 rfl rfl rfl rfl (fun _ h=>h) (fun m8 m9 n0 (f5:aI G a1 (aN 9 K a3 5 ([([116,97,117]:aY),([97]:aY),([122,122]:aY),([65]:aY),([]:aY)]:List aY)::m::box b1 56 [zS a2 g.length c3,i64 u.2.1,Value.int .u64 u.2.2]::box n 27 l::aN 9 K m8 m9 m6::aN 66 K d e a.E::box o 27 k::L) n0)=>(bF (aB ⟨⟨_,f5⟩,?_⟩)))
      refine bL rfl (fun _ _=>bH (t':=2) fF rfl rfl) ?_
      have s9:=l6 _ _ f5
      exact eB
     ·refine aJ b8 rfl (aK (aD (dM rfl rfl) (aE (v:=zB (j.1 == 4)) (aG ?_))))
      rcases aH hm with ⟨c1,hm⟩|⟨c1,hm⟩
      ·refine aL c1 rfl (aK (aD (bH (t':=3) cM rfl rfl) (aD (cR eK p (i:=2) rfl rfl rfl) (aD (bX (len:=a.E.length) cK rfl) (aD (jU rfl rfl) (aG ?_))))))
       rcases aH hm with ⟨f6,hm⟩|⟨f6,hm⟩
       ·refine aL f6 rfl ?_;obtain ⟨t0,n1,f7,n2,n3⟩:=aI.lendBp p zt2
        obtain ⟨f8,f9,g0,g1,n4⟩:=aI.lendSp n2 n1 zt4
        refine dI (C:=fun w'=>∃ L',aI G f8 L' w') [(0,3),(1,0),(2,3),(3,1),(4,1),(5,1),(6,1),(7,2),(8,3),(9,2)] Tryz_mixed (by kernel_rfl) (fun _ hg=>⟨_,aI.mono g1 hg⟩) (fun t1 n5=>?_)
        have x:=aI.mono g1 n5
        refine WE_t rfl (fun _=>bH (t':=3) cM rfl rfl) (bL rfl (fun _ ⟨_,x⟩=>bE (t:=3) eK x (f7.mono f9) rfl rfl) (WE_t rfl (fun _=>bH (t':=3) cM rfl rfl) (fT rfl (aD (bE (t:=3) eK x (f7.mono f9) rfl rfl) (bF (aB ⟨⟨_,x⟩,?_⟩))))))
        refine fT rfl ?_;obtain ⟨r,c2,hm⟩:=aC hm
        have n6:=aGC g0 c2
        refine aD (dL cK rfl n6 rfl rfl rfl c2) (bF (aB ⟨⟨_,x⟩,?_⟩))
        refine fT rfl ?_;obtain ⟨t2,n7,n8⟩:=bW.el (sz:=3) rfl g0 c2
        cases n8
        refine aD (gC (t:=0) (vs:=[i64 r.F,i64 r.B,i64 r.To]) oX x n7 rfl rfl rfl) (bF (aB ⟨⟨_,x⟩,?_⟩))
        refine fT rfl (bT (Kt:=K) (xs:=([r]:List Edge)) (cs:=[i64 r.F,i64 r.B,i64 r.To]) (vs:=[(0,zA #[i64 r.F,i64 r.B,i64 r.To])]) cK gP rfl rfl x rfl (by kernel_rfl) rfl rfl rfl ⟨rfl,trivial⟩ (fun g2 g3 (g4:aI G f8 (aN 66 K g2 1 ([r]:List Edge)::m::box b1 56 [zS a2 g.length c3,i64 j.2.1,Value.int .u64 j.2.2]::box n 27 l::aN 9 K b c a.L::box o 27 k::L) g3)=>(bF (aB ⟨⟨_,g4⟩,?_⟩))))
        have n9:=n4 _ _ g4
        have o0:=n3 _ _ n9
        refine yH rfl ?_;obtain ⟨t3,t4,hm⟩:=aC hm
        have t5:aI G K (aN 66 K g2 1 ([r]:List Edge)::box q 27 (zC a b c d e)::aN 66 K d e a.E::m::box b1 56 [zS a2 g.length c3,i64 j.2.1,Value.int .u64 j.2.2]::box n 27 l::aN 9 K b c a.L::box o 27 k::L) g3:=(aI.arr 3 [2,0,1] o0 rfl)
        exact eB
       ·exact eB
      ·refine aJ c1 rfl (aK (aD (dM rfl rfl) (aE (v:=zB (j.1 == 5)) (aG ?_))))
       rcases aH hm with ⟨c4,hm⟩|⟨c4,hm⟩
       ·refine aL c4 rfl (aK (aD (bH (t':=3) cM rfl rfl) (aD (cR eK p (i:=2) rfl rfl rfl) (aD (bX (len:=a.E.length) cK rfl) (aD (jU rfl rfl) (aG ?_))))))
        rcases aH hm with ⟨g5,hm⟩|⟨g5,hm⟩
        ·refine aL g5 rfl (aK (aF (v:=zP (some ⟨b1,0,none⟩)) (aD (bH (t':=3) cM rfl rfl) (aD (cR eK p (i:=2) rfl rfl rfl) (aD (bX (len:=a.E.length) cK rfl) ?_)))));obtain ⟨Z,o1,hm⟩:=aC hm
         refine aP (vs:=[zP (some ⟨b1,0,none⟩),i64 (a.E.length:Int)]) call23 rfl (cZ o1 p) ?_
         rintro _ t6 ⟨rfl,o2⟩
         refine aE (v:=i64 Z.1) (aG ?_);obtain ⟨g6,o3,g7,g8,o4⟩:=aI.lendBp o2 zt2
         refine dI (C:=fun w'=>∃ L',aI G g6 L' w') [(0,0),(1,0),(2,0),(3,0),(4,1),(5,1),(6,1),(7,1),(8,1),(9,2),(10,2),(11,2)] Tryz_mixed (by kernel_rfl) (fun _ hg=>⟨_,aI.mono g8 hg⟩) (fun t7 o5=>?_)
         have y:=aI.mono g8 o5
         refine bL rfl (fun _ _=>bH (t':=3) cM rfl rfl) (bL rfl (fun _ ⟨_,y⟩=>bE (t:=3) eK y g7 rfl rfl) (bL rfl (fun _ _=>aT (v:=i64 Z.1) rfl) (bL rfl (fun _ _=>aT (v:=zP (some ⟨b1,0,none⟩)) rfl) (fT rfl (aD (bH (t':=2) fF rfl rfl) (bF (aB ⟨⟨_,y⟩,?_⟩)))))))
         refine fT rfl (aD (bE (t:=2) oF y g7 rfl rfl) (bF (aB ⟨⟨_,y⟩,?_⟩)))
         refine fT rfl (aD (bX (len:=a.L.length) dE rfl) (bF (aB ⟨⟨_,y⟩,?_⟩)))
         refine fT rfl (bT (Kt:=K) (xs:=([(-1),(a.L.length:Int),0]:List Int)) (cs:=[i64 (-1),i64 (a.L.length:Int),i64 0]) (vs:=[(0,i64 (-1)),(1,i64 (a.L.length:Int)),(2,i64 0)]) bV iD rfl rfl y rfl (by kernel_rfl) rfl rfl rfl ⟨rfl,rfl,rfl,trivial⟩ (fun a5 o6 (g9:aI G g6 (aN 2 K a5 3 ([(-1),(a.L.length:Int),0]:List Int)::m::box b1 56 [zS a2 g.length c3,i64 Z.2.1,Value.int .u64 Z.2.2]::box n 27 l::aN 9 K b c a.L::aN 66 K d e a.E::box o 27 k::L) o6)=>(bF (aB ⟨⟨_,g9⟩,?_⟩))))
         refine fT rfl ?_;obtain ⟨t8,t9,o7,o8,o9⟩:=aI.lendSp g9 o3 .head
         obtain ⟨z,p0,hm⟩:=aC hm
         refine aP (vs:=[zP (some ⟨b1,0,none⟩),zS a5 ([(-1),(a.L.length:Int),0]:List Int).length 3]) call71 rfl (lC p0 o8 o7) ?_
         rintro _ u0 ⟨rfl,p1⟩
         have h0:=o9 _ _ p1
         refine bF (aB ⟨⟨_,h0⟩,?_⟩)
         have h1:=o4 _ _ h0
         refine yH rfl ?_;obtain ⟨h2,c6,hm⟩:=aC hm
         have h3:=cQ h1 (i:=6) rfl c6
         refine aD (dL cK rfl h3 rfl rfl rfl c6) (aG (yH rfl (aD (aJs (k':=Z.1.toNat * 3+1) iR h3 rfl rfl) (aG (yH rfl ?_)))));obtain ⟨c7,h4,hm⟩:=aC hm
         refine kU (i:=6) (t:=1) (ns:=[i64 z.1]) (e':=(⟨h2.F,z.1,h2.To⟩:Edge)) sizeOf2 h1 rfl (zR _) rfl rfl rfl c6 h4 rfl rfl (dN rfl) rfl (fun cs h=>by cases h;rfl) (fun h5 (p2:aI G K (box q 27 (zC a b c d e)::aN 2 K a5 3 ([(-1),(a.L.length:Int),0]:List Int)::m::box b1 56 [zS a2 g.length c3,i64 z.2.1,Value.int .u64 z.2.2]::box n 27 l::aN 9 K b c a.L::aN 66 K d e c7::box o 27 k::L) h5)=>?_)
         have u1:aI G K (box q 27 [i64 a.N,i64 a.I,zS b a.L.length c,zS d c7.length e]::aN 2 K a5 3 ([(-1),(a.L.length:Int),0]:List Int)::m::box b1 56 [zS a2 g.length c3,i64 z.2.1,Value.int .u64 z.2.2]::box n 27 l::aN 9 K b c a.L::aN 66 K d e c7::box o 27 k::L) h5:=by rw [←(iC h4)];exact p2
         exact eB
        ·exact eB
       ·refine aJ c4 rfl (aK (aD (dM rfl rfl) (aE (v:=zB (j.1 == 6)) (aG ?_))))
        rcases aH hm with ⟨h7,hm⟩|⟨h7,hm⟩
        ·refine aL h7 rfl (aK (aD (bH (t':=3) cM rfl rfl) (aD (cR eK p (i:=2) rfl rfl rfl) (aD (bX (len:=a.E.length) cK rfl) (aD (jU rfl rfl) (aG ?_))))))
         rcases aH hm with ⟨h8,hm⟩|⟨h8,hm⟩
         ·refine aL h8 rfl (aK (aF (v:=zP (some ⟨b1,0,none⟩)) (aD (bH (t':=3) cM rfl rfl) (aD (cR eK p (i:=2) rfl rfl rfl) (aD (bX (len:=a.E.length) cK rfl) ?_)))));obtain ⟨a0,p3,hm⟩:=aC hm
          refine aP (vs:=[zP (some ⟨b1,0,none⟩),i64 (a.E.length:Int)]) call23 rfl (cZ p3 p) ?_
          rintro _ u2 ⟨rfl,p4⟩
          refine aE (v:=i64 a0.1) (aG ?_);obtain ⟨i0,p5,i1,i2,p6⟩:=aI.lendBp p4 zt2
          refine dI (C:=fun w'=>∃ L',aI G i0 L' w') [(0,0),(1,0),(2,0),(3,0),(4,1),(5,1),(6,1),(7,1),(8,2),(9,2),(10,2)] Tryz_mixed (by kernel_rfl) (fun _ hg=>⟨_,aI.mono i2 hg⟩) (fun u3 p7=>?_)
          have J:=aI.mono i2 p7
          refine bL rfl (fun _ _=>bH (t':=3) cM rfl rfl) (bL rfl (fun _ ⟨_,J⟩=>bE (t:=3) eK J i1 rfl rfl) (bL rfl (fun _ _=>aT (v:=i64 a0.1) rfl) (bL rfl (fun _ _=>aT (v:=zP (some ⟨b1,0,none⟩)) rfl) (fT rfl (aD (bH (t':=0) cT rfl rfl) (bF (aB ⟨⟨_,J⟩,?_⟩)))))))
          refine fT rfl (aD (bE (t:=0) cE J i1 rfl rfl) (bF (aB ⟨⟨_,J⟩,?_⟩)))
          refine fT rfl (bT (Kt:=K) (xs:=([(-1),a.N,0]:List Int)) (cs:=[i64 (-1),i64 a.N,i64 0]) (vs:=[(0,i64 (-1)),(1,i64 a.N),(2,i64 0)]) bV iD rfl rfl J rfl (by kernel_rfl) rfl rfl rfl ⟨rfl,rfl,rfl,trivial⟩ (fun a6 p8 (i3:aI G i0 (aN 2 K a6 3 ([(-1),a.N,0]:List Int)::m::box b1 56 [zS a2 g.length c3,i64 a0.2.1,Value.int .u64 a0.2.2]::box n 27 l::aN 9 K b c a.L::aN 66 K d e a.E::box o 27 k::L) p8)=>(bF (aB ⟨⟨_,i3⟩,?_⟩))))
          refine fT rfl ?_;obtain ⟨u4,u5,p9,q0,q1⟩:=aI.lendSp i3 p5 .head
          obtain ⟨V,q2,hm⟩:=aC hm
          refine aP (vs:=[zP (some ⟨b1,0,none⟩),zS a6 ([(-1),a.N,0]:List Int).length 3]) call71 rfl (lC q2 q0 p9) ?_
          rintro _ u6 ⟨rfl,q3⟩
          have i4:=q1 _ _ q3
          refine bF (aB ⟨⟨_,i4⟩,?_⟩)
          have i5:=p6 _ _ i4
          refine yH rfl ?_;obtain ⟨i6,c9,hm⟩:=aC hm
          have i7:=cQ i5 (i:=6) rfl c9
          refine aD (dL cK rfl i7 rfl rfl rfl c9) (aG (yH rfl (aD (aJs (k':=a0.1.toNat * 3+2) gY i7 rfl rfl) (aG (yH rfl ?_)))));obtain ⟨d0,i8,hm⟩:=aC hm
          refine kU (i:=6) (t:=2) (ns:=[i64 V.1]) (e':=(⟨i6.F,i6.B,V.1⟩:Edge)) sizeOf2 i5 rfl (zR _) rfl rfl rfl c9 i8 rfl rfl (dN rfl) rfl (fun cs h=>by cases h;rfl) (fun i9 (q4:aI G K (box q 27 (zC a b c d e)::aN 2 K a6 3 ([(-1),a.N,0]:List Int)::m::box b1 56 [zS a2 g.length c3,i64 V.2.1,Value.int .u64 V.2.2]::box n 27 l::aN 9 K b c a.L::aN 66 K d e d0::box o 27 k::L) i9)=>?_)
          have u7:aI G K (box q 27 [i64 a.N,i64 a.I,zS b a.L.length c,zS d d0.length e]::aN 2 K a6 3 ([(-1),a.N,0]:List Int)::m::box b1 56 [zS a2 g.length c3,i64 V.2.1,Value.int .u64 V.2.2]::box n 27 l::aN 9 K b c a.L::aN 66 K d e d0::box o 27 k::L) i9:=by rw [←(iC i8)];exact q4
          exact eB
         ·exact eB
        ·exact eB
theorem pQ {a:(List UInt8)} {c d:Int} {b:(List aY)} {R:(aY × Int × Int)} (hm:gE a c d b=some R) (e:aI G K (box b1 56 [zS a2 a.length c3,i64 c,Value.int .u64 d]::L) w) (g:bW K a2 c3 a) (h:bW K a5 c6 b):
  Calls prog 72 ([zP (some ⟨b1,0,none⟩),zS a5 b.length c6]:List Value).toArray w (eV fun v w'=>v=str R.1/\aI G K (box b1 56 [zS a2 a.length c3,i64 R.2.1,Value.int .u64 R.2.2]::L) w'):=by
 exact eB
theorem aBD {g:(List UInt8)} {a9 b0:Int} {t:cB} {R:(cB × Int × Int)} (hm:qT g a9 b0 t=some R) (hs:aI G K (box b1 56 [zS a2 g.length c3,i64 a9,Value.int .u64 b0]::L) w) (x:bW K a2 c3 g) (h7:bW K a5 c6 t.L) (j2:bW K a8 c9 t.E):
  Calls prog 30 ([zP (some ⟨b1,0,none⟩),zA (zCa t a5 c6 a8 c9)]:List Value).toArray w (eV fun v w'=>∃ d1 d2 d3 d4,v=zA (zCa R.1 d1 d2 d3 d4)/\aI G K (aN 9 K d1 d2 R.1.L::aN 66 K d3 d4 R.1.E::box b1 56 [zS a2 g.length c3,i64 R.2.1,Value.int .u64 R.2.2]::L) w'):=by
 let l:=(zC t a5 c6 a8 c9)
 let k:=zG
 let d5:=box b1 56 [zS a2 g.length c3,i64 a9,Value.int .u64 b0]
 refine aR func30 rfl (by kernel_rfl) (by show (2:Nat)<=110;decide) ?_;unfold qT at hm
 refine aK (fO (v:=zA (zCa t a5 c6 a8 c9)) (vs:=l) hs rfl rfl (fun m q6 j3=>(cI (vs:=k) zeroValue27 j3 rfl (fun n q7 j4=>(aG (aK ?_))))));obtain ⟨q8,d6,j5,j6,j7⟩:=aI.lendBp j4 zt1
 obtain ⟨a,j8,hm⟩:=aC hm
 refine aP (vs:=[cC (some ⟨m,0,none⟩) 0]) call70 rfl (aFK j8 j6 j5 (h7.mono d6) (j2.mono d6)) ?_
 rintro _ q9 ⟨b,c,d,e,rfl,j9⟩
 have k0:=j7 _ _ j9
 refine cI (vs:=k) zeroValue27 k0 rfl (fun p r0 k1=>(cG (i:=0) (ns:=(zC a b c d e)) (us:=(zC a b c d e)) sizeOf27 k1 rfl rfl rfl rfl rfl (dN rfl) rfl rfl (fun d7 (k2:aI G K (box p 27 (zC a b c d e)::box m 27 l::aN 9 K b c a.L::aN 66 K d e a.E::box n 27 k::d5::L) d7)=>(aG (aO (aK (aF (v:=zP (some ⟨b1,0,none⟩)) ?_)))))))
 have k3:aI G K (d5::box p 27 (zC a b c d e)::box m 27 l::aN 9 K b c a.L::aN 66 K d e a.E::box n 27 k::L) d7:=(aI.arr 6 [5,0,1,2,3,4] k2 rfl)
 obtain ⟨r1,k4,hm⟩:=aC hm
 refine aP (vs:=[zP (some ⟨b1,0,none⟩),i64 8]) call25 rfl (dY k4 k3 x) ?_
 rintro _ r2 ⟨rfl,k5⟩
 refine aD (eC rfl) (aG ?_)
 rcases aH hm with ⟨d8,hm⟩|⟨d8,hm⟩
 ·exact eB
 ·refine aJ d8 rfl (aW (aB (aO (aK (aF (v:=zP (some ⟨b1,0,none⟩)) ?_)))));obtain ⟨j,k6,hm⟩:=aC hm
  refine aP (vs:=[zP (some ⟨b1,0,none⟩),i64 8]) call23 rfl (bQ k6 k5 x) ?_
  rintro _ r3 ⟨rfl,o⟩
  refine aG (aX [4,5] (fun f w=>∃ d9 e0 b2 b3 e1 e2 e3 e4 e5 e6,eH d9 e0 b2 b3 e1 e2=some R/\aI G K (box b1 56 [zS a2 g.length c3,i64 e1,Value.int .u64 e2]::box p 27 [i64 d9,i64 e0,zS e3 b2.length e4,zS e5 b3.length e6]::aN 9 K e3 e4 b2::aN 66 K e5 e6 b3::box n 27 k::L) w) eB (aK (aD (dM rfl rfl) (aE (v:=zB (j.1 == 0)) (aG ?_)))))
  rcases aH hm with ⟨b4,hm⟩|⟨b4,hm⟩
  ·refine aL b4 rfl (aQ (aF (v:=zP (some ⟨b1,0,none⟩)) (aD (bH (t':=0) cT rfl rfl) (aD (cR cE o (i:=1) rfl rfl rfl) (aD (kT rfl rfl) (bT (Kt:=K) (xs:=([0,(-1),41,40,wr (a.N - 1)]:List Int)) (cs:=[i64 0,i64 (-1),i64 41,i64 40,i64 (wr (a.N - 1))]) (vs:=[(0,i64 0),(1,i64 (-1)),(2,i64 41),(3,i64 40),(4,i64 (wr (a.N - 1)))]) bV iD rfl rfl o rfl (by kernel_rfl) rfl rfl rfl ⟨rfl,rfl,rfl,rfl,rfl,trivial⟩ (fun k7 k8 (k9:aI G K (aN 2 K k7 5 ([0,(-1),41,40,wr (a.N - 1)]:List Int)::box b1 56 [zS a2 g.length c3,i64 j.2.1,Value.int .u64 j.2.2]::box p 27 (zC a b c d e)::box m 27 l::aN 9 K b c a.L::aN 66 K d e a.E::box n 27 k::L) k8)=>?_)))))))
   obtain ⟨r4,r5,r6,r7,r8⟩:=aI.lendSp k9 (zR _) .head
   exact eB
  ·refine aJ b4 rfl (aK (aD (dM rfl rfl) (aE (v:=zB (j.1 == 1)) (aG ?_))))
   rcases aH hm with ⟨b5,hm⟩|⟨b5,hm⟩
   ·refine aL b5 rfl (aQ (aF (v:=zP (some ⟨b1,0,none⟩)) (aD (bH (t':=0) cT rfl rfl) (aD (cR cE o (i:=1) rfl rfl rfl) (bT (Kt:=K) (xs:=([(-1),a.N]:List Int)) (cs:=[i64 (-1),i64 a.N]) (vs:=[(0,i64 (-1)),(1,i64 a.N)]) bV iD rfl rfl o rfl (by kernel_rfl) rfl rfl rfl ⟨rfl,rfl,trivial⟩ (fun l0 l1 (l2:aI G K (aN 2 K l0 2 ([(-1),a.N]:List Int)::box b1 56 [zS a2 g.length c3,i64 j.2.1,Value.int .u64 j.2.2]::box p 27 (zC a b c d e)::box m 27 l::aN 9 K b c a.L::aN 66 K d e a.E::box n 27 k::L) l1)=>?_))))))
    obtain ⟨r9,s0,s1,s2,s3⟩:=aI.lendSp l2 (zR _) .head
    exact eB
   ·refine aJ b5 rfl (aK (aD (dM rfl rfl) (aE (v:=zB (j.1 == 2)) (aG ?_))))
    rcases aH hm with ⟨b6,hm⟩|⟨b6,hm⟩
    ·refine aL b6 rfl (aQ (aD (bH (t':=2) fF rfl rfl) (aD (cR oF o (i:=1) rfl rfl rfl) ?_)));obtain ⟨s4,b7,hm⟩:=aC hm
     have l3:=cQ o (i:=3) rfl b7
     refine aD (dL dE rfl l3 rfl rfl rfl b7) ?_;obtain ⟨b8,e7,hm⟩:=aC hm
     refine kU (i:=3) (t:=0) (ns:=[str ([97]:aY)]) (e':=(([97]:aY):aY)) sizeOf9 o rfl (zR _) rfl rfl rfl b7 e7 rfl rfl (dN rfl) rfl (fun cs h=>by cases h;rfl) (fun e8 (l4:aI G K (box b1 56 [zS a2 g.length c3,i64 j.2.1,Value.int .u64 j.2.2]::box p 27 (zC a b c d e)::box m 27 l::aN 9 K b c b8::aN 66 K d e a.E::box n 27 k::L) e8)=>?_)
     have s5:aI G K (box b1 56 [zS a2 g.length c3,i64 j.2.1,Value.int .u64 j.2.2]::box p 27 [i64 a.N,i64 a.I,zS b b8.length c,zS d a.E.length e]::box m 27 l::aN 9 K b c b8::aN 66 K d e a.E::box n 27 k::L) e8:=by rw [←(iC e7)];exact l4
     exact eB
    ·refine aJ b6 rfl (aK (aD (dM rfl rfl) (aE (v:=zB (j.1 == 3)) (aG ?_))))
     rcases aH hm with ⟨b9,hm⟩|⟨b9,hm⟩
     ·refine aL b9 rfl ?_;obtain ⟨a1,a3,l5,e9,l6⟩:=aI.lendBp o zt1
      refine dI (C:=fun w'=>∃ L',aI G a1 L' w') [(0,0),(1,0),(2,0),(3,1),(4,1),(5,1),(6,1),(7,0),(8,2)] Tryz_mixed (by kernel_rfl) (fun _ hg=>⟨_,aI.mono e9 hg⟩) (fun s6 l7=>?_)
      have c0:=aI.mono e9 l7
      refine bL rfl (fun _ _=>bH (t':=2) fF rfl rfl) (bL rfl (fun _ ⟨_,c0⟩=>bE (t:=2) oF c0 l5 rfl rfl) (bL rfl (fun _ _=>aT (v:=zP (some ⟨b1,0,none⟩)) rfl) (fT rfl (bT (Kt:=K) (xs:=([([116,97,117]:aY),([97]:aY),([122,122]:aY),([65]:aY),([]:aY)]:List aY)) (cs:=[str ([116,97,117]:aY),str ([97]:aY),str ([122,122]:aY),str ([65]:aY),str ([]:aY)]) (vs:=[(0,str ([116,97,117]:aY)),(1,str ([97]:aY)),(2,str ([122,122]:aY)),(3,str ([65]:aY)),(4,str ([]:aY))]) dE oM rfl rfl c0 rfl (by kernel_rfl) rfl rfl rfl ⟨rfl,rfl,rfl,rfl,rfl,trivial⟩ (fun a4 l8 (f0:aI G a1 (aN 9 K a4 5 ([([116,97,117]:aY),([97]:aY),([122,122]:aY),([65]:aY),([]:aY)]:List aY)::box b1 56 [zS a2 g.length c3,i64 j.2.1,Value.int .u64 j.2.2]::box m 27 l::aN 9 K b c a.L::aN 66 K d e a.E::box n 27 k::L) l8)=>(bF (aB ⟨⟨_,f0⟩,?_⟩)))))))
      refine fT rfl ?_;obtain ⟨s7,l9,m0,m1,m2⟩:=aI.lendSp f0 a3 .head
      obtain ⟨r,m3,hm⟩:=aC hm
      refine aP (vs:=[zP (some ⟨b1,0,none⟩),zS a4 ([([116,97,117]:aY),([97]:aY),([122,122]:aY),([65]:aY),([]:aY)]:List aY).length 5]) call72 rfl (pQ m3 m1 (x.mono (zL a3 l9)) m0) ?_
      rintro _ s8 ⟨rfl,m4⟩
      have f1:=m2 _ _ m4
      refine bF (aB ⟨⟨_,f1⟩,?_⟩)
      refine fT rfl (bT (Kt:=K) (xs:=([r.1]:List aY)) (cs:=[str r.1]) (vs:=[(0,str r.1)]) dE oM rfl rfl f1 rfl (by kernel_rfl) rfl rfl rfl ⟨rfl,trivial⟩ (fun m5 m6 (f2:aI G a1 (aN 9 K m5 1 ([r.1]:List aY)::aN 9 K a4 5 ([([116,97,117]:aY),([97]:aY),([122,122]:aY),([65]:aY),([]:aY)]:List aY)::box b1 56 [zS a2 g.length c3,i64 r.2.1,Value.int .u64 r.2.2]::box m 27 l::aN 9 K b c a.L::aN 66 K d e a.E::box n 27 k::L) m6)=>(bF (aB ⟨⟨_,f2⟩,?_⟩))))
      refine fT rfl ?_;obtain ⟨m7,m8,hm⟩:=aC hm
      refine eR (i:=3) dE underlying24 oM rfl rfl f2 rfl a3 a3 m8 rfl rfl rfl rfl (fun _ h=>h) (fun m9 n0 n1 (f3:aI G a1 (aN 9 K a4 5 ([([116,97,117]:aY),([97]:aY),([122,122]:aY),([65]:aY),([]:aY)]:List aY)::box b1 56 [zS a2 g.length c3,i64 r.2.1,Value.int .u64 r.2.2]::box m 27 l::aN 9 K m9 n0 m7::aN 66 K d e a.E::box n 27 k::L) n1)=>(bF (aB ⟨⟨_,f3⟩,?_⟩)))
      refine bL rfl (fun _ _=>bH (t':=2) fF rfl rfl) ?_
      have s9:=l6 _ _ f3
      exact eB
     ·refine aJ b9 rfl (aK (aD (dM rfl rfl) (aE (v:=zB (j.1 == 4)) (aG ?_))))
      rcases aH hm with ⟨c1,hm⟩|⟨c1,hm⟩
      ·refine aL c1 rfl (aK (aD (bH (t':=3) cM rfl rfl) (aD (cR eK o (i:=1) rfl rfl rfl) (aD (bX (len:=a.E.length) cK rfl) (aD (jU rfl rfl) (aG ?_))))))
       rcases aH hm with ⟨f4,hm⟩|⟨f4,hm⟩
       ·refine aL f4 rfl ?_;obtain ⟨t0,n2,f5,n3,n4⟩:=aI.lendBp o zt1
        obtain ⟨f6,f7,f8,f9,n5⟩:=aI.lendSp n3 n2 zt3
        refine dI (C:=fun w'=>∃ L',aI G f6 L' w') [(0,3),(1,0),(2,3),(3,1),(4,1),(5,1),(6,1),(7,2),(8,3),(9,2)] Tryz_mixed (by kernel_rfl) (fun _ hg=>⟨_,aI.mono f9 hg⟩) (fun t1 n6=>?_)
        have u:=aI.mono f9 n6
        refine WE_t rfl (fun _=>bH (t':=3) cM rfl rfl) (bL rfl (fun _ ⟨_,u⟩=>bE (t:=3) eK u (f5.mono f7) rfl rfl) (WE_t rfl (fun _=>bH (t':=3) cM rfl rfl) (fT rfl (aD (bE (t:=3) eK u (f5.mono f7) rfl rfl) (bF (aB ⟨⟨_,u⟩,?_⟩))))))
        refine fT rfl ?_;obtain ⟨q,c2,hm⟩:=aC hm
        have n7:=aGC f8 c2
        refine aD (dL cK rfl n7 rfl rfl rfl c2) (bF (aB ⟨⟨_,u⟩,?_⟩))
        refine fT rfl ?_;obtain ⟨t2,n8,n9⟩:=bW.el (sz:=3) rfl f8 c2
        cases n9
        refine aD (gC (t:=0) (vs:=[i64 q.F,i64 q.B,i64 q.To]) oX u n8 rfl rfl rfl) (bF (aB ⟨⟨_,u⟩,?_⟩))
        refine fT rfl (bT (Kt:=K) (xs:=([q]:List Edge)) (cs:=[i64 q.F,i64 q.B,i64 q.To]) (vs:=[(0,zA #[i64 q.F,i64 q.B,i64 q.To])]) cK gP rfl rfl u rfl (by kernel_rfl) rfl rfl rfl ⟨rfl,trivial⟩ (fun g0 g1 (g2:aI G f6 (aN 66 K g0 1 ([q]:List Edge)::box b1 56 [zS a2 g.length c3,i64 j.2.1,Value.int .u64 j.2.2]::box m 27 l::aN 9 K b c a.L::box n 27 k::L) g1)=>(bF (aB ⟨⟨_,g2⟩,?_⟩))))
        have o0:=n5 _ _ g2
        have o1:=n4 _ _ o0
        refine yH rfl ?_;obtain ⟨t3,t4,hm⟩:=aC hm
        have t5:aI G K (aN 66 K g0 1 ([q]:List Edge)::box p 27 (zC a b c d e)::aN 66 K d e a.E::box b1 56 [zS a2 g.length c3,i64 j.2.1,Value.int .u64 j.2.2]::box m 27 l::aN 9 K b c a.L::box n 27 k::L) g1:=(aI.arr 3 [2,0,1] o1 rfl)
        exact eB
       ·exact eB
      ·refine aJ c1 rfl (aK (aD (dM rfl rfl) (aE (v:=zB (j.1 == 5)) (aG ?_))))
       rcases aH hm with ⟨c4,hm⟩|⟨c4,hm⟩
       ·refine aL c4 rfl (aK (aD (bH (t':=3) cM rfl rfl) (aD (cR eK o (i:=1) rfl rfl rfl) (aD (bX (len:=a.E.length) cK rfl) (aD (jU rfl rfl) (aG ?_))))))
        rcases aH hm with ⟨g3,hm⟩|⟨g3,hm⟩
        ·refine aL g3 rfl (aK (aF (v:=zP (some ⟨b1,0,none⟩)) (aD (bH (t':=3) cM rfl rfl) (aD (cR eK o (i:=1) rfl rfl rfl) (aD (bX (len:=a.E.length) cK rfl) ?_)))));obtain ⟨Z,o2,hm⟩:=aC hm
         refine aP (vs:=[zP (some ⟨b1,0,none⟩),i64 (a.E.length:Int)]) call23 rfl (bQ o2 o x) ?_
         rintro _ t6 ⟨rfl,o3⟩
         refine aE (v:=i64 Z.1) (aG ?_);obtain ⟨g4,g5,g6,g7,o4⟩:=aI.lendBp o3 zt1
         refine dI (C:=fun w'=>∃ L',aI G g4 L' w') [(0,0),(1,0),(2,0),(3,0),(4,1),(5,1),(6,1),(7,1),(8,1),(9,2),(10,2),(11,2)] Tryz_mixed (by kernel_rfl) (fun _ hg=>⟨_,aI.mono g7 hg⟩) (fun t7 o5=>?_)
         have y:=aI.mono g7 o5
         refine bL rfl (fun _ _=>bH (t':=3) cM rfl rfl) (bL rfl (fun _ ⟨_,y⟩=>bE (t:=3) eK y g6 rfl rfl) (bL rfl (fun _ _=>aT (v:=i64 Z.1) rfl) (bL rfl (fun _ _=>aT (v:=zP (some ⟨b1,0,none⟩)) rfl) (fT rfl (aD (bH (t':=2) fF rfl rfl) (bF (aB ⟨⟨_,y⟩,?_⟩)))))))
         refine fT rfl (aD (bE (t:=2) oF y g6 rfl rfl) (bF (aB ⟨⟨_,y⟩,?_⟩)))
         refine fT rfl (aD (bX (len:=a.L.length) dE rfl) (bF (aB ⟨⟨_,y⟩,?_⟩)))
         refine fT rfl (bT (Kt:=K) (xs:=([(-1),(a.L.length:Int),0]:List Int)) (cs:=[i64 (-1),i64 (a.L.length:Int),i64 0]) (vs:=[(0,i64 (-1)),(1,i64 (a.L.length:Int)),(2,i64 0)]) bV iD rfl rfl y rfl (by kernel_rfl) rfl rfl rfl ⟨rfl,rfl,rfl,trivial⟩ (fun a6 o6 (g8:aI G g4 (aN 2 K a6 3 ([(-1),(a.L.length:Int),0]:List Int)::box b1 56 [zS a2 g.length c3,i64 Z.2.1,Value.int .u64 Z.2.2]::box m 27 l::aN 9 K b c a.L::aN 66 K d e a.E::box n 27 k::L) o6)=>(bF (aB ⟨⟨_,g8⟩,?_⟩))))
         refine fT rfl ?_;obtain ⟨t8,o7,o8,o9,p0⟩:=aI.lendSp g8 g5 .head
         obtain ⟨z,p1,hm⟩:=aC hm
         refine aP (vs:=[zP (some ⟨b1,0,none⟩),zS a6 ([(-1),(a.L.length:Int),0]:List Int).length 3]) call71 rfl (iW p1 o9 (x.mono (zL g5 o7)) o8) ?_
         rintro _ t9 ⟨rfl,p2⟩
         have g9:=p0 _ _ p2
         refine bF (aB ⟨⟨_,g9⟩,?_⟩)
         have h0:=o4 _ _ g9
         refine yH rfl ?_;obtain ⟨h1,c5,hm⟩:=aC hm
         have h2:=cQ h0 (i:=5) rfl c5
         refine aD (dL cK rfl h2 rfl rfl rfl c5) (aG (yH rfl (aD (aJs (k':=Z.1.toNat * 3+1) iR h2 rfl rfl) (aG (yH rfl ?_)))));obtain ⟨c7,h3,hm⟩:=aC hm
         refine kU (i:=5) (t:=1) (ns:=[i64 z.1]) (e':=(⟨h1.F,z.1,h1.To⟩:Edge)) sizeOf2 h0 rfl (zR _) rfl rfl rfl c5 h3 rfl rfl (dN rfl) rfl (fun cs h=>by cases h;rfl) (fun h5 (p3:aI G K (box p 27 (zC a b c d e)::aN 2 K a6 3 ([(-1),(a.L.length:Int),0]:List Int)::box b1 56 [zS a2 g.length c3,i64 z.2.1,Value.int .u64 z.2.2]::box m 27 l::aN 9 K b c a.L::aN 66 K d e c7::box n 27 k::L) h5)=>?_)
         have u0:aI G K (box p 27 [i64 a.N,i64 a.I,zS b a.L.length c,zS d c7.length e]::aN 2 K a6 3 ([(-1),(a.L.length:Int),0]:List Int)::box b1 56 [zS a2 g.length c3,i64 z.2.1,Value.int .u64 z.2.2]::box m 27 l::aN 9 K b c a.L::aN 66 K d e c7::box n 27 k::L) h5:=by rw [←(iC h3)];exact p3
         exact eB
        ·exact eB
       ·refine aJ c4 rfl (aK (aD (dM rfl rfl) (aE (v:=zB (j.1 == 6)) (aG ?_))))
        rcases aH hm with ⟨h6,hm⟩|⟨h6,hm⟩
        ·refine aL h6 rfl (aK (aD (bH (t':=3) cM rfl rfl) (aD (cR eK o (i:=1) rfl rfl rfl) (aD (bX (len:=a.E.length) cK rfl) (aD (jU rfl rfl) (aG ?_))))))
         rcases aH hm with ⟨h8,hm⟩|⟨h8,hm⟩
         ·refine aL h8 rfl (aK (aF (v:=zP (some ⟨b1,0,none⟩)) (aD (bH (t':=3) cM rfl rfl) (aD (cR eK o (i:=1) rfl rfl rfl) (aD (bX (len:=a.E.length) cK rfl) ?_)))));obtain ⟨a0,p4,hm⟩:=aC hm
          refine aP (vs:=[zP (some ⟨b1,0,none⟩),i64 (a.E.length:Int)]) call23 rfl (bQ p4 o x) ?_
          rintro _ u1 ⟨rfl,p5⟩
          refine aE (v:=i64 a0.1) (aG ?_);obtain ⟨h9,i0,i1,i2,p6⟩:=aI.lendBp p5 zt1
          refine dI (C:=fun w'=>∃ L',aI G h9 L' w') [(0,0),(1,0),(2,0),(3,0),(4,1),(5,1),(6,1),(7,1),(8,2),(9,2),(10,2)] Tryz_mixed (by kernel_rfl) (fun _ hg=>⟨_,aI.mono i2 hg⟩) (fun u2 p7=>?_)
          have J:=aI.mono i2 p7
          refine bL rfl (fun _ _=>bH (t':=3) cM rfl rfl) (bL rfl (fun _ ⟨_,J⟩=>bE (t:=3) eK J i1 rfl rfl) (bL rfl (fun _ _=>aT (v:=i64 a0.1) rfl) (bL rfl (fun _ _=>aT (v:=zP (some ⟨b1,0,none⟩)) rfl) (fT rfl (aD (bH (t':=0) cT rfl rfl) (bF (aB ⟨⟨_,J⟩,?_⟩)))))))
          refine fT rfl (aD (bE (t:=0) cE J i1 rfl rfl) (bF (aB ⟨⟨_,J⟩,?_⟩)))
          refine fT rfl (bT (Kt:=K) (xs:=([(-1),a.N,0]:List Int)) (cs:=[i64 (-1),i64 a.N,i64 0]) (vs:=[(0,i64 (-1)),(1,i64 a.N),(2,i64 0)]) bV iD rfl rfl J rfl (by kernel_rfl) rfl rfl rfl ⟨rfl,rfl,rfl,trivial⟩ (fun a7 p8 (i3:aI G h9 (aN 2 K a7 3 ([(-1),a.N,0]:List Int)::box b1 56 [zS a2 g.length c3,i64 a0.2.1,Value.int .u64 a0.2.2]::box m 27 l::aN 9 K b c a.L::aN 66 K d e a.E::box n 27 k::L) p8)=>(bF (aB ⟨⟨_,i3⟩,?_⟩))))
          refine fT rfl ?_;obtain ⟨u3,p9,q0,q1,q2⟩:=aI.lendSp i3 i0 .head
          obtain ⟨V,q3,hm⟩:=aC hm
          refine aP (vs:=[zP (some ⟨b1,0,none⟩),zS a7 ([(-1),a.N,0]:List Int).length 3]) call71 rfl (iW q3 q1 (x.mono (zL i0 p9)) q0) ?_
          rintro _ u4 ⟨rfl,q4⟩
          have i4:=q2 _ _ q4
          refine bF (aB ⟨⟨_,i4⟩,?_⟩)
          have i5:=p6 _ _ i4
          refine yH rfl ?_;obtain ⟨i6,c8,hm⟩:=aC hm
          have i7:=cQ i5 (i:=5) rfl c8
          refine aD (dL cK rfl i7 rfl rfl rfl c8) (aG (yH rfl (aD (aJs (k':=a0.1.toNat * 3+2) gY i7 rfl rfl) (aG (yH rfl ?_)))));obtain ⟨d0,i8,hm⟩:=aC hm
          refine kU (i:=5) (t:=2) (ns:=[i64 V.1]) (e':=(⟨i6.F,i6.B,V.1⟩:Edge)) sizeOf2 i5 rfl (zR _) rfl rfl rfl c8 i8 rfl rfl (dN rfl) rfl (fun cs h=>by cases h;rfl) (fun i9 (q5:aI G K (box p 27 (zC a b c d e)::aN 2 K a7 3 ([(-1),a.N,0]:List Int)::box b1 56 [zS a2 g.length c3,i64 V.2.1,Value.int .u64 V.2.2]::box m 27 l::aN 9 K b c a.L::aN 66 K d e d0::box n 27 k::L) i9)=>?_)
          have u5:aI G K (box p 27 [i64 a.N,i64 a.I,zS b a.L.length c,zS d d0.length e]::aN 2 K a7 3 ([(-1),a.N,0]:List Int)::box b1 56 [zS a2 g.length c3,i64 V.2.1,Value.int .u64 V.2.2]::box m 27 l::aN 9 K b c a.L::aN 66 K d e d0::box n 27 k::L) i9:=by rw [←(iC i8)];exact q5
          exact eB
         ·exact eB
        ·exact eB
theorem aFp {j:(List UInt8)} {e9 f0:Int} {R:(cB × cB × Int × Int)} (hm:xT j e9 f0=some R) (hs:aI G K (box b1 56 [zS a2 j.length c3,i64 e9,Value.int .u64 f0]::L) w) (h4:bW K a2 c3 j):
  Calls prog 11 ([zP (some ⟨b1,0,none⟩)]:List Value).toArray w (eV fun v w'=>∃ g8 g9 h0 h1 h2 h3 h5 h6,v=Value.tuple #[zA (zCa R.1 g8 g9 h0 h1),zA (zCa R.2.1 h2 h3 h5 h6)]/\aI G K (aN 9 K g8 g9 R.1.L::aN 66 K h0 h1 R.1.E::aN 9 K h2 h3 R.2.1.L::aN 66 K h5 h6 R.2.1.E::box b1 56 [zS a2 j.length c3,i64 R.2.2.1,Value.int .u64 R.2.2.2]::L) w'):=by
 let c:=zG
 refine aR func11 rfl (by kernel_rfl) (by show (1:Nat)<=88;decide) ?_;unfold xT at hm
 refine aK (cI (vs:=c) zeroValue27 hs rfl (fun m w6 k8=>(cI (vs:=c) zeroValue27 k8 rfl (fun n w9 l0=>(aG (aK (aF (v:=zP (some ⟨b1,0,none⟩)) ?_)))))))
 have l1:aI G K (box b1 56 [zS a2 j.length c3,i64 e9,Value.int .u64 f0]::box n 27 c::box m 27 c::L) w9:=(aI.arr 3 [2,0,1] l0 rfl)
 obtain ⟨a,l2,hm⟩:=aC hm
 refine aP (vs:=[zP (some ⟨b1,0,none⟩)]) call22 rfl (aCh l2 l1 h4) ?_
 rintro _ z0 ⟨d,e,g,h,rfl,l3⟩
 refine cI (vs:=c) zeroValue27 l3 rfl (fun k z1 l4=>(cG (i:=0) (ns:=(zC a.1 d e g h)) (us:=(zC a.1 d e g h)) sizeOf27 l4 rfl rfl rfl rfl rfl (dN rfl) rfl rfl (fun h7 (l5:aI G K (box k 27 (zC a.1 d e g h)::aN 9 K d e a.1.L::aN 66 K g h a.1.E::box b1 56 [zS a2 j.length c3,i64 a.2.1,Value.int .u64 a.2.2]::box n 27 c::box m 27 c::L) h7)=>(aG (aK (aF (v:=zP (some ⟨b1,0,none⟩)) ?_))))))
 have l6:aI G K (box b1 56 [zS a2 j.length c3,i64 a.2.1,Value.int .u64 a.2.2]::box k 27 (zC a.1 d e g h)::aN 9 K d e a.1.L::aN 66 K g h a.1.E::box n 27 c::box m 27 c::L) h7:=(aI.arr 4 [3,0,1,2] l5 rfl)
 obtain ⟨b,l7,hm⟩:=aC hm
 refine aP (vs:=[zP (some ⟨b1,0,none⟩)]) call22 rfl (aCh l7 l6 h4) ?_
 rintro _ z2 ⟨u,x,y,z,rfl,l8⟩
 refine cI (vs:=c) zeroValue27 l8 rfl (fun r z3 l9=>(cG (i:=0) (ns:=(zC b.1 u x y z)) (us:=(zC b.1 u x y z)) sizeOf27 l9 rfl rfl rfl rfl rfl (dN rfl) rfl rfl (fun h8 (m0:aI G K (box r 27 (zC b.1 u x y z)::aN 9 K u x b.1.L::aN 66 K y z b.1.E::box b1 56 [zS a2 j.length c3,i64 b.2.1,Value.int .u64 b.2.2]::box k 27 (zC a.1 d e g h)::aN 9 K d e a.1.L::aN 66 K g h a.1.E::box n 27 c::box m 27 c::L) h8)=>(aG (aO (aK (aF (v:=zP (some ⟨b1,0,none⟩)) ?_)))))))
 have m1:aI G K (box b1 56 [zS a2 j.length c3,i64 b.2.1,Value.int .u64 b.2.2]::box r 27 (zC b.1 u x y z)::aN 9 K u x b.1.L::aN 66 K y z b.1.E::box k 27 (zC a.1 d e g h)::aN 9 K d e a.1.L::aN 66 K g h a.1.E::box n 27 c::box m 27 c::L) h8:=(aI.arr 4 [3,0,1,2] m0 rfl)
 obtain ⟨J,m2,hm⟩:=aC hm
 refine aP (vs:=[zP (some ⟨b1,0,none⟩),i64 6]) call23 rfl (bQ m2 m1 h4) ?_
 rintro _ z4 ⟨rfl,h9⟩
 refine aG (aX [0,2,3,4,5] (fun f w=>∃ f1 f2 b6 b7 a0 a1 a7 a8 a9 b0,jI j a f1 f2 b6 b7 a0 a1=some R/\aI G K (aN 66 K a9 b0 a1::aN 9 K a7 a8 a0::box b1 56 [zS a2 j.length c3,i64 f1,Value.int .u64 f2]::box r 27 [i64 b6,i64 b7,zS a7 a0.length a8,zS a9 a1.length b0]::box k 27 (zC a.1 d e g h)::aN 9 K d e a.1.L::aN 66 K g h a.1.E::box n 27 c::box m 27 c::L) w) ?_ ?_)
 ·rintro f z5 ⟨f1,f2,b6,b7,a0,a1,a7,a8,a9,b0,hm,z6⟩
  unfold jI at hm
  refine aB (iQ [0,2,3,4,5] (fun f w=>∃ f3 f4 a3 a4 q a5 V Z b2 b3,qD j a f3 f4 a3 a4 q a5=some R/\aI G K (aN 66 K b2 b3 a5::aN 9 K V Z q::box b1 56 [zS a2 j.length c3,i64 f3,Value.int .u64 f4]::box r 27 [i64 a3,i64 a4,zS V q.length Z,zS b2 a5.length b3]::box k 27 (zC a.1 d e g h)::aN 9 K d e a.1.L::aN 66 K g h a.1.E::box n 27 c::box m 27 c::L) w) ?_ ?_)
  ·rintro f z7 ⟨f3,f4,a3,a4,q,a5,V,Z,b2,b3,hm,z8⟩
   unfold qD at hm
   refine iQ [0,2,3,4,5] (fun f w=>∃ e3 e4 b4 c1 c2,qB j a a3 a4 q e3 e4 b4=some R/\aI G K (aN 66 K c1 c2 b4::aN 9 K V Z q::box b1 56 [zS a2 j.length c3,i64 e3,Value.int .u64 e4]::box r 27 [i64 a3,i64 a4,zS V q.length Z,zS c1 b4.length c2]::box k 27 (zC a.1 d e g h)::aN 9 K d e a.1.L::aN 66 K g h a.1.E::box n 27 c::box m 27 c::L) w) ?_ ?_
   ·rintro f z9 ⟨e3,e4,b4,c1,c2,hm,m3⟩
    unfold qB at hm
    refine aO ?_;obtain ⟨K75,c4,m4,m5,a01⟩:=aI.lendBp m3 zt3
    obtain ⟨m6,b9,m7,i0,a02⟩:=aI.lendBp m5 zt3
    refine dI (C:=fun w'=>∃ L',aI G m6 L' w') [(0,0),(1,0),(3,0),(4,0),(2,1),(5,1),(6,1),(7,2)] Tryz_mixed (by kernel_rfl) (fun _ hg=>⟨_,aI.mono i0 hg⟩) (fun m8 m9=>?_)
    have c6:=aI.mono i0 m9
    refine bL rfl (fun _ _=>aT (v:=zP (some ⟨b1,0,none⟩)) rfl) (bL rfl (fun _ ⟨_,c6⟩=>gC (t:=0) (vs:=(zC a.1 d e g h)) eS c6 m7 rfl rfl rfl) (bL rfl (fun _ _=>aT (v:=zP (some ⟨b1,0,none⟩)) rfl) (bL rfl (fun _ ⟨_,c6⟩=>gC (t:=0) (vs:=[i64 a3,i64 a4,zS V q.length Z,zS c1 b4.length c2]) eS c6 (m4.mono b9) rfl rfl rfl) (fT rfl ?_))));obtain ⟨K89,i1,n0,n1,n2⟩:=aI.lendSp c6 (zL c4 b9) zt3
    obtain ⟨n3,i2,n4,n5,n6⟩:=aI.lendSp n1 (zL (zL c4 b9) i1) zt3
    have n7:aI G n3 (box b1 56 [zS a2 j.length c3,i64 e3,Value.int .u64 e4]::aN 66 K c1 c2 b4::aN 9 K V Z q::box n 27 c::box m 27 c::L) m8:=(aI.arr 3 [2,0,1] n5 rfl)
    obtain ⟨e5,n8,hm⟩:=aC hm
    refine aP (vs:=[zP (some ⟨b1,0,none⟩),zA (zCa a.1 d e g h)]) call30 rfl (aBD n8 n7 (h4.mono (zL (zL (zL c4 b9) i1) i2)) (n0.mono i2) n4) ?_
    rintro _ n9 ⟨o0,o1,o2,o3,rfl,o4⟩
    have o5:=n6 _ _ o4
    have i3:=n2 _ _ o5
    refine bF (aB ⟨⟨_,i3⟩,?_⟩)
    refine fT rfl ?_;obtain ⟨a04,i4,o6,o7,a05⟩:=aI.lendSp i3 (zL c4 b9) zt6
    obtain ⟨o8,i5,o9,p0,p1⟩:=aI.lendSp o7 (zL (zL c4 b9) i4) zt5
    have p2:aI G o8 (box b1 56 [zS a2 j.length c3,i64 e5.2.1,Value.int .u64 e5.2.2]::aN 9 K d e a.1.L::aN 66 K g h a.1.E::aN 9 K o0 o1 e5.1.L::aN 66 K o2 o3 e5.1.E::box n 27 c::box m 27 c::L) n9:=(aI.arr 5 [4,0,1,2,3] p0 rfl)
    obtain ⟨a06,p3,hm⟩:=aC hm
    refine aP (vs:=[zP (some ⟨b1,0,none⟩),zA #[i64 a3,i64 a4,zS V q.length Z,zS c1 b4.length c2]]) call30 rfl (aBD (t:=⟨a3,a4,q,b4⟩) p3 p2 (h4.mono (zL (zL (zL c4 b9) i4) i5)) (o6.mono i5) o9) ?_
    rintro _ a07 ⟨a08,a09,a10,a11,rfl,p4⟩
    have a12:=p1 _ _ p4
    exact eB
   refine aO (cH [0,2,3,4,5] (fun f w=>∃ e6 e7 f5,qC j a a3 a4 q a5 e6 e7 f5=some R/\f 65=zB f5/\aI G K (aN 66 K b2 b3 a5::aN 9 K V Z q::box b1 56 [zS a2 j.length c3,i64 e6,Value.int .u64 e7]::box r 27 [i64 a3,i64 a4,zS V q.length Z,zS b2 a5.length b3]::box k 27 (zC a.1 d e g h)::aN 9 K d e a.1.L::aN 66 K g h a.1.E::box n 27 c::box m 27 c::L) w) ?_ ?_)
   ·rintro f p5 ⟨e6,e7,f5,hm,p6,i6⟩
    unfold qC at hm
    refine aB ?_
    rcases aH hm with ⟨i7,hm⟩|⟨i7,hm⟩
    ·refine aL i7 p6 (aK (aF (v:=zP (some ⟨b1,0,none⟩)) (aD (bH (t':=3) cM rfl rfl) (aD (cR eK i6 (i:=3) rfl rfl rfl) (aD (bX (len:=a5.length) cK rfl) ?_)))))
     have p7:aI G K (box b1 56 [zS a2 j.length c3,i64 e6,Value.int .u64 e7]::aN 66 K b2 b3 a5::aN 9 K V Z q::box r 27 [i64 a3,i64 a4,zS V q.length Z,zS b2 a5.length b3]::box k 27 (zC a.1 d e g h)::aN 9 K d e a.1.L::aN 66 K g h a.1.E::box n 27 c::box m 27 c::L) p5:=(aI.arr 3 [2,0,1] i6 rfl)
     obtain ⟨c5,p8,hm⟩:=aC hm
     refine aP (vs:=[zP (some ⟨b1,0,none⟩),i64 (a5.length:Int)]) call23 rfl (bQ p8 p7 h4) ?_
     rintro _ a13 ⟨rfl,p9⟩
     refine aE (v:=i64 c5.1) (aG ?_);obtain ⟨i8,a15,i9,j0,q0⟩:=aI.lendBp p9 zt3
     refine dI (C:=fun w'=>∃ L',aI G i8 L' w') [(0,0),(1,0),(2,0),(3,0),(4,0),(5,0),(6,0),(7,0),(8,0),(9,1),(10,0),(11,2)] Tryz_mixed (by kernel_rfl) (fun _ hg=>⟨_,aI.mono j0 hg⟩) (fun a17 q1=>?_)
     have c0:=aI.mono j0 q1
     refine bL rfl (fun _ _=>bH (t':=3) cM rfl rfl) (bL rfl (fun _ ⟨_,c0⟩=>bE (t:=3) eK c0 i9 rfl rfl) (bL rfl (fun _ _=>aT (v:=i64 c5.1) rfl) ?_));obtain ⟨a18,j1,hm⟩:=aC hm
     have q2:=aFi c0 (i:=1) rfl
     obtain ⟨a19,a20,j2⟩:=Cut.ex 3 b2 b3 0
     refine bL rfl (fun _ _=>aIC cK q2 j2 rfl rfl rfl j1) (bL rfl (fun _ _=>bH (t':=3) cM rfl rfl) (bL rfl (fun _ ⟨_,c0⟩=>bE (t:=3) eK c0 i9 rfl rfl) (bL rfl (fun _ _=>aT (v:=i64 c5.1) rfl) (bL rfl (fun _ _=>cL rfl rfl) ?_))));obtain ⟨a21,j3,hm⟩:=aC hm
     have q3:=aFi c0 (i:=1) rfl
     obtain ⟨a22,a23,j4⟩:=Cut.ex 3 b2 b3 (wr (c5.1+1))
     refine bL rfl (fun _ _=>aIB cK q3 j4 rfl rfl rfl j3) (fT rfl ?_);obtain ⟨q4,q5,hm⟩:=aC hm
     refine WO_appV (i:=1) cK underlying25 gP rfl rfl c0 rfl j1 j2 j3 j4 q5 rfl rfl rfl rfl (fun q6 q7 q8 (j5:aI G i8 (box b1 56 [zS a2 j.length c3,i64 c5.2.1,Value.int .u64 c5.2.2]::aN 66 K q6 q7 q4::aN 9 K V Z q::box k 27 (zC a.1 d e g h)::aN 9 K d e a.1.L::aN 66 K g h a.1.E::box n 27 c::box m 27 c::L) q8)=>(bF (aB ⟨⟨_,j5⟩,?_⟩)))
     refine bL rfl (fun _ _=>bH (t':=3) cM rfl rfl) ?_
     have a24:=q0 _ _ j5
     exact eB
    ·exact eB
   exact eB
  refine aO (cH [0,2,3,4,5] (fun f w=>∃ c7 c8 f6,nM j a b6 b7 a0 a1 c7 c8 f6=some R/\f 36=zB f6/\aI G K (aN 66 K a9 b0 a1::aN 9 K a7 a8 a0::box b1 56 [zS a2 j.length c3,i64 c7,Value.int .u64 c8]::box r 27 [i64 b6,i64 b7,zS a7 a0.length a8,zS a9 a1.length b0]::box k 27 (zC a.1 d e g h)::aN 9 K d e a.1.L::aN 66 K g h a.1.E::box n 27 c::box m 27 c::L) w) ?_ ?_)
  ·rintro f a25 ⟨c7,c8,f6,hm,q9,r0⟩
   unfold nM at hm
   refine aB ?_
   rcases aH hm with ⟨j6,hm⟩|⟨j6,hm⟩
   ·refine aL j6 q9 (aK (bT (Kt:=K) (xs:=([]:List Edge)) (cs:=[]) (vs:=[]) cK gP rfl rfl r0 rfl (by kernel_rfl) rfl rfl rfl trivial (fun j7 j8 (j9:aI G K (aN 66 K j7 0 ([]:List Edge)::aN 66 K a9 b0 a1::aN 9 K a7 a8 a0::box b1 56 [zS a2 j.length c3,i64 c7,Value.int .u64 c8]::box r 27 [i64 b6,i64 b7,zS a7 a0.length a8,zS a9 a1.length b0]::box k 27 (zC a.1 d e g h)::aN 9 K d e a.1.L::aN 66 K g h a.1.E::box n 27 c::box m 27 c::L) j8)=>(aD (bH (t':=3) cM rfl rfl) (aD (cR eK j9 (i:=4) rfl rfl rfl) ?_)))))
    obtain ⟨a26,a27,hm⟩:=aC hm
    have a29:aI G K (aN 66 K a9 b0 a1::aN 66 K j7 0 ([]:List Edge)::aN 9 K a7 a8 a0::box b1 56 [zS a2 j.length c3,i64 c7,Value.int .u64 c8]::box r 27 [i64 b6,i64 b7,zS a7 a0.length a8,zS a9 a1.length b0]::box k 27 (zC a.1 d e g h)::aN 9 K d e a.1.L::aN 66 K g h a.1.E::box n 27 c::box m 27 c::L) j8:=(aI.arr 2 [1,0] j9 rfl)
    exact eB
   ·exact eB
  exact eB
 refine iQ [0,2,3,4,5,13] (fun f w=>∃ f7,qE j a b J f7=some R/\f 14=zB f7/\aI G K (box b1 56 [zS a2 j.length c3,i64 J.2.1,Value.int .u64 J.2.2]::box r 27 (zC b.1 u x y z)::aN 9 K u x b.1.L::aN 66 K y z b.1.E::box k 27 (zC a.1 d e g h)::aN 9 K d e a.1.L::aN 66 K g h a.1.E::box n 27 c::box m 27 c::L) w) ?_ ?_
 ·rintro f a31 ⟨f7,hm,k0,e8⟩
  unfold qE at hm
  rcases aH hm with ⟨f8,hm⟩|⟨f8,hm⟩
  ·refine aL f8 k0 (aQ (aF (v:=zP (some ⟨b1,0,none⟩)) ?_));obtain ⟨c9,r1,hm⟩:=aC hm
   refine aP (vs:=[zP (some ⟨b1,0,none⟩),i64 2]) call25 rfl (dY r1 e8 h4) ?_
   rintro _ a32 ⟨rfl,r2⟩
   obtain ⟨a33,r3,r4,r5,r6⟩:=aI.lendSp r2 (zR _) zt5
   obtain ⟨a34,r7,r8,r9,s0⟩:=aI.lendSp r5 r3 zt5
   obtain ⟨a35,k1,s1,s2,s3⟩:=aI.lendBp r9 zt4
   obtain ⟨o,s4,hm⟩:=aC hm
   refine aP (vs:=[cC (some ⟨k,0,none⟩) 0,zB c9.1]) call24 rfl (aGW s4 s2 s1 (r4.mono (zL r7 k1)) (r8.mono k1)) ?_
   rintro _ a36 ⟨d0,d1,d2,d3,rfl,s5⟩
   have s6:=s3 _ _ s5
   have s7:=s0 _ _ s6
   have s8:=r6 _ _ s7
   exact cG (i:=6) (ns:=(zC o d0 d1 d2 d3)) (us:=(zC o d0 d1 d2 d3)) sizeOf27 s8 rfl rfl rfl rfl rfl (dN rfl) rfl rfl (fun s9 (t0:aI G K (aN 9 K d e a.1.L::aN 66 K g h a.1.E::box k 27 (zC a.1 d e g h)::aN 9 K d0 d1 o.L::aN 66 K d2 d3 o.E::box b1 56 [zS a2 j.length c3,i64 c9.2.1,Value.int .u64 c9.2.2]::box r 27 (zC o d0 d1 d2 d3)::aN 9 K u x b.1.L::aN 66 K y z b.1.E::box n 27 c::box m 27 c::L) s9)=>(bF (bA (aB ⟨aM,c9.2.1,c9.2.2,o.N,o.I,o.L,o.E,d0,d1,d2,d3,hm,(aI.arr 9 [4,3,5,6,2,0,1] t0 rfl)⟩))))
  ·refine aJ f8 k0 (aK (aD (dM rfl rfl) (aE (v:=zB (J.1 == 2)) (aG ?_))))
   rcases aH hm with ⟨f9,hm⟩|⟨f9,hm⟩
   ·refine aL f9 rfl (aQ (aF (v:=zP (some ⟨b1,0,none⟩)) ?_));obtain ⟨a37,k2,t1,t2,t3⟩:=aI.lendSp e8 (zR _) zt5
    obtain ⟨a38,k3,t4,t5,t6⟩:=aI.lendSp t2 k2 zt5
    obtain ⟨a39,g0,t7,t8,t9⟩:=aI.lendBp t5 zt4
    obtain ⟨l,u0,hm⟩:=aC hm
    refine aP (vs:=[zP (some ⟨b1,0,none⟩),cC (some ⟨k,0,none⟩) 0]) call26 rfl (aEN u0 t8 (h4.mono (zL (zL k2 k3) g0)) t7 (t1.mono (zL k3 g0)) (t4.mono g0)) ?_
    rintro _ a40 ⟨d4,d5,d6,d7,rfl,u1⟩
    have u2:=t9 _ _ u1
    have u3:=t6 _ _ u2
    have u4:=t3 _ _ u3
    exact cG (i:=6) (ns:=(zC l.1 d4 d5 d6 d7)) (us:=(zC l.1 d4 d5 d6 d7)) sizeOf27 u4 rfl rfl rfl rfl rfl (dN rfl) rfl rfl (fun u5 (u6:aI G K (aN 9 K d e a.1.L::aN 66 K g h a.1.E::box k 27 (zC a.1 d e g h)::aN 9 K d4 d5 l.1.L::aN 66 K d6 d7 l.1.E::box b1 56 [zS a2 j.length c3,i64 l.2.1,Value.int .u64 l.2.2]::box r 27 (zC l.1 d4 d5 d6 d7)::aN 9 K u x b.1.L::aN 66 K y z b.1.E::box n 27 c::box m 27 c::L) u5)=>(bF (bA (aB ⟨aM,l.2.1,l.2.2,l.1.N,l.1.I,l.1.L,l.1.E,d4,d5,d6,d7,hm,(aI.arr 9 [4,3,5,6,2,0,1] u6 rfl)⟩))))
   ·refine aJ f9 rfl (aK (aD (dM rfl rfl) (aE (v:=zB (J.1 == 3)) (aG ?_))))
    rcases aH hm with ⟨g1,hm⟩|⟨g1,hm⟩
    ·refine aL g1 rfl (aQ ?_);obtain ⟨a41,u7,u8,u9,v0⟩:=aI.lendSp e8 (zR _) zt5
     obtain ⟨a42,v1,v2,v3,v4⟩:=aI.lendSp u9 u7 zt5
     obtain ⟨a43,k4,v5,v6,v7⟩:=aI.lendBp v3 zt4
     obtain ⟨g2,v8,hm⟩:=aC hm
     refine aP (vs:=[cC (some ⟨k,0,none⟩) 0]) call28 rfl (aGi v8 v6 v5 (u8.mono (zL v1 k4)) (v2.mono k4)) ?_
     rintro _ v9 ⟨g3,g4,rfl,w0⟩
     have w1:=v7 _ _ w0
     have w2:=v4 _ _ w1
     have w3:=v0 _ _ w2
     refine aF (v:=zP (some ⟨b1,0,none⟩)) ?_
     have w4:aI G K (box b1 56 [zS a2 j.length c3,i64 J.2.1,Value.int .u64 J.2.2]::aN 9 K d e a.1.L::aN 66 K g h a.1.E::box k 27 (zC a.1 d e g h)::aN 2 K g3 g4 g2::box r 27 (zC b.1 u x y z)::aN 9 K u x b.1.L::aN 66 K y z b.1.E::box n 27 c::box m 27 c::L) v9:=(aI.arr 5 [4,0,1,2,3] w3 rfl)
     obtain ⟨d8,w5,hm⟩:=aC hm
     refine aP (vs:=[zP (some ⟨b1,0,none⟩),i64 2]) call25 rfl (dY w5 w4 h4) ?_
     rintro _ a44 ⟨rfl,w7⟩
     obtain ⟨a45,k5,w8,x0,x1⟩:=aI.lendSp w7 (zR _) zt1
     obtain ⟨a46,k6,x2,x3,x4⟩:=aI.lendSp x0 k5 zt1
     obtain ⟨a47,g5,x5,x6,x7⟩:=aI.lendBp x3 zt1
     obtain ⟨a48,g6,x8,x9,y0⟩:=aI.lendSp x6 (zL (zL k5 k6) g5) zt1
     obtain ⟨p,y1,hm⟩:=aC hm
     refine aP (vs:=[cC (some ⟨k,0,none⟩) 0,zS g3 g2.length g4,zB d8.1]) call27 rfl (aAu y1 x9 (x5.mono g6) (w8.mono (zL (zL k6 g5) g6)) (x2.mono (zL g5 g6)) x8) ?_
     rintro _ a50 ⟨d9,e0,e1,e2,rfl,y2⟩
     have y3:=y0 _ _ y2
     have y4:=x7 _ _ y3
     have y5:=x4 _ _ y4
     have y6:=x1 _ _ y5
     exact cG (i:=7) (ns:=(zC p d9 e0 e1 e2)) (us:=(zC p d9 e0 e1 e2)) sizeOf27 y6 rfl rfl rfl rfl rfl (dN rfl) rfl rfl (fun y7 (y8:aI G K (aN 9 K d e a.1.L::aN 66 K g h a.1.E::box k 27 (zC a.1 d e g h)::aN 2 K g3 g4 g2::aN 9 K d9 e0 p.L::aN 66 K e1 e2 p.E::box b1 56 [zS a2 j.length c3,i64 d8.2.1,Value.int .u64 d8.2.2]::box r 27 (zC p d9 e0 e1 e2)::aN 9 K u x b.1.L::aN 66 K y z b.1.E::box n 27 c::box m 27 c::L) y7)=>(bF (bA (aB ⟨aM,d8.2.1,d8.2.2,p.N,p.I,p.L,p.E,d9,e0,e1,e2,hm,(aI.arr 10 [5,4,6,7,2,0,1] y8 rfl)⟩))))
    ·exact aJ g1 rfl (aW (bA (aB ⟨aM,J.2.1,J.2.2,b.1.N,b.1.I,b.1.L,b.1.E,u,x,y,z,hm,(aI.arr 4 [3,2,0,1] e8 rfl)⟩)))
 refine aK (aD (dM rfl rfl) (aE (v:=zB (J.1 == 0)) (aG ?_)))
 rcases aH hm with ⟨g7,hm⟩|⟨g7,hm⟩
 ·exact aL g7 rfl (aW (aB ⟨aM,J.1 == 0,hm,rfl,h9⟩))
 ·exact aJ g7 rfl (aQ (aD (dM rfl rfl) (aE (v:=zB (J.1 == 1)) (aG ⟨aM,J.1 == 1,hm,rfl,h9⟩))))
theorem aFq {a:(List UInt8)} {m n:Int} {b:(List Int)} {R:((List Int) × Int × Int)} (hm:aGK a m n b=some R) (V:aI G K (aN 5 K a2 c3 a::box b1 56 [zS a2 a.length c3,i64 m,Value.int .u64 n]::L) w) (d:bW K a4 c5 b):
  Calls prog 77 ([zP (some ⟨b1,0,none⟩),zS a4 b.length c5]:List Value).toArray w (eV fun v w'=>∃ e o p,v=zS o R.1.length p/\Hp.le K e/\bW e o p R.1/\aI G e (aN 5 K a2 c3 a::box b1 56 [zS a2 a.length c3,i64 R.2.1,Value.int .u64 R.2.2]::L) w'):=by
 refine aR func77 rfl (by kernel_rfl) (by show (2:Nat)<=13;decide) ?_;unfold aGK at hm
 refine aK (aE (v:=zS none 0 0) (aG (aO (aK (aF (v:=zP (some ⟨b1,0,none⟩)) ?_)))));obtain ⟨c,Z,hm⟩:=aC hm
 refine aP (vs:=[zP (some ⟨b1,0,none⟩),i64 2]) call25 rfl (kJ Z V) ?_
 rintro _ b9 ⟨rfl,q⟩
 refine aG ?_
 rcases aH hm with ⟨g,hm⟩|⟨g,hm⟩
 ·refine aL g rfl (aK (aF (v:=zS a4 b.length c5) ?_));obtain ⟨a0,r,hm⟩:=aC hm
  obtain ⟨t,u,x⟩:=Cut.ex 1 a4 c5 0
  have a1:=bW.cut' d r x
  refine aD (aIC bV d.room x rfl rfl rfl r) (aE (v:=zS t a0.length u) (aG ?_));obtain rfl:=Option.some.inj hm
  exact bM (aZ (bI results77 rfl ⟨K,t,u,rfl,(zR _),a1,q⟩))
 ·refine aJ g rfl (aW (aB (aK (aF (v:=zS a4 b.length c5) ?_))));obtain ⟨a5,a6,hm⟩:=aC hm
  refine aP (vs:=[zS a4 b.length c5]) call112 rfl (aFL a6 q d) ?_
  rintro _ c0 ⟨a7,a8,rfl,a9⟩
  refine bT (Kt:=K) (xs:=([0]:List Int)) (cs:=[i64 0]) (vs:=[(0,i64 0)]) bV iD rfl rfl a9 rfl (by kernel_rfl) rfl rfl rfl ⟨rfl,trivial⟩ (fun b0 b2 (b3:aI G K (aN 2 K b0 1 ([0]:List Int)::aN 2 K a7 a8 a5::aN 5 K a2 c3 a::box b1 56 [zS a2 a.length c3,i64 c.2.1,Value.int .u64 c.2.2]::L) b2)=>?_);obtain ⟨y,b4,hm⟩:=aC hm
  refine eR (i:=0) bV underlying63 iD rfl rfl b3 rfl (zR _) (zR _) b4 rfl rfl rfl rfl (fun _ h=>h) (fun j k z (b5:aI G K (aN 2 K j k y::aN 5 K a2 c3 a::box b1 56 [zS a2 a.length c3,i64 c.2.1,Value.int .u64 c.2.2]::L) z)=>(aE (v:=zS j y.length k) (aG ?_)));obtain ⟨J,b6,b7,l⟩:=aI.giveSp b5 (zR _) .head
  replace l:aI G J (aN 5 K a2 c3 a::box b1 56 [zS a2 a.length c3,i64 c.2.1,Value.int .u64 c.2.2]::L) z:=l
  obtain rfl:=Option.some.inj hm
  exact bM (bI results77 rfl ⟨J,j,k,rfl,b6,b7,l⟩)
end Gv
