/- Walks, printed by program. -/
import Derived.Test.YtlehiakgdejgkaaGreatDoorJWk1
import Derived.Test.YtlehiakgdejgkaaGreatDoorJT
set_option linter.all false
namespace Gv
open Go.Value renaming slice→zS,pointer→zP
open Option.some renaming inj→zI
open Gv.Hp renaming le_refl→zR
open Go Go.Proofs Go.Proofs.Tryz
set_option maxRecDepth 20000
set_option maxHeartbeats 40000000
variable {G:Env} {K:Hp} {L:List iI} {w:World} {a1 a4 a7 a10 a13 a16 a2 a5:Option Addr} {c5 c8 c14 c17 b1 c3 c6:Nat}
theorem aLa {t:aS} {b:Nat} {R:Bool} (hm:aCC t=some R) (h:aD G K (L) w) (i:cT K a1 b (zC t a4 c5 a7 c8)) (j:aW K a4 c5 t.L) (k:aW K a7 c8 t.E):
  Calls Tryz.prog 47 ([cD a1 b]:List Value).toArray w (dS fun v w'=>v=Value.bool R/\aD G K (L) w'):=by
 refine cM func47 ?_;unfold aCC at hm
 refine aF ?_;refine aK [] (fun f w=>aHQ=some R/\aD G K (L) w) aI ?_
 obtain ⟨l,d,ho⟩:=aB hm
 refine dX [0] d (fun a f w=>f 3=i64 a/\aD G K (L) w) aI ?_
 ·rintro a e f m hm hr ⟨n,o⟩
  unfold wM at hm
  refine aF ?_
  rcases aG hm with ⟨g,hm⟩|⟨g,hm⟩
  ·refine aF ?_;refine cA (aF ?_)
   exact aY [0,3] (fun f w=>∃ c,sA a c=some e/\f 65=Value.bool c/\aD G K (L) w) aI aI
  ·exact aI
theorem aFW {t:aS} {a:Nat} {p:aS} {b:Nat} {R:Int} (hm:aBq t p=some R) (d:aD G K (L) w) (e:cT K a1 a (zC t a4 c5 a7 c8)) (g:aW K a4 c5 t.L) (h:aW K a7 c8 t.E) (i:cT K a10 b (zC p a13 c14 a16 c17)) (j:aW K a13 c14 p.L) (k:aW K a16 c17 p.E):
  Calls Tryz.prog 16 ([cD a1 a,cD a10 b]:List Value).toArray w (dS fun v w'=>v=i64 R/\aD G K (L) w'):=by
 refine cM func16 ?_;unfold aBq at hm
 iterate 7 refine cE ?_
 exact aY [1] (fun f w=>∃ c,aCD p c=some R/\f 12=Value.bool c/\aD G K (L) w) aI aI
theorem aED {a:(List UInt8)} {b c:Int} {R:(Int × Int × Int)} (hm:uZ a b c=some R) (e:aD G K (box b1 89 [zS a2 a.length c3,i64 b,Value.int .u64 c]::L) w) (g:aW K a2 c3 a):
  Calls Tryz.prog 89 ([zP (some ⟨b1,0,none⟩)]:List Value).toArray w (dS fun v w'=>v=i64 R.1/\aD G K (box b1 89 [zS a2 a.length c3,i64 R.2.1,Value.int .u64 R.2.2]::L) w'):=by
 refine cM func89 ?_;unfold uZ at hm
 iterate 10 refine cE ?_
 exact mZ [0] (fun f w=>∃ d,sB a b c d=some R/\f 3=i64 d/\aD G K (box b1 89 [zS a2 a.length c3,i64 b,Value.int .u64 c]::L) w) aI aI
theorem bM {a:(List UInt8)} {b c n:Int} {R:(Int × Int × Int)} (hm:bH a b c n=some R) (h:aD G K (box b1 89 [zS a2 a.length c3,i64 b,Value.int .u64 c]::L) w) (i:aW K a2 c3 a):
  Calls Tryz.prog 43 ([zP (some ⟨b1,0,none⟩),i64 n]:List Value).toArray w (dS fun v w'=>v=i64 R.1/\aD G K (box b1 89 [zS a2 a.length c3,i64 R.2.1,Value.int .u64 R.2.2]::L) w'):=by
 refine cM func43 ?_;unfold bH at hm
 refine aF ?_
 rcases aG hm with ⟨j,hm⟩|⟨j,hm⟩
 ·exact aI
 ·refine aF ?_;obtain ⟨l,k,hm⟩:=aB hm
  refine cC call89 (aED k h i) ?_
  rintro _ m ⟨rfl,o⟩
  iterate 3 refine cE ?_
  exact mZ [1] (fun f w=>∃ d e g,sC n d e g=some R/\f 5=i64 d/\aD G K (box b1 89 [zS a2 a.length c3,i64 e,Value.int .u64 g]::L) w) aI aI
theorem qZ {a:(List UInt8)} {b c n:Int} {R:(Bool × Int × Int)} (hm:jG a b c n=some R) (d:aD G K (box b1 89 [zS a2 a.length c3,i64 b,Value.int .u64 c]::L) w) (e:aW K a2 c3 a):
  Calls Tryz.prog 39 ([zP (some ⟨b1,0,none⟩),i64 n]:List Value).toArray w (dS fun v w'=>v=Value.bool R.1/\aD G K (box b1 89 [zS a2 a.length c3,i64 R.2.1,Value.int .u64 R.2.2]::L) w'):=by
 exact aI
theorem aDm {a:(List UInt8)} {t u:Int} {R:((List aJ) × Int × Int)} (hm:wN a t u=some R) (hs:aD G K (box b1 89 [zS a2 a.length c3,i64 t,Value.int .u64 u]::L) w) (h4:aW K a2 c3 a):
  Calls Tryz.prog 84 ([zP (some ⟨b1,0,none⟩)]:List Value).toArray w (dS fun v w'=>∃ x y,v=zS x R.1.length y/\aD G K (aH 9 K x y R.1::box b1 89 [zS a2 a.length c3,i64 R.2.1,Value.int .u64 R.2.2]::L) w'):=by
 refine cM func84 ?_;unfold wN at hm
 refine aF ?_;refine lI ([([116,97,117]:aJ)]:List aJ) fun a5 w6 b5=>?_
 refine aF ?_;refine lI ([([97]:aJ),([98]:aJ),([99]:aJ),([103,101,116,40,48,41]:aJ),([103,101,116,40,49,41]:aJ)]:List aJ) fun m w9 b7=>?_
 refine aF ?_;refine aK [] (fun f w=>∃ e b c n o,vW e b c=some R/\f 3=zS n e.length o/\aD G K (aH 9 K n o e::box b1 89 [zS a2 a.length c3,i64 b,Value.int .u64 c]::L) w) ?_ ?_
 ·rintro f b8 ⟨e,b,c,n,o,hm,b9,c0⟩
  unfold vW at hm
  iterate 1 refine cE ?_
  exact mZ [] (fun f w=>∃ p z J,vV b c p=some R/\f 3=zS z p.length J/\aD G K (aH 9 K z J p::box b1 89 [zS a2 a.length c3,i64 b,Value.int .u64 c]::L) w) aI aI
 obtain ⟨c1,a6,ho⟩:=aB hm
 refine rV [0,4] a6 (fun V Z d g f w=>∃ h i,f 3=zS h d.length i/\f 5=i64 g/\aD G K (aH 9 K m 5 ([([97]:aJ),([98]:aJ),([99]:aJ),([103,101,116,40,48,41]:aJ),([103,101,116,40,49,41]:aJ)]:List aJ)::aH 9 K h i d::box b1 89 [zS a2 a.length c3,i64 V,Value.int .u64 Z]::L) w) aI ?_
 ·rintro V Z d g a0 f c2 hm hr ⟨h,i,c4,c5,c6⟩
  unfold mT at hm
  refine aF ?_
  rcases aG hm with ⟨a7,hm⟩|⟨a7,hm⟩
  ·refine aF ?_;refine aK [0,4,5] (fun f w=>∃ q r j k l,kN g q r j=some a0/\f 3=zS k j.length l/\aD G K (aH 9 K k l j::aH 9 K m 5 ([([97]:aJ),([98]:aJ),([99]:aJ),([103,101,116,40,48,41]:aJ),([103,101,116,40,49,41]:aJ)]:List aJ)::box b1 89 [zS a2 a.length c3,i64 q,Value.int .u64 r]::L) w) ?_ ?_
   ·rintro f c7 ⟨q,r,j,k,l,hm,a9,c8⟩
    unfold kN at hm
    refine aF ?_;exact ⟨_,(zI hm).symm,bD,k,l,a9,rfl,lY⟩
   iterate 1 refine cE ?_
   exact aY [0,3,4,5] (fun f w=>∃ a1 a3 a4,pX d g a1 a3 a4=some a0/\f 20=Value.bool a4/\aD G K (aH 9 K m 5 ([([97]:aJ),([98]:aJ),([99]:aJ),([103,101,116,40,48,41]:aJ),([103,101,116,40,49,41]:aJ)]:List aJ)::aH 9 K h i d::box b1 89 [zS a2 a.length c3,i64 a1,Value.int .u64 a3]::L) w) aI aI
  ·exact aI
theorem rU {a:(List UInt8)} {c d:Int} {b:(List Int)} {R:(Int × Int × Int)} (hm:gF a c d b=some R) (e:aD G K (box b1 89 [zS a2 a.length c3,i64 c,Value.int .u64 d]::L) w) (g:aW K a2 c3 a) (h:aW K a5 c6 b):
  Calls Tryz.prog 85 ([zP (some ⟨b1,0,none⟩),zS a5 b.length c6]:List Value).toArray w (dS fun v w'=>v=i64 R.1/\aD G K (box b1 89 [zS a2 a.length c3,i64 R.2.1,Value.int .u64 R.2.2]::L) w'):=by
 exact aI
theorem aCc {b:(List UInt8)} {e5 e6:Int} {R:(aS × Int × Int)} (hm:aAL b e5 e6=some R) (hs:aD G K (box b1 89 [zS a2 b.length c3,i64 e5,Value.int .u64 e6]::L) w) (o:aW K a2 c3 b):
  Calls Tryz.prog 41 ([zP (some ⟨b1,0,none⟩)]:List Value).toArray w (dS fun v w'=>∃ i3 i4 i5 i6,v=Value.agg (zCa R.1 i3 i4 i5 i6)/\aD G K (aH 9 K i3 i4 R.1.L::aH 52 K i5 i6 R.1.E::box b1 89 [zS a2 b.length c3,i64 R.2.1,Value.int .u64 R.2.2]::L) w'):=by
 let e:=zG
 refine iT func41 rfl (by kernel_rfl) (by show (1:Nat)<=125;decide) ?_;unfold aAL at hm
 refine bC (fQ (vs:=e) zeroValue27 hs rfl (fun g w6 k8=>(aU (bC (aR (v:=zP (some ⟨b1,0,none⟩)) ?_)))))
 have k9:aD G K (box b1 89 [zS a2 b.length c3,i64 e5,Value.int .u64 e6]::box g 27 e::L) w6:=(aD.arr 2 [1,0] k8 rfl)
 obtain ⟨j,l0,hm⟩:=aB hm
 refine bO (vs:=[zP (some ⟨b1,0,none⟩),i64 4]) call43 rfl (bM l0 k9 o) ?_
 rintro _ t8 ⟨rfl,l1⟩
 refine aM (rO rfl rfl) (aT (v:=i64 (wr (1+j.1))) (aU (bC (aR (v:=i64 (wr (1+j.1))) (aR (v:=zP (some ⟨b1,0,none⟩)) (aR (v:=i64 (wr (1+j.1))) (aM (aOh rfl rfl) ?_)))))));obtain ⟨p,l2,hm⟩:=aB hm
 refine bO (vs:=[zP (some ⟨b1,0,none⟩),i64 (wr (7 - (wr (1+j.1))))]) call43 rfl (bM l2 l1 o) ?_
 rintro _ t9 ⟨rfl,l3⟩
 refine aM (rO rfl rfl) (aT (v:=i64 (wr ((wr (1+j.1))+p.1))) (aU (bC (aR (v:=zP (some ⟨b1,0,none⟩)) ?_))));obtain ⟨a,l4,hm⟩:=aB hm
 refine bO (vs:=[zP (some ⟨b1,0,none⟩)]) call84 rfl (aDm l4 l3 o) ?_
 rintro _ u0 ⟨c,d,rfl,l5⟩
 refine aT (v:=zS c a.1.length d) (aU (bC (eR (Kt:=K) (xs:=([]:List Int)) (cs:=[]) (vs:=[]) iX aEW rfl rfl l5 rfl (by kernel_rfl) rfl rfl rfl trivial (fun e7 l6 (l7:aD G K (aH 2 K e7 0 ([]:List Int)::aH 9 K c d a.1::box b1 89 [zS a2 b.length c3,i64 a.2.1,Value.int .u64 a.2.2]::box g 27 e::L) l6)=>(aT (v:=zS e7 ([]:List Int).length 0) (aU (bB (bC (aT (v:=i64 0) (aU (aK [0,2,3,4,5] (fun f w=>∃ b6 b7 k l m,uE b j p a b6 b7 k=some R/\f 6=zS l k.length m/\aD G K (aH 2 K l m k::aH 9 K c d a.1::box b1 89 [zS a2 b.length c3,i64 b6,Value.int .u64 b7]::box g 27 e::L) w) ?_ ?_)))))))))))
 ·rintro f u1 ⟨b6,b7,k,l,m,hm,i7,l8⟩
  unfold uE at hm
  refine aC (bC (eR (Kt:=K) (xs:=([]:List Edge)) (cs:=[]) (vs:=[]) iY aHH rfl rfl l8 rfl (by kernel_rfl) rfl rfl rfl trivial (fun e8 i8 (l9:aD G K (aH 52 K e8 0 ([]:List Edge)::aH 2 K l m k::aH 9 K c d a.1::box b1 89 [zS a2 b.length c3,i64 b6,Value.int .u64 b7]::box g 27 e::L) i8)=>(aT (v:=zS e8 ([]:List Edge).length 0) (aU (bB (bC (aR (v:=zP (some ⟨b1,0,none⟩)) (aR (v:=i64 (wr (1+j.1))) (aM (R_mul rfl rfl) (aM (rO rfl rfl) ?_)))))))))))
  have m0:aD G K (box b1 89 [zS a2 b.length c3,i64 b6,Value.int .u64 b7]::aH 52 K e8 0 ([]:List Edge)::aH 2 K l m k::aH 9 K c d a.1::box g 27 e::L) i8:=(aD.arr 4 [3,0,1,2] l9 rfl)
  obtain ⟨m1,m2,hm⟩:=aB hm
  refine bO (vs:=[zP (some ⟨b1,0,none⟩),i64 (wr (2+(wr (2 * (wr (1+j.1))))))]) call43 rfl (bM m2 m0 o) ?_
  rintro _ u2 ⟨rfl,u3⟩
  refine aT (v:=i64 m1.1) (aU (aK [0,2,4,5] (fun f w=>∃ c0 c1 b8 c2 c48,wP b j p a c0 c1 b8=some R/\f 8=zS c2 b8.length c48/\aD G K (aH 52 K c2 c48 b8::box b1 89 [zS a2 b.length c3,i64 c0,Value.int .u64 c1]::aH 9 K c d a.1::box g 27 e::L) w) ?_ ?_))
  ·rintro f m3 ⟨c0,c1,b8,c2,c48,hm,m4,m5⟩
   unfold wP at hm
   refine aC (mZ [0,2,4,5] (fun f w=>∃ i9 j0 e9 j1 j2,wO b j p a i9 j0 e9=some R/\f 8=zS j1 e9.length j2/\aD G K (aH 52 K j1 j2 e9::box b1 89 [zS a2 b.length c3,i64 i9,Value.int .u64 j0]::aH 9 K c d a.1::box g 27 e::L) w) aI (bC (aR (v:=zP (some ⟨b1,0,none⟩)) ?_)))
   have m6:aD G K (box b1 89 [zS a2 b.length c3,i64 c0,Value.int .u64 c1]::aH 52 K c2 c48 b8::aH 9 K c d a.1::box g 27 e::L) m3:=(aD.arr 2 [1,0] m5 rfl)
   obtain ⟨u4,m7,hm⟩:=aB hm
   refine bO (vs:=[zP (some ⟨b1,0,none⟩),i64 3]) call39 rfl (qZ m7 m6 o) ?_
   rintro _ u5 ⟨rfl,m8⟩
   refine aU ?_
   rcases aG hm with ⟨j3,hm⟩|⟨j3,hm⟩
   ·refine bP j3 rfl (bR (cW m4 (aR (v:=zP (some ⟨b1,0,none⟩)) (aR (v:=i64 (wr ((wr (1+j.1))+p.1))) ?_))));obtain ⟨u6,m9,hm⟩:=aB hm
    refine bO (vs:=[zP (some ⟨b1,0,none⟩),i64 (wr ((wr (1+j.1))+p.1))]) call43 rfl (bM m9 m8 o) ?_
    rintro _ u7 ⟨rfl,n0⟩
    refine aR (v:=zP (some ⟨b1,0,none⟩)) (aR (v:=zS c a.1.length d) (aM (gU (len:=a.1.length) eM rfl) ?_));obtain ⟨u8,n1,hm⟩:=aB hm
    refine bO (vs:=[zP (some ⟨b1,0,none⟩),i64 (a.1.length:Int)]) call43 rfl (bM n1 n0 o) ?_
    rintro _ u9 ⟨rfl,n2⟩
    refine aR (v:=zP (some ⟨b1,0,none⟩)) (aR (v:=i64 (wr ((wr (1+j.1))+p.1))) ?_);obtain ⟨v0,n3,hm⟩:=aB hm
    exact bO (vs:=[zP (some ⟨b1,0,none⟩),i64 (wr ((wr (1+j.1))+p.1))]) call43 rfl (bM n3 n2 o) aI
   ·exact aI
  obtain ⟨v1,n4,ho⟩:=aB hm
  refine rV [0,2,3,4,5,6] n4 (fun c4 c5 b9 a9 f w=>∃ c6 c7,f 8=zS c6 b9.length c7/\f 9=i64 a9/\aD G K (box b1 89 [zS a2 b.length c3,i64 c4,Value.int .u64 c5]::aH 52 K c6 c7 b9::aH 2 K l m k::aH 9 K c d a.1::box g 27 e::L) w) aI ?_
  ·rintro c4 c5 b9 a9 f0 f v2 hm hr ⟨c6,c7,n5,j4,j5⟩
   unfold pI at hm
   refine bB (bC (cW j4 (aM (aHv rfl rfl) (aU ?_))))
   rcases aG hm with ⟨f1,hm⟩|⟨f1,hm⟩
   ·refine bP f1 rfl (cN (aC (bB (aK [0,2,3,4,5,6,9] (fun f w=>∃ f2 f3 c8 c9 d0,aBr a9 f2 f3 c8=some f0/\f 8=zS c9 c8.length d0/\aD G K (aH 52 K c9 d0 c8::box b1 89 [zS a2 b.length c3,i64 f2,Value.int .u64 f3]::aH 2 K l m k::aH 9 K c d a.1::box g 27 e::L) w) ?_ ?_))))
    ·rintro f v3 ⟨f2,f3,c8,c9,d0,hm,n6,n7⟩
     unfold aBr at hm
     exact aC (bR (cW j4 (aM (aOh rfl rfl) (aT (v:=i64 (wr (a9 - 1))) (aU ⟨_,(zI hm).symm,bD,c9,d0,n6,rfl,(aD.arr 2 [1,0] n7 rfl)⟩)))))
    refine bC (aR (v:=zP (some ⟨b1,0,none⟩)) (aR (v:=i64 (wr (1+j.1))) ?_));obtain ⟨j6,n8,hm⟩:=aB hm
    refine bO (vs:=[zP (some ⟨b1,0,none⟩),i64 (wr (1+j.1))]) call43 rfl (bM n8 j5 o) ?_
    rintro _ v4 ⟨rfl,n9⟩
    refine aT (v:=i64 j6.1) (aU (bC (aR (v:=zP (some ⟨b1,0,none⟩)) (aR (v:=zS c a.1.length d) (aM (gU (len:=a.1.length) eM rfl) ?_)))));obtain ⟨J,o0,hm⟩:=aB hm
    refine bO (vs:=[zP (some ⟨b1,0,none⟩),i64 (a.1.length:Int)]) call43 rfl (bM o0 n9 o) ?_
    rintro _ v5 ⟨rfl,o1⟩
    refine aT (v:=i64 J.1) (aU (bC (aR (v:=zP (some ⟨b1,0,none⟩)) (aR (v:=i64 (wr (1+j.1))) ?_))));obtain ⟨j7,o2,hm⟩:=aB hm
    refine bO (vs:=[zP (some ⟨b1,0,none⟩),i64 (wr (1+j.1))]) call43 rfl (bM o2 o1 o) ?_
    rintro _ v6 ⟨rfl,v7⟩
    refine aT (v:=i64 j7.1) (aU (bC (aT (v:=i64 0) (aU (aK [0,2,3,4,5,6,9] (fun f w=>∃ j8 j9 f4 k0 k1,aBs a9 j8 j9 f4=some f0/\f 8=zS k0 f4.length k1/\aD G K (aH 52 K k0 k1 f4::box b1 89 [zS a2 b.length c3,i64 j8,Value.int .u64 j9]::aH 2 K l m k::aH 9 K c d a.1::box g 27 e::L) w) aI ?_)))));obtain ⟨v8,o3,ho⟩:=aB hm
    refine rV [0,2,3,4,5,6,9,10,11,12] o3 (fun q r n u f w=>∃ y z,f 8=zS y n.length z/\f 13=i64 u/\aD G K (box b1 89 [zS a2 b.length c3,i64 q,Value.int .u64 r]::aH 52 K y z n::aH 2 K l m k::aH 9 K c d a.1::box g 27 e::L) w) aI ?_
    ·rintro q r n u f5 f v9 hm hr ⟨y,z,k2,d1,d2⟩
     unfold sD at hm
     refine bB (bC (cW d1 (aR (v:=i64 (wr ((wr (1+j.1))+p.1))) (aM (pD rfl rfl) (aU ?_)))))
     rcases aG hm with ⟨f6,hm⟩|⟨f6,hm⟩
     ·refine bP f6 rfl (cN (aC (bB (aK [0,2,3,4,5,6,9,10,11,12,13] (fun f w=>∃ f7 f8 d3 d4 d5,wQ u f7 f8 d3=some f5/\f 8=zS d4 d3.length d5/\aD G K (box b1 89 [zS a2 b.length c3,i64 f7,Value.int .u64 f8]::aH 52 K d4 d5 d3::aH 2 K l m k::aH 9 K c d a.1::box g 27 e::L) w) ?_ ?_))))
      ·rintro f w0 ⟨f7,f8,d3,d4,d5,hm,o4,o5⟩
       unfold wQ at hm
       exact aC (bR (cW d1 (aM (rO rfl rfl) (aT (v:=i64 (wr (u+1))) (aU ⟨_,(zI hm).symm,bD,d4,d5,o4,rfl,o5⟩)))))
      refine bB (bC (cW i7 (cW d1 ?_)));obtain ⟨w1,f9,hm⟩:=aB hm
      have k3:=bS d2 (i:=2) rfl f9
      refine aM (cS iX rfl k3 rfl rfl rfl f9) (aM (yC (t:=0) lD d2 (i:=2) rfl f9 rfl rfl rfl) (aR (v:=i64 j6.1) (aM (aIU rfl rfl) (aU ?_))))
      rcases aG hm with ⟨k4,hm⟩|⟨k4,hm⟩
      ·exact aI
      ·refine bT k4 rfl (cN (aC (bC (eR (Kt:=K) (xs:=([]:List Int)) (cs:=[]) (vs:=[]) iX aEW rfl rfl d2 rfl (by kernel_rfl) rfl rfl rfl trivial (fun g0 o6 (o7:aD G K (aH 2 K g0 0 ([]:List Int)::box b1 89 [zS a2 b.length c3,i64 q,Value.int .u64 r]::aH 52 K y z n::aH 2 K l m k::aH 9 K c d a.1::box g 27 e::L) o6)=>(aT (v:=zS g0 ([]:List Int).length 0) (aU (bB (bC (aT (v:=i64 0) (aU (aK [0,2,3,4,5,6,8,9,10,11,12,13] (fun f w=>∃ a5 b0 b2,wR b J q r n u a5=some f5/\f 14=zS b0 a5.length b2/\aD G K (aH 2 K b0 b2 a5::box b1 89 [zS a2 b.length c3,i64 q,Value.int .u64 r]::aH 52 K y z n::aH 2 K l m k::aH 9 K c d a.1::box g 27 e::L) w) ?_ ?_))))))))))))
       ·rintro f w2 ⟨a5,b0,b2,hm,o8,o9⟩
        unfold wR at hm
        refine aC (bR (cW k2 (cW d1 (aR (v:=i64 J.1) (aR (v:=zP (some ⟨b1,0,none⟩)) (cW o8 ?_))))));obtain ⟨w3,p0,p1,p2,p3⟩:=aD.lendSp o9 (zR _) .head
        obtain ⟨x,p4,hm⟩:=aB hm
        refine bO (vs:=[zP (some ⟨b1,0,none⟩),zS b0 a5.length b2]) call85 rfl (rU p4 p2 (o.mono p0) p1) ?_
        rintro _ w4 ⟨rfl,p5⟩
        have p6:=p3 _ _ p5
        refine aM (cK (vs:=[(0,i64 u),(1,i64 J.1),(2,i64 x.1)]) (cs:=[i64 u,i64 J.1,i64 x.1]) aJa rfl (by kernel_rfl)) (eR (Kt:=K) (xs:=([⟨u,J.1,x.1⟩]:List Edge)) (cs:=[i64 u,i64 J.1,i64 x.1]) (vs:=[(0,Value.agg #[i64 u,i64 J.1,i64 x.1])]) iY aHH rfl rfl p6 rfl (by kernel_rfl) rfl rfl rfl ⟨rfl,trivial⟩ (fun p7 p8 (p9:aD G K (aH 52 K p7 1 ([⟨u,J.1,x.1⟩]:List Edge)::aH 2 K b0 b2 a5::box b1 89 [zS a2 b.length c3,i64 x.2.1,Value.int .u64 x.2.2]::aH 52 K y z n::aH 2 K l m k::aH 9 K c d a.1::box g 27 e::L) p8)=>?_))
        obtain ⟨g1,q0,hm⟩:=aB hm
        exact rR (i:=2) iY underlying25 aHH rfl rfl p9 rfl (zR _) (zR _) q0 rfl rfl rfl rfl (fun _ h=>h) (fun g2 g3 q1 (q2:aD G K (aH 2 K b0 b2 a5::box b1 89 [zS a2 b.length c3,i64 x.2.1,Value.int .u64 x.2.2]::aH 52 K g2 g3 g1::aH 2 K l m k::aH 9 K c d a.1::box g 27 e::L) q1)=>(aT (v:=zS g2 g1.length g3) (aL (iC (aC ⟨bD,x.2.1,x.2.2,g1,g2,g3,hm,rfl,(aD.arr 1 [] q2 rfl)⟩)))))
       obtain ⟨w5,q3,ho⟩:=aB hm
       refine bV [0,2,3,4,5,6,8,9,10,11,12,13] q3 (fun a6 Z f w=>∃ b3 b4,f 14=zS b3 a6.length b4/\f 15=i64 Z/\aD G K (aH 2 K b3 b4 a6::box b1 89 [zS a2 b.length c3,i64 q,Value.int .u64 r]::aH 52 K y z n::aH 2 K l m k::aH 9 K c d a.1::box g 27 e::L) w) ?_ ?_
       ·exact ⟨g0,0,rfl,rfl,o7⟩
       ·rintro a6 Z q4 f w7 hm hr ⟨b3,b4,g4,d6,d7⟩
        unfold mH at hm
        refine bB (bC (cW d6 (aR (v:=i64 (wr ((wr (1+j.1))+p.1))) (aM (pD rfl rfl) (aU ?_)))))
        rcases aG hm with ⟨g5,hm⟩|⟨g5,hm⟩
        ·refine bP g5 rfl (cN (aC (bB (aK [0,2,3,4,5,6,8,9,10,11,12,13,15] (fun f w=>∃ d8 d9 e0,wS Z d8=some q4/\f 14=zS d9 d8.length e0/\aD G K (aH 2 K d9 e0 d8::box b1 89 [zS a2 b.length c3,i64 q,Value.int .u64 r]::aH 52 K y z n::aH 2 K l m k::aH 9 K c d a.1::box g 27 e::L) w) ?_ ?_))))
         ·rintro f w8 ⟨d8,d9,e0,hm,q5,q6⟩
          unfold wS at hm
          exact aC (bR (cW d6 (aM (rO rfl rfl) (aT (v:=i64 (wr (Z+1))) (aU ⟨_,(zI hm).symm,bD,d9,e0,q5,rfl,q6⟩)))))
         refine bC (cW i7 (cW d6 ?_));obtain ⟨w9,k5,hm⟩:=aB hm
         refine aM (cS iX rfl k3 rfl rfl rfl k5) (aM (yC (t:=0) lD d7 (i:=3) rfl k5 rfl rfl rfl) (aR (v:=i64 j7.1) (aM (aHw rfl rfl) (aU ?_))))
         rcases aG hm with ⟨g6,hm⟩|⟨g6,hm⟩
         ·refine bP g6 rfl (bR (cW g4 (cW d6 (eR (Kt:=K) (xs:=([Z]:List Int)) (cs:=[i64 Z]) (vs:=[(0,i64 Z)]) iX aEW rfl rfl d7 rfl (by kernel_rfl) rfl rfl rfl ⟨rfl,trivial⟩ (fun q7 q8 (q9:aD G K (aH 2 K q7 1 ([Z]:List Int)::aH 2 K b3 b4 a6::box b1 89 [zS a2 b.length c3,i64 q,Value.int .u64 r]::aH 52 K y z n::aH 2 K l m k::aH 9 K c d a.1::box g 27 e::L) q8)=>?_)))));obtain ⟨g7,r0,hm⟩:=aB hm
          exact rR (i:=0) iX underlying30 aEW rfl rfl q9 rfl (zR _) (zR _) r0 rfl rfl rfl rfl (fun _ h=>h) (fun g8 g9 r1 (r2:aD G K (aH 2 K g8 g9 g7::box b1 89 [zS a2 b.length c3,i64 q,Value.int .u64 r]::aH 52 K y z n::aH 2 K l m k::aH 9 K c d a.1::box g 27 e::L) r1)=>(aT (v:=zS g8 g7.length g9) (aL (iC (aC ⟨bD,g7,g8,g9,hm,rfl,r2⟩)))))
         ·exact bT g6 rfl (cN (iC (aC ⟨bD,a6,b3,b4,hm,g4,d7⟩)))
        ·refine bT g5 rfl (aAZ (iW (iW ?_)))
         have r3:=hr _ (zI hm).symm
         subst r3
         have hm:(wR b J q r n u a6)=some f5:=ho
         clear hr ho
         exact uB (aC ⟨bD,a6,b3,b4,hm,g4,d7⟩)
     ·refine bT f6 rfl (aAZ (iW (iW ?_)))
      have r4:=hr _ (zI hm).symm
      subst r4
      have hm:(aBs a9 q r n)=some f0:=ho
      clear hr ho
      exact uB (aC ⟨bD,q,r,n,y,z,hm,k2,(aD.arr 2 [1,0] d2 rfl)⟩)
   ·refine bT f1 rfl (aAZ (iW (iW ?_)))
    have r5:=hr _ (zI hm).symm
    subst r5
    have hm:(wP b j p a c4 c5 b9)=some R:=ho
    clear hr ho
    exact uB (aC ⟨bD,c4,c5,b9,c6,c7,hm,n5,(aD.arr 3 [1,0] j5 rfl)⟩)
 obtain ⟨x0,r6,ho⟩:=aB hm
 refine rV [0,2,3,4,5] r6 (fun a0 a1 a3 a4 f w=>∃ a7 a8,f 6=zS a7 a3.length a8/\f 7=i64 a4/\aD G K (aH 2 K a7 a8 a3::aH 9 K c d a.1::box b1 89 [zS a2 b.length c3,i64 a0,Value.int .u64 a1]::box g 27 e::L) w) ?_ ?_
 ·exact ⟨e7,0,rfl,rfl,l7⟩
 ·rintro a0 a1 a3 a4 r7 f r8 hm hr ⟨a7,a8,h0,e1,h1⟩
  unfold pK at hm
  refine bB (bC (cW e1 (aR (v:=i64 (wr ((wr (1+j.1))+p.1))) (aM (pD rfl rfl) (aU ?_)))))
  rcases aG hm with ⟨h2,hm⟩|⟨h2,hm⟩
  ·refine bP h2 rfl (cN (aC (bB (aK [0,2,3,4,5,7] (fun f w=>∃ h3 h5 e2 e3 e4,pJ a4 h3 h5 e2=some r7/\f 6=zS e3 e2.length e4/\aD G K (aH 2 K e3 e4 e2::aH 9 K c d a.1::box b1 89 [zS a2 b.length c3,i64 h3,Value.int .u64 h5]::box g 27 e::L) w) ?_ ?_))))
   ·rintro f x1 ⟨h3,h5,e2,e3,e4,hm,s0,s1⟩
    unfold pJ at hm
    exact aC (bR (cW e1 (aM (rO rfl rfl) (aT (v:=i64 (wr (a4+1))) (aU ⟨_,(zI hm).symm,bD,e3,e4,s0,rfl,s1⟩)))))
   refine bC (cW e1 (aR (v:=i64 (wr (1+j.1))) (aM (pD rfl rfl) (aU ?_))))
   rcases aG hm with ⟨h6,hm⟩|⟨h6,hm⟩
   ·refine bP h6 rfl (bR (cW h0 (cW e1 (eR (Kt:=K) (xs:=([a4]:List Int)) (cs:=[i64 a4]) (vs:=[(0,i64 a4)]) iX aEW rfl rfl h1 rfl (by kernel_rfl) rfl rfl rfl ⟨rfl,trivial⟩ (fun s2 s3 (s4:aD G K (aH 2 K s2 1 ([a4]:List Int)::aH 2 K a7 a8 a3::aH 9 K c d a.1::box b1 89 [zS a2 b.length c3,i64 a0,Value.int .u64 a1]::box g 27 e::L) s3)=>?_)))));obtain ⟨h7,s5,hm⟩:=aB hm
    exact rR (i:=0) iX underlying30 aEW rfl rfl s4 rfl (zR _) (zR _) s5 rfl rfl rfl rfl (fun _ h=>h) (fun h8 h9 s6 (s7:aD G K (aH 2 K h8 h9 h7::aH 9 K c d a.1::box b1 89 [zS a2 b.length c3,i64 a0,Value.int .u64 a1]::box g 27 e::L) s6)=>(aT (v:=zS h8 h7.length h9) (aL (iC (aC ⟨bD,a0,a1,h7,h8,h9,hm,rfl,s7⟩)))))
   ·refine bT h6 rfl (bR (cW h0 (aR (v:=zP (some ⟨b1,0,none⟩)) (aR (v:=i64 (wr (1+j.1))) ?_))))
    have s8:aD G K (box b1 89 [zS a2 b.length c3,i64 a0,Value.int .u64 a1]::aH 2 K a7 a8 a3::aH 9 K c d a.1::box g 27 e::L) r8:=(aD.arr 3 [2,0,1] h1 rfl)
    obtain ⟨V,s9,hm⟩:=aB hm
    refine bO (vs:=[zP (some ⟨b1,0,none⟩),i64 (wr (1+j.1))]) call43 rfl (bM s9 s8 o) ?_
    rintro _ x2 ⟨rfl,t0⟩
    refine eR (Kt:=K) (xs:=([V.1]:List Int)) (cs:=[i64 V.1]) (vs:=[(0,i64 V.1)]) iX aEW rfl rfl t0 rfl (by kernel_rfl) rfl rfl rfl ⟨rfl,trivial⟩ (fun t1 t2 (t3:aD G K (aH 2 K t1 1 ([V.1]:List Int)::box b1 89 [zS a2 b.length c3,i64 V.2.1,Value.int .u64 V.2.2]::aH 2 K a7 a8 a3::aH 9 K c d a.1::box g 27 e::L) t2)=>?_);obtain ⟨i0,t4,hm⟩:=aB hm
    exact rR (i:=1) iX underlying30 aEW rfl rfl t3 rfl (zR _) (zR _) t4 rfl rfl rfl rfl (fun _ h=>h) (fun i1 i2 t5 (t6:aD G K (box b1 89 [zS a2 b.length c3,i64 V.2.1,Value.int .u64 V.2.2]::aH 2 K i1 i2 i0::aH 9 K c d a.1::box g 27 e::L) t5)=>(aT (v:=zS i1 i0.length i2) (aL (iC (aC ⟨bD,V.2.1,V.2.2,i0,i1,i2,hm,rfl,(aD.arr 3 [1,2,0] t6 rfl)⟩)))))
  ·refine bT h2 rfl (aAZ (iW (iW ?_)))
   have t7:=hr _ (zI hm).symm
   subst t7
   have hm:(uE b j p a a0 a1 a3)=some R:=ho
   clear hr ho
   exact uB (aC ⟨bD,a0,a1,a3,a7,a8,hm,h0,h1⟩)
theorem vN {a:(List UInt8)} {b c:Int} {R:(Int × Int × Int)} (hm:oF a b c=some R) (e:aD G K (aH 5 K a2 c3 a::box b1 89 [zS a2 a.length c3,i64 b,Value.int .u64 c]::L) w):
  Calls Tryz.prog 89 ([zP (some ⟨b1,0,none⟩)]:List Value).toArray w (dS fun v w'=>v=i64 R.1/\aD G K (aH 5 K a2 c3 a::box b1 89 [zS a2 a.length c3,i64 R.2.1,Value.int .u64 R.2.2]::L) w'):=by
 refine cM func89 ?_;unfold oF at hm
 iterate 10 refine cE ?_
 exact mZ [0] (fun f w=>∃ d,yP a b c d=some R/\f 3=i64 d/\aD G K (aH 5 K a2 c3 a::box b1 89 [zS a2 a.length c3,i64 b,Value.int .u64 c]::L) w) aI aI
theorem aHs {a:(List UInt8)} {b c n:Int} {R:(Int × (List UInt8) × Int × Int)} (hm:aGl a b c n=some R) (j:aD G K (aH 5 K a2 c3 a::box b1 89 [zS a2 a.length c3,i64 b,Value.int .u64 c]::L) w):
  Calls Tryz.prog 43 ([zP (some ⟨b1,0,none⟩),i64 n]:List Value).toArray w (dS fun v w'=>∃ d e,v=i64 R.1/\aD G K (aH 5 K d e R.2.1::box b1 89 [zS d R.2.1.length e,i64 R.2.2.1,Value.int .u64 R.2.2.2]::L) w'):=by
 refine cM func43 ?_;unfold aGl at hm
 refine aF ?_
 rcases aG hm with ⟨k,hm⟩|⟨k,hm⟩
 ·exact aI
 ·refine aF ?_;obtain ⟨m,l,hm⟩:=aB hm
  refine cC call89 (vN l j) ?_
  rintro _ o ⟨rfl,p⟩
  iterate 3 refine cE ?_
  exact mZ [1] (fun f w=>∃ g h i,yQ a n g h i=some R/\f 5=i64 g/\aD G K (aH 5 K a2 c3 a::box b1 89 [zS a2 a.length c3,i64 h,Value.int .u64 i]::L) w) aI aI
theorem aLb {b:(List UInt8)} {x y:Int} {R:(aS × Int × Int)} (hm:aCE b x y=some R) (hs:aD G K (box b1 89 [zS a2 b.length c3,i64 x,Value.int .u64 y]::L) w) (n:aW K a2 c3 b):
  Calls Tryz.prog 82 ([zP (some ⟨b1,0,none⟩)]:List Value).toArray w (dS fun v w'=>∃ a5 a6 a7 a8,v=Value.agg (zCa R.1 a5 a6 a7 a8)/\aD G K (aH 9 K a5 a6 R.1.L::aH 52 K a7 a8 R.1.E::box b1 89 [zS a2 b.length c3,i64 R.2.1,Value.int .u64 R.2.2]::L) w'):=by
 let h:=zG
 refine cM func82 ?_;unfold aCE at hm
 refine aF ?_;refine iN fun j w6 f0=>?_
 refine aF ?_
 have c9:aD G K (box b1 89 [zS a2 b.length c3,i64 x,Value.int .u64 y]::box j 27 h::L) w6:=lY
 obtain ⟨a,d0,hm⟩:=aB hm
 refine cC call41 (aCc d0 c9 n) ?_
 rintro _ f1 ⟨c,d,e,g,rfl,f2⟩
 refine iN fun k f3 f4=>?_;refine gM fun f5 f6=>?_
 refine aF ?_;refine lI ([]:List Edge) fun f7 f8 f9=>?_
 refine aF ?_;refine aK [0,2,3] (fun f w=>∃ o p l q r,aBt b a o p l=some R/\f 4=zS q l.length r/\aD G K (aH 52 K q r l::box k 27 (zC a.1 c d e g)::aH 9 K c d a.1.L::aH 52 K e g a.1.E::box b1 89 [zS a2 b.length c3,i64 o,Value.int .u64 p]::box j 27 h::L) w) ?_ ?_
 ·rintro f d1 ⟨o,p,l,q,r,hm,g0,g1⟩
  unfold aBt at hm
  refine aF ?_
  have d2:aD G K (box b1 89 [zS a2 b.length c3,i64 o,Value.int .u64 p]::aH 52 K q r l::box k 27 (zC a.1 c d e g)::aH 9 K c d a.1.L::aH 52 K e g a.1.E::box j 27 h::L) d1:=lY
  obtain ⟨g2,d3,hm⟩:=aB hm
  refine cC call43 (bM d3 d2 n) ?_
  rintro _ g3 ⟨rfl,g4⟩
  refine aF ?_;refine aK [2,3] (fun f w=>∃ z a9 b0 b2 b3,aEt a z a9 b0=some R/\f 4=zS b2 z.length b3/\aD G K (aH 52 K b2 b3 z::box b1 89 [zS a2 b.length c3,i64 a9,Value.int .u64 b0]::box k 27 (zC a.1 c d e g)::aH 9 K c d a.1.L::aH 52 K e g a.1.E::box j 27 h::L) w) aI ?_
  obtain ⟨g5,d4,ho⟩:=aB hm
  refine rV [0,2,3] d4 (fun b4 b6 J b7 f w=>∃ V Z,f 4=zS V J.length Z/\f 7=i64 b7/\aD G K (box b1 89 [zS a2 b.length c3,i64 b4,Value.int .u64 b6]::aH 52 K V Z J::box k 27 (zC a.1 c d e g)::aH 9 K c d a.1.L::aH 52 K e g a.1.E::box j 27 h::L) w) aI ?_
  ·rintro b4 b6 J b7 g6 f g7 hm hr ⟨V,Z,g8,g9,d5⟩
   unfold sE at hm
   refine aF ?_
   rcases aG hm with ⟨d6,hm⟩|⟨d6,hm⟩
   ·refine aF ?_;refine cA ?_
    obtain ⟨h0,b8,h1,h2,d7⟩:=aD.lendBp d5 (.tail (.tail .head))
    refine wI [(0,0),(1,0),(2,0),(3,0),(5,0),(6,0),(7,0),(4,1),(8,1),(9,0),(10,1),(11,1),(12,0)] fun h3 d8=>?_;refine aF ?_
    refine eQ rfl ?_;obtain ⟨a0,d9,hm⟩:=aB hm
    refine cC call43 (bM d9 d8 (n.mono b8)) ?_
    rintro _ h5 ⟨rfl,b9⟩
    refine aL (aC ⟨⟨_,b9⟩,?_⟩)
    refine eQ rfl ?_;obtain ⟨a1,e0,hm⟩:=aB hm
    refine cC call43 (bM e0 b9 (n.mono b8)) ?_
    rintro _ h6 ⟨rfl,e1⟩
    refine aL (aC ⟨⟨_,e1⟩,?_⟩)
    refine cI rfl (fun _ _=>cK (vs:=[(0,i64 a0.1),(2,i64 a1.1)]) (cs:=[i64 a0.1,i64 0,i64 a1.1]) aJa rfl (by kernel_rfl)) (eQ rfl (lI ([⟨a0.1,0,a1.1⟩]:List Edge) fun h7 h8 e2=>?_));refine aL (aC ⟨⟨_,e2⟩,?_⟩)
    refine eQ rfl ?_;obtain ⟨h9,i0,hm⟩:=aB hm
    refine aGF fun i1 i2 i3 c0=>?_;refine aL (aC ⟨⟨_,c0⟩,?_⟩)
    refine aF ?_;refine yO ?_
    have i4:=d7 _ _ c0
    exact aI
   ·exact aI
 obtain ⟨i5,e3,ho⟩:=aB hm
 refine rV [0,2,3] e3 (fun c1 c2 m a3 f w=>∃ t u,f 4=zS t m.length u/\f 5=i64 a3/\aD G K (aH 52 K t u m::box k 27 (zC a.1 c d e g)::aH 9 K c d a.1.L::aH 52 K e g a.1.E::box b1 89 [zS a2 b.length c3,i64 c1,Value.int .u64 c2]::box j 27 h::L) w) aI ?_
 ·rintro c1 c2 m a3 e4 f i6 hm hr ⟨t,u,i7,i8,e5⟩
  unfold sF at hm
  refine aF ?_
  rcases aG hm with ⟨e6,hm⟩|⟨e6,hm⟩
  ·refine aF ?_;refine cA (aF ?_)
   obtain ⟨a4,c4,hm⟩:=aB hm
   have e7:=bS e5 (i:=3) rfl c4
   refine aM (cS iY rfl e7 rfl rfl rfl c4) (aF ?_);refine iN fun e8 i9 j0=>?_
   refine gM fun j1 j2=>?_
   iterate 2 refine cE ?_
   exact mZ [0,2,3,4,5,6] (fun f w=>∃ c5 c6 c7,wT m a3 a4 c5 c6 c7=some e4/\aD G K (box e8 52 [i64 a4.F,i64 c7,i64 a4.To]::aH 52 K t u m::box k 27 (zC a.1 c d e g)::aH 9 K c d a.1.L::aH 52 K e g a.1.E::box b1 89 [zS a2 b.length c3,i64 c5,Value.int .u64 c6]::box j 27 h::L) w) aI aI
  ·exact aI
theorem aEE {a:(List UInt8)} {c d:Int} {b:(List aJ)} {R:(aJ × Int × Int)} (hm:zV a c d b=some R) (e:aD G K (box b1 89 [zS a2 a.length c3,i64 c,Value.int .u64 d]::L) w) (g:aW K a2 c3 a) (h:aW K a5 c6 b):
  Calls Tryz.prog 90 ([zP (some ⟨b1,0,none⟩),zS a5 b.length c6]:List Value).toArray w (dS fun v w'=>v=str R.1/\aD G K (box b1 89 [zS a2 a.length c3,i64 R.2.1,Value.int .u64 R.2.2]::L) w'):=by
 exact aI
end Gv
namespace Gv
open Go.Value renaming slice→zS,pointer→zP,agg→zA
open Gv.Hp renaming le_refl→zR
open Go Go.Proofs Go.Proofs.Tryz
set_option maxRecDepth 20000
set_option maxHeartbeats 40000000
variable {G:Env} {K:Hp} {L:List iI} {w:World} {b1 c3 c6 c9 c5 c8:Nat} {a2 a5 a8 a4 a7:Option Addr}
theorem aIc {g:(List UInt8)} {y z:Int} {t:aS} {R:(aS × Int × Int)} (hm:aAM g y z t=some R) (hs:aD G K (box b1 89 [zS a2 g.length c3,i64 y,Value.int .u64 z]::L) w) (o:aW K a2 c3 g) (h7:aW K a5 c6 t.L) (f7:aW K a8 c9 t.E):
  Calls Tryz.prog 46 ([zP (some ⟨b1,0,none⟩),zA (zCa t a5 c6 a8 c9)]:List Value).toArray w (dS fun v w'=>∃ b0 b2 b3 b4,v=zA (zCa R.1 b0 b2 b3 b4)/\aD G K (aH 9 K b0 b2 R.1.L::aH 52 K b3 b4 R.1.E::box b1 89 [zS a2 g.length c3,i64 R.2.1,Value.int .u64 R.2.2]::L) w'):=by
 let m:=(zC t a5 c6 a8 c9)
 let j:=zG
 refine cM func46 ?_;unfold aAM at hm
 refine aF ?_;refine oE fun n m8 m9=>?_
 refine iN fun k n0 f8=>?_;refine aF ?_
 obtain ⟨n1,b5,f9,g0,g1⟩:=aD.lendBp f8 (.tail .head)
 obtain ⟨a,g2,hm⟩:=aB hm
 refine cC call44 (aCs g2 g0 f9 (h7.mono b5) (f7.mono b5)) ?_
 rintro _ n2 ⟨b,c,d,e,rfl,g3⟩
 have n3:=g1 _ _ g3
 refine iN fun l n4 n5=>?_;refine gM fun g4 n6=>?_
 refine aF ?_
 have g5:aD G K (box b1 89 [zS a2 g.length c3,i64 y,Value.int .u64 z]::box l 27 (zC a b c d e)::box n 27 m::aH 9 K b c a.L::aH 52 K d e a.E::box k 27 j::L) g4:=lY
 obtain ⟨n7,g6,hm⟩:=aB hm
 refine cC call39 (qZ g6 g5 o) ?_
 rintro _ n8 ⟨rfl,g7⟩
 refine aF ?_
 rcases aG hm with ⟨g8,hm⟩|⟨g8,hm⟩
 ·exact aI
 ·refine aF ?_;obtain ⟨p,g9,hm⟩:=aB hm
  refine cC call43 (bM g9 g7 o) ?_
  rintro _ n9 ⟨rfl,q⟩
  refine aF ?_;refine aK [4,5] (fun f w=>∃ b6 b7 J V b8 b9 c0 c1 c2 c4,fX b6 b7 J V b8 b9=some R/\aD G K (box b1 89 [zS a2 g.length c3,i64 b8,Value.int .u64 b9]::box l 27 [i64 b6,i64 b7,zS c0 J.length c1,zS c2 V.length c4]::aH 9 K c0 c1 J::aH 52 K c2 c4 V::box k 27 j::L) w) aI (aF ?_)
  rcases aG hm with ⟨h0,hm⟩|⟨h0,hm⟩
  ·refine aF ?_;refine lI ([0,(-1),41,40,wr (a.N - 1)]:List Int) fun o0 o1 h1=>?_
   obtain ⟨o2,o3,o4,o5,o6⟩:=aD.lendSp h1 (zR _) .head
   exact aI
  ·refine aF ?_
   rcases aG hm with ⟨h2,hm⟩|⟨h2,hm⟩
   ·refine aF ?_;refine lI ([(-1),a.N]:List Int) fun o7 o8 h3=>?_
    obtain ⟨o9,p0,p1,p2,p3⟩:=aD.lendSp h3 (zR _) .head
    exact aI
   ·refine aF ?_
    rcases aG hm with ⟨h5,hm⟩|⟨h5,hm⟩
    ·refine aF ?_;obtain ⟨p4,Z,hm⟩:=aB hm
     have h6:=bS q (i:=3) rfl Z
     refine aM (cS eM rfl h6 rfl rfl rfl Z) ?_;obtain ⟨a0,c5,hm⟩:=aB hm
     refine oO (i:=3) (t:=0) (ns:=[str ([97]:aJ)]) (e':=(([97]:aJ):aJ)) sizeOf9 q rfl (zR _) rfl rfl rfl Z c5 rfl rfl (nI rfl) rfl (fun cs h=>by cases h;rfl) (fun c7 (h8:aD G K (box b1 89 [zS a2 g.length c3,i64 p.2.1,Value.int .u64 p.2.2]::box l 27 (zC a b c d e)::box n 27 m::aH 9 K b c a0::aH 52 K d e a.E::box k 27 j::L) c7)=>?_)
     have p5:aD G K (box b1 89 [zS a2 g.length c3,i64 p.2.1,Value.int .u64 p.2.2]::box l 27 [i64 a.N,i64 a.I,zS b a0.length c,zS d a.E.length e]::box n 27 m::aH 9 K b c a0::aH 52 K d e a.E::box k 27 j::L) c7:=by rw [←(jM c5)];exact h8
     exact aI
    ·refine aF ?_
     rcases aG hm with ⟨h9,hm⟩|⟨h9,hm⟩
     ·refine aF ?_;obtain ⟨p6,c8,p7,p8,i0⟩:=aD.lendBp q (.tail .head)
      refine wI [(0,0),(1,0),(2,0),(3,1),(4,1),(5,1),(6,1),(7,0),(8,2)] fun p9 q0=>?_;refine aF ?_
      refine eQ rfl (lI ([([116,97,117]:aJ),([97]:aJ),([122,122]:aJ),([65]:aJ),([]:aJ)]:List aJ) fun q1 q2 d0=>?_);refine aL (aC ⟨⟨_,d0⟩,?_⟩)
      refine eQ rfl ?_;obtain ⟨q3,i1,i2,i3,i4⟩:=aD.lendSp d0 c8 .head
      obtain ⟨i5,i6,hm⟩:=aB hm
      refine cC call90 (aEE i6 i3 (o.mono (Hp.le_trans c8 i1)) i2) ?_
      rintro _ q4 ⟨rfl,i7⟩
      have i8:=i4 _ _ i7
      refine aL (aC ⟨⟨_,i8⟩,?_⟩)
      refine eQ rfl (lI ([i5.1]:List aJ) fun q5 q6 i9=>?_);refine aL (aC ⟨⟨_,i9⟩,?_⟩)
      refine eQ rfl ?_;obtain ⟨q7,q8,hm⟩:=aB hm
      refine aGF fun q9 r0 r1 d1=>?_;refine aL (aC ⟨⟨_,d1⟩,?_⟩)
      refine aF ?_
      have r2:=i0 _ _ d1
      exact aI
     ·refine aF ?_
      rcases aG hm with ⟨j0,hm⟩|⟨j0,hm⟩
      ·refine aF ?_
       rcases aG hm with ⟨j1,hm⟩|⟨j1,hm⟩
       ·refine aF ?_;obtain ⟨r3,j2,d2,j3,j4⟩:=aD.lendBp q (.tail .head)
        obtain ⟨r4,d3,d4,r5,j5⟩:=aD.lendSp j3 j2 (.tail (.tail (.tail .head)))
        refine wI [(0,3),(1,0),(2,3),(3,1),(4,1),(5,1),(6,1),(7,2),(8,3),(9,2)] fun r6 r=>?_;refine aF ?_
        refine cI rfl (fun _ ⟨_,r⟩=>bU (t:=3) sc_25 r (d2.mono d3) rfl rfl) (WE_t rfl (fun _=>dF (t':=3) aPk rfl rfl) (eQ rfl (aM (bU (t:=3) sc_25 r (d2.mono d3) rfl rfl) (aL (aC ⟨⟨_,r⟩,?_⟩)))))
        refine eQ rfl ?_;obtain ⟨d5,a1,hm⟩:=aB hm
        have j6:=aJU d4 a1
        refine aM (cS iY rfl j6 rfl rfl rfl a1) (aL (aC ⟨⟨_,r⟩,?_⟩))
        refine eQ rfl ?_;obtain ⟨r7,r8,j7⟩:=aW.el (sz:=3) rfl d4 a1
        cases j7
        iterate 1 refine cE ?_
        refine aL (aC ⟨⟨_,r⟩,?_⟩)
        refine eQ rfl (lI ([d5]:List Edge) fun j8 j9 d6=>?_);refine aL (aC ⟨⟨_,d6⟩,?_⟩)
        have k0:=j5 _ _ d6
        have r9:=j4 _ _ k0
        refine aFJ rfl ?_;obtain ⟨s0,s1,hm⟩:=aB hm
        have s2:aD G K (aH 52 K j8 1 ([d5]:List Edge)::box l 27 (zC a b c d e)::aH 52 K d e a.E::box b1 89 [zS a2 g.length c3,i64 p.2.1,Value.int .u64 p.2.2]::box n 27 m::aH 9 K b c a.L::box k 27 j::L) j9:=lY
        exact aI
       ·exact aI
      ·refine aF ?_
       rcases aG hm with ⟨k1,hm⟩|⟨k1,hm⟩
       ·refine aF ?_
        rcases aG hm with ⟨k2,hm⟩|⟨k2,hm⟩
        ·refine aF ?_;obtain ⟨k3,k4,hm⟩:=aB hm
         refine cC call43 (bM k4 q o) ?_
         rintro _ s3 ⟨rfl,k5⟩
         refine aF ?_;obtain ⟨s4,d7,s5,s6,k6⟩:=aD.lendBp k5 (.tail .head)
         refine wI [(0,0),(1,0),(2,0),(3,0),(4,1),(5,1),(6,1),(7,1),(8,1),(9,2),(10,2),(11,2)] fun s7 a3=>?_;refine aF ?_
         refine eQ rfl ?_
         iterate 1 refine cE ?_
         refine aL (aC ⟨⟨_,a3⟩,?_⟩)
         refine eQ rfl ?_
         iterate 1 refine cE ?_
         refine aL (aC ⟨⟨_,a3⟩,?_⟩)
         refine eQ rfl ?_
         iterate 1 refine cE ?_
         refine aL (aC ⟨⟨_,a3⟩,?_⟩)
         refine eQ rfl (lI ([(-1),(a.L.length:Int),0]:List Int) fun d8 s8 d9=>?_);refine aL (aC ⟨⟨_,d9⟩,?_⟩)
         refine eQ rfl ?_;obtain ⟨s9,k7,k8,k9,l0⟩:=aD.lendSp d9 d7 .head
         obtain ⟨u,l1,hm⟩:=aB hm
         refine cC call85 (rU l1 k9 (o.mono (Hp.le_trans d7 k7)) k8) ?_
         rintro _ t0 ⟨rfl,l2⟩
         have e0:=l0 _ _ l2
         refine aL (aC ⟨⟨_,e0⟩,?_⟩)
         have e1:=k6 _ _ e0
         refine aFJ rfl ?_;obtain ⟨e2,a4,hm⟩:=aB hm
         have e3:=bS e1 (i:=5) rfl a4
         refine aM (cS iY rfl e3 rfl rfl rfl a4) (aF ?_);refine aFJ rfl (aM (aPb (k':=k3.1.toNat * 3+1) aDv e3 rfl rfl) (aF ?_))
         refine aFJ rfl ?_;obtain ⟨a6,e4,hm⟩:=aB hm
         refine oO (i:=5) (t:=1) (ns:=[i64 u.1]) (e':=(⟨e2.F,u.1,e2.To⟩:Edge)) sizeOf2 e1 rfl (zR _) rfl rfl rfl a4 e4 rfl rfl (nI rfl) rfl (fun cs h=>by cases h;rfl) (fun e5 (l3:aD G K (box l 27 (zC a b c d e)::aH 2 K d8 3 ([(-1),(a.L.length:Int),0]:List Int)::box b1 89 [zS a2 g.length c3,i64 u.2.1,Value.int .u64 u.2.2]::box n 27 m::aH 9 K b c a.L::aH 52 K d e a6::box k 27 j::L) e5)=>?_)
         have t1:aD G K (box l 27 [i64 a.N,i64 a.I,zS b a.L.length c,zS d a6.length e]::aH 2 K d8 3 ([(-1),(a.L.length:Int),0]:List Int)::box b1 89 [zS a2 g.length c3,i64 u.2.1,Value.int .u64 u.2.2]::box n 27 m::aH 9 K b c a.L::aH 52 K d e a6::box k 27 j::L) e5:=by rw [←(jM e4)];exact l3
         exact aI
        ·exact aI
       ·refine aF ?_
        rcases aG hm with ⟨l4,hm⟩|⟨l4,hm⟩
        ·refine aF ?_
         rcases aG hm with ⟨l5,hm⟩|⟨l5,hm⟩
         ·refine aF ?_;obtain ⟨l6,l7,hm⟩:=aB hm
          refine cC call43 (bM l7 q o) ?_
          rintro _ t2 ⟨rfl,l8⟩
          refine aF ?_;obtain ⟨t3,e6,t4,t5,l9⟩:=aD.lendBp l8 (.tail .head)
          refine wI [(0,0),(1,0),(2,0),(3,0),(4,1),(5,1),(6,1),(7,1),(8,2),(9,2),(10,2)] fun t6 e7=>?_;refine aF ?_
          refine eQ rfl ?_
          iterate 1 refine cE ?_
          refine aL (aC ⟨⟨_,e7⟩,?_⟩)
          refine eQ rfl ?_
          iterate 1 refine cE ?_
          refine aL (aC ⟨⟨_,e7⟩,?_⟩)
          refine eQ rfl (lI ([(-1),a.N,0]:List Int) fun e8 t7 e9=>?_);refine aL (aC ⟨⟨_,e9⟩,?_⟩)
          refine eQ rfl ?_;obtain ⟨t8,m0,m1,m2,m3⟩:=aD.lendSp e9 e6 .head
          obtain ⟨x,m4,hm⟩:=aB hm
          refine cC call85 (rU m4 m2 (o.mono (Hp.le_trans e6 m0)) m1) ?_
          rintro _ t9 ⟨rfl,m5⟩
          have f0:=m3 _ _ m5
          refine aL (aC ⟨⟨_,f0⟩,?_⟩)
          have f1:=l9 _ _ f0
          refine aFJ rfl ?_;obtain ⟨f2,a7,hm⟩:=aB hm
          have f3:=bS f1 (i:=5) rfl a7
          refine aM (cS iY rfl f3 rfl rfl rfl a7) (aF ?_);refine aFJ rfl (aM (aPb (k':=l6.1.toNat * 3+2) aID f3 rfl rfl) (aF ?_))
          refine aFJ rfl ?_;obtain ⟨a9,f4,hm⟩:=aB hm
          refine oO (i:=5) (t:=2) (ns:=[i64 x.1]) (e':=(⟨f2.F,f2.B,x.1⟩:Edge)) sizeOf2 f1 rfl (zR _) rfl rfl rfl a7 f4 rfl rfl (nI rfl) rfl (fun cs h=>by cases h;rfl) (fun f5 (m6:aD G K (box l 27 (zC a b c d e)::aH 2 K e8 3 ([(-1),a.N,0]:List Int)::box b1 89 [zS a2 g.length c3,i64 x.2.1,Value.int .u64 x.2.2]::box n 27 m::aH 9 K b c a.L::aH 52 K d e a9::box k 27 j::L) f5)=>?_)
          have u0:aD G K (box l 27 [i64 a.N,i64 a.I,zS b a.L.length c,zS d a9.length e]::aH 2 K e8 3 ([(-1),a.N,0]:List Int)::box b1 89 [zS a2 g.length c3,i64 x.2.1,Value.int .u64 x.2.2]::box n 27 m::aH 9 K b c a.L::aH 52 K d e a9::box k 27 j::L) f5:=by rw [←(jM f4)];exact m6
          exact aI
         ·exact aI
        ·exact aI
theorem aId {a:(List UInt8)} {b c:Int} {R:(aS × Int × Int)} (hm:aIJ a b c=some R) (i:aD G K (box b1 89 [zS a2 a.length c3,i64 b,Value.int .u64 c]::L) w) (j:aW K a2 c3 a):
  Calls Tryz.prog 38 ([zP (some ⟨b1,0,none⟩)]:List Value).toArray w (dS fun v w'=>∃ d e g h,v=zA (zCa R.1 d e g h)/\aD G K (aH 9 K d e R.1.L::aH 52 K g h R.1.E::box b1 89 [zS a2 a.length c3,i64 R.2.1,Value.int .u64 R.2.2]::L) w'):=by
 exact aI
theorem aEF {a:(List UInt8)} {c d:Int} {R:(aS × Int × Int)} (hm:vA a c d=some R) (V:aD G K (box b1 89 [zS a2 a.length c3,i64 c,Value.int .u64 d]::L) w) (t:aW K a2 c3 a):
  Calls Tryz.prog 40 ([zP (some ⟨b1,0,none⟩)]:List Value).toArray w (dS fun v w'=>∃ i j k l,v=zA (zCa R.1 i j k l)/\aD G K (aH 9 K i j R.1.L::aH 52 K k l R.1.E::box b1 89 [zS a2 a.length c3,i64 R.2.1,Value.int .u64 R.2.2]::L) w'):=by
 let e:=zG
 refine cM func40 ?_;unfold vA at hm
 refine aF ?_;refine iN fun g u Z=>?_
 refine aF ?_
 have x:aD G K (box b1 89 [zS a2 a.length c3,i64 c,Value.int .u64 d]::box g 27 e::L) u:=lY
 obtain ⟨b,y,hm⟩:=aB hm
 refine cC call43 (bM y x t) ?_
 rintro _ a0 ⟨rfl,a1⟩
 refine aF ?_;refine lI ([([116,97,117]:aJ),([97]:aJ),([98]:aJ)]:List aJ) fun m a3 a4=>?_
 iterate 5 refine cE ?_
 refine aM (cK (vs:=[(1,i64 1)]) (cs:=[i64 0,i64 1,i64 0]) aJa rfl (by kernel_rfl)) (aM (cK (vs:=[(1,i64 2)]) (cs:=[i64 0,i64 2,i64 0]) aJa rfl (by kernel_rfl)) (aM (cK (vs:=[(1,i64 1),(2,i64 1)]) (cs:=[i64 0,i64 1,i64 1]) aJa rfl (by kernel_rfl)) (lI ([⟨0,1,0⟩,⟨0,2,0⟩,⟨0,1,1⟩]:List Edge) fun a5 a6 a7=>?_)));refine aF ?_
 refine aK [2,3,4] (fun f w=>∃ h n o,aCb b h=some R/\f 5=zS n h.length o/\aD G K (aH 52 K n o h::aH 9 K m 3 ([([116,97,117]:aJ),([97]:aJ),([98]:aJ)]:List aJ)::box b1 89 [zS a2 a.length c3,i64 b.2.1,Value.int .u64 b.2.2]::box g 27 e::L) w) aI ?_;obtain ⟨a8,z,ho⟩:=aB hm
 exact bV [2,3,4] z (fun p J f w=>∃ q r,f 5=zS q p.length r/\f 6=i64 J/\aD G K (aH 52 K q r p::aH 9 K m 3 ([([116,97,117]:aJ),([97]:aJ),([98]:aJ)]:List aJ)::box b1 89 [zS a2 a.length c3,i64 b.2.1,Value.int .u64 b.2.2]::box g 27 e::L) w) aI aI
theorem pC {a:(List UInt8)} {b c n:Int} {R:(Int × Int × Int)} (hm:jR a b c n=some R) (h:aD G K (aH 5 K a2 c3 a::box b1 89 [zS a2 a.length c3,i64 b,Value.int .u64 c]::L) w):
  Calls Tryz.prog 43 ([zP (some ⟨b1,0,none⟩),i64 n]:List Value).toArray w (dS fun v w'=>v=i64 R.1/\aD G K (aH 5 K a2 c3 a::box b1 89 [zS a2 a.length c3,i64 R.2.1,Value.int .u64 R.2.2]::L) w'):=by
 refine cM func43 ?_;unfold jR at hm
 refine aF ?_
 rcases aG hm with ⟨i,hm⟩|⟨i,hm⟩
 ·exact aI
 ·refine aF ?_;obtain ⟨k,j,hm⟩:=aB hm
  refine cC call89 (vN j h) ?_
  rintro _ l ⟨rfl,m⟩
  iterate 3 refine cE ?_
  exact mZ [1] (fun f w=>∃ d e g,yR n d e g=some R/\f 5=i64 d/\aD G K (aH 5 K a2 c3 a::box b1 89 [zS a2 a.length c3,i64 e,Value.int .u64 g]::L) w) aI aI
theorem aCM {a:(List UInt8)} {b c n:Int} {R:(Bool × Int × Int)} (hm:aHj a b c n=some R) (d:aD G K (aH 5 K a2 c3 a::box b1 89 [zS a2 a.length c3,i64 b,Value.int .u64 c]::L) w):
  Calls Tryz.prog 39 ([zP (some ⟨b1,0,none⟩),i64 n]:List Value).toArray w (dS fun v w'=>v=Value.bool R.1/\aD G K (aH 5 K a2 c3 a::box b1 89 [zS a2 a.length c3,i64 R.2.1,Value.int .u64 R.2.2]::L) w'):=by
 exact aI
theorem tW {a:(List UInt8)} {c d:Int} {b:(List Int)} {R:(Int × Int × Int)} (hm:pY a c d b=some R) (e:aD G K (aH 5 K a2 c3 a::box b1 89 [zS a2 a.length c3,i64 c,Value.int .u64 d]::L) w) (g:aW K a4 c5 b):
  Calls Tryz.prog 85 ([zP (some ⟨b1,0,none⟩),zS a4 b.length c5]:List Value).toArray w (dS fun v w'=>v=i64 R.1/\aD G K (aH 5 K a2 c3 a::box b1 89 [zS a2 a.length c3,i64 R.2.1,Value.int .u64 R.2.2]::L) w'):=by
 exact aI
theorem aBU {a:(List UInt8)} {c d:Int} {b:(List aJ)} {R:(aJ × Int × Int)} (hm:aGm a c d b=some R) (e:aD G K (aH 5 K a2 c3 a::box b1 89 [zS a2 a.length c3,i64 c,Value.int .u64 d]::L) w) (g:aW K a4 c5 b):
  Calls Tryz.prog 90 ([zP (some ⟨b1,0,none⟩),zS a4 b.length c5]:List Value).toArray w (dS fun v w'=>v=str R.1/\aD G K (aH 5 K a2 c3 a::box b1 89 [zS a2 a.length c3,i64 R.2.1,Value.int .u64 R.2.2]::L) w'):=by
 exact aI
theorem aKk {g:(List UInt8)} {y z:Int} {t:aS} {R:(aS × (List UInt8) × Int × Int)} (hm:aKg g y z t=some R) (hs:aD G K (aH 5 K a2 c3 g::box b1 89 [zS a2 g.length c3,i64 y,Value.int .u64 z]::L) w) (h6:aW K a4 c5 t.L) (h9:aW K a7 c8 t.E):
  Calls Tryz.prog 46 ([zP (some ⟨b1,0,none⟩),zA (zCa t a4 c5 a7 c8)]:List Value).toArray w (dS fun v w'=>∃ b0 b2 b3 b4 b5 b6,v=zA (zCa R.1 b0 b2 b3 b4)/\aD G K (aH 9 K b0 b2 R.1.L::aH 52 K b3 b4 R.1.E::aH 5 K b5 b6 R.2.1::box b1 89 [zS b5 R.2.1.length b6,i64 R.2.2.1,Value.int .u64 R.2.2.2]::L) w'):=by
 let n:=(zC t a4 c5 a7 c8)
 let j:=zG
 let k:=aH 5 K a2 c3 g
 refine cM func46 ?_;unfold aKg at hm
 refine aF ?_;refine oE fun o m7 m8=>?_
 refine iN fun l m9 f7=>?_;refine aF ?_
 obtain ⟨n0,b7,f8,f9,g0⟩:=aD.lendBp f7 (.tail .head)
 obtain ⟨a,g1,hm⟩:=aB hm
 refine cC call44 (aCs g1 f9 f8 (h6.mono b7) (h9.mono b7)) ?_
 rintro _ n1 ⟨b,c,d,e,rfl,g2⟩
 have n2:=g0 _ _ g2
 refine iN fun m n3 n4=>?_;refine gM fun g3 n5=>?_
 refine aF ?_
 have g4:aD G K (k::box b1 89 [zS a2 g.length c3,i64 y,Value.int .u64 z]::box m 27 (zC a b c d e)::box o 27 n::aH 9 K b c a.L::aH 52 K d e a.E::box l 27 j::L) g3:=lY
 obtain ⟨n6,g5,hm⟩:=aB hm
 refine cC call39 (aCM g5 g4) ?_
 rintro _ n7 ⟨rfl,g6⟩
 refine aF ?_
 rcases aG hm with ⟨g7,hm⟩|⟨g7,hm⟩
 ·exact aI
 ·refine aF ?_;obtain ⟨p,g8,hm⟩:=aB hm
  refine cC call43 (pC g8 g6) ?_
  rintro _ n8 ⟨rfl,q⟩
  refine aF ?_;refine aK [4,5] (fun f w=>∃ b8 b9 J V c0 c1 c2 c4 c6 c7,eK g b8 b9 J V c0 c1=some R/\aD G K (k::box b1 89 [zS a2 g.length c3,i64 c0,Value.int .u64 c1]::box m 27 [i64 b8,i64 b9,zS c2 J.length c4,zS c6 V.length c7]::aH 9 K c2 c4 J::aH 52 K c6 c7 V::box l 27 j::L) w) aI (aF ?_)
  rcases aG hm with ⟨g9,hm⟩|⟨g9,hm⟩
  ·refine aF ?_;refine lI ([0,(-1),41,40,wr (a.N - 1)]:List Int) fun n9 o0 h0=>?_
   obtain ⟨o1,o2,o3,o4,o5⟩:=aD.lendSp h0 (zR _) .head
   exact aI
  ·refine aF ?_
   rcases aG hm with ⟨h1,hm⟩|⟨h1,hm⟩
   ·refine aF ?_;refine lI ([(-1),a.N]:List Int) fun o6 o7 h2=>?_
    obtain ⟨o8,o9,p0,p1,p2⟩:=aD.lendSp h2 (zR _) .head
    exact aI
   ·refine aF ?_
    rcases aG hm with ⟨h3,hm⟩|⟨h3,hm⟩
    ·refine aF ?_;obtain ⟨p3,Z,hm⟩:=aB hm
     have h4:=bS q (i:=4) rfl Z
     refine aM (cS eM rfl h4 rfl rfl rfl Z) ?_;obtain ⟨a0,c9,hm⟩:=aB hm
     refine oO (i:=4) (t:=0) (ns:=[str ([97]:aJ)]) (e':=(([97]:aJ):aJ)) sizeOf9 q rfl (zR _) rfl rfl rfl Z c9 rfl rfl (nI rfl) rfl (fun cs h=>by cases h;rfl) (fun d0 (h5:aD G K (k::box b1 89 [zS a2 g.length c3,i64 p.2.1,Value.int .u64 p.2.2]::box m 27 (zC a b c d e)::box o 27 n::aH 9 K b c a0::aH 52 K d e a.E::box l 27 j::L) d0)=>?_)
     have p4:aD G K (k::box b1 89 [zS a2 g.length c3,i64 p.2.1,Value.int .u64 p.2.2]::box m 27 [i64 a.N,i64 a.I,zS b a0.length c,zS d a.E.length e]::box o 27 n::aH 9 K b c a0::aH 52 K d e a.E::box l 27 j::L) d0:=by rw [←(jM c9)];exact h5
     exact aI
    ·refine aF ?_
     rcases aG hm with ⟨h7,hm⟩|⟨h7,hm⟩
     ·refine aF ?_;obtain ⟨p5,h8,p6,p7,i0⟩:=aD.lendBp q (.tail (.tail .head))
      refine wI [(0,0),(1,0),(2,0),(3,1),(4,1),(5,1),(6,1),(7,0),(8,2)] fun p8 p9=>?_;refine aF ?_
      refine eQ rfl (lI ([([116,97,117]:aJ),([97]:aJ),([122,122]:aJ),([65]:aJ),([]:aJ)]:List aJ) fun q0 q1 d1=>?_);refine aL (aC ⟨⟨_,d1⟩,?_⟩)
      refine eQ rfl ?_;obtain ⟨q2,q3,i1,i2,i3⟩:=aD.lendSp d1 h8 .head
      obtain ⟨i4,i5,hm⟩:=aB hm
      refine cC call90 (aBU i5 i2 i1) ?_
      rintro _ q4 ⟨rfl,i6⟩
      have i7:=i3 _ _ i6
      refine aL (aC ⟨⟨_,i7⟩,?_⟩)
      refine eQ rfl (lI ([i4.1]:List aJ) fun q5 q6 i8=>?_);refine aL (aC ⟨⟨_,i8⟩,?_⟩)
      refine eQ rfl ?_;obtain ⟨q7,q8,hm⟩:=aB hm
      refine aGF fun q9 r0 r1 d2=>?_;refine aL (aC ⟨⟨_,d2⟩,?_⟩)
      refine aF ?_
      have r2:=i0 _ _ d2
      exact aI
     ·refine aF ?_
      rcases aG hm with ⟨i9,hm⟩|⟨i9,hm⟩
      ·refine aF ?_
       rcases aG hm with ⟨j0,hm⟩|⟨j0,hm⟩
       ·refine aF ?_;obtain ⟨r3,j1,d3,j2,j3⟩:=aD.lendBp q (.tail (.tail .head))
        obtain ⟨r4,d4,d5,r5,j4⟩:=aD.lendSp j2 j1 (.tail (.tail (.tail (.tail .head))))
        refine wI [(0,3),(1,0),(2,3),(3,1),(4,1),(5,1),(6,1),(7,2),(8,3),(9,2)] fun r6 r=>?_;refine aF ?_
        refine cI rfl (fun _ ⟨_,r⟩=>bU (t:=3) sc_25 r (d3.mono d4) rfl rfl) (WE_t rfl (fun _=>dF (t':=3) aPk rfl rfl) (eQ rfl (aM (bU (t:=3) sc_25 r (d3.mono d4) rfl rfl) (aL (aC ⟨⟨_,r⟩,?_⟩)))))
        refine eQ rfl ?_;obtain ⟨d6,a1,hm⟩:=aB hm
        have j5:=aJU d5 a1
        refine aM (cS iY rfl j5 rfl rfl rfl a1) (aL (aC ⟨⟨_,r⟩,?_⟩))
        refine eQ rfl ?_;obtain ⟨r7,r8,j6⟩:=aW.el (sz:=3) rfl d5 a1
        cases j6
        iterate 1 refine cE ?_
        refine aL (aC ⟨⟨_,r⟩,?_⟩)
        refine eQ rfl (lI ([d6]:List Edge) fun j7 j8 d7=>?_);refine aL (aC ⟨⟨_,d7⟩,?_⟩)
        have j9:=j4 _ _ d7
        have r9:=j3 _ _ j9
        refine aFJ rfl ?_;obtain ⟨s0,s1,hm⟩:=aB hm
        have s2:aD G K (aH 52 K j7 1 ([d6]:List Edge)::box m 27 (zC a b c d e)::aH 52 K d e a.E::k::box b1 89 [zS a2 g.length c3,i64 p.2.1,Value.int .u64 p.2.2]::box o 27 n::aH 9 K b c a.L::box l 27 j::L) j8:=lY
        exact aI
       ·exact aI
      ·refine aF ?_
       rcases aG hm with ⟨k0,hm⟩|⟨k0,hm⟩
       ·refine aF ?_
        rcases aG hm with ⟨k1,hm⟩|⟨k1,hm⟩
        ·refine aF ?_;obtain ⟨k2,k3,hm⟩:=aB hm
         refine cC call43 (pC k3 q) ?_
         rintro _ s3 ⟨rfl,k4⟩
         refine aF ?_;obtain ⟨s4,k5,s5,s6,k6⟩:=aD.lendBp k4 (.tail (.tail .head))
         refine wI [(0,0),(1,0),(2,0),(3,0),(4,1),(5,1),(6,1),(7,1),(8,1),(9,2),(10,2),(11,2)] fun s7 a3=>?_;refine aF ?_
         refine eQ rfl ?_
         iterate 1 refine cE ?_
         refine aL (aC ⟨⟨_,a3⟩,?_⟩)
         refine eQ rfl ?_
         iterate 1 refine cE ?_
         refine aL (aC ⟨⟨_,a3⟩,?_⟩)
         refine eQ rfl ?_
         iterate 1 refine cE ?_
         refine aL (aC ⟨⟨_,a3⟩,?_⟩)
         refine eQ rfl (lI ([(-1),(a.L.length:Int),0]:List Int) fun d8 s8 d9=>?_);refine aL (aC ⟨⟨_,d9⟩,?_⟩)
         refine eQ rfl ?_;obtain ⟨s9,t0,k7,k8,k9⟩:=aD.lendSp d9 k5 .head
         obtain ⟨u,l0,hm⟩:=aB hm
         refine cC call85 (tW l0 k8 k7) ?_
         rintro _ t1 ⟨rfl,l1⟩
         have e0:=k9 _ _ l1
         refine aL (aC ⟨⟨_,e0⟩,?_⟩)
         have e1:=k6 _ _ e0
         refine aFJ rfl ?_;obtain ⟨e2,a5,hm⟩:=aB hm
         have e3:=bS e1 (i:=6) rfl a5
         refine aM (cS iY rfl e3 rfl rfl rfl a5) (aF ?_);refine aFJ rfl (aM (aPb (k':=k2.1.toNat * 3+1) aDv e3 rfl rfl) (aF ?_))
         refine aFJ rfl ?_;obtain ⟨a6,e4,hm⟩:=aB hm
         refine oO (i:=6) (t:=1) (ns:=[i64 u.1]) (e':=(⟨e2.F,u.1,e2.To⟩:Edge)) sizeOf2 e1 rfl (zR _) rfl rfl rfl a5 e4 rfl rfl (nI rfl) rfl (fun cs h=>by cases h;rfl) (fun e5 (l2:aD G K (box m 27 (zC a b c d e)::aH 2 K d8 3 ([(-1),(a.L.length:Int),0]:List Int)::k::box b1 89 [zS a2 g.length c3,i64 u.2.1,Value.int .u64 u.2.2]::box o 27 n::aH 9 K b c a.L::aH 52 K d e a6::box l 27 j::L) e5)=>?_)
         have t2:aD G K (box m 27 [i64 a.N,i64 a.I,zS b a.L.length c,zS d a6.length e]::aH 2 K d8 3 ([(-1),(a.L.length:Int),0]:List Int)::k::box b1 89 [zS a2 g.length c3,i64 u.2.1,Value.int .u64 u.2.2]::box o 27 n::aH 9 K b c a.L::aH 52 K d e a6::box l 27 j::L) e5:=by rw [←(jM e4)];exact l2
         exact aI
        ·exact aI
       ·refine aF ?_
        rcases aG hm with ⟨l3,hm⟩|⟨l3,hm⟩
        ·refine aF ?_
         rcases aG hm with ⟨l4,hm⟩|⟨l4,hm⟩
         ·refine aF ?_;obtain ⟨l5,l6,hm⟩:=aB hm
          refine cC call43 (pC l6 q) ?_
          rintro _ t3 ⟨rfl,l7⟩
          refine aF ?_;obtain ⟨t4,l8,t5,t6,l9⟩:=aD.lendBp l7 (.tail (.tail .head))
          refine wI [(0,0),(1,0),(2,0),(3,0),(4,1),(5,1),(6,1),(7,1),(8,2),(9,2),(10,2)] fun t7 e6=>?_;refine aF ?_
          refine eQ rfl ?_
          iterate 1 refine cE ?_
          refine aL (aC ⟨⟨_,e6⟩,?_⟩)
          refine eQ rfl ?_
          iterate 1 refine cE ?_
          refine aL (aC ⟨⟨_,e6⟩,?_⟩)
          refine eQ rfl (lI ([(-1),a.N,0]:List Int) fun e7 t8 e8=>?_);refine aL (aC ⟨⟨_,e8⟩,?_⟩)
          refine eQ rfl ?_;obtain ⟨t9,u0,m0,m1,m2⟩:=aD.lendSp e8 l8 .head
          obtain ⟨x,m3,hm⟩:=aB hm
          refine cC call85 (tW m3 m1 m0) ?_
          rintro _ u1 ⟨rfl,m4⟩
          have e9:=m2 _ _ m4
          refine aL (aC ⟨⟨_,e9⟩,?_⟩)
          have f0:=l9 _ _ e9
          refine aFJ rfl ?_;obtain ⟨f1,a8,hm⟩:=aB hm
          have f2:=bS f0 (i:=6) rfl a8
          refine aM (cS iY rfl f2 rfl rfl rfl a8) (aF ?_);refine aFJ rfl (aM (aPb (k':=l5.1.toNat * 3+2) aID f2 rfl rfl) (aF ?_))
          refine aFJ rfl ?_;obtain ⟨a9,f3,hm⟩:=aB hm
          refine oO (i:=6) (t:=2) (ns:=[i64 x.1]) (e':=(⟨f1.F,f1.B,x.1⟩:Edge)) sizeOf2 f0 rfl (zR _) rfl rfl rfl a8 f3 rfl rfl (nI rfl) rfl (fun cs h=>by cases h;rfl) (fun f4 (m5:aD G K (box m 27 (zC a b c d e)::aH 2 K e7 3 ([(-1),a.N,0]:List Int)::k::box b1 89 [zS a2 g.length c3,i64 x.2.1,Value.int .u64 x.2.2]::box o 27 n::aH 9 K b c a.L::aH 52 K d e a9::box l 27 j::L) f4)=>?_)
          have u2:aD G K (box m 27 [i64 a.N,i64 a.I,zS b a.L.length c,zS d a9.length e]::aH 2 K e7 3 ([(-1),a.N,0]:List Int)::k::box b1 89 [zS a2 g.length c3,i64 x.2.1,Value.int .u64 x.2.2]::box o 27 n::aH 9 K b c a.L::aH 52 K d e a9::box l 27 j::L) f4:=by rw [←(jM f3)];exact m5
          exact aI
         ·exact aI
        ·exact aI
end Gv
