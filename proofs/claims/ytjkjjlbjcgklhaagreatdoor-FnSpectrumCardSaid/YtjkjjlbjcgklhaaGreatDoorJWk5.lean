/- Walks, printed by program. -/
import Derived.Test.YtjkjjlbjcgklhaaGreatDoorJWk3
import Derived.Test.YtjkjjlbjcgklhaaGreatDoorJWk1
set_option linter.all false
namespace Gv
open Go.Value renaming slice→zS,bool→zB
open Option.some renaming inj→zI
open Gv.Hp renaming le_trans→zL,le_refl→zR
open Go Go.Proofs Go.Proofs.Tryz
set_option maxRecDepth 20000
set_option maxHeartbeats 40000000
variable {G:Env} {K:Hp} {L:List iD} {w:World} {a1 a4 a7 a10:Option Addr} {c5 c8 c11 c2:Nat}
theorem aIJ {t:aO} {k2:Nat} {j:(List Bool)} {a2 a3:Int} {R:(List Bool)} (hm:aGJ t j a2 a3=some R) (hs:aD G K (L) w) (h3:cK K a1 k2 (zC t a4 c5 a7 c8)) (h6:aT K a4 c5 t.L) (h9:aT K a7 c8 t.E) (a5:aT K a10 c11 j):
  Calls prog 128 ([cU a1 k2,zS a10 j.length c11,i64 a2,i64 a3]:List Value).toArray w (dO fun v w'=>∃ a6 a8,v=zS a6 R.length a8/\aD G K (aH 4 K a6 a8 R::L) w'):=by
 refine cA func128 ?_;unfold aGJ at hm
 refine aC ?_;obtain ⟨a,b8,hm⟩:=aB hm
 refine aFB (e:=(false:Bool)) gP ez_4 rfl rfl hs rfl rfl rfl b8 rfl (fun b b9 (f3:aD G K (aH 4 K b a.length a::L) b9)=>(aC ?_))
 rcases aG hm with ⟨c0,hm⟩|⟨c0,hm⟩
 ·refine aC ?_;refine aJ [] (fun f w=>∃ o,aLc o=some R/\f 10=zS b o.length a.length/\aD G K (aH 4 K b a.length o::L) w) aI ?_
  obtain ⟨f4,c1,ho⟩:=aB hm
  refine aY [1,2,9] c1 (fun p a9 f w=>f 10=zS b p.length a.length/\f 11=i64 a9/\aD G K (aH 4 K b a.length p::L) w) aI ?_
  ·rintro p a9 f5 f f6 hm hr ⟨c2,f7,b0⟩
   unfold tX at hm
   refine aC ?_
   rcases aG hm with ⟨c3,hm⟩|⟨c3,hm⟩
   ·refine aC ?_;refine bT (aC ?_)
    obtain ⟨b1,c4,hm⟩:=aB hm
    refine aC ?_;obtain ⟨f8,f9,c6⟩:=aT.el (sz:=1) rfl a5 c4
    cases c6
    refine aC ?_;obtain ⟨g0,q,hm⟩:=aB hm
    have c7:=bY b0 (i:=0) rfl q
    refine aK (cR gP rfl c7 rfl rfl rfl q) ?_;obtain ⟨c9,b2,hm⟩:=aB hm
    refine lU (i:=0) (t:=0) (ns:=[zB b1]) (e':=(b1:Bool)) sizeOf4 b0 rfl (zR _) rfl rfl rfl q b2 rfl rfl (oR rfl) rfl (fun cs h=>by cases h;rfl) (fun d0 (d1:aD G K (aH 4 K b a.length c9::L) d0)=>(aC ?_));exact ⟨_,(zI hm).symm,aU,(Eq.trans c2 (congrArg (fun n=>zS b n a.length) (gX b2))),rfl,d1⟩
   ·exact aI
 ·refine aC ?_;refine aJ [] (fun f w=>∃ r,aLd r=some R/\f 10=zS b r.length a.length/\aD G K (aH 4 K b a.length r::L) w) aI ?_
  obtain ⟨g1,d2,ho⟩:=aB hm
  refine aY [0,1,2,3,9] d2 (fun d g f w=>f 10=zS b d.length a.length/\f 12=i64 g/\aD G K (aH 4 K b a.length d::L) w) aI ?_
  ·rintro d g u f g2 hm hr ⟨g3,g4,g5⟩
   unfold tZ at hm
   refine aC ?_
   rcases aG hm with ⟨d3,hm⟩|⟨d3,hm⟩
   ·refine aC ?_;refine aJ [0,1,2,3,9,12] (fun f w=>∃ k,xX g k=some u/\f 10=zS b k.length a.length/\aD G K (aH 4 K b a.length k::L) w) ?_ ?_
    ·rintro f g6 ⟨k,hm,d4,d5⟩
     unfold xX at hm
     refine aC ?_;exact ⟨_,(zI hm).symm,aU,d4,rfl,d5⟩
    refine aC ?_;obtain ⟨c,d6,hm⟩:=aB hm
    refine aC ?_;obtain ⟨g7,g8,d7⟩:=aT.el (sz:=3) rfl h9 d6
    cases d7
    refine aC ?_;refine jH fun l g9 h0=>?_
    refine kM fun h1 h2=>?_
    iterate 4 refine eU ?_
    refine bG [0,1,2,3,9,10,12,13] (fun f w=>∃ x,xY t j d g c x=some u/\f 71=zB x/\aD G K (box l 61 [i64 c.F,i64 c.B,i64 c.To]::aH 4 K b a.length d::L) w) ?_ ?_
    ·rintro f h4 ⟨x,hm,h5,h7⟩
     unfold xY at hm
     refine aC ?_
     rcases aG hm with ⟨d8,hm⟩|⟨d8,hm⟩
     ·exact aI
     ·refine aC ?_;refine aJ [0,1,2,3,9,12] (fun f w=>∃ y,aHu g y=some u/\f 10=zS b y.length a.length/\aD G K (aH 4 K b a.length y::L) w) aI ?_
      obtain ⟨h8,d9,ho⟩:=aB hm
      refine aY [0,1,2,3,9,12,13] d9 (fun z V f w=>f 10=zS b z.length a.length/\f 14=i64 V/\aD G K (box l 61 [i64 c.F,i64 c.B,i64 c.To]::aH 4 K b a.length z::L) w) aI ?_
      ·rintro z V e0 f i0 hm hr ⟨e1,i1,b3⟩
       unfold tY at hm
       refine aC ?_
       rcases aG hm with ⟨e2,hm⟩|⟨e2,hm⟩
       ·refine aC ?_;refine aJ [0,1,2,3,9,12,13,14] (fun f w=>∃ m,aBM V m=some e0/\f 10=zS b m.length a.length/\aD G K (box l 61 [i64 c.F,i64 c.B,i64 c.To]::aH 4 K b a.length m::L) w) ?_ ?_
        ·rintro f i2 ⟨m,hm,e3,e4⟩
         unfold aBM at hm
         refine aC ?_;exact ⟨_,(zI hm).symm,aU,e3,rfl,e4⟩
        refine aC ?_;obtain ⟨i3,e5,hm⟩:=aB hm
        refine aC ?_;obtain ⟨i4,i5,e6⟩:=aT.el (sz:=1) rfl a5 e5
        cases e6
        refine aC ?_
        rcases aG hm with ⟨e7,hm⟩|⟨e7,hm⟩
        ·refine aC ?_;obtain ⟨i6,Z,hm⟩:=aB hm
         have e8:=bY b3 (i:=1) rfl Z
         refine aK (cR gP rfl e8 rfl rfl rfl Z) ?_;obtain ⟨b4,b5,hm⟩:=aB hm
         refine lU (i:=1) (t:=0) (ns:=[zB true]) (e':=(true:Bool)) sizeOf4 b3 rfl (zR _) rfl rfl rfl Z b5 rfl rfl (oR rfl) rfl (fun cs h=>by cases h;rfl) (fun e9 (f0:aD G K (box l 61 [i64 c.F,i64 c.B,i64 c.To]::aH 4 K b a.length b4::L) e9)=>(aC ?_));exact ⟨aU,b4,hm,(Eq.trans e1 (congrArg (fun n=>zS b n a.length) (gX b5))),f0⟩
        ·exact aI
       ·exact aI
    exact aI
   ·exact aI
theorem aFj {t:aO} {m:Nat} {R:aO} (hm:aAb t=some R) (hs:aD G K (L) w) (l:cK K a1 m (zC t a4 c5 a7 c8)) (r:aT K a4 c5 t.L) (h9:aT K a7 c8 t.E):
  Calls prog 80 ([cU a1 m]:List Value).toArray w (dO fun v w'=>∃ j9 k0 k1 k3,v=Value.agg (zCa R j9 k0 k1 k3)/\aD G K (aH 9 K j9 k0 R.L::aH 61 K k1 k3 R.E::L) w'):=by
 let a:=zG
 refine kR func80 rfl (by kernel_rfl) (by show (1:Nat)<=71;decide) ?_;unfold aAb at hm
 refine bL (gQ (vs:=a) zeroValue27 hs rfl (fun b u8 n6=>(bA (bM (bG [0,2] (fun f w=>∃ d u e g f5 f6,vZ t d=some R/\f 3=Value.pointer (some ⟨u,0,none⟩)/\aD G K (aH 61 K f5 f6 ([]:List Edge)::aH 9 K e g d::box u 27 [i64 t.N,i64 t.I,zS e d.length g,zS f5 ([]:List Edge).length f6]::box b 27 a::L) w) ?_ ?_)))))
 ·rintro f u9 ⟨d,u,e,g,f5,f6,hm,v0,n7⟩
  unfold vZ at hm
  refine aF (bL (aR (v:=cU a1 m) ?_));obtain ⟨x,n8,hm⟩:=aB hm
  refine bJ (vs:=[cU a1 m]) call127 rfl (aHR n8 n7 l r h9) ?_
  rintro _ v1 ⟨y,z,rfl,v2⟩
  refine aV (v:=zS y x.length z) (bA (bM (bL (aV (v:=i64 0) (bA (aJ [2,3] (fun f w=>∃ f7 k4 k5,aGK t d f7=some R/\aD G K (aH 61 K k4 k5 f7::aH 9 K e g d::box u 27 [i64 t.N,i64 t.I,zS e d.length g,zS k4 f7.length k5]::box b 27 a::L) w) aI ?_))))));obtain ⟨v3,n9,ho⟩:=aB hm
  refine aY [0,2,3,4] n9 (fun f8 e1 f w=>∃ f9 c48,f 5=i64 e1/\aD G K (aH 4 K y z x::aH 61 K f9 c48 f8::aH 9 K e g d::box u 27 [i64 t.N,i64 t.I,zS e d.length g,zS f9 f8.length c48]::box b 27 a::L) w) aI ?_
  ·rintro f8 e1 k6 f v4 hm hr ⟨f9,c48,g0,o0⟩
   unfold mJ at hm
   refine bM (bL (fO g0 (aR (v:=cU a1 m) (aK (aKd rfl l) (aK (kT (k':=m+0) aHp rfl l rfl) (aK (cH (t:=0) jE o0 l rfl rfl) (aK (tK rfl rfl) (bA ?_))))))))
   rcases aG hm with ⟨k7,hm⟩|⟨k7,hm⟩
   ·refine bX k7 rfl (eJ (aF (bM (aJ [0,2,3,4,5] (fun f w=>∃ e4 e5 e6,xZ e1 e4=some k6/\aD G K (aH 61 K e5 e6 e4::aH 4 K y z x::aH 9 K e g d::box u 27 [i64 t.N,i64 t.I,zS e d.length g,zS e5 e4.length e6]::box b 27 a::L) w) ?_ ?_))))
    ·rintro f v5 ⟨e4,e5,e6,hm,o1⟩
     unfold xZ at hm
     exact aF (cG (fO g0 (aK (tJ rfl rfl) (aV (v:=i64 (wr (e1+1))) (bA ⟨_,(zI hm).symm,aU,e5,e6,rfl,(aD.arr 2 [1,0] o1 rfl)⟩)))))
    refine bL (aV (v:=i64 0) (bA (aJ [0,2,3,4,5] (fun f w=>∃ g1 k8 k9,aCx e1 g1=some k6/\aD G K (aH 61 K k8 k9 g1::aH 4 K y z x::aH 9 K e g d::box u 27 [i64 t.N,i64 t.I,zS e d.length g,zS k8 g1.length k9]::box b 27 a::L) w) aI ?_)));obtain ⟨v6,o2,ho⟩:=aB hm
    refine aY [0,2,3,4,5] o2 (fun g2 e2 f w=>∃ g3 g4,f 6=i64 e2/\aD G K (aH 4 K y z x::aH 61 K g3 g4 g2::aH 9 K e g d::box u 27 [i64 t.N,i64 t.I,zS e d.length g,zS g3 g2.length g4]::box b 27 a::L) w) aI ?_
    ·rintro g2 e2 l0 f v7 hm hr ⟨g3,g4,g5,l1⟩
     unfold mI at hm
     refine bM (bL (fO g5 (aR (v:=cU a1 m) (aK (aKd rfl l) (aK (kT (k':=m+2) vW rfl l rfl) (aK (cH (t:=2) aBv l1 l rfl rfl) (aK (nW (len:=t.L.length) dG rfl) (aK (tK rfl rfl) (bA ?_)))))))))
     rcases aG hm with ⟨l2,hm⟩|⟨l2,hm⟩
     ·refine bX l2 rfl (eJ (aF (bM (aJ [0,2,3,4,5,6] (fun f w=>∃ e7 e8 e9,yA e2 e7=some l0/\aD G K (aH 61 K e8 e9 e7::aH 4 K y z x::aH 9 K e g d::box u 27 [i64 t.N,i64 t.I,zS e d.length g,zS e8 e7.length e9]::box b 27 a::L) w) ?_ ?_))))
      ·rintro f v8 ⟨e7,e8,e9,hm,o3⟩
       unfold yA at hm
       exact aF (cG (fO g5 (aK (tJ rfl rfl) (aV (v:=i64 (wr (e2+1))) (bA ⟨_,(zI hm).symm,aU,e8,e9,rfl,(aD.arr 2 [1,0] o3 rfl)⟩)))))
      refine bL (aR (v:=cU a1 m) (aR (v:=zS y x.length z) (fO g0 (fO g5 ?_))));obtain ⟨v9,g6,o4,o5,o6⟩:=aD.lendSp l1 (zR _) .head
      obtain ⟨g7,o7,hm⟩:=aB hm
      refine bJ (vs:=[cU a1 m,zS y x.length z,i64 e1,i64 e2]) call128 rfl (aIJ o7 o5 (l.mono g6) (r.mono g6) (h9.mono g6) o4) ?_
      rintro _ w0 ⟨g8,g9,rfl,o8⟩
      have w1:=o6 _ _ o8
      refine aV (v:=zS g8 g7.length g9) (bA (bL (aV (v:=i64 0) (bA (aJ [0,2,3,4,5,6] (fun f w=>∃ h0 l3 l4,aCy e2 h0=some l0/\aD G K (aH 61 K l3 l4 h0::aH 4 K y z x::aH 9 K e g d::box u 27 [i64 t.N,i64 t.I,zS e d.length g,zS l3 h0.length l4]::box b 27 a::L) w) aI ?_)))));obtain ⟨w2,o9,ho⟩:=aB hm
      refine aY [0,2,3,4,5,6,7] o9 (fun h1 f0 f w=>∃ h2 h4,f 8=i64 f0/\aD G K (aH 4 K y z x::aH 4 K g8 g9 g7::aH 61 K h2 h4 h1::aH 9 K e g d::box u 27 [i64 t.N,i64 t.I,zS e d.length g,zS h2 h1.length h4]::box b 27 a::L) w) aI ?_
      ·rintro h1 f0 p0 f w3 hm hr ⟨h2,h4,l5,p1⟩
       unfold mH at hm
       refine bM (bL (fO l5 (aR (v:=cU a1 m) (aK (aKd rfl l) (aK (kT (k':=m+0) aHp rfl l rfl) (aK (cH (t:=0) jE p1 l rfl rfl) (aK (tK rfl rfl) (bA ?_))))))))
       rcases aG hm with ⟨l6,hm⟩|⟨l6,hm⟩
       ·refine bX l6 rfl (eJ (aF (bM (aJ [0,2,3,4,5,6,7,8] (fun f w=>∃ f1 f2 f3,sT f0 f1=some p0/\aD G K (aH 61 K f2 f3 f1::aH 4 K y z x::aH 4 K g8 g9 g7::aH 9 K e g d::box u 27 [i64 t.N,i64 t.I,zS e d.length g,zS f2 f1.length f3]::box b 27 a::L) w) ?_ ?_))))
        ·rintro f w4 ⟨f1,f2,f3,hm,p2⟩
         unfold sT at hm
         exact aF (cG (fO l5 (aK (tJ rfl rfl) (aV (v:=i64 (wr (f0+1))) (bA ⟨_,(zI hm).symm,aU,f2,f3,rfl,(aD.arr 3 [1,2,0] p2 rfl)⟩)))))
        exact aI
       ·exact aI
     ·exact aI
   ·exact aI
 refine xM (C:=fun w'=>∃ L',aD G K L' w') [17] Tryz_mixed (by kernel_rfl) (fun w5 p3=>?_)
 have h:=aD.mono n6 p3
 refine gH (i:=0) rfl (by kernel_rfl) ⟨_,h⟩ (fun _ _=>bW (v:=cU a1 m) rfl) (gH (i:=1) rfl (by kernel_rfl) ⟨_,h⟩ (fun _ _=>aKd rfl l) (gH (i:=2) rfl (by kernel_rfl) ⟨_,h⟩ (fun _ _=>kT (k':=m+0) aHp rfl l rfl) (gH (i:=3) rfl (by kernel_rfl) ⟨_,h⟩ (fun _ ⟨_,h⟩=>cH (t:=0) jE h l rfl rfl) (gH (i:=4) rfl (by kernel_rfl) ⟨_,h⟩ (fun _ _=>bW (v:=cU a1 m) rfl) (gH (i:=5) rfl (by kernel_rfl) ⟨_,h⟩ (fun _ _=>aKd rfl l) (gH (i:=6) rfl (by kernel_rfl) ⟨_,h⟩ (fun _ _=>kT (k':=m+1) aHq rfl l rfl) (gH (i:=7) rfl (by kernel_rfl) ⟨_,h⟩ (fun _ ⟨_,h⟩=>cH (t:=1) jE h l rfl rfl) (gH (i:=9) rfl (by kernel_rfl) ⟨_,h⟩ (fun _ _=>bW (v:=cU a1 m) rfl) (gH (i:=10) rfl (by kernel_rfl) ⟨_,h⟩ (fun _ _=>aKd rfl l) (gH (i:=11) rfl (by kernel_rfl) ⟨_,h⟩ (fun _ _=>kT (k':=m+2) vW rfl l rfl) (gH (i:=12) rfl (by kernel_rfl) ⟨_,h⟩ (fun _ ⟨_,h⟩=>cH (t:=2) aBv h l rfl rfl) (WA_act3 (i:=8) (j:=14) (k:=16) (by kernel_rfl) rfl rfl rfl ?_ ?_ ?_))))))))))))
 ·refine cQ (Kt:=K) (xs:=([]:List aL)) (cs:=[]) (vs:=[]) dG zF rfl rfl h rfl (by kernel_rfl) rfl rfl rfl trivial (fun h5 p4 (f4:aD G K (aH 9 K h5 0 ([]:List aL)::box b 27 a::L) p4)=>(aM (aF ⟨fun _=>⟨_,f4⟩,?_⟩)))
  refine WA_act3 (i:=13) (j:=14) (k:=16) (by kernel_rfl) rfl rfl rfl ?_ ?_ ?_
  ·obtain ⟨n,p5,hm⟩:=aB hm
   refine tR (i:=0) dG underlying24 zF rfl rfl f4 rfl (zR _) r p5 rfl rfl rfl rfl (fun o p p6 (h7:aD G K (aH 9 K o p n::box b 27 a::L) p6)=>(aM (aF ⟨fun _=>⟨_,h7⟩,?_⟩)))
   refine nM (i:=14) (j:=16) (by kernel_rfl) rfl rfl ?_ ?_
   ·refine cQ (Kt:=K) (xs:=([]:List Edge)) (cs:=[]) (vs:=[]) lH aEE rfl rfl h7 rfl (by kernel_rfl) rfl rfl rfl trivial (fun b1 p7 (h8:aD G K (aH 61 K b1 0 ([]:List Edge)::aH 9 K o p n::box b 27 a::L) p7)=>(aM (aF ⟨fun _=>⟨_,h8⟩,?_⟩)))
    refine gH (i:=15) rfl (by kernel_rfl) ⟨_,h8⟩ (fun _ _=>dI (vs:=[(0,i64 t.N),(1,i64 t.I),(2,zS o n.length p),(3,zS b1 ([]:List Edge).length 0)]) (cs:=[i64 t.N,i64 t.I,zS o n.length p,zS b1 ([]:List Edge).length 0]) zH rfl (by kernel_rfl)) (aS (i:=16) (by kernel_rfl) rfl (gQ (vs:=a) zeroValue27 h8 rfl (fun p8 w6 l7=>(aM (aF ⟨fun _=>⟨_,l7⟩,?_⟩)))))
    refine aS (i:=17) (by kernel_rfl) rfl (nV (i:=0) (ns:=[i64 t.N,i64 t.I,zS o n.length p,zS b1 ([]:List Edge).length 0]) (us:=[i64 t.N,i64 t.I,zS o n.length p,zS b1 ([]:List Edge).length 0]) sizeOf27 l7 rfl rfl rfl rfl rfl (oR rfl) rfl rfl (fun p9 (w7:aD G K (box p8 27 [i64 t.N,i64 t.I,zS o n.length p,zS b1 ([]:List Edge).length 0]::aH 61 K b1 0 ([]:List Edge)::aH 9 K o p n::box b 27 a::L) p9)=>(aM (aF ⟨aGb rfl,?_⟩))))
    exact fG (by kernel_rfl) aI
   ·refine gQ (vs:=a) zeroValue27 h7 rfl (fun l8 w8 l9=>(aM (aF ⟨fun _=>⟨_,l9⟩,?_⟩)))
    refine aS (i:=14) (by kernel_rfl) rfl (cQ (Kt:=K) (xs:=([]:List Edge)) (cs:=[]) (vs:=[]) lH aEE rfl rfl l9 rfl (by kernel_rfl) rfl rfl rfl trivial (fun b2 q0 (i0:aD G K (aH 61 K b2 0 ([]:List Edge)::box l8 27 a::aH 9 K o p n::box b 27 a::L) q0)=>(aM (aF ⟨fun _=>⟨_,i0⟩,?_⟩))))
    refine gH (i:=15) rfl (by kernel_rfl) ⟨_,i0⟩ (fun _ _=>dI (vs:=[(0,i64 t.N),(1,i64 t.I),(2,zS o n.length p),(3,zS b2 ([]:List Edge).length 0)]) (cs:=[i64 t.N,i64 t.I,zS o n.length p,zS b2 ([]:List Edge).length 0]) zH rfl (by kernel_rfl)) (aS (i:=17) (by kernel_rfl) rfl (nV (i:=1) (ns:=[i64 t.N,i64 t.I,zS o n.length p,zS b2 ([]:List Edge).length 0]) (us:=[i64 t.N,i64 t.I,zS o n.length p,zS b2 ([]:List Edge).length 0]) sizeOf27 i0 rfl rfl rfl rfl rfl (oR rfl) rfl rfl (fun q1 (w9:aD G K (aH 61 K b2 0 ([]:List Edge)::box l8 27 [i64 t.N,i64 t.I,zS o n.length p,zS b2 ([]:List Edge).length 0]::aH 9 K o p n::box b 27 a::L) q1)=>(aM (aF ⟨aGb rfl,?_⟩)))))
    exact fG (by kernel_rfl) aI
  ·refine cQ (Kt:=K) (xs:=([]:List Edge)) (cs:=[]) (vs:=[]) lH aEE rfl rfl f4 rfl (by kernel_rfl) rfl rfl rfl trivial (fun q q2 (i1:aD G K (aH 61 K q 0 ([]:List Edge)::aH 9 K h5 0 ([]:List aL)::box b 27 a::L) q2)=>(aM (aF ⟨fun _=>⟨_,i1⟩,?_⟩)))
   refine nM (i:=13) (j:=16) (by kernel_rfl) rfl rfl ?_ ?_
   ·obtain ⟨b3,q3,hm⟩:=aB hm
    refine tR (i:=1) dG underlying24 zF rfl rfl i1 rfl (zR _) r q3 rfl rfl rfl rfl (fun b4 b5 q4 (i2:aD G K (aH 61 K q 0 ([]:List Edge)::aH 9 K b4 b5 b3::box b 27 a::L) q4)=>(aM (aF ⟨fun _=>⟨_,i2⟩,?_⟩)))
    refine gH (i:=15) rfl (by kernel_rfl) ⟨_,i2⟩ (fun _ _=>dI (vs:=[(0,i64 t.N),(1,i64 t.I),(2,zS b4 b3.length b5),(3,zS q ([]:List Edge).length 0)]) (cs:=[i64 t.N,i64 t.I,zS b4 b3.length b5,zS q ([]:List Edge).length 0]) zH rfl (by kernel_rfl)) (aS (i:=16) (by kernel_rfl) rfl (gQ (vs:=a) zeroValue27 i2 rfl (fun q5 x0 m0=>(aM (aF ⟨fun _=>⟨_,m0⟩,?_⟩)))))
    refine aS (i:=17) (by kernel_rfl) rfl (nV (i:=0) (ns:=[i64 t.N,i64 t.I,zS b4 b3.length b5,zS q ([]:List Edge).length 0]) (us:=[i64 t.N,i64 t.I,zS b4 b3.length b5,zS q ([]:List Edge).length 0]) sizeOf27 m0 rfl rfl rfl rfl rfl (oR rfl) rfl rfl (fun q6 (x1:aD G K (box q5 27 [i64 t.N,i64 t.I,zS b4 b3.length b5,zS q ([]:List Edge).length 0]::aH 61 K q 0 ([]:List Edge)::aH 9 K b4 b5 b3::box b 27 a::L) q6)=>(aM (aF ⟨aGb rfl,?_⟩))))
    exact fG (by kernel_rfl) aI
   ·refine gQ (vs:=a) zeroValue27 i1 rfl (fun m1 x2 m2=>(aM (aF ⟨fun _=>⟨_,m2⟩,?_⟩)))
    refine aS (i:=13) (by kernel_rfl) rfl ?_;obtain ⟨b6,q7,hm⟩:=aB hm
    refine tR (i:=2) dG underlying24 zF rfl rfl m2 rfl (zR _) r q7 rfl rfl rfl rfl (fun b7 b8 q8 (i3:aD G K (box m1 27 a::aH 61 K q 0 ([]:List Edge)::aH 9 K b7 b8 b6::box b 27 a::L) q8)=>(aM (aF ⟨fun _=>⟨_,i3⟩,?_⟩)))
    refine gH (i:=15) rfl (by kernel_rfl) ⟨_,i3⟩ (fun _ _=>dI (vs:=[(0,i64 t.N),(1,i64 t.I),(2,zS b7 b6.length b8),(3,zS q ([]:List Edge).length 0)]) (cs:=[i64 t.N,i64 t.I,zS b7 b6.length b8,zS q ([]:List Edge).length 0]) zH rfl (by kernel_rfl)) (aS (i:=17) (by kernel_rfl) rfl (nV (i:=0) (ns:=[i64 t.N,i64 t.I,zS b7 b6.length b8,zS q ([]:List Edge).length 0]) (us:=[i64 t.N,i64 t.I,zS b7 b6.length b8,zS q ([]:List Edge).length 0]) sizeOf27 i3 rfl rfl rfl rfl rfl (oR rfl) rfl rfl (fun q9 (x3:aD G K (box m1 27 [i64 t.N,i64 t.I,zS b7 b6.length b8,zS q ([]:List Edge).length 0]::aH 61 K q 0 ([]:List Edge)::aH 9 K b7 b8 b6::box b 27 a::L) q9)=>(aM (aF ⟨aGb rfl,?_⟩)))))
    exact fG (by kernel_rfl) aI
  ·refine gQ (vs:=a) zeroValue27 f4 rfl (fun e3 x4 i4=>(aM (aF ⟨fun _=>⟨_,i4⟩,?_⟩)))
   refine nM (i:=13) (j:=14) (by kernel_rfl) rfl rfl ?_ ?_
   ·obtain ⟨a0,r0,hm⟩:=aB hm
    refine tR (i:=1) dG underlying24 zF rfl rfl i4 rfl (zR _) r r0 rfl rfl rfl rfl (fun a2 a3 r1 (m3:aD G K (box e3 27 a::aH 9 K a2 a3 a0::box b 27 a::L) r1)=>(aM (aF ⟨fun _=>⟨_,m3⟩,?_⟩)))
    refine aS (i:=14) (by kernel_rfl) rfl (cQ (Kt:=K) (xs:=([]:List Edge)) (cs:=[]) (vs:=[]) lH aEE rfl rfl m3 rfl (by kernel_rfl) rfl rfl rfl trivial (fun b9 r2 (i5:aD G K (aH 61 K b9 0 ([]:List Edge)::box e3 27 a::aH 9 K a2 a3 a0::box b 27 a::L) r2)=>(aM (aF ⟨fun _=>⟨_,i5⟩,?_⟩))))
    refine gH (i:=15) rfl (by kernel_rfl) ⟨_,i5⟩ (fun _ _=>dI (vs:=[(0,i64 t.N),(1,i64 t.I),(2,zS a2 a0.length a3),(3,zS b9 ([]:List Edge).length 0)]) (cs:=[i64 t.N,i64 t.I,zS a2 a0.length a3,zS b9 ([]:List Edge).length 0]) zH rfl (by kernel_rfl)) (aS (i:=17) (by kernel_rfl) rfl (nV (i:=1) (ns:=[i64 t.N,i64 t.I,zS a2 a0.length a3,zS b9 ([]:List Edge).length 0]) (us:=[i64 t.N,i64 t.I,zS a2 a0.length a3,zS b9 ([]:List Edge).length 0]) sizeOf27 i5 rfl rfl rfl rfl rfl (oR rfl) rfl rfl (fun r3 (x5:aD G K (aH 61 K b9 0 ([]:List Edge)::box e3 27 [i64 t.N,i64 t.I,zS a2 a0.length a3,zS b9 ([]:List Edge).length 0]::aH 9 K a2 a3 a0::box b 27 a::L) r3)=>(aM (aF ⟨aGb rfl,?_⟩)))))
    exact fG (by kernel_rfl) aI
   ·refine cQ (Kt:=K) (xs:=([]:List Edge)) (cs:=[]) (vs:=[]) lH aEE rfl rfl i4 rfl (by kernel_rfl) rfl rfl rfl trivial (fun a5 r4 (m4:aD G K (aH 61 K a5 0 ([]:List Edge)::box e3 27 a::aH 9 K h5 0 ([]:List aL)::box b 27 a::L) r4)=>(aM (aF ⟨fun _=>⟨_,m4⟩,?_⟩)))
    refine aS (i:=13) (by kernel_rfl) rfl ?_;obtain ⟨c0,r5,hm⟩:=aB hm
    refine tR (i:=2) dG underlying24 zF rfl rfl m4 rfl (zR _) r r5 rfl rfl rfl rfl (fun c1 c2 r6 (i6:aD G K (aH 61 K a5 0 ([]:List Edge)::box e3 27 a::aH 9 K c1 c2 c0::box b 27 a::L) r6)=>(aM (aF ⟨fun _=>⟨_,i6⟩,?_⟩)))
    refine gH (i:=15) rfl (by kernel_rfl) ⟨_,i6⟩ (fun _ _=>dI (vs:=[(0,i64 t.N),(1,i64 t.I),(2,zS c1 c0.length c2),(3,zS a5 ([]:List Edge).length 0)]) (cs:=[i64 t.N,i64 t.I,zS c1 c0.length c2,zS a5 ([]:List Edge).length 0]) zH rfl (by kernel_rfl)) (aS (i:=17) (by kernel_rfl) rfl (nV (i:=1) (ns:=[i64 t.N,i64 t.I,zS c1 c0.length c2,zS a5 ([]:List Edge).length 0]) (us:=[i64 t.N,i64 t.I,zS c1 c0.length c2,zS a5 ([]:List Edge).length 0]) sizeOf27 i6 rfl rfl rfl rfl rfl (oR rfl) rfl rfl (fun r7 (x6:aD G K (aH 61 K a5 0 ([]:List Edge)::box e3 27 [i64 t.N,i64 t.I,zS c1 c0.length c2,zS a5 ([]:List Edge).length 0]::aH 9 K c1 c2 c0::box b 27 a::L) r7)=>(aM (aF ⟨aGb rfl,?_⟩)))))
    exact fG (by kernel_rfl) aI
 ·refine cQ (Kt:=K) (xs:=([]:List Edge)) (cs:=[]) (vs:=[]) lH aEE rfl rfl h rfl (by kernel_rfl) rfl rfl rfl trivial (fun c r8 (i7:aD G K (aH 61 K c 0 ([]:List Edge)::box b 27 a::L) r8)=>(aM (aF ⟨fun _=>⟨_,i7⟩,?_⟩)))
  refine nM (i:=8) (j:=16) (by kernel_rfl) rfl rfl ?_ ?_
  ·refine cQ (Kt:=K) (xs:=([]:List aL)) (cs:=[]) (vs:=[]) dG zF rfl rfl i7 rfl (by kernel_rfl) rfl rfl rfl trivial (fun r9 s0 (i8:aD G K (aH 9 K r9 0 ([]:List aL)::aH 61 K c 0 ([]:List Edge)::box b 27 a::L) s0)=>(aM (aF ⟨fun _=>⟨_,i8⟩,?_⟩)))
   refine nM (i:=13) (j:=16) (by kernel_rfl) rfl rfl ?_ ?_
   ·obtain ⟨c3,s1,hm⟩:=aB hm
    refine tR (i:=0) dG underlying24 zF rfl rfl i8 rfl (zR _) r s1 rfl rfl rfl rfl (fun c4 c6 s2 (i9:aD G K (aH 9 K c4 c6 c3::aH 61 K c 0 ([]:List Edge)::box b 27 a::L) s2)=>(aM (aF ⟨fun _=>⟨_,i9⟩,?_⟩)))
    refine gH (i:=15) rfl (by kernel_rfl) ⟨_,i9⟩ (fun _ _=>dI (vs:=[(0,i64 t.N),(1,i64 t.I),(2,zS c4 c3.length c6),(3,zS c ([]:List Edge).length 0)]) (cs:=[i64 t.N,i64 t.I,zS c4 c3.length c6,zS c ([]:List Edge).length 0]) zH rfl (by kernel_rfl)) (aS (i:=16) (by kernel_rfl) rfl (gQ (vs:=a) zeroValue27 i9 rfl (fun s3 x7 m5=>(aM (aF ⟨fun _=>⟨_,m5⟩,?_⟩)))))
    refine aS (i:=17) (by kernel_rfl) rfl (nV (i:=0) (ns:=[i64 t.N,i64 t.I,zS c4 c3.length c6,zS c ([]:List Edge).length 0]) (us:=[i64 t.N,i64 t.I,zS c4 c3.length c6,zS c ([]:List Edge).length 0]) sizeOf27 m5 rfl rfl rfl rfl rfl (oR rfl) rfl rfl (fun s4 (x8:aD G K (box s3 27 [i64 t.N,i64 t.I,zS c4 c3.length c6,zS c ([]:List Edge).length 0]::aH 9 K c4 c6 c3::aH 61 K c 0 ([]:List Edge)::box b 27 a::L) s4)=>(aM (aF ⟨aGb rfl,?_⟩))))
    exact fG (by kernel_rfl) aI
   ·refine gQ (vs:=a) zeroValue27 i8 rfl (fun m6 x9 m7=>(aM (aF ⟨fun _=>⟨_,m7⟩,?_⟩)))
    refine aS (i:=13) (by kernel_rfl) rfl ?_;obtain ⟨c7,s5,hm⟩:=aB hm
    refine tR (i:=1) dG underlying24 zF rfl rfl m7 rfl (zR _) r s5 rfl rfl rfl rfl (fun c9 d0 s6 (j0:aD G K (box m6 27 a::aH 9 K c9 d0 c7::aH 61 K c 0 ([]:List Edge)::box b 27 a::L) s6)=>(aM (aF ⟨fun _=>⟨_,j0⟩,?_⟩)))
    refine gH (i:=15) rfl (by kernel_rfl) ⟨_,j0⟩ (fun _ _=>dI (vs:=[(0,i64 t.N),(1,i64 t.I),(2,zS c9 c7.length d0),(3,zS c ([]:List Edge).length 0)]) (cs:=[i64 t.N,i64 t.I,zS c9 c7.length d0,zS c ([]:List Edge).length 0]) zH rfl (by kernel_rfl)) (aS (i:=17) (by kernel_rfl) rfl (nV (i:=0) (ns:=[i64 t.N,i64 t.I,zS c9 c7.length d0,zS c ([]:List Edge).length 0]) (us:=[i64 t.N,i64 t.I,zS c9 c7.length d0,zS c ([]:List Edge).length 0]) sizeOf27 j0 rfl rfl rfl rfl rfl (oR rfl) rfl rfl (fun s7 (y0:aD G K (box m6 27 [i64 t.N,i64 t.I,zS c9 c7.length d0,zS c ([]:List Edge).length 0]::aH 9 K c9 d0 c7::aH 61 K c 0 ([]:List Edge)::box b 27 a::L) s7)=>(aM (aF ⟨aGb rfl,?_⟩)))))
    exact fG (by kernel_rfl) aI
  ·refine gQ (vs:=a) zeroValue27 i7 rfl (fun j1 y1 m8=>(aM (aF ⟨fun _=>⟨_,m8⟩,?_⟩)))
   refine aS (i:=8) (by kernel_rfl) rfl (cQ (Kt:=K) (xs:=([]:List aL)) (cs:=[]) (vs:=[]) dG zF rfl rfl m8 rfl (by kernel_rfl) rfl rfl rfl trivial (fun s8 s9 (m9:aD G K (aH 9 K s8 0 ([]:List aL)::box j1 27 a::aH 61 K c 0 ([]:List Edge)::box b 27 a::L) s9)=>(aM (aF ⟨fun _=>⟨_,m9⟩,?_⟩))))
   refine aS (i:=13) (by kernel_rfl) rfl ?_;obtain ⟨d1,t0,hm⟩:=aB hm
   refine tR (i:=0) dG underlying24 zF rfl rfl m9 rfl (zR _) r t0 rfl rfl rfl rfl (fun d2 d3 t1 (j2:aD G K (aH 9 K d2 d3 d1::box j1 27 a::aH 61 K c 0 ([]:List Edge)::box b 27 a::L) t1)=>(aM (aF ⟨fun _=>⟨_,j2⟩,?_⟩)))
   refine gH (i:=15) rfl (by kernel_rfl) ⟨_,j2⟩ (fun _ _=>dI (vs:=[(0,i64 t.N),(1,i64 t.I),(2,zS d2 d1.length d3),(3,zS c ([]:List Edge).length 0)]) (cs:=[i64 t.N,i64 t.I,zS d2 d1.length d3,zS c ([]:List Edge).length 0]) zH rfl (by kernel_rfl)) (aS (i:=17) (by kernel_rfl) rfl (nV (i:=1) (ns:=[i64 t.N,i64 t.I,zS d2 d1.length d3,zS c ([]:List Edge).length 0]) (us:=[i64 t.N,i64 t.I,zS d2 d1.length d3,zS c ([]:List Edge).length 0]) sizeOf27 j2 rfl rfl rfl rfl rfl (oR rfl) rfl rfl (fun t2 (y2:aD G K (aH 9 K d2 d3 d1::box j1 27 [i64 t.N,i64 t.I,zS d2 d1.length d3,zS c ([]:List Edge).length 0]::aH 61 K c 0 ([]:List Edge)::box b 27 a::L) t2)=>(aM (aF ⟨aGb rfl,?_⟩)))))
   exact fG (by kernel_rfl) aI
 ·refine gQ (vs:=a) zeroValue27 h rfl (fun V y3 j3=>(aM (aF ⟨fun _=>⟨_,j3⟩,?_⟩)))
  refine nM (i:=8) (j:=14) (by kernel_rfl) rfl rfl ?_ ?_
  ·refine cQ (Kt:=K) (xs:=([]:List aL)) (cs:=[]) (vs:=[]) dG zF rfl rfl j3 rfl (by kernel_rfl) rfl rfl rfl trivial (fun n0 t3 (j4:aD G K (aH 9 K n0 0 ([]:List aL)::box V 27 a::box b 27 a::L) t3)=>(aM (aF ⟨fun _=>⟨_,j4⟩,?_⟩)))
   refine nM (i:=13) (j:=14) (by kernel_rfl) rfl rfl ?_ ?_
   ·obtain ⟨a6,t4,hm⟩:=aB hm
    refine tR (i:=0) dG underlying24 zF rfl rfl j4 rfl (zR _) r t4 rfl rfl rfl rfl (fun a8 a9 t5 (n1:aD G K (aH 9 K a8 a9 a6::box V 27 a::box b 27 a::L) t5)=>(aM (aF ⟨fun _=>⟨_,n1⟩,?_⟩)))
    refine aS (i:=14) (by kernel_rfl) rfl (cQ (Kt:=K) (xs:=([]:List Edge)) (cs:=[]) (vs:=[]) lH aEE rfl rfl n1 rfl (by kernel_rfl) rfl rfl rfl trivial (fun d4 t6 (j5:aD G K (aH 61 K d4 0 ([]:List Edge)::aH 9 K a8 a9 a6::box V 27 a::box b 27 a::L) t6)=>(aM (aF ⟨fun _=>⟨_,j5⟩,?_⟩))))
    refine gH (i:=15) rfl (by kernel_rfl) ⟨_,j5⟩ (fun _ _=>dI (vs:=[(0,i64 t.N),(1,i64 t.I),(2,zS a8 a6.length a9),(3,zS d4 ([]:List Edge).length 0)]) (cs:=[i64 t.N,i64 t.I,zS a8 a6.length a9,zS d4 ([]:List Edge).length 0]) zH rfl (by kernel_rfl)) (aS (i:=17) (by kernel_rfl) rfl (nV (i:=2) (ns:=[i64 t.N,i64 t.I,zS a8 a6.length a9,zS d4 ([]:List Edge).length 0]) (us:=[i64 t.N,i64 t.I,zS a8 a6.length a9,zS d4 ([]:List Edge).length 0]) sizeOf27 j5 rfl rfl rfl rfl rfl (oR rfl) rfl rfl (fun t7 (y4:aD G K (aH 61 K d4 0 ([]:List Edge)::aH 9 K a8 a9 a6::box V 27 [i64 t.N,i64 t.I,zS a8 a6.length a9,zS d4 ([]:List Edge).length 0]::box b 27 a::L) t7)=>(aM (aF ⟨aGb rfl,?_⟩)))))
    exact fG (by kernel_rfl) aI
   ·refine cQ (Kt:=K) (xs:=([]:List Edge)) (cs:=[]) (vs:=[]) lH aEE rfl rfl j4 rfl (by kernel_rfl) rfl rfl rfl trivial (fun b0 t8 (n2:aD G K (aH 61 K b0 0 ([]:List Edge)::aH 9 K n0 0 ([]:List aL)::box V 27 a::box b 27 a::L) t8)=>(aM (aF ⟨fun _=>⟨_,n2⟩,?_⟩)))
    refine aS (i:=13) (by kernel_rfl) rfl ?_;obtain ⟨d5,t9,hm⟩:=aB hm
    refine tR (i:=1) dG underlying24 zF rfl rfl n2 rfl (zR _) r t9 rfl rfl rfl rfl (fun d6 d7 u0 (j6:aD G K (aH 61 K b0 0 ([]:List Edge)::aH 9 K d6 d7 d5::box V 27 a::box b 27 a::L) u0)=>(aM (aF ⟨fun _=>⟨_,j6⟩,?_⟩)))
    refine gH (i:=15) rfl (by kernel_rfl) ⟨_,j6⟩ (fun _ _=>dI (vs:=[(0,i64 t.N),(1,i64 t.I),(2,zS d6 d5.length d7),(3,zS b0 ([]:List Edge).length 0)]) (cs:=[i64 t.N,i64 t.I,zS d6 d5.length d7,zS b0 ([]:List Edge).length 0]) zH rfl (by kernel_rfl)) (aS (i:=17) (by kernel_rfl) rfl (nV (i:=2) (ns:=[i64 t.N,i64 t.I,zS d6 d5.length d7,zS b0 ([]:List Edge).length 0]) (us:=[i64 t.N,i64 t.I,zS d6 d5.length d7,zS b0 ([]:List Edge).length 0]) sizeOf27 j6 rfl rfl rfl rfl rfl (oR rfl) rfl rfl (fun u1 (y5:aD G K (aH 61 K b0 0 ([]:List Edge)::aH 9 K d6 d7 d5::box V 27 [i64 t.N,i64 t.I,zS d6 d5.length d7,zS b0 ([]:List Edge).length 0]::box b 27 a::L) u1)=>(aM (aF ⟨aGb rfl,?_⟩)))))
    exact fG (by kernel_rfl) aI
  ·refine cQ (Kt:=K) (xs:=([]:List Edge)) (cs:=[]) (vs:=[]) lH aEE rfl rfl j3 rfl (by kernel_rfl) rfl rfl rfl trivial (fun Z u2 (n3:aD G K (aH 61 K Z 0 ([]:List Edge)::box V 27 a::box b 27 a::L) u2)=>(aM (aF ⟨fun _=>⟨_,n3⟩,?_⟩)))
   refine aS (i:=8) (by kernel_rfl) rfl (cQ (Kt:=K) (xs:=([]:List aL)) (cs:=[]) (vs:=[]) dG zF rfl rfl n3 rfl (by kernel_rfl) rfl rfl rfl trivial (fun u3 u4 (n4:aD G K (aH 9 K u3 0 ([]:List aL)::aH 61 K Z 0 ([]:List Edge)::box V 27 a::box b 27 a::L) u4)=>(aM (aF ⟨fun _=>⟨_,n4⟩,?_⟩))))
   refine aS (i:=13) (by kernel_rfl) rfl ?_;obtain ⟨d8,u5,hm⟩:=aB hm
   refine tR (i:=0) dG underlying24 zF rfl rfl n4 rfl (zR _) r u5 rfl rfl rfl rfl (fun d9 e0 u6 (j7:aD G K (aH 9 K d9 e0 d8::aH 61 K Z 0 ([]:List Edge)::box V 27 a::box b 27 a::L) u6)=>(aM (aF ⟨fun _=>⟨_,j7⟩,?_⟩)))
   refine gH (i:=15) rfl (by kernel_rfl) ⟨_,j7⟩ (fun _ _=>dI (vs:=[(0,i64 t.N),(1,i64 t.I),(2,zS d9 d8.length e0),(3,zS Z ([]:List Edge).length 0)]) (cs:=[i64 t.N,i64 t.I,zS d9 d8.length e0,zS Z ([]:List Edge).length 0]) zH rfl (by kernel_rfl)) (aS (i:=17) (by kernel_rfl) rfl (nV (i:=2) (ns:=[i64 t.N,i64 t.I,zS d9 d8.length e0,zS Z ([]:List Edge).length 0]) (us:=[i64 t.N,i64 t.I,zS d9 d8.length e0,zS Z ([]:List Edge).length 0]) sizeOf27 j7 rfl rfl rfl rfl rfl (oR rfl) rfl rfl (fun u7 (y6:aD G K (aH 9 K d9 e0 d8::aH 61 K Z 0 ([]:List Edge)::box V 27 [i64 t.N,i64 t.I,zS d9 d8.length e0,zS Z ([]:List Edge).length 0]::box b 27 a::L) u7)=>(aM (aF ⟨aGb rfl,?_⟩)))))
   exact fG (by kernel_rfl) aI
theorem aIK {t:aO} {a:Nat} {R:(List Int)} (hm:aJl t=some R) (e:aD G K (L) w) (g:cK K a1 a (zC t a4 c5 a7 c8)) (h:aT K a4 c5 t.L) (i:aT K a7 c8 t.E):
  Calls prog 40 ([cU a1 a]:List Value).toArray w (dO fun v w'=>∃ b c,v=zS b R.length c/\aD G K (aH 2 K b c R::L) w'):=by
 refine cA func40 ?_;unfold aJl at hm
 refine aC ?_;obtain ⟨y,j,hm⟩:=aB hm
 refine bP call80 (aFj j e g h i) ?_
 rintro _ z ⟨V,Z,a0,a2,rfl,a3⟩
 refine jH fun a5 a6 a8=>?_;refine kM fun a9 k=>?_
 refine aC ?_;obtain ⟨b0,l,m,n,b1⟩:=aD.lendSp k (zR _) zt1
 obtain ⟨b2,o,p,q,b3⟩:=aD.lendSp n l zt1
 obtain ⟨b4,d,r,u,b5⟩:=aD.lendBp q .head
 obtain ⟨b6,x,hm⟩:=aB hm
 exact bP call37 (aFi x u r (m.mono (zL o d)) (p.mono d)) aI
theorem aHS {t:aO} {d:Nat} {R:aO} (hm:aCz t=some R) (hs:aD G K (L) w) (e:cK K a1 d (zC t a4 c5 a7 c8)) (g:aT K a4 c5 t.L) (h:aT K a7 c8 t.E):
  Calls prog 17 ([cU a1 d]:List Value).toArray w (dO fun v w'=>∃ i j k l,v=Value.agg (zCa R i j k l)/\aD G K (aH 9 K i j R.L::aH 61 K k l R.E::L) w'):=by
 refine cA func17 ?_;unfold aCz at hm
 refine aC ?_;refine jH fun d3 d4 p=>?_
 refine aC ?_;obtain ⟨d5,q,hm⟩:=aB hm
 refine bP call35 (aAB q p e g h) ?_
 rintro _ d6 ⟨d7,d8,rfl,r⟩
 obtain ⟨d9,a,u,x,y⟩:=aD.lendSp r (zR _) .head
 obtain ⟨e0,z,hm⟩:=aB hm
 refine bP call34 (aCd z x (e.mono a) (g.mono a) (h.mono a) u) ?_
 rintro _ e1 ⟨e2,e3,e4,e5,rfl,V⟩
 have e6:=y _ _ V
 refine jH fun e7 e8 e9=>?_;refine kM fun f0 Z=>?_
 refine aC ?_;obtain ⟨f1,a0,a2,a3,a5⟩:=aD.lendSp Z (zR _) zt2
 obtain ⟨f2,a6,a8,a9,b0⟩:=aD.lendSp a3 a0 zt2
 obtain ⟨f3,m,b1,b2,b3⟩:=aD.lendBp a9 .head
 obtain ⟨f4,b4,hm⟩:=aB hm
 refine bP call40 (aIK b4 b2 b1 (a2.mono (zL a6 m)) (a8.mono m)) ?_
 rintro _ f5 ⟨f6,f7,rfl,b5⟩
 have b6:=b3 _ _ b5
 have b7:=b0 _ _ b6
 have b8:=a5 _ _ b7
 obtain ⟨f8,n,b9,c0,f9⟩:=aD.lendSp b8 (zR _) .head
 obtain ⟨g0,o,c1,c2,g1⟩:=aD.lendSp c0 n .head
 obtain ⟨g2,b,c3,c4,g3⟩:=aD.lendBp c2 .head
 obtain ⟨g4,c,c6,c7,c9⟩:=aD.lendSp c4 (zL (zL n o) b) .head
 obtain ⟨g5,d0,hm⟩:=aB hm
 refine bP call38 (aAQ d0 c7 (c3.mono c) (b9.mono (zL (zL o b) c)) (c1.mono (zL b c)) c6) ?_
 rintro _ g6 ⟨g7,g8,g9,h0,rfl,d1⟩
 have h1:=c9 _ _ d1
 exact aI
theorem aHT {t:aO} {k:Nat} {c:(List Int)} {R:(List Bool)} (hm:aEU t c=some R) (r:aD G K (L) w) (h3:cK K a1 k (zC t a4 c5 a7 c8)) (h6:aT K a4 c5 t.L) (h9:aT K a7 c8 t.E) (u:aT K a10 c11 c):
  Calls prog 81 ([cU a1 k,zS a10 c.length c11]:List Value).toArray w (dO fun v w'=>∃ l m,v=zS l R.length m/\aD G K (aH 4 K l m R::L) w'):=by
 refine cA func81 ?_;unfold aEU at hm
 refine aC ?_;obtain ⟨a,x,hm⟩:=aB hm
 refine aFB (e:=(false:Bool)) gP ez_4 rfl rfl r rfl rfl rfl x rfl (fun b y (b1:aD G K (aH 4 K b a.length a::L) y)=>(aC ?_));refine aJ [] (fun f w=>∃ d,aJP d=some R/\f 5=zS b d.length a.length/\aD G K (aH 4 K b a.length d::L) w) aI ?_
 obtain ⟨b2,z,ho⟩:=aB hm
 refine aY [1] z (fun g o f w=>f 5=zS b g.length a.length/\f 6=i64 o/\aD G K (aH 4 K b a.length g::L) w) aI ?_
 ·rintro g o b3 f b4 hm hr ⟨V,b5,p⟩
  unfold aCW at hm
  refine aC ?_
  rcases aG hm with ⟨c45,hm⟩|⟨c45,hm⟩
  ·refine aC ?_;refine bT (aC ?_)
   obtain ⟨b6,Z,hm⟩:=aB hm
   refine aC ?_;obtain ⟨b7,b8,a0⟩:=aT.el (sz:=1) rfl u Z
   cases a0
   refine aC ?_;obtain ⟨b9,j,hm⟩:=aB hm
   have a2:=bY p (i:=0) rfl j
   refine aK (cR gP rfl a2 rfl rfl rfl j) ?_;obtain ⟨a3,q,hm⟩:=aB hm
   refine lU (i:=0) (t:=0) (ns:=[zB true]) (e':=(true:Bool)) sizeOf4 p rfl (zR _) rfl rfl rfl j q rfl rfl (oR rfl) rfl (fun cs h=>by cases h;rfl) (fun a5 (a6:aD G K (aH 4 K b a.length a3::L) a5)=>(aC ?_));exact ⟨_,(zI hm).symm,aU,(Eq.trans V (congrArg (fun n=>zS b n a.length) (gX q))),rfl,a6⟩
  ·exact aI
theorem aDS {t:aO} {x:Nat} {a R:(List Bool)} (hm:aAH t a=some R) (hs:aD G K (aH 4 K a10 c11 a::L) w) (h3:cK K a1 x (zC t a4 c5 a7 c8)) (h6:aT K a4 c5 t.L) (h9:aT K a7 c8 t.E):
  Calls prog 82 ([cU a1 x,zS a10 a.length c11]:List Value).toArray w (dO fun v w'=>v=Value.tuple #[]/\a.length=R.length/\aD G K (aH 4 K a10 c11 R::L) w'):=by
 refine cA func82 ?_;unfold aAH at hm
 refine aC ?_;refine aJ [] (fun f w=>∃ l,aJQ l=some R/\a.length=l.length/\aD G K (aH 4 K a10 c11 l::L) w) aI ?_
 obtain ⟨d1,a6,ho⟩:=aB hm
 refine aY [0] a6 (fun g y f w=>f 1=zS a10 g.length c11/\f 4=zB y/\a.length=g.length/\aD G K (aH 4 K a10 c11 g::L) w) aI ?_
 ·rintro g y z f d2 hm hr ⟨d3,d4,d5,d6⟩
  unfold vK at hm
  refine aC ?_
  rcases aG hm with ⟨a8,hm⟩|⟨a8,hm⟩
  ·refine aC ?_;refine aJ [0] (fun f w=>∃ d m,aCX d m=some z/\f 1=zS a10 d.length c11/\f 4=zB m/\a.length=d.length/\aD G K (aH 4 K a10 c11 d::L) w) ?_ ?_
   ·rintro f d7 ⟨d,m,hm,a9,b0,b1,b2⟩
    unfold aCX at hm
    refine aC ?_;exact ⟨_,(zI hm).symm,aU,a9,b0,b1,b2⟩
   refine aC ?_;refine aJ [0] (fun f w=>∃ j V,aGj j V=some z/\f 1=zS a10 j.length c11/\f 4=zB V/\a.length=j.length/\aD G K (aH 4 K a10 c11 j::L) w) aI ?_
   obtain ⟨d8,b3,ho⟩:=aB hm
   refine mA [0] b3 (fun b o k f w=>f 1=zS a10 b.length c11/\f 4=zB o/\f 5=i64 k/\a.length=b.length/\aD G K (aH 4 K a10 c11 b::L) w) aI ?_
   ·rintro b o k Z f d9 hm hr ⟨b4,e0,e1,e2,e3⟩
    unfold aAd at hm
    refine aC ?_
    rcases aG hm with ⟨b5,hm⟩|⟨b5,hm⟩
    ·refine aC ?_;refine aJ [0,5] (fun f w=>∃ e p,aAc k e p=some Z/\f 1=zS a10 e.length c11/\f 4=zB p/\a.length=e.length/\aD G K (aH 4 K a10 c11 e::L) w) ?_ ?_
     ·rintro f e4 ⟨e,p,hm,b6,b7,b8,b9⟩
      unfold aAc at hm
      refine aC ?_;exact ⟨_,(zI hm).symm,aU,b6,b7,rfl,b8,b9⟩
     refine aC ?_;obtain ⟨c,c0,hm⟩:=aB hm
     refine aC ?_;obtain ⟨e5,e6,c1⟩:=aT.el (sz:=3) rfl h9 c0
     cases c1
     refine aC ?_;refine jH fun a0 e7 e8=>?_
     refine kM fun e9 f0=>?_
     iterate 3 refine eU ?_
     refine bG [0,1,4,5,6] (fun f w=>∃ q,vJ b o k c q=some Z/\f 41=zB q/\a.length=b.length/\aD G K (box a0 61 [i64 c.F,i64 c.B,i64 c.To]::aH 4 K a10 c11 b::L) w) ?_ ?_
     ·rintro f f1 ⟨q,hm,f2,c2,a2⟩
      unfold vJ at hm
      refine aC ?_
      rcases aG hm with ⟨c3,hm⟩|⟨c3,hm⟩
      ·refine aC ?_;obtain ⟨f3,r,hm⟩:=aB hm
       have c4:=bY a2 (i:=1) rfl r
       refine aK (cR gP rfl c4 rfl rfl rfl r) ?_;obtain ⟨a3,u,hm⟩:=aB hm
       refine lU (i:=1) (t:=0) (ns:=[zB true]) (e':=(true:Bool)) sizeOf4 a2 rfl (zR _) rfl rfl rfl r u rfl rfl (oR rfl) rfl (fun cs h=>by cases h;rfl) (fun c6 (f4:aD G K (box a0 61 [i64 c.F,i64 c.B,i64 c.To]::aH 4 K a10 c11 a3::L) c6)=>(aC ?_));exact ⟨aU,a3,true,hm,(Eq.trans b4 (congrArg (fun n=>zS a10 n c11) (gX u))),rfl,(c2.trans (gX u)),oK⟩
      ·exact aI
     exact aI
    ·exact aI
  ·exact aI
theorem aNM {d:(List Bool)} {R:(List Int)} (hm:aCA d=some R) (u:aD G K (L) w) (x:aT K a1 c2 d):
  Calls prog 83 ([zS a1 d.length c2]:List Value).toArray w (dO fun v w'=>∃ k l,v=zS k R.length l/\aD G K (aH 2 K k l R::L) w'):=by
 refine cA func83 ?_;unfold aCA at hm
 refine aC ?_;refine nE ([]:List Int) fun y z V=>?_
 refine aC ?_;refine aJ [] (fun f w=>∃ e m n,aLe e=some R/\f 3=zS m e.length n/\aD G K (aH 2 K m n e::L) w) aI ?_
 obtain ⟨Z,o,ho⟩:=aB hm
 refine aY [0] o (fun g h f w=>∃ i j,f 3=zS i g.length j/\f 4=i64 h/\aD G K (aH 2 K i j g::L) w) aI ?_
 ·rintro g h p f a0 hm hr ⟨i,j,a2,a3,a5⟩
  unfold aBO at hm
  refine aC ?_
  rcases aG hm with ⟨q,hm⟩|⟨q,hm⟩
  ·refine aC ?_;refine aJ [0,4] (fun f w=>∃ a b c,aBN h a=some p/\f 3=zS b a.length c/\aD G K (aH 2 K b c a::L) w) ?_ ?_
   ·rintro f a6 ⟨a,b,c,hm,r,t⟩
    unfold aBN at hm
    refine aC ?_;exact ⟨_,(zI hm).symm,aU,b,c,r,rfl,t⟩
   exact aI
  ·exact aI
theorem aHU {t:aO} {d:Nat} {R:(List Int)} (hm:wO t=some R) (hs:aD G K (L) w) (e:cK K a1 d (zC t a4 c5 a7 c8)) (g:aT K a4 c5 t.L) (h:aT K a7 c8 t.E):
  Calls prog 41 ([cU a1 d]:List Value).toArray w (dO fun v w'=>∃ i j,v=zS i R.length j/\aD G K (aH 2 K i j R::L) w'):=by
 refine cA func41 ?_;unfold wO at hm
 refine aC ?_;refine nE ([t.I]:List Int) fun k a3 l=>?_
 obtain ⟨a5,a,m,o,p⟩:=aD.lendSp l (zR _) .head
 obtain ⟨q,r,hm⟩:=aB hm
 refine bP call81 (aHT r o (e.mono a) (g.mono a) (h.mono a) m) ?_
 rintro _ u ⟨b,c,rfl,x⟩
 have a6:=p _ _ x
 refine aC ?_
 have y:aD G K (aH 4 K b c q::aH 2 K k 1 ([t.I]:List Int)::L) u:=oK
 obtain ⟨z,V,hm⟩:=aB hm
 refine bP call82 (aDS V y e g h) ?_
 rintro _ a8 ⟨rfl,Z,a0⟩
 iterate 4 refine eU ?_
 refine fO (v:=zS b z.length c) (Eq.trans rfl (congrArg (fun n=>zS b n c) Z)) ?_;obtain ⟨a9,b0,b1,b2,b3⟩:=aD.lendSp a0 (zR _) .head
 exact aI
theorem aPf {a:(List Int)} {n:Int} {R:Bool} (hm:aIx a n=some R) (d:aD G K (L) w) (e:aT K a1 c2 a):
  Calls prog 84 ([zS a1 a.length c2,i64 n]:List Value).toArray w (dO fun v w'=>v=zB R/\aD G K (L) w'):=by
 refine cA func84 ?_;unfold aIx at hm
 refine aC ?_;refine aJ [] (fun f w=>aMw=some R/\aD G K (L) w) aI ?_
 obtain ⟨g,b,ho⟩:=aB hm
 exact eM [0,1] b (fun c f w=>f 5=i64 c/\aD G K (L) w) aI aI
theorem aIL {t:aO} {o:Nat} {k:(List Int)} {p:Int} {R:(List Int)} (hm:aBg t k p=some R) (Z:aD G K (L) w) (h3:cK K a1 o (zC t a4 c5 a7 c8)) (h6:aT K a4 c5 t.L) (q:aT K a7 c8 t.E) (c4:aT K a10 c11 k):
  Calls prog 42 ([cU a1 o,zS a10 k.length c11,i64 p]:List Value).toArray w (dO fun v w'=>∃ r u,v=zS r R.length u/\aD G K (aH 2 K r u R::L) w'):=by
 refine cA func42 ?_;unfold aBg at hm
 refine aC ?_;obtain ⟨a,a3,hm⟩:=aB hm
 refine aFB (e:=(false:Bool)) gP ez_4 rfl rfl Z rfl rfl rfl a3 rfl (fun b a5 (c6:aD G K (aH 4 K b a.length a::L) a5)=>(aC ?_));refine aJ [0] (fun f w=>∃ d,aEj t d=some R/\f 7=zS b d.length a.length/\aD G K (aH 4 K b a.length d::L) w) ?_ ?_
 ·rintro f c7 ⟨d,hm,a6,a8⟩
  unfold aEj at hm
  refine aC ?_;obtain ⟨a9,b0,hm⟩:=aB hm
  refine bP call82 (aDS b0 a8 h3 h6 q) ?_
  rintro _ c9 ⟨rfl,b1,b2⟩
  iterate 4 refine eU ?_
  refine fO (v:=zS b a9.length a.length) (Eq.trans a6 (congrArg (fun n=>zS b n a.length) b1)) ?_;obtain ⟨d0,d1,d2,d3,d4⟩:=aD.lendSp b2 (zR _) .head
  exact aI
 obtain ⟨d5,b3,ho⟩:=aB hm
 refine aY [0,1,2] b3 (fun c g f w=>f 7=zS b c.length a.length/\f 8=i64 g/\aD G K (aH 4 K b a.length c::L) w) aI ?_
 ·rintro c g x f d6 hm hr ⟨b4,d7,d8⟩
  unfold yB at hm
  refine aC ?_
  rcases aG hm with ⟨b5,hm⟩|⟨b5,hm⟩
  ·refine aC ?_;refine aJ [0,1,2,8] (fun f w=>∃ j,aBP g j=some x/\f 7=zS b j.length a.length/\aD G K (aH 4 K b a.length j::L) w) ?_ ?_
   ·rintro f d9 ⟨j,hm,b6,b7⟩
    unfold aBP at hm
    refine aC ?_;exact ⟨_,(zI hm).symm,aU,b6,rfl,b7⟩
   iterate 1 refine eU ?_
   refine bG [0,1,2,7,8] (fun f w=>∃ l,aBQ t c g l=some x/\f 44=zB l/\aD G K (aH 4 K b a.length c::L) w) ?_ ?_
   ·rintro f e0 ⟨l,hm,e1,y⟩
    unfold aBQ at hm
    refine aC ?_
    rcases aG hm with ⟨b8,hm⟩|⟨b8,hm⟩
    ·refine aC ?_;obtain ⟨e2,b9,hm⟩:=aB hm
     refine aC ?_;obtain ⟨e3,e4,c0⟩:=aT.el (sz:=3) rfl q b9
     cases c0
     refine aC ?_;obtain ⟨e5,m,hm⟩:=aB hm
     have c1:=bY y (i:=0) rfl m
     refine aK (cR gP rfl c1 rfl rfl rfl m) ?_;obtain ⟨z,V,hm⟩:=aB hm
     refine lU (i:=0) (t:=0) (ns:=[zB true]) (e':=(true:Bool)) sizeOf4 y rfl (zR _) rfl rfl rfl m V rfl rfl (oR rfl) rfl (fun cs h=>by cases h;rfl) (fun c2 (c3:aD G K (aH 4 K b a.length z::L) c2)=>(aC ?_));exact ⟨aU,z,hm,(Eq.trans b4 (congrArg (fun n=>zS b n a.length) (gX V))),c3⟩
    ·exact aI
   exact aI
  ·exact aI
theorem aIM {t:aO} {k2:Nat} {R:(aO × (List (List Int)) × Bool)} (hm:aEt t=some R) (hs:aD G K (L) w) (h3:cK K a1 k2 (zC t a4 c5 a7 c8)) (h6:aT K a4 c5 t.L) (h9:aT K a7 c8 t.E):
  Calls prog 18 ([cU a1 k2]:List Value).toArray w (dO fun v w'=>∃ f1 f2 f3 f4 f5 f6 d5,v=Value.tuple #[Value.agg (zCa R.1 f1 f2 f3 f4),zS f5 R.2.1.length f6,zB R.2.2]/\List.length d5=List.length R.2.1/\aD G K (aH 9 K f1 f2 R.1.L::aH 61 K f3 f4 R.1.E::aH 66 K f5 f6 (aQ d5 R.2.1)::rows [2] d5 R.2.1::L) w'):=by
 let c:=zG
 let f7:=aH 66 K none 0 (aQ ([]:List (Dp.Hd (List Int))) ([]:List (List Int)))
 refine cA func18 ?_;unfold aEt at hm
 refine aC ?_;refine jH fun d p9 h7=>?_
 refine aC ?_;obtain ⟨y,h8,hm⟩:=aB hm
 refine bP call41 (aHU h8 h7 h3 h6 h9) ?_
 rintro _ i0 ⟨r,u,rfl,i1⟩
 have i2:aD G K (rows [2] ([(r,u)]:List (Dp.Hd (List Int))) [y]::box d 27 c::L) i0:=aD.rowsOne i1
 refine cQ (Kt:=K) (xs:=aQ ([(r,u)]:List (Dp.Hd (List Int))) ([y]:List (List Int))) (cs:=[zS r y.length u]) (vs:=[(0,zS r y.length u)]) jB vX rfl rfl i2 rfl (by kernel_rfl) rfl rfl rfl ⟨rfl,trivial⟩ ?_
 intro f8 i3 (q0:aD G K (aH 66 K f8 1 (aQ ([(r,u)]:List (Dp.Hd (List Int))) ([y]:List (List Int)))::rows [2] ([(r,u)]:List (Dp.Hd (List Int))) ([y]:List (List Int))::box d 27 c::L) i3)
 refine aC ?_;refine nE ([]:List Edge) fun i4 q1 i5=>?_
 refine aC ?_;refine aJ [0,2] (fun f w=>∃ a2 d6 f9 g0 d7 g1 g2,aBR t a2 d6=some R/\f 5=zS f9 a2.length g0/\f 6=zS g1 d6.length g2/\List.length d7=List.length a2/\aD G K (aH 61 K g1 g2 d6::aH 66 K f9 g0 (aQ d7 a2)::rows [2] d7 a2::box d 27 c::L) w) aI ?_
 obtain ⟨q2,i6,ho⟩:=aB hm
 refine mA [0,2] i6 (fun x a3 p f w=>∃ b3 b4 a5 b5 b6,f 5=zS b3 x.length b4/\f 6=zS b5 a3.length b6/\f 7=i64 p/\List.length a5=List.length x/\aD G K (aH 61 K b5 b6 a3::aH 66 K b3 b4 (aQ a5 x)::rows [2] a5 x::box d 27 c::L) w) ?_ ?_
 ·exact ⟨f8,1,([(r,u)]:List (Dp.Hd (List Int))),i4,0,rfl,rfl,rfl,rfl,i5⟩
 ·rintro x a3 p a6 f q3 hm hr ⟨b3,b4,a5,b5,b6,i7,i8,q4,i9,j0⟩
  unfold jI at hm
  refine aC ?_
  rcases aG hm with ⟨j1,hm⟩|⟨j1,hm⟩
  ·refine aC ?_;refine aJ [0,2,7] (fun f w=>∃ z b7 b8 b9 a8 c0 c1,aEk p z b7=some a6/\f 5=zS b8 z.length b9/\f 6=zS c0 b7.length c1/\List.length a8=List.length z/\aD G K (aH 61 K c0 c1 b7::aH 66 K b8 b9 (aQ a8 z)::rows [2] a8 z::box d 27 c::L) w) ?_ ?_
   ·rintro f q5 ⟨z,b7,b8,b9,a8,c0,c1,hm,j2,j3,j4,j5⟩
    unfold aEk at hm
    refine aC ?_;exact ⟨_,(zI hm).symm,aU,b8,b9,a8,c0,c1,j2,j3,rfl,j4,j5⟩
   refine aC ?_;refine aJ [0,2,7] (fun f w=>∃ a9 d8 g3 g4 d9 g5 g6,aEl p a9 d8=some a6/\f 5=zS g3 a9.length g4/\f 6=zS g5 d8.length g6/\List.length d9=List.length a9/\aD G K (aH 61 K g5 g6 d8::aH 66 K g3 g4 (aQ d9 a9)::rows [2] d9 a9::box d 27 c::L) w) aI ?_
   obtain ⟨q6,j6,ho⟩:=aB hm
   refine mA [0,2,7] j6 (fun a e V f w=>∃ m n b j k,f 5=zS m a.length n/\f 6=zS j e.length k/\f 8=i64 V/\List.length b=List.length a/\aD G K (aH 61 K j k e::aH 66 K m n (aQ b a)::rows [2] b a::box d 27 c::L) w) aI ?_
   ·rintro a e V c2 f q7 hm hr ⟨m,n,b,j,k,j7,j8,j9,o,c3⟩
    unfold uC at hm
    refine aC ?_
    rcases aG hm with ⟨k0,hm⟩|⟨k0,hm⟩
    ·refine aC ?_;refine aJ [0,2,7,8] (fun f w=>∃ Z c4 c6 c7 b0 c9 d0,yC V Z c4=some c2/\f 5=zS c6 Z.length c7/\f 6=zS c9 c4.length d0/\List.length b0=List.length Z/\aD G K (aH 61 K c9 d0 c4::aH 66 K c6 c7 (aQ b0 Z)::rows [2] b0 Z::box d 27 c::L) w) ?_ ?_
     ·rintro f q8 ⟨Z,c4,c6,c7,b0,c9,d0,hm,k1,k3,k4,k5⟩
      unfold yC at hm
      refine aC ?_;exact ⟨_,(zI hm).symm,aU,c6,c7,b0,c9,d0,k1,k3,rfl,k4,k5⟩
     refine aC ?_;obtain ⟨q9,b1,hm⟩:=aB hm
     obtain ⟨⟨r0,r1⟩,e0⟩:=aHn o b1
     have g7:=bY c3 (i:=1) rfl (jZ o b1 e0)
     refine aK (cR jB rfl g7 rfl rfl rfl b1) (aK (vV (t:=0) aHK c3 (i:=1) rfl (jZ o b1 e0) rfl rfl rfl) (fO j9 ?_));obtain ⟨r2,e1,r3,k6,k7,k8⟩:=aD.lendD' (i:=1) c3 o rfl rfl
     obtain ⟨l,k9,hm⟩:=aB hm
     refine bP call42 (aIL k9 k7 (h3.mono e1) (h6.mono e1) (h9.mono e1) (aKh (k6 _ _ _ e0 (aKM b1)))) ?_
     rintro _ r4 ⟨g,h,rfl,l0⟩
     have r5:=k8 _ _ l0
     refine aC ?_
     rcases aG hm with ⟨l1,hm⟩|⟨l1,hm⟩
     ·exact aI
     ·refine aC ?_;refine aJ [0,2,5,6,7,8,9] (fun f w=>∃ e2,uA p a e V l e2=some c2/\f 10=i64 e2/\aD G K (aH 66 K m n (aQ b a)::rows [2] b a::aH 2 K g h l::aH 61 K j k e::box d 27 c::L) w) ?_ ?_
      ·rintro f g8 ⟨e2,hm,r6,r7⟩
       unfold uA at hm
       iterate 1 refine eU ?_
       refine rD [0,2,6,7,8] (fun f w=>∃ q e3 d1 d2 a0,aBS p e V q e3=some c2/\f 5=zS d1 q.length d2/\f 10=i64 e3/\List.length a0=List.length q/\aD G K (aH 66 K d1 d2 (aQ a0 q)::rows [2] a0 q::aH 61 K j k e::box d 27 c::L) w) ?_ ?_
       ·rintro f r8 ⟨q,e3,d1,d2,a0,hm,r9,s0,s1,s2⟩
        unfold aBS at hm
        refine aC ?_
        rcases aG hm with ⟨l2,hm⟩|⟨l2,hm⟩
        ·iterate 3 refine eU ?_
         refine aK (dI (vs:=[]) (cs:=c) zH rfl (by kernel_rfl)) (kM fun l3 l4=>?_);refine aC ?_
         refine kQ (bO (gF (bO (bO (bO ?_)))))
         have l5:=hr _ (zI hm).symm
         subst l5
         have hm:(some (.inr (.inr (⟨0,0,[],[]⟩,[],false))))=some a6:=ho
         clear hr ho
         refine gF (bO (gF (bO (bO (bO ?_)))))
         have l6:=hr _ (zI hm).symm
         subst l6
         have hm:(some (⟨0,0,[],[]⟩,[],false))=some R:=ho
         clear hr ho
         have l7:=aD.nil (α:=aL) l4 9 K
         have l8:=aD.nil (α:=Edge) l7 61 K
         have l9:aD G K (f7::rows [2] ([]:List (Dp.Hd (List Int))) ([]:List (List Int))::aH 61 K none 0 ([]:List Edge)::aH 9 K none 0 ([]:List aL)::aH 66 K d1 d2 (aQ a0 q)::rows [2] a0 q::aH 61 K j k e::box d 27 c::L) l3:=aD.nil (α:=Cells _) (aD.rowsNil (α:=(List Int)) (tys:=[2]) l8) 66 K
         obtain rfl:=zI hm
         exact gF (bO (bO (aMX results18 (aKL (vs:=c) rfl fF l9 (i:=7) rfl rfl rfl) (aKg rfl rfl) (aKg rfl rfl) ⟨none,0,none,0,none,0,([]:List (Dp.Hd (List Int))),rfl,rfl,oK⟩)))
        ·exact aI
       refine aC ?_
       rcases aG hm with ⟨m1,hm⟩|⟨m1,hm⟩
       ·refine aC ?_
        rcases aG hm with ⟨m2,hm⟩|⟨m2,hm⟩
        ·iterate 3 refine eU ?_
         refine aK (dI (vs:=[]) (cs:=c) zH rfl (by kernel_rfl)) (kM fun m3 m4=>?_);refine aC ?_
         refine kQ (bO (bO (gF (bO (bO (bO ?_))))))
         have m5:=hr _ (zI hm).symm
         subst m5
         have hm:(some (.inr (.inr (⟨0,0,[],[]⟩,[],false))))=some a6:=ho
         clear hr ho
         refine gF (bO (gF (bO (bO (bO ?_)))))
         have m6:=hr _ (zI hm).symm
         subst m6
         have hm:(some (⟨0,0,[],[]⟩,[],false))=some R:=ho
         clear hr ho
         have m7:=aD.nil (α:=aL) m4 9 K
         have m8:=aD.nil (α:=Edge) m7 61 K
         have m9:aD G K (f7::rows [2] ([]:List (Dp.Hd (List Int))) ([]:List (List Int))::aH 61 K none 0 ([]:List Edge)::aH 9 K none 0 ([]:List aL)::aH 66 K m n (aQ b a)::rows [2] b a::aH 2 K g h l::aH 61 K j k e::box d 27 c::L) m3:=aD.nil (α:=Cells _) (aD.rowsNil (α:=(List Int)) (tys:=[2]) m8) 66 K
         obtain rfl:=zI hm
         exact gF (bO (bO (aMX results18 (aKL (vs:=c) rfl fF m9 (i:=8) rfl rfl rfl) (aKg rfl rfl) (aKg rfl rfl) ⟨none,0,none,0,none,0,([]:List (Dp.Hd (List Int))),rfl,rfl,oK⟩)))
        ·refine aC ?_
         have n1:aD G K (aH 2 K g h l::aH 66 K m n (aQ b a)::rows [2] b a::aH 61 K j k e::box d 27 c::L) g8:=oK
         have n2:aD G K (rows [2] ([(g,h)]:List (Dp.Hd (List Int))) [l]::aH 66 K m n (aQ b a)::rows [2] b a::aH 61 K j k e::box d 27 c::L) g8:=aD.rowsOne n1
         refine cQ (Kt:=K) (xs:=aQ ([(g,h)]:List (Dp.Hd (List Int))) ([l]:List (List Int))) (cs:=[zS g l.length h]) (vs:=[(0,zS g l.length h)]) jB vX rfl rfl n2 rfl (by kernel_rfl) rfl rfl rfl ⟨rfl,trivial⟩ ?_
         intro n3 n4 (n5:aD G K (aH 66 K n3 1 (aQ ([(g,h)]:List (Dp.Hd (List Int))) ([l]:List (List Int)))::rows [2] ([(g,h)]:List (Dp.Hd (List Int))) ([l]:List (List Int))::aH 66 K m n (aQ b a)::rows [2] b a::aH 61 K j k e::box d 27 c::L) n4)
         obtain ⟨e4,g9,hm⟩:=aB hm
         refine aKP (i:=0) (tys:=[2]) (hds:=b) (hds2:=([(g,h)]:List (Dp.Hd (List Int)))) jB underlying43 vX rfl rfl n5 o rfl rfl rfl g9 rfl rfl rfl rfl ?_
         intro h0 h1 n6 (n7:aD G K (aH 66 K h0 h1 (aQ (b++([(g,h)]:List (Dp.Hd (List Int)))) e4)::rows [2] (b++([(g,h)]:List (Dp.Hd (List Int)))) e4::aH 61 K j k e::box d 27 c::L) n6)
         refine aC ?_;exact ⟨aU,e4,(a.length:Int),h0,h1,(b++([(g,h)]:List (Dp.Hd (List Int)))),hm,rfl,rfl,(aJf o rfl g9),n7⟩
       ·exact aI
      obtain ⟨s3,n8,ho⟩:=aB hm
      refine aY [0,2,5,6,7,8,9] n8 (fun b2 d3 f w=>f 10=i64 b2/\f 11=i64 d3/\aD G K (aH 66 K m n (aQ b a)::rows [2] b a::aH 2 K g h l::aH 61 K j k e::box d 27 c::L) w) aI ?_
      ·rintro b2 d3 n9 f s4 hm hr ⟨h2,s5,e5⟩
       unfold uB at hm
       refine aC ?_
       rcases aG hm with ⟨o0,hm⟩|⟨o0,hm⟩
       ·refine aC ?_;refine aJ [0,2,5,6,7,8,9,11] (fun f w=>∃ e6,aBT d3 e6=some n9/\f 10=i64 e6/\aD G K (aH 66 K m n (aQ b a)::rows [2] b a::aH 2 K g h l::aH 61 K j k e::box d 27 c::L) w) ?_ ?_
        ·rintro f s6 ⟨e6,hm,o1,o2⟩
         unfold aBT at hm
         refine aC ?_;exact ⟨_,(zI hm).symm,aU,o1,rfl,o2⟩
        refine aC ?_;obtain ⟨s7,d4,hm⟩:=aB hm
        refine aK (cR jB rfl g7 rfl rfl rfl d4) ?_;obtain ⟨⟨s8,s9⟩,h4⟩:=aHn o d4
        refine aK (vV (t:=0) aHK e5 (i:=0) rfl (jZ o d4 h4) rfl rfl rfl) (aR (v:=zS g l.length h) ?_);obtain ⟨t0,o3,t1,o4,o5,o6⟩:=aD.lendD' (i:=0) e5 o rfl rfl
        obtain ⟨t2,o7,o8,o9,p0⟩:=aD.lendSp o5 o3 .head
        obtain ⟨t3,p1,hm⟩:=aB hm
        refine bP call43 (tE p1 o9 ((aKh (o4 _ _ _ h4 (aKM d4))).mono o7) o8) ?_
        rintro _ t4 ⟨rfl,p2⟩
        have p3:=p0 _ _ p2
        have h5:=o6 _ _ p3
        refine aC ?_
        rcases aG hm with ⟨p4,hm⟩|⟨p4,hm⟩
        ·refine aC ?_;exact ⟨aU,d3,hm,rfl,h5⟩
        ·refine aC ?_;exact ⟨aU,b2,hm,h2,h5⟩
       ·refine aC ?_
        have p5:=hr _ (zI hm).symm
        subst p5
        have hm:(uA p a e V l b2)=some c2:=ho
        clear hr ho
        refine aC ?_;exact ⟨aU,b2,hm,h2,e5⟩
    ·refine aC ?_
     have p6:=hr _ (zI hm).symm
     subst p6
     have hm:(aEl p a e)=some a6:=ho
     clear hr ho
     refine aC ?_;exact ⟨aU,a,e,m,n,b,j,k,hm,j7,j8,o,c3⟩
  ·refine aC ?_
   have p7:=hr _ (zI hm).symm
   subst p7
   have hm:(aBR t x a3)=some R:=ho
   clear hr ho
   refine aC ?_;exact ⟨aU,x,a3,b3,b4,a5,b5,b6,hm,i7,i8,i9,j0⟩
end Gv
namespace Gv
open Go.Value renaming slice→zS,pointer→zP,agg→zA
open Option.some renaming inj→zI
open Gv.Hp renaming le_trans→zL,le_refl→zR
open Go Go.Proofs Go.Proofs.Tryz
set_option maxRecDepth 20000
set_option maxHeartbeats 40000000
variable {G:Env} {K:Hp} {L:List iD} {w:World} {a1 a4 a7 a2 a5 a10 a13:Option Addr} {c5 c8 b1 c3 c6 c2 c11 c14:Nat}
theorem aJU {t:aO} {a:Nat} {R:aO} (hm:aGL t=some R) (g:aD G K (L) w) (h:cK K a1 a (zC t a4 c5 a7 c8)) (i:aT K a4 c5 t.L) (j:aT K a7 c8 t.E):
  Calls prog 19 ([cU a1 a]:List Value).toArray w (dO fun v w'=>∃ b c d e,v=zA (zCa R b c d e)/\aD G K (aH 9 K b c R.L::aH 61 K d e R.E::L) w'):=by
 refine cA func19 ?_;unfold aGL at hm
 refine aC ?_;refine jH fun k l m=>?_
 refine aC ?_;refine aBr [(0,0),(1,0),(2,0),(3,0),(4,0),(5,0),(6,0),(7,0),(8,0),(9,1),(10,2)] fun n o=>?_
 exact aI
theorem aFk {a:(List UInt8)} {b c:Int} {R:(Int × Int × Int)} (hm:vL a b c=some R) (e:aD G K (box b1 59 [zS a2 a.length c3,i64 b,Value.int .u64 c]::L) w) (g:aT K a2 c3 a):
  Calls prog 33 ([zP (some ⟨b1,0,none⟩)]:List Value).toArray w (dO fun v w'=>v=i64 R.1/\aD G K (box b1 59 [zS a2 a.length c3,i64 R.2.1,Value.int .u64 R.2.2]::L) w'):=by
 refine cA func33 ?_;unfold vL at hm
 iterate 10 refine eU ?_
 exact rD [0] (fun f w=>∃ d,sU a b c d=some R/\f 3=i64 d/\aD G K (box b1 59 [zS a2 a.length c3,i64 b,Value.int .u64 c]::L) w) aI aI
theorem cB {a:(List UInt8)} {b c n:Int} {R:(Int × Int × Int)} (hm:bZ a b c n=some R) (h:aD G K (box b1 59 [zS a2 a.length c3,i64 b,Value.int .u64 c]::L) w) (i:aT K a2 c3 a):
  Calls prog 14 ([zP (some ⟨b1,0,none⟩),i64 n]:List Value).toArray w (dO fun v w'=>v=i64 R.1/\aD G K (box b1 59 [zS a2 a.length c3,i64 R.2.1,Value.int .u64 R.2.2]::L) w'):=by
 refine cA func14 ?_;unfold bZ at hm
 refine aC ?_
 rcases aG hm with ⟨j,hm⟩|⟨j,hm⟩
 ·exact aI
 ·refine aC ?_;obtain ⟨l,k,hm⟩:=aB hm
  refine bP call33 (aFk k h i) ?_
  rintro _ m ⟨rfl,o⟩
  iterate 3 refine eU ?_
  exact rD [1] (fun f w=>∃ d e g,sV n d e g=some R/\f 5=i64 d/\aD G K (box b1 59 [zS a2 a.length c3,i64 e,Value.int .u64 g]::L) w) aI aI
theorem aFR {a:(List UInt8)} {b c n:Int} {R:(Bool × Int × Int)} (hm:yD a b c n=some R) (d:aD G K (box b1 59 [zS a2 a.length c3,i64 b,Value.int .u64 c]::L) w) (e:aT K a2 c3 a):
  Calls prog 31 ([zP (some ⟨b1,0,none⟩),i64 n]:List Value).toArray w (dO fun v w'=>v=Value.bool R.1/\aD G K (box b1 59 [zS a2 a.length c3,i64 R.2.1,Value.int .u64 R.2.2]::L) w'):=by
 exact aI
theorem aEc {a:(List UInt8)} {t u:Int} {R:((List aL) × Int × Int)} (hm:wP a t u=some R) (hs:aD G K (box b1 59 [zS a2 a.length c3,i64 t,Value.int .u64 u]::L) w) (h4:aT K a2 c3 a):
  Calls prog 68 ([zP (some ⟨b1,0,none⟩)]:List Value).toArray w (dO fun v w'=>∃ x y,v=zS x R.1.length y/\aD G K (aH 9 K x y R.1::box b1 59 [zS a2 a.length c3,i64 R.2.1,Value.int .u64 R.2.2]::L) w'):=by
 refine cA func68 ?_;unfold wP at hm
 refine aC ?_;refine nE ([([116,97,117]:aL)]:List aL) fun a5 w6 b6=>?_
 refine aC ?_;refine nE ([([97]:aL),([98]:aL),([99]:aL),([103,101,116,40,48,41]:aL),([103,101,116,40,49,41]:aL)]:List aL) fun m w9 b8=>?_
 refine aC ?_;refine aJ [] (fun f w=>∃ e b c n o,wB e b c=some R/\f 3=zS n e.length o/\aD G K (aH 9 K n o e::box b1 59 [zS a2 a.length c3,i64 b,Value.int .u64 c]::L) w) ?_ ?_
 ·rintro f b9 ⟨e,b,c,n,o,hm,c0,c1⟩
  unfold wB at hm
  iterate 1 refine eU ?_
  exact rD [] (fun f w=>∃ p z V,wA b c p=some R/\f 3=zS z p.length V/\aD G K (aH 9 K z V p::box b1 59 [zS a2 a.length c3,i64 b,Value.int .u64 c]::L) w) aI aI
 obtain ⟨c2,a7,ho⟩:=aB hm
 refine aDd [0,4] a7 (fun Z a0 d g f w=>∃ h i,f 3=zS h d.length i/\f 5=i64 g/\aD G K (aH 9 K m 5 ([([97]:aL),([98]:aL),([99]:aL),([103,101,116,40,48,41]:aL),([103,101,116,40,49,41]:aL)]:List aL)::aH 9 K h i d::box b1 59 [zS a2 a.length c3,i64 Z,Value.int .u64 a0]::L) w) aI ?_
 ·rintro Z a0 d g a1 f c4 hm hr ⟨h,i,c5,c6,c7⟩
  unfold nO at hm
  refine aC ?_
  rcases aG hm with ⟨a9,hm⟩|⟨a9,hm⟩
  ·refine aC ?_;refine aJ [0,4,5] (fun f w=>∃ q r j k l,kX g q r j=some a1/\f 3=zS k j.length l/\aD G K (aH 9 K k l j::aH 9 K m 5 ([([97]:aL),([98]:aL),([99]:aL),([103,101,116,40,48,41]:aL),([103,101,116,40,49,41]:aL)]:List aL)::box b1 59 [zS a2 a.length c3,i64 q,Value.int .u64 r]::L) w) ?_ ?_
   ·rintro f c8 ⟨q,r,j,k,l,hm,b0,c9⟩
    unfold kX at hm
    refine aC ?_;exact ⟨_,(zI hm).symm,aU,k,l,b0,rfl,oK⟩
   iterate 1 refine eU ?_
   exact bG [0,3,4,5] (fun f w=>∃ a3 a4 a6,qZ d g a3 a4 a6=some a1/\f 20=Value.bool a6/\aD G K (aH 9 K m 5 ([([97]:aL),([98]:aL),([99]:aL),([103,101,116,40,48,41]:aL),([103,101,116,40,49,41]:aL)]:List aL)::aH 9 K h i d::box b1 59 [zS a2 a.length c3,i64 a3,Value.int .u64 a4]::L) w) aI aI
  ·exact aI
theorem aEd {a:(List UInt8)} {c d:Int} {b:(List Int)} {R:(Int × Int × Int)} (hm:aBU a c d b=some R) (e:aD G K (box b1 59 [zS a2 a.length c3,i64 c,Value.int .u64 d]::L) w) (g:aT K a2 c3 a) (h:aT K a5 c6 b):
  Calls prog 69 ([zP (some ⟨b1,0,none⟩),zS a5 b.length c6]:List Value).toArray w (dO fun v w'=>v=i64 R.1/\aD G K (box b1 59 [zS a2 a.length c3,i64 R.2.1,Value.int .u64 R.2.2]::L) w'):=by
 exact aI
theorem aGT {b:(List UInt8)} {e6 e7:Int} {R:(aO × Int × Int)} (hm:aDo b e6 e7=some R) (hs:aD G K (box b1 59 [zS a2 b.length c3,i64 e6,Value.int .u64 e7]::L) w) (o:aT K a2 c3 b):
  Calls prog 30 ([zP (some ⟨b1,0,none⟩)]:List Value).toArray w (dO fun v w'=>∃ i4 i5 i6 i7,v=zA (zCa R.1 i4 i5 i6 i7)/\aD G K (aH 9 K i4 i5 R.1.L::aH 61 K i6 i7 R.1.E::box b1 59 [zS a2 b.length c3,i64 R.2.1,Value.int .u64 R.2.2]::L) w'):=by
 let e:=zG
 refine kR func30 rfl (by kernel_rfl) (by show (1:Nat)<=125;decide) ?_;unfold aDo at hm
 refine bL (gQ (vs:=e) zeroValue27 hs rfl (fun g w6 k9=>(bA (bL (aR (v:=zP (some ⟨b1,0,none⟩)) ?_)))))
 have l0:aD G K (box b1 59 [zS a2 b.length c3,i64 e6,Value.int .u64 e7]::box g 27 e::L) w6:=(aD.arr 2 [1,0] k9 rfl)
 obtain ⟨j,l1,hm⟩:=aB hm
 refine bJ (vs:=[zP (some ⟨b1,0,none⟩),i64 4]) call14 rfl (cB l1 l0 o) ?_
 rintro _ t9 ⟨rfl,l2⟩
 refine aK (tJ rfl rfl) (aV (v:=i64 (wr (1+j.1))) (bA (bL (aR (v:=i64 (wr (1+j.1))) (aR (v:=zP (some ⟨b1,0,none⟩)) (aR (v:=i64 (wr (1+j.1))) (aK (aKF rfl rfl) ?_)))))));obtain ⟨p,l3,hm⟩:=aB hm
 refine bJ (vs:=[zP (some ⟨b1,0,none⟩),i64 (wr (7 - (wr (1+j.1))))]) call14 rfl (cB l3 l2 o) ?_
 rintro _ u0 ⟨rfl,l4⟩
 refine aK (tJ rfl rfl) (aV (v:=i64 (wr ((wr (1+j.1))+p.1))) (bA (bL (aR (v:=zP (some ⟨b1,0,none⟩)) ?_))));obtain ⟨a,l5,hm⟩:=aB hm
 refine bJ (vs:=[zP (some ⟨b1,0,none⟩)]) call68 rfl (aEc l5 l4 o) ?_
 rintro _ u1 ⟨c,d,rfl,l6⟩
 refine aV (v:=zS c a.1.length d) (bA (bL (cQ (Kt:=K) (xs:=([]:List Int)) (cs:=[]) (vs:=[]) gD aGc rfl rfl l6 rfl (by kernel_rfl) rfl rfl rfl trivial (fun e8 l7 (l8:aD G K (aH 2 K e8 0 ([]:List Int)::aH 9 K c d a.1::box b1 59 [zS a2 b.length c3,i64 a.2.1,Value.int .u64 a.2.2]::box g 27 e::L) l7)=>(aV (v:=zS e8 ([]:List Int).length 0) (bA (bM (bL (aV (v:=i64 0) (bA (aJ [0,2,3,4,5] (fun f w=>∃ b7 b8 k l m,uO b j p a b7 b8 k=some R/\f 6=zS l k.length m/\aD G K (aH 2 K l m k::aH 9 K c d a.1::box b1 59 [zS a2 b.length c3,i64 b7,Value.int .u64 b8]::box g 27 e::L) w) ?_ ?_)))))))))))
 ·rintro f u2 ⟨b7,b8,k,l,m,hm,i8,l9⟩
  unfold uO at hm
  refine aF (bL (cQ (Kt:=K) (xs:=([]:List Edge)) (cs:=[]) (vs:=[]) lH aEE rfl rfl l9 rfl (by kernel_rfl) rfl rfl rfl trivial (fun e9 i9 (m0:aD G K (aH 61 K e9 0 ([]:List Edge)::aH 2 K l m k::aH 9 K c d a.1::box b1 59 [zS a2 b.length c3,i64 b7,Value.int .u64 b8]::box g 27 e::L) i9)=>(aV (v:=zS e9 ([]:List Edge).length 0) (bA (bM (bL (aR (v:=zP (some ⟨b1,0,none⟩)) (aR (v:=i64 (wr (1+j.1))) (aK (R_mul rfl rfl) (aK (tJ rfl rfl) ?_)))))))))))
  have m1:aD G K (box b1 59 [zS a2 b.length c3,i64 b7,Value.int .u64 b8]::aH 61 K e9 0 ([]:List Edge)::aH 2 K l m k::aH 9 K c d a.1::box g 27 e::L) i9:=(aD.arr 4 [3,0,1,2] m0 rfl)
  obtain ⟨m2,m3,hm⟩:=aB hm
  refine bJ (vs:=[zP (some ⟨b1,0,none⟩),i64 (wr (2+(wr (2 * (wr (1+j.1))))))]) call14 rfl (cB m3 m1 o) ?_
  rintro _ u3 ⟨rfl,u4⟩
  refine aV (v:=i64 m2.1) (bA (aJ [0,2,4,5] (fun f w=>∃ c1 c2 b9 c4 c48,wR b j p a c1 c2 b9=some R/\f 8=zS c4 b9.length c48/\aD G K (aH 61 K c4 c48 b9::box b1 59 [zS a2 b.length c3,i64 c1,Value.int .u64 c2]::aH 9 K c d a.1::box g 27 e::L) w) ?_ ?_))
  ·rintro f m4 ⟨c1,c2,b9,c4,c48,hm,m5,m6⟩
   unfold wR at hm
   refine aF (rD [0,2,4,5] (fun f w=>∃ j0 j1 f0 j2 j3,wQ b j p a j0 j1 f0=some R/\f 8=zS j2 f0.length j3/\aD G K (aH 61 K j2 j3 f0::box b1 59 [zS a2 b.length c3,i64 j0,Value.int .u64 j1]::aH 9 K c d a.1::box g 27 e::L) w) aI (bL (aR (v:=zP (some ⟨b1,0,none⟩)) ?_)))
   have m7:aD G K (box b1 59 [zS a2 b.length c3,i64 c1,Value.int .u64 c2]::aH 61 K c4 c48 b9::aH 9 K c d a.1::box g 27 e::L) m4:=(aD.arr 2 [1,0] m6 rfl)
   obtain ⟨u5,m8,hm⟩:=aB hm
   refine bJ (vs:=[zP (some ⟨b1,0,none⟩),i64 3]) call31 rfl (aFR m8 m7 o) ?_
   rintro _ u6 ⟨rfl,m9⟩
   refine bA ?_
   rcases aG hm with ⟨j4,hm⟩|⟨j4,hm⟩
   ·refine bX j4 rfl (cG (fO m5 (aR (v:=zP (some ⟨b1,0,none⟩)) (aR (v:=i64 (wr ((wr (1+j.1))+p.1))) ?_))));obtain ⟨u7,n0,hm⟩:=aB hm
    refine bJ (vs:=[zP (some ⟨b1,0,none⟩),i64 (wr ((wr (1+j.1))+p.1))]) call14 rfl (cB n0 m9 o) ?_
    rintro _ u8 ⟨rfl,n1⟩
    refine aR (v:=zP (some ⟨b1,0,none⟩)) (aR (v:=zS c a.1.length d) (aK (nW (len:=a.1.length) dG rfl) ?_));obtain ⟨u9,n2,hm⟩:=aB hm
    refine bJ (vs:=[zP (some ⟨b1,0,none⟩),i64 (a.1.length:Int)]) call14 rfl (cB n2 n1 o) ?_
    rintro _ v0 ⟨rfl,n3⟩
    refine aR (v:=zP (some ⟨b1,0,none⟩)) (aR (v:=i64 (wr ((wr (1+j.1))+p.1))) ?_);obtain ⟨v1,n4,hm⟩:=aB hm
    exact bJ (vs:=[zP (some ⟨b1,0,none⟩),i64 (wr ((wr (1+j.1))+p.1))]) call14 rfl (cB n4 n3 o) aI
   ·exact aI
  obtain ⟨v2,n5,ho⟩:=aB hm
  refine aDd [0,2,3,4,5,6] n5 (fun c5 c6 c0 b0 f w=>∃ c7 c8,f 8=zS c7 c0.length c8/\f 9=i64 b0/\aD G K (box b1 59 [zS a2 b.length c3,i64 c5,Value.int .u64 c6]::aH 61 K c7 c8 c0::aH 2 K l m k::aH 9 K c d a.1::box g 27 e::L) w) aI ?_
  ·rintro c5 c6 c0 b0 f1 f v3 hm hr ⟨c7,c8,n6,j5,j6⟩
   unfold qI at hm
   refine bM (bL (fO j5 (aK (aNv rfl rfl) (bA ?_))))
   rcases aG hm with ⟨f2,hm⟩|⟨f2,hm⟩
   ·refine bX f2 rfl (eJ (aF (bM (aJ [0,2,3,4,5,6,9] (fun f w=>∃ f3 f4 c9 d0 d1,aBV b0 f3 f4 c9=some f1/\f 8=zS d0 c9.length d1/\aD G K (aH 61 K d0 d1 c9::box b1 59 [zS a2 b.length c3,i64 f3,Value.int .u64 f4]::aH 2 K l m k::aH 9 K c d a.1::box g 27 e::L) w) ?_ ?_))))
    ·rintro f v4 ⟨f3,f4,c9,d0,d1,hm,n7,n8⟩
     unfold aBV at hm
     exact aF (cG (fO j5 (aK (aKF rfl rfl) (aV (v:=i64 (wr (b0 - 1))) (bA ⟨_,(zI hm).symm,aU,d0,d1,n7,rfl,(aD.arr 2 [1,0] n8 rfl)⟩)))))
    refine bL (aR (v:=zP (some ⟨b1,0,none⟩)) (aR (v:=i64 (wr (1+j.1))) ?_));obtain ⟨j7,n9,hm⟩:=aB hm
    refine bJ (vs:=[zP (some ⟨b1,0,none⟩),i64 (wr (1+j.1))]) call14 rfl (cB n9 j6 o) ?_
    rintro _ v5 ⟨rfl,o0⟩
    refine aV (v:=i64 j7.1) (bA (bL (aR (v:=zP (some ⟨b1,0,none⟩)) (aR (v:=zS c a.1.length d) (aK (nW (len:=a.1.length) dG rfl) ?_)))));obtain ⟨V,o1,hm⟩:=aB hm
    refine bJ (vs:=[zP (some ⟨b1,0,none⟩),i64 (a.1.length:Int)]) call14 rfl (cB o1 o0 o) ?_
    rintro _ v6 ⟨rfl,o2⟩
    refine aV (v:=i64 V.1) (bA (bL (aR (v:=zP (some ⟨b1,0,none⟩)) (aR (v:=i64 (wr (1+j.1))) ?_))));obtain ⟨j8,o3,hm⟩:=aB hm
    refine bJ (vs:=[zP (some ⟨b1,0,none⟩),i64 (wr (1+j.1))]) call14 rfl (cB o3 o2 o) ?_
    rintro _ v7 ⟨rfl,v8⟩
    refine aV (v:=i64 j8.1) (bA (bL (aV (v:=i64 0) (bA (aJ [0,2,3,4,5,6,9] (fun f w=>∃ j9 k0 f5 k1 k2,aBW b0 j9 k0 f5=some f1/\f 8=zS k1 f5.length k2/\aD G K (aH 61 K k1 k2 f5::box b1 59 [zS a2 b.length c3,i64 j9,Value.int .u64 k0]::aH 2 K l m k::aH 9 K c d a.1::box g 27 e::L) w) aI ?_)))));obtain ⟨v9,o4,ho⟩:=aB hm
    refine aDd [0,2,3,4,5,6,9,10,11,12] o4 (fun q r n u f w=>∃ y z,f 8=zS y n.length z/\f 13=i64 u/\aD G K (box b1 59 [zS a2 b.length c3,i64 q,Value.int .u64 r]::aH 61 K y z n::aH 2 K l m k::aH 9 K c d a.1::box g 27 e::L) w) aI ?_
    ·rintro q r n u f6 f w0 hm hr ⟨y,z,k3,d2,d3⟩
     unfold sW at hm
     refine bM (bL (fO d2 (aR (v:=i64 (wr ((wr (1+j.1))+p.1))) (aK (tK rfl rfl) (bA ?_)))))
     rcases aG hm with ⟨f7,hm⟩|⟨f7,hm⟩
     ·refine bX f7 rfl (eJ (aF (bM (aJ [0,2,3,4,5,6,9,10,11,12,13] (fun f w=>∃ f8 f9 d4 d5 d6,wS u f8 f9 d4=some f6/\f 8=zS d5 d4.length d6/\aD G K (box b1 59 [zS a2 b.length c3,i64 f8,Value.int .u64 f9]::aH 61 K d5 d6 d4::aH 2 K l m k::aH 9 K c d a.1::box g 27 e::L) w) ?_ ?_))))
      ·rintro f w1 ⟨f8,f9,d4,d5,d6,hm,o5,o6⟩
       unfold wS at hm
       exact aF (cG (fO d2 (aK (tJ rfl rfl) (aV (v:=i64 (wr (u+1))) (bA ⟨_,(zI hm).symm,aU,d5,d6,o5,rfl,o6⟩)))))
      refine bM (bL (fO i8 (fO d2 ?_)));obtain ⟨w2,g0,hm⟩:=aB hm
      have k4:=bY d3 (i:=2) rfl g0
      refine aK (cR gD rfl k4 rfl rfl rfl g0) (aK (vV (t:=0) jE d3 (i:=2) rfl g0 rfl rfl rfl) (aR (v:=i64 j7.1) (aK (aHI rfl rfl) (bA ?_))))
      rcases aG hm with ⟨k5,hm⟩|⟨k5,hm⟩
      ·exact aI
      ·refine cD k5 rfl (eJ (aF (bL (cQ (Kt:=K) (xs:=([]:List Int)) (cs:=[]) (vs:=[]) gD aGc rfl rfl d3 rfl (by kernel_rfl) rfl rfl rfl trivial (fun g1 o7 (o8:aD G K (aH 2 K g1 0 ([]:List Int)::box b1 59 [zS a2 b.length c3,i64 q,Value.int .u64 r]::aH 61 K y z n::aH 2 K l m k::aH 9 K c d a.1::box g 27 e::L) o7)=>(aV (v:=zS g1 ([]:List Int).length 0) (bA (bM (bL (aV (v:=i64 0) (bA (aJ [0,2,3,4,5,6,8,9,10,11,12,13] (fun f w=>∃ a6 b2 b3,wT b V q r n u a6=some f6/\f 14=zS b2 a6.length b3/\aD G K (aH 2 K b2 b3 a6::box b1 59 [zS a2 b.length c3,i64 q,Value.int .u64 r]::aH 61 K y z n::aH 2 K l m k::aH 9 K c d a.1::box g 27 e::L) w) ?_ ?_))))))))))))
       ·rintro f w3 ⟨a6,b2,b3,hm,o9,p0⟩
        unfold wT at hm
        refine aF (cG (fO k3 (fO d2 (aR (v:=i64 V.1) (aR (v:=zP (some ⟨b1,0,none⟩)) (fO o9 ?_))))));obtain ⟨w4,p1,p2,p3,p4⟩:=aD.lendSp p0 (zR _) .head
        obtain ⟨x,p5,hm⟩:=aB hm
        refine bJ (vs:=[zP (some ⟨b1,0,none⟩),zS b2 a6.length b3]) call69 rfl (aEd p5 p3 (o.mono p1) p2) ?_
        rintro _ w5 ⟨rfl,p6⟩
        have p7:=p4 _ _ p6
        refine aK (dI (vs:=[(0,i64 u),(1,i64 V.1),(2,i64 x.1)]) (cs:=[i64 u,i64 V.1,i64 x.1]) aPy rfl (by kernel_rfl)) (cQ (Kt:=K) (xs:=([⟨u,V.1,x.1⟩]:List Edge)) (cs:=[i64 u,i64 V.1,i64 x.1]) (vs:=[(0,zA #[i64 u,i64 V.1,i64 x.1])]) lH aEE rfl rfl p7 rfl (by kernel_rfl) rfl rfl rfl ⟨rfl,trivial⟩ (fun p8 p9 (q0:aD G K (aH 61 K p8 1 ([⟨u,V.1,x.1⟩]:List Edge)::aH 2 K b2 b3 a6::box b1 59 [zS a2 b.length c3,i64 x.2.1,Value.int .u64 x.2.2]::aH 61 K y z n::aH 2 K l m k::aH 9 K c d a.1::box g 27 e::L) p9)=>?_))
        obtain ⟨g2,q1,hm⟩:=aB hm
        exact aAk (i:=2) lH underlying25 aEE rfl rfl q0 rfl (zR _) (zR _) q1 rfl rfl rfl rfl (fun _ h=>h) (fun g3 g4 q2 (q3:aD G K (aH 2 K b2 b3 a6::box b1 59 [zS a2 b.length c3,i64 x.2.1,Value.int .u64 x.2.2]::aH 61 K g3 g4 g2::aH 2 K l m k::aH 9 K c d a.1::box g 27 e::L) q2)=>(aV (v:=zS g3 g2.length g4) (aM (oJ (aF ⟨aU,x.2.1,x.2.2,g2,g3,g4,hm,rfl,(aD.arr 1 [] q3 rfl)⟩)))))
       obtain ⟨w7,q4,ho⟩:=aB hm
       refine aY [0,2,3,4,5,6,8,9,10,11,12,13] q4 (fun a7 a0 f w=>∃ b4 b6,f 14=zS b4 a7.length b6/\f 15=i64 a0/\aD G K (aH 2 K b4 b6 a7::box b1 59 [zS a2 b.length c3,i64 q,Value.int .u64 r]::aH 61 K y z n::aH 2 K l m k::aH 9 K c d a.1::box g 27 e::L) w) ?_ ?_
       ·exact ⟨g1,0,rfl,rfl,o8⟩
       ·rintro a7 a0 q5 f w8 hm hr ⟨b4,b6,g5,d7,d8⟩
        unfold nI at hm
        refine bM (bL (fO d7 (aR (v:=i64 (wr ((wr (1+j.1))+p.1))) (aK (tK rfl rfl) (bA ?_)))))
        rcases aG hm with ⟨g6,hm⟩|⟨g6,hm⟩
        ·refine bX g6 rfl (eJ (aF (bM (aJ [0,2,3,4,5,6,8,9,10,11,12,13,15] (fun f w=>∃ d9 e0 e1,wU a0 d9=some q5/\f 14=zS e0 d9.length e1/\aD G K (aH 2 K e0 e1 d9::box b1 59 [zS a2 b.length c3,i64 q,Value.int .u64 r]::aH 61 K y z n::aH 2 K l m k::aH 9 K c d a.1::box g 27 e::L) w) ?_ ?_))))
         ·rintro f w9 ⟨d9,e0,e1,hm,q6,q7⟩
          unfold wU at hm
          exact aF (cG (fO d7 (aK (tJ rfl rfl) (aV (v:=i64 (wr (a0+1))) (bA ⟨_,(zI hm).symm,aU,e0,e1,q6,rfl,q7⟩)))))
         refine bL (fO i8 (fO d7 ?_));obtain ⟨x0,k6,hm⟩:=aB hm
         refine aK (cR gD rfl k4 rfl rfl rfl k6) (aK (vV (t:=0) jE d8 (i:=3) rfl k6 rfl rfl rfl) (aR (v:=i64 j8.1) (aK (R_eql rfl rfl) (bA ?_))))
         rcases aG hm with ⟨g7,hm⟩|⟨g7,hm⟩
         ·refine bX g7 rfl (cG (fO g5 (fO d7 (cQ (Kt:=K) (xs:=([a0]:List Int)) (cs:=[i64 a0]) (vs:=[(0,i64 a0)]) gD aGc rfl rfl d8 rfl (by kernel_rfl) rfl rfl rfl ⟨rfl,trivial⟩ (fun q8 q9 (r0:aD G K (aH 2 K q8 1 ([a0]:List Int)::aH 2 K b4 b6 a7::box b1 59 [zS a2 b.length c3,i64 q,Value.int .u64 r]::aH 61 K y z n::aH 2 K l m k::aH 9 K c d a.1::box g 27 e::L) q9)=>?_)))));obtain ⟨g8,r1,hm⟩:=aB hm
          exact aAk (i:=0) gD underlying66 aGc rfl rfl r0 rfl (zR _) (zR _) r1 rfl rfl rfl rfl (fun _ h=>h) (fun g9 h0 r2 (r3:aD G K (aH 2 K g9 h0 g8::box b1 59 [zS a2 b.length c3,i64 q,Value.int .u64 r]::aH 61 K y z n::aH 2 K l m k::aH 9 K c d a.1::box g 27 e::L) r2)=>(aV (v:=zS g9 g8.length h0) (aM (oJ (aF ⟨aU,g8,g9,h0,hm,rfl,r3⟩)))))
         ·exact cD g7 rfl (eJ (oJ (aF ⟨aU,a7,b4,b6,hm,g5,d8⟩)))
        ·refine cD g6 rfl (aEz (oP (oP ?_)))
         have r4:=hr _ (zI hm).symm
         subst r4
         have hm:(wT b V q r n u a7)=some f6:=ho
         clear hr ho
         exact yW (aF ⟨aU,a7,b4,b6,hm,g5,d8⟩)
     ·refine cD f7 rfl (aEz (oP (oP ?_)))
      have r5:=hr _ (zI hm).symm
      subst r5
      have hm:(aBW b0 q r n)=some f1:=ho
      clear hr ho
      exact yW (aF ⟨aU,q,r,n,y,z,hm,k3,(aD.arr 2 [1,0] d3 rfl)⟩)
   ·refine cD f2 rfl (aEz (oP (oP ?_)))
    have r6:=hr _ (zI hm).symm
    subst r6
    have hm:(wR b j p a c5 c6 c0)=some R:=ho
    clear hr ho
    exact yW (aF ⟨aU,c5,c6,c0,c7,c8,hm,n6,(aD.arr 3 [1,0] j6 rfl)⟩)
 obtain ⟨x1,r7,ho⟩:=aB hm
 refine aDd [0,2,3,4,5] r7 (fun a1 a3 a4 a5 f w=>∃ a8 a9,f 6=zS a8 a4.length a9/\f 7=i64 a5/\aD G K (aH 2 K a8 a9 a4::aH 9 K c d a.1::box b1 59 [zS a2 b.length c3,i64 a1,Value.int .u64 a3]::box g 27 e::L) w) ?_ ?_
 ·exact ⟨e8,0,rfl,rfl,l8⟩
 ·rintro a1 a3 a4 a5 r8 f s0 hm hr ⟨a8,a9,h1,e2,h2⟩
  unfold qK at hm
  refine bM (bL (fO e2 (aR (v:=i64 (wr ((wr (1+j.1))+p.1))) (aK (tK rfl rfl) (bA ?_)))))
  rcases aG hm with ⟨h3,hm⟩|⟨h3,hm⟩
  ·refine bX h3 rfl (eJ (aF (bM (aJ [0,2,3,4,5,7] (fun f w=>∃ h5 h6 e3 e4 e5,qJ a5 h5 h6 e3=some r8/\f 6=zS e4 e3.length e5/\aD G K (aH 2 K e4 e5 e3::aH 9 K c d a.1::box b1 59 [zS a2 b.length c3,i64 h5,Value.int .u64 h6]::box g 27 e::L) w) ?_ ?_))))
   ·rintro f x2 ⟨h5,h6,e3,e4,e5,hm,s1,s2⟩
    unfold qJ at hm
    exact aF (cG (fO e2 (aK (tJ rfl rfl) (aV (v:=i64 (wr (a5+1))) (bA ⟨_,(zI hm).symm,aU,e4,e5,s1,rfl,s2⟩)))))
   refine bL (fO e2 (aR (v:=i64 (wr (1+j.1))) (aK (tK rfl rfl) (bA ?_))))
   rcases aG hm with ⟨h7,hm⟩|⟨h7,hm⟩
   ·refine bX h7 rfl (cG (fO h1 (fO e2 (cQ (Kt:=K) (xs:=([a5]:List Int)) (cs:=[i64 a5]) (vs:=[(0,i64 a5)]) gD aGc rfl rfl h2 rfl (by kernel_rfl) rfl rfl rfl ⟨rfl,trivial⟩ (fun s3 s4 (s5:aD G K (aH 2 K s3 1 ([a5]:List Int)::aH 2 K a8 a9 a4::aH 9 K c d a.1::box b1 59 [zS a2 b.length c3,i64 a1,Value.int .u64 a3]::box g 27 e::L) s4)=>?_)))));obtain ⟨h8,s6,hm⟩:=aB hm
    exact aAk (i:=0) gD underlying66 aGc rfl rfl s5 rfl (zR _) (zR _) s6 rfl rfl rfl rfl (fun _ h=>h) (fun h9 i0 s7 (s8:aD G K (aH 2 K h9 i0 h8::aH 9 K c d a.1::box b1 59 [zS a2 b.length c3,i64 a1,Value.int .u64 a3]::box g 27 e::L) s7)=>(aV (v:=zS h9 h8.length i0) (aM (oJ (aF ⟨aU,a1,a3,h8,h9,i0,hm,rfl,s8⟩)))))
   ·refine cD h7 rfl (cG (fO h1 (aR (v:=zP (some ⟨b1,0,none⟩)) (aR (v:=i64 (wr (1+j.1))) ?_))))
    have s9:aD G K (box b1 59 [zS a2 b.length c3,i64 a1,Value.int .u64 a3]::aH 2 K a8 a9 a4::aH 9 K c d a.1::box g 27 e::L) s0:=(aD.arr 3 [2,0,1] h2 rfl)
    obtain ⟨Z,t0,hm⟩:=aB hm
    refine bJ (vs:=[zP (some ⟨b1,0,none⟩),i64 (wr (1+j.1))]) call14 rfl (cB t0 s9 o) ?_
    rintro _ x3 ⟨rfl,t1⟩
    refine cQ (Kt:=K) (xs:=([Z.1]:List Int)) (cs:=[i64 Z.1]) (vs:=[(0,i64 Z.1)]) gD aGc rfl rfl t1 rfl (by kernel_rfl) rfl rfl rfl ⟨rfl,trivial⟩ (fun t2 t3 (t4:aD G K (aH 2 K t2 1 ([Z.1]:List Int)::box b1 59 [zS a2 b.length c3,i64 Z.2.1,Value.int .u64 Z.2.2]::aH 2 K a8 a9 a4::aH 9 K c d a.1::box g 27 e::L) t3)=>?_);obtain ⟨i1,t5,hm⟩:=aB hm
    exact aAk (i:=1) gD underlying66 aGc rfl rfl t4 rfl (zR _) (zR _) t5 rfl rfl rfl rfl (fun _ h=>h) (fun i2 i3 t6 (t7:aD G K (box b1 59 [zS a2 b.length c3,i64 Z.2.1,Value.int .u64 Z.2.2]::aH 2 K i2 i3 i1::aH 9 K c d a.1::box g 27 e::L) t6)=>(aV (v:=zS i2 i1.length i3) (aM (oJ (aF ⟨aU,Z.2.1,Z.2.2,i1,i2,i3,hm,rfl,(aD.arr 3 [1,2,0] t7 rfl)⟩)))))
  ·refine cD h3 rfl (aEz (oP (oP ?_)))
   have t8:=hr _ (zI hm).symm
   subst t8
   have hm:(uO b j p a a1 a3 a4)=some R:=ho
   clear hr ho
   exact yW (aF ⟨aU,a1,a3,a4,a8,a9,hm,h1,h2⟩)
theorem aCq {a:(List UInt8)} {b c:Int} {R:(Int × Int × Int)} (hm:yE a b c=some R) (e:aD G K (aH 5 K a2 c3 a::box b1 59 [zS a2 a.length c3,i64 b,Value.int .u64 c]::L) w):
  Calls prog 33 ([zP (some ⟨b1,0,none⟩)]:List Value).toArray w (dO fun v w'=>v=i64 R.1/\aD G K (aH 5 K a2 c3 a::box b1 59 [zS a2 a.length c3,i64 R.2.1,Value.int .u64 R.2.2]::L) w'):=by
 refine cA func33 ?_;unfold yE at hm
 iterate 10 refine eU ?_
 exact rD [0] (fun f w=>∃ d,yS a b c d=some R/\f 3=i64 d/\aD G K (aH 5 K a2 c3 a::box b1 59 [zS a2 a.length c3,i64 b,Value.int .u64 c]::L) w) aI aI
theorem aIa {a:(List UInt8)} {b c n:Int} {R:(Int × (List UInt8) × Int × Int)} (hm:aGM a b c n=some R) (j:aD G K (aH 5 K a2 c3 a::box b1 59 [zS a2 a.length c3,i64 b,Value.int .u64 c]::L) w):
  Calls prog 14 ([zP (some ⟨b1,0,none⟩),i64 n]:List Value).toArray w (dO fun v w'=>∃ d e,v=i64 R.1/\aD G K (aH 5 K d e R.2.1::box b1 59 [zS d R.2.1.length e,i64 R.2.2.1,Value.int .u64 R.2.2.2]::L) w'):=by
 refine cA func14 ?_;unfold aGM at hm
 refine aC ?_
 rcases aG hm with ⟨k,hm⟩|⟨k,hm⟩
 ·exact aI
 ·refine aC ?_;obtain ⟨m,l,hm⟩:=aB hm
  refine bP call33 (aCq l j) ?_
  rintro _ o ⟨rfl,p⟩
  iterate 3 refine eU ?_
  exact rD [1] (fun f w=>∃ g h i,yT a n g h i=some R/\f 5=i64 g/\aD G K (aH 5 K a2 c3 a::box b1 59 [zS a2 a.length c3,i64 h,Value.int .u64 i]::L) w) aI aI
theorem aCC {b:(List UInt8)} {x y:Int} {R:(aO × Int × Int)} (hm:tN b x y=some R) (hs:aD G K (box b1 59 [zS a2 b.length c3,i64 x,Value.int .u64 y]::L) w) (n:aT K a2 c3 b):
  Calls prog 13 ([zP (some ⟨b1,0,none⟩)]:List Value).toArray w (dO fun v w'=>∃ a6 a7 a8 a9,v=zA (zCa R.1 a6 a7 a8 a9)/\aD G K (aH 9 K a6 a7 R.1.L::aH 61 K a8 a9 R.1.E::box b1 59 [zS a2 b.length c3,i64 R.2.1,Value.int .u64 R.2.2]::L) w'):=by
 let h:=zG
 refine cA func13 ?_;unfold tN at hm
 refine aC ?_;refine jH fun j w6 f1=>?_
 refine aC ?_
 have d0:aD G K (box b1 59 [zS a2 b.length c3,i64 x,Value.int .u64 y]::box j 27 h::L) w6:=oK
 obtain ⟨a,d1,hm⟩:=aB hm
 refine bP call30 (aGT d1 d0 n) ?_
 rintro _ f2 ⟨c,d,e,g,rfl,f3⟩
 refine jH fun k f4 f5=>?_;refine kM fun f6 f7=>?_
 refine aC ?_;refine nE ([]:List Edge) fun f8 f9 g0=>?_
 refine aC ?_;refine aJ [0,2,3] (fun f w=>∃ o p l q r,aBX b a o p l=some R/\f 4=zS q l.length r/\aD G K (aH 61 K q r l::box k 27 (zC a.1 c d e g)::aH 9 K c d a.1.L::aH 61 K e g a.1.E::box b1 59 [zS a2 b.length c3,i64 o,Value.int .u64 p]::box j 27 h::L) w) ?_ ?_
 ·rintro f d2 ⟨o,p,l,q,r,hm,g1,g2⟩
  unfold aBX at hm
  refine aC ?_
  have d3:aD G K (box b1 59 [zS a2 b.length c3,i64 o,Value.int .u64 p]::aH 61 K q r l::box k 27 (zC a.1 c d e g)::aH 9 K c d a.1.L::aH 61 K e g a.1.E::box j 27 h::L) d2:=oK
  obtain ⟨g3,d4,hm⟩:=aB hm
  refine bP call14 (cB d4 d3 n) ?_
  rintro _ g4 ⟨rfl,g5⟩
  refine aC ?_;refine aJ [2,3] (fun f w=>∃ z b0 b2 b3 b4,aEV a z b0 b2=some R/\f 4=zS b3 z.length b4/\aD G K (aH 61 K b3 b4 z::box b1 59 [zS a2 b.length c3,i64 b0,Value.int .u64 b2]::box k 27 (zC a.1 c d e g)::aH 9 K c d a.1.L::aH 61 K e g a.1.E::box j 27 h::L) w) aI ?_
  obtain ⟨g6,d5,ho⟩:=aB hm
  refine aDd [0,2,3] d5 (fun b6 b7 V b8 f w=>∃ Z a0,f 4=zS Z V.length a0/\f 7=i64 b8/\aD G K (box b1 59 [zS a2 b.length c3,i64 b6,Value.int .u64 b7]::aH 61 K Z a0 V::box k 27 (zC a.1 c d e g)::aH 9 K c d a.1.L::aH 61 K e g a.1.E::box j 27 h::L) w) aI ?_
  ·rintro b6 b7 V b8 g7 f g8 hm hr ⟨Z,a0,g9,h0,d6⟩
   unfold sX at hm
   refine aC ?_
   rcases aG hm with ⟨d7,hm⟩|⟨d7,hm⟩
   ·refine aC ?_;refine bT ?_
    obtain ⟨h1,b9,h2,h3,d8⟩:=aD.lendBp d6 zt2
    refine aBr [(0,0),(1,0),(2,0),(3,0),(5,0),(6,0),(7,0),(4,1),(8,1),(9,0),(10,1),(11,1),(12,0)] fun h5 d9=>?_;refine aC ?_
    refine lV rfl ?_;obtain ⟨a1,e0,hm⟩:=aB hm
    refine bP call14 (cB e0 d9 (n.mono b9)) ?_
    rintro _ h6 ⟨rfl,c0⟩
    refine aM (aF ⟨⟨_,c0⟩,?_⟩)
    refine lV rfl ?_;obtain ⟨a3,e1,hm⟩:=aB hm
    refine bP call14 (cB e1 c0 (n.mono b9)) ?_
    rintro _ h7 ⟨rfl,e2⟩
    refine aM (aF ⟨⟨_,e2⟩,?_⟩)
    refine cS rfl (fun _ _=>dI (vs:=[(0,i64 a1.1),(2,i64 a3.1)]) (cs:=[i64 a1.1,i64 0,i64 a3.1]) aPy rfl (by kernel_rfl)) (lV rfl (nE ([⟨a1.1,0,a3.1⟩]:List Edge) fun h8 h9 e3=>?_));refine aM (aF ⟨⟨_,e3⟩,?_⟩)
    refine lV rfl ?_;obtain ⟨i0,i1,hm⟩:=aB hm
    refine aGA fun i2 i3 i4 c1=>?_;refine aM (aF ⟨⟨_,c1⟩,?_⟩)
    refine aC ?_;refine tS ?_
    have i5:=d8 _ _ c1
    exact aI
   ·exact aI
 obtain ⟨i6,e4,ho⟩:=aB hm
 refine aDd [0,2,3] e4 (fun c2 c4 m a4 f w=>∃ t u,f 4=zS t m.length u/\f 5=i64 a4/\aD G K (aH 61 K t u m::box k 27 (zC a.1 c d e g)::aH 9 K c d a.1.L::aH 61 K e g a.1.E::box b1 59 [zS a2 b.length c3,i64 c2,Value.int .u64 c4]::box j 27 h::L) w) aI ?_
 ·rintro c2 c4 m a4 e5 f i7 hm hr ⟨t,u,i8,i9,e6⟩
  unfold sY at hm
  refine aC ?_
  rcases aG hm with ⟨e7,hm⟩|⟨e7,hm⟩
  ·refine aC ?_;refine bT (aC ?_)
   obtain ⟨a5,c5,hm⟩:=aB hm
   have e8:=bY e6 (i:=3) rfl c5
   refine aK (cR lH rfl e8 rfl rfl rfl c5) (aC ?_);refine jH fun e9 j0 j1=>?_
   refine kM fun j2 j3=>?_
   iterate 2 refine eU ?_
   exact rD [0,2,3,4,5,6] (fun f w=>∃ c6 c7 c8,wV m a4 a5 c6 c7 c8=some e5/\aD G K (box e9 61 [i64 a5.F,i64 c8,i64 a5.To]::aH 61 K t u m::box k 27 (zC a.1 c d e g)::aH 9 K c d a.1.L::aH 61 K e g a.1.E::box b1 59 [zS a2 b.length c3,i64 c6,Value.int .u64 c7]::box j 27 h::L) w) aI aI
  ·exact aI
theorem aIN {j:(List UInt8)} {R:(aO × aO)} (hm:aGN j=some R) (hs:aD G K (L) w) (m:aT K a1 c2 j):
  Calls prog 5 ([zS a1 j.length c2]:List Value).toArray w (dO fun v w'=>∃ b3 b5 b6 b8 b9 c0 c1 c3,v=Value.tuple #[zA (zCa R.1 b3 b5 b6 b8),zA (zCa R.2 b9 c0 c1 c3)]/\aD G K (aH 9 K b3 b5 R.1.L::aH 61 K b6 b8 R.1.E::aH 9 K b9 c0 R.2.L::aH 61 K c1 c3 R.2.E::L) w'):=by
 let c:=zG
 refine cA func5 ?_;unfold aGN at hm
 refine aC ?_;refine jH fun n w5 q4=>?_
 refine jH fun o w8 d7=>?_;refine aC ?_
 obtain ⟨q6,d8,hm⟩:=aB hm
 refine bP call12 (aID d8 d7 m) ?_
 rintro _ q7 ⟨u,rfl,d9⟩
 refine aC ?_;obtain ⟨a,e0,hm⟩:=aB hm
 refine bP call13 (aCC e0 d9 m) ?_
 rintro _ q8 ⟨d,e,g,h,rfl,q9⟩
 refine jH fun p r0 r1=>?_;refine kM fun e1 r2=>?_
 refine aC ?_
 have e2:aD G K (box u 59 [zS a1 j.length c2,i64 a.2.1,Value.int .u64 a.2.2]::box p 27 (zC a.1 d e g h)::aH 9 K d e a.1.L::aH 61 K g h a.1.E::box o 27 c::box n 27 c::L) e1:=oK
 obtain ⟨b,e3,hm⟩:=aB hm
 refine bP call13 (aCC e3 e2 m) ?_
 rintro _ r3 ⟨x,y,z,V,rfl,r4⟩
 refine jH fun a8 r5 r6=>?_;refine kM fun e4 r7=>?_
 refine aC ?_
 have e5:aD G K (box u 59 [zS a1 j.length c2,i64 b.2.1,Value.int .u64 b.2.2]::box a8 27 (zC b.1 x y z V)::aH 9 K x y b.1.L::aH 61 K z V b.1.E::box p 27 (zC a.1 d e g h)::aH 9 K d e a.1.L::aH 61 K g h a.1.E::box o 27 c::box n 27 c::L) e4:=oK
 obtain ⟨c4,e6,hm⟩:=aB hm
 refine bP call14 (cB e6 e5 m) ?_
 rintro _ r8 ⟨rfl,l⟩
 refine aC ?_;refine aJ [2,3,5,6] (fun f w=>∃ Z a0 q r a2 a3 a4 a5,jO a Z a0 q r=some R/\aD G K (aH 61 K a4 a5 r::aH 9 K a2 a3 q::box a8 27 [i64 Z,i64 a0,zS a2 q.length a3,zS a4 r.length a5]::box p 27 (zC a.1 d e g h)::aH 9 K d e a.1.L::aH 61 K g h a.1.E::box o 27 c::box n 27 c::L) w) ?_ ?_
 ·rintro f r9 ⟨Z,a0,q,r,a2,a3,a4,a5,hm,e7⟩
  unfold jO at hm
  refine aC ?_;obtain ⟨s0,s1,e8,e9,s2⟩:=aD.lendBp e7 zt2
  obtain ⟨s3,f0,s4,s5,s6⟩:=aD.lendBp e9 zt2
  refine aBr [(0,0),(1,0),(2,1),(3,2)] fun s7 c5=>?_;refine aC ?_
  exact cS rfl (fun _ ⟨_,c5⟩=>jR (t:=0) (vs:=[i64 Z,i64 a0,zS a2 q.length a3,zS a4 r.length a5]) fF c5 (e8.mono f0) rfl rfl rfl) (lV rfl aI)
 refine aC ?_
 rcases aG hm with ⟨f1,hm⟩|⟨f1,hm⟩
 ·refine aC ?_;obtain ⟨s8,f2,f3,f4,f5⟩:=aD.lendSp l (zR _) zt5
  obtain ⟨s9,f6,f7,f8,f9⟩:=aD.lendSp f4 f2 zt5
  obtain ⟨t0,c6,g0,g1,g2⟩:=aD.lendBp f8 zt4
  obtain ⟨t1,g3,hm⟩:=aB hm
  refine bP call15 (aHO g3 g1 g0 (f3.mono (zL f6 c6)) (f7.mono c6)) ?_
  rintro _ t2 ⟨t3,t4,t5,t6,rfl,g4⟩
  have g5:=g2 _ _ g4
  have g6:=f9 _ _ g5
  have t7:=f5 _ _ g6
  exact aI
 ·refine aC ?_
  rcases aG hm with ⟨g7,hm⟩|⟨g7,hm⟩
  ·refine aC ?_;obtain ⟨t8,g8,g9,h0,h1⟩:=aD.lendSp l (zR _) zt5
   obtain ⟨t9,h2,h4,h5,h6⟩:=aD.lendSp h0 g8 zt5
   obtain ⟨u0,c7,h7,h8,h9⟩:=aD.lendBp h5 zt4
   obtain ⟨u1,i0,hm⟩:=aB hm
   refine bP call16 (aDR i0 h8 h7 (g9.mono (zL h2 c7)) (h4.mono c7)) ?_
   rintro _ u2 ⟨u3,u4,u5,u6,rfl,i1⟩
   have i2:=h9 _ _ i1
   have i3:=h6 _ _ i2
   have u7:=h1 _ _ i3
   exact aI
  ·refine aC ?_
   rcases aG hm with ⟨i4,hm⟩|⟨i4,hm⟩
   ·refine aC ?_;obtain ⟨u8,i5,i6,i7,i8⟩:=aD.lendSp l (zR _) zt5
    obtain ⟨u9,i9,j0,j1,j2⟩:=aD.lendSp i7 i5 zt5
    obtain ⟨v0,c8,j3,j4,j5⟩:=aD.lendBp j1 zt4
    obtain ⟨v1,j6,hm⟩:=aB hm
    refine bP call16 (aDR j6 j4 j3 (i6.mono (zL i9 c8)) (j0.mono c8)) ?_
    rintro _ v2 ⟨v3,v4,v5,v6,rfl,j7⟩
    have j8:=j5 _ _ j7
    have j9:=j2 _ _ j8
    have v7:=i8 _ _ j9
    exact aI
   ·refine aC ?_
    rcases aG hm with ⟨k0,hm⟩|⟨k0,hm⟩
    ·refine aC ?_;obtain ⟨v8,k1,k2,k3,k4⟩:=aD.lendSp l (zR _) zt5
     obtain ⟨v9,k5,k6,k7,k8⟩:=aD.lendSp k3 k1 zt5
     obtain ⟨w0,c9,k9,l0,l1⟩:=aD.lendBp k7 zt4
     obtain ⟨w1,l2,hm⟩:=aB hm
     refine bP call17 (aHS l2 l0 k9 (k2.mono (zL k5 c9)) (k6.mono c9)) ?_
     rintro _ w2 ⟨w3,w4,w6,w7,rfl,l3⟩
     have l4:=l1 _ _ l3
     have l5:=k8 _ _ l4
     have w9:=k4 _ _ l5
     exact aI
    ·refine aC ?_
     rcases aG hm with ⟨l6,hm⟩|⟨l6,hm⟩
     ·refine aC ?_;obtain ⟨x0,l7,l8,l9,m0⟩:=aD.lendSp l (zR _) zt5
      obtain ⟨x1,m1,m2,m3,m4⟩:=aD.lendSp l9 l7 zt5
      obtain ⟨x2,d0,m5,m6,m7⟩:=aD.lendBp m3 zt4
      obtain ⟨x3,m8,hm⟩:=aB hm
      refine bP call18 (aIM m8 m6 m5 (l8.mono (zL m1 d0)) (m2.mono d0)) ?_
      rintro _ x4 ⟨x5,x6,x7,x8,x9,y0,y1,rfl,y2,m9⟩
      have n0:=m7 _ _ m9
      have n1:=m4 _ _ n0
      have y3:=m0 _ _ n1
      exact aI
     ·refine aC ?_
      rcases aG hm with ⟨n2,hm⟩|⟨n2,hm⟩
      ·refine aC ?_;obtain ⟨y4,n3,n4,n5,n6⟩:=aD.lendSp l (zR _) zt5
       obtain ⟨y5,n7,n8,n9,o0⟩:=aD.lendSp n5 n3 zt5
       obtain ⟨y6,d1,o1,o2,o3⟩:=aD.lendBp n9 zt4
       obtain ⟨k,o4,hm⟩:=aB hm
       refine bP call19 (aJU o4 o2 o1 (n4.mono (zL n7 d1)) (n8.mono d1)) ?_
       rintro _ y7 ⟨a9,b0,a6,a7,rfl,o5⟩
       have o6:=o3 _ _ o5
       have o7:=o0 _ _ o6
       have y8:=n6 _ _ o7
       refine kM fun o8 y9=>?_;refine aC ?_
       rcases aG hm with ⟨o9,hm⟩|⟨o9,hm⟩
       ·refine aC ?_
        have p0:aD G K (box u 59 [zS a1 j.length c2,i64 c4.2.1,Value.int .u64 c4.2.2]::aH 9 K d e a.1.L::aH 61 K g h a.1.E::box p 27 (zC a.1 d e g h)::aH 9 K a9 b0 k.L::aH 61 K a6 a7 k.E::box a8 27 (zC k a9 b0 a6 a7)::aH 9 K x y b.1.L::aH 61 K z V b.1.E::box o 27 c::box n 27 c::L) o8:=oK
        obtain ⟨b1,p1,hm⟩:=aB hm
        refine bP call14 (cB p1 p0 m) ?_
        rintro _ z0 ⟨rfl,p2⟩
        refine aC ?_;obtain ⟨p3,z1,z2,z3,p4⟩:=aD.lendBp p2 zt6
        refine aBr [(0,0),(1,0),(2,0),(3,0),(4,0),(5,0),(6,0),(7,0),(8,0),(9,1),(10,0),(11,2)] fun z4 b2=>?_;refine aC ?_
        obtain ⟨z5,d2,hm⟩:=aB hm
        have p5:=mX b2 (i:=5) rfl
        obtain ⟨z6,z7,d3⟩:=Cut.ex 3 a6 a7 0
        refine cS rfl (fun _ _=>aIk lH p5 d3 rfl rfl rfl d2) (aC ?_);obtain ⟨z8,d4,hm⟩:=aB hm
        have p6:=mX b2 (i:=5) rfl
        obtain ⟨z9,a00,d5⟩:=Cut.ex 3 a6 a7 (wr (b1.1+1))
        refine cS rfl (fun _ _=>yR lH p6 d5 rfl rfl rfl d4) (lV rfl ?_);obtain ⟨p7,p8,hm⟩:=aB hm
        refine WO_appV (i:=5) lH underlying25 aEE rfl rfl b2 rfl d2 d3 d4 d5 p8 rfl rfl rfl rfl (fun p9 q0 q1 (d6:aD G p3 (box u 59 [zS a1 j.length c2,i64 b1.2.1,Value.int .u64 b1.2.2]::aH 9 K d e a.1.L::aH 61 K g h a.1.E::box p 27 (zC a.1 d e g h)::aH 9 K a9 b0 k.L::aH 61 K p9 q0 p7::aH 9 K x y b.1.L::aH 61 K z V b.1.E::box o 27 c::box n 27 c::L) q1)=>(aM (aF ⟨⟨_,d6⟩,?_⟩)))
        refine aC ?_
        have a01:=p4 _ _ d6
        exact aI
       ·exact aI
      ·exact aI
theorem aHz {a b:aO} {p:(List Int)} {R:Bool} (hm:nP a b p=some R) (c:aD G K (L) w) (d:aT K a1 c2 a.L) (e:aT K a4 c5 a.E) (g:aT K a7 c8 b.L) (h:aT K a10 c11 b.E) (i:aT K a13 c14 p):
  Calls prog 44 ([zA (zCa a a1 c2 a4 c5),zA (zCa b a7 c8 a10 c11),zS a13 p.length c14]:List Value).toArray w (dO fun v w'=>v=Value.bool R/\aD G K (L) w'):=by
 exact aI
end Gv
