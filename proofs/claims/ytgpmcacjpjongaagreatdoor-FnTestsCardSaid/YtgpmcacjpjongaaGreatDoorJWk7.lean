/- Walks, printed by program. -/
import Derived.Test.YtgpmcacjpjongaaGreatDoorJWk5
set_option linter.all false
namespace Gv
open Go.Value renaming slice→zS,bool→zB,pointer→zP,agg→zA,tuple→zT,map→zM
open Option.some renaming inj→zI
open Gv.Hp renaming le_trans→zL,le_refl→zR
open Go Go.Proofs Go.Proofs.Tryz
set_option maxRecDepth 20000
set_option maxHeartbeats 40000000
variable {G:wY} {K Kf:Hp} {L:List iN} {w:World} {a1 a4 a7 a2 a5 a6 a9 a11 a14 a17 a20 a10:Option Addr} {c2 c5 c8 b1 c3 c6 b4 b5 c7 c10 c18 c21 c11:Nat}
theorem mA {a R:(List Int)} (hm:dL a=some R) (hs:aD G K (aG 2 K a1 c2 a::L) w):
  Calls prog 138 ([zS a1 a.length c2]:List Value).toArray w (eR fun v w'=>∃ a3 a4,v=zS a3 R.length a4/\aD G K (aG 2 K a3 a4 R::L) w'):=by
 refine aR func138 rfl (by kernel_rfl) (by show (1:Nat)<=61;decide) ?_;unfold dL at hm
 refine aO (aI (v:=zS none 0 0) (aK (aM (aO (aL (v:=zS a1 a.length c2) (aH (bI (len:=a.length) dA rfl) (aH (cQ rfl rfl) (aK ?_))))))))
 rcases aN hm with ⟨c3,hm⟩|⟨c3,hm⟩
 ·exact aP
 ·refine aW c3 rfl (bB (aB (aM (aO (aI (v:=i64 1) (aK (aV [0] (fun f w=>nE a=some R/\aD G K (aG 2 K a1 c2 a::L) w) aP ?_)))))));obtain ⟨f3,d5,ho⟩:=aC hm
  refine cY [0] d5 (fun d f w=>f 3=i64 d/\aD G K (aG 2 K a1 c2 a::L) w) aP ?_
  ·rintro d a6 f f4 hm hr ⟨m,b⟩
   unfold eV at hm
   refine aM (aO (bC m (aL (v:=zS a1 a.length c2) (aH (bI (len:=a.length) dA rfl) (aH (cQ rfl rfl) (aK ?_))))))
   rcases aN hm with ⟨a7,hm⟩|⟨a7,hm⟩
   ·refine aT a7 rfl (bB (aB (aM (aV [0] (fun f w=>gJ d=some a6/\f 3=i64 d/\aD G K (aG 2 K a1 c2 a::L) w) ?_ ?_))))
    ·rintro f f5 ⟨hm,d6,d7⟩
     unfold gJ at hm
     exact aB (aZ (bC d6 (aH (eP rfl rfl) (aI (v:=i64 (wr (d+1))) (aK ⟨_,(zI hm).symm,bW,rfl,d7⟩)))))
    refine aM (pE (C:=fun w'=>aD G K (aG 2 K a1 c2 a::L) w') Tryz_mixed (by kernel_rfl) (aD.mono b (fN.drew _)) (dR (fun _ b=>bJ (v:=zS a1 a.length c2) rfl) (dR (fun _ b=>bJ m) ?_)));obtain ⟨f6,Z,hm⟩:=aC hm
    have e:=dM b (i:=0) rfl Z
    refine dR (fun _ b=>fQ dA rfl e rfl rfl rfl Z) (dR (fun _ b=>rB (t:=0) fK b (i:=0) rfl Z rfl rfl rfl) (dR (fun _ b=>bJ (v:=zS a1 a.length c2) rfl) (dR (fun _ b=>bJ m) (dR (fun _ b=>qZ rfl rfl) ?_))));obtain ⟨f7,a8,hm⟩:=aC hm
    refine dR (fun _ b=>fQ dA rfl e rfl rfl rfl a8) (dR (fun _ b=>rB (t:=0) fK b (i:=0) rfl a8 rfl rfl rfl) (dR (fun _ b=>nW rfl rfl) (aCu (fun f8 d8=>(aB ?_)))))
    rcases aN hm with ⟨a9,hm⟩|⟨a9,hm⟩
    ·refine aT a9 rfl (aO (aL (v:=zS a1 a.length c2) (bC m ?_)));obtain ⟨g,o,hm⟩:=aC hm
     have p:=lL d8 (i:=0) rfl
     obtain ⟨j,k,q⟩:=Cut.ex 1 a1 c2 d
     refine aH (vK dA p q rfl rfl rfl o) (aI (v:=zS j g.length k) (aK (aM (aO (aI (v:=i64 1) (aK (aV [] (fun f w=>∃ r u,gK r u=some a6/\f 0=zS a1 r.length c2/\f 3=i64 u/\aD G K (aG 2 K a1 c2 r::L) w) ?_ ?_)))))))
     ·rintro f f9 ⟨r,u,hm,b0,b1,b2⟩
      unfold gK at hm
      refine aB (aO (bC b0 (bC b1 ?_)));obtain ⟨g0,d9,hm⟩:=aC hm
      have e0:=lL b2 (i:=0) rfl
      obtain ⟨g1,g2,b3⟩:=Cut.ex 1 a1 c2 u
      refine aH (vK dA e0 b3 rfl rfl rfl d9) ?_;obtain ⟨b4,b5,hm⟩:=aC hm
      refine aCb dA rZ rfl b2 (i:=0) rfl b3 rfl rfl b5 (fun b6 (b7:aD G K (aG 2 K a1 c2 b4::L) b6)=>(aK (aO (bC (v:=zS a1 b4.length c2) (Eq.trans b0 (congrArg (fun n=>zS a1 n c2) (aGq b5))) (bC b1 ?_)))));obtain ⟨a0,b8,hm⟩:=aC hm
      have e1:=lL b7 (i:=0) rfl
      obtain ⟨b9,c0,c1⟩:=Cut.ex 1 a1 c2 0
      refine aH (aCy dA e1 c1 rfl rfl rfl b8) (aI (v:=zS b9 a0.length c0) (aK (kX (gO (cC (cC (cC ?_)))))))
      have e2:=hr _ (zI hm).symm
      subst e2
      have hm:(some a0)=some R:=ho
      clear hr ho
      have g3:aD G K (aG 2 K b9 c0 a0::L) b6:=aD.cutP b7 (i:=0) rfl b8 c1
      exact aP
     obtain ⟨g4,e3,ho⟩:=aC hm
     refine tB [4] e3 (fun x y z f w=>f 0=zS a1 x.length c2/\f 3=i64 y/\f 5=i64 z/\aD G K (aG 2 K a1 c2 x::L) w) aP ?_
     ·rintro x y z e4 f g5 hm hr ⟨c4,c5,l,c⟩
      unfold eU at hm
      refine aM (aO (bC l (aL (v:=zS j g.length k) (aH (bI (len:=g.length) dA rfl) (aH (cQ rfl rfl) (aK ?_))))))
      rcases aN hm with ⟨c6,hm⟩|⟨c6,hm⟩
      ·refine aT c6 rfl (bB (aB (aM (aV [4,5] (fun f w=>∃ V a2,eT z V a2=some e4/\f 0=zS a1 V.length c2/\f 3=i64 a2/\aD G K (aG 2 K a1 c2 V::L) w) ?_ ?_))))
       ·rintro f g6 ⟨V,a2,hm,e5,e6,e7⟩
        unfold eT at hm
        exact aB (aZ (bC l (aH (eP rfl rfl) (aI (v:=i64 (wr (z+1))) (aK ⟨_,(zI hm).symm,bW,e5,e6,rfl,e7⟩)))))
       refine aM (pE (C:=fun w'=>aD G K (aG 2 K a1 c2 x::L) w') Tryz_mixed (by kernel_rfl) (aD.mono c (fN.drew _)) (dR (fun _ c=>bJ (v:=zS j g.length k) rfl) (dR (fun _ c=>bJ l) ?_)));obtain ⟨g7,c7,hm⟩:=aC hm
       obtain ⟨c8,c9,hm⟩:=aC hm
       refine dR (fun _ c=>aHF dA e q o p rfl rfl rfl c7 rfl) (dR (fun _ c=>rB (t:=0) fK c (i:=0) rfl c9 rfl rfl rfl) (dR (fun _ c=>bJ (v:=zS j g.length k) rfl) (dR (fun _ c=>bJ l) (dR (fun _ c=>qZ rfl rfl) ?_))));obtain ⟨g8,e8,hm⟩:=aC hm
       obtain ⟨g9,e9,hm⟩:=aC hm
       refine dR (fun _ c=>aHF dA e q o p rfl rfl rfl e8 rfl) (dR (fun _ c=>rB (t:=0) fK c (i:=0) rfl e9 rfl rfl rfl) (dR (fun _ c=>aFE rfl rfl) (aCu (fun h0 d0=>(aB ?_)))))
       rcases aN hm with ⟨d1,hm⟩|⟨d1,hm⟩
       ·refine aT d1 rfl (aO (bC c4 (bC c5 (aL (v:=zS j g.length k) (bC l (aH (aHF dA e q o p rfl rfl rfl c7 rfl) (aH (rB (t:=0) fK d0 (i:=0) rfl c9 rfl rfl rfl) ?_)))))));obtain ⟨h1,d2,hm⟩:=aC hm
        refine aH (fQ dA rfl e rfl rfl rfl d2) ?_;obtain ⟨d3,d4,hm⟩:=aC hm
        exact pD (i:=0) (t:=0) (ns:=[i64 c8]) (e':=(c8:Int)) sizeOf2 d0 rfl (zR _) rfl rfl rfl d2 d4 rfl rfl (cK rfl) rfl (fun cs h=>by cases h;rfl) (fun f0 (f1:aD G K (aG 2 K a1 c2 d3::L) f0)=>(aK (aZ (bC c5 (aH (eP rfl rfl) (aI (v:=i64 (wr (y+1))) (aJ (cT (aB ⟨bW,d3,wr (y+1),hm,(Eq.trans c4 (congrArg (fun n=>zS a1 n c2) (mV d4))),rfl,f1⟩)))))))))
       ·exact aP
      ·exact aP
    ·exact aP
   ·exact aP
theorem aDN {t:bF} {q:(List Int)} {u:aF} {R:(List Int)} (hm:iB t q u=some R) (hs:aD G K (L) w) (h3:bS K a1 c2 t.L) (x:bS K a4 c5 t.E) (h9:bS K a7 c8 q):
  Calls prog 100 ([zA (zCa t a1 c2 a4 c5),zS a7 q.length c8,str u]:List Value).toArray w (eR fun v w'=>∃ y z,v=zS y R.length z/\aD G K (aG 2 K y z R::L) w'):=by
 let e:=(zC t a1 c2 a4 c5)
 refine aR func100 rfl (by kernel_rfl) (by show (3:Nat)<=41;decide) ?_;unfold iB at hm
 refine aO (fL (v:=zA (zCa t a1 c2 a4 c5)) (vs:=e) hs rfl rfl (fun l c7 V=>(aI (v:=zS none 0 0) (aK (aO (aI (v:=zS none 0 0) (aK (aM (aO (aH (bP (t':=3) dF rfl rfl) (aH (fP iT V (i:=0) rfl rfl rfl) (aH (bI (len:=t.E.length) cM rfl) (aL (v:=i64 0) (aK (aV [] (fun f w=>∃ g b c,nR g=some R/\f 7=zS b g.length c/\aD G K (aG 2 K b c g::L) w) ?_ ?_)))))))))))))))
 ·rintro f c9 ⟨g,b,c,hm,Z,b1⟩
  unfold nR at hm
  refine aB (aO (bC Z ?_));obtain ⟨a0,b2,hm⟩:=aC hm
  refine aQ (vs:=[zS b g.length c]) call106 rfl (aFS b1 b2) ?_
  rintro _ d0 ⟨rfl,b3,b4⟩
  refine aK (aO (bC (v:=zS b a0.length c) (Eq.trans Z (congrArg (fun n=>zS b n c) b3)) ?_));obtain ⟨d1,b5,hm⟩:=aC hm
  exact aQ (vs:=[zS b a0.length c]) call138 rfl (mA b5 b4) aP
 have d2:=aD.nil (α:=Int) V 2 K
 obtain ⟨d3,b6,ho⟩:=aC hm
 refine cZ [1,2,3,11,12] b6 (fun d h f w=>∃ j k,f 7=zS j d.length k/\f 13=i64 h/\aD G K (aG 2 K j k d::box l 27 e::L) w) aP ?_
 ·rintro d h a2 f d4 hm hr ⟨j,k,d5,r,a3⟩
  unfold gT at hm
  refine aO (aH (cQ r rfl) (aK (aM ?_)))
  rcases aN hm with ⟨a5,hm⟩|⟨a5,hm⟩
  ·refine aT a5 rfl (bB (aB (aM (aV [1,2,3,11,12,13] (fun f w=>∃ m o p,lR h m=some a2/\f 7=zS o m.length p/\aD G K (aG 2 K o p m::box l 27 e::L) w) ?_ ?_))))
   ·rintro f d6 ⟨m,o,p,hm,b7,b8⟩
    unfold lR at hm
    exact aB (aZ (aH (eP r rfl) (aL (v:=i64 (wr (h+1))) (aK ⟨_,(zI hm).symm,bW,o,p,b7,rfl,b8⟩))))
   refine aO ?_;obtain ⟨a,a6,hm⟩:=aC hm
   refine aH (jF cM rfl x rfl rfl r a6) ?_;obtain ⟨d7,b9,c0⟩:=bS.el (sz:=3) rfl x a6
   cases c0
   exact aH (eJ (t:=0) (vs:=[i64 a.F,i64 a.B,i64 a.To]) tE a3 b9 rfl rfl rfl) (aX (vs:=[i64 0,i64 0,i64 0]) zeroValue46 a3 rfl (fun a8 d8 c1=>(bH (i:=0) (ns:=[i64 a.F,i64 a.B,i64 a.To]) (us:=[i64 a.F,i64 a.B,i64 a.To]) sizeOf46 c1 rfl rfl rfl rfl rfl (cK rfl) rfl rfl (fun c3 (d9:aD G K (box a8 46 [i64 a.F,i64 a.B,i64 a.To]::aG 2 K j k d::box l 27 e::L) c3)=>(aK (aM (bR [1,2,3,7,9,11,12,13] (fun f w=>∃ a9,nS d h a a9=some a2/\f 30=zB a9/\aD G K (box a8 46 [i64 a.F,i64 a.B,i64 a.To]::aG 2 K j k d::box l 27 e::L) w) aP aP)))))))
  ·exact aP
theorem nH {a R:(List Int)} (hm:iU a=some R) (j:aD G K (L) w) (d:bS K a1 c2 a):
  Calls prog 104 ([zS a1 a.length c2]:List Value).toArray w (eR fun v w'=>∃ e g,v=zS e R.length g/\aD G K (aG 2 K e g R::L) w'):=by
 refine aR func104 rfl (by kernel_rfl) (by show (1:Nat)<=8;decide) ?_;unfold iU at hm
 refine aO (aI (v:=zS none 0 0) (aK (aM (aO (aL (v:=zS a1 a.length c2) (aH (aMt dA rfl rfl) (aK ?_)))))))
 rcases aLC d with ⟨k,l,m⟩|n
 ·subst k;subst l;subst m
  refine aNh rfl ?_
  replace hm:(some [])=some R:=hm
  exact aP
 ·refine aNi (Eq.trans rfl (congrArg zB n)) (bB (aB (aO (bL (Kt:=K) (xs:=([]:List Int)) (cs:=[]) (vs:=[]) dA rZ rfl rfl j rfl (by kernel_rfl) rfl rfl rfl trivial (fun o p (q:aD G K (aG 2 K o 0 ([]:List Int)::L) p)=>(aL (v:=zS a1 a.length c2) ?_))))));obtain ⟨h,r,hm⟩:=aC hm
  refine aGY (i:=0) dA underlying55 rZ rfl rfl q rfl (zR _) d r rfl rfl rfl rfl (fun b c t (u:aD G K (aG 2 K b c h::L) t)=>(aI (v:=zS b h.length c) (aK ?_)));obtain rfl:=zI hm
  exact kX (aCr results104 rfl ⟨b,c,rfl,u⟩)
theorem vP {t:bF} {d R:(List Int)} (hm:jV t d=some R) (hs:aD G K (L) w) (h3:bS K a1 c2 t.L) (h6:bS K a4 c5 t.E) (h9:bS K a7 c8 d):
  Calls prog 54 ([zA (zCa t a1 c2 a4 c5),zS a7 d.length c8]:List Value).toArray w (eR fun v w'=>∃ a9 b0,v=zS a9 R.length b0/\aD G K (aG 2 K a9 b0 R::L) w'):=by
 let c:=(zC t a1 c2 a4 c5)
 refine aR func54 rfl (by kernel_rfl) (by show (2:Nat)<=41;decide) ?_;unfold jV at hm
 refine aO (fL (v:=zA (zCa t a1 c2 a4 c5)) (vs:=c) hs rfl rfl (fun e g9 d6=>(aI (v:=zS none 0 0) (aK (aO (aL (v:=zS a7 d.length c8) ?_))))));obtain ⟨d7,d8,hm⟩:=aC hm
 refine aQ (vs:=[zS a7 d.length c8]) call104 rfl (nH d8 d6 h9) ?_
 rintro _ h0 ⟨d9,e0,rfl,h1⟩
 refine aI (v:=zS d9 d7.length e0) (aK (aM (aO (aI (v:=i64 0) (aK (aV [] (fun f w=>∃ g a b,sT g=some R/\f 5=zS a g.length b/\aD G K (aG 2 K a b g::L) w) ?_ ?_))))))
 ·rintro f h2 ⟨g,a,b,hm,b1,e1⟩
  unfold sT at hm
  refine aB (aO (bC b1 ?_));obtain ⟨b2,e2,hm⟩:=aC hm
  refine aQ (vs:=[zS a g.length b]) call106 rfl (aFS e1 e2) ?_
  rintro _ h4 ⟨rfl,e3,e4⟩
  refine aK (aO (bC (v:=zS a b2.length b) (Eq.trans b1 (congrArg (fun n=>zS a n b) e3)) (aI (v:=zS a b2.length b) (aK ?_))));obtain rfl:=zI hm
  exact kX (aCr results54 rfl ⟨a,b,rfl,e4⟩)
 obtain ⟨h5,e6,ho⟩:=aC hm
 refine cZ [2] e6 (fun l h f w=>∃ y z,f 5=zS y l.length z/\f 6=i64 h/\aD G K (aG 2 K y z l::box e 27 c::L) w) aP ?_
 ·rintro l h b3 f h7 hm hr ⟨y,z,b4,V,e7⟩
  unfold oH at hm
  refine aM (aO (bC V (bC b4 (aH (bI (len:=l.length) dA rfl) (aH (cQ rfl rfl) (aK ?_))))))
  rcases aN hm with ⟨b5,hm⟩|⟨b5,hm⟩
  ·refine aT b5 rfl (bB (aB (aM (aV [2,6] (fun f w=>∃ m o p,sU h m=some b3/\f 5=zS o m.length p/\aD G K (aG 2 K o p m::box e 27 c::L) w) ?_ ?_))))
   ·rintro f h8 ⟨m,o,p,hm,e8,e9⟩
    unfold sU at hm
    exact aB (aZ (bC V (aH (eP rfl rfl) (aI (v:=i64 (wr (h+1))) (aK ⟨_,(zI hm).symm,bW,o,p,e8,rfl,e9⟩)))))
   refine aM ?_;obtain ⟨i0,Z,b6,f0,f1⟩:=aD.lendSp e7 (zR _) .head
   obtain ⟨b7,i,f2,b8,f3⟩:=aD.lendBp f0 .head
   refine dX (C:=fun w'=>∃ L',aD G b7 L' w') [(0,0),(1,0),(2,0),(3,0),(4,0),(8,0),(5,1),(6,1),(7,0)] Tryz_mixed (by kernel_rfl) (fun _ hg=>⟨_,aD.mono b8 hg⟩) (fun i1 f4=>?_)
   have j:=aD.mono b8 f4
   refine bZ rfl (fun _ ⟨_,j⟩=>eJ (t:=0) (vs:=c) cW j f2 rfl rfl rfl) (bZ rfl (fun _ _=>bJ b4) (bZ rfl (fun _ _=>bJ V) ?_));obtain ⟨k,a0,hm⟩:=aC hm
   have f5:=aHD (b6.mono i) a0
   refine bZ rfl (fun _ _=>fQ dA rfl f5 rfl rfl rfl a0) ?_;obtain ⟨i2,f6,f7⟩:=bS.el (sz:=1) rfl (b6.mono i) a0
   cases f7
   refine bZ rfl (fun _ ⟨_,j⟩=>bG (t:=0) fK j f6 rfl rfl) (bZ rfl (fun _ _=>bJ (v:=i64 0) rfl) (gP rfl (bL (Kt:=K) (xs:=([k]:List Int)) (cs:=[i64 k]) (vs:=[(0,i64 k)]) dA rZ rfl rfl j rfl (by kernel_rfl) rfl rfl rfl ⟨rfl,trivial⟩ (fun b9 f8 (c0:aD G b7 (aG 2 K b9 1 ([k]:List Int)::L) f8)=>(aJ (aB ⟨⟨_,c0⟩,?_⟩))))))
   refine gP rfl ?_;obtain ⟨i3,c1,f9,g0,g1⟩:=aD.lendSp c0 (zL Z i) .head
   obtain ⟨a2,g2,hm⟩:=aC hm
   refine aQ (vs:=[zA (zCa t a1 c2 a4 c5),zS b9 ([k]:List Int).length 1,str ([116,97,117]:aF)]) call100 rfl (aDN g2 g0 (h3.mono (zL (zL Z i) c1)) (h6.mono (zL (zL Z i) c1)) f9) ?_
   rintro _ i4 ⟨c3,c4,rfl,g3⟩
   have c6:=g1 _ _ g3
   refine aJ (aB ⟨⟨_,c6⟩,?_⟩)
   refine bZ rfl (fun _ _=>bI (len:=a2.length) dA rfl) (aCv ?_)
   have g4:=f3 _ _ c6
   have i5:=f1 _ _ g4
   refine aB (aV [2,6] (fun f w=>∃ a3 c7 c9,zJ h a3=some b3/\f 5=zS c7 a3.length c9/\aD G K (aG 2 K c7 c9 a3::box e 27 c::L) w) aP ?_);obtain ⟨i6,g5,ho⟩:=aC hm
   refine cZ [2,6,23,24] g5 (fun a5 q f w=>∃ a6 a8,f 5=zS a6 a5.length a8/\f 25=i64 q/\aD G K (aG 2 K a6 a8 a5::box e 27 c::aG 2 K c3 c4 a2::L) w) aP ?_
   ·rintro a5 q g6 f i7 hm hr ⟨a6,a8,i8,d0,i9⟩
    unfold lP at hm
    refine aO (aH (cQ d0 rfl) (aK (aM ?_)))
    rcases aN hm with ⟨d1,hm⟩|⟨d1,hm⟩
    ·refine aT d1 rfl (bB (aB (aM (aV [2,6,23,24,25] (fun f w=>∃ r u x,oG q r=some g6/\f 5=zS u r.length x/\aD G K (aG 2 K u x r::box e 27 c::aG 2 K c3 c4 a2::L) w) ?_ ?_))))
     ·rintro f j0 ⟨r,u,x,hm,g7,g8⟩
      unfold oG at hm
      exact aB (aZ (aH (eP d0 rfl) (aL (v:=i64 (wr (q+1))) (aK ⟨_,(zI hm).symm,bW,u,x,g7,rfl,g8⟩))))
     exact aP
    ·exact aP
  ·exact aP
theorem aBw {arcs:(List mN)} {R:(List aF)} (hm:aCW arcs=some R) (j:aD G K (L) w) (m:bS K a1 c2 arcs):
  Calls prog 159 ([zS a1 arcs.length c2]:List Value).toArray w (eR fun v w'=>∃ b c,v=zS b R.length c/\aD G K (aG 9 K b c R::L) w'):=by
 refine aR func159 rfl (by kernel_rfl) (by show (1:Nat)<=19;decide) ?_;unfold aCW at hm
 refine aO (aI (v:=zS none 0 0) (aK (aO (aI (v:=zS none 0 0) (aK (aM (aO (aL (v:=zS a1 arcs.length c2) (aH (bI (len:=arcs.length) aFl rfl) (aL (v:=i64 0) (aK (aV [] (fun f w=>∃ a d e,aGO a=some R/\f 3=zS d a.length e/\aD G K (aG 9 K d e a::L) w) aP ?_))))))))))))
 have n:=aD.nil (α:=aF) j 9 K
 obtain ⟨o,k,ho⟩:=aC hm
 exact cZ [6,7] k (fun g l f w=>∃ h i,f 3=zS h g.length i/\f 8=i64 l/\aD G K (aG 9 K h i g::L) w) aP aP
theorem vF {a:(List Int)} {R:aF} (hm:oI a=some R) (b:aD G K (L) w) (c:G.lo=0) (d:bS K a1 c2 a):
  Calls prog 130 ([zS a1 a.length c2]:List Value).toArray w (eR fun v w'=>v=str R/\aD G K (L) w'):=by
 exact aP
theorem aDi {t:bF} {a:(List Int)} {b:aF} {R:(List Int)} (hm:jP t a b=some R) (g:aD G K (L) w) (k:bS K a1 c2 t.L) (l:bS K a4 c5 t.E) (m:bS K a7 c8 a):
  Calls prog 55 ([zA (zCa t a1 c2 a4 c5),zS a7 a.length c8,str b]:List Value).toArray w (eR fun v w'=>∃ c d,v=zS c R.length d/\aD G K (aG 2 K c d R::L) w'):=by
 refine aR func55 rfl (by kernel_rfl) (by show (3:Nat)<=13;decide) ?_;unfold jP at hm
 refine aO (fL (v:=zA (zCa t a1 c2 a4 c5)) (vs:=(zC t a1 c2 a4 c5)) g rfl rfl (fun n o h=>(aI (v:=zS none 0 0) (aK (aM ?_)))));obtain ⟨i,p,q,e,r⟩:=aD.lendBp h .head
 refine dX (C:=fun w'=>∃ L',aD G i L' w') [(0,0),(1,0),(2,0),(3,0),(4,1),(5,1),(6,0)] Tryz_mixed (by kernel_rfl) (fun _ hg=>⟨_,aD.mono e hg⟩) (fun u j=>?_)
 have x:=aD.mono e j
 exact aP
theorem iC {b:(List (List Int))} {g:(List (aF × Int))} {a:Nat} {d:(List mN)} {c:(List Int)} {R:(Int × (List (List Int)) × (List (aF × Int)))} (hm:eM b g d c=some R) (t:aD G K (aG 55 Kf a2 c3 b::jE a g::aG 88 K a5 c6 d::box b1 181 [zS a2 b.length c3,zM (some a),zS a5 d.length c6,Value.func (.func 130) #[] #[]]::L) w) (hG:G.lo=0) (a8:Hp.le Kf K) (u:bS Kf a7 c8 c):
  Calls prog 157 ([zP (some ⟨b1,0,none⟩),zS a7 c.length c8]:List Value).toArray w (eR fun v w'=>∃ x y,v=i64 R.1/\aD G K (aG 55 Kf x y R.2.1::jE a R.2.2::aG 88 K a5 c6 d::box b1 181 [zS x R.2.1.length y,zM (some a),zS a5 d.length c6,Value.func (.func 130) #[] #[]]::L) w'):=by
 let q:=[zS a2 b.length c3,zM (some a),zS a5 d.length c6,Value.func (.func 130) #[] #[]]
 let n:=aG 88 K a5 c6 d
 refine aR func157 rfl (by kernel_rfl) (by show (2:Nat)<=47;decide) ?_;unfold eM at hm
 refine aO (aI (v:=i64 0) (aK (aO (aL (v:=zP (some ⟨b1,0,none⟩)) (aH (tA rfl) (aH (bP (t':=3) aNB rfl rfl) (aH (fP sc_158 t (i:=3) rfl rfl rfl) (aL (v:=zS a7 c.length c8) ?_))))))));obtain ⟨e,a9,hm⟩:=aC hm
 refine kN (vs:=[zS a7 c.length c8]) (caps:=[]) (us:=[zS a7 c.length c8]) rfl call130 rfl rfl (vF a9 t hG (u.mono a8)) ?_
 rintro _ c1 ⟨rfl,o⟩
 refine aI (v:=str e) (aK (aO (aL (v:=zP (some ⟨b1,0,none⟩)) (aH (tA rfl) (aH (bP (t':=1) aJY rfl rfl) (aH (fP sc_179 o (i:=3) rfl rfl rfl) (aL (v:=str e) (aH (R_look (kv:=g) (k:=e) (z:=(0:Int)) runUnderlying179 ko_9 zeroValue2 o (i:=1) rfl rfl rfl) (aL (v:=zT #[i64 ((oL g e).getD 0),zB ((oL g e).isSome)]) (aH (bD rfl rfl) (aH (bD rfl rfl) (aI (v:=i64 ((oL g e).getD 0)) (aI (v:=zB ((oL g e).isSome)) (aK (qE [] (fun f w=>∃ V r Z a0 a1,kR V r Z=some R/\f 6=i64 V/\aD G K (aG 55 Kf a0 a1 r::jE a Z::n::box b1 181 [zS a0 r.length a1,zM (some a),zS a5 d.length c6,Value.func (.func 130) #[] #[]]::L) w) aP (aO (aL (v:=zB ((oL g e).isSome)) (aH (rA rfl) (aK ?_)))))))))))))))))))
 rcases aN hm with ⟨a3,hm⟩|⟨a3,hm⟩
 ·refine aT a3 rfl (aO (aL (v:=zP (some ⟨b1,0,none⟩)) (aH (tA rfl) (aH (bP (t':=0) aAW rfl rfl) (aH (fP aHI o (i:=3) rfl rfl rfl) (aH (bI (len:=b.length) aAq rfl) (aI (v:=i64 (b.length:Int)) (aK (aO (aL (v:=zP (some ⟨b1,0,none⟩)) (aH (tA rfl) (aH (bP (t':=1) aJY rfl rfl) (aH (fP sc_179 o (i:=3) rfl rfl rfl) (aL (v:=str e) (aL (v:=i64 (b.length:Int)) ?_)))))))))))))));obtain ⟨p,b0,hm⟩:=aC hm
  refine aJV (i:=1) (k:=e) (v:=(b.length:Int)) runUnderlying179 ko_9 o rfl rfl rfl rfl b0 (fun b2 (a4:aD G K (aG 55 Kf a2 c3 b::jE a p::n::box b1 181 q::L) b2)=>(aK (aZ (aL (v:=zP (some ⟨b1,0,none⟩)) (aL (v:=zP (some ⟨b1,0,none⟩)) (aH (tA rfl) (aH (bP (t':=0) aAW rfl rfl) (aH (fP aHI a4 (i:=3) rfl rfl rfl) (aL (v:=zS a7 c.length c8) (bL (Kt:=Kf) (xs:=([c]:List (List Int))) (cs:=[zS a7 c.length c8]) (vs:=[(0,zS a7 c.length c8)]) aAq aLE rfl rfl a4 rfl (by kernel_rfl) rfl rfl rfl ⟨⟨a7,c8,rfl,u⟩,trivial⟩ (fun b3 b4 (b5:aD G K (aG 55 Kf b3 1 ([c]:List (List Int))::aG 55 Kf a2 c3 b::jE a p::n::box b1 181 q::L) b4)=>?_)))))))))))
  obtain ⟨j,b6,hm⟩:=aC hm
  exact wN (i:=0) Kf aAq underlying48 aLE rfl rfl b5 rfl (zR _) (zR _) b6 rfl rfl rfl rfl (fun _ _ _ h=>El.one h) (fun l m b7 (b8:aD G K (aG 55 Kf l m j::jE a p::n::box b1 181 q::L) b7)=>(aH (tA rfl) (aH (bP (t':=0) aAW rfl rfl) (bH (i:=3) (ns:=[zS l j.length m]) (us:=[zS l j.length m,zM (some a),zS a5 d.length c6,Value.func (.func 130) #[] #[]]) sizeOf48 b8 rfl rfl rfl rfl rfl (cK rfl) rfl rfl (fun b9 (c0:aD G K (aG 55 Kf l m j::jE a p::n::box b1 181 [zS l j.length m,zM (some a),zS a5 d.length c6,Value.func (.func 130) #[] #[]]::L) b9)=>(aK ⟨bW,(b.length:Int),j,p,l,m,hm,rfl,c0⟩))))))
 ·exact aP
theorem sV {d:aF} {u:(List Int)} {b0:(List (List Int))} {b8:(List (aF × Int))} {b:Nat} {l:(List mN)} {p:Int} {b9:Nat} {R:((List (List Int)) × (List (aF × Int)) × (List mN))} (hm:jW d u b0 b8 l p=some R) (hs:aD G K (aG 55 Kf a6 c7 b0::jE b b8::aG 88 K a9 c10 l::box b5 181 [zS a6 b0.length c7,zM (some b),zS a9 l.length c10,Value.func (.func 130) #[] #[]]::box b4 178 [zP (some ⟨b5,0,none⟩)]::L) w) (hG:G.lo=0) (c1:Hp.le Kf K) (h3:bS Kf a1 c2 u) (e1:fD K a11 b9 [i64 p]):
  Calls prog 158 ([str d,zS a1 u.length c2,zP (some ⟨b4,0,none⟩),cP a11 b9]:List Value).toArray w (eR fun v w'=>∃ c4 c5 c6 c8,v=zT #[]/\aD G K (aG 55 Kf c4 c5 R.1::jE b R.2.1::aG 88 K c6 c8 R.2.2::box b5 181 [zS c4 R.1.length c5,zM (some b),zS c6 R.2.2.length c8,Value.func (.func 130) #[] #[]]::box b4 178 [zP (some ⟨b5,0,none⟩)]::L) w'):=by
 let c9:=[zP (some ⟨b5,0,none⟩),zS a1 u.length c2]
 refine aR func158 rfl (by kernel_rfl) (by show (4:Nat)<=21;decide) ?_;unfold jW at hm
 refine bR [] (fun f w=>∃ b1 d0 b2 d1 d2 d3 d4,nL b1 d0 b2=some R/\aD G K (aG 88 K d3 d4 b2::aG 55 Kf d1 d2 b1::jE b d0::box b5 181 [zS d1 b1.length d2,zM (some b),zS d3 b2.length d4,Value.func (.func 130) #[] #[]]::box b4 178 [zP (some ⟨b5,0,none⟩)]::L) w) aP ?_;obtain ⟨m,n,b3,e2,b6⟩:=aD.lendBp hs zt4
 refine mM (C:=fun w'=>∃ L',aD G m L' w') [] Tryz_mixed (by kernel_rfl) (fun g1 e3=>?_)
 have c:=aD.mono e2 e3
 refine cI (i:=0) rfl (by kernel_rfl) ⟨_,c⟩ (fun _ ⟨_,c⟩=>bG (t:=0) aCA c b3 rfl rfl) (cI (i:=1) rfl (by kernel_rfl) ⟨_,c⟩ (fun _ ⟨_,c⟩=>bG (t:=0) aCA c b3 rfl rfl) (cI (i:=2) rfl (by kernel_rfl) ⟨_,c⟩ (fun _ _=>tA rfl) (cI (i:=3) rfl (by kernel_rfl) ⟨_,c⟩ (fun _ _=>bP (t':=2) aCB rfl rfl) (cI (i:=5) rfl (by kernel_rfl) ⟨_,c⟩ (fun _ ⟨_,c⟩=>bG (t:=0) sc_3 c (e1.mono n) rfl rfl) (cI (i:=6) rfl (by kernel_rfl) ⟨_,c⟩ (fun _ _=>bJ (v:=str d) rfl) (cI (i:=7) rfl (by kernel_rfl) ⟨_,c⟩ (fun _ ⟨_,c⟩=>bG (t:=0) aCA c b3 rfl rfl) (cI (i:=8) rfl (by kernel_rfl) ⟨_,c⟩ (fun _ _=>bJ (v:=zS a1 u.length c2) rfl) (fR (i:=4) (j:=9) (by kernel_rfl) rfl rfl ?_ ?_))))))))
 ·refine aH (fP aLG c (i:=3) rfl rfl rfl) (aJ (aB ⟨fun _=>⟨_,c⟩,?_⟩))
  refine aU (i:=9) (by kernel_rfl) rfl ?_;obtain ⟨e,e4,hm⟩:=aC hm
  refine aQ (vs:=c9) call157 rfl (iC (Kf:=Kf) e4 c hG (zL c1 n) h3) ?_
  rintro _ g2 ⟨o,q,rfl,b7⟩
  refine aJ (aB ⟨fun _=>⟨_,b7⟩,?_⟩)
  refine cI (i:=10) rfl (by kernel_rfl) ⟨_,b7⟩ (fun _ _=>fF (vs:=[(0,i64 p),(1,str d),(2,i64 e.1)]) (cs:=[i64 p,str d,i64 e.1]) bs_88 rfl (by kernel_rfl)) (aU (i:=11) (by kernel_rfl) rfl (bL (Kt:=K) (xs:=([⟨p,d,e.1⟩]:List mN)) (cs:=[i64 p,str d,i64 e.1]) (vs:=[(0,zA #[i64 p,str d,i64 e.1])]) aFl aHH rfl rfl b7 rfl (by kernel_rfl) rfl rfl rfl ⟨rfl,trivial⟩ (fun e5 e6 (d5:aD G m (aG 88 K e5 1 ([⟨p,d,e.1⟩]:List mN)::aG 55 Kf o q e.2.1::jE b e.2.2::aG 88 K a9 c10 l::box b5 181 [zS o e.2.1.length q,zM (some b),zS a9 l.length c10,Value.func (.func 130) #[] #[]]::L) e6)=>(aJ (aB ⟨fun _=>⟨_,d5⟩,?_⟩)))))
  refine aU (i:=12) (by kernel_rfl) rfl ?_;obtain ⟨x,e7,hm⟩:=aC hm
  refine eX (i:=2) aFl underlying85 aHH rfl rfl d5 rfl n n e7 rfl rfl rfl rfl (fun _ h=>h) (fun y c45 e8 (a4:aD G m (aG 55 Kf o q e.2.1::jE b e.2.2::aG 88 K y c45 x::box b5 181 [zS o e.2.1.length q,zM (some b),zS a9 l.length c10,Value.func (.func 130) #[] #[]]::L) e8)=>(aJ (aB ⟨fun _=>⟨_,a4⟩,?_⟩)))
  refine cI (i:=13) rfl (by kernel_rfl) ⟨_,a4⟩ (fun _ _=>tA rfl) (cI (i:=14) rfl (by kernel_rfl) ⟨_,a4⟩ (fun _ _=>bP (t':=2) aCB rfl rfl) (aU (i:=15) (by kernel_rfl) rfl (bH (i:=3) (ns:=[zS y x.length c45]) (us:=[zS o e.2.1.length q,zM (some b),zS y x.length c45,Value.func (.func 130) #[] #[]]) sizeOf85 a4 rfl rfl rfl rfl rfl (cK rfl) rfl rfl (fun e9 (d6:aD G m (aG 55 Kf o q e.2.1::jE b e.2.2::aG 88 K y c45 x::box b5 181 [zS o e.2.1.length q,zM (some b),zS y x.length c45,Value.func (.func 130) #[] #[]]::L) e9)=>(aJ (aB ⟨fun _=>⟨_,d6⟩,?_⟩))))))
  refine cO (by kernel_rfl) ?_
  have g3:=b6 _ _ d6
  exact aP
 ·obtain ⟨a,f0,hm⟩:=aC hm
  refine aQ (vs:=c9) call157 rfl (iC (Kf:=Kf) f0 c hG (zL c1 n) h3) ?_
  rintro _ g4 ⟨g,k,rfl,r⟩
  refine aJ (aB ⟨fun _=>⟨_,r⟩,?_⟩)
  refine cI (i:=10) rfl (by kernel_rfl) ⟨_,r⟩ (fun _ _=>fF (vs:=[(0,i64 p),(1,str d),(2,i64 a.1)]) (cs:=[i64 p,str d,i64 a.1]) bs_88 rfl (by kernel_rfl)) (fR (i:=4) (j:=11) (by kernel_rfl) rfl rfl ?_ ?_)
  ·refine aH (fP aLG r (i:=3) rfl rfl rfl) (aJ (aB ⟨fun _=>⟨_,r⟩,?_⟩))
   refine aU (i:=11) (by kernel_rfl) rfl (bL (Kt:=K) (xs:=([⟨p,d,a.1⟩]:List mN)) (cs:=[i64 p,str d,i64 a.1]) (vs:=[(0,zA #[i64 p,str d,i64 a.1])]) aFl aHH rfl rfl r rfl (by kernel_rfl) rfl rfl rfl ⟨rfl,trivial⟩ (fun f1 f2 (d7:aD G m (aG 88 K f1 1 ([⟨p,d,a.1⟩]:List mN)::aG 55 Kf g k a.2.1::jE b a.2.2::aG 88 K a9 c10 l::box b5 181 [zS g a.2.1.length k,zM (some b),zS a9 l.length c10,Value.func (.func 130) #[] #[]]::L) f2)=>(aJ (aB ⟨fun _=>⟨_,d7⟩,?_⟩))))
   refine aU (i:=12) (by kernel_rfl) rfl ?_;obtain ⟨z,f3,hm⟩:=aC hm
   refine eX (i:=2) aFl underlying85 aHH rfl rfl d7 rfl n n f3 rfl rfl rfl rfl (fun _ h=>h) (fun V Z f4 (a5:aD G m (aG 55 Kf g k a.2.1::jE b a.2.2::aG 88 K V Z z::box b5 181 [zS g a.2.1.length k,zM (some b),zS a9 l.length c10,Value.func (.func 130) #[] #[]]::L) f4)=>(aJ (aB ⟨fun _=>⟨_,a5⟩,?_⟩)))
   refine cI (i:=13) rfl (by kernel_rfl) ⟨_,a5⟩ (fun _ _=>tA rfl) (cI (i:=14) rfl (by kernel_rfl) ⟨_,a5⟩ (fun _ _=>bP (t':=2) aCB rfl rfl) (aU (i:=15) (by kernel_rfl) rfl (bH (i:=3) (ns:=[zS V z.length Z]) (us:=[zS g a.2.1.length k,zM (some b),zS V z.length Z,Value.func (.func 130) #[] #[]]) sizeOf85 a5 rfl rfl rfl rfl rfl (cK rfl) rfl rfl (fun f5 (d8:aD G m (aG 55 Kf g k a.2.1::jE b a.2.2::aG 88 K V Z z::box b5 181 [zS g a.2.1.length k,zM (some b),zS V z.length Z,Value.func (.func 130) #[] #[]]::L) f5)=>(aJ (aB ⟨fun _=>⟨_,d8⟩,?_⟩))))))
   refine cO (by kernel_rfl) ?_
   have g5:=b6 _ _ d8
   exact aP
  ·refine bL (Kt:=K) (xs:=([⟨p,d,a.1⟩]:List mN)) (cs:=[i64 p,str d,i64 a.1]) (vs:=[(0,zA #[i64 p,str d,i64 a.1])]) aFl aHH rfl rfl r rfl (by kernel_rfl) rfl rfl rfl ⟨rfl,trivial⟩ (fun f6 f7 (a7:aD G m (aG 88 K f6 1 ([⟨p,d,a.1⟩]:List mN)::aG 55 Kf g k a.2.1::jE b a.2.2::aG 88 K a9 c10 l::box b5 181 [zS g a.2.1.length k,zM (some b),zS a9 l.length c10,Value.func (.func 130) #[] #[]]::L) f7)=>(aJ (aB ⟨fun _=>⟨_,a7⟩,?_⟩)))
   refine aU (i:=4) (by kernel_rfl) rfl (aH (fP aLG a7 (i:=4) rfl rfl rfl) (aJ (aB ⟨fun _=>⟨_,a7⟩,?_⟩)))
   refine aU (i:=12) (by kernel_rfl) rfl ?_;obtain ⟨a0,f8,hm⟩:=aC hm
   refine eX (i:=2) aFl underlying85 aHH rfl rfl a7 rfl n n f8 rfl rfl rfl rfl (fun _ h=>h) (fun a2 a3 f9 (a8:aD G m (aG 55 Kf g k a.2.1::jE b a.2.2::aG 88 K a2 a3 a0::box b5 181 [zS g a.2.1.length k,zM (some b),zS a9 l.length c10,Value.func (.func 130) #[] #[]]::L) f9)=>(aJ (aB ⟨fun _=>⟨_,a8⟩,?_⟩)))
   refine cI (i:=13) rfl (by kernel_rfl) ⟨_,a8⟩ (fun _ _=>tA rfl) (cI (i:=14) rfl (by kernel_rfl) ⟨_,a8⟩ (fun _ _=>bP (t':=2) aCB rfl rfl) (aU (i:=15) (by kernel_rfl) rfl (bH (i:=3) (ns:=[zS a2 a0.length a3]) (us:=[zS g a.2.1.length k,zM (some b),zS a2 a0.length a3,Value.func (.func 130) #[] #[]]) sizeOf85 a8 rfl rfl rfl rfl rfl (cK rfl) rfl rfl (fun g0 (d9:aD G m (aG 55 Kf g k a.2.1::jE b a.2.2::aG 88 K a2 a3 a0::box b5 181 [zS g a.2.1.length k,zM (some b),zS a2 a0.length a3,Value.func (.func 130) #[] #[]]::L) g0)=>(aJ (aB ⟨fun _=>⟨_,d9⟩,?_⟩))))))
   refine cO (by kernel_rfl) ?_
   have g6:=b6 _ _ d9
   exact aP
theorem vG {q:(List Int)} {r:(List (List Int))} {b1:(List (aF × Int))} {a:Nat} {u:(List mN)} {c6:Int} {x:Nat} {p:bF} {b2:Nat} {R:(Bool × (List (List Int)) × (List (aF × Int)) × (List mN))} (hm:lJ q r b1 u c6 p=some R) (hs:aD G K (aG 55 Kf a6 c7 r::jE a b1::aG 88 K a9 c10 u::box b5 181 [zS a6 r.length c7,zM (some a),zS a9 u.length c10,Value.func (.func 130) #[] #[]]::box b4 178 [zP (some ⟨b5,0,none⟩)]::L) w) (hG:G.lo=0) (e7:Hp.le Kf K) (h3:bS K a1 c2 q) (e9:fD K a11 x [i64 c6]) (b3:fD K a14 b2 (zC p a17 c18 a20 c21)) (b6:bS K a17 c18 p.L) (f0:bS K a20 c21 p.E):
  Calls prog 132 ([zS a1 q.length c2,Value.func (.func 158) #[] #[zP (some ⟨b4,0,none⟩),cP a11 x],cP a14 b2]:List Value).toArray w (eR fun v w'=>∃ K' c9 d0 d1 d2,v=zB R.1/\Hp.le K K'/\aD G K' (aG 55 K' c9 d0 R.2.1::jE a R.2.2.1::aG 88 K d1 d2 R.2.2.2::box b5 181 [zS c9 R.2.1.length d0,zM (some a),zS d1 R.2.2.2.length d2,Value.func (.func 130) #[] #[]]::box b4 178 [zP (some ⟨b5,0,none⟩)]::L) w'):=by
 let l:=[zP (some ⟨b5,0,none⟩)]
 refine aR func132 rfl (by kernel_rfl) (by show (3:Nat)<=29;decide) ?_;unfold lJ at hm
 refine aO (aI (v:=zB false) (aK (aM (aO (aH (cH (k':=b2+2) fT rfl b3 rfl) (aH (bG (t:=2) gY hs b3 rfl rfl) ?_))))));obtain ⟨f1,d3,hm⟩:=aC hm
 obtain ⟨g3,g4,d4⟩:=Cut.ex 1 a17 c18 1
 have d5:=bS.cut' b6 d3 d4
 refine aH (vK bE b6.room d4 rfl rfl rfl d3) (aH (bI (len:=f1.length) bE rfl) (aL (v:=i64 0) (aK (aV [] (fun f w=>∃ b8 b9 d6 c0 d7 d8 d9 e0,Hp.le K b8/\pN b9 d6 c0=some R/\aD G b8 (aG 88 K d9 e0 c0::aG 55 b8 d7 d8 b9::jE a d6::box b5 181 [zS d7 b9.length d8,zM (some a),zS d9 c0.length e0,Value.func (.func 130) #[] #[]]::box b4 178 l::L) w) aP ?_))))
 have g5:aD G K (aG 55 K a6 c7 r::jE a b1::aG 88 K a9 c10 u::box b5 181 [zS a6 r.length c7,zM (some a),zS a9 u.length c10,Value.func (.func 130) #[] #[]]::box b4 178 l::L) w:=aD.weak (i:=0) hs rfl (fun _ h=>aG.mono e7 h)
 obtain ⟨g6,f2,ho⟩:=aC hm
 refine mX [0,1,2,11,12] f2 (fun c Z d a0 f w=>∃ m e g j k,Hp.le K m/\f 13=i64 a0/\aD G m (aG 55 m e g c::jE a Z::aG 88 K j k d::box b5 181 [zS e c.length g,zM (some a),zS j d.length k,Value.func (.func 130) #[] #[]]::box b4 178 l::L) w) aP ?_
 ·rintro c Z d a0 f3 f g7 hm hr ⟨m,e,g,j,k,b,c1,c3⟩
  unfold iF at hm
  refine aO (aH (cQ c1 rfl) (aK (aM ?_)))
  rcases aN hm with ⟨e1,hm⟩|⟨e1,hm⟩
  ·refine aT e1 rfl (bB (aB (aM (aV [0,1,2,11,12,13] (fun f w=>∃ y a2 c4 a3 a4 a5 a7 a8,Hp.le m y/\iE a0 a2 c4 a3=some f3/\aD G y (aG 88 K a7 a8 a3::aG 55 y a4 a5 a2::jE a c4::box b5 181 [zS a4 a2.length a5,zM (some a),zS a7 a3.length a8,Value.func (.func 130) #[] #[]]::box b4 178 l::L) w) ?_ ?_))))
   ·rintro f g8 ⟨y,a2,c4,a3,a4,a5,a7,a8,f4,hm,f5⟩
    unfold iE at hm
    exact aB (aZ (aH (eP c1 rfl) (aL (v:=i64 (wr (a0+1))) (aK ⟨_,(zI hm).symm,bW,y,a4,a5,a7,a8,(zL b f4),rfl,(aD.arr 3 [1,2,0] f5 rfl)⟩))))
   refine aO ?_;obtain ⟨n,e2,hm⟩:=aC hm
   refine aH (jF bE rfl (d5.mono b) rfl rfl c1 e2) ?_;obtain ⟨g9,f6,f7⟩:=bS.el (sz:=1) rfl d5 e2
   cases f7
   refine aH (bG (t:=0) xB c3 (f6.mono b) rfl rfl) (aI (v:=str n) (aK (aO (aH (eJ (t:=0) (vs:=(zC p a17 c18 a20 c21)) cW c3 (b3.mono b) rfl rfl rfl) (aL (v:=zS a1 q.length c2) (aL (v:=str n) ?_))))));obtain ⟨o,f8,hm⟩:=aC hm
   refine aQ (vs:=[zA (zCa p a17 c18 a20 c21),zS a1 q.length c2,str n]) call55 rfl (aDi f8 c3 (b6.mono b) (f0.mono b) (h3.mono b)) ?_
   rintro _ e3 ⟨z,V,rfl,f9⟩
   refine aI (v:=zS z o.length V) (aK (aO (aL (v:=zS z o.length V) (aH (bI (len:=o.length) dA rfl) (aH (sZ rfl rfl) (aK ?_))))))
   rcases aN hm with ⟨e4,hm⟩|⟨e4,hm⟩
   ·refine aT e4 rfl (aZ (aL (v:=Value.func (.func 158) #[] #[zP (some ⟨b4,0,none⟩),cP a11 x]) (aL (v:=str n) (aL (v:=zS z o.length V) ?_))));obtain ⟨b0,e5,g0,c5⟩:=aD.giveSp f9 b .head
    replace c5:aD G b0 (aG 55 m e g c::jE a Z::aG 88 K j k d::box b5 181 [zS e c.length g,zM (some a),zS j d.length k,Value.func (.func 130) #[] #[]]::box b4 178 l::L) e3:=c5
    have g1:aD G b0 (aG 55 b0 e g c::jE a Z::aG 88 K j k d::box b5 181 [zS e c.length g,zM (some a),zS j d.length k,Value.func (.func 130) #[] #[]]::box b4 178 l::L) e3:=aD.weak (i:=0) c5 rfl (fun _ h=>aG.mono e5 h)
    obtain ⟨h0,g2,hm⟩:=aC hm
    exact kN (vs:=[str n,zS z o.length V]) (caps:=[zP (some ⟨b4,0,none⟩),cP a11 x]) (us:=[str n,zS z o.length V,zP (some ⟨b4,0,none⟩),cP a11 x]) rfl call158 rfl rfl (sV (Kf:=b0) g2 g1 hG (zR _) g0 (e9.mono (zL b e5))) aP
   ·exact aP
  ·exact aP
theorem wL {d4:(List Int)} {b4:bF} {k5:Nat} {R:(bF × (List (List Int)) × Bool)} (hm:lY d4 b4=some R) (hs:aD G K (L) w) (hG:G.lo=0) (h3:bS K a1 c2 d4) (h6:fD K a4 k5 (zC b4 a7 c8 a10 c11)) (h9:bS K a7 c8 b4.L) (l1:bS K a10 c11 b4.E):
  Calls prog 129 ([zS a1 d4.length c2,Value.func (.func 130) #[] #[],Value.func (.func 132) #[] #[cP a4 k5]]:List Value).toArray w (eR fun v w'=>∃ K' h4 h5 h7 h8 i0 i1,v=zT #[zA (zCa R.1 h4 h5 h7 h8),zS i0 R.2.1.length i1,zB R.2.2]/\Hp.le K K'/\aD G K' (aG 9 K h4 h5 R.1.L::aG 46 K h7 h8 R.1.E::aG 55 K' i0 i1 R.2.1::L) w'):=by
 let d:=zG
 refine aR func129 rfl (by kernel_rfl) (by show (3:Nat)<=73;decide) ?_;unfold lY at hm
 refine aO (aX (vs:=d) zeroValue27 hs rfl (fun g w1 l2=>(aI (v:=zS none 0 0) (aI (v:=zB false) (aK (aO (aJS aF Int l2 ?_)))))))
 intro a l3 (l4:aD G K (jE a ([]:(List (aF × Int)))::box g 27 d::L) l3)
 refine aL (v:=Value.func (.func 130) #[] #[]) (aH (fF (vs:=[(1,zM (some a)),(3,Value.func (.func 130) #[] #[])]) (cs:=[zS none 0 0,zM (some a),zS none 0 0,Value.func (.func 130) #[] #[]]) bs_181 rfl (by kernel_rfl)) (fL (v:=zA #[zS none 0 0,zM (some a),zS none 0 0,Value.func (.func 130) #[] #[]]) (vs:=[zS none 0 0,zM (some a),zS none 0 0,Value.func (.func 130) #[] #[]]) l4 rfl rfl (fun b w2 l5=>(aX (vs:=[zP none]) zeroValue178 l5 rfl (fun e w3 l6=>(bH (i:=0) (ns:=[zP (some ⟨b,0,none⟩)]) (us:=[zP (some ⟨b,0,none⟩)]) sizeOf178 l6 rfl rfl rfl rfl rfl (cK rfl) rfl rfl ?_))))))
 intro i2 (i3:aD G K (box e 178 [zP (some ⟨b,0,none⟩)]::box b 181 [zS none 0 0,zM (some a),zS none 0 0,Value.func (.func 130) #[] #[]]::jE a ([]:(List (aF × Int)))::box g 27 d::L) i2)
 refine aK (aO (aH (fP aCA i3 (i:=0) rfl rfl rfl) (aL (v:=zS a1 d4.length c2) ?_)))
 have l7:=aD.nil (α:=(List Int)) i3 55 K
 have l8:=aD.nil (α:=mN) l7 88 K
 have l9:aD G K (aG 55 K none 0 ([]:List (List Int))::jE a ([]:(List (aF × Int)))::aG 88 K none 0 ([]:List mN)::box b 181 [zS none 0 0,zM (some a),zS none 0 0,Value.func (.func 130) #[] #[]]::box e 178 [zP (some ⟨b,0,none⟩)]::box g 27 d::L) i2:=(aD.arr 5 [1,4,0,3,2] l8 rfl)
 obtain ⟨f8,m0,hm⟩:=aC hm
 refine aQ (vs:=[zP (some ⟨b,0,none⟩),zS a1 d4.length c2]) call157 rfl (iC (Kf:=K) m0 l9 hG (zR _) h3) ?_
 rintro _ w4 ⟨i4,i5,rfl,m1⟩
 refine aK (aM (aO (aX (vs:=[i64 0]) zeroValue3 m1 rfl (fun m2 w5 m3=>(bH (i:=0) (ns:=[i64 0]) (us:=[i64 0]) sizeOf3 m3 rfl rfl rfl rfl rfl (cK rfl) rfl rfl (fun m4 (m5:aD G K (box m2 3 [i64 0]::aG 55 K i4 i5 f8.2.1::jE a f8.2.2::aG 88 K none 0 ([]:List mN)::box b 181 [zS i4 f8.2.1.length i5,zM (some a),zS none 0 0,Value.func (.func 130) #[] #[]]::box e 178 [zP (some ⟨b,0,none⟩)]::box g 27 d::L) m4)=>(aK (aV [6,9] (fun f w=>∃ x k b5 l z c45 n o,Hp.le K x/\jX k b5 l=some R/\aD G x (aG 88 K n o l::aG 55 x z c45 k::jE a b5::box b 181 [zS z k.length c45,zM (some a),zS n l.length o,Value.func (.func 130) #[] #[]]::box e 178 [zP (some ⟨b,0,none⟩)]::box g 27 d::L) w) ?_ ?_))))))))
 ·rintro f w6 ⟨x,k,b5,l,z,c45,n,o,a8,hm,m6⟩
  unfold jX at hm
  refine aB (aM (bR [6,9] (fun f w=>∃ b6 b7 b1 b2 f9 c7 c9 d0 d1,mD k b6 b7 b1 b2=some R/\f 12=zP (some ⟨f9,0,none⟩)/\aD G x (aG 46 K d0 d1 b2::aG 9 K c7 c9 b1::box f9 27 [i64 b6,i64 b7,zS c7 b1.length c9,zS d0 b2.length d1]::aG 88 K n o l::aG 55 x z c45 k::jE a b5::box b 181 [zS z k.length c45,zM (some a),zS n l.length o,Value.func (.func 130) #[] #[]]::box e 178 [zP (some ⟨b,0,none⟩)]::box g 27 d::L) w) ?_ ?_))
  ·rintro f w7 ⟨b6,b7,b1,b2,f9,c7,c9,d0,d1,hm,i6,m7⟩
   unfold mD at hm
   refine aB (aM ?_);obtain ⟨w8,i7,i8,m8,w9⟩:=aD.lendBp m7 zt2
   obtain ⟨x0,d7,m9,n0,x1⟩:=aD.lendBp m8 zt5
   obtain ⟨n1,d6,n2,i9,x2⟩:=aD.lendBp n0 zt5
   refine dX (C:=fun w'=>∃ L',aD G n1 L' w') [(0,0),(1,0),(2,0),(3,0),(4,0),(5,1),(6,1),(7,1),(8,2),(9,2)] Tryz_mixed (by kernel_rfl) (fun _ hg=>⟨_,aD.mono i9 hg⟩) (fun x3 n3=>?_)
   have b0:=aD.mono i9 n3
   refine bZ rfl (fun _ ⟨_,b0⟩=>eJ (t:=0) (vs:=[i64 b6,i64 b7,zS c7 b1.length c9,zS d0 b2.length d1]) cW b0 (i8.mono (zL d7 d6)) i6 rfl rfl) (bZ rfl (fun _ ⟨_,b0⟩=>bG (t:=0) aCA b0 n2 rfl rfl) (bZ rfl (fun _ _=>tA rfl) (bZ rfl (fun _ _=>bP (t':=0) aAW rfl rfl) (bZ rfl (fun _ ⟨_,b0⟩=>bG (t:=0) aHI b0 (m9.mono d6) rfl rfl) (gP rfl (aH (eJ (t:=0) (vs:=[i64 b6,i64 b7,zS c7 b1.length c9,zS d0 b2.length d1]) cW b0 (i8.mono (zL d7 d6)) i6 rfl rfl) (aJ (aB ⟨⟨_,b0⟩,?_⟩))))))))
   refine gP rfl ?_;obtain ⟨x4,n4,n5,n6,n7⟩:=aD.lendSp b0 (zL (zL (zL a8 i7) d7) d6) zt1
   obtain ⟨x5,n8,n9,o0,o1⟩:=aD.lendSp n6 (zL (zL (zL (zL a8 i7) d7) d6) n4) .head
   obtain ⟨x6,o2,hm⟩:=aC hm
   refine aQ (vs:=[zA #[i64 b6,i64 b7,zS c7 b1.length c9,zS d0 b2.length d1]]) call25 rfl (wV (t:=⟨b6,b7,b1,b2⟩) o2 o0 hG (n5.mono n8) n9) ?_
   rintro _ x7 ⟨rfl,o3⟩
   have o4:=o1 _ _ o3
   have x8:=n7 _ _ o4
   exact aP
  obtain ⟨x9,b3,g0,o5,g1⟩:=aD.lendBp m6 zt3
  obtain ⟨o6,V,g2,o7,g3⟩:=aD.lendBp o5 zt3
  refine mM (C:=fun w'=>∃ L',aD G o6 L' w') [16] Tryz_mixed (by kernel_rfl) (fun y0 o8=>?_)
  have c:=aD.mono o7 o8
  refine cI (i:=0) rfl (by kernel_rfl) ⟨_,c⟩ (fun _ ⟨_,c⟩=>bG (t:=0) aCA c g2 rfl rfl) (cI (i:=1) rfl (by kernel_rfl) ⟨_,c⟩ (fun _ _=>tA rfl) (cI (i:=2) rfl (by kernel_rfl) ⟨_,c⟩ (fun _ _=>bP (t':=0) aAW rfl rfl) (cI (i:=3) rfl (by kernel_rfl) ⟨_,c⟩ (fun _ ⟨_,c⟩=>bG (t:=0) aHI c (g0.mono V) rfl rfl) (cI (i:=4) rfl (by kernel_rfl) ⟨_,c⟩ (fun _ _=>bI (len:=k.length) aAq rfl) (cI (i:=5) rfl (by kernel_rfl) ⟨_,c⟩ (fun _ ⟨_,c⟩=>bG (t:=0) aCA c g2 rfl rfl) (cI (i:=6) rfl (by kernel_rfl) ⟨_,c⟩ (fun _ _=>tA rfl) (cI (i:=7) rfl (by kernel_rfl) ⟨_,c⟩ (fun _ _=>bP (t':=2) aCB rfl rfl) (cI (i:=8) rfl (by kernel_rfl) ⟨_,c⟩ (fun _ ⟨_,c⟩=>bG (t:=2) aLG c (g0.mono V) rfl rfl) (cI (i:=10) rfl (by kernel_rfl) ⟨_,c⟩ (fun _ ⟨_,c⟩=>bG (t:=0) aCA c g2 rfl rfl) (cI (i:=11) rfl (by kernel_rfl) ⟨_,c⟩ (fun _ _=>tA rfl) (cI (i:=12) rfl (by kernel_rfl) ⟨_,c⟩ (fun _ _=>bP (t':=2) aCB rfl rfl) (cI (i:=13) rfl (by kernel_rfl) ⟨_,c⟩ (fun _ ⟨_,c⟩=>bG (t:=2) aLG c (g0.mono V) rfl rfl) (fR (i:=9) (j:=15) (by kernel_rfl) rfl rfl ?_ ?_)))))))))))))
  ·obtain ⟨y1,y2,o9,p0,p1⟩:=aD.lendSp c (zL (zL a8 b3) V) .head
   obtain ⟨d8,p2,hm⟩:=aC hm
   refine aQ (vs:=[zS n l.length o]) call159 rfl (aBw p2 p0 o9) ?_
   rintro _ y3 ⟨d9,e0,rfl,p3⟩
   have g4:=p1 _ _ p3
   refine aJ (aB ⟨fun _=>⟨_,g4⟩,?_⟩)
   refine fR (i:=14) (j:=15) (by kernel_rfl) rfl rfl ?_ ?_
   ·obtain ⟨y4,p4,p5,p6,p7⟩:=aD.lendSp g4 (zL (zL a8 b3) V) zt1
    obtain ⟨y5,p8,p9,q0,q1⟩:=aD.lendSp p6 (zL (zL (zL a8 b3) V) p4) .head
    obtain ⟨q,q2,hm⟩:=aC hm
    refine aQ (vs:=[i64 (k.length:Int),i64 0,zS d9 d8.length e0,zS n l.length o]) call49 rfl (qV q2 q0 (p5.mono p8) p9) ?_
    rintro _ y6 ⟨e1,e2,e3,e4,rfl,q3⟩
    have q4:=q1 _ _ q3
    have j0:=p7 _ _ q4
    refine aJ (aB ⟨fun _=>⟨_,j0⟩,?_⟩)
    refine aU (i:=15) (by kernel_rfl) rfl (aX (vs:=d) zeroValue27 j0 rfl (fun q5 y7 j1=>(aJ (aB ⟨fun _=>⟨_,j1⟩,?_⟩))))
    refine aU (i:=16) (by kernel_rfl) rfl ?_
    have q6:=g3 _ _ j1
    have q7:=g1 _ _ q6
    refine bH (i:=2) (ns:=(zC q e1 e2 e3 e4)) (us:=(zC q e1 e2 e3 e4)) sizeOf27 q7 rfl rfl rfl rfl rfl (cK rfl) rfl rfl (fun q8 (y8:aD G x (box b 181 [zS z k.length c45,zM (some a),zS n l.length o,Value.func (.func 130) #[] #[]]::box e 178 [zP (some ⟨b,0,none⟩)]::box q5 27 (zC q e1 e2 e3 e4)::aG 9 K d9 e0 d8::aG 88 K n o l::aG 9 K e1 e2 q.L::aG 46 K e3 e4 q.E::aG 55 x z c45 k::jE a b5::box g 27 d::L) q8)=>(aJ (aB ⟨tD rfl,?_⟩)))
    exact cO (by kernel_rfl) aP
   ·refine aX (vs:=d) zeroValue27 g4 rfl (fun q9 y9 j2=>(aJ (aB ⟨fun _=>⟨_,j2⟩,?_⟩)))
    refine aU (i:=14) (by kernel_rfl) rfl ?_;obtain ⟨z0,r0,r1,r2,r3⟩:=aD.lendSp j2 (zL (zL a8 b3) V) zt2
    obtain ⟨z1,r4,r5,r6,r7⟩:=aD.lendSp r2 (zL (zL (zL a8 b3) V) r0) zt1
    obtain ⟨r,r8,hm⟩:=aC hm
    refine aQ (vs:=[i64 (k.length:Int),i64 0,zS d9 d8.length e0,zS n l.length o]) call49 rfl (qV r8 r6 (r1.mono r4) r5) ?_
    rintro _ z2 ⟨e5,e6,e7,e8,rfl,r9⟩
    have s0:=r7 _ _ r9
    have j3:=r3 _ _ s0
    refine aJ (aB ⟨fun _=>⟨_,j3⟩,?_⟩)
    refine aU (i:=16) (by kernel_rfl) rfl ?_
    have s1:=g3 _ _ j3
    have s2:=g1 _ _ s1
    refine bH (i:=6) (ns:=(zC r e5 e6 e7 e8)) (us:=(zC r e5 e6 e7 e8)) sizeOf27 s2 rfl rfl rfl rfl rfl (cK rfl) rfl rfl (fun s3 (z3:aD G x (box b 181 [zS z k.length c45,zM (some a),zS n l.length o,Value.func (.func 130) #[] #[]]::box e 178 [zP (some ⟨b,0,none⟩)]::aG 9 K d9 e0 d8::aG 88 K n o l::aG 9 K e5 e6 r.L::aG 46 K e7 e8 r.E::box q9 27 (zC r e5 e6 e7 e8)::aG 55 x z c45 k::jE a b5::box g 27 d::L) s3)=>(aJ (aB ⟨tD rfl,?_⟩)))
    exact cO (by kernel_rfl) aP
  ·refine aX (vs:=d) zeroValue27 c rfl (fun s4 z4 j4=>(aJ (aB ⟨fun _=>⟨_,j4⟩,?_⟩)))
   refine aU (i:=9) (by kernel_rfl) rfl ?_;obtain ⟨z5,z6,s5,s6,s7⟩:=aD.lendSp j4 (zL (zL a8 b3) V) zt1
   obtain ⟨j5,s8,hm⟩:=aC hm
   refine aQ (vs:=[zS n l.length o]) call159 rfl (aBw s8 s6 s5) ?_
   rintro _ z7 ⟨j6,j7,rfl,s9⟩
   have j8:=s7 _ _ s9
   refine aJ (aB ⟨fun _=>⟨_,j8⟩,?_⟩)
   refine aU (i:=14) (by kernel_rfl) rfl ?_;obtain ⟨z8,t0,t1,t2,t3⟩:=aD.lendSp j8 (zL (zL a8 b3) V) zt1
   obtain ⟨z9,t4,t5,t6,t7⟩:=aD.lendSp t2 (zL (zL (zL a8 b3) V) t0) .head
   obtain ⟨u,t8,hm⟩:=aC hm
   refine aQ (vs:=[i64 (k.length:Int),i64 0,zS j6 j5.length j7,zS n l.length o]) call49 rfl (qV t8 t6 (t1.mono t4) t5) ?_
   rintro _ a00 ⟨e9,f0,f1,f2,rfl,t9⟩
   have u0:=t7 _ _ t9
   have j9:=t3 _ _ u0
   refine aJ (aB ⟨fun _=>⟨_,j9⟩,?_⟩)
   refine aU (i:=16) (by kernel_rfl) rfl ?_
   have u1:=g3 _ _ j9
   have u2:=g1 _ _ u1
   refine bH (i:=6) (ns:=(zC u e9 f0 f1 f2)) (us:=(zC u e9 f0 f1 f2)) sizeOf27 u2 rfl rfl rfl rfl rfl (cK rfl) rfl rfl (fun u3 (a01:aD G x (box b 181 [zS z k.length c45,zM (some a),zS n l.length o,Value.func (.func 130) #[] #[]]::box e 178 [zP (some ⟨b,0,none⟩)]::aG 9 K j6 j7 j5::aG 88 K n o l::aG 9 K e9 f0 u.L::aG 46 K f1 f2 u.E::box s4 27 (zC u e9 f0 f1 f2)::aG 55 x z c45 k::jE a b5::box g 27 d::L) u3)=>(aJ (aB ⟨tD rfl,?_⟩)))
   exact cO (by kernel_rfl) aP
 have a02:=aD.nil (α:=mN) m5 88 K
 obtain ⟨a03,u4,ho⟩:=aC hm
 refine mX [2,6,9] u4 (fun y d2 Z a9 f w=>∃ b8 a0 a2 a3 a5 b9,Hp.le K b8/\f 10=zP (some ⟨b9,0,none⟩)/\aD G b8 (aG 88 K a3 a5 Z::box b9 3 [i64 a9]::aG 55 b8 a0 a2 y::jE a d2::box b 181 [zS a0 y.length a2,zM (some a),zS a3 Z.length a5,Value.func (.func 130) #[] #[]]::box e 178 [zP (some ⟨b,0,none⟩)]::box g 27 d::L) w) aP ?_
 ·rintro y d2 Z a9 u5 f a04 hm hr ⟨b8,a0,a2,a3,a5,b9,f3,f4,a6⟩
  unfold dC at hm
  refine aM (aM (pE (C:=fun w'=>aD G b8 (aG 88 K a3 a5 Z::box b9 3 [i64 a9]::aG 55 b8 a0 a2 y::jE a d2::box b 181 [zS a0 y.length a2,zM (some a),zS a3 Z.length a5,Value.func (.func 130) #[] #[]]::box e 178 [zP (some ⟨b,0,none⟩)]::box g 27 d::L) w') Tryz_mixed (by kernel_rfl) (aD.mono a6 (fN.drew _)) (dR (fun _ a6=>fP sc_3 a6 (i:=1) rfl f4 rfl) (dR (fun _ a6=>fP aCA a6 (i:=5) rfl rfl rfl) (dR (fun _ a6=>tA rfl) (dR (fun _ a6=>bP (t':=0) aAW rfl rfl) (dR (fun _ a6=>fP aHI a6 (i:=4) rfl rfl rfl) (dR (fun _ a6=>bI (len:=y.length) aAq rfl) (dR (fun _ a6=>cQ rfl rfl) (aCu (fun u6 u7=>(aB ?_))))))))))))
  rcases aN hm with ⟨k0,hm⟩|⟨k0,hm⟩
  ·refine aT k0 rfl (bB (aB (aM (cS (aM ?_)))));obtain ⟨c0,d3,g5,g6,_⟩:=aD.lendBp u7 zt1
   replace g6:aD G c0 (aG 88 K a3 a5 Z::aG 55 b8 a0 a2 y::jE a d2::box b 181 [zS a0 y.length a2,zM (some a),zS a3 Z.length a5,Value.func (.func 130) #[] #[]]::box e 178 [zP (some ⟨b,0,none⟩)]::box g 27 d::L) u6:=g6
   refine mM (C:=fun w'=>∃ L',aD G c0 L' w') [] Tryz_mixed (by kernel_rfl) (fun k1 u8=>?_)
   have p:=aD.mono g6 u8
   refine cI (i:=0) rfl (by kernel_rfl) ⟨_,p⟩ (fun _ _=>bJ (v:=Value.func (.func 132) #[] #[cP a4 k5]) rfl) (cI (i:=5) rfl (by kernel_rfl) ⟨_,p⟩ (fun _ ⟨_,p⟩=>bG (t:=0) sc_3 p g5 (eY f4) rfl) (cI (i:=8) rfl (by kernel_rfl) ⟨_,p⟩ (fun _ _=>oM (vs:=[zP (some ⟨e,0,none⟩),cP (some ⟨b9,0,none⟩) 0]) (lst2 rfl (eY f4))) (aU (i:=1) (by kernel_rfl) rfl (aH (fP aCA p (i:=4) rfl rfl rfl) (aJ (aB ⟨fun _=>⟨_,p⟩,?_⟩))))))
   refine cI (i:=2) rfl (by kernel_rfl) ⟨_,p⟩ (fun _ _=>tA rfl) (cI (i:=3) rfl (by kernel_rfl) ⟨_,p⟩ (fun _ _=>bP (t':=0) aAW rfl rfl) (aU (i:=4) (by kernel_rfl) rfl (aH (fP aHI p (i:=3) rfl rfl rfl) (aJ (aB ⟨fun _=>⟨_,p⟩,?_⟩)))))
   obtain ⟨g7,g8,hm⟩:=aC hm
   have u9:=dM p (i:=1) rfl g8
   refine cI (i:=6) rfl (by kernel_rfl) ⟨_,p⟩ (fun _ _=>fQ aAq rfl u9 rfl rfl rfl g8) (aU (i:=7) (by kernel_rfl) rfl ?_);obtain ⟨a05,v0,v1⟩:=aJP (sz:=1) rfl p (i:=1) rfl g8
   obtain ⟨g9,h0,rfl,v2⟩:=v1
   refine aH (R_ldC (t:=0) (v:=zS g9 g7.length h0) aLF v0 rfl rfl) (aJ (aB ⟨fun _=>⟨_,p⟩,?_⟩))
   refine aU (i:=9) (by kernel_rfl) rfl ?_
   have v3:aD G c0 (aG 88 K a3 a5 Z::aG 55 c0 a0 a2 y::jE a d2::box b 181 [zS a0 y.length a2,zM (some a),zS a3 Z.length a5,Value.func (.func 130) #[] #[]]::box e 178 [zP (some ⟨b,0,none⟩)]::box g 27 d::L) k1:=aD.weak (i:=1) p rfl (fun _ h=>aG.mono d3 h)
   have v4:aD G c0 (aG 55 c0 a0 a2 y::jE a d2::aG 88 K a3 a5 Z::box b 181 [zS a0 y.length a2,zM (some a),zS a3 Z.length a5,Value.func (.func 130) #[] #[]]::box e 178 [zP (some ⟨b,0,none⟩)]::box g 27 d::L) k1:=(aD.arr 3 [1,2,0] v3 rfl)
   obtain ⟨m,v5,hm⟩:=aC hm
   refine kN (vs:=[zS g9 g7.length h0,Value.func (.func 158) #[] #[zP (some ⟨e,0,none⟩),cP (some ⟨b9,0,none⟩) 0]]) (caps:=[cP a4 k5]) (us:=[zS g9 g7.length h0,Value.func (.func 158) #[] #[zP (some ⟨e,0,none⟩),cP (some ⟨b9,0,none⟩) 0],cP a4 k5]) rfl call132 rfl rfl (vG (Kf:=c0) v5 v4 hG (zR _) (v2.mono d3) g5 (h6.mono (zL f3 d3)) (h9.mono (zL f3 d3)) (l1.mono (zL f3 d3))) ?_
   rintro _ a06 ⟨c1,c3,c4,c5,c6,rfl,f5,k2⟩
   refine aJ (aB ⟨fun _=>⟨_,(aD.weakK k2 f5)⟩,?_⟩)
   refine cI (i:=10) rfl (by kernel_rfl) ⟨_,(aD.weakK k2 f5)⟩ (fun _ _=>cU (v:=zB m.1) rfl) (cO (by kernel_rfl) (aB (aM (bR [2,6,9,10] (fun f w=>∃ h1,jY a9 m h1=some u5/\f 48=zB h1/\aD G c1 (aG 55 c1 c3 c4 m.2.1::jE a m.2.2.1::aG 88 K c5 c6 m.2.2.2::box b 181 [zS c3 m.2.1.length c4,zM (some a),zS c5 m.2.2.2.length c6,Value.func (.func 130) #[] #[]]::box e 178 [zP (some ⟨b,0,none⟩)]::box g 27 d::L) w) ?_ ?_))))
   ·rintro f a07 ⟨h1,hm,v6,k3⟩
    unfold jY at hm
    refine aB ?_
    rcases aN hm with ⟨k4,hm⟩|⟨k4,hm⟩
    ·exact aP
    ·exact aW k4 v6 (bB (cT (aB (aM (aO (aH (bG (t:=0) sc_3 k3 (g5.mono f5) (eY f4) rfl) (aK (aZ (aX (vs:=[i64 0]) zeroValue3 k3 rfl (fun h2 a08 v7=>(bH (i:=0) (ns:=[i64 a9]) (us:=[i64 a9]) sizeOf3 v7 rfl rfl rfl rfl rfl (cK rfl) rfl rfl (fun v8 (k6:aD G c1 (box h2 3 [i64 a9]::aG 55 c1 c3 c4 m.2.1::jE a m.2.2.1::aG 88 K c5 c6 m.2.2.2::box b 181 [zS c3 m.2.1.length c4,zM (some a),zS c5 m.2.2.2.length c6,Value.func (.func 130) #[] #[]]::box e 178 [zP (some ⟨b,0,none⟩)]::box g 27 d::L) v8)=>(aK (aZ (aH (fP sc_3 k6 (i:=0) rfl rfl rfl) (aH (eP rfl rfl) (bH (i:=0) (ns:=[i64 (wr (a9+1))]) (us:=[i64 (wr (a9+1))]) sizeOf3 k6 rfl rfl rfl rfl rfl (cK rfl) rfl rfl (fun v9 (w0:aD G c1 (box h2 3 [i64 (wr (a9+1))]::aG 55 c1 c3 c4 m.2.1::jE a m.2.2.1::aG 88 K c5 c6 m.2.2.2::box b 181 [zS c3 m.2.1.length c4,zM (some a),zS c5 m.2.2.2.length c6,Value.func (.func 130) #[] #[]]::box e 178 [zP (some ⟨b,0,none⟩)]::box g 27 d::L) v9)=>(aK ⟨_,(zI hm).symm,bW,c1,c3,c4,c5,c6,h2,(zL (zL f3 d3) f5),rfl,(aD.arr 4 [3,0,1,2] w0 rfl)⟩)))))))))))))))))))
   exact aP
  ·exact aP
theorem aFb {t:bF} {R:(bF × (List (List Int)) × Bool)} (hm:lQ t=some R) (hs:aD G K (L) w) (hG:G.lo=0) (h3:bS K a1 c2 t.L) (h6:bS K a4 c5 t.E):
  Calls prog 87 ([zA (zCa t a1 c2 a4 c5)]:List Value).toArray w (eR fun v w'=>∃ K' a9 b0 b1 b2 b3 b4,v=zT #[zA (zCa R.1 a9 b0 b1 b2),zS b3 R.2.1.length b4,zB R.2.2]/\Hp.le K K'/\aD G K' (aG 9 K a9 b0 R.1.L::aG 46 K b1 b2 R.1.E::aG 55 K' b3 b4 R.2.1::L) w'):=by
 let z:=(zC t a1 c2 a4 c5)
 let n:=zG
 refine aR func87 rfl (by kernel_rfl) (by show (1:Nat)<=30;decide) ?_;unfold lQ at hm
 refine aO (fL (v:=zA (zCa t a1 c2 a4 c5)) (vs:=z) hs rfl rfl (fun V w8 d3=>(aX (vs:=n) zeroValue27 d3 rfl (fun y h8 a3=>(aI (v:=zS none 0 0) (aI (v:=zB false) (aK (aO (aH (gE (us:=z) cW a3 (i:=1) rfl rfl rfl rfl) (aH (bP (t':=1) yK rfl rfl) (aH (fP fK a3 (i:=1) rfl rfl rfl) (bL (Kt:=K) (xs:=([t.I]:List Int)) (cs:=[i64 t.I]) (vs:=[(0,i64 t.I)]) dA rZ rfl rfl a3 rfl (by kernel_rfl) rfl rfl rfl ⟨rfl,trivial⟩ (fun o d4 (d5:aD G K (aG 2 K o 1 ([t.I]:List Int)::box y 27 n::box V 27 z::L) d4)=>?_)))))))))))))
 obtain ⟨h9,b5,d6,d7,d8⟩:=aD.lendSp d5 (zR _) .head
 obtain ⟨d9,e0,hm⟩:=aC hm
 refine aQ (vs:=[zA (zCa t a1 c2 a4 c5),zS o ([t.I]:List Int).length 1]) call54 rfl (vP e0 d7 (h3.mono b5) (h6.mono b5) d6) ?_
 rintro _ b6 ⟨e1,e2,rfl,e3⟩
 have e4:=d8 _ _ e3
 refine aH (oM (vs:=[zP (some ⟨V,0,none⟩)]) rfl) ?_;obtain ⟨e5,j,e6,a5⟩:=aD.giveSp e4 (zR _) zt1
 replace a5:aD G e5 (aG 2 K o 1 ([t.I]:List Int)::box y 27 n::box V 27 z::L) b6:=a5
 obtain ⟨e7,c,a6,a7,_⟩:=aD.lendBp a5 zt2
 replace a7:aD G e7 (aG 2 K o 1 ([t.I]:List Int)::box y 27 n::L) b6:=a7
 obtain ⟨a,e8,hm⟩:=aC hm
 refine aQ (vs:=[zS e1 d9.length e2,Value.func (.func 130) #[] #[],Value.func (.func 132) #[] #[cP (some ⟨V,0,none⟩) 0]]) call129 rfl (wL e8 a7 hG (e6.mono c) a6 (h3.mono (zL j c)) (h6.mono (zL j c))) ?_
 rintro _ i0 ⟨Z,d,e,g,h,k,c45,rfl,l,e9⟩
 refine aL (v:=zT #[zA (zCa a.1 d e g h),zS k a.2.1.length c45,zB a.2.2]) (aH (bD rfl rfl) (aH (bD rfl rfl) (aH (bD rfl rfl) (aX (vs:=n) zeroValue27 e9 rfl (fun f0 i1 f1=>(bH (i:=0) (ns:=(zC a.1 d e g h)) (us:=(zC a.1 d e g h)) sizeOf27 f1 rfl rfl rfl rfl rfl (cK rfl) rfl rfl (fun f2 (f3:aD G Z (box f0 27 (zC a.1 d e g h)::aG 9 K d e a.1.L::aG 46 K g h a.1.E::aG 55 Z k c45 a.2.1::aG 2 K o 1 ([t.I]:List Int)::box y 27 n::L) f2)=>(aI (v:=zS k a.2.1.length c45) (aI (v:=zB a.2.2) (aK (aM (aO (aL (v:=zB a.2.2) (aH (rA rfl) (aK ?_)))))))))))))))
 rcases aN hm with ⟨b8,hm⟩|⟨b8,hm⟩
 ·exact aP
 ·refine aW b8 rfl (bB (aB (aM ?_)));obtain ⟨b9,p,c0,c1,f4⟩:=aD.lendBp f3 .head
  refine dX (C:=fun w'=>∃ L',aD G b9 L' w') [(0,0),(1,0),(2,0),(3,0),(4,0),(7,0),(5,1),(6,1),(8,1),(9,2),(10,2)] Tryz_mixed (by kernel_rfl) (fun _ hg=>⟨_,aD.mono c1 hg⟩) (fun i2 f5=>?_)
  have m:=aD.mono c1 f5
  refine bZ rfl (fun _ _=>bP (t':=0) lB rfl rfl) (bZ rfl (fun _ ⟨_,m⟩=>bG (t:=0) fK m c0 rfl rfl) (bZ rfl (fun _ _=>cH (k':=0+2) fT (eY rfl) (a6.mono (zL l p)) rfl) (bZ rfl (fun _ ⟨_,m⟩=>bG (t:=2) gY m (a6.mono (zL l p)) rfl rfl) (bZ rfl (fun _ ⟨_,m⟩=>eJ (t:=0) (vs:=(zC a.1 d e g h)) cW m c0 rfl rfl rfl) (bZ rfl (fun _ _=>bJ (v:=zS k a.2.1.length c45) rfl) (gP rfl ?_))))));obtain ⟨i3,f6,f7,f8,f9⟩:=aD.lendSp m (zL (zL (zL j c) l) p) .head
  obtain ⟨i4,g0,g1,g2,g3⟩:=aD.lendSp f8 (zL (zL (zL (zL j c) l) p) f6) .head
  obtain ⟨c3,g4,hm⟩:=aC hm
  refine aQ (vs:=[zA (zCa a.1 d e g h)]) call47 rfl (aBv g4 g2 (f7.mono g0) g1) ?_
  rintro _ i5 ⟨c4,c6,rfl,g5⟩
  have g6:=g3 _ _ g5
  have c7:=f9 _ _ g6
  refine aJ (aB ⟨⟨_,c7⟩,?_⟩)
  refine gP rfl ?_;obtain ⟨i6,g7,g8,g9,h0⟩:=aD.lendSp c7 (zL (zL (zL j c) l) p) zt2
  obtain ⟨b,h1,hm⟩:=aC hm
  refine aQ (vs:=[i64 a.1.N,i64 0,zS a1 t.L.length c2,zS c4 c3.length c6]) call49 rfl (qV h1 g9 (h3.mono (zL (zL (zL (zL j c) l) p) g7)) g8) ?_
  rintro _ i7 ⟨q,r,u,x,rfl,h2⟩
  have c8:=h0 _ _ h2
  refine aJ (aB ⟨⟨_,c8⟩,?_⟩)
  refine gP rfl (bH (i:=7) (ns:=(zC b q r u x)) (us:=(zC b q r u x)) sizeOf27 c8 rfl rfl rfl rfl rfl (cK rfl) rfl rfl (fun h4 (c9:aD G b9 (aG 88 K c4 c6 c3::aG 9 K q r b.L::aG 46 K u x b.E::aG 9 K d e a.1.L::aG 46 K g h a.1.E::aG 55 Z k c45 a.2.1::aG 2 K o 1 ([t.I]:List Int)::box y 27 (zC b q r u x)::L) h4)=>(aJ (aB ⟨⟨_,c9⟩,?_⟩))))
  have d0:=f4 _ _ c9
  refine aFy rfl (aI (v:=zS k a.2.1.length c45) (aK (aFy rfl (aI (v:=zB true) (aK (aCv (aB ?_)))))));obtain rfl:=zI hm
  exact kX (aDw results87 (tC (vs:=(zC b q r u x)) rfl cW d0 (i:=8) rfl rfl rfl) (yJ rfl rfl) (yJ rfl rfl) ⟨Z,q,r,u,x,k,c45,rfl,(zL (zL j c) l),(aD.arr 9 [2,3,6] d0 rfl)⟩)
theorem aAs {t:bF} {R:(bF × (List (List Int)) × Int)} (hm:aAA t=some R) (i:aD G K (L) w) (j:G.lo=0) (k:bS K a1 c2 t.L) (l:bS K a4 c5 t.E):
  Calls prog 46 ([zA (zCa t a1 c2 a4 c5)]:List Value).toArray w (eR fun v w'=>∃ a b c d e g h,v=zT #[zA (zCa R.1 b c d e),zS g R.2.1.length h,i64 R.2.2]/\Hp.le K a/\aD G a (aG 9 K b c R.1.L::aG 46 K d e R.1.E::aG 55 a g h R.2.1::L) w'):=by
 exact aP
theorem kA {t:bF} {l:(List aF)} {R:(bF × (List (List Int)) × Int)} (hm:gZ t l=some R) (hs:aD G K (L) w) (u:G.lo=0) (h3:bS K a1 c2 t.L) (h6:bS K a4 c5 t.E) (h9:bS K a7 c8 l):
  Calls prog 16 ([zA (zCa t a1 c2 a4 c5),zS a7 l.length c8]:List Value).toArray w (eR fun v w'=>∃ n x y z V Z a0,v=zT #[zA (zCa R.1 x y z V),zS Z R.2.1.length a0,i64 R.2.2]/\Hp.le K n/\aD G n (aG 9 K x y R.1.L::aG 46 K z V R.1.E::aG 55 n Z a0 R.2.1::L) w'):=by
 let m:=(zC t a1 c2 a4 c5)
 let o:=zG
 refine aR func16 rfl (by kernel_rfl) (by show (2:Nat)<=24;decide) ?_;unfold gZ at hm
 refine aO (fL (v:=zA (zCa t a1 c2 a4 c5)) (vs:=m) hs rfl rfl (fun a2 d2 b5=>(aX (vs:=o) zeroValue27 b5 rfl (fun a3 d3 a5=>(aI (v:=zS none 0 0) (aI (v:=i64 0) (aK (aO (aH (gE (us:=m) cW a5 (i:=1) rfl rfl rfl rfl) (aL (v:=zS a7 l.length c8) ?_))))))))));obtain ⟨a,b6,hm⟩:=aC hm
 refine aQ (vs:=[zA (zCa t a1 c2 a4 c5),zS a7 l.length c8]) call27 rfl (uC b6 a5 u h3 h6 h9) ?_
 rintro _ d4 ⟨b7,c,d,e,g,rfl,b8,b9,c0,c1⟩
 refine aL (v:=zT #[zA (zCa a.1 c d e g),i64 a.2]) (aH (bD rfl rfl) (aH (bD rfl rfl) (aX (vs:=o) zeroValue27 c1 rfl (fun a6 d5 c3=>(bH (i:=0) (ns:=(zC a.1 c d e g)) (us:=(zC a.1 c d e g)) sizeOf27 c3 rfl rfl rfl rfl rfl (cK rfl) rfl rfl (fun c4 (a8:aD G b7 (box a6 27 (zC a.1 c d e g)::box a3 27 o::box a2 27 m::L) c4)=>(aI (v:=i64 a.2) (aK (aM (aO (aL (v:=i64 a.2) (aH (aFE rfl rfl) (aK ?_)))))))))))))
 rcases aN hm with ⟨a9,hm⟩|⟨a9,hm⟩
 ·exact aP
 ·refine aW a9 rfl (bB (aB (aO (aH (gE (us:=(zC a.1 c d e g)) cW a8 (i:=0) rfl rfl rfl rfl) ?_))));obtain ⟨b,c6,hm⟩:=aC hm
  refine aQ (vs:=[zA (zCa a.1 c d e g)]) call46 rfl (aAs c6 a8 u b9 c0) ?_
  rintro _ d6 ⟨p,h,c45,j,k,q,r,rfl,c7,c9⟩
  refine aH (bD rfl rfl) (aH (bD rfl rfl) (aH (bD rfl rfl) (bH (i:=4) (ns:=(zC b.1 h c45 j k)) (us:=(zC b.1 h c45 j k)) sizeOf27 c9 rfl rfl rfl rfl rfl (cK rfl) rfl rfl (fun d0 (b0:aD G p (aG 9 K h c45 b.1.L::aG 46 K j k b.1.E::aG 55 p q r b.2.1::box a6 27 (zC a.1 c d e g)::box a3 27 (zC b.1 h c45 j k)::box a2 27 m::L) d0)=>(aI (v:=zS q b.2.1.length r) (aI (v:=i64 b.2.2) (aK ?_)))))));obtain rfl:=zI hm
  exact kX (aDw results16 (tC (vs:=(zC b.1 h c45 j k)) rfl cW b0 (i:=4) rfl rfl rfl) (yJ rfl rfl) (yJ rfl rfl) ⟨p,h,c45,j,k,q,r,rfl,(zL b8 c7),(aD.arr 6 [0,1,2] b0 rfl)⟩)
theorem gV {t:bF} {k:Int} {a:aF} {R:Int} (hm:tW t k a=some R) (e:aD G K (L) w) (m:bS K a1 c2 t.L) (n:bS K a4 c5 t.E):
  Calls prog 51 ([zA (zCa t a1 c2 a4 c5),i64 k,str a]:List Value).toArray w (eR fun v w'=>v=i64 R/\aD G K (L) w'):=by
 let b:=(zC t a1 c2 a4 c5)
 refine aR func51 rfl (by kernel_rfl) (by show (3:Nat)<=21;decide) ?_;unfold tW at hm
 refine aO (fL (v:=zA (zCa t a1 c2 a4 c5)) (vs:=b) e rfl rfl (fun g o c=>(aI (v:=i64 0) (aK (aM (aO (aL (v:=i64 k) (aH (cQ rfl rfl) (aK ?_)))))))))
 rcases aN hm with ⟨d,hm⟩|⟨d,hm⟩
 ·exact aP
 ·refine aW d rfl (bB (aB (aM (aO (aH (gE (us:=b) cW c (i:=0) rfl rfl rfl rfl) (aL (v:=i64 k) (bL (Kt:=K) (xs:=([k]:List Int)) (cs:=[i64 k]) (vs:=[(0,i64 k)]) dA rZ rfl rfl c rfl (by kernel_rfl) rfl rfl rfl ⟨rfl,trivial⟩ (fun h j (l:aD G K (aG 2 K h 1 ([k]:List Int)::box g 27 b::L) j)=>(aL (v:=str a) ?_)))))))));obtain ⟨p,q,r,u,x⟩:=aD.lendSp l (zR _) .head
  exact aP
theorem aAk {a:aF} {p:(List aF)} {b:Nat} {R:Bool} (hm:zN a p=some R) (c:aD G K (L) w) (d:fD K a1 b [zS a4 p.length c5]) (e:bS K a4 c5 p):
  Calls prog 102 ([str a,cP a1 b]:List Value).toArray w (eR fun v w'=>v=zB R/\aD G K (L) w'):=by
 exact aP
theorem jM {a d:(List aF)} {b:Nat} {R:Int} (hm:dU a d=some R) (r:aD G K (L) w) (e:bS K a1 c2 a) (l:fD K a4 b [zS a7 d.length c8]) (m:bS K a7 c8 d):
  Calls prog 85 ([zS a1 a.length c2,Value.func (.func 102) #[] #[cP a4 b]]:List Value).toArray w (eR fun v w'=>v=i64 R/\aD G K (L) w'):=by
 refine aR func85 rfl (by kernel_rfl) (by show (2:Nat)<=19;decide) ?_;unfold dU at hm
 refine aO (aI (v:=i64 0) (aK (aM (aO (aL (v:=zS a1 a.length c2) (aH (bI (len:=a.length) bE rfl) (aL (v:=i64 0) (aK (aV [] (fun f w=>kE=some R/\aD G K (L) w) aP ?_)))))))));obtain ⟨u,n,ho⟩:=aC hm
 refine cY [0,1,7] n (fun c f w=>f 8=i64 c/\aD G K (L) w) aP ?_
 ·rintro c x f y hm hr ⟨g,h⟩
  unfold dJ at hm
  refine aO (aH (cQ g rfl) (aK (aM ?_)))
  rcases aN hm with ⟨i,hm⟩|⟨i,hm⟩
  ·refine aT i rfl (bB (aB (aM (cS (aO (bC g (aI (v:=i64 c) (aK (aO (aL (v:=Value.func (.func 102) #[] #[cP a4 b]) (aL (v:=zS a1 a.length c2) (aL (v:=i64 c) ?_))))))))))));obtain ⟨j,k,hm⟩:=aC hm
   refine aH (jF bE rfl e rfl rfl rfl k) ?_;obtain ⟨z,o,p⟩:=bS.el (sz:=1) rfl e k
   cases p
   refine aH (bG (t:=0) xB h o rfl rfl) ?_;obtain ⟨V,q,hm⟩:=aC hm
   exact kN (vs:=[str j]) (caps:=[cP a4 b]) (us:=[str j,cP a4 b]) rfl call102 rfl rfl (aAk q h l m) aP
  ·exact aP
end Gv
namespace Gv
open Go.Value renaming slice→zS,bool→zB,pointer→zP,agg→zA
open Option.some renaming inj→zI
open Gv.Hp renaming le_trans→zL,le_refl→zR
open Go Go.Proofs Go.Proofs.Tryz
set_option maxRecDepth 20000
set_option maxHeartbeats 40000000
variable {G:wY} {K:Hp} {L:List iN} {w:World} {a1 a3 a6 a4 a7 a10 a13 a16 a19 a22 a9 a12 a15 a18 a21 a25 a28 a31 a34 a37 a40 a43 a46:Option Addr} {c2 c7 c5 c11 c14 c20 c8 c17 c23 c13 c16 c22 c29 c35 c26 c41 c47:Nat}
theorem kI {c p:(List aF)} {a:Nat} {R:(List aF)} (hm:fW c p=some R) (hs:aD G K (aG 9 K a1 c2 c::L) w) (y:fD K a3 a [zS a6 p.length c7]) (z:bS K a6 c7 p):
  Calls prog 101 ([zS a1 c.length c2,Value.func (.func 102) #[] #[cP a3 a]]:List Value).toArray w (eR fun v w'=>∃ V Z,v=zS V R.length Z/\aD G K (aG 9 K V Z R::L) w'):=by
 refine aR func101 rfl (by kernel_rfl) (by show (2:Nat)<=42;decide) ?_;unfold fW at hm
 refine aO (aI (v:=zS none 0 0) (aK (aO (aL (v:=zS a1 c.length c2) (aL (v:=Value.func (.func 102) #[] #[cP a3 a]) ?_)))));obtain ⟨K9,a0,c8,c9,d0⟩:=aD.lendSp hs (zR _) .head
 obtain ⟨d,d1,hm⟩:=aC hm
 refine aQ (vs:=[zS a1 c.length c2,Value.func (.func 102) #[] #[cP a3 a]]) call85 rfl (jM d1 c9 c8 (y.mono a0) (z.mono a0)) ?_
 rintro _ e6 ⟨rfl,d2⟩
 have e7:=d0 _ _ d2
 refine aI (v:=i64 d) (aK (aM (aO (aL (v:=i64 d) (aH (nW rfl rfl) (aK ?_))))))
 rcases aN hm with ⟨a2,hm⟩|⟨a2,hm⟩
 ·exact aP
 ·refine aW a2 rfl (bB (aB (aM (aO (aL (v:=i64 d) (aH (eP rfl rfl) (aI (v:=i64 (wr (d+1))) (aK (aV [] (fun f w=>∃ e g,iD e g=some R/\f 0=zS a1 e.length c2/\f 5=i64 g/\aD G K (aG 9 K a1 c2 e::L) w) ?_ ?_)))))))))
  ·rintro f e8 ⟨e,g,hm,a4,a5,a7⟩
   unfold iD at hm
   refine aB (aO (bC a4 (bC a5 ?_)));obtain ⟨e9,d3,hm⟩:=aC hm
   have d4:=lL a7 (i:=0) rfl
   obtain ⟨f0,f1,a8⟩:=Cut.ex 1 a1 c2 g
   refine aH (vK bE d4 a8 rfl rfl rfl d3) ?_;obtain ⟨a9,b0,hm⟩:=aC hm
   refine aCb bE iW rfl a7 (i:=0) rfl a8 rfl rfl b0 (fun b1 (b2:aD G K (aG 9 K a1 c2 a9::L) b1)=>(aK (aO (bC (v:=zS a1 a9.length c2) (Eq.trans a4 (congrArg (fun n=>zS a1 n c2) (aGq b0))) (bC a5 ?_)))));obtain ⟨b3,b4,hm⟩:=aC hm
   have d5:=lL b2 (i:=0) rfl
   obtain ⟨b5,b6,b7⟩:=Cut.ex 1 a1 c2 0
   refine aH (aCy bE d5 b7 rfl rfl rfl b4) (aI (v:=zS b5 b3.length b6) (aK ?_))
   have f2:aD G K (aG 9 K b5 b6 b3::L) b1:=aD.cutP b2 (i:=0) rfl b4 b7
   exact aP
  obtain ⟨f3,d6,ho⟩:=aC hm
  refine tB [1] d6 (fun j k l f w=>f 0=zS a1 j.length c2/\f 5=i64 k/\f 6=i64 l/\aD G K (aG 9 K a1 c2 j::L) w) aP ?_
  ·rintro j k l d7 f f4 hm hr ⟨m,b8,q,r⟩
   unfold dQ at hm
   refine aM (aO (bC q (bC m (aH (bI (len:=j.length) bE rfl) (aH (cQ rfl rfl) (aK ?_))))))
   rcases aN hm with ⟨b9,hm⟩|⟨b9,hm⟩
   ·refine aT b9 rfl (bB (aB (aM (aV [1,6] (fun f w=>∃ o u,dP l o u=some d7/\f 0=zS a1 o.length c2/\f 5=i64 u/\aD G K (aG 9 K a1 c2 o::L) w) ?_ ?_))))
    ·rintro f f5 ⟨o,u,hm,d8,d9,e0⟩
     unfold dP at hm
     exact aB (aZ (bC q (aH (eP rfl rfl) (aI (v:=i64 (wr (l+1))) (aK ⟨_,(zI hm).symm,bW,d8,d9,rfl,e0⟩)))))
    refine aO (bC m (bC q ?_));obtain ⟨b,x,hm⟩:=aC hm
    have c0:=dM r (i:=0) rfl x
    refine aH (fQ bE rfl c0 rfl rfl rfl x) (aH (rB (t:=0) xB r (i:=0) rfl x rfl rfl rfl) (aI (v:=str b) (aK (aO (aL (v:=Value.func (.func 102) #[] #[cP a3 a]) (aL (v:=str b) ?_))))));obtain ⟨f6,e1,hm⟩:=aC hm
    refine kN (vs:=[str b]) (caps:=[cP a3 a]) (us:=[str b,cP a3 a]) rfl call102 rfl rfl (aAk e1 r y z) ?_
    rintro _ f7 ⟨rfl,e2⟩
    refine aH (rA rfl) (aK ?_)
    rcases aN hm with ⟨c1,hm⟩|⟨c1,hm⟩
    ·refine aT c1 rfl (aO (bC m (bC b8 (aL (v:=str b) ?_))));obtain ⟨f8,c3,hm⟩:=aC hm
     refine aH (fQ bE rfl c0 rfl rfl rfl c3) ?_;obtain ⟨c4,c5,hm⟩:=aC hm
     exact pD (i:=0) (t:=0) (ns:=[str b]) (e':=(b:aF)) sizeOf9 e2 rfl (zR _) rfl rfl rfl c3 c5 rfl rfl (cK rfl) rfl (fun cs h=>by cases h;rfl) (fun e3 (e4:aD G K (aG 9 K a1 c2 c4::L) e3)=>(aK (aZ (bC b8 (aH (eP rfl rfl) (aI (v:=i64 (wr (k+1))) (aJ (cT (aB ⟨bW,c4,wr (k+1),hm,(Eq.trans m (congrArg (fun n=>zS a1 n c2) (mV c5))),rfl,e4⟩)))))))))
    ·exact aP
   ·exact aP
theorem aKm {a b R:(List aF)} (hm:aGw a b=some R) (g:aD G K (L) w) (h:bS K a1 c2 a) (i:bS K a4 c5 b):
  Calls prog 52 ([zS a1 a.length c2,zS a4 b.length c5]:List Value).toArray w (eR fun v w'=>∃ c d,v=zS c R.length d/\aD G K (aG 9 K c d R::L) w'):=by
 refine aR func52 rfl (by kernel_rfl) (by show (2:Nat)<=9;decide) ?_;unfold aGw at hm
 refine aO (fL (v:=zS a4 b.length c5) (vs:=[zS a4 b.length c5]) g rfl rfl (fun e u j=>(aI (v:=zS none 0 0) (aK (aO (aL (v:=zS a1 a.length c2) ?_))))));obtain ⟨k,l,hm⟩:=aC hm
 refine aQ (vs:=[zS a1 a.length c2]) call30 rfl (bA l j h) ?_
 rintro _ x ⟨m,n,rfl,o⟩
 refine aH (oM (vs:=[zP (some ⟨e,0,none⟩)]) rfl) ?_;obtain ⟨y,p,q,r,z⟩:=aD.lendBp o zt1
 obtain ⟨V,t,hm⟩:=aC hm
 exact aQ (vs:=[zS m k.length n,Value.func (.func 102) #[] #[cP (some ⟨e,0,none⟩) 0]]) call101 rfl (kI t r q (i.mono p)) aP
theorem sD {c:aF} {p:(List aF)} {d:Nat} {a:bF} {e:Nat} {b:(List Int)} {g:Nat} {R:Bool} (hm:kT c p a b=some R) (i:aD G K (L) w) (j:G.lo=0) (k:fD K a1 d [zS a4 p.length c5]) (l:bS K a4 c5 p) (m:fD K a7 e (zC a a10 c11 a13 c14)) (n:bS K a10 c11 a.L) (o:bS K a13 c14 a.E) (q:fD K a16 g [zS a19 b.length c20]) (r:bS K a19 c20 b):
  Calls prog 103 ([str c,cP a1 d,cP a7 e,cP a16 g]:List Value).toArray w (eR fun v w'=>v=zB R/\aD G K (L) w'):=by
 refine aR func103 rfl (by kernel_rfl) (by show (4:Nat)<=17;decide) ?_;unfold kT at hm
 exact aO (aI (v:=zB false) (aK (aM (bR [] (fun f w=>∃ h,oY h=some R/\f 5=zB h/\aD G K (L) w) aP aP))))
theorem jN {b h:(List aF)} {c:Nat} {a:bF} {d:Nat} {i:(List Int)} {e:Nat} {R:Int} (hm:dV b h a i=some R) (hs:aD G K (L) w) (p:G.lo=0) (j:bS K a1 c2 b) (q:fD K a4 c [zS a7 h.length c8]) (r:bS K a7 c8 h) (u:fD K a10 d (zC a a13 c14 a16 c17)) (x:bS K a13 c14 a.L) (y:bS K a16 c17 a.E) (z:fD K a19 e [zS a22 i.length c23]) (V:bS K a22 c23 i):
  Calls prog 85 ([zS a1 b.length c2,Value.func (.func 103) #[] #[cP a4 c,cP a10 d,cP a19 e]]:List Value).toArray w (eR fun v w'=>v=i64 R/\aD G K (L) w'):=by
 refine aR func85 rfl (by kernel_rfl) (by show (2:Nat)<=19;decide) ?_;unfold dV at hm
 refine aO (aI (v:=i64 0) (aK (aM (aO (aL (v:=zS a1 b.length c2) (aH (bI (len:=b.length) bE rfl) (aL (v:=i64 0) (aK (aV [] (fun f w=>kF=some R/\aD G K (L) w) aP ?_)))))))));obtain ⟨a6,Z,ho⟩:=aC hm
 refine cY [0,1,7] Z (fun g f w=>f 8=i64 g/\aD G K (L) w) aP ?_
 ·rintro g a8 f a9 hm hr ⟨k,l⟩
  unfold dK at hm
  refine aO (aH (cQ k rfl) (aK (aM ?_)))
  rcases aN hm with ⟨m,hm⟩|⟨m,hm⟩
  ·refine aT m rfl (bB (aB (aM (cS (aO (bC k (aI (v:=i64 g) (aK (aO (aL (v:=Value.func (.func 103) #[] #[cP a4 c,cP a10 d,cP a19 e]) (aL (v:=zS a1 b.length c2) (aL (v:=i64 g) ?_))))))))))));obtain ⟨n,o,hm⟩:=aC hm
   refine aH (jF bE rfl j rfl rfl rfl o) ?_;obtain ⟨b0,a0,a2⟩:=bS.el (sz:=1) rfl j o
   cases a2
   refine aH (bG (t:=0) xB l a0 rfl rfl) ?_;obtain ⟨b1,a3,hm⟩:=aC hm
   exact kN (vs:=[str n]) (caps:=[cP a4 c,cP a10 d,cP a19 e]) (us:=[str n,cP a4 c,cP a10 d,cP a19 e]) rfl call103 rfl rfl (sD a3 l p q r u x y z V) aP
  ·exact aP
theorem jI {j x:(List aF)} {a:Nat} {b:bF} {c:Nat} {y:(List Int)} {d:Nat} {R:(List aF)} (hm:fB j x b y=some R) (hs:aD G K (aG 9 K a1 c2 j::L) w) (hG:G.lo=0) (h5:fD K a3 a [zS a6 x.length c7]) (h8:bS K a6 c7 x) (a7:fD K a9 c (zC b a12 c13 a15 c16)) (a8:bS K a12 c13 b.L) (b0:bS K a15 c16 b.E) (b1:fD K a18 d [zS a21 y.length c22]) (b2:bS K a21 c22 y):
  Calls prog 101 ([zS a1 j.length c2,Value.func (.func 103) #[] #[cP a3 a,cP a9 c,cP a18 d]]:List Value).toArray w (eR fun v w'=>∃ b3 b4,v=zS b3 R.length b4/\aD G K (aG 9 K b3 b4 R::L) w'):=by
 refine aR func101 rfl (by kernel_rfl) (by show (2:Nat)<=42;decide) ?_;unfold fB at hm
 refine aO (aI (v:=zS none 0 0) (aK (aO (aL (v:=zS a1 j.length c2) (aL (v:=Value.func (.func 103) #[] #[cP a3 a,cP a9 c,cP a18 d]) ?_)))));obtain ⟨f6,e,d9,e0,e1⟩:=aD.lendSp hs (zR _) .head
 obtain ⟨k,e2,hm⟩:=aC hm
 refine aQ (vs:=[zS a1 j.length c2,Value.func (.func 103) #[] #[cP a3 a,cP a9 c,cP a18 d]]) call85 rfl (jN e2 e0 hG d9 (h5.mono e) (h8.mono e) (a7.mono e) (a8.mono e) (b0.mono e) (b1.mono e) (b2.mono e)) ?_
 rintro _ f7 ⟨rfl,e3⟩
 have f8:=e1 _ _ e3
 refine aI (v:=i64 k) (aK (aM (aO (aL (v:=i64 k) (aH (nW rfl rfl) (aK ?_))))))
 rcases aN hm with ⟨b5,hm⟩|⟨b5,hm⟩
 ·exact aP
 ·refine aW b5 rfl (bB (aB (aM (aO (aL (v:=i64 k) (aH (eP rfl rfl) (aI (v:=i64 (wr (k+1))) (aK (aV [] (fun f w=>∃ l m,gL l m=some R/\f 0=zS a1 l.length c2/\f 5=i64 m/\aD G K (aG 9 K a1 c2 l::L) w) ?_ ?_)))))))))
  ·rintro f f9 ⟨l,m,hm,b6,b7,b8⟩
   unfold gL at hm
   refine aB (aO (bC b6 (bC b7 ?_)));obtain ⟨g0,e4,hm⟩:=aC hm
   have e5:=lL b8 (i:=0) rfl
   obtain ⟨g1,c45,b9⟩:=Cut.ex 1 a1 c2 m
   refine aH (vK bE e5 b9 rfl rfl rfl e4) ?_;obtain ⟨c0,c1,hm⟩:=aC hm
   refine aCb bE iW rfl b8 (i:=0) rfl b9 rfl rfl c1 (fun c3 (c4:aD G K (aG 9 K a1 c2 c0::L) c3)=>(aK (aO (bC (v:=zS a1 c0.length c2) (Eq.trans b6 (congrArg (fun n=>zS a1 n c2) (aGq c1))) (bC b7 ?_)))));obtain ⟨c5,c6,hm⟩:=aC hm
   have e6:=lL c4 (i:=0) rfl
   obtain ⟨c8,c9,d0⟩:=Cut.ex 1 a1 c2 0
   refine aH (aCy bE e6 d0 rfl rfl rfl c6) (aI (v:=zS c8 c5.length c9) (aK ?_))
   have g2:aD G K (aG 9 K c8 c9 c5::L) c3:=aD.cutP c4 (i:=0) rfl c6 d0
   exact aP
  obtain ⟨g3,e7,ho⟩:=aC hm
  refine tB [1] e7 (fun o p q f w=>f 0=zS a1 o.length c2/\f 5=i64 p/\f 6=i64 q/\aD G K (aG 9 K a1 c2 o::L) w) aP ?_
  ·rintro o p q e8 f g4 hm hr ⟨r,d1,z,V⟩
   unfold dE at hm
   refine aM (aO (bC z (bC r (aH (bI (len:=o.length) bE rfl) (aH (cQ rfl rfl) (aK ?_))))))
   rcases aN hm with ⟨d2,hm⟩|⟨d2,hm⟩
   ·refine aT d2 rfl (bB (aB (aM (aV [1,6] (fun f w=>∃ u Z,dD q u Z=some e8/\f 0=zS a1 u.length c2/\f 5=i64 Z/\aD G K (aG 9 K a1 c2 u::L) w) ?_ ?_))))
    ·rintro f g5 ⟨u,Z,hm,e9,f0,f1⟩
     unfold dD at hm
     exact aB (aZ (bC z (aH (eP rfl rfl) (aI (v:=i64 (wr (q+1))) (aK ⟨_,(zI hm).symm,bW,e9,f0,rfl,f1⟩)))))
    refine aO (bC r (bC z ?_));obtain ⟨g,a0,hm⟩:=aC hm
    have d3:=dM V (i:=0) rfl a0
    refine aH (fQ bE rfl d3 rfl rfl rfl a0) (aH (rB (t:=0) xB V (i:=0) rfl a0 rfl rfl rfl) (aI (v:=str g) (aK (aO (aL (v:=Value.func (.func 103) #[] #[cP a3 a,cP a9 c,cP a18 d]) (aL (v:=str g) ?_))))));obtain ⟨g6,f2,hm⟩:=aC hm
    refine kN (vs:=[str g]) (caps:=[cP a3 a,cP a9 c,cP a18 d]) (us:=[str g,cP a3 a,cP a9 c,cP a18 d]) rfl call103 rfl rfl (sD f2 V hG h5 h8 a7 a8 b0 b1 b2) ?_
    rintro _ g7 ⟨rfl,f3⟩
    refine aH (rA rfl) (aK ?_)
    rcases aN hm with ⟨d4,hm⟩|⟨d4,hm⟩
    ·refine aT d4 rfl (aO (bC r (bC d1 (aL (v:=str g) ?_))));obtain ⟨g8,d5,hm⟩:=aC hm
     refine aH (fQ bE rfl d3 rfl rfl rfl d5) ?_;obtain ⟨d6,d7,hm⟩:=aC hm
     exact pD (i:=0) (t:=0) (ns:=[str g]) (e':=(g:aF)) sizeOf9 f3 rfl (zR _) rfl rfl rfl d5 d7 rfl rfl (cK rfl) rfl (fun cs h=>by cases h;rfl) (fun f4 (f5:aD G K (aG 9 K a1 c2 d6::L) f4)=>(aK (aZ (bC d1 (aH (eP rfl rfl) (aI (v:=i64 (wr (p+1))) (aJ (cT (aB ⟨bW,d6,wr (p+1),hm,(Eq.trans r (congrArg (fun n=>zS a1 n c2) (mV d7))),rfl,f5⟩)))))))))
    ·exact aP
   ·exact aP
theorem aDj {t:bF} {b:(List aF)} {c:(List Int)} {R:(List aF)} (hm:rT t b c=some R) (q:aD G K (L) w) (r:G.lo=0) (g:bS K a1 c2 t.L) (u:bS K a4 c5 t.E) (x:bS K a7 c8 b) (y:bS K a10 c11 c):
  Calls prog 53 ([zA (zCa t a1 c2 a4 c5),zS a7 b.length c8,zS a10 c.length c11]:List Value).toArray w (eR fun v w'=>∃ h j,v=zS h R.length j/\aD G K (aG 9 K h j R::L) w'):=by
 refine aR func53 rfl (by kernel_rfl) (by show (3:Nat)<=13;decide) ?_;unfold rT at hm
 refine aO (fL (v:=zA (zCa t a1 c2 a4 c5)) (vs:=(zC t a1 c2 a4 c5)) q rfl rfl (fun k b8 z=>(fL (v:=zS a7 b.length c8) (vs:=[zS a7 b.length c8]) z rfl rfl (fun l b9 V=>(fL (v:=zS a10 c.length c11) (vs:=[zS a10 c.length c11]) V rfl rfl (fun m c0 n=>(aI (v:=zS none 0 0) (aK (aO (aH (bP (t':=2) fT rfl rfl) (aH (fP gY n (i:=2) rfl rfl rfl) ?_)))))))))));obtain ⟨Z,o,hm⟩:=aC hm
 obtain ⟨a0,a2,p⟩:=Cut.ex 1 a1 c2 1
 have a3:=bS.cut' g o p
 refine aH (vK bE g.room p rfl rfl rfl o) ?_;obtain ⟨a5,a6,hm⟩:=aC hm
 refine aQ (vs:=[zS a0 Z.length a2]) call30 rfl (bA a6 n a3) ?_
 rintro _ c1 ⟨a8,a9,rfl,b0⟩
 refine aH (oM (vs:=[zP (some ⟨l,0,none⟩),zP (some ⟨k,0,none⟩),zP (some ⟨m,0,none⟩)]) rfl) ?_;obtain ⟨c3,e,b1,b2,c4⟩:=aD.lendBp b0 zt2
 obtain ⟨c6,d,b3,b4,c7⟩:=aD.lendBp b2 zt2
 obtain ⟨c9,a,b5,b6,d0⟩:=aD.lendBp b4 zt1
 obtain ⟨d1,b7,hm⟩:=aC hm
 exact aQ (vs:=[zS a8 a5.length a9,Value.func (.func 103) #[] #[cP (some ⟨l,0,none⟩) 0,cP (some ⟨k,0,none⟩) 0,cP (some ⟨m,0,none⟩) 0]]) call101 rfl (jI b7 b6 r (b1.mono (zL d a)) (x.mono (zL (zL e d) a)) (b3.mono a) (g.mono (zL (zL e d) a)) (u.mono (zL (zL e d) a)) b5 (y.mono (zL (zL e d) a))) aP
theorem sW {spec made:bF} {a:(List aF)} {e b:(List Int)} {R:(List aF)} (hm:mE spec made a e b=some R) (m:aD G K (L) w) (n:G.lo=0) (h3:bS K a1 c2 spec.L) (h6:bS K a4 c5 spec.E) (o:bS K a7 c8 made.L) (p:bS K a10 c11 made.E) (q:bS K a13 c14 a) (a6:bS K a16 c17 e) (r:bS K a19 c20 b):
  Calls prog 20 ([zA (zCa spec a1 c2 a4 c5),zA (zCa made a7 c8 a10 c11),zS a13 a.length c14,zS a16 e.length c17,zS a19 b.length c20]:List Value).toArray w (eR fun v w'=>∃ h i,v=zS h R.length i/\aD G K (aG 9 K h i R::L) w'):=by
 let j:=(zC made a7 c8 a10 c11)
 let k:=(zC spec a1 c2 a4 c5)
 refine aR func20 rfl (by kernel_rfl) (by show (5:Nat)<=20;decide) ?_;unfold mE at hm
 refine aO (fL (v:=zA (zCa spec a1 c2 a4 c5)) (vs:=k) m rfl rfl (fun a8 a9 u=>(fL (v:=zA (zCa made a7 c8 a10 c11)) (vs:=j) u rfl rfl (fun b0 b1 x=>(aI (v:=zS none 0 0) (aK (aM ?_)))))));obtain ⟨b2,g,y,z,b3⟩:=aD.lendBp x .head
 obtain ⟨V,c,Z,l,b4⟩:=aD.lendBp z .head
 refine dX (C:=fun w'=>∃ L',aD G V L' w') [(0,0),(1,0),(2,0),(4,0),(5,0),(6,0),(3,1),(7,1),(8,1),(9,0)] Tryz_mixed (by kernel_rfl) (fun _ hg=>⟨_,aD.mono l hg⟩) (fun b5 a0=>?_)
 have d:=aD.mono l a0
 refine bZ rfl (fun _ ⟨_,d⟩=>eJ (t:=0) (vs:=j) cW d (y.mono c) rfl rfl rfl) (bZ rfl (fun _ _=>bJ (v:=zS a13 a.length c14) rfl) (bZ rfl (fun _ _=>bJ (v:=zS a19 b.length c20) rfl) (bZ rfl (fun _ ⟨_,d⟩=>eJ (t:=0) (vs:=k) cW d Z rfl rfl rfl) (bZ rfl (fun _ _=>bJ (v:=zS a13 a.length c14) rfl) (bZ rfl (fun _ _=>bJ (v:=zS a16 e.length c17) rfl) (gP rfl ?_))))));obtain ⟨b6,a2,hm⟩:=aC hm
 exact aQ (vs:=[zA (zCa made a7 c8 a10 c11),zS a13 a.length c14,zS a19 b.length c20]) call53 rfl (aDj a2 d n (o.mono (zL g c)) (p.mono (zL g c)) (q.mono (zL g c)) (r.mono (zL g c))) aP
theorem mU {t:bF} {a:(List aF)} {R:(List Int)} (hm:jH t a=some R) (q:aD G K (L) w) (r:bS K a1 c2 t.L) (u:bS K a4 c5 t.E) (h9:bS K a7 c8 a):
  Calls prog 21 ([zA (zCa t a1 c2 a4 c5),zS a7 a.length c8]:List Value).toArray w (eR fun v w'=>∃ e g,v=zS e R.length g/\aD G K (aG 2 K e g R::L) w'):=by
 let b:=(zC t a1 c2 a4 c5)
 refine aR func21 rfl (by kernel_rfl) (by show (2:Nat)<=25;decide) ?_;unfold jH at hm
 refine aO (fL (v:=zA (zCa t a1 c2 a4 c5)) (vs:=b) q rfl rfl (fun h b1 c=>(aI (v:=zS none 0 0) (aK (aO (aH (gE (us:=b) cW c (i:=0) rfl rfl rfl rfl) (aH (bP (t':=1) yK rfl rfl) (aH (fP fK c (i:=0) rfl rfl rfl) (bL (Kt:=K) (xs:=([t.I]:List Int)) (cs:=[i64 t.I]) (vs:=[(0,i64 t.I)]) dA rZ rfl rfl c rfl (by kernel_rfl) rfl rfl rfl ⟨rfl,trivial⟩ (fun j x (y:aD G K (aG 2 K j 1 ([t.I]:List Int)::box h 27 b::L) x)=>?_))))))))))
 obtain ⟨b2,k,z,V,Z⟩:=aD.lendSp y (zR _) .head
 obtain ⟨a0,a2,hm⟩:=aC hm
 refine aQ (vs:=[zA (zCa t a1 c2 a4 c5),zS j ([t.I]:List Int).length 1]) call54 rfl (vP a2 V (r.mono k) (u.mono k) z) ?_
 rintro _ b3 ⟨a3,a5,rfl,a6⟩
 have b4:=Z _ _ a6
 refine aI (v:=zS a3 a0.length a5) (aK (aM (aO (aL (v:=zS a7 a.length c8) (aH (bI (len:=a.length) bE rfl) (aL (v:=i64 0) (aK (aV [] (fun f w=>∃ d l m,aFP d=some R/\f 5=zS l d.length m/\aD G K (aG 2 K l m d::L) w) aP ?_))))))));obtain ⟨b5,a8,ho⟩:=aC hm
 exact cZ [2,13,14] a8 (fun n a9 f w=>∃ o p,f 5=zS o n.length p/\f 15=i64 a9/\aD G K (aG 2 K o p n::box h 27 b::L) w) aP aP
theorem iR {a:(List (List aF))} {R:(List aF)} (hm:cG a=some R) (hs:aD G K (L) w) (h3:bS K a1 c2 a):
  Calls prog 50 ([zS a1 a.length c2]:List Value).toArray w (eR fun v w'=>∃ g h,v=zS g R.length h/\aD G K (aG 9 K g h R::L) w'):=by
 refine aR func50 rfl (by kernel_rfl) (by show (1:Nat)<=36;decide) ?_;unfold cG at hm
 refine aO (aI (v:=zS none 0 0) (aK (aO (aI (v:=i64 0) (aK (aM (aO (aL (v:=zS a1 a.length c2) (aH (bI (len:=a.length) sH rfl) (aL (v:=i64 0) (aK (aV [0] (fun f w=>∃ b,gC a b=some R/\f 3=i64 b/\aD G K (L) w) ?_ ?_))))))))))))
 ·rintro f w6 ⟨b,hm,q,r⟩
  unfold gC at hm
  refine aB (aO (bC q ?_));obtain ⟨t,u,hm⟩:=aC hm
  refine aQ (vs:=[zS none 0 0,i64 b]) call99 rfl (lib_GrowStr r (uG (α:=aF) _) u) ?_
  rintro _ a7 ⟨x,y,rfl,a8⟩
  refine aI (v:=zS x t.length y) (aK (aM (aO (aL (v:=zS a1 a.length c2) (aH (bI (len:=a.length) sH rfl) (aL (v:=i64 0) (aK (aV [] (fun f w=>∃ d i j,mJ d=some R/\f 6=zS i d.length j/\aD G K (aG 9 K i j d::L) w) aP ?_))))))));obtain ⟨a9,z,ho⟩:=aC hm
  exact cZ [25,26] z (fun k V f w=>∃ l m,f 6=zS l k.length m/\f 27=i64 V/\aD G K (aG 9 K l m k::L) w) aP aP
 obtain ⟨b0,Z,ho⟩:=aC hm
 refine cZ [0,9,10] Z (fun n c f w=>f 3=i64 n/\f 11=i64 c/\aD G K (L) w) aP ?_
 ·rintro n c a0 f b1 hm hr ⟨b2,o,b3⟩
  unfold bO at hm
  refine aO (aH (cQ o rfl) (aK (aM ?_)))
  rcases aN hm with ⟨p,hm⟩|⟨p,hm⟩
  ·refine aT p rfl (bB (aB (aM (aV [0,9,10,11] (fun f w=>∃ e,eQ c e=some a0/\f 3=i64 e/\aD G K (L) w) ?_ ?_))))
   ·rintro f b4 ⟨e,hm,a2,a3⟩
    unfold eQ at hm
    exact aB (aZ (aH (eP o rfl) (aL (v:=i64 (wr (c+1))) (aK ⟨_,(zI hm).symm,bW,a2,rfl,a3⟩))))
   exact aP
  ·exact aP
theorem aDk {p q:Int} {c:bF} {l:Nat} {d:bF} {m:Nat} {h:(List aF)} {n:Nat} {i:(List (List Int))} {o:Nat} {j:(List (List Int))} {r:Nat} {R:Bool} (hm:oP p q c d h i j=some R) (u:aD G K (L) w) (hG:G.lo=0) (h3:fD K a1 l (zC c a4 c5 a7 c8)) (h6:bS K a4 c5 c.L) (h9:bS K a7 c8 c.E) (a6:fD K a10 m (zC d a13 c14 a16 c17)) (a8:bS K a13 c14 d.L) (a9:bS K a16 c17 d.E) (b0:fD K a19 n [zS a22 h.length c23]) (b1:bS K a22 c23 h) (b2:fD K a25 o [zS a28 i.length c29]) (x:bS K a28 c29 i) (b3:fD K a31 r [zS a34 j.length c35]) (y:bS K a34 c35 j):
  Calls prog 19 ([i64 p,i64 q,cP a1 l,cP a10 m,cP a19 n,cP a25 o,cP a31 r]:List Value).toArray w (eR fun v w'=>v=zB R/\aD G K (L) w'):=by
 refine aR func19 rfl (by kernel_rfl) (by show (7:Nat)<=32;decide) ?_;unfold oP at hm
 refine aO (aI (v:=zB false) (aK (aM (bR [] (fun f w=>∃ z,pO z=some R/\f 9=zB z/\aD G K (L) w) aP (dX (C:=fun w'=>∃ L',aD G K L' w') [(0,0),(1,0),(2,0),(3,0),(4,0),(5,0),(6,0),(7,0),(8,0),(9,0),(10,0),(11,0),(12,0),(13,0),(14,0),(15,0),(16,0),(17,0),(18,1),(19,0),(20,0),(21,0),(22,0)] Tryz_mixed (by kernel_rfl) (fun _ hg=>⟨_,aD.mono u hg⟩) (fun d1 b4=>?_))))))
 have b:=aD.mono u b4
 refine bZ rfl (fun _ _=>bJ (v:=i64 p) rfl) (bZ rfl (fun _ _=>R_geq rfl rfl) (bZ rfl (fun _ _=>bJ (v:=zB (decide (0<=p))) rfl) ?_))
 rcases aN hm with ⟨e,hm⟩|⟨e,hm⟩
 ·refine aCw rfl rfl rfl e (fun _ _=>bJ (v:=i64 q) rfl) (aCw rfl rfl rfl e (fun _ _=>R_geq rfl rfl) (bZ rfl (fun _ _=>aAT (v:=zB (decide (0<=q))) e rfl rfl) (bZ rfl (fun _ _=>bJ (v:=zB (decide (0<=q))) rfl) ?_)))
  rcases aN hm with ⟨a,hm⟩|⟨a,hm⟩
  ·refine aCw rfl rfl rfl a (fun _ ⟨_,b⟩=>eJ (t:=0) (vs:=(zC c a4 c5 a7 c8)) cW b h3 rfl rfl rfl) (aCw rfl rfl rfl a (fun _ ⟨_,b⟩=>eJ (t:=0) (vs:=(zC d a13 c14 a16 c17)) cW b a6 rfl rfl rfl) (aCw rfl rfl rfl a (fun _ ⟨_,b⟩=>bG (t:=0) gY b b0 rfl rfl) (aCw rfl rfl rfl a (fun _ ⟨_,b⟩=>bG (t:=0) aHI b b2 rfl rfl) (aCw rfl rfl rfl a (fun _ _=>bJ (v:=i64 p) rfl) ?_))));obtain ⟨b5,V,hm⟩:=aC hm
   refine aCw rfl rfl rfl a (fun _ _=>jF aAq rfl x rfl rfl rfl V) ?_;obtain ⟨d2,b6,b7⟩:=bS.el (sz:=1) rfl x V
   obtain ⟨b8,b9,rfl,c0⟩:=b7
   refine aCw rfl rfl rfl a (fun _ ⟨_,b⟩=>bG (t:=0) aLF b b6 rfl rfl) (aCw rfl rfl rfl a (fun _ ⟨_,b⟩=>bG (t:=0) aHI b b3 rfl rfl) (aCw rfl rfl rfl a (fun _ _=>bJ (v:=i64 q) rfl) ?_));obtain ⟨c1,Z,hm⟩:=aC hm
   refine aCw rfl rfl rfl a (fun _ _=>jF aAq rfl y rfl rfl rfl Z) ?_;obtain ⟨d3,c2,c3⟩:=bS.el (sz:=1) rfl y Z
   obtain ⟨c4,c6,rfl,c7⟩:=c3
   refine aCw rfl rfl rfl a (fun _ ⟨_,b⟩=>bG (t:=0) aLF b c2 rfl rfl) (gP rfl (fZ a rfl rfl ?_));obtain ⟨k,c9,hm⟩:=aC hm
   refine aQ (vs:=[zA (zCa c a4 c5 a7 c8),zA (zCa d a13 c14 a16 c17),zS a22 h.length c23,zS b8 b5.length b9,zS c4 c1.length c6]) call20 rfl (sW c9 b hG h6 h9 a8 a9 b1 c0 c7) ?_
   rintro _ d4 ⟨d5,d6,rfl,d0⟩
   refine aJ (aB ⟨⟨_,d0⟩,?_⟩)
   exact aCw rfl rfl rfl a (fun _ _=>bI (len:=k.length) bE rfl) (aCw rfl rfl rfl a (fun _ _=>sZ rfl rfl) (bZ rfl (fun _ _=>aAT (v:=zB (decide (0 < (k.length:Int)))) a rfl rfl) (bZ rfl (fun _ _=>cU (v:=zB (decide (0 < (k.length:Int)))) rfl) (aCv aP))))
  ·refine kL rfl rfl rfl (oU a) (kL rfl rfl rfl (oU a) (kL rfl rfl rfl (oU a) (kL rfl rfl rfl (oU a) (kL rfl rfl rfl (oU a) (kL rfl rfl rfl (oU a) (kL rfl rfl rfl (oU a) (kL rfl rfl rfl (oU a) (kL rfl rfl rfl (oU a) (kL rfl rfl rfl (oU a) (kL rfl rfl rfl (oU a) (gP rfl (yI (g:=16) a (by exact rfl) rfl (aJ (aB ⟨⟨_,b⟩,?_⟩))))))))))))))
   exact kL rfl rfl rfl (oU a) (kL rfl rfl rfl (oU a) aP)
 ·refine kL rfl rfl rfl (oU e) (kL rfl rfl rfl (oU e) (bZ rfl (fun _ _=>vR (v:=zB false) e rfl rfl) (bZ rfl (fun _ _=>bJ (v:=zB false) rfl) (kL rfl rfl rfl (oU (by decide:¬ false=true)) (kL rfl rfl rfl (oU (by decide:¬ false=true)) (kL rfl rfl rfl (oU (by decide:¬ false=true)) (kL rfl rfl rfl (oU (by decide:¬ false=true)) (kL rfl rfl rfl (oU (by decide:¬ false=true)) (kL rfl rfl rfl (oU (by decide:¬ false=true)) (kL rfl rfl rfl (oU (by decide:¬ false=true)) (kL rfl rfl rfl (oU (by decide:¬ false=true)) (kL rfl rfl rfl (oU (by decide:¬ false=true)) (kL rfl rfl rfl (oU (by decide:¬ false=true)) (kL rfl rfl rfl (oU (by decide:¬ false=true)) (gP rfl (yI (g:=16) (by decide:¬ false=true) (by exact rfl) rfl (aJ (aB ⟨⟨_,b⟩,?_⟩))))))))))))))))))
  exact kL rfl rfl rfl (oU (by decide:¬ false=true)) (kL rfl rfl rfl (oU (by decide:¬ false=true)) aP)
theorem aDO {a b found_c0_:bF} {e5:Nat} {found_c1_:bF} {e6:Nat} {f9:(List aF)} {e7:Nat} {g0:(List (List Int))} {e8:Nat} {g1:(List (List Int))} {e9:Nat} {R:((List aF) × Bool)} (hm:uS a b found_c0_ found_c1_ f9 g0 g1=some R) (hs:aD G K (L) w) (hG:G.lo=0) (h3:bS K a1 c2 a.L) (h6:bS K a4 c5 a.E) (h9:bS K a7 c8 b.L) (i6:bS K a10 c11 b.E) (r4:fD K a13 e5 (zC found_c0_ a16 c17 a19 c20)) (r5:bS K a16 c17 found_c0_.L) (r6:bS K a19 c20 found_c0_.E) (r7:fD K a22 e6 (zC found_c1_ a25 c26 a28 c29)) (r8:bS K a25 c26 found_c1_.L) (r9:bS K a28 c29 found_c1_.E) (s0:fD K a31 e7 [zS a34 f9.length c35]) (s1:bS K a34 c35 f9) (s2:fD K a37 e8 [zS a40 g0.length c41]) (s3:bS K a40 c41 g0) (s4:fD K a43 e9 [zS a46 g1.length c47]) (s5:bS K a46 c47 g1):
  Calls prog 18 ([zA (zCa a a1 c2 a4 c5),zA (zCa b a7 c8 a10 c11),Value.func (.func 19) #[] #[cP a13 e5,cP a22 e6,cP a31 e7,cP a37 e8,cP a43 e9]]:List Value).toArray w (eR fun v w'=>∃ K' l8 l9,v=Value.tuple #[zS l8 R.1.length l9,zB R.2]/\Hp.le K K'/\bS K' l8 l9 R.1/\aD G K' (L) w'):=by
 let m0:=(zC b a7 c8 a10 c11)
 let m1:=(zC a a1 c2 a4 c5)
 let m2:=[i64 a.I,i64 b.I,zS none 0 0]
 refine aR func18 rfl (by kernel_rfl) (by show (3:Nat)<=96;decide) ?_;unfold uS at hm
 refine aO (fL (v:=zA (zCa a a1 c2 a4 c5)) (vs:=m1) hs rfl rfl (fun b49 s6 s7=>?_));obtain ⟨s8,p,f0,i8,_⟩:=aD.lendBp s7 .head
 replace i8:aD G s8 (L) s6:=i8
 refine fL (v:=zA (zCa b a7 c8 a10 c11)) (vs:=m0) i8 rfl rfl (fun b56 s9 t0=>?_);obtain ⟨a6,e,f1,f2,_⟩:=aD.lendBp t0 .head
 replace f2:aD G a6 (L) s9:=f2
 refine aI (v:=zS none 0 0) (aI (v:=zB false) (aK (aO (aH (cH (k':=0+2) fT (eY rfl) (f0.mono e) rfl) (aH (bG (t:=2) gY f2 (f0.mono e) rfl rfl) (aH (cH (k':=0+2) fT (eY rfl) f1 rfl) (aH (bG (t:=2) gY f2 f1 rfl rfl) (bL (Kt:=a6) (xs:=([a.L,b.L]:List (List aF))) (cs:=[zS a1 a.L.length c2,zS a7 b.L.length c8]) (vs:=[(0,zS a1 a.L.length c2),(1,zS a7 b.L.length c8)]) sH aFK rfl rfl f2 rfl (by kernel_rfl) rfl rfl rfl ⟨⟨a1,c2,rfl,(h3.mono (zL p e))⟩,⟨a7,c8,rfl,(h9.mono (zL p e))⟩,trivial⟩ (fun f3 t1 (t2:aD G a6 (aG 24 a6 f3 2 ([a.L,b.L]:List (List aF))::L) t1)=>?_)))))))))
 obtain ⟨K66,a51,t3,t4,t5⟩:=aD.lendSp t2 (zR _) .head
 obtain ⟨g3,t6,hm⟩:=aC hm
 refine aQ (vs:=[zS f3 ([a.L,b.L]:List (List aF)).length 2]) call50 rfl (iR t6 t4 t3) ?_
 rintro _ w75 ⟨g4,g5,rfl,t7⟩
 have t8:=t5 _ _ t7
 obtain ⟨K78,a54,t9,u0,u1⟩:=aD.lendSp t8 (zL p e) zt1
 obtain ⟨g6,u2,hm⟩:=aC hm
 have hcl:=qV u2 u0 t9 (uG (α:=mN) _)
 refine aQ (vs:=[i64 1,i64 0,zS g4 g3.length g5,zS none 0 0]) call49 rfl hcl ?_
 rintro _ u3 ⟨m3,m4,i9,j0,rfl,u4⟩
 have m5:=u1 _ _ u4
 refine aH (aMl (v:=zS m3 g6.L.length m4) aMx rfl rfl) ?_;obtain ⟨l,m6,hm⟩:=aC hm
 have u5:=lL m5 (i:=1) rfl
 obtain ⟨n,o,m7⟩:=Cut.ex 1 m3 m4 1
 refine aH (vK bE u5 m7 rfl rfl rfl m6) ?_
 have u6:aD G a6 (aG 9 K g4 g5 g3::aG 9 K n o l::aG 46 K i9 j0 g6.E::aG 24 a6 f3 2 ([a.L,b.L]:List (List aF))::L) u3:=aD.cutP m5 (i:=1) rfl m6 m7
 refine aI (v:=zS n l.length o) (aK (aO (aJS (Int × Int) Bool u6 ?_)))
 intro m u7 (j1:aD G a6 (jE m ([]:(List ((Int × Int) × Bool)))::aG 9 K g4 g5 g3::aG 9 K n o l::aG 46 K i9 j0 g6.E::aG 24 a6 f3 2 ([a.L,b.L]:List (List aF))::L) u7)
 refine aI (v:=Value.map (some m)) (aK (aO (aH (cH (k':=0+1) yK (eY rfl) (f0.mono e) rfl) (aH (bG (t:=1) fK j1 (f0.mono e) rfl rfl) (aH (cH (k':=0+1) yK (eY rfl) f1 rfl) (aH (bG (t:=1) fK j1 f1 rfl rfl) (aH (fF (vs:=[(0,i64 a.I),(1,i64 b.I),(2,zS none 0 0)]) (cs:=m2) aDx rfl (by kernel_rfl)) (bL (Kt:=a6) (xs:=([⟨a.I,b.I,[]⟩]:List aS)) (cs:=m2) (vs:=[(0,zA #[i64 a.I,i64 b.I,zS none 0 0])]) lM sI rfl rfl j1 rfl (by kernel_rfl) rfl rfl rfl ⟨⟨none,0,rfl,uG _⟩,trivial⟩ ?_))))))))
 intro j2 u8 (u9:aD G a6 (aG 93 a6 j2 1 ([⟨a.I,b.I,[]⟩]:List aS)::jE m ([]:(List ((Int × Int) × Bool)))::aG 9 K g4 g5 g3::aG 9 K n o l::aG 46 K i9 j0 g6.E::aG 24 a6 f3 2 ([a.L,b.L]:List (List aF))::L) u8)
 refine aI (v:=zS j2 ([⟨a.I,b.I,[]⟩]:List aS).length 1) (aK (aM (aV [] (fun f w=>∃ m8,Hp.le a6 m8/\aFn=some R/\aD G m8 (L) w) aP ?_)));obtain ⟨a55,v0,ho⟩:=aC hm
 refine cZ [2,3,4,8,9] v0 (fun a8 c9 f w=>∃ b0 d0 d1,Hp.le a6 b0/\f 10=zS d0 c9.length d1/\aD G b0 (aG 93 b0 d0 d1 c9::jE m a8::aG 9 K n o l::L) w) ?_ ?_
 ·exact ⟨a6,j2,1,(zR _),rfl,(aD.arr 6 [0,1,3] u9 rfl)⟩
 ·rintro a8 c9 j3 f a56 hm hr ⟨b0,d0,d1,q,j4,j5⟩
  unfold gU at hm
  refine aM (aO (bC j4 (aH (bI (len:=c9.length) lM rfl) (aH (sZ rfl rfl) (aK ?_)))))
  rcases aN hm with ⟨m9,hm⟩|⟨m9,hm⟩
  ·refine aT m9 rfl (bB (aB (aV [2,3,4,8,9] (fun f w=>∃ (f4:Hp) (j6:(List ((Int × Int) × Bool))) (g7:List aS) (g8:Option Addr) (g9:Nat),Hp.le b0 f4/\wP j6 g7=some j3/\f 10=zS g8 g7.length g9/\aD G f4 (aG 93 f4 g8 g9 g7::jE m j6::aG 9 K n o l::L) w) ?_ ?_)))
   ·rintro f a57 ⟨f4,j6,g7,g8,g9,v1,hm,v2,v3⟩
    unfold wP at hm
    exact aB ⟨_,(zI hm).symm,bW,f4,g8,g9,(zL q v1),v2,v3⟩
   refine aO (bC j4 ?_);obtain ⟨c,j7,hm⟩:=aC hm
   have v4:=dM j5 (i:=0) rfl j7
   refine aH (fQ lM rfl v4 rfl rfl rfl j7) ?_;obtain ⟨a58,v5,v6⟩:=aJP (sz:=3) rfl j5 (i:=0) rfl j7
   obtain ⟨b2,b3,rfl,f5⟩:=v6
   refine aH (aMs (t:=0) (vs:=[i64 c.a,i64 c.b,zS b2 c.trace.length b3]) ag_93 v5 rfl rfl rfl) (aX (vs:=[i64 0,i64 0,zS none 0 0]) zeroValue93 j5 rfl (fun v7 a59 v8=>(bH (i:=0) (ns:=[i64 c.a,i64 c.b,zS b2 c.trace.length b3]) (us:=[i64 c.a,i64 c.b,zS b2 c.trace.length b3]) sizeOf93 v8 rfl rfl rfl rfl rfl (cK rfl) rfl rfl (fun j8 (v9:aD G b0 (box v7 93 [i64 c.a,i64 c.b,zS b2 c.trace.length b3]::aG 93 b0 d0 d1 c9::jE m a8::aG 9 K n o l::L) j8)=>?_))))
   obtain ⟨b1,d,y,h0,_⟩:=aD.lendBp v9 .head
   replace h0:aD G b1 (aG 93 b0 d0 d1 c9::jE m a8::aG 9 K n o l::L) j8:=h0
   refine aK (aO (bC j4 ?_));obtain ⟨b7,n0,hm⟩:=aC hm
   have w0:=aNy h0 (i:=0) rfl
   obtain ⟨d2,d3,n1⟩:=Cut.ex 3 d0 d1 1
   refine aH (vK lM w0 n1 rfl rfl rfl n0) ?_
   have b4:aD G b1 (aG 93 b0 d2 d3 b7::jE m a8::aG 9 K n o l::L) j8:=aD.cutPE h0 (i:=0) rfl n0 n1
   refine aI (v:=zS d2 b7.length d3) (aK (aM (aM (bR [2,3,4,8,9,10,11] (fun f w=>∃ j9,kG a b found_c0_ found_c1_ f9 g0 g1 l a8 c b7 j9=some j3/\f 54=zB j9/\aD G b1 (aG 93 b0 d2 d3 b7::jE m a8::aG 9 K n o l::L) w) ?_ ?_))))
   ·rintro f w1 ⟨j9,hm,n2,h1⟩
    unfold kG at hm
    refine aB ?_
    rcases aN hm with ⟨k0,hm⟩|⟨k0,hm⟩
    ·refine aT k0 n2 ?_
     have a60:aD G b1 (aG 93 b1 d2 d3 b7::jE m a8::aG 9 K n o l::L) w1:=aD.weak (i:=0) h1 rfl (fun _ h=>aG.mono d h)
     exact aP
    ·refine aW k0 n2 (bB (aB (aO (aL (v:=Value.map (some m)) (aH (cH (k':=0+0) sJ (eY rfl) y rfl) (aH (bG (t:=0) fK h1 y rfl rfl) (aH (cH (k':=0+1) uJ (eY rfl) y rfl) (aH (bG (t:=1) fK h1 y rfl rfl) (aH (aEe (vs:=[(0,i64 c.a),(1,i64 c.b)]) (cs:=[i64 c.a,i64 c.b]) aLH aLI rfl (by kernel_rfl)) ?_)))))))));obtain ⟨x,w2,hm⟩:=aC hm
     refine aJV (i:=1) (k:=⟨c.a,c.b⟩) (v:=true) runUnderlying91 aLJ h1 rfl rfl rfl rfl w2 (fun w3 (k1:aD G b1 (aG 93 b0 d2 d3 b7::jE m x::aG 9 K n o l::L) w3)=>(aK (aM (aO (aL (v:=Value.func (.func 19) #[] #[cP a13 e5,cP a22 e6,cP a31 e7,cP a37 e8,cP a43 e9]) (aH (cH (k':=0+0) sJ (eY rfl) y rfl) (aH (bG (t:=0) fK k1 y rfl rfl) (aH (cH (k':=0+1) uJ (eY rfl) y rfl) (aH (bG (t:=1) fK k1 y rfl rfl) ?_)))))))))
     obtain ⟨a61,w4,hm⟩:=aC hm
     refine kN (vs:=[i64 c.a,i64 c.b]) (caps:=[cP a13 e5,cP a22 e6,cP a31 e7,cP a37 e8,cP a43 e9]) (us:=[i64 c.a,i64 c.b,cP a13 e5,cP a22 e6,cP a31 e7,cP a37 e8,cP a43 e9]) rfl call19 rfl rfl (aDk w4 k1 hG (r4.mono (zL (zL (zL p e) q) d)) (r5.mono (zL (zL (zL p e) q) d)) (r6.mono (zL (zL (zL p e) q) d)) (r7.mono (zL (zL (zL p e) q) d)) (r8.mono (zL (zL (zL p e) q) d)) (r9.mono (zL (zL (zL p e) q) d)) (s0.mono (zL (zL (zL p e) q) d)) (s1.mono (zL (zL (zL p e) q) d)) (s2.mono (zL (zL (zL p e) q) d)) (s3.mono (zL (zL (zL p e) q) d)) (s4.mono (zL (zL (zL p e) q) d)) (s5.mono (zL (zL (zL p e) q) d))) ?_
     rintro _ w5 ⟨rfl,k2⟩
     refine aK ?_
     rcases aN hm with ⟨k3,hm⟩|⟨k3,hm⟩
     ·refine aT k3 rfl (aO (aH (cH (k':=0+2) aDy (eY rfl) y rfl) (aH (bG (t:=2) gY k2 y rfl rfl) (aI (v:=zS b2 c.trace.length b3) (aI (v:=zB true) (aK (kX (cC (gO (cC (cC ?_)))))))))))
      have w6:=hr _ (zI hm).symm
      subst w6
      have hm:(some (c.trace,true))=some R:=ho
      clear hr ho
      obtain rfl:=zI hm
      exact gO (cC (cC (aGX results18 rfl rfl ⟨b1,b2,b3,rfl,(zL (zL (zL p e) q) d),(f5.mono d),(aD.arr 3 [] k2 rfl)⟩)))
     ·refine aW k3 rfl (bB (aB (aO (aL (v:=zS n l.length o) (aH (bI (len:=l.length) bE rfl) (aL (v:=i64 0) (aK (aV [2,3,4,8,9] (fun f w=>∃ f6 f7 h2 h4,Hp.le b1 f6/\aBu x f7=some j3/\f 10=zS h2 f7.length h4/\aD G f6 (aG 93 f6 h2 h4 f7::jE m x::aG 9 K n o l::L) w) ?_ ?_))))))))
      ·rintro f a62 ⟨f6,f7,h2,h4,w8,hm,w9,x0⟩
       unfold aBu at hm
       exact cT (aB ⟨bW,f6,x,f7,h2,h4,(zL d w8),hm,w9,x0⟩)
      have a64:aD G b1 (aG 93 b1 d2 d3 b7::jE m x::aG 9 K n o l::L) w5:=aD.weak (i:=0) k2 rfl (fun _ h=>aG.mono d h)
      obtain ⟨a65,x1,ho⟩:=aC hm
      refine cZ [2,3,4,8,9,11,69,70] x1 (fun a0 h5 f w=>∃ r a2 a3,Hp.le b1 r/\f 10=zS a2 a0.length a3/\f 71=i64 h5/\aD G r (aG 93 r a2 a3 a0::jE m x::aG 9 K n o l::L) w) aP ?_
      ·rintro a0 h5 x2 f a66 hm hr ⟨r,a2,a3,u,x3,k4,k5⟩
       unfold iZ at hm
       refine aO (aH (cQ k4 rfl) (aK (aM ?_)))
       rcases aN hm with ⟨n3,hm⟩|⟨n3,hm⟩
       ·refine aT n3 rfl (bB (aB (aM (cS (aO ?_)))));obtain ⟨V,k6,hm⟩:=aC hm
        have x4:=dM k5 (i:=2) rfl k6
        refine aH (fQ bE rfl x4 rfl rfl k4 k6) (aH (rB (t:=0) xB k5 (i:=2) rfl k6 rfl rfl rfl) (aI (v:=str V) (aK (bR [2,3,4,8,9,11,69,70,71] (fun f w=>∃ f8 h7 h8 i0,Hp.le r f8/\wQ h5 h7=some x2/\f 10=zS h8 h7.length i0/\aD G f8 (aG 93 f8 h8 i0 h7::jE m x::aG 9 K n o l::L) w) ?_ ?_))))
        ·rintro f a67 ⟨f8,h7,h8,i0,x5,hm,x6,x7⟩
         unfold wQ at hm
         exact cT (aB (aZ (aH (eP k4 rfl) (aL (v:=i64 (wr (h5+1))) (aK ⟨_,(zI hm).symm,bW,f8,h8,i0,(zL u x5),x6,rfl,x7⟩)))))
        refine mM (C:=fun w'=>∃ L',aD G r L' w') [] Tryz_mixed (by kernel_rfl) (fun a68 x8=>?_)
        have Z:=aD.mono k5 x8
        refine cI (i:=0) rfl (by kernel_rfl) ⟨_,Z⟩ (fun _ _=>bJ x3) (cI (i:=1) rfl (by kernel_rfl) ⟨_,Z⟩ (fun _ ⟨_,Z⟩=>eJ (t:=0) (vs:=m1) cW Z (f0.mono (zL (zL (zL e q) d) u)) (eY rfl) rfl rfl) (cI (i:=2) rfl (by kernel_rfl) ⟨_,Z⟩ (fun _ _=>cH (k':=0+0) sJ (eY rfl) (y.mono u) rfl) (cI (i:=3) rfl (by kernel_rfl) ⟨_,Z⟩ (fun _ ⟨_,Z⟩=>bG (t:=0) fK Z (y.mono u) rfl rfl) (cI (i:=4) rfl (by kernel_rfl) ⟨_,Z⟩ (fun _ _=>bJ (v:=str V) rfl) (cI (i:=6) rfl (by kernel_rfl) ⟨_,Z⟩ (fun _ ⟨_,Z⟩=>eJ (t:=0) (vs:=m0) cW Z (f1.mono (zL (zL q d) u)) (eY rfl) rfl rfl) (cI (i:=7) rfl (by kernel_rfl) ⟨_,Z⟩ (fun _ _=>cH (k':=0+1) uJ (eY rfl) (y.mono u) rfl) (cI (i:=8) rfl (by kernel_rfl) ⟨_,Z⟩ (fun _ ⟨_,Z⟩=>bG (t:=1) fK Z (y.mono u) rfl rfl) (cI (i:=9) rfl (by kernel_rfl) ⟨_,Z⟩ (fun _ _=>bJ (v:=str V) rfl) (cI (i:=11) rfl (by kernel_rfl) ⟨_,Z⟩ (fun _ _=>cH (k':=0+2) aDy (eY rfl) (y.mono u) rfl) (cI (i:=12) rfl (by kernel_rfl) ⟨_,Z⟩ (fun _ ⟨_,Z⟩=>bG (t:=2) gY Z (y.mono u) rfl rfl) (cI (i:=14) rfl (by kernel_rfl) ⟨_,Z⟩ (fun _ _=>bJ (v:=str V) rfl) (fR (i:=5) (j:=15) (by kernel_rfl) rfl rfl ?_ ?_))))))))))))
        ·obtain ⟨a5,x9,hm⟩:=aC hm
         refine aQ (vs:=[zA (zCa a a1 c2 a4 c5),i64 c.a,str V]) call51 rfl (gV x9 Z (h3.mono (zL (zL (zL (zL p e) q) d) u)) (h6.mono (zL (zL (zL (zL p e) q) d) u))) ?_
         rintro _ a69 ⟨rfl,k7⟩
         refine aJ (aB ⟨fun _=>⟨_,k7⟩,?_⟩)
         refine fR (i:=10) (j:=15) (by kernel_rfl) rfl rfl ?_ ?_
         ·obtain ⟨a9,y0,hm⟩:=aC hm
          refine aQ (vs:=[zA (zCa b a7 c8 a10 c11),i64 c.b,str V]) call51 rfl (gV y0 k7 (h9.mono (zL (zL (zL (zL p e) q) d) u)) (i6.mono (zL (zL (zL (zL p e) q) d) u))) ?_
          rintro _ a70 ⟨rfl,k8⟩
          refine aJ (aB ⟨fun _=>⟨_,k8⟩,?_⟩)
          refine fR (i:=13) (j:=15) (by kernel_rfl) rfl rfl ?_ ?_
          ·obtain ⟨y1,y2,hm⟩:=aC hm
           refine aQ (vs:=[zS b2 c.trace.length b3]) call30 rfl (bA y2 k8 (f5.mono (zL d u))) ?_
           rintro _ a71 ⟨y3,y4,rfl,n4⟩
           refine aJ (aB ⟨fun _=>⟨_,n4⟩,?_⟩)
           refine aU (i:=15) (by kernel_rfl) rfl (bL (Kt:=K) (xs:=([V]:List aF)) (cs:=[str V]) (vs:=[(0,str V)]) bE iW rfl rfl n4 rfl (by kernel_rfl) rfl rfl rfl ⟨rfl,trivial⟩ (fun y5 y6 (n5:aD G r (aG 9 K y5 1 ([V]:List aF)::aG 9 K y3 y4 y1::aG 93 r a2 a3 a0::jE m x::aG 9 K n o l::L) y6)=>(aJ (aB ⟨fun _=>⟨_,n5⟩,?_⟩))))
           refine aU (i:=16) (by kernel_rfl) rfl ?_;obtain ⟨b8,y7,hm⟩:=aC hm
           refine eX (i:=0) bE underlying24 iW rfl rfl n5 rfl (zL (zL (zL (zL p e) q) d) u) (zL (zL (zL (zL p e) q) d) u) y7 rfl rfl rfl rfl (fun _ h=>h) (fun d4 d5 n6 (k9:aD G r (aG 9 K d4 d5 b8::aG 93 r a2 a3 a0::jE m x::aG 9 K n o l::L) n6)=>(aJ (aB ⟨fun _=>⟨_,k9⟩,?_⟩)))
           refine cI (i:=17) rfl (by kernel_rfl) ⟨_,k9⟩ (fun _ _=>fF (vs:=[(0,i64 a5),(1,i64 a9),(2,zS d4 b8.length d5)]) (cs:=[i64 a5,i64 a9,zS d4 b8.length d5]) aDx rfl (by kernel_rfl)) (aU (i:=18) (by kernel_rfl) rfl ?_);obtain ⟨b9,i1,y8,l0⟩:=aD.giveSp k9 (zL (zL (zL (zL p e) q) d) u) .head
           replace l0:aD G b9 (aG 93 r a2 a3 a0::jE m x::aG 9 K n o l::L) n6:=l0
           refine bL (Kt:=b9) (xs:=([⟨a5,a9,b8⟩]:List aS)) (cs:=[i64 a5,i64 a9,zS d4 b8.length d5]) (vs:=[(0,zA #[i64 a5,i64 a9,zS d4 b8.length d5])]) lM sI rfl rfl l0 rfl (by kernel_rfl) rfl rfl rfl ⟨⟨d4,d5,rfl,y8⟩,trivial⟩ (fun y9 z0 (n7:aD G b9 (aG 93 b9 y9 1 ([⟨a5,a9,b8⟩]:List aS)::aG 93 r a2 a3 a0::jE m x::aG 9 K n o l::L) z0)=>(aJ (aB ⟨fun _=>⟨_,(aD.weakK n7 i1)⟩,?_⟩)))
           refine aU (i:=19) (by kernel_rfl) rfl ?_;obtain ⟨n8,z1,hm⟩:=aC hm
           refine wN (i:=0) b9 lM underlying94 sI rfl rfl n7 rfl i1 (zR _) z1 rfl rfl rfl rfl (fun _ _ _ h=>El.one h) (fun n9 o0 z2 (o1:aD G b9 (aG 93 b9 n9 o0 n8::jE m x::aG 9 K n o l::L) z2)=>(aJ (aB ⟨fun _=>⟨_,(aD.weakK o1 i1)⟩,?_⟩)))
           exact cI (i:=20) rfl (by kernel_rfl) ⟨_,(aD.weakK o1 i1)⟩ (fun _ _=>cU (v:=zS n9 n8.length o0) rfl) (cO (by kernel_rfl) aP)
          ·refine bL (Kt:=K) (xs:=([V]:List aF)) (cs:=[str V]) (vs:=[(0,str V)]) bE iW rfl rfl k8 rfl (by kernel_rfl) rfl rfl rfl ⟨rfl,trivial⟩ (fun o2 z3 (o3:aD G r (aG 9 K o2 1 ([V]:List aF)::aG 93 r a2 a3 a0::jE m x::aG 9 K n o l::L) z3)=>(aJ (aB ⟨fun _=>⟨_,o3⟩,?_⟩)))
           refine aU (i:=13) (by kernel_rfl) rfl ?_;obtain ⟨z4,z5,hm⟩:=aC hm
           refine aQ (vs:=[zS b2 c.trace.length b3]) call30 rfl (bA z5 o3 (f5.mono (zL d u))) ?_
           rintro _ z6 ⟨z7,z8,rfl,o4⟩
           refine aJ (aB ⟨fun _=>⟨_,o4⟩,?_⟩)
           refine aU (i:=16) (by kernel_rfl) rfl ?_;obtain ⟨c0,z9,hm⟩:=aC hm
           have a00:aD G r (aG 9 K o2 1 ([V]:List aF)::aG 9 K z7 z8 z4::aG 93 r a2 a3 a0::jE m x::aG 9 K n o l::L) z6:=(aD.arr 2 [1,0] o4 rfl)
           refine eX (i:=0) bE underlying24 iW rfl rfl a00 rfl (zL (zL (zL (zL p e) q) d) u) (zL (zL (zL (zL p e) q) d) u) z9 rfl rfl rfl rfl (fun _ h=>h) (fun d6 d7 o5 (l1:aD G r (aG 9 K d6 d7 c0::aG 93 r a2 a3 a0::jE m x::aG 9 K n o l::L) o5)=>(aJ (aB ⟨fun _=>⟨_,l1⟩,?_⟩)))
           refine cI (i:=17) rfl (by kernel_rfl) ⟨_,l1⟩ (fun _ _=>fF (vs:=[(0,i64 a5),(1,i64 a9),(2,zS d6 c0.length d7)]) (cs:=[i64 a5,i64 a9,zS d6 c0.length d7]) aDx rfl (by kernel_rfl)) (aU (i:=18) (by kernel_rfl) rfl ?_);obtain ⟨c1,i2,a01,l2⟩:=aD.giveSp l1 (zL (zL (zL (zL p e) q) d) u) .head
           replace l2:aD G c1 (aG 93 r a2 a3 a0::jE m x::aG 9 K n o l::L) o5:=l2
           refine bL (Kt:=c1) (xs:=([⟨a5,a9,c0⟩]:List aS)) (cs:=[i64 a5,i64 a9,zS d6 c0.length d7]) (vs:=[(0,zA #[i64 a5,i64 a9,zS d6 c0.length d7])]) lM sI rfl rfl l2 rfl (by kernel_rfl) rfl rfl rfl ⟨⟨d6,d7,rfl,a01⟩,trivial⟩ (fun a02 a03 (o6:aD G c1 (aG 93 c1 a02 1 ([⟨a5,a9,c0⟩]:List aS)::aG 93 r a2 a3 a0::jE m x::aG 9 K n o l::L) a03)=>(aJ (aB ⟨fun _=>⟨_,(aD.weakK o6 i2)⟩,?_⟩)))
           refine aU (i:=19) (by kernel_rfl) rfl ?_;obtain ⟨o7,a04,hm⟩:=aC hm
           refine wN (i:=0) c1 lM underlying94 sI rfl rfl o6 rfl i2 (zR _) a04 rfl rfl rfl rfl (fun _ _ _ h=>El.one h) (fun o8 o9 a05 (p0:aD G c1 (aG 93 c1 o8 o9 o7::jE m x::aG 9 K n o l::L) a05)=>(aJ (aB ⟨fun _=>⟨_,(aD.weakK p0 i2)⟩,?_⟩)))
           exact cI (i:=20) rfl (by kernel_rfl) ⟨_,(aD.weakK p0 i2)⟩ (fun _ _=>cU (v:=zS o8 o7.length o9) rfl) (cO (by kernel_rfl) aP)
         ·refine bL (Kt:=K) (xs:=([V]:List aF)) (cs:=[str V]) (vs:=[(0,str V)]) bE iW rfl rfl k7 rfl (by kernel_rfl) rfl rfl rfl ⟨rfl,trivial⟩ (fun p1 a06 (p2:aD G r (aG 9 K p1 1 ([V]:List aF)::aG 93 r a2 a3 a0::jE m x::aG 9 K n o l::L) a06)=>(aJ (aB ⟨fun _=>⟨_,p2⟩,?_⟩)))
          refine aU (i:=10) (by kernel_rfl) rfl ?_;obtain ⟨d8,a07,hm⟩:=aC hm
          refine aQ (vs:=[zA (zCa b a7 c8 a10 c11),i64 c.b,str V]) call51 rfl (gV a07 p2 (h9.mono (zL (zL (zL (zL p e) q) d) u)) (i6.mono (zL (zL (zL (zL p e) q) d) u))) ?_
          rintro _ a72 ⟨rfl,p3⟩
          refine aJ (aB ⟨fun _=>⟨_,p3⟩,?_⟩)
          refine aU (i:=13) (by kernel_rfl) rfl ?_;obtain ⟨a08,a09,hm⟩:=aC hm
          refine aQ (vs:=[zS b2 c.trace.length b3]) call30 rfl (bA a09 p3 (f5.mono (zL d u))) ?_
          rintro _ a11 ⟨a12,a14,rfl,p4⟩
          refine aJ (aB ⟨fun _=>⟨_,p4⟩,?_⟩)
          refine aU (i:=16) (by kernel_rfl) rfl ?_;obtain ⟨c3,a15,hm⟩:=aC hm
          have a17:aD G r (aG 9 K p1 1 ([V]:List aF)::aG 9 K a12 a14 a08::aG 93 r a2 a3 a0::jE m x::aG 9 K n o l::L) a11:=(aD.arr 2 [1,0] p4 rfl)
          refine eX (i:=0) bE underlying24 iW rfl rfl a17 rfl (zL (zL (zL (zL p e) q) d) u) (zL (zL (zL (zL p e) q) d) u) a15 rfl rfl rfl rfl (fun _ h=>h) (fun d9 e0 p5 (l3:aD G r (aG 9 K d9 e0 c3::aG 93 r a2 a3 a0::jE m x::aG 9 K n o l::L) p5)=>(aJ (aB ⟨fun _=>⟨_,l3⟩,?_⟩)))
          refine cI (i:=17) rfl (by kernel_rfl) ⟨_,l3⟩ (fun _ _=>fF (vs:=[(0,i64 a5),(1,i64 d8),(2,zS d9 c3.length e0)]) (cs:=[i64 a5,i64 d8,zS d9 c3.length e0]) aDx rfl (by kernel_rfl)) (aU (i:=18) (by kernel_rfl) rfl ?_);obtain ⟨c4,i3,a18,l4⟩:=aD.giveSp l3 (zL (zL (zL (zL p e) q) d) u) .head
          replace l4:aD G c4 (aG 93 r a2 a3 a0::jE m x::aG 9 K n o l::L) p5:=l4
          refine bL (Kt:=c4) (xs:=([⟨a5,d8,c3⟩]:List aS)) (cs:=[i64 a5,i64 d8,zS d9 c3.length e0]) (vs:=[(0,zA #[i64 a5,i64 d8,zS d9 c3.length e0])]) lM sI rfl rfl l4 rfl (by kernel_rfl) rfl rfl rfl ⟨⟨d9,e0,rfl,a18⟩,trivial⟩ (fun a20 a21 (p6:aD G c4 (aG 93 c4 a20 1 ([⟨a5,d8,c3⟩]:List aS)::aG 93 r a2 a3 a0::jE m x::aG 9 K n o l::L) a21)=>(aJ (aB ⟨fun _=>⟨_,(aD.weakK p6 i3)⟩,?_⟩)))
          refine aU (i:=19) (by kernel_rfl) rfl ?_;obtain ⟨p7,a23,hm⟩:=aC hm
          refine wN (i:=0) c4 lM underlying94 sI rfl rfl p6 rfl i3 (zR _) a23 rfl rfl rfl rfl (fun _ _ _ h=>El.one h) (fun p8 p9 a24 (q0:aD G c4 (aG 93 c4 p8 p9 p7::jE m x::aG 9 K n o l::L) a24)=>(aJ (aB ⟨fun _=>⟨_,(aD.weakK q0 i3)⟩,?_⟩)))
          exact cI (i:=20) rfl (by kernel_rfl) ⟨_,(aD.weakK q0 i3)⟩ (fun _ _=>cU (v:=zS p8 p7.length p9) rfl) (cO (by kernel_rfl) aP)
        ·refine bL (Kt:=K) (xs:=([V]:List aF)) (cs:=[str V]) (vs:=[(0,str V)]) bE iW rfl rfl Z rfl (by kernel_rfl) rfl rfl rfl ⟨rfl,trivial⟩ (fun q1 a26 (q2:aD G r (aG 9 K q1 1 ([V]:List aF)::aG 93 r a2 a3 a0::jE m x::aG 9 K n o l::L) a26)=>(aJ (aB ⟨fun _=>⟨_,q2⟩,?_⟩)))
         refine aU (i:=5) (by kernel_rfl) rfl ?_;obtain ⟨e1,a27,hm⟩:=aC hm
         refine aQ (vs:=[zA (zCa a a1 c2 a4 c5),i64 c.a,str V]) call51 rfl (gV a27 q2 (h3.mono (zL (zL (zL (zL p e) q) d) u)) (h6.mono (zL (zL (zL (zL p e) q) d) u))) ?_
         rintro _ a74 ⟨rfl,q3⟩
         refine aJ (aB ⟨fun _=>⟨_,q3⟩,?_⟩)
         refine aU (i:=10) (by kernel_rfl) rfl ?_;obtain ⟨e2,a29,hm⟩:=aC hm
         refine aQ (vs:=[zA (zCa b a7 c8 a10 c11),i64 c.b,str V]) call51 rfl (gV a29 q3 (h9.mono (zL (zL (zL (zL p e) q) d) u)) (i6.mono (zL (zL (zL (zL p e) q) d) u))) ?_
         rintro _ a75 ⟨rfl,q4⟩
         refine aJ (aB ⟨fun _=>⟨_,q4⟩,?_⟩)
         refine aU (i:=13) (by kernel_rfl) rfl ?_;obtain ⟨a30,a32,hm⟩:=aC hm
         refine aQ (vs:=[zS b2 c.trace.length b3]) call30 rfl (bA a32 q4 (f5.mono (zL d u))) ?_
         rintro _ a33 ⟨a35,a36,rfl,q5⟩
         refine aJ (aB ⟨fun _=>⟨_,q5⟩,?_⟩)
         refine aU (i:=16) (by kernel_rfl) rfl ?_;obtain ⟨c6,a38,hm⟩:=aC hm
         have a39:aD G r (aG 9 K q1 1 ([V]:List aF)::aG 9 K a35 a36 a30::aG 93 r a2 a3 a0::jE m x::aG 9 K n o l::L) a33:=(aD.arr 2 [1,0] q5 rfl)
         refine eX (i:=0) bE underlying24 iW rfl rfl a39 rfl (zL (zL (zL (zL p e) q) d) u) (zL (zL (zL (zL p e) q) d) u) a38 rfl rfl rfl rfl (fun _ h=>h) (fun e3 e4 q6 (l5:aD G r (aG 9 K e3 e4 c6::aG 93 r a2 a3 a0::jE m x::aG 9 K n o l::L) q6)=>(aJ (aB ⟨fun _=>⟨_,l5⟩,?_⟩)))
         refine cI (i:=17) rfl (by kernel_rfl) ⟨_,l5⟩ (fun _ _=>fF (vs:=[(0,i64 e1),(1,i64 e2),(2,zS e3 c6.length e4)]) (cs:=[i64 e1,i64 e2,zS e3 c6.length e4]) aDx rfl (by kernel_rfl)) (aU (i:=18) (by kernel_rfl) rfl ?_);obtain ⟨c7,i4,a41,l6⟩:=aD.giveSp l5 (zL (zL (zL (zL p e) q) d) u) .head
         replace l6:aD G c7 (aG 93 r a2 a3 a0::jE m x::aG 9 K n o l::L) q6:=l6
         refine bL (Kt:=c7) (xs:=([⟨e1,e2,c6⟩]:List aS)) (cs:=[i64 e1,i64 e2,zS e3 c6.length e4]) (vs:=[(0,zA #[i64 e1,i64 e2,zS e3 c6.length e4])]) lM sI rfl rfl l6 rfl (by kernel_rfl) rfl rfl rfl ⟨⟨e3,e4,rfl,a41⟩,trivial⟩ (fun a42 a44 (q7:aD G c7 (aG 93 c7 a42 1 ([⟨e1,e2,c6⟩]:List aS)::aG 93 r a2 a3 a0::jE m x::aG 9 K n o l::L) a44)=>(aJ (aB ⟨fun _=>⟨_,(aD.weakK q7 i4)⟩,?_⟩)))
         refine aU (i:=19) (by kernel_rfl) rfl ?_;obtain ⟨q8,a45,hm⟩:=aC hm
         refine wN (i:=0) c7 lM underlying94 sI rfl rfl q7 rfl i4 (zR _) a45 rfl rfl rfl rfl (fun _ _ _ h=>El.one h) (fun q9 r0 a47 (r1:aD G c7 (aG 93 c7 q9 r0 q8::jE m x::aG 9 K n o l::L) a47)=>(aJ (aB ⟨fun _=>⟨_,(aD.weakK r1 i4)⟩,?_⟩)))
         exact cI (i:=20) rfl (by kernel_rfl) ⟨_,(aD.weakK r1 i4)⟩ (fun _ _=>cU (v:=zS q9 q8.length r0) rfl) (cO (by kernel_rfl) aP)
       ·exact aP
   refine aZ (aH (cH (k':=0+0) sJ (eY rfl) y rfl) (aH (bG (t:=0) fK b4 y rfl rfl) (aH (cQ rfl rfl) (aL (v:=zB (decide (c.a < 0))) ?_))))
   rcases aN hm with ⟨b5,hm⟩|⟨b5,hm⟩
   ·refine fZ b5 rfl rfl (aH (cH (k':=0+1) uJ (eY rfl) y rfl) (fZ b5 rfl rfl (aH (bG (t:=1) fK b4 y rfl rfl) (fZ b5 rfl rfl (aH (cQ rfl rfl) (aH (aAT (v:=zB (decide (c.b < 0))) b5 rfl rfl) (aL (v:=zB (decide (c.b < 0))) ?_)))))))
    rcases aN hm with ⟨b6,hm⟩|⟨b6,hm⟩
    ·exact aP
    ·exact eB b6 rfl rfl (aL (v:=Value.map (some m)) (eB b6 rfl rfl (aH (cH (k':=0+0) sJ (eY rfl) y rfl) (eB b6 rfl rfl (aH (bG (t:=0) fK b4 y rfl rfl) (eB b6 rfl rfl (aH (cH (k':=0+1) uJ (eY rfl) y rfl) (eB b6 rfl rfl (aH (bG (t:=1) fK b4 y rfl rfl) (eB b6 rfl rfl (aH (aEe (vs:=[(0,i64 c.a),(1,i64 c.b)]) (cs:=[i64 c.a,i64 c.b]) aLH aLI rfl (by kernel_rfl)) (eB b6 rfl rfl (aH (aJu (kv:=a8) (k:=⟨c.a,c.b⟩) (z:=(false:Bool)) runUnderlying91 aLJ zeroValue4 b4 (i:=1) rfl rfl rfl) (aH (vR (v:=zB ((oL a8 ⟨c.a,c.b⟩).getD false)) b6 rfl rfl) (aK ⟨bW,((oL a8 ⟨c.a,c.b⟩).getD false),hm,rfl,b4⟩)))))))))))))))
   ·exact yI b5 rfl rfl (yI b5 rfl rfl (yI b5 rfl rfl (aH (vR (v:=zB false) b5 rfl rfl) (aL (v:=zB false) (eB (by decide:¬ false=true) rfl rfl (aL (v:=Value.map (some m)) (eB (by decide:¬ false=true) rfl rfl (aH (cH (k':=0+0) sJ (eY rfl) y rfl) (eB (by decide:¬ false=true) rfl rfl (aH (bG (t:=0) fK b4 y rfl rfl) (eB (by decide:¬ false=true) rfl rfl (aH (cH (k':=0+1) uJ (eY rfl) y rfl) (eB (by decide:¬ false=true) rfl rfl (aH (bG (t:=1) fK b4 y rfl rfl) (eB (by decide:¬ false=true) rfl rfl (aH (aEe (vs:=[(0,i64 c.a),(1,i64 c.b)]) (cs:=[i64 c.a,i64 c.b]) aLH aLI rfl (by kernel_rfl)) (eB (by decide:¬ false=true) rfl rfl (aH (aJu (kv:=a8) (k:=⟨c.a,c.b⟩) (z:=(false:Bool)) runUnderlying91 aLJ zeroValue4 b4 (i:=1) rfl rfl rfl) (aH (vR (v:=zB ((oL a8 ⟨c.a,c.b⟩).getD false)) (by decide:¬ false=true) rfl rfl) (aK ⟨bW,((oL a8 ⟨c.a,c.b⟩).getD false),hm,rfl,b4⟩))))))))))))))))))))
  ·exact aP
end Gv
