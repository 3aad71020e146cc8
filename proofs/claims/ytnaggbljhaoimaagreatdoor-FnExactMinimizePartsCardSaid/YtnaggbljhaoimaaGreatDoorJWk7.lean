/- Walks, printed by program. -/
import Derived.Test.YtnaggbljhaoimaaGreatDoorJWk5
set_option linter.all false
namespace Gv
open Gv.Hp renaming le_refl→zR
open Go.Value renaming slice→zS,bool→zB,pointer→zP,agg→zA
open Option.some renaming inj→zI
open Gv.Hp renaming le_trans→zL
open Go Go.Proofs Go.Proofs.Tryz
set_option maxRecDepth 20000
set_option maxHeartbeats 40000000
variable {G:vF} {K Kf:Hp} {L:List gC} {w:World} {a1 a4 a7 a10 a13:Option Addr} {c2 c5 c8 c11:Nat}
theorem pO {t:aW} {p:(List Int)} {b3:Bool} {R:aW} (hm:eV t p b3=some R) (hs:aD G K (L) w) (h3:bK K a1 c2 t.L) (h6:bK K a4 c5 t.E) (m:bK K a7 c8 p):
  Calls prog 95 ([zA (zCa t a1 c2 a4 c5),zS a7 p.length c8,zB b3]:List Value).toArray w (dV fun v w'=>∃ c6 c7 c9 d0,v=zA (zCa R c6 c7 c9 d0)/\aD G K (aM 9 K c6 c7 R.L::aM 87 K c9 d0 R.E::L) w'):=by
 let g:=zG
 let z:=(zC t a1 c2 a4 c5)
 refine aO func95 rfl (by kernel_rfl) (by show (3:Nat)<=43;decide) ?_;unfold eV at hm
 refine aI (eQ (v:=zA (zCa t a1 c2 a4 c5)) (vs:=z) hs rfl rfl (fun e5 i6 e6=>(eQ (v:=zS a7 p.length c8) (vs:=[zS a7 p.length c8]) e6 rfl rfl (fun q i7 e7=>(bH (vs:=g) zeroValue68 e7 rfl (fun j i8 b4=>(aG (aI (aF (gH (us:=z) vK b4 (i:=2) rfl rfl rfl rfl) (aF (fF zN b4 (i:=1) rfl rfl rfl) (aF (nB (vs:=[zP (some ⟨q,0,none⟩)]) rfl) ?_)))))))))));obtain ⟨i9,J,e8,e9,f0⟩:=aD.lendBp b4 zt1
 obtain ⟨a,f1,hm⟩:=aB hm
 refine aS (vs:=[zA (zCa t a1 c2 a4 c5),zS a7 p.length c8,Value.func (.func 125) #[] #[dC (some ⟨q,0,none⟩) 0]]) call124 rfl (aAf f1 e9 (h3.mono J) (h6.mono J) (m.mono J) e8 (m.mono J)) ?_
 rintro _ j0 ⟨b,c,r,u,rfl,f2⟩
 have f3:=f0 _ _ f2
 refine bH (vs:=g) zeroValue68 f3 rfl (fun x j1 f4=>(cF (i:=0) (ns:=(zC a b c r u)) (us:=(zC a b c r u)) sizeOf68 f4 rfl rfl rfl rfl rfl (eD rfl) rfl rfl (fun f5 (V:aD G K (box x 68 (zC a b c r u)::box q 105 [zS a7 p.length c8]::aM 9 K b c a.L::aM 87 K r u a.E::box j 68 g::box e5 68 z::L) f5)=>(aG (qV [6,7] (fun f w=>∃ d1 b5 d2 d3,Hp.le K d1/\lO a b5=some R/\aD G d1 (aM 87 K d2 d3 b5::box x 68 [i64 a.N,i64 a.I,zS b a.L.length c,zS d2 b5.length d3]::aM 9 K b c a.L::box j 68 g::L) w) aK (aI (aL (v:=zB b3) (aG ?_))))))))
 rcases aP hm with ⟨c48,hm⟩|⟨c48,hm⟩
 ·refine aR c48 rfl (aJ (aI (aF (gH (us:=z) vK V (i:=5) rfl rfl rfl rfl) (aF (fF zN V (i:=1) rfl rfl rfl) ?_))));obtain ⟨a0,f6,hm⟩:=aB hm
  refine aS (vs:=[zA (zCa t a1 c2 a4 c5),zS a7 p.length c8]) call126 rfl (rR f6 V h3 h6 m) ?_
  rintro _ j2 ⟨b6,f7,f8,f9,g0,rfl,n,g1,g2,g3⟩
  obtain ⟨y,g4,hm⟩:=aB hm
  refine aS (vs:=[zA (zCa a0 f7 f8 f9 g0)]) call127 rfl (rS g4 g3 g1 g2) ?_
  rintro _ j3 ⟨a2,a3,rfl,j4⟩
  refine aF (bE (len:=y.length) jG rfl) (aL (v:=i64 0) (aG (aQ [6,7] (fun f w=>∃ b7 d4 d5,lP a b7=some R/\aD G b6 (aM 87 K d4 d5 b7::box x 68 [i64 a.N,i64 a.I,zS b a.L.length c,zS d4 b7.length d5]::aM 9 K b c a.L::box j 68 g::L) w) aK ?_)));obtain ⟨j5,g5,ho⟩:=aB hm
  refine bN [4,6,7,18,19] g5 (fun a5 k f w=>∃ a6 a8,f 20=i64 k/\aD G b6 (aM 4 K a2 a3 y::box x 68 [i64 a.N,i64 a.I,zS b a.L.length c,zS a6 a5.length a8]::box q 105 [zS a7 p.length c8]::aM 9 K b c a.L::aM 87 K a6 a8 a5::box j 68 g::L) w) aK ?_
  ·rintro a5 k g6 f j6 hm hr ⟨a6,a8,a9,b8⟩
   unfold dR at hm
   refine aI (aF (cE a9 rfl) (aG (aJ ?_)))
   rcases aP hm with ⟨d6,hm⟩|⟨d6,hm⟩
   ·refine aR d6 rfl (aY (aC (aJ (aQ [4,6,7,18,19,20] (fun f w=>∃ b0 b1 b2,eU k b0=some g6/\aD G b6 (aM 87 K b1 b2 b0::aM 4 K a2 a3 y::box x 68 [i64 a.N,i64 a.I,zS b a.L.length c,zS b1 b0.length b2]::box q 105 [zS a7 p.length c8]::aM 9 K b c a.L::box j 68 g::L) w) ?_ ?_))))
    ·rintro f j7 ⟨b0,b1,b2,hm,g7⟩
     unfold eU at hm
     exact aC (aU (aF (cW a9 rfl) (aL (v:=i64 (wr (k+1))) (aG ⟨_,(zI hm).symm,bZ,b1,b2,rfl,(aD.arr 5 [1,2,3,4,0] g7 rfl)⟩))))
    refine aI (aX a9 ?_);obtain ⟨d7,b9,hm⟩:=aB hm
    have g8:=dD b8 (i:=0) rfl b9
    refine aF (eE jG rfl g8 rfl rfl a9 b9) (aF (uR (t:=0) sc_4 b8 (i:=0) rfl b9 rfl rfl rfl) (aH (v:=i64 k) (aH (v:=zB d7) (aG (aI (aL (v:=zB d7) (aG ?_)))))))
    rcases aP hm with ⟨d8,hm⟩|⟨d8,hm⟩
    ·refine aR d8 rfl ?_;obtain ⟨j8,o,g9,h0,h1⟩:=aD.lendBp b8 zt1
     obtain ⟨c0,l,d9,e0,h2⟩:=aD.lendBp h0 zt1
     refine fO (C:=fun w'=>∃ L',aD G c0 L' w') [(0,0),(1,0),(2,0),(3,0),(4,0),(5,0),(6,0),(7,0),(8,0),(9,0),(10,0),(11,1),(12,1),(13,0),(14,2)] Tryz_mixed (by kernel_rfl) (fun _ hg=>⟨_,aD.mono e0 hg⟩) (fun j9 h4=>?_)
     have e:=aD.mono e0 h4
     refine bS rfl (fun _ _=>bM (t':=3) eX rfl rfl) (bS rfl (fun _ ⟨_,e⟩=>bX (t:=3) lX e (g9.mono l) rfl rfl) (bS rfl (fun _ ⟨_,e⟩=>bX (t:=0) zN e d9 rfl rfl) (bS rfl (fun _ _=>bL (v:=i64 k) rfl) ?_)));obtain ⟨d,c1,hm⟩:=aB hm
     refine bS rfl (fun _ _=>eC bC rfl (m.mono (zL (zL n o) l)) rfl rfl rfl c1) ?_;obtain ⟨k0,e1,h5⟩:=bK.el (sz:=1) rfl m c1
     cases h5
     refine bS rfl (fun _ ⟨_,e⟩=>bX (t:=0) eZ e (e1.mono (zL (zL n o) l)) rfl rfl) (bS rfl (fun _ ⟨_,e⟩=>bX (t:=0) zN e d9 rfl rfl) (bS rfl (fun _ _=>bL (v:=i64 k) rfl) (bS rfl (fun _ _=>eC bC rfl (m.mono (zL (zL n o) l)) rfl rfl rfl c1) (bS rfl (fun _ ⟨_,e⟩=>bX (t:=0) eZ e (e1.mono (zL (zL n o) l)) rfl rfl) (bS rfl (fun _ _=>kT (vs:=[(0,i64 d),(1,i64 0),(2,i64 d)]) (cs:=[i64 d,i64 0,i64 d]) bs_87 rfl (by kernel_rfl)) (qX rfl (dI (Kt:=K) (xs:=([⟨d,0,d⟩]:List Edge)) (cs:=[i64 d,i64 0,i64 d]) (vs:=[(0,zA #[i64 d,i64 0,i64 d])]) cO aAb rfl rfl e rfl (by kernel_rfl) rfl rfl rfl ⟨rfl,trivial⟩ (fun h7 h8 (e2:aD G c0 (aM 87 K h7 1 ([⟨d,0,d⟩]:List Edge)::aM 4 K a2 a3 y::aM 9 K b c a.L::aM 87 K a6 a8 a5::box j 68 g::L) h8)=>(bG (aC ⟨⟨_,e2⟩,?_⟩))))))))))
     refine qX rfl ?_;obtain ⟨i0,i1,hm⟩:=aB hm
     refine tR (i:=2) cO underlying66 aAb rfl rfl e2 rfl (zL (zL n o) l) (zL (zL n o) l) i1 rfl rfl rfl rfl (fun _ h=>h) (fun i2 i3 i4 (e3:aD G c0 (aM 4 K a2 a3 y::aM 9 K b c a.L::aM 87 K i2 i3 i0::box j 68 g::L) i4)=>(bG (aC ⟨⟨_,e3⟩,?_⟩)))
     refine bS rfl (fun _ _=>bM (t':=3) eX rfl rfl) ?_
     have i5:=h2 _ _ e3
     have k1:=h1 _ _ i5
     exact aK
    ·exact aK
   ·exact aK
 ·exact bF c48 rfl (aY (aC ⟨bZ,K,a.E,r,u,(zR _),hm,(aD.arr 6 [3,0,2,4] V rfl)⟩))
theorem aEO {a:(List (List Int))} {R:(List Int)} (hm:pJ a=some R) (d:aD G K (L) w) (e:Hp.le Kf K) (g:bK Kf a1 c2 a):
  Calls prog 129 ([zS a1 a.length c2]:List Value).toArray w (dV fun v w'=>∃ b c,v=zS b R.length c/\bK Kf b c R/\aD G K (L) w'):=by
 exact aK
theorem aFG {n:Int} {R:(List Int)} (hm:aGA n=some R) (g:aD G K (L) w):
  Calls prog 161 ([i64 n]:List Value).toArray w (dV fun v w'=>∃ c d,v=zS c R.length d/\aD G K (aM 2 K c d R::L) w'):=by
 refine aO func161 rfl (by kernel_rfl) (by show (1:Nat)<=5;decide) ?_;unfold aGA at hm
 refine aI (aH (v:=zS none 0 0) (aG (aI (aL (v:=i64 n) ?_))));obtain ⟨a,h,hm⟩:=aB hm
 refine aCD (e:=(0:Int)) bC vG rfl rfl g rfl rfl rfl h rfl (fun b i (j:aD G K (aM 2 K b a.length a::L) i)=>(aH (v:=zS b a.length a.length) (aG ?_)));obtain rfl:=zI hm
 exact lC (nA results161 rfl ⟨b,a.length,rfl,j⟩)
theorem kH {a:(List Int)} {b:Int} {R:Bool} (hm:cZ a b=some R) (c:aD G K (L) w) (d:bK K a1 c2 a):
  Calls prog 164 ([zS a1 a.length c2,i64 b]:List Value).toArray w (dV fun v w'=>v=zB R/\aD G K (L) w'):=by
 exact aK
theorem gS {a R:(List Int)} (hm:dG a=some R) (hs:aD G K (aM 2 K a1 c2 a::L) w):
  Calls prog 167 ([zS a1 a.length c2]:List Value).toArray w (dV fun v w'=>∃ a3 a4,v=zS a3 R.length a4/\aD G K (aM 2 K a3 a4 R::L) w'):=by
 refine aO func167 rfl (by kernel_rfl) (by show (1:Nat)<=61;decide) ?_;unfold dG at hm
 refine aI (aH (v:=zS none 0 0) (aG (aJ (aI (aL (v:=zS a1 a.length c2) (aF (bE (len:=a.length) bC rfl) (aF (cE rfl rfl) (aG ?_))))))))
 rcases aP hm with ⟨c3,hm⟩|⟨c3,hm⟩
 ·exact aK
 ·refine bF c3 rfl (aY (aC (aJ (aI (aH (v:=i64 1) (aG (aQ [0] (fun f w=>lQ a=some R/\aD G K (aM 2 K a1 c2 a::L) w) aK ?_)))))));obtain ⟨f3,d5,ho⟩:=aB hm
  refine cQ [0] d5 (fun d f w=>f 3=i64 d/\aD G K (aM 2 K a1 c2 a::L) w) aK ?_
  ·rintro d a6 f f4 hm hr ⟨m,b⟩
   unfold dU at hm
   refine aJ (aI (aX m (aL (v:=zS a1 a.length c2) (aF (bE (len:=a.length) bC rfl) (aF (cE rfl rfl) (aG ?_))))))
   rcases aP hm with ⟨a7,hm⟩|⟨a7,hm⟩
   ·refine aR a7 rfl (aY (aC (aJ (aQ [0] (fun f w=>fD d=some a6/\f 3=i64 d/\aD G K (aM 2 K a1 c2 a::L) w) ?_ ?_))))
    ·rintro f f5 ⟨hm,d6,d7⟩
     unfold fD at hm
     exact aC (aU (aX d6 (aF (cW rfl rfl) (aH (v:=i64 (wr (d+1))) (aG ⟨_,(zI hm).symm,bZ,rfl,d7⟩)))))
    refine aJ (rY (C:=fun w'=>aD G K (aM 2 K a1 c2 a::L) w') Tryz_mixed (by kernel_rfl) (aD.mono b (eP.drew _)) (dB (fun _ b=>bL (v:=zS a1 a.length c2) rfl) (dB (fun _ b=>bL m) ?_)));obtain ⟨f6,V,hm⟩:=aB hm
    have e:=dD b (i:=0) rfl V
    refine dB (fun _ b=>eE bC rfl e rfl rfl rfl V) (dB (fun _ b=>uR (t:=0) eZ b (i:=0) rfl V rfl rfl rfl) (dB (fun _ b=>bL (v:=zS a1 a.length c2) rfl) (dB (fun _ b=>bL m) (dB (fun _ b=>vH rfl rfl) ?_))));obtain ⟨f7,a8,hm⟩:=aB hm
    refine dB (fun _ b=>eE bC rfl e rfl rfl rfl a8) (dB (fun _ b=>uR (t:=0) eZ b (i:=0) rfl a8 rfl rfl rfl) (dB (fun _ b=>aKr rfl rfl) (zJ (fun f8 d8=>(aC ?_)))))
    rcases aP hm with ⟨a9,hm⟩|⟨a9,hm⟩
    ·refine aR a9 rfl (aI (aL (v:=zS a1 a.length c2) (aX m ?_)));obtain ⟨g,o,hm⟩:=aB hm
     have p:=qJ d8 (i:=0) rfl
     obtain ⟨j,k,q⟩:=Cut.ex 1 a1 c2 d
     refine aF (aEm bC p q rfl rfl rfl o) (aH (v:=zS j g.length k) (aG (aJ (aI (aH (v:=i64 1) (aG (aQ [] (fun f w=>∃ r u,fE r u=some a6/\f 0=zS a1 r.length c2/\f 3=i64 u/\aD G K (aM 2 K a1 c2 r::L) w) ?_ ?_)))))))
     ·rintro f f9 ⟨r,u,hm,b0,b1,b2⟩
      unfold fE at hm
      refine aC (aI (aX b0 (aX b1 ?_)));obtain ⟨g0,d9,hm⟩:=aB hm
      have e0:=qJ b2 (i:=0) rfl
      obtain ⟨g1,g2,b3⟩:=Cut.ex 1 a1 c2 u
      refine aF (aEm bC e0 b3 rfl rfl rfl d9) ?_;obtain ⟨b4,b5,hm⟩:=aB hm
      refine aGZ bC vG rfl b2 (i:=0) rfl b3 rfl rfl b5 (fun b6 (b7:aD G K (aM 2 K a1 c2 b4::L) b6)=>(aG (aI (aX (v:=zS a1 b4.length c2) (Eq.trans b0 (congrArg (fun n=>zS a1 n c2) (aDi b5))) (aX b1 ?_)))));obtain ⟨a0,b8,hm⟩:=aB hm
      have e1:=qJ b7 (i:=0) rfl
      obtain ⟨b9,c0,c1⟩:=Cut.ex 1 a1 c2 0
      refine aF (aHa bC e1 c1 rfl rfl rfl b8) (aH (v:=zS b9 a0.length c0) (aG (lC (aAN (jU (jU (jU ?_)))))))
      have e2:=hr _ (zI hm).symm
      subst e2
      have hm:(some a0)=some R:=ho
      clear hr ho
      have g3:aD G K (aM 2 K b9 c0 a0::L) b6:=aD.cutP b7 (i:=0) rfl b8 c1
      exact aK
     obtain ⟨g4,e3,ho⟩:=aB hm
     refine kO [4] e3 (fun x y z f w=>f 0=zS a1 x.length c2/\f 3=i64 y/\f 5=i64 z/\aD G K (aM 2 K a1 c2 x::L) w) aK ?_
     ·rintro x y z e4 f g5 hm hr ⟨c4,c5,l,c⟩
      unfold dT at hm
      refine aJ (aI (aX l (aL (v:=zS j g.length k) (aF (bE (len:=g.length) bC rfl) (aF (cE rfl rfl) (aG ?_))))))
      rcases aP hm with ⟨c6,hm⟩|⟨c6,hm⟩
      ·refine aR c6 rfl (aY (aC (aJ (aQ [4,5] (fun f w=>∃ J a2,dS z J a2=some e4/\f 0=zS a1 J.length c2/\f 3=i64 a2/\aD G K (aM 2 K a1 c2 J::L) w) ?_ ?_))))
       ·rintro f g6 ⟨J,a2,hm,e5,e6,e7⟩
        unfold dS at hm
        exact aC (aU (aX l (aF (cW rfl rfl) (aH (v:=i64 (wr (z+1))) (aG ⟨_,(zI hm).symm,bZ,e5,e6,rfl,e7⟩)))))
       refine aJ (rY (C:=fun w'=>aD G K (aM 2 K a1 c2 x::L) w') Tryz_mixed (by kernel_rfl) (aD.mono c (eP.drew _)) (dB (fun _ c=>bL (v:=zS j g.length k) rfl) (dB (fun _ c=>bL l) ?_)));obtain ⟨g7,c7,hm⟩:=aB hm
       obtain ⟨c8,c9,hm⟩:=aB hm
       refine dB (fun _ c=>aKB bC e q o p rfl rfl rfl c7 rfl) (dB (fun _ c=>uR (t:=0) eZ c (i:=0) rfl c9 rfl rfl rfl) (dB (fun _ c=>bL (v:=zS j g.length k) rfl) (dB (fun _ c=>bL l) (dB (fun _ c=>vH rfl rfl) ?_))));obtain ⟨g8,e8,hm⟩:=aB hm
       obtain ⟨g9,e9,hm⟩:=aB hm
       refine dB (fun _ c=>aKB bC e q o p rfl rfl rfl e8 rfl) (dB (fun _ c=>uR (t:=0) eZ c (i:=0) rfl e9 rfl rfl rfl) (dB (fun _ c=>aAO rfl rfl) (zJ (fun h0 d0=>(aC ?_)))))
       rcases aP hm with ⟨d1,hm⟩|⟨d1,hm⟩
       ·refine aR d1 rfl (aI (aX c4 (aX c5 (aL (v:=zS j g.length k) (aX l (aF (aKB bC e q o p rfl rfl rfl c7 rfl) (aF (uR (t:=0) eZ d0 (i:=0) rfl c9 rfl rfl rfl) ?_)))))));obtain ⟨h1,d2,hm⟩:=aB hm
        refine aF (eE bC rfl e rfl rfl rfl d2) ?_;obtain ⟨d3,d4,hm⟩:=aB hm
        exact iB (i:=0) (t:=0) (ns:=[i64 c8]) (e':=(c8:Int)) sizeOf2 d0 rfl (zR _) rfl rfl rfl d2 d4 rfl rfl (eD rfl) rfl (fun cs h=>by cases h;rfl) (fun f0 (f1:aD G K (aM 2 K a1 c2 d3::L) f0)=>(aG (aU (aX c5 (aF (cW rfl rfl) (aH (v:=i64 (wr (y+1))) (bG (cU (aC ⟨bZ,d3,wr (y+1),hm,(Eq.trans c4 (congrArg (fun n=>zS a1 n c2) (bW d4))),rfl,f1⟩)))))))))
       ·exact aK
      ·exact aK
    ·exact aK
   ·exact aK
theorem aCm {t:aW} {q:(List Int)} {u:aV} {R:(List Int)} (hm:wH t q u=some R) (hs:aD G K (L) w) (h3:bK K a1 c2 t.L) (x:bK K a4 c5 t.E) (h9:bK K a7 c8 q):
  Calls prog 222 ([zA (zCa t a1 c2 a4 c5),zS a7 q.length c8,str u]:List Value).toArray w (dV fun v w'=>∃ y z,v=zS y R.length z/\aD G K (aM 2 K y z R::L) w'):=by
 let e:=(zC t a1 c2 a4 c5)
 refine aO func222 rfl (by kernel_rfl) (by show (3:Nat)<=41;decide) ?_;unfold wH at hm
 refine aI (eQ (v:=zA (zCa t a1 c2 a4 c5)) (vs:=e) hs rfl rfl (fun l c7 J=>(aH (v:=zS none 0 0) (aG (aI (aH (v:=zS none 0 0) (aG (aJ (aI (aF (bM (t':=3) eX rfl rfl) (aF (fF lX J (i:=0) rfl rfl rfl) (aF (bE (len:=t.E.length) cO rfl) (aL (v:=i64 0) (aG (aQ [] (fun f w=>∃ g b c,tY g=some R/\f 7=zS b g.length c/\aD G K (aM 2 K b c g::L) w) ?_ ?_)))))))))))))))
 ·rintro f c9 ⟨g,b,c,hm,V,b1⟩
  unfold tY at hm
  refine aC (aI (aX V ?_));obtain ⟨a0,b2,hm⟩:=aB hm
  refine aS (vs:=[zS b g.length c]) call165 rfl (aCk b1 b2) ?_
  rintro _ d0 ⟨rfl,b3,b4⟩
  refine aG (aI (aX (v:=zS b a0.length c) (Eq.trans V (congrArg (fun n=>zS b n c) b3)) ?_));obtain ⟨d1,b5,hm⟩:=aB hm
  exact aS (vs:=[zS b a0.length c]) call167 rfl (gS b5 b4) aK
 have d2:=aD.nil (α:=Int) J 2 K
 obtain ⟨d3,b6,ho⟩:=aB hm
 refine bN [1,2,3,11,12] b6 (fun d h f w=>∃ j k,f 7=zS j d.length k/\f 13=i64 h/\aD G K (aM 2 K j k d::box l 68 e::L) w) aK ?_
 ·rintro d h a2 f d4 hm hr ⟨j,k,d5,r,a3⟩
  unfold pL at hm
  refine aI (aF (cE r rfl) (aG (aJ ?_)))
  rcases aP hm with ⟨a5,hm⟩|⟨a5,hm⟩
  ·refine aR a5 rfl (aY (aC (aJ (aQ [1,2,3,11,12,13] (fun f w=>∃ m o p,pK h m=some a2/\f 7=zS o m.length p/\aD G K (aM 2 K o p m::box l 68 e::L) w) ?_ ?_))))
   ·rintro f d6 ⟨m,o,p,hm,b7,b8⟩
    unfold pK at hm
    exact aC (aU (aF (cW r rfl) (aL (v:=i64 (wr (h+1))) (aG ⟨_,(zI hm).symm,bZ,o,p,b7,rfl,b8⟩))))
   refine aI ?_;obtain ⟨a,a6,hm⟩:=aB hm
   refine aF (eC cO rfl x rfl rfl r a6) ?_;obtain ⟨d7,b9,c0⟩:=bK.el (sz:=3) rfl x a6
   cases c0
   exact aF (gQ (t:=0) (vs:=[i64 a.F,i64 a.B,i64 a.To]) nU a3 b9 rfl rfl rfl) (bH (vs:=[i64 0,i64 0,i64 0]) zeroValue87 a3 rfl (fun a8 d8 c1=>(cF (i:=0) (ns:=[i64 a.F,i64 a.B,i64 a.To]) (us:=[i64 a.F,i64 a.B,i64 a.To]) sizeOf87 c1 rfl rfl rfl rfl rfl (eD rfl) rfl rfl (fun c3 (d9:aD G K (box a8 87 [i64 a.F,i64 a.B,i64 a.To]::aM 2 K j k d::box l 68 e::L) c3)=>(aG (aJ (bO [1,2,3,7,9,11,12,13] (fun f w=>∃ a9,tZ d h a a9=some a2/\f 30=zB a9/\aD G K (box a8 87 [i64 a.F,i64 a.B,i64 a.To]::aM 2 K j k d::box l 68 e::L) w) aK aK)))))))
  ·exact aK
theorem aAg {t:aW} {d R:(List Int)} (hm:lR t d=some R) (hs:aD G K (L) w) (h3:bK K a1 c2 t.L) (h6:bK K a4 c5 t.E) (h9:bK K a7 c8 d):
  Calls prog 196 ([zA (zCa t a1 c2 a4 c5),zS a7 d.length c8]:List Value).toArray w (dV fun v w'=>∃ a9 b0,v=zS a9 R.length b0/\aD G K (aM 2 K a9 b0 R::L) w'):=by
 let c:=(zC t a1 c2 a4 c5)
 refine aO func196 rfl (by kernel_rfl) (by show (2:Nat)<=41;decide) ?_;unfold lR at hm
 refine aI (eQ (v:=zA (zCa t a1 c2 a4 c5)) (vs:=c) hs rfl rfl (fun e g9 d6=>(aH (v:=zS none 0 0) (aG (aI (aL (v:=zS a7 d.length c8) ?_))))));obtain ⟨d7,d8,hm⟩:=aB hm
 refine aS (vs:=[zS a7 d.length c8]) call151 rfl (iE d8 d6 h9) ?_
 rintro _ h0 ⟨d9,e0,rfl,h1⟩
 refine aH (v:=zS d9 d7.length e0) (aG (aJ (aI (aH (v:=i64 0) (aG (aQ [] (fun f w=>∃ g a b,qQ g=some R/\f 5=zS a g.length b/\aD G K (aM 2 K a b g::L) w) ?_ ?_))))))
 ·rintro f h2 ⟨g,a,b,hm,b1,e1⟩
  unfold qQ at hm
  refine aC (aI (aX b1 ?_));obtain ⟨b2,e2,hm⟩:=aB hm
  refine aS (vs:=[zS a g.length b]) call165 rfl (aCk e1 e2) ?_
  rintro _ h4 ⟨rfl,e3,e4⟩
  refine aG (aI (aX (v:=zS a b2.length b) (Eq.trans b1 (congrArg (fun n=>zS a n b) e3)) (aH (v:=zS a b2.length b) (aG ?_))));obtain rfl:=zI hm
  exact lC (nA results196 rfl ⟨a,b,rfl,e4⟩)
 obtain ⟨h5,e6,ho⟩:=aB hm
 refine bN [2] e6 (fun l h f w=>∃ y z,f 5=zS y l.length z/\f 6=i64 h/\aD G K (aM 2 K y z l::box e 68 c::L) w) aK ?_
 ·rintro l h b3 f h7 hm hr ⟨y,z,b4,J,e7⟩
  unfold mV at hm
  refine aJ (aI (aX J (aX b4 (aF (bE (len:=l.length) bC rfl) (aF (cE rfl rfl) (aG ?_))))))
  rcases aP hm with ⟨b5,hm⟩|⟨b5,hm⟩
  ·refine aR b5 rfl (aY (aC (aJ (aQ [2,6] (fun f w=>∃ m o p,qR h m=some b3/\f 5=zS o m.length p/\aD G K (aM 2 K o p m::box e 68 c::L) w) ?_ ?_))))
   ·rintro f h8 ⟨m,o,p,hm,e8,e9⟩
    unfold qR at hm
    exact aC (aU (aX J (aF (cW rfl rfl) (aH (v:=i64 (wr (h+1))) (aG ⟨_,(zI hm).symm,bZ,o,p,e8,rfl,e9⟩)))))
   refine aJ ?_;obtain ⟨i0,V,b6,f0,f1⟩:=aD.lendSp e7 (zR _) .head
   obtain ⟨b7,i,f2,b8,f3⟩:=aD.lendBp f0 .head
   refine fO (C:=fun w'=>∃ L',aD G b7 L' w') [(0,0),(1,0),(2,0),(3,0),(4,0),(8,0),(5,1),(6,1),(7,0)] Tryz_mixed (by kernel_rfl) (fun _ hg=>⟨_,aD.mono b8 hg⟩) (fun i1 f4=>?_)
   have j:=aD.mono b8 f4
   refine bS rfl (fun _ ⟨_,j⟩=>gQ (t:=0) (vs:=c) vK j f2 rfl rfl rfl) (bS rfl (fun _ _=>bL b4) (bS rfl (fun _ _=>bL J) ?_));obtain ⟨k,a0,hm⟩:=aB hm
   have f5:=aIp (b6.mono i) a0
   refine bS rfl (fun _ _=>eE bC rfl f5 rfl rfl rfl a0) ?_;obtain ⟨i2,f6,f7⟩:=bK.el (sz:=1) rfl (b6.mono i) a0
   cases f7
   refine bS rfl (fun _ ⟨_,j⟩=>bX (t:=0) eZ j f6 rfl rfl) (bS rfl (fun _ _=>bL (v:=i64 0) rfl) (qX rfl (dI (Kt:=K) (xs:=([k]:List Int)) (cs:=[i64 k]) (vs:=[(0,i64 k)]) bC vG rfl rfl j rfl (by kernel_rfl) rfl rfl rfl ⟨rfl,trivial⟩ (fun b9 f8 (c0:aD G b7 (aM 2 K b9 1 ([k]:List Int)::L) f8)=>(bG (aC ⟨⟨_,c0⟩,?_⟩))))))
   refine qX rfl ?_;obtain ⟨i3,c1,f9,g0,g1⟩:=aD.lendSp c0 (zL V i) .head
   obtain ⟨a2,g2,hm⟩:=aB hm
   refine aS (vs:=[zA (zCa t a1 c2 a4 c5),zS b9 ([k]:List Int).length 1,str ([116,97,117]:aV)]) call222 rfl (aCm g2 g0 (h3.mono (zL (zL V i) c1)) (h6.mono (zL (zL V i) c1)) f9) ?_
   rintro _ i4 ⟨c3,c4,rfl,g3⟩
   have c6:=g1 _ _ g3
   refine bG (aC ⟨⟨_,c6⟩,?_⟩)
   refine bS rfl (fun _ _=>bE (len:=a2.length) bC rfl) (wY ?_)
   have g4:=f3 _ _ c6
   have i5:=f1 _ _ g4
   refine aC (aQ [2,6] (fun f w=>∃ a3 c7 c9,wI h a3=some b3/\f 5=zS c7 a3.length c9/\aD G K (aM 2 K c7 c9 a3::box e 68 c::L) w) aK ?_);obtain ⟨i6,g5,ho⟩:=aB hm
   refine bN [2,6,23,24] g5 (fun a5 q f w=>∃ a6 a8,f 5=zS a6 a5.length a8/\f 25=i64 q/\aD G K (aM 2 K a6 a8 a5::box e 68 c::aM 2 K c3 c4 a2::L) w) aK ?_
   ·rintro a5 q g6 f i7 hm hr ⟨a6,a8,i8,d0,i9⟩
    unfold kG at hm
    refine aI (aF (cE d0 rfl) (aG (aJ ?_)))
    rcases aP hm with ⟨d1,hm⟩|⟨d1,hm⟩
    ·refine aR d1 rfl (aY (aC (aJ (aQ [2,6,23,24,25] (fun f w=>∃ r u x,mU q r=some g6/\f 5=zS u r.length x/\aD G K (aM 2 K u x r::box e 68 c::aM 2 K c3 c4 a2::L) w) ?_ ?_))))
     ·rintro f j0 ⟨r,u,x,hm,g7,g8⟩
      unfold mU at hm
      exact aC (aU (aF (cW d0 rfl) (aL (v:=i64 (wr (q+1))) (aG ⟨_,(zI hm).symm,bZ,u,x,g7,rfl,g8⟩))))
     exact aK
    ·exact aK
  ·exact aK
theorem vA {t:aW} {R:(List (List Int))} (hm:lS t=some R) (hs:aD G K (L) w) (h3:bK K a1 c2 t.L) (h6:bK K a4 c5 t.E):
  Calls prog 163 ([zA (zCa t a1 c2 a4 c5)]:List Value).toArray w (dV fun v w'=>∃ y z o,v=zS y R.length z/\List.length o=List.length R/\aD G K (aM 105 K y z (aZ o R)::rows [2] o R::L) w'):=by
 let g:=(zC t a1 c2 a4 c5)
 refine aO func163 rfl (by kernel_rfl) (by show (1:Nat)<=19;decide) ?_;unfold lS at hm
 refine aI (eQ (v:=zA (zCa t a1 c2 a4 c5)) (vs:=g) hs rfl rfl (fun h w8 J=>(aH (v:=zS none 0 0) (aG (aI (aH (v:=zS none 0 0) (aG (aJ (aI (aF (bM (t':=0) mL rfl rfl) (aF (fF eZ J (i:=0) rfl rfl rfl) (aL (v:=i64 0) (aG (aQ [] (fun f w=>∃ n V a0 p,wW n=some R/\f 3=zS V n.length a0/\List.length p=List.length n/\aD G K (aM 105 K V a0 (aZ p n)::rows [2] p n::L) w) aK ?_))))))))))))))
 have b3:aD G K (aM 105 K none 0 (aZ ([]:List (Dp.Hd (List Int))) ([]:List (List Int)))::rows [2] ([]:List (Dp.Hd (List Int))) ([]:List (List Int))::box h 68 g::L) w8:=aD.nil (α:=Cells _) (aD.rowsNil (α:=(List Int)) (tys:=[2]) J) 105 K
 obtain ⟨d4,b4,ho⟩:=aB hm
 refine bN [1,6] b4 (fun c b f w=>∃ j k a,f 3=zS j c.length k/\f 7=i64 b/\List.length a=List.length c/\aD G K (aM 105 K j k (aZ a c)::rows [2] a c::box h 68 g::L) w) ?_ ?_
 ·exact ⟨none,0,[],rfl,rfl,rfl,b3⟩
 ·rintro c b d5 f d6 hm hr ⟨j,k,a,b5,q,a2,a3⟩
  unfold gV at hm
  refine aI (aF (cE q rfl) (aG (aJ ?_)))
  rcases aP hm with ⟨a5,hm⟩|⟨a5,hm⟩
  ·refine aR a5 rfl (aY (aC (aJ (cB (aI (aX q (aH (v:=i64 b) (aG (aU (aX b5 (aF (gH (us:=g) vK a3 (i:=2) rfl rfl rfl rfl) (aL (v:=i64 b) (dI (Kt:=K) (xs:=([b]:List Int)) (cs:=[i64 b]) (vs:=[(0,i64 b)]) bC vG rfl rfl a3 rfl (by kernel_rfl) rfl rfl rfl ⟨rfl,trivial⟩ (fun m b6 (b8:aD G K (aM 2 K m 1 ([b]:List Int)::aM 105 K j k (aZ a c)::rows [2] a c::box h 68 g::L) b6)=>?_))))))))))))));obtain ⟨d7,a6,b9,c0,c1⟩:=aD.lendSp b8 (zR _) .head
   obtain ⟨l,c3,hm⟩:=aB hm
   refine aS (vs:=[zA (zCa t a1 c2 a4 c5),zS m ([b]:List Int).length 1]) call196 rfl (aAg c3 c0 (h3.mono a6) (h6.mono a6) b9) ?_
   rintro _ a7 ⟨d,e,rfl,c4⟩
   have c6:=c1 _ _ c4
   have c7:aD G K (aM 2 K d e l::aM 2 K m 1 ([b]:List Int)::aM 105 K j k (aZ a c)::rows [2] a c::box h 68 g::L) a7:=(aD.arr 2 [1,0] c6 rfl)
   have c8:aD G K (rows [2] ([(d,e)]:List (Dp.Hd (List Int))) [l]::aM 2 K m 1 ([b]:List Int)::aM 105 K j k (aZ a c)::rows [2] a c::box h 68 g::L) a7:=aD.rowsOne c7
   refine dI (Kt:=K) (xs:=aZ ([(d,e)]:List (Dp.Hd (List Int))) ([l]:List (List Int))) (cs:=[zS d l.length e]) (vs:=[(0,zS d l.length e)]) mA aAU rfl rfl c8 rfl (by kernel_rfl) rfl rfl rfl ⟨rfl,trivial⟩ ?_
   intro c9 d0 (d1:aD G K (aM 105 K c9 1 (aZ ([(d,e)]:List (Dp.Hd (List Int))) ([l]:List (List Int)))::rows [2] ([(d,e)]:List (Dp.Hd (List Int))) ([l]:List (List Int))::aM 2 K m 1 ([b]:List Int)::aM 105 K j k (aZ a c)::rows [2] a c::box h 68 g::L) d0)
   obtain ⟨r,a8,hm⟩:=aB hm
   refine aIq (i:=1) (tys:=[2]) (hds:=a) (hds2:=([(d,e)]:List (Dp.Hd (List Int)))) mA underlying155 aAU rfl rfl d1 a2 rfl rfl rfl a8 rfl rfl rfl rfl ?_
   intro u x d2 (d3:aD G K (aM 105 K u x (aZ (a++([(d,e)]:List (Dp.Hd (List Int)))) r)::rows [2] (a++([(d,e)]:List (Dp.Hd (List Int)))) r::aM 2 K m 1 ([b]:List Int)::box h 68 g::L) d2)
   exact aH (v:=zS u r.length x) (bG (cU (aC (aU (aF (cW q rfl) (aL (v:=i64 (wr (b+1))) (aG ⟨_,(zI hm).symm,bZ,u,x,(a++([(d,e)]:List (Dp.Hd (List Int)))),rfl,rfl,(aGi a2 rfl a8),(aD.arr 3 [0,1] d3 rfl)⟩)))))))
  ·exact aK
theorem aDw {is:Bool} {R:Int} (hm:aLs is=some R) (a:aD G K (L) w):
  Calls prog 166 ([zB is]:List Value).toArray w (dV fun v w'=>v=i64 R/\aD G K (L) w'):=by
 exact aK
theorem aJZ {j R:(List Int)} (hm:aEC j=some R) (hs:aD G K (L) w) (y:bK K a1 c2 j):
  Calls prog 200 ([zS a1 j.length c2]:List Value).toArray w (dV fun v w'=>∃ J V,v=zS J R.length V/\aD G K (aM 2 K J V R::L) w'):=by
 refine aO func200 rfl (by kernel_rfl) (by show (1:Nat)<=39;decide) ?_;unfold aEC at hm
 refine aI (aH (v:=zS none 0 0) (aG (aI (WO_mkMap Int Int hs ?_))))
 intro c w5 (b1:aD G K (mpo c ([]:(List (Int × Int)))::L) w5)
 refine aH (v:=Value.map (some c)) (aG (aI (aL (v:=zS a1 j.length c2) (aF (bE (len:=j.length) bC rfl) ?_))));obtain ⟨a,q8,hm⟩:=aB hm
 refine aCD (e:=(0:Int)) bC vG rfl rfl b1 rfl rfl rfl q8 rfl ?_
 intro d b3 (c7:aD G K (aM 2 K d a.length a::mpo c ([]:(List (Int × Int)))::L) b3)
 refine aH (v:=zS d a.length a.length) (aG (aJ (aI (aL (v:=zS a1 j.length c2) (aF (bE (len:=j.length) bC rfl) (aL (v:=i64 0) (aG (aQ [] (fun f w=>∃ u,aHF u=some R/\f 4=zS d u.length a.length/\aD G K (aM 2 K d a.length u::L) w) aK ?_))))))));obtain ⟨c8,b4,ho⟩:=aB hm
 refine kO [3,13,14] b4 (fun b l m f w=>f 4=zS d l.length a.length/\f 15=i64 m/\aD G K (aM 2 K d a.length l::mpo c b::L) w) aK ?_
 ·rintro b l m b5 f c9 hm hr ⟨a0,p,q⟩
  unfold oP at hm
  refine aI (aF (cE p rfl) (aG (aJ ?_)))
  rcases aP hm with ⟨a2,hm⟩|⟨a2,hm⟩
  ·refine aR a2 rfl (aY (aC (aJ (cB (aI (aX p ?_))))));obtain ⟨g,a3,hm⟩:=aB hm
   refine aF (eC bC rfl y rfl rfl p a3) ?_;obtain ⟨d0,b6,b7⟩:=bK.el (sz:=1) rfl y a3
   cases b7
   refine aF (bX (t:=0) eZ q b6 rfl rfl) (aH (v:=i64 m) (aH (v:=i64 g) (aG (aI (aL (v:=Value.map (some c)) (aL (v:=i64 g) (aF (R_look (kv:=b) (k:=g) (z:=(0:Int)) runUnderlying240 ko_2 zeroValue2 q (i:=1) rfl rfl rfl) (aL (v:=Value.tuple #[i64 ((zF b g).getD 0),zB ((zF b g).isSome)]) (aF (fU rfl rfl) (aF (fU rfl rfl) (aH (v:=i64 ((zF b g).getD 0)) (aH (v:=zB ((zF b g).isSome)) (aG (qV [3,4,5,13,14,15] (fun f w=>∃ r o,yP l m r o=some b5/\f 7=i64 o/\aD G K (aM 2 K d a.length l::mpo c r::L) w) ?_ ?_))))))))))))))
   ·rintro f d1 ⟨r,o,hm,b8,a4⟩
    unfold yP at hm
    refine aU (aX a0 (aL (v:=i64 m) (aX b8 ?_)));obtain ⟨d2,x,hm⟩:=aB hm
    have b9:=dD a4 (i:=0) rfl x
    refine aF (eE bC rfl b9 rfl rfl rfl x) ?_;obtain ⟨c0,a5,hm⟩:=aB hm
    exact iB (i:=0) (t:=0) (ns:=[i64 o]) (e':=(o:Int)) sizeOf2 a4 rfl (zR _) rfl rfl rfl x a5 rfl rfl (eD rfl) rfl (fun cs h=>by cases h;rfl) (fun c1 (c3:aD G K (aM 2 K d a.length c0::mpo c r::L) c1)=>(bG (cU (aC (aU (aF (cW p rfl) (aL (v:=i64 (wr (m+1))) (aG ⟨_,(zI hm).symm,bZ,(Eq.trans a0 (congrArg (fun n=>zS d n a.length) (bW a5))),rfl,c3⟩))))))))
   refine aI (aL (v:=zB ((zF b g).isSome)) (aF (zY rfl) (aG ?_)))
   rcases aP hm with ⟨a6,hm⟩|⟨a6,hm⟩
   ·refine aR a6 rfl (aI (aL (v:=Value.map (some c)) (aF (R_lenM runUnderlying240 q (i:=1) rfl rfl) (aH (v:=i64 (b.length:Int)) (aG (aU (aL (v:=Value.map (some c)) (aL (v:=i64 g) (aL (v:=i64 (b.length:Int)) ?_)))))))));obtain ⟨a7,c4,hm⟩:=aB hm
    exact WO_mapUp (i:=1) (k:=g) (v:=(b.length:Int)) runUnderlying240 ko_2 q rfl rfl rfl rfl c4 (fun c5 (c6:aD G K (aM 2 K d a.length l::mpo c a7::L) c5)=>(aG ⟨bZ,a7,(b.length:Int),hm,rfl,c6⟩))
   ·exact aK
  ·exact aK
theorem lV {a b:(List Int)} {R:Bool} (hm:cV a b=some R) (g:aD G K (L) w) (h:bK K a1 c2 a) (i:bK K a4 c5 b):
  Calls prog 162 ([zS a1 a.length c2,zS a4 b.length c5]:List Value).toArray w (dV fun v w'=>v=zB R/\aD G K (L) w'):=by
 refine aO func162 rfl (by kernel_rfl) (by show (2:Nat)<=26;decide) ?_;unfold cV at hm
 refine aI (aH (v:=zB false) (aG (aJ (aI (aL (v:=zS a1 a.length c2) (aF (bE (len:=a.length) bC rfl) (aL (v:=zS a4 b.length c5) (aF (bE (len:=b.length) bC rfl) (aF (aAO rfl rfl) (aG ?_))))))))))
 rcases aP hm with ⟨c,hm⟩|⟨c,hm⟩
 ·exact aK
 ·refine bF c rfl (aY (aC (aJ (aI (aL (v:=zS a1 a.length c2) (aF (bE (len:=a.length) bC rfl) (aL (v:=i64 0) (aG (aQ [] (fun f w=>mW=some R/\aD G K (L) w) aK ?_)))))))));obtain ⟨j,d,ho⟩:=aB hm
  exact cQ [0,1,12] d (fun e f w=>f 13=i64 e/\aD G K (L) w) aK aK
theorem yV {k p:(List Int)} {a:Nat} {R:Bool} (hm:zU k p=some R) (b:aD G K (L) w) (c:bK K a1 c2 k) (d:gE K a4 a [zS a7 p.length c8]) (e:bK K a7 c8 p):
  Calls prog 199 ([zS a1 k.length c2,dC a4 a]:List Value).toArray w (dV fun v w'=>v=zB R/\aD G K (L) w'):=by
 exact aK
theorem iY {a:(List (List Int))} {d:(List Int)} {b:Nat} {R:Int} (hm:dA a d=some R) (y:aD G K (L) w) (e:bK K a1 c2 a) (n:gE K a4 b [zS a7 d.length c8]) (o:bK K a7 c8 d):
  Calls prog 198 ([zS a1 a.length c2,Value.func (.func 199) #[] #[dC a4 b]]:List Value).toArray w (dV fun v w'=>v=i64 R/\aD G K (L) w'):=by
 refine aO func198 rfl (by kernel_rfl) (by show (2:Nat)<=19;decide) ?_;unfold dA at hm
 refine aI (aH (v:=i64 0) (aG (aJ (aI (aL (v:=zS a1 a.length c2) (aF (bE (len:=a.length) mA rfl) (aL (v:=i64 0) (aG (aQ [] (fun f w=>jK=some R/\aD G K (L) w) aK ?_)))))))));obtain ⟨z,p,ho⟩:=aB hm
 refine cQ [0,1,7] p (fun c f w=>f 8=i64 c/\aD G K (L) w) aK ?_
 ·rintro c J f V hm hr ⟨g,h⟩
  unfold bV at hm
  refine aI (aF (cE g rfl) (aG (aJ ?_)))
  rcases aP hm with ⟨i,hm⟩|⟨i,hm⟩
  ·refine aR i rfl (aY (aC (aJ (cB (aI (aX g (aH (v:=i64 c) (aG (aI (aL (v:=Value.func (.func 199) #[] #[dC a4 b]) (aL (v:=zS a1 a.length c2) (aL (v:=i64 c) ?_))))))))))));obtain ⟨j,k,hm⟩:=aB hm
   refine aF (eC mA rfl e rfl rfl rfl k) ?_;obtain ⟨a0,q,r⟩:=bK.el (sz:=1) rfl e k
   obtain ⟨l,m,rfl,u⟩:=r
   refine aF (bX (t:=0) zN h q rfl rfl) ?_;obtain ⟨a2,x,hm⟩:=aB hm
   exact lG (vs:=[zS l j.length m]) (caps:=[dC a4 b]) (us:=[zS l j.length m,dC a4 b]) rfl call199 rfl rfl (yV x h u n o) aK
  ·exact aK
theorem aCn {a:(List (List Int))} {R:(List Int)} (hm:wJ a=some R) (hs:aD G K (L) w) (g:bK K a1 c2 a):
  Calls prog 168 ([zS a1 a.length c2]:List Value).toArray w (dV fun v w'=>∃ o p,v=zS o R.length p/\aD G K (aM 2 K o p R::L) w'):=by
 refine aO func168 rfl (by kernel_rfl) (by show (1:Nat)<=29;decide) ?_;unfold wJ at hm
 refine aI (aH (v:=zS none 0 0) (aG (aI (aH (v:=zS none 0 0) (aG (aJ (aI (aL (v:=zS a1 a.length c2) (aF (bE (len:=a.length) mA rfl) (aL (v:=i64 0) (aG (aQ [] (fun f w=>∃ h q r,zV h=some R/\f 3=zS q h.length r/\aD G K (aM 2 K q r h::L) w) aK ?_))))))))))))
 have c3:=aD.nil (α:=Int) hs 2 K
 obtain ⟨c4,a3,ho⟩:=aB hm
 refine bN [0,7,8] a3 (fun b c f w=>∃ d e,f 3=zS d b.length e/\f 9=i64 c/\aD G K (aM 2 K d e b::L) w) aK ?_
 ·rintro b c a4 f c5 hm hr ⟨d,e,c7,j,u⟩
  unfold jE at hm
  refine aI (aF (cE j rfl) (aG (aJ ?_)))
  rcases aP hm with ⟨x,hm⟩|⟨x,hm⟩
  ·refine aR x rfl (aY (aC (aJ (cB (aI (aX j ?_))))));obtain ⟨k,y,hm⟩:=aB hm
   refine aF (eC mA rfl g rfl rfl j y) ?_;obtain ⟨c8,a6,a7⟩:=bK.el (sz:=1) rfl g y
   obtain ⟨l,m,rfl,a8⟩:=a7
   refine aF (bX (t:=0) zN u a6 rfl rfl) (bH (vs:=[zS none 0 0]) zeroValue105 u rfl (fun n c9 a9=>(aH (v:=i64 c) (cF (i:=0) (ns:=[zS l k.length m]) (us:=[zS l k.length m]) sizeOf105 a9 rfl rfl rfl rfl rfl (eD rfl) rfl rfl (fun b0 (b1:aD G K (box n 105 [zS l k.length m]::aM 2 K d e b::L) b0)=>(aG (aI (aL (v:=zS a1 a.length c2) (aL (v:=i64 c) ?_)))))))));obtain ⟨b2,z,hm⟩:=aB hm
   obtain ⟨b3,b4,J⟩:=Cut.ex 1 a1 c2 0
   have b5:=bK.cut' g z J
   refine aF (aHa mA g.room J rfl rfl rfl z) (aF (nB (vs:=[zP (some ⟨n,0,none⟩)]) rfl) ?_);obtain ⟨d0,V,b6,b7,b8⟩:=aD.lendBp b1 .head
   obtain ⟨b9,c0,hm⟩:=aB hm
   refine aS (vs:=[zS b3 b2.length b4,Value.func (.func 199) #[] #[dC (some ⟨n,0,none⟩) 0]]) call198 rfl (iY c0 b7 (b5.mono V) b6 (a8.mono V)) ?_
   rintro _ d1 ⟨rfl,c1⟩
   have d2:=b8 _ _ c1
   exact aH (v:=i64 b9) (aG (qV [0,3,7,8,9] (fun f w=>∃ a0,uA b c a0=some a4/\f 6=i64 a0/\aD G K (aM 2 K d e b::L) w) aK aK))
  ·exact aK
theorem aBC {t:aW} {p:(List Int)} {c6:Bool} {R:(List Int)} (hm:jL t p c6=some R) (hs:aD G K (L) w) (h3:bK K a1 c2 t.L) (h6:bK K a4 c5 t.E) (h9:bK K a7 c8 p):
  Calls prog 132 ([zA (zCa t a1 c2 a4 c5),zS a7 p.length c8,zB c6]:List Value).toArray w (dV fun v w'=>∃ h8 i0,v=zS h8 R.length i0/\aD G K (aM 2 K h8 i0 R::L) w'):=by
 let o:=(zC t a1 c2 a4 c5)
 refine aO func132 rfl (by kernel_rfl) (by show (3:Nat)<=98;decide) ?_;unfold jL at hm
 refine aI (eQ (v:=zA (zCa t a1 c2 a4 c5)) (vs:=o) hs rfl rfl (fun y u9 i1=>(aH (v:=zS none 0 0) (aG (aI (aF (gH (us:=o) vK i1 (i:=0) rfl rfl rfl rfl) (aL (v:=zS a7 p.length c8) ?_)))))));obtain ⟨j,m2,hm⟩:=aB hm
 refine aS (vs:=[zA (zCa t a1 c2 a4 c5),zS a7 p.length c8]) call126 rfl (rR m2 i1 h3 h6 h9) ?_
 rintro _ v0 ⟨V,b5,b6,b7,b8,rfl,a0,i2,i3,m3⟩
 refine bH (vs:=zG) zeroValue68 m3 rfl (fun i4 v1 m4=>(cF (i:=0) (ns:=(zC j b5 b6 b7 b8)) (us:=(zC j b5 b6 b7 b8)) sizeOf68 m4 rfl rfl rfl rfl rfl (eD rfl) rfl rfl (fun m5 (i5:aD G V (box i4 68 (zC j b5 b6 b7 b8)::box y 68 o::L) m5)=>(aG (aI (aF (gH (us:=(zC j b5 b6 b7 b8)) vK i5 (i:=0) rfl rfl rfl rfl) ?_))))));obtain ⟨m,m6,hm⟩:=aB hm
 refine aS (vs:=[zA (zCa j b5 b6 b7 b8)]) call127 rfl (rS m6 i5 i2 i3) ?_
 rintro _ v2 ⟨q,r,rfl,i6⟩
 refine aH (v:=zS q m.length r) (aG (aI (aH (v:=zS none 0 0) (aG (aJ (aI (aF (gH (us:=(zC j b5 b6 b7 b8)) vK i6 (i:=1) rfl rfl rfl rfl) ?_)))))));obtain ⟨c,m7,hm⟩:=aB hm
 refine aS (vs:=[zA (zCa j b5 b6 b7 b8)]) call163 rfl (vA m7 i6 i2 i3) ?_
 rintro _ m8 ⟨z,J,d,rfl,d9,m9⟩
 refine aF (bE (len:=c.length) mA rfl) (aL (v:=i64 0) (aG (aQ [] (fun f w=>∃ c1 e0 e1 e2,gY c1=some R/\f 9=zS e0 c1.length e1/\List.length e2=List.length c1/\aD G V (aM 105 K e0 e1 (aZ e2 c1)::rows [2] e2 c1::L) w) ?_ ?_)))
 ·rintro f v3 ⟨c1,e0,e1,e2,hm,n0,n1,n2⟩
  unfold gY at hm
  refine aC (aI (aX n0 ?_));obtain ⟨v4,v5,n3,v6,n4,n5⟩:=aD.lendD' (i:=0) n2 n1 rfl rfl
  obtain ⟨n6,n7,hm⟩:=aB hm
  refine aS (vs:=[zS e0 c1.length e1]) call168 rfl (aCn n7 n4 n3) ?_
  rintro _ v7 ⟨i7,i8,rfl,n8⟩
  have n9:=n5 _ _ n8
  refine aH (v:=zS i7 n6.length i8) (aG ?_);obtain rfl:=zI hm
  exact lC (nA results132 rfl ⟨i7,i8,rfl,(aD.weakK (aD.arr 2 [] n9 rfl) a0)⟩)
 have o1:aD G V (aM 105 K none 0 (aZ ([]:List (Dp.Hd (List Int))) ([]:List (List Int)))::rows [2] ([]:List (Dp.Hd (List Int))) ([]:List (List Int))::aM 105 K z J (aZ d c)::rows [2] d c::aM 4 K q r m::box i4 68 (zC j b5 b6 b7 b8)::box y 68 o::L) m8:=aD.nil (α:=Cells _) (aD.rowsNil (α:=(List Int)) (tys:=[2]) m9) 105 K
 obtain ⟨v8,o2,ho⟩:=aB hm
 refine bN [1,2,3,8,22,23] o2 (fun a b0 f w=>∃ u x b,f 9=zS u a.length x/\f 24=i64 b0/\List.length b=List.length a/\aD G V (aM 105 K u x (aZ b a)::rows [2] b a::aM 105 K z J (aZ d c)::rows [2] d c::aM 4 K q r m::box y 68 o::L) w) ?_ ?_
 ·exact ⟨none,0,[],rfl,rfl,rfl,(aD.arr 6 [0,1,2,3,4] o1 rfl)⟩
 ·rintro a b0 e3 f v9 hm hr ⟨u,x,b,i9,e4,f7,d1⟩
  unfold eJ at hm
  refine aI (aF (cE e4 rfl) (aG (aJ ?_)))
  rcases aP hm with ⟨f8,hm⟩|⟨f8,hm⟩
  ·refine aR f8 rfl (aY (aC (aJ (aQ [1,2,3,8,22,23,24] (fun f w=>∃ c7 e5 e6 d2,jW b0 c7=some e3/\f 9=zS e5 c7.length e6/\List.length d2=List.length c7/\aD G V (aM 105 K e5 e6 (aZ d2 c7)::rows [2] d2 c7::aM 105 K z J (aZ d c)::rows [2] d c::aM 4 K q r m::box y 68 o::L) w) ?_ ?_))))
   ·rintro f w0 ⟨c7,e5,e6,d2,hm,o3,o4,o5⟩
    unfold jW at hm
    exact aC (aU (aF (cW e4 rfl) (aL (v:=i64 (wr (b0+1))) (aG ⟨_,(zI hm).symm,bZ,e5,e6,d2,o3,rfl,o4,o5⟩))))
   refine aI (aX e4 ?_);obtain ⟨f9,d3,hm⟩:=aB hm
   obtain ⟨⟨g0,g1⟩,g2⟩:=aLm d9 d3
   have o6:=dD d1 (i:=2) rfl (sX d9 d3 g2)
   refine aF (eE mA rfl o6 rfl rfl e4 d3) (aF (uR (t:=0) zN d1 (i:=2) rfl (sX d9 d3 g2) rfl rfl rfl) (aH (v:=i64 b0) (aH (v:=zS g0 f9.length g1) (aG (aI (aH (v:=zS none 0 0) (aG (aJ (aI (aF (bM (t':=3) eX rfl rfl) (aF (fF lX d1 (i:=5) rfl rfl rfl) (aF (bE (len:=t.E.length) cO rfl) (aL (v:=i64 0) (aG (aQ [1,2,3,8,9,10,22,23,24] (fun f w=>∃ d4 a3 a5,gZ p c6 m a b0 d4=some e3/\f 12=zS a3 d4.length a5/\aD G V (aM 2 K a3 a5 d4::aM 105 K u x (aZ b a)::rows [2] b a::aM 105 K z J (aZ d c)::rows [2] d c::aM 4 K q r m::box y 68 o::L) w) ?_ ?_)))))))))))))))
   ·rintro f w1 ⟨d4,a3,a5,hm,j0,o7⟩
    unfold gZ at hm
    refine aC (aI (aX j0 ?_));obtain ⟨c3,o8,hm⟩:=aB hm
    refine aS (vs:=[zS a3 d4.length a5]) call165 rfl (aCk o7 o8) ?_
    rintro _ w2 ⟨rfl,o9,p0⟩
    refine aG (aJ (bO [1,2,3,8,9,12,22,23,24] (fun f w=>∃ d5 e7 e8,fP a b0 c3 d5=some e3/\f 15=zS e7 d5.length e8/\aD G V (aM 2 K e7 e8 d5::aM 2 K a3 a5 c3::aM 105 K u x (aZ b a)::rows [2] b a::aM 105 K z J (aZ d c)::rows [2] d c::aM 4 K q r m::box y 68 o::L) w) ?_ ?_))
    ·rintro f p1 ⟨d5,e7,e8,hm,p2,p3⟩
     unfold fP at hm
     refine aC (aU (aX i9 (aX p2 (aX (v:=zS a3 c3.length a5) (Eq.trans j0 (congrArg (fun n=>zS a3 n a5) o9)) ?_))))
     have p4:aD G V (aM 2 K a3 a5 c3::aM 2 K e7 e8 d5::aM 105 K u x (aZ b a)::rows [2] b a::aM 105 K z J (aZ d c)::rows [2] d c::aM 4 K q r m::box y 68 o::L) p1:=(aD.arr 2 [1,0] p3 rfl)
     obtain ⟨w3,p5,hm⟩:=aB hm
     refine aS (vs:=[zS a3 c3.length a5]) call167 rfl (gS p5 p4) ?_
     rintro _ w4 ⟨w5,w6,rfl,p6⟩
     obtain ⟨c4,p7,hm⟩:=aB hm
     refine tR (i:=0) bC underlying105 vG rfl rfl p6 rfl a0 (zR _) p7 rfl rfl rfl rfl (fun _ h=>h) (fun a6 a8 j1 (p8:aD G V (aM 2 K a6 a8 c4::aM 105 K u x (aZ b a)::rows [2] b a::aM 105 K z J (aZ d c)::rows [2] d c::aM 4 K q r m::box y 68 o::L) j1)=>?_)
     have p9:aD G V (rows [2] ([(a6,a8)]:List (Dp.Hd (List Int))) [c4]::aM 105 K u x (aZ b a)::rows [2] b a::aM 105 K z J (aZ d c)::rows [2] d c::aM 4 K q r m::box y 68 o::L) j1:=aD.rowsOne p8
     refine dI (Kt:=K) (xs:=aZ ([(a6,a8)]:List (Dp.Hd (List Int))) ([c4]:List (List Int))) (cs:=[zS a6 c4.length a8]) (vs:=[(0,zS a6 c4.length a8)]) mA aAU rfl rfl p9 rfl (by kernel_rfl) rfl rfl rfl ⟨rfl,trivial⟩ ?_
     intro q0 q1 (q2:aD G V (aM 105 K q0 1 (aZ ([(a6,a8)]:List (Dp.Hd (List Int))) ([c4]:List (List Int)))::rows [2] ([(a6,a8)]:List (Dp.Hd (List Int))) ([c4]:List (List Int))::aM 105 K u x (aZ b a)::rows [2] b a::aM 105 K z J (aZ d c)::rows [2] d c::aM 4 K q r m::box y 68 o::L) q1)
     obtain ⟨e9,j2,hm⟩:=aB hm
     refine aIq (i:=0) (tys:=[2]) (hds:=b) (hds2:=([(a6,a8)]:List (Dp.Hd (List Int)))) mA underlying155 aAU rfl rfl q2 f7 rfl rfl rfl j2 rfl rfl rfl rfl ?_
     intro g3 g4 q3 (q4:aD G V (aM 105 K g3 g4 (aZ (b++([(a6,a8)]:List (Dp.Hd (List Int)))) e9)::rows [2] (b++([(a6,a8)]:List (Dp.Hd (List Int)))) e9::aM 105 K z J (aZ d c)::rows [2] d c::aM 4 K q r m::box y 68 o::L) q3)
     exact aH (v:=zS g3 e9.length g4) (bG (cU (aC ⟨bZ,e9,g3,g4,(b++([(a6,a8)]:List (Dp.Hd (List Int)))),hm,rfl,(aGi f7 rfl j2),q4⟩)))
    obtain ⟨g5,j3,j4,j5,j6⟩:=aD.lendSp p0 a0 zt5
    refine fO (C:=fun w'=>∃ L',aD G g5 L' w') [(0,0),(1,0),(2,0),(3,0),(4,0),(5,0),(6,0),(7,0),(8,0),(9,0),(10,0),(11,1),(12,1),(13,0)] Tryz_mixed (by kernel_rfl) (fun _ hg=>⟨_,aD.mono j5 hg⟩) (fun w7 q5=>?_)
    have c9:=aD.mono j5 q5
    refine bS rfl (fun _ _=>bL (v:=zS a7 p.length c8) rfl) (bS rfl (fun _ _=>bL (v:=i64 b0) rfl) ?_);obtain ⟨b1,j7,hm⟩:=aB hm
    refine bS rfl (fun _ _=>eC bC rfl (h9.mono (zL a0 j3)) rfl rfl rfl j7) ?_;obtain ⟨w8,q6,q7⟩:=bK.el (sz:=1) rfl h9 j7
    cases q7
    refine bS rfl (fun _ ⟨_,c9⟩=>bX (t:=0) eZ c9 (q6.mono (zL a0 j3)) rfl rfl) (bS rfl (fun _ _=>bL (v:=zB c6) rfl) (bS rfl (fun _ _=>bL (v:=zB c6) rfl) ?_))
    rcases aP hm with ⟨a9,hm⟩|⟨a9,hm⟩
    ·refine WE_vg rfl rfl rfl a9 (fun _ _=>bL (v:=zS q m.length r) rfl) (WE_vg rfl rfl rfl a9 (fun _ _=>bL (v:=i64 b0) rfl) ?_);obtain ⟨j8,g6,hm⟩:=aB hm
     have q8:=aIp j4 g6
     refine WE_vg rfl rfl rfl a9 (fun _ _=>eE jG rfl q8 rfl rfl rfl g6) ?_;obtain ⟨w9,q9,r0⟩:=bK.el (sz:=1) rfl j4 g6
     cases r0
     refine WE_vg rfl rfl rfl a9 (fun _ ⟨_,c9⟩=>bX (t:=0) sc_4 c9 q9 rfl rfl) (bS rfl (fun _ _=>lE (v:=zB j8) a9 rfl rfl) (qX rfl ?_));obtain ⟨d6,r1,hm⟩:=aB hm
     refine aS (vs:=[zB j8]) call166 rfl (aDw r1 c9) ?_
     rintro _ x0 ⟨rfl,j9⟩
     refine bG (aC ⟨⟨_,j9⟩,?_⟩)
     refine qX rfl (dI (Kt:=K) (xs:=([b1,d6]:List Int)) (cs:=[i64 b1,i64 d6]) (vs:=[(0,i64 b1),(1,i64 d6)]) bC vG rfl rfl j9 rfl (by kernel_rfl) rfl rfl rfl ⟨rfl,rfl,trivial⟩ (fun k0 r2 (k1:aD G g5 (aM 2 K k0 2 ([b1,d6]:List Int)::aM 2 K a3 a5 c3::aM 105 K u x (aZ b a)::rows [2] b a::aM 105 K z J (aZ d c)::rows [2] d c::box y 68 o::L) r2)=>(bG (aC ⟨⟨_,k1⟩,?_⟩))))
     refine bS rfl (fun _ _=>lD (v:=zS k0 ([b1,d6]:List Int).length 2) rfl) (wY ?_)
     have x1:=j6 _ _ k1
     exact aK
    ·refine aLk rfl rfl rfl (wV a9) (aLk rfl rfl rfl (wV a9) (aLk rfl rfl rfl (wV a9) (aLk rfl rfl rfl (wV a9) (bS rfl (fun _ _=>qW (v:=zB false) a9 rfl rfl) (qX rfl ?_)))));obtain ⟨d7,r3,hm⟩:=aB hm
     refine aS (vs:=[zB false]) call166 rfl (aDw r3 c9) ?_
     rintro _ x2 ⟨rfl,k2⟩
     refine bG (aC ⟨⟨_,k2⟩,?_⟩)
     refine qX rfl (dI (Kt:=K) (xs:=([b1,d7]:List Int)) (cs:=[i64 b1,i64 d7]) (vs:=[(0,i64 b1),(1,i64 d7)]) bC vG rfl rfl k2 rfl (by kernel_rfl) rfl rfl rfl ⟨rfl,rfl,trivial⟩ (fun k3 r4 (k4:aD G g5 (aM 2 K k3 2 ([b1,d7]:List Int)::aM 2 K a3 a5 c3::aM 105 K u x (aZ b a)::rows [2] b a::aM 105 K z J (aZ d c)::rows [2] d c::box y 68 o::L) r4)=>(bG (aC ⟨⟨_,k4⟩,?_⟩))))
     refine bS rfl (fun _ _=>lD (v:=zS k3 ([b1,d7]:List Int).length 2) rfl) (wY ?_)
     have x3:=j6 _ _ k4
     exact aK
   have x4:=aD.nil (α:=Int) d1 2 K
   obtain ⟨x5,r5,ho⟩:=aB hm
   refine bN [1,2,3,8,9,10,11,22,23,24,30,31] r5 (fun b2 d8 f w=>∃ b9 c0,f 12=zS b9 b2.length c0/\f 32=i64 d8/\aD G V (aM 2 K b9 c0 b2::aM 105 K u x (aZ b a)::rows [2] b a::aM 105 K z J (aZ d c)::rows [2] d c::aM 4 K q r m::box y 68 o::L) w) aK ?_
   ·rintro b2 d8 k5 f x6 hm hr ⟨b9,c0,k6,g7,g8⟩
    unfold eI at hm
    refine aI (aF (cE g7 rfl) (aG (aJ ?_)))
    rcases aP hm with ⟨g9,hm⟩|⟨g9,hm⟩
    ·refine aR g9 rfl (aY (aC (aJ (aQ [1,2,3,8,9,10,11,22,23,24,30,31,32] (fun f w=>∃ f0 f1 f2,hY d8 f0=some k5/\f 12=zS f1 f0.length f2/\aD G V (aM 2 K f1 f2 f0::aM 105 K u x (aZ b a)::rows [2] b a::aM 105 K z J (aZ d c)::rows [2] d c::aM 4 K q r m::box y 68 o::L) w) ?_ ?_))))
     ·rintro f x7 ⟨f0,f1,f2,hm,r6,r7⟩
      unfold hY at hm
      exact aC (aU (aF (cW g7 rfl) (aL (v:=i64 (wr (d8+1))) (aG ⟨_,(zI hm).symm,bZ,f1,f2,r6,rfl,r7⟩))))
     refine aI ?_;obtain ⟨k,k7,hm⟩:=aB hm
     refine aF (eC cO rfl (h6.mono a0) rfl rfl g7 k7) ?_;obtain ⟨x8,r8,r9⟩:=bK.el (sz:=3) rfl h6 k7
     cases r9
     refine aF (gQ (t:=0) (vs:=[i64 k.F,i64 k.B,i64 k.To]) nU g8 (r8.mono a0) rfl rfl rfl) (bH (vs:=[i64 0,i64 0,i64 0]) zeroValue87 g8 rfl (fun h0 x9 s0=>(cF (i:=0) (ns:=[i64 k.F,i64 k.B,i64 k.To]) (us:=[i64 k.F,i64 k.B,i64 k.To]) sizeOf87 s0 rfl rfl rfl rfl rfl (eD rfl) rfl rfl (fun s1 (s2:aD G V (box h0 87 [i64 k.F,i64 k.B,i64 k.To]::aM 2 K b9 c0 b2::aM 105 K u x (aZ b a)::rows [2] b a::aM 105 K z J (aZ d c)::rows [2] d c::aM 4 K q r m::box y 68 o::L) s1)=>(aG (aJ (bO [1,2,3,8,9,10,11,12,14,22,23,24,30,31,32] (fun f w=>∃ h1,eH t p b2 d8 k h1=some k5/\f 57=zB h1/\aD G V (box h0 87 [i64 k.F,i64 k.B,i64 k.To]::aM 2 K b9 c0 b2::aM 105 K u x (aZ b a)::rows [2] b a::aM 105 K z J (aZ d c)::rows [2] d c::aM 4 K q r m::box y 68 o::L) w) ?_ ?_)))))))
     ·rintro f y0 ⟨h1,hm,s3,s4⟩
      unfold eH at hm
      refine aC ?_
      rcases aP hm with ⟨k8,hm⟩|⟨k8,hm⟩
      ·refine aR k8 s3 ?_;obtain ⟨y1,f3,k9,s5,y2⟩:=aD.lendBp s4 .head
       obtain ⟨h2,d0,s6,l0,s7⟩:=aD.lendBp s5 zt6
       refine fO (C:=fun w'=>∃ L',aD G h2 L' w') [(0,0),(1,0),(2,0),(3,0),(4,0),(5,0),(6,0),(7,0),(8,0),(9,0),(10,0),(11,0),(12,1),(13,1),(14,0)] Tryz_mixed (by kernel_rfl) (fun _ hg=>⟨_,aD.mono l0 hg⟩) (fun y3 s8=>?_)
       have b4:=aD.mono l0 s8
       refine bS rfl (fun _ _=>bL k6) (bS rfl (fun _ _=>bM (t':=1) aAo rfl rfl) (bS rfl (fun _ ⟨_,b4⟩=>bX (t:=1) eZ b4 (k9.mono d0) rfl rfl) (bS rfl (fun _ _=>bM (t':=0) mL rfl rfl) (bS rfl (fun _ ⟨_,b4⟩=>bX (t:=0) eZ b4 s6 rfl rfl) (bS rfl (fun _ _=>R_mul rfl rfl) (bS rfl (fun _ _=>bL (v:=zS a7 p.length c8) rfl) (bS rfl (fun _ _=>bM (t':=2) qL rfl rfl) (bS rfl (fun _ ⟨_,b4⟩=>bX (t:=2) eZ b4 (k9.mono d0) rfl rfl) ?_))))))))
       obtain ⟨f4,l1,hm⟩:=aB hm
       refine bS rfl (fun _ _=>eC bC rfl (h9.mono (zL (zL a0 f3) d0)) rfl rfl rfl l1) ?_;obtain ⟨y4,s9,t0⟩:=bK.el (sz:=1) rfl h9 l1
       cases t0
       refine bS rfl (fun _ ⟨_,b4⟩=>bX (t:=0) eZ b4 (s9.mono (zL (zL a0 f3) d0)) rfl rfl) (bS rfl (fun _ _=>cW rfl rfl) (qX rfl (dI (Kt:=K) (xs:=([wr ((wr (k.B * t.N))+f4)]:List Int)) (cs:=[i64 (wr ((wr (k.B * t.N))+f4))]) (vs:=[(0,i64 (wr ((wr (k.B * t.N))+f4)))]) bC vG rfl rfl b4 rfl (by kernel_rfl) rfl rfl rfl ⟨rfl,trivial⟩ ?_)))
       intro t1 t2 (l2:aD G h2 (aM 2 K t1 1 ([wr ((wr (k.B * t.N))+f4)]:List Int)::aM 2 K b9 c0 b2::aM 105 K u x (aZ b a)::rows [2] b a::aM 105 K z J (aZ d c)::rows [2] d c::aM 4 K q r m::L) t2)
       refine bG (aC ⟨⟨_,l2⟩,?_⟩)
       refine qX rfl ?_;obtain ⟨l3,t3,hm⟩:=aB hm
       refine tR (i:=0) bC underlying105 vG rfl rfl l2 rfl (zL (zL a0 f3) d0) (zL (zL a0 f3) d0) t3 rfl rfl rfl rfl (fun _ h=>h) (fun l4 l5 t4 (l6:aD G h2 (aM 2 K l4 l5 l3::aM 105 K u x (aZ b a)::rows [2] b a::aM 105 K z J (aZ d c)::rows [2] d c::aM 4 K q r m::L) t4)=>(bG (aC ⟨⟨_,l6⟩,?_⟩)))
       refine bS rfl (fun _ _=>lD (v:=zS l4 l3.length l5) rfl) (wY ?_)
       have y5:=s7 _ _ l6
       exact aK
      ·exact aK
     obtain ⟨t5,f5,y6,t6,e,h4⟩:=aD.lendD' (i:=4) s2 d9 rfl rfl
     refine rY (C:=fun w'=>aD G t5 (box h0 87 [i64 k.F,i64 k.B,i64 k.To]::aM 2 K b9 c0 b2::aM 105 K u x (aZ b a)::rows [2] b a::aM 4 K q r m::box y 68 o::L) w') Tryz_mixed (by kernel_rfl) (aD.mono e (eP.drew _)) (dB (fun _ e=>bL (v:=zS g0 f9.length g1) rfl) (dB (fun _ e=>bM (t':=0) qK rfl rfl) (dB (fun _ e=>fF eZ e (i:=0) rfl rfl rfl) ?_)));obtain ⟨l7,t7,hm⟩:=aB hm
     refine aLh (vs:=[zS g0 f9.length g1,i64 k.F]) (v:=zB l7) call164 rfl (fun _ e=>(kH t7 e (rd_row (t6 _ _ _ g2 (aKx d3))))) (dB (fun _ e=>bL (v:=zB l7) rfl) ?_)
     rcases aP hm with ⟨a2,hm⟩|⟨a2,hm⟩
     ·refine jZ (g:=40) rfl rfl a2 (dB (fun _ e=>bM (t':=1) aAo rfl rfl) (jZ (g:=40) rfl rfl a2 (dB (fun _ e=>fF eZ e (i:=0) rfl rfl rfl) (jZ (g:=40) rfl rfl a2 (dB (fun _ e=>aAO rfl rfl) (jZ (g:=40) rfl rfl a2 (dB (fun _ e=>bL (v:=zB (k.B != 0)) rfl) ?_)))))))
      rcases aP hm with ⟨l,hm⟩|⟨l,hm⟩
      ·refine jN (g:=44) rfl rfl (aEi l) (jN (g:=44) rfl rfl (aEi l) (jN (g:=44) rfl rfl (aEi l) (jN (g:=44) rfl rfl (aEi l) (jN (g:=44) rfl rfl (aEi l) (jN (g:=44) rfl rfl (aEi l) (jN (g:=44) rfl rfl (aEi l) (jN (g:=44) rfl rfl (aEi l) (jN (g:=44) rfl rfl (aEi l) (jN (g:=44) rfl rfl (aEi l) (jN (g:=44) rfl rfl (aEi l) (jZ (g:=40) rfl rfl a2 (dB (fun _ e=>lE (v:=zB true) l rfl rfl) (dB (fun _ e=>lE (v:=zB true) a2 rfl rfl) (zJ (fun y7 t8=>?_)))))))))))))))
       have y8:=h4 _ _ t8
       exact aK
      ·refine jZ (g:=44) rfl rfl (zM l) (dB (fun _ e=>bL (v:=zS a7 p.length c8) rfl) (jZ (g:=44) rfl rfl (zM l) (dB (fun _ e=>bM (t':=0) qK rfl rfl) (jZ (g:=44) rfl rfl (zM l) (dB (fun _ e=>fF eZ e (i:=0) rfl rfl rfl) (jZ (g:=44) rfl rfl (zM l) ?_))))));obtain ⟨h5,l8,hm⟩:=aB hm
       refine dB (fun _ e=>eC bC rfl (h9.mono (zL a0 f5)) rfl rfl rfl l8) ?_;obtain ⟨y9,t9,u0⟩:=bK.el (sz:=1) rfl h9 l8
       cases u0
       refine jZ (g:=44) rfl rfl (zM l) (dB (fun _ e=>bX (t:=0) eZ e (t9.mono (zL a0 f5)) rfl rfl) (jZ (g:=44) rfl rfl (zM l) (dB (fun _ e=>bL (v:=zS a7 p.length c8) rfl) (jZ (g:=44) rfl rfl (zM l) (dB (fun _ e=>bM (t':=2) qL rfl rfl) (jZ (g:=44) rfl rfl (zM l) (dB (fun _ e=>fF eZ e (i:=0) rfl rfl rfl) (jZ (g:=44) rfl rfl (zM l) ?_))))))));obtain ⟨h7,l9,hm⟩:=aB hm
       refine dB (fun _ e=>eC bC rfl (h9.mono (zL a0 f5)) rfl rfl rfl l9) ?_;obtain ⟨z0,u1,u2⟩:=bK.el (sz:=1) rfl h9 l9
       cases u2
       refine jZ (g:=44) rfl rfl (zM l) (dB (fun _ e=>bX (t:=0) eZ e (u1.mono (zL a0 f5)) rfl rfl) (jZ (g:=44) rfl rfl (zM l) (dB (fun _ e=>aAO rfl rfl) (jZ (g:=40) rfl rfl a2 (dB (fun _ e=>qW (v:=zB (h5 != h7)) l rfl rfl) (dB (fun _ e=>lE (v:=zB (h5 != h7)) a2 rfl rfl) (zJ (fun z1 u3=>?_))))))))
       have u4:=h4 _ _ u3
       exact aC ⟨bZ,h5 != h7,hm,rfl,(aD.arr 6 [2,3,4,5,0,1] u4 rfl)⟩
     ·refine jN (g:=40) rfl rfl (wV a2) (jN (g:=40) rfl rfl (wV a2) (jN (g:=40) rfl rfl (wV a2) (jN (g:=40) rfl rfl (wV a2) (pE (g:=44) rfl rfl (pE (g:=44) rfl rfl (pE (g:=44) rfl rfl (pE (g:=44) rfl rfl (pE (g:=44) rfl rfl (pE (g:=44) rfl rfl (pE (g:=44) rfl rfl (pE (g:=44) rfl rfl (pE (g:=44) rfl rfl (pE (g:=44) rfl rfl (pE (g:=44) rfl rfl (jN (g:=40) rfl rfl (wV a2) (dB (fun _ e=>qW (v:=zB false) a2 rfl rfl) (zJ (fun z2 u5=>?_))))))))))))))))))
      have u6:=h4 _ _ u5
      exact aC ⟨bZ,false,hm,rfl,(aD.arr 6 [2,3,4,5,0,1] u6 rfl)⟩
    ·refine bF g9 rfl (aIC (aAl (aAl ?_)))
     have u7:=hr _ (zI hm).symm
     subst u7
     have hm:(gZ p c6 m a b0 b2)=some e3:=ho
     clear hr ho
     exact aIE (aC ⟨bZ,b2,b9,c0,hm,k6,g8⟩)
  ·refine bF f8 rfl (aIC (aAl (aAl ?_)))
   have u8:=hr _ (zI hm).symm
   subst u8
   have hm:(gY a)=some R:=ho
   clear hr ho
   exact aIE (aC ⟨bZ,a,u,x,b,hm,i9,f7,(aD.arr 6 [0,1] d1 rfl)⟩)
theorem vB {p:(List Int)} {a:aW} {b:Nat} {c:Bool} {d:Nat} {R:(List Int)} (hm:pA p a c=some R) (h:aD G K (L) w) (i:bK K a1 c2 p) (j:gE K a4 b (zC a a7 c8 a10 c11)) (k:bK K a7 c8 a.L) (l:bK K a10 c11 a.E) (m:gE K a13 d [zB c]):
  Calls prog 131 ([zS a1 p.length c2,dC a4 b,dC a13 d]:List Value).toArray w (dV fun v w'=>∃ e g,v=zS e R.length g/\aD G K (aM 2 K e g R::L) w'):=by
 exact aK
theorem aFH {n:Int} {k:aW} {x:Nat} {b0:Bool} {y:Nat} {R:(List (List Int))} (hm:aGB n k b0=some R) (hs:aD G K (L) w) (h3:gE K a1 x (zC k a4 c5 a7 c8)) (h6:bK K a4 c5 k.L) (h9:bK K a7 c8 k.E) (c0:gE K a10 y [zB b0]):
  Calls prog 130 ([i64 n,Value.func (.func 131) #[] #[dC a1 x,dC a10 y]]:List Value).toArray w (dV fun v w'=>∃ b1 b2 a0,v=zS b1 R.length b2/\List.length a0=List.length R/\aD G K (aM 105 K b1 b2 (aZ a0 R)::rows [2] a0 R::L) w'):=by
 refine aO func130 rfl (by kernel_rfl) (by show (2:Nat)<=28;decide) ?_;unfold aGB at hm
 refine aI (aH (v:=zS none 0 0) (aG (aI (aL (v:=i64 n) ?_))));obtain ⟨l,c1,hm⟩:=aB hm
 refine aS (vs:=[i64 n]) call161 rfl (aFG c1 hs) ?_
 rintro _ c2 ⟨m,o,rfl,c3⟩
 have c4:aD G K (rows [2] ([(m,o)]:List (Dp.Hd (List Int))) [l]::L) c2:=aD.rowsOne c3
 refine dI (Kt:=K) (xs:=aZ ([(m,o)]:List (Dp.Hd (List Int))) ([l]:List (List Int))) (cs:=[zS m l.length o]) (vs:=[(0,zS m l.length o)]) mA aAU rfl rfl c4 rfl (by kernel_rfl) rfl rfl rfl ⟨rfl,trivial⟩ ?_
 intro a2 c6 (c7:aD G K (aM 105 K a2 1 (aZ ([(m,o)]:List (Dp.Hd (List Int))) ([l]:List (List Int)))::rows [2] ([(m,o)]:List (Dp.Hd (List Int))) ([l]:List (List Int))::L) c6)
 refine aH (v:=zS a2 ([l]:List (List Int)).length 1) (aG (cB ?_));obtain ⟨f7,c9,ho⟩:=aB hm
 refine cQ [1] c9 (fun d f w=>∃ g h a,f 5=zS g d.length h/\List.length a=List.length d/\aD G K (aM 105 K g h (aZ a d)::rows [2] a d::L) w) ?_ ?_
 ·exact ⟨a2,1,([(m,o)]:List (Dp.Hd (List Int))),rfl,rfl,c7⟩
 ·rintro d f8 f f9 hm hr ⟨g,h,a,z,j,a3⟩
  unfold aCg at hm
  refine cB (aI (aX z (aX z (aF (bE (len:=d.length) mA rfl) (aF (vH rfl rfl) ?_)))));obtain ⟨p,q,hm⟩:=aB hm
  obtain ⟨⟨r,u⟩,J⟩:=aLm j q
  have d0:=dD a3 (i:=0) rfl (sX j q J)
  refine aF (eE mA rfl d0 rfl rfl rfl q) (aF (uR (t:=0) zN a3 (i:=0) rfl (sX j q J) rfl rfl rfl) (aH (v:=zS r p.length u) (aG (aI (aL (v:=Value.func (.func 131) #[] #[dC a1 x,dC a10 y]) (aL (v:=zS r p.length u) ?_))))));obtain ⟨g0,V,g1,d1,d2,d3⟩:=aD.lendD' (i:=0) a3 j rfl rfl
  obtain ⟨e,d4,hm⟩:=aB hm
  refine lG (vs:=[zS r p.length u]) (caps:=[dC a1 x,dC a10 y]) (us:=[zS r p.length u,dC a1 x,dC a10 y]) rfl call131 rfl rfl (vB d4 d2 (rd_row (d1 _ _ _ J (aKx q))) (h3.mono V) (h6.mono V) (h9.mono V) (c0.mono V)) ?_
  rintro _ g2 ⟨b,c,rfl,d5⟩
  have d6:=d3 _ _ d5
  refine aH (v:=zS b e.length c) (aG (aJ (aI (aL (v:=zS r p.length u) (aL (v:=zS b e.length c) ?_)))));obtain ⟨g3,d7,g4,d8,d9,e0⟩:=aD.lendD' (i:=0) d6 j rfl rfl
  obtain ⟨g5,e1,e2,e3,e4⟩:=aD.lendSp d9 d7 .head
  obtain ⟨g6,e5,hm⟩:=aB hm
  refine aS (vs:=[zS r p.length u,zS b e.length c]) call162 rfl (lV e5 e3 ((rd_row (d8 _ _ _ J (aKx q))).mono e1) e2) ?_
  rintro _ b3 ⟨rfl,e6⟩
  have e7:=e4 _ _ e6
  have b4:=e0 _ _ e7
  refine aG ?_
  rcases aP hm with ⟨a5,hm⟩|⟨a5,hm⟩
  ·refine aR a5 rfl (aI (aX z (aH (v:=zS g d.length h) (aG (lC (jU (aAN (jU ?_))))))))
   have e8:=hr _ (zI hm).symm
   subst e8
   have hm:(some d)=some R:=ho
   clear hr ho
   obtain rfl:=zI hm
   exact aAN (nA results130 rfl ⟨g,h,a,rfl,j,(aD.arr 3 [0,1] b4 rfl)⟩)
  ·refine bF a5 rfl (aY (aC (aU (aX z (aL (v:=zS b e.length c) ?_)))))
   have f0:aD G K (aM 2 K b c e::aM 105 K g h (aZ a d)::rows [2] a d::L) b3:=(aD.arr 3 [2,0,1] b4 rfl)
   have f1:aD G K (rows [2] ([(b,c)]:List (Dp.Hd (List Int))) [e]::aM 105 K g h (aZ a d)::rows [2] a d::L) b3:=aD.rowsOne f0
   refine dI (Kt:=K) (xs:=aZ ([(b,c)]:List (Dp.Hd (List Int))) ([e]:List (List Int))) (cs:=[zS b e.length c]) (vs:=[(0,zS b e.length c)]) mA aAU rfl rfl f1 rfl (by kernel_rfl) rfl rfl rfl ⟨rfl,trivial⟩ ?_
   intro f2 f3 (f4:aD G K (aM 105 K f2 1 (aZ ([(b,c)]:List (Dp.Hd (List Int))) ([e]:List (List Int)))::rows [2] ([(b,c)]:List (Dp.Hd (List Int))) ([e]:List (List Int))::aM 105 K g h (aZ a d)::rows [2] a d::L) f3)
   obtain ⟨a6,b5,hm⟩:=aB hm
   refine aIq (i:=0) (tys:=[2]) (hds:=a) (hds2:=([(b,c)]:List (Dp.Hd (List Int)))) mA underlying155 aAU rfl rfl f4 j rfl rfl rfl b5 rfl rfl rfl rfl ?_
   intro a8 a9 f5 (f6:aD G K (aM 105 K a8 a9 (aZ (a++([(b,c)]:List (Dp.Hd (List Int)))) a6)::rows [2] (a++([(b,c)]:List (Dp.Hd (List Int)))) a6::L) f5)
   exact aH (v:=zS a8 a6.length a9) (bG (cU (aC ⟨_,(zI hm).symm,bZ,a8,a9,(a++([(b,c)]:List (Dp.Hd (List Int)))),rfl,(aGi j rfl b5),f6⟩)))
theorem yW {t:aW} {a:Bool} {R:(List Int)} (hm:mH t a=some R) (n:aD G K (L) w) (o:bK K a1 c2 t.L) (p:bK K a4 c5 t.E):
  Calls prog 96 ([zA (zCa t a1 c2 a4 c5),zB a]:List Value).toArray w (dV fun v w'=>∃ b g h,v=zS g R.length h/\Hp.le K b/\bK b g h R/\aD G b (L) w'):=by
 let j:=(zC t a1 c2 a4 c5)
 refine aO func96 rfl (by kernel_rfl) (by show (2:Nat)<=10;decide) ?_;unfold mH at hm
 refine aI (eQ (v:=zA (zCa t a1 c2 a4 c5)) (vs:=j) n rfl rfl (fun c w8 q=>(eQ (v:=zB a) (vs:=[zB a]) q rfl rfl (fun d a9 k=>(aH (v:=zS none 0 0) (aG (aI (aF (bM (t':=0) mL rfl rfl) (aF (fF eZ k (i:=1) rfl rfl rfl) (aF (nB (vs:=[zP (some ⟨c,0,none⟩),zP (some ⟨d,0,none⟩)]) rfl) ?_))))))))));obtain ⟨b0,l,r,u,x⟩:=aD.lendBp k zt1
 obtain ⟨b1,e,y,z,J⟩:=aD.lendBp u .head
 obtain ⟨b2,V,hm⟩:=aB hm
 refine aS (vs:=[i64 t.N,Value.func (.func 131) #[] #[dC (some ⟨c,0,none⟩) 0,dC (some ⟨d,0,none⟩) 0]]) call130 rfl (aFH V z (r.mono e) (o.mono (zL l e)) (p.mono (zL l e)) y) ?_
 rintro _ a0 ⟨b3,b4,b5,rfl,a2,a3⟩
 have a5:=J _ _ a3
 have a6:=x _ _ a5
 obtain ⟨a7,b6,b8,_,m,_⟩:=aD.lendD' (i:=2) a6 a2 rfl rfl
 replace m:aD G a7 (box c 68 j::box d 4 [zB a]::L) a0:=m
 exact aK
theorem aAz {t:aW} {x:Bool} {R:aW} (hm:iW t x=some R) (hs:aD G K (L) w) (h3:bK K a1 c2 t.L) (h6:bK K a4 c5 t.E):
  Calls prog 75 ([zA (zCa t a1 c2 a4 c5),zB x]:List Value).toArray w (dV fun v w'=>∃ d5 d6 d7 d8,v=zA (zCa R d5 d6 d7 d8)/\aD G K (aM 9 K d5 d6 R.L::aM 87 K d7 d8 R.E::L) w'):=by
 let k:=zG
 let y:=(zC t a1 c2 a4 c5)
 let d9:=[zA (zCa t a1 c2 a4 c5)]
 refine aO func75 rfl (by kernel_rfl) (by show (2:Nat)<=16;decide) ?_;unfold iW at hm
 refine aI (eQ (v:=zA (zCa t a1 c2 a4 c5)) (vs:=y) hs rfl rfl (fun b7 w8 g4=>(bH (vs:=k) zeroValue68 g4 rfl (fun r l1 g5=>(aG (aJ (bO [1,4] (fun f w=>∃ l m h e a5 p q n o,jH x l m h e=some R/\f 5=zP (some ⟨a5,0,none⟩)/\aD G K (aM 87 K n o e::aM 9 K p q h::box a5 68 [i64 l,i64 m,zS p h.length q,zS n e.length o]::box r 68 k::L) w) ?_ ?_)))))))
 ·rintro f c9 ⟨l,m,h,e,a5,p,q,n,o,hm,e0,g6⟩
  unfold jH at hm
  refine aC (aJ ?_);obtain ⟨g7,e1,e2,d0⟩:=aD.giveSp g6 (zR _) zt1
  replace d0:aD G g7 (aM 87 K n o e::box a5 68 [i64 l,i64 m,zS p h.length q,zS n e.length o]::box r 68 k::L) c9:=d0
  obtain ⟨g8,d1,e3,d2⟩:=aD.giveSp d0 e1 .head
  replace d2:aD G g8 (box a5 68 [i64 l,i64 m,zS p h.length q,zS n e.length o]::box r 68 k::L) c9:=d2
  obtain ⟨e4,a6,e5,a9,_⟩:=aD.lendBp d2 .head
  replace a9:aD G e4 (box r 68 k::L) c9:=a9
  refine fO (C:=fun w'=>∃ L',aD G e4 L' w') [(0,0),(1,0),(2,0),(4,0),(3,1),(5,1),(6,2)] Tryz_mixed (by kernel_rfl) (fun _ hg=>⟨_,aD.mono a9 hg⟩) (fun l2 g9=>?_)
  have a7:=aD.mono a9 g9
  refine bS rfl (fun _ ⟨_,a7⟩=>gQ (t:=0) (vs:=[i64 l,i64 m,zS p h.length q,zS n e.length o]) vK a7 e5 (elp_b e0) rfl rfl) (bS rfl (fun _ ⟨_,a7⟩=>gQ (t:=0) (vs:=[i64 l,i64 m,zS p h.length q,zS n e.length o]) vK a7 e5 (elp_b e0) rfl rfl) (bS rfl (fun _ _=>bL (v:=zB x) rfl) (bS rfl (fun _ _=>bL (v:=zB x) rfl) (qX rfl ?_))));obtain ⟨h0,h1,hm⟩:=aB hm
  refine aS (vs:=[zA #[i64 l,i64 m,zS p h.length q,zS n e.length o],zB x]) call96 rfl (yW (t:=⟨l,m,h,e⟩) h1 a7 (e2.mono (zL d1 a6)) (e3.mono a6)) ?_
  rintro _ l3 ⟨h2,h4,h5,rfl,a8,h7,e6⟩
  refine bG (aC ⟨⟨_,(aD.weakK e6 a8)⟩,?_⟩)
  refine qX rfl ?_;obtain ⟨a,h8,hm⟩:=aB hm
  refine aS (vs:=[zA #[i64 l,i64 m,zS p h.length q,zS n e.length o],zS h4 h0.length h5,zB x]) call95 rfl (pO (t:=⟨l,m,h,e⟩) h8 e6 (e2.mono (zL (zL d1 a6) a8)) (e3.mono (zL a6 a8)) h7) ?_
  rintro _ l4 ⟨z,J,V,a0,rfl,e7⟩
  refine bG (aC ⟨⟨_,(aD.weakK e7 a8)⟩,?_⟩)
  refine WE_s rfl (cF (i:=2) (ns:=(zC a z J V a0)) (us:=(zC a z J V a0)) sizeOf68 e7 rfl rfl rfl rfl rfl (eD rfl) rfl rfl (fun h9 (e8:aD G h2 (aM 9 K z J a.L::aM 87 K V a0 a.E::box r 68 (zC a z J V a0)::L) h9)=>(aG (wY (aC ?_)))));obtain rfl:=zI hm
  exact lC (aIn results75 (vI (vs:=(zC a z J V a0)) rfl vK e8 (i:=2) rfl rfl rfl) ⟨z,J,V,a0,rfl,(aD.weakK (aD.arr 3 [0,1] e8 rfl) (zL (zL (zL e1 d1) a6) a8))⟩)
 obtain ⟨i1,g,e9,i2,d3⟩:=aD.lendBp g5 zt1
 refine aGV (C:=fun w'=>∃ L',aD G i1 L' w') [5] Tryz_mixed (by kernel_rfl) (fun l5 i3=>?_)
 have u:=aD.mono i2 i3
 refine aAR (i:=0) rfl (by kernel_rfl) ⟨_,u⟩ (fun _ ⟨_,u⟩=>gQ (t:=0) (vs:=y) vK u e9 rfl rfl rfl) (aAR (i:=1) rfl (by kernel_rfl) ⟨_,u⟩ (fun _ ⟨_,u⟩=>gQ (t:=0) (vs:=y) vK u e9 rfl rfl rfl) (aET (i:=2) (j:=4) (by kernel_rfl) rfl rfl ?_ ?_))
 ·obtain ⟨b0,i4,hm⟩:=aB hm
  refine aS (vs:=d9) call94 rfl (rQ i4 u (h3.mono g) (h6.mono g)) ?_
  rintro _ l6 ⟨b1,b2,rfl,d4⟩
  refine bG (aC ⟨fun _=>⟨_,d4⟩,?_⟩)
  refine aET (i:=3) (j:=4) (by kernel_rfl) rfl rfl ?_ ?_
  ·obtain ⟨l7,f0,i5,i6,i7⟩:=aD.lendSp d4 g .head
   obtain ⟨b,i8,hm⟩:=aB hm
   refine aS (vs:=[zA (zCa t a1 c2 a4 c5),zS b1 b0.length b2]) call93 rfl (uD i8 i6 (h3.mono (zL g f0)) (h6.mono (zL g f0)) i5) ?_
   rintro _ l8 ⟨b3,b4,b5,b6,rfl,i9⟩
   have f1:=i7 _ _ i9
   refine bG (aC ⟨fun _=>⟨_,f1⟩,?_⟩)
   refine jV (i:=4) (by kernel_rfl) rfl (bH (vs:=k) zeroValue68 f1 rfl (fun j0 l9 f2=>(bG (aC ⟨fun _=>⟨_,f2⟩,?_⟩))))
   refine jV (i:=5) (by kernel_rfl) rfl ?_
   have j1:=d3 _ _ f2
   refine cF (i:=1) (ns:=(zC b b3 b4 b5 b6)) (us:=(zC b b3 b4 b5 b6)) sizeOf68 j1 rfl rfl rfl rfl rfl (eD rfl) rfl rfl (fun j2 (m0:aD G K (box b7 68 y::box j0 68 (zC b b3 b4 b5 b6)::aM 2 K b1 b2 b0::aM 9 K b3 b4 b.L::aM 87 K b5 b6 b.E::box r 68 k::L) j2)=>(bG (aC ⟨no_c rfl,?_⟩)))
   exact aAn (by kernel_rfl) aK
  ·refine bH (vs:=k) zeroValue68 d4 rfl (fun j3 m1 f3=>(bG (aC ⟨fun _=>⟨_,f3⟩,?_⟩)))
   refine jV (i:=3) (by kernel_rfl) rfl ?_;obtain ⟨m2,f4,j4,j5,j6⟩:=aD.lendSp f3 g zt1
   obtain ⟨c,j7,hm⟩:=aB hm
   refine aS (vs:=[zA (zCa t a1 c2 a4 c5),zS b1 b0.length b2]) call93 rfl (uD j7 j5 (h3.mono (zL g f4)) (h6.mono (zL g f4)) j4) ?_
   rintro _ m3 ⟨b8,b9,c0,c1,rfl,j8⟩
   have f5:=j6 _ _ j8
   refine bG (aC ⟨fun _=>⟨_,f5⟩,?_⟩)
   refine jV (i:=5) (by kernel_rfl) rfl ?_
   have j9:=d3 _ _ f5
   refine cF (i:=4) (ns:=(zC c b8 b9 c0 c1)) (us:=(zC c b8 b9 c0 c1)) sizeOf68 j9 rfl rfl rfl rfl rfl (eD rfl) rfl rfl (fun k0 (m4:aD G K (box b7 68 y::aM 2 K b1 b2 b0::aM 9 K b8 b9 c.L::aM 87 K c0 c1 c.E::box j3 68 (zC c b8 b9 c0 c1)::box r 68 k::L) k0)=>(bG (aC ⟨no_c rfl,?_⟩)))
   exact aAn (by kernel_rfl) aK
 ·refine bH (vs:=k) zeroValue68 u rfl (fun k1 m5 f6=>(bG (aC ⟨fun _=>⟨_,f6⟩,?_⟩)))
  refine jV (i:=2) (by kernel_rfl) rfl ?_;obtain ⟨f7,k2,hm⟩:=aB hm
  refine aS (vs:=d9) call94 rfl (rQ k2 f6 (h3.mono g) (h6.mono g)) ?_
  rintro _ m6 ⟨f8,f9,rfl,g0⟩
  refine bG (aC ⟨fun _=>⟨_,g0⟩,?_⟩)
  refine jV (i:=3) (by kernel_rfl) rfl ?_;obtain ⟨m7,g1,k3,k4,k5⟩:=aD.lendSp g0 g .head
  obtain ⟨d,k6,hm⟩:=aB hm
  refine aS (vs:=[zA (zCa t a1 c2 a4 c5),zS f8 f7.length f9]) call93 rfl (uD k6 k4 (h3.mono (zL g g1)) (h6.mono (zL g g1)) k3) ?_
  rintro _ m8 ⟨c3,c4,c6,c7,rfl,k7⟩
  have g2:=k5 _ _ k7
  refine bG (aC ⟨fun _=>⟨_,g2⟩,?_⟩)
  refine jV (i:=5) (by kernel_rfl) rfl ?_
  have k8:=d3 _ _ g2
  refine cF (i:=4) (ns:=(zC d c3 c4 c6 c7)) (us:=(zC d c3 c4 c6 c7)) sizeOf68 k8 rfl rfl rfl rfl rfl (eD rfl) rfl rfl (fun k9 (m9:aD G K (box b7 68 y::aM 2 K f8 f9 f7::aM 9 K c3 c4 d.L::aM 87 K c6 c7 d.E::box k1 68 (zC d c3 c4 c6 c7)::box r 68 k::L) k9)=>(bG (aC ⟨no_c rfl,?_⟩)))
  exact aAn (by kernel_rfl) aK
end Gv
namespace Gv
open Gv.Hp renaming le_refl→zR
open Go.Value renaming slice→zS,bool→zB,agg→zA
open Option.some renaming inj→zI
open Go Go.Proofs Go.Proofs.Tryz
set_option maxRecDepth 20000
set_option maxHeartbeats 40000000
variable {G:vF} {K:Hp} {L:List gC} {w:World} {a1 a4 a7 a10 a13 a16 a19 a22 a5 a9:Option Addr} {c2 c5 c8 c11 c14 c17 c20 c23 c6 c10:Nat}
theorem aFU {t:aW} {kind:Int} {R:aW} (hm:qD t kind=some R) (e:aD G K (L) w) (g:bK K a1 c2 t.L) (h:bK K a4 c5 t.E):
  Calls prog 50 ([zA (zCa t a1 c2 a4 c5),i64 kind]:List Value).toArray w (dV fun v w'=>∃ a b c d,v=zA (zCa R a b c d)/\aD G K (aM 9 K a b R.L::aM 87 K c d R.E::L) w'):=by
 exact aK
theorem nN {t:aW} {p:Int} {a:Nat} {R:aW} (hm:lT t p=some R) (g:aD G K (L) w) (h:bK K a1 c2 t.L) (i:bK K a4 c5 t.E) (j:gE K a7 a [i64 p]):
  Calls prog 49 ([zA (zCa t a1 c2 a4 c5),dC a7 a]:List Value).toArray w (dV fun v w'=>∃ b c d e,v=zA (zCa R b c d e)/\aD G K (aM 9 K b c R.L::aM 87 K d e R.E::L) w'):=by
 exact aK
theorem vC {n:bB} {b1:Int} {J:Nat} {R:bB} (hm:pB n b1=some R) (hs:aD G K (L) w) (h3:bK K a1 c2 n.Parts) (h6:bK K a4 c5 n.Meetings) (h9:bK K a7 c8 n.Allowed) (f7:bK K a10 c11 n.Hidden) (d4:gE K a13 J [i64 b1]):
  Calls prog 48 ([zA #[zS a1 n.Parts.length c2,zS a4 n.Meetings.length c5,zS a7 n.Allowed.length c8,zS a10 n.Hidden.length c11],Value.func (.func 49) #[] #[dC a13 J]]:List Value).toArray w (dV fun v w'=>∃ b3 b4 a2 b5 b6 b7 b8 b9 c0,v=zA #[zS b3 R.Parts.length b4,zS b5 R.Meetings.length b6,zS b7 R.Allowed.length b8,zS b9 R.Hidden.length c0]/\List.length a2=List.length R.Parts/\aD G K (aM 68 K b3 b4 (aZ a2 R.Parts)::rows [9,87] a2 R.Parts::aM 73 K b5 b6 R.Meetings::aM 9 K b7 b8 R.Allowed::aM 9 K b9 c0 R.Hidden::L) w'):=by
 let p:=[zS a1 n.Parts.length c2,zS a4 n.Meetings.length c5,zS a7 n.Allowed.length c8,zS a10 n.Hidden.length c11]
 let q:=[zS none 0 0,zS none 0 0,zS none 0 0,zS none 0 0]
 refine aO func48 rfl (by kernel_rfl) (by show (2:Nat)<=25;decide) ?_;unfold pB at hm
 refine aI (eQ (v:=zA #[zS a1 n.Parts.length c2,zS a4 n.Meetings.length c5,zS a7 n.Allowed.length c8,zS a10 n.Hidden.length c11]) (vs:=p) hs rfl rfl (fun r f8 d5=>(bH (vs:=q) zeroValue31 d5 rfl (fun u d6 c1=>(aG (aI (aH (v:=zS none 0 0) (aG (aJ (aI (aF (bM (t':=0) vJ rfl rfl) (aF (fF aGm c1 (i:=1) rfl rfl rfl) (aF (bE (len:=n.Parts.length) qM rfl) (aL (v:=i64 0) (aG (aQ [2,4] (fun f w=>∃ V c3 c4 a3,qH n V=some R/\f 5=zS c3 V.length c4/\List.length a3=List.length V/\aD G K (aM 68 K c3 c4 (aZ a3 V)::rows [9,87] a3 V::box u 31 q::box r 31 p::L) w) aK ?_))))))))))))))))
 have d7:aD G K (aM 68 K none 0 (aZ ([]:List (Dp.Hd aW)) ([]:List aW))::rows [9,87] ([]:List (Dp.Hd aW)) ([]:List aW)::box u 31 q::box r 31 p::L) d6:=aD.nil (α:=Cells _) (aD.rowsNil (α:=aW) (tys:=[9,87]) c1) 68 K
 obtain ⟨f9,d8,ho⟩:=aB hm
 refine bN [1,2,4,9,10] d8 (fun d a5 f w=>∃ y z b,f 5=zS y d.length z/\f 11=i64 a5/\List.length b=List.length d/\aD G K (aM 68 K y z (aZ b d)::rows [9,87] b d::box u 31 q::box r 31 p::L) w) ?_ ?_
 ·exact ⟨none,0,[],rfl,rfl,rfl,d7⟩
 ·rintro d a5 g0 f g1 hm hr ⟨y,z,b,d9,a6,c6,c7⟩
  unfold eO at hm
  refine aI (aF (cE a6 rfl) (aG (aJ ?_)))
  rcases aP hm with ⟨c9,hm⟩|⟨c9,hm⟩
  ·refine aR c9 rfl (aY (aC (aJ (cB (aI ?_)))));obtain ⟨a,d0,hm⟩:=aB hm
   refine aF (eC qM rfl h3 rfl rfl a6 d0) ?_;obtain ⟨g2,e0,e1⟩:=bK.el (sz:=4) rfl h3 d0
   obtain ⟨k,l,m,o,rfl,e2,e3⟩:=e1
   refine aF (gQ (t:=0) (vs:=(zC a k l m o)) vK c7 e0 rfl rfl rfl) (bH (vs:=zG) zeroValue68 c7 rfl (fun a0 g3 e4=>(cF (i:=0) (ns:=(zC a k l m o)) (us:=(zC a k l m o)) sizeOf68 e4 rfl rfl rfl rfl rfl (eD rfl) rfl rfl (fun e5 (d1:aD G K (box a0 68 (zC a k l m o)::aM 68 K y z (aZ b d)::rows [9,87] b d::box u 31 q::box r 31 p::L) e5)=>(aG (aU (aX d9 (aL (v:=Value.func (.func 49) #[] #[dC a13 J]) (aF (gH (us:=(zC a k l m o)) vK d1 (i:=0) rfl rfl rfl rfl) ?_)))))))))
   obtain ⟨c,e6,hm⟩:=aB hm
   refine lG (vs:=[zA (zCa a k l m o)]) (caps:=[dC a13 J]) (us:=[zA (zCa a k l m o),dC a13 J]) rfl call49 rfl rfl (nN e6 d1 e2 e3 d4) ?_
   rintro _ e7 ⟨e,g,h,j,rfl,e8⟩
   have e9:aD G K (rows [9,87] ([((e,g),(h,j))]:List (Dp.Hd aW)) ([c]:List aW)::box a0 68 (zC a k l m o)::aM 68 K y z (aZ b d)::rows [9,87] b d::box u 31 q::box r 31 p::L) e7:=aD.rowsOneS (tys:=[9,87]) (hd:=(((e,g),(h,j)):Dp.Hd aW)) (x:=(c:aW)) e8
   refine dI (Kt:=K) (xs:=aZ ([((e,g),(h,j))]:List (Dp.Hd aW)) ([c]:List aW)) (cs:=(zC c e g h j)) (vs:=[(0,zA (zCa c e g h j))]) qM aIQ rfl rfl e9 rfl (by kernel_rfl) rfl rfl rfl ⟨rfl,trivial⟩ ?_
   intro f0 f1 (f2:aD G K (aM 68 K f0 1 (aZ ([((e,g),(h,j))]:List (Dp.Hd aW)) ([c]:List aW))::rows [9,87] ([((e,g),(h,j))]:List (Dp.Hd aW)) ([c]:List aW)::box a0 68 (zC a k l m o)::aM 68 K y z (aZ b d)::rows [9,87] b d::box u 31 q::box r 31 p::L) f1)
   obtain ⟨a8,d2,hm⟩:=aB hm
   refine aIq (i:=1) (tys:=[9,87]) (hds:=b) (hds2:=([((e,g),(h,j))]:List (Dp.Hd aW))) qM underlying28 aIQ rfl rfl f2 c6 rfl rfl rfl d2 rfl rfl rfl rfl ?_
   intro a9 b0 f3 (f4:aD G K (aM 68 K a9 b0 (aZ (b++([((e,g),(h,j))]:List (Dp.Hd aW))) a8)::rows [9,87] (b++([((e,g),(h,j))]:List (Dp.Hd aW))) a8::box a0 68 (zC a k l m o)::box u 31 q::box r 31 p::L) f3)
   exact aH (v:=zS a9 a8.length b0) (bG (cU (aC (aU (aF (cW a6 rfl) (aL (v:=i64 (wr (a5+1))) (aG ⟨_,(zI hm).symm,bZ,a9,b0,(b++([((e,g),(h,j))]:List (Dp.Hd aW))),rfl,rfl,(aGi c6 rfl d2),(aD.arr 3 [0,1] f4 rfl)⟩)))))))
  ·exact aK
theorem zW {n:bB} {kind:Int} {R:bB} (hm:iL n kind=some R) (q:aD G K (L) w) (r:bK K a1 c2 n.Parts) (t:bK K a4 c5 n.Meetings) (u:bK K a7 c8 n.Allowed) (x:bK K a10 c11 n.Hidden):
  Calls prog 22 ([zA #[zS a1 n.Parts.length c2,zS a4 n.Meetings.length c5,zS a7 n.Allowed.length c8,zS a10 n.Hidden.length c11],i64 kind]:List Value).toArray w (dV fun v w'=>∃ c d b e g h j k l,v=zA #[zS c R.Parts.length d,zS e R.Meetings.length g,zS h R.Allowed.length j,zS k R.Hidden.length l]/\List.length b=List.length R.Parts/\aD G K (aM 68 K c d (aZ b R.Parts)::rows [9,87] b R.Parts::aM 73 K e g R.Meetings::aM 9 K h j R.Allowed::aM 9 K k l R.Hidden::L) w'):=by
 let m:=[zS a1 n.Parts.length c2,zS a4 n.Meetings.length c5,zS a7 n.Allowed.length c8,zS a10 n.Hidden.length c11]
 refine aO func22 rfl (by kernel_rfl) (by show (2:Nat)<=8;decide) ?_;unfold iL at hm
 refine aI (eQ (v:=zA #[zS a1 n.Parts.length c2,zS a4 n.Meetings.length c5,zS a7 n.Allowed.length c8,zS a10 n.Hidden.length c11]) (vs:=m) q rfl rfl (fun a2 a3 y=>(eQ (v:=i64 kind) (vs:=[i64 kind]) y rfl rfl (fun o a5 z=>(bH (vs:=[zS none 0 0,zS none 0 0,zS none 0 0,zS none 0 0]) zeroValue31 z rfl (fun a6 a8 p=>(aG (aI (aF (gH (us:=m) qN p (i:=2) rfl rfl rfl rfl) (aF (nB (vs:=[Value.pointer (some ⟨o,0,none⟩)]) rfl) ?_))))))))))
 obtain ⟨a9,a,J,V,b0⟩:=aD.lendBp p zt1
 obtain ⟨b1,a0,hm⟩:=aB hm
 exact aS (vs:=[zA #[zS a1 n.Parts.length c2,zS a4 n.Meetings.length c5,zS a7 n.Allowed.length c8,zS a10 n.Hidden.length c11],Value.func (.func 49) #[] #[dC (some ⟨o,0,none⟩) 0]]) call48 rfl (vC a0 V (r.mono a) (t.mono a) (u.mono a) (x.mono a) J) aK
theorem rT {n:bB} {kind:Int} {R:(bB × Int)} (hm:mI n kind=some R) (hs:aD G K (L) w) (hG:G.lo=0) (h3:bK K a1 c2 n.Parts) (h6:bK K a4 c5 n.Meetings) (h9:bK K a7 c8 n.Allowed) (a8:bK K a10 c11 n.Hidden):
  Calls prog 7 ([zA #[zS a1 n.Parts.length c2,zS a4 n.Meetings.length c5,zS a7 n.Allowed.length c8,zS a10 n.Hidden.length c11],i64 kind]:List Value).toArray w (dV fun v w'=>∃ h j e k l m o p q,v=Value.tuple #[zA #[zS h R.1.Parts.length j,zS k R.1.Meetings.length l,zS m R.1.Allowed.length o,zS p R.1.Hidden.length q],i64 R.2]/\List.length e=List.length R.1.Parts/\aD G K (aM 68 K h j (aZ e R.1.Parts)::rows [9,87] e R.1.Parts::aM 73 K k l R.1.Meetings::aM 9 K m o R.1.Allowed::aM 9 K p q R.1.Hidden::L) w'):=by
 let a:=[zS none 0 0,zS none 0 0,zS none 0 0,zS none 0 0]
 let b:=[zS a1 n.Parts.length c2,zS a4 n.Meetings.length c5,zS a7 n.Allowed.length c8,zS a10 n.Hidden.length c11]
 let r:=aM 68 K none 0 (aZ ([]:List (Dp.Hd aW)) ([]:List aW))
 refine aO func7 rfl (by kernel_rfl) (by show (2:Nat)<=19;decide) ?_;unfold mI at hm
 refine aI (eQ (v:=zA #[zS a1 n.Parts.length c2,zS a4 n.Meetings.length c5,zS a7 n.Allowed.length c8,zS a10 n.Hidden.length c11]) (vs:=b) hs rfl rfl (fun c c7 a9=>(bH (vs:=a) zeroValue31 a9 rfl (fun d c9 t=>(aH (v:=i64 0) (aG (aJ (cB (aI (aF (gH (us:=b) qN t (i:=1) rfl rfl rfl rfl) ?_))))))))));obtain ⟨b0,b1,hm⟩:=aB hm
 refine aS (vs:=[zA #[zS a1 n.Parts.length c2,zS a4 n.Meetings.length c5,zS a7 n.Allowed.length c8,zS a10 n.Hidden.length c11]]) call20 rfl (aAe b1 t hG h3 h6 h9 a8) ?_
 rintro _ d0 ⟨rfl,u⟩
 refine aF (zY rfl) (aH (v:=zB (!b0)) (aG ?_))
 rcases aP hm with ⟨g,hm⟩|⟨g,hm⟩
 ·refine aR g rfl (aI (aF (kT (vs:=[]) (cs:=a) aKD rfl (by kernel_rfl)) (cF (i:=0) (ns:=a) (us:=a) sizeOf31 u rfl rfl rfl rfl rfl (eD rfl) rfl rfl (fun x (b2:aD G K (box d 31 a::box c 31 b::L) x)=>(aH (v:=i64 1) (aG ?_))))))
  have b3:aD G K (r::rows [9,87] ([]:List (Dp.Hd aW)) ([]:List aW)::box d 31 a::box c 31 b::L) x:=aD.nil (α:=Cells _) (aD.rowsNil (α:=aW) (tys:=[9,87]) b2) 68 K
  have b4:=aD.nil (α:=aT) b3 73 K
  have b5:=aD.nil (α:=aV) b4 9 K
  have y:=aD.nil (α:=aV) b5 9 K
  obtain rfl:=zI hm
  exact lC (aAN (jU (aER results7 (vI (vs:=a) rfl qN y (i:=5) rfl rfl rfl) (aGT rfl rfl) ⟨none,0,([]:List (Dp.Hd aW)),none,0,none,0,none,0,rfl,rfl,(aD.arr 7 [3,4,2,1,0] y rfl)⟩)))
 ·refine bF g rfl (aI (aL (v:=i64 kind) ?_));obtain ⟨b7,b8,hm⟩:=aB hm
  refine aS (vs:=[i64 kind]) call21 rfl (aBA b8 u) ?_
  rintro _ d1 ⟨rfl,b9⟩
  refine aF (zY rfl) (aH (v:=zB (!b7)) (aG ?_))
  rcases aP hm with ⟨z,hm⟩|⟨z,hm⟩
  ·refine aR z rfl (aI (aF (kT (vs:=[]) (cs:=a) aKD rfl (by kernel_rfl)) (cF (i:=0) (ns:=a) (us:=a) sizeOf31 b9 rfl rfl rfl rfl rfl (eD rfl) rfl rfl (fun J (c0:aD G K (box d 31 a::box c 31 b::L) J)=>(aH (v:=i64 2) (aG ?_))))))
   have c1:aD G K (r::rows [9,87] ([]:List (Dp.Hd aW)) ([]:List aW)::box d 31 a::box c 31 b::L) J:=aD.nil (α:=Cells _) (aD.rowsNil (α:=aW) (tys:=[9,87]) c0) 68 K
   have c3:=aD.nil (α:=aT) c1 73 K
   have c4:=aD.nil (α:=aV) c3 9 K
   have V:=aD.nil (α:=aV) c4 9 K
   obtain rfl:=zI hm
   exact lC (aAN (jU (aER results7 (vI (vs:=a) rfl qN V (i:=5) rfl rfl rfl) (aGT rfl rfl) ⟨none,0,([]:List (Dp.Hd aW)),none,0,none,0,none,0,rfl,rfl,(aD.arr 7 [3,4,2,1,0] V rfl)⟩)))
  ·exact aK
theorem aHl {a b:(List aV)} {R:Bool} (hm:rJ a b=some R) (g:aD G K (L) w) (h:bK K a1 c2 a) (i:bK K a4 c5 b):
  Calls prog 25 ([zS a1 a.length c2,zS a4 b.length c5]:List Value).toArray w (dV fun v w'=>v=zB R/\aD G K (L) w'):=by
 refine aO func25 rfl (by kernel_rfl) (by show (2:Nat)<=26;decide) ?_;unfold rJ at hm
 refine aI (aH (v:=zB false) (aG (aJ (aI (aL (v:=zS a1 a.length c2) (aF (bE (len:=a.length) gL rfl) (aL (v:=zS a4 b.length c5) (aF (bE (len:=b.length) gL rfl) (aF (aAO rfl rfl) (aG ?_))))))))))
 rcases aP hm with ⟨c,hm⟩|⟨c,hm⟩
 ·exact aK
 ·refine bF c rfl (aY (aC (aJ (aI (aH (v:=i64 0) (aG (aQ [] (fun f w=>aED=some R/\aD G K (L) w) aK ?_)))))));obtain ⟨j,d,ho⟩:=aB hm
  exact cQ [0,1] d (fun e f w=>f 5=i64 e/\aD G K (L) w) aK aK
theorem aKa {a b:Edge} {R:Bool} (hm:aGC a b=some R) (c:aD G K (L) w):
  Calls prog 97 ([zA #[i64 a.F,i64 a.B,i64 a.To],zA #[i64 b.F,i64 b.B,i64 b.To]]:List Value).toArray w (dV fun v w'=>v=zB R/\aD G K (L) w'):=by
 exact aK
theorem aJf {a b:(List Edge)} {R:Bool} (hm:aCQ a b=some R) (g:aD G K (L) w) (h:bK K a1 c2 a) (i:bK K a4 c5 b):
  Calls prog 76 ([zS a1 a.length c2,zS a4 b.length c5]:List Value).toArray w (dV fun v w'=>v=zB R/\aD G K (L) w'):=by
 refine aO func76 rfl (by kernel_rfl) (by show (2:Nat)<=27;decide) ?_;unfold aCQ at hm
 refine aI (aH (v:=zB false) (aG (aJ (aI (aL (v:=zS a1 a.length c2) (aF (bE (len:=a.length) cO rfl) (aL (v:=zS a4 b.length c5) (aF (bE (len:=b.length) cO rfl) (aF (aAO rfl rfl) (aG ?_))))))))))
 rcases aP hm with ⟨c,hm⟩|⟨c,hm⟩
 ·exact aK
 ·refine bF c rfl (aY (aC (aJ (aI (aH (v:=i64 0) (aG (aQ [] (fun f w=>aGD=some R/\aD G K (L) w) aK ?_)))))));obtain ⟨j,d,ho⟩:=aB hm
  exact cQ [0,1] d (fun e f w=>f 5=i64 e/\aD G K (L) w) aK aK
theorem aLy {a b:aW} {R:Bool} (hm:aIw a b=some R) (c:aD G K (L) w) (d:bK K a1 c2 a.L) (e:bK K a4 c5 a.E) (g:bK K a7 c8 b.L) (h:bK K a10 c11 b.E):
  Calls prog 51 ([zA (zCa a a1 c2 a4 c5),zA (zCa b a7 c8 a10 c11)]:List Value).toArray w (dV fun v w'=>v=zB R/\aD G K (L) w'):=by
 exact aK
theorem aKb {a b:(List aW)} {R:Bool} (hm:aEE a b=some R) (g:aD G K (L) w) (h:bK K a1 c2 a) (i:bK K a4 c5 b):
  Calls prog 23 ([zS a1 a.length c2,zS a4 b.length c5]:List Value).toArray w (dV fun v w'=>v=zB R/\aD G K (L) w'):=by
 refine aO func23 rfl (by kernel_rfl) (by show (2:Nat)<=27;decide) ?_;unfold aEE at hm
 refine aI (aH (v:=zB false) (aG (aJ (aI (aL (v:=zS a1 a.length c2) (aF (bE (len:=a.length) qM rfl) (aL (v:=zS a4 b.length c5) (aF (bE (len:=b.length) qM rfl) (aF (aAO rfl rfl) (aG ?_))))))))))
 rcases aP hm with ⟨c,hm⟩|⟨c,hm⟩
 ·exact aK
 ·refine bF c rfl (aY (aC (aJ (aI (aH (v:=i64 0) (aG (aQ [] (fun f w=>aHG=some R/\aD G K (L) w) aK ?_)))))));obtain ⟨j,d,ho⟩:=aB hm
  exact cQ [0,1] d (fun e f w=>f 5=i64 e/\aD G K (L) w) aK aK
theorem aHm {a b:aT} {R:Bool} (hm:aCi a b=some R) (c:aD G K (L) w):
  Calls prog 52 ([zA #[str a.Left,str a.Right,str a.Result],zA #[str b.Left,str b.Right,str b.Result]]:List Value).toArray w (dV fun v w'=>v=zB R/\aD G K (L) w'):=by
 exact aK
theorem aGJ {a b:(List aT)} {R:Bool} (hm:wM a b=some R) (g:aD G K (L) w) (h:bK K a1 c2 a) (i:bK K a4 c5 b):
  Calls prog 24 ([zS a1 a.length c2,zS a4 b.length c5]:List Value).toArray w (dV fun v w'=>v=zB R/\aD G K (L) w'):=by
 refine aO func24 rfl (by kernel_rfl) (by show (2:Nat)<=27;decide) ?_;unfold wM at hm
 refine aI (aH (v:=zB false) (aG (aJ (aI (aL (v:=zS a1 a.length c2) (aF (bE (len:=a.length) sV rfl) (aL (v:=zS a4 b.length c5) (aF (bE (len:=b.length) sV rfl) (aF (aAO rfl rfl) (aG ?_))))))))))
 rcases aP hm with ⟨c,hm⟩|⟨c,hm⟩
 ·exact aK
 ·refine bF c rfl (aY (aC (aJ (aI (aH (v:=i64 0) (aG (aQ [] (fun f w=>aDQ=some R/\aD G K (L) w) aK ?_)))))));obtain ⟨j,d,ho⟩:=aB hm
  exact cQ [0,1] d (fun e f w=>f 5=i64 e/\aD G K (L) w) aK aK
theorem oI {a b:bB} {R:Bool} (hm:rK a b=some R) (c:aD G K (L) w) (d:bK K a1 c2 a.Parts) (e:bK K a4 c5 a.Meetings) (g:bK K a7 c8 a.Allowed) (h:bK K a10 c11 a.Hidden) (i:bK K a13 c14 b.Parts) (j:bK K a16 c17 b.Meetings) (k:bK K a19 c20 b.Allowed) (l:bK K a22 c23 b.Hidden):
  Calls prog 8 ([zA #[zS a1 a.Parts.length c2,zS a4 a.Meetings.length c5,zS a7 a.Allowed.length c8,zS a10 a.Hidden.length c11],zA #[zS a13 b.Parts.length c14,zS a16 b.Meetings.length c17,zS a19 b.Allowed.length c20,zS a22 b.Hidden.length c23]]:List Value).toArray w (dV fun v w'=>v=zB R/\aD G K (L) w'):=by
 exact aK
theorem pP {k:Int} {R:aV} (hm:iX k=some R) (y:aD G K (L) w):
  Calls prog 54 ([i64 k]:List Value).toArray w (dV fun v w'=>v=str R/\aD G K (L) w'):=by
 refine aO func54 rfl (by kernel_rfl) (by show (1:Nat)<=20;decide) ?_;unfold iX at hm
 refine aI (aH (v:=str ([]:aV)) (aG (aJ (aI (aL (v:=i64 k) (aF (R_leq rfl rfl) (aG ?_)))))))
 rcases aP hm with ⟨c,hm⟩|⟨c,hm⟩
 ·exact aK
 ·refine bF c rfl (aY (aC (aI (aH (v:=str ([]:aV)) (aG (aJ (aQ [] (fun f w=>∃ d,aCz d=some R/\f 3=str d/\aD G K (L) w) aK ?_)))))));obtain ⟨z,l,ho⟩:=aB hm
  refine bN [] l (fun e g f w=>f 0=i64 e/\f 3=str g/\aD G K (L) w) aK ?_
  ·rintro e g J f V hm hr ⟨b,m,n⟩
   unfold xY at hm
   refine aJ (aI (aX b (aF (aBR rfl rfl) (aG ?_))))
   rcases aP hm with ⟨h,hm⟩|⟨h,hm⟩
   ·refine aR h rfl (aY (aC (cB (aI (aX b ?_)))));obtain ⟨a,o,hm⟩:=aB hm
    refine aF (R_rem rfl rfl o) (aF (cW rfl rfl) (aF (aKv runUnderlying5 rfl ⟨_,runUnderlying3⟩) (dI (Kt:=K) (xs:=([(UInt8.ofInt (wr (48+a)))]:List UInt8)) (cs:=[Value.int .u8 ((UInt8.ofInt (wr (48+a))).toNat:Int)]) (vs:=[(0,Value.int .u8 ((UInt8.ofInt (wr (48+a))).toNat:Int))]) sl_103 ez_5 rfl rfl n rfl (by kernel_rfl) rfl rfl rfl ⟨rfl,trivial⟩ ?_)))
    intro p q (j:aD G K (aM 5 K p 1 ([(UInt8.ofInt (wr (48+a)))]:List UInt8)::L) q)
    refine aF (R_convBSO underlying103 underlying5 underlying9 j (i:=0) rfl rfl rfl) (aX m ?_);obtain ⟨r,t,hm⟩:=aB hm
    refine aF (R_cat rfl rfl t) (aH (v:=str r) (aG (aU (aX b ?_))));obtain ⟨u,x,hm⟩:=aB hm
    exact aF (R_quo rfl rfl x) (aH (v:=i64 u) (bG (cU (aC ⟨_,(zI hm).symm,bZ,rfl,rfl,(aD.arr 1 [] j rfl)⟩))))
   ·exact aK
theorem uM {a:(List aV)} {k:Int} {R:(Int × (List aV))} (hm:nI a k=some R) (hs:aD G K (aM 9 K a1 c2 a::L) w):
  Calls prog 28 ([zS a1 a.length c2,i64 k]:List Value).toArray w (dV fun v w'=>v=i64 R.1/\a.length=R.2.length/\aD G K (aM 9 K a1 c2 R.2::L) w'):=by
 refine aO func28 rfl (by kernel_rfl) (by show (2:Nat)<=20;decide) ?_;unfold nI at hm
 refine aI (aH (v:=i64 0) (aG (aJ (aI (aH (v:=i64 0) (aG (aQ [] (fun f w=>∃ o d,xI o d=some R/\f 1=i64 o/\a.length=d.length/\aD G K (aM 9 K a1 c2 d::L) w) aK ?_)))))));obtain ⟨a6,x,ho⟩:=aB hm
 refine kO [] x (fun b c e f w=>f 0=zS a1 b.length c2/\f 1=i64 c/\f 5=i64 e/\a.length=b.length/\aD G K (aM 9 K a1 c2 b::L) w) aK ?_
 ·rintro b c e a7 f a8 hm hr ⟨g,p,j,y,z⟩
  unfold sM at hm
  refine aJ (aI (aX j (aX g (aF (bE (len:=b.length) gL rfl) (aF (cE rfl rfl) (aG ?_))))))
  rcases aP hm with ⟨q,hm⟩|⟨q,hm⟩
  ·refine aR q rfl (aY (aC (aJ (cB (aI (aX g (aX j (aX p ?_))))))));obtain ⟨r,J,hm⟩:=aB hm
   refine aS (vs:=[i64 c]) call54 rfl (pP J z) ?_
   rintro _ a9 ⟨rfl,u⟩
   obtain ⟨b0,l,hm⟩:=aB hm
   have V:=dD u (i:=0) rfl l
   refine aF (eE gL rfl V rfl rfl rfl l) ?_;obtain ⟨a0,m,hm⟩:=aB hm
   exact iB (i:=0) (t:=0) (ns:=[str r]) (e':=(r:aV)) sizeOf9 u rfl (zR _) rfl rfl rfl l m rfl rfl (eD rfl) rfl (fun cs h=>by cases h;rfl) (fun a2 (a3:aD G K (aM 9 K a1 c2 a0::L) a2)=>(aG (aU (aX p (aF (cW rfl rfl) (aH (v:=i64 (wr (c+1))) (bG (cU (aC (aU (aX j (aF (cW rfl rfl) (aH (v:=i64 (wr (e+1))) (aG ⟨_,(zI hm).symm,bZ,(Eq.trans g (congrArg (fun n=>zS a1 n c2) (bW m))),rfl,rfl,(y.trans (bW m)),a3⟩))))))))))))))
  ·exact aK
theorem aCY {a:(List Edge)} {k:Int} {R:(Int × (List Edge))} (hm:yQ a k=some R) (hs:aD G K (aM 87 K a1 c2 a::L) w):
  Calls prog 53 ([zS a1 a.length c2,i64 k]:List Value).toArray w (dV fun v w'=>v=i64 R.1/\a.length=R.2.length/\aD G K (aM 87 K a1 c2 R.2::L) w'):=by
 refine aO func53 rfl (by kernel_rfl) (by show (2:Nat)<=34;decide) ?_;unfold yQ at hm
 refine aI (aH (v:=i64 0) (aG (aJ (aI (aH (v:=i64 0) (aG (aQ [] (fun f w=>∃ r o,aBr r o=some R/\f 1=i64 r/\a.length=o.length/\aD G K (aM 87 K a1 c2 o::L) w) aK ?_)))))));obtain ⟨b6,a6,ho⟩:=aB hm
 refine kO [] a6 (fun e b c f w=>f 0=zS a1 e.length c2/\f 1=i64 b/\f 5=i64 c/\a.length=e.length/\aD G K (aM 87 K a1 c2 e::L) w) aK ?_
 ·rintro e b c b7 f b8 hm hr ⟨g,u,j,a7,x⟩
  unfold wN at hm
  refine aJ (aI (aX j (aX g (aF (bE (len:=e.length) cO rfl) (aF (cE rfl rfl) (aG ?_))))))
  rcases aP hm with ⟨y,hm⟩|⟨y,hm⟩
  ·refine aR y rfl (aY (aC (aJ (cB (aI (aX g (aX j (aX u ?_))))))));obtain ⟨z,p,hm⟩:=aB hm
   have d:=dD x (i:=0) rfl p
   refine aF (eE cO rfl d rfl rfl rfl p) (aF (aCs (k':=c.toNat * 3+0) qK d rfl rfl) ?_);obtain ⟨J,l,hm⟩:=aB hm
   refine iB (i:=0) (t:=0) (ns:=[i64 b]) (e':=(⟨b,z.B,z.To⟩:Edge)) sizeOf2 x rfl (zR _) rfl rfl rfl p l rfl rfl (eD rfl) rfl (fun cs h=>by cases h;rfl) (fun a8 (a9:aD G K (aM 87 K a1 c2 J::L) a8)=>(aG (aI (aX u (aF (cW rfl rfl) (aH (v:=i64 (wr (b+1))) (aG (aI (aX (v:=zS a1 J.length c2) (Eq.trans g (congrArg (fun n=>zS a1 n c2) (bW l))) (aX j (aL (v:=i64 (wr (b+1))) ?_)))))))))));obtain ⟨V,a0,hm⟩:=aB hm
   refine aF (eE cO rfl d rfl rfl rfl a0) (aF (aCs (k':=c.toNat * 3+1) aAo d rfl rfl) ?_);obtain ⟨a2,m,hm⟩:=aB hm
   refine iB (i:=0) (t:=1) (ns:=[i64 (wr (b+1))]) (e':=(⟨V.F,wr (b+1),V.To⟩:Edge)) sizeOf2 a9 rfl (zR _) rfl rfl rfl a0 m rfl rfl (eD rfl) rfl (fun cs h=>by cases h;rfl) (fun b0 (b1:aD G K (aM 87 K a1 c2 a2::L) b0)=>(aG (aI (aL (v:=i64 (wr (b+1))) (aF (cW rfl rfl) (aH (v:=i64 (wr ((wr (b+1))+1))) (aG (aI (aX (v:=zS a1 a2.length c2) (Eq.trans (Eq.trans g (congrArg (fun n=>zS a1 n c2) (bW l))) (congrArg (fun n=>zS a1 n c2) (bW m))) (aX j (aL (v:=i64 (wr ((wr (b+1))+1))) ?_)))))))))))
   obtain ⟨a3,a5,hm⟩:=aB hm
   refine aF (eE cO rfl d rfl rfl rfl a5) (aF (aCs (k':=c.toNat * 3+2) qL d rfl rfl) ?_);obtain ⟨b2,q,hm⟩:=aB hm
   exact iB (i:=0) (t:=2) (ns:=[i64 (wr ((wr (b+1))+1))]) (e':=(⟨a3.F,a3.B,wr ((wr (b+1))+1)⟩:Edge)) sizeOf2 b1 rfl (zR _) rfl rfl rfl a5 q rfl rfl (eD rfl) rfl (fun cs h=>by cases h;rfl) (fun b3 (b4:aD G K (aM 87 K a1 c2 b2::L) b3)=>(aG (aU (aL (v:=i64 (wr ((wr (b+1))+1))) (aF (cW rfl rfl) (aH (v:=i64 (wr ((wr ((wr (b+1))+1))+1))) (bG (cU (aC (aU (aX j (aF (cW rfl rfl) (aH (v:=i64 (wr (c+1))) (aG ⟨_,(zI hm).symm,bZ,(Eq.trans (Eq.trans (Eq.trans g (congrArg (fun n=>zS a1 n c2) (bW l))) (congrArg (fun n=>zS a1 n c2) (bW m))) (congrArg (fun n=>zS a1 n c2) (bW q))),rfl,rfl,(((a7.trans (bW l)).trans (bW m)).trans (bW q)),b4⟩))))))))))))))
  ·exact aK
theorem aDX {a:(List aW)} {a9:List (Dp.Hd aW)} {k:Int} {R:(Int × (List aW))} (hm:aBs a k=some R) (hs:aD G K (aM 68 K a1 c2 (aZ a9 a)::rows [9,87] a9 a::L) w) (e4:List.length a9=List.length a):
  Calls prog 26 ([zS a1 a.length c2,i64 k]:List Value).toArray w (dV fun v w'=>∃ b0,v=i64 R.1/\a.length=R.2.length/\List.length b0=List.length R.2/\aD G K (aM 68 K a1 c2 (aZ b0 R.2)::rows [9,87] b0 R.2::L) w'):=by
 refine aO func26 rfl (by kernel_rfl) (by show (2:Nat)<=41;decide) ?_;unfold aBs at hm
 refine aI (aH (v:=i64 0) (aG (aJ (aI (aH (v:=i64 0) (aG (aQ [] (fun f w=>∃ k5 z b1,aFA k5 z=some R/\f 1=i64 k5/\List.length b1=List.length z/\a.length=z.length/\aD G K (aM 68 K a1 c2 (aZ b1 z)::rows [9,87] b1 z::L) w) aK ?_)))))));obtain ⟨e5,c7,ho⟩:=aB hm
 refine kO [] c7 (fun p d c f w=>∃ b,f 0=zS a1 p.length c2/\f 1=i64 d/\f 5=i64 c/\List.length b=List.length p/\a.length=p.length/\aD G K (aM 68 K a1 c2 (aZ b p)::rows [9,87] b p::L) w) aK ?_
 ·rintro p d c e6 f e7 hm hr ⟨b,x,b8,y,h,c8,b9⟩
  unfold tN at hm
  refine aJ (aI (aX y (aX x (aF (bE (len:=p.length) qM rfl) (aF (cE rfl rfl) (aG ?_))))))
  rcases aP hm with ⟨c0,hm⟩|⟨c0,hm⟩
  ·refine aR c0 rfl (aY (aC (aJ (cB (aI (aX x (aX y (aX b8 ?_))))))));obtain ⟨b2,a3,hm⟩:=aB hm
   obtain ⟨⟨⟨J,V⟩,⟨a0,a2⟩⟩,j⟩:=aLm h a3
   have l:=dD b9 (i:=0) rfl (sX h a3 j)
   refine aF (eE qM rfl l rfl rfl rfl a3) (aF (aCs (k':=c.toNat * 4+0) mL l rfl rfl) ?_);obtain ⟨b3,e,hm⟩:=aB hm
   refine WO_stS (i:=0) (t:=0) (ns:=[i64 d]) (e':=(⟨d,b2.I,b2.L,b2.E⟩:aW)) sizeOf2 b9 h rfl rfl rfl rfl rfl a3 j e rfl rfl (eD rfl) rfl rfl rfl (fun c9 (d0:aD G K (aM 68 K a1 c2 (aZ b b3)::rows [9,87] b b3::L) c9)=>(aG (aI (aX b8 (aF (cW rfl rfl) (aH (v:=i64 (wr (d+1))) (aG (aI (aX (v:=zS a1 b3.length c2) (Eq.trans x (congrArg (fun n=>zS a1 n c2) (bW e))) (aX y (aL (v:=i64 (wr (d+1))) ?_)))))))))))
   obtain ⟨b4,c1,hm⟩:=aB hm
   refine aF (eE qM rfl l rfl rfl rfl c1) (aF (aCs (k':=c.toNat * 4+1) aBV l rfl rfl) ?_);obtain ⟨q,g,hm⟩:=aB hm
   refine WO_stS (i:=0) (t:=1) (ns:=[i64 (wr (d+1))]) (e':=(⟨b4.N,wr (d+1),b4.L,b4.E⟩:aW)) sizeOf2 d0 (h.trans (bW e)) rfl rfl rfl rfl rfl c1 j g rfl rfl (eD rfl) rfl rfl rfl (fun b5 (c3:aD G K (aM 68 K a1 c2 (aZ b q)::rows [9,87] b q::L) b5)=>(aG (aI (aL (v:=i64 (wr (d+1))) (aF (cW rfl rfl) (aH (v:=i64 (wr ((wr (d+1))+1))) (aG (aI (aX (v:=zS a1 q.length c2) (Eq.trans (Eq.trans x (congrArg (fun n=>zS a1 n c2) (bW e))) (congrArg (fun n=>zS a1 n c2) (bW g))) (aX y ?_))))))))))
   obtain ⟨m,a4,hm⟩:=aB hm
   refine aF (eE qM rfl l rfl rfl rfl a4) (aF (aCs (k':=c.toNat * 4+2) aAp l rfl rfl) (aF (uR (t:=2) aBU c3 (i:=0) rfl (sX ((h.trans (bW e)).trans (bW g)) a4 j) rfl rfl rfl) (aL (v:=i64 (wr ((wr (d+1))+1))) ?_)))
   have d1:aD G K (aM 68 K a1 c2 (aZ b q)::rows [9,87] ((b).eraseIdx c.toNat) ((q).eraseIdx c.toNat)::aM 9 K J V m.L::aM 87 K a0 a2 m.E::L) b5:=aD.arr 4 [3,2,0,1] (aD.rowOut (i:=1) c3 rfl j (aKx a4)) rfl
   have d2:aD G K (aM 9 K J V m.L::aM 68 K a1 c2 (aZ b q)::rows [9,87] ((b).eraseIdx c.toNat) ((q).eraseIdx c.toNat)::aM 87 K a0 a2 m.E::L) b5:=(aD.arr 3 [2,0,1] d1 rfl)
   obtain ⟨a5,d3,hm⟩:=aB hm
   refine aS (vs:=[zS J m.L.length V,i64 (wr ((wr (d+1))+1))]) call28 rfl (uM d3 d2) ?_
   rintro _ b6 ⟨rfl,d4,d5⟩
   obtain ⟨r,u,hm⟩:=aB hm
   have c4:aD G K (aM 68 K a1 c2 (aZ b r)::rows [9,87] b r::L) b6:=aD.unfocusS (tys:=[9,87]) (x':=(⟨m.N,m.I,a5.2,m.E⟩:aW)) (aD.arr 4 [0,3,2,1] d5 rfl) ((h.trans (bW e)).trans (bW g)) j a4 (enc_Lts_0 d4) u
   refine aH (v:=i64 a5.1) (aG (aU (aX (v:=zS a1 r.length c2) (Eq.trans (Eq.trans (Eq.trans x (congrArg (fun n=>zS a1 n c2) (bW e))) (congrArg (fun n=>zS a1 n c2) (bW g))) (congrArg (fun n=>zS a1 n c2) (bW u))) (aX y ?_))));obtain ⟨o,a7,hm⟩:=aB hm
   refine aF (eE qM rfl l rfl rfl rfl a7) (aF (aCs (k':=c.toNat * 4+3) eX l rfl rfl) (aF (uR (t:=3) lX c4 (i:=0) rfl (sX (((h.trans (bW e)).trans (bW g)).trans (bW u)) a7 j) rfl rfl rfl) (aL (v:=i64 a5.1) ?_)))
   have d6:aD G K (aM 68 K a1 c2 (aZ b r)::rows [9,87] ((b).eraseIdx c.toNat) ((r).eraseIdx c.toNat)::aM 9 K J V o.L::aM 87 K a0 a2 o.E::L) b6:=aD.arr 4 [3,2,0,1] (aD.rowOut (i:=1) c4 rfl j (aKx a7)) rfl
   have d7:aD G K (aM 87 K a0 a2 o.E::aM 68 K a1 c2 (aZ b r)::rows [9,87] ((b).eraseIdx c.toNat) ((r).eraseIdx c.toNat)::aM 9 K J V o.L::L) b6:=(aD.arr 4 [3,0,1,2] d6 rfl)
   obtain ⟨c5,d8,hm⟩:=aB hm
   refine aS (vs:=[zS a0 o.E.length a2,i64 a5.1]) call53 rfl (aCY d8 d7) ?_
   rintro _ d9 ⟨rfl,e0,e1⟩
   obtain ⟨c6,a8,hm⟩:=aB hm
   have e2:aD G K (aM 68 K a1 c2 (aZ b c6)::rows [9,87] b c6::L) d9:=aD.unfocusS (tys:=[9,87]) (x':=(⟨o.N,o.I,o.L,c5.2⟩:aW)) (aD.arr 4 [3,0,2,1] e1 rfl) (((h.trans (bW e)).trans (bW g)).trans (bW u)) j a7 (enc_Lts_1 e0) a8
   exact aH (v:=i64 c5.1) (bG (cU (aC (aU (aX y (aF (cW rfl rfl) (aH (v:=i64 (wr (c+1))) (aG ⟨_,(zI hm).symm,bZ,b,(Eq.trans (Eq.trans (Eq.trans (Eq.trans x (congrArg (fun n=>zS a1 n c2) (bW e))) (congrArg (fun n=>zS a1 n c2) (bW g))) (congrArg (fun n=>zS a1 n c2) (bW u))) (congrArg (fun n=>zS a1 n c2) (bW a8))),rfl,rfl,((((h.trans (bW e)).trans (bW g)).trans (bW u)).trans (bW a8)),((((c8.trans (bW e)).trans (bW g)).trans (bW u)).trans (bW a8)),e2⟩))))))))
  ·exact aK
theorem aAh {a:(List aT)} {k:Int} {R:(Int × (List aT))} (hm:rL a k=some R) (hs:aD G K (aM 73 K a1 c2 a::L) w):
  Calls prog 27 ([zS a1 a.length c2,i64 k]:List Value).toArray w (dV fun v w'=>v=i64 R.1/\a.length=R.2.length/\aD G K (aM 73 K a1 c2 R.2::L) w'):=by
 refine aO func27 rfl (by kernel_rfl) (by show (2:Nat)<=37;decide) ?_;unfold rL at hm
 refine aI (aH (v:=i64 0) (aG (aJ (aI (aH (v:=i64 0) (aG (aQ [] (fun f w=>∃ r o,wO r o=some R/\f 1=i64 r/\a.length=o.length/\aD G K (aM 73 K a1 c2 o::L) w) aK ?_)))))));obtain ⟨c6,a9,ho⟩:=aB hm
 refine kO [] a9 (fun e b c f w=>f 0=zS a1 e.length c2/\f 1=i64 b/\f 5=i64 c/\a.length=e.length/\aD G K (aM 73 K a1 c2 e::L) w) aK ?_
 ·rintro e b c c7 f c8 hm hr ⟨g,u,j,b0,b1⟩
  unfold qS at hm
  refine aJ (aI (aX j (aX g (aF (bE (len:=e.length) sV rfl) (aF (cE rfl rfl) (aG ?_))))))
  rcases aP hm with ⟨x,hm⟩|⟨x,hm⟩
  ·refine aR x rfl (aY (aC (aJ (cB (aI (aX g (aX j (aX u ?_))))))));obtain ⟨y,b2,hm⟩:=aB hm
   refine aS (vs:=[i64 b]) call54 rfl (pP b2 b1) ?_
   rintro _ c9 ⟨rfl,z⟩
   obtain ⟨J,p,hm⟩:=aB hm
   have d:=dD z (i:=0) rfl p
   refine aF (eE sV rfl d rfl rfl rfl p) (aF (aCs (k':=c.toNat * 3+0) aIr d rfl rfl) ?_);obtain ⟨V,l,hm⟩:=aB hm
   refine iB (i:=0) (t:=0) (ns:=[str y]) (e':=(⟨y,J.Right,J.Result⟩:aT)) sizeOf9 z rfl (zR _) rfl rfl rfl p l rfl rfl (eD rfl) rfl (fun cs h=>by cases h;rfl) (fun b3 (b4:aD G K (aM 73 K a1 c2 V::L) b3)=>(aG (aI (aX u (aF (cW rfl rfl) (aH (v:=i64 (wr (b+1))) (aG (aI (aX (v:=zS a1 V.length c2) (Eq.trans g (congrArg (fun n=>zS a1 n c2) (bW l))) (aX j (aL (v:=i64 (wr (b+1))) ?_)))))))))));obtain ⟨a0,b5,hm⟩:=aB hm
   refine aS (vs:=[i64 (wr (b+1))]) call54 rfl (pP b5 b4) ?_
   rintro _ d0 ⟨rfl,b6⟩
   obtain ⟨a2,a3,hm⟩:=aB hm
   refine aF (eE sV rfl d rfl rfl rfl a3) (aF (aCs (k':=c.toNat * 3+1) aIs d rfl rfl) ?_);obtain ⟨a5,m,hm⟩:=aB hm
   refine iB (i:=0) (t:=1) (ns:=[str a0]) (e':=(⟨a2.Left,a0,a2.Result⟩:aT)) sizeOf9 b6 rfl (zR _) rfl rfl rfl a3 m rfl rfl (eD rfl) rfl (fun cs h=>by cases h;rfl) (fun b7 (b8:aD G K (aM 73 K a1 c2 a5::L) b7)=>(aG (aI (aL (v:=i64 (wr (b+1))) (aF (cW rfl rfl) (aH (v:=i64 (wr ((wr (b+1))+1))) (aG (aI (aX (v:=zS a1 a5.length c2) (Eq.trans (Eq.trans g (congrArg (fun n=>zS a1 n c2) (bW l))) (congrArg (fun n=>zS a1 n c2) (bW m))) (aX j (aL (v:=i64 (wr ((wr (b+1))+1))) ?_)))))))))))
   obtain ⟨a6,b9,hm⟩:=aB hm
   refine aS (vs:=[i64 (wr ((wr (b+1))+1))]) call54 rfl (pP b9 b8) ?_
   rintro _ d1 ⟨rfl,c0⟩
   obtain ⟨a7,a8,hm⟩:=aB hm
   refine aF (eE sV rfl d rfl rfl rfl a8) (aF (aCs (k':=c.toNat * 3+2) fa_73_2 d rfl rfl) ?_);obtain ⟨c1,q,hm⟩:=aB hm
   exact iB (i:=0) (t:=2) (ns:=[str a6]) (e':=(⟨a7.Left,a7.Right,a6⟩:aT)) sizeOf9 c0 rfl (zR _) rfl rfl rfl a8 q rfl rfl (eD rfl) rfl (fun cs h=>by cases h;rfl) (fun c3 (c4:aD G K (aM 73 K a1 c2 c1::L) c3)=>(aG (aU (aL (v:=i64 (wr ((wr (b+1))+1))) (aF (cW rfl rfl) (aH (v:=i64 (wr ((wr ((wr (b+1))+1))+1))) (bG (cU (aC (aU (aX j (aF (cW rfl rfl) (aH (v:=i64 (wr (c+1))) (aG ⟨_,(zI hm).symm,bZ,(Eq.trans (Eq.trans (Eq.trans g (congrArg (fun n=>zS a1 n c2) (bW l))) (congrArg (fun n=>zS a1 n c2) (bW m))) (congrArg (fun n=>zS a1 n c2) (bW q))),rfl,rfl,(((b0.trans (bW l)).trans (bW m)).trans (bW q)),c4⟩))))))))))))))
  ·exact aK
theorem uN {d:(List aW)} {j:List (Dp.Hd aW)} {b:(List aT)} {c e:(List aV)} {k:Int} {R:(Int × (List aW) × (List aT) × (List aV) × (List aV))} (hm:qE d b c e k=some R) (y:aD G K (aM 68 K a1 c2 (aZ j d)::rows [9,87] j d::aM 73 K a5 c6 b::aM 9 K a7 c8 c::aM 9 K a9 c10 e::L) w) (z:List.length j=List.length d):
  Calls prog 9 ([zA #[zS a1 d.length c2,zS a5 b.length c6,zS a7 c.length c8,zS a9 e.length c10],i64 k]:List Value).toArray w (dV fun v w'=>∃ o,v=i64 R.1/\d.length=R.2.1.length/\List.length o=List.length R.2.1/\b.length=R.2.2.1.length/\c.length=R.2.2.2.1.length/\e.length=R.2.2.2.2.length/\aD G K (aM 68 K a1 c2 (aZ o R.2.1)::rows [9,87] o R.2.1::aM 73 K a5 c6 R.2.2.1::aM 9 K a7 c8 R.2.2.2.1::aM 9 K a9 c10 R.2.2.2.2::L) w'):=by
 let p:=[zS a1 d.length c2,zS a5 b.length c6,zS a7 c.length c8,zS a9 e.length c10]
 let l:=aM 9 K a7 c8 c
 let m:=aM 9 K a9 c10 e
 refine aO func9 rfl (by kernel_rfl) (by show (2:Nat)<=22;decide) ?_;unfold qE at hm
 refine aI (eQ (v:=zA #[zS a1 d.length c2,zS a5 b.length c6,zS a7 c.length c8,zS a9 e.length c10]) (vs:=p) y rfl rfl (fun n J q=>(aH (v:=i64 0) (aG (aI (aF (bM (t':=0) vJ rfl rfl) (aF (fF aGm q (i:=0) rfl rfl rfl) (aL (v:=i64 k) ?_))))))))
 have V:aD G K (aM 68 K a1 c2 (aZ j d)::rows [9,87] j d::box n 31 p::aM 73 K a5 c6 b::l::m::L) J:=(aD.arr 3 [1,2,0] q rfl)
 obtain ⟨a,a0,hm⟩:=aB hm
 refine aS (vs:=[zS a1 d.length c2,i64 k]) call26 rfl (aDX a0 V z) ?_
 rintro _ r ⟨g,rfl,a2,b3,a3⟩
 have t:aD G K (aM 68 K a1 c2 (aZ g a.2)::rows [9,87] g a.2::box n 31 [zS a1 a.2.length c2,zS a5 b.length c6,zS a7 c.length c8,zS a9 e.length c10]::aM 73 K a5 c6 b::l::m::L) r:=by rw [←a2];exact a3
 refine aH (v:=i64 a.1) (aG (aI (aF (bM (t':=1) aEW rfl rfl) (aF (fF sc_29 t (i:=2) rfl rfl rfl) (aL (v:=i64 a.1) ?_)))))
 have a4:aD G K (aM 73 K a5 c6 b::aM 68 K a1 c2 (aZ g a.2)::rows [9,87] g a.2::box n 31 [zS a1 a.2.length c2,zS a5 b.length c6,zS a7 c.length c8,zS a9 e.length c10]::l::m::L) r:=(aD.arr 4 [3,0,1,2] t rfl)
 obtain ⟨h,a6,hm⟩:=aB hm
 refine aS (vs:=[zS a5 b.length c6,i64 a.1]) call27 rfl (aAh a6 a4) ?_
 rintro _ u ⟨rfl,a8,b0⟩
 have x:aD G K (aM 73 K a5 c6 h.2::aM 68 K a1 c2 (aZ g a.2)::rows [9,87] g a.2::box n 31 [zS a1 a.2.length c2,zS a5 h.2.length c6,zS a7 c.length c8,zS a9 e.length c10]::l::m::L) u:=by rw [←a8];exact b0
 refine aH (v:=i64 h.1) (aG (aI (aF (bM (t':=2) aGn rfl rfl) (aF (fF aBU x (i:=3) rfl rfl rfl) (aL (v:=i64 h.1) ?_)))))
 have b1:aD G K (l::aM 73 K a5 c6 h.2::aM 68 K a1 c2 (aZ g a.2)::rows [9,87] g a.2::box n 31 [zS a1 a.2.length c2,zS a5 h.2.length c6,zS a7 c.length c8,zS a9 e.length c10]::m::L) u:=(aD.arr 5 [4,0,1,2,3] x rfl)
 obtain ⟨b4,b2,hm⟩:=aB hm
 exact aS (vs:=[zS a7 c.length c8,i64 h.1]) call28 rfl (uM b2 b1) aK
theorem aFV {a:(List aV)} {k R:Int} (hm:nJ a k=some R) (g:aD G K (L) w) (h:bK K a1 c2 a):
  Calls prog 31 ([zS a1 a.length c2,i64 k]:List Value).toArray w (dV fun v w'=>v=i64 R/\aD G K (L) w'):=by
 refine aO func31 rfl (by kernel_rfl) (by show (2:Nat)<=22;decide) ?_;unfold nJ at hm
 refine aI (aH (v:=i64 0) (aG (aJ (aI (aH (v:=i64 0) (aG (aQ [] (fun f w=>∃ b,aCR b=some R/\f 1=i64 b/\aD G K (L) w) aK ?_)))))));obtain ⟨i,c,ho⟩:=aB hm
 exact bN [0] c (fun d e f w=>f 1=i64 d/\f 5=i64 e/\aD G K (L) w) aK aK
theorem aHn {a:(List Edge)} {k R:Int} (hm:yR a k=some R) (g:aD G K (L) w) (h:bK K a1 c2 a):
  Calls prog 55 ([zS a1 a.length c2,i64 k]:List Value).toArray w (dV fun v w'=>v=i64 R/\aD G K (L) w'):=by
 refine aO func55 rfl (by kernel_rfl) (by show (2:Nat)<=40;decide) ?_;unfold yR at hm
 refine aI (aH (v:=i64 0) (aG (aJ (aI (aH (v:=i64 0) (aG (aQ [] (fun f w=>∃ b,aEF b=some R/\f 1=i64 b/\aD G K (L) w) aK ?_)))))));obtain ⟨i,c,ho⟩:=aB hm
 exact bN [0] c (fun d e f w=>f 1=i64 d/\f 5=i64 e/\aD G K (L) w) aK aK
theorem aIg {a:(List aW)} {k R:Int} (hm:aBt a k=some R) (g:aD G K (L) w) (h:bK K a1 c2 a):
  Calls prog 29 ([zS a1 a.length c2,i64 k]:List Value).toArray w (dV fun v w'=>v=i64 R/\aD G K (L) w'):=by
 refine aO func29 rfl (by kernel_rfl) (by show (2:Nat)<=49;decide) ?_;unfold aBt at hm
 refine aI (aH (v:=i64 0) (aG (aJ (aI (aH (v:=i64 0) (aG (aQ [] (fun f w=>∃ b,aFB b=some R/\f 1=i64 b/\aD G K (L) w) aK ?_)))))));obtain ⟨i,c,ho⟩:=aB hm
 exact bN [0] c (fun d e f w=>f 1=i64 d/\f 5=i64 e/\aD G K (L) w) aK aK
theorem aFl {a:(List aT)} {k R:Int} (hm:rM a k=some R) (g:aD G K (L) w) (h:bK K a1 c2 a):
  Calls prog 30 ([zS a1 a.length c2,i64 k]:List Value).toArray w (dV fun v w'=>v=i64 R/\aD G K (L) w'):=by
 refine aO func30 rfl (by kernel_rfl) (by show (2:Nat)<=43;decide) ?_;unfold rM at hm
 refine aI (aH (v:=i64 0) (aG (aJ (aI (aH (v:=i64 0) (aG (aQ [] (fun f w=>∃ b,aCj b=some R/\f 1=i64 b/\aD G K (L) w) aK ?_)))))));obtain ⟨i,c,ho⟩:=aB hm
 exact bN [0] c (fun d e f w=>f 1=i64 d/\f 5=i64 e/\aD G K (L) w) aK aK
theorem uO {a:bB} {k R:Int} (hm:tO a k=some R) (b:aD G K (L) w) (c:bK K a1 c2 a.Parts) (d:bK K a4 c5 a.Meetings) (e:bK K a7 c8 a.Allowed) (g:bK K a10 c11 a.Hidden):
  Calls prog 10 ([zA #[zS a1 a.Parts.length c2,zS a4 a.Meetings.length c5,zS a7 a.Allowed.length c8,zS a10 a.Hidden.length c11],i64 k]:List Value).toArray w (dV fun v w'=>v=i64 R/\aD G K (L) w'):=by
 exact aK
end Gv
