/- Walks, printed by program. -/
import Derived.Test.YtingjpdikgpflaaGreatDoorJWk7
set_option linter.all false
namespace Gv
open Go.Value renaming slice→zS,bool→zB,agg→zA,tuple→zT
open Option.some renaming inj→zI
open Gv.Hp renaming le_trans→zL,le_refl→zR
open Go Go.Proofs Go.Proofs.Tryz
set_option maxRecDepth 20000
set_option maxHeartbeats 40000000
variable {G:qN} {K:Hp} {L:List gH} {w:World} {a1 a4 a7 a10 a13 a16:Option Addr} {c5 c8 c11 c2 c14 c17:Nat}
theorem aPz {t:cI} {a:Nat} {d:Int} {R:Bool} (hm:aPW t d=some R) (l:aJ G K (L) w) (b:eY K a1 a (zC t a4 c5 a7 c8)) (m:cF K a4 c5 t.L) (n:cF K a7 c8 t.E):
  Calls prog 117 ([cS a1 a,i64 d]:List Value).toArray w (eH fun v w'=>v=zB R/\aJ G K (L) w'):=by
 refine aS func117 rfl (by kernel_rfl) (by show (2:Nat)<=36;decide) ?_;unfold aPW at hm
 refine aK (aD (v:=zB false) (aG (aO (aK (aD (v:=i64 0) (aG (aW [] (fun f w=>aPS=some R/\aJ G K (L) w) aHU ?_)))))));obtain ⟨o,h,ho⟩:=aB hm
 refine dM [0,1] h (fun c f w=>f 5=i64 c/\aJ G K (L) w) aHU ?_
 ·rintro c i f p hm hr ⟨j,k⟩
  unfold aPT at hm
  refine aO (aK (aY j (aF (v:=cS a1 a) (aC (cM rfl b) (aC (bU (k':=a+3) cU rfl b rfl) (aC (bG (t:=3) eS k b rfl rfl) (aC (bO (len:=t.E.length) cL rfl) (aC (cG rfl rfl) (aG ?_)))))))))
  rcases aH hm with ⟨e,hm⟩|⟨e,hm⟩
  ·exact aL e rfl (aU (aA (aO (cN (aO (cP [0,1,5] (fun f w=>∃ g,aOg c g=some i/\f 35=zB g/\aJ G K (L) w) aHU aHU))))))
  ·exact aHU
theorem aPF {t:cI} {h:Nat} {o:Int} {R:(List aZ)} (hm:aQr t o=some R) (hs:aJ G K (L) w) (d:eY K a1 h (zC t a4 c5 a7 c8)) (h6:cF K a4 c5 t.L) (h9:cF K a7 c8 t.E):
  Calls prog 118 ([cS a1 h,i64 o]:List Value).toArray w (eH fun v w'=>∃ a3 a5,v=zS a3 R.length a5/\aJ G K (aN 9 K a3 a5 R::L) w'):=by
 refine aS func118 rfl (by kernel_rfl) (by show (2:Nat)<=59;decide) ?_;unfold aQr at hm
 refine aK (aD (v:=zS none 0 0) (aG (aK (cB (Kt:=K) (xs:=([]:List aZ)) (cs:=[]) (vs:=[]) bX iA rfl rfl hs rfl (by kernel_rfl) rfl rfl rfl trivial (fun a6 b8 (e3:aJ G K (aN 9 K a6 0 ([]:List aZ)::L) b8)=>(aD (v:=zS a6 ([]:List aZ).length 0) (aG (aO (aK (aD (v:=i64 0) (aG (aW [] (fun f w=>∃ x a8 a9,aQo x=some R/\f 5=zS a8 x.length a9/\aJ G K (aN 9 K a8 a9 x::L) w) aHU ?_))))))))))));obtain ⟨e4,b9,ho⟩:=aB hm
 refine cJ [0,1] b9 (fun j m f w=>∃ k l,f 5=zS k j.length l/\f 6=i64 m/\aJ G K (aN 9 K k l j::L) w) aHU ?_
 ·rintro j m b0 f e5 hm hr ⟨k,l,c0,y,p⟩
  unfold aQp at hm
  refine aO (aK (aY y (aF (v:=cS a1 h) (aC (cM rfl d) (aC (bU (k':=h+3) cU rfl d rfl) (aC (bG (t:=3) eS p d rfl rfl) (aC (bO (len:=t.E.length) cL rfl) (aC (cG rfl rfl) (aG ?_)))))))))
  rcases aH hm with ⟨b1,hm⟩|⟨b1,hm⟩
  ·refine aL b1 rfl (aU (aA (aO (aW [0,1,6] (fun f w=>∃ q r u,aMh m q=some b0/\f 5=zS r q.length u/\aJ G K (aN 9 K r u q::L) w) ?_ ?_))))
   ·rintro f e6 ⟨q,r,u,hm,c1,c2⟩
    unfold aMh at hm
    exact aA (aP (aY y (aC (cE rfl rfl) (aD (v:=i64 (wr (m+1))) (aG ⟨_,(zI hm).symm,aM,r,u,c1,rfl,c2⟩)))))
   refine aK (aF (v:=cS a1 h) (aC (cM rfl d) (aC (bU (k':=h+3) cU rfl d rfl) (aC (bG (t:=3) eS p d rfl rfl) (aY y ?_)))));obtain ⟨c,b2,hm⟩:=aB hm
   refine aC (cT cL rfl h9 rfl rfl rfl b2) ?_;obtain ⟨e7,c3,c4⟩:=cF.el (sz:=3) rfl h9 b2
   cases c4
   refine aC (eI (t:=0) (vs:=[i64 c.F,i64 c.B,i64 c.To]) kD p c3 rfl rfl rfl) (bZ (vs:=[i64 0,i64 0,i64 0]) zeroValue66 p rfl (fun z e8 c6=>(cA (i:=0) (ns:=[i64 c.F,i64 c.B,i64 c.To]) (us:=[i64 c.F,i64 c.B,i64 c.To]) sizeOf66 c6 rfl rfl rfl rfl rfl (cY rfl) rfl rfl (fun c7 (c9:aJ G K (box z 66 [i64 c.F,i64 c.B,i64 c.To]::aN 9 K k l j::L) c7)=>(aG (aO (cP [0,1,5,6,7] (fun f w=>∃ V,aKI t j m c V=some b0/\f 46=zB V/\aJ G K (box z 66 [i64 c.F,i64 c.B,i64 c.To]::aN 9 K k l j::L) w) ?_ ?_)))))))
   ·rintro f e9 ⟨V,hm,d0,d1⟩
    unfold aKI at hm
    refine aA ?_
    rcases aH hm with ⟨b3,hm⟩|⟨b3,hm⟩
    ·refine aL b3 d0 ?_;obtain ⟨d2,f0,f1,b4,f2⟩:=aJ.lendBp d1 .head
     refine dT (C:=fun w'=>∃ L',aJ G d2 L' w') [(0,0),(1,0),(2,0),(3,0),(4,0),(5,0),(6,0),(7,0),(8,0),(9,1),(10,1),(11,0)] bY (by kernel_rfl) (fun _ hg=>⟨_,aJ.mono b4 hg⟩) (fun f3 d3=>?_)
     have f4:=aJ.mono b4 d3
     exact aHU
    ·exact aHU
   obtain ⟨d4,n,d5,a,Z⟩:=aJ.lendSp c9 (zR _) zt1
   refine dO (C:=fun w'=>aJ G d4 (box z 66 [i64 c.F,i64 c.B,i64 c.To]::L) w') bY (by kernel_rfl) (aJ.mono a (dK.drew _)) (bD (fun _ a=>bT (t':=0) gP rfl rfl) (bD (fun _ a=>dC cQ a (i:=0) rfl rfl rfl) (bD (fun _ a=>bA (v:=i64 o) rfl) (bD (fun _ a=>fA rfl rfl) (bD (fun _ a=>bA (v:=zB (c.F == o)) rfl) ?_)))))
   rcases aH hm with ⟨e,hm⟩|⟨e,hm⟩
   ·refine bW (g:=29) rfl rfl e (bD (fun _ a=>bT (t':=1) hQ rfl rfl) (bW (g:=29) rfl rfl e (bD (fun _ a=>dC cQ a (i:=0) rfl rfl rfl) (bW (g:=29) rfl rfl e (bD (fun _ a=>kC rfl rfl) (bD (fun _ a=>bL (v:=zB (decide (0 < c.B))) e rfl rfl) (bD (fun _ a=>bA (v:=zB (decide (0 < c.B))) rfl) ?_)))))))
    rcases aH hm with ⟨b,hm⟩|⟨b,hm⟩
    ·refine bW (g:=34) rfl rfl b (bD (fun _ a=>bA c0) (bW (g:=34) rfl rfl b (bD (fun _ a=>bA (v:=cS a1 h) rfl) (bW (g:=34) rfl rfl b (bD (fun _ a=>cM rfl (d.mono n)) (bW (g:=34) rfl rfl b (bD (fun _ a=>bU (k':=h+2) eU rfl (d.mono n) rfl) (bW (g:=34) rfl rfl b (bD (fun _ a=>bG (t:=2) eR a (d.mono n) rfl rfl) (bW (g:=34) rfl rfl b (bD (fun _ a=>bT (t':=1) hQ rfl rfl) (bW (g:=34) rfl rfl b (bD (fun _ a=>dC cQ a (i:=0) rfl rfl rfl) (bW (g:=34) rfl rfl b ?_))))))))))))))
     obtain ⟨d6,b5,hm⟩:=aB hm
     refine bD (fun _ a=>cT bX rfl (h6.mono n) rfl rfl rfl b5) ?_;obtain ⟨f5,d7,d8⟩:=cF.el (sz:=1) rfl h6 b5
     cases d8
     refine bW (g:=34) rfl rfl b (bD (fun _ a=>bG (t:=0) lF a (d7.mono n) rfl rfl) (bW (g:=34) rfl rfl b ?_));obtain ⟨b6,d9,hm⟩:=aB hm
     refine lU (vs:=[zS k j.length l,str d6]) (v:=i64 b6) call83 rfl (fun _ a=>(aCE d9 a d5)) (bW (g:=34) rfl rfl b (bD (fun _ a=>cG rfl rfl) (bD (fun _ a=>bL (v:=zB (decide (b6 < 0))) b rfl rfl) (dS (fun f6 e0=>?_)))))
     have f7:=Z _ _ e0
     exact aHU
    ·refine bE (g:=34) rfl rfl (dL b) (bE (g:=34) rfl rfl (dL b) (bE (g:=34) rfl rfl (dL b) (bE (g:=34) rfl rfl (dL b) (bE (g:=34) rfl rfl (dL b) (bE (g:=34) rfl rfl (dL b) (bE (g:=34) rfl rfl (dL b) (bE (g:=34) rfl rfl (dL b) (bE (g:=34) rfl rfl (dL b) (bE (g:=34) rfl rfl (dL b) (bE (g:=34) rfl rfl (dL b) (bD (fun _ a=>bP (v:=zB false) b rfl rfl) (dS (fun f8 e1=>?_)))))))))))))
     have f9:=Z _ _ e1
     exact aHU
   ·refine bE (g:=29) rfl rfl (dL e) (bE (g:=29) rfl rfl (dL e) (bE (g:=29) rfl rfl (dL e) (bD (fun _ a=>bP (v:=zB false) e rfl rfl) (bD (fun _ a=>bA (v:=zB false) rfl) (bE (g:=34) rfl rfl (dL (by decide:¬ false=true)) (bE (g:=34) rfl rfl (dL (by decide:¬ false=true)) (bE (g:=34) rfl rfl (dL (by decide:¬ false=true)) (bE (g:=34) rfl rfl (dL (by decide:¬ false=true)) (bE (g:=34) rfl rfl (dL (by decide:¬ false=true)) (bE (g:=34) rfl rfl (dL (by decide:¬ false=true)) (bE (g:=34) rfl rfl (dL (by decide:¬ false=true)) (bE (g:=34) rfl rfl (dL (by decide:¬ false=true)) (bE (g:=34) rfl rfl (dL (by decide:¬ false=true)) (bE (g:=34) rfl rfl (dL (by decide:¬ false=true)) (bE (g:=34) rfl rfl (dL (by decide:¬ false=true)) (bD (fun _ a=>bP (v:=zB false) (by decide:¬ false=true) rfl rfl) (dS (fun g0 e2=>?_))))))))))))))))))
    have g1:=Z _ _ e2
    exact aHU
  ·exact aHU
theorem aQy {t:cI} {d:Nat} {c:(List Int)} {R:(List (List aZ))} (hm:aQF t c=some R) (hs:aJ G K (L) w) (h3:eY K a1 d (zC t a4 c5 a7 c8)) (h6:cF K a4 c5 t.L) (h9:cF K a7 c8 t.E) (x:cF K a10 c11 c):
  Calls prog 64 ([cS a1 d,zS a10 c.length c11]:List Value).toArray w (eH fun v w'=>∃ y b0 b1,v=zS b0 R.length b1/\Hp.le K y/\aJ G y (aN 24 y b0 b1 R::L) w'):=by
 refine aS func64 rfl (by kernel_rfl) (by show (2:Nat)<=30;decide) ?_;unfold aQF at hm
 refine aK (aD (v:=zS none 0 0) (aG (aK (cB (Kt:=K) (xs:=([]:List (List aZ))) (cs:=[]) (vs:=[]) iR aEA rfl rfl hs rfl (by kernel_rfl) rfl rfl rfl trivial (fun b2 c4 (e5:aJ G K (aN 24 K b2 0 ([]:List (List aZ))::L) c4)=>(aD (v:=zS b2 ([]:List (List aZ)).length 0) (aG (aO (aK (aD (v:=i64 0) (aG (aW [] (fun f w=>∃ z V b3 b4,Hp.le K z/\aPX V=some R/\f 5=zS b3 V.length b4/\aJ G z (aN 24 z b3 b4 V::L) w) aHU ?_))))))))))))
 obtain ⟨e6,c6,ho⟩:=aB hm
 refine cJ [0,1] c6 (fun e n f w=>∃ b g h,Hp.le K b/\f 5=zS g e.length h/\f 6=i64 n/\aJ G b (aN 24 b g h e::L) w) aHU ?_
 ·rintro e n c7 f e7 hm hr ⟨b,g,h,a,c9,o,b5⟩
  unfold aQb at hm
  refine aO (aK (aY o (aF (v:=zS a10 c.length c11) (aC (bO (len:=c.length) cC rfl) (aC (cG rfl rfl) (aG ?_))))))
  rcases aH hm with ⟨b6,hm⟩|⟨b6,hm⟩
  ·refine aL b6 rfl (aU (aA (aO (aW [0,1,6] (fun f w=>∃ m p q r,Hp.le b m/\aLh n p=some c7/\f 5=zS q p.length r/\aJ G m (aN 24 m q r p::L) w) ?_ ?_))))
   ·rintro f e8 ⟨m,p,q,r,d0,hm,d1,d2⟩
    unfold aLh at hm
    exact aA (aP (aY o (aC (cE rfl rfl) (aD (v:=i64 (wr (n+1))) (aG ⟨_,(zI hm).symm,aM,m,q,r,(zL a d0),d1,rfl,d2⟩)))))
   refine aK (aF (v:=cS a1 d) (aF (v:=zS a10 c.length c11) (aY o ?_)));obtain ⟨b7,Z,hm⟩:=aB hm
   refine aC (cT cC rfl (x.mono a) rfl rfl rfl Z) ?_;obtain ⟨e9,b8,d3⟩:=cF.el (sz:=1) rfl x Z
   cases d3
   refine aC (bG (t:=0) cQ b5 (b8.mono a) rfl rfl) ?_;obtain ⟨f0,d4,hm⟩:=aB hm
   refine aR (vs:=[cS a1 d,i64 b7]) call117 rfl (aPz d4 b5 (h3.mono a) (h6.mono a) (h9.mono a)) ?_
   rintro _ f1 ⟨rfl,b9⟩
   refine aG ?_
   rcases aH hm with ⟨c0,hm⟩|⟨c0,hm⟩
   ·refine aL c0 rfl (aP (aY c9 (aF (v:=cS a1 d) (aF (v:=zS a10 c.length c11) (aY o (aC (cT cC rfl (x.mono a) rfl rfl rfl Z) (aC (bG (t:=0) cQ b9 (b8.mono a) rfl rfl) ?_)))))));obtain ⟨j,d5,hm⟩:=aB hm
    refine aR (vs:=[cS a1 d,i64 b7]) call118 rfl (aPF d5 b9 (h3.mono a) (h6.mono a) (h9.mono a)) ?_
    rintro _ d6 ⟨k,l,rfl,d7⟩
    have d8:aJ G b (rows [9] ([(k,l)]:List (Dp.Hd (List aZ))) [j]::aN 24 b g h e::L) d6:=aJ.rowsOne d7
    refine cB (Kt:=K) (xs:=dB ([(k,l)]:List (Dp.Hd (List aZ))) ([j]:List (List aZ))) (cs:=[zS k j.length l]) (vs:=[(0,zS k j.length l)]) iR aEA rfl rfl d8 rfl (by kernel_rfl) rfl rfl rfl ⟨rfl,trivial⟩ ?_
    intro d9 c1 (e0:aJ G b (aN 24 K d9 1 (dB ([(k,l)]:List (Dp.Hd (List aZ))) ([j]:List (List aZ)))::rows [9] ([(k,l)]:List (Dp.Hd (List aZ))) ([j]:List (List aZ))::aN 24 b g h e::L) c1)
    obtain ⟨u,c2,e1,_,a0,_⟩:=aJ.lendD' (i:=0) e0 rfl rfl rfl
    replace a0:aJ G u (aN 24 b g h e::L) c1:=a0
    obtain ⟨a2,e2,hm⟩:=aB hm
    exact kP (i:=0) iR underlying34 aEA rfl rfl a0 rfl c2 e1 e2 rfl rfl rfl rfl (fun a3 a5 e3 (e4:aJ G u (aN 24 u a3 a5 a2::L) e3)=>(aD (v:=zS a3 a2.length a5) (bB (aX (aA ⟨aM,u,a2,a3,a5,c2,hm,rfl,e4⟩)))))
   ·exact aHU
  ·exact aHU
theorem aQz {a b:(List aZ)} {R:Bool} (hm:aQg a b=some R) (e:aJ G K (L) w) (g:cF K a1 c2 a) (h:cF K a4 c5 b):
  Calls prog 119 ([zS a1 a.length c2,zS a4 b.length c5]:List Value).toArray w (eH fun v w'=>v=zB R/\aJ G K (L) w'):=by
 refine aS func119 rfl (by kernel_rfl) (by show (2:Nat)<=19;decide) ?_;unfold aQg at hm
 refine aK (aD (v:=zB false) (aG (aO (aK (aD (v:=i64 0) (aG (aW [] (fun f w=>aQf=some R/\aJ G K (L) w) aHU ?_)))))));obtain ⟨i,c,ho⟩:=aB hm
 exact dM [0,1] c (fun d f w=>f 5=i64 d/\aJ G K (L) w) aHU aHU
theorem aQx {a:(List aZ)} {b:(List (List aZ))} {R:Bool} (hm:aQu a b=some R) (e:aJ G K (L) w) (g:cF K a1 c2 a) (h:cF K a4 c5 b):
  Calls prog 65 ([zS a1 a.length c2,zS a4 b.length c5]:List Value).toArray w (eH fun v w'=>v=zB R/\aJ G K (L) w'):=by
 refine aS func65 rfl (by kernel_rfl) (by show (2:Nat)<=18;decide) ?_;unfold aQu at hm
 refine aK (aD (v:=zB false) (aG (aO (aK (aD (v:=i64 0) (aG (aW [] (fun f w=>aPE=some R/\aJ G K (L) w) aHU ?_)))))));obtain ⟨i,c,ho⟩:=aB hm
 exact dM [0,1] c (fun d f w=>f 5=i64 d/\aJ G K (L) w) aHU aHU
theorem aQN {labels d R:(List aZ)} (hm:aQU labels d=some R) (q:aJ G K (L) w) (z:cF K a1 c2 labels) (V:cF K a4 c5 d):
  Calls prog 66 ([zS a1 labels.length c2,zS a4 d.length c5]:List Value).toArray w (eH fun v w'=>∃ j k,v=zS j R.length k/\aJ G K (aN 9 K j k R::L) w'):=by
 refine aS func66 rfl (by kernel_rfl) (by show (2:Nat)<=29;decide) ?_;unfold aQU at hm
 refine aK (aD (v:=zS none 0 0) (aG (aK (cB (Kt:=K) (xs:=([]:List aZ)) (cs:=[]) (vs:=[]) bX iA rfl rfl q rfl (by kernel_rfl) rfl rfl rfl trivial (fun l r (Z:aJ G K (aN 9 K l 0 ([]:List aZ)::L) r)=>(aD (v:=zS l ([]:List aZ).length 0) (aG (aO (aK (aD (v:=i64 1) (aG (aW [] (fun f w=>∃ e m n,aQv e=some R/\f 5=zS m e.length n/\aJ G K (aN 9 K m n e::L) w) aHU ?_))))))))))));obtain ⟨a0,t,ho⟩:=aB hm
 refine cJ [0,1] t (fun g i32 f w=>∃ h i,f 5=zS h g.length i/\f 6=i64 i32/\aJ G K (aN 9 K h i g::L) w) aHU ?_
 ·rintro g i32 u f a2 hm hr ⟨h,i,a3,o,a5⟩
  unfold aQw at hm
  refine aO (aK (aY o (aF (v:=zS a1 labels.length c2) (aC (bO (len:=labels.length) bX rfl) (aC (cG rfl rfl) (aG ?_))))))
  rcases aH hm with ⟨p,hm⟩|⟨p,hm⟩
  ·refine aL p rfl (aU (aA (aO (aW [0,1,6] (fun f w=>∃ a b c,aNm i32 a=some u/\f 5=zS b a.length c/\aJ G K (aN 9 K b c a::L) w) ?_ ?_))))
   ·rintro f a6 ⟨a,b,c,hm,x,y⟩
    unfold aNm at hm
    exact aA (aP (aY o (aC (cE rfl rfl) (aD (v:=i64 (wr (i32+1))) (aG ⟨_,(zI hm).symm,aM,b,c,x,rfl,y⟩)))))
   exact aHU
  ·exact aHU
theorem aRd {d:cI} {g:Nat} {b:Int} {c:aZ} {R:Int} (hm:s_l12Go d b c=some R) (m:aJ G K (L) w) (n:eY K a1 g (zC d a4 c5 a7 c8)) (o:cF K a4 c5 d.L) (p:cF K a7 c8 d.E):
  Calls prog 67 ([cS a1 g,i64 b,str c]:List Value).toArray w (eH fun v w'=>v=i64 R/\aJ G K (L) w'):=by
 refine aS func67 rfl (by kernel_rfl) (by show (3:Nat)<=57;decide) ?_;unfold s_l12Go at hm
 refine aK (aD (v:=i64 0) (aG (aO (aK (aD (v:=i64 0) (aG (aW [] (fun f w=>aQL=some R/\aJ G K (L) w) aHU ?_)))))));obtain ⟨q,k,ho⟩:=aB hm
 refine dM [0,1,2] k (fun a f w=>f 7=i64 a/\aJ G K (L) w) aHU ?_
 ·rintro a h f r hm hr ⟨t,u⟩
  unfold aQM at hm
  refine aO (aO (cP [0,1,2,7] (fun f w=>∃ e,aPC d b c a e=some h/\f 18=zB e/\aJ G K (L) w) ?_ ?_))
  ·rintro f x ⟨e,hm,l,y⟩
   unfold aPC at hm
   refine aA ?_
   rcases aH hm with ⟨i,hm⟩|⟨i,hm⟩
   ·exact aL i l (aU (aA (aO (cN (aO (cP [0,1,2,7] (fun f w=>∃ j,aQs d a j=some h/\f 48=zB j/\aJ G K (L) w) aHU aHU))))))
   ·exact aHU
  exact aHU
theorem aFN {spec:cI} {p:Nat} {made:cI} {q:Nat} {R:((List aZ) × (List aZ) × Bool × Bool)} (hm:aCx spec made=some R) (hs:aJ G K (L) w) (h3:eY K a1 p (zC spec a4 c5 a7 c8)) (h6:cF K a4 c5 spec.L) (h9:cF K a7 c8 spec.E) (b0:eY K a10 q (zC made a13 c14 a16 c17)) (b1:cF K a13 c14 made.L) (b2:cF K a16 c17 made.E):
  Calls prog 23 ([cS a1 p,cS a10 q]:List Value).toArray w (eH fun v w'=>∃ z V Z a0,v=zT #[zS z R.1.length V,zS Z R.2.1.length a0,zB R.2.2.1,zB R.2.2.2]/\aJ G K (aN 9 K z V R.1::aN 9 K Z a0 R.2.1::L) w'):=by
 refine aS func23 rfl (by kernel_rfl) (by show (2:Nat)<=209;decide) ?_;unfold aCx at hm
 refine aK (aD (v:=zS none 0 0) (aD (v:=zS none 0 0) (aD (v:=zB false) (aD (v:=zB false) (aG (aK (aF (v:=cS a1 p) ?_)))))));obtain ⟨a,b3,hm⟩:=aB hm
 refine aR (vs:=[cS a1 p]) call18 rfl (yH b3 hs h3 h6 h9) ?_
 rintro _ c9 ⟨c,d,e,g,n,o,m,rfl,d0,b4⟩
 refine aF (v:=zT #[zA (zCa a.1 c d e g),zS n a.2.1.length o,zB a.2.2]) (aC (bS rfl rfl) (aC (bS rfl rfl) (aC (bS rfl rfl) (bZ (vs:=zG) zeroValue27 b4 rfl (fun x d1 b5=>(cA (i:=0) (ns:=(zC a.1 c d e g)) (us:=(zC a.1 c d e g)) sizeOf27 b5 rfl rfl rfl rfl rfl (cY rfl) rfl rfl (fun b6 (b7:aJ G K (box x 27 (zC a.1 c d e g)::aN 9 K c d a.1.L::aN 66 K e g a.1.E::aN 56 K n o (dB m a.2.1)::rows [2] m a.2.1::L) b6)=>(aD (v:=zS n a.2.1.length o) (aD (v:=zB a.2.2) (aG (aK (aF (v:=cS a10 q) ?_))))))))))))
 obtain ⟨b,b8,hm⟩:=aB hm
 refine aR (vs:=[cS a10 q]) call18 rfl (yH b8 b7 b0 b1 b2) ?_
 rintro _ d2 ⟨h,j,k,l,r,t,u,rfl,d3,b9⟩
 refine aF (v:=zT #[zA (zCa b.1 h j k l),zS r b.2.1.length t,zB b.2.2]) (aC (bS rfl rfl) (aC (bS rfl rfl) (aC (bS rfl rfl) (bZ (vs:=zG) zeroValue27 b9 rfl (fun a2 d4 c0=>(cA (i:=0) (ns:=(zC b.1 h j k l)) (us:=(zC b.1 h j k l)) sizeOf27 c0 rfl rfl rfl rfl rfl (cY rfl) rfl rfl (fun c1 (d5:aJ G K (box a2 27 (zC b.1 h j k l)::aN 9 K h j b.1.L::aN 66 K k l b.1.E::aN 56 K r t (dB u b.2.1)::rows [2] u b.2.1::box x 27 (zC a.1 c d e g)::aN 9 K c d a.1.L::aN 66 K e g a.1.E::aN 56 K n o (dB m a.2.1)::rows [2] m a.2.1::L) c1)=>(aD (v:=zS r b.2.1.length t) (aD (v:=zB b.2.2) (aG (aO (aO (cP [0,1,8,9,11,12] (fun f w=>∃ y,sK y=some R/\f 49=zB y/\aJ G K (box a2 27 (zC b.1 h j k l)::aN 9 K h j b.1.L::aN 66 K k l b.1.E::aN 56 K r t (dB u b.2.1)::rows [2] u b.2.1::box x 27 (zC a.1 c d e g)::aN 9 K c d a.1.L::aN 66 K e g a.1.E::aN 56 K n o (dB m a.2.1)::rows [2] m a.2.1::L) w) ?_ ?_)))))))))))))
 ·rintro f d6 ⟨y,hm,c2,c3⟩
  unfold sK at hm
  refine aA ?_
  rcases aH hm with ⟨a3,hm⟩|⟨a3,hm⟩
  ·refine aL a3 c2 (aK (aD (v:=zS none 0 0) (aD (v:=zS none 0 0) (aD (v:=zB false) (aD (v:=zB false) (aG ?_))))))
   have c4:=aJ.nil (α:=aZ) c3 9 K
   have c6:=aJ.nil (α:=aZ) c4 9 K
   obtain rfl:=zI hm
   exact bH (aQ (xQ results23 rfl rfl rfl rfl ⟨none,0,none,0,rfl,(aJ.arr 12 [1,0] c6 rfl)⟩))
  ·exact aHU
 exact aHU
theorem aBm {spec made:cI} {R:(Bool × (List aZ) × (List aZ) × Int)} (hm:sL spec made=some R) (hs:aJ G K (L) w) (o:cF K a1 c2 spec.L) (p:cF K a4 c5 spec.E) (q:cF K a7 c8 made.L) (r:cF K a10 c11 made.E):
  Calls prog 7 ([zA (zCa spec a1 c2 a4 c5),zA (zCa made a7 c8 a10 c11)]:List Value).toArray w (eH fun v w'=>∃ t u x y,v=zT #[zB R.1,zS t R.2.1.length u,zS x R.2.2.1.length y,i64 R.2.2.2]/\aJ G K (aN 9 K t u R.2.1::aN 9 K x y R.2.2.1::L) w'):=by
 let z:=(zC made a7 c8 a10 c11)
 let V:=(zC spec a1 c2 a4 c5)
 refine aS func7 rfl (by kernel_rfl) (by show (2:Nat)<=30;decide) ?_;unfold sL at hm
 refine aK (fJ (v:=zA (zCa spec a1 c2 a4 c5)) (vs:=V) hs rfl rfl (fun j e2 a9=>(fJ (v:=zA (zCa made a7 c8 a10 c11)) (vs:=z) a9 rfl rfl (fun k e3 b0=>(aD (v:=zB false) (aD (v:=zS none 0 0) (aD (v:=zS none 0 0) (aD (v:=i64 0) (aG (aO (aO (cP [2,3] (fun f w=>∃ l,kZ spec made l=some R/\f 17=zB l/\aJ G K (box k 27 z::box j 27 V::L) w) ?_ ?_))))))))))))
 ·rintro f e4 ⟨l,hm,Z,a0⟩
  unfold kZ at hm
  refine aA ?_
  rcases aH hm with ⟨m,hm⟩|⟨m,hm⟩
  ·refine aL m Z (aK (aD (v:=zB false) (aD (v:=zS none 0 0) (aD (v:=zS none 0 0) (aD (v:=i64 1) (aG ?_))))))
   have b1:=aJ.nil (α:=aZ) a0 9 K
   have b2:=aJ.nil (α:=aZ) b1 9 K
   obtain rfl:=zI hm
   exact bH (aQ (xQ results7 rfl rfl rfl rfl ⟨none,0,none,0,rfl,(aJ.arr 4 [1,0] b2 rfl)⟩))
  ·refine aI m Z (aU (aA (aK ?_)));obtain ⟨e5,i,b4,b5,b6⟩:=aJ.lendBp a0 zt1
   obtain ⟨e6,b,b7,b8,b9⟩:=aJ.lendBp b5 .head
   obtain ⟨a,c0,hm⟩:=aB hm
   refine aR (vs:=[cS (some ⟨j,0,none⟩) 0,cS (some ⟨k,0,none⟩) 0]) call23 rfl (aFN c0 b8 (b4.mono b) (o.mono (zL i b)) (p.mono (zL i b)) b7 (q.mono (zL i b)) (r.mono (zL i b))) ?_
   rintro _ e7 ⟨c,d,e,h,rfl,c1⟩
   have c3:=b9 _ _ c1
   have a2:=b6 _ _ c3
   refine aF (v:=zT #[zS c a.1.length d,zS e a.2.1.length h,zB a.2.2.1,zB a.2.2.2]) (aC (bS rfl rfl) (aC (bS rfl rfl) (aC (bS rfl rfl) (aC (bS rfl rfl) (aD (v:=zS c a.1.length d) (aD (v:=zS e a.2.1.length h) (aD (v:=zB a.2.2.1) (aD (v:=zB a.2.2.2) (aG (aO (aK (aF (v:=zB a.2.2.2) (aC (dE rfl) (aG ?_))))))))))))))
   rcases aH hm with ⟨n,hm⟩|⟨n,hm⟩
   ·refine aL n rfl (aK (aD (v:=zB false) (aD (v:=zS none 0 0) (aD (v:=zS none 0 0) (aD (v:=i64 5) (aG ?_))))))
    have c4:=aJ.nil (α:=aZ) a2 9 K
    have c6:=aJ.nil (α:=aZ) c4 9 K
    obtain rfl:=zI hm
    exact bH (aQ (xQ results7 rfl rfl rfl rfl ⟨none,0,none,0,rfl,(aJ.arr 6 [1,0] c6 rfl)⟩))
   ·refine aI n rfl (aU (aA (aK (aF (v:=zB a.2.2.1) (aC (dE rfl) (aF (v:=zS c a.1.length d) (aF (v:=zS e a.2.1.length h) (aD (v:=zB (!a.2.2.1)) (aD (v:=zS c a.1.length d) (aD (v:=zS e a.2.1.length h) (aD (v:=i64 0) (aG ?_))))))))))));obtain rfl:=zI hm
    exact bH (xQ results7 rfl rfl rfl rfl ⟨c,d,e,h,rfl,(aJ.arr 2 [] a2 rfl)⟩)
 refine aP ?_;obtain ⟨e8,a3,d0,d1,d2⟩:=aJ.lendBp b0 zt1
 obtain ⟨d3,d4,hm⟩:=aB hm
 refine aR (vs:=[cS (some ⟨j,0,none⟩) 0]) call22 rfl (aFd d4 d1 d0 (o.mono a3) (p.mono a3)) ?_
 rintro _ e9 ⟨rfl,d5⟩
 have d6:=d2 _ _ d5
 refine aC (dE rfl) (aF (v:=zB (!d3)) ?_)
 rcases aH hm with ⟨a5,hm⟩|⟨a5,hm⟩
 ·exact aHU
 ·refine bK a5 rfl rfl ?_;obtain ⟨f0,a6,d7,d8,d9⟩:=aJ.lendBp d6 zt1
  obtain ⟨f1,e0,hm⟩:=aB hm
  refine aR (vs:=[cS (some ⟨k,0,none⟩) 0]) call22 rfl (aFd e0 d8 d7 (q.mono a6) (r.mono a6)) ?_
  rintro _ f2 ⟨rfl,e1⟩
  have f3:=d9 _ _ e1
  exact aHU
theorem aIh {a:(List aZ)} {R:Bool} (hm:aIf a=some R) (o:aJ G K (L) w) (p:G.lo=0) (d:cF K a1 c2 a):
  Calls prog 25 ([zS a1 a.length c2]:List Value).toArray w (eH fun v w'=>v=zB R/\aJ G K (L) w'):=by
 refine aS func25 rfl (by kernel_rfl) (by show (1:Nat)<=26;decide) ?_;unfold aIf at hm
 refine aK (aD (v:=zB false) (aG (aO (aK (aF (v:=zS a1 a.length c2) (aC (bO (len:=a.length) bX rfl) (aF (v:=i64 0) (aG (aW [0] (fun f w=>aBi a=some R/\aJ G K (L) w) aHU ?_)))))))));obtain ⟨q,i,ho⟩:=aB hm
 refine dM [0,5,6] i (fun b f w=>f 7=i64 b/\aJ G K (L) w) aHU ?_
 ·rintro b j f r hm hr ⟨c,k⟩
  unfold aGW at hm
  refine aK (aC (cG c rfl) (aG (aO ?_)))
  rcases aH hm with ⟨e,hm⟩|⟨e,hm⟩
  ·refine aL e rfl (aU (aA (aO (cN (aK (aY c ?_))))));obtain ⟨l,g,hm⟩:=aB hm
   refine aC (cT bX rfl d rfl rfl c g) ?_;obtain ⟨u,m,n⟩:=cF.el (sz:=1) rfl d g
   cases n
   exact aC (bG (t:=0) lF k m rfl rfl) (aD (v:=i64 b) (aD (v:=str l) (aG (aO (cP [0,5,6,7] (fun f w=>∃ h,aBj b h=some j/\f 22=zB h/\aJ G K (L) w) aHU aHU)))))
  ·exact aHU
theorem aCL {k:Int} {p:(List aZ)} {b:Nat} {a:cI} {c:Nat} {R:Bool} (hm:vN k p a=some R) (d:aJ G K (L) w) (g:eY K a1 b [zS a4 p.length c5]) (h:cF K a4 c5 p) (i:eY K a7 c (zC a a10 c11 a13 c14)) (j:cF K a10 c11 a.L) (l:cF K a13 c14 a.E):
  Calls prog 74 ([i64 k,cS a1 b,cS a7 c]:List Value).toArray w (eH fun v w'=>v=zB R/\aJ G K (L) w'):=by
 refine aS func74 rfl (by kernel_rfl) (by show (3:Nat)<=14;decide) ?_;unfold vN at hm
 refine aK (aD (v:=zB false) (aG (aO (dT (C:=fun w'=>∃ L',aJ G K L' w') [(0,0),(1,0),(2,0),(6,0),(7,0),(3,1),(4,1),(5,0),(8,0),(9,0)] bY (by kernel_rfl) (fun _ hg=>⟨_,aJ.mono d hg⟩) (fun m e=>?_)))))
 have n:=aJ.mono d e
 exact aHU
theorem mJ {b:(List Int)} {g:(List aZ)} {c:Nat} {a:cI} {d:Nat} {R:Int} (hm:gO b g a=some R) (V:aJ G K (L) w) (h:cF K a1 c2 b) (n:eY K a4 c [zS a7 g.length c8]) (o:cF K a7 c8 g) (p:eY K a10 d (zC a a13 c14 a16 c17)) (q:cF K a13 c14 a.L) (r:cF K a16 c17 a.E):
  Calls prog 126 ([zS a1 b.length c2,Value.func (.func 74) #[] #[cS a4 c,cS a10 d]]:List Value).toArray w (eH fun v w'=>v=i64 R/\aJ G K (L) w'):=by
 refine aS func126 rfl (by kernel_rfl) (by show (2:Nat)<=19;decide) ?_;unfold gO at hm
 refine aK (aD (v:=i64 0) (aG (aO (aK (aF (v:=zS a1 b.length c2) (aC (bO (len:=b.length) cC rfl) (aF (v:=i64 0) (aG (aW [] (fun f w=>eF=some R/\aJ G K (L) w) aHU ?_)))))))));obtain ⟨Z,u,ho⟩:=aB hm
 refine dM [0,1,7] u (fun e f w=>f 8=i64 e/\aJ G K (L) w) aHU ?_
 ·rintro e a0 f a2 hm hr ⟨i,j⟩
  unfold iZ at hm
  refine aK (aC (cG i rfl) (aG (aO ?_)))
  rcases aH hm with ⟨k,hm⟩|⟨k,hm⟩
  ·refine aL k rfl (aU (aA (aO (cN (aK (aY i (aD (v:=i64 e) (aG (aK (aF (v:=Value.func (.func 74) #[] #[cS a4 c,cS a10 d]) (aF (v:=zS a1 b.length c2) (aF (v:=i64 e) ?_))))))))))));obtain ⟨l,m,hm⟩:=aB hm
   refine aC (cT cC rfl h rfl rfl rfl m) ?_;obtain ⟨a3,x,y⟩:=cF.el (sz:=1) rfl h m
   cases y
   refine aC (bG (t:=0) cQ j x rfl rfl) ?_;obtain ⟨a5,z,hm⟩:=aB hm
   exact kG (vs:=[i64 l]) (caps:=[cS a4 c,cS a10 d]) (us:=[i64 l,cS a4 c,cS a10 d]) rfl call74 rfl rfl (aCL z j n o p q r) aHU
  ·exact aHU
theorem lP {b:(List Int)} {c:(List aZ)} {d:Nat} {a:cI} {e:Nat} {R:Bool} (hm:fT b c a=some R) (g:aJ G K (L) w) (h:cF K a1 c2 b) (i:eY K a4 d [zS a7 c.length c8]) (j:cF K a7 c8 c) (k:eY K a10 e (zC a a13 c14 a16 c17)) (l:cF K a13 c14 a.L) (m:cF K a16 c17 a.E):
  Calls prog 72 ([zS a1 b.length c2,Value.func (.func 74) #[] #[cS a4 d,cS a10 e]]:List Value).toArray w (eH fun v w'=>v=zB R/\aJ G K (L) w'):=by
 exact aHU
theorem aAe {t:cI} {a:(List Int)} {b:(List aZ)} {R:Bool} (hm:xH t a b=some R) (n:aJ G K (L) w) (g:cF K a1 c2 t.L) (h:cF K a4 c5 t.E) (o:cF K a7 c8 a) (p:cF K a10 c11 b):
  Calls prog 27 ([zA (zCa t a1 c2 a4 c5),zS a7 a.length c8,zS a10 b.length c11]:List Value).toArray w (eH fun v w'=>v=zB R/\aJ G K (L) w'):=by
 let j:=(zC t a1 c2 a4 c5)
 refine aS func27 rfl (by kernel_rfl) (by show (3:Nat)<=12;decide) ?_;unfold xH at hm
 refine aK (fJ (v:=zA (zCa t a1 c2 a4 c5)) (vs:=j) n rfl rfl (fun k a8 q=>(fJ (v:=zS a10 b.length c11) (vs:=[zS a10 b.length c11]) q rfl rfl (fun l a9 m=>(aD (v:=zB false) (aG (aK (aC (dI (us:=j) cV m (i:=1) rfl rfl rfl rfl) (aF (v:=zS a7 a.length c8) ?_)))))))));obtain ⟨r,u,hm⟩:=aB hm
 refine aR (vs:=[zA (zCa t a1 c2 a4 c5),zS a7 a.length c8]) call73 rfl (nA u m g h o) ?_
 rintro _ b0 ⟨x,y,rfl,z⟩
 refine aC (nH (vs:=[Value.pointer (some ⟨l,0,none⟩),Value.pointer (some ⟨k,0,none⟩)]) rfl) ?_;obtain ⟨b1,e,V,Z,b2⟩:=aJ.lendSp z (zR _) .head
 obtain ⟨b3,d,a0,a2,b4⟩:=aJ.lendBp Z .head
 obtain ⟨b5,c,a3,a5,b6⟩:=aJ.lendBp a2 .head
 obtain ⟨b7,a6,hm⟩:=aB hm
 exact aR (vs:=[zS x r.length y,Value.func (.func 74) #[] #[cS (some ⟨l,0,none⟩) 0,cS (some ⟨k,0,none⟩) 0]]) call72 rfl (lP a6 a5 (V.mono (zL d c)) (a0.mono c) (p.mono (zL (zL e d) c)) a3 (g.mono (zL (zL e d) c)) (h.mono (zL (zL e d) c))) aHU
theorem aAs {spec made:cI} {a b:(List aZ)} {R:(Bool × Int)} (hm:oQ spec made a b=some R) (hs:aJ G K (L) w) (hG:G.lo=0) (h3:cF K a1 c2 spec.L) (h6:cF K a4 c5 spec.E) (z:cF K a7 c8 made.L) (V:cF K a10 c11 made.E) (Z:cF K a13 c14 a) (b7:cF K a16 c17 b):
  Calls prog 8 ([zA (zCa spec a1 c2 a4 c5),zA (zCa made a7 c8 a10 c11),zS a13 a.length c14,zS a16 b.length c17]:List Value).toArray w (eH fun v w'=>v=zT #[zB R.1,i64 R.2]/\aJ G K (L) w'):=by
 let h:=(zC made a7 c8 a10 c11)
 let j:=(zC spec a1 c2 a4 c5)
 refine aS func8 rfl (by kernel_rfl) (by show (4:Nat)<=58;decide) ?_;unfold oQ at hm
 refine aK (fJ (v:=zA (zCa spec a1 c2 a4 c5)) (vs:=j) hs rfl rfl (fun a0 e6 b8=>(fJ (v:=zA (zCa made a7 c8 a10 c11)) (vs:=h) b8 rfl rfl (fun a2 e7 e8=>(aD (v:=zB false) (aD (v:=i64 0) (aG (aO (cN (aO (cP [2,3,4,5] (fun f w=>∃ p,kB spec made a b p=some R/\f 12=zB p/\aJ G K (box a2 27 h::box a0 27 j::L) w) ?_ ?_)))))))))))
 ·rintro f e9 ⟨p,hm,b9,f0⟩
  unfold kB at hm
  refine aA ?_
  rcases aH hm with ⟨a3,hm⟩|⟨a3,hm⟩
  ·exact aHU
  ·refine aI a3 b9 (aO (cP [2,3,4,5] (fun f w=>∃ q,kA spec made a b q=some R/\f 21=zB q/\aJ G K (box a2 27 h::box a0 27 j::L) w) ?_ ?_))
   ·rintro f f1 ⟨q,hm,c0,c1⟩
    unfold kA at hm
    refine aA ?_
    rcases aH hm with ⟨a5,hm⟩|⟨a5,hm⟩
    ·exact aHU
    ·refine aI a5 c0 (aU (aX (aA (aO ?_))));obtain ⟨f2,d,c3,c4,c6⟩:=aJ.lendBp c1 .head
     obtain ⟨c7,c,c9,a6,d0⟩:=aJ.lendBp c4 .head
     refine dT (C:=fun w'=>∃ L',aJ G c7 L' w') [(0,0),(1,0),(3,0),(4,0),(2,1),(5,1),(6,0),(7,0)] bY (by kernel_rfl) (fun _ hg=>⟨_,aJ.mono a6 hg⟩) (fun f3 d1=>?_)
     have k:=aJ.mono a6 d1
     refine bQ rfl (fun _ ⟨_,k⟩=>eI (t:=0) (vs:=j) cV k c9 rfl rfl rfl) (bQ rfl (fun _ _=>bA (v:=zS a13 a.length c14) rfl) (bQ rfl (fun _ ⟨_,k⟩=>eI (t:=0) (vs:=h) cV k (c3.mono c) rfl rfl rfl) (bQ rfl (fun _ _=>bA (v:=zS a13 a.length c14) rfl) (jE rfl ?_))));obtain ⟨l,d2,hm⟩:=aB hm
     refine aR (vs:=[zA (zCa spec a1 c2 a4 c5),zS a13 a.length c14]) call26 rfl (lM d2 k (h3.mono (zL d c)) (h6.mono (zL d c)) (Z.mono (zL d c))) ?_
     rintro _ f4 ⟨r,u,rfl,a8⟩
     refine bB (aA ⟨⟨_,a8⟩,?_⟩)
     refine jE rfl ?_;obtain ⟨e,d3,hm⟩:=aB hm
     refine aR (vs:=[zA (zCa made a7 c8 a10 c11),zS a13 a.length c14]) call26 rfl (lM d3 a8 (z.mono (zL d c)) (V.mono (zL d c)) (Z.mono (zL d c))) ?_
     rintro _ f5 ⟨n,o,rfl,a9⟩
     refine bB (aA ⟨⟨_,a9⟩,?_⟩)
     refine bQ rfl (fun _ _=>cZ (v:=zS r l.length u) rfl) (bQ rfl (fun _ _=>cZ (v:=zS n e.length o) rfl) (iO ?_))
     have d4:=d0 _ _ a9
     have b0:=c6 _ _ d4
     refine aA (aO (cN (aK (aF (v:=zS n e.length o) (aC (bO (len:=e.length) cC rfl) (aC (fA rfl rfl) (aD (v:=zB ((e.length:Int) == 0)) (aG ?_))))))))
     rcases aH hm with ⟨b1,hm⟩|⟨b1,hm⟩
     ·exact aHU
     ·refine aI b1 rfl (aK (aF (v:=zS r l.length u) (aC (bO (len:=l.length) cC rfl) (aC (fA rfl rfl) (aD (v:=zB ((l.length:Int) == 0)) (aG ?_))))))
      rcases aH hm with ⟨b2,hm⟩|⟨b2,hm⟩
      ·exact aHU
      ·refine aI b2 rfl (aU (aX (aA (aO (cP [] (fun f w=>∃ x,jZ x=some R/\f 8=zB x/\f 9=i64 0/\aJ G K (L) w) ?_ ?_)))))
       ·rintro f f6 ⟨x,hm,d5,d6,d7⟩
        unfold jZ at hm
        refine aA ?_;obtain rfl:=zI hm
        exact bH (aIO results8 rfl rfl ⟨(tp2 d5 d6),d7⟩)
       refine aP (aC (dI (us:=h) cV b0 (i:=0) rfl rfl rfl rfl) (aF (v:=zS n e.length o) (aF (v:=zS a16 b.length c17) ?_)));obtain ⟨f7,y,d9,e0,e1⟩:=aJ.lendSp b0 (zR _) zt2
       obtain ⟨e2,e3,hm⟩:=aB hm
       refine aR (vs:=[zA (zCa made a7 c8 a10 c11),zS n e.length o,zS a16 b.length c17]) call27 rfl (aAe e3 e0 (z.mono y) (V.mono y) d9 (b7.mono y)) ?_
       rintro _ f8 ⟨rfl,e4⟩
       have b3:=e1 _ _ e4
       refine aF (v:=zB e2) ?_
       rcases aH hm with ⟨m,hm⟩|⟨m,hm⟩
       ·refine bF m rfl rfl (aC (dI (us:=j) cV b3 (i:=2) rfl rfl rfl rfl) (bF m rfl rfl (aF (v:=zS r l.length u) (bF m rfl rfl (aF (v:=zS a16 b.length c17) (bF m rfl rfl ?_))))));obtain ⟨f9,g0,g1,g2,g3⟩:=aJ.lendSp b3 (zR _) zt3
        exact aHU
       ·exact aHU
   exact aHU
 exact aHU
theorem aFO {t:cI} {n:Int} {R:(cI × Int)} (hm:aCy t n=some R) (e:aJ G K (L) w) (g:G.lo=0) (h:cF K a1 c2 t.L) (i:cF K a4 c5 t.E):
  Calls prog 28 ([zA (zCa t a1 c2 a4 c5),i64 n]:List Value).toArray w (eH fun v w'=>∃ a b c d,v=zT #[zA (zCa R.1 a b c d),i64 R.2]/\aJ G K (aN 9 K a b R.1.L::aN 66 K c d R.1.E::L) w'):=by
 exact aHU
theorem aGv {t:cI} {n:Int} {R:((List (List aZ)) × Int)} (hm:aEg t n=some R) (hs:aJ G K (L) w) (hG:G.lo=0) (h3:cF K a1 c2 t.L) (h6:cF K a4 c5 t.E):
  Calls prog 9 ([zA (zCa t a1 c2 a4 c5),i64 n]:List Value).toArray w (eH fun v w'=>∃ K' j7 j8,v=zT #[zS j7 R.1.length j8,i64 R.2]/\Hp.le K K'/\aJ G K' (aN 24 K' j7 j8 R.1::L) w'):=by
 let c0:=(zC t a1 c2 a4 c5)
 let f2:=[i64 0,i64 0,zS none 0 0]
 refine aS func9 rfl (by kernel_rfl) (by show (2:Nat)<=90;decide) ?_;unfold aEg at hm
 refine aK (fJ (v:=zA (zCa t a1 c2 a4 c5)) (vs:=c0) hs rfl rfl (fun b7 w8 j9=>(aD (v:=zS none 0 0) (aD (v:=i64 0) (aG (aK (aC (dI (us:=c0) cV j9 (i:=0) rfl rfl rfl rfl) (aF (v:=i64 n) ?_))))))));obtain ⟨c,n6,hm⟩:=aB hm
 refine aR (vs:=[zA (zCa t a1 c2 a4 c5),i64 n]) call28 rfl (aFO n6 j9 hG h3 h6) ?_
 rintro _ w2 ⟨a8,a9,a3,a5,rfl,n7⟩
 refine aF (v:=zT #[zA (zCa c.1 a8 a9 a3 a5),i64 c.2]) (aC (bS rfl rfl) (aC (bS rfl rfl) (bZ (vs:=zG) zeroValue27 n7 rfl (fun g8 w3 n8=>(cA (i:=0) (ns:=(zC c.1 a8 a9 a3 a5)) (us:=(zC c.1 a8 a9 a3 a5)) sizeOf27 n8 rfl rfl rfl rfl rfl (cY rfl) rfl rfl (fun f3 (n9:aJ G K (box g8 27 (zC c.1 a8 a9 a3 a5)::aN 9 K a8 a9 c.1.L::aN 66 K a3 a5 c.1.E::box b7 27 c0::L) f3)=>?_))))));obtain ⟨o0,b2,g9,h0⟩:=aJ.giveSp n9 (zR _) zt1
 replace h0:aJ G o0 (box g8 27 (zC c.1 a8 a9 a3 a5)::aN 66 K a3 a5 c.1.E::box b7 27 c0::L) f3:=h0
 obtain ⟨o1,a6,o2,h1⟩:=aJ.giveSp h0 b2 zt1
 replace h1:aJ G o1 (box g8 27 (zC c.1 a8 a9 a3 a5)::box b7 27 c0::L) f3:=h1
 obtain ⟨d1,a0,h2,h4,_⟩:=aJ.lendBp h1 .head
 replace h4:aJ G d1 (box b7 27 c0::L) f3:=h4
 refine aD (v:=i64 c.2) (aG (aO (aK (aF (v:=i64 c.2) (aC (qQ rfl rfl) (aG ?_))))))
 rcases aH hm with ⟨k0,hm⟩|⟨k0,hm⟩
 ·exact aHU
 ·refine aI k0 rfl (aU (aA (aK (aC (dF (vs:=[(0,i64 0)]) (cs:=f2) aFT rfl (by kernel_rfl)) (cB (Kt:=d1) (xs:=([⟨0,0,[]⟩]:List bR)) (cs:=f2) (vs:=[(0,zA #[i64 0,i64 0,zS none 0 0])]) nJ yU rfl rfl h4 rfl (by kernel_rfl) rfl rfl rfl ⟨⟨none,0,rfl,jW _⟩,trivial⟩ (fun k1 o3 (w4:aJ G d1 (aN 62 d1 k1 1 ([⟨0,0,[]⟩]:List bR)::box b7 27 c0::L) o3)=>(aD (v:=zS k1 ([⟨0,0,[]⟩]:List bR).length 1) (aG (aO (aK (aD (v:=i64 0) (aG (aW [] (fun f w=>∃ Z a2 b3 c45,Hp.le d1 Z/\uR a2=some R/\f 8=zS b3 a2.length c45/\aJ G Z (aN 62 Z b3 c45 a2::L) w) ?_ ?_)))))))))))))
  ·rintro f w5 ⟨Z,a2,b3,c45,o4,hm,k2,o5⟩
   unfold uR at hm
   refine aA (aO (aK (aY k2 (aC (bO (len:=a2.length) nJ rfl) (aC (kC rfl rfl) (aG ?_))))))
   rcases aH hm with ⟨k3,hm⟩|⟨k3,hm⟩
   ·exact aHU
   ·refine aI k3 rfl (aU (aA (aK (aD (v:=zS none 0 0) (aG (aO (aK (aY k2 (aC (bO (len:=a2.length) nJ rfl) (aF (v:=i64 0) (aG (aW [] (fun f w=>∃ e4 e5 e6 e7,Hp.le Z e4/\uQ e5=some R/\f 13=zS e6 e5.length e7/\aJ G e4 (aN 24 e4 e6 e7 e5::L) w) ?_ ?_))))))))))))
    ·rintro f w6 ⟨e4,e5,e6,e7,o6,hm,o7,o8⟩
     unfold uQ at hm
     refine aA (aK (aY o7 (aD (v:=zS e6 e5.length e7) (aD (v:=i64 0) (aG ?_)))));obtain rfl:=zI hm
     exact bH (aIO results9 rfl rfl ⟨e4,e6,e7,rfl,(zL (zL (zL (zL b2 a6) a0) o4) o6),o8⟩)
    have w7:=aJ.nil (α:=(List aZ)) o5 24 Z
    obtain ⟨w9,p0,ho⟩:=aB hm
    refine cJ [77,78] p0 (fun d2 h5 f w=>∃ b4 d3 d4,Hp.le Z b4/\f 13=zS d3 d2.length d4/\f 79=i64 h5/\aJ G b4 (aN 24 b4 d3 d4 d2::aN 62 Z b3 c45 a2::L) w) aHU ?_
    ·rintro d2 h5 x0 f x1 hm hr ⟨b4,d3,d4,k4,p1,h7,h8⟩
     unfold aDF at hm
     refine aK (aC (cG h7 rfl) (aG (aO ?_)))
     rcases aH hm with ⟨k5,hm⟩|⟨k5,hm⟩
     ·refine aL k5 rfl (aU (aA (aO (cN (aK ?_)))));obtain ⟨m,h9,hm⟩:=aB hm
      have p2:=cX h8 (i:=1) rfl h9
      refine aC (dD nJ rfl p2 rfl rfl h7 h9) ?_;obtain ⟨x2,p3,p4⟩:=aFi (sz:=3) rfl h8 (i:=1) rfl h9
      obtain ⟨c1,c3,rfl,p5⟩:=p4
      refine aC (R_ldCG (t:=0) (vs:=[i64 m.a,i64 m.b,zS c1 m.trace.length c3]) ag_62 p3 rfl rfl rfl) (bZ (vs:=f2) zeroValue62 h8 rfl (fun p6 x3 p7=>(cA (i:=0) (ns:=[i64 m.a,i64 m.b,zS c1 m.trace.length c3]) (us:=[i64 m.a,i64 m.b,zS c1 m.trace.length c3]) sizeOf62 p7 rfl rfl rfl rfl rfl (cY rfl) rfl rfl (fun k6 (p8:aJ G b4 (box p6 62 [i64 m.a,i64 m.b,zS c1 m.trace.length c3]::aN 24 b4 d3 d4 d2::aN 62 Z b3 c45 a2::L) k6)=>?_))))
      obtain ⟨b5,i0,k7,f4,_⟩:=aJ.lendBp p8 .head
      replace f4:aJ G b5 (aN 24 b4 d3 d4 d2::aN 62 Z b3 c45 a2::L) k6:=f4
      refine aG (aP (aY p1 (aC (bU (k':=0+2) aEB (gY rfl) k7 rfl) (aC (bG (t:=2) eR f4 k7 rfl rfl) (cB (Kt:=b5) (xs:=([m.trace]:List (List aZ))) (cs:=[zS c1 m.trace.length c3]) (vs:=[(0,zS c1 m.trace.length c3)]) iR aEA rfl rfl f4 rfl (by kernel_rfl) rfl rfl rfl ⟨⟨c1,c3,rfl,(p5.mono (zL k4 i0))⟩,trivial⟩ (fun p9 q0 (q1:aJ G b5 (aN 24 b5 p9 1 ([m.trace]:List (List aZ))::aN 24 b4 d3 d4 d2::aN 62 Z b3 c45 a2::L) q0)=>?_))))))
      obtain ⟨k8,q2,hm⟩:=aB hm
      exact tH (i:=0) b5 iR underlying34 aEA rfl rfl q1 rfl i0 (zR _) q2 rfl rfl rfl rfl (fun _ _ _ h=>El.one h) (fun i1 i2 q3 (q4:aJ G b5 (aN 24 b5 i1 i2 k8::aN 62 Z b3 c45 a2::L) q3)=>(aD (v:=zS i1 k8.length i2) (bB (aX (aA (aP (aC (cE h7 rfl) (aF (v:=i64 (wr (h5+1))) (aG ⟨_,(zI hm).symm,aM,b5,i1,i2,(zL k4 i0),rfl,rfl,q4⟩)))))))))
     ·exact aHU
  obtain ⟨x4,q5,ho⟩:=aB hm
  refine cJ [1,6] q5 (fun b0 d5 f w=>∃ a7 b6 b8,Hp.le d1 a7/\f 8=zS b6 b0.length b8/\f 9=i64 d5/\aJ G a7 (aN 62 a7 b6 b8 b0::L) w) aHU ?_
  ·rintro b0 d5 i3 f x5 hm hr ⟨a7,b6,b8,x,q6,k9,x6⟩
   unfold aDH at hm
   refine aO (aO (cP [1,6,8,9] (fun f w=>∃ i4,uU n c b0 d5 i4=some i3/\f 35=zB i4/\aJ G a7 (aN 62 a7 b6 b8 b0::L) w) ?_ ?_))
   ·rintro f x7 ⟨i4,hm,q7,i5⟩
    unfold uU at hm
    refine aA ?_
    rcases aH hm with ⟨l0,hm⟩|⟨l0,hm⟩
    ·refine aL l0 q7 (aU (aA (aO (aW [1,6,9] (fun f w=>∃ e8 f5 f6 f7,Hp.le a7 e8/\uS d5 f5=some i3/\f 8=zS f6 f5.length f7/\aJ G e8 (aN 62 e8 f6 f7 f5::L) w) ?_ ?_))))
     ·rintro f x8 ⟨e8,f5,f6,f7,q8,hm,q9,r0⟩
      unfold uS at hm
      exact aA (aP (aY k9 (aC (cE rfl rfl) (aD (v:=i64 (wr (d5+1))) (aG ⟨_,(zI hm).symm,aM,e8,f6,f7,(zL x q8),q9,rfl,r0⟩)))))
     refine aK (aY q6 (aY k9 ?_));obtain ⟨o,i6,hm⟩:=aB hm
     have r1:=cX i5 (i:=0) rfl i6
     refine aC (dD nJ rfl r1 rfl rfl rfl i6) ?_;obtain ⟨x9,r2,r3⟩:=aFi (sz:=3) rfl i5 (i:=0) rfl i6
     obtain ⟨d6,d7,rfl,l1⟩:=r3
     refine aC (R_ldCG (t:=0) (vs:=[i64 o.a,i64 o.b,zS d6 o.trace.length d7]) ag_62 r2 rfl rfl rfl) (bZ (vs:=f2) zeroValue62 i5 rfl (fun r4 y0 r5=>(cA (i:=0) (ns:=[i64 o.a,i64 o.b,zS d6 o.trace.length d7]) (us:=[i64 o.a,i64 o.b,zS d6 o.trace.length d7]) sizeOf62 r5 rfl rfl rfl rfl rfl (cY rfl) rfl rfl (fun i7 (r6:aJ G a7 (box r4 62 [i64 o.a,i64 o.b,zS d6 o.trace.length d7]::aN 62 a7 b6 b8 b0::L) i7)=>?_))))
     obtain ⟨c4,g,d8,c6,_⟩:=aJ.lendBp r6 .head
     replace c6:aJ G c4 (aN 62 a7 b6 b8 b0::L) i7:=c6
     refine aG (aO (aK (aC (bU (k':=0+2) aEB (gY rfl) d8 rfl) (aC (bG (t:=2) eR c6 d8 rfl rfl) (aC (bO (len:=o.trace.length) bX rfl) (aF (v:=i64 n) (aC (fA rfl rfl) (aG ?_))))))))
     rcases aH hm with ⟨i8,hm⟩|⟨i8,hm⟩
     ·refine aL i8 rfl ?_
      have y1:aJ G c4 (aN 62 c4 b6 b8 b0::L) i7:=aJ.weak (i:=0) c6 rfl (fun _ h=>aN.mono g h)
      exact aHU
     ·refine aI i8 rfl (aU (aA (aK (aC (eI (t:=0) (vs:=(zC c.1 a8 a9 a3 a5)) cV c6 (h2.mono (zL x g)) (gY rfl) rfl rfl) (aC (bU (k':=0+0) aAV (gY rfl) d8 rfl) (aC (bG (t:=0) cQ c6 d8 rfl rfl) ?_))))));obtain ⟨k,r7,hm⟩:=aB hm
      refine aR (vs:=[zA (zCa c.1 a8 a9 a3 a5),i64 o.a]) call29 rfl (aCI r7 c6 (g9.mono (zL (zL (zL a6 a0) x) g)) (o2.mono (zL (zL a0 x) g))) ?_
      rintro _ r8 ⟨p,q,rfl,r9⟩
      refine aC (bO (len:=k.length) cL rfl) (aF (v:=i64 0) (aG (aW [1,6,9] (fun f w=>∃ e9 f0 f8 f9,Hp.le c4 e9/\uT d5 f0=some i3/\f 8=zS f8 f0.length f9/\aJ G e9 (aN 62 e9 f8 f9 f0::L) w) ?_ ?_)))
      ·rintro f y2 ⟨e9,f0,f8,f9,s0,hm,s1,s2⟩
       unfold uT at hm
       exact aX (aA ⟨aM,e9,f0,f8,f9,(zL g s0),hm,s1,s2⟩)
      have y3:aJ G c4 (aN 66 K p q k::aN 62 c4 b6 b8 b0::L) r8:=aJ.weak (i:=1) r9 rfl (fun _ h=>aN.mono g h)
      obtain ⟨y4,s3,ho⟩:=aB hm
      refine cJ [1,6,9,10,50,51] s3 (fun y g0 f w=>∃ r z V,Hp.le c4 r/\f 8=zS z y.length V/\f 52=i64 g0/\aJ G r (aN 66 K p q k::aN 62 r z V y::L) w) aHU ?_
      ·rintro y g0 s4 f y5 hm hr ⟨r,z,V,u,s5,i9,j0⟩
       unfold aDG at hm
       refine aK (aC (cG i9 rfl) (aG (aO ?_)))
       rcases aH hm with ⟨l2,hm⟩|⟨l2,hm⟩
       ·refine aL l2 rfl (aU (aA (aO (cN (aK ?_)))));obtain ⟨d,j1,hm⟩:=aB hm
        have s6:=cX j0 (i:=0) rfl j1
        refine aC (dD cL rfl s6 rfl rfl i9 j1) (aC (aAh (t:=0) (vs:=[i64 d.F,i64 d.B,i64 d.To]) kD j0 (i:=0) rfl j1 rfl rfl rfl rfl) (bZ (vs:=[i64 0,i64 0,i64 0]) zeroValue66 j0 rfl (fun s7 y6 s8=>(cA (i:=0) (ns:=[i64 d.F,i64 d.B,i64 d.To]) (us:=[i64 d.F,i64 d.B,i64 d.To]) sizeOf66 s8 rfl rfl rfl rfl rfl (cY rfl) rfl rfl (fun l3 (s9:aJ G r (box s7 66 [i64 d.F,i64 d.B,i64 d.To]::aN 66 K p q k::aN 62 r z V y::L) l3)=>?_)))))
        obtain ⟨b9,l,g1,j2,_⟩:=aJ.lendBp s9 .head
        replace j2:aJ G b9 (aN 66 K p q k::aN 62 r z V y::L) l3:=j2
        refine aG (cP [1,6,9,10,50,51,52] (fun f w=>∃ f1 g2 g3 g4,Hp.le b9 f1/\aAq g0 g2=some s4/\f 8=zS g3 g2.length g4/\aJ G f1 (aN 62 f1 g3 g4 g2::aN 66 K p q k::L) w) ?_ ?_)
        ·rintro f y7 ⟨f1,g2,g3,g4,t0,hm,t1,t2⟩
         unfold aAq at hm
         exact aX (aA (aP (aC (cE i9 rfl) (aF (v:=i64 (wr (g0+1))) (aG ⟨_,(zI hm).symm,aM,f1,g3,g4,(zL (zL u l) t0),t1,rfl,(aJ.arr 2 [1,0] t2 rfl)⟩)))))
        refine xJ (C:=fun w'=>∃ L',aJ G b9 L' w') [] bY (by kernel_rfl) (fun y8 t3=>?_)
        have e:=aJ.mono j2 t3
        refine dZ (i:=0) rfl (by kernel_rfl) ⟨_,e⟩ (fun _ _=>bA s5) (dZ (i:=1) rfl (by kernel_rfl) ⟨_,e⟩ (fun _ _=>bU (k':=0+2) gD (gY rfl) g1 rfl) (dZ (i:=2) rfl (by kernel_rfl) ⟨_,e⟩ (fun _ ⟨_,e⟩=>bG (t:=2) cQ e g1 rfl rfl) (dZ (i:=3) rfl (by kernel_rfl) ⟨_,e⟩ (fun _ _=>bU (k':=0+2) aEB (gY rfl) (d8.mono (zL u l)) rfl) (dZ (i:=4) rfl (by kernel_rfl) ⟨_,e⟩ (fun _ ⟨_,e⟩=>bG (t:=2) eR e (d8.mono (zL u l)) rfl rfl) (dZ (i:=6) rfl (by kernel_rfl) ⟨_,e⟩ (fun _ _=>bU (k':=0+2) eU (gY rfl) (h2.mono (zL (zL (zL x g) u) l)) rfl) (dZ (i:=7) rfl (by kernel_rfl) ⟨_,e⟩ (fun _ ⟨_,e⟩=>bG (t:=2) eR e (h2.mono (zL (zL (zL x g) u) l)) rfl rfl) (dZ (i:=8) rfl (by kernel_rfl) ⟨_,e⟩ (fun _ _=>bU (k':=0+1) hQ (gY rfl) g1 rfl) (dZ (i:=9) rfl (by kernel_rfl) ⟨_,e⟩ (fun _ ⟨_,e⟩=>bG (t:=1) cQ e g1 rfl rfl) ?_))))))))
        obtain ⟨b1,l4,hm⟩:=aB hm
        refine dZ (i:=10) rfl (by kernel_rfl) ⟨_,e⟩ (fun _ _=>cT bX rfl (g9.mono (zL (zL (zL (zL (zL a6 a0) x) g) u) l)) rfl rfl rfl l4) ?_;obtain ⟨y9,t4,t5⟩:=cF.el (sz:=1) rfl g9 l4
        cases t5
        refine dZ (i:=11) rfl (by kernel_rfl) ⟨_,e⟩ (fun _ ⟨_,e⟩=>bG (t:=0) lF e (t4.mono (zL (zL (zL (zL (zL a6 a0) x) g) u) l)) rfl rfl) (lV (i:=5) (j:=12) (by kernel_rfl) rfl rfl ?_ ?_)
        ·obtain ⟨t6,t7,hm⟩:=aB hm
         refine aR (vs:=[zS d6 o.trace.length d7]) call30 rfl (dA t7 e (l1.mono (zL (zL g u) l))) ?_
         rintro _ z0 ⟨t8,t9,rfl,l5⟩
         refine bB (aA ⟨fun _=>⟨_,l5⟩,?_⟩)
         refine cK (i:=12) (by kernel_rfl) rfl (cB (Kt:=K) (xs:=([b1]:List aZ)) (cs:=[str b1]) (vs:=[(0,str b1)]) bX iA rfl rfl l5 rfl (by kernel_rfl) rfl rfl rfl ⟨rfl,trivial⟩ (fun u0 u1 (l6:aJ G b9 (aN 9 K u0 1 ([b1]:List aZ)::aN 9 K t8 t9 t6::aN 66 K p q k::aN 62 r z V y::L) u1)=>(bB (aA ⟨fun _=>⟨_,l6⟩,?_⟩))))
         refine cK (i:=13) (by kernel_rfl) rfl ?_;obtain ⟨c7,u2,hm⟩:=aB hm
         refine dG (i:=0) bX underlying24 iA rfl rfl l6 rfl (zL (zL (zL (zL (zL (zL b2 a6) a0) x) g) u) l) (zL (zL (zL (zL (zL (zL b2 a6) a0) x) g) u) l) u2 rfl rfl rfl rfl (fun _ h=>h) (fun d9 e0 l7 (j3:aJ G b9 (aN 9 K d9 e0 c7::aN 66 K p q k::aN 62 r z V y::L) l7)=>(bB (aA ⟨fun _=>⟨_,j3⟩,?_⟩)))
         refine dZ (i:=14) rfl (by kernel_rfl) ⟨_,j3⟩ (fun _ _=>dF (vs:=[(0,i64 d.To),(2,zS d9 c7.length e0)]) (cs:=[i64 d.To,i64 0,zS d9 c7.length e0]) aFT rfl (by kernel_rfl)) (cK (i:=15) (by kernel_rfl) rfl ?_);obtain ⟨c8,g5,u3,j4⟩:=aJ.giveSp j3 (zL (zL (zL (zL (zL (zL b2 a6) a0) x) g) u) l) .head
         replace j4:aJ G c8 (aN 66 K p q k::aN 62 r z V y::L) l7:=j4
         refine cB (Kt:=c8) (xs:=([⟨d.To,0,c7⟩]:List bR)) (cs:=[i64 d.To,i64 0,zS d9 c7.length e0]) (vs:=[(0,zA #[i64 d.To,i64 0,zS d9 c7.length e0])]) nJ yU rfl rfl j4 rfl (by kernel_rfl) rfl rfl rfl ⟨⟨d9,e0,rfl,u3⟩,trivial⟩ (fun u4 u5 (l8:aJ G c8 (aN 62 c8 u4 1 ([⟨d.To,0,c7⟩]:List bR)::aN 66 K p q k::aN 62 r z V y::L) u5)=>(bB (aA ⟨fun _=>⟨_,(aJ.weakK l8 g5)⟩,?_⟩)))
         refine cK (i:=16) (by kernel_rfl) rfl ?_;obtain ⟨l9,u6,hm⟩:=aB hm
         refine tH (i:=1) c8 nJ underlying63 yU rfl rfl l8 rfl (zL l g5) (zR _) u6 rfl rfl rfl rfl (fun _ _ _ h=>El.one h) (fun m0 m1 u7 (m2:aJ G c8 (aN 66 K p q k::aN 62 c8 m0 m1 l9::L) u7)=>(bB (aA ⟨fun _=>⟨_,(aJ.weakK m2 g5)⟩,?_⟩)))
         exact dZ (i:=17) rfl (by kernel_rfl) ⟨_,(aJ.weakK m2 g5)⟩ (fun _ _=>cZ (v:=zS m0 l9.length m1) rfl) (gU (by kernel_rfl) aHU)
        ·refine cB (Kt:=K) (xs:=([b1]:List aZ)) (cs:=[str b1]) (vs:=[(0,str b1)]) bX iA rfl rfl e rfl (by kernel_rfl) rfl rfl rfl ⟨rfl,trivial⟩ (fun m3 u8 (m4:aJ G b9 (aN 9 K m3 1 ([b1]:List aZ)::aN 66 K p q k::aN 62 r z V y::L) u8)=>(bB (aA ⟨fun _=>⟨_,m4⟩,?_⟩)))
         refine cK (i:=5) (by kernel_rfl) rfl ?_;obtain ⟨u9,v0,hm⟩:=aB hm
         refine aR (vs:=[zS d6 o.trace.length d7]) call30 rfl (dA v0 m4 (l1.mono (zL (zL g u) l))) ?_
         rintro _ v1 ⟨v2,v3,rfl,m5⟩
         refine bB (aA ⟨fun _=>⟨_,m5⟩,?_⟩)
         refine cK (i:=13) (by kernel_rfl) rfl ?_;obtain ⟨c9,v4,hm⟩:=aB hm
         have v5:aJ G b9 (aN 9 K m3 1 ([b1]:List aZ)::aN 9 K v2 v3 u9::aN 66 K p q k::aN 62 r z V y::L) v1:=(aJ.arr 2 [1,0] m5 rfl)
         refine dG (i:=0) bX underlying24 iA rfl rfl v5 rfl (zL (zL (zL (zL (zL (zL b2 a6) a0) x) g) u) l) (zL (zL (zL (zL (zL (zL b2 a6) a0) x) g) u) l) v4 rfl rfl rfl rfl (fun _ h=>h) (fun e1 e2 m6 (j5:aJ G b9 (aN 9 K e1 e2 c9::aN 66 K p q k::aN 62 r z V y::L) m6)=>(bB (aA ⟨fun _=>⟨_,j5⟩,?_⟩)))
         refine dZ (i:=14) rfl (by kernel_rfl) ⟨_,j5⟩ (fun _ _=>dF (vs:=[(0,i64 d.To),(2,zS e1 c9.length e2)]) (cs:=[i64 d.To,i64 0,zS e1 c9.length e2]) aFT rfl (by kernel_rfl)) (cK (i:=15) (by kernel_rfl) rfl ?_);obtain ⟨d0,g6,v6,j6⟩:=aJ.giveSp j5 (zL (zL (zL (zL (zL (zL b2 a6) a0) x) g) u) l) .head
         replace j6:aJ G d0 (aN 66 K p q k::aN 62 r z V y::L) m6:=j6
         refine cB (Kt:=d0) (xs:=([⟨d.To,0,c9⟩]:List bR)) (cs:=[i64 d.To,i64 0,zS e1 c9.length e2]) (vs:=[(0,zA #[i64 d.To,i64 0,zS e1 c9.length e2])]) nJ yU rfl rfl j6 rfl (by kernel_rfl) rfl rfl rfl ⟨⟨e1,e2,rfl,v6⟩,trivial⟩ (fun v7 v8 (m7:aJ G d0 (aN 62 d0 v7 1 ([⟨d.To,0,c9⟩]:List bR)::aN 66 K p q k::aN 62 r z V y::L) v8)=>(bB (aA ⟨fun _=>⟨_,(aJ.weakK m7 g6)⟩,?_⟩)))
         refine cK (i:=16) (by kernel_rfl) rfl ?_;obtain ⟨m8,v9,hm⟩:=aB hm
         refine tH (i:=1) d0 nJ underlying63 yU rfl rfl m7 rfl (zL l g6) (zR _) v9 rfl rfl rfl rfl (fun _ _ _ h=>El.one h) (fun m9 n0 w0 (n1:aJ G d0 (aN 66 K p q k::aN 62 d0 m9 n0 m8::L) w0)=>(bB (aA ⟨fun _=>⟨_,(aJ.weakK n1 g6)⟩,?_⟩)))
         exact dZ (i:=17) rfl (by kernel_rfl) ⟨_,(aJ.weakK n1 g6)⟩ (fun _ _=>cZ (v:=zS m9 m8.length n0) rfl) (gU (by kernel_rfl) aHU)
       ·exact aHU
    ·exact aHU
   exact aHU
end Gv
namespace Gv
open Go.Value renaming slice→zS,bool→zB,agg→zA,tuple→zT
open Option.some renaming inj→zI
open Gv.Hp renaming le_trans→zL,le_refl→zR
open Go Go.Proofs Go.Proofs.Tryz
set_option maxRecDepth 20000
set_option maxHeartbeats 40000000
variable {G:qN} {K Kf:Hp} {L:List gH} {w:World} {a1 a4 a7:Option Addr} {c2 c5 c8:Nat}
theorem aFe {t:cI} {a:(List aZ)} {R:((List Int) × Int)} (hm:aBk t a=some R) (y:aJ G K (L) w) (l:G.lo=0) (m:cF K a1 c2 t.L) (n:cF K a4 c5 t.E) (o:cF K a7 c8 a):
  Calls prog 31 ([zA (zCa t a1 c2 a4 c5),zS a7 a.length c8]:List Value).toArray w (eH fun v w'=>∃ p q,v=zT #[zS p R.1.length q,i64 R.2]/\aJ G K (aN 2 K p q R.1::L) w'):=by
 let e:=(zC t a1 c2 a4 c5)
 refine aS func31 rfl (by kernel_rfl) (by show (2:Nat)<=22;decide) ?_;unfold aBk at hm
 refine aK (fJ (v:=zA (zCa t a1 c2 a4 c5)) (vs:=e) y rfl rfl (fun b2 b3 r=>(aD (v:=zS none 0 0) (aD (v:=i64 0) (aG (aO (cN (aK (aC (dI (us:=e) cV r (i:=0) rfl rfl rfl rfl) ?_)))))))));obtain ⟨z,V,hm⟩:=aB hm
 refine aR (vs:=[zA (zCa t a1 c2 a4 c5)]) call20 rfl (jM V r l m n) ?_
 rintro _ b4 ⟨rfl,u⟩
 refine aC (dE rfl) (aD (v:=zB (!z)) (aG ?_))
 rcases aH hm with ⟨g,hm⟩|⟨g,hm⟩
 ·refine aL g rfl (aK (aD (v:=zS none 0 0) (aD (v:=i64 1) (aG ?_))))
  have Z:=aJ.nil (α:=Int) u 2 K
  obtain rfl:=zI hm
  exact bH (bM (aQ (aIO results31 rfl rfl ⟨none,0,rfl,(aJ.arr 2 [0] Z rfl)⟩)))
 ·refine aI g rfl (aK (aF (v:=zS a7 a.length c8) ?_));obtain ⟨a2,a3,hm⟩:=aB hm
  refine aR (vs:=[zS a7 a.length c8]) call24 rfl (sS a3 u l o) ?_
  rintro _ b5 ⟨rfl,h⟩
  refine aC (dE rfl) (aD (v:=zB (!a2)) (aG ?_))
  rcases aH hm with ⟨j,hm⟩|⟨j,hm⟩
  ·refine aL j rfl (aK (aD (v:=zS none 0 0) (aD (v:=i64 2) (aG ?_))))
   have a5:=aJ.nil (α:=Int) h 2 K
   obtain rfl:=zI hm
   exact bH (bM (aQ (aIO results31 rfl rfl ⟨none,0,rfl,(aJ.arr 2 [0] a5 rfl)⟩)))
  ·refine aI j rfl (aU (aX (aA (aK (aC (dI (us:=e) cV h (i:=0) rfl rfl rfl rfl) (aF (v:=zS a7 a.length c8) ?_))))));obtain ⟨b,a8,hm⟩:=aB hm
   refine aR (vs:=[zA (zCa t a1 c2 a4 c5),zS a7 a.length c8]) call26 rfl (lM a8 h m n o) ?_
   rintro _ b6 ⟨c,d,rfl,x⟩
   refine aD (v:=zS c b.length d) (aG (aO (aK (aF (v:=zS c b.length d) (aC (bO (len:=b.length) cC rfl) (aC (fA rfl rfl) (aG ?_)))))))
   rcases aH hm with ⟨k,hm⟩|⟨k,hm⟩
   ·refine aL k rfl (aK (aD (v:=zS none 0 0) (aD (v:=i64 3) (aG ?_))))
    have a9:=aJ.nil (α:=Int) x 2 K
    obtain rfl:=zI hm
    exact bH (aQ (aIO results31 rfl rfl ⟨none,0,rfl,(aJ.arr 3 [0] a9 rfl)⟩))
   ·refine aI k rfl (aU (aA (aK (aF (v:=zS c b.length d) (aD (v:=zS c b.length d) (aD (v:=i64 0) (aG ?_)))))));obtain rfl:=zI hm
    exact bH (aIO results31 rfl rfl ⟨c,d,rfl,(aJ.arr 2 [0] x rfl)⟩)
theorem jV {b c:(List aZ)} {R:Bool} (hm:fY b c=some R) (j:aJ G K (L) w) (k:cF K a1 c2 b) (l:cF K a4 c5 c):
  Calls prog 78 ([zS a1 b.length c2,zS a4 c.length c5]:List Value).toArray w (eH fun v w'=>v=zB R/\aJ G K (L) w'):=by
 refine aS func78 rfl (by kernel_rfl) (by show (2:Nat)<=26;decide) ?_;unfold fY at hm
 refine aK (aD (v:=zB false) (aG (aO (aK (aF (v:=zS a1 b.length c2) (aC (bO (len:=b.length) bX rfl) (aF (v:=zS a4 c.length c5) (aC (bO (len:=c.length) bX rfl) (aC (qQ rfl rfl) (aG ?_))))))))))
 rcases aH hm with ⟨e,hm⟩|⟨e,hm⟩
 ·refine aL e rfl (aK (aD (v:=zB false) (aG ?_)));obtain rfl:=zI hm
  exact bH (aQ (bI results78 rfl ⟨rfl,j⟩))
 ·refine aI e rfl (aU (aA (aO (aK (aF (v:=zS a1 b.length c2) (aC (bO (len:=b.length) bX rfl) (aF (v:=i64 0) (aG (aW [] (fun f w=>fH=some R/\aJ G K (L) w) ?_ ?_)))))))))
  ·rintro f w9 ⟨hm,q⟩
   unfold fH at hm
   refine aA (aK (aD (v:=zB true) (aG ?_)));obtain rfl:=zI hm
   exact bH (bI results78 rfl ⟨rfl,q⟩)
  obtain ⟨a5,u,ho⟩:=aB hm
  refine dM [0,1,12] u (fun d f w=>f 13=i64 d/\aJ G K (L) w) ?_ ?_
  ·exact ⟨rfl,j⟩
  ·rintro d a6 f a7 hm hr ⟨g,a⟩
   unfold kM at hm
   refine aK (aC (cG g rfl) (aG (aO ?_)))
   rcases aH hm with ⟨h,hm⟩|⟨h,hm⟩
   ·refine aL h rfl (aU (aA (aO (cN (aK (aY g (aD (v:=i64 d) (aG (aO (dO (C:=fun w'=>aJ G K (L) w') bY (by kernel_rfl) (aJ.mono a (dK.drew _)) (bD (fun _ a=>bA (v:=zS a1 b.length c2) rfl) (bD (fun _ a=>bA (v:=i64 d) rfl) ?_))))))))))));obtain ⟨a8,m,hm⟩:=aB hm
    refine bD (fun _ a=>cT bX rfl k rfl rfl rfl m) ?_;obtain ⟨a9,x,y⟩:=cF.el (sz:=1) rfl k m
    cases y
    refine bD (fun _ a=>bG (t:=0) lF a x rfl rfl) (bD (fun _ a=>bA (v:=zS a4 c.length c5) rfl) (bD (fun _ a=>bA (v:=i64 d) rfl) ?_));obtain ⟨b0,n,hm⟩:=aB hm
    refine bD (fun _ a=>cT bX rfl l rfl rfl rfl n) ?_;obtain ⟨b1,z,V⟩:=cF.el (sz:=1) rfl l n
    cases V
    refine bD (fun _ a=>bG (t:=0) lF a z rfl rfl) (bD (fun _ a=>aDN rfl rfl) (dS (fun b2 o=>(aA ?_))))
    rcases aH hm with ⟨i,hm⟩|⟨i,hm⟩
    ·refine aL i rfl (aK (aD (v:=zB false) (aG (bH (bM (aQ (aQ ?_)))))))
     have Z:=hr _ (zI hm).symm
     subst Z
     have hm:(some false)=some R:=ho
     clear hr ho
     obtain rfl:=zI hm
     exact bM (aQ (aQ (bI results78 rfl ⟨rfl,o⟩)))
    ·exact aI i rfl (aU (aX (aA (aP (aC (cE g rfl) (aF (v:=i64 (wr (d+1))) (aG ⟨_,(zI hm).symm,aM,rfl,o⟩)))))))
   ·refine aI h rfl (bV (aT (aT ?_)))
    have a2:=hr _ (zI hm).symm
    subst a2
    have hm:(fH)=some R:=ho
    clear hr ho
    exact bJ (aA ⟨aM,hm,a⟩)
theorem lH {a R:(List (List aZ))} (hm:fL a=some R) (hs:aJ G K (aN 24 Kf a1 c2 a::L) w) (a0:Hp.le Kf K):
  Calls prog 77 ([zS a1 a.length c2,Value.func (.func 78) #[] #[]]:List Value).toArray w (eH fun v w'=>∃ b8 b9,v=zS b8 R.length b9/\aJ G K (aN 24 Kf b8 b9 R::L) w'):=by
 refine aS func77 rfl (by kernel_rfl) (by show (2:Nat)<=66;decide) ?_;unfold fL at hm
 refine aK (aD (v:=zS none 0 0) (aG (aO (aK (aF (v:=zS a1 a.length c2) (aC (bO (len:=a.length) iR rfl) (aC (cG rfl rfl) (aG ?_))))))))
 rcases aH hm with ⟨c3,hm⟩|⟨c3,hm⟩
 ·refine aL c3 rfl (aK (aF (v:=zS a1 a.length c2) (aD (v:=zS a1 a.length c2) (aG ?_))));obtain rfl:=zI hm
  exact bH (aQ (bI results77 rfl ⟨a1,c2,rfl,hs⟩))
 ·refine aI c3 rfl (aU (aA (aO (aK (aD (v:=i64 1) (aG (aW [0] (fun f w=>dP a=some R/\aJ G K (aN 24 Kf a1 c2 a::L) w) ?_ ?_)))))))
  ·rintro f w5 ⟨hm,f7⟩
   unfold dP at hm
   refine aA (aK (aF (v:=zS a1 a.length c2) (aD (v:=zS a1 a.length c2) (aG ?_))));obtain rfl:=zI hm
   exact bH (bI results77 rfl ⟨a1,c2,rfl,f7⟩)
  obtain ⟨k5,f9,ho⟩:=aB hm
  refine dM [0,1] f9 (fun c f w=>f 5=i64 c/\aJ G K (aN 24 Kf a1 c2 a::L) w) ?_ ?_
  ·exact ⟨rfl,hs⟩
  ·rintro c a3 f k6 hm hr ⟨d,c0⟩
   unfold aHr at hm
   refine aO (aK (aY d (aF (v:=zS a1 a.length c2) (aC (bO (len:=a.length) iR rfl) (aC (cG rfl rfl) (aG ?_))))))
   rcases aH hm with ⟨a4,hm⟩|⟨a4,hm⟩
   ·refine aL a4 rfl (aU (aA (aO (aW [0,1] (fun f w=>eT c=some a3/\f 5=i64 c/\aJ G K (aN 24 Kf a1 c2 a::L) w) ?_ ?_))))
    ·rintro f k7 ⟨hm,g0,g1⟩
     unfold eT at hm
     exact aA (aP (aY g0 (aC (cE rfl rfl) (aD (v:=i64 (wr (c+1))) (aG ⟨_,(zI hm).symm,aM,rfl,g1⟩)))))
    refine aO ?_;obtain ⟨g2,k8,a5,c1,g3⟩:=aJ.lendSp c0 a0 .head
    refine dT (C:=fun w'=>∃ L',aJ G g2 L' w') [(0,0),(1,0),(2,0),(3,0),(4,0),(5,0),(6,0),(7,0),(8,0),(9,0),(10,1)] bY (by kernel_rfl) (fun _ hg=>⟨_,aJ.mono c1 hg⟩) (fun k9 g4=>?_)
    have j:=aJ.mono c1 g4
    refine bQ rfl (fun _ _=>bA (v:=Value.func (.func 78) #[] #[]) rfl) (bQ rfl (fun _ _=>bA (v:=zS a1 a.length c2) rfl) (bQ rfl (fun _ _=>bA d) ?_));obtain ⟨c4,a6,hm⟩:=aB hm
    have e:=aAS a5 a6
    refine bQ rfl (fun _ _=>dD iR rfl e rfl rfl rfl a6) ?_;obtain ⟨l0,g5,g6⟩:=cF.el (sz:=1) rfl a5 a6
    obtain ⟨c5,c6,rfl,g7⟩:=g6
    refine bQ rfl (fun _ ⟨_,j⟩=>bG (t:=0) eR j g5 rfl rfl) (bQ rfl (fun _ _=>bA (v:=zS a1 a.length c2) rfl) (bQ rfl (fun _ _=>bA d) (bQ rfl (fun _ _=>iK rfl rfl) ?_)));obtain ⟨c7,c8,hm⟩:=aB hm
    refine bQ rfl (fun _ _=>dD iR rfl e rfl rfl rfl c8) ?_;obtain ⟨l1,g8,g9⟩:=cF.el (sz:=1) rfl a5 c8
    obtain ⟨c9,d0,rfl,h0⟩:=g9
    refine bQ rfl (fun _ ⟨_,j⟩=>bG (t:=0) eR j g8 rfl rfl) (jE rfl ?_);obtain ⟨l2,h1,hm⟩:=aB hm
    refine kG (vs:=[zS c5 c4.length c6,zS c9 c7.length d0]) (caps:=[]) (us:=[zS c5 c4.length c6,zS c9 c7.length d0]) rfl call78 rfl rfl (jV h1 j g7 h0) ?_
    rintro _ l3 ⟨rfl,d1⟩
    refine bB (aA ⟨⟨_,d1⟩,?_⟩)
    refine iO ?_
    have a7:=g3 _ _ d1
    refine aA ?_
    rcases aH hm with ⟨a8,hm⟩|⟨a8,hm⟩
    ·refine aL a8 rfl (aK (aF (v:=zS a1 a.length c2) (aY d ?_)));obtain ⟨g,p,hm⟩:=aB hm
     have q:=aEv a7 (i:=0) rfl
     obtain ⟨k,l,r⟩:=Cut.ex 1 a1 c2 c
     refine aC (qF iR q r rfl rfl rfl p) (aD (v:=zS k g.length l) (aG (aO (aK (aD (v:=i64 1) (aG (aW [] (fun f w=>∃ u x,dQ u x=some a3/\f 0=zS a1 u.length c2/\f 5=i64 x/\aJ G K (aN 24 Kf a1 c2 u::L) w) ?_ ?_)))))))
     ·rintro f l4 ⟨u,x,hm,d2,d3,d4⟩
      unfold dQ at hm
      refine aA (aK (aY d2 (aY d3 ?_)));obtain ⟨l5,h2,hm⟩:=aB hm
      have h3:=aEv d4 (i:=0) rfl
      obtain ⟨l6,l7,d5⟩:=Cut.ex 1 a1 c2 x
      refine aC (qF iR h3 d5 rfl rfl rfl h2) ?_;obtain ⟨d6,d7,hm⟩:=aB hm
      refine WO_clearF iR aEA rfl d4 (i:=0) rfl d5 rfl rfl d7 (fun d8 (d9:aJ G K (aN 24 Kf a1 c2 d6::L) d8)=>(aG (aK (aY (v:=zS a1 d6.length c2) (Eq.trans d2 (congrArg (fun n=>zS a1 n c2) (aCM d7))) (aY d3 ?_)))));obtain ⟨a9,e0,hm⟩:=aB hm
      have h4:=aEv d9 (i:=0) rfl
      obtain ⟨b0,b1,e1⟩:=Cut.ex 1 a1 c2 0
      refine aC (aDS iR h4 e1 rfl rfl rfl e0) (aD (v:=zS b0 a9.length b1) (aG (bH (bM (aQ (aQ (aQ ?_)))))))
      have h5:=hr _ (zI hm).symm
      subst h5
      have hm:(some a9)=some R:=ho
      clear hr ho
      have h6:aJ G K (aN 24 Kf b0 b1 a9::L) d8:=aJ.cutPE d9 (i:=0) rfl e0 e1
      obtain rfl:=zI hm
      exact bM (aQ (aQ (bI results77 rfl ⟨b0,b1,rfl,h6⟩)))
     obtain ⟨l8,h8,ho⟩:=aB hm
     refine jO [1,6] h8 (fun h b y f w=>f 0=zS a1 h.length c2/\f 5=i64 b/\f 7=i64 y/\aJ G K (aN 24 Kf a1 c2 h::L) w) ?_ ?_
     ·exact ⟨rfl,d,rfl,a7⟩
     ·rintro h b y h9 f l9 hm hr ⟨z,V,m,e2⟩
      unfold gZ at hm
      refine aO (aK (aY m (aF (v:=zS k g.length l) (aC (bO (len:=g.length) iR rfl) (aC (cG rfl rfl) (aG ?_))))))
      rcases aH hm with ⟨b2,hm⟩|⟨b2,hm⟩
      ·refine aL b2 rfl (aU (aA (aO (aW [1,6,7] (fun f w=>∃ Z b3,dR y Z b3=some h9/\f 0=zS a1 Z.length c2/\f 5=i64 b3/\aJ G K (aN 24 Kf a1 c2 Z::L) w) ?_ ?_))))
       ·rintro f m0 ⟨Z,b3,hm,i0,i1,i2⟩
        unfold dR at hm
        exact aA (aP (aY m (aC (cE rfl rfl) (aD (v:=i64 (wr (y+1))) (aG ⟨_,(zI hm).symm,aM,i0,i1,rfl,i2⟩)))))
       refine aO ?_;obtain ⟨i3,m1,e3,e4,i4⟩:=aJ.lendSp e2 a0 .head
       refine dT (C:=fun w'=>∃ L',aJ G i3 L' w') [(0,0),(1,0),(2,0),(3,0),(4,0),(5,0),(6,0),(7,0),(8,0),(9,0),(10,1),(11,0)] bY (by kernel_rfl) (fun _ hg=>⟨_,aJ.mono e4 hg⟩) (fun m2 i5=>?_)
       have o:=aJ.mono e4 i5
       refine bQ rfl (fun _ _=>bA (v:=Value.func (.func 78) #[] #[]) rfl) (bQ rfl (fun _ _=>bA (v:=zS k g.length l) rfl) (bQ rfl (fun _ _=>bA m) ?_));obtain ⟨m3,e5,hm⟩:=aB hm
       obtain ⟨b4,e6,hm⟩:=aB hm
       refine bQ rfl (fun _ _=>aBr iR e r p q rfl rfl rfl e5 rfl) ?_;obtain ⟨m4,i6,i7⟩:=cF.el (sz:=1) rfl e3 e6
       obtain ⟨e7,e8,rfl,i8⟩:=i7
       refine bQ rfl (fun _ ⟨_,o⟩=>bG (t:=0) eR o i6 rfl rfl) (bQ rfl (fun _ _=>bA (v:=zS k g.length l) rfl) (bQ rfl (fun _ _=>bA m) (bQ rfl (fun _ _=>iK rfl rfl) ?_)));obtain ⟨m5,i9,hm⟩:=aB hm
       obtain ⟨e9,j0,hm⟩:=aB hm
       refine bQ rfl (fun _ _=>aBr iR e r p q rfl rfl rfl i9 rfl) ?_;obtain ⟨m6,j1,j2⟩:=cF.el (sz:=1) rfl e3 j0
       obtain ⟨f0,f1,rfl,j3⟩:=j2
       refine bQ rfl (fun _ ⟨_,o⟩=>bG (t:=0) eR o j1 rfl rfl) (jE rfl ?_);obtain ⟨m7,j4,hm⟩:=aB hm
       refine kG (vs:=[zS e7 b4.length e8,zS f0 e9.length f1]) (caps:=[]) (us:=[zS e7 b4.length e8,zS f0 e9.length f1]) rfl call78 rfl rfl (jV j4 o i8 j3) ?_
       rintro _ m8 ⟨rfl,f2⟩
       refine bB (aA ⟨⟨_,f2⟩,?_⟩)
       refine bQ rfl (fun _ _=>dE rfl) (iO ?_)
       have b5:=i4 _ _ f2
       refine aA ?_
       rcases aH hm with ⟨b6,hm⟩|⟨b6,hm⟩
       ·refine aL b6 rfl (aK (aY z (aY V (aF (v:=zS k g.length l) (aY m (aC (aBr iR e r p q rfl rfl rfl e5 rfl) ?_))))));obtain ⟨m9,j5,j6⟩:=aFi (sz:=1) rfl b5 (i:=0) rfl e6
        obtain ⟨j7,j8,rfl,j9⟩:=j6
        refine aC (R_ldC (t:=0) (v:=zS j7 b4.length j8) eR j5 rfl rfl) ?_;obtain ⟨n0,f3,hm⟩:=aB hm
        refine aC (dD iR rfl e rfl rfl rfl f3) ?_;obtain ⟨f4,f5,hm⟩:=aB hm
        exact WO_stF (i:=0) sizeOf24 b5 rfl a0 rfl rfl rfl f3 f5 j9 (fun k0 (k1:aJ G K (aN 24 Kf a1 c2 f4::L) k0)=>(aG (aP (aY V (aC (cE rfl rfl) (aD (v:=i64 (wr (b+1))) (bB (aX (aA ⟨aM,f4,wr (b+1),hm,(Eq.trans z (congrArg (fun n=>zS a1 n c2) (iM f5))),rfl,k1⟩)))))))))
       ·exact aI b6 rfl (aU (aX (aA ⟨aM,h,b,hm,z,V,b5⟩)))
      ·refine aI b2 rfl (bV (aT (aT ?_)))
       have k2:=hr _ (zI hm).symm
       subst k2
       have hm:(dQ h b)=some a3:=ho
       clear hr ho
       exact bJ (aA ⟨aM,h,b,hm,z,V,e2⟩)
    ·exact aI a8 rfl (aU (aX (aA ⟨aM,hm,d,a7⟩)))
   ·refine aI a4 rfl (bV (aT (aT ?_)))
    have k3:=hr _ (zI hm).symm
    subst k3
    have hm:(dP a)=some R:=ho
    clear hr ho
    exact bJ (aA ⟨aM,hm,c0⟩)
theorem yO {p b:(List aZ)} {h:Nat} {R:Bool} (hm:nR p b=some R) (c:aJ G K (L) w) (j:cF K a1 c2 p) (i:eY K a4 h [zS a7 b.length c8]) (k:cF K a7 c8 b):
  Calls prog 79 ([zS a1 p.length c2,cS a4 h]:List Value).toArray w (eH fun v w'=>v=zB R/\aJ G K (L) w'):=by
 refine aS func79 rfl (by kernel_rfl) (by show (2:Nat)<=16;decide) ?_;unfold nR at hm
 refine aK (aD (v:=zB false) (aG (aO (cP [] (fun f w=>∃ e,jI e=some R/\f 3=zB e/\aJ G K (L) w) ?_ ?_))))
 ·rintro f r ⟨e,hm,l,m⟩
  unfold jI at hm
  refine aA ?_;obtain rfl:=zI hm
  exact bH (bI results79 rfl ⟨l,m⟩)
 refine aP (aF (v:=zS a1 p.length c2) (aC (bO (len:=p.length) bX rfl) (aC (bG (t:=0) eR c i rfl rfl) (aC (bO (len:=b.length) bX rfl) (aC (cG rfl rfl) (aF (v:=zB (decide ((p.length:Int) < (b.length:Int)))) ?_))))))
 rcases aH hm with ⟨a,hm⟩|⟨a,hm⟩
 ·refine bF a rfl rfl (aF (v:=zS a1 p.length c2) (bF a rfl rfl (aC (bG (t:=0) eR c i rfl rfl) (bF a rfl rfl ?_))));obtain ⟨d,o,hm⟩:=aB hm
  refine aR (vs:=[zS a1 p.length c2,zS a7 b.length c8]) call58 rfl (sW o c j k) ?_
  rintro _ u ⟨x,y,rfl,q⟩
  exact bF a rfl rfl (aC (bO (len:=d.length) bX rfl) (bF a rfl rfl (aC (fA rfl rfl) (aC (bL (v:=zB ((d.length:Int) == 0)) a rfl rfl) (aD (v:=zB ((d.length:Int) == 0)) (aG ⟨aM,(d.length:Int) == 0,hm,rfl,(aJ.arr 1 [] q rfl)⟩))))))
 ·exact aV a rfl rfl (aV a rfl rfl (aV a rfl rfl (aV a rfl rfl (aV a rfl rfl (aC (bP (v:=zB false) a rfl rfl) (aD (v:=zB false) (aG ⟨aM,false,hm,rfl,c⟩)))))))
theorem lQ {b:(List (List aZ))} {d:(List aZ)} {c:Nat} {R:Int} (hm:fU b d=some R) (p:aJ G K (L) w) (j:cF K a1 c2 b) (q:eY K a4 c [zS a7 d.length c8]) (r:cF K a7 c8 d):
  Calls prog 133 ([zS a1 b.length c2,Value.func (.func 79) #[] #[cS a4 c]]:List Value).toArray w (eH fun v w'=>v=i64 R/\aJ G K (L) w'):=by
 refine aS func133 rfl (by kernel_rfl) (by show (2:Nat)<=19;decide) ?_;unfold fU at hm
 refine aK (aD (v:=i64 0) (aG (aO (aK (aF (v:=zS a1 b.length c2) (aC (bO (len:=b.length) iR rfl) (aF (v:=i64 0) (aG (aW [] (fun f w=>dX=some R/\aJ G K (L) w) ?_ ?_)))))))))
 ·rintro f a6 ⟨hm,u⟩
  unfold dX at hm
  refine aA (aK (aD (v:=i64 (-1)) (aG ?_)));obtain rfl:=zI hm
  exact bH (bI results133 rfl ⟨rfl,u⟩)
 obtain ⟨a8,y,ho⟩:=aB hm
 refine dM [0,1,7] y (fun a f w=>f 8=i64 a/\aJ G K (L) w) ?_ ?_
 ·exact ⟨rfl,p⟩
 ·rintro a a9 f b0 hm hr ⟨e,g⟩
  unfold iH at hm
  refine aK (aC (cG e rfl) (aG (aO ?_)))
  rcases aH hm with ⟨h,hm⟩|⟨h,hm⟩
  ·refine aL h rfl (aU (aA (aO (cN (aK (aY e (aD (v:=i64 a) (aG (aK (aF (v:=Value.func (.func 79) #[] #[cS a4 c]) (aF (v:=zS a1 b.length c2) (aF (v:=i64 a) ?_))))))))))));obtain ⟨k,l,hm⟩:=aB hm
   refine aC (cT iR rfl j rfl rfl rfl l) ?_;obtain ⟨b1,z,V⟩:=cF.el (sz:=1) rfl j l
   obtain ⟨m,n,rfl,Z⟩:=V
   refine aC (bG (t:=0) eR g z rfl rfl) ?_;obtain ⟨b2,a0,hm⟩:=aB hm
   refine kG (vs:=[zS m k.length n]) (caps:=[cS a4 c]) (us:=[zS m k.length n,cS a4 c]) rfl call79 rfl rfl (yO a0 g Z q r) ?_
   rintro _ b3 ⟨rfl,o⟩
   refine aG ?_
   rcases aH hm with ⟨i,hm⟩|⟨i,hm⟩
   ·refine aL i rfl (aK (aF (v:=i64 a) (aD (v:=i64 a) (aG (bH (bM (aQ (aQ ?_))))))))
    have a2:=hr _ (zI hm).symm
    subst a2
    have hm:(some a)=some R:=ho
    clear hr ho
    obtain rfl:=zI hm
    exact bM (aQ (aQ (bI results133 rfl ⟨rfl,o⟩)))
   ·exact aI i rfl (aU (aX (aA (aP (aC (cE e rfl) (aF (v:=i64 (wr (a+1))) (aG ⟨_,(zI hm).symm,aM,rfl,o⟩)))))))
  ·refine aI h rfl (bV (aT (aT ?_)))
   have a5:=hr _ (zI hm).symm
   subst a5
   have hm:(dX)=some R:=ho
   clear hr ho
   exact bJ (aA ⟨aM,hm,g⟩)
theorem lD {a:(List (List aZ))} {c:(List aZ)} {b:Nat} {R:Bool} (hm:fI a c=some R) (d:aJ G K (L) w) (e:cF K a1 c2 a) (g:eY K a4 b [zS a7 c.length c8]) (h:cF K a7 c8 c):
  Calls prog 80 ([zS a1 a.length c2,Value.func (.func 79) #[] #[cS a4 b]]:List Value).toArray w (eH fun v w'=>v=zB R/\aJ G K (L) w'):=by
 refine aS func80 rfl (by kernel_rfl) (by show (2:Nat)<=9;decide) ?_;unfold fI at hm
 refine aK (aD (v:=zB false) (aG (aK (aF (v:=zS a1 a.length c2) (aF (v:=Value.func (.func 79) #[] #[cS a4 b]) ?_)))));obtain ⟨i,j,hm⟩:=aB hm
 refine aR (vs:=[zS a1 a.length c2,Value.func (.func 79) #[] #[cS a4 b]]) call133 rfl (lQ j d e g h) ?_
 rintro _ m ⟨rfl,k⟩
 refine aC (nG rfl rfl) (aD (v:=zB (decide (0<=i))) (aG ?_));obtain rfl:=zI hm
 exact bH (bI results80 rfl ⟨rfl,k⟩)
theorem aBn {t:cI} {Z:(List Int)} {R:(List (List aZ))} (hm:sM t Z=some R) (hs:aJ G K (L) w) (h3:cF K a1 c2 t.L) (h6:cF K a4 c5 t.E) (h9:cF K a7 c8 Z):
  Calls prog 32 ([zA (zCa t a1 c2 a4 c5),zS a7 Z.length c8]:List Value).toArray w (eH fun v w'=>∃ K' e4 e5,v=zS e4 R.length e5/\Hp.le K K'/\aJ G K' (aN 24 K' e4 e5 R::L) w'):=by
 let m:=(zC t a1 c2 a4 c5)
 refine aS func32 rfl (by kernel_rfl) (by show (2:Nat)<=48;decide) ?_;unfold sM at hm
 refine aK (fJ (v:=zA (zCa t a1 c2 a4 c5)) (vs:=m) hs rfl rfl (fun b0 l3 e6=>(aD (v:=zS none 0 0) (aG (aK (aD (v:=zS none 0 0) (aG (aO (aK (aC (dI (us:=m) cV e6 (i:=0) rfl rfl rfl rfl) (aF (v:=zS a7 Z.length c8) ?_)))))))))));obtain ⟨a0,f6,hm⟩:=aB hm
 refine aR (vs:=[zA (zCa t a1 c2 a4 c5),zS a7 Z.length c8]) call73 rfl (nA f6 e6 h3 h6 h9) ?_
 rintro _ l4 ⟨b1,b2,rfl,f7⟩
 refine aC (bO (len:=a0.length) cC rfl) (aF (v:=i64 0) (aG (aW [] (fun f w=>∃ a a2 o p,Hp.le K a/\lC a2=some R/\f 5=zS o a2.length p/\aJ G a (aN 24 a o p a2::L) w) ?_ ?_)))
 ·rintro f l5 ⟨a,a2,o,p,f8,hm,e7,f9⟩
  unfold lC at hm
  refine aA (aK (aY e7 ?_));obtain ⟨e8,g0,hm⟩:=aB hm
  refine aR (vs:=[zS o a2.length p,Value.func (.func 76) #[] #[]]) call75 rfl (lib_SortRowsS (Kf:=a) f9 (zR _) g0) ?_
  rintro _ l6 ⟨rfl,g1,g2⟩
  refine aG (aK (aY (v:=zS o e8.length p) (Eq.trans e7 (congrArg (fun n=>zS o n p) g1)) ?_));obtain ⟨b,g3,hm⟩:=aB hm
  refine aR (vs:=[zS o e8.length p,Value.func (.func 78) #[] #[]]) call77 rfl (lH (Kf:=a) g3 g2 (zR _)) ?_
  rintro _ l7 ⟨d,e,rfl,g4⟩
  refine aD (v:=zS d b.length e) (aG (aK (aD (v:=zS none 0 0) (aG (aO (aK (aF (v:=zS d b.length e) (aC (bO (len:=b.length) iR rfl) (aF (v:=i64 0) (aG (aW [] (fun f w=>∃ a3 a5 a6,lA a3=some R/\f 8=zS a5 a3.length a6/\aJ G a (aN 24 a a5 a6 a3::L) w) ?_ ?_)))))))))))
  ·rintro f l8 ⟨a3,a5,a6,hm,g5,g6⟩
   unfold lA at hm
   refine aA (aK (aY g5 (aD (v:=zS a5 a3.length a6) (aG ?_))));obtain rfl:=zI hm
   exact bH (bI results32 rfl ⟨a,a5,a6,rfl,f8,g6⟩)
  have g8:=aJ.nil (α:=(List aZ)) g4 24 a
  obtain ⟨l9,g9,ho⟩:=aB hm
  refine cJ [5,31,32] g9 (fun k b3 f w=>∃ q r,f 8=zS q k.length r/\f 33=i64 b3/\aJ G a (aN 24 a q r k::aN 24 a d e b::L) w) ?_ ?_
  ·exact ⟨none,0,rfl,rfl,g8⟩
  ·rintro k b3 h0 f m0 hm hr ⟨q,r,c0,c1,b4⟩
   unfold vF at hm
   refine aK (aC (cG c1 rfl) (aG (aO ?_)))
   rcases aH hm with ⟨c3,hm⟩|⟨c3,hm⟩
   ·refine aL c3 rfl (aU (aA (aO (aW [5,31,32,33] (fun f w=>∃ b5 b6 b7,lB b3 b5=some h0/\f 8=zS b6 b5.length b7/\aJ G a (aN 24 a b6 b7 b5::aN 24 a d e b::L) w) ?_ ?_))))
    ·rintro f m1 ⟨b5,b6,b7,hm,h1,h2⟩
     unfold lB at hm
     exact aA (aP (aC (cE c1 rfl) (aF (v:=i64 (wr (b3+1))) (aG ⟨_,(zI hm).symm,aM,b6,b7,h1,rfl,h2⟩))))
    refine aK ?_;obtain ⟨c,c4,hm⟩:=aB hm
    have h4:=cX b4 (i:=1) rfl c4
    refine aC (dD iR rfl h4 rfl rfl c1 c4) ?_;obtain ⟨m2,h5,h7⟩:=aFi (sz:=1) rfl b4 (i:=1) rfl c4
    obtain ⟨g,j,rfl,e9⟩:=h7
    refine aC (R_ldC (t:=0) (v:=zS g c.length j) eR h5 rfl rfl) (bZ (vs:=[zS none 0 0]) zeroValue24 b4 rfl (fun u m3 h8=>(cA (i:=0) (ns:=[zS g c.length j]) (us:=[zS g c.length j]) sizeOf24 h8 rfl rfl rfl rfl rfl (cY rfl) rfl rfl (fun i0 (i1:aJ G a (box u 24 [zS g c.length j]::aN 24 a q r k::aN 24 a d e b::L) i0)=>(aG (aK (aC (nH (vs:=[Value.pointer (some ⟨u,0,none⟩)]) rfl) (aD (v:=Value.func (.func 79) #[] #[Value.pointer (some ⟨u,0,none⟩)]) (aG (aK (aF (v:=zS d b.length e) (aF (v:=Value.func (.func 79) #[] #[Value.pointer (some ⟨u,0,none⟩)]) ?_))))))))))))
    obtain ⟨m4,i2,i3,i4,i5⟩:=aJ.lendSp i1 (zR _) zt2
    obtain ⟨m5,f0,i6,i7,i8⟩:=aJ.lendBp i4 .head
    obtain ⟨m6,i9,hm⟩:=aB hm
    refine aR (vs:=[zS d b.length e,Value.func (.func 79) #[] #[cS (some ⟨u,0,none⟩) 0]]) call80 rfl (lD i9 i7 (i3.mono f0) i6 (e9.mono (zL i2 f0))) ?_
    rintro _ m7 ⟨rfl,j0⟩
    have j1:=i8 _ _ j0
    have c6:=i5 _ _ j1
    refine aC (dE rfl) (aG ?_)
    rcases aH hm with ⟨c7,hm⟩|⟨c7,hm⟩
    ·refine aL c7 rfl (aP (aY c0 (aC (dC eR c6 (i:=1) rfl rfl rfl) (cB (Kt:=a) (xs:=([c]:List (List aZ))) (cs:=[zS g c.length j]) (vs:=[(0,zS g c.length j)]) iR aEA rfl rfl c6 rfl (by kernel_rfl) rfl rfl rfl ⟨⟨g,j,rfl,e9⟩,trivial⟩ (fun j2 j3 (j4:aJ G a (aN 24 a j2 1 ([c]:List (List aZ))::aN 24 a d e b::box u 24 [zS g c.length j]::aN 24 a q r k::L) j3)=>?_)))));obtain ⟨c9,j5,hm⟩:=aB hm
     exact tH (i:=2) a iR underlying34 aEA rfl rfl j4 rfl (zR _) (zR _) j5 rfl rfl rfl rfl (fun _ _ _ h=>El.one h) (fun d0 d1 j6 (j7:aJ G a (aN 24 a d e b::box u 24 [zS g c.length j]::aN 24 a d0 d1 c9::L) j6)=>(aD (v:=zS d0 c9.length d1) (bB (aX (aA ⟨aM,c9,d0,d1,hm,rfl,(aJ.arr 3 [2,0] j7 rfl)⟩)))))
    ·exact aI c7 rfl (aU (aX (aA ⟨aM,k,q,r,hm,c0,(aJ.arr 3 [2,0] c6 rfl)⟩)))
   ·refine aI c3 rfl (bV (aT (aT ?_)))
    have j8:=hr _ (zI hm).symm
    subst j8
    have hm:(lA k)=some R:=ho
    clear hr ho
    exact bJ (aA ⟨aM,k,q,r,hm,c0,(aJ.arr 2 [0] b4 rfl)⟩)
 have j9:=aJ.nil (α:=(List aZ)) f7 24 K
 obtain ⟨m8,k0,ho⟩:=aB hm
 refine cJ [2,14,15] k0 (fun x d2 f w=>∃ y z V,Hp.le K y/\f 5=zS z x.length V/\f 16=i64 d2/\aJ G y (aN 24 y z V x::aN 2 K b1 b2 a0::box b0 27 m::L) w) ?_ ?_
 ·exact ⟨K,none,0,(zR _),rfl,rfl,j9⟩
 ·rintro x d2 m9 f n0 hm hr ⟨y,z,V,a8,f1,d3,a9⟩
  unfold vG at hm
  refine aK (aC (cG d3 rfl) (aG (aO ?_)))
  rcases aH hm with ⟨d4,hm⟩|⟨d4,hm⟩
  ·refine aL d4 rfl (aU (aA (aO (cN (aK ?_)))));obtain ⟨d5,d6,hm⟩:=aB hm
   have k1:=cX a9 (i:=1) rfl d6
   refine aC (dD cC rfl k1 rfl rfl d3 d6) (aC (gX (t:=0) cQ a9 (i:=1) rfl d6 rfl rfl rfl) (aD (v:=i64 d5) (aG (aP (aY f1 (aC (dI (us:=m) cV a9 (i:=2) rfl rfl rfl rfl) (aF (v:=i64 d5) ?_)))))));obtain ⟨b8,k2,hm⟩:=aB hm
   refine aR (vs:=[zA (zCa t a1 c2 a4 c5),i64 d5]) call59 rfl (gG k2 a9 (h3.mono a8) (h6.mono a8)) ?_
   rintro _ k3 ⟨d7,d8,rfl,k4⟩
   obtain ⟨l,f2,k5,d9⟩:=aJ.giveSp k4 a8 .head
   replace d9:aJ G l (aN 24 y z V x::aN 2 K b1 b2 a0::box b0 27 m::L) k3:=d9
   refine cB (Kt:=l) (xs:=([b8]:List (List aZ))) (cs:=[zS d7 b8.length d8]) (vs:=[(0,zS d7 b8.length d8)]) iR aEA rfl rfl d9 rfl (by kernel_rfl) rfl rfl rfl ⟨⟨d7,d8,rfl,k5⟩,trivial⟩ (fun k6 k7 (k8:aJ G l (aN 24 l k6 1 ([b8]:List (List aZ))::aN 24 y z V x::aN 2 K b1 b2 a0::box b0 27 m::L) k7)=>?_);obtain ⟨f3,k9,hm⟩:=aB hm
   exact tH (i:=0) l iR underlying34 aEA rfl rfl k8 rfl f2 (zR _) k9 rfl rfl rfl rfl (fun _ _ _ h=>El.one h) (fun e0 e1 l0 (l1:aJ G l (aN 24 l e0 e1 f3::aN 2 K b1 b2 a0::box b0 27 m::L) l0)=>(aD (v:=zS e0 f3.length e1) (bB (aX (aA (aP (aC (cE d3 rfl) (aF (v:=i64 (wr (d2+1))) (aG ⟨_,(zI hm).symm,aM,l,e0,e1,(zL a8 f2),rfl,rfl,l1⟩)))))))))
  ·refine aI d4 rfl (bV (aT (aT ?_)))
   have l2:=hr _ (zI hm).symm
   subst l2
   have hm:(lC x)=some R:=ho
   clear hr ho
   exact bJ (aA ⟨aM,y,x,z,V,a8,hm,f1,(aJ.arr 3 [0] a9 rfl)⟩)
theorem qM {t:cI} {b:(List aZ)} {R:((List (List aZ)) × Int)} (hm:lZ t b=some R) (x:aJ G K (L) w) (y:G.lo=0) (m:cF K a1 c2 t.L) (n:cF K a4 c5 t.E) (z:cF K a7 c8 b):
  Calls prog 10 ([zA (zCa t a1 c2 a4 c5),zS a7 b.length c8]:List Value).toArray w (eH fun v w'=>∃ g o p,v=zT #[zS o R.1.length p,i64 R.2]/\Hp.le K g/\aJ G g (aN 24 g o p R.1::L) w'):=by
 let c:=(zC t a1 c2 a4 c5)
 refine aS func10 rfl (by kernel_rfl) (by show (2:Nat)<=20;decide) ?_;unfold lZ at hm
 refine aK (fJ (v:=zA (zCa t a1 c2 a4 c5)) (vs:=c) x rfl rfl (fun V b4 q=>(aD (v:=zS none 0 0) (aD (v:=i64 0) (aG (aK (aC (dI (us:=c) cV q (i:=0) rfl rfl rfl rfl) (aF (v:=zS a7 b.length c8) ?_))))))));obtain ⟨a,Z,hm⟩:=aB hm
 refine aR (vs:=[zA (zCa t a1 c2 a4 c5),zS a7 b.length c8]) call31 rfl (aFe Z q y m n z) ?_
 rintro _ a0 ⟨d,e,rfl,h⟩
 refine aF (v:=zT #[zS d a.1.length e,i64 a.2]) (aC (bS rfl rfl) (aC (bS rfl rfl) (aD (v:=zS d a.1.length e) (aD (v:=i64 a.2) (aG (aO (aK (aF (v:=i64 a.2) (aC (qQ rfl rfl) (aG ?_))))))))))
 rcases aH hm with ⟨j,hm⟩|⟨j,hm⟩
 ·refine aL j rfl (aK (aF (v:=i64 a.2) (aD (v:=zS none 0 0) (aD (v:=i64 a.2) (aG ?_)))))
  have a2:=aJ.nil (α:=(List aZ)) h 24 K
  obtain rfl:=zI hm
  exact bH (aQ (aIO results10 rfl rfl ⟨K,none,0,rfl,(zR _),(aJ.arr 3 [0] a2 rfl)⟩))
 ·refine aI j rfl (aU (aA (aK (aC (dI (us:=c) cV h (i:=1) rfl rfl rfl rfl) (aF (v:=zS d a.1.length e) ?_)))));obtain ⟨a5,k,a6,l⟩:=aJ.giveSp h (zR _) .head
  replace l:aJ G a5 (box V 27 c::L) a0:=l
  obtain ⟨a8,a9,hm⟩:=aB hm
  refine aR (vs:=[zA (zCa t a1 c2 a4 c5),zS d a.1.length e]) call32 rfl (aBn a9 l (m.mono k) (n.mono k) a6) ?_
  rintro _ b5 ⟨b0,r,u,rfl,b1,b2⟩
  refine aD (v:=zS r a8.length u) (aD (v:=i64 0) (aG ?_));obtain rfl:=zI hm
  exact bH (aIO results10 rfl rfl ⟨b0,r,u,rfl,(zL k b1),(aJ.arr 2 [0] b2 rfl)⟩)
theorem aFP {a b:(List aZ)} {R:Bool} (hm:aCB a b=some R) (hs:aJ G K (L) w) (x:cF K a1 c2 a) (y:cF K a4 c5 b):
  Calls prog 11 ([zS a1 a.length c2,zS a4 b.length c5]:List Value).toArray w (eH fun v w'=>v=zB R/\aJ G K (L) w'):=by
 refine aS func11 rfl (by kernel_rfl) (by show (2:Nat)<=34;decide) ?_;unfold aCB at hm
 refine aK (aD (v:=zB false) (aG (aO (aK (aD (v:=i64 0) (aG (aW [] (fun f w=>sO=some R/\aJ G K (L) w) ?_ ?_)))))))
 ·rintro f w7 ⟨hm,a5⟩
  unfold sO at hm
  refine aA (aK (aD (v:=zB true) (aG ?_)));obtain rfl:=zI hm
  exact bH (bI results11 rfl ⟨rfl,a5⟩)
 obtain ⟨c7,a7,ho⟩:=aB hm
 refine dM [0,1] a7 (fun e f w=>f 5=i64 e/\aJ G K (L) w) ?_ ?_
 ·exact ⟨rfl,hs⟩
 ·rintro e j f c8 hm hr ⟨k,z⟩
  unfold aCA at hm
  refine aO (aK (aY k (aF (v:=zS a1 a.length c2) (aC (bO (len:=a.length) bX rfl) (aC (cG rfl rfl) (aG ?_))))))
  rcases aH hm with ⟨l,hm⟩|⟨l,hm⟩
  ·refine aL l rfl (aU (aA (aO (aW [0,1,5] (fun f w=>yD e=some j/\aJ G K (L) w) ?_ ?_))))
   ·rintro f c9 ⟨hm,a8⟩
    unfold yD at hm
    exact aA (aP (aY k (aC (cE rfl rfl) (aD (v:=i64 (wr (e+1))) (aG ⟨_,(zI hm).symm,aM,rfl,a8⟩)))))
   refine aK (aD (v:=zB false) (aG (aO (aK (aD (v:=i64 0) (aG (aW [0,1,5] (fun f w=>∃ m,sP e m=some j/\f 6=zB m/\aJ G K (L) w) ?_ ?_)))))))
   ·rintro f d0 ⟨m,hm,a9,V⟩
    unfold sP at hm
    refine aA (aK (aY a9 (aC (dE rfl) (aG ?_))))
    rcases aH hm with ⟨n,hm⟩|⟨n,hm⟩
    ·refine aL n rfl (aK (aD (v:=zB false) (aG (bH (bM (aQ (aQ (aQ ?_))))))))
     have b0:=hr _ (zI hm).symm
     subst b0
     have hm:(some false)=some R:=ho
     clear hr ho
     obtain rfl:=zI hm
     exact bM (aQ (aQ (bI results11 rfl ⟨rfl,V⟩)))
    ·exact aI n rfl (aU (aX (aA ⟨aM,hm,V⟩)))
   obtain ⟨d1,b2,ho⟩:=aB hm
   refine cJ [0,1,5] b2 (fun h i f w=>f 6=zB h/\f 7=i64 i/\aJ G K (L) w) ?_ ?_
   ·exact ⟨rfl,rfl,z⟩
   ·rintro h i b3 f d2 hm hr ⟨Z,o,d⟩
    unfold aCz at hm
    refine aO (aK (aY o (aF (v:=zS a4 b.length c5) (aC (bO (len:=b.length) bX rfl) (aC (cG rfl rfl) (aG ?_))))))
    rcases aH hm with ⟨p,hm⟩|⟨p,hm⟩
    ·refine aL p rfl (aU (aA (aO (cN (cP [0,1,5,7] (fun f w=>∃ q,sQ i q=some b3/\f 6=zB q/\aJ G K (L) w) ?_ ?_)))))
     ·rintro f d3 ⟨q,hm,b4,b5⟩
      unfold sQ at hm
      exact aX (aA (aP (aY o (aC (cE rfl rfl) (aD (v:=i64 (wr (i+1))) (aG ⟨_,(zI hm).symm,aM,b4,rfl,b5⟩))))))
     refine dO (C:=fun w'=>aJ G K (L) w') bY (by kernel_rfl) (aJ.mono d (dK.drew _)) (bD (fun _ d=>bA Z) (bD (fun _ d=>bA (v:=zB h) rfl) ?_))
     rcases aH hm with ⟨c,hm⟩|⟨c,hm⟩
     ·exact bE (g:=21) rfl rfl (cD c) (bE (g:=21) rfl rfl (cD c) (bE (g:=21) rfl rfl (cD c) (bE (g:=21) rfl rfl (cD c) (bE (g:=21) rfl rfl (cD c) (bE (g:=21) rfl rfl (cD c) (bE (g:=21) rfl rfl (cD c) (bE (g:=21) rfl rfl (cD c) (bE (g:=21) rfl rfl (cD c) (bD (fun _ d=>bL (v:=zB true) c rfl rfl) (bD (fun _ d=>cZ (v:=zB true) rfl) (dS (fun d4 b6=>(aA ⟨aM,true,hm,rfl,b6⟩)))))))))))))
     ·refine bW (g:=21) rfl rfl (cH c) (bD (fun _ d=>bA (v:=zS a1 a.length c2) rfl) (bW (g:=21) rfl rfl (cH c) (bD (fun _ d=>bA k) (bW (g:=21) rfl rfl (cH c) ?_))));obtain ⟨r,a0,hm⟩:=aB hm
      refine bD (fun _ d=>cT bX rfl x rfl rfl rfl a0) ?_;obtain ⟨d5,b7,b8⟩:=cF.el (sz:=1) rfl x a0
      cases b8
      refine bW (g:=21) rfl rfl (cH c) (bD (fun _ d=>bG (t:=0) lF d b7 rfl rfl) (bW (g:=21) rfl rfl (cH c) (bD (fun _ d=>bA (v:=zS a4 b.length c5) rfl) (bW (g:=21) rfl rfl (cH c) (bD (fun _ d=>bA o) (bW (g:=21) rfl rfl (cH c) ?_))))));obtain ⟨u,a2,hm⟩:=aB hm
      refine bD (fun _ d=>cT bX rfl y rfl rfl rfl a2) ?_;obtain ⟨d6,b9,c0⟩:=cF.el (sz:=1) rfl y a2
      cases c0
      exact bW (g:=21) rfl rfl (cH c) (bD (fun _ d=>bG (t:=0) lF d b9 rfl rfl) (bW (g:=21) rfl rfl (cH c) (bD (fun _ d=>sY rfl rfl) (bD (fun _ d=>bP (v:=zB (r == u)) c rfl rfl) (bD (fun _ d=>cZ (v:=zB (r == u)) rfl) (dS (fun d7 c1=>(aA ⟨aM,r == u,hm,rfl,c1⟩))))))))
    ·refine aI p rfl (bV (aT (aT ?_)))
     have c3:=hr _ (zI hm).symm
     subst c3
     have hm:(sP e h)=some j:=ho
     clear hr ho
     exact bJ (aA ⟨aM,h,hm,Z,d⟩)
  ·refine aI l rfl (bV (aT (aT ?_)))
   have c4:=hr _ (zI hm).symm
   subst c4
   have hm:(sO)=some R:=ho
   clear hr ho
   exact bJ (aA ⟨aM,hm,z⟩)
theorem aFf {b8:(List UInt8)} {R:Bool} (hm:aFa b8=some R) (hs:aJ G K (L) w) (hG:G.lo=0) (h3:cF K a1 c2 b8):
  Calls prog 3 ([zS a1 b8.length c2]:List Value).toArray w (eH fun v w'=>v=zB R/\aJ G K (L) w'):=by
 let f0:=zG
 refine aS func3 rfl (by kernel_rfl) (by show (1:Nat)<=154;decide) ?_;unfold aFa at hm
 refine aK (aD (v:=zB false) (aG (aO (aK (aF (v:=zS a1 b8.length c2) ?_)))));obtain ⟨r4,q5,hm⟩:=aB hm
 refine aR (vs:=[zS a1 b8.length c2]) call4 rfl (aHa q5 hs h3) ?_
 rintro _ w6 ⟨rfl,i9⟩
 refine aG ?_
 rcases aH hm with ⟨c8,hm⟩|⟨c8,hm⟩
 ·refine aL c8 rfl (aK (aD (v:=zB true) (aG ?_)));obtain rfl:=zI hm
  exact bH (aQ (bI results3 rfl ⟨rfl,i9⟩))
 ·refine aI c8 rfl (aU (aA (aK (aF (v:=zS a1 b8.length c2) ?_))));obtain ⟨a,m2,hm⟩:=aB hm
  refine aR (vs:=[zS a1 b8.length c2]) call5 rfl (aHj m2 i9 h3) ?_
  rintro _ u5 ⟨n,o,k,l,d,e,b,c,rfl,m3⟩
  refine aF (v:=zT #[zA (zCa a.1 n o k l),zA (zCa a.2 d e b c)]) (aC (bS rfl rfl) (aC (bS rfl rfl) (bZ (vs:=f0) zeroValue27 m3 rfl (fun b5 u6 m4=>(bZ (vs:=f0) zeroValue27 m4 rfl (fun b3 u7 m5=>(cA (i:=1) (ns:=(zC a.1 n o k l)) (us:=(zC a.1 n o k l)) sizeOf27 m5 rfl rfl rfl rfl rfl (cY rfl) rfl rfl (fun m6 (m7:aJ G K (box b3 27 f0::box b5 27 (zC a.1 n o k l)::aN 9 K n o a.1.L::aN 66 K k l a.1.E::aN 9 K d e a.2.L::aN 66 K b c a.2.E::L) m6)=>(cA (i:=0) (ns:=(zC a.2 d e b c)) (us:=(zC a.2 d e b c)) sizeOf27 m7 rfl rfl rfl rfl rfl (cY rfl) rfl rfl (fun d2 (f2:aJ G K (box b3 27 (zC a.2 d e b c)::box b5 27 (zC a.1 n o k l)::aN 9 K n o a.1.L::aN 66 K k l a.1.E::aN 9 K d e a.2.L::aN 66 K b c a.2.E::L) d2)=>(aG (aK (aC (dI (us:=(zC a.1 n o k l)) cV f2 (i:=1) rfl rfl rfl rfl) (aC (dI (us:=(zC a.2 d e b c)) cV f2 (i:=0) rfl rfl rfl rfl) ?_))))))))))))))
  obtain ⟨m8,a5,d9,f3⟩:=aJ.giveSp f2 (zR _) zt2
  replace f3:aJ G m8 (box b3 27 (zC a.2 d e b c)::box b5 27 (zC a.1 n o k l)::aN 66 K k l a.1.E::aN 9 K d e a.2.L::aN 66 K b c a.2.E::L) d2:=f3
  obtain ⟨m9,a2,e0,f4⟩:=aJ.giveSp f3 a5 zt2
  replace f4:aJ G m9 (box b3 27 (zC a.2 d e b c)::box b5 27 (zC a.1 n o k l)::aN 9 K d e a.2.L::aN 66 K b c a.2.E::L) d2:=f4
  obtain ⟨n0,x,b9,f5⟩:=aJ.giveSp f4 (zL a5 a2) zt2
  replace f5:aJ G n0 (box b3 27 (zC a.2 d e b c)::box b5 27 (zC a.1 n o k l)::aN 66 K b c a.2.E::L) d2:=f5
  obtain ⟨n1,m,c0,f6⟩:=aJ.giveSp f5 (zL (zL a5 a2) x) zt2
  replace f6:aJ G n1 (box b3 27 (zC a.2 d e b c)::box b5 27 (zC a.1 n o k l)::L) d2:=f6
  obtain ⟨r,n2,hm⟩:=aB hm
  refine aR (vs:=[zA (zCa a.1 n o k l),zA (zCa a.2 d e b c)]) call6 rfl (sX (spec:=⟨a.1.N,a.1.I,a.1.L,a.1.E⟩) (made:=⟨a.2.N,a.2.I,a.2.L,a.2.E⟩) n2 f6 hG (d9.mono (zL (zL a2 x) m)) (e0.mono (zL x m)) (b9.mono m) c0) ?_
  rintro _ u8 ⟨u9,e1,e2,e3,e4,rfl,h,n3,n4,f7⟩
  refine aF (v:=zT #[zB r.1,zS e1 r.2.1.length e2,zS e3 r.2.2.1.length e4,i64 r.2.2.2]) (aC (bS rfl rfl) (aC (bS rfl rfl) (aC (bS rfl rfl) (aC (bS rfl rfl) (aD (v:=zB r.1) (aD (v:=zS e1 r.2.1.length e2) (aD (v:=zS e3 r.2.2.1.length e4) (aD (v:=i64 r.2.2.2) (aG (aK (aC (dI (us:=(zC a.2 d e b c)) cV f7 (i:=0) rfl rfl rfl rfl) (aC (dI (us:=(zC a.2 d e b c)) cV f7 (i:=0) rfl rfl rfl rfl) ?_))))))))))))
  obtain ⟨a3,n5,hm⟩:=aB hm
  refine aR (vs:=[zA (zCa a.2 d e b c),zA (zCa a.2 d e b c)]) call6 rfl (sX n5 f7 hG (b9.mono (zL m h)) (c0.mono h) (b9.mono (zL m h)) (c0.mono h)) ?_
  rintro _ v0 ⟨j0,j1,j2,j3,j4,rfl,j,v1,v2,j5⟩
  refine aF (v:=zT #[zB a3.1,zS j1 a3.2.1.length j2,zS j3 a3.2.2.1.length j4,i64 a3.2.2.2]) (aC (bS rfl rfl) (aC (bS rfl rfl) (aC (bS rfl rfl) (aC (bS rfl rfl) (aD (v:=zB a3.1) (aD (v:=zS j1 a3.2.1.length j2) (aD (v:=zS j3 a3.2.2.1.length j4) (aD (v:=i64 a3.2.2.2) (aG (aO (aO (cP [3,4,5,6,7,8,9] (fun f w=>∃ f8,oL a r a3 f8=some R/\f 57=zB f8/\aJ G j0 (box b3 27 (zC a.2 d e b c)::box b5 27 (zC a.1 n o k l)::L) w) ?_ ?_))))))))))))
  ·rintro f v3 ⟨f8,hm,j6,b4⟩
   unfold oL at hm
   refine aA ?_
   rcases aH hm with ⟨f9,hm⟩|⟨f9,hm⟩
   ·refine aL f9 j6 (aK (aC (dI (us:=(zC a.1 n o k l)) cV b4 (i:=1) rfl rfl rfl rfl) (aC (dI (us:=(zC a.2 d e b c)) cV b4 (i:=0) rfl rfl rfl rfl) ?_)));obtain ⟨a6,n6,hm⟩:=aB hm
    refine aR (vs:=[zA (zCa a.1 n o k l),zA (zCa a.2 d e b c)]) call7 rfl (aBm n6 b4 (d9.mono (zL (zL (zL (zL a2 x) m) h) j)) (e0.mono (zL (zL (zL x m) h) j)) (b9.mono (zL (zL m h) j)) (c0.mono (zL h j))) ?_
    rintro _ v4 ⟨j7,j8,j9,k0,rfl,n7⟩
    refine aF (v:=zT #[zB a6.1,zS j7 a6.2.1.length j8,zS j9 a6.2.2.1.length k0,i64 a6.2.2.2]) (aC (bS rfl rfl) (aC (bS rfl rfl) (aC (bS rfl rfl) (aC (bS rfl rfl) (aD (v:=zB a6.1) (aD (v:=zS j7 a6.2.1.length j8) (aD (v:=zS j9 a6.2.2.1.length k0) (aD (v:=i64 a6.2.2.2) (aG (aK (aF (v:=i64 r.2.2.2) (aF (v:=i64 a6.2.2.2) (aC (fA rfl rfl) (aD (v:=zB (r.2.2.2 == a6.2.2.2)) (aG ?_)))))))))))))));obtain rfl:=zI hm
    exact bH (aQ (bI results3 rfl ⟨rfl,(aJ.weakK (aJ.arr 4 [] n7 rfl) (zL (zL (zL (zL (zL a5 a2) x) m) h) j))⟩))
   ·refine aI f9 j6 (aU (aA (aO (aK (aF (v:=zB a3.1) (aC (dE rfl) (aG ?_)))))))
    rcases aH hm with ⟨g0,hm⟩|⟨g0,hm⟩
    ·refine aL g0 rfl (aK (aD (v:=zB false) (aG ?_)));obtain rfl:=zI hm
     exact bH (aQ (bI results3 rfl ⟨rfl,(aJ.weakK (aJ.arr 2 [] b4 rfl) (zL (zL (zL (zL (zL a5 a2) x) m) h) j))⟩))
    ·refine aI g0 rfl (aU (aA (aO (aK (aF (v:=zB r.1) (aC (dE rfl) (aG ?_)))))))
     rcases aH hm with ⟨g1,hm⟩|⟨g1,hm⟩
     ·refine aL g1 rfl (aK (aC (dI (us:=(zC a.1 n o k l)) cV b4 (i:=1) rfl rfl rfl rfl) (aC (dI (us:=(zC a.2 d e b c)) cV b4 (i:=0) rfl rfl rfl rfl) (aF (v:=zS e1 r.2.1.length e2) (aF (v:=zS e3 r.2.2.1.length e4) ?_)))));obtain ⟨a7,o0,hm⟩:=aB hm
      refine aR (vs:=[zA (zCa a.1 n o k l),zA (zCa a.2 d e b c),zS e1 r.2.1.length e2,zS e3 r.2.2.1.length e4]) call8 rfl (aAs o0 b4 hG (d9.mono (zL (zL (zL (zL a2 x) m) h) j)) (e0.mono (zL (zL (zL x m) h) j)) (b9.mono (zL (zL m h) j)) (c0.mono (zL h j)) (n3.mono j) (n4.mono j)) ?_
      rintro _ v5 ⟨rfl,k1⟩
      refine aF (v:=zT #[zB a7.1,i64 a7.2]) (aC (bS rfl rfl) (aC (bS rfl rfl) (aD (v:=zB a7.1) (aD (v:=i64 a7.2) (aG (aO (cP [] (fun f w=>∃ g2,pX g2=some R/\f 2=zB g2/\aJ G j0 (L) w) ?_ ?_)))))))
      ·rintro f v6 ⟨g2,hm,o1,o2⟩
       unfold pX at hm
       refine aA ?_;obtain rfl:=zI hm
       exact bH (aQ (bI results3 rfl ⟨o1,(aJ.weakK o2 (zL (zL (zL (zL (zL a5 a2) x) m) h) j))⟩))
      refine aP (aF (v:=i64 a7.2) (aC (fA rfl rfl) (aF (v:=zB (a7.2 == 0)) ?_)))
      rcases aH hm with ⟨d3,hm⟩|⟨d3,hm⟩
      ·exact bF d3 rfl rfl (aF (v:=zB a7.1) (aC (bL (v:=zB a7.1) d3 rfl rfl) (aD (v:=zB a7.1) (aG ⟨aM,a7.1,hm,rfl,(aJ.arr 2 [] k1 rfl)⟩))))
      ·exact aV d3 rfl rfl (aC (bP (v:=zB false) d3 rfl rfl) (aD (v:=zB false) (aG ⟨aM,false,hm,rfl,(aJ.arr 2 [] k1 rfl)⟩)))
     ·refine aI g1 rfl (aU (aA (aK (aC (dI (us:=(zC a.2 d e b c)) cV b4 (i:=0) rfl rfl rfl rfl) ?_))));obtain ⟨y,o4,hm⟩:=aB hm
      refine aR (vs:=[zA (zCa a.2 d e b c),i64 2]) call9 rfl (aGv o4 b4 hG (b9.mono (zL (zL m h) j)) (c0.mono (zL h j))) ?_
      rintro _ g3 ⟨v7,c7,c9,rfl,b6,o5⟩
      refine aF (v:=zT #[zS c7 y.1.length c9,i64 y.2]) (aC (bS rfl rfl) (aC (bS rfl rfl) (aD (v:=zS c7 y.1.length c9) ?_)));obtain ⟨k2,b7,g4,e5⟩:=aJ.giveSp o5 (zR _) .head
      replace e5:aJ G k2 (box b3 27 (zC a.2 d e b c)::box b5 27 (zC a.1 n o k l)::L) g3:=e5
      refine aD (v:=i64 y.2) (aG (aO (aK (aF (v:=i64 y.2) (aC (qQ rfl rfl) (aG ?_))))))
      rcases aH hm with ⟨g5,hm⟩|⟨g5,hm⟩
      ·refine aL g5 rfl (aK (aF (v:=i64 y.2) (aC (fA rfl rfl) (aD (v:=zB (y.2 == 5)) (aG ?_)))));obtain rfl:=zI hm
       exact bH (aQ (bI results3 rfl ⟨rfl,(aJ.weakK (aJ.arr 2 [] e5 rfl) (zL (zL (zL (zL (zL (zL (zL a5 a2) x) m) h) j) b6) b7))⟩))
      ·refine aI g5 rfl (aU (aA (aO (aK (aD (v:=i64 0) (aG (aW [19] (fun f w=>∃ g6,Hp.le k2 g6/\pY y=some R/\aJ G g6 (L) w) ?_ ?_)))))))
       ·rintro f v8 ⟨g6,o7,hm,o8⟩
        unfold pY at hm
        refine aA (aK (aF (v:=zS c7 y.1.length c9) (aC (bO (len:=y.1.length) iR rfl) (aC (kC rfl rfl) (aD (v:=zB (decide (0 < (y.1.length:Int)))) (aG ?_))))));obtain rfl:=zI hm
        exact bH (bI results3 rfl ⟨rfl,(aJ.weakK o8 (zL (zL (zL (zL (zL (zL (zL (zL a5 a2) x) m) h) j) b6) b7) o7))⟩)
       obtain ⟨p0,a4,p1,g7,_⟩:=aJ.lendBp e5 zt1
       replace g7:aJ G p0 (box b3 27 (zC a.2 d e b c)::L) g3:=g7
       obtain ⟨g8,Z,p2,g9,_⟩:=aJ.lendBp g7 .head
       replace g9:aJ G g8 (L) g3:=g9
       obtain ⟨v9,p3,ho⟩:=aB hm
       refine dM [3,4,19] p3 (fun c1 f w=>∃ d0,Hp.le g8 d0/\f 21=i64 c1/\aJ G d0 (L) w) ?_ ?_
       ·exact ⟨g8,(zR _),rfl,g9⟩
       ·rintro c1 d4 f w0 hm hr ⟨d0,z,e6,h0⟩
        unfold aAJ at hm
        refine aO (aK (aY e6 (aF (v:=zS c7 y.1.length c9) (aC (bO (len:=y.1.length) iR rfl) (aC (cG rfl rfl) (aG ?_))))))
        rcases aH hm with ⟨h1,hm⟩|⟨h1,hm⟩
        ·refine aL h1 rfl (aU (aA (aO (aW [3,4,19,21] (fun f w=>∃ e7,Hp.le d0 e7/\vO c1=some d4/\aJ G e7 (L) w) ?_ ?_))))
         ·rintro f w1 ⟨e7,p4,hm,p5⟩
          unfold vO at hm
          exact aA (aP (aY e6 (aC (cE rfl rfl) (aD (v:=i64 (wr (c1+1))) (aG ⟨_,(zI hm).symm,aM,e7,(zL z p4),rfl,p5⟩)))))
         refine aO (dT (C:=fun w'=>∃ L',aJ G d0 L' w') [(0,0),(1,0),(2,0),(3,0),(4,0),(5,1),(6,0),(7,0),(8,0),(9,0),(10,0)] bY (by kernel_rfl) (fun _ hg=>⟨_,aJ.mono h0 hg⟩) (fun w2 p6=>?_))
         have d5:=aJ.mono h0 p6
         refine bQ rfl (fun _ ⟨_,d5⟩=>eI (t:=0) (vs:=(zC a.1 n o k l)) cV d5 (p1.mono (zL Z z)) (gY rfl) rfl rfl) (bQ rfl (fun _ _=>bA (v:=zS c7 y.1.length c9) rfl) (bQ rfl (fun _ _=>bA e6) ?_));obtain ⟨k3,h2,hm⟩:=aB hm
         refine bQ rfl (fun _ _=>cT iR rfl (g4.mono (zL (zL a4 Z) z)) rfl rfl rfl h2) ?_;obtain ⟨w3,k4,p7⟩:=cF.el (sz:=1) rfl g4 h2
         obtain ⟨k5,k6,rfl,k7⟩:=p7
         refine bQ rfl (fun _ ⟨_,d5⟩=>bG (t:=0) eR d5 (k4.mono (zL (zL a4 Z) z)) rfl rfl) (jE rfl ?_);obtain ⟨V,p8,hm⟩:=aB hm
         refine aR (vs:=[zA (zCa a.1 n o k l),zS k5 k3.length k6]) call10 rfl (qM p8 d5 hG (d9.mono (zL (zL (zL (zL (zL (zL (zL (zL (zL a2 x) m) h) j) b6) b7) a4) Z) z)) (e0.mono (zL (zL (zL (zL (zL (zL (zL (zL x m) h) j) b6) b7) a4) Z) z)) (k7.mono (zL (zL a4 Z) z))) ?_
         rintro _ w4 ⟨c3,a8,a9,rfl,b0,h4⟩
         refine bB (aA ⟨⟨_,(aJ.weakK h4 b0)⟩,?_⟩)
         refine bQ rfl (fun _ _=>bA (v:=zT #[zS a8 V.1.length a9,i64 V.2]) rfl) (bQ rfl (fun _ _=>bS rfl rfl) (bQ rfl (fun _ _=>bS rfl rfl) (bQ rfl (fun _ _=>cZ (v:=zS a8 V.1.length a9) rfl) (bQ rfl (fun _ _=>cZ (v:=i64 V.2) rfl) (iO (aA (aO (dT (C:=fun w'=>∃ L',aJ G c3 L' w') [(0,0),(1,0),(2,0),(3,0),(4,0),(5,1),(6,0),(7,0),(8,0),(9,0),(10,0)] bY (by kernel_rfl) (fun _ hg=>⟨_,aJ.mono h4 hg⟩) (fun w5 p9=>?_)))))))))
         have d6:=aJ.mono h4 p9
         refine bQ rfl (fun _ ⟨_,d6⟩=>eI (t:=0) (vs:=(zC a.2 d e b c)) cV d6 (p2.mono (zL z b0)) (gY rfl) rfl rfl) (bQ rfl (fun _ _=>bA (v:=zS c7 y.1.length c9) rfl) (bQ rfl (fun _ _=>bA e6) (bQ rfl (fun _ _=>cT iR rfl (g4.mono (zL (zL (zL a4 Z) z) b0)) rfl rfl rfl h2) (bQ rfl (fun _ ⟨_,d6⟩=>bG (t:=0) eR d6 (k4.mono (zL (zL (zL a4 Z) z) b0)) rfl rfl) (jE rfl ?_)))));obtain ⟨u,q0,hm⟩:=aB hm
         refine aR (vs:=[zA (zCa a.2 d e b c),zS k5 k3.length k6]) call10 rfl (qM q0 d6 hG (b9.mono (zL (zL (zL (zL (zL (zL (zL (zL m h) j) b6) b7) a4) Z) z) b0)) (c0.mono (zL (zL (zL (zL (zL (zL (zL h j) b6) b7) a4) Z) z) b0)) (k7.mono (zL (zL (zL a4 Z) z) b0))) ?_
         rintro _ w7 ⟨a0,b1,b2,rfl,d7,h5⟩
         refine bB (aA ⟨⟨_,(aJ.weakK h5 d7)⟩,?_⟩)
         refine bQ rfl (fun _ _=>bA (v:=zT #[zS b1 u.1.length b2,i64 u.2]) rfl) (bQ rfl (fun _ _=>bS rfl rfl) (bQ rfl (fun _ _=>bS rfl rfl) (bQ rfl (fun _ _=>cZ (v:=zS b1 u.1.length b2) rfl) (bQ rfl (fun _ _=>cZ (v:=i64 u.2) rfl) (iO (aA (aO (aO (cP [3,4,19,21,22,24] (fun f w=>∃ h6,oK c1 V u h6=some d4/\f 124=zB h6/\aJ G a0 (aN 24 a0 b1 b2 u.1::aN 24 c3 a8 a9 V.1::L) w) ?_ ?_)))))))))
         ·rintro f w8 ⟨h6,hm,k8,k9⟩
          unfold oK at hm
          refine aA ?_
          rcases aH hm with ⟨h7,hm⟩|⟨h7,hm⟩
          ·refine aL h7 k8 (aK (aD (v:=zB false) (aG (bH (aQ (bM (aQ (aQ (aQ ?_)))))))))
           have q1:=hr _ (zI hm).symm
           subst q1
           have hm:(some false)=some R:=ho
           clear hr ho
           obtain rfl:=zI hm
           exact bM (aQ (aQ (bI results3 rfl ⟨rfl,(aJ.weakK (aJ.arr 2 [] k9 rfl) (zL (zL (zL (zL (zL (zL (zL (zL (zL (zL (zL (zL a5 a2) x) m) h) j) b6) b7) a4) Z) z) b0) d7))⟩)))
          ·refine aI h7 k8 (aU (aA (aK (aD (v:=i64 0) (aG (aW [3,4,19,21] (fun f w=>pZ c1=some d4/\aJ G a0 (L) w) ?_ ?_))))))
           ·rintro f w9 ⟨hm,q3⟩
            unfold pZ at hm
            exact aX (aA ⟨aM,a0,(zL b0 d7),hm,q3⟩)
           obtain ⟨x0,q4,ho⟩:=aB hm
           refine dM [3,4,19,21,22,24] q4 (fun d1 f w=>f 26=i64 d1/\aJ G a0 (aN 24 a0 b1 b2 u.1::aN 24 c3 a8 a9 V.1::L) w) ?_ ?_
           ·exact ⟨rfl,k9⟩
           ·rintro d1 h8 f x1 hm hr ⟨h9,l0⟩
            unfold aBD at hm
            refine aO (aK (aY h9 (aF (v:=zS b1 u.1.length b2) (aC (bO (len:=u.1.length) iR rfl) (aC (cG rfl rfl) (aG ?_))))))
            rcases aH hm with ⟨i0,hm⟩|⟨i0,hm⟩
            ·refine aL i0 rfl (aU (aA (aO (aW [3,4,19,21,22,24,26] (fun f w=>vP d1=some h8/\aJ G a0 (aN 24 a0 b1 b2 u.1::aN 24 c3 a8 a9 V.1::L) w) ?_ ?_))))
             ·rintro f x2 ⟨hm,q6⟩
              unfold vP at hm
              exact aA (aP (aY h9 (aC (cE rfl rfl) (aD (v:=i64 (wr (d1+1))) (aG ⟨_,(zI hm).symm,aM,rfl,q6⟩)))))
             refine aK (aD (v:=zB false) (aG (aO (aK (aD (v:=i64 0) (aG (aW [3,4,19,21,22,24,26] (fun f w=>∃ i1,qA d1 i1=some h8/\f 27=zB i1/\aJ G a0 (aN 24 a0 b1 b2 u.1::aN 24 c3 a8 a9 V.1::L) w) ?_ ?_)))))))
             ·rintro f x3 ⟨i1,hm,q7,l1⟩
              unfold qA at hm
              refine aA (aK (aY q7 (aC (dE rfl) (aG ?_))))
              rcases aH hm with ⟨i2,hm⟩|⟨i2,hm⟩
              ·refine aL i2 rfl (aK (aD (v:=zB false) (aG (bH (bM (aQ (aQ (aQ ?_))))))))
               have q8:=hr _ (zI hm).symm
               subst q8
               have hm:(some (.inr (.inr false)))=some d4:=ho
               clear hr ho
               refine bM (aQ (bM (aQ (aQ (aQ ?_)))))
               have q9:=hr _ (zI hm).symm
               subst q9
               have hm:(some false)=some R:=ho
               clear hr ho
               obtain rfl:=zI hm
               exact bM (aQ (aQ (bI results3 rfl ⟨rfl,(aJ.weakK (aJ.arr 2 [] l1 rfl) (zL (zL (zL (zL (zL (zL (zL (zL (zL (zL (zL (zL a5 a2) x) m) h) j) b6) b7) a4) Z) z) b0) d7))⟩)))
              ·exact aI i2 rfl (aU (aX (aA ⟨aM,hm,l1⟩)))
             obtain ⟨x4,r1,ho⟩:=aB hm
             refine cJ [3,4,19,21,22,24,26] r1 (fun d8 e8 f w=>f 27=zB d8/\f 28=i64 e8/\aJ G a0 (aN 24 a0 b1 b2 u.1::aN 24 c3 a8 a9 V.1::L) w) ?_ ?_
             ·exact ⟨rfl,rfl,l0⟩
             ·rintro d8 e8 r2 f x5 hm hr ⟨l2,i3,l3⟩
              unfold aBC at hm
              refine aO (aK (aY i3 (aF (v:=zS a8 V.1.length a9) (aC (bO (len:=V.1.length) iR rfl) (aC (cG rfl rfl) (aG ?_))))))
              rcases aH hm with ⟨i4,hm⟩|⟨i4,hm⟩
              ·refine aL i4 rfl (aU (aA (aO (cN (cP [3,4,19,21,22,24,26,28] (fun f w=>∃ i5,qB e8 i5=some r2/\f 27=zB i5/\aJ G a0 (aN 24 a0 b1 b2 u.1::aN 24 c3 a8 a9 V.1::L) w) ?_ ?_)))))
               ·rintro f x6 ⟨i5,hm,r3,r5⟩
                unfold qB at hm
                exact aX (aA (aP (aY i3 (aC (cE rfl rfl) (aD (v:=i64 (wr (e8+1))) (aG ⟨_,(zI hm).symm,aM,r3,rfl,r5⟩))))))
               obtain ⟨x7,r6,l4,r7,l5⟩:=aJ.lendSp l3 (zR _) .head
               obtain ⟨r8,l6,l7,q,l8⟩:=aJ.lendSp r7 (zL d7 r6) .head
               refine dO (C:=fun w'=>aJ G r8 (L) w') bY (by kernel_rfl) (aJ.mono q (dK.drew _)) (bD (fun _ q=>bA l2) (bD (fun _ q=>bA (v:=zB d8) rfl) ?_))
               rcases aH hm with ⟨p,hm⟩|⟨p,hm⟩
               ·refine bE (g:=138) rfl rfl (cD p) (bE (g:=138) rfl rfl (cD p) (bE (g:=138) rfl rfl (cD p) (bE (g:=138) rfl rfl (cD p) (bE (g:=138) rfl rfl (cD p) (bE (g:=138) rfl rfl (cD p) (bE (g:=138) rfl rfl (cD p) (bE (g:=138) rfl rfl (cD p) (bE (g:=138) rfl rfl (cD p) (bD (fun _ q=>bL (v:=zB true) p rfl rfl) (bD (fun _ q=>cZ (v:=zB true) rfl) (dS (fun x8 r9=>?_))))))))))))
                have s0:=l8 _ _ r9
                have s1:=l5 _ _ s0
                exact aA ⟨aM,true,hm,rfl,s1⟩
               ·refine bW (g:=138) rfl rfl (cH p) (bD (fun _ q=>bA (v:=zS a8 V.1.length a9) rfl) (bW (g:=138) rfl rfl (cH p) (bD (fun _ q=>bA i3) (bW (g:=138) rfl rfl (cH p) ?_))));obtain ⟨s2,i6,hm⟩:=aB hm
                have s3:=aAS l7 i6
                refine bD (fun _ q=>dD iR rfl s3 rfl rfl rfl i6) (bW (g:=138) rfl rfl (cH p) ?_);obtain ⟨x9,s4,s5⟩:=cF.el (sz:=1) rfl l7 i6
                obtain ⟨s6,s7,rfl,s8⟩:=s5
                refine bD (fun _ q=>bG (t:=0) eR q s4 rfl rfl) (bW (g:=138) rfl rfl (cH p) (bD (fun _ q=>bA (v:=zS b1 u.1.length b2) rfl) (bW (g:=138) rfl rfl (cH p) (bD (fun _ q=>bA h9) (bW (g:=138) rfl rfl (cH p) ?_)))));obtain ⟨s9,i7,hm⟩:=aB hm
                have t0:=aAS (l4.mono l6) i7
                refine bD (fun _ q=>dD iR rfl t0 rfl rfl rfl i7) (bW (g:=138) rfl rfl (cH p) ?_);obtain ⟨y0,t1,t2⟩:=cF.el (sz:=1) rfl (l4.mono l6) i7
                obtain ⟨t3,t4,rfl,t5⟩:=t2
                refine bD (fun _ q=>bG (t:=0) eR q t1 rfl rfl) (bW (g:=138) rfl rfl (cH p) ?_);obtain ⟨e9,t6,hm⟩:=aB hm
                refine lU (vs:=[zS s6 s2.length s7,zS t3 s9.length t4]) (v:=zB e9) call11 rfl (fun _ q=>(aFP t6 q s8 t5)) (bD (fun _ q=>bP (v:=zB e9) p rfl rfl) (bD (fun _ q=>cZ (v:=zB e9) rfl) (dS (fun y1 t7=>?_))))
                have t8:=l8 _ _ t7
                have t9:=l5 _ _ t8
                exact aA ⟨aM,e9,hm,rfl,t9⟩
              ·refine aI i4 rfl (bV (aT (aT ?_)))
               have u0:=hr _ (zI hm).symm
               subst u0
               have hm:(qA d1 d8)=some h8:=ho
               clear hr ho
               exact bJ (aA ⟨aM,d8,hm,l2,l3⟩)
            ·refine aI i0 rfl (bV (aT (aT ?_)))
             have u1:=hr _ (zI hm).symm
             subst u1
             have hm:(pZ c1)=some d4:=ho
             clear hr ho
             exact bJ (aA ⟨aM,hm,(aJ.arr 2 [] l0 rfl)⟩)
         refine aP (aF (v:=i64 V.2) (aC (qQ rfl rfl) (aF (v:=zB (V.2 != 0)) ?_)))
         rcases aH hm with ⟨c4,hm⟩|⟨c4,hm⟩
         ·exact bC c4 rfl rfl (bC c4 rfl rfl (aC (bL (v:=zB true) c4 rfl rfl) (aG ⟨aM,true,hm,rfl,h5⟩)))
         ·exact bK c4 rfl rfl (aF (v:=i64 u.2) (bK c4 rfl rfl (aC (qQ rfl rfl) (aC (bP (v:=zB (u.2 != 0)) c4 rfl rfl) (aG ⟨aM,u.2 != 0,hm,rfl,h5⟩)))))
        ·refine aI h1 rfl (bV (aT (aT ?_)))
         have u2:=hr _ (zI hm).symm
         subst u2
         have hm:(pY y)=some R:=ho
         clear hr ho
         exact bJ (aA ⟨aM,d0,(zL (zL a4 Z) z),hm,h0⟩)
  refine aP (aF (v:=i64 r.2.2.2) (aC (qQ rfl rfl) (aF (v:=zB (r.2.2.2 != 0)) ?_)))
  rcases aH hm with ⟨c5,hm⟩|⟨c5,hm⟩
  ·exact bC c5 rfl rfl (bC c5 rfl rfl (aC (bL (v:=zB true) c5 rfl rfl) (aG ⟨aM,true,hm,rfl,j5⟩)))
  ·exact bK c5 rfl rfl (aF (v:=i64 a3.2.2.2) (bK c5 rfl rfl (aC (qQ rfl rfl) (aC (bP (v:=zB (a3.2.2.2 != 0)) c5 rfl rfl) (aG ⟨aM,a3.2.2.2 != 0,hm,rfl,j5⟩)))))
end Gv
