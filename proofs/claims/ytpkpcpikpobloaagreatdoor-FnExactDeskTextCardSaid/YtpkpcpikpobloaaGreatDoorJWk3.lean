/- Walks, printed by program. -/
import Derived.Test.YtpkpcpikpobloaaGreatDoorJWk1
set_option linter.all false
namespace Gv
open Gv.Hp renaming le_refl→zR
open Go.Value renaming slice→zS,bool→zB
open Go Go.Proofs Go.Proofs.Tryz
set_option maxRecDepth 20000
set_option maxHeartbeats 40000000
variable {G:kE} {K:Hp} {L:List eV} {w:World} {a1 a4 a7:Option Addr} {c2 c5 c8:Nat}
theorem aKA {a:(List bI)} {R:Bool} (hm:aFg a=some R) (i:aG G K (L) w) (j:aX K a1 c2 a):
  Calls prog 37 ([zS a1 a.length c2]:List Value).toArray w (cJ fun v w'=>v=zB R/\aG G K (L) w'):=by
 refine aN func37 rfl (by kernel_rfl) (by show (1:Nat)<=50;decide) ?_;unfold aFg at hm
 refine aL (aI (v:=zB false) (aM (aH (aL (aO (v:=zS a1 a.length c2) ?_)))));obtain ⟨n,k,hm⟩:=aB hm
 refine aW (vs:=[zS a1 a.length c2,i64 30,i64 8]) call75 rfl (aFW k i j) ?_
 rintro _ o ⟨rfl,p⟩
 refine aC (sL rfl) (aM ?_)
 rcases aJ hm with ⟨d,hm⟩|⟨d,hm⟩
 ·exact aF
 ·refine aP d rfl (aT (aE (aH (aL (aI (v:=i64 0) (aM (aQ [] (fun f w=>aIX=some R/\aG G K (L) w) aF ?_)))))));obtain ⟨q,l,ho⟩:=aB hm
  refine bS [0] l (fun b f w=>f 3=i64 b/\aG G K (L) w) aF ?_
  ·rintro b c f r hm hr ⟨m,t⟩
   unfold aCs at hm
   refine aH (aL (bO m (aO (v:=zS a1 a.length c2) (aC (aU (len:=a.length) sM rfl) (aC (dJ rfl rfl) (aM ?_))))))
   rcases aJ hm with ⟨e,hm⟩|⟨e,hm⟩
   ·refine aR e rfl (aT (aE (aH (bJ (gC [0,3] (fun f w=>aCr a b=some c/\aG G K (L) w) ?_ ?_)))))
    ·rintro f u ⟨hm,x⟩
     unfold aCr at hm
     exact aH (bB [0,3] (fun f w=>∃ g,aFe b g=some c/\f 49=zB g/\aG G K (L) w) aF aF)
    exact aH (bB [0,3] (fun f w=>∃ h,aFf a b h=some c/\f 24=zB h/\aG G K (L) w) aF aF)
   ·exact aF
theorem gR {a:aK} {b:Bool} {R:aK} (hm:iM a b=some R) (c:aG G K (L) w):
  Calls prog 79 ([str a,zB b]:List Value).toArray w (cJ fun v w'=>v=str R/\aG G K (L) w'):=by
 exact aF
theorem kW {n:Int} {R:aK} (hm:iE n=some R) (hs:aG G K (L) w):
  Calls prog 80 ([i64 n]:List Value).toArray w (cJ fun v w'=>v=str R/\aG G K (L) w'):=by
 refine aN func80 rfl (by kernel_rfl) (by show (1:Nat)<=50;decide) ?_;unfold iE at hm
 refine aL (aI (v:=str ([]:aK)) (aM (aH (aL (aO (v:=i64 n) (aC (dP rfl rfl) (aM ?_)))))))
 rcases aJ hm with ⟨q,hm⟩|⟨q,hm⟩
 ·exact aF
 ·refine aP q rfl (aT (aE (aL (dH (Kt:=K) (xs:=([]:List UInt8)) (cs:=[]) (vs:=[]) aNc ez_5 rfl rfl hs rfl (by kernel_rfl) rfl rfl rfl trivial (fun r w4 (b5:aG G K (aV 5 K r 0 ([]:List UInt8)::L) w4)=>(aI (v:=zS r ([]:List UInt8).length 0) (aM (aH (aL (aO (v:=i64 n) (aI (v:=i64 n) (aM (aQ [0] (fun f w=>∃ g k l,aDo n g=some R/\f 3=zS k g.length l/\aG G K (aV 5 K k l g::L) w) ?_ ?_)))))))))))))
  ·rintro f b6 ⟨g,k,l,hm,e9,b8⟩
   unfold aDo at hm
   refine aE (gC [] (fun f w=>∃ a b c,aAC a=some R/\f 3=zS b a.length c/\aG G K (aV 5 K b c a::L) w) ?_ ?_)
   ·rintro f b9 ⟨a,b,c,hm,a2,a4⟩
    unfold aAC at hm
    refine aL (dH (Kt:=K) (xs:=([]:List UInt8)) (cs:=[]) (vs:=[]) aNc ez_5 rfl rfl a4 rfl (by kernel_rfl) rfl rfl rfl trivial (fun t a5 (c0:aG G K (aV 5 K t 0 ([]:List UInt8)::aV 5 K b c a::L) a5)=>(aI (v:=zS t ([]:List UInt8).length 0) (aM (aH (aL (bO a2 (aC (aU (len:=a.length) aNc rfl) (aC (jM rfl rfl) (aI (v:=i64 (wr ((a.length:Int) - 1))) (aM (aQ [] (fun f w=>∃ d m o,aGG d=some R/\f 6=zS m d.length o/\aG G K (aV 5 K m o d::L) w) ?_ ?_))))))))))))
    ·rintro f c2 ⟨d,m,o,hm,a6,u⟩
     unfold aGG at hm
     refine aE (aL (bO a6 (aC (R_convBSO underlying78 underlying5 underlying9 u (i:=0) rfl rfl rfl) (aI (v:=str d) (aM ?_)))));obtain rfl:=Option.some.inj hm
     exact aGk (aGm results80 rfl ⟨rfl,(aG.arr 1 [] u rfl)⟩)
    obtain ⟨c3,a9,ho⟩:=aB hm
    exact cA [3] a9 (fun x b0 f w=>∃ y z,f 6=zS y x.length z/\f 7=i64 b0/\aG G K (aV 5 K y z x::aV 5 K b c a::L) w) aF aF
   exact aF
  obtain ⟨c4,b1,ho⟩:=aB hm
  refine cA [0] b1 (fun e p f w=>∃ h j,f 3=zS h e.length j/\f 4=i64 p/\aG G K (aV 5 K h j e::L) w) aF ?_
  ·rintro e p b2 f c5 hm hr ⟨h,j,c6,J,c7⟩
   unfold aAD at hm
   refine aH (aL (bO J (aC (sK rfl rfl) (aM ?_))))
   rcases aJ hm with ⟨V,hm⟩|⟨V,hm⟩
   ·refine aR V rfl (aT (aE (aH (bJ (aL (bO J ?_))))));obtain ⟨b3,b4,hm⟩:=aB hm
    exact aC (R_rem rfl rfl b4) (aI (v:=i64 b3) (aM (gC [0,3,4] (fun f w=>∃ Z,aDp e p Z=some b2/\f 5=i64 Z/\aG G K (aV 5 K h j e::L) w) aF aF)))
   ·exact aF
theorem aNz {a:aK} {b:Bool} {R:aK} (hm:aBP a b=some R) (d:aG G K (L) w):
  Calls prog 81 ([str a,zB b]:List Value).toArray w (cJ fun v w'=>v=str R/\aG G K (L) w'):=by
 refine aN func81 rfl (by kernel_rfl) (by show (2:Nat)<=26;decide) ?_;unfold aBP at hm
 exact aL (aI (v:=str ([]:aK)) (aM (aL (aO (v:=str a) (aI (v:=str a) (aM (aL (aO (v:=str a) (aC (sV runUnderlying9 rfl) (aI (v:=i64 (a.length:Int)) (aM (gC [1] (fun f w=>∃ c,rV b c=some R/\f 5=str c/\aG G K (L) w) aF aF))))))))))))
theorem aDA {x:(List bI)} {R:aK} (hm:kO x=some R) (hs:aG G K (L) w) (h3:aX K a1 c2 x):
  Calls prog 38 ([zS a1 x.length c2]:List Value).toArray w (cJ fun v w'=>v=str R/\aG G K (L) w'):=by
 refine aN func38 rfl (by kernel_rfl) (by show (1:Nat)<=174;decide) ?_;unfold kO at hm
 refine aL (aI (v:=str ([]:aK)) (aM (aL (dH (Kt:=K) (xs:=([]:List aK)) (cs:=[]) (vs:=[]) cU pT rfl rfl hs rfl (by kernel_rfl) rfl rfl rfl trivial (fun a4 w5 (g1:aG G K (aV 9 K a4 0 ([]:List aK)::L) w5)=>(aI (v:=zS a4 ([]:List aK).length 0) (aM (aL (dH (Kt:=K) (xs:=([]:List Int)) (cs:=[]) (vs:=[]) dW yK rfl rfl g1 rfl (by kernel_rfl) rfl rfl rfl trivial (fun a7 w8 (k8:aG G K (aV 2 K a7 0 ([]:List Int)::aV 9 K a4 0 ([]:List aK)::L) w8)=>(aI (v:=zS a7 ([]:List Int).length 0) (aM (aH (aL (aO (v:=zS a1 x.length c2) (aC (aU (len:=x.length) sM rfl) (aC (jM rfl rfl) (aI (v:=i64 (wr ((x.length:Int) - 1))) (aM (aQ [] (fun f w=>∃ b0 c8 c9,aAX b0=some R/\f 3=zS c8 b0.length c9/\aG G K (aV 9 K c8 c9 b0::L) w) aF ?_))))))))))))))))))))
 obtain ⟨k9,g3,ho⟩:=aB hm
 refine aBY [0] g3 (fun c e z f w=>∃ l m j k,f 3=zS l c.length m/\f 4=zS j e.length k/\f 5=i64 z/\aG G K (aV 2 K j k e::aV 9 K l m c::L) w) aF ?_
 ·rintro c e z Z f l0 hm hr ⟨l,m,j,k,q,y,d0,b1⟩
  unfold eY at hm
  refine aH (aL (bO d0 (aC (aPh rfl rfl) (aM ?_))))
  rcases aJ hm with ⟨b2,hm⟩|⟨b2,hm⟩
  ·refine aR b2 rfl (aT (aE (aH (bJ (aL (aO (v:=zS a1 x.length c2) (bO d0 ?_)))))));obtain ⟨a,d1,hm⟩:=aB hm
   refine aC (cK sM rfl h3 rfl rfl rfl d1) ?_;obtain ⟨l1,g4,g5⟩:=aX.el (sz:=4) rfl h3 d1
   cases g5
   refine aC (dQ (t:=0) (vs:=[i64 a.Kind,i64 a.Variable,str a.B,zB a.Not]) aIR b1 g4 rfl rfl rfl) (dV (vs:=[i64 0,i64 0,str ([]:aK),zB false]) zeroValue132 b1 rfl (fun p l2 g6=>(eW (i:=0) (ns:=[i64 a.Kind,i64 a.Variable,str a.B,zB a.Not]) (us:=[i64 a.Kind,i64 a.Variable,str a.B,zB a.Not]) sizeOf132 g6 rfl rfl rfl rfl rfl (jY rfl) rfl rfl (fun g7 (d2:aG G K (box p 132 [i64 a.Kind,i64 a.Variable,str a.B,zB a.Not]::aV 2 K j k e::aV 9 K l m c::L) g7)=>(aM (aL (bO q (aC (aU (len:=c.length) cU rfl) (aC (jM rfl rfl) (aI (v:=i64 (wr ((c.length:Int) - 1))) (aM (aL (aI (v:=str ([]:aK)) (aM (aL (aC (bG (t':=0) aAw rfl rfl) (aC (cX gH d2 (i:=0) rfl rfl rfl) ?_)))))))))))))))))
   obtain ⟨r,g8,hm⟩:=aB hm
   refine aW (vs:=[i64 a.Kind]) call78 rfl (aBa g8 d2) ?_
   rintro _ l3 ⟨rfl,d⟩
   refine aI (v:=i64 r) (aM (gC [0,3,4,5,6,7,9] (fun f w=>∃ a0,gT c e z a r a0=some Z/\f 8=str a0/\aG G K (box p 132 [i64 a.Kind,i64 a.Variable,str a.B,zB a.Not]::aV 2 K j k e::aV 9 K l m c::L) w) ?_ ?_))
   ·rintro f l4 ⟨a0,hm,g9,b⟩
    unfold gT at hm
    refine aH (aL (aC (bG (t':=0) aAw rfl rfl) (aC (cX gH b (i:=0) rfl rfl rfl) (aM (aQ [0,3,4,5,6,9] (fun f w=>∃ u,dB c e z a r u=some Z/\f 8=str u/\aG G K (box p 132 [i64 a.Kind,i64 a.Variable,str a.B,zB a.Not]::aV 2 K j k e::aV 9 K l m c::L) w) ?_ ?_)))))
    ·rintro f l5 ⟨u,hm,h0,d3⟩
     unfold dB at hm
     refine aE (aL (bO q (bO q (aC (aU (len:=c.length) cU rfl) (aO (v:=i64 r) (aC (jM rfl rfl) ?_))))));obtain ⟨h1,d4,hm⟩:=aB hm
     have h2:=pU d3 (i:=2) rfl
     obtain ⟨h4,h5,d5⟩:=Cut.ex 1 l m 0
     refine aC (uU cU h2 d5 rfl rfl rfl d4) (bO h0 (dH (Kt:=K) (xs:=([u]:List aK)) (cs:=[str u]) (vs:=[(0,str u)]) cU pT rfl rfl d3 rfl (by kernel_rfl) rfl rfl rfl ⟨rfl,trivial⟩ (fun d6 d7 (h6:aG G K (aV 9 K d6 1 ([u]:List aK)::box p 132 [i64 a.Kind,i64 a.Variable,str a.B,zB a.Not]::aV 2 K j k e::aV 9 K l m c::L) d7)=>?_)))
     have h7:aG G K (aV 9 K d6 1 ([u]:List aK)::box p 132 [i64 a.Kind,i64 a.Variable,str a.B,zB a.Not]::aV 2 K j k e::aV 9 K h4 h5 h1::L) d7:=aG.cutP h6 (i:=3) rfl d4 d5
     obtain ⟨a2,h8,hm⟩:=aB hm
     refine jT (i:=2) cU underlying39 pT rfl rfl h7 rfl (Hp.le_refl _) (Hp.le_refl _) h8 rfl rfl rfl rfl (fun _ h=>h) (fun a3 a5 h9 (i0:aG G K (box p 132 [i64 a.Kind,i64 a.Variable,str a.B,zB a.Not]::aV 2 K j k e::aV 9 K a3 a5 a2::L) h9)=>(aI (v:=zS a3 a2.length a5) (aM ?_)));obtain ⟨b3,l6,i1,d8,l7⟩:=aG.lendBp i0 .head
     refine lQ (C:=fun w'=>∃ L',aG G b3 L' w') [(0,0),(1,0),(2,0),(3,0),(4,0),(5,0),(6,0),(7,0),(8,1),(9,1),(10,0)] Tryz_mixed (by kernel_rfl) (fun _ hg=>⟨_,aG.mono d8 hg⟩) (fun l8 i2=>?_)
     have a6:=aG.mono d8 i2
     refine dN rfl (fun _ _=>aZ y) (dN rfl (fun _ _=>aZ y) (dN rfl (fun _ _=>aU (len:=e.length) dW rfl) (dN rfl (fun _ _=>aZ (v:=i64 r) rfl) (dN rfl (fun _ _=>jM rfl rfl) ?_))));obtain ⟨i3,d9,hm⟩:=aB hm
     have i4:=pU a6 (i:=0) rfl
     obtain ⟨i5,i6,e0⟩:=Cut.ex 1 j k 0
     refine dN rfl (fun _ _=>uU dW i4 e0 rfl rfl rfl d9) (dN rfl (fun _ _=>bG (t':=0) aAw rfl rfl) (dN rfl (fun _ ⟨_,a6⟩=>bY (t:=0) gH a6 i1 rfl rfl) (vV rfl (dH (Kt:=K) (xs:=([a.Kind]:List Int)) (cs:=[i64 a.Kind]) (vs:=[(0,i64 a.Kind)]) dW yK rfl rfl a6 rfl (by kernel_rfl) rfl rfl rfl ⟨rfl,trivial⟩ (fun e1 e2 (e3:aG G b3 (aV 2 K e1 1 ([a.Kind]:List Int)::aV 2 K j k e::aV 9 K a3 a5 a2::L) e2)=>(bR (aE ⟨⟨_,e3⟩,?_⟩)))))))
     refine vV rfl ?_
     have l9:aG G b3 (aV 2 K e1 1 ([a.Kind]:List Int)::aV 2 K i5 i6 i3::aV 9 K a3 a5 a2::L) e2:=aG.cutP e3 (i:=1) rfl d9 e0
     exact aF
    refine aL (aC (dP rfl rfl) (aI (v:=zB (a.Kind == 0)) (aM ?_)))
    rcases aJ hm with ⟨e4,hm⟩|⟨e4,hm⟩
    ·exact aF
    ·refine aP e4 rfl (aL (aC (dP rfl rfl) (aI (v:=zB (a.Kind == 1)) (aM ?_))))
     rcases aJ hm with ⟨e5,hm⟩|⟨e5,hm⟩
     ·exact aF
     ·refine aP e5 rfl (aL (aC (dP rfl rfl) (aI (v:=zB (a.Kind == 6)) (aM ?_))))
      rcases aJ hm with ⟨e6,hm⟩|⟨e6,hm⟩
      ·exact aF
      ·refine aP e6 rfl (aL (aC (dP rfl rfl) (aI (v:=zB (a.Kind == 4)) (aM ?_))))
       rcases aJ hm with ⟨e7,hm⟩|⟨e7,hm⟩
       ·exact aF
       ·refine aP e7 rfl (aL (aC (dP rfl rfl) (aI (v:=zB (a.Kind == 5)) (aM ?_))))
        rcases aJ hm with ⟨e8,hm⟩|⟨e8,hm⟩
        ·exact aF
        ·refine aP e8 rfl (aL (aC (dP rfl rfl) (aI (v:=zB (a.Kind == 7)) (aM ?_))))
         rcases aJ hm with ⟨e9,hm⟩|⟨e9,hm⟩
         ·exact aF
         ·refine aP e9 rfl (aL (aC (dP rfl rfl) (aI (v:=zB (a.Kind == 8)) (aM ?_))))
          rcases aJ hm with ⟨f0,hm⟩|⟨f0,hm⟩
          ·exact aF
          ·refine aP f0 rfl (aL (aC (dP rfl rfl) (aI (v:=zB (a.Kind == 2)) (aM ?_))))
           rcases aJ hm with ⟨b4,hm⟩|⟨b4,hm⟩
           ·refine aR b4 rfl (bB [0,3,4,5,6,9] (fun f w=>∃ f1,uJ c e z a r f1=some Z/\f 8=str f1/\aG G K (box p 132 [i64 a.Kind,i64 a.Variable,str a.B,zB a.Not]::aV 2 K j k e::aV 9 K l m c::L) w) aF (fH (C:=fun w'=>aG G K (box p 132 [i64 a.Kind,i64 a.Variable,str a.B,zB a.Not]::aV 2 K j k e::aV 9 K l m c::L) w') Tryz_mixed (by kernel_rfl) (aG.mono b (eF.drew _)) (aY (fun _ b=>aZ q) (aY (fun _ b=>aZ (v:=i64 (wr ((c.length:Int) - 1))) rfl) ?_))))
            obtain ⟨f2,b5,hm⟩:=aB hm
            have i7:=eG b (i:=2) rfl b5
            refine aY (fun _ b=>iU cU rfl i7 rfl rfl rfl b5) (aY (fun _ b=>oP (t:=0) nV b (i:=2) rfl b5 rfl rfl rfl) (aY (fun _ b=>aZ y) (aY (fun _ b=>aZ (v:=i64 (wr ((c.length:Int) - 1))) rfl) ?_)));obtain ⟨b6,J,hm⟩:=aB hm
            have f3:=eG b (i:=1) rfl J
            refine aY (fun _ b=>iU dW rfl f3 rfl rfl rfl J) (aY (fun _ b=>oP (t:=0) gH b (i:=1) rfl J rfl rfl rfl) (aY (fun _ b=>dP rfl rfl) (aY (fun _ b=>aZ (v:=zB (b6 == 2)) rfl) ?_)))
            rcases aJ hm with ⟨n,hm⟩|⟨n,hm⟩
            ·refine aAV (g:=111) rfl rfl (aIi n) (aAV (g:=111) rfl rfl (aIi n) (aAV (g:=111) rfl rfl (aIi n) (aAV (g:=111) rfl rfl (aIi n) (aAV (g:=111) rfl rfl (aIi n) (aY (fun _ b=>oO (v:=zB true) n rfl rfl) ?_)))));obtain ⟨i8,i9,hm⟩:=aB hm
             exact fS (vs:=[str f2,zB true]) (v:=str i8) call79 rfl (fun _ b=>(gR i9 b)) aF
            ·refine iO (g:=111) rfl rfl (lN n) (aY (fun _ b=>aZ y) (iO (g:=111) rfl rfl (lN n) (aY (fun _ b=>aZ (v:=i64 (wr ((c.length:Int) - 1))) rfl) (iO (g:=111) rfl rfl (lN n) (aY (fun _ b=>iU dW rfl f3 rfl rfl rfl J) (iO (g:=111) rfl rfl (lN n) (aY (fun _ b=>oP (t:=0) gH b (i:=1) rfl J rfl rfl rfl) (iO (g:=111) rfl rfl (lN n) (aY (fun _ b=>dP rfl rfl) (aY (fun _ b=>vS (v:=zB (b6 == 3)) n rfl rfl) ?_))))))))))
             obtain ⟨j0,j1,hm⟩:=aB hm
             exact fS (vs:=[str f2,zB (b6 == 3)]) (v:=str j0) call79 rfl (fun _ b=>(gR j1 b)) aF
           ·refine aP b4 rfl (aL (aC (dP rfl rfl) (aI (v:=zB (a.Kind == 3)) (aM ?_))))
            rcases aJ hm with ⟨b7,hm⟩|⟨b7,hm⟩
            ·refine aR b7 rfl (fH (C:=fun w'=>aG G K (box p 132 [i64 a.Kind,i64 a.Variable,str a.B,zB a.Not]::aV 2 K j k e::aV 9 K l m c::L) w') Tryz_mixed (by kernel_rfl) (aG.mono b (eF.drew _)) (aY (fun _ b=>aZ q) (aY (fun _ b=>aZ (v:=i64 (wr ((c.length:Int) - 1))) rfl) ?_)));obtain ⟨j2,b8,hm⟩:=aB hm
             have f4:=eG b (i:=2) rfl b8
             refine aY (fun _ b=>iU cU rfl f4 rfl rfl rfl b8) (aY (fun _ b=>oP (t:=0) nV b (i:=2) rfl b8 rfl rfl rfl) (aY (fun _ b=>aZ y) (aY (fun _ b=>aZ (v:=i64 (wr ((c.length:Int) - 1))) rfl) ?_)));obtain ⟨j3,b9,hm⟩:=aB hm
             have j4:=eG b (i:=1) rfl b9
             refine aY (fun _ b=>iU dW rfl j4 rfl rfl rfl b9) (aY (fun _ b=>oP (t:=0) gH b (i:=1) rfl b9 rfl rfl rfl) (aY (fun _ b=>dP rfl rfl) ?_));obtain ⟨j5,j6,hm⟩:=aB hm
             refine fS (vs:=[str j2,zB (j3 == 3)]) (v:=str j5) call79 rfl (fun _ b=>(gR j6 b)) ?_;obtain ⟨m0,j7,hm⟩:=aB hm
             refine aY (fun _ b=>eA rfl rfl j7) (aY (fun _ b=>aZ q) (aY (fun _ b=>aZ (v:=i64 (wr ((c.length:Int) - 1))) rfl) (aY (fun _ b=>jM rfl rfl) ?_)));obtain ⟨m1,f5,hm⟩:=aB hm
             refine aY (fun _ b=>iU cU rfl f4 rfl rfl rfl f5) (aY (fun _ b=>oP (t:=0) nV b (i:=2) rfl f5 rfl rfl rfl) ?_);obtain ⟨f6,j8,hm⟩:=aB hm
             exact aY (fun _ b=>eA rfl rfl j8) (aY (fun _ b=>dM (v:=str f6) rfl) (uT (fun m2 j9=>(eK (aE ⟨gB,f6,hm,rfl,j9⟩)))))
            ·exact aP b7 rfl (aT (eK (aE ⟨gB,a0,hm,g9,b⟩)))
   refine aL (aO (v:=i64 r) (aC (dP rfl rfl) (aM ?_)))
   rcases aJ hm with ⟨c0,hm⟩|⟨c0,hm⟩
   ·refine aR c0 rfl (bB [0,3,4,5,6,7,9] (fun f w=>∃ a8,jZ c e z a r a8=some Z/\f 8=str a8/\aG G K (box p 132 [i64 a.Kind,i64 a.Variable,str a.B,zB a.Not]::aV 2 K j k e::aV 9 K l m c::L) w) ?_ ?_)
    ·rintro f m3 ⟨a8,hm,k0,k1⟩
     unfold jZ at hm
     exact aE ⟨gB,a8,hm,k0,k1⟩
    refine fH (C:=fun w'=>aG G K (box p 132 [i64 a.Kind,i64 a.Variable,str a.B,zB a.Not]::aV 2 K j k e::aV 9 K l m c::L) w') Tryz_mixed (by kernel_rfl) (aG.mono d (eF.drew _)) (aY (fun _ d=>aZ q) (aY (fun _ d=>aZ (v:=i64 (wr ((c.length:Int) - 1))) rfl) ?_));obtain ⟨f7,c1,hm⟩:=aB hm
    have k2:=eG d (i:=2) rfl c1
    refine aY (fun _ d=>iU cU rfl k2 rfl rfl rfl c1) (aY (fun _ d=>oP (t:=0) nV d (i:=2) rfl c1 rfl rfl rfl) (aY (fun _ d=>aZ y) (aY (fun _ d=>aZ (v:=i64 (wr ((c.length:Int) - 1))) rfl) ?_)));obtain ⟨c3,V,hm⟩:=aB hm
    have f8:=eG d (i:=1) rfl V
    refine aY (fun _ d=>iU dW rfl f8 rfl rfl rfl V) (aY (fun _ d=>oP (t:=0) gH d (i:=1) rfl V rfl rfl rfl) (aY (fun _ d=>dP rfl rfl) (aY (fun _ d=>aZ (v:=zB (c3 == 2)) rfl) ?_)))
    rcases aJ hm with ⟨o,hm⟩|⟨o,hm⟩
    ·refine aAV (g:=40) rfl rfl (aIi o) (aAV (g:=40) rfl rfl (aIi o) (aAV (g:=40) rfl rfl (aIi o) (aAV (g:=40) rfl rfl (aIi o) (aAV (g:=40) rfl rfl (aIi o) (aY (fun _ d=>oO (v:=zB true) o rfl rfl) ?_)))));obtain ⟨c4,k3,hm⟩:=aB hm
     exact fS (vs:=[str f7,zB true]) (v:=str c4) call79 rfl (fun _ d=>(gR k3 d)) (aY (fun _ d=>dM (v:=str c4) rfl) (uT (fun m4 k4=>(aE ⟨gB,c4,hm,rfl,k4⟩))))
    ·refine iO (g:=40) rfl rfl (lN o) (aY (fun _ d=>aZ y) (iO (g:=40) rfl rfl (lN o) (aY (fun _ d=>aZ (v:=i64 (wr ((c.length:Int) - 1))) rfl) (iO (g:=40) rfl rfl (lN o) (aY (fun _ d=>iU dW rfl f8 rfl rfl rfl V) (iO (g:=40) rfl rfl (lN o) (aY (fun _ d=>oP (t:=0) gH d (i:=1) rfl V rfl rfl rfl) (iO (g:=40) rfl rfl (lN o) (aY (fun _ d=>dP rfl rfl) (aY (fun _ d=>vS (v:=zB (c3 == 3)) o rfl rfl) ?_))))))))))
     obtain ⟨c5,k5,hm⟩:=aB hm
     exact fS (vs:=[str f7,zB (c3 == 3)]) (v:=str c5) call79 rfl (fun _ d=>(gR k5 d)) (aY (fun _ d=>dM (v:=str c5) rfl) (uT (fun m5 k6=>(aE ⟨gB,c5,hm,rfl,k6⟩))))
   ·exact aP c0 rfl (aT (aE ⟨gB,([]:aK),hm,rfl,d⟩))
  ·refine aP b2 rfl (aPL (aEQ (aEQ ?_)))
   have k7:=hr _ (Option.some.inj hm).symm
   subst k7
   have hm:(aAX c)=some R:=ho
   clear hr ho
   exact aJB (aE ⟨gB,c,l,m,hm,q,(aG.arr 1 [] b1 rfl)⟩)
theorem aBb {t:gM} {a:Nat} {R:Bool} (hm:yQ t=some R) (c:aG G K (L) w) (d:eM K a1 a (zC t a4 c5 a7 c8)) (e:aX K a4 c5 t.L) (g:aX K a7 c8 t.E):
  Calls prog 39 ([cD a1 a]:List Value).toArray w (cJ fun v w'=>v=zB R/\aG G K (L) w'):=by
 refine aN func39 rfl (by kernel_rfl) (by show (1:Nat)<=31;decide) ?_;unfold yQ at hm
 exact aL (aI (v:=zB false) (aM (aH (bB [] (fun f w=>∃ b,pG b=some R/\f 2=zB b/\aG G K (L) w) aF aF))))
theorem aLn {p:bH} {a:Nat} {R:Int} (hm:vK p=some R) (d:aG G K (L) w) (b:eM K a1 a [i64 p.Kind,i64 p.Number,str p.Name,zS a4 p.Arguments.length c5]) (e:aX K a4 c5 p.Arguments):
  Calls prog 253 ([cD a1 a]:List Value).toArray w (cJ fun v w'=>v=i64 R/\aG G K (L) w'):=by
 refine aN func253 rfl (by kernel_rfl) (by show (1:Nat)<=13;decide) ?_;unfold vK at hm
 exact aL (aI (v:=i64 0) (aM (aH (aL (aO (v:=cD a1 a) (aC (dA rfl b) (aC (cB (k':=a+0) oQ rfl b rfl) (aC (bY (t:=0) gH d b rfl rfl) (aM (bJ (gC [6] (fun f w=>∃ c,qV p c=some R/\f 7=zB c/\aG G K (L) w) aF aF)))))))))))
theorem aFX {a:(List bH)} {R:Bool} (hm:aCt a=some R) (j:aG G K (L) w) (k:aX K a1 c2 a):
  Calls prog 219 ([zS a1 a.length c2]:List Value).toArray w (cJ fun v w'=>v=zB R/\aG G K (L) w'):=by
 refine aN func219 rfl (by kernel_rfl) (by show (1:Nat)<=30;decide) ?_;unfold aCt at hm
 refine aL (aI (v:=zB false) (aM (aH (aH (bB [0] (fun f w=>∃ b,tD a b=some R/\f 12=zB b/\aG G K (L) w) ?_ ?_)))))
 ·rintro f l ⟨b,hm,e,m⟩
  unfold tD at hm
  refine aE ?_
  rcases aJ hm with ⟨c,hm⟩|⟨c,hm⟩
  ·exact aF
  ·refine aP c e (aT (aE (aL (aI (v:=i64 1) (aM (aH (aL (aI (v:=i64 0) (aM (aQ [] (fun f w=>∃ d,aIn d=some R/\f 3=i64 d/\aG G K (L) w) aF ?_))))))))));obtain ⟨n,g,ho⟩:=aB hm
   exact cA [0] g (fun h i f w=>f 3=i64 h/\f 4=i64 i/\aG G K (L) w) aF aF
 exact aF
theorem aGX {p:bH} {a:Nat} {R:Bool} (hm:aEn p=some R) (m:aG G K (L) w) (b:eM K a1 a [i64 p.Kind,i64 p.Number,str p.Name,zS a4 p.Arguments.length c5]) (n:aX K a4 c5 p.Arguments):
  Calls prog 254 ([cD a1 a]:List Value).toArray w (cJ fun v w'=>v=zB R/\aG G K (L) w'):=by
 refine aN func254 rfl (by kernel_rfl) (by show (1:Nat)<=73;decide) ?_;unfold aEn at hm
 refine aL (aI (v:=zB false) (aM (aH (aL (aO (v:=cD a1 a) (aC (dA rfl b) (aC (cB (k':=a+0) oQ rfl b rfl) (aC (bY (t:=0) gH m b rfl rfl) (aM (bJ (gC [0,6] (fun f w=>∃ c,wJ p c=some R/\f 7=zB c/\aG G K (L) w) ?_ ?_)))))))))))
 ·rintro f o ⟨c,hm,g,q⟩
  unfold wJ at hm
  rcases aJ hm with ⟨d,hm⟩|⟨d,hm⟩
  ·exact aR d g (aH (bB [] (fun f w=>∃ h,wI h=some R/\f 2=zB h/\aG G K (L) w) aF aF))
  ·refine aP d g (aL (aC (dP rfl rfl) (aI (v:=zB (p.Kind == 1)) (aM ?_))))
   rcases aJ hm with ⟨i,hm⟩|⟨i,hm⟩
   ·exact aF
   ·refine aP i rfl (aL (aC (dP rfl rfl) (aI (v:=zB (p.Kind == 3)) (aM ?_))))
    rcases aJ hm with ⟨e,hm⟩|⟨e,hm⟩
    ·exact aR e rfl (aH (bB [] (fun f w=>∃ j,aBr j=some R/\f 2=zB j/\aG G K (L) w) aF aF))
    ·refine aP e rfl (aL (aC (dP rfl rfl) (aI (v:=zB (p.Kind == 4)) (aM ?_))))
     rcases aJ hm with ⟨k,hm⟩|⟨k,hm⟩
     ·exact aR k rfl (aH (bB [] (fun f w=>∃ l,aBs l=some R/\f 2=zB l/\aG G K (L) w) aF aF))
     ·exact aF
 exact aF
theorem aOP {a:(List bH)} {b R:Int} (hm:aGJ a b=some R) (h:aG G K (L) w) (i:aX K a1 c2 a):
  Calls prog 278 ([zS a1 a.length c2,i64 b]:List Value).toArray w (cJ fun v w'=>v=i64 R/\aG G K (L) w'):=by
 refine aN func278 rfl (by kernel_rfl) (by show (2:Nat)<=18;decide) ?_;unfold aGJ at hm
 refine aL (aI (v:=i64 0) (aM (aL (aI (v:=i64 1) (aM (aH (aQ [] (fun f w=>∃ c,aGH c=some R/\f 1=i64 c/\aG G K (L) w) aF ?_)))))));obtain ⟨j,d,ho⟩:=aB hm
 exact cA [0] d (fun e g f w=>f 1=i64 e/\f 5=i64 g/\aG G K (L) w) aF aF
theorem aFY {d:Definition} {b:Nat} {part R:Int} (hm:yR d part=some R) (m:aG G K (L) w) (c:eM K a1 b [str d.Name,i64 d.Parameters,zS a4 d.Body.length c5]) (q:aX K a4 c5 d.Body):
  Calls prog 255 ([cD a1 b,i64 part]:List Value).toArray w (cJ fun v w'=>v=i64 R/\aG G K (L) w'):=by
 refine aN func255 rfl (by kernel_rfl) (by show (2:Nat)<=38;decide) ?_;unfold yR at hm
 refine aL (aI (v:=i64 0) (aM (aL (aO (v:=cD a1 b) (aC (dA rfl c) (aC (cB (k':=b+1) aNd rfl c rfl) (aC (bY (t:=1) gH m c rfl rfl) (aI (v:=i64 d.Parameters) (aM (aH (aL (aI (v:=i64 0) (aM (aQ [] (fun f w=>∃ h,aIo h=some R/\f 5=i64 h/\aG G K (L) w) aF ?_))))))))))))));obtain ⟨r,n,ho⟩:=aB hm
 refine cA [0,1] n (fun e a f w=>f 5=i64 e/\f 6=i64 a/\aG G K (L) w) aF ?_
 ·rintro e a i f u hm hr ⟨x,j,y⟩
  unfold jH at hm
  refine aH (aL (bO j (aO (v:=i64 part) (aC (dJ rfl rfl) (aM ?_)))))
  rcases aJ hm with ⟨k,hm⟩|⟨k,hm⟩
  ·refine aR k rfl (aT (aE (aH (aQ [0,1,6] (fun f w=>∃ g,tE a g=some i/\f 5=i64 g/\aG G K (L) w) ?_ ?_))))
   ·rintro f z ⟨g,hm,o,p⟩
    unfold tE at hm
    exact aE (bL (bO j (aC (mQ rfl rfl) (aI (v:=i64 (wr (a+1))) (aM ⟨_,(Option.some.inj hm).symm,gB,o,rfl,p⟩)))))
   exact aH (bB [0,1,5,6] (fun f w=>∃ l,aAf e a l=some i/\f 34=zB l/\aG G K (L) w) aF aF)
  ·exact aF
theorem aNA {t:aS} {a:Nat} {b:Int} {R:Bool} (hm:aHw t b=some R) (c:aG G K (L) w) (d:eM K a1 a [i64 t.Kind,i64 t.Value]):
  Calls prog 279 ([cD a1 a,i64 b]:List Value).toArray w (cJ fun v w'=>v=zB R/\aG G K (L) w'):=by
 exact aF
theorem aMp {t:aS} {a:Nat} {R:Int} (hm:aFh t=some R) (b:aG G K (L) w) (c:eM K a1 a [i64 t.Kind,i64 t.Value]):
  Calls prog 280 ([cD a1 a]:List Value).toArray w (cJ fun v w'=>v=i64 R/\aG G K (L) w'):=by
 exact aF
theorem aQi {e:(List aS)} {d a:Int} {R:Bool} (hm:aJW e d a=some R) (n:aG G K (L) w) (o:aX K a1 c2 e):
  Calls prog 256 ([zS a1 e.length c2,i64 d,i64 a]:List Value).toArray w (cJ fun v w'=>v=zB R/\aG G K (L) w'):=by
 refine aN func256 rfl (by kernel_rfl) (by show (3:Nat)<=38;decide) ?_;unfold aJW at hm
 refine aL (aI (v:=zB false) (aM (aH (aL (aO (v:=zS a1 e.length c2) (aC (aU (len:=e.length) nW rfl) (aO (v:=i64 a) (aC (aLK rfl rfl) (aM ?_)))))))))
 rcases aJ hm with ⟨g,hm⟩|⟨g,hm⟩
 ·exact aF
 ·refine aP g rfl (aT (aE (aL (aI (v:=i64 1) (aM (aH (aL (aI (v:=i64 0) (aM (aQ [] (fun f w=>∃ h,aNl h=some R/\f 7=i64 h/\aG G K (L) w) aF ?_))))))))));obtain ⟨p,k,ho⟩:=aB hm
  refine cA [0,1] k (fun b c f w=>f 7=i64 b/\f 8=i64 c/\aG G K (L) w) aF ?_
  ·rintro b c l f q hm hr ⟨r,m,t⟩
   unfold aCu at hm
   refine aH (aL (bO m (aO (v:=zS a1 e.length c2) (aC (aU (len:=e.length) nW rfl) (aC (dJ rfl rfl) (aM ?_))))))
   rcases aJ hm with ⟨i,hm⟩|⟨i,hm⟩
   ·exact aR i rfl (aT (aE (aH (bJ (aH (aH (bB [0,1,7,8] (fun f w=>∃ j,aFi e b c j=some l/\f 28=zB j/\aG G K (L) w) aF aF)))))))
   ·exact aF
end Gv
namespace Gv
open Gv.Hp renaming le_refl→zR
open Go.Value renaming slice→zS,bool→zB
open Go Go.Proofs Go.Proofs.Tryz
set_option maxRecDepth 20000
set_option maxHeartbeats 40000000
variable {G:kE} {K:Hp} {L:List eV} {w:World} {a1 a4 a7 a10 a13 a16:Option Addr} {c2 c8 c5 c11 c14 c17:Nat}
theorem aLo {j:(List Definition)} {d:Definition} {h:Nat} {e R:Int} (hm:vL j d e=some R) (l:aG G K (L) w) (h3:aX K a1 c2 j) (k:eM K a4 h [str d.Name,i64 d.Parameters,zS a7 d.Body.length c8]) (m:aX K a7 c8 d.Body):
  Calls prog 220 ([zS a1 j.length c2,cD a4 h,i64 e]:List Value).toArray w (cJ fun v w'=>v=i64 R/\aG G K (L) w'):=by
 refine aN func220 rfl (by kernel_rfl) (by show (3:Nat)<=126;decide) ?_;unfold vL at hm
 refine aL (aI (v:=i64 0) (aM (aL (aO (v:=cD a4 h) (aC (dA rfl k) (aC (cB (k':=h+2) aCb rfl k rfl) (aC (bY (t:=2) yL l k rfl rfl) (aO (v:=i64 e) ?_))))))));obtain ⟨a,r,hm⟩:=aB hm
 refine aC (cK lO rfl m rfl rfl rfl r) ?_;obtain ⟨c6,a2,a3⟩:=aX.el (sz:=4) rfl m r
 obtain ⟨b,c,rfl,a5⟩:=a3
 refine aC (dQ (t:=0) (vs:=[i64 a.Kind,i64 a.Number,str a.Name,zS b a.Arguments.length c]) yM l a2 rfl rfl rfl) (dV (vs:=[i64 0,i64 0,str ([]:aK),zS none 0 0]) zeroValue206 l rfl (fun g c7 a6=>(eW (i:=0) (ns:=[i64 a.Kind,i64 a.Number,str a.Name,zS b a.Arguments.length c]) (us:=[i64 a.Kind,i64 a.Number,str a.Name,zS b a.Arguments.length c]) sizeOf206 a6 rfl rfl rfl rfl rfl (jY rfl) rfl rfl (fun a8 (a9:aG G K (box g 206 [i64 a.Kind,i64 a.Number,str a.Name,zS b a.Arguments.length c]::L) a8)=>(aM (aH (aL ?_)))))))
 obtain ⟨c9,b0,b1,b2,b3⟩:=aG.lendBp a9 .head
 obtain ⟨d0,b4,hm⟩:=aB hm
 refine aW (vs:=[cD (some ⟨g,0,none⟩) 0]) call254 rfl (aGX b4 b2 b1 (a5.mono b0)) ?_
 rintro _ d1 ⟨rfl,b5⟩
 have d2:=b3 _ _ b5
 refine aC (sL rfl) (aM ?_)
 rcases aJ hm with ⟨u,hm⟩|⟨u,hm⟩
 ·exact aF
 ·refine aP u rfl (aT (aE (aH (aH (bB [0,1,2,7] (fun f w=>∃ n,nB j d e a n=some R/\f 28=zB n/\aG G K (box g 206 [i64 a.Kind,i64 a.Number,str a.Name,zS b a.Arguments.length c]::L) w) ?_ ?_)))))
  ·rintro f d3 ⟨n,hm,b6,d4⟩
   unfold nB at hm
   refine aE ?_
   rcases aJ hm with ⟨x,hm⟩|⟨x,hm⟩
   ·exact aF
   ·refine aP x b6 (aT (aE (aH (aH (bB [0,1,2,7] (fun f w=>∃ o,iG j d e a o=some R/\f 51=zB o/\aG G K (box g 206 [i64 a.Kind,i64 a.Number,str a.Name,zS b a.Arguments.length c]::L) w) ?_ ?_)))))
    ·rintro f d5 ⟨o,hm,b7,y⟩
     unfold iG at hm
     refine aE ?_
     rcases aJ hm with ⟨c45,hm⟩|⟨c45,hm⟩
     ·exact aF
     ·refine aP c45 b7 (aT (aE (aL (aC (bG (t':=3) oR rfl rfl) (aC (cX aAW y (i:=0) rfl rfl rfl) (aC (aU (len:=a.Arguments.length) mT rfl) (aI (v:=i64 (a.Arguments.length:Int)) (aM (aH (aL (aC (bG (t':=0) oQ rfl rfl) (aC (cX gH y (i:=0) rfl rfl rfl) (aM (aQ [1,2,7,8] (fun f w=>iF d e a=some R/\aG G K (box g 206 [i64 a.Kind,i64 a.Number,str a.Name,zS b a.Arguments.length c]::L) w) ?_ ?_))))))))))))))
      ·rintro f d6 ⟨hm,d7⟩
       unfold iF at hm
       refine aE (aH (aH (bB [1,2,7,8] (fun f w=>∃ p,lD d e a p=some R/\f 102=zB p/\aG G K (box g 206 [i64 a.Kind,i64 a.Number,str a.Name,zS b a.Arguments.length c]::L) w) ?_ ?_)))
       ·rintro f d8 ⟨p,hm,b8,b9⟩
        unfold lD at hm
        refine aE ?_
        rcases aJ hm with ⟨z,hm⟩|⟨z,hm⟩
        ·exact aF
        ·refine aP z b8 (aT (aE (aL (aO (v:=cD a4 h) (aO (v:=i64 e) ?_)))));obtain ⟨J,c0,hm⟩:=aB hm
         refine aW (vs:=[cD a4 h,i64 e]) call255 rfl (aFY c0 b9 k m) ?_
         rintro _ d9 ⟨rfl,e0⟩
         refine aI (v:=i64 J) (aM (aH (aH (bB [7,8,9] (fun f w=>∃ q,nA a J q=some R/\f 112=zB q/\aG G K (box g 206 [i64 a.Kind,i64 a.Number,str a.Name,zS b a.Arguments.length c]::L) w) ?_ ?_))))
         ·rintro f e1 ⟨q,hm,c1,e2⟩
          unfold nA at hm
          refine aE ?_
          rcases aJ hm with ⟨V,hm⟩|⟨V,hm⟩
          ·exact aF
          ·refine aP V c1 (aT (aE (aH (aL (aI (v:=i64 0) (aM (aQ [] (fun f w=>aCv=some R/\aG G K (L) w) aF ?_)))))));obtain ⟨e3,c3,ho⟩:=aB hm
           exact bS [7,8,9] c3 (fun c4 f w=>f 10=i64 c4/\aG G K (box g 206 [i64 a.Kind,i64 a.Number,str a.Name,zS b a.Arguments.length c]::L) w) aF aF
         exact aF
       exact aF
      refine aL (aC (dP rfl rfl) (aI (v:=zB (a.Kind == 1)) (aM ?_)))
      rcases aJ hm with ⟨Z,hm⟩|⟨Z,hm⟩
      ·exact aR Z rfl (aH (bB [1,2,7,8] (fun f w=>∃ a0,qX d e a a0=some R/\f 69=zB a0/\aG G K (box g 206 [i64 a.Kind,i64 a.Number,str a.Name,zS b a.Arguments.length c]::L) w) aF aF))
      ·exact aF
    exact aF
  exact aF
theorem aNB {b:(List Definition)} {d:Definition} {a:Nat} {R:(Int × Int)} (hm:aBQ b d=some R) (e:aG G K (L) w) (l:aX K a1 c2 b) (c:eM K a4 a [str d.Name,i64 d.Parameters,zS a7 d.Body.length c8]) (h:aX K a7 c8 d.Body):
  Calls prog 177 ([zS a1 b.length c2,cD a4 a]:List Value).toArray w (cJ fun v w'=>v=Value.tuple #[i64 R.1,i64 R.2]/\aG G K (L) w'):=by
 refine aN func177 rfl (by kernel_rfl) (by show (2:Nat)<=31;decide) ?_;unfold aBQ at hm
 refine aL (aI (v:=i64 0) (aI (v:=i64 0) (aM (aH (aL (aO (v:=cD a4 a) (aC (dA rfl c) (aC (cB (k':=a+2) aCb rfl c rfl) (aC (bY (t:=2) yL e c rfl rfl) ?_)))))))));obtain ⟨m,i,hm⟩:=aB hm
 refine aW (vs:=[zS a7 d.Body.length c8]) call219 rfl (aFX i e h) ?_
 rintro _ n ⟨rfl,o⟩
 refine aC (sL rfl) (aM ?_)
 rcases aJ hm with ⟨g,hm⟩|⟨g,hm⟩
 ·exact aF
 ·refine aP g rfl (aT (aE (aH (aL (aI (v:=i64 0) (aM (aQ [] (fun f w=>aJX=some R/\aG G K (L) w) aF ?_)))))));obtain ⟨p,j,ho⟩:=aB hm
  exact bS [0,1] j (fun k f w=>f 6=i64 k/\aG G K (L) w) aF aF
theorem aNC {a:(List Definition)} {R:Bool} (hm:yS a=some R) (t:aG G K (L) w) (u:aX K a1 c2 a):
  Calls prog 133 ([zS a1 a.length c2]:List Value).toArray w (cJ fun v w'=>v=zB R/\aG G K (L) w'):=by
 refine aN func133 rfl (by kernel_rfl) (by show (1:Nat)<=70;decide) ?_;unfold yS at hm
 refine aL (aI (v:=zB false) (aM (aH (aH (bB [0] (fun f w=>∃ c,rW a c=some R/\f 15=zB c/\aG G K (L) w) ?_ ?_)))))
 ·rintro f x ⟨c,hm,k,y⟩
  unfold rW at hm
  refine aE ?_
  rcases aJ hm with ⟨g,hm⟩|⟨g,hm⟩
  ·exact aF
  ·refine aP g k (aT (aE (aH (aL (aI (v:=i64 0) (aM (aQ [0] (fun f w=>wL a=some R/\aG G K (L) w) ?_ ?_)))))))
   ·rintro f z ⟨hm,J⟩
    unfold wL at hm
    refine aE (aH (aL (aI (v:=i64 0) (aM (aQ [] (fun f w=>aJY=some R/\aG G K (L) w) aF ?_)))));obtain ⟨V,l,ho⟩:=aB hm
    exact bS [0] l (fun m f w=>f 5=i64 m/\aG G K (L) w) aF aF
   obtain ⟨Z,n,ho⟩:=aB hm
   refine bS [0] n (fun b f w=>f 3=i64 b/\aG G K (L) w) aF ?_
   ·rintro b d f a0 hm hr ⟨h,a2⟩
    unfold wN at hm
    refine aH (aL (bO h (aO (v:=zS a1 a.length c2) (aC (aU (len:=a.length) qN rfl) (aC (dJ rfl rfl) (aM ?_))))))
    rcases aJ hm with ⟨i,hm⟩|⟨i,hm⟩
    ·refine aR i rfl (aT (aE (aH (aQ [0,3] (fun f w=>aBu b=some d/\aG G K (L) w) ?_ ?_))))
     ·rintro f a3 ⟨hm,o⟩
      unfold aBu at hm
      exact aE (bL (bO h (aC (mQ rfl rfl) (aI (v:=i64 (wr (b+1))) (aM ⟨_,(Option.some.inj hm).symm,gB,rfl,o⟩)))))
     refine aH (aH (bB [0,3] (fun f w=>∃ e,wM a b e=some d/\f 37=zB e/\aG G K (L) w) ?_ ?_))
     ·rintro f a4 ⟨e,hm,p,a5⟩
      unfold wM at hm
      refine aE ?_
      rcases aJ hm with ⟨j,hm⟩|⟨j,hm⟩
      ·exact aF
      ·refine aP j p (aT (aE (aL (aI (v:=i64 0) (aM (aQ [0,3] (fun f w=>aBv b=some d/\aG G K (L) w) aF ?_))))));obtain ⟨a6,q,ho⟩:=aB hm
       exact bS [0,3] q (fun r f w=>f 4=i64 r/\aG G K (L) w) aF aF
     exact aF
    ·exact aF
 exact aF
theorem aND {a:(List Int)} {R:Bool} (hm:aEo a=some R) (d:aG G K (L) w) (e:aX K a1 c2 a):
  Calls prog 178 ([zS a1 a.length c2]:List Value).toArray w (cJ fun v w'=>v=zB R/\aG G K (L) w'):=by
 refine aN func178 rfl (by kernel_rfl) (by show (1:Nat)<=16;decide) ?_;unfold aEo at hm
 refine aL (aI (v:=zB false) (aM (aH (aL (aI (v:=i64 0) (aM (aQ [] (fun f w=>aJZ=some R/\aG G K (L) w) aF ?_)))))));obtain ⟨g,b,ho⟩:=aB hm
 exact bS [0] b (fun c f w=>f 3=i64 c/\aG G K (L) w) aF aF
theorem aGY {a:bM} {e:Nat} {R:Bool} (hm:oT a=some R) (hs:aG G K (L) w) (d:eM K a1 e [zS a4 a.Definitions.length c5,zS a7 a.Components.length c8,zS a10 a.Meetings.length c11,zS a13 a.Allowed.length c14,zS a16 a.Hidden.length c17]) (h6:aX K a4 c5 a.Definitions) (m:aX K a7 c8 a.Components) (a9:aX K a10 c11 a.Meetings) (b0:aX K a13 c14 a.Allowed) (b1:aX K a16 c17 a.Hidden):
  Calls prog 134 ([cD a1 e]:List Value).toArray w (cJ fun v w'=>v=zB R/\aG G K (L) w'):=by
 refine aN func134 rfl (by kernel_rfl) (by show (1:Nat)<=64;decide) ?_;unfold oT at hm
 refine aL (aI (v:=zB false) (aM (aH (aH (bB [0] (fun f w=>∃ k,lF a k=some R/\f 18=zB k/\aG G K (L) w) ?_ ?_)))))
 ·rintro f b2 ⟨k,hm,y,b3⟩
  unfold lF at hm
  refine aE ?_
  rcases aJ hm with ⟨n,hm⟩|⟨n,hm⟩
  ·exact aF
  ·refine aP n y (aT (aE (aH (aL (aI (v:=i64 0) (aM (aQ [] (fun f w=>aCw=some R/\aG G K (L) w) aF ?_)))))));obtain ⟨b4,z,ho⟩:=aB hm
   refine bS [0] z (fun l f w=>f 3=i64 l/\aG G K (L) w) aF ?_
   ·rintro l J f b5 hm hr ⟨o,j⟩
    unfold lE at hm
    refine aH (aL (bO o (aO (v:=cD a1 e) (aC (dA rfl d) (aC (cB (k':=e+1) aDg rfl d rfl) (aC (bY (t:=1) aNa j d rfl rfl) (aC (aU (len:=a.Components.length) xZ rfl) (aC (dJ rfl rfl) (aM ?_)))))))))
    rcases aJ hm with ⟨p,hm⟩|⟨p,hm⟩
    ·refine aR p rfl (aT (aE (aH (bJ (aL (aO (v:=cD a1 e) (aC (dA rfl d) (aC (cB (k':=e+1) aDg rfl d rfl) (aC (bY (t:=1) aNa j d rfl rfl) (bO o ?_))))))))));obtain ⟨c,q,hm⟩:=aB hm
     refine aC (cK xZ rfl m rfl rfl rfl q) ?_;obtain ⟨b6,V,Z⟩:=aX.el (sz:=2) rfl m q
     obtain ⟨g,h,rfl,b7⟩:=Z
     refine aC (dQ (t:=0) (vs:=[i64 c.Definition,zS g c.Values.length h]) aGx j V rfl rfl rfl) (dV (vs:=[i64 0,zS none 0 0]) zeroValue155 j rfl (fun r b8 a0=>(eW (i:=0) (ns:=[i64 c.Definition,zS g c.Values.length h]) (us:=[i64 c.Definition,zS g c.Values.length h]) sizeOf155 a0 rfl rfl rfl rfl rfl (jY rfl) rfl rfl (fun a2 (b:aG G K (box r 155 [i64 c.Definition,zS g c.Values.length h]::L) a2)=>(aM (aH (aH (fH (C:=fun w'=>aG G K (box r 155 [i64 c.Definition,zS g c.Values.length h]::L) w') Tryz_mixed (by kernel_rfl) (aG.mono b (eF.drew _)) (aY (fun _ b=>bG (t':=0) aNe rfl rfl) (aY (fun _ b=>cX gH b (i:=0) rfl rfl rfl) (aY (fun _ b=>aZ (v:=cD a1 e) rfl) (aY (fun _ b=>dA rfl d) (aY (fun _ b=>cB (k':=e+0) aHo rfl d rfl) (aY (fun _ b=>bY (t:=0) aPs b d rfl rfl) (aY (fun _ b=>aU (len:=a.Definitions.length) qN rfl) (aY (fun _ b=>jM rfl rfl) ?_))))))))))))))))
     obtain ⟨a3,a5,hm⟩:=aB hm
     refine fS (vs:=[i64 c.Definition,i64 0,i64 (wr ((a.Definitions.length:Int) - 1))]) (v:=zB a3) call72 rfl (fun _ b=>(aKy a5 b)) (aY (fun _ b=>sL rfl) (uT (fun b9 c0=>(aE ?_))))
     rcases aJ hm with ⟨u,hm⟩|⟨u,hm⟩
     ·exact aF
     ·exact aP u rfl (aT (aE (aH (bB [0,3] (fun f w=>∃ x,nZ l x=some J/\f 63=zB x/\aG G K (L) w) aF aF))))
    ·exact aF
 exact aF
theorem aJf {b:(List bD)} {R:Bool} (hm:tF b=some R) (hs:aG G K (L) w) (l:aX K a1 c2 b):
  Calls prog 135 ([zS a1 b.length c2]:List Value).toArray w (cJ fun v w'=>v=zB R/\aG G K (L) w'):=by
 refine aN func135 rfl (by kernel_rfl) (by show (1:Nat)<=101;decide) ?_;unfold tF at hm
 refine aL (aI (v:=zB false) (aM (aH (aL (aO (v:=zS a1 b.length c2) (aC (aU (len:=b.length) vX rfl) (aC (aLK rfl rfl) (aM ?_))))))))
 rcases aJ hm with ⟨m,hm⟩|⟨m,hm⟩
 ·exact aF
 ·refine aP m rfl (aT (aE (aH (aL (aI (v:=i64 0) (aM (aQ [] (fun f w=>aEp=some R/\aG G K (L) w) aF ?_)))))));obtain ⟨a8,y,ho⟩:=aB hm
  refine bS [0] y (fun c f w=>f 3=i64 c/\aG G K (L) w) aF ?_
  ·rintro c e f a9 hm hr ⟨g,n⟩
   unfold kX at hm
   refine aH (aL (bO g (aO (v:=zS a1 b.length c2) (aC (aU (len:=b.length) vX rfl) (aC (dJ rfl rfl) (aM ?_))))))
   rcases aJ hm with ⟨o,hm⟩|⟨o,hm⟩
   ·refine aR o rfl (aT (aE (aH (aQ [0,3] (fun f w=>rX c=some e/\aG G K (L) w) ?_ ?_))))
    ·rintro f b0 ⟨hm,z⟩
     unfold rX at hm
     exact aE (bL (bO g (aC (mQ rfl rfl) (aI (v:=i64 (wr (c+1))) (aM ⟨_,(Option.some.inj hm).symm,gB,rfl,z⟩)))))
    refine aL (aO (v:=zS a1 b.length c2) (bO g ?_));obtain ⟨a,p,hm⟩:=aB hm
    refine aC (cK vX rfl l rfl rfl rfl p) ?_;obtain ⟨b1,J,V⟩:=aX.el (sz:=3) rfl l p
    cases V
    refine aC (dQ (t:=0) (vs:=[str a.Left,str a.Right,str a.Result]) aLe n J rfl rfl rfl) (dV (vs:=[str ([]:aK),str ([]:aK),str ([]:aK)]) zeroValue159 n rfl (fun d b2 Z=>(eW (i:=0) (ns:=[str a.Left,str a.Right,str a.Result]) (us:=[str a.Left,str a.Right,str a.Result]) sizeOf159 Z rfl rfl rfl rfl rfl (jY rfl) rfl rfl (fun a0 (b3:aG G K (box d 159 [str a.Left,str a.Right,str a.Result]::L) a0)=>(aM (aH (aH (bB [0,3,4] (fun f w=>∃ h,hH b c a h=some e/\f 41=zB h/\aG G K (box d 159 [str a.Left,str a.Right,str a.Result]::L) w) ?_ ?_))))))))
    ·rintro f b4 ⟨h,hm,a2,b5⟩
     unfold hH at hm
     refine aE ?_
     rcases aJ hm with ⟨q,hm⟩|⟨q,hm⟩
     ·exact aF
     ·refine aP q a2 (aT (aE (aH (aH (bB [0,3,4] (fun f w=>∃ j,gZ b c a j=some e/\f 76=zB j/\aG G K (box d 159 [str a.Left,str a.Right,str a.Result]::L) w) ?_ ?_)))))
      ·rintro f b6 ⟨j,hm,a3,b7⟩
       unfold gZ at hm
       refine aE ?_
       rcases aJ hm with ⟨r,hm⟩|⟨r,hm⟩
       ·exact aF
       ·refine aP r a3 (aT (aE (aL (aI (v:=i64 0) (aM (aQ [0,3] (fun f w=>yT c=some e/\aG G K (L) w) aF ?_))))));obtain ⟨b8,a4,ho⟩:=aB hm
        refine bS [0,3,4] a4 (fun k f w=>f 5=i64 k/\aG G K (box d 159 [str a.Left,str a.Right,str a.Result]::L) w) aF ?_
        ·rintro k a5 f b9 hm hr ⟨a6,c0⟩
         unfold nC at hm
         refine aH (aL (bO a6 (aO (v:=zS a1 b.length c2) (aC (aU (len:=b.length) vX rfl) (aC (dJ rfl rfl) (aM ?_))))))
         rcases aJ hm with ⟨u,hm⟩|⟨u,hm⟩
         ·exact aR u rfl (aT (aE (aH (bJ (aH (bB [0,3,4,5] (fun f w=>∃ x,rY k x=some a5/\f 100=zB x/\aG G K (box d 159 [str a.Left,str a.Right,str a.Result]::L) w) aF aF))))))
         ·exact aF
      exact aF
    exact aF
   ·exact aF
theorem aKB {a:(List aK)} {R:Bool} (hm:wO a=some R) (d:aG G K (L) w) (e:aX K a1 c2 a):
  Calls prog 179 ([zS a1 a.length c2]:List Value).toArray w (cJ fun v w'=>v=zB R/\aG G K (L) w'):=by
 refine aN func179 rfl (by kernel_rfl) (by show (1:Nat)<=16;decide) ?_;unfold wO at hm
 refine aL (aI (v:=zB false) (aM (aH (aL (aI (v:=i64 0) (aM (aQ [] (fun f w=>aFP=some R/\aG G K (L) w) aF ?_)))))));obtain ⟨g,b,ho⟩:=aB hm
 exact bS [0] b (fun c f w=>f 3=i64 c/\aG G K (L) w) aF aF
theorem aMq {a:(List aK)} {R:Bool} (hm:yU a=some R) (h:aG G K (L) w) (i:aX K a1 c2 a):
  Calls prog 136 ([zS a1 a.length c2]:List Value).toArray w (cJ fun v w'=>v=zB R/\aG G K (L) w'):=by
 refine aN func136 rfl (by kernel_rfl) (by show (1:Nat)<=28;decide) ?_;unfold yU at hm
 refine aL (aI (v:=zB false) (aM (aH (aH (bB [0] (fun f w=>∃ b,tH a b=some R/\f 11=zB b/\aG G K (L) w) ?_ ?_)))))
 ·rintro f j ⟨b,hm,d,k⟩
  unfold tH at hm
  refine aE ?_
  rcases aJ hm with ⟨c,hm⟩|⟨c,hm⟩
  ·exact aF
  ·refine aP c d (aT (aE (aH (aL (aI (v:=i64 1) (aM (aQ [] (fun f w=>aIp=some R/\aG G K (L) w) aF ?_)))))));obtain ⟨l,e,ho⟩:=aB hm
   exact bS [0] e (fun g f w=>f 3=i64 g/\aG G K (L) w) aF aF
 exact aF
theorem aMr {a:bM} {b:Nat} {R:Int} (hm:aFj a=some R) (c:aG G K (L) w) (d:eM K a1 b [zS a4 a.Definitions.length c5,zS a7 a.Components.length c8,zS a10 a.Meetings.length c11,zS a13 a.Allowed.length c14,zS a16 a.Hidden.length c17]) (e:aX K a4 c5 a.Definitions) (g:aX K a7 c8 a.Components) (h:aX K a10 c11 a.Meetings) (i:aX K a13 c14 a.Allowed) (j:aX K a16 c17 a.Hidden):
  Calls prog 82 ([cD a1 b]:List Value).toArray w (cJ fun v w'=>v=i64 R/\aG G K (L) w'):=by
 exact aF
theorem aKC {a:bM} {b:Nat} {R:Bool} (hm:aKa a=some R) (c:aG G K (L) w) (d:eM K a1 b [zS a4 a.Definitions.length c5,zS a7 a.Components.length c8,zS a10 a.Meetings.length c11,zS a13 a.Allowed.length c14,zS a16 a.Hidden.length c17]) (e:aX K a4 c5 a.Definitions) (g:aX K a7 c8 a.Components) (h:aX K a10 c11 a.Meetings) (i:aX K a13 c14 a.Allowed) (j:aX K a16 c17 a.Hidden):
  Calls prog 40 ([cD a1 b]:List Value).toArray w (cJ fun v w'=>v=zB R/\aG G K (L) w'):=by
 exact aF
theorem aFZ {a R:Int} (hm:aFk a=some R) (e:aG G K (L) w):
  Calls prog 258 ([i64 a]:List Value).toArray w (cJ fun v w'=>v=i64 R/\aG G K (L) w'):=by
 refine aN func258 rfl (by kernel_rfl) (by show (1:Nat)<=13;decide) ?_;unfold aFk at hm
 refine aL (aI (v:=i64 0) (aM (aH (aL (aO (v:=i64 a) (aM (bJ (aL (aC (dP rfl rfl) (aI (v:=zB (a == 8)) (aM ?_)))))))))))
 rcases aJ hm with ⟨b,hm⟩|⟨b,hm⟩
 ·exact aF
 ·refine aP b rfl (aL (aC (dP rfl rfl) (aI (v:=zB (a == 7)) (aM ?_))))
  rcases aJ hm with ⟨c,hm⟩|⟨c,hm⟩
  ·exact aF
  ·exact aP c rfl (gC [3] (fun f w=>∃ d,aDR a d=some R/\f 8=zB d/\aG G K (L) w) aF aF)
theorem aIy  {R:(List aK)} (hm:aKb=some R) (d:aG G K (L) w):
  Calls prog 259 ([]:List Value).toArray w (cJ fun v w'=>∃ b c,v=zS b R.length c/\aG G K (aV 9 K b c R::L) w'):=by
 refine aN func259 rfl (by kernel_rfl) (by show (0:Nat)<=2;decide) ?_;unfold aKb at hm
 refine aL (aI (v:=zS none 0 0) (aM (aL (dH (Kt:=K) (xs:=([([43]:aK),([45]:aK),([42]:aK),([61]:aK),([35]:aK),([60]:aK),([60,61]:aK),([38]:aK),([124]:aK)]:List aK)) (cs:=[str ([43]:aK),str ([45]:aK),str ([42]:aK),str ([61]:aK),str ([35]:aK),str ([60]:aK),str ([60,61]:aK),str ([38]:aK),str ([124]:aK)]) (vs:=[(0,str ([43]:aK)),(1,str ([45]:aK)),(2,str ([42]:aK)),(3,str ([61]:aK)),(4,str ([35]:aK)),(5,str ([60]:aK)),(6,str ([60,61]:aK)),(7,str ([38]:aK)),(8,str ([124]:aK))]) cU pT rfl rfl d rfl (by kernel_rfl) rfl rfl rfl ⟨rfl,rfl,rfl,rfl,rfl,rfl,rfl,rfl,rfl,trivial⟩ (fun a e (g:aG G K (aV 9 K a 9 ([([43]:aK),([45]:aK),([42]:aK),([61]:aK),([35]:aK),([60]:aK),([60,61]:aK),([38]:aK),([124]:aK)]:List aK)::L) e)=>(aI (v:=zS a ([([43]:aK),([45]:aK),([42]:aK),([61]:aK),([35]:aK),([60]:aK),([60,61]:aK),([38]:aK),([124]:aK)]:List aK).length 9) (aM ?_)))))))
 obtain rfl:=Option.some.inj hm
 exact aGk (aGm results259 rfl ⟨a,9,rfl,g⟩)
end Gv
