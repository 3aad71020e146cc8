/- Walks, printed by program. -/
import Derived.Test.YtoddhhghiolggaaGreatDoorJWk1
set_option linter.all false
namespace Gv
open Gv.Hp renaming le_refl→zR
open Go.Value renaming slice→zS,bool→zB
open Go Go.Proofs Go.Proofs.Tryz
set_option maxRecDepth 20000
set_option maxHeartbeats 40000000
variable {G:kE} {K:Hp} {L:List eT} {w:World} {a1 a4 a7:Option Addr} {c2 c5 c8:Nat}
theorem aJB {a:(List bH)} {R:Bool} (hm:aEC a=some R) (i:aG G K (L) w) (j:aY K a1 c2 a):
  Calls prog 32 ([zS a1 a.length c2]:List Value).toArray w (cK fun v w'=>v=zB R/\aG G K (L) w'):=by
 refine aM func32 rfl (by kernel_rfl) (by show (1:Nat)<=50;decide) ?_;unfold aEC at hm
 refine aK (aH (v:=zB false) (aL (aI (aK (aO (v:=zS a1 a.length c2) ?_)))));obtain ⟨n,k,hm⟩:=aB hm
 refine aW (vs:=[zS a1 a.length c2,i64 30,i64 8]) call76 rfl (aFn k i j) ?_
 rintro _ o ⟨rfl,p⟩
 refine aC (vB rfl) (aL ?_)
 rcases aJ hm with ⟨d,hm⟩|⟨d,hm⟩
 ·exact aE
 ·refine aP d rfl (aU (aF (aI (aK (aH (v:=i64 0) (aL (aQ [] (fun f w=>aHX=some R/\aG G K (L) w) aE ?_)))))));obtain ⟨q,l,ho⟩:=aB hm
  refine bP [0] l (fun b f w=>f 3=i64 b/\aG G K (L) w) aE ?_
  ·rintro b c f r hm hr ⟨m,t⟩
   unfold aBV at hm
   refine aI (aK (bO m (aO (v:=zS a1 a.length c2) (aC (aV (len:=a.length) rX rfl) (aC (dR rfl rfl) (aL ?_))))))
   rcases aJ hm with ⟨e,hm⟩|⟨e,hm⟩
   ·refine aS e rfl (aU (aF (aI (bK (gY [0,3] (fun f w=>aBU a b=some c/\aG G K (L) w) ?_ ?_)))))
    ·rintro f u ⟨hm,x⟩
     unfold aBU at hm
     exact aI (aZ [0,3] (fun f w=>∃ g,aEA b g=some c/\f 49=zB g/\aG G K (L) w) aE aE)
    exact aI (aZ [0,3] (fun f w=>∃ h,aEB a b h=some c/\f 24=zB h/\aG G K (L) w) aE aE)
   ·exact aE
theorem gL {a:aN} {b:Bool} {R:aN} (hm:iG a b=some R) (c:aG G K (L) w):
  Calls prog 80 ([str a,zB b]:List Value).toArray w (cK fun v w'=>v=str R/\aG G K (L) w'):=by
 exact aE
theorem zO {n:Int} {R:aN} (hm:lO n=some R) (hs:aG G K (L) w):
  Calls prog 81 ([i64 n]:List Value).toArray w (cK fun v w'=>v=str R/\aG G K (L) w'):=by
 refine aM func81 rfl (by kernel_rfl) (by show (1:Nat)<=50;decide) ?_;unfold lO at hm
 refine aK (aH (v:=str ([]:aN)) (aL (aI (aK (aO (v:=i64 n) (aC (dS rfl rfl) (aL ?_)))))))
 rcases aJ hm with ⟨q,hm⟩|⟨q,hm⟩
 ·exact aE
 ·refine aP q rfl (aU (aF (aK (dK (Kt:=K) (xs:=([]:List UInt8)) (cs:=[]) (vs:=[]) aOX ez_5 rfl rfl hs rfl (by kernel_rfl) rfl rfl rfl trivial (fun r w4 (b5:aG G K (aT 5 K r 0 ([]:List UInt8)::L) w4)=>(aH (v:=zS r ([]:List UInt8).length 0) (aL (aI (aK (aO (v:=i64 n) (aH (v:=i64 n) (aL (aQ [0] (fun f w=>∃ g k l,aCP n g=some R/\f 3=zS k g.length l/\aG G K (aT 5 K k l g::L) w) ?_ ?_)))))))))))))
  ·rintro f b6 ⟨g,k,l,hm,e9,b8⟩
   unfold aCP at hm
   refine aF (gY [] (fun f w=>∃ a b c,aAg a=some R/\f 3=zS b a.length c/\aG G K (aT 5 K b c a::L) w) ?_ ?_)
   ·rintro f b9 ⟨a,b,c,hm,a2,a4⟩
    unfold aAg at hm
    refine aK (dK (Kt:=K) (xs:=([]:List UInt8)) (cs:=[]) (vs:=[]) aOX ez_5 rfl rfl a4 rfl (by kernel_rfl) rfl rfl rfl trivial (fun t a5 (c0:aG G K (aT 5 K t 0 ([]:List UInt8)::aT 5 K b c a::L) a5)=>(aH (v:=zS t ([]:List UInt8).length 0) (aL (aI (aK (bO a2 (aC (aV (len:=a.length) aOX rfl) (aC (jI rfl rfl) (aH (v:=i64 (wr ((a.length:Int) - 1))) (aL (aQ [] (fun f w=>∃ d m o,aFN d=some R/\f 6=zS m d.length o/\aG G K (aT 5 K m o d::L) w) ?_ ?_))))))))))))
    ·rintro f c2 ⟨d,m,o,hm,a6,u⟩
     unfold aFN at hm
     refine aF (aK (bO a6 (aC (R_convBSO underlying168 underlying5 underlying9 u (i:=0) rfl rfl rfl) (aH (v:=str d) (aL ?_)))));obtain rfl:=Option.some.inj hm
     exact aIA (aKc results81 rfl ⟨rfl,(aG.arr 1 [] u rfl)⟩)
    obtain ⟨c3,a9,ho⟩:=aB hm
    exact cG [3] a9 (fun x b0 f w=>∃ y z,f 6=zS y x.length z/\f 7=i64 b0/\aG G K (aT 5 K y z x::aT 5 K b c a::L) w) aE aE
   exact aE
  obtain ⟨c4,b1,ho⟩:=aB hm
  refine cG [0] b1 (fun e p f w=>∃ h j,f 3=zS h e.length j/\f 4=i64 p/\aG G K (aT 5 K h j e::L) w) aE ?_
  ·rintro e p b2 f c5 hm hr ⟨h,j,c6,J,c7⟩
   unfold aAh at hm
   refine aI (aK (bO J (aC (rW rfl rfl) (aL ?_))))
   rcases aJ hm with ⟨V,hm⟩|⟨V,hm⟩
   ·refine aS V rfl (aU (aF (aI (bK (aK (bO J ?_))))));obtain ⟨b3,b4,hm⟩:=aB hm
    exact aC (R_rem rfl rfl b4) (aH (v:=i64 b3) (aL (gY [0,3,4] (fun f w=>∃ Z,aCQ e p Z=some b2/\f 5=i64 Z/\aG G K (aT 5 K h j e::L) w) aE aE)))
   ·exact aE
theorem aMv {a:aN} {b:Bool} {R:aN} (hm:aBq a b=some R) (d:aG G K (L) w):
  Calls prog 82 ([str a,zB b]:List Value).toArray w (cK fun v w'=>v=str R/\aG G K (L) w'):=by
 refine aM func82 rfl (by kernel_rfl) (by show (2:Nat)<=26;decide) ?_;unfold aBq at hm
 exact aK (aH (v:=str ([]:aN)) (aL (aK (aO (v:=str a) (aH (v:=str a) (aL (aK (aO (v:=str a) (aC (sF runUnderlying9 rfl) (aH (v:=i64 (a.length:Int)) (aL (gY [1] (fun f w=>∃ c,rK b c=some R/\f 5=str c/\aG G K (L) w) aE aE))))))))))))
theorem aDb {x:(List bH)} {R:aN} (hm:nO x=some R) (hs:aG G K (L) w) (h3:aY K a1 c2 x):
  Calls prog 33 ([zS a1 x.length c2]:List Value).toArray w (cK fun v w'=>v=str R/\aG G K (L) w'):=by
 refine aM func33 rfl (by kernel_rfl) (by show (1:Nat)<=174;decide) ?_;unfold nO at hm
 refine aK (aH (v:=str ([]:aN)) (aL (aK (dK (Kt:=K) (xs:=([]:List aN)) (cs:=[]) (vs:=[]) cX qA rfl rfl hs rfl (by kernel_rfl) rfl rfl rfl trivial (fun a4 w5 (g1:aG G K (aT 9 K a4 0 ([]:List aN)::L) w5)=>(aH (v:=zS a4 ([]:List aN).length 0) (aL (aK (dK (Kt:=K) (xs:=([]:List Int)) (cs:=[]) (vs:=[]) fI aAa rfl rfl g1 rfl (by kernel_rfl) rfl rfl rfl trivial (fun a7 w8 (k8:aG G K (aT 2 K a7 0 ([]:List Int)::aT 9 K a4 0 ([]:List aN)::L) w8)=>(aH (v:=zS a7 ([]:List Int).length 0) (aL (aI (aK (aO (v:=zS a1 x.length c2) (aC (aV (len:=x.length) rX rfl) (aC (jI rfl rfl) (aH (v:=i64 (wr ((x.length:Int) - 1))) (aL (aQ [] (fun f w=>∃ b0 c8 c9,aAC b0=some R/\f 3=zS c8 b0.length c9/\aG G K (aT 9 K c8 c9 b0::L) w) aE ?_))))))))))))))))))))
 obtain ⟨k9,g3,ho⟩:=aB hm
 refine aBy [0] g3 (fun c e z f w=>∃ l m j k,f 3=zS l c.length m/\f 4=zS j e.length k/\f 5=i64 z/\aG G K (aT 2 K j k e::aT 9 K l m c::L) w) aE ?_
 ·rintro c e z Z f l0 hm hr ⟨l,m,j,k,q,y,d0,b1⟩
  unfold eU at hm
  refine aI (aK (bO d0 (aC (aNY rfl rfl) (aL ?_))))
  rcases aJ hm with ⟨b2,hm⟩|⟨b2,hm⟩
  ·refine aS b2 rfl (aU (aF (aI (bK (aK (aO (v:=zS a1 x.length c2) (bO d0 ?_)))))));obtain ⟨a,d1,hm⟩:=aB hm
   refine aC (cL rX rfl h3 rfl rfl rfl d1) ?_;obtain ⟨l1,g4,g5⟩:=aY.el (sz:=4) rfl h3 d1
   cases g5
   refine aC (dU (t:=0) (vs:=[i64 a.Kind,i64 a.Variable,str a.B,zB a.Not]) aHR b1 g4 rfl rfl rfl) (eA (vs:=[i64 0,i64 0,str ([]:aN),zB false]) zeroValue109 b1 rfl (fun p l2 g6=>(eY (i:=0) (ns:=[i64 a.Kind,i64 a.Variable,str a.B,zB a.Not]) (us:=[i64 a.Kind,i64 a.Variable,str a.B,zB a.Not]) sizeOf109 g6 rfl rfl rfl rfl rfl (kI rfl) rfl rfl (fun g7 (d2:aG G K (box p 109 [i64 a.Kind,i64 a.Variable,str a.B,zB a.Not]::aT 2 K j k e::aT 9 K l m c::L) g7)=>(aL (aK (bO q (aC (aV (len:=c.length) cX rfl) (aC (jI rfl rfl) (aH (v:=i64 (wr ((c.length:Int) - 1))) (aL (aK (aH (v:=str ([]:aN)) (aL (aK (aC (bI (t':=0) aAb rfl rfl) (aC (dH iK d2 (i:=0) rfl rfl rfl) ?_)))))))))))))))))
   obtain ⟨r,g8,hm⟩:=aB hm
   refine aW (vs:=[i64 a.Kind]) call79 rfl (aAF g8 d2) ?_
   rintro _ l3 ⟨rfl,d⟩
   refine aH (v:=i64 r) (aL (gY [0,3,4,5,6,7,9] (fun f w=>∃ a0,gN c e z a r a0=some Z/\f 8=str a0/\aG G K (box p 109 [i64 a.Kind,i64 a.Variable,str a.B,zB a.Not]::aT 2 K j k e::aT 9 K l m c::L) w) ?_ ?_))
   ·rintro f l4 ⟨a0,hm,g9,b⟩
    unfold gN at hm
    refine aI (aK (aC (bI (t':=0) aAb rfl rfl) (aC (dH iK b (i:=0) rfl rfl rfl) (aL (aQ [0,3,4,5,6,9] (fun f w=>∃ u,cY c e z a r u=some Z/\f 8=str u/\aG G K (box p 109 [i64 a.Kind,i64 a.Variable,str a.B,zB a.Not]::aT 2 K j k e::aT 9 K l m c::L) w) ?_ ?_)))))
    ·rintro f l5 ⟨u,hm,h0,d3⟩
     unfold cY at hm
     refine aF (aK (bO q (bO q (aC (aV (len:=c.length) cX rfl) (aO (v:=i64 r) (aC (jI rfl rfl) ?_))))));obtain ⟨h1,d4,hm⟩:=aB hm
     have h2:=pJ d3 (i:=2) rfl
     obtain ⟨h4,h5,d5⟩:=Cut.ex 1 l m 0
     refine aC (uD cX h2 d5 rfl rfl rfl d4) (bO h0 (dK (Kt:=K) (xs:=([u]:List aN)) (cs:=[str u]) (vs:=[(0,str u)]) cX qA rfl rfl d3 rfl (by kernel_rfl) rfl rfl rfl ⟨rfl,trivial⟩ (fun d6 d7 (h6:aG G K (aT 9 K d6 1 ([u]:List aN)::box p 109 [i64 a.Kind,i64 a.Variable,str a.B,zB a.Not]::aT 2 K j k e::aT 9 K l m c::L) d7)=>?_)))
     have h7:aG G K (aT 9 K d6 1 ([u]:List aN)::box p 109 [i64 a.Kind,i64 a.Variable,str a.B,zB a.Not]::aT 2 K j k e::aT 9 K h4 h5 h1::L) d7:=aG.cutP h6 (i:=3) rfl d4 d5
     obtain ⟨a2,h8,hm⟩:=aB hm
     refine jO (i:=2) cX underlying37 qA rfl rfl h7 rfl (Hp.le_refl _) (Hp.le_refl _) h8 rfl rfl rfl rfl (fun _ h=>h) (fun a3 a5 h9 (i0:aG G K (box p 109 [i64 a.Kind,i64 a.Variable,str a.B,zB a.Not]::aT 2 K j k e::aT 9 K a3 a5 a2::L) h9)=>(aH (v:=zS a3 a2.length a5) (aL ?_)));obtain ⟨b3,l6,i1,d8,l7⟩:=aG.lendBp i0 .head
     refine mJ (C:=fun w'=>∃ L',aG G b3 L' w') [(0,0),(1,0),(2,0),(3,0),(4,0),(5,0),(6,0),(7,0),(8,1),(9,1),(10,0)] Tryz_mixed (by kernel_rfl) (fun _ hg=>⟨_,aG.mono d8 hg⟩) (fun l8 i2=>?_)
     have a6:=aG.mono d8 i2
     refine dI rfl (fun _ _=>bE y) (dI rfl (fun _ _=>bE y) (dI rfl (fun _ _=>aV (len:=e.length) fI rfl) (dI rfl (fun _ _=>bE (v:=i64 r) rfl) (dI rfl (fun _ _=>jI rfl rfl) ?_))));obtain ⟨i3,d9,hm⟩:=aB hm
     have i4:=pJ a6 (i:=0) rfl
     obtain ⟨i5,i6,e0⟩:=Cut.ex 1 j k 0
     refine dI rfl (fun _ _=>uD fI i4 e0 rfl rfl rfl d9) (dI rfl (fun _ _=>bI (t':=0) aAb rfl rfl) (dI rfl (fun _ ⟨_,a6⟩=>cC (t:=0) iK a6 i1 rfl rfl) (vG rfl (dK (Kt:=K) (xs:=([a.Kind]:List Int)) (cs:=[i64 a.Kind]) (vs:=[(0,i64 a.Kind)]) fI aAa rfl rfl a6 rfl (by kernel_rfl) rfl rfl rfl ⟨rfl,trivial⟩ (fun e1 e2 (e3:aG G b3 (aT 2 K e1 1 ([a.Kind]:List Int)::aT 2 K j k e::aT 9 K a3 a5 a2::L) e2)=>(bY (aF ⟨⟨_,e3⟩,?_⟩)))))))
     refine vG rfl ?_
     have l9:aG G b3 (aT 2 K e1 1 ([a.Kind]:List Int)::aT 2 K i5 i6 i3::aT 9 K a3 a5 a2::L) e2:=aG.cutP e3 (i:=1) rfl d9 e0
     exact aE
    refine aK (aC (dS rfl rfl) (aH (v:=zB (a.Kind == 0)) (aL ?_)))
    rcases aJ hm with ⟨e4,hm⟩|⟨e4,hm⟩
    ·exact aE
    ·refine aP e4 rfl (aK (aC (dS rfl rfl) (aH (v:=zB (a.Kind == 1)) (aL ?_))))
     rcases aJ hm with ⟨e5,hm⟩|⟨e5,hm⟩
     ·exact aE
     ·refine aP e5 rfl (aK (aC (dS rfl rfl) (aH (v:=zB (a.Kind == 6)) (aL ?_))))
      rcases aJ hm with ⟨e6,hm⟩|⟨e6,hm⟩
      ·exact aE
      ·refine aP e6 rfl (aK (aC (dS rfl rfl) (aH (v:=zB (a.Kind == 4)) (aL ?_))))
       rcases aJ hm with ⟨e7,hm⟩|⟨e7,hm⟩
       ·exact aE
       ·refine aP e7 rfl (aK (aC (dS rfl rfl) (aH (v:=zB (a.Kind == 5)) (aL ?_))))
        rcases aJ hm with ⟨e8,hm⟩|⟨e8,hm⟩
        ·exact aE
        ·refine aP e8 rfl (aK (aC (dS rfl rfl) (aH (v:=zB (a.Kind == 7)) (aL ?_))))
         rcases aJ hm with ⟨e9,hm⟩|⟨e9,hm⟩
         ·exact aE
         ·refine aP e9 rfl (aK (aC (dS rfl rfl) (aH (v:=zB (a.Kind == 8)) (aL ?_))))
          rcases aJ hm with ⟨f0,hm⟩|⟨f0,hm⟩
          ·exact aE
          ·refine aP f0 rfl (aK (aC (dS rfl rfl) (aH (v:=zB (a.Kind == 2)) (aL ?_))))
           rcases aJ hm with ⟨b4,hm⟩|⟨b4,hm⟩
           ·refine aS b4 rfl (aZ [0,3,4,5,6,9] (fun f w=>∃ f1,tT c e z a r f1=some Z/\f 8=str f1/\aG G K (box p 109 [i64 a.Kind,i64 a.Variable,str a.B,zB a.Not]::aT 2 K j k e::aT 9 K l m c::L) w) aE (fY (C:=fun w'=>aG G K (box p 109 [i64 a.Kind,i64 a.Variable,str a.B,zB a.Not]::aT 2 K j k e::aT 9 K l m c::L) w') Tryz_mixed (by kernel_rfl) (aG.mono b (eG.drew _)) (bD (fun _ b=>bE q) (bD (fun _ b=>bE (v:=i64 (wr ((c.length:Int) - 1))) rfl) ?_))))
            obtain ⟨f2,b5,hm⟩:=aB hm
            have i7:=eE b (i:=2) rfl b5
            refine bD (fun _ b=>iP cX rfl i7 rfl rfl rfl b5) (bD (fun _ b=>oG (t:=0) nK b (i:=2) rfl b5 rfl rfl rfl) (bD (fun _ b=>bE y) (bD (fun _ b=>bE (v:=i64 (wr ((c.length:Int) - 1))) rfl) ?_)));obtain ⟨b6,J,hm⟩:=aB hm
            have f3:=eE b (i:=1) rfl J
            refine bD (fun _ b=>iP fI rfl f3 rfl rfl rfl J) (bD (fun _ b=>oG (t:=0) iK b (i:=1) rfl J rfl rfl rfl) (bD (fun _ b=>dS rfl rfl) (bD (fun _ b=>bE (v:=zB (b6 == 2)) rfl) ?_)))
            rcases aJ hm with ⟨n,hm⟩|⟨n,hm⟩
            ·refine aAA (g:=111) rfl rfl (aHk n) (aAA (g:=111) rfl rfl (aHk n) (aAA (g:=111) rfl rfl (aHk n) (aAA (g:=111) rfl rfl (aHk n) (aAA (g:=111) rfl rfl (aHk n) (bD (fun _ b=>oE (v:=zB true) n rfl rfl) ?_)))));obtain ⟨i8,i9,hm⟩:=aB hm
             exact iM (vs:=[str f2,zB true]) (v:=str i8) call80 rfl (fun _ b=>(gL i9 b)) aE
            ·refine iI (g:=111) rfl rfl (lH n) (bD (fun _ b=>bE y) (iI (g:=111) rfl rfl (lH n) (bD (fun _ b=>bE (v:=i64 (wr ((c.length:Int) - 1))) rfl) (iI (g:=111) rfl rfl (lH n) (bD (fun _ b=>iP fI rfl f3 rfl rfl rfl J) (iI (g:=111) rfl rfl (lH n) (bD (fun _ b=>oG (t:=0) iK b (i:=1) rfl J rfl rfl rfl) (iI (g:=111) rfl rfl (lH n) (bD (fun _ b=>dS rfl rfl) (bD (fun _ b=>vC (v:=zB (b6 == 3)) n rfl rfl) ?_))))))))))
             obtain ⟨j0,j1,hm⟩:=aB hm
             exact iM (vs:=[str f2,zB (b6 == 3)]) (v:=str j0) call80 rfl (fun _ b=>(gL j1 b)) aE
           ·refine aP b4 rfl (aK (aC (dS rfl rfl) (aH (v:=zB (a.Kind == 3)) (aL ?_))))
            rcases aJ hm with ⟨b7,hm⟩|⟨b7,hm⟩
            ·refine aS b7 rfl (fY (C:=fun w'=>aG G K (box p 109 [i64 a.Kind,i64 a.Variable,str a.B,zB a.Not]::aT 2 K j k e::aT 9 K l m c::L) w') Tryz_mixed (by kernel_rfl) (aG.mono b (eG.drew _)) (bD (fun _ b=>bE q) (bD (fun _ b=>bE (v:=i64 (wr ((c.length:Int) - 1))) rfl) ?_)));obtain ⟨j2,b8,hm⟩:=aB hm
             have f4:=eE b (i:=2) rfl b8
             refine bD (fun _ b=>iP cX rfl f4 rfl rfl rfl b8) (bD (fun _ b=>oG (t:=0) nK b (i:=2) rfl b8 rfl rfl rfl) (bD (fun _ b=>bE y) (bD (fun _ b=>bE (v:=i64 (wr ((c.length:Int) - 1))) rfl) ?_)));obtain ⟨j3,b9,hm⟩:=aB hm
             have j4:=eE b (i:=1) rfl b9
             refine bD (fun _ b=>iP fI rfl j4 rfl rfl rfl b9) (bD (fun _ b=>oG (t:=0) iK b (i:=1) rfl b9 rfl rfl rfl) (bD (fun _ b=>dS rfl rfl) ?_));obtain ⟨j5,j6,hm⟩:=aB hm
             refine iM (vs:=[str j2,zB (j3 == 3)]) (v:=str j5) call80 rfl (fun _ b=>(gL j6 b)) ?_;obtain ⟨m0,j7,hm⟩:=aB hm
             refine bD (fun _ b=>eM rfl rfl j7) (bD (fun _ b=>bE q) (bD (fun _ b=>bE (v:=i64 (wr ((c.length:Int) - 1))) rfl) (bD (fun _ b=>jI rfl rfl) ?_)));obtain ⟨m1,f5,hm⟩:=aB hm
             refine bD (fun _ b=>iP cX rfl f4 rfl rfl rfl f5) (bD (fun _ b=>oG (t:=0) nK b (i:=2) rfl f5 rfl rfl rfl) ?_);obtain ⟨f6,j8,hm⟩:=aB hm
             exact bD (fun _ b=>eM rfl rfl j8) (bD (fun _ b=>eO (v:=str f6) rfl) (vE (fun m2 j9=>(eV (aF ⟨gH,f6,hm,rfl,j9⟩)))))
            ·exact aP b7 rfl (aU (eV (aF ⟨gH,a0,hm,g9,b⟩)))
   refine aK (aO (v:=i64 r) (aC (dS rfl rfl) (aL ?_)))
   rcases aJ hm with ⟨c0,hm⟩|⟨c0,hm⟩
   ·refine aS c0 rfl (aZ [0,3,4,5,6,7,9] (fun f w=>∃ a8,jT c e z a r a8=some Z/\f 8=str a8/\aG G K (box p 109 [i64 a.Kind,i64 a.Variable,str a.B,zB a.Not]::aT 2 K j k e::aT 9 K l m c::L) w) ?_ ?_)
    ·rintro f m3 ⟨a8,hm,k0,k1⟩
     unfold jT at hm
     exact aF ⟨gH,a8,hm,k0,k1⟩
    refine fY (C:=fun w'=>aG G K (box p 109 [i64 a.Kind,i64 a.Variable,str a.B,zB a.Not]::aT 2 K j k e::aT 9 K l m c::L) w') Tryz_mixed (by kernel_rfl) (aG.mono d (eG.drew _)) (bD (fun _ d=>bE q) (bD (fun _ d=>bE (v:=i64 (wr ((c.length:Int) - 1))) rfl) ?_));obtain ⟨f7,c1,hm⟩:=aB hm
    have k2:=eE d (i:=2) rfl c1
    refine bD (fun _ d=>iP cX rfl k2 rfl rfl rfl c1) (bD (fun _ d=>oG (t:=0) nK d (i:=2) rfl c1 rfl rfl rfl) (bD (fun _ d=>bE y) (bD (fun _ d=>bE (v:=i64 (wr ((c.length:Int) - 1))) rfl) ?_)));obtain ⟨c3,V,hm⟩:=aB hm
    have f8:=eE d (i:=1) rfl V
    refine bD (fun _ d=>iP fI rfl f8 rfl rfl rfl V) (bD (fun _ d=>oG (t:=0) iK d (i:=1) rfl V rfl rfl rfl) (bD (fun _ d=>dS rfl rfl) (bD (fun _ d=>bE (v:=zB (c3 == 2)) rfl) ?_)))
    rcases aJ hm with ⟨o,hm⟩|⟨o,hm⟩
    ·refine aAA (g:=40) rfl rfl (aHk o) (aAA (g:=40) rfl rfl (aHk o) (aAA (g:=40) rfl rfl (aHk o) (aAA (g:=40) rfl rfl (aHk o) (aAA (g:=40) rfl rfl (aHk o) (bD (fun _ d=>oE (v:=zB true) o rfl rfl) ?_)))));obtain ⟨c4,k3,hm⟩:=aB hm
     exact iM (vs:=[str f7,zB true]) (v:=str c4) call80 rfl (fun _ d=>(gL k3 d)) (bD (fun _ d=>eO (v:=str c4) rfl) (vE (fun m4 k4=>(aF ⟨gH,c4,hm,rfl,k4⟩))))
    ·refine iI (g:=40) rfl rfl (lH o) (bD (fun _ d=>bE y) (iI (g:=40) rfl rfl (lH o) (bD (fun _ d=>bE (v:=i64 (wr ((c.length:Int) - 1))) rfl) (iI (g:=40) rfl rfl (lH o) (bD (fun _ d=>iP fI rfl f8 rfl rfl rfl V) (iI (g:=40) rfl rfl (lH o) (bD (fun _ d=>oG (t:=0) iK d (i:=1) rfl V rfl rfl rfl) (iI (g:=40) rfl rfl (lH o) (bD (fun _ d=>dS rfl rfl) (bD (fun _ d=>vC (v:=zB (c3 == 3)) o rfl rfl) ?_))))))))))
     obtain ⟨c5,k5,hm⟩:=aB hm
     exact iM (vs:=[str f7,zB (c3 == 3)]) (v:=str c5) call80 rfl (fun _ d=>(gL k5 d)) (bD (fun _ d=>eO (v:=str c5) rfl) (vE (fun m5 k6=>(aF ⟨gH,c5,hm,rfl,k6⟩))))
   ·exact aP c0 rfl (aU (aF ⟨gH,([]:aN),hm,rfl,d⟩))
  ·refine aP b2 rfl (W_exit (aIB (aIB ?_)))
   have k7:=hr _ (Option.some.inj hm).symm
   subst k7
   have hm:(aAC c)=some R:=ho
   clear hr ho
   exact aLO (aF ⟨gH,c,l,m,hm,q,(aG.arr 1 [] b1 rfl)⟩)
theorem aAG {t:hJ} {a:Nat} {R:Bool} (hm:xV t=some R) (c:aG G K (L) w) (d:eQ K a1 a (zC t a4 c5 a7 c8)) (e:aY K a4 c5 t.L) (g:aY K a7 c8 t.E):
  Calls prog 34 ([cH a1 a]:List Value).toArray w (cK fun v w'=>v=zB R/\aG G K (L) w'):=by
 refine aM func34 rfl (by kernel_rfl) (by show (1:Nat)<=31;decide) ?_;unfold xV at hm
 exact aK (aH (v:=zB false) (aL (aI (aZ [] (fun f w=>∃ b,oY b=some R/\f 2=zB b/\aG G K (L) w) aE aE))))
theorem aKo {p:bG} {a:Nat} {R:Int} (hm:uQ p=some R) (d:aG G K (L) w) (b:eQ K a1 a [i64 p.Kind,i64 p.Number,str p.Name,zS a4 p.Arguments.length c5]) (e:aY K a4 c5 p.Arguments):
  Calls prog 238 ([cH a1 a]:List Value).toArray w (cK fun v w'=>v=i64 R/\aG G K (L) w'):=by
 refine aM func238 rfl (by kernel_rfl) (by show (1:Nat)<=13;decide) ?_;unfold uQ at hm
 exact aK (aH (v:=i64 0) (aL (aI (aK (aO (v:=cH a1 a) (aC (eD rfl b) (aC (cQ (k':=a+0) oH rfl b rfl) (aC (cC (t:=0) iK d b rfl rfl) (aL (bK (gY [6] (fun f w=>∃ c,qL p c=some R/\f 7=zB c/\aG G K (L) w) aE aE)))))))))))
theorem aFo {a:(List bG)} {R:Bool} (hm:aBW a=some R) (j:aG G K (L) w) (k:aY K a1 c2 a):
  Calls prog 208 ([zS a1 a.length c2]:List Value).toArray w (cK fun v w'=>v=zB R/\aG G K (L) w'):=by
 refine aM func208 rfl (by kernel_rfl) (by show (1:Nat)<=30;decide) ?_;unfold aBW at hm
 refine aK (aH (v:=zB false) (aL (aI (aI (aZ [0] (fun f w=>∃ b,sO a b=some R/\f 12=zB b/\aG G K (L) w) ?_ ?_)))))
 ·rintro f l ⟨b,hm,e,m⟩
  unfold sO at hm
  refine aF ?_
  rcases aJ hm with ⟨c,hm⟩|⟨c,hm⟩
  ·exact aE
  ·refine aP c e (aU (aF (aK (aH (v:=i64 1) (aL (aI (aK (aH (v:=i64 0) (aL (aQ [] (fun f w=>∃ d,aHo d=some R/\f 3=i64 d/\aG G K (L) w) aE ?_))))))))));obtain ⟨n,g,ho⟩:=aB hm
   exact cG [0] g (fun h i f w=>f 3=i64 h/\f 4=i64 i/\aG G K (L) w) aE aE
 exact aE
theorem aGe {p:bG} {a:Nat} {R:Bool} (hm:aDM p=some R) (m:aG G K (L) w) (b:eQ K a1 a [i64 p.Kind,i64 p.Number,str p.Name,zS a4 p.Arguments.length c5]) (n:aY K a4 c5 p.Arguments):
  Calls prog 239 ([cH a1 a]:List Value).toArray w (cK fun v w'=>v=zB R/\aG G K (L) w'):=by
 refine aM func239 rfl (by kernel_rfl) (by show (1:Nat)<=73;decide) ?_;unfold aDM at hm
 refine aK (aH (v:=zB false) (aL (aI (aK (aO (v:=cH a1 a) (aC (eD rfl b) (aC (cQ (k':=a+0) oH rfl b rfl) (aC (cC (t:=0) iK m b rfl rfl) (aL (bK (gY [0,6] (fun f w=>∃ c,vU p c=some R/\f 7=zB c/\aG G K (L) w) ?_ ?_)))))))))))
 ·rintro f o ⟨c,hm,g,q⟩
  unfold vU at hm
  rcases aJ hm with ⟨d,hm⟩|⟨d,hm⟩
  ·exact aS d g (aI (aZ [] (fun f w=>∃ h,vT h=some R/\f 2=zB h/\aG G K (L) w) aE aE))
  ·refine aP d g (aK (aC (dS rfl rfl) (aH (v:=zB (p.Kind == 1)) (aL ?_))))
   rcases aJ hm with ⟨i,hm⟩|⟨i,hm⟩
   ·exact aE
   ·refine aP i rfl (aK (aC (dS rfl rfl) (aH (v:=zB (p.Kind == 3)) (aL ?_))))
    rcases aJ hm with ⟨e,hm⟩|⟨e,hm⟩
    ·exact aS e rfl (aI (aZ [] (fun f w=>∃ j,aAU j=some R/\f 2=zB j/\aG G K (L) w) aE aE))
    ·refine aP e rfl (aK (aC (dS rfl rfl) (aH (v:=zB (p.Kind == 4)) (aL ?_))))
     rcases aJ hm with ⟨k,hm⟩|⟨k,hm⟩
     ·exact aS k rfl (aI (aZ [] (fun f w=>∃ l,aAV l=some R/\f 2=zB l/\aG G K (L) w) aE aE))
     ·exact aE
 exact aE
theorem aNG {a:(List bG)} {b R:Int} (hm:aFQ a b=some R) (h:aG G K (L) w) (i:aY K a1 c2 a):
  Calls prog 267 ([zS a1 a.length c2,i64 b]:List Value).toArray w (cK fun v w'=>v=i64 R/\aG G K (L) w'):=by
 refine aM func267 rfl (by kernel_rfl) (by show (2:Nat)<=18;decide) ?_;unfold aFQ at hm
 refine aK (aH (v:=i64 0) (aL (aK (aH (v:=i64 1) (aL (aI (aQ [] (fun f w=>∃ c,aFO c=some R/\f 1=i64 c/\aG G K (L) w) aE ?_)))))));obtain ⟨j,d,ho⟩:=aB hm
 exact cG [0] d (fun e g f w=>f 1=i64 e/\f 5=i64 g/\aG G K (L) w) aE aE
theorem aFp {d:Definition} {b:Nat} {part R:Int} (hm:xW d part=some R) (m:aG G K (L) w) (c:eQ K a1 b [str d.Name,i64 d.Parameters,zS a4 d.Body.length c5]) (q:aY K a4 c5 d.Body):
  Calls prog 240 ([cH a1 b,i64 part]:List Value).toArray w (cK fun v w'=>v=i64 R/\aG G K (L) w'):=by
 refine aM func240 rfl (by kernel_rfl) (by show (2:Nat)<=38;decide) ?_;unfold xW at hm
 refine aK (aH (v:=i64 0) (aL (aK (aO (v:=cH a1 b) (aC (eD rfl c) (aC (cQ (k':=b+1) aOY rfl c rfl) (aC (cC (t:=1) iK m c rfl rfl) (aH (v:=i64 d.Parameters) (aL (aI (aK (aH (v:=i64 0) (aL (aQ [] (fun f w=>∃ h,aHp h=some R/\f 5=i64 h/\aG G K (L) w) aE ?_))))))))))))));obtain ⟨r,n,ho⟩:=aB hm
 refine cG [0,1] n (fun e a f w=>f 5=i64 e/\f 6=i64 a/\aG G K (L) w) aE ?_
 ·rintro e a i f u hm hr ⟨x,j,y⟩
  unfold jD at hm
  refine aI (aK (bO j (aO (v:=i64 part) (aC (dR rfl rfl) (aL ?_)))))
  rcases aJ hm with ⟨k,hm⟩|⟨k,hm⟩
  ·refine aS k rfl (aU (aF (aI (aQ [0,1,6] (fun f w=>∃ g,sP a g=some i/\f 5=i64 g/\aG G K (L) w) ?_ ?_))))
   ·rintro f z ⟨g,hm,o,p⟩
    unfold sP at hm
    exact aF (bQ (bO j (aC (oD rfl rfl) (aH (v:=i64 (wr (a+1))) (aL ⟨_,(Option.some.inj hm).symm,gH,o,rfl,p⟩)))))
   exact aI (aZ [0,1,5,6] (fun f w=>∃ l,yW e a l=some i/\f 34=zB l/\aG G K (L) w) aE aE)
  ·exact aE
theorem aMw {t:aR} {a:Nat} {b:Int} {R:Bool} (hm:aGB t b=some R) (c:aG G K (L) w) (d:eQ K a1 a [i64 t.Kind,i64 t.Value]):
  Calls prog 268 ([cH a1 a,i64 b]:List Value).toArray w (cK fun v w'=>v=zB R/\aG G K (L) w'):=by
 exact aE
theorem aLq {t:aR} {a:Nat} {R:Int} (hm:aED t=some R) (b:aG G K (L) w) (c:eQ K a1 a [i64 t.Kind,i64 t.Value]):
  Calls prog 269 ([cH a1 a]:List Value).toArray w (cK fun v w'=>v=i64 R/\aG G K (L) w'):=by
 exact aE
theorem aPc {e:(List aR)} {d a:Int} {R:Bool} (hm:aIW e d a=some R) (n:aG G K (L) w) (o:aY K a1 c2 e):
  Calls prog 241 ([zS a1 e.length c2,i64 d,i64 a]:List Value).toArray w (cK fun v w'=>v=zB R/\aG G K (L) w'):=by
 refine aM func241 rfl (by kernel_rfl) (by show (3:Nat)<=38;decide) ?_;unfold aIW at hm
 refine aK (aH (v:=zB false) (aL (aI (aK (aO (v:=zS a1 e.length c2) (aC (aV (len:=e.length) nL rfl) (aO (v:=i64 a) (aC (aKJ rfl rfl) (aL ?_)))))))))
 rcases aJ hm with ⟨g,hm⟩|⟨g,hm⟩
 ·exact aE
 ·refine aP g rfl (aU (aF (aK (aH (v:=i64 1) (aL (aI (aK (aH (v:=i64 0) (aL (aQ [] (fun f w=>∃ h,aMh h=some R/\f 7=i64 h/\aG G K (L) w) aE ?_))))))))));obtain ⟨p,k,ho⟩:=aB hm
  refine cG [0,1] k (fun b c f w=>f 7=i64 b/\f 8=i64 c/\aG G K (L) w) aE ?_
  ·rintro b c l f q hm hr ⟨r,m,t⟩
   unfold aBX at hm
   refine aI (aK (bO m (aO (v:=zS a1 e.length c2) (aC (aV (len:=e.length) nL rfl) (aC (dR rfl rfl) (aL ?_))))))
   rcases aJ hm with ⟨i,hm⟩|⟨i,hm⟩
   ·exact aS i rfl (aU (aF (aI (bK (aI (aI (aZ [0,1,7,8] (fun f w=>∃ j,aEE e b c j=some l/\f 28=zB j/\aG G K (L) w) aE aE)))))))
   ·exact aE
end Gv
namespace Gv
open Gv.Hp renaming le_refl→zR
open Go.Value renaming slice→zS,bool→zB
open Go Go.Proofs Go.Proofs.Tryz
set_option maxRecDepth 20000
set_option maxHeartbeats 40000000
variable {G:kE} {K:Hp} {L:List eT} {w:World} {a1 a4 a7 a10 a13 a16:Option Addr} {c2 c8 c5 c11 c14 c17:Nat}
theorem aKp {j:(List Definition)} {d:Definition} {h:Nat} {e R:Int} (hm:uR j d e=some R) (l:aG G K (L) w) (h3:aY K a1 c2 j) (k:eQ K a4 h [str d.Name,i64 d.Parameters,zS a7 d.Body.length c8]) (m:aY K a7 c8 d.Body):
  Calls prog 209 ([zS a1 j.length c2,cH a4 h,i64 e]:List Value).toArray w (cK fun v w'=>v=i64 R/\aG G K (L) w'):=by
 refine aM func209 rfl (by kernel_rfl) (by show (3:Nat)<=126;decide) ?_;unfold uR at hm
 refine aK (aH (v:=i64 0) (aL (aK (aO (v:=cH a4 h) (aC (eD rfl k) (aC (cQ (k':=h+2) aEq rfl k rfl) (aC (cC (t:=2) aDD l k rfl rfl) (aO (v:=i64 e) ?_))))))));obtain ⟨a,r,hm⟩:=aB hm
 refine aC (cL rY rfl m rfl rfl rfl r) ?_;obtain ⟨c6,a2,a3⟩:=aY.el (sz:=4) rfl m r
 obtain ⟨b,c,rfl,a5⟩:=a3
 refine aC (dU (t:=0) (vs:=[i64 a.Kind,i64 a.Number,str a.Name,zS b a.Arguments.length c]) xR l a2 rfl rfl rfl) (eA (vs:=[i64 0,i64 0,str ([]:aN),zS none 0 0]) zeroValue147 l rfl (fun g c7 a6=>(eY (i:=0) (ns:=[i64 a.Kind,i64 a.Number,str a.Name,zS b a.Arguments.length c]) (us:=[i64 a.Kind,i64 a.Number,str a.Name,zS b a.Arguments.length c]) sizeOf147 a6 rfl rfl rfl rfl rfl (kI rfl) rfl rfl (fun a8 (a9:aG G K (box g 147 [i64 a.Kind,i64 a.Number,str a.Name,zS b a.Arguments.length c]::L) a8)=>(aL (aI (aK ?_)))))))
 obtain ⟨c9,b0,b1,b2,b3⟩:=aG.lendBp a9 .head
 obtain ⟨d0,b4,hm⟩:=aB hm
 refine aW (vs:=[cH (some ⟨g,0,none⟩) 0]) call239 rfl (aGe b4 b2 b1 (a5.mono b0)) ?_
 rintro _ d1 ⟨rfl,b5⟩
 have d2:=b3 _ _ b5
 refine aC (vB rfl) (aL ?_)
 rcases aJ hm with ⟨u,hm⟩|⟨u,hm⟩
 ·exact aE
 ·refine aP u rfl (aU (aF (aI (aI (aZ [0,1,2,7] (fun f w=>∃ n,mS j d e a n=some R/\f 28=zB n/\aG G K (box g 147 [i64 a.Kind,i64 a.Number,str a.Name,zS b a.Arguments.length c]::L) w) ?_ ?_)))))
  ·rintro f d3 ⟨n,hm,b6,d4⟩
   unfold mS at hm
   refine aF ?_
   rcases aJ hm with ⟨x,hm⟩|⟨x,hm⟩
   ·exact aE
   ·refine aP x b6 (aU (aF (aI (aI (aZ [0,1,2,7] (fun f w=>∃ o,hZ j d e a o=some R/\f 51=zB o/\aG G K (box g 147 [i64 a.Kind,i64 a.Number,str a.Name,zS b a.Arguments.length c]::L) w) ?_ ?_)))))
    ·rintro f d5 ⟨o,hm,b7,y⟩
     unfold hZ at hm
     refine aF ?_
     rcases aJ hm with ⟨c45,hm⟩|⟨c45,hm⟩
     ·exact aE
     ·refine aP c45 b7 (aU (aF (aK (aC (bI (t':=3) oI rfl rfl) (aC (dH aAB y (i:=0) rfl rfl rfl) (aC (aV (len:=a.Arguments.length) mK rfl) (aH (v:=i64 (a.Arguments.length:Int)) (aL (aI (aK (aC (bI (t':=0) oH rfl rfl) (aC (dH iK y (i:=0) rfl rfl rfl) (aL (aQ [1,2,7,8] (fun f w=>hQ d e a=some R/\aG G K (box g 147 [i64 a.Kind,i64 a.Number,str a.Name,zS b a.Arguments.length c]::L) w) ?_ ?_))))))))))))))
      ·rintro f d6 ⟨hm,d7⟩
       unfold hQ at hm
       refine aF (aI (aI (aZ [1,2,7,8] (fun f w=>∃ p,kX d e a p=some R/\f 102=zB p/\aG G K (box g 147 [i64 a.Kind,i64 a.Number,str a.Name,zS b a.Arguments.length c]::L) w) ?_ ?_)))
       ·rintro f d8 ⟨p,hm,b8,b9⟩
        unfold kX at hm
        refine aF ?_
        rcases aJ hm with ⟨z,hm⟩|⟨z,hm⟩
        ·exact aE
        ·refine aP z b8 (aU (aF (aK (aO (v:=cH a4 h) (aO (v:=i64 e) ?_)))));obtain ⟨J,c0,hm⟩:=aB hm
         refine aW (vs:=[cH a4 h,i64 e]) call240 rfl (aFp c0 b9 k m) ?_
         rintro _ d9 ⟨rfl,e0⟩
         refine aH (v:=i64 J) (aL (aI (aI (aZ [7,8,9] (fun f w=>∃ q,mR a J q=some R/\f 112=zB q/\aG G K (box g 147 [i64 a.Kind,i64 a.Number,str a.Name,zS b a.Arguments.length c]::L) w) ?_ ?_))))
         ·rintro f e1 ⟨q,hm,c1,e2⟩
          unfold mR at hm
          refine aF ?_
          rcases aJ hm with ⟨V,hm⟩|⟨V,hm⟩
          ·exact aE
          ·refine aP V c1 (aU (aF (aI (aK (aH (v:=i64 0) (aL (aQ [] (fun f w=>aBY=some R/\aG G K (L) w) aE ?_)))))));obtain ⟨e3,c3,ho⟩:=aB hm
           exact bP [7,8,9] c3 (fun c4 f w=>f 10=i64 c4/\aG G K (box g 147 [i64 a.Kind,i64 a.Number,str a.Name,zS b a.Arguments.length c]::L) w) aE aE
         exact aE
       exact aE
      refine aK (aC (dS rfl rfl) (aH (v:=zB (a.Kind == 1)) (aL ?_)))
      rcases aJ hm with ⟨Z,hm⟩|⟨Z,hm⟩
      ·exact aS Z rfl (aI (aZ [1,2,7,8] (fun f w=>∃ a0,qN d e a a0=some R/\f 69=zB a0/\aG G K (box g 147 [i64 a.Kind,i64 a.Number,str a.Name,zS b a.Arguments.length c]::L) w) aE aE))
      ·exact aE
    exact aE
  exact aE
theorem aMx {b:(List Definition)} {d:Definition} {a:Nat} {R:(Int × Int)} (hm:aBr b d=some R) (e:aG G K (L) w) (l:aY K a1 c2 b) (c:eQ K a4 a [str d.Name,i64 d.Parameters,zS a7 d.Body.length c8]) (h:aY K a7 c8 d.Body):
  Calls prog 172 ([zS a1 b.length c2,cH a4 a]:List Value).toArray w (cK fun v w'=>v=Value.tuple #[i64 R.1,i64 R.2]/\aG G K (L) w'):=by
 refine aM func172 rfl (by kernel_rfl) (by show (2:Nat)<=31;decide) ?_;unfold aBr at hm
 refine aK (aH (v:=i64 0) (aH (v:=i64 0) (aL (aI (aK (aO (v:=cH a4 a) (aC (eD rfl c) (aC (cQ (k':=a+2) aEq rfl c rfl) (aC (cC (t:=2) aDD e c rfl rfl) ?_)))))))));obtain ⟨m,i,hm⟩:=aB hm
 refine aW (vs:=[zS a7 d.Body.length c8]) call208 rfl (aFo i e h) ?_
 rintro _ n ⟨rfl,o⟩
 refine aC (vB rfl) (aL ?_)
 rcases aJ hm with ⟨g,hm⟩|⟨g,hm⟩
 ·exact aE
 ·refine aP g rfl (aU (aF (aI (aK (aH (v:=i64 0) (aL (aQ [] (fun f w=>aIX=some R/\aG G K (L) w) aE ?_)))))));obtain ⟨p,j,ho⟩:=aB hm
  exact bP [0,1] j (fun k f w=>f 6=i64 k/\aG G K (L) w) aE aE
theorem aMy {a:(List Definition)} {R:Bool} (hm:xX a=some R) (t:aG G K (L) w) (u:aY K a1 c2 a):
  Calls prog 130 ([zS a1 a.length c2]:List Value).toArray w (cK fun v w'=>v=zB R/\aG G K (L) w'):=by
 refine aM func130 rfl (by kernel_rfl) (by show (1:Nat)<=70;decide) ?_;unfold xX at hm
 refine aK (aH (v:=zB false) (aL (aI (aI (aZ [0] (fun f w=>∃ c,rL a c=some R/\f 15=zB c/\aG G K (L) w) ?_ ?_)))))
 ·rintro f x ⟨c,hm,k,y⟩
  unfold rL at hm
  refine aF ?_
  rcases aJ hm with ⟨g,hm⟩|⟨g,hm⟩
  ·exact aE
  ·refine aP g k (aU (aF (aI (aK (aH (v:=i64 0) (aL (aQ [0] (fun f w=>vW a=some R/\aG G K (L) w) ?_ ?_)))))))
   ·rintro f z ⟨hm,J⟩
    unfold vW at hm
    refine aF (aI (aK (aH (v:=i64 0) (aL (aQ [] (fun f w=>aIY=some R/\aG G K (L) w) aE ?_)))));obtain ⟨V,l,ho⟩:=aB hm
    exact bP [0] l (fun m f w=>f 5=i64 m/\aG G K (L) w) aE aE
   obtain ⟨Z,n,ho⟩:=aB hm
   refine bP [0] n (fun b f w=>f 3=i64 b/\aG G K (L) w) aE ?_
   ·rintro b d f a0 hm hr ⟨h,a2⟩
    unfold vY at hm
    refine aI (aK (bO h (aO (v:=zS a1 a.length c2) (aC (aV (len:=a.length) qD rfl) (aC (dR rfl rfl) (aL ?_))))))
    rcases aJ hm with ⟨i,hm⟩|⟨i,hm⟩
    ·refine aS i rfl (aU (aF (aI (aQ [0,3] (fun f w=>aAX b=some d/\aG G K (L) w) ?_ ?_))))
     ·rintro f a3 ⟨hm,o⟩
      unfold aAX at hm
      exact aF (bQ (bO h (aC (oD rfl rfl) (aH (v:=i64 (wr (b+1))) (aL ⟨_,(Option.some.inj hm).symm,gH,rfl,o⟩)))))
     refine aI (aI (aZ [0,3] (fun f w=>∃ e,vX a b e=some d/\f 37=zB e/\aG G K (L) w) ?_ ?_))
     ·rintro f a4 ⟨e,hm,p,a5⟩
      unfold vX at hm
      refine aF ?_
      rcases aJ hm with ⟨j,hm⟩|⟨j,hm⟩
      ·exact aE
      ·refine aP j p (aU (aF (aK (aH (v:=i64 0) (aL (aQ [0,3] (fun f w=>aAY b=some d/\aG G K (L) w) aE ?_))))));obtain ⟨a6,q,ho⟩:=aB hm
       exact bP [0,3] q (fun r f w=>f 4=i64 r/\aG G K (L) w) aE aE
     exact aE
    ·exact aE
 exact aE
theorem aMz {a:(List Int)} {R:Bool} (hm:aDN a=some R) (d:aG G K (L) w) (e:aY K a1 c2 a):
  Calls prog 173 ([zS a1 a.length c2]:List Value).toArray w (cK fun v w'=>v=zB R/\aG G K (L) w'):=by
 refine aM func173 rfl (by kernel_rfl) (by show (1:Nat)<=16;decide) ?_;unfold aDN at hm
 refine aK (aH (v:=zB false) (aL (aI (aK (aH (v:=i64 0) (aL (aQ [] (fun f w=>aIZ=some R/\aG G K (L) w) aE ?_)))))));obtain ⟨g,b,ho⟩:=aB hm
 exact bP [0] b (fun c f w=>f 3=i64 c/\aG G K (L) w) aE aE
theorem aGf {a:bL} {e:Nat} {R:Bool} (hm:oK a=some R) (hs:aG G K (L) w) (d:eQ K a1 e [zS a4 a.Definitions.length c5,zS a7 a.Components.length c8,zS a10 a.Meetings.length c11,zS a13 a.Allowed.length c14,zS a16 a.Hidden.length c17]) (h6:aY K a4 c5 a.Definitions) (m:aY K a7 c8 a.Components) (a9:aY K a10 c11 a.Meetings) (b0:aY K a13 c14 a.Allowed) (b1:aY K a16 c17 a.Hidden):
  Calls prog 131 ([cH a1 e]:List Value).toArray w (cK fun v w'=>v=zB R/\aG G K (L) w'):=by
 refine aM func131 rfl (by kernel_rfl) (by show (1:Nat)<=64;decide) ?_;unfold oK at hm
 refine aK (aH (v:=zB false) (aL (aI (aI (aZ [0] (fun f w=>∃ k,kZ a k=some R/\f 18=zB k/\aG G K (L) w) ?_ ?_)))))
 ·rintro f b2 ⟨k,hm,y,b3⟩
  unfold kZ at hm
  refine aF ?_
  rcases aJ hm with ⟨n,hm⟩|⟨n,hm⟩
  ·exact aE
  ·refine aP n y (aU (aF (aI (aK (aH (v:=i64 0) (aL (aQ [] (fun f w=>aBZ=some R/\aG G K (L) w) aE ?_)))))));obtain ⟨b4,z,ho⟩:=aB hm
   refine bP [0] z (fun l f w=>f 3=i64 l/\aG G K (L) w) aE ?_
   ·rintro l J f b5 hm hr ⟨o,j⟩
    unfold kY at hm
    refine aI (aK (bO o (aO (v:=cH a1 e) (aC (eD rfl d) (aC (cQ (k':=e+1) aCI rfl d rfl) (aC (cC (t:=1) aLZ j d rfl rfl) (aC (aV (len:=a.Components.length) xH rfl) (aC (dR rfl rfl) (aL ?_)))))))))
    rcases aJ hm with ⟨p,hm⟩|⟨p,hm⟩
    ·refine aS p rfl (aU (aF (aI (bK (aK (aO (v:=cH a1 e) (aC (eD rfl d) (aC (cQ (k':=e+1) aCI rfl d rfl) (aC (cC (t:=1) aLZ j d rfl rfl) (bO o ?_))))))))));obtain ⟨c,q,hm⟩:=aB hm
     refine aC (cL xH rfl m rfl rfl rfl q) ?_;obtain ⟨b6,V,Z⟩:=aY.el (sz:=2) rfl m q
     obtain ⟨g,h,rfl,b7⟩:=Z
     refine aC (dU (t:=0) (vs:=[i64 c.Definition,zS g c.Values.length h]) aKP j V rfl rfl rfl) (eA (vs:=[i64 0,zS none 0 0]) zeroValue99 j rfl (fun r b8 a0=>(eY (i:=0) (ns:=[i64 c.Definition,zS g c.Values.length h]) (us:=[i64 c.Definition,zS g c.Values.length h]) sizeOf99 a0 rfl rfl rfl rfl rfl (kI rfl) rfl rfl (fun a2 (b:aG G K (box r 99 [i64 c.Definition,zS g c.Values.length h]::L) a2)=>(aL (aI (aI (fY (C:=fun w'=>aG G K (box r 99 [i64 c.Definition,zS g c.Values.length h]::L) w') Tryz_mixed (by kernel_rfl) (aG.mono b (eG.drew _)) (bD (fun _ b=>bI (t':=0) aOZ rfl rfl) (bD (fun _ b=>dH iK b (i:=0) rfl rfl rfl) (bD (fun _ b=>bE (v:=cH a1 e) rfl) (bD (fun _ b=>eD rfl d) (bD (fun _ b=>cQ (k':=e+0) aGs rfl d rfl) (bD (fun _ b=>cC (t:=0) aOj b d rfl rfl) (bD (fun _ b=>aV (len:=a.Definitions.length) qD rfl) (bD (fun _ b=>jI rfl rfl) ?_))))))))))))))))
     obtain ⟨a3,a5,hm⟩:=aB hm
     refine iM (vs:=[i64 c.Definition,i64 0,i64 (wr ((a.Definitions.length:Int) - 1))]) (v:=zB a3) call73 rfl (fun _ b=>(aJz a5 b)) (bD (fun _ b=>vB rfl) (vE (fun b9 c0=>(aF ?_))))
     rcases aJ hm with ⟨u,hm⟩|⟨u,hm⟩
     ·exact aE
     ·exact aP u rfl (aU (aF (aI (aZ [0,3] (fun f w=>∃ x,nP l x=some J/\f 63=zB x/\aG G K (L) w) aE aE))))
    ·exact aE
 exact aE
theorem aIf {b:(List bB)} {R:Bool} (hm:sQ b=some R) (hs:aG G K (L) w) (l:aY K a1 c2 b):
  Calls prog 132 ([zS a1 b.length c2]:List Value).toArray w (cK fun v w'=>v=zB R/\aG G K (L) w'):=by
 refine aM func132 rfl (by kernel_rfl) (by show (1:Nat)<=101;decide) ?_;unfold sQ at hm
 refine aK (aH (v:=zB false) (aL (aI (aK (aO (v:=zS a1 b.length c2) (aC (aV (len:=b.length) vJ rfl) (aC (aKJ rfl rfl) (aL ?_))))))))
 rcases aJ hm with ⟨m,hm⟩|⟨m,hm⟩
 ·exact aE
 ·refine aP m rfl (aU (aF (aI (aK (aH (v:=i64 0) (aL (aQ [] (fun f w=>aDO=some R/\aG G K (L) w) aE ?_)))))));obtain ⟨a8,y,ho⟩:=aB hm
  refine bP [0] y (fun c f w=>f 3=i64 c/\aG G K (L) w) aE ?_
  ·rintro c e f a9 hm hr ⟨g,n⟩
   unfold kP at hm
   refine aI (aK (bO g (aO (v:=zS a1 b.length c2) (aC (aV (len:=b.length) vJ rfl) (aC (dR rfl rfl) (aL ?_))))))
   rcases aJ hm with ⟨o,hm⟩|⟨o,hm⟩
   ·refine aS o rfl (aU (aF (aI (aQ [0,3] (fun f w=>rM c=some e/\aG G K (L) w) ?_ ?_))))
    ·rintro f b0 ⟨hm,z⟩
     unfold rM at hm
     exact aF (bQ (bO g (aC (oD rfl rfl) (aH (v:=i64 (wr (c+1))) (aL ⟨_,(Option.some.inj hm).symm,gH,rfl,z⟩)))))
    refine aK (aO (v:=zS a1 b.length c2) (bO g ?_));obtain ⟨a,p,hm⟩:=aB hm
    refine aC (cL vJ rfl l rfl rfl rfl p) ?_;obtain ⟨b1,J,V⟩:=aY.el (sz:=3) rfl l p
    cases V
    refine aC (dU (t:=0) (vs:=[str a.Left,str a.Right,str a.Result]) aKf n J rfl rfl rfl) (eA (vs:=[str ([]:aN),str ([]:aN),str ([]:aN)]) zeroValue103 n rfl (fun d b2 Z=>(eY (i:=0) (ns:=[str a.Left,str a.Right,str a.Result]) (us:=[str a.Left,str a.Right,str a.Result]) sizeOf103 Z rfl rfl rfl rfl rfl (kI rfl) rfl rfl (fun a0 (b3:aG G K (box d 103 [str a.Left,str a.Right,str a.Result]::L) a0)=>(aL (aI (aI (aZ [0,3,4] (fun f w=>∃ h,gU b c a h=some e/\f 41=zB h/\aG G K (box d 103 [str a.Left,str a.Right,str a.Result]::L) w) ?_ ?_))))))))
    ·rintro f b4 ⟨h,hm,a2,b5⟩
     unfold gU at hm
     refine aF ?_
     rcases aJ hm with ⟨q,hm⟩|⟨q,hm⟩
     ·exact aE
     ·refine aP q a2 (aU (aF (aI (aI (aZ [0,3,4] (fun f w=>∃ j,gT b c a j=some e/\f 76=zB j/\aG G K (box d 103 [str a.Left,str a.Right,str a.Result]::L) w) ?_ ?_)))))
      ·rintro f b6 ⟨j,hm,a3,b7⟩
       unfold gT at hm
       refine aF ?_
       rcases aJ hm with ⟨r,hm⟩|⟨r,hm⟩
       ·exact aE
       ·refine aP r a3 (aU (aF (aK (aH (v:=i64 0) (aL (aQ [0,3] (fun f w=>xY c=some e/\aG G K (L) w) aE ?_))))));obtain ⟨b8,a4,ho⟩:=aB hm
        refine bP [0,3,4] a4 (fun k f w=>f 5=i64 k/\aG G K (box d 103 [str a.Left,str a.Right,str a.Result]::L) w) aE ?_
        ·rintro k a5 f b9 hm hr ⟨a6,c0⟩
         unfold mT at hm
         refine aI (aK (bO a6 (aO (v:=zS a1 b.length c2) (aC (aV (len:=b.length) vJ rfl) (aC (dR rfl rfl) (aL ?_))))))
         rcases aJ hm with ⟨u,hm⟩|⟨u,hm⟩
         ·exact aS u rfl (aU (aF (aI (bK (aI (aZ [0,3,4,5] (fun f w=>∃ x,rN k x=some a5/\f 100=zB x/\aG G K (box d 103 [str a.Left,str a.Right,str a.Result]::L) w) aE aE))))))
         ·exact aE
      exact aE
    exact aE
   ·exact aE
theorem aJC {a:(List aN)} {R:Bool} (hm:vZ a=some R) (d:aG G K (L) w) (e:aY K a1 c2 a):
  Calls prog 174 ([zS a1 a.length c2]:List Value).toArray w (cK fun v w'=>v=zB R/\aG G K (L) w'):=by
 refine aM func174 rfl (by kernel_rfl) (by show (1:Nat)<=16;decide) ?_;unfold vZ at hm
 refine aK (aH (v:=zB false) (aL (aI (aK (aH (v:=i64 0) (aL (aQ [] (fun f w=>aFg=some R/\aG G K (L) w) aE ?_)))))));obtain ⟨g,b,ho⟩:=aB hm
 exact bP [0] b (fun c f w=>f 3=i64 c/\aG G K (L) w) aE aE
theorem aLr {a:(List aN)} {R:Bool} (hm:xZ a=some R) (h:aG G K (L) w) (i:aY K a1 c2 a):
  Calls prog 133 ([zS a1 a.length c2]:List Value).toArray w (cK fun v w'=>v=zB R/\aG G K (L) w'):=by
 refine aM func133 rfl (by kernel_rfl) (by show (1:Nat)<=28;decide) ?_;unfold xZ at hm
 refine aK (aH (v:=zB false) (aL (aI (aI (aZ [0] (fun f w=>∃ b,sT a b=some R/\f 11=zB b/\aG G K (L) w) ?_ ?_)))))
 ·rintro f j ⟨b,hm,d,k⟩
  unfold sT at hm
  refine aF ?_
  rcases aJ hm with ⟨c,hm⟩|⟨c,hm⟩
  ·exact aE
  ·refine aP c d (aU (aF (aI (aK (aH (v:=i64 1) (aL (aQ [] (fun f w=>aHq=some R/\aG G K (L) w) aE ?_)))))));obtain ⟨l,e,ho⟩:=aB hm
   exact bP [0] e (fun g f w=>f 3=i64 g/\aG G K (L) w) aE aE
 exact aE
theorem aLs {a:bL} {b:Nat} {R:Int} (hm:aEF a=some R) (c:aG G K (L) w) (d:eQ K a1 b [zS a4 a.Definitions.length c5,zS a7 a.Components.length c8,zS a10 a.Meetings.length c11,zS a13 a.Allowed.length c14,zS a16 a.Hidden.length c17]) (e:aY K a4 c5 a.Definitions) (g:aY K a7 c8 a.Components) (h:aY K a10 c11 a.Meetings) (i:aY K a13 c14 a.Allowed) (j:aY K a16 c17 a.Hidden):
  Calls prog 83 ([cH a1 b]:List Value).toArray w (cK fun v w'=>v=i64 R/\aG G K (L) w'):=by
 exact aE
theorem aJD {a:bL} {b:Nat} {R:Bool} (hm:aJa a=some R) (c:aG G K (L) w) (d:eQ K a1 b [zS a4 a.Definitions.length c5,zS a7 a.Components.length c8,zS a10 a.Meetings.length c11,zS a13 a.Allowed.length c14,zS a16 a.Hidden.length c17]) (e:aY K a4 c5 a.Definitions) (g:aY K a7 c8 a.Components) (h:aY K a10 c11 a.Meetings) (i:aY K a13 c14 a.Allowed) (j:aY K a16 c17 a.Hidden):
  Calls prog 35 ([cH a1 b]:List Value).toArray w (cK fun v w'=>v=zB R/\aG G K (L) w'):=by
 exact aE
theorem aFq {a R:Int} (hm:aEG a=some R) (e:aG G K (L) w):
  Calls prog 243 ([i64 a]:List Value).toArray w (cK fun v w'=>v=i64 R/\aG G K (L) w'):=by
 refine aM func243 rfl (by kernel_rfl) (by show (1:Nat)<=13;decide) ?_;unfold aEG at hm
 refine aK (aH (v:=i64 0) (aL (aI (aK (aO (v:=i64 a) (aL (bK (aK (aC (dS rfl rfl) (aH (v:=zB (a == 8)) (aL ?_)))))))))))
 rcases aJ hm with ⟨b,hm⟩|⟨b,hm⟩
 ·exact aE
 ·refine aP b rfl (aK (aC (dS rfl rfl) (aH (v:=zB (a == 7)) (aL ?_))))
  rcases aJ hm with ⟨c,hm⟩|⟨c,hm⟩
  ·exact aE
  ·exact aP c rfl (gY [3] (fun f w=>∃ d,aDq a d=some R/\f 8=zB d/\aG G K (L) w) aE aE)
theorem aHy  {R:(List aN)} (hm:aJb=some R) (d:aG G K (L) w):
  Calls prog 244 ([]:List Value).toArray w (cK fun v w'=>∃ b c,v=zS b R.length c/\aG G K (aT 9 K b c R::L) w'):=by
 refine aM func244 rfl (by kernel_rfl) (by show (0:Nat)<=2;decide) ?_;unfold aJb at hm
 refine aK (aH (v:=zS none 0 0) (aL (aK (dK (Kt:=K) (xs:=([([43]:aN),([45]:aN),([42]:aN),([61]:aN),([35]:aN),([60]:aN),([60,61]:aN),([38]:aN),([124]:aN)]:List aN)) (cs:=[str ([43]:aN),str ([45]:aN),str ([42]:aN),str ([61]:aN),str ([35]:aN),str ([60]:aN),str ([60,61]:aN),str ([38]:aN),str ([124]:aN)]) (vs:=[(0,str ([43]:aN)),(1,str ([45]:aN)),(2,str ([42]:aN)),(3,str ([61]:aN)),(4,str ([35]:aN)),(5,str ([60]:aN)),(6,str ([60,61]:aN)),(7,str ([38]:aN)),(8,str ([124]:aN))]) cX qA rfl rfl d rfl (by kernel_rfl) rfl rfl rfl ⟨rfl,rfl,rfl,rfl,rfl,rfl,rfl,rfl,rfl,trivial⟩ (fun a e (g:aG G K (aT 9 K a 9 ([([43]:aN),([45]:aN),([42]:aN),([61]:aN),([35]:aN),([60]:aN),([60,61]:aN),([38]:aN),([124]:aN)]:List aN)::L) e)=>(aH (v:=zS a ([([43]:aN),([45]:aN),([42]:aN),([61]:aN),([35]:aN),([60]:aN),([60,61]:aN),([38]:aN),([124]:aN)]:List aN).length 9) (aL ?_)))))))
 obtain rfl:=Option.some.inj hm
 exact aIA (aKc results244 rfl ⟨a,9,rfl,g⟩)
end Gv
