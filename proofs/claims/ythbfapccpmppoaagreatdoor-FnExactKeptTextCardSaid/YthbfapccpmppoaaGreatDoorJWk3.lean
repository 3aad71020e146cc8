/- Walks, printed by program. -/
import Derived.Test.YthbfapccpmppoaaGreatDoorJWk1
set_option linter.all false
namespace Gv
open Gv.Hp renaming le_refl→zR
open Go.Value renaming slice→zS,bool→zB
open Go Go.Proofs Go.Proofs.Tryz
set_option maxRecDepth 20000
set_option maxHeartbeats 40000000
variable {G:kH} {K:Hp} {L:List eW} {w:World} {a1 a4 a7:Option Addr} {c2 c5 c8:Nat}
theorem gR {a:aL} {b:Bool} {R:aL} (hm:iM a b=some R) (c:aF G K (L) w):
  Calls prog 72 ([str a,zB b]:List Value).toArray w (cL fun v w'=>v=str R/\aF G K (L) w'):=by
 exact aE
theorem kT {n:Int} {R:aL} (hm:iD n=some R) (hs:aF G K (L) w):
  Calls prog 73 ([i64 n]:List Value).toArray w (cL fun v w'=>v=str R/\aF G K (L) w'):=by
 refine aN func73 rfl (by kernel_rfl) (by show (1:Nat)<=50;decide) ?_;unfold iD at hm
 refine aJ (aG (v:=str ([]:aL)) (aM (aH (aJ (aO (v:=i64 n) (aC (dN rfl rfl) (aM ?_)))))))
 rcases aI hm with ⟨q,hm⟩|⟨q,hm⟩
 ·exact aE
 ·refine aP q rfl (aU (aD (aJ (dK (Kt:=K) (xs:=([]:List UInt8)) (cs:=[]) (vs:=[]) aIk ez_5 rfl rfl hs rfl (by kernel_rfl) rfl rfl rfl trivial (fun r w4 (b5:aF G K (aV 5 K r 0 ([]:List UInt8)::L) w4)=>(aG (v:=zS r ([]:List UInt8).length 0) (aM (aH (aJ (aO (v:=i64 n) (aG (v:=i64 n) (aM (aQ [0] (fun f w=>∃ g k l,aDc n g=some R/\f 3=zS k g.length l/\aF G K (aV 5 K k l g::L) w) ?_ ?_)))))))))))))
  ·rintro f b6 ⟨g,k,l,hm,e9,b8⟩
   unfold aDc at hm
   refine aD (gI [] (fun f w=>∃ a b c,aAm a=some R/\f 3=zS b a.length c/\aF G K (aV 5 K b c a::L) w) ?_ ?_)
   ·rintro f b9 ⟨a,b,c,hm,a2,a4⟩
    unfold aAm at hm
    refine aJ (dK (Kt:=K) (xs:=([]:List UInt8)) (cs:=[]) (vs:=[]) aIk ez_5 rfl rfl a4 rfl (by kernel_rfl) rfl rfl rfl trivial (fun t a5 (c0:aF G K (aV 5 K t 0 ([]:List UInt8)::aV 5 K b c a::L) a5)=>(aG (v:=zS t ([]:List UInt8).length 0) (aM (aH (aJ (bR a2 (aC (aX (len:=a.length) aIk rfl) (aC (kR rfl rfl) (aG (v:=i64 (wr ((a.length:Int) - 1))) (aM (aQ [] (fun f w=>∃ d m o,aGl d=some R/\f 6=zS m d.length o/\aF G K (aV 5 K m o d::L) w) ?_ ?_))))))))))))
    ·rintro f c2 ⟨d,m,o,hm,a6,u⟩
     unfold aGl at hm
     refine aD (aJ (bR a6 (aC (R_convBSO underlying126 underlying5 underlying9 u (i:=0) rfl rfl rfl) (aG (v:=str d) (aM ?_)))));obtain rfl:=Option.some.inj hm
     exact aAP (xU results73 rfl ⟨rfl,(aF.arr 1 [] u rfl)⟩)
    obtain ⟨c3,a9,ho⟩:=aB hm
    exact cD [3] a9 (fun x b0 f w=>∃ y z,f 6=zS y x.length z/\f 7=i64 b0/\aF G K (aV 5 K y z x::aV 5 K b c a::L) w) aE aE
   exact aE
  obtain ⟨c4,b1,ho⟩:=aB hm
  refine cD [0] b1 (fun e p f w=>∃ h j,f 3=zS h e.length j/\f 4=i64 p/\aF G K (aV 5 K h j e::L) w) aE ?_
  ·rintro e p b2 f c5 hm hr ⟨h,j,c6,J,c7⟩
   unfold aAn at hm
   refine aH (aJ (bR J (aC (sI rfl rfl) (aM ?_))))
   rcases aI hm with ⟨V,hm⟩|⟨V,hm⟩
   ·refine aS V rfl (aU (aD (aH (bJ (aJ (bR J ?_))))));obtain ⟨b3,b4,hm⟩:=aB hm
    exact aC (R_rem rfl rfl b4) (aG (v:=i64 b3) (aM (gI [0,3,4] (fun f w=>∃ Z,aDd e p Z=some b2/\f 5=i64 Z/\aF G K (aV 5 K h j e::L) w) aE aE)))
   ·exact aE
theorem aMI {a:aL} {b:Bool} {R:aL} (hm:aBD a b=some R) (d:aF G K (L) w):
  Calls prog 74 ([str a,zB b]:List Value).toArray w (cL fun v w'=>v=str R/\aF G K (L) w'):=by
 refine aN func74 rfl (by kernel_rfl) (by show (2:Nat)<=26;decide) ?_;unfold aBD at hm
 exact aJ (aG (v:=str ([]:aL)) (aM (aJ (aO (v:=str a) (aG (v:=str a) (aM (aJ (aO (v:=str a) (aC (sK runUnderlying9 rfl) (aG (v:=i64 (a.length:Int)) (aM (gI [1] (fun f w=>∃ c,rM b c=some R/\f 5=str c/\aF G K (L) w) aE aE))))))))))))
theorem aDo {x:(List bI)} {R:aL} (hm:kK x=some R) (hs:aF G K (L) w) (h3:aW K a1 c2 x):
  Calls prog 32 ([zS a1 x.length c2]:List Value).toArray w (cL fun v w'=>v=str R/\aF G K (L) w'):=by
 refine aN func32 rfl (by kernel_rfl) (by show (1:Nat)<=174;decide) ?_;unfold kK at hm
 refine aJ (aG (v:=str ([]:aL)) (aM (aJ (dK (Kt:=K) (xs:=([]:List aL)) (cs:=[]) (vs:=[]) cT qF rfl rfl hs rfl (by kernel_rfl) rfl rfl rfl trivial (fun a4 w5 (g1:aF G K (aV 9 K a4 0 ([]:List aL)::L) w5)=>(aG (v:=zS a4 ([]:List aL).length 0) (aM (aJ (dK (Kt:=K) (xs:=([]:List Int)) (cs:=[]) (vs:=[]) dR xY rfl rfl g1 rfl (by kernel_rfl) rfl rfl rfl trivial (fun a7 w8 (k8:aF G K (aV 2 K a7 0 ([]:List Int)::aV 9 K a4 0 ([]:List aL)::L) w8)=>(aG (v:=zS a7 ([]:List Int).length 0) (aM (aH (aJ (aO (v:=zS a1 x.length c2) (aC (aX (len:=x.length) sB rfl) (aC (kR rfl rfl) (aG (v:=i64 (wr ((x.length:Int) - 1))) (aM (aQ [] (fun f w=>∃ b0 c8 c9,aAJ b0=some R/\f 3=zS c8 b0.length c9/\aF G K (aV 9 K c8 c9 b0::L) w) aE ?_))))))))))))))))))))
 obtain ⟨k9,g3,ho⟩:=aB hm
 refine aBM [0] g3 (fun c e z f w=>∃ l m j k,f 3=zS l c.length m/\f 4=zS j e.length k/\f 5=i64 z/\aF G K (aV 2 K j k e::aV 9 K l m c::L) w) aE ?_
 ·rintro c e z Z f l0 hm hr ⟨l,m,j,k,q,y,d0,b1⟩
  unfold eX at hm
  refine aH (aJ (bR d0 (aC (aOl rfl rfl) (aM ?_))))
  rcases aI hm with ⟨b2,hm⟩|⟨b2,hm⟩
  ·refine aS b2 rfl (aU (aD (aH (bJ (aJ (aO (v:=zS a1 x.length c2) (bR d0 ?_)))))));obtain ⟨a,d1,hm⟩:=aB hm
   refine aC (cR sB rfl h3 rfl rfl rfl d1) ?_;obtain ⟨l1,g4,g5⟩:=aW.el (sz:=4) rfl h3 d1
   cases g5
   refine aC (eD (t:=0) (vs:=[i64 a.Kind,i64 a.Variable,str a.B,zB a.Not]) aMm b1 g4 rfl rfl rfl) (eE (vs:=[i64 0,i64 0,str ([]:aL),zB false]) zeroValue83 b1 rfl (fun p l2 g6=>(fA (i:=0) (ns:=[i64 a.Kind,i64 a.Variable,str a.B,zB a.Not]) (us:=[i64 a.Kind,i64 a.Variable,str a.B,zB a.Not]) sizeOf83 g6 rfl rfl rfl rfl rfl (kJ rfl) rfl rfl (fun g7 (d2:aF G K (box p 83 [i64 a.Kind,i64 a.Variable,str a.B,zB a.Not]::aV 2 K j k e::aV 9 K l m c::L) g7)=>(aM (aJ (bR q (aC (aX (len:=c.length) cT rfl) (aC (kR rfl rfl) (aG (v:=i64 (wr ((c.length:Int) - 1))) (aM (aJ (aG (v:=str ([]:aL)) (aM (aJ (aC (bH (t':=0) aCU rfl rfl) (aC (dD gJ d2 (i:=0) rfl rfl rfl) ?_)))))))))))))))))
   obtain ⟨r,g8,hm⟩:=aB hm
   refine aT (vs:=[i64 a.Kind]) call71 rfl (aAM g8 d2) ?_
   rintro _ l3 ⟨rfl,d⟩
   refine aG (v:=i64 r) (aM (gI [0,3,4,5,6,7,9] (fun f w=>∃ a0,gT c e z a r a0=some Z/\f 8=str a0/\aF G K (box p 83 [i64 a.Kind,i64 a.Variable,str a.B,zB a.Not]::aV 2 K j k e::aV 9 K l m c::L) w) ?_ ?_))
   ·rintro f l4 ⟨a0,hm,g9,b⟩
    unfold gT at hm
    refine aH (aJ (aC (bH (t':=0) aCU rfl rfl) (aC (dD gJ b (i:=0) rfl rfl rfl) (aM (aQ [0,3,4,5,6,9] (fun f w=>∃ u,cZ c e z a r u=some Z/\f 8=str u/\aF G K (box p 83 [i64 a.Kind,i64 a.Variable,str a.B,zB a.Not]::aV 2 K j k e::aV 9 K l m c::L) w) ?_ ?_)))))
    ·rintro f l5 ⟨u,hm,h0,d3⟩
     unfold cZ at hm
     refine aD (aJ (bR q (bR q (aC (aX (len:=c.length) cT rfl) (aO (v:=i64 r) (aC (kR rfl rfl) ?_))))));obtain ⟨h1,d4,hm⟩:=aB hm
     have h2:=pN d3 (i:=2) rfl
     obtain ⟨h4,h5,d5⟩:=Cut.ex 1 l m 0
     refine aC (uI cT h2 d5 rfl rfl rfl d4) (bR h0 (dK (Kt:=K) (xs:=([u]:List aL)) (cs:=[str u]) (vs:=[(0,str u)]) cT qF rfl rfl d3 rfl (by kernel_rfl) rfl rfl rfl ⟨rfl,trivial⟩ (fun d6 d7 (h6:aF G K (aV 9 K d6 1 ([u]:List aL)::box p 83 [i64 a.Kind,i64 a.Variable,str a.B,zB a.Not]::aV 2 K j k e::aV 9 K l m c::L) d7)=>?_)))
     have h7:aF G K (aV 9 K d6 1 ([u]:List aL)::box p 83 [i64 a.Kind,i64 a.Variable,str a.B,zB a.Not]::aV 2 K j k e::aV 9 K h4 h5 h1::L) d7:=aF.cutP h6 (i:=3) rfl d4 d5
     obtain ⟨a2,h8,hm⟩:=aB hm
     refine jQ (i:=2) cT underlying22 qF rfl rfl h7 rfl (Hp.le_refl _) (Hp.le_refl _) h8 rfl rfl rfl rfl (fun _ h=>h) (fun a3 a5 h9 (i0:aF G K (box p 83 [i64 a.Kind,i64 a.Variable,str a.B,zB a.Not]::aV 2 K j k e::aV 9 K a3 a5 a2::L) h9)=>(aG (v:=zS a3 a2.length a5) (aM ?_)));obtain ⟨b3,l6,i1,d8,l7⟩:=aF.lendBp i0 .head
     refine mO (C:=fun w'=>∃ L',aF G b3 L' w') [(0,0),(1,0),(2,0),(3,0),(4,0),(5,0),(6,0),(7,0),(8,1),(9,1),(10,0)] Tryz_mixed (by kernel_rfl) (fun _ hg=>⟨_,aF.mono d8 hg⟩) (fun l8 i2=>?_)
     have a6:=aF.mono d8 i2
     refine dL rfl (fun _ _=>bC y) (dL rfl (fun _ _=>bC y) (dL rfl (fun _ _=>aX (len:=e.length) dR rfl) (dL rfl (fun _ _=>bC (v:=i64 r) rfl) (dL rfl (fun _ _=>kR rfl rfl) ?_))));obtain ⟨i3,d9,hm⟩:=aB hm
     have i4:=pN a6 (i:=0) rfl
     obtain ⟨i5,i6,e0⟩:=Cut.ex 1 j k 0
     refine dL rfl (fun _ _=>uI dR i4 e0 rfl rfl rfl d9) (dL rfl (fun _ _=>bH (t':=0) aCU rfl rfl) (dL rfl (fun _ ⟨_,a6⟩=>bZ (t:=0) gJ a6 i1 rfl rfl) (vM rfl (dK (Kt:=K) (xs:=([a.Kind]:List Int)) (cs:=[i64 a.Kind]) (vs:=[(0,i64 a.Kind)]) dR xY rfl rfl a6 rfl (by kernel_rfl) rfl rfl rfl ⟨rfl,trivial⟩ (fun e1 e2 (e3:aF G b3 (aV 2 K e1 1 ([a.Kind]:List Int)::aV 2 K j k e::aV 9 K a3 a5 a2::L) e2)=>(bP (aD ⟨⟨_,e3⟩,?_⟩)))))))
     refine vM rfl ?_
     have l9:aF G b3 (aV 2 K e1 1 ([a.Kind]:List Int)::aV 2 K i5 i6 i3::aV 9 K a3 a5 a2::L) e2:=aF.cutP e3 (i:=1) rfl d9 e0
     exact aE
    refine aJ (aC (dN rfl rfl) (aG (v:=zB (a.Kind == 0)) (aM ?_)))
    rcases aI hm with ⟨e4,hm⟩|⟨e4,hm⟩
    ·exact aE
    ·refine aP e4 rfl (aJ (aC (dN rfl rfl) (aG (v:=zB (a.Kind == 1)) (aM ?_))))
     rcases aI hm with ⟨e5,hm⟩|⟨e5,hm⟩
     ·exact aE
     ·refine aP e5 rfl (aJ (aC (dN rfl rfl) (aG (v:=zB (a.Kind == 6)) (aM ?_))))
      rcases aI hm with ⟨e6,hm⟩|⟨e6,hm⟩
      ·exact aE
      ·refine aP e6 rfl (aJ (aC (dN rfl rfl) (aG (v:=zB (a.Kind == 4)) (aM ?_))))
       rcases aI hm with ⟨e7,hm⟩|⟨e7,hm⟩
       ·exact aE
       ·refine aP e7 rfl (aJ (aC (dN rfl rfl) (aG (v:=zB (a.Kind == 5)) (aM ?_))))
        rcases aI hm with ⟨e8,hm⟩|⟨e8,hm⟩
        ·exact aE
        ·refine aP e8 rfl (aJ (aC (dN rfl rfl) (aG (v:=zB (a.Kind == 7)) (aM ?_))))
         rcases aI hm with ⟨e9,hm⟩|⟨e9,hm⟩
         ·exact aE
         ·refine aP e9 rfl (aJ (aC (dN rfl rfl) (aG (v:=zB (a.Kind == 8)) (aM ?_))))
          rcases aI hm with ⟨f0,hm⟩|⟨f0,hm⟩
          ·exact aE
          ·refine aP f0 rfl (aJ (aC (dN rfl rfl) (aG (v:=zB (a.Kind == 2)) (aM ?_))))
           rcases aI hm with ⟨b4,hm⟩|⟨b4,hm⟩
           ·refine aS b4 rfl (aZ [0,3,4,5,6,9] (fun f w=>∃ f1,tY c e z a r f1=some Z/\f 8=str f1/\aF G K (box p 83 [i64 a.Kind,i64 a.Variable,str a.B,zB a.Not]::aV 2 K j k e::aV 9 K l m c::L) w) aE (fZ (C:=fun w'=>aF G K (box p 83 [i64 a.Kind,i64 a.Variable,str a.B,zB a.Not]::aV 2 K j k e::aV 9 K l m c::L) w') Tryz_mixed (by kernel_rfl) (aF.mono b (eI.drew _)) (bE (fun _ b=>bC q) (bE (fun _ b=>bC (v:=i64 (wr ((c.length:Int) - 1))) rfl) ?_))))
            obtain ⟨f2,b5,hm⟩:=aB hm
            have i7:=eN b (i:=2) rfl b5
            refine bE (fun _ b=>jE cT rfl i7 rfl rfl rfl b5) (bE (fun _ b=>oJ (t:=0) oK b (i:=2) rfl b5 rfl rfl rfl) (bE (fun _ b=>bC y) (bE (fun _ b=>bC (v:=i64 (wr ((c.length:Int) - 1))) rfl) ?_)));obtain ⟨b6,J,hm⟩:=aB hm
            have f3:=eN b (i:=1) rfl J
            refine bE (fun _ b=>jE dR rfl f3 rfl rfl rfl J) (bE (fun _ b=>oJ (t:=0) gJ b (i:=1) rfl J rfl rfl rfl) (bE (fun _ b=>dN rfl rfl) (bE (fun _ b=>bC (v:=zB (b6 == 2)) rfl) ?_)))
            rcases aI hm with ⟨n,hm⟩|⟨n,hm⟩
            ·refine aAG (g:=111) rfl rfl (aHF n) (aAG (g:=111) rfl rfl (aHF n) (aAG (g:=111) rfl rfl (aHF n) (aAG (g:=111) rfl rfl (aHF n) (aAG (g:=111) rfl rfl (aHF n) (bE (fun _ b=>oI (v:=zB true) n rfl rfl) ?_)))));obtain ⟨i8,i9,hm⟩:=aB hm
             exact gA (vs:=[str f2,zB true]) (v:=str i8) call72 rfl (fun _ b=>(gR i9 b)) aE
            ·refine xM (g:=111) rfl rfl (sD n) (bE (fun _ b=>bC y) (xM (g:=111) rfl rfl (sD n) (bE (fun _ b=>bC (v:=i64 (wr ((c.length:Int) - 1))) rfl) (xM (g:=111) rfl rfl (sD n) (bE (fun _ b=>jE dR rfl f3 rfl rfl rfl J) (xM (g:=111) rfl rfl (sD n) (bE (fun _ b=>oJ (t:=0) gJ b (i:=1) rfl J rfl rfl rfl) (xM (g:=111) rfl rfl (sD n) (bE (fun _ b=>dN rfl rfl) (bE (fun _ b=>vJ (v:=zB (b6 == 3)) n rfl rfl) ?_))))))))))
             obtain ⟨j0,j1,hm⟩:=aB hm
             exact gA (vs:=[str f2,zB (b6 == 3)]) (v:=str j0) call72 rfl (fun _ b=>(gR j1 b)) aE
           ·refine aP b4 rfl (aJ (aC (dN rfl rfl) (aG (v:=zB (a.Kind == 3)) (aM ?_))))
            rcases aI hm with ⟨b7,hm⟩|⟨b7,hm⟩
            ·refine aS b7 rfl (fZ (C:=fun w'=>aF G K (box p 83 [i64 a.Kind,i64 a.Variable,str a.B,zB a.Not]::aV 2 K j k e::aV 9 K l m c::L) w') Tryz_mixed (by kernel_rfl) (aF.mono b (eI.drew _)) (bE (fun _ b=>bC q) (bE (fun _ b=>bC (v:=i64 (wr ((c.length:Int) - 1))) rfl) ?_)));obtain ⟨j2,b8,hm⟩:=aB hm
             have f4:=eN b (i:=2) rfl b8
             refine bE (fun _ b=>jE cT rfl f4 rfl rfl rfl b8) (bE (fun _ b=>oJ (t:=0) oK b (i:=2) rfl b8 rfl rfl rfl) (bE (fun _ b=>bC y) (bE (fun _ b=>bC (v:=i64 (wr ((c.length:Int) - 1))) rfl) ?_)));obtain ⟨j3,b9,hm⟩:=aB hm
             have j4:=eN b (i:=1) rfl b9
             refine bE (fun _ b=>jE dR rfl j4 rfl rfl rfl b9) (bE (fun _ b=>oJ (t:=0) gJ b (i:=1) rfl b9 rfl rfl rfl) (bE (fun _ b=>dN rfl rfl) ?_));obtain ⟨j5,j6,hm⟩:=aB hm
             refine gA (vs:=[str j2,zB (j3 == 3)]) (v:=str j5) call72 rfl (fun _ b=>(gR j6 b)) ?_;obtain ⟨m0,j7,hm⟩:=aB hm
             refine bE (fun _ b=>dX rfl rfl j7) (bE (fun _ b=>bC q) (bE (fun _ b=>bC (v:=i64 (wr ((c.length:Int) - 1))) rfl) (bE (fun _ b=>kR rfl rfl) ?_)));obtain ⟨m1,f5,hm⟩:=aB hm
             refine bE (fun _ b=>jE cT rfl f4 rfl rfl rfl f5) (bE (fun _ b=>oJ (t:=0) oK b (i:=2) rfl f5 rfl rfl rfl) ?_);obtain ⟨f6,j8,hm⟩:=aB hm
             exact bE (fun _ b=>dX rfl rfl j8) (bE (fun _ b=>dJ (v:=str f6) rfl) (uH (fun m2 j9=>(eL (aD ⟨gF,f6,hm,rfl,j9⟩)))))
            ·exact aP b7 rfl (aU (eL (aD ⟨gF,a0,hm,g9,b⟩)))
   refine aJ (aO (v:=i64 r) (aC (dN rfl rfl) (aM ?_)))
   rcases aI hm with ⟨c0,hm⟩|⟨c0,hm⟩
   ·refine aS c0 rfl (aZ [0,3,4,5,6,7,9] (fun f w=>∃ a8,jV c e z a r a8=some Z/\f 8=str a8/\aF G K (box p 83 [i64 a.Kind,i64 a.Variable,str a.B,zB a.Not]::aV 2 K j k e::aV 9 K l m c::L) w) ?_ ?_)
    ·rintro f m3 ⟨a8,hm,k0,k1⟩
     unfold jV at hm
     exact aD ⟨gF,a8,hm,k0,k1⟩
    refine fZ (C:=fun w'=>aF G K (box p 83 [i64 a.Kind,i64 a.Variable,str a.B,zB a.Not]::aV 2 K j k e::aV 9 K l m c::L) w') Tryz_mixed (by kernel_rfl) (aF.mono d (eI.drew _)) (bE (fun _ d=>bC q) (bE (fun _ d=>bC (v:=i64 (wr ((c.length:Int) - 1))) rfl) ?_));obtain ⟨f7,c1,hm⟩:=aB hm
    have k2:=eN d (i:=2) rfl c1
    refine bE (fun _ d=>jE cT rfl k2 rfl rfl rfl c1) (bE (fun _ d=>oJ (t:=0) oK d (i:=2) rfl c1 rfl rfl rfl) (bE (fun _ d=>bC y) (bE (fun _ d=>bC (v:=i64 (wr ((c.length:Int) - 1))) rfl) ?_)));obtain ⟨c3,V,hm⟩:=aB hm
    have f8:=eN d (i:=1) rfl V
    refine bE (fun _ d=>jE dR rfl f8 rfl rfl rfl V) (bE (fun _ d=>oJ (t:=0) gJ d (i:=1) rfl V rfl rfl rfl) (bE (fun _ d=>dN rfl rfl) (bE (fun _ d=>bC (v:=zB (c3 == 2)) rfl) ?_)))
    rcases aI hm with ⟨o,hm⟩|⟨o,hm⟩
    ·refine aAG (g:=40) rfl rfl (aHF o) (aAG (g:=40) rfl rfl (aHF o) (aAG (g:=40) rfl rfl (aHF o) (aAG (g:=40) rfl rfl (aHF o) (aAG (g:=40) rfl rfl (aHF o) (bE (fun _ d=>oI (v:=zB true) o rfl rfl) ?_)))));obtain ⟨c4,k3,hm⟩:=aB hm
     exact gA (vs:=[str f7,zB true]) (v:=str c4) call72 rfl (fun _ d=>(gR k3 d)) (bE (fun _ d=>dJ (v:=str c4) rfl) (uH (fun m4 k4=>(aD ⟨gF,c4,hm,rfl,k4⟩))))
    ·refine xM (g:=40) rfl rfl (sD o) (bE (fun _ d=>bC y) (xM (g:=40) rfl rfl (sD o) (bE (fun _ d=>bC (v:=i64 (wr ((c.length:Int) - 1))) rfl) (xM (g:=40) rfl rfl (sD o) (bE (fun _ d=>jE dR rfl f8 rfl rfl rfl V) (xM (g:=40) rfl rfl (sD o) (bE (fun _ d=>oJ (t:=0) gJ d (i:=1) rfl V rfl rfl rfl) (xM (g:=40) rfl rfl (sD o) (bE (fun _ d=>dN rfl rfl) (bE (fun _ d=>vJ (v:=zB (c3 == 3)) o rfl rfl) ?_))))))))))
     obtain ⟨c5,k5,hm⟩:=aB hm
     exact gA (vs:=[str f7,zB (c3 == 3)]) (v:=str c5) call72 rfl (fun _ d=>(gR k5 d)) (bE (fun _ d=>dJ (v:=str c5) rfl) (uH (fun m5 k6=>(aD ⟨gF,c5,hm,rfl,k6⟩))))
   ·exact aP c0 rfl (aU (aD ⟨gF,([]:aL),hm,rfl,d⟩))
  ·refine aP b2 rfl (aON (aEy (aEy ?_)))
   have k7:=hr _ (Option.some.inj hm).symm
   subst k7
   have hm:(aAJ c)=some R:=ho
   clear hr ho
   exact aIR (aD ⟨gF,c,l,m,hm,q,(aF.arr 1 [] b1 rfl)⟩)
theorem aAN {t:gM} {a:Nat} {R:Bool} (hm:yE t=some R) (c:aF G K (L) w) (d:eR K a1 a (zC t a4 c5 a7 c8)) (e:aW K a4 c5 t.L) (g:aW K a7 c8 t.E):
  Calls prog 33 ([cE a1 a]:List Value).toArray w (cL fun v w'=>v=zB R/\aF G K (L) w'):=by
 refine aN func33 rfl (by kernel_rfl) (by show (1:Nat)<=31;decide) ?_;unfold yE at hm
 exact aJ (aG (v:=zB false) (aM (aH (aZ [] (fun f w=>∃ b,pB b=some R/\f 2=zB b/\aF G K (L) w) aE aE))))
theorem aKB {p:bG} {a:Nat} {R:Int} (hm:uY p=some R) (d:aF G K (L) w) (b:eR K a1 a [i64 p.Kind,i64 p.Number,str p.Name,zS a4 p.Arguments.length c5]) (e:aW K a4 c5 p.Arguments):
  Calls prog 234 ([cE a1 a]:List Value).toArray w (cL fun v w'=>v=i64 R/\aF G K (L) w'):=by
 refine aN func234 rfl (by kernel_rfl) (by show (1:Nat)<=13;decide) ?_;unfold uY at hm
 exact aJ (aG (v:=i64 0) (aM (aH (aJ (aO (v:=cE a1 a) (aC (dO rfl b) (aC (cF (k':=a+0) oL rfl b rfl) (aC (bZ (t:=0) gJ d b rfl rfl) (aM (bJ (gI [6] (fun f w=>∃ c,qQ p c=some R/\f 7=zB c/\aF G K (L) w) aE aE)))))))))))
theorem aFH {a:(List bG)} {R:Bool} (hm:aCh a=some R) (j:aF G K (L) w) (k:aW K a1 c2 a):
  Calls prog 196 ([zS a1 a.length c2]:List Value).toArray w (cL fun v w'=>v=zB R/\aF G K (L) w'):=by
 refine aN func196 rfl (by kernel_rfl) (by show (1:Nat)<=30;decide) ?_;unfold aCh at hm
 refine aJ (aG (v:=zB false) (aM (aH (aH (aZ [0] (fun f w=>∃ b,sU a b=some R/\f 12=zB b/\aF G K (L) w) ?_ ?_)))))
 ·rintro f l ⟨b,hm,e,m⟩
  unfold sU at hm
  refine aD ?_
  rcases aI hm with ⟨c,hm⟩|⟨c,hm⟩
  ·exact aE
  ·refine aP c e (aU (aD (aJ (aG (v:=i64 1) (aM (aH (aJ (aG (v:=i64 0) (aM (aQ [] (fun f w=>∃ d,aHJ d=some R/\f 3=i64 d/\aF G K (L) w) aE ?_))))))))));obtain ⟨n,g,ho⟩:=aB hm
   exact cD [0] g (fun h i f w=>f 3=i64 h/\f 4=i64 i/\aF G K (L) w) aE aE
 exact aE
theorem aGB {p:bG} {a:Nat} {R:Bool} (hm:aDY p=some R) (m:aF G K (L) w) (b:eR K a1 a [i64 p.Kind,i64 p.Number,str p.Name,zS a4 p.Arguments.length c5]) (n:aW K a4 c5 p.Arguments):
  Calls prog 235 ([cE a1 a]:List Value).toArray w (cL fun v w'=>v=zB R/\aF G K (L) w'):=by
 refine aN func235 rfl (by kernel_rfl) (by show (1:Nat)<=73;decide) ?_;unfold aDY at hm
 refine aJ (aG (v:=zB false) (aM (aH (aJ (aO (v:=cE a1 a) (aC (dO rfl b) (aC (cF (k':=a+0) oL rfl b rfl) (aC (bZ (t:=0) gJ m b rfl rfl) (aM (bJ (gI [0,6] (fun f w=>∃ c,vY p c=some R/\f 7=zB c/\aF G K (L) w) ?_ ?_)))))))))))
 ·rintro f o ⟨c,hm,g,q⟩
  unfold vY at hm
  rcases aI hm with ⟨d,hm⟩|⟨d,hm⟩
  ·exact aS d g (aH (aZ [] (fun f w=>∃ h,vX h=some R/\f 2=zB h/\aF G K (L) w) aE aE))
  ·refine aP d g (aJ (aC (dN rfl rfl) (aG (v:=zB (p.Kind == 1)) (aM ?_))))
   rcases aI hm with ⟨i,hm⟩|⟨i,hm⟩
   ·exact aE
   ·refine aP i rfl (aJ (aC (dN rfl rfl) (aG (v:=zB (p.Kind == 3)) (aM ?_))))
    rcases aI hm with ⟨e,hm⟩|⟨e,hm⟩
    ·exact aS e rfl (aH (aZ [] (fun f w=>∃ j,aBf j=some R/\f 2=zB j/\aF G K (L) w) aE aE))
    ·refine aP e rfl (aJ (aC (dN rfl rfl) (aG (v:=zB (p.Kind == 4)) (aM ?_))))
     rcases aI hm with ⟨k,hm⟩|⟨k,hm⟩
     ·exact aS k rfl (aH (aZ [] (fun f w=>∃ l,aBg l=some R/\f 2=zB l/\aF G K (L) w) aE aE))
     ·exact aE
 exact aE
theorem aNU {a:(List bG)} {b R:Int} (hm:aGo a b=some R) (h:aF G K (L) w) (i:aW K a1 c2 a):
  Calls prog 266 ([zS a1 a.length c2,i64 b]:List Value).toArray w (cL fun v w'=>v=i64 R/\aF G K (L) w'):=by
 refine aN func266 rfl (by kernel_rfl) (by show (2:Nat)<=18;decide) ?_;unfold aGo at hm
 refine aJ (aG (v:=i64 0) (aM (aJ (aG (v:=i64 1) (aM (aH (aQ [] (fun f w=>∃ c,aGm c=some R/\f 1=i64 c/\aF G K (L) w) aE ?_)))))));obtain ⟨j,d,ho⟩:=aB hm
 exact cD [0] d (fun e g f w=>f 1=i64 e/\f 5=i64 g/\aF G K (L) w) aE aE
theorem aFI {d:Definition} {b:Nat} {part R:Int} (hm:yF d part=some R) (m:aF G K (L) w) (c:eR K a1 b [str d.Name,i64 d.Parameters,zS a4 d.Body.length c5]) (q:aW K a4 c5 d.Body):
  Calls prog 236 ([cE a1 b,i64 part]:List Value).toArray w (cL fun v w'=>v=i64 R/\aF G K (L) w'):=by
 refine aN func236 rfl (by kernel_rfl) (by show (2:Nat)<=38;decide) ?_;unfold yF at hm
 refine aJ (aG (v:=i64 0) (aM (aJ (aO (v:=cE a1 b) (aC (dO rfl c) (aC (cF (k':=b+1) aMn rfl c rfl) (aC (bZ (t:=1) gJ m c rfl rfl) (aG (v:=i64 d.Parameters) (aM (aH (aJ (aG (v:=i64 0) (aM (aQ [] (fun f w=>∃ h,aHK h=some R/\f 5=i64 h/\aF G K (L) w) aE ?_))))))))))))));obtain ⟨r,n,ho⟩:=aB hm
 refine cD [0,1] n (fun e a f w=>f 5=i64 e/\f 6=i64 a/\aF G K (L) w) aE ?_
 ·rintro e a i f u hm hr ⟨x,j,y⟩
  unfold jG at hm
  refine aH (aJ (bR j (aO (v:=i64 part) (aC (eC rfl rfl) (aM ?_)))))
  rcases aI hm with ⟨k,hm⟩|⟨k,hm⟩
  ·refine aS k rfl (aU (aD (aH (aQ [0,1,6] (fun f w=>∃ g,sV a g=some i/\f 5=i64 g/\aF G K (L) w) ?_ ?_))))
   ·rintro f z ⟨g,hm,o,p⟩
    unfold sV at hm
    exact aD (bK (bR j (aC (nI rfl rfl) (aG (v:=i64 (wr (a+1))) (aM ⟨_,(Option.some.inj hm).symm,gF,o,rfl,p⟩)))))
   exact aH (aZ [0,1,5,6] (fun f w=>∃ l,zN e a l=some i/\f 34=zB l/\aF G K (L) w) aE aE)
  ·exact aE
theorem aMJ {t:aR} {a:Nat} {b:Int} {R:Bool} (hm:aGY t b=some R) (c:aF G K (L) w) (d:eR K a1 a [i64 t.Kind,i64 t.Value]):
  Calls prog 267 ([cE a1 a,i64 b]:List Value).toArray w (cL fun v w'=>v=zB R/\aF G K (L) w'):=by
 exact aE
theorem aLC {t:aR} {a:Nat} {R:Int} (hm:aER t=some R) (b:aF G K (L) w) (c:eR K a1 a [i64 t.Kind,i64 t.Value]):
  Calls prog 268 ([cE a1 a]:List Value).toArray w (cL fun v w'=>v=i64 R/\aF G K (L) w'):=by
 exact aE
theorem aPk {e:(List aR)} {d a:Int} {R:Bool} (hm:aJm e d a=some R) (n:aF G K (L) w) (o:aW K a1 c2 e):
  Calls prog 237 ([zS a1 e.length c2,i64 d,i64 a]:List Value).toArray w (cL fun v w'=>v=zB R/\aF G K (L) w'):=by
 refine aN func237 rfl (by kernel_rfl) (by show (3:Nat)<=38;decide) ?_;unfold aJm at hm
 refine aJ (aG (v:=zB false) (aM (aH (aJ (aO (v:=zS a1 e.length c2) (aC (aX (len:=e.length) nP rfl) (aO (v:=i64 a) (aC (R_gtr rfl rfl) (aM ?_)))))))))
 rcases aI hm with ⟨g,hm⟩|⟨g,hm⟩
 ·exact aE
 ·refine aP g rfl (aU (aD (aJ (aG (v:=i64 1) (aM (aH (aJ (aG (v:=i64 0) (aM (aQ [] (fun f w=>∃ h,aMv h=some R/\f 7=i64 h/\aF G K (L) w) aE ?_))))))))));obtain ⟨p,k,ho⟩:=aB hm
  refine cD [0,1] k (fun b c f w=>f 7=i64 b/\f 8=i64 c/\aF G K (L) w) aE ?_
  ·rintro b c l f q hm hr ⟨r,m,t⟩
   unfold aCi at hm
   refine aH (aJ (bR m (aO (v:=zS a1 e.length c2) (aC (aX (len:=e.length) nP rfl) (aC (eC rfl rfl) (aM ?_))))))
   rcases aI hm with ⟨i,hm⟩|⟨i,hm⟩
   ·exact aS i rfl (aU (aD (aH (bJ (aH (aH (aZ [0,1,7,8] (fun f w=>∃ j,aES e b c j=some l/\f 28=zB j/\aF G K (L) w) aE aE)))))))
   ·exact aE
theorem aKC {j:(List Definition)} {d:Definition} {h:Nat} {e R:Int} (hm:uZ j d e=some R) (l:aF G K (L) w) (h3:aW K a1 c2 j) (k:eR K a4 h [str d.Name,i64 d.Parameters,zS a7 d.Body.length c8]) (m:aW K a7 c8 d.Body):
  Calls prog 197 ([zS a1 j.length c2,cE a4 h,i64 e]:List Value).toArray w (cL fun v w'=>v=i64 R/\aF G K (L) w'):=by
 refine aN func197 rfl (by kernel_rfl) (by show (3:Nat)<=126;decide) ?_;unfold uZ at hm
 refine aJ (aG (v:=i64 0) (aM (aJ (aO (v:=cE a4 h) (aC (dO rfl k) (aC (cF (k':=h+2) aBP rfl k rfl) (aC (bZ (t:=2) xZ l k rfl rfl) (aO (v:=i64 e) ?_))))))));obtain ⟨a,r,hm⟩:=aB hm
 refine aC (cR lK rfl m rfl rfl rfl r) ?_;obtain ⟨c6,a2,a3⟩:=aW.el (sz:=4) rfl m r
 obtain ⟨b,c,rfl,a5⟩:=a3
 refine aC (eD (t:=0) (vs:=[i64 a.Kind,i64 a.Number,str a.Name,zS b a.Arguments.length c]) yA l a2 rfl rfl rfl) (eE (vs:=[i64 0,i64 0,str ([]:aL),zS none 0 0]) zeroValue170 l rfl (fun g c7 a6=>(fA (i:=0) (ns:=[i64 a.Kind,i64 a.Number,str a.Name,zS b a.Arguments.length c]) (us:=[i64 a.Kind,i64 a.Number,str a.Name,zS b a.Arguments.length c]) sizeOf170 a6 rfl rfl rfl rfl rfl (kJ rfl) rfl rfl (fun a8 (a9:aF G K (box g 170 [i64 a.Kind,i64 a.Number,str a.Name,zS b a.Arguments.length c]::L) a8)=>(aM (aH (aJ ?_)))))))
 obtain ⟨c9,b0,b1,b2,b3⟩:=aF.lendBp a9 .head
 obtain ⟨d0,b4,hm⟩:=aB hm
 refine aT (vs:=[cE (some ⟨g,0,none⟩) 0]) call235 rfl (aGB b4 b2 b1 (a5.mono b0)) ?_
 rintro _ d1 ⟨rfl,b5⟩
 have d2:=b3 _ _ b5
 refine aC (uT rfl) (aM ?_)
 rcases aI hm with ⟨u,hm⟩|⟨u,hm⟩
 ·exact aE
 ·refine aP u rfl (aU (aD (aH (aH (aZ [0,1,2,7] (fun f w=>∃ n,mX j d e a n=some R/\f 28=zB n/\aF G K (box g 170 [i64 a.Kind,i64 a.Number,str a.Name,zS b a.Arguments.length c]::L) w) ?_ ?_)))))
  ·rintro f d3 ⟨n,hm,b6,d4⟩
   unfold mX at hm
   refine aD ?_
   rcases aI hm with ⟨x,hm⟩|⟨x,hm⟩
   ·exact aE
   ·refine aP x b6 (aU (aD (aH (aH (aZ [0,1,2,7] (fun f w=>∃ o,iF j d e a o=some R/\f 51=zB o/\aF G K (box g 170 [i64 a.Kind,i64 a.Number,str a.Name,zS b a.Arguments.length c]::L) w) ?_ ?_)))))
    ·rintro f d5 ⟨o,hm,b7,y⟩
     unfold iF at hm
     refine aD ?_
     rcases aI hm with ⟨c45,hm⟩|⟨c45,hm⟩
     ·exact aE
     ·refine aP c45 b7 (aU (aD (aJ (aC (bH (t':=3) oM rfl rfl) (aC (dD aAI y (i:=0) rfl rfl rfl) (aC (aX (len:=a.Arguments.length) mP rfl) (aG (v:=i64 (a.Arguments.length:Int)) (aM (aH (aJ (aC (bH (t':=0) oL rfl rfl) (aC (dD gJ y (i:=0) rfl rfl rfl) (aM (aQ [1,2,7,8] (fun f w=>iE d e a=some R/\aF G K (box g 170 [i64 a.Kind,i64 a.Number,str a.Name,zS b a.Arguments.length c]::L) w) ?_ ?_))))))))))))))
      ·rintro f d6 ⟨hm,d7⟩
       unfold iE at hm
       refine aD (aH (aH (aZ [1,2,7,8] (fun f w=>∃ p,lA d e a p=some R/\f 102=zB p/\aF G K (box g 170 [i64 a.Kind,i64 a.Number,str a.Name,zS b a.Arguments.length c]::L) w) ?_ ?_)))
       ·rintro f d8 ⟨p,hm,b8,b9⟩
        unfold lA at hm
        refine aD ?_
        rcases aI hm with ⟨z,hm⟩|⟨z,hm⟩
        ·exact aE
        ·refine aP z b8 (aU (aD (aJ (aO (v:=cE a4 h) (aO (v:=i64 e) ?_)))));obtain ⟨J,c0,hm⟩:=aB hm
         refine aT (vs:=[cE a4 h,i64 e]) call236 rfl (aFI c0 b9 k m) ?_
         rintro _ d9 ⟨rfl,e0⟩
         refine aG (v:=i64 J) (aM (aH (aH (aZ [7,8,9] (fun f w=>∃ q,mW a J q=some R/\f 112=zB q/\aF G K (box g 170 [i64 a.Kind,i64 a.Number,str a.Name,zS b a.Arguments.length c]::L) w) ?_ ?_))))
         ·rintro f e1 ⟨q,hm,c1,e2⟩
          unfold mW at hm
          refine aD ?_
          rcases aI hm with ⟨V,hm⟩|⟨V,hm⟩
          ·exact aE
          ·refine aP V c1 (aU (aD (aH (aJ (aG (v:=i64 0) (aM (aQ [] (fun f w=>aCj=some R/\aF G K (L) w) aE ?_)))))));obtain ⟨e3,c3,ho⟩:=aB hm
           exact bW [7,8,9] c3 (fun c4 f w=>f 10=i64 c4/\aF G K (box g 170 [i64 a.Kind,i64 a.Number,str a.Name,zS b a.Arguments.length c]::L) w) aE aE
         exact aE
       exact aE
      refine aJ (aC (dN rfl rfl) (aG (v:=zB (a.Kind == 1)) (aM ?_)))
      rcases aI hm with ⟨Z,hm⟩|⟨Z,hm⟩
      ·exact aS Z rfl (aH (aZ [1,2,7,8] (fun f w=>∃ a0,qS d e a a0=some R/\f 69=zB a0/\aF G K (box g 170 [i64 a.Kind,i64 a.Number,str a.Name,zS b a.Arguments.length c]::L) w) aE aE))
      ·exact aE
    exact aE
  exact aE
end Gv
namespace Gv
open Gv.Hp renaming le_refl→zR
open Go.Value renaming slice→zS,bool→zB
open Option.some renaming inj→zI
open Go Go.Proofs Go.Proofs.Tryz
set_option maxRecDepth 20000
set_option maxHeartbeats 40000000
variable {G:kH} {K:Hp} {L:List eW} {w:World} {a1 a4 a7 a10 a13 a16:Option Addr} {c2 c8 c5 c11 c14 c17:Nat}
theorem aMK {b:(List Definition)} {d:Definition} {a:Nat} {R:(Int × Int)} (hm:aBE b d=some R) (e:aF G K (L) w) (l:aW K a1 c2 b) (c:eR K a4 a [str d.Name,i64 d.Parameters,zS a7 d.Body.length c8]) (h:aW K a7 c8 d.Body):
  Calls prog 159 ([zS a1 b.length c2,cE a4 a]:List Value).toArray w (cL fun v w'=>v=Value.tuple #[i64 R.1,i64 R.2]/\aF G K (L) w'):=by
 refine aN func159 rfl (by kernel_rfl) (by show (2:Nat)<=31;decide) ?_;unfold aBE at hm
 refine aJ (aG (v:=i64 0) (aG (v:=i64 0) (aM (aH (aJ (aO (v:=cE a4 a) (aC (dO rfl c) (aC (cF (k':=a+2) aBP rfl c rfl) (aC (bZ (t:=2) xZ e c rfl rfl) ?_)))))))));obtain ⟨m,i,hm⟩:=aB hm
 refine aT (vs:=[zS a7 d.Body.length c8]) call196 rfl (aFH i e h) ?_
 rintro _ n ⟨rfl,o⟩
 refine aC (uT rfl) (aM ?_)
 rcases aI hm with ⟨g,hm⟩|⟨g,hm⟩
 ·exact aE
 ·refine aP g rfl (aU (aD (aH (aJ (aG (v:=i64 0) (aM (aQ [] (fun f w=>aJn=some R/\aF G K (L) w) aE ?_)))))));obtain ⟨p,j,ho⟩:=aB hm
  exact bW [0,1] j (fun k f w=>f 6=i64 k/\aF G K (L) w) aE aE
theorem aML {a:(List Definition)} {R:Bool} (hm:yG a=some R) (t:aF G K (L) w) (u:aW K a1 c2 a):
  Calls prog 116 ([zS a1 a.length c2]:List Value).toArray w (cL fun v w'=>v=zB R/\aF G K (L) w'):=by
 refine aN func116 rfl (by kernel_rfl) (by show (1:Nat)<=70;decide) ?_;unfold yG at hm
 refine aJ (aG (v:=zB false) (aM (aH (aH (aZ [0] (fun f w=>∃ c,rN a c=some R/\f 15=zB c/\aF G K (L) w) ?_ ?_)))))
 ·rintro f x ⟨c,hm,k,y⟩
  unfold rN at hm
  refine aD ?_
  rcases aI hm with ⟨g,hm⟩|⟨g,hm⟩
  ·exact aE
  ·refine aP g k (aU (aD (aH (aJ (aG (v:=i64 0) (aM (aQ [0] (fun f w=>wA a=some R/\aF G K (L) w) ?_ ?_)))))))
   ·rintro f z ⟨hm,J⟩
    unfold wA at hm
    refine aD (aH (aJ (aG (v:=i64 0) (aM (aQ [] (fun f w=>aJo=some R/\aF G K (L) w) aE ?_)))));obtain ⟨V,l,ho⟩:=aB hm
    exact bW [0] l (fun m f w=>f 5=i64 m/\aF G K (L) w) aE aE
   obtain ⟨Z,n,ho⟩:=aB hm
   refine bW [0] n (fun b f w=>f 3=i64 b/\aF G K (L) w) aE ?_
   ·rintro b d f a0 hm hr ⟨h,a2⟩
    unfold wC at hm
    refine aH (aJ (bR h (aO (v:=zS a1 a.length c2) (aC (aX (len:=a.length) qI rfl) (aC (eC rfl rfl) (aM ?_))))))
    rcases aI hm with ⟨i,hm⟩|⟨i,hm⟩
    ·refine aS i rfl (aU (aD (aH (aQ [0,3] (fun f w=>aBi b=some d/\aF G K (L) w) ?_ ?_))))
     ·rintro f a3 ⟨hm,o⟩
      unfold aBi at hm
      exact aD (bK (bR h (aC (nI rfl rfl) (aG (v:=i64 (wr (b+1))) (aM ⟨_,(zI hm).symm,gF,rfl,o⟩)))))
     refine aH (aH (aZ [0,3] (fun f w=>∃ e,wB a b e=some d/\f 37=zB e/\aF G K (L) w) ?_ ?_))
     ·rintro f a4 ⟨e,hm,p,a5⟩
      unfold wB at hm
      refine aD ?_
      rcases aI hm with ⟨j,hm⟩|⟨j,hm⟩
      ·exact aE
      ·refine aP j p (aU (aD (aJ (aG (v:=i64 0) (aM (aQ [0,3] (fun f w=>aBj b=some d/\aF G K (L) w) aE ?_))))));obtain ⟨a6,q,ho⟩:=aB hm
       exact bW [0,3] q (fun r f w=>f 4=i64 r/\aF G K (L) w) aE aE
     exact aE
    ·exact aE
 exact aE
theorem aMM {a:(List Int)} {R:Bool} (hm:aDZ a=some R) (d:aF G K (L) w) (e:aW K a1 c2 a):
  Calls prog 160 ([zS a1 a.length c2]:List Value).toArray w (cL fun v w'=>v=zB R/\aF G K (L) w'):=by
 refine aN func160 rfl (by kernel_rfl) (by show (1:Nat)<=16;decide) ?_;unfold aDZ at hm
 refine aJ (aG (v:=zB false) (aM (aH (aJ (aG (v:=i64 0) (aM (aQ [] (fun f w=>aJp=some R/\aF G K (L) w) aE ?_)))))));obtain ⟨g,b,ho⟩:=aB hm
 exact bW [0] b (fun c f w=>f 3=i64 c/\aF G K (L) w) aE aE
theorem aGC {a:bM} {e:Nat} {R:Bool} (hm:oO a=some R) (hs:aF G K (L) w) (d:eR K a1 e [zS a4 a.Definitions.length c5,zS a7 a.Components.length c8,zS a10 a.Meetings.length c11,zS a13 a.Allowed.length c14,zS a16 a.Hidden.length c17]) (h6:aW K a4 c5 a.Definitions) (m:aW K a7 c8 a.Components) (a9:aW K a10 c11 a.Meetings) (b0:aW K a13 c14 a.Allowed) (b1:aW K a16 c17 a.Hidden):
  Calls prog 117 ([cE a1 e]:List Value).toArray w (cL fun v w'=>v=zB R/\aF G K (L) w'):=by
 refine aN func117 rfl (by kernel_rfl) (by show (1:Nat)<=64;decide) ?_;unfold oO at hm
 refine aJ (aG (v:=zB false) (aM (aH (aH (aZ [0] (fun f w=>∃ k,lC a k=some R/\f 18=zB k/\aF G K (L) w) ?_ ?_)))))
 ·rintro f b2 ⟨k,hm,y,b3⟩
  unfold lC at hm
  refine aD ?_
  rcases aI hm with ⟨n,hm⟩|⟨n,hm⟩
  ·exact aE
  ·refine aP n y (aU (aD (aH (aJ (aG (v:=i64 0) (aM (aQ [] (fun f w=>aCk=some R/\aF G K (L) w) aE ?_)))))));obtain ⟨b4,z,ho⟩:=aB hm
   refine bW [0] z (fun l f w=>f 3=i64 l/\aF G K (L) w) aE ?_
   ·rintro l J f b5 hm hr ⟨o,j⟩
    unfold lB at hm
    refine aH (aJ (bR o (aO (v:=cE a1 e) (aC (dO rfl d) (aC (cF (k':=e+1) aCT rfl d rfl) (aC (bZ (t:=1) aMl j d rfl rfl) (aC (aX (len:=a.Components.length) xN rfl) (aC (eC rfl rfl) (aM ?_)))))))))
    rcases aI hm with ⟨p,hm⟩|⟨p,hm⟩
    ·refine aS p rfl (aU (aD (aH (bJ (aJ (aO (v:=cE a1 e) (aC (dO rfl d) (aC (cF (k':=e+1) aCT rfl d rfl) (aC (bZ (t:=1) aMl j d rfl rfl) (bR o ?_))))))))));obtain ⟨c,q,hm⟩:=aB hm
     refine aC (cR xN rfl m rfl rfl rfl q) ?_;obtain ⟨b6,V,Z⟩:=aW.el (sz:=2) rfl m q
     obtain ⟨g,h,rfl,b7⟩:=Z
     refine aC (eD (t:=0) (vs:=[i64 c.Definition,zS g c.Values.length h]) aGd j V rfl rfl rfl) (eE (vs:=[i64 0,zS none 0 0]) zeroValue133 j rfl (fun r b8 a0=>(fA (i:=0) (ns:=[i64 c.Definition,zS g c.Values.length h]) (us:=[i64 c.Definition,zS g c.Values.length h]) sizeOf133 a0 rfl rfl rfl rfl rfl (kJ rfl) rfl rfl (fun a2 (b:aF G K (box r 133 [i64 c.Definition,zS g c.Values.length h]::L) a2)=>(aM (aH (aH (fZ (C:=fun w'=>aF G K (box r 133 [i64 c.Definition,zS g c.Values.length h]::L) w') Tryz_mixed (by kernel_rfl) (aF.mono b (eI.drew _)) (bE (fun _ b=>bH (t':=0) aMo rfl rfl) (bE (fun _ b=>dD gJ b (i:=0) rfl rfl rfl) (bE (fun _ b=>bC (v:=cE a1 e) rfl) (bE (fun _ b=>dO rfl d) (bE (fun _ b=>cF (k':=e+0) aGS rfl d rfl) (bE (fun _ b=>bZ (t:=0) aOw b d rfl rfl) (bE (fun _ b=>aX (len:=a.Definitions.length) qI rfl) (bE (fun _ b=>kR rfl rfl) ?_))))))))))))))))
     obtain ⟨a3,a5,hm⟩:=aB hm
     refine gA (vs:=[i64 c.Definition,i64 0,i64 (wr ((a.Definitions.length:Int) - 1))]) (v:=zB a3) call65 rfl (fun _ b=>(aJL a5 b)) (bE (fun _ b=>uT rfl) (uH (fun b9 c0=>(aD ?_))))
     rcases aI hm with ⟨u,hm⟩|⟨u,hm⟩
     ·exact aE
     ·exact aP u rfl (aU (aD (aH (aZ [0,3] (fun f w=>∃ x,nT l x=some J/\f 63=zB x/\aF G K (L) w) aE aE))))
    ·exact aE
 exact aE
theorem aIx {b:(List bB)} {R:Bool} (hm:sW b=some R) (hs:aF G K (L) w) (l:aW K a1 c2 b):
  Calls prog 118 ([zS a1 b.length c2]:List Value).toArray w (cL fun v w'=>v=zB R/\aF G K (L) w'):=by
 refine aN func118 rfl (by kernel_rfl) (by show (1:Nat)<=101;decide) ?_;unfold sW at hm
 refine aJ (aG (v:=zB false) (aM (aH (aJ (aO (v:=zS a1 b.length c2) (aC (aX (len:=b.length) vO rfl) (aC (R_gtr rfl rfl) (aM ?_))))))))
 rcases aI hm with ⟨m,hm⟩|⟨m,hm⟩
 ·exact aE
 ·refine aP m rfl (aU (aD (aH (aJ (aG (v:=i64 0) (aM (aQ [] (fun f w=>aEa=some R/\aF G K (L) w) aE ?_)))))));obtain ⟨a8,y,ho⟩:=aB hm
  refine bW [0] y (fun c f w=>f 3=i64 c/\aF G K (L) w) aE ?_
  ·rintro c e f a9 hm hr ⟨g,n⟩
   unfold kU at hm
   refine aH (aJ (bR g (aO (v:=zS a1 b.length c2) (aC (aX (len:=b.length) vO rfl) (aC (eC rfl rfl) (aM ?_))))))
   rcases aI hm with ⟨o,hm⟩|⟨o,hm⟩
   ·refine aS o rfl (aU (aD (aH (aQ [0,3] (fun f w=>rO c=some e/\aF G K (L) w) ?_ ?_))))
    ·rintro f b0 ⟨hm,z⟩
     unfold rO at hm
     exact aD (bK (bR g (aC (nI rfl rfl) (aG (v:=i64 (wr (c+1))) (aM ⟨_,(zI hm).symm,gF,rfl,z⟩)))))
    refine aJ (aO (v:=zS a1 b.length c2) (bR g ?_));obtain ⟨a,p,hm⟩:=aB hm
    refine aC (cR vO rfl l rfl rfl rfl p) ?_;obtain ⟨b1,J,V⟩:=aW.el (sz:=3) rfl l p
    cases V
    refine aC (eD (t:=0) (vs:=[str a.Left,str a.Right,str a.Result]) aKs n J rfl rfl rfl) (eE (vs:=[str ([]:aL),str ([]:aL),str ([]:aL)]) zeroValue135 n rfl (fun d b2 Z=>(fA (i:=0) (ns:=[str a.Left,str a.Right,str a.Result]) (us:=[str a.Left,str a.Right,str a.Result]) sizeOf135 Z rfl rfl rfl rfl rfl (kJ rfl) rfl rfl (fun a0 (b3:aF G K (box d 135 [str a.Left,str a.Right,str a.Result]::L) a0)=>(aM (aH (aH (aZ [0,3,4] (fun f w=>∃ h,hH b c a h=some e/\f 41=zB h/\aF G K (box d 135 [str a.Left,str a.Right,str a.Result]::L) w) ?_ ?_))))))))
    ·rintro f b4 ⟨h,hm,a2,b5⟩
     unfold hH at hm
     refine aD ?_
     rcases aI hm with ⟨q,hm⟩|⟨q,hm⟩
     ·exact aE
     ·refine aP q a2 (aU (aD (aH (aH (aZ [0,3,4] (fun f w=>∃ j,gZ b c a j=some e/\f 76=zB j/\aF G K (box d 135 [str a.Left,str a.Right,str a.Result]::L) w) ?_ ?_)))))
      ·rintro f b6 ⟨j,hm,a3,b7⟩
       unfold gZ at hm
       refine aD ?_
       rcases aI hm with ⟨r,hm⟩|⟨r,hm⟩
       ·exact aE
       ·refine aP r a3 (aU (aD (aJ (aG (v:=i64 0) (aM (aQ [0,3] (fun f w=>yH c=some e/\aF G K (L) w) aE ?_))))));obtain ⟨b8,a4,ho⟩:=aB hm
        refine bW [0,3,4] a4 (fun k f w=>f 5=i64 k/\aF G K (box d 135 [str a.Left,str a.Right,str a.Result]::L) w) aE ?_
        ·rintro k a5 f b9 hm hr ⟨a6,c0⟩
         unfold mY at hm
         refine aH (aJ (bR a6 (aO (v:=zS a1 b.length c2) (aC (aX (len:=b.length) vO rfl) (aC (eC rfl rfl) (aM ?_))))))
         rcases aI hm with ⟨u,hm⟩|⟨u,hm⟩
         ·exact aS u rfl (aU (aD (aH (bJ (aH (aZ [0,3,4,5] (fun f w=>∃ x,rP k x=some a5/\f 100=zB x/\aF G K (box d 135 [str a.Left,str a.Right,str a.Result]::L) w) aE aE))))))
         ·exact aE
      exact aE
    exact aE
   ·exact aE
theorem aJO {a:(List aL)} {R:Bool} (hm:wD a=some R) (d:aF G K (L) w) (e:aW K a1 c2 a):
  Calls prog 161 ([zS a1 a.length c2]:List Value).toArray w (cL fun v w'=>v=zB R/\aF G K (L) w'):=by
 refine aN func161 rfl (by kernel_rfl) (by show (1:Nat)<=16;decide) ?_;unfold wD at hm
 refine aJ (aG (v:=zB false) (aM (aH (aJ (aG (v:=i64 0) (aM (aQ [] (fun f w=>aFz=some R/\aF G K (L) w) aE ?_)))))));obtain ⟨g,b,ho⟩:=aB hm
 exact bW [0] b (fun c f w=>f 3=i64 c/\aF G K (L) w) aE aE
theorem aLD {a:(List aL)} {R:Bool} (hm:yI a=some R) (h:aF G K (L) w) (i:aW K a1 c2 a):
  Calls prog 119 ([zS a1 a.length c2]:List Value).toArray w (cL fun v w'=>v=zB R/\aF G K (L) w'):=by
 refine aN func119 rfl (by kernel_rfl) (by show (1:Nat)<=28;decide) ?_;unfold yI at hm
 refine aJ (aG (v:=zB false) (aM (aH (aH (aZ [0] (fun f w=>∃ b,sY a b=some R/\f 11=zB b/\aF G K (L) w) ?_ ?_)))))
 ·rintro f j ⟨b,hm,d,k⟩
  unfold sY at hm
  refine aD ?_
  rcases aI hm with ⟨c,hm⟩|⟨c,hm⟩
  ·exact aE
  ·refine aP c d (aU (aD (aH (aJ (aG (v:=i64 1) (aM (aQ [] (fun f w=>aHL=some R/\aF G K (L) w) aE ?_)))))));obtain ⟨l,e,ho⟩:=aB hm
   exact bW [0] e (fun g f w=>f 3=i64 g/\aF G K (L) w) aE aE
 exact aE
theorem aLE {a:bM} {b:Nat} {R:Int} (hm:aET a=some R) (c:aF G K (L) w) (d:eR K a1 b [zS a4 a.Definitions.length c5,zS a7 a.Components.length c8,zS a10 a.Meetings.length c11,zS a13 a.Allowed.length c14,zS a16 a.Hidden.length c17]) (e:aW K a4 c5 a.Definitions) (g:aW K a7 c8 a.Components) (h:aW K a10 c11 a.Meetings) (i:aW K a13 c14 a.Allowed) (j:aW K a16 c17 a.Hidden):
  Calls prog 75 ([cE a1 b]:List Value).toArray w (cL fun v w'=>v=i64 R/\aF G K (L) w'):=by
 exact aE
theorem aJP {a:bM} {b:Nat} {R:Bool} (hm:aJq a=some R) (c:aF G K (L) w) (d:eR K a1 b [zS a4 a.Definitions.length c5,zS a7 a.Components.length c8,zS a10 a.Meetings.length c11,zS a13 a.Allowed.length c14,zS a16 a.Hidden.length c17]) (e:aW K a4 c5 a.Definitions) (g:aW K a7 c8 a.Components) (h:aW K a10 c11 a.Meetings) (i:aW K a13 c14 a.Allowed) (j:aW K a16 c17 a.Hidden):
  Calls prog 34 ([cE a1 b]:List Value).toArray w (cL fun v w'=>v=zB R/\aF G K (L) w'):=by
 exact aE
theorem aFJ {a R:Int} (hm:aEU a=some R) (e:aF G K (L) w):
  Calls prog 239 ([i64 a]:List Value).toArray w (cL fun v w'=>v=i64 R/\aF G K (L) w'):=by
 refine aN func239 rfl (by kernel_rfl) (by show (1:Nat)<=13;decide) ?_;unfold aEU at hm
 refine aJ (aG (v:=i64 0) (aM (aH (aJ (aO (v:=i64 a) (aM (bJ (aJ (aC (dN rfl rfl) (aG (v:=zB (a == 8)) (aM ?_)))))))))))
 rcases aI hm with ⟨b,hm⟩|⟨b,hm⟩
 ·exact aE
 ·refine aP b rfl (aJ (aC (dN rfl rfl) (aG (v:=zB (a == 7)) (aM ?_))))
  rcases aI hm with ⟨c,hm⟩|⟨c,hm⟩
  ·exact aE
  ·exact aP c rfl (gI [3] (fun f w=>∃ d,aDD a d=some R/\f 8=zB d/\aF G K (L) w) aE aE)
theorem aHT  {R:(List aL)} (hm:aJr=some R) (d:aF G K (L) w):
  Calls prog 240 ([]:List Value).toArray w (cL fun v w'=>∃ b c,v=zS b R.length c/\aF G K (aV 9 K b c R::L) w'):=by
 refine aN func240 rfl (by kernel_rfl) (by show (0:Nat)<=2;decide) ?_;unfold aJr at hm
 refine aJ (aG (v:=zS none 0 0) (aM (aJ (dK (Kt:=K) (xs:=([([43]:aL),([45]:aL),([42]:aL),([61]:aL),([35]:aL),([60]:aL),([60,61]:aL),([38]:aL),([124]:aL)]:List aL)) (cs:=[str ([43]:aL),str ([45]:aL),str ([42]:aL),str ([61]:aL),str ([35]:aL),str ([60]:aL),str ([60,61]:aL),str ([38]:aL),str ([124]:aL)]) (vs:=[(0,str ([43]:aL)),(1,str ([45]:aL)),(2,str ([42]:aL)),(3,str ([61]:aL)),(4,str ([35]:aL)),(5,str ([60]:aL)),(6,str ([60,61]:aL)),(7,str ([38]:aL)),(8,str ([124]:aL))]) cT qF rfl rfl d rfl (by kernel_rfl) rfl rfl rfl ⟨rfl,rfl,rfl,rfl,rfl,rfl,rfl,rfl,rfl,trivial⟩ (fun a e (g:aF G K (aV 9 K a 9 ([([43]:aL),([45]:aL),([42]:aL),([61]:aL),([35]:aL),([60]:aL),([60,61]:aL),([38]:aL),([124]:aL)]:List aL)::L) e)=>(aG (v:=zS a ([([43]:aL),([45]:aL),([42]:aL),([61]:aL),([35]:aL),([60]:aL),([60,61]:aL),([38]:aL),([124]:aL)]:List aL).length 9) (aM ?_)))))))
 obtain rfl:=zI hm
 exact aAP (xU results240 rfl ⟨a,9,rfl,g⟩)
theorem aGD {e:(List aR)} {R:aL} (hm:vA e=some R) (hs:aF G K (L) w) (h3:aW K a1 c2 e):
  Calls prog 199 ([zS a1 e.length c2]:List Value).toArray w (cL fun v w'=>v=str R/\aF G K (L) w'):=by
 refine aN func199 rfl (by kernel_rfl) (by show (1:Nat)<=137;decide) ?_;unfold vA at hm
 refine aJ (aG (v:=str ([]:aL)) (aM (aJ (dK (Kt:=K) (xs:=([]:List aL)) (cs:=[]) (vs:=[]) cT qF rfl rfl hs rfl (by kernel_rfl) rfl rfl rfl trivial (fun a4 w5 (i1:aF G K (aV 9 K a4 0 ([]:List aL)::L) w5)=>(aG (v:=zS a4 ([]:List aL).length 0) (aM (aJ (dK (Kt:=K) (xs:=([]:List Int)) (cs:=[]) (vs:=[]) dR xY rfl rfl i1 rfl (by kernel_rfl) rfl rfl rfl trivial (fun a7 w8 (q1:aF G K (aV 2 K a7 0 ([]:List Int)::aV 9 K a4 0 ([]:List aL)::L) w8)=>(aG (v:=zS a7 ([]:List Int).length 0) (aM (aH (aJ (aO (v:=zS a1 e.length c2) (aC (aX (len:=e.length) nP rfl) (aC (kR rfl rfl) (aG (v:=i64 (wr ((e.length:Int) - 1))) (aM (aQ [] (fun f w=>∃ c7 e6 e7,aJs c7=some R/\f 3=zS e6 c7.length e7/\aF G K (aV 9 K e6 e7 c7::L) w) aE ?_))))))))))))))))))))
 obtain ⟨q2,i3,ho⟩:=aB hm
 refine aBM [0] i3 (fun c b p f w=>∃ j k d g,f 3=zS j c.length k/\f 4=zS d b.length g/\f 5=i64 p/\aF G K (aV 2 K d g b::aV 9 K j k c::L) w) aE ?_
 ·rintro c b p a5 f q3 hm hr ⟨j,k,d,g,o,a6,c8,e8⟩
  unfold nU at hm
  refine aH (aJ (bR c8 (aC (aOl rfl rfl) (aM ?_))))
  rcases aI hm with ⟨e9,hm⟩|⟨e9,hm⟩
  ·refine aS e9 rfl (aU (aD (aH (bJ (aJ (aO (v:=zS a1 e.length c2) (bR c8 ?_)))))));obtain ⟨a,f0,hm⟩:=aB hm
   refine aC (cR nP rfl h3 rfl rfl rfl f0) ?_;obtain ⟨q4,i4,i5⟩:=aW.el (sz:=2) rfl h3 f0
   cases i5
   refine aC (eD (t:=0) (vs:=[i64 a.Kind,i64 a.Value]) aIm e8 i4 rfl rfl rfl) (eE (vs:=[i64 0,i64 0]) zeroValue218 e8 rfl (fun l q5 i6=>(fA (i:=0) (ns:=[i64 a.Kind,i64 a.Value]) (us:=[i64 a.Kind,i64 a.Value]) sizeOf218 i6 rfl rfl rfl rfl rfl (kJ rfl) rfl rfl (fun i7 (m:aF G K (box l 218 [i64 a.Kind,i64 a.Value]::aV 2 K d g b::aV 9 K j k c::L) i7)=>(aM (aJ (bR o (aC (aX (len:=c.length) cT rfl) (aC (kR rfl rfl) (aG (v:=i64 (wr ((c.length:Int) - 1))) (aM (aJ (aC (bH (t':=0) aGc rfl rfl) (aC (dD gJ m (i:=0) rfl rfl rfl) (aM (aQ [0,5] (fun f w=>∃ a8 a9 b0 b1 b2 b3,jH p a8 a9=some a5/\f 3=zS b0 a8.length b1/\f 4=zS b2 a9.length b3/\aF G K (aV 2 K b2 b3 a9::aV 9 K b0 b1 a8::L) w) ?_ ?_))))))))))))))))
   ·rintro f q6 ⟨a8,a9,b0,b1,b2,b3,hm,i8,i9,j0⟩
    unfold jH at hm
    exact eL (aD (bK (bR c8 (aC (kR rfl rfl) (aG (v:=i64 (wr (p - 1))) (aM ⟨_,(zI hm).symm,gF,b0,b1,b2,b3,i8,i9,rfl,j0⟩))))))
   refine aJ (aC (dN rfl rfl) (aG (v:=zB (a.Kind == 0)) (aM ?_)))
   rcases aI hm with ⟨c9,hm⟩|⟨c9,hm⟩
   ·refine aS c9 rfl (aJ (bR o (aC (bH (t':=1) aBQ rfl rfl) (aC (dD gJ m (i:=0) rfl rfl rfl) ?_))));obtain ⟨b4,j1,hm⟩:=aB hm
    refine aT (vs:=[i64 a.Value]) call73 rfl (kT j1 m) ?_
    rintro _ q7 ⟨rfl,j2⟩
    refine dK (Kt:=K) (xs:=([b4]:List aL)) (cs:=[str b4]) (vs:=[(0,str b4)]) cT qF rfl rfl j2 rfl (by kernel_rfl) rfl rfl rfl ⟨rfl,trivial⟩ (fun j3 j4 (j5:aF G K (aV 9 K j3 1 ([b4]:List aL)::box l 218 [i64 a.Kind,i64 a.Value]::aV 2 K d g b::aV 9 K j k c::L) j4)=>?_);obtain ⟨q,j6,hm⟩:=aB hm
    refine jQ (i:=2) cT underlying22 qF rfl rfl j5 rfl (zR _) (zR _) j6 rfl rfl rfl rfl (fun _ h=>h) (fun r u j7 (j8:aF G K (box l 218 [i64 a.Kind,i64 a.Value]::aV 2 K d g b::aV 9 K r u q::L) j7)=>(aG (v:=zS r q.length u) (aM (bK (bR a6 (dK (Kt:=K) (xs:=([7]:List Int)) (cs:=[i64 7]) (vs:=[(0,i64 7)]) dR xY rfl rfl j8 rfl (by kernel_rfl) rfl rfl rfl ⟨rfl,trivial⟩ (fun j9 k0 (k1:aF G K (aV 2 K j9 1 ([7]:List Int)::box l 218 [i64 a.Kind,i64 a.Value]::aV 2 K d g b::aV 9 K r u q::L) k0)=>?_)))))))
    obtain ⟨d0,k2,hm⟩:=aB hm
    exact jQ (i:=1) dR underlying104 xY rfl rfl k1 rfl (zR _) (zR _) k2 rfl rfl rfl rfl (fun _ h=>h) (fun d1 d2 k3 (k4:aF G K (box l 218 [i64 a.Kind,i64 a.Value]::aV 2 K d1 d2 d0::aV 9 K r u q::L) k3)=>(aG (v:=zS d1 d0.length d2) (bP (eL (aD ⟨gF,q,d0,r,u,d1,d2,hm,rfl,rfl,(aF.arr 1 [] k4 rfl)⟩)))))
   ·refine aP c9 rfl (aJ (aC (dN rfl rfl) (aG (v:=zB (a.Kind == 1)) (aM ?_))))
    rcases aI hm with ⟨d3,hm⟩|⟨d3,hm⟩
    ·refine aS d3 rfl (aJ (bR o (aC (bH (t':=1) aBQ rfl rfl) (aC (dD gJ m (i:=0) rfl rfl rfl) ?_))));obtain ⟨q8,k5,hm⟩:=aB hm
     refine aT (vs:=[i64 a.Value]) call73 rfl (kT k5 m) ?_
     rintro _ q9 ⟨rfl,k6⟩
     obtain ⟨b5,k7,hm⟩:=aB hm
     refine aC (dX rfl rfl k7) (dK (Kt:=K) (xs:=([b5]:List aL)) (cs:=[str b5]) (vs:=[(0,str b5)]) cT qF rfl rfl k6 rfl (by kernel_rfl) rfl rfl rfl ⟨rfl,trivial⟩ (fun k8 k9 (l0:aF G K (aV 9 K k8 1 ([b5]:List aL)::box l 218 [i64 a.Kind,i64 a.Value]::aV 2 K d g b::aV 9 K j k c::L) k9)=>?_));obtain ⟨x,l1,hm⟩:=aB hm
     refine jQ (i:=2) cT underlying22 qF rfl rfl l0 rfl (zR _) (zR _) l1 rfl rfl rfl rfl (fun _ h=>h) (fun y z l2 (l3:aF G K (box l 218 [i64 a.Kind,i64 a.Value]::aV 2 K d g b::aV 9 K y z x::L) l2)=>(aG (v:=zS y x.length z) (aM (bK (bR a6 (dK (Kt:=K) (xs:=([7]:List Int)) (cs:=[i64 7]) (vs:=[(0,i64 7)]) dR xY rfl rfl l3 rfl (by kernel_rfl) rfl rfl rfl ⟨rfl,trivial⟩ (fun l4 l5 (l6:aF G K (aV 2 K l4 1 ([7]:List Int)::box l 218 [i64 a.Kind,i64 a.Value]::aV 2 K d g b::aV 9 K y z x::L) l5)=>?_)))))))
     obtain ⟨d4,l7,hm⟩:=aB hm
     exact jQ (i:=1) dR underlying104 xY rfl rfl l6 rfl (zR _) (zR _) l7 rfl rfl rfl rfl (fun _ h=>h) (fun d5 d6 l8 (l9:aF G K (box l 218 [i64 a.Kind,i64 a.Value]::aV 2 K d5 d6 d4::aV 9 K y z x::L) l8)=>(aG (v:=zS d5 d4.length d6) (bP (eL (aD ⟨gF,x,d4,y,z,d5,d6,hm,rfl,rfl,(aF.arr 1 [] l9 rfl)⟩)))))
    ·refine aP d3 rfl (aJ (aC (dN rfl rfl) (aG (v:=zB (a.Kind == 3)) (aM ?_))))
     rcases aI hm with ⟨d7,hm⟩|⟨d7,hm⟩
     ·refine aS d7 rfl (aJ (bR o (aO (v:=i64 (wr ((c.length:Int) - 1))) ?_)));obtain ⟨m0,d8,hm⟩:=aB hm
      have m1:=eN m (i:=2) rfl d8
      refine aC (jE cT rfl m1 rfl rfl rfl d8) (aC (oJ (t:=0) oK m (i:=2) rfl d8 rfl rfl rfl) (aG (v:=str m0) (aM (gI [0,3,4,5,7] (fun f w=>∃ d9,wE c b p d9=some a5/\f 8=str d9/\aF G K (aV 2 K d g b::aV 9 K j k c::L) w) ?_ ?_))))
      ·rintro f r0 ⟨d9,hm,m2,f1⟩
       unfold wE at hm
       refine aJ (bR o (aO (v:=i64 (wr ((c.length:Int) - 1))) ?_));obtain ⟨m3,f2,hm⟩:=aB hm
       have m4:=pN f1 (i:=1) rfl
       obtain ⟨m5,m6,f3⟩:=Cut.ex 1 j k 0
       refine aC (uI cT m4 f3 rfl rfl rfl f2) (bR m2 ?_);obtain ⟨J,m7,hm⟩:=aB hm
       refine aC (dX rfl rfl m7) (dK (Kt:=K) (xs:=([J]:List aL)) (cs:=[str J]) (vs:=[(0,str J)]) cT qF rfl rfl f1 rfl (by kernel_rfl) rfl rfl rfl ⟨rfl,trivial⟩ (fun f4 f5 (m8:aF G K (aV 9 K f4 1 ([J]:List aL)::aV 2 K d g b::aV 9 K j k c::L) f5)=>?_))
       have m9:aF G K (aV 9 K f4 1 ([J]:List aL)::aV 2 K d g b::aV 9 K m5 m6 m3::L) f5:=aF.cutP m8 (i:=2) rfl f2 f3
       obtain ⟨b6,n0,hm⟩:=aB hm
       refine jQ (i:=1) cT underlying22 qF rfl rfl m9 rfl (zR _) (zR _) n0 rfl rfl rfl rfl (fun _ h=>h) (fun b7 b8 n1 (f6:aF G K (aV 2 K d g b::aV 9 K b7 b8 b6::L) n1)=>(aG (v:=zS b7 b6.length b8) (aM (bK (bR a6 (aO (v:=i64 (wr ((c.length:Int) - 1))) ?_))))));obtain ⟨n2,f7,hm⟩:=aB hm
       have n3:=pN f6 (i:=0) rfl
       obtain ⟨n4,n5,f8⟩:=Cut.ex 1 d g 0
       refine aC (uI dR n3 f8 rfl rfl rfl f7) (dK (Kt:=K) (xs:=([6]:List Int)) (cs:=[i64 6]) (vs:=[(0,i64 6)]) dR xY rfl rfl f6 rfl (by kernel_rfl) rfl rfl rfl ⟨rfl,trivial⟩ (fun f9 g0 (n6:aF G K (aV 2 K f9 1 ([6]:List Int)::aV 2 K d g b::aV 9 K b7 b8 b6::L) g0)=>?_))
       have r1:aF G K (aV 2 K f9 1 ([6]:List Int)::aV 2 K n4 n5 n2::aV 9 K b7 b8 b6::L) g0:=aF.cutP n6 (i:=1) rfl f7 f8
       exact aE
      exact aE
     ·refine aP d7 rfl (aJ (aC (dN rfl rfl) (aG (v:=zB (a.Kind == 2)) (aM ?_))))
      rcases aI hm with ⟨g1,hm⟩|⟨g1,hm⟩
      ·refine aS g1 rfl (aJ (aC (bH (t':=1) aBQ rfl rfl) (aC (dD gJ m (i:=0) rfl rfl rfl) ?_)));obtain ⟨n,n7,hm⟩:=aB hm
       refine aT (vs:=[i64 a.Value]) call239 rfl (aFJ n7 m) ?_
       rintro _ r2 ⟨rfl,e0⟩
       refine aG (v:=i64 n) (aM (aJ (bR o (aO (v:=i64 (wr ((c.length:Int) - 1))) ?_))));obtain ⟨n8,e1,hm⟩:=aB hm
       have g2:=eN e0 (i:=2) rfl e1
       refine aC (jE cT rfl g2 rfl rfl rfl e1) (aC (oJ (t:=0) oK e0 (i:=2) rfl e1 rfl rfl rfl) (aG (v:=str n8) (aM (aJ (bR o (aO (v:=i64 (wr ((c.length:Int) - 1))) (aC (kR rfl rfl) ?_)))))));obtain ⟨g3,g4,hm⟩:=aB hm
       refine aC (jE cT rfl g2 rfl rfl rfl g4) (aC (oJ (t:=0) oK e0 (i:=2) rfl g4 rfl rfl rfl) (aG (v:=str g3) (aM (gI [0,3,4,5,6,7,9,11] (fun f w=>∃ b9,wG c b p a n g3 b9=some a5/\f 10=str b9/\aF G K (box l 218 [i64 a.Kind,i64 a.Value]::aV 2 K d g b::aV 9 K j k c::L) w) ?_ ?_))))
       ·rintro f r3 ⟨b9,hm,n9,r4⟩
        unfold wG at hm
        refine gI [0,3,4,5,6,7,9,10] (fun f w=>∃ e2,wF c b p a n b9 e2=some a5/\f 11=str e2/\aF G K (box l 218 [i64 a.Kind,i64 a.Value]::aV 2 K d g b::aV 9 K j k c::L) w) ?_ ?_
        ·rintro f r5 ⟨e2,hm,o0,o1⟩
         unfold wF at hm
         refine aH ?_;obtain ⟨c0,g5,o2,g6,o3⟩:=aF.lendBp o1 .head
         refine mO (C:=fun w'=>∃ L',aF G c0 L' w') [(0,0),(1,0),(2,0),(3,0),(4,0),(6,0),(7,0),(11,0),(5,1),(8,0),(9,1),(10,0),(12,0),(13,1),(14,1),(15,0)] Tryz_mixed (by kernel_rfl) (fun _ hg=>⟨_,aF.mono g6 hg⟩) (fun r6 o4=>?_)
         have c1:=aF.mono g6 o4
         refine dL rfl (fun _ _=>bC o) (dL rfl (fun _ _=>bC (v:=i64 (wr ((c.length:Int) - 1))) rfl) (dL rfl (fun _ _=>kR rfl rfl) ?_));obtain ⟨o5,g7,hm⟩:=aB hm
         have o6:=pN c1 (i:=1) rfl
         obtain ⟨o7,o8,g8⟩:=Cut.ex 1 j k 0
         refine dL rfl (fun _ _=>uI cT o6 g8 rfl rfl rfl g7) (dL rfl (fun _ _=>bC n9) (dL rfl (fun _ _=>bH (t':=1) aBQ rfl rfl) (dL rfl (fun _ ⟨_,c1⟩=>bZ (t:=1) gJ c1 o2 rfl rfl) (dL rfl (fun _ _=>bC o0) (vM rfl ?_)))));obtain ⟨V,o9,hm⟩:=aB hm
         refine aT (vs:=[]) call240 rfl (aHT o9 c1) ?_
         rintro _ r7 ⟨Z,a0,rfl,a2⟩
         refine bP (aD ⟨⟨_,a2⟩,?_⟩)
         obtain ⟨r8,e3,hm⟩:=aB hm
         have p0:=eN a2 (i:=0) rfl e3
         refine dL rfl (fun _ _=>jE cT rfl p0 rfl rfl rfl e3) (vM rfl (aC (oJ (t:=0) oK a2 (i:=0) rfl e3 rfl rfl rfl) (bP (aD ⟨⟨_,a2⟩,?_⟩))))
         obtain ⟨r9,p1,hm⟩:=aB hm
         refine dL rfl (fun _ _=>dX rfl rfl p1) ?_;obtain ⟨a3,p2,hm⟩:=aB hm
         refine dL rfl (fun _ _=>dX rfl rfl p2) (vM rfl (dK (Kt:=K) (xs:=([a3]:List aL)) (cs:=[str a3]) (vs:=[(0,str a3)]) cT qF rfl rfl a2 rfl (by kernel_rfl) rfl rfl rfl ⟨rfl,trivial⟩ (fun g9 h0 (h1:aF G c0 (aV 9 K g9 1 ([a3]:List aL)::aV 9 K Z a0 V::aV 2 K d g b::aV 9 K j k c::L) h0)=>(bP (aD ⟨⟨_,h1⟩,?_⟩)))))
         refine vM rfl ?_
         have p3:aF G c0 (aV 9 K g9 1 ([a3]:List aL)::aV 9 K Z a0 V::aV 2 K d g b::aV 9 K o7 o8 o5::L) h0:=aF.cutP h1 (i:=3) rfl g7 g8
         obtain ⟨c3,p4,hm⟩:=aB hm
         refine jQ (i:=2) cT underlying22 qF rfl rfl p3 rfl g5 g5 p4 rfl rfl rfl rfl (fun _ h=>h) (fun c4 c5 p5 (h2:aF G c0 (aV 9 K Z a0 V::aV 2 K d g b::aV 9 K c4 c5 c3::L) p5)=>(bP (aD ⟨⟨_,h2⟩,?_⟩)))
         refine dL rfl (fun _ _=>dJ (v:=zS c4 c3.length c5) rfl) (WE_nil ?_)
         have h4:=o3 _ _ h2
         refine aD (bK (bR a6 (aO (v:=i64 (wr ((c.length:Int) - 1))) (aC (kR rfl rfl) ?_))));obtain ⟨p6,h5,hm⟩:=aB hm
         have p7:=pN h4 (i:=2) rfl
         obtain ⟨p8,p9,h6⟩:=Cut.ex 1 d g 0
         refine aC (uI dR p7 h6 rfl rfl rfl h5) (aO (v:=i64 n) (dK (Kt:=K) (xs:=([n]:List Int)) (cs:=[i64 n]) (vs:=[(0,i64 n)]) dR xY rfl rfl h4 rfl (by kernel_rfl) rfl rfl rfl ⟨rfl,trivial⟩ (fun h7 h8 (q0:aF G K (aV 2 K h7 1 ([n]:List Int)::box l 218 [i64 a.Kind,i64 a.Value]::aV 9 K Z a0 V::aV 2 K d g b::aV 9 K c4 c5 c3::L) h8)=>?_)))
         have s0:aF G K (aV 2 K h7 1 ([n]:List Int)::box l 218 [i64 a.Kind,i64 a.Value]::aV 9 K Z a0 V::aV 2 K p8 p9 p6::aV 9 K c4 c5 c3::L) h8:=aF.cutP q0 (i:=3) rfl h5 h6
         exact aE
        exact aE
       exact aE
      ·exact aE
  ·exact aE
theorem aNV {a:(List (List aR))} {by_ R:aL} (hm:aGp a by_=some R) (k:aF G K (L) w) (l:aW K a1 c2 a):
  Calls prog 238 ([zS a1 a.length c2,str by_]:List Value).toArray w (cL fun v w'=>v=str R/\aF G K (L) w'):=by
 refine aN func238 rfl (by kernel_rfl) (by show (2:Nat)<=26;decide) ?_;unfold aGp at hm
 refine aJ (aG (v:=str ([]:aL)) (aM (aJ (aG (v:=str ([]:aL)) (aM (aH (aJ (aG (v:=i64 0) (aM (aQ [] (fun f w=>∃ c,aLd c=some R/\f 5=str c/\aF G K (L) w) aE ?_))))))))));obtain ⟨m,h,ho⟩:=aB hm
 refine cD [0,1] h (fun d b f w=>f 5=str d/\f 6=i64 b/\aF G K (L) w) aE ?_
 ·rintro d b i f n hm hr ⟨o,j,p⟩
  unfold aAp at hm
  refine aH (aJ (bR j (aO (v:=zS a1 a.length c2) (aC (aX (len:=a.length) mP rfl) (aC (eC rfl rfl) (aM ?_))))))
  rcases aI hm with ⟨e,hm⟩|⟨e,hm⟩
  ·exact aS e rfl (aU (aD (aH (bJ (gI [0,1,6] (fun f w=>∃ g,aAo a b g=some i/\f 5=str g/\aF G K (L) w) aE aE)))))
  ·exact aE
theorem aCz {a:(List (List aR))} {R:aL} (hm:aEb a=some R) (b:aF G K (L) w) (c:aW K a1 c2 a):
  Calls prog 198 ([zS a1 a.length c2]:List Value).toArray w (cL fun v w'=>v=str R/\aF G K (L) w'):=by
 exact aE
end Gv
