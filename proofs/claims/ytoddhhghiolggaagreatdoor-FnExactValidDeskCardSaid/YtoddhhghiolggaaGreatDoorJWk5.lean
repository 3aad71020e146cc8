/- Walks, printed by program. -/
import Derived.Test.YtoddhhghiolggaaGreatDoorJWk3
set_option linter.all false
namespace Gv
open Gv.Hp renaming le_refl→zR
open Go.Value renaming slice→zS,bool→zB
open Option.some renaming inj→zI
open Go Go.Proofs Go.Proofs.Tryz
set_option maxRecDepth 20000
set_option maxHeartbeats 40000000
variable {G:kE} {K:Hp} {L:List eT} {w:World} {a1 a4 a7 a10 a13 a16 a19 a22 a25:Option Addr} {c2 c5 c8 c11 c14 c17 c20 c23 c26:Nat}
theorem aGg {e:(List aR)} {R:aN} (hm:uS e=some R) (hs:aG G K (L) w) (h3:aY K a1 c2 e):
  Calls prog 211 ([zS a1 e.length c2]:List Value).toArray w (cK fun v w'=>v=str R/\aG G K (L) w'):=by
 refine aM func211 rfl (by kernel_rfl) (by show (1:Nat)<=137;decide) ?_;unfold uS at hm
 refine aK (aH (v:=str ([]:aN)) (aL (aK (dK (Kt:=K) (xs:=([]:List aN)) (cs:=[]) (vs:=[]) cX qA rfl rfl hs rfl (by kernel_rfl) rfl rfl rfl trivial (fun a4 w5 (i1:aG G K (aT 9 K a4 0 ([]:List aN)::L) w5)=>(aH (v:=zS a4 ([]:List aN).length 0) (aL (aK (dK (Kt:=K) (xs:=([]:List Int)) (cs:=[]) (vs:=[]) fI aAa rfl rfl i1 rfl (by kernel_rfl) rfl rfl rfl trivial (fun a7 w8 (q1:aG G K (aT 2 K a7 0 ([]:List Int)::aT 9 K a4 0 ([]:List aN)::L) w8)=>(aH (v:=zS a7 ([]:List Int).length 0) (aL (aI (aK (aO (v:=zS a1 e.length c2) (aC (aV (len:=e.length) nL rfl) (aC (jI rfl rfl) (aH (v:=i64 (wr ((e.length:Int) - 1))) (aL (aQ [] (fun f w=>∃ c7 e6 e7,aJc c7=some R/\f 3=zS e6 c7.length e7/\aG G K (aT 9 K e6 e7 c7::L) w) aE ?_))))))))))))))))))))
 obtain ⟨q2,i3,ho⟩:=aB hm
 refine aBy [0] i3 (fun c b p f w=>∃ j k d g,f 3=zS j c.length k/\f 4=zS d b.length g/\f 5=i64 p/\aG G K (aT 2 K d g b::aT 9 K j k c::L) w) aE ?_
 ·rintro c b p a5 f q3 hm hr ⟨j,k,d,g,o,a6,c8,e8⟩
  unfold nR at hm
  refine aI (aK (bO c8 (aC (aNY rfl rfl) (aL ?_))))
  rcases aJ hm with ⟨e9,hm⟩|⟨e9,hm⟩
  ·refine aS e9 rfl (aU (aF (aI (bK (aK (aO (v:=zS a1 e.length c2) (bO c8 ?_)))))));obtain ⟨a,f0,hm⟩:=aB hm
   refine aC (cL nL rfl h3 rfl rfl rfl f0) ?_;obtain ⟨q4,i4,i5⟩:=aY.el (sz:=2) rfl h3 f0
   cases i5
   refine aC (dU (t:=0) (vs:=[i64 a.Kind,i64 a.Value]) aHT e8 i4 rfl rfl rfl) (eA (vs:=[i64 0,i64 0]) zeroValue202 e8 rfl (fun l q5 i6=>(eY (i:=0) (ns:=[i64 a.Kind,i64 a.Value]) (us:=[i64 a.Kind,i64 a.Value]) sizeOf202 i6 rfl rfl rfl rfl rfl (kI rfl) rfl rfl (fun i7 (m:aG G K (box l 202 [i64 a.Kind,i64 a.Value]::aT 2 K d g b::aT 9 K j k c::L) i7)=>(aL (aK (bO o (aC (aV (len:=c.length) cX rfl) (aC (jI rfl rfl) (aH (v:=i64 (wr ((c.length:Int) - 1))) (aL (aK (aC (bI (t':=0) aFE rfl rfl) (aC (dH iK m (i:=0) rfl rfl rfl) (aL (aQ [0,5] (fun f w=>∃ a8 a9 b0 b1 b2 b3,jE p a8 a9=some a5/\f 3=zS b0 a8.length b1/\f 4=zS b2 a9.length b3/\aG G K (aT 2 K b2 b3 a9::aT 9 K b0 b1 a8::L) w) ?_ ?_))))))))))))))))
   ·rintro f q6 ⟨a8,a9,b0,b1,b2,b3,hm,i8,i9,j0⟩
    unfold jE at hm
    exact eV (aF (bQ (bO c8 (aC (jI rfl rfl) (aH (v:=i64 (wr (p - 1))) (aL ⟨_,(zI hm).symm,gH,b0,b1,b2,b3,i8,i9,rfl,j0⟩))))))
   refine aK (aC (dS rfl rfl) (aH (v:=zB (a.Kind == 0)) (aL ?_)))
   rcases aJ hm with ⟨c9,hm⟩|⟨c9,hm⟩
   ·refine aS c9 rfl (aK (bO o (aC (bI (t':=1) aBD rfl rfl) (aC (dH iK m (i:=0) rfl rfl rfl) ?_))));obtain ⟨b4,j1,hm⟩:=aB hm
    refine aW (vs:=[i64 a.Value]) call81 rfl (zO j1 m) ?_
    rintro _ q7 ⟨rfl,j2⟩
    refine dK (Kt:=K) (xs:=([b4]:List aN)) (cs:=[str b4]) (vs:=[(0,str b4)]) cX qA rfl rfl j2 rfl (by kernel_rfl) rfl rfl rfl ⟨rfl,trivial⟩ (fun j3 j4 (j5:aG G K (aT 9 K j3 1 ([b4]:List aN)::box l 202 [i64 a.Kind,i64 a.Value]::aT 2 K d g b::aT 9 K j k c::L) j4)=>?_);obtain ⟨q,j6,hm⟩:=aB hm
    refine jO (i:=2) cX underlying37 qA rfl rfl j5 rfl (zR _) (zR _) j6 rfl rfl rfl rfl (fun _ h=>h) (fun r u j7 (j8:aG G K (box l 202 [i64 a.Kind,i64 a.Value]::aT 2 K d g b::aT 9 K r u q::L) j7)=>(aH (v:=zS r q.length u) (aL (bQ (bO a6 (dK (Kt:=K) (xs:=([7]:List Int)) (cs:=[i64 7]) (vs:=[(0,i64 7)]) fI aAa rfl rfl j8 rfl (by kernel_rfl) rfl rfl rfl ⟨rfl,trivial⟩ (fun j9 k0 (k1:aG G K (aT 2 K j9 1 ([7]:List Int)::box l 202 [i64 a.Kind,i64 a.Value]::aT 2 K d g b::aT 9 K r u q::L) k0)=>?_)))))))
    obtain ⟨d0,k2,hm⟩:=aB hm
    exact jO (i:=1) fI underlying97 aAa rfl rfl k1 rfl (zR _) (zR _) k2 rfl rfl rfl rfl (fun _ h=>h) (fun d1 d2 k3 (k4:aG G K (box l 202 [i64 a.Kind,i64 a.Value]::aT 2 K d1 d2 d0::aT 9 K r u q::L) k3)=>(aH (v:=zS d1 d0.length d2) (bY (eV (aF ⟨gH,q,d0,r,u,d1,d2,hm,rfl,rfl,(aG.arr 1 [] k4 rfl)⟩)))))
   ·refine aP c9 rfl (aK (aC (dS rfl rfl) (aH (v:=zB (a.Kind == 1)) (aL ?_))))
    rcases aJ hm with ⟨d3,hm⟩|⟨d3,hm⟩
    ·refine aS d3 rfl (aK (bO o (aC (bI (t':=1) aBD rfl rfl) (aC (dH iK m (i:=0) rfl rfl rfl) ?_))));obtain ⟨q8,k5,hm⟩:=aB hm
     refine aW (vs:=[i64 a.Value]) call81 rfl (zO k5 m) ?_
     rintro _ q9 ⟨rfl,k6⟩
     obtain ⟨b5,k7,hm⟩:=aB hm
     refine aC (eM rfl rfl k7) (dK (Kt:=K) (xs:=([b5]:List aN)) (cs:=[str b5]) (vs:=[(0,str b5)]) cX qA rfl rfl k6 rfl (by kernel_rfl) rfl rfl rfl ⟨rfl,trivial⟩ (fun k8 k9 (l0:aG G K (aT 9 K k8 1 ([b5]:List aN)::box l 202 [i64 a.Kind,i64 a.Value]::aT 2 K d g b::aT 9 K j k c::L) k9)=>?_));obtain ⟨x,l1,hm⟩:=aB hm
     refine jO (i:=2) cX underlying37 qA rfl rfl l0 rfl (zR _) (zR _) l1 rfl rfl rfl rfl (fun _ h=>h) (fun y z l2 (l3:aG G K (box l 202 [i64 a.Kind,i64 a.Value]::aT 2 K d g b::aT 9 K y z x::L) l2)=>(aH (v:=zS y x.length z) (aL (bQ (bO a6 (dK (Kt:=K) (xs:=([7]:List Int)) (cs:=[i64 7]) (vs:=[(0,i64 7)]) fI aAa rfl rfl l3 rfl (by kernel_rfl) rfl rfl rfl ⟨rfl,trivial⟩ (fun l4 l5 (l6:aG G K (aT 2 K l4 1 ([7]:List Int)::box l 202 [i64 a.Kind,i64 a.Value]::aT 2 K d g b::aT 9 K y z x::L) l5)=>?_)))))))
     obtain ⟨d4,l7,hm⟩:=aB hm
     exact jO (i:=1) fI underlying97 aAa rfl rfl l6 rfl (zR _) (zR _) l7 rfl rfl rfl rfl (fun _ h=>h) (fun d5 d6 l8 (l9:aG G K (box l 202 [i64 a.Kind,i64 a.Value]::aT 2 K d5 d6 d4::aT 9 K y z x::L) l8)=>(aH (v:=zS d5 d4.length d6) (bY (eV (aF ⟨gH,x,d4,y,z,d5,d6,hm,rfl,rfl,(aG.arr 1 [] l9 rfl)⟩)))))
    ·refine aP d3 rfl (aK (aC (dS rfl rfl) (aH (v:=zB (a.Kind == 3)) (aL ?_))))
     rcases aJ hm with ⟨d7,hm⟩|⟨d7,hm⟩
     ·refine aS d7 rfl (aK (bO o (aO (v:=i64 (wr ((c.length:Int) - 1))) ?_)));obtain ⟨m0,d8,hm⟩:=aB hm
      have m1:=eE m (i:=2) rfl d8
      refine aC (iP cX rfl m1 rfl rfl rfl d8) (aC (oG (t:=0) nK m (i:=2) rfl d8 rfl rfl rfl) (aH (v:=str m0) (aL (gY [0,3,4,5,7] (fun f w=>∃ d9,wA c b p d9=some a5/\f 8=str d9/\aG G K (aT 2 K d g b::aT 9 K j k c::L) w) ?_ ?_))))
      ·rintro f r0 ⟨d9,hm,m2,f1⟩
       unfold wA at hm
       refine aK (bO o (aO (v:=i64 (wr ((c.length:Int) - 1))) ?_));obtain ⟨m3,f2,hm⟩:=aB hm
       have m4:=pJ f1 (i:=1) rfl
       obtain ⟨m5,m6,f3⟩:=Cut.ex 1 j k 0
       refine aC (uD cX m4 f3 rfl rfl rfl f2) (bO m2 ?_);obtain ⟨J,m7,hm⟩:=aB hm
       refine aC (eM rfl rfl m7) (dK (Kt:=K) (xs:=([J]:List aN)) (cs:=[str J]) (vs:=[(0,str J)]) cX qA rfl rfl f1 rfl (by kernel_rfl) rfl rfl rfl ⟨rfl,trivial⟩ (fun f4 f5 (m8:aG G K (aT 9 K f4 1 ([J]:List aN)::aT 2 K d g b::aT 9 K j k c::L) f5)=>?_))
       have m9:aG G K (aT 9 K f4 1 ([J]:List aN)::aT 2 K d g b::aT 9 K m5 m6 m3::L) f5:=aG.cutP m8 (i:=2) rfl f2 f3
       obtain ⟨b6,n0,hm⟩:=aB hm
       refine jO (i:=1) cX underlying37 qA rfl rfl m9 rfl (zR _) (zR _) n0 rfl rfl rfl rfl (fun _ h=>h) (fun b7 b8 n1 (f6:aG G K (aT 2 K d g b::aT 9 K b7 b8 b6::L) n1)=>(aH (v:=zS b7 b6.length b8) (aL (bQ (bO a6 (aO (v:=i64 (wr ((c.length:Int) - 1))) ?_))))));obtain ⟨n2,f7,hm⟩:=aB hm
       have n3:=pJ f6 (i:=0) rfl
       obtain ⟨n4,n5,f8⟩:=Cut.ex 1 d g 0
       refine aC (uD fI n3 f8 rfl rfl rfl f7) (dK (Kt:=K) (xs:=([6]:List Int)) (cs:=[i64 6]) (vs:=[(0,i64 6)]) fI aAa rfl rfl f6 rfl (by kernel_rfl) rfl rfl rfl ⟨rfl,trivial⟩ (fun f9 g0 (n6:aG G K (aT 2 K f9 1 ([6]:List Int)::aT 2 K d g b::aT 9 K b7 b8 b6::L) g0)=>?_))
       have r1:aG G K (aT 2 K f9 1 ([6]:List Int)::aT 2 K n4 n5 n2::aT 9 K b7 b8 b6::L) g0:=aG.cutP n6 (i:=1) rfl f7 f8
       exact aE
      exact aE
     ·refine aP d7 rfl (aK (aC (dS rfl rfl) (aH (v:=zB (a.Kind == 2)) (aL ?_))))
      rcases aJ hm with ⟨g1,hm⟩|⟨g1,hm⟩
      ·refine aS g1 rfl (aK (aC (bI (t':=1) aBD rfl rfl) (aC (dH iK m (i:=0) rfl rfl rfl) ?_)));obtain ⟨n,n7,hm⟩:=aB hm
       refine aW (vs:=[i64 a.Value]) call243 rfl (aFq n7 m) ?_
       rintro _ r2 ⟨rfl,e0⟩
       refine aH (v:=i64 n) (aL (aK (bO o (aO (v:=i64 (wr ((c.length:Int) - 1))) ?_))));obtain ⟨n8,e1,hm⟩:=aB hm
       have g2:=eE e0 (i:=2) rfl e1
       refine aC (iP cX rfl g2 rfl rfl rfl e1) (aC (oG (t:=0) nK e0 (i:=2) rfl e1 rfl rfl rfl) (aH (v:=str n8) (aL (aK (bO o (aO (v:=i64 (wr ((c.length:Int) - 1))) (aC (jI rfl rfl) ?_)))))));obtain ⟨g3,g4,hm⟩:=aB hm
       refine aC (iP cX rfl g2 rfl rfl rfl g4) (aC (oG (t:=0) nK e0 (i:=2) rfl g4 rfl rfl rfl) (aH (v:=str g3) (aL (gY [0,3,4,5,6,7,9,11] (fun f w=>∃ b9,wC c b p a n g3 b9=some a5/\f 10=str b9/\aG G K (box l 202 [i64 a.Kind,i64 a.Value]::aT 2 K d g b::aT 9 K j k c::L) w) ?_ ?_))))
       ·rintro f r3 ⟨b9,hm,n9,r4⟩
        unfold wC at hm
        refine gY [0,3,4,5,6,7,9,10] (fun f w=>∃ e2,wB c b p a n b9 e2=some a5/\f 11=str e2/\aG G K (box l 202 [i64 a.Kind,i64 a.Value]::aT 2 K d g b::aT 9 K j k c::L) w) ?_ ?_
        ·rintro f r5 ⟨e2,hm,o0,o1⟩
         unfold wB at hm
         refine aI ?_;obtain ⟨c0,g5,o2,g6,o3⟩:=aG.lendBp o1 .head
         refine mJ (C:=fun w'=>∃ L',aG G c0 L' w') [(0,0),(1,0),(2,0),(3,0),(4,0),(6,0),(7,0),(11,0),(5,1),(8,0),(9,1),(10,0),(12,0),(13,1),(14,1),(15,0)] Tryz_mixed (by kernel_rfl) (fun _ hg=>⟨_,aG.mono g6 hg⟩) (fun r6 o4=>?_)
         have c1:=aG.mono g6 o4
         refine dI rfl (fun _ _=>bE o) (dI rfl (fun _ _=>bE (v:=i64 (wr ((c.length:Int) - 1))) rfl) (dI rfl (fun _ _=>jI rfl rfl) ?_));obtain ⟨o5,g7,hm⟩:=aB hm
         have o6:=pJ c1 (i:=1) rfl
         obtain ⟨o7,o8,g8⟩:=Cut.ex 1 j k 0
         refine dI rfl (fun _ _=>uD cX o6 g8 rfl rfl rfl g7) (dI rfl (fun _ _=>bE n9) (dI rfl (fun _ _=>bI (t':=1) aBD rfl rfl) (dI rfl (fun _ ⟨_,c1⟩=>cC (t:=1) iK c1 o2 rfl rfl) (dI rfl (fun _ _=>bE o0) (vG rfl ?_)))));obtain ⟨V,o9,hm⟩:=aB hm
         refine aW (vs:=[]) call244 rfl (aHy o9 c1) ?_
         rintro _ r7 ⟨Z,a0,rfl,a2⟩
         refine bY (aF ⟨⟨_,a2⟩,?_⟩)
         obtain ⟨r8,e3,hm⟩:=aB hm
         have p0:=eE a2 (i:=0) rfl e3
         refine dI rfl (fun _ _=>iP cX rfl p0 rfl rfl rfl e3) (vG rfl (aC (oG (t:=0) nK a2 (i:=0) rfl e3 rfl rfl rfl) (bY (aF ⟨⟨_,a2⟩,?_⟩))))
         obtain ⟨r9,p1,hm⟩:=aB hm
         refine dI rfl (fun _ _=>eM rfl rfl p1) ?_;obtain ⟨a3,p2,hm⟩:=aB hm
         refine dI rfl (fun _ _=>eM rfl rfl p2) (vG rfl (dK (Kt:=K) (xs:=([a3]:List aN)) (cs:=[str a3]) (vs:=[(0,str a3)]) cX qA rfl rfl a2 rfl (by kernel_rfl) rfl rfl rfl ⟨rfl,trivial⟩ (fun g9 h0 (h1:aG G c0 (aT 9 K g9 1 ([a3]:List aN)::aT 9 K Z a0 V::aT 2 K d g b::aT 9 K j k c::L) h0)=>(bY (aF ⟨⟨_,h1⟩,?_⟩)))))
         refine vG rfl ?_
         have p3:aG G c0 (aT 9 K g9 1 ([a3]:List aN)::aT 9 K Z a0 V::aT 2 K d g b::aT 9 K o7 o8 o5::L) h0:=aG.cutP h1 (i:=3) rfl g7 g8
         obtain ⟨c3,p4,hm⟩:=aB hm
         refine jO (i:=2) cX underlying37 qA rfl rfl p3 rfl g5 g5 p4 rfl rfl rfl rfl (fun _ h=>h) (fun c4 c5 p5 (h2:aG G c0 (aT 9 K Z a0 V::aT 2 K d g b::aT 9 K c4 c5 c3::L) p5)=>(bY (aF ⟨⟨_,h2⟩,?_⟩)))
         refine dI rfl (fun _ _=>eO (v:=zS c4 c3.length c5) rfl) (WE_nil ?_)
         have h4:=o3 _ _ h2
         refine aF (bQ (bO a6 (aO (v:=i64 (wr ((c.length:Int) - 1))) (aC (jI rfl rfl) ?_))));obtain ⟨p6,h5,hm⟩:=aB hm
         have p7:=pJ h4 (i:=2) rfl
         obtain ⟨p8,p9,h6⟩:=Cut.ex 1 d g 0
         refine aC (uD fI p7 h6 rfl rfl rfl h5) (aO (v:=i64 n) (dK (Kt:=K) (xs:=([n]:List Int)) (cs:=[i64 n]) (vs:=[(0,i64 n)]) fI aAa rfl rfl h4 rfl (by kernel_rfl) rfl rfl rfl ⟨rfl,trivial⟩ (fun h7 h8 (q0:aG G K (aT 2 K h7 1 ([n]:List Int)::box l 202 [i64 a.Kind,i64 a.Value]::aT 9 K Z a0 V::aT 2 K d g b::aT 9 K c4 c5 c3::L) h8)=>?_)))
         have s0:aG G K (aT 2 K h7 1 ([n]:List Int)::box l 202 [i64 a.Kind,i64 a.Value]::aT 9 K Z a0 V::aT 2 K p8 p9 p6::aT 9 K c4 c5 c3::L) h8:=aG.cutP q0 (i:=3) rfl h5 h6
         exact aE
        exact aE
       exact aE
      ·exact aE
  ·exact aE
theorem aNH {a:(List (List aR))} {by_ R:aN} (hm:aFR a by_=some R) (k:aG G K (L) w) (l:aY K a1 c2 a):
  Calls prog 242 ([zS a1 a.length c2,str by_]:List Value).toArray w (cK fun v w'=>v=str R/\aG G K (L) w'):=by
 refine aM func242 rfl (by kernel_rfl) (by show (2:Nat)<=26;decide) ?_;unfold aFR at hm
 refine aK (aH (v:=str ([]:aN)) (aL (aK (aH (v:=str ([]:aN)) (aL (aI (aK (aH (v:=i64 0) (aL (aQ [] (fun f w=>∃ c,aKQ c=some R/\f 5=str c/\aG G K (L) w) aE ?_))))))))));obtain ⟨m,h,ho⟩:=aB hm
 refine cG [0,1] h (fun d b f w=>f 5=str d/\f 6=i64 b/\aG G K (L) w) aE ?_
 ·rintro d b i f n hm hr ⟨o,j,p⟩
  unfold aAj at hm
  refine aI (aK (bO j (aO (v:=zS a1 a.length c2) (aC (aV (len:=a.length) mK rfl) (aC (dR rfl rfl) (aL ?_))))))
  rcases aJ hm with ⟨e,hm⟩|⟨e,hm⟩
  ·exact aS e rfl (aU (aF (aI (bK (gY [0,1,6] (fun f w=>∃ g,aAi a b g=some i/\f 5=str g/\aG G K (L) w) aE aE)))))
  ·exact aE
theorem aCp {a:(List (List aR))} {R:aN} (hm:aDP a=some R) (b:aG G K (L) w) (c:aY K a1 c2 a):
  Calls prog 210 ([zS a1 a.length c2]:List Value).toArray w (cK fun v w'=>v=str R/\aG G K (L) w'):=by
 exact aE
theorem aMA {b5:(List Definition)} {q:(List bG)} {R:aN} (hm:yA b5 q=some R) (hs:aG G K (L) w) (h3:aY K a1 c2 b5) (h6:aY K a4 c5 q):
  Calls prog 175 ([zS a1 b5.length c2,zS a4 q.length c5]:List Value).toArray w (cK fun v w'=>v=str R/\aG G K (L) w'):=by
 refine aM func175 rfl (by kernel_rfl) (by show (2:Nat)<=180;decide) ?_;unfold yA at hm
 refine aK (aH (v:=str ([]:aN)) (aL (aK (dK (Kt:=K) (xs:=([]:List aN)) (cs:=[]) (vs:=[]) cX qA rfl rfl hs rfl (by kernel_rfl) rfl rfl rfl trivial (fun a7 w8 (m1:aG G K (aT 9 K a7 0 ([]:List aN)::L) w8)=>(aH (v:=zS a7 ([]:List aN).length 0) (aL (aK (dK (Kt:=K) (xs:=([]:List Bool)) (cs:=[]) (vs:=[]) mL aLg rfl rfl m1 rfl (by kernel_rfl) rfl rfl rfl trivial (fun g4 m2 (a07:aG G K (aT 4 K g4 0 ([]:List Bool)::aT 9 K a7 0 ([]:List aN)::L) m2)=>(aH (v:=zS g4 ([]:List Bool).length 0) (aL (aI (aK (aO (v:=zS a4 q.length c5) (aC (aV (len:=q.length) rY rfl) (aC (jI rfl rfl) (aH (v:=i64 (wr ((q.length:Int) - 1))) (aL (aQ [] (fun f w=>∃ c9 g5 g6,aEH c9=some R/\f 5=zS g5 c9.length g6/\aG G K (aT 9 K g5 g6 c9::L) w) aE ?_))))))))))))))))))))
 obtain ⟨a08,m3,ho⟩:=aB hm
 refine aBy [0,1] m3 (fun e l b6 f w=>∃ m n g j,f 5=zS m e.length n/\f 6=zS g l.length j/\f 7=i64 b6/\aG G K (aT 4 K g j l::aT 9 K m n e::L) w) aE ?_
 ·rintro e l b6 m4 f w51 hm hr ⟨m,n,g,j,o,p,d0,d1⟩
  unfold nS at hm
  refine aI (aK (bO d0 (aC (aNY rfl rfl) (aL ?_))))
  rcases aJ hm with ⟨d2,hm⟩|⟨d2,hm⟩
  ·refine aS d2 rfl (aU (aF (aI (bK (aK (aO (v:=zS a4 q.length c5) (bO d0 ?_)))))));obtain ⟨a,g7,hm⟩:=aB hm
   refine aC (cL rY rfl h6 rfl rfl rfl g7) ?_;obtain ⟨a11,m5,m6⟩:=aY.el (sz:=4) rfl h6 g7
   obtain ⟨c,d,rfl,b7⟩:=m6
   refine aC (dU (t:=0) (vs:=[i64 a.Kind,i64 a.Number,str a.Name,zS c a.Arguments.length d]) xR d1 m5 rfl rfl rfl) (eA (vs:=[i64 0,i64 0,str ([]:aN),zS none 0 0]) zeroValue147 d1 rfl (fun k w76 m7=>(eY (i:=0) (ns:=[i64 a.Kind,i64 a.Number,str a.Name,zS c a.Arguments.length d]) (us:=[i64 a.Kind,i64 a.Number,str a.Name,zS c a.Arguments.length d]) sizeOf147 m7 rfl rfl rfl rfl rfl (kI rfl) rfl rfl (fun m8 (b:aG G K (box k 147 [i64 a.Kind,i64 a.Number,str a.Name,zS c a.Arguments.length d]::aT 4 K g j l::aT 9 K m n e::L) m8)=>(aL (aK (bO o (aC (aV (len:=e.length) cX rfl) (aC (jI rfl rfl) (aH (v:=i64 (wr ((e.length:Int) - 1))) (aL (aK (aC (bI (t':=0) oH rfl rfl) (aC (dH iK b (i:=0) rfl rfl rfl) (aL (aQ [0,1,7] (fun f w=>∃ b8 b9 c0 c1 c3 c4,gO b6 b8 b9=some m4/\f 5=zS c0 b8.length c1/\f 6=zS c3 b9.length c4/\aG G K (aT 4 K c3 c4 b9::aT 9 K c0 c1 b8::L) w) ?_ ?_))))))))))))))))
   ·rintro f w88 ⟨b8,b9,c0,c1,c3,c4,hm,m9,n0,n1⟩
    unfold gO at hm
    exact eV (aF (bQ (bO d0 (aC (jI rfl rfl) (aH (v:=i64 (wr (b6 - 1))) (aL ⟨_,(zI hm).symm,gH,c0,c1,c3,c4,m9,n0,rfl,n1⟩))))))
   refine aK (aC (dS rfl rfl) (aH (v:=zB (a.Kind == 0)) (aL ?_)))
   rcases aJ hm with ⟨d3,hm⟩|⟨d3,hm⟩
   ·refine aS d3 rfl (aK (bO o (dK (Kt:=K) (xs:=([([48]:aN)]:List aN)) (cs:=[str ([48]:aN)]) (vs:=[(0,str ([48]:aN))]) cX qA rfl rfl b rfl (by kernel_rfl) rfl rfl rfl ⟨rfl,trivial⟩ (fun n2 n3 (n4:aG G K (aT 9 K n2 1 ([([48]:aN)]:List aN)::box k 147 [i64 a.Kind,i64 a.Number,str a.Name,zS c a.Arguments.length d]::aT 4 K g j l::aT 9 K m n e::L) n3)=>?_))));obtain ⟨b2,n5,hm⟩:=aB hm
    refine jO (i:=2) cX underlying37 qA rfl rfl n4 rfl (zR _) (zR _) n5 rfl rfl rfl rfl (fun _ h=>h) (fun b3 b4 n6 (n7:aG G K (box k 147 [i64 a.Kind,i64 a.Number,str a.Name,zS c a.Arguments.length d]::aT 4 K g j l::aT 9 K b3 b4 b2::L) n6)=>(aH (v:=zS b3 b2.length b4) (aL (bQ (bO p (dK (Kt:=K) (xs:=([false]:List Bool)) (cs:=[zB false]) (vs:=[(0,zB false)]) mL aLg rfl rfl n7 rfl (by kernel_rfl) rfl rfl rfl ⟨rfl,trivial⟩ (fun n8 n9 (o0:aG G K (aT 4 K n8 1 ([false]:List Bool)::box k 147 [i64 a.Kind,i64 a.Number,str a.Name,zS c a.Arguments.length d]::aT 4 K g j l::aT 9 K b3 b4 b2::L) n9)=>?_)))))))
    obtain ⟨d4,o1,hm⟩:=aB hm
    exact jO (i:=1) mL underlying267 aLg rfl rfl o0 rfl (zR _) (zR _) o1 rfl rfl rfl rfl (fun _ h=>h) (fun d5 d6 o2 (o3:aG G K (box k 147 [i64 a.Kind,i64 a.Number,str a.Name,zS c a.Arguments.length d]::aT 4 K d5 d6 d4::aT 9 K b3 b4 b2::L) o2)=>(aH (v:=zS d5 d4.length d6) (bY (eV (aF ⟨gH,b2,d4,b3,b4,d5,d6,hm,rfl,rfl,(aG.arr 1 [] o3 rfl)⟩)))))
   ·refine aP d3 rfl (aK (aC (dS rfl rfl) (aH (v:=zB (a.Kind == 5)) (aL ?_))))
    rcases aJ hm with ⟨d7,hm⟩|⟨d7,hm⟩
    ·refine aS d7 rfl (aI ?_);obtain ⟨g8,c6,g9,h0,a15⟩:=aG.lendBp b .head
     refine mJ (C:=fun w'=>∃ L',aG G g8 L' w') [(0,0),(1,0),(2,0),(3,0),(4,0),(5,0),(6,0),(7,0),(8,0),(9,1),(10,0),(11,1),(12,1),(13,0)] Tryz_mixed (by kernel_rfl) (fun _ hg=>⟨_,aG.mono h0 hg⟩) (fun a16 o4=>?_)
     have r:=aG.mono h0 o4
     refine dI rfl (fun _ _=>bE o) (dI rfl (fun _ _=>bE (v:=zS a1 b5.length c2) rfl) (dI rfl (fun _ _=>bI (t':=1) aIL rfl rfl) (dI rfl (fun _ ⟨_,r⟩=>cC (t:=1) iK r g9 rfl rfl) ?_)));obtain ⟨a17,h1,hm⟩:=aB hm
     refine dI rfl (fun _ _=>cL qD rfl (h3.mono c6) rfl rfl rfl h1) ?_;obtain ⟨a18,h2,o5⟩:=aY.el (sz:=3) rfl h3 h1
     obtain ⟨a19,a20,rfl,a21⟩:=o5
     refine dI rfl (fun _ _=>cQ (k':=a.Number.toNat * 3+0) aGt rfl (h2.mono c6) rfl) (dI rfl (fun _ ⟨_,r⟩=>cC (t:=0) nK r (h2.mono c6) rfl rfl) (dI rfl (fun _ _=>bI (t':=3) oI rfl rfl) (dI rfl (fun _ ⟨_,r⟩=>cC (t:=3) aAB r g9 rfl rfl) (vG rfl ?_))));obtain ⟨a22,o6,hm⟩:=aB hm
     refine aW (vs:=[zS c a.Arguments.length d]) call210 rfl (aCp o6 r (b7.mono c6)) ?_
     rintro _ a23 ⟨rfl,h4⟩
     refine bY (aF ⟨⟨_,h4⟩,?_⟩)
     obtain ⟨c7,o7,hm⟩:=aB hm
     refine dI rfl (fun _ _=>eM rfl rfl o7) (vG rfl (dK (Kt:=K) (xs:=([c7]:List aN)) (cs:=[str c7]) (vs:=[(0,str c7)]) cX qA rfl rfl h4 rfl (by kernel_rfl) rfl rfl rfl ⟨rfl,trivial⟩ (fun o8 o9 (p0:aG G g8 (aT 9 K o8 1 ([c7]:List aN)::aT 4 K g j l::aT 9 K m n e::L) o9)=>(bY (aF ⟨⟨_,p0⟩,?_⟩)))))
     exact vG rfl aE
    ·refine aP d7 rfl (aK (aC (dS rfl rfl) (aH (v:=zB (a.Kind == 2)) (aL ?_))))
     rcases aJ hm with ⟨d8,hm⟩|⟨d8,hm⟩
     ·refine aS d8 rfl (aI (fY (C:=fun w'=>aG G K (box k 147 [i64 a.Kind,i64 a.Number,str a.Name,zS c a.Arguments.length d]::aT 4 K g j l::aT 9 K m n e::L) w') Tryz_mixed (by kernel_rfl) (aG.mono b (eG.drew _)) (bD (fun _ b=>bE o) (bD (fun _ b=>bE (v:=i64 (wr ((e.length:Int) - 1))) rfl) ?_))));obtain ⟨p1,d9,hm⟩:=aB hm
      have h5:=eE b (i:=2) rfl d9
      refine bD (fun _ b=>iP cX rfl h5 rfl rfl rfl d9) (bD (fun _ b=>oG (t:=0) nK b (i:=2) rfl d9 rfl rfl rfl) (bD (fun _ b=>bE p) (bD (fun _ b=>bE (v:=i64 (wr ((e.length:Int) - 1))) rfl) ?_)));obtain ⟨p2,e0,hm⟩:=aB hm
      have p3:=eE b (i:=1) rfl e0
      refine bD (fun _ b=>iP mL rfl p3 rfl rfl rfl e0) (bD (fun _ b=>oG (t:=0) sc_4 b (i:=1) rfl e0 rfl rfl rfl) ?_);obtain ⟨p4,p5,hm⟩:=aB hm
      refine iM (vs:=[str p1,zB p2]) (v:=str p4) call80 rfl (fun _ b=>(gL p5 b)) ?_;obtain ⟨a24,p6,hm⟩:=aB hm
      refine bD (fun _ b=>eM rfl rfl p6) (bD (fun _ b=>bE o) (bD (fun _ b=>bE (v:=i64 (wr ((e.length:Int) - 1))) rfl) (bD (fun _ b=>jI rfl rfl) ?_)));obtain ⟨a25,h7,hm⟩:=aB hm
      refine bD (fun _ b=>iP cX rfl h5 rfl rfl rfl h7) (bD (fun _ b=>oG (t:=0) nK b (i:=2) rfl h7 rfl rfl rfl) ?_);obtain ⟨u,p7,hm⟩:=aB hm
      refine bD (fun _ b=>eM rfl rfl p7) (bD (fun _ b=>eO (v:=str u) rfl) (vE (fun a26 h8=>(aF (aK (bO o (aO (v:=i64 (wr ((e.length:Int) - 1))) (aC (jI rfl rfl) ?_))))))));obtain ⟨p8,h9,hm⟩:=aB hm
      have p9:=pJ h8 (i:=2) rfl
      obtain ⟨q0,q1,i0⟩:=Cut.ex 1 m n 0
      refine aC (uD cX p9 i0 rfl rfl rfl h9) (aO (v:=str u) (dK (Kt:=K) (xs:=([u]:List aN)) (cs:=[str u]) (vs:=[(0,str u)]) cX qA rfl rfl h8 rfl (by kernel_rfl) rfl rfl rfl ⟨rfl,trivial⟩ (fun i1 i2 (q2:aG G K (aT 9 K i1 1 ([u]:List aN)::box k 147 [i64 a.Kind,i64 a.Number,str a.Name,zS c a.Arguments.length d]::aT 4 K g j l::aT 9 K m n e::L) i2)=>?_)))
      have q3:aG G K (aT 9 K i1 1 ([u]:List aN)::box k 147 [i64 a.Kind,i64 a.Number,str a.Name,zS c a.Arguments.length d]::aT 4 K g j l::aT 9 K q0 q1 p8::L) i2:=aG.cutP q2 (i:=3) rfl h9 i0
      obtain ⟨J,q4,hm⟩:=aB hm
      refine jO (i:=2) cX underlying37 qA rfl rfl q3 rfl (zR _) (zR _) q4 rfl rfl rfl rfl (fun _ h=>h) (fun V Z q5 (i3:aG G K (box k 147 [i64 a.Kind,i64 a.Number,str a.Name,zS c a.Arguments.length d]::aT 4 K g j l::aT 9 K V Z J::L) q5)=>(aH (v:=zS V J.length Z) (aL (bQ (bO p (aO (v:=i64 (wr ((e.length:Int) - 1))) (aC (jI rfl rfl) ?_)))))));obtain ⟨q6,i4,hm⟩:=aB hm
      have q7:=pJ i3 (i:=1) rfl
      obtain ⟨q8,q9,i5⟩:=Cut.ex 1 g j 0
      refine aC (uD mL q7 i5 rfl rfl rfl i4) (dK (Kt:=K) (xs:=([true]:List Bool)) (cs:=[zB true]) (vs:=[(0,zB true)]) mL aLg rfl rfl i3 rfl (by kernel_rfl) rfl rfl rfl ⟨rfl,trivial⟩ (fun i6 i7 (r0:aG G K (aT 4 K i6 1 ([true]:List Bool)::box k 147 [i64 a.Kind,i64 a.Number,str a.Name,zS c a.Arguments.length d]::aT 4 K g j l::aT 9 K V Z J::L) i7)=>?_))
      have r1:aG G K (aT 4 K i6 1 ([true]:List Bool)::box k 147 [i64 a.Kind,i64 a.Number,str a.Name,zS c a.Arguments.length d]::aT 4 K q8 q9 q6::aT 9 K V Z J::L) i7:=aG.cutP r0 (i:=2) rfl i4 i5
      obtain ⟨e1,r2,hm⟩:=aB hm
      exact jO (i:=1) mL underlying267 aLg rfl rfl r1 rfl (zR _) (zR _) r2 rfl rfl rfl rfl (fun _ h=>h) (fun e2 e3 r3 (r4:aG G K (box k 147 [i64 a.Kind,i64 a.Number,str a.Name,zS c a.Arguments.length d]::aT 4 K e2 e3 e1::aT 9 K V Z J::L) r3)=>(aH (v:=zS e2 e1.length e3) (bY (eV (aF ⟨gH,J,e1,V,Z,e2,e3,hm,rfl,rfl,(aG.arr 1 [] r4 rfl)⟩)))))
     ·refine aP d8 rfl (aK (aC (dS rfl rfl) (aH (v:=zB (a.Kind == 1)) (aL ?_))))
      rcases aJ hm with ⟨e4,hm⟩|⟨e4,hm⟩
      ·refine aS e4 rfl (aI (fY (C:=fun w'=>aG G K (box k 147 [i64 a.Kind,i64 a.Number,str a.Name,zS c a.Arguments.length d]::aT 4 K g j l::aT 9 K m n e::L) w') Tryz_mixed (by kernel_rfl) (aG.mono b (eG.drew _)) (bD (fun _ b=>bI (t':=2) aIM rfl rfl) (bD (fun _ b=>dH nK b (i:=0) rfl rfl rfl) (bD (fun _ b=>bI (t':=3) oI rfl rfl) (bD (fun _ b=>dH aAB b (i:=0) rfl rfl rfl) ?_))))));obtain ⟨r5,r6,hm⟩:=aB hm
       refine iM (vs:=[zS c a.Arguments.length d]) (v:=str r5) call210 rfl (fun _ b=>(aCp r6 b b7)) ?_;obtain ⟨a27,r7,hm⟩:=aB hm
       refine bD (fun _ b=>eM rfl rfl r7) ?_;obtain ⟨a28,r8,hm⟩:=aB hm
       refine bD (fun _ b=>eM rfl rfl r8) (bD (fun _ b=>bE o) (bD (fun _ b=>bE (v:=i64 (wr ((e.length:Int) - 1))) rfl) ?_));obtain ⟨r9,e5,hm⟩:=aB hm
       have s0:=eE b (i:=2) rfl e5
       refine bD (fun _ b=>iP cX rfl s0 rfl rfl rfl e5) (bD (fun _ b=>oG (t:=0) nK b (i:=2) rfl e5 rfl rfl rfl) (bD (fun _ b=>bE p) (bD (fun _ b=>bE (v:=i64 (wr ((e.length:Int) - 1))) rfl) ?_)));obtain ⟨s1,e6,hm⟩:=aB hm
       have s2:=eE b (i:=1) rfl e6
       refine bD (fun _ b=>iP mL rfl s2 rfl rfl rfl e6) (bD (fun _ b=>oG (t:=0) sc_4 b (i:=1) rfl e6 rfl rfl rfl) ?_);obtain ⟨s3,s4,hm⟩:=aB hm
       refine iM (vs:=[str r9,zB s1]) (v:=str s3) call80 rfl (fun _ b=>(gL s4 b)) ?_;obtain ⟨x,s5,hm⟩:=aB hm
       refine bD (fun _ b=>eM rfl rfl s5) (bD (fun _ b=>eO (v:=str x) rfl) (vE (fun a29 i8=>(aF (aK (bO o (aO (v:=i64 (wr ((e.length:Int) - 1))) ?_)))))));obtain ⟨s6,i9,hm⟩:=aB hm
       have s7:=pJ i8 (i:=2) rfl
       obtain ⟨s8,s9,j0⟩:=Cut.ex 1 m n 0
       refine aC (uD cX s7 j0 rfl rfl rfl i9) (aO (v:=str x) (dK (Kt:=K) (xs:=([x]:List aN)) (cs:=[str x]) (vs:=[(0,str x)]) cX qA rfl rfl i8 rfl (by kernel_rfl) rfl rfl rfl ⟨rfl,trivial⟩ (fun j1 j2 (t0:aG G K (aT 9 K j1 1 ([x]:List aN)::box k 147 [i64 a.Kind,i64 a.Number,str a.Name,zS c a.Arguments.length d]::aT 4 K g j l::aT 9 K m n e::L) j2)=>?_)))
       have t1:aG G K (aT 9 K j1 1 ([x]:List aN)::box k 147 [i64 a.Kind,i64 a.Number,str a.Name,zS c a.Arguments.length d]::aT 4 K g j l::aT 9 K s8 s9 s6::L) j2:=aG.cutP t0 (i:=3) rfl i9 j0
       obtain ⟨a0,t2,hm⟩:=aB hm
       refine jO (i:=2) cX underlying37 qA rfl rfl t1 rfl (zR _) (zR _) t2 rfl rfl rfl rfl (fun _ h=>h) (fun a2 a3 t3 (j3:aG G K (box k 147 [i64 a.Kind,i64 a.Number,str a.Name,zS c a.Arguments.length d]::aT 4 K g j l::aT 9 K a2 a3 a0::L) t3)=>(aH (v:=zS a2 a0.length a3) (aL (bQ (bO p (aO (v:=i64 (wr ((e.length:Int) - 1))) ?_))))));obtain ⟨t4,j4,hm⟩:=aB hm
       have t5:=pJ j3 (i:=1) rfl
       obtain ⟨t6,t7,j5⟩:=Cut.ex 1 g j 0
       refine aC (uD mL t5 j5 rfl rfl rfl j4) (dK (Kt:=K) (xs:=([false]:List Bool)) (cs:=[zB false]) (vs:=[(0,zB false)]) mL aLg rfl rfl j3 rfl (by kernel_rfl) rfl rfl rfl ⟨rfl,trivial⟩ (fun j6 j7 (t8:aG G K (aT 4 K j6 1 ([false]:List Bool)::box k 147 [i64 a.Kind,i64 a.Number,str a.Name,zS c a.Arguments.length d]::aT 4 K g j l::aT 9 K a2 a3 a0::L) j7)=>?_))
       have t9:aG G K (aT 4 K j6 1 ([false]:List Bool)::box k 147 [i64 a.Kind,i64 a.Number,str a.Name,zS c a.Arguments.length d]::aT 4 K t6 t7 t4::aT 9 K a2 a3 a0::L) j7:=aG.cutP t8 (i:=2) rfl j4 j5
       obtain ⟨e7,u0,hm⟩:=aB hm
       exact jO (i:=1) mL underlying267 aLg rfl rfl t9 rfl (zR _) (zR _) u0 rfl rfl rfl rfl (fun _ h=>h) (fun e8 e9 u1 (u2:aG G K (box k 147 [i64 a.Kind,i64 a.Number,str a.Name,zS c a.Arguments.length d]::aT 4 K e8 e9 e7::aT 9 K a2 a3 a0::L) u1)=>(aH (v:=zS e8 e7.length e9) (bY (eV (aF ⟨gH,a0,e7,a2,a3,e8,e9,hm,rfl,rfl,(aG.arr 1 [] u2 rfl)⟩)))))
      ·refine aP e4 rfl (aK (aC (dS rfl rfl) (aH (v:=zB (a.Kind == 3)) (aL ?_))))
       rcases aJ hm with ⟨f0,hm⟩|⟨f0,hm⟩
       ·refine aS f0 rfl (aI (fY (C:=fun w'=>aG G K (box k 147 [i64 a.Kind,i64 a.Number,str a.Name,zS c a.Arguments.length d]::aT 4 K g j l::aT 9 K m n e::L) w') Tryz_mixed (by kernel_rfl) (aG.mono b (eG.drew _)) (bD (fun _ b=>bI (t':=3) oI rfl rfl) (bD (fun _ b=>dH aAB b (i:=0) rfl rfl rfl) ?_))));obtain ⟨u3,j8,hm⟩:=aB hm
        refine bD (fun _ b=>cL mK rfl b7 rfl rfl rfl j8) ?_;obtain ⟨a30,u4,u5⟩:=aY.el (sz:=1) rfl b7 j8
        obtain ⟨u6,u7,rfl,u8⟩:=u5
        refine bD (fun _ b=>cC (t:=0) aHS b u4 rfl rfl) ?_;obtain ⟨u9,v0,hm⟩:=aB hm
        refine iM (vs:=[zS u6 u3.length u7]) (v:=str u9) call211 rfl (fun _ b=>(aGg v0 b u8)) ?_;obtain ⟨a31,v1,hm⟩:=aB hm
        refine bD (fun _ b=>eM rfl rfl v1) ?_;obtain ⟨a32,v2,hm⟩:=aB hm
        refine bD (fun _ b=>eM rfl rfl v2) (bD (fun _ b=>bE o) (bD (fun _ b=>bE (v:=i64 (wr ((e.length:Int) - 1))) rfl) ?_));obtain ⟨v3,f1,hm⟩:=aB hm
        have v4:=eE b (i:=2) rfl f1
        refine bD (fun _ b=>iP cX rfl v4 rfl rfl rfl f1) (bD (fun _ b=>oG (t:=0) nK b (i:=2) rfl f1 rfl rfl rfl) (bD (fun _ b=>bE p) (bD (fun _ b=>bE (v:=i64 (wr ((e.length:Int) - 1))) rfl) ?_)));obtain ⟨v5,f2,hm⟩:=aB hm
        have v6:=eE b (i:=1) rfl f2
        refine bD (fun _ b=>iP mL rfl v6 rfl rfl rfl f2) (bD (fun _ b=>oG (t:=0) sc_4 b (i:=1) rfl f2 rfl rfl rfl) ?_);obtain ⟨v7,v8,hm⟩:=aB hm
        refine iM (vs:=[str v3,zB v5]) (v:=str v7) call80 rfl (fun _ b=>(gL v8 b)) ?_;obtain ⟨y,v9,hm⟩:=aB hm
        refine bD (fun _ b=>eM rfl rfl v9) (bD (fun _ b=>eO (v:=str y) rfl) (vE (fun a33 j9=>(aF (aK (bO o (aO (v:=i64 (wr ((e.length:Int) - 1))) ?_)))))));obtain ⟨w0,k0,hm⟩:=aB hm
        have w1:=pJ j9 (i:=2) rfl
        obtain ⟨w2,w3,k1⟩:=Cut.ex 1 m n 0
        refine aC (uD cX w1 k1 rfl rfl rfl k0) (aO (v:=str y) (dK (Kt:=K) (xs:=([y]:List aN)) (cs:=[str y]) (vs:=[(0,str y)]) cX qA rfl rfl j9 rfl (by kernel_rfl) rfl rfl rfl ⟨rfl,trivial⟩ (fun k2 k3 (w4:aG G K (aT 9 K k2 1 ([y]:List aN)::box k 147 [i64 a.Kind,i64 a.Number,str a.Name,zS c a.Arguments.length d]::aT 4 K g j l::aT 9 K m n e::L) k3)=>?_)))
        have w5:aG G K (aT 9 K k2 1 ([y]:List aN)::box k 147 [i64 a.Kind,i64 a.Number,str a.Name,zS c a.Arguments.length d]::aT 4 K g j l::aT 9 K w2 w3 w0::L) k3:=aG.cutP w4 (i:=3) rfl k0 k1
        obtain ⟨a5,w6,hm⟩:=aB hm
        refine jO (i:=2) cX underlying37 qA rfl rfl w5 rfl (zR _) (zR _) w6 rfl rfl rfl rfl (fun _ h=>h) (fun a6 a8 w7 (k4:aG G K (box k 147 [i64 a.Kind,i64 a.Number,str a.Name,zS c a.Arguments.length d]::aT 4 K g j l::aT 9 K a6 a8 a5::L) w7)=>(aH (v:=zS a6 a5.length a8) (aL (bQ (bO p (aO (v:=i64 (wr ((e.length:Int) - 1))) ?_))))));obtain ⟨w9,k5,hm⟩:=aB hm
        have x0:=pJ k4 (i:=1) rfl
        obtain ⟨x1,x2,k6⟩:=Cut.ex 1 g j 0
        refine aC (uD mL x0 k6 rfl rfl rfl k5) (dK (Kt:=K) (xs:=([false]:List Bool)) (cs:=[zB false]) (vs:=[(0,zB false)]) mL aLg rfl rfl k4 rfl (by kernel_rfl) rfl rfl rfl ⟨rfl,trivial⟩ (fun k7 k8 (x3:aG G K (aT 4 K k7 1 ([false]:List Bool)::box k 147 [i64 a.Kind,i64 a.Number,str a.Name,zS c a.Arguments.length d]::aT 4 K g j l::aT 9 K a6 a8 a5::L) k8)=>?_))
        have x4:aG G K (aT 4 K k7 1 ([false]:List Bool)::box k 147 [i64 a.Kind,i64 a.Number,str a.Name,zS c a.Arguments.length d]::aT 4 K x1 x2 w9::aT 9 K a6 a8 a5::L) k8:=aG.cutP x3 (i:=2) rfl k5 k6
        obtain ⟨f3,x5,hm⟩:=aB hm
        exact jO (i:=1) mL underlying267 aLg rfl rfl x4 rfl (zR _) (zR _) x5 rfl rfl rfl rfl (fun _ h=>h) (fun f4 f5 x6 (x7:aG G K (box k 147 [i64 a.Kind,i64 a.Number,str a.Name,zS c a.Arguments.length d]::aT 4 K f4 f5 f3::aT 9 K a6 a8 a5::L) x6)=>(aH (v:=zS f4 f3.length f5) (bY (eV (aF ⟨gH,a5,f3,a6,a8,f4,f5,hm,rfl,rfl,(aG.arr 1 [] x7 rfl)⟩)))))
       ·refine aP f0 rfl (aK (aC (dS rfl rfl) (aH (v:=zB (a.Kind == 4)) (aL ?_))))
        rcases aJ hm with ⟨f6,hm⟩|⟨f6,hm⟩
        ·refine aS f6 rfl (aI (fY (C:=fun w'=>aG G K (box k 147 [i64 a.Kind,i64 a.Number,str a.Name,zS c a.Arguments.length d]::aT 4 K g j l::aT 9 K m n e::L) w') Tryz_mixed (by kernel_rfl) (aG.mono b (eG.drew _)) (bD (fun _ b=>bI (t':=1) aIL rfl rfl) (bD (fun _ b=>dH iK b (i:=0) rfl rfl rfl) ?_))));obtain ⟨x8,x9,hm⟩:=aB hm
         refine iM (vs:=[i64 a.Number]) (v:=str x8) call81 rfl (fun _ b=>(zO x9 b)) ?_;obtain ⟨a34,y0,hm⟩:=aB hm
         refine bD (fun _ b=>eM rfl rfl y0) ?_;obtain ⟨a35,y1,hm⟩:=aB hm
         refine bD (fun _ b=>eM rfl rfl y1) (bD (fun _ b=>bE o) (bD (fun _ b=>bE (v:=i64 (wr ((e.length:Int) - 1))) rfl) ?_));obtain ⟨y2,f7,hm⟩:=aB hm
         have y3:=eE b (i:=2) rfl f7
         refine bD (fun _ b=>iP cX rfl y3 rfl rfl rfl f7) (bD (fun _ b=>oG (t:=0) nK b (i:=2) rfl f7 rfl rfl rfl) (bD (fun _ b=>bE p) (bD (fun _ b=>bE (v:=i64 (wr ((e.length:Int) - 1))) rfl) ?_)));obtain ⟨y4,f8,hm⟩:=aB hm
         have y5:=eE b (i:=1) rfl f8
         refine bD (fun _ b=>iP mL rfl y5 rfl rfl rfl f8) (bD (fun _ b=>oG (t:=0) sc_4 b (i:=1) rfl f8 rfl rfl rfl) ?_);obtain ⟨y6,y7,hm⟩:=aB hm
         refine iM (vs:=[str y2,zB y4]) (v:=str y6) call80 rfl (fun _ b=>(gL y7 b)) ?_;obtain ⟨z,y8,hm⟩:=aB hm
         refine bD (fun _ b=>eM rfl rfl y8) (bD (fun _ b=>eO (v:=str z) rfl) (vE (fun a36 k9=>(aF (aK (bO o (aO (v:=i64 (wr ((e.length:Int) - 1))) ?_)))))));obtain ⟨y9,l0,hm⟩:=aB hm
         have z0:=pJ k9 (i:=2) rfl
         obtain ⟨z1,z2,l1⟩:=Cut.ex 1 m n 0
         refine aC (uD cX z0 l1 rfl rfl rfl l0) (aO (v:=str z) (dK (Kt:=K) (xs:=([z]:List aN)) (cs:=[str z]) (vs:=[(0,str z)]) cX qA rfl rfl k9 rfl (by kernel_rfl) rfl rfl rfl ⟨rfl,trivial⟩ (fun l2 l3 (z3:aG G K (aT 9 K l2 1 ([z]:List aN)::box k 147 [i64 a.Kind,i64 a.Number,str a.Name,zS c a.Arguments.length d]::aT 4 K g j l::aT 9 K m n e::L) l3)=>?_)))
         have z4:aG G K (aT 9 K l2 1 ([z]:List aN)::box k 147 [i64 a.Kind,i64 a.Number,str a.Name,zS c a.Arguments.length d]::aT 4 K g j l::aT 9 K z1 z2 y9::L) l3:=aG.cutP z3 (i:=3) rfl l0 l1
         obtain ⟨a9,z5,hm⟩:=aB hm
         refine jO (i:=2) cX underlying37 qA rfl rfl z4 rfl (zR _) (zR _) z5 rfl rfl rfl rfl (fun _ h=>h) (fun b0 b1 z6 (l4:aG G K (box k 147 [i64 a.Kind,i64 a.Number,str a.Name,zS c a.Arguments.length d]::aT 4 K g j l::aT 9 K b0 b1 a9::L) z6)=>(aH (v:=zS b0 a9.length b1) (aL (bQ (bO p (aO (v:=i64 (wr ((e.length:Int) - 1))) ?_))))));obtain ⟨z7,l5,hm⟩:=aB hm
         have z8:=pJ l4 (i:=1) rfl
         obtain ⟨z9,a00,l6⟩:=Cut.ex 1 g j 0
         refine aC (uD mL z8 l6 rfl rfl rfl l5) (dK (Kt:=K) (xs:=([false]:List Bool)) (cs:=[zB false]) (vs:=[(0,zB false)]) mL aLg rfl rfl l4 rfl (by kernel_rfl) rfl rfl rfl ⟨rfl,trivial⟩ (fun l7 l8 (a01:aG G K (aT 4 K l7 1 ([false]:List Bool)::box k 147 [i64 a.Kind,i64 a.Number,str a.Name,zS c a.Arguments.length d]::aT 4 K g j l::aT 9 K b0 b1 a9::L) l8)=>?_))
         have a02:aG G K (aT 4 K l7 1 ([false]:List Bool)::box k 147 [i64 a.Kind,i64 a.Number,str a.Name,zS c a.Arguments.length d]::aT 4 K z9 a00 z7::aT 9 K b0 b1 a9::L) l8:=aG.cutP a01 (i:=2) rfl l5 l6
         obtain ⟨f9,a03,hm⟩:=aB hm
         exact jO (i:=1) mL underlying267 aLg rfl rfl a02 rfl (zR _) (zR _) a03 rfl rfl rfl rfl (fun _ h=>h) (fun g0 g1 a04 (a05:aG G K (box k 147 [i64 a.Kind,i64 a.Number,str a.Name,zS c a.Arguments.length d]::aT 4 K g0 g1 f9::aT 9 K b0 b1 a9::L) a04)=>(aH (v:=zS g0 f9.length g1) (bY (eV (aF ⟨gH,a9,f9,b0,b1,g0,g1,hm,rfl,rfl,(aG.arr 1 [] a05 rfl)⟩)))))
        ·exact aP f6 rfl (aU (eV (aF ⟨gH,e,l,m,n,g,j,hm,o,p,(aG.arr 1 [] b rfl)⟩)))
  ·refine aP d2 rfl (W_exit (aIB (aIB ?_)))
   have a06:=hr _ (zI hm).symm
   subst a06
   have hm:(aEH e)=some R:=ho
   clear hr ho
   exact aLO (aF ⟨gH,e,m,n,hm,o,(aG.arr 1 [] d1 rfl)⟩)
theorem aMB {a:(List Definition)} {k:Int} {R:aN} (hm:aGC a k=some R) (b:aG G K (L) w) (c:aY K a1 c2 a):
  Calls prog 134 ([zS a1 a.length c2,i64 k]:List Value).toArray w (cK fun v w'=>v=str R/\aG G K (L) w'):=by
 exact aE
theorem aMC {a:(List Int)} {R:aN} (hm:aDQ a=some R) (l:aG G K (L) w) (m:aY K a1 c2 a):
  Calls prog 135 ([zS a1 a.length c2]:List Value).toArray w (cK fun v w'=>v=str R/\aG G K (L) w'):=by
 refine aM func135 rfl (by kernel_rfl) (by show (1:Nat)<=26;decide) ?_;unfold aDQ at hm
 refine aK (aH (v:=str ([]:aN)) (aL (aI (aK (aO (v:=zS a1 a.length c2) (aC (aV (len:=a.length) fI rfl) (aC (dS rfl rfl) (aL ?_))))))))
 rcases aJ hm with ⟨c,hm⟩|⟨c,hm⟩
 ·exact aE
 ·refine aP c rfl (aU (aF (aK (aH (v:=str ([]:aN)) (aL (aI (aK (aH (v:=i64 0) (aL (aQ [] (fun f w=>∃ d,aJd d=some R/\f 3=str d/\aG G K (L) w) aE ?_))))))))));obtain ⟨n,i,ho⟩:=aB hm
  refine cG [0] i (fun e b f w=>f 3=str e/\f 4=i64 b/\aG G K (L) w) aE ?_
  ·rintro e b j f o hm hr ⟨p,k,q⟩
   unfold nT at hm
   refine aI (aK (bO k (aO (v:=zS a1 a.length c2) (aC (aV (len:=a.length) fI rfl) (aC (dR rfl rfl) (aL ?_))))))
   rcases aJ hm with ⟨g,hm⟩|⟨g,hm⟩
   ·exact aS g rfl (aU (aF (aI (bK (gY [0,4] (fun f w=>∃ h,aBb a b h=some j/\f 3=str h/\aG G K (L) w) aE aE)))))
   ·exact aE
theorem aLt {a:aN} {b:(List aN)} {R:aN} (hm:yB a b=some R) (h:aG G K (L) w) (i:aY K a1 c2 b):
  Calls prog 136 ([str a,zS a1 b.length c2]:List Value).toArray w (cK fun v w'=>v=str R/\aG G K (L) w'):=by
 refine aM func136 rfl (by kernel_rfl) (by show (2:Nat)<=22;decide) ?_;unfold yB at hm
 refine aK (aH (v:=str ([]:aN)) (aL (aK (aO (v:=str a) (aH (v:=str a) (aL (aI (aK (aH (v:=i64 0) (aL (aQ [] (fun f w=>∃ c,aDr c=some R/\f 5=str c/\aG G K (L) w) aE ?_)))))))))));obtain ⟨j,d,ho⟩:=aB hm
 exact cG [1] d (fun e g f w=>f 5=str e/\f 6=i64 g/\aG G K (L) w) aE aE
theorem aFr {a:bL} {j:Nat} {R:(List aN)} (hm:aCa a=some R) (hs:aG G K (L) w) (m:eQ K a1 j [zS a4 a.Definitions.length c5,zS a7 a.Components.length c8,zS a10 a.Meetings.length c11,zS a13 a.Allowed.length c14,zS a16 a.Hidden.length c17]) (h6:aY K a4 c5 a.Definitions) (h9:aY K a7 c8 a.Components) (d8:aY K a10 c11 a.Meetings) (d9:aY K a13 c14 a.Allowed) (e0:aY K a16 c17 a.Hidden):
  Calls prog 84 ([cH a1 j]:List Value).toArray w (cK fun v w'=>∃ x y,v=zS x R.length y/\aG G K (aT 9 K x y R::L) w'):=by
 refine aM func84 rfl (by kernel_rfl) (by show (1:Nat)<=139;decide) ?_;unfold aCa at hm
 refine aK (aH (v:=zS none 0 0) (aL (aK (dK (Kt:=K) (xs:=([]:List aN)) (cs:=[]) (vs:=[]) cX qA rfl rfl hs rfl (by kernel_rfl) rfl rfl rfl trivial (fun z b7 (e1:aG G K (aT 9 K z 0 ([]:List aN)::L) b7)=>(aH (v:=zS z ([]:List aN).length 0) (aL (aI (aK (aH (v:=i64 0) (aL (aQ [0] (fun f w=>∃ b c d,zE a b=some R/\f 3=zS c b.length d/\aG G K (aT 9 K c d b::L) w) ?_ ?_))))))))))))
 ·rintro f e2 ⟨b,c,d,hm,b8,e3⟩
  unfold zE at hm
  refine aF (aK (aH (v:=str ([114,117,110,32]:aN)) (aL (aI (aK (aH (v:=i64 0) (aL (aQ [0,3] (fun f w=>∃ e,zD a b e=some R/\f 5=str e/\aG G K (aT 9 K c d b::L) w) ?_ ?_))))))))
  ·rintro f e4 ⟨e,hm,b9,c0⟩
   unfold zD at hm
   refine aF (aK (bO b8 (bO b9 (dK (Kt:=K) (xs:=([e]:List aN)) (cs:=[str e]) (vs:=[(0,str e)]) cX qA rfl rfl c0 rfl (by kernel_rfl) rfl rfl rfl ⟨rfl,trivial⟩ (fun c1 c2 (c3:aG G K (aT 9 K c1 1 ([e]:List aN)::aT 9 K c d b::L) c2)=>?_)))));obtain ⟨J,c4,hm⟩:=aB hm
   refine jO (i:=0) cX underlying37 qA rfl rfl c3 rfl (zR _) (zR _) c4 rfl rfl rfl rfl (fun _ h=>h) (fun V Z c6 (e5:aG G K (aT 9 K V Z J::L) c6)=>(aH (v:=zS V J.length Z) (aL (aI (aK (aH (v:=i64 0) (aL (aQ [0] (fun f w=>∃ k n o,yY a k=some R/\f 3=zS n k.length o/\aG G K (aT 9 K n o k::L) w) ?_ ?_))))))))
   ·rintro f e6 ⟨k,n,o,hm,e7,e8⟩
    unfold yY at hm
    refine aF (gY [0] (fun f w=>∃ l p q,oZ a l=some R/\f 3=zS p l.length q/\aG G K (aT 9 K p q l::L) w) ?_ ?_)
    ·rintro f e9 ⟨l,p,q,hm,f0,f1⟩
     unfold oZ at hm
     exact gY [] (fun f w=>∃ r a0 a2,yX r=some R/\f 3=zS a0 r.length a2/\aG G K (aT 9 K a0 a2 r::L) w) aE aE
    exact aE
   obtain ⟨f2,c7,ho⟩:=aB hm
   exact cG [0] c7 (fun a3 c9 f w=>∃ a5 a6,f 3=zS a5 a3.length a6/\f 8=i64 c9/\aG G K (aT 9 K a5 a6 a3::L) w) aE aE
  obtain ⟨f3,d0,ho⟩:=aB hm
  refine cG [0,3] d0 (fun a8 g f w=>f 5=str a8/\f 6=i64 g/\aG G K (aT 9 K c d b::L) w) aE ?_
  ·rintro a8 g a9 f f4 hm hr ⟨f5,b0,d1⟩
   unfold sX at hm
   refine aI (aK (bO b0 (aO (v:=cH a1 j) (aC (eD rfl m) (aC (cQ (k':=j+1) aCI rfl m rfl) (aC (cC (t:=1) aLZ d1 m rfl rfl) (aC (aV (len:=a.Components.length) xH rfl) (aC (dR rfl rfl) (aL ?_)))))))))
   rcases aJ hm with ⟨b1,hm⟩|⟨b1,hm⟩
   ·refine aS b1 rfl (aU (aF (aI (aQ [0,3,6] (fun f w=>∃ u,sV g u=some a9/\f 5=str u/\aG G K (aT 9 K c d b::L) w) ?_ ?_))))
    ·rintro f f6 ⟨u,hm,d2,d3⟩
     unfold sV at hm
     exact aF (bQ (bO b0 (aC (oD rfl rfl) (aH (v:=i64 (wr (g+1))) (aL ⟨_,(zI hm).symm,gH,d2,rfl,d3⟩)))))
    exact gY [0,3,6] (fun f w=>∃ b2,sW a g b2=some a9/\f 5=str b2/\aG G K (aT 9 K c d b::L) w) aE aE
   ·exact aE
 obtain ⟨f7,d4,ho⟩:=aB hm
 exact cG [0] d4 (fun b3 d5 f w=>∃ b4 b5,f 3=zS b4 b3.length b5/\f 4=i64 d5/\aG G K (aT 9 K b4 b5 b3::L) w) aE aE
theorem aGh {a:bL} {c:Nat} {R:aN} (hm:aDR a=some R) (l:aG G K (L) w) (m:eQ K a1 c [zS a4 a.Definitions.length c5,zS a7 a.Components.length c8,zS a10 a.Meetings.length c11,zS a13 a.Allowed.length c14,zS a16 a.Hidden.length c17]) (n:aY K a4 c5 a.Definitions) (o:aY K a7 c8 a.Components) (p:aY K a10 c11 a.Meetings) (q:aY K a13 c14 a.Allowed) (r:aY K a16 c17 a.Hidden):
  Calls prog 36 ([cH a1 c]:List Value).toArray w (cK fun v w'=>v=str R/\aG G K (L) w'):=by
 refine aM func36 rfl (by kernel_rfl) (by show (1:Nat)<=25;decide) ?_;unfold aDR at hm
 refine aK (aH (v:=str ([]:aN)) (aL (aK (aO (v:=cH a1 c) ?_))));obtain ⟨b,t,hm⟩:=aB hm
 refine aW (vs:=[cH a1 c]) call84 rfl (aFr t l m n o p q r) ?_
 rintro _ z ⟨d,e,rfl,J⟩
 refine aH (v:=zS d b.length e) (aL (aK (aH (v:=str ([]:aN)) (aL (aI (aK (aH (v:=i64 0) (aL (aQ [] (fun f w=>∃ h,aJe h=some R/\f 4=str h/\aG G K (L) w) aE ?_)))))))));obtain ⟨V,u,ho⟩:=aB hm
 refine cG [3] u (fun i g f w=>f 4=str i/\f 5=i64 g/\aG G K (aT 9 K d e b::L) w) aE ?_
 ·rintro i g x f Z hm hr ⟨a0,y,a2⟩
  unfold wF at hm
  refine aI (aK (bO y (aO (v:=zS d b.length e) (aC (aV (len:=b.length) cX rfl) (aC (dR rfl rfl) (aL ?_))))))
  rcases aJ hm with ⟨j,hm⟩|⟨j,hm⟩
  ·exact aS j rfl (aU (aF (aI (bK (gY [3,5] (fun f w=>∃ k,wE b g k=some x/\f 4=str k/\aG G K (aT 9 K d e b::L) w) aE aE)))))
  ·exact aE
theorem aJE {k:Kept} {b:Nat} {R:Bool} (hm:aEI k=some R) (V:aG G K (L) w) (a:eQ K a1 b [str k.Name,i64 k.Kind,i64 k.S.N,i64 k.S.I,zS a4 k.S.L.length c5,zS a7 k.S.E.length c8,zS a10 k.Formula.length c11,zS a13 k.Source.Definitions.length c14,zS a16 k.Source.Components.length c17,zS a19 k.Source.Meetings.length c20,zS a22 k.Source.Allowed.length c23,zS a25 k.Source.Hidden.length c26]) (x:aY K a4 c5 k.S.L) (y:aY K a7 c8 k.S.E) (Z:aY K a10 c11 k.Formula) (o:aY K a13 c14 k.Source.Definitions) (p:aY K a16 c17 k.Source.Components) (q:aY K a19 c20 k.Source.Meetings) (r:aY K a22 c23 k.Source.Allowed) (u:aY K a25 c26 k.Source.Hidden):
  Calls prog 15 ([cH a1 b]:List Value).toArray w (cK fun v w'=>v=zB R/\aG G K (L) w'):=by
 refine aM func15 rfl (by kernel_rfl) (by show (1:Nat)<=89;decide) ?_;unfold aEI at hm
 refine aK (aH (v:=zB false) (aL (aI (aK (aO (v:=cH a1 b) (aC (eD rfl a) (aC (cQ (k':=b+0) aIN rfl a rfl) (aC (cC (t:=0) nK V a rfl rfl) ?_))))))));obtain ⟨d2,b4,hm⟩:=aB hm
 refine aW (vs:=[str k.Name]) call29 rfl (aGb b4 V) ?_
 rintro _ d3 ⟨rfl,j⟩
 refine aC (vB rfl) (aL ?_)
 rcases aJ hm with ⟨a0,hm⟩|⟨a0,hm⟩
 ·exact aE
 ·refine aP a0 rfl (aU (aF (aI (aK (aO (v:=cH a1 b) (aC (eD rfl a) (aC (cQ (k':=b+1) aLH rfl a rfl) (aC (cC (t:=1) iK j a rfl rfl) (aL (bK (aK (aC (dS rfl rfl) (aH (v:=zB (k.Kind == 1)) (aL ?_))))))))))))))
  rcases aJ hm with ⟨z,hm⟩|⟨z,hm⟩
  ·refine aS z rfl (aI (aZ [] (fun f w=>∃ a2,aCb a2=some R/\f 2=zB a2/\aG G K (L) w) aE (bQ (aO (v:=cH a1 b) (aC (eD rfl a) (aC (cQ (k':=b+2) aGu rfl a rfl) ?_))))));obtain ⟨b5,b6,hm⟩:=aB hm
   refine aW (vs:=[cH a1 (b+2)]) call30 rfl (aJA b6 j (eQ.sub (t:=2) (m:=4) a rfl) x y) ?_
   rintro _ d4 ⟨rfl,a3⟩
   refine aO (v:=zB b5) ?_
   rcases aJ hm with ⟨d,hm⟩|⟨d,hm⟩
   ·refine bV d rfl rfl (aO (v:=cH a1 b) (bV d rfl rfl (aC (eD rfl a) (bV d rfl rfl (aC (cQ (k':=b+6) aEr rfl a rfl) (bV d rfl rfl (aC (cC (t:=6) aOk a3 a rfl rfl) (bV d rfl rfl (aC (aV (len:=k.Formula.length) rX rfl) (bV d rfl rfl (aC (dS rfl rfl) (aC (oE (v:=zB ((k.Formula.length:Int) == 0)) d rfl rfl) (aO (v:=zB ((k.Formula.length:Int) == 0)) ?_)))))))))))))
    rcases aJ hm with ⟨c45,hm⟩|⟨c45,hm⟩
    ·refine bV c45 rfl rfl (aO (v:=cH a1 b) (bV c45 rfl rfl (aC (eD rfl a) (bV c45 rfl rfl (aC (cQ (k':=b+7) aEs rfl a rfl) (bV c45 rfl rfl ?_))))));obtain ⟨d5,b7,hm⟩:=aB hm
     exact aW (vs:=[cH a1 (b+7)]) call31 rfl (aCo b7 a3 (eQ.sub (t:=7) (m:=5) a rfl) o p q r u) aE
    ·exact aE
   ·exact aE
  ·refine aP z rfl (aK (aC (dS rfl rfl) (aH (v:=zB (k.Kind == 2)) (aL ?_))))
   rcases aJ hm with ⟨J,hm⟩|⟨J,hm⟩
   ·refine aS J rfl (aI (aZ [] (fun f w=>∃ a5,yC a5=some R/\f 2=zB a5/\aG G K (L) w) aE (bQ (aO (v:=cH a1 b) (aC (eD rfl a) (aC (cQ (k':=b+6) aEr rfl a rfl) (aC (cC (t:=6) aOk j a rfl rfl) ?_)))))));obtain ⟨b8,b9,hm⟩:=aB hm
    refine aW (vs:=[zS a10 k.Formula.length c11]) call32 rfl (aJB b9 j Z) ?_
    rintro _ d6 ⟨rfl,a6⟩
    refine aO (v:=zB b8) ?_
    rcases aJ hm with ⟨c,hm⟩|⟨c,hm⟩
    ·refine bV c rfl rfl (aO (v:=cH a1 b) (bV c rfl rfl (aC (eD rfl a) (bV c rfl rfl (aC (cQ (k':=b+6) aEr rfl a rfl) (bV c rfl rfl (aC (cC (t:=6) aOk a6 a rfl rfl) (bV c rfl rfl ?_))))))));obtain ⟨a8,c0,hm⟩:=aB hm
     refine aW (vs:=[zS a10 k.Formula.length c11]) call33 rfl (aDb c0 a6 Z) ?_
     rintro _ d7 ⟨rfl,c1⟩
     refine bV c rfl rfl (aC (sF runUnderlying9 rfl) (bV c rfl rfl (aC (R_leq rfl rfl) (aC (oE (v:=zB (decide ((a8.length:Int)<=400))) c rfl rfl) (aO (v:=zB (decide ((a8.length:Int)<=400))) ?_)))))
     rcases aJ hm with ⟨i,hm⟩|⟨i,hm⟩
     ·refine bV i rfl rfl (aO (v:=cH a1 b) (bV i rfl rfl (aC (eD rfl a) (bV i rfl rfl (aC (cQ (k':=b+2) aGu rfl a rfl) (bV i rfl rfl ?_))))));obtain ⟨a9,c2,hm⟩:=aB hm
      refine aW (vs:=[cH a1 (b+2)]) call34 rfl (aAG c2 c1 (eQ.sub (t:=2) (m:=4) a rfl) x y) ?_
      rintro _ d8 ⟨rfl,c3⟩
      refine aC (oE (v:=zB a9) i rfl rfl) (aO (v:=zB a9) ?_)
      rcases aJ hm with ⟨l,hm⟩|⟨l,hm⟩
      ·refine bV l rfl rfl (aO (v:=cH a1 b) (bV l rfl rfl (aC (eD rfl a) (bV l rfl rfl (aC (cQ (k':=b+7) aEs rfl a rfl) (bV l rfl rfl ?_))))));obtain ⟨d9,c4,hm⟩:=aB hm
       exact aW (vs:=[cH a1 (b+7)]) call31 rfl (aCo c4 c3 (eQ.sub (t:=7) (m:=5) a rfl) o p q r u) aE
      ·exact aE
     ·exact aE
    ·exact aE
   ·refine aP J rfl (aK (aC (dS rfl rfl) (aH (v:=zB (k.Kind == 3)) (aL ?_))))
    rcases aJ hm with ⟨b0,hm⟩|⟨b0,hm⟩
    ·refine aS b0 rfl (aI (aZ [] (fun f w=>∃ b1,yD b1=some R/\f 2=zB b1/\aG G K (L) w) aE (bQ (aO (v:=cH a1 b) (aC (eD rfl a) (aC (cQ (k':=b+7) aEs rfl a rfl) ?_))))));obtain ⟨c6,c7,hm⟩:=aB hm
     refine aW (vs:=[cH a1 (b+7)]) call35 rfl (aJD c7 j (eQ.sub (t:=7) (m:=5) a rfl) o p q r u) ?_
     rintro _ e0 ⟨rfl,c9⟩
     refine aO (v:=zB c6) ?_
     rcases aJ hm with ⟨e,hm⟩|⟨e,hm⟩
     ·refine bV e rfl rfl (aO (v:=cH a1 b) (bV e rfl rfl (aC (eD rfl a) (bV e rfl rfl (aC (cQ (k':=b+7) aEs rfl a rfl) (bV e rfl rfl ?_))))));obtain ⟨b2,d0,hm⟩:=aB hm
      refine aW (vs:=[cH a1 (b+7)]) call36 rfl (aGh d0 c9 (eQ.sub (t:=7) (m:=5) a rfl) o p q r u) ?_
      rintro _ e1 ⟨rfl,b3⟩
      refine bV e rfl rfl (aC (sF runUnderlying9 rfl) (bV e rfl rfl (aC (R_leq rfl rfl) (aC (oE (v:=zB (decide ((b2.length:Int)<=16000))) e rfl rfl) (aO (v:=zB (decide ((b2.length:Int)<=16000))) ?_)))))
      rcases aJ hm with ⟨h,hm⟩|⟨h,hm⟩
      ·refine bV h rfl rfl (aO (v:=cH a1 b) (bV h rfl rfl (aC (eD rfl a) (bV h rfl rfl (aC (cQ (k':=b+6) aEr rfl a rfl) (bV h rfl rfl (aC (cC (t:=6) aOk b3 a rfl rfl) (bV h rfl rfl (aC (aV (len:=k.Formula.length) rX rfl) (bV h rfl rfl (aC (dS rfl rfl) (aC (oE (v:=zB ((k.Formula.length:Int) == 0)) h rfl rfl) (aO (v:=zB ((k.Formula.length:Int) == 0)) ?_)))))))))))))
       rcases aJ hm with ⟨n,hm⟩|⟨n,hm⟩
       ·refine bV n rfl rfl (aO (v:=cH a1 b) (bV n rfl rfl (aC (eD rfl a) (bV n rfl rfl (aC (cQ (k':=b+2) aGu rfl a rfl) (bV n rfl rfl ?_))))));obtain ⟨e2,d1,hm⟩:=aB hm
        exact aW (vs:=[cH a1 (b+2)]) call34 rfl (aAG d1 b3 (eQ.sub (t:=2) (m:=4) a rfl) x y) aE
       ·exact aE
      ·exact aE
     ·exact aE
    ·exact aE
end Gv
namespace Gv
open Gv.Hp renaming le_refl→zR
open Go.Value renaming slice→zS,bool→zB,agg→zA
open Option.some renaming inj→zI
open Gv.Hp renaming le_trans→zL
open Go Go.Proofs Go.Proofs.Tryz
set_option maxRecDepth 20000
set_option maxHeartbeats 40000000
variable {G:kE} {K:Hp} {L:List eT} {w:World} {a1 a4 a7 a10 a13 a16 a19 a22:Option Addr} {c5 c2 c8 c11 c14 c17 c20 c23:Nat}
theorem aJF {d:vI} {c:Nat} {R:Bool} (hm:aJf d=some R) (r:aG G K (L) w) (b:eQ K a1 c [zS a4 d.Kept.length c5]) (i:aY K a4 c5 d.Kept):
  Calls prog 10 ([cH a1 c]:List Value).toArray w (cK fun v w'=>v=zB R/\aG G K (L) w'):=by
 refine aM func10 rfl (by kernel_rfl) (by show (1:Nat)<=51;decide) ?_;unfold aJf at hm
 refine aK (aH (v:=zB false) (aL (aI (aK (aO (v:=cH a1 c) (aC (eD rfl b) (aC (cQ (k':=c+0) aEt rfl b rfl) (aC (cC (t:=0) aMd r b rfl rfl) (aC (aV (len:=d.Kept.length) aBE rfl) (aC (aKJ rfl rfl) (aL ?_)))))))))))
 rcases aJ hm with ⟨l,hm⟩|⟨l,hm⟩
 ·exact aE
 ·refine aP l rfl (aU (aF (aI (aK (aH (v:=i64 0) (aL (aQ [] (fun f w=>aHY=some R/\aG G K (L) w) aE ?_)))))));obtain ⟨a9,u,ho⟩:=aB hm
  refine bP [0] u (fun h f w=>f 3=i64 h/\aG G K (L) w) aE ?_
  ·rintro h x f b0 hm hr ⟨j,a⟩
   unfold aCd at hm
   refine aI (aK (bO j (aO (v:=cH a1 c) (aC (eD rfl b) (aC (cQ (k':=c+0) aEt rfl b rfl) (aC (cC (t:=0) aMd a b rfl rfl) (aC (aV (len:=d.Kept.length) aBE rfl) (aC (dR rfl rfl) (aL ?_)))))))))
   rcases aJ hm with ⟨m,hm⟩|⟨m,hm⟩
   ·refine aS m rfl (aU (aF (aI (bK (aI (aZ [0,3] (fun f w=>∃ n,aCc h n=some x/\f 50=zB n/\aG G K (L) w) aE (fY (C:=fun w'=>aG G K (L) w') Tryz_mixed (by kernel_rfl) (aG.mono a (eG.drew _)) (bD (fun _ a=>bE (v:=cH a1 c) rfl) (bD (fun _ a=>eD rfl b) (bD (fun _ a=>cQ (k':=c+0) aEt rfl b rfl) (bD (fun _ a=>cC (t:=0) aMd a b rfl rfl) (bD (fun _ a=>bE j) ?_))))))))))));obtain ⟨b1,o,hm⟩:=aB hm
    refine bD (fun _ a=>cL aBE rfl i rfl rfl rfl o) ?_;obtain ⟨b2,y,z⟩:=aY.el (sz:=12) rfl i o
    obtain ⟨b3,b4,b5,b6,b7,b8,b9,c0,c1,c2,c3,c4,c6,c8,c9,d0,rfl,J,V,Z,a0,a2,a3,a5,a6⟩:=z
    obtain ⟨p,a7,hm⟩:=aB hm
    refine iM (vs:=[cH a4 (h.toNat * 12+0)]) (v:=zB p) call15 rfl (fun _ a=>(aJE a7 a y J V Z a0 a2 a3 a5 a6)) (bD (fun _ a=>vB rfl) (bD (fun _ a=>bE (v:=zB (!p)) rfl) ?_))
    rcases aJ hm with ⟨k,hm⟩|⟨k,hm⟩
    ·exact aE
    ·refine iI (g:=27) rfl rfl (lH k) (bD (fun _ a=>bE j) (iI (g:=27) rfl rfl (lH k) (bD (fun _ a=>aKJ rfl rfl) (iI (g:=27) rfl rfl (lH k) (bD (fun _ a=>bE (v:=zB (decide (0 < h))) rfl) ?_)))))
     rcases aJ hm with ⟨e,hm⟩|⟨e,hm⟩
     ·refine iI (g:=30) rfl rfl e (bD (fun _ a=>bE (v:=cH a1 c) rfl) (iI (g:=30) rfl rfl e (bD (fun _ a=>eD rfl b) (iI (g:=30) rfl rfl e (bD (fun _ a=>cQ (k':=c+0) aEt rfl b rfl) (iI (g:=30) rfl rfl e (bD (fun _ a=>cC (t:=0) aMd a b rfl rfl) (iI (g:=30) rfl rfl e (bD (fun _ a=>bE j) (iI (g:=30) rfl rfl e (bD (fun _ a=>jI rfl rfl) (iI (g:=30) rfl rfl e ?_))))))))))));obtain ⟨d1,q,hm⟩:=aB hm
      refine bD (fun _ a=>cL aBE rfl i rfl rfl rfl q) ?_;obtain ⟨d2,d3,a8⟩:=aY.el (sz:=12) rfl i q
      obtain ⟨d4,d5,d6,d7,d8,d9,e0,e1,e2,e3,e4,e5,e6,e7,e8,e9,rfl,f0,f1,f2,f3,f4,f5,f6,f7⟩:=a8
      exact aE
     ·exact aE
   ·exact aE
theorem aDY {d:vI} {R:Bool} (hm:aAk d=some R) (a:aG G K (L) w) (b:aY K a1 c2 d.Kept):
  Calls prog 5 ([zA #[zS a1 d.Kept.length c2]]:List Value).toArray w (cK fun v w'=>v=zB R/\aG G K (L) w'):=by
 refine aM func5 rfl (by kernel_rfl) (by show (1:Nat)<=4;decide) ?_;unfold aAk at hm
 refine aK (eR (v:=zA #[zS a1 d.Kept.length c2]) (vs:=[zS a1 d.Kept.length c2]) a rfl rfl (fun c k e=>(aH (v:=zB false) (aL (aK ?_)))));obtain ⟨l,g,h,i,m⟩:=aG.lendBp e .head
 obtain ⟨n,j,hm⟩:=aB hm
 exact aW (vs:=[cH (some ⟨c,0,none⟩) 0]) call10 rfl (aJF j i h (b.mono g)) aE
theorem aDZ {a R:(List aN)} (hm:qO a=some R) (J:aG G K (L) w) (o:aY K a1 c2 a):
  Calls prog 85 ([zS a1 a.length c2]:List Value).toArray w (cK fun v w'=>∃ p q,v=zS p R.length q/\aG G K (aT 9 K p q R::L) w'):=by
 refine aM func85 rfl (by kernel_rfl) (by show (1:Nat)<=22;decide) ?_;unfold qO at hm
 refine aK (aH (v:=zS none 0 0) (aL (aK (aO (v:=zS a1 a.length c2) (aC (aV (len:=a.length) cX rfl) ?_)))));obtain ⟨b,V,hm⟩:=aB hm
 refine aHj (e:=([]:aN)) cX qA rfl rfl J rfl rfl rfl V rfl (fun c Z (a9:aG G K (aT 9 K c b.length b::L) Z)=>(aH (v:=zS c b.length b.length) (aL (aI (aK (aH (v:=i64 0) (aL (aQ [] (fun f w=>∃ g,aFS g=some R/\f 3=zS c g.length b.length/\aG G K (aT 9 K c b.length g::L) w) aE ?_))))))));obtain ⟨b0,a0,ho⟩:=aB hm
 refine cG [0] a0 (fun j k f w=>f 3=zS c j.length b.length/\f 4=i64 k/\aG G K (aT 9 K c b.length j::L) w) aE ?_
 ·rintro j k b1 f b2 hm hr ⟨r,d,l⟩
  unfold wG at hm
  refine aI (aK (bO d (aO (v:=zS a1 a.length c2) (aC (aV (len:=a.length) cX rfl) (aC (dR rfl rfl) (aL ?_))))))
  rcases aJ hm with ⟨u,hm⟩|⟨u,hm⟩
  ·refine aS u rfl (aU (aF (aI (bK (bQ (bO r (bO d (aO (v:=zS a1 a.length c2) (bO d ?_)))))))));obtain ⟨x,y,hm⟩:=aB hm
   refine aC (cL cX rfl o rfl rfl rfl y) ?_;obtain ⟨b3,a2,a3⟩:=aY.el (sz:=1) rfl o y
   cases a3
   refine aC (cC (t:=0) nK l a2 rfl rfl) ?_;obtain ⟨b4,m,hm⟩:=aB hm
   have a4:=eE l (i:=0) rfl m
   refine aC (iP cX rfl a4 rfl rfl rfl m) ?_;obtain ⟨a5,z,hm⟩:=aB hm
   exact aDj (i:=0) (t:=0) (ns:=[str x]) (e':=(x:aN)) sizeOf9 l rfl (zR _) rfl rfl rfl m z rfl rfl (kI rfl) rfl (fun cs h=>by cases h;rfl) (fun a7 (a8:aG G K (aT 9 K c b.length a5::L) a7)=>(bY (eV (aF (bQ (bO d (aC (oD rfl rfl) (aH (v:=i64 (wr (k+1))) (aL ⟨_,(zI hm).symm,gH,(Eq.trans r (congrArg (fun n=>zS c n b.length) (uC z))),rfl,a8⟩)))))))))
  ·exact aE
theorem aHz {a R:Edge} (hm:aMi a=some R) (b:aG G K (L) w):
  Calls prog 137 ([zA #[i64 a.F,i64 a.B,i64 a.To]]:List Value).toArray w (cK fun v w'=>v=zA #[i64 R.F,i64 R.B,i64 R.To]/\aG G K (L) w'):=by
 exact aE
theorem aMD {a R:(List Edge)} (hm:aDS a=some R) (Z:aG G K (L) w) (p:aY K a1 c2 a):
  Calls prog 86 ([zS a1 a.length c2]:List Value).toArray w (cK fun v w'=>∃ q r,v=zS q R.length r/\aG G K (aT 90 K q r R::L) w'):=by
 refine aM func86 rfl (by kernel_rfl) (by show (1:Nat)<=23;decide) ?_;unfold aDS at hm
 refine aK (aH (v:=zS none 0 0) (aL (aK (aO (v:=zS a1 a.length c2) (aC (aV (len:=a.length) sl_52 rfl) ?_)))));obtain ⟨b,q5,hm⟩:=aB hm
 refine aHj (e:=(⟨0,0,0⟩:Edge)) aBC ez_90 rfl rfl Z rfl rfl rfl q5 rfl (fun c w7 (b2:aG G K (aT 90 K c b.length b::L) w7)=>(aH (v:=zS c b.length b.length) (aL (aI (aK (aH (v:=i64 0) (aL (aQ [] (fun f w=>∃ k,aJg k=some R/\f 3=zS c k.length b.length/\aG G K (aT 90 K c b.length k::L) w) aE ?_))))))));obtain ⟨b3,a3,ho⟩:=aB hm
 refine cG [0] a3 (fun l m f w=>f 3=zS c l.length b.length/\f 4=i64 m/\aG G K (aT 90 K c b.length l::L) w) aE ?_
 ·rintro l m b4 f b5 hm hr ⟨u,j,x⟩
  unfold aBc at hm
  refine aI (aK (bO j (aO (v:=zS a1 a.length c2) (aC (aV (len:=a.length) sl_52 rfl) (aC (dR rfl rfl) (aL ?_))))))
  rcases aJ hm with ⟨y,hm⟩|⟨y,hm⟩
  ·refine aS y rfl (aU (aF (aI (bK (bQ (bO u (bO j (aO (v:=zS a1 a.length c2) (bO j ?_)))))))));obtain ⟨d,z,hm⟩:=aB hm
   refine aC (cL sl_52 rfl p rfl rfl rfl z) ?_;obtain ⟨b6,a4,a5⟩:=aY.el (sz:=3) rfl p z
   cases a5
   refine aC (dU (t:=0) (vs:=[i64 d.F,i64 d.B,i64 d.To]) ag_194 x a4 rfl rfl rfl) ?_;obtain ⟨g,a7,hm⟩:=aB hm
   refine aW (vs:=[zA #[i64 d.F,i64 d.B,i64 d.To]]) call137 rfl (aHz a7 x) ?_
   rintro _ b7 ⟨rfl,J⟩
   obtain ⟨b8,o,hm⟩:=aB hm
   have a8:=eE J (i:=0) rfl o
   refine aC (iP aBC rfl a8 rfl rfl rfl o) ?_;obtain ⟨a9,V,hm⟩:=aB hm
   exact aDj (i:=0) (t:=0) (ns:=[i64 g.F,i64 g.B,i64 g.To]) (e':=(⟨g.F,g.B,g.To⟩:Edge)) sizeOf90 J rfl (zR _) rfl rfl rfl o V rfl rfl (kI rfl) rfl (fun cs h=>by cases h;rfl) (fun b0 (b1:aG G K (aT 90 K c b.length a9::L) b0)=>(bY (eV (aF (bQ (bO j (aC (oD rfl rfl) (aH (v:=i64 (wr (m+1))) (aL ⟨_,(zI hm).symm,gH,(Eq.trans u (congrArg (fun n=>zS c n b.length) (uC V))),rfl,b1⟩)))))))))
  ·exact aE
theorem aJG {a R:hJ} (hm:aLJ a=some R) (g:aG G K (L) w) (h:aY K a1 c2 a.L) (i:aY K a4 c5 a.E):
  Calls prog 37 ([zA (zCa a a1 c2 a4 c5)]:List Value).toArray w (cK fun v w'=>∃ b c d e,v=zA (zCa R b c d e)/\aG G K (aT 9 K b c R.L::aT 90 K d e R.E::L) w'):=by
 exact aE
theorem aHA {a R:bH} (hm:aMj a=some R) (b:aG G K (L) w):
  Calls prog 87 ([zA #[i64 a.Kind,i64 a.Variable,str a.B,zB a.Not]]:List Value).toArray w (cK fun v w'=>v=zA #[i64 R.Kind,i64 R.Variable,str R.B,zB R.Not]/\aG G K (L) w'):=by
 exact aE
theorem aGi {a R:(List bH)} (hm:aGD a=some R) (Z:aG G K (L) w) (p:aY K a1 c2 a):
  Calls prog 38 ([zS a1 a.length c2]:List Value).toArray w (cK fun v w'=>∃ q r,v=zS q R.length r/\aG G K (aT 109 K q r R::L) w'):=by
 refine aM func38 rfl (by kernel_rfl) (by show (1:Nat)<=23;decide) ?_;unfold aGD at hm
 refine aK (aH (v:=zS none 0 0) (aL (aK (aO (v:=zS a1 a.length c2) (aC (aV (len:=a.length) sl_55 rfl) ?_)))));obtain ⟨b,q5,hm⟩:=aB hm
 refine aHj (e:=(⟨0,0,[],false⟩:bH)) rX ez_109 rfl rfl Z rfl rfl rfl q5 rfl (fun c w7 (b2:aG G K (aT 109 K c b.length b::L) w7)=>(aH (v:=zS c b.length b.length) (aL (aI (aK (aH (v:=i64 0) (aL (aQ [] (fun f w=>∃ k,aJh k=some R/\f 3=zS c k.length b.length/\aG G K (aT 109 K c b.length k::L) w) aE ?_))))))));obtain ⟨b3,a3,ho⟩:=aB hm
 refine cG [0] a3 (fun l m f w=>f 3=zS c l.length b.length/\f 4=i64 m/\aG G K (aT 109 K c b.length l::L) w) aE ?_
 ·rintro l m b4 f b5 hm hr ⟨u,j,x⟩
  unfold wH at hm
  refine aI (aK (bO j (aO (v:=zS a1 a.length c2) (aC (aV (len:=a.length) sl_55 rfl) (aC (dR rfl rfl) (aL ?_))))))
  rcases aJ hm with ⟨y,hm⟩|⟨y,hm⟩
  ·refine aS y rfl (aU (aF (aI (bK (bQ (bO u (bO j (aO (v:=zS a1 a.length c2) (bO j ?_)))))))));obtain ⟨d,z,hm⟩:=aB hm
   refine aC (cL sl_55 rfl p rfl rfl rfl z) ?_;obtain ⟨b6,a4,a5⟩:=aY.el (sz:=4) rfl p z
   cases a5
   refine aC (dU (t:=0) (vs:=[i64 d.Kind,i64 d.Variable,str d.B,zB d.Not]) ag_122 x a4 rfl rfl rfl) ?_;obtain ⟨g,a7,hm⟩:=aB hm
   refine aW (vs:=[zA #[i64 d.Kind,i64 d.Variable,str d.B,zB d.Not]]) call87 rfl (aHA a7 x) ?_
   rintro _ b7 ⟨rfl,J⟩
   obtain ⟨b8,o,hm⟩:=aB hm
   have a8:=eE J (i:=0) rfl o
   refine aC (iP rX rfl a8 rfl rfl rfl o) ?_;obtain ⟨a9,V,hm⟩:=aB hm
   exact aDj (i:=0) (t:=0) (ns:=[i64 g.Kind,i64 g.Variable,str g.B,zB g.Not]) (e':=(⟨g.Kind,g.Variable,g.B,g.Not⟩:bH)) sizeOf109 J rfl (zR _) rfl rfl rfl o V rfl rfl (kI rfl) rfl (fun cs h=>by cases h;rfl) (fun b0 (b1:aG G K (aT 109 K c b.length a9::L) b0)=>(bY (eV (aF (bQ (bO j (aC (oD rfl rfl) (aH (v:=i64 (wr (m+1))) (aL ⟨_,(zI hm).symm,gH,(Eq.trans u (congrArg (fun n=>zS c n b.length) (uC V))),rfl,b1⟩)))))))))
  ·exact aE
theorem aHB {a R:aR} (hm:aMk a=some R) (b:aG G K (L) w):
  Calls prog 283 ([zA #[i64 a.Kind,i64 a.Value]]:List Value).toArray w (cK fun v w'=>v=zA #[i64 R.Kind,i64 R.Value]/\aG G K (L) w'):=by
 exact aE
theorem aGj {a R:(List aR)} (hm:aGE a=some R) (Z:aG G K (L) w) (p:aY K a1 c2 a):
  Calls prog 270 ([zS a1 a.length c2]:List Value).toArray w (cK fun v w'=>∃ q r,v=zS q R.length r/\aG G K (aT 202 K q r R::L) w'):=by
 refine aM func270 rfl (by kernel_rfl) (by show (1:Nat)<=23;decide) ?_;unfold aGE at hm
 refine aK (aH (v:=zS none 0 0) (aL (aK (aO (v:=zS a1 a.length c2) (aC (aV (len:=a.length) aOR rfl) ?_)))));obtain ⟨b,q5,hm⟩:=aB hm
 refine aHj (e:=(⟨0,0⟩:aR)) nL ez_202 rfl rfl Z rfl rfl rfl q5 rfl (fun c w7 (b2:aG G K (aT 202 K c b.length b::L) w7)=>(aH (v:=zS c b.length b.length) (aL (aI (aK (aH (v:=i64 0) (aL (aQ [] (fun f w=>∃ k,aJi k=some R/\f 3=zS c k.length b.length/\aG G K (aT 202 K c b.length k::L) w) aE ?_))))))));obtain ⟨b3,a3,ho⟩:=aB hm
 refine cG [0] a3 (fun l m f w=>f 3=zS c l.length b.length/\f 4=i64 m/\aG G K (aT 202 K c b.length l::L) w) aE ?_
 ·rintro l m b4 f b5 hm hr ⟨u,d,x⟩
  unfold wI at hm
  refine aI (aK (bO d (aO (v:=zS a1 a.length c2) (aC (aV (len:=a.length) aOR rfl) (aC (dR rfl rfl) (aL ?_))))))
  rcases aJ hm with ⟨y,hm⟩|⟨y,hm⟩
  ·refine aS y rfl (aU (aF (aI (bK (bQ (bO u (bO d (aO (v:=zS a1 a.length c2) (bO d ?_)))))))));obtain ⟨g,z,hm⟩:=aB hm
   refine aC (cL aOR rfl p rfl rfl rfl z) ?_;obtain ⟨b6,a4,a5⟩:=aY.el (sz:=2) rfl p z
   cases a5
   refine aC (dU (t:=0) (vs:=[i64 g.Kind,i64 g.Value]) ag_333 x a4 rfl rfl rfl) ?_;obtain ⟨j,a7,hm⟩:=aB hm
   refine aW (vs:=[zA #[i64 g.Kind,i64 g.Value]]) call283 rfl (aHB a7 x) ?_
   rintro _ b7 ⟨rfl,J⟩
   obtain ⟨b8,o,hm⟩:=aB hm
   have a8:=eE J (i:=0) rfl o
   refine aC (iP nL rfl a8 rfl rfl rfl o) ?_;obtain ⟨a9,V,hm⟩:=aB hm
   exact aDj (i:=0) (t:=0) (ns:=[i64 j.Kind,i64 j.Value]) (e':=(⟨j.Kind,j.Value⟩:aR)) sizeOf202 J rfl (zR _) rfl rfl rfl o V rfl rfl (kI rfl) rfl (fun cs h=>by cases h;rfl) (fun b0 (b1:aG G K (aT 202 K c b.length a9::L) b0)=>(bY (eV (aF (bQ (bO d (aC (oD rfl rfl) (aH (v:=i64 (wr (m+1))) (aL ⟨_,(zI hm).symm,gH,(Eq.trans u (congrArg (fun n=>zS c n b.length) (uC V))),rfl,b1⟩)))))))))
  ·exact aE
theorem aLu {a R:(List (List aR))} (hm:aEJ a=some R) (hs:aG G K (L) w) (r:aY K a1 c2 a):
  Calls prog 245 ([zS a1 a.length c2]:List Value).toArray w (cK fun v w'=>∃ u x o,v=zS u R.length x/\List.length o=List.length R/\aG G K (aT 199 K u x (cD o R)::rows [202] o R::L) w'):=by
 refine aM func245 rfl (by kernel_rfl) (by show (1:Nat)<=23;decide) ?_;unfold aEJ at hm
 refine aK (aH (v:=zS none 0 0) (aL (aK (aO (v:=zS a1 a.length c2) (aC (aV (len:=a.length) aLW rfl) ?_)))));obtain ⟨b,y,hm⟩:=aB hm
 refine aOL (tys:=[202]) (hd:=((none,0):Dp.Hd (List aR))) mK ez_199 rfl rfl hs rfl rfl rfl y rfl (pcs_nil _) ?_
 intro c w7 (a7:aG G K (aT 199 K c b.length (cD (List.replicate (a.length:Int).toNat ((none,0):Dp.Hd (List aR))) b)::rows [202] (List.replicate (a.length:Int).toNat ((none,0):Dp.Hd (List aR))) b::L) w7)
 refine aH (v:=zS c b.length b.length) (aL (aI (aK (aH (v:=i64 0) (aL (aQ [] (fun f w=>∃ e p,aHr e=some R/\f 3=zS c e.length b.length/\List.length p=List.length e/\aG G K (aT 199 K c b.length (cD p e)::rows [202] p e::L) w) aE ?_))))));obtain ⟨c0,a8,ho⟩:=aB hm
 refine cG [0] a8 (fun g i32 f w=>∃ d,f 3=zS c g.length b.length/\f 4=i64 i32/\List.length d=List.length g/\aG G K (aT 199 K c b.length (cD d g)::rows [202] d g::L) w) ?_ ?_
 ·exact ⟨(List.replicate (a.length:Int).toNat ((none,0):Dp.Hd (List aR))),rfl,rfl,(aDB (hd:=((none,0):Dp.Hd (List aR))) y).2.1,a7⟩
 ·rintro g i32 c1 f c3 hm hr ⟨d,z,k,l,J⟩
  unfold sY at hm
  refine aI (aK (bO k (aO (v:=zS a1 a.length c2) (aC (aV (len:=a.length) aLW rfl) (aC (dR rfl rfl) (aL ?_))))))
  rcases aJ hm with ⟨V,hm⟩|⟨V,hm⟩
  ·refine aS V rfl (aU (aF (aI (bK (bQ (bO z (bO k (aO (v:=zS a1 a.length c2) (bO k ?_)))))))));obtain ⟨a9,Z,hm⟩:=aB hm
   refine aC (cL aLW rfl r rfl rfl rfl Z) ?_;obtain ⟨c4,b0,b1⟩:=aY.el (sz:=1) rfl r Z
   obtain ⟨b2,b3,rfl,b4⟩:=b1
   refine aC (cC (t:=0) sc_317 J b0 rfl rfl) ?_;obtain ⟨b5,b6,hm⟩:=aB hm
   refine aW (vs:=[zS b2 a9.length b3]) call270 rfl (aGj b6 J b4) ?_
   rintro _ c5 ⟨h,j,rfl,a0⟩
   obtain ⟨c6,m,hm⟩:=aB hm
   obtain ⟨⟨c7,c8⟩,a2⟩:=aLT l m
   have b7:=eE a0 (i:=1) rfl (aBz l m a2)
   refine aC (iP mK rfl b7 rfl rfl rfl m) ?_;obtain ⟨a3,q,hm⟩:=aB hm
   refine aOM (i:=0) (tys:=[202]) (hd':=(h,j)) (e':=b5) (hds:=d) sizeOf199 a0 l rfl rfl rfl rfl rfl m a2 q rfl ?_
   intro b8 (b9:aG G K (aT 199 K c b.length (cD (List.set d i32.toNat (h,j)) a3)::rows [202] (List.set d i32.toNat (h,j)) a3::L) b8)
   exact bY (eV (aF (bQ (bO k (aC (oD rfl rfl) (aH (v:=i64 (wr (i32+1))) (aL ⟨_,(zI hm).symm,gH,(List.set d i32.toNat (h,j)),(Eq.trans z (congrArg (fun n=>zS c n b.length) (uC q))),rfl,(aLG (hd:=((h,j):Dp.Hd (List aR))) l q),b9⟩)))))))
  ·exact aE
theorem aHC {a R:bG} (hm:aMl a=some R) (e:aG G K (L) w) (g:aY K a1 c2 a.Arguments):
  Calls prog 212 ([zA #[i64 a.Kind,i64 a.Number,str a.Name,zS a1 a.Arguments.length c2]]:List Value).toArray w (cK fun v w'=>∃ c d b,v=zA #[i64 R.Kind,i64 R.Number,str R.Name,zS c R.Arguments.length d]/\List.length b=List.length R.Arguments/\aG G K (aT 199 K c d (cD b R.Arguments)::rows [202] b R.Arguments::L) w'):=by
 exact aE
theorem aME {a R:(List bG)} (hm:aGF a=some R) (hs:aG G K (L) w) (y:aY K a1 c2 a):
  Calls prog 176 ([zS a1 a.length c2]:List Value).toArray w (cK fun v w'=>∃ z J r,v=zS z R.length J/\List.length r=List.length R/\aG G K (aT 147 K z J (cD r R)::rows [199,202] r R::L) w'):=by
 refine aM func176 rfl (by kernel_rfl) (by show (1:Nat)<=23;decide) ?_;unfold aGF at hm
 refine aK (aH (v:=zS none 0 0) (aL (aK (aO (v:=zS a1 a.length c2) (aC (aV (len:=a.length) aLX rfl) ?_)))));obtain ⟨b,V,hm⟩:=aB hm
 refine aOL (tys:=[199,202]) (hd:=(((none,0),[]):Dp.Hd bG)) rY ez_147 rfl rfl hs rfl rfl rfl V rfl (aOQ _) ?_
 intro d w7 (b3:aG G K (aT 147 K d b.length (cD (List.replicate (a.length:Int).toNat (((none,0),[]):Dp.Hd bG)) b)::rows [199,202] (List.replicate (a.length:Int).toNat (((none,0),[]):Dp.Hd bG)) b::L) w7)
 refine aH (v:=zS d b.length b.length) (aL (aI (aK (aH (v:=i64 0) (aL (aQ [] (fun f w=>∃ l u,aJj l=some R/\f 3=zS d l.length b.length/\List.length u=List.length l/\aG G K (aT 147 K d b.length (cD u l)::rows [199,202] u l::L) w) aE ?_))))));obtain ⟨c6,b4,ho⟩:=aB hm
 refine cG [0] b4 (fun e i32 f w=>∃ c,f 3=zS d e.length b.length/\f 4=i64 i32/\List.length c=List.length e/\aG G K (aT 147 K d b.length (cD c e)::rows [199,202] c e::L) w) ?_ ?_
 ·exact ⟨(List.replicate (a.length:Int).toNat (((none,0),[]):Dp.Hd bG)),rfl,rfl,(aDB (hd:=(((none,0),[]):Dp.Hd bG)) V).2.1,b3⟩
 ·rintro e i32 c7 f c8 hm hr ⟨c,Z,o,p,a0⟩
  unfold wJ at hm
  refine aI (aK (bO o (aO (v:=zS a1 a.length c2) (aC (aV (len:=a.length) aLX rfl) (aC (dR rfl rfl) (aL ?_))))))
  rcases aJ hm with ⟨a2,hm⟩|⟨a2,hm⟩
  ·refine aS a2 rfl (aU (aF (aI (bK (bQ (bO Z (bO o (aO (v:=zS a1 a.length c2) (bO o ?_)))))))));obtain ⟨h,a3,hm⟩:=aB hm
   refine aC (cL aLX rfl y rfl rfl rfl a3) ?_;obtain ⟨c9,b5,b6⟩:=aY.el (sz:=4) rfl y a3
   obtain ⟨a4,a5,rfl,b7⟩:=b6
   refine aC (dU (t:=0) (vs:=[i64 h.Kind,i64 h.Number,str h.Name,zS a4 h.Arguments.length a5]) ag_262 a0 b5 rfl rfl rfl) ?_;obtain ⟨m,b8,hm⟩:=aB hm
   refine aW (vs:=[zA #[i64 h.Kind,i64 h.Number,str h.Name,zS a4 h.Arguments.length a5]]) call212 rfl (aHC b8 a0 b7) ?_
   rintro _ a7 ⟨j,k,g,rfl,b9,a8⟩
   obtain ⟨d0,q,hm⟩:=aB hm
   obtain ⟨⟨⟨d1,d2⟩,d3⟩,a9⟩:=aLT p q
   have c0:=eE a8 (i:=2) rfl (aBz p q a9)
   refine aC (iP rY rfl c0 rfl rfl rfl q) ?_
   have c1:aG G K (aT 199 K j k (cD g m.Arguments)::rows [202] g m.Arguments::aT 147 K d b.length (cD c e)::rows [199,202] c e::L) a7:=a8
   have c3:aG G K (aT 199 K j k (cD g m.Arguments)::aLV [202] g m.Arguments::aT 147 K d b.length (cD c e)::rows [199,202] c e::L) a7:=aG.closeL (i:=1) c1 rfl b9
   obtain ⟨b0,x,hm⟩:=aB hm
   refine aOM (i:=0) (tys:=[199,202]) (hd':=(((j,k),g):Dp.Hd bG)) (e':=(m:bG)) (hds:=c) sizeOf147 c3 p rfl rfl rfl rfl rfl q a9 x rfl ?_
   intro c4 (c5:aG G K (aT 147 K d b.length (cD (List.set c i32.toNat ((j,k),g)) b0)::rows [199,202] (List.set c i32.toNat ((j,k),g)) b0::L) c4)
   exact bY (eV (aF (bQ (bO o (aC (oD rfl rfl) (aH (v:=i64 (wr (i32+1))) (aL ⟨_,(zI hm).symm,gH,(List.set c i32.toNat ((j,k),g)),(Eq.trans Z (congrArg (fun n=>zS d n b.length) (uC x))),rfl,(aLG (hd:=(((j,k),g):Dp.Hd bG)) p x),c5⟩)))))))
  ·exact aE
theorem aAK {a R:Definition} (hm:aCe a=some R) (e:aG G K (L) w) (g:aY K a1 c2 a.Body):
  Calls prog 138 ([zA #[str a.Name,i64 a.Parameters,zS a1 a.Body.length c2]]:List Value).toArray w (cK fun v w'=>∃ c d b,v=zA #[str R.Name,i64 R.Parameters,zS c R.Body.length d]/\List.length b=List.length R.Body/\aG G K (aT 147 K c d (cD b R.Body)::rows [199,202] b R.Body::L) w'):=by
 exact aE
theorem aAq {a R:(List Definition)} (hm:tV a=some R) (hs:aG G K (L) w) (y:aY K a1 c2 a):
  Calls prog 88 ([zS a1 a.length c2]:List Value).toArray w (cK fun v w'=>∃ z J r,v=zS z R.length J/\List.length r=List.length R/\aG G K (aT 94 K z J (cD r R)::rows [147,199,202] r R::L) w'):=by
 refine aM func88 rfl (by kernel_rfl) (by show (1:Nat)<=23;decide) ?_;unfold tV at hm
 refine aK (aH (v:=zS none 0 0) (aL (aK (aO (v:=zS a1 a.length c2) (aC (aV (len:=a.length) sl_56 rfl) ?_)))));obtain ⟨b,V,hm⟩:=aB hm
 refine aOL (tys:=[147,199,202]) (hd:=(((none,0),[]):Dp.Hd Definition)) qD ez_94 rfl rfl hs rfl rfl rfl V rfl (aHQ _) ?_
 intro d w7 (b3:aG G K (aT 94 K d b.length (cD (List.replicate (a.length:Int).toNat (((none,0),[]):Dp.Hd Definition)) b)::rows [147,199,202] (List.replicate (a.length:Int).toNat (((none,0),[]):Dp.Hd Definition)) b::L) w7)
 refine aH (v:=zS d b.length b.length) (aL (aI (aK (aH (v:=i64 0) (aL (aQ [] (fun f w=>∃ l u,aCf l=some R/\f 3=zS d l.length b.length/\List.length u=List.length l/\aG G K (aT 94 K d b.length (cD u l)::rows [147,199,202] u l::L) w) aE ?_))))));obtain ⟨c6,b4,ho⟩:=aB hm
 refine cG [0] b4 (fun e i32 f w=>∃ c,f 3=zS d e.length b.length/\f 4=i64 i32/\List.length c=List.length e/\aG G K (aT 94 K d b.length (cD c e)::rows [147,199,202] c e::L) w) ?_ ?_
 ·exact ⟨(List.replicate (a.length:Int).toNat (((none,0),[]):Dp.Hd Definition)),rfl,rfl,(aDB (hd:=(((none,0),[]):Dp.Hd Definition)) V).2.1,b3⟩
 ·rintro e i32 c7 f c8 hm hr ⟨c,Z,o,p,a0⟩
  unfold lA at hm
  refine aI (aK (bO o (aO (v:=zS a1 a.length c2) (aC (aV (len:=a.length) sl_56 rfl) (aC (dR rfl rfl) (aL ?_))))))
  rcases aJ hm with ⟨a2,hm⟩|⟨a2,hm⟩
  ·refine aS a2 rfl (aU (aF (aI (bK (bQ (bO Z (bO o (aO (v:=zS a1 a.length c2) (bO o ?_)))))))));obtain ⟨k,a3,hm⟩:=aB hm
   refine aC (cL sl_56 rfl y rfl rfl rfl a3) ?_;obtain ⟨c9,b5,b6⟩:=aY.el (sz:=3) rfl y a3
   obtain ⟨a4,a5,rfl,b7⟩:=b6
   refine aC (dU (t:=0) (vs:=[str k.Name,i64 k.Parameters,zS a4 k.Body.length a5]) ag_184 a0 b5 rfl rfl rfl) ?_;obtain ⟨m,b8,hm⟩:=aB hm
   refine aW (vs:=[zA #[str k.Name,i64 k.Parameters,zS a4 k.Body.length a5]]) call138 rfl (aAK b8 a0 b7) ?_
   rintro _ a7 ⟨h,j,g,rfl,b9,a8⟩
   obtain ⟨d0,q,hm⟩:=aB hm
   obtain ⟨⟨⟨d1,d2⟩,d3⟩,a9⟩:=aLT p q
   have c0:=eE a8 (i:=2) rfl (aBz p q a9)
   refine aC (iP qD rfl c0 rfl rfl rfl q) ?_
   have c1:aG G K (aT 147 K h j (cD g m.Body)::rows [199,202] g m.Body::aT 94 K d b.length (cD c e)::rows [147,199,202] c e::L) a7:=a8
   have c3:aG G K (aT 147 K h j (cD g m.Body)::aLV [199,202] g m.Body::aT 94 K d b.length (cD c e)::rows [147,199,202] c e::L) a7:=aG.closeL (i:=1) c1 rfl b9
   obtain ⟨b0,x,hm⟩:=aB hm
   refine aOM (i:=0) (tys:=[147,199,202]) (hd':=(((h,j),g):Dp.Hd Definition)) (e':=(m:Definition)) (hds:=c) sizeOf94 c3 p rfl rfl rfl rfl rfl q a9 x rfl ?_
   intro c4 (c5:aG G K (aT 94 K d b.length (cD (List.set c i32.toNat ((h,j),g)) b0)::rows [147,199,202] (List.set c i32.toNat ((h,j),g)) b0::L) c4)
   exact bY (eV (aF (bQ (bO o (aC (oD rfl rfl) (aH (v:=i64 (wr (i32+1))) (aL ⟨_,(zI hm).symm,gH,(List.set c i32.toNat ((h,j),g)),(Eq.trans Z (congrArg (fun n=>zS d n b.length) (uC x))),rfl,(aLG (hd:=(((h,j),g):Dp.Hd Definition)) p x),c5⟩)))))))
  ·exact aE
theorem aLv {a R:(List Int)} (hm:aEK a=some R) (J:aG G K (L) w) (o:aY K a1 c2 a):
  Calls prog 177 ([zS a1 a.length c2]:List Value).toArray w (cK fun v w'=>∃ p q,v=zS p R.length q/\aG G K (aT 2 K p q R::L) w'):=by
 refine aM func177 rfl (by kernel_rfl) (by show (1:Nat)<=22;decide) ?_;unfold aEK at hm
 refine aK (aH (v:=zS none 0 0) (aL (aK (aO (v:=zS a1 a.length c2) (aC (aV (len:=a.length) fI rfl) ?_)))));obtain ⟨b,V,hm⟩:=aB hm
 refine aHj (e:=(0:Int)) fI aAa rfl rfl J rfl rfl rfl V rfl (fun c Z (a9:aG G K (aT 2 K c b.length b::L) Z)=>(aH (v:=zS c b.length b.length) (aL (aI (aK (aH (v:=i64 0) (aL (aQ [] (fun f w=>∃ g,aHs g=some R/\f 3=zS c g.length b.length/\aG G K (aT 2 K c b.length g::L) w) aE ?_))))))));obtain ⟨b0,a0,ho⟩:=aB hm
 refine cG [0] a0 (fun j k f w=>f 3=zS c j.length b.length/\f 4=i64 k/\aG G K (aT 2 K c b.length j::L) w) aE ?_
 ·rintro j k b1 f b2 hm hr ⟨r,d,l⟩
  unfold sZ at hm
  refine aI (aK (bO d (aO (v:=zS a1 a.length c2) (aC (aV (len:=a.length) fI rfl) (aC (dR rfl rfl) (aL ?_))))))
  rcases aJ hm with ⟨u,hm⟩|⟨u,hm⟩
  ·refine aS u rfl (aU (aF (aI (bK (bQ (bO r (bO d (aO (v:=zS a1 a.length c2) (bO d ?_)))))))));obtain ⟨x,y,hm⟩:=aB hm
   refine aC (cL fI rfl o rfl rfl rfl y) ?_;obtain ⟨b3,a2,a3⟩:=aY.el (sz:=1) rfl o y
   cases a3
   refine aC (cC (t:=0) iK l a2 rfl rfl) ?_;obtain ⟨b4,m,hm⟩:=aB hm
   have a4:=eE l (i:=0) rfl m
   refine aC (iP fI rfl a4 rfl rfl rfl m) ?_;obtain ⟨a5,z,hm⟩:=aB hm
   exact aDj (i:=0) (t:=0) (ns:=[i64 x]) (e':=(x:Int)) sizeOf2 l rfl (zR _) rfl rfl rfl m z rfl rfl (kI rfl) rfl (fun cs h=>by cases h;rfl) (fun a7 (a8:aG G K (aT 2 K c b.length a5::L) a7)=>(bY (eV (aF (bQ (bO d (aC (oD rfl rfl) (aH (v:=i64 (wr (k+1))) (aL ⟨_,(zI hm).symm,gH,(Eq.trans r (congrArg (fun n=>zS c n b.length) (uC z))),rfl,a8⟩)))))))))
  ·exact aE
theorem aCq {a R:aX} (hm:aDs a=some R) (d:aG G K (L) w) (e:aY K a1 c2 a.Values):
  Calls prog 139 ([zA #[i64 a.Definition,zS a1 a.Values.length c2]]:List Value).toArray w (cK fun v w'=>∃ b c,v=zA #[i64 R.Definition,zS b R.Values.length c]/\aG G K (aT 2 K b c R.Values::L) w'):=by
 exact aE
theorem aAL {a R:(List aX)} (hm:wK a=some R) (hs:aG G K (L) w) (u:aY K a1 c2 a):
  Calls prog 89 ([zS a1 a.length c2]:List Value).toArray w (cK fun v w'=>∃ x y p,v=zS x R.length y/\List.length p=List.length R/\aG G K (aT 99 K x y (cD p R)::rows [2] p R::L) w'):=by
 refine aM func89 rfl (by kernel_rfl) (by show (1:Nat)<=23;decide) ?_;unfold wK at hm
 refine aK (aH (v:=zS none 0 0) (aL (aK (aO (v:=zS a1 a.length c2) (aC (aV (len:=a.length) sl_57 rfl) ?_)))));obtain ⟨b,z,hm⟩:=aB hm
 refine aOL (tys:=[2]) (hd:=((none,0):Dp.Hd aX)) xH ez_99 rfl rfl hs rfl rfl rfl z rfl (aII _) ?_
 intro d w7 (b1:aG G K (aT 99 K d b.length (cD (List.replicate (a.length:Int).toNat ((none,0):Dp.Hd aX)) b)::rows [2] (List.replicate (a.length:Int).toNat ((none,0):Dp.Hd aX)) b::L) w7)
 refine aH (v:=zS d b.length b.length) (aL (aI (aK (aH (v:=i64 0) (aL (aQ [] (fun f w=>∃ j q,aCR j=some R/\f 3=zS d j.length b.length/\List.length q=List.length j/\aG G K (aT 99 K d b.length (cD q j)::rows [2] q j::L) w) aE ?_))))));obtain ⟨c3,b2,ho⟩:=aB hm
 refine cG [0] b2 (fun e i32 f w=>∃ c,f 3=zS d e.length b.length/\f 4=i64 i32/\List.length c=List.length e/\aG G K (aT 99 K d b.length (cD c e)::rows [2] c e::L) w) ?_ ?_
 ·exact ⟨(List.replicate (a.length:Int).toNat ((none,0):Dp.Hd aX)),rfl,rfl,(aDB (hd:=((none,0):Dp.Hd aX)) z).2.1,b1⟩
 ·rintro e i32 c4 f c5 hm hr ⟨c,J,k,l,V⟩
  unfold lP at hm
  refine aI (aK (bO k (aO (v:=zS a1 a.length c2) (aC (aV (len:=a.length) sl_57 rfl) (aC (dR rfl rfl) (aL ?_))))))
  rcases aJ hm with ⟨Z,hm⟩|⟨Z,hm⟩
  ·refine aS Z rfl (aU (aF (aI (bK (bQ (bO J (bO k (aO (v:=zS a1 a.length c2) (bO k ?_)))))))));obtain ⟨m,a0,hm⟩:=aB hm
   refine aC (cL sl_57 rfl u rfl rfl rfl a0) ?_;obtain ⟨c6,b3,b4⟩:=aY.el (sz:=2) rfl u a0
   obtain ⟨a2,a3,rfl,b5⟩:=b4
   refine aC (dU (t:=0) (vs:=[i64 m.Definition,zS a2 m.Values.length a3]) ag_186 V b3 rfl rfl rfl) ?_;obtain ⟨a4,b6,hm⟩:=aB hm
   refine aW (vs:=[zA #[i64 m.Definition,zS a2 m.Values.length a3]]) call139 rfl (aCq b6 V b5) ?_
   rintro _ b7 ⟨g,h,rfl,a5⟩
   obtain ⟨c7,o,hm⟩:=aB hm
   obtain ⟨⟨c8,c9⟩,a7⟩:=aLT l o
   have b8:=eE a5 (i:=1) rfl (aBz l o a7)
   refine aC (iP xH rfl b8 rfl rfl rfl o) ?_
   have b9:aG G K (aT 2 K g h a4.Values::aT 99 K d b.length (cD c e)::rows [2] c e::L) b7:=a5
   obtain ⟨a8,r,hm⟩:=aB hm
   refine aOM (i:=0) (tys:=[2]) (hd':=((g,h):Dp.Hd aX)) (e':=(a4:aX)) (hds:=c) sizeOf99 b9 l rfl rfl rfl rfl rfl o a7 r rfl ?_
   intro c0 (c1:aG G K (aT 99 K d b.length (cD (List.set c i32.toNat (g,h)) a8)::rows [2] (List.set c i32.toNat (g,h)) a8::L) c0)
   exact bY (eV (aF (bQ (bO k (aC (oD rfl rfl) (aH (v:=i64 (wr (i32+1))) (aL ⟨_,(zI hm).symm,gH,(List.set c i32.toNat (g,h)),(Eq.trans J (congrArg (fun n=>zS d n b.length) (uC r))),rfl,(aLG (hd:=((g,h):Dp.Hd aX)) l r),c1⟩)))))))
  ·exact aE
theorem aEa {a R:bB} (hm:aFT a=some R) (b:aG G K (L) w):
  Calls prog 140 ([zA #[str a.Left,str a.Right,str a.Result]]:List Value).toArray w (cK fun v w'=>v=zA #[str R.Left,str R.Right,str R.Result]/\aG G K (L) w'):=by
 exact aE
theorem aDc {a R:(List bB)} (hm:aBd a=some R) (Z:aG G K (L) w) (p:aY K a1 c2 a):
  Calls prog 90 ([zS a1 a.length c2]:List Value).toArray w (cK fun v w'=>∃ q r,v=zS q R.length r/\aG G K (aT 103 K q r R::L) w'):=by
 refine aM func90 rfl (by kernel_rfl) (by show (1:Nat)<=23;decide) ?_;unfold aBd at hm
 refine aK (aH (v:=zS none 0 0) (aL (aK (aO (v:=zS a1 a.length c2) (aC (aV (len:=a.length) sl_58 rfl) ?_)))));obtain ⟨b,q5,hm⟩:=aB hm
 refine aHj (e:=(⟨[],[],[]⟩:bB)) vJ ez_103 rfl rfl Z rfl rfl rfl q5 rfl (fun c w7 (b2:aG G K (aT 103 K c b.length b::L) w7)=>(aH (v:=zS c b.length b.length) (aL (aI (aK (aH (v:=i64 0) (aL (aQ [] (fun f w=>∃ k,aFh k=some R/\f 3=zS c k.length b.length/\aG G K (aT 103 K c b.length k::L) w) aE ?_))))))));obtain ⟨b3,a3,ho⟩:=aB hm
 refine cG [0] a3 (fun l m f w=>f 3=zS c l.length b.length/\f 4=i64 m/\aG G K (aT 103 K c b.length l::L) w) aE ?_
 ·rintro l m b4 f b5 hm hr ⟨u,j,x⟩
  unfold oL at hm
  refine aI (aK (bO j (aO (v:=zS a1 a.length c2) (aC (aV (len:=a.length) sl_58 rfl) (aC (dR rfl rfl) (aL ?_))))))
  rcases aJ hm with ⟨y,hm⟩|⟨y,hm⟩
  ·refine aS y rfl (aU (aF (aI (bK (bQ (bO u (bO j (aO (v:=zS a1 a.length c2) (bO j ?_)))))))));obtain ⟨d,z,hm⟩:=aB hm
   refine aC (cL sl_58 rfl p rfl rfl rfl z) ?_;obtain ⟨b6,a4,a5⟩:=aY.el (sz:=3) rfl p z
   cases a5
   refine aC (dU (t:=0) (vs:=[str d.Left,str d.Right,str d.Result]) ag_188 x a4 rfl rfl rfl) ?_;obtain ⟨g,a7,hm⟩:=aB hm
   refine aW (vs:=[zA #[str d.Left,str d.Right,str d.Result]]) call140 rfl (aEa a7 x) ?_
   rintro _ b7 ⟨rfl,J⟩
   obtain ⟨b8,o,hm⟩:=aB hm
   have a8:=eE J (i:=0) rfl o
   refine aC (iP vJ rfl a8 rfl rfl rfl o) ?_;obtain ⟨a9,V,hm⟩:=aB hm
   exact aDj (i:=0) (t:=0) (ns:=[str g.Left,str g.Right,str g.Result]) (e':=(⟨g.Left,g.Right,g.Result⟩:bB)) sizeOf103 J rfl (zR _) rfl rfl rfl o V rfl rfl (kI rfl) rfl (fun cs h=>by cases h;rfl) (fun b0 (b1:aG G K (aT 103 K c b.length a9::L) b0)=>(bY (eV (aF (bQ (bO j (aC (oD rfl rfl) (aH (v:=i64 (wr (m+1))) (aL ⟨_,(zI hm).symm,gH,(Eq.trans u (congrArg (fun n=>zS c n b.length) (uC V))),rfl,b1⟩)))))))))
  ·exact aE
theorem aFs {a R:bL} (hm:aCg a=some R) (hs:aG G K (L) w) (h3:aY K a1 c2 a.Definitions) (h6:aY K a4 c5 a.Components) (h9:aY K a7 c8 a.Meetings) (b5:aY K a10 c11 a.Allowed) (d1:aY K a13 c14 a.Hidden):
  Calls prog 39 ([zA #[zS a1 a.Definitions.length c2,zS a4 a.Components.length c5,zS a7 a.Meetings.length c8,zS a10 a.Allowed.length c11,zS a13 a.Hidden.length c14]]:List Value).toArray w (cK fun v w'=>∃ x y p z J q V Z a0 a2 a3 a5,v=zA #[zS x R.Definitions.length y,zS z R.Components.length J,zS V R.Meetings.length Z,zS a0 R.Allowed.length a2,zS a3 R.Hidden.length a5]/\List.length p=List.length R.Definitions/\List.length q=List.length R.Components/\aG G K (aT 94 K x y (cD p R.Definitions)::rows [147,199,202] p R.Definitions::aT 99 K z J (cD q R.Components)::rows [2] q R.Components::aT 103 K V Z R.Meetings::aT 9 K a0 a2 R.Allowed::aT 9 K a3 a5 R.Hidden::L) w'):=by
 let l:=[zS a1 a.Definitions.length c2,zS a4 a.Components.length c5,zS a7 a.Meetings.length c8,zS a10 a.Allowed.length c11,zS a13 a.Hidden.length c14]
 let k:=[zS none 0 0,zS none 0 0,zS none 0 0,zS none 0 0,zS none 0 0]
 refine aM func39 rfl (by kernel_rfl) (by show (1:Nat)<=25;decide) ?_;unfold aCg at hm
 refine aK (eR (v:=zA #[zS a1 a.Definitions.length c2,zS a4 a.Components.length c5,zS a7 a.Meetings.length c8,zS a10 a.Allowed.length c11,zS a13 a.Hidden.length c14]) (vs:=l) hs rfl rfl (fun r d2 b6=>(eA (vs:=k) zeroValue46 b6 rfl (fun t d3 b7=>(aL (aK (eA (vs:=k) zeroValue46 b7 rfl (fun u d4 a6=>(aL (aK (aC (bI (t':=0) fa_60_0 rfl rfl) (aC (dH sc_56 a6 (i:=2) rfl rfl rfl) ?_))))))))))));obtain ⟨b,b8,hm⟩:=aB hm
 refine aW (vs:=[zS a1 a.Definitions.length c2]) call88 rfl (aAq b8 a6 h3) ?_
 rintro _ d5 ⟨c,d,j,rfl,d6,b9⟩
 refine aC (bI (t':=0) aGs rfl rfl) (eY (i:=2) (ns:=[zS c b.length d]) (us:=[zS c b.length d,zS none 0 0,zS none 0 0,zS none 0 0,zS none 0 0]) sizeOf42 b9 rfl rfl rfl rfl rfl (kI rfl) rfl rfl (fun c0 (a8:aG G K (aT 94 K c d (cD j b)::rows [147,199,202] j b::box u 46 [zS c b.length d,zS none 0 0,zS none 0 0,zS none 0 0,zS none 0 0]::box t 46 k::box r 60 l::L) c0)=>(aL (aK (aC (bI (t':=1) fa_60_1 rfl rfl) (aC (dH sc_57 a8 (i:=4) rfl rfl rfl) ?_))))))
 obtain ⟨e,c1,hm⟩:=aB hm
 refine aW (vs:=[zS a4 a.Components.length c5]) call89 rfl (aAL c1 a8 h6) ?_
 rintro _ d7 ⟨g,h,m,rfl,d8,c3⟩
 refine aC (bI (t':=1) aCI rfl rfl) (eY (i:=4) (ns:=[zS g e.length h]) (us:=[zS c b.length d,zS g e.length h,zS none 0 0,zS none 0 0,zS none 0 0]) sizeOf43 c3 rfl rfl rfl rfl rfl (kI rfl) rfl rfl (fun c4 (a9:aG G K (aT 99 K g h (cD m e)::rows [2] m e::aT 94 K c d (cD j b)::rows [147,199,202] j b::box u 46 [zS c b.length d,zS g e.length h,zS none 0 0,zS none 0 0,zS none 0 0]::box t 46 k::box r 60 l::L) c4)=>(aL (aK (aC (bI (t':=2) fa_60_2 rfl rfl) (aC (dH sc_58 a9 (i:=6) rfl rfl rfl) ?_))))))
 obtain ⟨n,c6,hm⟩:=aB hm
 refine aW (vs:=[zS a7 a.Meetings.length c8]) call90 rfl (aDc c6 a9 h9) ?_
 rintro _ d9 ⟨o,c48,rfl,c7⟩
 refine aC (bI (t':=2) aOV rfl rfl) (eY (i:=5) (ns:=[zS o n.length c48]) (us:=[zS c b.length d,zS g e.length h,zS o n.length c48,zS none 0 0,zS none 0 0]) sizeOf44 c7 rfl rfl rfl rfl rfl (kI rfl) rfl rfl (fun c9 (b0:aG G K (aT 103 K o c48 n::aT 99 K g h (cD m e)::rows [2] m e::aT 94 K c d (cD j b)::rows [147,199,202] j b::box u 46 [zS c b.length d,zS g e.length h,zS o n.length c48,zS none 0 0,zS none 0 0]::box t 46 k::box r 60 l::L) c9)=>(aL (aK (aC (bI (t':=3) fa_60_3 rfl rfl) (aC (dH sc_37 b0 (i:=7) rfl rfl rfl) ?_))))))
 obtain ⟨e0,d0,hm⟩:=aB hm
 exact aW (vs:=[zS a10 a.Allowed.length c11]) call85 rfl (aDZ d0 b0 b5) aE
theorem aHD {a R:Kept} (hm:aFU a=some R) (hs:aG G K (L) w) (h3:aY K a1 c2 a.S.L) (h6:aY K a4 c5 a.S.E) (h9:aY K a7 c8 a.Formula) (e0:aY K a10 c11 a.Source.Definitions) (e1:aY K a13 c14 a.Source.Components) (e2:aY K a16 c17 a.Source.Meetings) (e3:aY K a19 c20 a.Source.Allowed) (e4:aY K a22 c23 a.Source.Hidden):
  Calls prog 16 ([zA #[str a.Name,i64 a.Kind,i64 a.S.N,i64 a.S.I,zS a1 a.S.L.length c2,zS a4 a.S.E.length c5,zS a7 a.Formula.length c8,zS a10 a.Source.Definitions.length c11,zS a13 a.Source.Components.length c14,zS a16 a.Source.Meetings.length c17,zS a19 a.Source.Allowed.length c20,zS a22 a.Source.Hidden.length c23]]:List Value).toArray w (cK fun v w'=>∃ a8 a9 b0 b1 b2 b3 b4 b5 a5 b6 b7 a6 b8 b9 c0 c1 c3 c4,v=zA #[str R.Name,i64 R.Kind,i64 R.S.N,i64 R.S.I,zS a8 R.S.L.length a9,zS b0 R.S.E.length b1,zS b2 R.Formula.length b3,zS b4 R.Source.Definitions.length b5,zS b6 R.Source.Components.length b7,zS b8 R.Source.Meetings.length b9,zS c0 R.Source.Allowed.length c1,zS c3 R.Source.Hidden.length c4]/\List.length a5=List.length R.Source.Definitions/\List.length a6=List.length R.Source.Components/\aG G K (aT 9 K a8 a9 R.S.L::aT 90 K b0 b1 R.S.E::aT 109 K b2 b3 R.Formula::aT 94 K b4 b5 (cD a5 R.Source.Definitions)::rows [147,199,202] a5 R.Source.Definitions::aT 99 K b6 b7 (cD a6 R.Source.Components)::rows [2] a6 R.Source.Components::aT 103 K b8 b9 R.Source.Meetings::aT 9 K c0 c1 R.Source.Allowed::aT 9 K c3 c4 R.Source.Hidden::L) w'):=by
 let z:=[str a.Name,i64 a.Kind,i64 a.S.N,i64 a.S.I,zS a1 a.S.L.length c2,zS a4 a.S.E.length c5,zS a7 a.Formula.length c8,zS a10 a.Source.Definitions.length c11,zS a13 a.Source.Components.length c14,zS a16 a.Source.Meetings.length c17,zS a19 a.Source.Allowed.length c20,zS a22 a.Source.Hidden.length c23]
 let J:=[str ([]:aN),i64 0,i64 0,i64 0,zS none 0 0,zS none 0 0,zS none 0 0,zS none 0 0,zS none 0 0,zS none 0 0,zS none 0 0,zS none 0 0]
 let c6:=[str a.Name,i64 a.Kind,i64 0,i64 0,zS none 0 0,zS none 0 0,zS none 0 0,zS none 0 0,zS none 0 0,zS none 0 0,zS none 0 0,zS none 0 0]
 let c7:=[str a.Name,i64 0,i64 0,i64 0,zS none 0 0,zS none 0 0,zS none 0 0,zS none 0 0,zS none 0 0,zS none 0 0,zS none 0 0,zS none 0 0]
 refine aM func16 rfl (by kernel_rfl) (by show (1:Nat)<=23;decide) ?_;unfold aFU at hm
 refine aK (eR (v:=zA #[str a.Name,i64 a.Kind,i64 a.S.N,i64 a.S.I,zS a1 a.S.L.length c2,zS a4 a.S.E.length c5,zS a7 a.Formula.length c8,zS a10 a.Source.Definitions.length c11,zS a13 a.Source.Components.length c14,zS a16 a.Source.Meetings.length c17,zS a19 a.Source.Allowed.length c20,zS a22 a.Source.Hidden.length c23]) (vs:=z) hs rfl rfl (fun V g2 e5=>(eA (vs:=J) zeroValue48 e5 rfl (fun Z g3 e6=>(aL (aK (eA (vs:=J) zeroValue48 e6 rfl (fun a0 g4 c9=>(aL (aK (aC (bI (t':=0) fa_62_0 rfl rfl) (aC (dH nK c9 (i:=2) rfl rfl rfl) (aC (bI (t':=0) aIN rfl rfl) (eY (i:=0) (ns:=[str a.Name]) (us:=c7) sizeOf9 c9 rfl rfl rfl rfl rfl (kI rfl) rfl rfl (fun e7 (d0:aG G K (box a0 48 c7::box Z 48 J::box V 62 z::L) e7)=>(aL (aK (aC (bI (t':=1) fa_62_1 rfl rfl) (aC (dH iK d0 (i:=2) rfl rfl rfl) (aC (bI (t':=1) aLH rfl rfl) (eY (i:=0) (ns:=[i64 a.Kind]) (us:=c6) sizeOf2 d0 rfl rfl rfl rfl rfl (kI rfl) rfl rfl (fun e8 (d1:aG G K (box a0 48 c6::box Z 48 J::box V 62 z::L) e8)=>(aL ?_)))))))))))))))))))))))
 refine aK (aC (bI (t':=2) fa_62_2 rfl rfl) (aC (kH (us:=(zC a.S a1 c2 a4 c5)) ag_54 d1 (i:=2) rfl rfl rfl rfl) ?_));obtain ⟨b,e9,hm⟩:=aB hm
 refine aW (vs:=[zA (zCa a.S a1 c2 a4 c5)]) call37 rfl (aJG e9 d1 h3 h6) ?_
 rintro _ g5 ⟨d,e,g,h,rfl,f0⟩
 refine aC (bI (t':=2) aGu rfl rfl) (eY (i:=2) (ns:=(zC b d e g h)) (us:=[str a.Name,i64 a.Kind,i64 b.N,i64 b.I,zS d b.L.length e,zS g b.E.length h,zS none 0 0,zS none 0 0,zS none 0 0,zS none 0 0,zS none 0 0,zS none 0 0]) sizeOf40 f0 rfl rfl rfl rfl rfl (kI rfl) rfl rfl (fun f1 (d2:aG G K (aT 9 K d e b.L::aT 90 K g h b.E::box a0 48 [str a.Name,i64 a.Kind,i64 b.N,i64 b.I,zS d b.L.length e,zS g b.E.length h,zS none 0 0,zS none 0 0,zS none 0 0,zS none 0 0,zS none 0 0,zS none 0 0]::box Z 48 J::box V 62 z::L) f1)=>(aL (aK (aC (bI (t':=6) fa_62_3 rfl rfl) (aC (dH sc_55 d2 (i:=4) rfl rfl rfl) ?_))))))
 obtain ⟨l,f2,hm⟩:=aB hm
 refine aW (vs:=[zS a7 a.Formula.length c8]) call38 rfl (aGi f2 d2 h9) ?_
 rintro _ g6 ⟨j,k,rfl,f3⟩
 refine aC (bI (t':=6) aEr rfl rfl) (eY (i:=3) (ns:=[zS j l.length k]) (us:=[str a.Name,i64 a.Kind,i64 b.N,i64 b.I,zS d b.L.length e,zS g b.E.length h,zS j l.length k,zS none 0 0,zS none 0 0,zS none 0 0,zS none 0 0,zS none 0 0]) sizeOf41 f3 rfl rfl rfl rfl rfl (kI rfl) rfl rfl (fun f4 (d3:aG G K (aT 109 K j k l::aT 9 K d e b.L::aT 90 K g h b.E::box a0 48 [str a.Name,i64 a.Kind,i64 b.N,i64 b.I,zS d b.L.length e,zS g b.E.length h,zS j l.length k,zS none 0 0,zS none 0 0,zS none 0 0,zS none 0 0,zS none 0 0]::box Z 48 J::box V 62 z::L) f4)=>(aL (aK (aC (bI (t':=7) fa_62_4 rfl rfl) (aC (kH (us:=[zS a10 a.Source.Definitions.length c11,zS a13 a.Source.Components.length c14,zS a16 a.Source.Meetings.length c17,zS a19 a.Source.Allowed.length c20,zS a22 a.Source.Hidden.length c23]) ag_60 d3 (i:=5) rfl rfl rfl rfl) ?_))))))
 obtain ⟨c,f5,hm⟩:=aB hm
 refine aW (vs:=[zA #[zS a10 a.Source.Definitions.length c11,zS a13 a.Source.Components.length c14,zS a16 a.Source.Meetings.length c17,zS a19 a.Source.Allowed.length c20,zS a22 a.Source.Hidden.length c23]]) call39 rfl (aFs f5 d3 e0 e1 e2 e3 e4) ?_
 rintro _ g7 ⟨m,n,a2,o,p,a3,q,r,t,u,x,y,rfl,f6,f7,f8⟩
 refine aC (bI (t':=7) aEs rfl rfl) (eY (i:=10) (ns:=[zS m c.Definitions.length n,zS o c.Components.length p,zS q c.Meetings.length r,zS t c.Allowed.length u,zS x c.Hidden.length y]) (us:=[str a.Name,i64 a.Kind,i64 b.N,i64 b.I,zS d b.L.length e,zS g b.E.length h,zS j l.length k,zS m c.Definitions.length n,zS o c.Components.length p,zS q c.Meetings.length r,zS t c.Allowed.length u,zS x c.Hidden.length y]) sizeOf46 f8 rfl rfl rfl rfl rfl (kI rfl) rfl rfl (fun f9 (d4:aG G K (aT 94 K m n (cD a2 c.Definitions)::rows [147,199,202] a2 c.Definitions::aT 99 K o p (cD a3 c.Components)::rows [2] a3 c.Components::aT 103 K q r c.Meetings::aT 9 K t u c.Allowed::aT 9 K x y c.Hidden::aT 109 K j k l::aT 9 K d e b.L::aT 90 K g h b.E::box a0 48 [str a.Name,i64 a.Kind,i64 b.N,i64 b.I,zS d b.L.length e,zS g b.E.length h,zS j l.length k,zS m c.Definitions.length n,zS o c.Components.length p,zS q c.Meetings.length r,zS t c.Allowed.length u,zS x c.Hidden.length y]::box Z 48 J::box V 62 z::L) f9)=>(aL (aK (aC (kH (us:=[str a.Name,i64 a.Kind,i64 b.N,i64 b.I,zS d b.L.length e,zS g b.E.length h,zS j l.length k,zS m c.Definitions.length n,zS o c.Components.length p,zS q c.Meetings.length r,zS t c.Allowed.length u,zS x c.Hidden.length y]) aOl d4 (i:=10) rfl rfl rfl rfl) (eY (i:=11) (ns:=[str a.Name,i64 a.Kind,i64 b.N,i64 b.I,zS d b.L.length e,zS g b.E.length h,zS j l.length k,zS m c.Definitions.length n,zS o c.Components.length p,zS q c.Meetings.length r,zS t c.Allowed.length u,zS x c.Hidden.length y]) (us:=[str a.Name,i64 a.Kind,i64 b.N,i64 b.I,zS d b.L.length e,zS g b.E.length h,zS j l.length k,zS m c.Definitions.length n,zS o c.Components.length p,zS q c.Meetings.length r,zS t c.Allowed.length u,zS x c.Hidden.length y]) sizeOf48 d4 rfl rfl rfl rfl rfl (kI rfl) rfl rfl (fun g0 (d5:aG G K (aT 94 K m n (cD a2 c.Definitions)::rows [147,199,202] a2 c.Definitions::aT 99 K o p (cD a3 c.Components)::rows [2] a3 c.Components::aT 103 K q r c.Meetings::aT 9 K t u c.Allowed::aT 9 K x y c.Hidden::aT 109 K j k l::aT 9 K d e b.L::aT 90 K g h b.E::box a0 48 [str a.Name,i64 a.Kind,i64 b.N,i64 b.I,zS d b.L.length e,zS g b.E.length h,zS j l.length k,zS m c.Definitions.length n,zS o c.Components.length p,zS q c.Meetings.length r,zS t c.Allowed.length u,zS x c.Hidden.length y]::box Z 48 [str a.Name,i64 a.Kind,i64 b.N,i64 b.I,zS d b.L.length e,zS g b.E.length h,zS j l.length k,zS m c.Definitions.length n,zS o c.Components.length p,zS q c.Meetings.length r,zS t c.Allowed.length u,zS x c.Hidden.length y]::box V 62 z::L) g0)=>(aL ?_))))))))
 obtain rfl:=zI hm
 exact aIA (retQ_m1 results16 (aPL (vs:=[str a.Name,i64 a.Kind,i64 b.N,i64 b.I,zS d b.L.length e,zS g b.E.length h,zS j l.length k,zS m c.Definitions.length n,zS o c.Components.length p,zS q c.Meetings.length r,zS t c.Allowed.length u,zS x c.Hidden.length y]) rfl aOl d5 (i:=11) rfl rfl rfl) ⟨d,e,g,h,j,k,m,n,a2,o,p,a3,q,r,t,u,x,y,rfl,f6,f7,(aG.arr 13 [8,9,7,0,1,2,3,4,5,6] d5 rfl)⟩)
theorem aMF {a R:(List Kept)} (hm:aGG a=some R) (hs:aG G K (L) w) (h3:aY K a1 c2 a):
  Calls prog 11 ([zS a1 a.length c2]:List Value).toArray w (cK fun v w'=>∃ K' d1 d2,v=zS d1 R.length d2/\Hp.le K K'/\aG G K' (aT 48 K' d1 d2 R::L) w'):=by
 refine aM func11 rfl (by kernel_rfl) (by show (1:Nat)<=23;decide) ?_;unfold aGG at hm
 refine aK (aH (v:=zS none 0 0) (aL (aK (aO (v:=zS a1 a.length c2) (aC (aV (len:=a.length) aLY rfl) ?_)))));obtain ⟨d,q5,hm⟩:=aB hm
 refine aHj (e:=(⟨[],0,⟨0,0,[],[]⟩,[],⟨[],[],[],[],[]⟩⟩:Kept)) aBE ez_48 rfl rfl hs rfl rfl rfl q5 ⟨none,0,none,0,none,0,none,0,none,0,none,0,none,0,none,0,rfl,kF _,kF _,kF _,kF _,kF _,kF _,kF _,kF _⟩ (fun h w7 (j4:aG G K (aT 48 K h d.length d::L) w7)=>(aH (v:=zS h d.length d.length) (aL (aI (aK (aH (v:=i64 0) (aL (aQ [] (fun f w=>∃ K9 b6,Hp.le K K9/\aJk b6=some R/\f 3=zS h b6.length d.length/\aG G K9 (aT 48 K9 h d.length b6::L) w) aE ?_))))))))
 obtain ⟨j5,g0,ho⟩:=aB hm
 refine cG [0] g0 (fun k b7 f w=>∃ j,Hp.le K j/\f 3=zS h k.length d.length/\f 4=i64 b7/\aG G j (aT 48 j h d.length k::L) w) aE ?_
 ·rintro k b7 j6 f j7 hm hr ⟨j,g,d3,b0,d4⟩
  unfold wL at hm
  refine aI (aK (bO b0 (aO (v:=zS a1 a.length c2) (aC (aV (len:=a.length) aLY rfl) (aC (dR rfl rfl) (aL ?_))))))
  rcases aJ hm with ⟨d5,hm⟩|⟨d5,hm⟩
  ·refine aS d5 rfl (aU (aF (aI (bK (bQ (bO d3 (bO b0 (aO (v:=zS a1 a.length c2) (bO b0 ?_)))))))));obtain ⟨c,d6,hm⟩:=aB hm
   refine aC (cL aLY rfl (h3.mono g) rfl rfl rfl d6) ?_;obtain ⟨j8,g1,g2⟩:=aY.el (sz:=12) rfl h3 d6
   obtain ⟨d7,d8,d9,e0,e1,e2,e3,e4,e5,e6,e7,e8,e9,f0,f1,f2,rfl,g3,g4,g5,g6,g7,g8,g9,h0⟩:=g2
   refine aC (dU (t:=0) (vs:=[str c.Name,i64 c.Kind,i64 c.S.N,i64 c.S.I,zS d7 c.S.L.length d8,zS d9 c.S.E.length e0,zS e1 c.Formula.length e2,zS e3 c.Source.Definitions.length e4,zS e5 c.Source.Components.length e6,zS e7 c.Source.Meetings.length e8,zS e9 c.Source.Allowed.length f0,zS f1 c.Source.Hidden.length f2]) ag_62 d4 (g1.mono g) rfl rfl rfl) ?_;obtain ⟨b,h1,hm⟩:=aB hm
   refine aW (vs:=[zA #[str c.Name,i64 c.Kind,i64 c.S.N,i64 c.S.I,zS d7 c.S.L.length d8,zS d9 c.S.E.length e0,zS e1 c.Formula.length e2,zS e3 c.Source.Definitions.length e4,zS e5 c.Source.Components.length e6,zS e7 c.Source.Meetings.length e8,zS e9 c.Source.Allowed.length f0,zS f1 c.Source.Hidden.length f2]]) call16 rfl (aHD h1 d4 (g3.mono g) (g4.mono g) (g5.mono g) (g6.mono g) (g7.mono g) (g8.mono g) (g9.mono g) (h0.mono g)) ?_
   rintro _ u ⟨f3,f4,b8,b9,b1,b2,a8,a9,a4,a5,a7,x,V,Z,y,z,l,m,rfl,h2,h4,f5⟩
   obtain ⟨j9,c0,hm⟩:=aB hm
   have h5:=eE f5 (i:=10) rfl c0
   refine aC (iP aBE rfl h5 rfl rfl rfl c0) ?_;obtain ⟨h6,a0,h7,c1⟩:=aG.giveSp f5 g .head
   replace c1:aG G h6 (aT 90 K b8 b9 b.S.E::aT 109 K b1 b2 b.Formula::aT 94 K a8 a9 (cD a4 b.Source.Definitions)::rows [147,199,202] a4 b.Source.Definitions::aT 99 K a5 a7 (cD x b.Source.Components)::rows [2] x b.Source.Components::aT 103 K V Z b.Source.Meetings::aT 9 K y z b.Source.Allowed::aT 9 K l m b.Source.Hidden::aT 48 j h d.length k::L) u:=c1
   obtain ⟨h8,a2,h9,c3⟩:=aG.giveSp c1 (zL g a0) .head
   replace c3:aG G h8 (aT 109 K b1 b2 b.Formula::aT 94 K a8 a9 (cD a4 b.Source.Definitions)::rows [147,199,202] a4 b.Source.Definitions::aT 99 K a5 a7 (cD x b.Source.Components)::rows [2] x b.Source.Components::aT 103 K V Z b.Source.Meetings::aT 9 K y z b.Source.Allowed::aT 9 K l m b.Source.Hidden::aT 48 j h d.length k::L) u:=c3
   obtain ⟨i0,a3,i1,c4⟩:=aG.giveSp c3 (zL (zL g a0) a2) .head
   replace c4:aG G i0 (aT 94 K a8 a9 (cD a4 b.Source.Definitions)::rows [147,199,202] a4 b.Source.Definitions::aT 99 K a5 a7 (cD x b.Source.Components)::rows [2] x b.Source.Components::aT 103 K V Z b.Source.Meetings::aT 9 K y z b.Source.Allowed::aT 9 K l m b.Source.Hidden::aT 48 j h d.length k::L) u:=c4
   obtain ⟨i2,J,i3,_,c5,_⟩:=aG.lendD' (i:=0) c4 h2 rfl rfl
   replace c5:aG G i2 (aT 99 K a5 a7 (cD x b.Source.Components)::rows [2] x b.Source.Components::aT 103 K V Z b.Source.Meetings::aT 9 K y z b.Source.Allowed::aT 9 K l m b.Source.Hidden::aT 48 j h d.length k::L) u:=c5
   obtain ⟨i4,o,i5,_,c6,_⟩:=aG.lendD' (i:=0) c5 h4 rfl rfl
   replace c6:aG G i4 (aT 103 K V Z b.Source.Meetings::aT 9 K y z b.Source.Allowed::aT 9 K l m b.Source.Hidden::aT 48 j h d.length k::L) u:=c6
   obtain ⟨i6,p,i7,c7⟩:=aG.giveSp c6 (zL (zL (zL (zL (zL g a0) a2) a3) J) o) .head
   replace c7:aG G i6 (aT 9 K y z b.Source.Allowed::aT 9 K l m b.Source.Hidden::aT 48 j h d.length k::L) u:=c7
   obtain ⟨i8,q,i9,c8⟩:=aG.giveSp c7 (zL (zL (zL (zL (zL (zL g a0) a2) a3) J) o) p) .head
   replace c8:aG G i8 (aT 9 K l m b.Source.Hidden::aT 48 j h d.length k::L) u:=c8
   obtain ⟨b3,r,j0,c9⟩:=aG.giveSp c8 (zL (zL (zL (zL (zL (zL (zL g a0) a2) a3) J) o) p) q) .head
   replace c9:aG G b3 (aT 48 j h d.length k::L) u:=c9
   obtain ⟨j1,f6,hm⟩:=aB hm
   exact WO_stE (i:=0) (ns:=[str b.Name,i64 b.Kind,i64 b.S.N,i64 b.S.I,zS f3 b.S.L.length f4,zS b8 b.S.E.length b9,zS b1 b.Formula.length b2,zS a8 b.Source.Definitions.length a9,zS a5 b.Source.Components.length a7,zS V b.Source.Meetings.length Z,zS y b.Source.Allowed.length z,zS l b.Source.Hidden.length m]) (e':=(⟨b.Name,b.Kind,⟨b.S.N,b.S.I,b.S.L,b.S.E⟩,b.Formula,⟨b.Source.Definitions,b.Source.Components,b.Source.Meetings,b.Source.Allowed,b.Source.Hidden⟩⟩:Kept)) sizeOf48 c9 rfl (zL (zL (zL (zL (zL (zL (zL a0 a2) a3) J) o) p) q) r) rfl rfl rfl c0 f6 rfl ⟨f3,f4,b8,b9,b1,b2,a8,a9,a5,a7,V,Z,y,z,l,m,rfl,(h7.mono (zL (zL (zL (zL (zL (zL a2 a3) J) o) p) q) r)),(h9.mono (zL (zL (zL (zL (zL a3 J) o) p) q) r)),(i1.mono (zL (zL (zL (zL J o) p) q) r)),(i3.mono (zL (zL (zL o p) q) r)),(i5.mono (zL (zL p q) r)),(i7.mono (zL q r)),(i9.mono r),j0⟩ (fun j2 (j3:aG G b3 (aT 48 b3 h d.length j1::L) j2)=>(bY (eV (aF (bQ (bO b0 (aC (oD rfl rfl) (aH (v:=i64 (wr (b7+1))) (aL ⟨_,(zI hm).symm,gH,b3,(zL (zL (zL (zL (zL (zL (zL (zL g a0) a2) a3) J) o) p) q) r),(Eq.trans d3 (congrArg (fun n=>zS h n d.length) (uC f6))),rfl,j3⟩)))))))))
  ·exact aE
theorem zQ {a R:vI} (hm:aDT a=some R) (e:aG G K (L) w) (g:aY K a1 c2 a.Kept):
  Calls prog 6 ([zA #[zS a1 a.Kept.length c2]]:List Value).toArray w (cK fun v w'=>∃ b c d,v=zA #[zS c R.Kept.length d]/\Hp.le K b/\aG G b (aT 48 b c d R.Kept::L) w'):=by
 exact aE
theorem oB {b c:(List Edge)} {R:Bool} (hm:dW b c=some R) (J:aG G K (L) w) (h:aY K a1 c2 b) (i:aY K a4 c5 c):
  Calls prog 42 ([zS a1 b.length c2,zS a4 c.length c5]:List Value).toArray w (cK fun v w'=>v=zB R/\aG G K (L) w'):=by
 refine aM func42 rfl (by kernel_rfl) (by show (2:Nat)<=26;decide) ?_;unfold dW at hm
 refine aK (aH (v:=zB false) (aL (aI (aK (aO (v:=zS a1 b.length c2) (aC (aV (len:=b.length) aBC rfl) (aO (v:=zS a4 c.length c5) (aC (aV (len:=c.length) aBC rfl) (aC (rW rfl rfl) (aL ?_))))))))))
 rcases aJ hm with ⟨j,hm⟩|⟨j,hm⟩
 ·exact aE
 ·refine aP j rfl (aU (aF (aI (aK (aO (v:=zS a1 b.length c2) (aC (aV (len:=b.length) aBC rfl) (aO (v:=i64 0) (aL (aQ [] (fun f w=>iQ=some R/\aG G K (L) w) aE ?_)))))))));obtain ⟨V,o,ho⟩:=aB hm
  refine bP [0,1,12] o (fun d f w=>f 13=i64 d/\aG G K (L) w) aE ?_
  ·rintro d Z f a0 hm hr ⟨k,a⟩
   unfold iR at hm
   refine aK (aC (dR k rfl) (aL (aI ?_)))
   rcases aJ hm with ⟨l,hm⟩|⟨l,hm⟩
   ·refine aS l rfl (aU (aF (aI (bK (aK (bO k (aH (v:=i64 d) (aL (aI (fY (C:=fun w'=>aG G K (L) w') Tryz_mixed (by kernel_rfl) (aG.mono a (eG.drew _)) (bD (fun _ a=>bE (v:=zS a1 b.length c2) rfl) (bD (fun _ a=>bE (v:=i64 d) rfl) ?_))))))))))));obtain ⟨e,m,hm⟩:=aB hm
    refine bD (fun _ a=>cL aBC rfl h rfl rfl rfl m) ?_;obtain ⟨a2,p,q⟩:=aY.el (sz:=3) rfl h m
    cases q
    refine bD (fun _ a=>dU (t:=0) (vs:=[i64 e.F,i64 e.B,i64 e.To]) ag_90 a p rfl rfl rfl) (bD (fun _ a=>bE (v:=zS a4 c.length c5) rfl) (bD (fun _ a=>bE (v:=i64 d) rfl) ?_));obtain ⟨g,n,hm⟩:=aB hm
    refine bD (fun _ a=>cL aBC rfl i rfl rfl rfl n) ?_;obtain ⟨a3,r,u⟩:=aY.el (sz:=3) rfl i n
    cases u
    refine bD (fun _ a=>dU (t:=0) (vs:=[i64 g.F,i64 g.B,i64 g.To]) ag_90 a r rfl rfl rfl) (bD (fun _ a=>R_neqG (eq_90 (x:=e) (y:=g)) rfl rfl) (vE (fun a5 a6=>(aF ?_))))
    rcases aJ hm with ⟨z,hm⟩|⟨z,hm⟩
    ·exact aE
    ·exact aE
   ·exact aE
end Gv
