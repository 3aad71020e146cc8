/- Walks, printed by program. -/
import Derived.Test.YtpkpcpikpobloaaGreatDoorJWk3
set_option linter.all false
namespace Gv
open Gv.Hp renaming le_refl→zR
open Go.Value renaming slice→zS,bool→zB
open Option.some renaming inj→zI
open Go Go.Proofs Go.Proofs.Tryz
set_option maxRecDepth 20000
set_option maxHeartbeats 40000000
variable {G:kE} {K:Hp} {L:List eV} {w:World} {a1 a4 a7 a10 a13 a16 a19 a22 a25:Option Addr} {c2 c5 c8 c11 c14 c17 c20 c23 c26:Nat}
theorem aGZ {e:(List aS)} {R:aK} (hm:vM e=some R) (hs:aG G K (L) w) (h3:aX K a1 c2 e):
  Calls prog 222 ([zS a1 e.length c2]:List Value).toArray w (cJ fun v w'=>v=str R/\aG G K (L) w'):=by
 refine aN func222 rfl (by kernel_rfl) (by show (1:Nat)<=137;decide) ?_;unfold vM at hm
 refine aL (aI (v:=str ([]:aK)) (aM (aL (dH (Kt:=K) (xs:=([]:List aK)) (cs:=[]) (vs:=[]) cU pT rfl rfl hs rfl (by kernel_rfl) rfl rfl rfl trivial (fun a4 w5 (i1:aG G K (aV 9 K a4 0 ([]:List aK)::L) w5)=>(aI (v:=zS a4 ([]:List aK).length 0) (aM (aL (dH (Kt:=K) (xs:=([]:List Int)) (cs:=[]) (vs:=[]) dW yK rfl rfl i1 rfl (by kernel_rfl) rfl rfl rfl trivial (fun a7 w8 (q1:aG G K (aV 2 K a7 0 ([]:List Int)::aV 9 K a4 0 ([]:List aK)::L) w8)=>(aI (v:=zS a7 ([]:List Int).length 0) (aM (aH (aL (aO (v:=zS a1 e.length c2) (aC (aU (len:=e.length) nW rfl) (aC (jM rfl rfl) (aI (v:=i64 (wr ((e.length:Int) - 1))) (aM (aQ [] (fun f w=>∃ c7 e6 e7,aKc c7=some R/\f 3=zS e6 c7.length e7/\aG G K (aV 9 K e6 e7 c7::L) w) aF ?_))))))))))))))))))))
 obtain ⟨q2,i3,ho⟩:=aB hm
 refine aBY [0] i3 (fun c b p f w=>∃ j k d g,f 3=zS j c.length k/\f 4=zS d b.length g/\f 5=i64 p/\aG G K (aV 2 K d g b::aV 9 K j k c::L) w) aF ?_
 ·rintro c b p a5 f q3 hm hr ⟨j,k,d,g,o,a6,c8,e8⟩
  unfold oA at hm
  refine aH (aL (bO c8 (aC (aPh rfl rfl) (aM ?_))))
  rcases aJ hm with ⟨e9,hm⟩|⟨e9,hm⟩
  ·refine aR e9 rfl (aT (aE (aH (bJ (aL (aO (v:=zS a1 e.length c2) (bO c8 ?_)))))));obtain ⟨a,f0,hm⟩:=aB hm
   refine aC (cK nW rfl h3 rfl rfl rfl f0) ?_;obtain ⟨q4,i4,i5⟩:=aX.el (sz:=2) rfl h3 f0
   cases i5
   refine aC (dQ (t:=0) (vs:=[i64 a.Kind,i64 a.Value]) aIT e8 i4 rfl rfl rfl) (dV (vs:=[i64 0,i64 0]) zeroValue242 e8 rfl (fun l q5 i6=>(eW (i:=0) (ns:=[i64 a.Kind,i64 a.Value]) (us:=[i64 a.Kind,i64 a.Value]) sizeOf242 i6 rfl rfl rfl rfl rfl (jY rfl) rfl rfl (fun i7 (m:aG G K (box l 242 [i64 a.Kind,i64 a.Value]::aV 2 K d g b::aV 9 K j k c::L) i7)=>(aM (aL (bO o (aC (aU (len:=c.length) cU rfl) (aC (jM rfl rfl) (aI (v:=i64 (wr ((c.length:Int) - 1))) (aM (aL (aC (bG (t':=0) aGw rfl rfl) (aC (cX gH m (i:=0) rfl rfl rfl) (aM (aQ [0,5] (fun f w=>∃ a8 a9 b0 b1 b2 b3,jI p a8 a9=some a5/\f 3=zS b0 a8.length b1/\f 4=zS b2 a9.length b3/\aG G K (aV 2 K b2 b3 a9::aV 9 K b0 b1 a8::L) w) ?_ ?_))))))))))))))))
   ·rintro f q6 ⟨a8,a9,b0,b1,b2,b3,hm,i8,i9,j0⟩
    unfold jI at hm
    exact eK (aE (bL (bO c8 (aC (jM rfl rfl) (aI (v:=i64 (wr (p - 1))) (aM ⟨_,(zI hm).symm,gB,b0,b1,b2,b3,i8,i9,rfl,j0⟩))))))
   refine aL (aC (dP rfl rfl) (aI (v:=zB (a.Kind == 0)) (aM ?_)))
   rcases aJ hm with ⟨c9,hm⟩|⟨c9,hm⟩
   ·refine aR c9 rfl (aL (bO o (aC (bG (t':=1) aCc rfl rfl) (aC (cX gH m (i:=0) rfl rfl rfl) ?_))));obtain ⟨b4,j1,hm⟩:=aB hm
    refine aW (vs:=[i64 a.Value]) call80 rfl (kW j1 m) ?_
    rintro _ q7 ⟨rfl,j2⟩
    refine dH (Kt:=K) (xs:=([b4]:List aK)) (cs:=[str b4]) (vs:=[(0,str b4)]) cU pT rfl rfl j2 rfl (by kernel_rfl) rfl rfl rfl ⟨rfl,trivial⟩ (fun j3 j4 (j5:aG G K (aV 9 K j3 1 ([b4]:List aK)::box l 242 [i64 a.Kind,i64 a.Value]::aV 2 K d g b::aV 9 K j k c::L) j4)=>?_);obtain ⟨q,j6,hm⟩:=aB hm
    refine jT (i:=2) cU underlying39 pT rfl rfl j5 rfl (zR _) (zR _) j6 rfl rfl rfl rfl (fun _ h=>h) (fun r u j7 (j8:aG G K (box l 242 [i64 a.Kind,i64 a.Value]::aV 2 K d g b::aV 9 K r u q::L) j7)=>(aI (v:=zS r q.length u) (aM (bL (bO a6 (dH (Kt:=K) (xs:=([7]:List Int)) (cs:=[i64 7]) (vs:=[(0,i64 7)]) dW yK rfl rfl j8 rfl (by kernel_rfl) rfl rfl rfl ⟨rfl,trivial⟩ (fun j9 k0 (k1:aG G K (aV 2 K j9 1 ([7]:List Int)::box l 242 [i64 a.Kind,i64 a.Value]::aV 2 K d g b::aV 9 K r u q::L) k0)=>?_)))))))
    obtain ⟨d0,k2,hm⟩:=aB hm
    exact jT (i:=1) dW underlying108 yK rfl rfl k1 rfl (zR _) (zR _) k2 rfl rfl rfl rfl (fun _ h=>h) (fun d1 d2 k3 (k4:aG G K (box l 242 [i64 a.Kind,i64 a.Value]::aV 2 K d1 d2 d0::aV 9 K r u q::L) k3)=>(aI (v:=zS d1 d0.length d2) (bR (eK (aE ⟨gB,q,d0,r,u,d1,d2,hm,rfl,rfl,(aG.arr 1 [] k4 rfl)⟩)))))
   ·refine aP c9 rfl (aL (aC (dP rfl rfl) (aI (v:=zB (a.Kind == 1)) (aM ?_))))
    rcases aJ hm with ⟨d3,hm⟩|⟨d3,hm⟩
    ·refine aR d3 rfl (aL (bO o (aC (bG (t':=1) aCc rfl rfl) (aC (cX gH m (i:=0) rfl rfl rfl) ?_))));obtain ⟨q8,k5,hm⟩:=aB hm
     refine aW (vs:=[i64 a.Value]) call80 rfl (kW k5 m) ?_
     rintro _ q9 ⟨rfl,k6⟩
     obtain ⟨b5,k7,hm⟩:=aB hm
     refine aC (eA rfl rfl k7) (dH (Kt:=K) (xs:=([b5]:List aK)) (cs:=[str b5]) (vs:=[(0,str b5)]) cU pT rfl rfl k6 rfl (by kernel_rfl) rfl rfl rfl ⟨rfl,trivial⟩ (fun k8 k9 (l0:aG G K (aV 9 K k8 1 ([b5]:List aK)::box l 242 [i64 a.Kind,i64 a.Value]::aV 2 K d g b::aV 9 K j k c::L) k9)=>?_));obtain ⟨x,l1,hm⟩:=aB hm
     refine jT (i:=2) cU underlying39 pT rfl rfl l0 rfl (zR _) (zR _) l1 rfl rfl rfl rfl (fun _ h=>h) (fun y z l2 (l3:aG G K (box l 242 [i64 a.Kind,i64 a.Value]::aV 2 K d g b::aV 9 K y z x::L) l2)=>(aI (v:=zS y x.length z) (aM (bL (bO a6 (dH (Kt:=K) (xs:=([7]:List Int)) (cs:=[i64 7]) (vs:=[(0,i64 7)]) dW yK rfl rfl l3 rfl (by kernel_rfl) rfl rfl rfl ⟨rfl,trivial⟩ (fun l4 l5 (l6:aG G K (aV 2 K l4 1 ([7]:List Int)::box l 242 [i64 a.Kind,i64 a.Value]::aV 2 K d g b::aV 9 K y z x::L) l5)=>?_)))))))
     obtain ⟨d4,l7,hm⟩:=aB hm
     exact jT (i:=1) dW underlying108 yK rfl rfl l6 rfl (zR _) (zR _) l7 rfl rfl rfl rfl (fun _ h=>h) (fun d5 d6 l8 (l9:aG G K (box l 242 [i64 a.Kind,i64 a.Value]::aV 2 K d5 d6 d4::aV 9 K y z x::L) l8)=>(aI (v:=zS d5 d4.length d6) (bR (eK (aE ⟨gB,x,d4,y,z,d5,d6,hm,rfl,rfl,(aG.arr 1 [] l9 rfl)⟩)))))
    ·refine aP d3 rfl (aL (aC (dP rfl rfl) (aI (v:=zB (a.Kind == 3)) (aM ?_))))
     rcases aJ hm with ⟨d7,hm⟩|⟨d7,hm⟩
     ·refine aR d7 rfl (aL (bO o (aO (v:=i64 (wr ((c.length:Int) - 1))) ?_)));obtain ⟨m0,d8,hm⟩:=aB hm
      have m1:=eG m (i:=2) rfl d8
      refine aC (iU cU rfl m1 rfl rfl rfl d8) (aC (oP (t:=0) nV m (i:=2) rfl d8 rfl rfl rfl) (aI (v:=str m0) (aM (gC [0,3,4,5,7] (fun f w=>∃ d9,wP c b p d9=some a5/\f 8=str d9/\aG G K (aV 2 K d g b::aV 9 K j k c::L) w) ?_ ?_))))
      ·rintro f r0 ⟨d9,hm,m2,f1⟩
       unfold wP at hm
       refine aL (bO o (aO (v:=i64 (wr ((c.length:Int) - 1))) ?_));obtain ⟨m3,f2,hm⟩:=aB hm
       have m4:=pU f1 (i:=1) rfl
       obtain ⟨m5,m6,f3⟩:=Cut.ex 1 j k 0
       refine aC (uU cU m4 f3 rfl rfl rfl f2) (bO m2 ?_);obtain ⟨J,m7,hm⟩:=aB hm
       refine aC (eA rfl rfl m7) (dH (Kt:=K) (xs:=([J]:List aK)) (cs:=[str J]) (vs:=[(0,str J)]) cU pT rfl rfl f1 rfl (by kernel_rfl) rfl rfl rfl ⟨rfl,trivial⟩ (fun f4 f5 (m8:aG G K (aV 9 K f4 1 ([J]:List aK)::aV 2 K d g b::aV 9 K j k c::L) f5)=>?_))
       have m9:aG G K (aV 9 K f4 1 ([J]:List aK)::aV 2 K d g b::aV 9 K m5 m6 m3::L) f5:=aG.cutP m8 (i:=2) rfl f2 f3
       obtain ⟨b6,n0,hm⟩:=aB hm
       refine jT (i:=1) cU underlying39 pT rfl rfl m9 rfl (zR _) (zR _) n0 rfl rfl rfl rfl (fun _ h=>h) (fun b7 b8 n1 (f6:aG G K (aV 2 K d g b::aV 9 K b7 b8 b6::L) n1)=>(aI (v:=zS b7 b6.length b8) (aM (bL (bO a6 (aO (v:=i64 (wr ((c.length:Int) - 1))) ?_))))));obtain ⟨n2,f7,hm⟩:=aB hm
       have n3:=pU f6 (i:=0) rfl
       obtain ⟨n4,n5,f8⟩:=Cut.ex 1 d g 0
       refine aC (uU dW n3 f8 rfl rfl rfl f7) (dH (Kt:=K) (xs:=([6]:List Int)) (cs:=[i64 6]) (vs:=[(0,i64 6)]) dW yK rfl rfl f6 rfl (by kernel_rfl) rfl rfl rfl ⟨rfl,trivial⟩ (fun f9 g0 (n6:aG G K (aV 2 K f9 1 ([6]:List Int)::aV 2 K d g b::aV 9 K b7 b8 b6::L) g0)=>?_))
       have r1:aG G K (aV 2 K f9 1 ([6]:List Int)::aV 2 K n4 n5 n2::aV 9 K b7 b8 b6::L) g0:=aG.cutP n6 (i:=1) rfl f7 f8
       exact aF
      exact aF
     ·refine aP d7 rfl (aL (aC (dP rfl rfl) (aI (v:=zB (a.Kind == 2)) (aM ?_))))
      rcases aJ hm with ⟨g1,hm⟩|⟨g1,hm⟩
      ·refine aR g1 rfl (aL (aC (bG (t':=1) aCc rfl rfl) (aC (cX gH m (i:=0) rfl rfl rfl) ?_)));obtain ⟨n,n7,hm⟩:=aB hm
       refine aW (vs:=[i64 a.Value]) call258 rfl (aFZ n7 m) ?_
       rintro _ r2 ⟨rfl,e0⟩
       refine aI (v:=i64 n) (aM (aL (bO o (aO (v:=i64 (wr ((c.length:Int) - 1))) ?_))));obtain ⟨n8,e1,hm⟩:=aB hm
       have g2:=eG e0 (i:=2) rfl e1
       refine aC (iU cU rfl g2 rfl rfl rfl e1) (aC (oP (t:=0) nV e0 (i:=2) rfl e1 rfl rfl rfl) (aI (v:=str n8) (aM (aL (bO o (aO (v:=i64 (wr ((c.length:Int) - 1))) (aC (jM rfl rfl) ?_)))))));obtain ⟨g3,g4,hm⟩:=aB hm
       refine aC (iU cU rfl g2 rfl rfl rfl g4) (aC (oP (t:=0) nV e0 (i:=2) rfl g4 rfl rfl rfl) (aI (v:=str g3) (aM (gC [0,3,4,5,6,7,9,11] (fun f w=>∃ b9,wR c b p a n g3 b9=some a5/\f 10=str b9/\aG G K (box l 242 [i64 a.Kind,i64 a.Value]::aV 2 K d g b::aV 9 K j k c::L) w) ?_ ?_))))
       ·rintro f r3 ⟨b9,hm,n9,r4⟩
        unfold wR at hm
        refine gC [0,3,4,5,6,7,9,10] (fun f w=>∃ e2,wQ c b p a n b9 e2=some a5/\f 11=str e2/\aG G K (box l 242 [i64 a.Kind,i64 a.Value]::aV 2 K d g b::aV 9 K j k c::L) w) ?_ ?_
        ·rintro f r5 ⟨e2,hm,o0,o1⟩
         unfold wQ at hm
         refine aH ?_;obtain ⟨c0,g5,o2,g6,o3⟩:=aG.lendBp o1 .head
         refine lQ (C:=fun w'=>∃ L',aG G c0 L' w') [(0,0),(1,0),(2,0),(3,0),(4,0),(6,0),(7,0),(11,0),(5,1),(8,0),(9,1),(10,0),(12,0),(13,1),(14,1),(15,0)] Tryz_mixed (by kernel_rfl) (fun _ hg=>⟨_,aG.mono g6 hg⟩) (fun r6 o4=>?_)
         have c1:=aG.mono g6 o4
         refine dN rfl (fun _ _=>aZ o) (dN rfl (fun _ _=>aZ (v:=i64 (wr ((c.length:Int) - 1))) rfl) (dN rfl (fun _ _=>jM rfl rfl) ?_));obtain ⟨o5,g7,hm⟩:=aB hm
         have o6:=pU c1 (i:=1) rfl
         obtain ⟨o7,o8,g8⟩:=Cut.ex 1 j k 0
         refine dN rfl (fun _ _=>uU cU o6 g8 rfl rfl rfl g7) (dN rfl (fun _ _=>aZ n9) (dN rfl (fun _ _=>bG (t':=1) aCc rfl rfl) (dN rfl (fun _ ⟨_,c1⟩=>bY (t:=1) gH c1 o2 rfl rfl) (dN rfl (fun _ _=>aZ o0) (vV rfl ?_)))));obtain ⟨V,o9,hm⟩:=aB hm
         refine aW (vs:=[]) call259 rfl (aIy o9 c1) ?_
         rintro _ r7 ⟨Z,a0,rfl,a2⟩
         refine bR (aE ⟨⟨_,a2⟩,?_⟩)
         obtain ⟨r8,e3,hm⟩:=aB hm
         have p0:=eG a2 (i:=0) rfl e3
         refine dN rfl (fun _ _=>iU cU rfl p0 rfl rfl rfl e3) (vV rfl (aC (oP (t:=0) nV a2 (i:=0) rfl e3 rfl rfl rfl) (bR (aE ⟨⟨_,a2⟩,?_⟩))))
         obtain ⟨r9,p1,hm⟩:=aB hm
         refine dN rfl (fun _ _=>eA rfl rfl p1) ?_;obtain ⟨a3,p2,hm⟩:=aB hm
         refine dN rfl (fun _ _=>eA rfl rfl p2) (vV rfl (dH (Kt:=K) (xs:=([a3]:List aK)) (cs:=[str a3]) (vs:=[(0,str a3)]) cU pT rfl rfl a2 rfl (by kernel_rfl) rfl rfl rfl ⟨rfl,trivial⟩ (fun g9 h0 (h1:aG G c0 (aV 9 K g9 1 ([a3]:List aK)::aV 9 K Z a0 V::aV 2 K d g b::aV 9 K j k c::L) h0)=>(bR (aE ⟨⟨_,h1⟩,?_⟩)))))
         refine vV rfl ?_
         have p3:aG G c0 (aV 9 K g9 1 ([a3]:List aK)::aV 9 K Z a0 V::aV 2 K d g b::aV 9 K o7 o8 o5::L) h0:=aG.cutP h1 (i:=3) rfl g7 g8
         obtain ⟨c3,p4,hm⟩:=aB hm
         refine jT (i:=2) cU underlying39 pT rfl rfl p3 rfl g5 g5 p4 rfl rfl rfl rfl (fun _ h=>h) (fun c4 c5 p5 (h2:aG G c0 (aV 9 K Z a0 V::aV 2 K d g b::aV 9 K c4 c5 c3::L) p5)=>(bR (aE ⟨⟨_,h2⟩,?_⟩)))
         refine dN rfl (fun _ _=>dM (v:=zS c4 c3.length c5) rfl) (WE_nil ?_)
         have h4:=o3 _ _ h2
         refine aE (bL (bO a6 (aO (v:=i64 (wr ((c.length:Int) - 1))) (aC (jM rfl rfl) ?_))));obtain ⟨p6,h5,hm⟩:=aB hm
         have p7:=pU h4 (i:=2) rfl
         obtain ⟨p8,p9,h6⟩:=Cut.ex 1 d g 0
         refine aC (uU dW p7 h6 rfl rfl rfl h5) (aO (v:=i64 n) (dH (Kt:=K) (xs:=([n]:List Int)) (cs:=[i64 n]) (vs:=[(0,i64 n)]) dW yK rfl rfl h4 rfl (by kernel_rfl) rfl rfl rfl ⟨rfl,trivial⟩ (fun h7 h8 (q0:aG G K (aV 2 K h7 1 ([n]:List Int)::box l 242 [i64 a.Kind,i64 a.Value]::aV 9 K Z a0 V::aV 2 K d g b::aV 9 K c4 c5 c3::L) h8)=>?_)))
         have s0:aG G K (aV 2 K h7 1 ([n]:List Int)::box l 242 [i64 a.Kind,i64 a.Value]::aV 9 K Z a0 V::aV 2 K p8 p9 p6::aV 9 K c4 c5 c3::L) h8:=aG.cutP q0 (i:=3) rfl h5 h6
         exact aF
        exact aF
       exact aF
      ·exact aF
  ·exact aF
theorem aOQ {a:(List (List aS))} {by_ R:aK} (hm:aGK a by_=some R) (k:aG G K (L) w) (l:aX K a1 c2 a):
  Calls prog 257 ([zS a1 a.length c2,str by_]:List Value).toArray w (cJ fun v w'=>v=str R/\aG G K (L) w'):=by
 refine aN func257 rfl (by kernel_rfl) (by show (2:Nat)<=26;decide) ?_;unfold aGK at hm
 refine aL (aI (v:=str ([]:aK)) (aM (aL (aI (v:=str ([]:aK)) (aM (aH (aL (aI (v:=i64 0) (aM (aQ [] (fun f w=>∃ c,aLQ c=some R/\f 5=str c/\aG G K (L) w) aF ?_))))))))));obtain ⟨m,h,ho⟩:=aB hm
 refine cA [0,1] h (fun d b f w=>f 5=str d/\f 6=i64 b/\aG G K (L) w) aF ?_
 ·rintro d b i f n hm hr ⟨o,j,p⟩
  unfold aAF at hm
  refine aH (aL (bO j (aO (v:=zS a1 a.length c2) (aC (aU (len:=a.length) mT rfl) (aC (dJ rfl rfl) (aM ?_))))))
  rcases aJ hm with ⟨e,hm⟩|⟨e,hm⟩
  ·exact aR e rfl (aT (aE (aH (bJ (gC [0,1,6] (fun f w=>∃ g,aAE a b g=some i/\f 5=str g/\aG G K (L) w) aF aF)))))
  ·exact aF
theorem aCL {a:(List (List aS))} {R:aK} (hm:aEq a=some R) (b:aG G K (L) w) (c:aX K a1 c2 a):
  Calls prog 221 ([zS a1 a.length c2]:List Value).toArray w (cJ fun v w'=>v=str R/\aG G K (L) w'):=by
 exact aF
theorem aNE {b5:(List Definition)} {q:(List bH)} {R:aK} (hm:yV b5 q=some R) (hs:aG G K (L) w) (h3:aX K a1 c2 b5) (h6:aX K a4 c5 q):
  Calls prog 180 ([zS a1 b5.length c2,zS a4 q.length c5]:List Value).toArray w (cJ fun v w'=>v=str R/\aG G K (L) w'):=by
 refine aN func180 rfl (by kernel_rfl) (by show (2:Nat)<=180;decide) ?_;unfold yV at hm
 refine aL (aI (v:=str ([]:aK)) (aM (aL (dH (Kt:=K) (xs:=([]:List aK)) (cs:=[]) (vs:=[]) cU pT rfl rfl hs rfl (by kernel_rfl) rfl rfl rfl trivial (fun a7 w8 (m1:aG G K (aV 9 K a7 0 ([]:List aK)::L) w8)=>(aI (v:=zS a7 ([]:List aK).length 0) (aM (aL (dH (Kt:=K) (xs:=([]:List Bool)) (cs:=[]) (vs:=[]) mU aMf rfl rfl m1 rfl (by kernel_rfl) rfl rfl rfl trivial (fun g4 m2 (a07:aG G K (aV 4 K g4 0 ([]:List Bool)::aV 9 K a7 0 ([]:List aK)::L) m2)=>(aI (v:=zS g4 ([]:List Bool).length 0) (aM (aH (aL (aO (v:=zS a4 q.length c5) (aC (aU (len:=q.length) lO rfl) (aC (jM rfl rfl) (aI (v:=i64 (wr ((q.length:Int) - 1))) (aM (aQ [] (fun f w=>∃ c9 g5 g6,aFl c9=some R/\f 5=zS g5 c9.length g6/\aG G K (aV 9 K g5 g6 c9::L) w) aF ?_))))))))))))))))))))
 obtain ⟨a08,m3,ho⟩:=aB hm
 refine aBY [0,1] m3 (fun e l b6 f w=>∃ m n g j,f 5=zS m e.length n/\f 6=zS g l.length j/\f 7=i64 b6/\aG G K (aV 4 K g j l::aV 9 K m n e::L) w) aF ?_
 ·rintro e l b6 m4 f w51 hm hr ⟨m,n,g,j,o,p,d0,d1⟩
  unfold oB at hm
  refine aH (aL (bO d0 (aC (aPh rfl rfl) (aM ?_))))
  rcases aJ hm with ⟨d2,hm⟩|⟨d2,hm⟩
  ·refine aR d2 rfl (aT (aE (aH (bJ (aL (aO (v:=zS a4 q.length c5) (bO d0 ?_)))))));obtain ⟨a,g7,hm⟩:=aB hm
   refine aC (cK lO rfl h6 rfl rfl rfl g7) ?_;obtain ⟨a11,m5,m6⟩:=aX.el (sz:=4) rfl h6 g7
   obtain ⟨c,d,rfl,b7⟩:=m6
   refine aC (dQ (t:=0) (vs:=[i64 a.Kind,i64 a.Number,str a.Name,zS c a.Arguments.length d]) yM d1 m5 rfl rfl rfl) (dV (vs:=[i64 0,i64 0,str ([]:aK),zS none 0 0]) zeroValue206 d1 rfl (fun k w76 m7=>(eW (i:=0) (ns:=[i64 a.Kind,i64 a.Number,str a.Name,zS c a.Arguments.length d]) (us:=[i64 a.Kind,i64 a.Number,str a.Name,zS c a.Arguments.length d]) sizeOf206 m7 rfl rfl rfl rfl rfl (jY rfl) rfl rfl (fun m8 (b:aG G K (box k 206 [i64 a.Kind,i64 a.Number,str a.Name,zS c a.Arguments.length d]::aV 4 K g j l::aV 9 K m n e::L) m8)=>(aM (aL (bO o (aC (aU (len:=e.length) cU rfl) (aC (jM rfl rfl) (aI (v:=i64 (wr ((e.length:Int) - 1))) (aM (aL (aC (bG (t':=0) oQ rfl rfl) (aC (cX gH b (i:=0) rfl rfl rfl) (aM (aQ [0,1,7] (fun f w=>∃ b8 b9 c0 c1 c3 c4,gU b6 b8 b9=some m4/\f 5=zS c0 b8.length c1/\f 6=zS c3 b9.length c4/\aG G K (aV 4 K c3 c4 b9::aV 9 K c0 c1 b8::L) w) ?_ ?_))))))))))))))))
   ·rintro f w88 ⟨b8,b9,c0,c1,c3,c4,hm,m9,n0,n1⟩
    unfold gU at hm
    exact eK (aE (bL (bO d0 (aC (jM rfl rfl) (aI (v:=i64 (wr (b6 - 1))) (aM ⟨_,(zI hm).symm,gB,c0,c1,c3,c4,m9,n0,rfl,n1⟩))))))
   refine aL (aC (dP rfl rfl) (aI (v:=zB (a.Kind == 0)) (aM ?_)))
   rcases aJ hm with ⟨d3,hm⟩|⟨d3,hm⟩
   ·refine aR d3 rfl (aL (bO o (dH (Kt:=K) (xs:=([([48]:aK)]:List aK)) (cs:=[str ([48]:aK)]) (vs:=[(0,str ([48]:aK))]) cU pT rfl rfl b rfl (by kernel_rfl) rfl rfl rfl ⟨rfl,trivial⟩ (fun n2 n3 (n4:aG G K (aV 9 K n2 1 ([([48]:aK)]:List aK)::box k 206 [i64 a.Kind,i64 a.Number,str a.Name,zS c a.Arguments.length d]::aV 4 K g j l::aV 9 K m n e::L) n3)=>?_))));obtain ⟨b2,n5,hm⟩:=aB hm
    refine jT (i:=2) cU underlying39 pT rfl rfl n4 rfl (zR _) (zR _) n5 rfl rfl rfl rfl (fun _ h=>h) (fun b3 b4 n6 (n7:aG G K (box k 206 [i64 a.Kind,i64 a.Number,str a.Name,zS c a.Arguments.length d]::aV 4 K g j l::aV 9 K b3 b4 b2::L) n6)=>(aI (v:=zS b3 b2.length b4) (aM (bL (bO p (dH (Kt:=K) (xs:=([false]:List Bool)) (cs:=[zB false]) (vs:=[(0,zB false)]) mU aMf rfl rfl n7 rfl (by kernel_rfl) rfl rfl rfl ⟨rfl,trivial⟩ (fun n8 n9 (o0:aG G K (aV 4 K n8 1 ([false]:List Bool)::box k 206 [i64 a.Kind,i64 a.Number,str a.Name,zS c a.Arguments.length d]::aV 4 K g j l::aV 9 K b3 b4 b2::L) n9)=>?_)))))))
    obtain ⟨d4,o1,hm⟩:=aB hm
    exact jT (i:=1) mU underlying282 aMf rfl rfl o0 rfl (zR _) (zR _) o1 rfl rfl rfl rfl (fun _ h=>h) (fun d5 d6 o2 (o3:aG G K (box k 206 [i64 a.Kind,i64 a.Number,str a.Name,zS c a.Arguments.length d]::aV 4 K d5 d6 d4::aV 9 K b3 b4 b2::L) o2)=>(aI (v:=zS d5 d4.length d6) (bR (eK (aE ⟨gB,b2,d4,b3,b4,d5,d6,hm,rfl,rfl,(aG.arr 1 [] o3 rfl)⟩)))))
   ·refine aP d3 rfl (aL (aC (dP rfl rfl) (aI (v:=zB (a.Kind == 5)) (aM ?_))))
    rcases aJ hm with ⟨d7,hm⟩|⟨d7,hm⟩
    ·refine aR d7 rfl (aH ?_);obtain ⟨g8,c6,g9,h0,a15⟩:=aG.lendBp b .head
     refine lQ (C:=fun w'=>∃ L',aG G g8 L' w') [(0,0),(1,0),(2,0),(3,0),(4,0),(5,0),(6,0),(7,0),(8,0),(9,1),(10,0),(11,1),(12,1),(13,0)] Tryz_mixed (by kernel_rfl) (fun _ hg=>⟨_,aG.mono h0 hg⟩) (fun a16 o4=>?_)
     have r:=aG.mono h0 o4
     refine dN rfl (fun _ _=>aZ o) (dN rfl (fun _ _=>aZ (v:=zS a1 b5.length c2) rfl) (dN rfl (fun _ _=>bG (t':=1) aJM rfl rfl) (dN rfl (fun _ ⟨_,r⟩=>bY (t:=1) gH r g9 rfl rfl) ?_)));obtain ⟨a17,h1,hm⟩:=aB hm
     refine dN rfl (fun _ _=>cK qN rfl (h3.mono c6) rfl rfl rfl h1) ?_;obtain ⟨a18,h2,o5⟩:=aX.el (sz:=3) rfl h3 h1
     obtain ⟨a19,a20,rfl,a21⟩:=o5
     refine dN rfl (fun _ _=>cB (k':=a.Number.toNat * 3+0) aEe rfl (h2.mono c6) rfl) (dN rfl (fun _ ⟨_,r⟩=>bY (t:=0) nV r (h2.mono c6) rfl rfl) (dN rfl (fun _ _=>bG (t':=3) oR rfl rfl) (dN rfl (fun _ ⟨_,r⟩=>bY (t:=3) aAW r g9 rfl rfl) (vV rfl ?_))));obtain ⟨a22,o6,hm⟩:=aB hm
     refine aW (vs:=[zS c a.Arguments.length d]) call221 rfl (aCL o6 r (b7.mono c6)) ?_
     rintro _ a23 ⟨rfl,h4⟩
     refine bR (aE ⟨⟨_,h4⟩,?_⟩)
     obtain ⟨c7,o7,hm⟩:=aB hm
     refine dN rfl (fun _ _=>eA rfl rfl o7) (vV rfl (dH (Kt:=K) (xs:=([c7]:List aK)) (cs:=[str c7]) (vs:=[(0,str c7)]) cU pT rfl rfl h4 rfl (by kernel_rfl) rfl rfl rfl ⟨rfl,trivial⟩ (fun o8 o9 (p0:aG G g8 (aV 9 K o8 1 ([c7]:List aK)::aV 4 K g j l::aV 9 K m n e::L) o9)=>(bR (aE ⟨⟨_,p0⟩,?_⟩)))))
     exact vV rfl aF
    ·refine aP d7 rfl (aL (aC (dP rfl rfl) (aI (v:=zB (a.Kind == 2)) (aM ?_))))
     rcases aJ hm with ⟨d8,hm⟩|⟨d8,hm⟩
     ·refine aR d8 rfl (aH (fH (C:=fun w'=>aG G K (box k 206 [i64 a.Kind,i64 a.Number,str a.Name,zS c a.Arguments.length d]::aV 4 K g j l::aV 9 K m n e::L) w') Tryz_mixed (by kernel_rfl) (aG.mono b (eF.drew _)) (aY (fun _ b=>aZ o) (aY (fun _ b=>aZ (v:=i64 (wr ((e.length:Int) - 1))) rfl) ?_))));obtain ⟨p1,d9,hm⟩:=aB hm
      have h5:=eG b (i:=2) rfl d9
      refine aY (fun _ b=>iU cU rfl h5 rfl rfl rfl d9) (aY (fun _ b=>oP (t:=0) nV b (i:=2) rfl d9 rfl rfl rfl) (aY (fun _ b=>aZ p) (aY (fun _ b=>aZ (v:=i64 (wr ((e.length:Int) - 1))) rfl) ?_)));obtain ⟨p2,e0,hm⟩:=aB hm
      have p3:=eG b (i:=1) rfl e0
      refine aY (fun _ b=>iU mU rfl p3 rfl rfl rfl e0) (aY (fun _ b=>oP (t:=0) sc_4 b (i:=1) rfl e0 rfl rfl rfl) ?_);obtain ⟨p4,p5,hm⟩:=aB hm
      refine fS (vs:=[str p1,zB p2]) (v:=str p4) call79 rfl (fun _ b=>(gR p5 b)) ?_;obtain ⟨a24,p6,hm⟩:=aB hm
      refine aY (fun _ b=>eA rfl rfl p6) (aY (fun _ b=>aZ o) (aY (fun _ b=>aZ (v:=i64 (wr ((e.length:Int) - 1))) rfl) (aY (fun _ b=>jM rfl rfl) ?_)));obtain ⟨a25,h7,hm⟩:=aB hm
      refine aY (fun _ b=>iU cU rfl h5 rfl rfl rfl h7) (aY (fun _ b=>oP (t:=0) nV b (i:=2) rfl h7 rfl rfl rfl) ?_);obtain ⟨u,p7,hm⟩:=aB hm
      refine aY (fun _ b=>eA rfl rfl p7) (aY (fun _ b=>dM (v:=str u) rfl) (uT (fun a26 h8=>(aE (aL (bO o (aO (v:=i64 (wr ((e.length:Int) - 1))) (aC (jM rfl rfl) ?_))))))));obtain ⟨p8,h9,hm⟩:=aB hm
      have p9:=pU h8 (i:=2) rfl
      obtain ⟨q0,q1,i0⟩:=Cut.ex 1 m n 0
      refine aC (uU cU p9 i0 rfl rfl rfl h9) (aO (v:=str u) (dH (Kt:=K) (xs:=([u]:List aK)) (cs:=[str u]) (vs:=[(0,str u)]) cU pT rfl rfl h8 rfl (by kernel_rfl) rfl rfl rfl ⟨rfl,trivial⟩ (fun i1 i2 (q2:aG G K (aV 9 K i1 1 ([u]:List aK)::box k 206 [i64 a.Kind,i64 a.Number,str a.Name,zS c a.Arguments.length d]::aV 4 K g j l::aV 9 K m n e::L) i2)=>?_)))
      have q3:aG G K (aV 9 K i1 1 ([u]:List aK)::box k 206 [i64 a.Kind,i64 a.Number,str a.Name,zS c a.Arguments.length d]::aV 4 K g j l::aV 9 K q0 q1 p8::L) i2:=aG.cutP q2 (i:=3) rfl h9 i0
      obtain ⟨J,q4,hm⟩:=aB hm
      refine jT (i:=2) cU underlying39 pT rfl rfl q3 rfl (zR _) (zR _) q4 rfl rfl rfl rfl (fun _ h=>h) (fun V Z q5 (i3:aG G K (box k 206 [i64 a.Kind,i64 a.Number,str a.Name,zS c a.Arguments.length d]::aV 4 K g j l::aV 9 K V Z J::L) q5)=>(aI (v:=zS V J.length Z) (aM (bL (bO p (aO (v:=i64 (wr ((e.length:Int) - 1))) (aC (jM rfl rfl) ?_)))))));obtain ⟨q6,i4,hm⟩:=aB hm
      have q7:=pU i3 (i:=1) rfl
      obtain ⟨q8,q9,i5⟩:=Cut.ex 1 g j 0
      refine aC (uU mU q7 i5 rfl rfl rfl i4) (dH (Kt:=K) (xs:=([true]:List Bool)) (cs:=[zB true]) (vs:=[(0,zB true)]) mU aMf rfl rfl i3 rfl (by kernel_rfl) rfl rfl rfl ⟨rfl,trivial⟩ (fun i6 i7 (r0:aG G K (aV 4 K i6 1 ([true]:List Bool)::box k 206 [i64 a.Kind,i64 a.Number,str a.Name,zS c a.Arguments.length d]::aV 4 K g j l::aV 9 K V Z J::L) i7)=>?_))
      have r1:aG G K (aV 4 K i6 1 ([true]:List Bool)::box k 206 [i64 a.Kind,i64 a.Number,str a.Name,zS c a.Arguments.length d]::aV 4 K q8 q9 q6::aV 9 K V Z J::L) i7:=aG.cutP r0 (i:=2) rfl i4 i5
      obtain ⟨e1,r2,hm⟩:=aB hm
      exact jT (i:=1) mU underlying282 aMf rfl rfl r1 rfl (zR _) (zR _) r2 rfl rfl rfl rfl (fun _ h=>h) (fun e2 e3 r3 (r4:aG G K (box k 206 [i64 a.Kind,i64 a.Number,str a.Name,zS c a.Arguments.length d]::aV 4 K e2 e3 e1::aV 9 K V Z J::L) r3)=>(aI (v:=zS e2 e1.length e3) (bR (eK (aE ⟨gB,J,e1,V,Z,e2,e3,hm,rfl,rfl,(aG.arr 1 [] r4 rfl)⟩)))))
     ·refine aP d8 rfl (aL (aC (dP rfl rfl) (aI (v:=zB (a.Kind == 1)) (aM ?_))))
      rcases aJ hm with ⟨e4,hm⟩|⟨e4,hm⟩
      ·refine aR e4 rfl (aH (fH (C:=fun w'=>aG G K (box k 206 [i64 a.Kind,i64 a.Number,str a.Name,zS c a.Arguments.length d]::aV 4 K g j l::aV 9 K m n e::L) w') Tryz_mixed (by kernel_rfl) (aG.mono b (eF.drew _)) (aY (fun _ b=>bG (t':=2) aJN rfl rfl) (aY (fun _ b=>cX nV b (i:=0) rfl rfl rfl) (aY (fun _ b=>bG (t':=3) oR rfl rfl) (aY (fun _ b=>cX aAW b (i:=0) rfl rfl rfl) ?_))))));obtain ⟨r5,r6,hm⟩:=aB hm
       refine fS (vs:=[zS c a.Arguments.length d]) (v:=str r5) call221 rfl (fun _ b=>(aCL r6 b b7)) ?_;obtain ⟨a27,r7,hm⟩:=aB hm
       refine aY (fun _ b=>eA rfl rfl r7) ?_;obtain ⟨a28,r8,hm⟩:=aB hm
       refine aY (fun _ b=>eA rfl rfl r8) (aY (fun _ b=>aZ o) (aY (fun _ b=>aZ (v:=i64 (wr ((e.length:Int) - 1))) rfl) ?_));obtain ⟨r9,e5,hm⟩:=aB hm
       have s0:=eG b (i:=2) rfl e5
       refine aY (fun _ b=>iU cU rfl s0 rfl rfl rfl e5) (aY (fun _ b=>oP (t:=0) nV b (i:=2) rfl e5 rfl rfl rfl) (aY (fun _ b=>aZ p) (aY (fun _ b=>aZ (v:=i64 (wr ((e.length:Int) - 1))) rfl) ?_)));obtain ⟨s1,e6,hm⟩:=aB hm
       have s2:=eG b (i:=1) rfl e6
       refine aY (fun _ b=>iU mU rfl s2 rfl rfl rfl e6) (aY (fun _ b=>oP (t:=0) sc_4 b (i:=1) rfl e6 rfl rfl rfl) ?_);obtain ⟨s3,s4,hm⟩:=aB hm
       refine fS (vs:=[str r9,zB s1]) (v:=str s3) call79 rfl (fun _ b=>(gR s4 b)) ?_;obtain ⟨x,s5,hm⟩:=aB hm
       refine aY (fun _ b=>eA rfl rfl s5) (aY (fun _ b=>dM (v:=str x) rfl) (uT (fun a29 i8=>(aE (aL (bO o (aO (v:=i64 (wr ((e.length:Int) - 1))) ?_)))))));obtain ⟨s6,i9,hm⟩:=aB hm
       have s7:=pU i8 (i:=2) rfl
       obtain ⟨s8,s9,j0⟩:=Cut.ex 1 m n 0
       refine aC (uU cU s7 j0 rfl rfl rfl i9) (aO (v:=str x) (dH (Kt:=K) (xs:=([x]:List aK)) (cs:=[str x]) (vs:=[(0,str x)]) cU pT rfl rfl i8 rfl (by kernel_rfl) rfl rfl rfl ⟨rfl,trivial⟩ (fun j1 j2 (t0:aG G K (aV 9 K j1 1 ([x]:List aK)::box k 206 [i64 a.Kind,i64 a.Number,str a.Name,zS c a.Arguments.length d]::aV 4 K g j l::aV 9 K m n e::L) j2)=>?_)))
       have t1:aG G K (aV 9 K j1 1 ([x]:List aK)::box k 206 [i64 a.Kind,i64 a.Number,str a.Name,zS c a.Arguments.length d]::aV 4 K g j l::aV 9 K s8 s9 s6::L) j2:=aG.cutP t0 (i:=3) rfl i9 j0
       obtain ⟨a0,t2,hm⟩:=aB hm
       refine jT (i:=2) cU underlying39 pT rfl rfl t1 rfl (zR _) (zR _) t2 rfl rfl rfl rfl (fun _ h=>h) (fun a2 a3 t3 (j3:aG G K (box k 206 [i64 a.Kind,i64 a.Number,str a.Name,zS c a.Arguments.length d]::aV 4 K g j l::aV 9 K a2 a3 a0::L) t3)=>(aI (v:=zS a2 a0.length a3) (aM (bL (bO p (aO (v:=i64 (wr ((e.length:Int) - 1))) ?_))))));obtain ⟨t4,j4,hm⟩:=aB hm
       have t5:=pU j3 (i:=1) rfl
       obtain ⟨t6,t7,j5⟩:=Cut.ex 1 g j 0
       refine aC (uU mU t5 j5 rfl rfl rfl j4) (dH (Kt:=K) (xs:=([false]:List Bool)) (cs:=[zB false]) (vs:=[(0,zB false)]) mU aMf rfl rfl j3 rfl (by kernel_rfl) rfl rfl rfl ⟨rfl,trivial⟩ (fun j6 j7 (t8:aG G K (aV 4 K j6 1 ([false]:List Bool)::box k 206 [i64 a.Kind,i64 a.Number,str a.Name,zS c a.Arguments.length d]::aV 4 K g j l::aV 9 K a2 a3 a0::L) j7)=>?_))
       have t9:aG G K (aV 4 K j6 1 ([false]:List Bool)::box k 206 [i64 a.Kind,i64 a.Number,str a.Name,zS c a.Arguments.length d]::aV 4 K t6 t7 t4::aV 9 K a2 a3 a0::L) j7:=aG.cutP t8 (i:=2) rfl j4 j5
       obtain ⟨e7,u0,hm⟩:=aB hm
       exact jT (i:=1) mU underlying282 aMf rfl rfl t9 rfl (zR _) (zR _) u0 rfl rfl rfl rfl (fun _ h=>h) (fun e8 e9 u1 (u2:aG G K (box k 206 [i64 a.Kind,i64 a.Number,str a.Name,zS c a.Arguments.length d]::aV 4 K e8 e9 e7::aV 9 K a2 a3 a0::L) u1)=>(aI (v:=zS e8 e7.length e9) (bR (eK (aE ⟨gB,a0,e7,a2,a3,e8,e9,hm,rfl,rfl,(aG.arr 1 [] u2 rfl)⟩)))))
      ·refine aP e4 rfl (aL (aC (dP rfl rfl) (aI (v:=zB (a.Kind == 3)) (aM ?_))))
       rcases aJ hm with ⟨f0,hm⟩|⟨f0,hm⟩
       ·refine aR f0 rfl (aH (fH (C:=fun w'=>aG G K (box k 206 [i64 a.Kind,i64 a.Number,str a.Name,zS c a.Arguments.length d]::aV 4 K g j l::aV 9 K m n e::L) w') Tryz_mixed (by kernel_rfl) (aG.mono b (eF.drew _)) (aY (fun _ b=>bG (t':=3) oR rfl rfl) (aY (fun _ b=>cX aAW b (i:=0) rfl rfl rfl) ?_))));obtain ⟨u3,j8,hm⟩:=aB hm
        refine aY (fun _ b=>cK mT rfl b7 rfl rfl rfl j8) ?_;obtain ⟨a30,u4,u5⟩:=aX.el (sz:=1) rfl b7 j8
        obtain ⟨u6,u7,rfl,u8⟩:=u5
        refine aY (fun _ b=>bY (t:=0) aIS b u4 rfl rfl) ?_;obtain ⟨u9,v0,hm⟩:=aB hm
        refine fS (vs:=[zS u6 u3.length u7]) (v:=str u9) call222 rfl (fun _ b=>(aGZ v0 b u8)) ?_;obtain ⟨a31,v1,hm⟩:=aB hm
        refine aY (fun _ b=>eA rfl rfl v1) ?_;obtain ⟨a32,v2,hm⟩:=aB hm
        refine aY (fun _ b=>eA rfl rfl v2) (aY (fun _ b=>aZ o) (aY (fun _ b=>aZ (v:=i64 (wr ((e.length:Int) - 1))) rfl) ?_));obtain ⟨v3,f1,hm⟩:=aB hm
        have v4:=eG b (i:=2) rfl f1
        refine aY (fun _ b=>iU cU rfl v4 rfl rfl rfl f1) (aY (fun _ b=>oP (t:=0) nV b (i:=2) rfl f1 rfl rfl rfl) (aY (fun _ b=>aZ p) (aY (fun _ b=>aZ (v:=i64 (wr ((e.length:Int) - 1))) rfl) ?_)));obtain ⟨v5,f2,hm⟩:=aB hm
        have v6:=eG b (i:=1) rfl f2
        refine aY (fun _ b=>iU mU rfl v6 rfl rfl rfl f2) (aY (fun _ b=>oP (t:=0) sc_4 b (i:=1) rfl f2 rfl rfl rfl) ?_);obtain ⟨v7,v8,hm⟩:=aB hm
        refine fS (vs:=[str v3,zB v5]) (v:=str v7) call79 rfl (fun _ b=>(gR v8 b)) ?_;obtain ⟨y,v9,hm⟩:=aB hm
        refine aY (fun _ b=>eA rfl rfl v9) (aY (fun _ b=>dM (v:=str y) rfl) (uT (fun a33 j9=>(aE (aL (bO o (aO (v:=i64 (wr ((e.length:Int) - 1))) ?_)))))));obtain ⟨w0,k0,hm⟩:=aB hm
        have w1:=pU j9 (i:=2) rfl
        obtain ⟨w2,w3,k1⟩:=Cut.ex 1 m n 0
        refine aC (uU cU w1 k1 rfl rfl rfl k0) (aO (v:=str y) (dH (Kt:=K) (xs:=([y]:List aK)) (cs:=[str y]) (vs:=[(0,str y)]) cU pT rfl rfl j9 rfl (by kernel_rfl) rfl rfl rfl ⟨rfl,trivial⟩ (fun k2 k3 (w4:aG G K (aV 9 K k2 1 ([y]:List aK)::box k 206 [i64 a.Kind,i64 a.Number,str a.Name,zS c a.Arguments.length d]::aV 4 K g j l::aV 9 K m n e::L) k3)=>?_)))
        have w5:aG G K (aV 9 K k2 1 ([y]:List aK)::box k 206 [i64 a.Kind,i64 a.Number,str a.Name,zS c a.Arguments.length d]::aV 4 K g j l::aV 9 K w2 w3 w0::L) k3:=aG.cutP w4 (i:=3) rfl k0 k1
        obtain ⟨a5,w6,hm⟩:=aB hm
        refine jT (i:=2) cU underlying39 pT rfl rfl w5 rfl (zR _) (zR _) w6 rfl rfl rfl rfl (fun _ h=>h) (fun a6 a8 w7 (k4:aG G K (box k 206 [i64 a.Kind,i64 a.Number,str a.Name,zS c a.Arguments.length d]::aV 4 K g j l::aV 9 K a6 a8 a5::L) w7)=>(aI (v:=zS a6 a5.length a8) (aM (bL (bO p (aO (v:=i64 (wr ((e.length:Int) - 1))) ?_))))));obtain ⟨w9,k5,hm⟩:=aB hm
        have x0:=pU k4 (i:=1) rfl
        obtain ⟨x1,x2,k6⟩:=Cut.ex 1 g j 0
        refine aC (uU mU x0 k6 rfl rfl rfl k5) (dH (Kt:=K) (xs:=([false]:List Bool)) (cs:=[zB false]) (vs:=[(0,zB false)]) mU aMf rfl rfl k4 rfl (by kernel_rfl) rfl rfl rfl ⟨rfl,trivial⟩ (fun k7 k8 (x3:aG G K (aV 4 K k7 1 ([false]:List Bool)::box k 206 [i64 a.Kind,i64 a.Number,str a.Name,zS c a.Arguments.length d]::aV 4 K g j l::aV 9 K a6 a8 a5::L) k8)=>?_))
        have x4:aG G K (aV 4 K k7 1 ([false]:List Bool)::box k 206 [i64 a.Kind,i64 a.Number,str a.Name,zS c a.Arguments.length d]::aV 4 K x1 x2 w9::aV 9 K a6 a8 a5::L) k8:=aG.cutP x3 (i:=2) rfl k5 k6
        obtain ⟨f3,x5,hm⟩:=aB hm
        exact jT (i:=1) mU underlying282 aMf rfl rfl x4 rfl (zR _) (zR _) x5 rfl rfl rfl rfl (fun _ h=>h) (fun f4 f5 x6 (x7:aG G K (box k 206 [i64 a.Kind,i64 a.Number,str a.Name,zS c a.Arguments.length d]::aV 4 K f4 f5 f3::aV 9 K a6 a8 a5::L) x6)=>(aI (v:=zS f4 f3.length f5) (bR (eK (aE ⟨gB,a5,f3,a6,a8,f4,f5,hm,rfl,rfl,(aG.arr 1 [] x7 rfl)⟩)))))
       ·refine aP f0 rfl (aL (aC (dP rfl rfl) (aI (v:=zB (a.Kind == 4)) (aM ?_))))
        rcases aJ hm with ⟨f6,hm⟩|⟨f6,hm⟩
        ·refine aR f6 rfl (aH (fH (C:=fun w'=>aG G K (box k 206 [i64 a.Kind,i64 a.Number,str a.Name,zS c a.Arguments.length d]::aV 4 K g j l::aV 9 K m n e::L) w') Tryz_mixed (by kernel_rfl) (aG.mono b (eF.drew _)) (aY (fun _ b=>bG (t':=1) aJM rfl rfl) (aY (fun _ b=>cX gH b (i:=0) rfl rfl rfl) ?_))));obtain ⟨x8,x9,hm⟩:=aB hm
         refine fS (vs:=[i64 a.Number]) (v:=str x8) call80 rfl (fun _ b=>(kW x9 b)) ?_;obtain ⟨a34,y0,hm⟩:=aB hm
         refine aY (fun _ b=>eA rfl rfl y0) ?_;obtain ⟨a35,y1,hm⟩:=aB hm
         refine aY (fun _ b=>eA rfl rfl y1) (aY (fun _ b=>aZ o) (aY (fun _ b=>aZ (v:=i64 (wr ((e.length:Int) - 1))) rfl) ?_));obtain ⟨y2,f7,hm⟩:=aB hm
         have y3:=eG b (i:=2) rfl f7
         refine aY (fun _ b=>iU cU rfl y3 rfl rfl rfl f7) (aY (fun _ b=>oP (t:=0) nV b (i:=2) rfl f7 rfl rfl rfl) (aY (fun _ b=>aZ p) (aY (fun _ b=>aZ (v:=i64 (wr ((e.length:Int) - 1))) rfl) ?_)));obtain ⟨y4,f8,hm⟩:=aB hm
         have y5:=eG b (i:=1) rfl f8
         refine aY (fun _ b=>iU mU rfl y5 rfl rfl rfl f8) (aY (fun _ b=>oP (t:=0) sc_4 b (i:=1) rfl f8 rfl rfl rfl) ?_);obtain ⟨y6,y7,hm⟩:=aB hm
         refine fS (vs:=[str y2,zB y4]) (v:=str y6) call79 rfl (fun _ b=>(gR y7 b)) ?_;obtain ⟨z,y8,hm⟩:=aB hm
         refine aY (fun _ b=>eA rfl rfl y8) (aY (fun _ b=>dM (v:=str z) rfl) (uT (fun a36 k9=>(aE (aL (bO o (aO (v:=i64 (wr ((e.length:Int) - 1))) ?_)))))));obtain ⟨y9,l0,hm⟩:=aB hm
         have z0:=pU k9 (i:=2) rfl
         obtain ⟨z1,z2,l1⟩:=Cut.ex 1 m n 0
         refine aC (uU cU z0 l1 rfl rfl rfl l0) (aO (v:=str z) (dH (Kt:=K) (xs:=([z]:List aK)) (cs:=[str z]) (vs:=[(0,str z)]) cU pT rfl rfl k9 rfl (by kernel_rfl) rfl rfl rfl ⟨rfl,trivial⟩ (fun l2 l3 (z3:aG G K (aV 9 K l2 1 ([z]:List aK)::box k 206 [i64 a.Kind,i64 a.Number,str a.Name,zS c a.Arguments.length d]::aV 4 K g j l::aV 9 K m n e::L) l3)=>?_)))
         have z4:aG G K (aV 9 K l2 1 ([z]:List aK)::box k 206 [i64 a.Kind,i64 a.Number,str a.Name,zS c a.Arguments.length d]::aV 4 K g j l::aV 9 K z1 z2 y9::L) l3:=aG.cutP z3 (i:=3) rfl l0 l1
         obtain ⟨a9,z5,hm⟩:=aB hm
         refine jT (i:=2) cU underlying39 pT rfl rfl z4 rfl (zR _) (zR _) z5 rfl rfl rfl rfl (fun _ h=>h) (fun b0 b1 z6 (l4:aG G K (box k 206 [i64 a.Kind,i64 a.Number,str a.Name,zS c a.Arguments.length d]::aV 4 K g j l::aV 9 K b0 b1 a9::L) z6)=>(aI (v:=zS b0 a9.length b1) (aM (bL (bO p (aO (v:=i64 (wr ((e.length:Int) - 1))) ?_))))));obtain ⟨z7,l5,hm⟩:=aB hm
         have z8:=pU l4 (i:=1) rfl
         obtain ⟨z9,a00,l6⟩:=Cut.ex 1 g j 0
         refine aC (uU mU z8 l6 rfl rfl rfl l5) (dH (Kt:=K) (xs:=([false]:List Bool)) (cs:=[zB false]) (vs:=[(0,zB false)]) mU aMf rfl rfl l4 rfl (by kernel_rfl) rfl rfl rfl ⟨rfl,trivial⟩ (fun l7 l8 (a01:aG G K (aV 4 K l7 1 ([false]:List Bool)::box k 206 [i64 a.Kind,i64 a.Number,str a.Name,zS c a.Arguments.length d]::aV 4 K g j l::aV 9 K b0 b1 a9::L) l8)=>?_))
         have a02:aG G K (aV 4 K l7 1 ([false]:List Bool)::box k 206 [i64 a.Kind,i64 a.Number,str a.Name,zS c a.Arguments.length d]::aV 4 K z9 a00 z7::aV 9 K b0 b1 a9::L) l8:=aG.cutP a01 (i:=2) rfl l5 l6
         obtain ⟨f9,a03,hm⟩:=aB hm
         exact jT (i:=1) mU underlying282 aMf rfl rfl a02 rfl (zR _) (zR _) a03 rfl rfl rfl rfl (fun _ h=>h) (fun g0 g1 a04 (a05:aG G K (box k 206 [i64 a.Kind,i64 a.Number,str a.Name,zS c a.Arguments.length d]::aV 4 K g0 g1 f9::aV 9 K b0 b1 a9::L) a04)=>(aI (v:=zS g0 f9.length g1) (bR (eK (aE ⟨gB,a9,f9,b0,b1,g0,g1,hm,rfl,rfl,(aG.arr 1 [] a05 rfl)⟩)))))
        ·exact aP f6 rfl (aT (eK (aE ⟨gB,e,l,m,n,g,j,hm,o,p,(aG.arr 1 [] b rfl)⟩)))
  ·refine aP d2 rfl (aPL (aEQ (aEQ ?_)))
   have a06:=hr _ (zI hm).symm
   subst a06
   have hm:(aFl e)=some R:=ho
   clear hr ho
   exact aJB (aE ⟨gB,e,m,n,hm,o,(aG.arr 1 [] d1 rfl)⟩)
theorem aNF {a:(List Definition)} {k:Int} {R:aK} (hm:aHx a k=some R) (b:aG G K (L) w) (c:aX K a1 c2 a):
  Calls prog 137 ([zS a1 a.length c2,i64 k]:List Value).toArray w (cJ fun v w'=>v=str R/\aG G K (L) w'):=by
 exact aF
theorem aNG {a:(List Int)} {R:aK} (hm:aEr a=some R) (l:aG G K (L) w) (m:aX K a1 c2 a):
  Calls prog 138 ([zS a1 a.length c2]:List Value).toArray w (cJ fun v w'=>v=str R/\aG G K (L) w'):=by
 refine aN func138 rfl (by kernel_rfl) (by show (1:Nat)<=26;decide) ?_;unfold aEr at hm
 refine aL (aI (v:=str ([]:aK)) (aM (aH (aL (aO (v:=zS a1 a.length c2) (aC (aU (len:=a.length) dW rfl) (aC (dP rfl rfl) (aM ?_))))))))
 rcases aJ hm with ⟨c,hm⟩|⟨c,hm⟩
 ·exact aF
 ·refine aP c rfl (aT (aE (aL (aI (v:=str ([]:aK)) (aM (aH (aL (aI (v:=i64 0) (aM (aQ [] (fun f w=>∃ d,aKd d=some R/\f 3=str d/\aG G K (L) w) aF ?_))))))))));obtain ⟨n,i,ho⟩:=aB hm
  refine cA [0] i (fun e b f w=>f 3=str e/\f 4=i64 b/\aG G K (L) w) aF ?_
  ·rintro e b j f o hm hr ⟨p,k,q⟩
   unfold oC at hm
   refine aH (aL (bO k (aO (v:=zS a1 a.length c2) (aC (aU (len:=a.length) dW rfl) (aC (dJ rfl rfl) (aM ?_))))))
   rcases aJ hm with ⟨g,hm⟩|⟨g,hm⟩
   ·exact aR g rfl (aT (aE (aH (bJ (gC [0,4] (fun f w=>∃ h,aBy a b h=some j/\f 3=str h/\aG G K (L) w) aF aF)))))
   ·exact aF
theorem aMs {a:aK} {b:(List aK)} {R:aK} (hm:yW a b=some R) (h:aG G K (L) w) (i:aX K a1 c2 b):
  Calls prog 139 ([str a,zS a1 b.length c2]:List Value).toArray w (cJ fun v w'=>v=str R/\aG G K (L) w'):=by
 refine aN func139 rfl (by kernel_rfl) (by show (2:Nat)<=22;decide) ?_;unfold yW at hm
 refine aL (aI (v:=str ([]:aK)) (aM (aL (aO (v:=str a) (aI (v:=str a) (aM (aH (aL (aI (v:=i64 0) (aM (aQ [] (fun f w=>∃ c,aDS c=some R/\f 5=str c/\aG G K (L) w) aF ?_)))))))))));obtain ⟨j,d,ho⟩:=aB hm
 exact cA [1] d (fun e g f w=>f 5=str e/\f 6=i64 g/\aG G K (L) w) aF aF
theorem aGa {a:bM} {j:Nat} {R:(List aK)} (hm:aCx a=some R) (hs:aG G K (L) w) (m:eM K a1 j [zS a4 a.Definitions.length c5,zS a7 a.Components.length c8,zS a10 a.Meetings.length c11,zS a13 a.Allowed.length c14,zS a16 a.Hidden.length c17]) (h6:aX K a4 c5 a.Definitions) (h9:aX K a7 c8 a.Components) (d8:aX K a10 c11 a.Meetings) (d9:aX K a13 c14 a.Allowed) (e0:aX K a16 c17 a.Hidden):
  Calls prog 83 ([cD a1 j]:List Value).toArray w (cJ fun v w'=>∃ x y,v=zS x R.length y/\aG G K (aV 9 K x y R::L) w'):=by
 refine aN func83 rfl (by kernel_rfl) (by show (1:Nat)<=139;decide) ?_;unfold aCx at hm
 refine aL (aI (v:=zS none 0 0) (aM (aL (dH (Kt:=K) (xs:=([]:List aK)) (cs:=[]) (vs:=[]) cU pT rfl rfl hs rfl (by kernel_rfl) rfl rfl rfl trivial (fun z b7 (e1:aG G K (aV 9 K z 0 ([]:List aK)::L) b7)=>(aI (v:=zS z ([]:List aK).length 0) (aM (aH (aL (aI (v:=i64 0) (aM (aQ [0] (fun f w=>∃ b c d,aAk a b=some R/\f 3=zS c b.length d/\aG G K (aV 9 K c d b::L) w) ?_ ?_))))))))))))
 ·rintro f e2 ⟨b,c,d,hm,b8,e3⟩
  unfold aAk at hm
  refine aE (aL (aI (v:=str ([114,117,110,32]:aK)) (aM (aH (aL (aI (v:=i64 0) (aM (aQ [0,3] (fun f w=>∃ e,aAj a b e=some R/\f 5=str e/\aG G K (aV 9 K c d b::L) w) ?_ ?_))))))))
  ·rintro f e4 ⟨e,hm,b9,c0⟩
   unfold aAj at hm
   refine aE (aL (bO b8 (bO b9 (dH (Kt:=K) (xs:=([e]:List aK)) (cs:=[str e]) (vs:=[(0,str e)]) cU pT rfl rfl c0 rfl (by kernel_rfl) rfl rfl rfl ⟨rfl,trivial⟩ (fun c1 c2 (c3:aG G K (aV 9 K c1 1 ([e]:List aK)::aV 9 K c d b::L) c2)=>?_)))));obtain ⟨J,c4,hm⟩:=aB hm
   refine jT (i:=0) cU underlying39 pT rfl rfl c3 rfl (zR _) (zR _) c4 rfl rfl rfl rfl (fun _ h=>h) (fun V Z c6 (e5:aG G K (aV 9 K V Z J::L) c6)=>(aI (v:=zS V J.length Z) (aM (aH (aL (aI (v:=i64 0) (aM (aQ [0] (fun f w=>∃ k n o,aAh a k=some R/\f 3=zS n k.length o/\aG G K (aV 9 K n o k::L) w) ?_ ?_))))))))
   ·rintro f e6 ⟨k,n,o,hm,e7,e8⟩
    unfold aAh at hm
    refine aE (gC [0] (fun f w=>∃ l p q,pH a l=some R/\f 3=zS p l.length q/\aG G K (aV 9 K p q l::L) w) ?_ ?_)
    ·rintro f e9 ⟨l,p,q,hm,f0,f1⟩
     unfold pH at hm
     exact gC [] (fun f w=>∃ r a0 a2,aAg r=some R/\f 3=zS a0 r.length a2/\aG G K (aV 9 K a0 a2 r::L) w) aF aF
    exact aF
   obtain ⟨f2,c7,ho⟩:=aB hm
   exact cA [0] c7 (fun a3 c9 f w=>∃ a5 a6,f 3=zS a5 a3.length a6/\f 8=i64 c9/\aG G K (aV 9 K a5 a6 a3::L) w) aF aF
  obtain ⟨f3,d0,ho⟩:=aB hm
  refine cA [0,3] d0 (fun a8 g f w=>f 5=str a8/\f 6=i64 g/\aG G K (aV 9 K c d b::L) w) aF ?_
  ·rintro a8 g a9 f f4 hm hr ⟨f5,b0,d1⟩
   unfold tL at hm
   refine aH (aL (bO b0 (aO (v:=cD a1 j) (aC (dA rfl m) (aC (cB (k':=j+1) aDg rfl m rfl) (aC (bY (t:=1) aNa d1 m rfl rfl) (aC (aU (len:=a.Components.length) xZ rfl) (aC (dJ rfl rfl) (aM ?_)))))))))
   rcases aJ hm with ⟨b1,hm⟩|⟨b1,hm⟩
   ·refine aR b1 rfl (aT (aE (aH (aQ [0,3,6] (fun f w=>∃ u,tJ g u=some a9/\f 5=str u/\aG G K (aV 9 K c d b::L) w) ?_ ?_))))
    ·rintro f f6 ⟨u,hm,d2,d3⟩
     unfold tJ at hm
     exact aE (bL (bO b0 (aC (mQ rfl rfl) (aI (v:=i64 (wr (g+1))) (aM ⟨_,(zI hm).symm,gB,d2,rfl,d3⟩)))))
    exact gC [0,3,6] (fun f w=>∃ b2,tK a g b2=some a9/\f 5=str b2/\aG G K (aV 9 K c d b::L) w) aF aF
   ·exact aF
 obtain ⟨f7,d4,ho⟩:=aB hm
 exact cA [0] d4 (fun b3 d5 f w=>∃ b4 b5,f 3=zS b4 b3.length b5/\f 4=i64 d5/\aG G K (aV 9 K b4 b5 b3::L) w) aF aF
theorem aCM {a:bM} {c:Nat} {R:aK} (hm:yX a=some R) (l:aG G K (L) w) (m:eM K a1 c [zS a4 a.Definitions.length c5,zS a7 a.Components.length c8,zS a10 a.Meetings.length c11,zS a13 a.Allowed.length c14,zS a16 a.Hidden.length c17]) (n:aX K a4 c5 a.Definitions) (o:aX K a7 c8 a.Components) (p:aX K a10 c11 a.Meetings) (q:aX K a13 c14 a.Allowed) (r:aX K a16 c17 a.Hidden):
  Calls prog 41 ([cD a1 c]:List Value).toArray w (cJ fun v w'=>v=str R/\aG G K (L) w'):=by
 refine aN func41 rfl (by kernel_rfl) (by show (1:Nat)<=25;decide) ?_;unfold yX at hm
 refine aL (aI (v:=str ([]:aK)) (aM (aL (aO (v:=cD a1 c) ?_))));obtain ⟨b,t,hm⟩:=aB hm
 refine aW (vs:=[cD a1 c]) call83 rfl (aGa t l m n o p q r) ?_
 rintro _ z ⟨d,e,rfl,J⟩
 refine aI (v:=zS d b.length e) (aM (aL (aI (v:=str ([]:aK)) (aM (aH (aL (aI (v:=i64 0) (aM (aQ [] (fun f w=>∃ h,aKe h=some R/\f 4=str h/\aG G K (L) w) aF ?_)))))))));obtain ⟨V,u,ho⟩:=aB hm
 refine cA [3] u (fun i g f w=>f 4=str i/\f 5=i64 g/\aG G K (aV 9 K d e b::L) w) aF ?_
 ·rintro i g x f Z hm hr ⟨a0,y,a2⟩
  unfold wU at hm
  refine aH (aL (bO y (aO (v:=zS d b.length e) (aC (aU (len:=b.length) cU rfl) (aC (dJ rfl rfl) (aM ?_))))))
  rcases aJ hm with ⟨j,hm⟩|⟨j,hm⟩
  ·exact aR j rfl (aT (aE (aH (bJ (gC [3,5] (fun f w=>∃ k,wT b g k=some x/\f 4=str k/\aG G K (aV 9 K d e b::L) w) aF aF)))))
  ·exact aF
theorem aKD {k:Kept} {b:Nat} {R:Bool} (hm:aFm k=some R) (V:aG G K (L) w) (a:eM K a1 b [str k.Name,i64 k.Kind,i64 k.S.N,i64 k.S.I,zS a4 k.S.L.length c5,zS a7 k.S.E.length c8,zS a10 k.Formula.length c11,zS a13 k.Source.Definitions.length c14,zS a16 k.Source.Components.length c17,zS a19 k.Source.Meetings.length c20,zS a22 k.Source.Allowed.length c23,zS a25 k.Source.Hidden.length c26]) (x:aX K a4 c5 k.S.L) (y:aX K a7 c8 k.S.E) (Z:aX K a10 c11 k.Formula) (o:aX K a13 c14 k.Source.Definitions) (p:aX K a16 c17 k.Source.Components) (q:aX K a19 c20 k.Source.Meetings) (r:aX K a22 c23 k.Source.Allowed) (u:aX K a25 c26 k.Source.Hidden):
  Calls prog 19 ([cD a1 b]:List Value).toArray w (cJ fun v w'=>v=zB R/\aG G K (L) w'):=by
 refine aN func19 rfl (by kernel_rfl) (by show (1:Nat)<=89;decide) ?_;unfold aFm at hm
 refine aL (aI (v:=zB false) (aM (aH (aL (aO (v:=cD a1 b) (aC (dA rfl a) (aC (cB (k':=b+0) aJO rfl a rfl) (aC (bY (t:=0) nV V a rfl rfl) ?_))))))));obtain ⟨d2,b4,hm⟩:=aB hm
 refine aW (vs:=[str k.Name]) call34 rfl (aGU b4 V) ?_
 rintro _ d3 ⟨rfl,j⟩
 refine aC (sL rfl) (aM ?_)
 rcases aJ hm with ⟨a0,hm⟩|⟨a0,hm⟩
 ·exact aF
 ·refine aP a0 rfl (aT (aE (aH (aL (aO (v:=cD a1 b) (aC (dA rfl a) (aC (cB (k':=b+1) aHp rfl a rfl) (aC (bY (t:=1) gH j a rfl rfl) (aM (bJ (aL (aC (dP rfl rfl) (aI (v:=zB (k.Kind == 1)) (aM ?_))))))))))))))
  rcases aJ hm with ⟨z,hm⟩|⟨z,hm⟩
  ·refine aR z rfl (aH (bB [] (fun f w=>∃ a2,aCy a2=some R/\f 2=zB a2/\aG G K (L) w) aF (bL (aO (v:=cD a1 b) (aC (dA rfl a) (aC (cB (k':=b+2) aEV rfl a rfl) ?_))))));obtain ⟨b5,b6,hm⟩:=aB hm
   refine aW (vs:=[cD a1 (b+2)]) call35 rfl (aKz b6 j (eM.sub (t:=2) (m:=4) a rfl) x y) ?_
   rintro _ d4 ⟨rfl,a3⟩
   refine aO (v:=zB b5) ?_
   rcases aJ hm with ⟨d,hm⟩|⟨d,hm⟩
   ·refine bX d rfl rfl (aO (v:=cD a1 b) (bX d rfl rfl (aC (dA rfl a) (bX d rfl rfl (aC (cB (k':=b+6) aEW rfl a rfl) (bX d rfl rfl (aC (bY (t:=6) aPt a3 a rfl rfl) (bX d rfl rfl (aC (aU (len:=k.Formula.length) sM rfl) (bX d rfl rfl (aC (dP rfl rfl) (aC (oO (v:=zB ((k.Formula.length:Int) == 0)) d rfl rfl) (aO (v:=zB ((k.Formula.length:Int) == 0)) ?_)))))))))))))
    rcases aJ hm with ⟨c45,hm⟩|⟨c45,hm⟩
    ·refine bX c45 rfl rfl (aO (v:=cD a1 b) (bX c45 rfl rfl (aC (dA rfl a) (bX c45 rfl rfl (aC (cB (k':=b+7) aDh rfl a rfl) (bX c45 rfl rfl ?_))))));obtain ⟨d5,b7,hm⟩:=aB hm
     exact aW (vs:=[cD a1 (b+7)]) call36 rfl (aCK b7 a3 (eM.sub (t:=7) (m:=5) a rfl) o p q r u) aF
    ·exact aF
   ·exact aF
  ·refine aP z rfl (aL (aC (dP rfl rfl) (aI (v:=zB (k.Kind == 2)) (aM ?_))))
   rcases aJ hm with ⟨J,hm⟩|⟨J,hm⟩
   ·refine aR J rfl (aH (bB [] (fun f w=>∃ a5,yY a5=some R/\f 2=zB a5/\aG G K (L) w) aF (bL (aO (v:=cD a1 b) (aC (dA rfl a) (aC (cB (k':=b+6) aEW rfl a rfl) (aC (bY (t:=6) aPt j a rfl rfl) ?_)))))));obtain ⟨b8,b9,hm⟩:=aB hm
    refine aW (vs:=[zS a10 k.Formula.length c11]) call37 rfl (aKA b9 j Z) ?_
    rintro _ d6 ⟨rfl,a6⟩
    refine aO (v:=zB b8) ?_
    rcases aJ hm with ⟨c,hm⟩|⟨c,hm⟩
    ·refine bX c rfl rfl (aO (v:=cD a1 b) (bX c rfl rfl (aC (dA rfl a) (bX c rfl rfl (aC (cB (k':=b+6) aEW rfl a rfl) (bX c rfl rfl (aC (bY (t:=6) aPt a6 a rfl rfl) (bX c rfl rfl ?_))))))));obtain ⟨a8,c0,hm⟩:=aB hm
     refine aW (vs:=[zS a10 k.Formula.length c11]) call38 rfl (aDA c0 a6 Z) ?_
     rintro _ d7 ⟨rfl,c1⟩
     refine bX c rfl rfl (aC (sV runUnderlying9 rfl) (bX c rfl rfl (aC (R_leq rfl rfl) (aC (oO (v:=zB (decide ((a8.length:Int)<=400))) c rfl rfl) (aO (v:=zB (decide ((a8.length:Int)<=400))) ?_)))))
     rcases aJ hm with ⟨i,hm⟩|⟨i,hm⟩
     ·refine bX i rfl rfl (aO (v:=cD a1 b) (bX i rfl rfl (aC (dA rfl a) (bX i rfl rfl (aC (cB (k':=b+2) aEV rfl a rfl) (bX i rfl rfl ?_))))));obtain ⟨a9,c2,hm⟩:=aB hm
      refine aW (vs:=[cD a1 (b+2)]) call39 rfl (aBb c2 c1 (eM.sub (t:=2) (m:=4) a rfl) x y) ?_
      rintro _ d8 ⟨rfl,c3⟩
      refine aC (oO (v:=zB a9) i rfl rfl) (aO (v:=zB a9) ?_)
      rcases aJ hm with ⟨l,hm⟩|⟨l,hm⟩
      ·refine bX l rfl rfl (aO (v:=cD a1 b) (bX l rfl rfl (aC (dA rfl a) (bX l rfl rfl (aC (cB (k':=b+7) aDh rfl a rfl) (bX l rfl rfl ?_))))));obtain ⟨d9,c4,hm⟩:=aB hm
       exact aW (vs:=[cD a1 (b+7)]) call36 rfl (aCK c4 c3 (eM.sub (t:=7) (m:=5) a rfl) o p q r u) aF
      ·exact aF
     ·exact aF
    ·exact aF
   ·refine aP J rfl (aL (aC (dP rfl rfl) (aI (v:=zB (k.Kind == 3)) (aM ?_))))
    rcases aJ hm with ⟨b0,hm⟩|⟨b0,hm⟩
    ·refine aR b0 rfl (aH (bB [] (fun f w=>∃ b1,yZ b1=some R/\f 2=zB b1/\aG G K (L) w) aF (bL (aO (v:=cD a1 b) (aC (dA rfl a) (aC (cB (k':=b+7) aDh rfl a rfl) ?_))))));obtain ⟨c6,c7,hm⟩:=aB hm
     refine aW (vs:=[cD a1 (b+7)]) call40 rfl (aKC c7 j (eM.sub (t:=7) (m:=5) a rfl) o p q r u) ?_
     rintro _ e0 ⟨rfl,c9⟩
     refine aO (v:=zB c6) ?_
     rcases aJ hm with ⟨e,hm⟩|⟨e,hm⟩
     ·refine bX e rfl rfl (aO (v:=cD a1 b) (bX e rfl rfl (aC (dA rfl a) (bX e rfl rfl (aC (cB (k':=b+7) aDh rfl a rfl) (bX e rfl rfl ?_))))));obtain ⟨b2,d0,hm⟩:=aB hm
      refine aW (vs:=[cD a1 (b+7)]) call41 rfl (aCM d0 c9 (eM.sub (t:=7) (m:=5) a rfl) o p q r u) ?_
      rintro _ e1 ⟨rfl,b3⟩
      refine bX e rfl rfl (aC (sV runUnderlying9 rfl) (bX e rfl rfl (aC (R_leq rfl rfl) (aC (oO (v:=zB (decide ((b2.length:Int)<=16000))) e rfl rfl) (aO (v:=zB (decide ((b2.length:Int)<=16000))) ?_)))))
      rcases aJ hm with ⟨h,hm⟩|⟨h,hm⟩
      ·refine bX h rfl rfl (aO (v:=cD a1 b) (bX h rfl rfl (aC (dA rfl a) (bX h rfl rfl (aC (cB (k':=b+6) aEW rfl a rfl) (bX h rfl rfl (aC (bY (t:=6) aPt b3 a rfl rfl) (bX h rfl rfl (aC (aU (len:=k.Formula.length) sM rfl) (bX h rfl rfl (aC (dP rfl rfl) (aC (oO (v:=zB ((k.Formula.length:Int) == 0)) h rfl rfl) (aO (v:=zB ((k.Formula.length:Int) == 0)) ?_)))))))))))))
       rcases aJ hm with ⟨n,hm⟩|⟨n,hm⟩
       ·refine bX n rfl rfl (aO (v:=cD a1 b) (bX n rfl rfl (aC (dA rfl a) (bX n rfl rfl (aC (cB (k':=b+2) aEV rfl a rfl) (bX n rfl rfl ?_))))));obtain ⟨e2,d1,hm⟩:=aB hm
        exact aW (vs:=[cD a1 (b+2)]) call39 rfl (aBb d1 b3 (eM.sub (t:=2) (m:=4) a rfl) x y) aF
       ·exact aF
      ·exact aF
     ·exact aF
    ·exact aF
end Gv
namespace Gv
open Gv.Hp renaming le_refl→zR
open Go.Value renaming slice→zS,bool→zB,agg→zA
open Option.some renaming inj→zI
open Go Go.Proofs Go.Proofs.Tryz
set_option maxRecDepth 20000
set_option maxHeartbeats 40000000
variable {G:kE} {K:Hp} {L:List eV} {w:World} {a1 a4 a7 a10 a13 a16 a19 a22 a25:Option Addr} {c5 c8 c11 c14 c17 c20 c23 c26 c2:Nat}
theorem aKE {d:pR} {c:Nat} {R:Bool} (hm:aHy d=some R) (r:aG G K (L) w) (b:eM K a1 c [zS a4 d.Kept.length c5]) (i:aX K a4 c5 d.Kept):
  Calls prog 10 ([cD a1 c]:List Value).toArray w (cJ fun v w'=>v=zB R/\aG G K (L) w'):=by
 refine aN func10 rfl (by kernel_rfl) (by show (1:Nat)<=51;decide) ?_;unfold aHy at hm
 refine aL (aI (v:=zB false) (aM (aH (aL (aO (v:=cD a1 c) (aC (dA rfl b) (aC (cB (k':=c+0) zY rfl b rfl) (aC (bY (t:=0) aIj r b rfl rfl) (aC (aU (len:=d.Kept.length) vY rfl) (aC (aLK rfl rfl) (aM ?_)))))))))))
 rcases aJ hm with ⟨l,hm⟩|⟨l,hm⟩
 ·exact aF
 ·refine aP l rfl (aT (aE (aH (aL (aI (v:=i64 0) (aM (aQ [] (fun f w=>aIY=some R/\aG G K (L) w) aF ?_)))))));obtain ⟨a9,u,ho⟩:=aB hm
  refine bS [0] u (fun h f w=>f 3=i64 h/\aG G K (L) w) aF ?_
  ·rintro h x f b0 hm hr ⟨j,a⟩
   unfold aCA at hm
   refine aH (aL (bO j (aO (v:=cD a1 c) (aC (dA rfl b) (aC (cB (k':=c+0) zY rfl b rfl) (aC (bY (t:=0) aIj a b rfl rfl) (aC (aU (len:=d.Kept.length) vY rfl) (aC (dJ rfl rfl) (aM ?_)))))))))
   rcases aJ hm with ⟨m,hm⟩|⟨m,hm⟩
   ·refine aR m rfl (aT (aE (aH (bJ (aH (bB [0,3] (fun f w=>∃ n,aCz h n=some x/\f 50=zB n/\aG G K (L) w) aF (fH (C:=fun w'=>aG G K (L) w') Tryz_mixed (by kernel_rfl) (aG.mono a (eF.drew _)) (aY (fun _ a=>aZ (v:=cD a1 c) rfl) (aY (fun _ a=>dA rfl b) (aY (fun _ a=>cB (k':=c+0) zY rfl b rfl) (aY (fun _ a=>bY (t:=0) aIj a b rfl rfl) (aY (fun _ a=>aZ j) ?_))))))))))));obtain ⟨b1,o,hm⟩:=aB hm
    refine aY (fun _ a=>cK vY rfl i rfl rfl rfl o) ?_;obtain ⟨b2,y,z⟩:=aX.el (sz:=12) rfl i o
    obtain ⟨b3,b4,b5,b6,b7,b8,b9,c0,c1,c2,c3,c4,c6,c8,c9,d0,rfl,J,V,Z,a0,a2,a3,a5,a6⟩:=z
    obtain ⟨p,a7,hm⟩:=aB hm
    refine fS (vs:=[cD a4 (h.toNat * 12+0)]) (v:=zB p) call19 rfl (fun _ a=>(aKD a7 a y J V Z a0 a2 a3 a5 a6)) (aY (fun _ a=>sL rfl) (aY (fun _ a=>aZ (v:=zB (!p)) rfl) ?_))
    rcases aJ hm with ⟨k,hm⟩|⟨k,hm⟩
    ·exact aF
    ·refine iO (g:=27) rfl rfl (lN k) (aY (fun _ a=>aZ j) (iO (g:=27) rfl rfl (lN k) (aY (fun _ a=>aLK rfl rfl) (iO (g:=27) rfl rfl (lN k) (aY (fun _ a=>aZ (v:=zB (decide (0 < h))) rfl) ?_)))))
     rcases aJ hm with ⟨e,hm⟩|⟨e,hm⟩
     ·refine iO (g:=30) rfl rfl e (aY (fun _ a=>aZ (v:=cD a1 c) rfl) (iO (g:=30) rfl rfl e (aY (fun _ a=>dA rfl b) (iO (g:=30) rfl rfl e (aY (fun _ a=>cB (k':=c+0) zY rfl b rfl) (iO (g:=30) rfl rfl e (aY (fun _ a=>bY (t:=0) aIj a b rfl rfl) (iO (g:=30) rfl rfl e (aY (fun _ a=>aZ j) (iO (g:=30) rfl rfl e (aY (fun _ a=>jM rfl rfl) (iO (g:=30) rfl rfl e ?_))))))))))));obtain ⟨d1,q,hm⟩:=aB hm
      refine aY (fun _ a=>cK vY rfl i rfl rfl rfl q) ?_;obtain ⟨d2,d3,a8⟩:=aX.el (sz:=12) rfl i q
      obtain ⟨d4,d5,d6,d7,d8,d9,e0,e1,e2,e3,e4,e5,e6,e7,e8,e9,rfl,f0,f1,f2,f3,f4,f5,f6,f7⟩:=a8
      exact aF
     ·exact aF
   ·exact aF
theorem aHa {t:gM} {d:Nat} {R:aK} (hm:aEs t=some R) (b:aG G K (L) w) (c:eM K a1 d (zC t a4 c5 a7 c8)) (h6:aX K a4 c5 t.L) (h:aX K a7 c8 t.E):
  Calls prog 84 ([cD a1 d]:List Value).toArray w (cJ fun v w'=>v=str R/\aG G K (L) w'):=by
 refine aN func84 rfl (by kernel_rfl) (by show (1:Nat)<=106;decide) ?_;unfold aEs at hm
 refine aL (aI (v:=str ([]:aK)) (aM (aH (fH (C:=fun w'=>aG G K (L) w') Tryz_mixed (by kernel_rfl) (aG.mono b (eF.drew _)) (aY (fun _ b=>aZ (v:=cD a1 d) rfl) (aY (fun _ b=>dA rfl c) (aY (fun _ b=>cB (k':=d+0) aQc rfl c rfl) (aY (fun _ b=>bY (t:=0) gH b c rfl rfl) ?_))))))));obtain ⟨J,V,hm⟩:=aB hm
 refine fS (vs:=[i64 t.N]) (v:=str J) call80 rfl (fun _ b=>(kW V b)) ?_;obtain ⟨c7,Z,hm⟩:=aB hm
 refine aY (fun _ b=>eA rfl rfl Z) (aY (fun _ b=>aZ (v:=cD a1 d) rfl) (aY (fun _ b=>dA rfl c) (aY (fun _ b=>cB (k':=d+1) aQd rfl c rfl) (aY (fun _ b=>bY (t:=1) gH b c rfl rfl) ?_))));obtain ⟨a0,a2,hm⟩:=aB hm
 refine fS (vs:=[i64 t.I]) (v:=str a0) call80 rfl (fun _ b=>(kW a2 b)) ?_;obtain ⟨c9,a3,hm⟩:=aB hm
 refine aY (fun _ b=>eA rfl rfl a3) ?_;obtain ⟨a5,a6,hm⟩:=aB hm
 refine aY (fun _ b=>eA rfl rfl a6) (aY (fun _ b=>dM (v:=str a5) rfl) (uT (fun d0 d1=>(aE (aH (aL (aI (v:=i64 1) (aM (aQ [0] (fun f w=>∃ i,aBA t i=some R/\f 3=str i/\aG G K (L) w) ?_ ?_)))))))))
 ·rintro f d2 ⟨i,hm,d3,d4⟩
  unfold aBA at hm
  refine aE (gC [0] (fun f w=>∃ j,sA t j=some R/\f 3=str j/\aG G K (L) w) ?_ ?_)
  ·rintro f d5 ⟨j,hm,a8,d6⟩
   unfold sA at hm
   refine aL (bO a8 ?_);obtain ⟨a9,b0,hm⟩:=aB hm
   refine aC (eA rfl rfl b0) (aI (v:=str a9) (aM (aH (aL (aI (v:=i64 0) (aM (aQ [0] (fun f w=>∃ k,aBz t k=some R/\f 3=str k/\aG G K (L) w) ?_ ?_)))))))
   ·rintro f d7 ⟨k,hm,d8,d9⟩
    unfold aBz at hm
    exact aE (gC [] (fun f w=>∃ p,aFn p=some R/\f 3=str p/\aG G K (L) w) aF aF)
   obtain ⟨e0,b1,ho⟩:=aB hm
   refine cA [0] b1 (fun q e f w=>f 3=str q/\f 5=i64 e/\aG G K (L) w) aF ?_
   ·rintro q e b2 f e1 hm hr ⟨e2,l,b3⟩
    unfold wV at hm
    refine aH (aL (bO l (aO (v:=cD a1 d) (aC (dA rfl c) (aC (cB (k':=d+3) aBl rfl c rfl) (aC (bY (t:=3) aJK b3 c rfl rfl) (aC (aU (len:=t.E.length) vG rfl) (aC (dJ rfl rfl) (aM ?_)))))))))
    rcases aJ hm with ⟨r,hm⟩|⟨r,hm⟩
    ·refine aR r rfl (aT (aE (aH (bJ (gC [0,5] (fun f w=>∃ m,rZ t e m=some b2/\f 3=str m/\aG G K (L) w) ?_ ?_)))))
     ·rintro f e3 ⟨m,hm,b4,a⟩
      unfold rZ at hm
      refine fH (C:=fun w'=>aG G K (L) w') Tryz_mixed (by kernel_rfl) (aG.mono a (eF.drew _)) (aY (fun _ a=>aZ b4) (aY (fun _ a=>aZ (v:=cD a1 d) rfl) (aY (fun _ a=>dA rfl c) (aY (fun _ a=>cB (k':=d+3) aBl rfl c rfl) (aY (fun _ a=>bY (t:=3) aJK a c rfl rfl) (aY (fun _ a=>aZ l) ?_))))));obtain ⟨u,n,hm⟩:=aB hm
      refine aY (fun _ a=>cK vG rfl h rfl rfl rfl n) ?_;obtain ⟨e4,g,b5⟩:=aX.el (sz:=3) rfl h n
      cases b5
      refine aY (fun _ a=>cB (k':=e.toNat * 3+0) aGt rfl g rfl) (aY (fun _ a=>bY (t:=0) gH a g rfl rfl) ?_);obtain ⟨b6,b7,hm⟩:=aB hm
      refine fS (vs:=[i64 u.F]) (v:=str b6) call80 rfl (fun _ a=>(kW b7 a)) ?_;obtain ⟨e5,b8,hm⟩:=aB hm
      refine aY (fun _ a=>eA rfl rfl b8) (aY (fun _ a=>aZ (v:=cD a1 d) rfl) (aY (fun _ a=>dA rfl c) (aY (fun _ a=>cB (k':=d+3) aBl rfl c rfl) (aY (fun _ a=>bY (t:=3) aJK a c rfl rfl) (aY (fun _ a=>aZ l) (aY (fun _ a=>cK vG rfl h rfl rfl rfl n) (aY (fun _ a=>cB (k':=e.toNat * 3+1) aGu rfl g rfl) (aY (fun _ a=>bY (t:=1) gH a g rfl rfl) ?_))))))));obtain ⟨b9,c0,hm⟩:=aB hm
      exact fS (vs:=[i64 u.B]) (v:=str b9) call80 rfl (fun _ a=>(kW c0 a)) aF
     exact aF
    ·exact aF
  exact aF
 obtain ⟨e6,c1,ho⟩:=aB hm
 refine cA [0] c1 (fun x o f w=>f 3=str x/\f 4=i64 o/\aG G K (L) w) aF ?_
 ·rintro x o c2 f e7 hm hr ⟨e8,c3,c4⟩
  unfold sB at hm
  refine aH (aL (bO c3 (aO (v:=cD a1 d) (aC (dA rfl c) (aC (cB (k':=d+2) aMH rfl c rfl) (aC (bY (t:=2) aMW c4 c rfl rfl) (aC (aU (len:=t.L.length) cU rfl) (aC (dJ rfl rfl) (aM ?_)))))))))
  rcases aJ hm with ⟨y,hm⟩|⟨y,hm⟩
  ·exact aR y rfl (aT (aE (aH (bJ (gC [0,4] (fun f w=>∃ z,wW t o z=some c2/\f 3=str z/\aG G K (L) w) aF aF)))))
  ·exact aF
theorem aNH {k:Kept} {a:Nat} {R:aK} (hm:aEt k=some R) (c:aG G K (L) w) (r:G.lo=0) (b:eM K a1 a [str k.Name,i64 k.Kind,i64 k.S.N,i64 k.S.I,zS a4 k.S.L.length c5,zS a7 k.S.E.length c8,zS a10 k.Formula.length c11,zS a13 k.Source.Definitions.length c14,zS a16 k.Source.Components.length c17,zS a19 k.Source.Meetings.length c20,zS a22 k.Source.Allowed.length c23,zS a25 k.Source.Hidden.length c26]) (g:aX K a4 c5 k.S.L) (h:aX K a7 c8 k.S.E) (u:aX K a10 c11 k.Formula) (i:aX K a13 c14 k.Source.Definitions) (j:aX K a16 c17 k.Source.Components) (l:aX K a19 c20 k.Source.Meetings) (n:aX K a22 c23 k.Source.Allowed) (o:aX K a25 c26 k.Source.Hidden):
  Calls prog 42 ([cD a1 a]:List Value).toArray w (cJ fun v w'=>v=str R/\aG G K (L) w'):=by
 refine aN func42 rfl (by kernel_rfl) (by show (1:Nat)<=25;decide) ?_;unfold aEt at hm
 refine aL (aI (v:=str ([]:aK)) (aM (aH (aL (aO (v:=cD a1 a) (aC (dA rfl b) (aC (cB (k':=a+1) aHp rfl b rfl) (aC (bY (t:=1) gH c b rfl rfl) (aM (bJ (aL (aC (dP rfl rfl) (aI (v:=zB (k.Kind == 1)) (aM ?_))))))))))))))
 rcases aJ hm with ⟨d,hm⟩|⟨d,hm⟩
 ·refine aR d rfl (aL (aO (v:=cD a1 a) (aC (dA rfl b) (aC (cB (k':=a+2) aEV rfl b rfl) ?_))));obtain ⟨x,p,hm⟩:=aB hm
  exact aW (vs:=[cD a1 (a+2)]) call84 rfl (aHa p c (eM.sub (t:=2) (m:=4) b rfl) g h) aF
 ·refine aP d rfl (aL (aC (dP rfl rfl) (aI (v:=zB (k.Kind == 2)) (aM ?_))))
  rcases aJ hm with ⟨e,hm⟩|⟨e,hm⟩
  ·exact aF
  ·refine aP e rfl (aT (eK (aE (aL (aO (v:=cD a1 a) (aC (dA rfl b) (aC (cB (k':=a+7) aDh rfl b rfl) ?_)))))));obtain ⟨y,q,hm⟩:=aB hm
   exact aW (vs:=[cD a1 (a+7)]) call41 rfl (aCM q c (eM.sub (t:=7) (m:=5) b rfl) i j l n o) aF
theorem aNI {k:Kept} {b:Nat} {R:aK} (hm:aEu k=some R) (e:aG G K (L) w) (j:G.lo=0) (d:eM K a1 b [str k.Name,i64 k.Kind,i64 k.S.N,i64 k.S.I,zS a4 k.S.L.length c5,zS a7 k.S.E.length c8,zS a10 k.Formula.length c11,zS a13 k.Source.Definitions.length c14,zS a16 k.Source.Components.length c17,zS a19 k.Source.Meetings.length c20,zS a22 k.Source.Allowed.length c23,zS a25 k.Source.Hidden.length c26]) (l:aX K a4 c5 k.S.L) (m:aX K a7 c8 k.S.E) (n:aX K a10 c11 k.Formula) (o:aX K a13 c14 k.Source.Definitions) (p:aX K a16 c17 k.Source.Components) (q:aX K a19 c20 k.Source.Meetings) (r:aX K a22 c23 k.Source.Allowed) (u:aX K a25 c26 k.Source.Hidden):
  Calls prog 20 ([cD a1 b]:List Value).toArray w (cJ fun v w'=>v=str R/\aG G K (L) w'):=by
 refine aN func20 rfl (by kernel_rfl) (by show (1:Nat)<=21;decide) ?_;unfold aEu at hm
 refine aL (aI (v:=str ([]:aK)) (aM (aL (dH (Kt:=K) (xs:=([([]:aK),([115,121,115,116,101,109,32]:aK),([102,111,114,109,117,108,97,32]:aK),([115,111,117,114,99,101,32]:aK)]:List aK)) (cs:=[str ([]:aK),str ([115,121,115,116,101,109,32]:aK),str ([102,111,114,109,117,108,97,32]:aK),str ([115,111,117,114,99,101,32]:aK)]) (vs:=[(0,str ([]:aK)),(1,str ([115,121,115,116,101,109,32]:aK)),(2,str ([102,111,114,109,117,108,97,32]:aK)),(3,str ([115,111,117,114,99,101,32]:aK))]) cU pT rfl rfl e rfl (by kernel_rfl) rfl rfl rfl ⟨rfl,rfl,rfl,rfl,trivial⟩ (fun c g (a:aG G K (aV 9 K c 4 ([([]:aK),([115,121,115,116,101,109,32]:aK),([102,111,114,109,117,108,97,32]:aK),([115,111,117,114,99,101,32]:aK)]:List aK)::L) g)=>(aI (v:=zS c ([([]:aK),([115,121,115,116,101,109,32]:aK),([102,111,114,109,117,108,97,32]:aK),([115,111,117,114,99,101,32]:aK)]:List aK).length 4) (aM (aH (fH (C:=fun w'=>aG G K (aV 9 K c 4 ([([]:aK),([115,121,115,116,101,109,32]:aK),([102,111,114,109,117,108,97,32]:aK),([115,111,117,114,99,101,32]:aK)]:List aK)::L) w') Tryz_mixed (by kernel_rfl) (aG.mono a (eF.drew _)) (aY (fun _ a=>aZ (v:=zS c ([([]:aK),([115,121,115,116,101,109,32]:aK),([102,111,114,109,117,108,97,32]:aK),([115,111,117,114,99,101,32]:aK)]:List aK).length 4) rfl) (aY (fun _ a=>aZ (v:=cD a1 b) rfl) (aY (fun _ a=>dA rfl d) (aY (fun _ a=>cB (k':=b+1) aHp rfl d rfl) (aY (fun _ a=>bY (t:=1) gH a d rfl rfl) ?_))))))))))))))
 obtain ⟨x,h,hm⟩:=aB hm
 have y:=eG a (i:=0) rfl h
 exact aF
theorem aGb {d:pR} {a:Nat} {R:aK} (hm:aFo d=some R) (u:aG G K (L) w) (x:G.lo=0) (b:eM K a1 a [zS a4 d.Kept.length c5]) (g:aX K a4 c5 d.Kept):
  Calls prog 11 ([cD a1 a]:List Value).toArray w (cJ fun v w'=>v=str R/\aG G K (L) w'):=by
 refine aN func11 rfl (by kernel_rfl) (by show (1:Nat)<=28;decide) ?_;unfold aFo at hm
 refine aL (aI (v:=str ([]:aK)) (aM (aL (aI (v:=str ([]:aK)) (aM (aH (aL (aI (v:=i64 0) (aM (aQ [] (fun f w=>∃ h,aIq h=some R/\f 3=str h/\aG G K (L) w) aF ?_))))))))));obtain ⟨y,m,ho⟩:=aB hm
 refine cA [0] m (fun i c f w=>f 3=str i/\f 4=i64 c/\aG G K (L) w) aF ?_
 ·rintro i c n f z hm hr ⟨J,j,o⟩
  unfold tM at hm
  refine aH (aL (bO j (aO (v:=cD a1 a) (aC (dA rfl b) (aC (cB (k':=a+0) zY rfl b rfl) (aC (bY (t:=0) aIj o b rfl rfl) (aC (aU (len:=d.Kept.length) vY rfl) (aC (dJ rfl rfl) (aM ?_)))))))))
  rcases aJ hm with ⟨k,hm⟩|⟨k,hm⟩
  ·refine aR k rfl (aT (aE (aH (bJ (gC [0,4] (fun f w=>∃ e,pJ d c e=some n/\f 3=str e/\aG G K (L) w) ?_ ?_)))))
   ·rintro f V ⟨e,hm,p,q⟩
    unfold pJ at hm
    refine bL (bO p (aO (v:=cD a1 a) (aC (dA rfl b) (aC (cB (k':=a+0) zY rfl b rfl) (aC (bY (t:=0) aIj q b rfl rfl) (bO j ?_))))));obtain ⟨Z,l,hm⟩:=aB hm
    refine aC (cK vY rfl g rfl rfl rfl l) ?_;obtain ⟨a0,a2,r⟩:=aX.el (sz:=12) rfl g l
    obtain ⟨a3,a5,a6,a7,a8,a9,b0,b1,b2,b3,b4,b5,b6,b7,b8,b9,rfl,c0,c1,c2,c3,c4,c6,c7,c8⟩:=r
    exact aF
   exact aF
  ·exact aF
theorem aGc {d:pR} {R:aK} (hm:uY d=some R) (e:aG G K (L) w) (g:G.lo=0) (a:aX K a1 c2 d.Kept):
  Calls prog 5 ([zA #[zS a1 d.Kept.length c2]]:List Value).toArray w (cJ fun v w'=>v=str R/\aG G K (L) w'):=by
 refine aN func5 rfl (by kernel_rfl) (by show (1:Nat)<=6;decide) ?_;unfold uY at hm
 refine aL (eO (v:=zA #[zS a1 d.Kept.length c2]) (vs:=[zS a1 d.Kept.length c2]) e rfl rfl (fun b u h=>(aI (v:=str ([]:aK)) (aM (aH (aL ?_))))));obtain ⟨x,i,j,k,l⟩:=aG.lendBp h .head
 obtain ⟨y,m,hm⟩:=aB hm
 refine aW (vs:=[cD (some ⟨b,0,none⟩) 0]) call10 rfl (aKE m k j (a.mono i)) ?_
 rintro _ z ⟨rfl,n⟩
 have o:=l _ _ n
 refine aC (sL rfl) (aM ?_)
 rcases aJ hm with ⟨c,hm⟩|⟨c,hm⟩
 ·exact aF
 ·refine aP c rfl (aT (aE (aL ?_)));obtain ⟨J,p,q,r,V⟩:=aG.lendBp o .head
  obtain ⟨Z,t,hm⟩:=aB hm
  exact aW (vs:=[cD (some ⟨b,0,none⟩) 0]) call11 rfl (aGb t r g q (a.mono p)) aF
theorem aEC {a R:(List aK)} (hm:qY a=some R) (J:aG G K (L) w) (o:aX K a1 c2 a):
  Calls prog 86 ([zS a1 a.length c2]:List Value).toArray w (cJ fun v w'=>∃ p q,v=zS p R.length q/\aG G K (aV 9 K p q R::L) w'):=by
 refine aN func86 rfl (by kernel_rfl) (by show (1:Nat)<=22;decide) ?_;unfold qY at hm
 refine aL (aI (v:=zS none 0 0) (aM (aL (aO (v:=zS a1 a.length c2) (aC (aU (len:=a.length) cU rfl) ?_)))));obtain ⟨b,V,hm⟩:=aB hm
 refine aIh (e:=([]:aK)) cU pT rfl rfl J rfl rfl rfl V rfl (fun c Z (a9:aG G K (aV 9 K c b.length b::L) Z)=>(aI (v:=zS c b.length b.length) (aM (aH (aL (aI (v:=i64 0) (aM (aQ [] (fun f w=>∃ g,aGL g=some R/\f 3=zS c g.length b.length/\aG G K (aV 9 K c b.length g::L) w) aF ?_))))))));obtain ⟨b0,a0,ho⟩:=aB hm
 refine cA [0] a0 (fun j k f w=>f 3=zS c j.length b.length/\f 4=i64 k/\aG G K (aV 9 K c b.length j::L) w) aF ?_
 ·rintro j k b1 f b2 hm hr ⟨r,d,l⟩
  unfold wX at hm
  refine aH (aL (bO d (aO (v:=zS a1 a.length c2) (aC (aU (len:=a.length) cU rfl) (aC (dJ rfl rfl) (aM ?_))))))
  rcases aJ hm with ⟨u,hm⟩|⟨u,hm⟩
  ·refine aR u rfl (aT (aE (aH (bJ (bL (bO r (bO d (aO (v:=zS a1 a.length c2) (bO d ?_)))))))));obtain ⟨x,y,hm⟩:=aB hm
   refine aC (cK cU rfl o rfl rfl rfl y) ?_;obtain ⟨b3,a2,a3⟩:=aX.el (sz:=1) rfl o y
   cases a3
   refine aC (bY (t:=0) nV l a2 rfl rfl) ?_;obtain ⟨b4,m,hm⟩:=aB hm
   have a4:=eG l (i:=0) rfl m
   refine aC (iU cU rfl a4 rfl rfl rfl m) ?_;obtain ⟨a5,z,hm⟩:=aB hm
   exact aDK (i:=0) (t:=0) (ns:=[str x]) (e':=(x:aK)) sizeOf9 l rfl (zR _) rfl rfl rfl m z rfl rfl (jY rfl) rfl (fun cs h=>by cases h;rfl) (fun a7 (a8:aG G K (aV 9 K c b.length a5::L) a7)=>(bR (eK (aE (bL (bO d (aC (mQ rfl rfl) (aI (v:=i64 (wr (k+1))) (aM ⟨_,(zI hm).symm,gB,(Eq.trans r (congrArg (fun n=>zS c n b.length) (uS z))),rfl,a8⟩)))))))))
  ·exact aF
theorem aIz {a R:Edge} (hm:aNm a=some R) (b:aG G K (L) w):
  Calls prog 140 ([zA #[i64 a.F,i64 a.B,i64 a.To]]:List Value).toArray w (cJ fun v w'=>v=zA #[i64 R.F,i64 R.B,i64 R.To]/\aG G K (L) w'):=by
 exact aF
theorem aNJ {a R:(List Edge)} (hm:aEv a=some R) (Z:aG G K (L) w) (p:aX K a1 c2 a):
  Calls prog 87 ([zS a1 a.length c2]:List Value).toArray w (cJ fun v w'=>∃ q r,v=zS q R.length r/\aG G K (aV 106 K q r R::L) w'):=by
 refine aN func87 rfl (by kernel_rfl) (by show (1:Nat)<=23;decide) ?_;unfold aEv at hm
 refine aL (aI (v:=zS none 0 0) (aM (aL (aO (v:=zS a1 a.length c2) (aC (aU (len:=a.length) sl_56 rfl) ?_)))));obtain ⟨b,q5,hm⟩:=aB hm
 refine aIh (e:=(⟨0,0,0⟩:Edge)) vG ez_106 rfl rfl Z rfl rfl rfl q5 rfl (fun c w7 (b2:aG G K (aV 106 K c b.length b::L) w7)=>(aI (v:=zS c b.length b.length) (aM (aH (aL (aI (v:=i64 0) (aM (aQ [] (fun f w=>∃ k,aKf k=some R/\f 3=zS c k.length b.length/\aG G K (aV 106 K c b.length k::L) w) aF ?_))))))));obtain ⟨b3,a3,ho⟩:=aB hm
 refine cA [0] a3 (fun l m f w=>f 3=zS c l.length b.length/\f 4=i64 m/\aG G K (aV 106 K c b.length l::L) w) aF ?_
 ·rintro l m b4 f b5 hm hr ⟨u,j,x⟩
  unfold aBB at hm
  refine aH (aL (bO j (aO (v:=zS a1 a.length c2) (aC (aU (len:=a.length) sl_56 rfl) (aC (dJ rfl rfl) (aM ?_))))))
  rcases aJ hm with ⟨y,hm⟩|⟨y,hm⟩
  ·refine aR y rfl (aT (aE (aH (bJ (bL (bO u (bO j (aO (v:=zS a1 a.length c2) (bO j ?_)))))))));obtain ⟨d,z,hm⟩:=aB hm
   refine aC (cK sl_56 rfl p rfl rfl rfl z) ?_;obtain ⟨b6,a4,a5⟩:=aX.el (sz:=3) rfl p z
   cases a5
   refine aC (dQ (t:=0) (vs:=[i64 d.F,i64 d.B,i64 d.To]) ag_199 x a4 rfl rfl rfl) ?_;obtain ⟨g,a7,hm⟩:=aB hm
   refine aW (vs:=[zA #[i64 d.F,i64 d.B,i64 d.To]]) call140 rfl (aIz a7 x) ?_
   rintro _ b7 ⟨rfl,J⟩
   obtain ⟨b8,o,hm⟩:=aB hm
   have a8:=eG J (i:=0) rfl o
   refine aC (iU vG rfl a8 rfl rfl rfl o) ?_;obtain ⟨a9,V,hm⟩:=aB hm
   exact aDK (i:=0) (t:=0) (ns:=[i64 g.F,i64 g.B,i64 g.To]) (e':=(⟨g.F,g.B,g.To⟩:Edge)) sizeOf106 J rfl (zR _) rfl rfl rfl o V rfl rfl (jY rfl) rfl (fun cs h=>by cases h;rfl) (fun b0 (b1:aG G K (aV 106 K c b.length a9::L) b0)=>(bR (eK (aE (bL (bO j (aC (mQ rfl rfl) (aI (v:=i64 (wr (m+1))) (aM ⟨_,(zI hm).symm,gB,(Eq.trans u (congrArg (fun n=>zS c n b.length) (uS V))),rfl,b1⟩)))))))))
  ·exact aF
theorem aKF {a R:gM} (hm:aMJ a=some R) (g:aG G K (L) w) (h:aX K a1 c2 a.L) (i:aX K a4 c5 a.E):
  Calls prog 43 ([zA (zCa a a1 c2 a4 c5)]:List Value).toArray w (cJ fun v w'=>∃ b c d e,v=zA (zCa R b c d e)/\aG G K (aV 9 K b c R.L::aV 106 K d e R.E::L) w'):=by
 exact aF
theorem aIA {a R:bI} (hm:aNn a=some R) (b:aG G K (L) w):
  Calls prog 88 ([zA #[i64 a.Kind,i64 a.Variable,str a.B,zB a.Not]]:List Value).toArray w (cJ fun v w'=>v=zA #[i64 R.Kind,i64 R.Variable,str R.B,zB R.Not]/\aG G K (L) w'):=by
 exact aF
theorem aHb {a R:(List bI)} (hm:aHz a=some R) (Z:aG G K (L) w) (p:aX K a1 c2 a):
  Calls prog 44 ([zS a1 a.length c2]:List Value).toArray w (cJ fun v w'=>∃ q r,v=zS q R.length r/\aG G K (aV 132 K q r R::L) w'):=by
 refine aN func44 rfl (by kernel_rfl) (by show (1:Nat)<=23;decide) ?_;unfold aHz at hm
 refine aL (aI (v:=zS none 0 0) (aM (aL (aO (v:=zS a1 a.length c2) (aC (aU (len:=a.length) sl_59 rfl) ?_)))));obtain ⟨b,q5,hm⟩:=aB hm
 refine aIh (e:=(⟨0,0,[],false⟩:bI)) sM ez_132 rfl rfl Z rfl rfl rfl q5 rfl (fun c w7 (b2:aG G K (aV 132 K c b.length b::L) w7)=>(aI (v:=zS c b.length b.length) (aM (aH (aL (aI (v:=i64 0) (aM (aQ [] (fun f w=>∃ k,aKg k=some R/\f 3=zS c k.length b.length/\aG G K (aV 132 K c b.length k::L) w) aF ?_))))))));obtain ⟨b3,a3,ho⟩:=aB hm
 refine cA [0] a3 (fun l m f w=>f 3=zS c l.length b.length/\f 4=i64 m/\aG G K (aV 132 K c b.length l::L) w) aF ?_
 ·rintro l m b4 f b5 hm hr ⟨u,j,x⟩
  unfold wY at hm
  refine aH (aL (bO j (aO (v:=zS a1 a.length c2) (aC (aU (len:=a.length) sl_59 rfl) (aC (dJ rfl rfl) (aM ?_))))))
  rcases aJ hm with ⟨y,hm⟩|⟨y,hm⟩
  ·refine aR y rfl (aT (aE (aH (bJ (bL (bO u (bO j (aO (v:=zS a1 a.length c2) (bO j ?_)))))))));obtain ⟨d,z,hm⟩:=aB hm
   refine aC (cK sl_59 rfl p rfl rfl rfl z) ?_;obtain ⟨b6,a4,a5⟩:=aX.el (sz:=4) rfl p z
   cases a5
   refine aC (dQ (t:=0) (vs:=[i64 d.Kind,i64 d.Variable,str d.B,zB d.Not]) ag_120 x a4 rfl rfl rfl) ?_;obtain ⟨g,a7,hm⟩:=aB hm
   refine aW (vs:=[zA #[i64 d.Kind,i64 d.Variable,str d.B,zB d.Not]]) call88 rfl (aIA a7 x) ?_
   rintro _ b7 ⟨rfl,J⟩
   obtain ⟨b8,o,hm⟩:=aB hm
   have a8:=eG J (i:=0) rfl o
   refine aC (iU sM rfl a8 rfl rfl rfl o) ?_;obtain ⟨a9,V,hm⟩:=aB hm
   exact aDK (i:=0) (t:=0) (ns:=[i64 g.Kind,i64 g.Variable,str g.B,zB g.Not]) (e':=(⟨g.Kind,g.Variable,g.B,g.Not⟩:bI)) sizeOf132 J rfl (zR _) rfl rfl rfl o V rfl rfl (jY rfl) rfl (fun cs h=>by cases h;rfl) (fun b0 (b1:aG G K (aV 132 K c b.length a9::L) b0)=>(bR (eK (aE (bL (bO j (aC (mQ rfl rfl) (aI (v:=i64 (wr (m+1))) (aM ⟨_,(zI hm).symm,gB,(Eq.trans u (congrArg (fun n=>zS c n b.length) (uS V))),rfl,b1⟩)))))))))
  ·exact aF
theorem aIB {a R:aS} (hm:aNo a=some R) (b:aG G K (L) w):
  Calls prog 289 ([zA #[i64 a.Kind,i64 a.Value]]:List Value).toArray w (cJ fun v w'=>v=zA #[i64 R.Kind,i64 R.Value]/\aG G K (L) w'):=by
 exact aF
theorem aHc {a R:(List aS)} (hm:aHA a=some R) (Z:aG G K (L) w) (p:aX K a1 c2 a):
  Calls prog 281 ([zS a1 a.length c2]:List Value).toArray w (cJ fun v w'=>∃ q r,v=zS q R.length r/\aG G K (aV 242 K q r R::L) w'):=by
 refine aN func281 rfl (by kernel_rfl) (by show (1:Nat)<=23;decide) ?_;unfold aHA at hm
 refine aL (aI (v:=zS none 0 0) (aM (aL (aO (v:=zS a1 a.length c2) (aC (aU (len:=a.length) aQb rfl) ?_)))));obtain ⟨b,q5,hm⟩:=aB hm
 refine aIh (e:=(⟨0,0⟩:aS)) nW ez_242 rfl rfl Z rfl rfl rfl q5 rfl (fun c w7 (b2:aG G K (aV 242 K c b.length b::L) w7)=>(aI (v:=zS c b.length b.length) (aM (aH (aL (aI (v:=i64 0) (aM (aQ [] (fun f w=>∃ k,aKh k=some R/\f 3=zS c k.length b.length/\aG G K (aV 242 K c b.length k::L) w) aF ?_))))))));obtain ⟨b3,a3,ho⟩:=aB hm
 refine cA [0] a3 (fun l m f w=>f 3=zS c l.length b.length/\f 4=i64 m/\aG G K (aV 242 K c b.length l::L) w) aF ?_
 ·rintro l m b4 f b5 hm hr ⟨u,d,x⟩
  unfold wZ at hm
  refine aH (aL (bO d (aO (v:=zS a1 a.length c2) (aC (aU (len:=a.length) aQb rfl) (aC (dJ rfl rfl) (aM ?_))))))
  rcases aJ hm with ⟨y,hm⟩|⟨y,hm⟩
  ·refine aR y rfl (aT (aE (aH (bJ (bL (bO u (bO d (aO (v:=zS a1 a.length c2) (bO d ?_)))))))));obtain ⟨g,z,hm⟩:=aB hm
   refine aC (cK aQb rfl p rfl rfl rfl z) ?_;obtain ⟨b6,a4,a5⟩:=aX.el (sz:=2) rfl p z
   cases a5
   refine aC (dQ (t:=0) (vs:=[i64 g.Kind,i64 g.Value]) ag_344 x a4 rfl rfl rfl) ?_;obtain ⟨j,a7,hm⟩:=aB hm
   refine aW (vs:=[zA #[i64 g.Kind,i64 g.Value]]) call289 rfl (aIB a7 x) ?_
   rintro _ b7 ⟨rfl,J⟩
   obtain ⟨b8,o,hm⟩:=aB hm
   have a8:=eG J (i:=0) rfl o
   refine aC (iU nW rfl a8 rfl rfl rfl o) ?_;obtain ⟨a9,V,hm⟩:=aB hm
   exact aDK (i:=0) (t:=0) (ns:=[i64 j.Kind,i64 j.Value]) (e':=(⟨j.Kind,j.Value⟩:aS)) sizeOf242 J rfl (zR _) rfl rfl rfl o V rfl rfl (jY rfl) rfl (fun cs h=>by cases h;rfl) (fun b0 (b1:aG G K (aV 242 K c b.length a9::L) b0)=>(bR (eK (aE (bL (bO d (aC (mQ rfl rfl) (aI (v:=i64 (wr (m+1))) (aM ⟨_,(zI hm).symm,gB,(Eq.trans u (congrArg (fun n=>zS c n b.length) (uS V))),rfl,b1⟩)))))))))
  ·exact aF
theorem aMt {a R:(List (List aS))} (hm:aFp a=some R) (hs:aG G K (L) w) (r:aX K a1 c2 a):
  Calls prog 260 ([zS a1 a.length c2]:List Value).toArray w (cJ fun v w'=>∃ u x o,v=zS u R.length x/\List.length o=List.length R/\aG G K (aV 239 K u x (cG o R)::rows [242] o R::L) w'):=by
 refine aN func260 rfl (by kernel_rfl) (by show (1:Nat)<=23;decide) ?_;unfold aFp at hm
 refine aL (aI (v:=zS none 0 0) (aM (aL (aO (v:=zS a1 a.length c2) (aC (aU (len:=a.length) aMX rfl) ?_)))));obtain ⟨b,y,hm⟩:=aB hm
 refine aPV (tys:=[242]) (hd:=((none,0):Dp.Hd (List aS))) mT ez_239 rfl rfl hs rfl rfl rfl y rfl (pcs_nil _) ?_
 intro c w7 (a7:aG G K (aV 239 K c b.length (cG (List.replicate (a.length:Int).toNat ((none,0):Dp.Hd (List aS))) b)::rows [242] (List.replicate (a.length:Int).toNat ((none,0):Dp.Hd (List aS))) b::L) w7)
 refine aI (v:=zS c b.length b.length) (aM (aH (aL (aI (v:=i64 0) (aM (aQ [] (fun f w=>∃ e p,aIr e=some R/\f 3=zS c e.length b.length/\List.length p=List.length e/\aG G K (aV 239 K c b.length (cG p e)::rows [242] p e::L) w) aF ?_))))));obtain ⟨c0,a8,ho⟩:=aB hm
 refine cA [0] a8 (fun g i32 f w=>∃ d,f 3=zS c g.length b.length/\f 4=i64 i32/\List.length d=List.length g/\aG G K (aV 239 K c b.length (cG d g)::rows [242] d g::L) w) ?_ ?_
 ·exact ⟨(List.replicate (a.length:Int).toNat ((none,0):Dp.Hd (List aS))),rfl,rfl,(aEc (hd:=((none,0):Dp.Hd (List aS))) y).2.1,a7⟩
 ·rintro g i32 c1 f c3 hm hr ⟨d,z,k,l,J⟩
  unfold tN at hm
  refine aH (aL (bO k (aO (v:=zS a1 a.length c2) (aC (aU (len:=a.length) aMX rfl) (aC (dJ rfl rfl) (aM ?_))))))
  rcases aJ hm with ⟨V,hm⟩|⟨V,hm⟩
  ·refine aR V rfl (aT (aE (aH (bJ (bL (bO z (bO k (aO (v:=zS a1 a.length c2) (bO k ?_)))))))));obtain ⟨a9,Z,hm⟩:=aB hm
   refine aC (cK aMX rfl r rfl rfl rfl Z) ?_;obtain ⟨c4,b0,b1⟩:=aX.el (sz:=1) rfl r Z
   obtain ⟨b2,b3,rfl,b4⟩:=b1
   refine aC (bY (t:=0) sc_333 J b0 rfl rfl) ?_;obtain ⟨b5,b6,hm⟩:=aB hm
   refine aW (vs:=[zS b2 a9.length b3]) call281 rfl (aHc b6 J b4) ?_
   rintro _ c5 ⟨h,j,rfl,a0⟩
   obtain ⟨c6,m,hm⟩:=aB hm
   obtain ⟨⟨c7,c8⟩,a2⟩:=aMS l m
   have b7:=eG a0 (i:=1) rfl (aBZ l m a2)
   refine aC (iU mT rfl b7 rfl rfl rfl m) ?_;obtain ⟨a3,q,hm⟩:=aB hm
   refine aPW (i:=0) (tys:=[242]) (hd':=(h,j)) (e':=b5) (hds:=d) sizeOf239 a0 l rfl rfl rfl rfl rfl m a2 q rfl ?_
   intro b8 (b9:aG G K (aV 239 K c b.length (cG (List.set d i32.toNat (h,j)) a3)::rows [242] (List.set d i32.toNat (h,j)) a3::L) b8)
   exact bR (eK (aE (bL (bO k (aC (mQ rfl rfl) (aI (v:=i64 (wr (i32+1))) (aM ⟨_,(zI hm).symm,gB,(List.set d i32.toNat (h,j)),(Eq.trans z (congrArg (fun n=>zS c n b.length) (uS q))),rfl,(aMG (hd:=((h,j):Dp.Hd (List aS))) l q),b9⟩)))))))
  ·exact aF
theorem aIC {a R:bH} (hm:aNp a=some R) (e:aG G K (L) w) (g:aX K a1 c2 a.Arguments):
  Calls prog 223 ([zA #[i64 a.Kind,i64 a.Number,str a.Name,zS a1 a.Arguments.length c2]]:List Value).toArray w (cJ fun v w'=>∃ c d b,v=zA #[i64 R.Kind,i64 R.Number,str R.Name,zS c R.Arguments.length d]/\List.length b=List.length R.Arguments/\aG G K (aV 239 K c d (cG b R.Arguments)::rows [242] b R.Arguments::L) w'):=by
 exact aF
theorem aNK {a R:(List bH)} (hm:aHB a=some R) (hs:aG G K (L) w) (y:aX K a1 c2 a):
  Calls prog 181 ([zS a1 a.length c2]:List Value).toArray w (cJ fun v w'=>∃ z J r,v=zS z R.length J/\List.length r=List.length R/\aG G K (aV 206 K z J (cG r R)::rows [239,242] r R::L) w'):=by
 refine aN func181 rfl (by kernel_rfl) (by show (1:Nat)<=23;decide) ?_;unfold aHB at hm
 refine aL (aI (v:=zS none 0 0) (aM (aL (aO (v:=zS a1 a.length c2) (aC (aU (len:=a.length) aMY rfl) ?_)))));obtain ⟨b,V,hm⟩:=aB hm
 refine aPV (tys:=[239,242]) (hd:=(((none,0),[]):Dp.Hd bH)) lO ez_206 rfl rfl hs rfl rfl rfl V rfl (aQa _) ?_
 intro d w7 (b3:aG G K (aV 206 K d b.length (cG (List.replicate (a.length:Int).toNat (((none,0),[]):Dp.Hd bH)) b)::rows [239,242] (List.replicate (a.length:Int).toNat (((none,0),[]):Dp.Hd bH)) b::L) w7)
 refine aI (v:=zS d b.length b.length) (aM (aH (aL (aI (v:=i64 0) (aM (aQ [] (fun f w=>∃ l u,aKi l=some R/\f 3=zS d l.length b.length/\List.length u=List.length l/\aG G K (aV 206 K d b.length (cG u l)::rows [239,242] u l::L) w) aF ?_))))));obtain ⟨c6,b4,ho⟩:=aB hm
 refine cA [0] b4 (fun e i32 f w=>∃ c,f 3=zS d e.length b.length/\f 4=i64 i32/\List.length c=List.length e/\aG G K (aV 206 K d b.length (cG c e)::rows [239,242] c e::L) w) ?_ ?_
 ·exact ⟨(List.replicate (a.length:Int).toNat (((none,0),[]):Dp.Hd bH)),rfl,rfl,(aEc (hd:=(((none,0),[]):Dp.Hd bH)) V).2.1,b3⟩
 ·rintro e i32 c7 f c8 hm hr ⟨c,Z,o,p,a0⟩
  unfold xA at hm
  refine aH (aL (bO o (aO (v:=zS a1 a.length c2) (aC (aU (len:=a.length) aMY rfl) (aC (dJ rfl rfl) (aM ?_))))))
  rcases aJ hm with ⟨a2,hm⟩|⟨a2,hm⟩
  ·refine aR a2 rfl (aT (aE (aH (bJ (bL (bO Z (bO o (aO (v:=zS a1 a.length c2) (bO o ?_)))))))));obtain ⟨h,a3,hm⟩:=aB hm
   refine aC (cK aMY rfl y rfl rfl rfl a3) ?_;obtain ⟨c9,b5,b6⟩:=aX.el (sz:=4) rfl y a3
   obtain ⟨a4,a5,rfl,b7⟩:=b6
   refine aC (dQ (t:=0) (vs:=[i64 h.Kind,i64 h.Number,str h.Name,zS a4 h.Arguments.length a5]) ag_276 a0 b5 rfl rfl rfl) ?_;obtain ⟨m,b8,hm⟩:=aB hm
   refine aW (vs:=[zA #[i64 h.Kind,i64 h.Number,str h.Name,zS a4 h.Arguments.length a5]]) call223 rfl (aIC b8 a0 b7) ?_
   rintro _ a7 ⟨j,k,g,rfl,b9,a8⟩
   obtain ⟨d0,q,hm⟩:=aB hm
   obtain ⟨⟨⟨d1,d2⟩,d3⟩,a9⟩:=aMS p q
   have c0:=eG a8 (i:=2) rfl (aBZ p q a9)
   refine aC (iU lO rfl c0 rfl rfl rfl q) ?_
   have c1:aG G K (aV 239 K j k (cG g m.Arguments)::rows [242] g m.Arguments::aV 206 K d b.length (cG c e)::rows [239,242] c e::L) a7:=a8
   have c3:aG G K (aV 239 K j k (cG g m.Arguments)::aMV [242] g m.Arguments::aV 206 K d b.length (cG c e)::rows [239,242] c e::L) a7:=aG.closeL (i:=1) c1 rfl b9
   obtain ⟨b0,x,hm⟩:=aB hm
   refine aPW (i:=0) (tys:=[239,242]) (hd':=(((j,k),g):Dp.Hd bH)) (e':=(m:bH)) (hds:=c) sizeOf206 c3 p rfl rfl rfl rfl rfl q a9 x rfl ?_
   intro c4 (c5:aG G K (aV 206 K d b.length (cG (List.set c i32.toNat ((j,k),g)) b0)::rows [239,242] (List.set c i32.toNat ((j,k),g)) b0::L) c4)
   exact bR (eK (aE (bL (bO o (aC (mQ rfl rfl) (aI (v:=i64 (wr (i32+1))) (aM ⟨_,(zI hm).symm,gB,(List.set c i32.toNat ((j,k),g)),(Eq.trans Z (congrArg (fun n=>zS d n b.length) (uS x))),rfl,(aMG (hd:=(((j,k),g):Dp.Hd bH)) p x),c5⟩)))))))
  ·exact aF
theorem aBf {a R:Definition} (hm:aCB a=some R) (e:aG G K (L) w) (g:aX K a1 c2 a.Body):
  Calls prog 141 ([zA #[str a.Name,i64 a.Parameters,zS a1 a.Body.length c2]]:List Value).toArray w (cJ fun v w'=>∃ c d b,v=zA #[str R.Name,i64 R.Parameters,zS c R.Body.length d]/\List.length b=List.length R.Body/\aG G K (aV 206 K c d (cG b R.Body)::rows [239,242] b R.Body::L) w'):=by
 exact aF
theorem aAL {a R:(List Definition)} (hm:uL a=some R) (hs:aG G K (L) w) (y:aX K a1 c2 a):
  Calls prog 89 ([zS a1 a.length c2]:List Value).toArray w (cJ fun v w'=>∃ z J r,v=zS z R.length J/\List.length r=List.length R/\aG G K (aV 151 K z J (cG r R)::rows [206,239,242] r R::L) w'):=by
 refine aN func89 rfl (by kernel_rfl) (by show (1:Nat)<=23;decide) ?_;unfold uL at hm
 refine aL (aI (v:=zS none 0 0) (aM (aL (aO (v:=zS a1 a.length c2) (aC (aU (len:=a.length) sl_60 rfl) ?_)))));obtain ⟨b,V,hm⟩:=aB hm
 refine aPV (tys:=[206,239,242]) (hd:=(((none,0),[]):Dp.Hd Definition)) qN ez_151 rfl rfl hs rfl rfl rfl V rfl (aIQ _) ?_
 intro d w7 (b3:aG G K (aV 151 K d b.length (cG (List.replicate (a.length:Int).toNat (((none,0),[]):Dp.Hd Definition)) b)::rows [206,239,242] (List.replicate (a.length:Int).toNat (((none,0),[]):Dp.Hd Definition)) b::L) w7)
 refine aI (v:=zS d b.length b.length) (aM (aH (aL (aI (v:=i64 0) (aM (aQ [] (fun f w=>∃ l u,aCC l=some R/\f 3=zS d l.length b.length/\List.length u=List.length l/\aG G K (aV 151 K d b.length (cG u l)::rows [206,239,242] u l::L) w) aF ?_))))));obtain ⟨c6,b4,ho⟩:=aB hm
 refine cA [0] b4 (fun e i32 f w=>∃ c,f 3=zS d e.length b.length/\f 4=i64 i32/\List.length c=List.length e/\aG G K (aV 151 K d b.length (cG c e)::rows [206,239,242] c e::L) w) ?_ ?_
 ·exact ⟨(List.replicate (a.length:Int).toNat (((none,0),[]):Dp.Hd Definition)),rfl,rfl,(aEc (hd:=(((none,0),[]):Dp.Hd Definition)) V).2.1,b3⟩
 ·rintro e i32 c7 f c8 hm hr ⟨c,Z,o,p,a0⟩
  unfold lG at hm
  refine aH (aL (bO o (aO (v:=zS a1 a.length c2) (aC (aU (len:=a.length) sl_60 rfl) (aC (dJ rfl rfl) (aM ?_))))))
  rcases aJ hm with ⟨a2,hm⟩|⟨a2,hm⟩
  ·refine aR a2 rfl (aT (aE (aH (bJ (bL (bO Z (bO o (aO (v:=zS a1 a.length c2) (bO o ?_)))))))));obtain ⟨k,a3,hm⟩:=aB hm
   refine aC (cK sl_60 rfl y rfl rfl rfl a3) ?_;obtain ⟨c9,b5,b6⟩:=aX.el (sz:=3) rfl y a3
   obtain ⟨a4,a5,rfl,b7⟩:=b6
   refine aC (dQ (t:=0) (vs:=[str k.Name,i64 k.Parameters,zS a4 k.Body.length a5]) ag_187 a0 b5 rfl rfl rfl) ?_;obtain ⟨m,b8,hm⟩:=aB hm
   refine aW (vs:=[zA #[str k.Name,i64 k.Parameters,zS a4 k.Body.length a5]]) call141 rfl (aBf b8 a0 b7) ?_
   rintro _ a7 ⟨h,j,g,rfl,b9,a8⟩
   obtain ⟨d0,q,hm⟩:=aB hm
   obtain ⟨⟨⟨d1,d2⟩,d3⟩,a9⟩:=aMS p q
   have c0:=eG a8 (i:=2) rfl (aBZ p q a9)
   refine aC (iU qN rfl c0 rfl rfl rfl q) ?_
   have c1:aG G K (aV 206 K h j (cG g m.Body)::rows [239,242] g m.Body::aV 151 K d b.length (cG c e)::rows [206,239,242] c e::L) a7:=a8
   have c3:aG G K (aV 206 K h j (cG g m.Body)::aMV [239,242] g m.Body::aV 151 K d b.length (cG c e)::rows [206,239,242] c e::L) a7:=aG.closeL (i:=1) c1 rfl b9
   obtain ⟨b0,x,hm⟩:=aB hm
   refine aPW (i:=0) (tys:=[206,239,242]) (hd':=(((h,j),g):Dp.Hd Definition)) (e':=(m:Definition)) (hds:=c) sizeOf151 c3 p rfl rfl rfl rfl rfl q a9 x rfl ?_
   intro c4 (c5:aG G K (aV 151 K d b.length (cG (List.set c i32.toNat ((h,j),g)) b0)::rows [206,239,242] (List.set c i32.toNat ((h,j),g)) b0::L) c4)
   exact bR (eK (aE (bL (bO o (aC (mQ rfl rfl) (aI (v:=i64 (wr (i32+1))) (aM ⟨_,(zI hm).symm,gB,(List.set c i32.toNat ((h,j),g)),(Eq.trans Z (congrArg (fun n=>zS d n b.length) (uS x))),rfl,(aMG (hd:=(((h,j),g):Dp.Hd Definition)) p x),c5⟩)))))))
  ·exact aF
theorem aMu {a R:(List Int)} (hm:aFq a=some R) (J:aG G K (L) w) (o:aX K a1 c2 a):
  Calls prog 182 ([zS a1 a.length c2]:List Value).toArray w (cJ fun v w'=>∃ p q,v=zS p R.length q/\aG G K (aV 2 K p q R::L) w'):=by
 refine aN func182 rfl (by kernel_rfl) (by show (1:Nat)<=22;decide) ?_;unfold aFq at hm
 refine aL (aI (v:=zS none 0 0) (aM (aL (aO (v:=zS a1 a.length c2) (aC (aU (len:=a.length) dW rfl) ?_)))));obtain ⟨b,V,hm⟩:=aB hm
 refine aIh (e:=(0:Int)) dW yK rfl rfl J rfl rfl rfl V rfl (fun c Z (a9:aG G K (aV 2 K c b.length b::L) Z)=>(aI (v:=zS c b.length b.length) (aM (aH (aL (aI (v:=i64 0) (aM (aQ [] (fun f w=>∃ g,aIs g=some R/\f 3=zS c g.length b.length/\aG G K (aV 2 K c b.length g::L) w) aF ?_))))))));obtain ⟨b0,a0,ho⟩:=aB hm
 refine cA [0] a0 (fun j k f w=>f 3=zS c j.length b.length/\f 4=i64 k/\aG G K (aV 2 K c b.length j::L) w) aF ?_
 ·rintro j k b1 f b2 hm hr ⟨r,d,l⟩
  unfold tO at hm
  refine aH (aL (bO d (aO (v:=zS a1 a.length c2) (aC (aU (len:=a.length) dW rfl) (aC (dJ rfl rfl) (aM ?_))))))
  rcases aJ hm with ⟨u,hm⟩|⟨u,hm⟩
  ·refine aR u rfl (aT (aE (aH (bJ (bL (bO r (bO d (aO (v:=zS a1 a.length c2) (bO d ?_)))))))));obtain ⟨x,y,hm⟩:=aB hm
   refine aC (cK dW rfl o rfl rfl rfl y) ?_;obtain ⟨b3,a2,a3⟩:=aX.el (sz:=1) rfl o y
   cases a3
   refine aC (bY (t:=0) gH l a2 rfl rfl) ?_;obtain ⟨b4,m,hm⟩:=aB hm
   have a4:=eG l (i:=0) rfl m
   refine aC (iU dW rfl a4 rfl rfl rfl m) ?_;obtain ⟨a5,z,hm⟩:=aB hm
   exact aDK (i:=0) (t:=0) (ns:=[i64 x]) (e':=(x:Int)) sizeOf2 l rfl (zR _) rfl rfl rfl m z rfl rfl (jY rfl) rfl (fun cs h=>by cases h;rfl) (fun a7 (a8:aG G K (aV 2 K c b.length a5::L) a7)=>(bR (eK (aE (bL (bO d (aC (mQ rfl rfl) (aI (v:=i64 (wr (k+1))) (aM ⟨_,(zI hm).symm,gB,(Eq.trans r (congrArg (fun n=>zS c n b.length) (uS z))),rfl,a8⟩)))))))))
  ·exact aF
theorem aCN {a R:bA} (hm:aDT a=some R) (d:aG G K (L) w) (e:aX K a1 c2 a.Values):
  Calls prog 142 ([zA #[i64 a.Definition,zS a1 a.Values.length c2]]:List Value).toArray w (cJ fun v w'=>∃ b c,v=zA #[i64 R.Definition,zS b R.Values.length c]/\aG G K (aV 2 K b c R.Values::L) w'):=by
 exact aF
theorem aBg {a R:(List bA)} (hm:xB a=some R) (hs:aG G K (L) w) (u:aX K a1 c2 a):
  Calls prog 90 ([zS a1 a.length c2]:List Value).toArray w (cJ fun v w'=>∃ x y p,v=zS x R.length y/\List.length p=List.length R/\aG G K (aV 155 K x y (cG p R)::rows [2] p R::L) w'):=by
 refine aN func90 rfl (by kernel_rfl) (by show (1:Nat)<=23;decide) ?_;unfold xB at hm
 refine aL (aI (v:=zS none 0 0) (aM (aL (aO (v:=zS a1 a.length c2) (aC (aU (len:=a.length) sl_61 rfl) ?_)))));obtain ⟨b,z,hm⟩:=aB hm
 refine aPV (tys:=[2]) (hd:=((none,0):Dp.Hd bA)) xZ ez_155 rfl rfl hs rfl rfl rfl z rfl (aJI _) ?_
 intro d w7 (b1:aG G K (aV 155 K d b.length (cG (List.replicate (a.length:Int).toNat ((none,0):Dp.Hd bA)) b)::rows [2] (List.replicate (a.length:Int).toNat ((none,0):Dp.Hd bA)) b::L) w7)
 refine aI (v:=zS d b.length b.length) (aM (aH (aL (aI (v:=i64 0) (aM (aQ [] (fun f w=>∃ j q,aDq j=some R/\f 3=zS d j.length b.length/\List.length q=List.length j/\aG G K (aV 155 K d b.length (cG q j)::rows [2] q j::L) w) aF ?_))))));obtain ⟨c3,b2,ho⟩:=aB hm
 refine cA [0] b2 (fun e i32 f w=>∃ c,f 3=zS d e.length b.length/\f 4=i64 i32/\List.length c=List.length e/\aG G K (aV 155 K d b.length (cG c e)::rows [2] c e::L) w) ?_ ?_
 ·exact ⟨(List.replicate (a.length:Int).toNat ((none,0):Dp.Hd bA)),rfl,rfl,(aEc (hd:=((none,0):Dp.Hd bA)) z).2.1,b1⟩
 ·rintro e i32 c4 f c5 hm hr ⟨c,J,k,l,V⟩
  unfold lW at hm
  refine aH (aL (bO k (aO (v:=zS a1 a.length c2) (aC (aU (len:=a.length) sl_61 rfl) (aC (dJ rfl rfl) (aM ?_))))))
  rcases aJ hm with ⟨Z,hm⟩|⟨Z,hm⟩
  ·refine aR Z rfl (aT (aE (aH (bJ (bL (bO J (bO k (aO (v:=zS a1 a.length c2) (bO k ?_)))))))));obtain ⟨m,a0,hm⟩:=aB hm
   refine aC (cK sl_61 rfl u rfl rfl rfl a0) ?_;obtain ⟨c6,b3,b4⟩:=aX.el (sz:=2) rfl u a0
   obtain ⟨a2,a3,rfl,b5⟩:=b4
   refine aC (dQ (t:=0) (vs:=[i64 m.Definition,zS a2 m.Values.length a3]) ag_189 V b3 rfl rfl rfl) ?_;obtain ⟨a4,b6,hm⟩:=aB hm
   refine aW (vs:=[zA #[i64 m.Definition,zS a2 m.Values.length a3]]) call142 rfl (aCN b6 V b5) ?_
   rintro _ b7 ⟨g,h,rfl,a5⟩
   obtain ⟨c7,o,hm⟩:=aB hm
   obtain ⟨⟨c8,c9⟩,a7⟩:=aMS l o
   have b8:=eG a5 (i:=1) rfl (aBZ l o a7)
   refine aC (iU xZ rfl b8 rfl rfl rfl o) ?_
   have b9:aG G K (aV 2 K g h a4.Values::aV 155 K d b.length (cG c e)::rows [2] c e::L) b7:=a5
   obtain ⟨a8,r,hm⟩:=aB hm
   refine aPW (i:=0) (tys:=[2]) (hd':=((g,h):Dp.Hd bA)) (e':=(a4:bA)) (hds:=c) sizeOf155 b9 l rfl rfl rfl rfl rfl o a7 r rfl ?_
   intro c0 (c1:aG G K (aV 155 K d b.length (cG (List.set c i32.toNat (g,h)) a8)::rows [2] (List.set c i32.toNat (g,h)) a8::L) c0)
   exact bR (eK (aE (bL (bO k (aC (mQ rfl rfl) (aI (v:=i64 (wr (i32+1))) (aM ⟨_,(zI hm).symm,gB,(List.set c i32.toNat (g,h)),(Eq.trans J (congrArg (fun n=>zS d n b.length) (uS r))),rfl,(aMG (hd:=((g,h):Dp.Hd bA)) l r),c1⟩)))))))
  ·exact aF
theorem aED {a R:bD} (hm:aGM a=some R) (b:aG G K (L) w):
  Calls prog 143 ([zA #[str a.Left,str a.Right,str a.Result]]:List Value).toArray w (cJ fun v w'=>v=zA #[str R.Left,str R.Right,str R.Result]/\aG G K (L) w'):=by
 exact aF
theorem aDB {a R:(List bD)} (hm:aBC a=some R) (Z:aG G K (L) w) (p:aX K a1 c2 a):
  Calls prog 91 ([zS a1 a.length c2]:List Value).toArray w (cJ fun v w'=>∃ q r,v=zS q R.length r/\aG G K (aV 159 K q r R::L) w'):=by
 refine aN func91 rfl (by kernel_rfl) (by show (1:Nat)<=23;decide) ?_;unfold aBC at hm
 refine aL (aI (v:=zS none 0 0) (aM (aL (aO (v:=zS a1 a.length c2) (aC (aU (len:=a.length) sl_62 rfl) ?_)))));obtain ⟨b,q5,hm⟩:=aB hm
 refine aIh (e:=(⟨[],[],[]⟩:bD)) vX ez_159 rfl rfl Z rfl rfl rfl q5 rfl (fun c w7 (b2:aG G K (aV 159 K c b.length b::L) w7)=>(aI (v:=zS c b.length b.length) (aM (aH (aL (aI (v:=i64 0) (aM (aQ [] (fun f w=>∃ k,aFQ k=some R/\f 3=zS c k.length b.length/\aG G K (aV 159 K c b.length k::L) w) aF ?_))))))));obtain ⟨b3,a3,ho⟩:=aB hm
 refine cA [0] a3 (fun l m f w=>f 3=zS c l.length b.length/\f 4=i64 m/\aG G K (aV 159 K c b.length l::L) w) aF ?_
 ·rintro l m b4 f b5 hm hr ⟨u,j,x⟩
  unfold oU at hm
  refine aH (aL (bO j (aO (v:=zS a1 a.length c2) (aC (aU (len:=a.length) sl_62 rfl) (aC (dJ rfl rfl) (aM ?_))))))
  rcases aJ hm with ⟨y,hm⟩|⟨y,hm⟩
  ·refine aR y rfl (aT (aE (aH (bJ (bL (bO u (bO j (aO (v:=zS a1 a.length c2) (bO j ?_)))))))));obtain ⟨d,z,hm⟩:=aB hm
   refine aC (cK sl_62 rfl p rfl rfl rfl z) ?_;obtain ⟨b6,a4,a5⟩:=aX.el (sz:=3) rfl p z
   cases a5
   refine aC (dQ (t:=0) (vs:=[str d.Left,str d.Right,str d.Result]) ag_191 x a4 rfl rfl rfl) ?_;obtain ⟨g,a7,hm⟩:=aB hm
   refine aW (vs:=[zA #[str d.Left,str d.Right,str d.Result]]) call143 rfl (aED a7 x) ?_
   rintro _ b7 ⟨rfl,J⟩
   obtain ⟨b8,o,hm⟩:=aB hm
   have a8:=eG J (i:=0) rfl o
   refine aC (iU vX rfl a8 rfl rfl rfl o) ?_;obtain ⟨a9,V,hm⟩:=aB hm
   exact aDK (i:=0) (t:=0) (ns:=[str g.Left,str g.Right,str g.Result]) (e':=(⟨g.Left,g.Right,g.Result⟩:bD)) sizeOf159 J rfl (zR _) rfl rfl rfl o V rfl rfl (jY rfl) rfl (fun cs h=>by cases h;rfl) (fun b0 (b1:aG G K (aV 159 K c b.length a9::L) b0)=>(bR (eK (aE (bL (bO j (aC (mQ rfl rfl) (aI (v:=i64 (wr (m+1))) (aM ⟨_,(zI hm).symm,gB,(Eq.trans u (congrArg (fun n=>zS c n b.length) (uS V))),rfl,b1⟩)))))))))
  ·exact aF
theorem aGd {a R:bM} (hm:aCD a=some R) (hs:aG G K (L) w) (h3:aX K a1 c2 a.Definitions) (h6:aX K a4 c5 a.Components) (h9:aX K a7 c8 a.Meetings) (b5:aX K a10 c11 a.Allowed) (d1:aX K a13 c14 a.Hidden):
  Calls prog 45 ([zA #[zS a1 a.Definitions.length c2,zS a4 a.Components.length c5,zS a7 a.Meetings.length c8,zS a10 a.Allowed.length c11,zS a13 a.Hidden.length c14]]:List Value).toArray w (cJ fun v w'=>∃ x y p z J q V Z a0 a2 a3 a5,v=zA #[zS x R.Definitions.length y,zS z R.Components.length J,zS V R.Meetings.length Z,zS a0 R.Allowed.length a2,zS a3 R.Hidden.length a5]/\List.length p=List.length R.Definitions/\List.length q=List.length R.Components/\aG G K (aV 151 K x y (cG p R.Definitions)::rows [206,239,242] p R.Definitions::aV 155 K z J (cG q R.Components)::rows [2] q R.Components::aV 159 K V Z R.Meetings::aV 9 K a0 a2 R.Allowed::aV 9 K a3 a5 R.Hidden::L) w'):=by
 let l:=[zS a1 a.Definitions.length c2,zS a4 a.Components.length c5,zS a7 a.Meetings.length c8,zS a10 a.Allowed.length c11,zS a13 a.Hidden.length c14]
 let k:=[zS none 0 0,zS none 0 0,zS none 0 0,zS none 0 0,zS none 0 0]
 refine aN func45 rfl (by kernel_rfl) (by show (1:Nat)<=25;decide) ?_;unfold aCD at hm
 refine aL (eO (v:=zA #[zS a1 a.Definitions.length c2,zS a4 a.Components.length c5,zS a7 a.Meetings.length c8,zS a10 a.Allowed.length c11,zS a13 a.Hidden.length c14]) (vs:=l) hs rfl rfl (fun r d2 b6=>(dV (vs:=k) zeroValue48 b6 rfl (fun t d3 b7=>(aM (aL (dV (vs:=k) zeroValue48 b7 rfl (fun u d4 a6=>(aM (aL (aC (bG (t':=0) fa_64_0 rfl rfl) (aC (cX sc_60 a6 (i:=2) rfl rfl rfl) ?_))))))))))));obtain ⟨b,b8,hm⟩:=aB hm
 refine aW (vs:=[zS a1 a.Definitions.length c2]) call89 rfl (aAL b8 a6 h3) ?_
 rintro _ d5 ⟨c,d,j,rfl,d6,b9⟩
 refine aC (bG (t':=0) aHo rfl rfl) (eW (i:=2) (ns:=[zS c b.length d]) (us:=[zS c b.length d,zS none 0 0,zS none 0 0,zS none 0 0,zS none 0 0]) sizeOf44 b9 rfl rfl rfl rfl rfl (jY rfl) rfl rfl (fun c0 (a8:aG G K (aV 151 K c d (cG j b)::rows [206,239,242] j b::box u 48 [zS c b.length d,zS none 0 0,zS none 0 0,zS none 0 0,zS none 0 0]::box t 48 k::box r 64 l::L) c0)=>(aM (aL (aC (bG (t':=1) fa_64_1 rfl rfl) (aC (cX sc_61 a8 (i:=4) rfl rfl rfl) ?_))))))
 obtain ⟨e,c1,hm⟩:=aB hm
 refine aW (vs:=[zS a4 a.Components.length c5]) call90 rfl (aBg c1 a8 h6) ?_
 rintro _ d7 ⟨g,h,m,rfl,d8,c3⟩
 refine aC (bG (t':=1) aDg rfl rfl) (eW (i:=4) (ns:=[zS g e.length h]) (us:=[zS c b.length d,zS g e.length h,zS none 0 0,zS none 0 0,zS none 0 0]) sizeOf45 c3 rfl rfl rfl rfl rfl (jY rfl) rfl rfl (fun c4 (a9:aG G K (aV 155 K g h (cG m e)::rows [2] m e::aV 151 K c d (cG j b)::rows [206,239,242] j b::box u 48 [zS c b.length d,zS g e.length h,zS none 0 0,zS none 0 0,zS none 0 0]::box t 48 k::box r 64 l::L) c4)=>(aM (aL (aC (bG (t':=2) fa_64_2 rfl rfl) (aC (cX sc_62 a9 (i:=6) rfl rfl rfl) ?_))))))
 obtain ⟨n,c6,hm⟩:=aB hm
 refine aW (vs:=[zS a7 a.Meetings.length c8]) call91 rfl (aDB c6 a9 h9) ?_
 rintro _ d9 ⟨o,c48,rfl,c7⟩
 refine aC (bG (t':=2) aQe rfl rfl) (eW (i:=5) (ns:=[zS o n.length c48]) (us:=[zS c b.length d,zS g e.length h,zS o n.length c48,zS none 0 0,zS none 0 0]) sizeOf46 c7 rfl rfl rfl rfl rfl (jY rfl) rfl rfl (fun c9 (b0:aG G K (aV 159 K o c48 n::aV 155 K g h (cG m e)::rows [2] m e::aV 151 K c d (cG j b)::rows [206,239,242] j b::box u 48 [zS c b.length d,zS g e.length h,zS o n.length c48,zS none 0 0,zS none 0 0]::box t 48 k::box r 64 l::L) c9)=>(aM (aL (aC (bG (t':=3) fa_64_3 rfl rfl) (aC (cX aMW b0 (i:=7) rfl rfl rfl) ?_))))))
 obtain ⟨e0,d0,hm⟩:=aB hm
 exact aW (vs:=[zS a10 a.Allowed.length c11]) call86 rfl (aEC d0 b0 b5) aF
end Gv
