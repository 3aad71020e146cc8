/- Walks, printed by program. -/
import Derived.Test.YtfhgggimcgajdaaGreatDoorJWk1
set_option linter.all false
namespace Gv
open Gv.Hp renaming le_refl→zR
open Go.Value renaming slice→zS,bool→zB
open Option.some renaming inj→zI
open Gv.Hp renaming le_trans→zL
open Go Go.Proofs Go.Proofs.Tryz
set_option maxRecDepth 20000
set_option maxHeartbeats 40000000
variable {G:qG} {K Kf:Hp} {L:List iU} {w:World} {a1 a4 a7 a10 a3 a13 a16:Option Addr} {c2 c5 c11 c4 c8 c14 c17:Nat}
theorem aEP {n:Int} {R:bJ} (hm:aDP n=some R) (hs:aM G K (L) w):
  Calls prog 77 ([i64 n]:List Value).toArray w (eK fun v w'=>v=bE R/\aM G K (L) w'):=by
 refine aP func77 rfl (by kernel_rfl) (by show (1:Nat)<=50;decide) ?_;unfold aDP at hm
 refine aJ (aD (v:=bE ([]:bJ)) (aF (aN (aJ (aG (v:=i64 n) (aA (cK rfl rfl) (aF ?_)))))))
 rcases aH hm with ⟨z,hm⟩|⟨z,hm⟩
 ·refine aL z rfl (aJ (aD (v:=bE ([48]:bJ)) (aF ?_)));obtain rfl:=zI hm
  exact aX (aK (aO results77 rfl ⟨rfl,hs⟩))
 ·refine aI z rfl (aW (aB (aJ (gA (Kt:=K) (xs:=([]:List UInt8)) (cs:=[]) (vs:=[]) aDH ez_5 rfl rfl hs rfl (by kernel_rfl) rfl rfl rfl trivial (fun J w4 (d3:aM G K (bN 5 K J 0 ([]:List UInt8)::L) w4)=>(aD (v:=zS J ([]:List UInt8).length 0) (aF (aN (aJ (aG (v:=i64 n) (aD (v:=i64 n) (aF (bM [0] (fun f w=>∃ g o p,aCf n g=some R/\f 3=zS o g.length p/\aM G K (bN 5 K o p g::L) w) ?_ ?_)))))))))))))
  ·rintro f g9 ⟨g,o,p,hm,e9,c3⟩
   unfold aCf at hm
   refine aB (zO [] (fun f w=>∃ a c d,aCe a=some R/\f 3=zS c a.length d/\aM G K (bN 5 K c d a::L) w) ?_ ?_)
   ·rintro f h0 ⟨a,c,d,hm,c4,d4⟩
    unfold aCe at hm
    refine aJ (gA (Kt:=K) (xs:=([]:List UInt8)) (cs:=[]) (vs:=[]) aDH ez_5 rfl rfl d4 rfl (by kernel_rfl) rfl rfl rfl trivial (fun V d5 (d6:aM G K (bN 5 K V 0 ([]:List UInt8)::bN 5 K c d a::L) d5)=>(aD (v:=zS V ([]:List UInt8).length 0) (aF (aN (aJ (bF c4 (aA (bO (len:=a.length) aDH rfl) (aA (iW rfl rfl) (aD (v:=i64 (wr ((a.length:Int) - 1))) (aF (bM [] (fun f w=>∃ q O a0,aEx q=some R/\f 6=zS O q.length a0/\aM G K (bN 5 K O a0 q::L) w) ?_ ?_))))))))))))
    ·rintro f h1 ⟨q,O,a0,hm,d7,c5⟩
     unfold aEx at hm
     refine aB (aJ (bF d7 (aA (aNB underlying118 underlying5 underlying9 c5 (i:=0) rfl rfl rfl) (aD (v:=bE q) (aF ?_)))));obtain rfl:=zI hm
     exact aX (aO results77 rfl ⟨rfl,(aM.arr 1 [] c5 rfl)⟩)
    obtain ⟨h2,d9,ho⟩:=aC hm
    refine dD [3] d9 (fun j a1 f w=>∃ r u,f 6=zS r j.length u/\f 7=i64 a1/\aM G K (bN 5 K r u j::bN 5 K c d a::L) w) ?_ ?_
    ·exact ⟨V,0,rfl,rfl,d6⟩
    ·rintro j a1 h3 f h4 hm hr ⟨r,u,c6,a2,x⟩
     unfold aCd at hm
     refine aN (aJ (bF a2 (aA (sO rfl rfl) (aF ?_))))
     rcases aH hm with ⟨a4,hm⟩|⟨a4,hm⟩
     ·refine aL a4 rfl (aW (aB (aN (bX (aU (bF c6 (bF c4 (bF a2 ?_))))))));obtain ⟨y,a5,hm⟩:=aC hm
      have e0:=gC x (i:=1) rfl a5
      refine aA (fT aDH rfl e0 rfl rfl rfl a5) (aA (aKD (t:=0) sc_5 x (i:=1) rfl a5 rfl rfl rfl) (gA (Kt:=K) (xs:=([y]:List UInt8)) (cs:=[Value.int .u8 (y.toNat:Int)]) (vs:=[(0,Value.int .u8 (y.toNat:Int))]) aDH ez_5 rfl rfl x rfl (by kernel_rfl) rfl rfl rfl ⟨rfl,trivial⟩ (fun e1 e2 (e3:aM G K (bN 5 K e1 1 ([y]:List UInt8)::bN 5 K r u j::bN 5 K c d a::L) e2)=>?_)));obtain ⟨c7,e4,hm⟩:=aC hm
      exact qM (i:=0) aDH underlying118 ez_5 rfl rfl e3 rfl (zR _) (zR _) e4 rfl rfl rfl rfl (fun _ h=>h) (fun a6 a8 e5 (e6:aM G K (bN 5 K a6 a8 c7::bN 5 K c d a::L) e5)=>(aD (v:=zS a6 c7.length a8) (cW (bH (aB (aU (bF a2 (aA (iW rfl rfl) (aD (v:=i64 (wr (a1 - 1))) (aF ⟨_,(zI hm).symm,aT,a6,a8,rfl,rfl,e6⟩))))))))))
     ·refine aI a4 rfl (cD (bA (bA ?_)))
      have e7:=hr _ (zI hm).symm
      subst e7
      have hm:(aEx j)=some R:=ho
      clear hr ho
      exact bR (aB ⟨aT,j,r,u,hm,c6,(aM.arr 2 [0] x rfl)⟩)
   refine aJ (aG (v:=i64 n) (aA (cF rfl rfl) (aF ?_)))
   rcases aH hm with ⟨a9,hm⟩|⟨a9,hm⟩
   ·refine aL a9 rfl (aU (bF e9 (gA (Kt:=K) (xs:=([(45:UInt8)]:List UInt8)) (cs:=[Value.int .u8 45]) (vs:=[(0,Value.int .u8 45)]) aDH ez_5 rfl rfl c3 rfl (by kernel_rfl) rfl rfl rfl ⟨rfl,trivial⟩ (fun e8 f0 (f1:aM G K (bN 5 K e8 1 ([(45:UInt8)]:List UInt8)::bN 5 K o p g::L) f0)=>?_))));obtain ⟨b0,f2,hm⟩:=aC hm
    exact qM (i:=0) aDH underlying118 ez_5 rfl rfl f1 rfl (zR _) (zR _) f2 rfl rfl rfl rfl (fun _ h=>h) (fun b1 b2 f3 (f4:aM G K (bN 5 K b1 b2 b0::L) f3)=>(aD (v:=zS b1 b0.length b2) (aF ⟨aT,b0,b1,b2,hm,rfl,f4⟩)))
   ·exact aI a9 rfl (aW (aB ⟨aT,g,o,p,hm,e9,c3⟩))
  obtain ⟨h5,f5,ho⟩:=aC hm
  refine dD [0] f5 (fun b b3 f w=>∃ k l,f 3=zS k b.length l/\f 4=i64 b3/\aM G K (bN 5 K k l b::L) w) ?_ ?_
  ·exact ⟨J,0,rfl,rfl,d3⟩
  ·rintro b b3 f6 f h6 hm hr ⟨k,l,c9,b4,b5⟩
   unfold aCh at hm
   refine aN (aJ (bF b4 (aA (fV rfl rfl) (aF ?_))))
   rcases aH hm with ⟨b6,hm⟩|⟨b6,hm⟩
   ·refine aL b6 rfl (aW (aB (aN (bX (aJ (bF b4 ?_))))));obtain ⟨m,f7,hm⟩:=aC hm
    refine aA (aIj rfl rfl f7) (aD (v:=i64 m) (aF (zO [0,3,4] (fun f w=>∃ e,aCg b b3 e=some f6/\f 5=i64 e/\aM G K (bN 5 K k l b::L) w) ?_ ?_)))
    ·rintro f h7 ⟨e,hm,f8,f9⟩
     unfold aCg at hm
     refine aU (bF c9 (bF f8 (aA (cA rfl rfl) (aA (aNC runUnderlying5 rfl ⟨_,runUnderlying2⟩) (gA (Kt:=K) (xs:=([(UInt8.ofInt (wr (48+e)))]:List UInt8)) (cs:=[Value.int .u8 ((UInt8.ofInt (wr (48+e))).toNat:Int)]) (vs:=[(0,Value.int .u8 ((UInt8.ofInt (wr (48+e))).toNat:Int))]) aDH ez_5 rfl rfl f9 rfl (by kernel_rfl) rfl rfl rfl ⟨rfl,trivial⟩ ?_)))))
     intro g0 g1 (g2:aM G K (bN 5 K g0 1 ([(UInt8.ofInt (wr (48+e)))]:List UInt8)::bN 5 K k l b::L) g1)
     obtain ⟨d0,g3,hm⟩:=aC hm
     refine qM (i:=0) aDH underlying118 ez_5 rfl rfl g2 rfl (zR _) (zR _) g3 rfl rfl rfl rfl (fun _ h=>h) (fun b7 b8 g4 (g5:aM G K (bN 5 K b7 b8 d0::L) g4)=>(aD (v:=zS b7 d0.length b8) (cW (bH (aB (aU (bF b4 ?_)))))));obtain ⟨g6,g7,hm⟩:=aC hm
     exact aA (R_quo rfl rfl g7) (aD (v:=i64 g6) (aF ⟨_,(zI hm).symm,aT,b7,b8,rfl,rfl,g5⟩))
    refine aJ (aG (v:=i64 m) (aA (cF rfl rfl) (aF ?_)))
    rcases aH hm with ⟨b9,hm⟩|⟨b9,hm⟩
    ·exact aL b9 rfl (aU (aG (v:=i64 m) (aA (R_neg rfl) (aD (v:=i64 (wr (0 - m))) (aF ⟨aT,wr (0 - m),hm,rfl,b5⟩)))))
    ·exact aI b9 rfl (aW (aB ⟨aT,m,hm,rfl,b5⟩))
   ·refine aI b6 rfl (cD (bA (bA ?_)))
    have g8:=hr _ (zI hm).symm
    subst g8
    have hm:(aCf n b)=some R:=ho
    clear hr ho
    exact bR (aB ⟨aT,b,k,l,hm,c9,b5⟩)
theorem aMj {a:(List Int)} {R:bJ} (hm:aFl a=some R) (m:aM G K (L) w) (n:bY K a1 c2 a):
  Calls prog 139 ([zS a1 a.length c2]:List Value).toArray w (eK fun v w'=>v=bE R/\aM G K (L) w'):=by
 refine aP func139 rfl (by kernel_rfl) (by show (1:Nat)<=26;decide) ?_;unfold aFl at hm
 refine aJ (aD (v:=bE ([]:bJ)) (aF (aN (aJ (aG (v:=zS a1 a.length c2) (aA (bO (len:=a.length) fN rfl) (aA (cK rfl rfl) (aF ?_))))))))
 rcases aH hm with ⟨g,hm⟩|⟨g,hm⟩
 ·refine aL g rfl (aJ (aD (v:=bE ([45]:bJ)) (aF ?_)));obtain rfl:=zI hm
  exact aX (aK (aO results139 rfl ⟨rfl,m⟩))
 ·refine aI g rfl (aW (aB (aJ (aD (v:=bE ([]:bJ)) (aF (aN (aJ (aD (v:=i64 0) (aF (bM [] (fun f w=>∃ c,aCZ c=some R/\f 3=bE c/\aM G K (L) w) ?_ ?_))))))))))
  ·rintro f w8 ⟨c,hm,u,x⟩
   unfold aCZ at hm
   refine aB (aJ (bF u (aD (v:=bE c) (aF ?_))));obtain rfl:=zI hm
   exact aX (aO results139 rfl ⟨rfl,x⟩)
  obtain ⟨b0,z,ho⟩:=aC hm
  refine dD [0] z (fun b d f w=>f 3=bE b/\f 4=i64 d/\aM G K (L) w) ?_ ?_
  ·exact ⟨rfl,rfl,m⟩
  ·rintro b d J f b1 hm hr ⟨h,e,i⟩
   unfold qS at hm
   refine aN (aJ (bF e (aG (v:=zS a1 a.length c2) (aA (bO (len:=a.length) fN rfl) (aA (cF rfl rfl) (aF ?_))))))
   rcases aH hm with ⟨j,hm⟩|⟨j,hm⟩
   ·refine aL j rfl (aW (aB (aN (bX (zO [0,4] (fun f w=>∃ k,aAn a d k=some J/\f 3=bE k/\aM G K (L) w) ?_ ?_)))))
    ·rintro f b2 ⟨k,hm,V,o⟩
     unfold aAn at hm
     refine aU (bF V (aG (v:=zS a1 a.length c2) (bF e ?_)));obtain ⟨O,p,hm⟩:=aC hm
     refine aA (cG fN rfl n rfl rfl rfl p) ?_;obtain ⟨b3,a0,a2⟩:=bY.el (sz:=1) rfl n p
     cases a2
     refine aA (cC (t:=0) dC o a0 rfl rfl) ?_;obtain ⟨b4,a3,hm⟩:=aC hm
     refine aQ (vs:=[i64 O]) call77 rfl (aEP a3 o) ?_
     rintro _ b5 ⟨rfl,a4⟩
     obtain ⟨a5,a6,hm⟩:=aC hm
     exact aA (qH rfl rfl a6) (aD (v:=bE a5) (cW (bH (aB (aU (bF e (aA (cA rfl rfl) (aD (v:=i64 (wr (d+1))) (aF ⟨_,(zI hm).symm,aT,rfl,rfl,a4⟩)))))))))
    refine aJ (bF e (aA (nN rfl rfl) (aF ?_)))
    rcases aH hm with ⟨l,hm⟩|⟨l,hm⟩
    ·refine aL l rfl (aU (bF h ?_));obtain ⟨q,a7,hm⟩:=aC hm
     exact aA (qH rfl rfl a7) (aD (v:=bE q) (aF ⟨aT,q,hm,rfl,i⟩))
    ·exact aI l rfl (aW (aB ⟨aT,b,hm,h,i⟩))
   ·refine aI j rfl (cD (bA (bA ?_)))
    have a8:=hr _ (zI hm).symm
    subst a8
    have hm:(aCZ b)=some R:=ho
    clear hr ho
    exact bR (aB ⟨aT,b,hm,h,i⟩)
theorem aHb {b:bJ} {a:(List Int)} {R:bJ} (hm:aDs b a=some R) (d:aM G K (L) w) (e:bY K a1 c2 a):
  Calls prog 103 ([bE b,zS a1 a.length c2]:List Value).toArray w (eK fun v w'=>v=bE R/\aM G K (L) w'):=by
 refine aP func103 rfl (by kernel_rfl) (by show (2:Nat)<=15;decide) ?_;unfold aDs at hm
 refine aJ (aD (v:=bE ([]:bJ)) (aF (aN (aJ (aG (v:=zS a1 a.length c2) (aA (bO (len:=a.length) fN rfl) (aA (cK rfl rfl) (aF ?_))))))))
 rcases aH hm with ⟨c,hm⟩|⟨c,hm⟩
 ·refine aL c rfl (aJ (aG (v:=bE b) (aD (v:=bE b) (aF ?_))));obtain rfl:=zI hm
  exact aX (aK (aO results103 rfl ⟨rfl,d⟩))
 ·refine aI c rfl (aW (aB (aJ (aG (v:=bE b) ?_))));obtain ⟨o,h,hm⟩:=aC hm
  refine aA (qH rfl rfl h) (aG (v:=zS a1 a.length c2) ?_);obtain ⟨p,i,hm⟩:=aC hm
  refine aQ (vs:=[zS a1 a.length c2]) call139 rfl (aMj i d e) ?_
  rintro _ q ⟨rfl,j⟩
  obtain ⟨r,k,hm⟩:=aC hm
  refine aA (qH rfl rfl k) ?_;obtain ⟨l,m,hm⟩:=aC hm
  refine aA (qH rfl rfl m) (aD (v:=bE l) (aF ?_));obtain rfl:=zI hm
  exact aX (aO results103 rfl ⟨rfl,j⟩)
theorem jD {b:Bool} {R:Int} (hm:kU b=some R) (c:aM G K (L) w):
  Calls prog 209 ([zB b]:List Value).toArray w (eK fun v w'=>v=i64 R/\aM G K (L) w'):=by
 refine aP func209 rfl (by kernel_rfl) (by show (1:Nat)<=4;decide) ?_;unfold kU at hm
 refine aJ (aD (v:=i64 0) (aF (aN (aJ (aG (v:=zB b) (aF ?_))))))
 rcases aH hm with ⟨a,hm⟩|⟨a,hm⟩
 ·refine aL a rfl (aJ (aD (v:=i64 1) (aF ?_)));obtain rfl:=zI hm
  exact aX (aK (aO results209 rfl ⟨rfl,c⟩))
 ·refine aI a rfl (aW (aB (aJ (aD (v:=i64 0) (aF ?_)))));obtain rfl:=zI hm
  exact aX (aO results209 rfl ⟨rfl,c⟩)
theorem aMY {e:(List bS)} {k R:Int} (hm:aGU e k=some R) (m:aM G K (L) w) (h:bY K a1 c2 e):
  Calls prog 210 ([zS a1 e.length c2,i64 k]:List Value).toArray w (eK fun v w'=>v=i64 R/\aM G K (L) w'):=by
 refine aP func210 rfl (by kernel_rfl) (by show (2:Nat)<=18;decide) ?_;unfold aGU at hm
 refine aJ (aD (v:=i64 0) (aF (aJ (aD (v:=i64 1) (aF (aN (bM [] (fun f w=>∃ b,aCi b=some R/\f 1=i64 b/\aM G K (L) w) ?_ ?_)))))))
 ·rintro f J ⟨b,hm,n,o⟩
  unfold aCi at hm
  refine aB (aJ (bF n (aD (v:=i64 b) (aF ?_))));obtain rfl:=zI hm
  exact aX (aO results210 rfl ⟨rfl,o⟩)
 obtain ⟨V,q,ho⟩:=aC hm
 refine dD [0] q (fun a c f w=>f 1=i64 a/\f 5=i64 c/\aM G K (L) w) ?_ ?_
 ·exact ⟨rfl,rfl,m⟩
 ·rintro a c O f a0 hm hr ⟨d,i,j⟩
  unfold aEy at hm
  refine aN (aJ (bF i (aA (nN rfl rfl) (aF ?_))))
  rcases aH hm with ⟨g,hm⟩|⟨g,hm⟩
  ·refine aL g rfl (aW (aB (bX (aJ (bF i (aG (v:=zS a1 e.length c2) (bF d ?_)))))));obtain ⟨a2,l,hm⟩:=aC hm
   refine aA (cG lX rfl h rfl rfl rfl l) ?_;obtain ⟨a3,r,t⟩:=bY.el (sz:=2) rfl h l
   cases t
   obtain ⟨u,x,hm⟩:=aC hm
   refine aQ (vs:=[eP a1 (a.toNat * 2+0)]) call244 rfl (aGw x j r) ?_
   rintro _ a4 ⟨rfl,y⟩
   exact aA (iW rfl rfl) (aA (cA rfl rfl) (aD (v:=i64 (wr (c+(wr (u - 1))))) (aF (aU (bF d (aA (cA rfl rfl) (aD (v:=i64 (wr (a+1))) (cW (bH (aB ⟨_,(zI hm).symm,aT,rfl,rfl,y⟩))))))))))
  ·refine aI g rfl (cD (bA (bA ?_)))
   have z:=hr _ (zI hm).symm
   subst z
   have hm:(aCi a)=some R:=ho
   clear hr ho
   exact bR (aB ⟨aT,a,hm,d,j⟩)
theorem aOH {c a b R:Int} (hm:aEz c a b=some R) (d:aM G K (L) w):
  Calls prog 211 ([i64 c,i64 a,i64 b]:List Value).toArray w (eK fun v w'=>v=i64 R/\aM G K (L) w'):=by
 refine aP func211 rfl (by kernel_rfl) (by show (3:Nat)<=67;decide) ?_;unfold aEz at hm
 refine aJ (aD (v:=i64 0) (aF (aN (aJ (aG (v:=i64 c) (aF (bX (aJ (aA (cK rfl rfl) (aD (v:=zB (c == 0)) (aF ?_)))))))))))
 rcases aH hm with ⟨i,hm⟩|⟨i,hm⟩
 ·refine aL i rfl (aJ (aG (v:=i64 a) (aG (v:=i64 b) (aA (cA rfl rfl) ?_))));obtain ⟨z,J,hm⟩:=aC hm
  refine aA (aIj rfl rfl J) (aD (v:=i64 z) (aF ?_));obtain rfl:=zI hm
  exact aX (aY (aK (aO results211 rfl ⟨rfl,d⟩)))
 ·refine aI i rfl (aJ (aA (cK rfl rfl) (aD (v:=zB (c == 1)) (aF ?_))))
  rcases aH hm with ⟨j,hm⟩|⟨j,hm⟩
  ·refine aL j rfl (aJ (aG (v:=i64 a) (aG (v:=i64 b) (aA (iW rfl rfl) (aA (cA rfl rfl) ?_)))));obtain ⟨O,q7,hm⟩:=aC hm
   refine aA (aIj rfl rfl q7) (aD (v:=i64 O) (aF ?_));obtain rfl:=zI hm
   exact aX (aY (aK (aO results211 rfl ⟨rfl,d⟩)))
  ·refine aI j rfl (aJ (aA (cK rfl rfl) (aD (v:=zB (c == 2)) (aF ?_))))
   rcases aH hm with ⟨k,hm⟩|⟨k,hm⟩
   ·refine aL k rfl (aJ (aG (v:=i64 a) (aG (v:=i64 b) (aA (R_mul rfl rfl) ?_))));obtain ⟨a2,a3,hm⟩:=aC hm
    refine aA (aIj rfl rfl a3) (aD (v:=i64 a2) (aF ?_));obtain rfl:=zI hm
    exact aX (aY (aK (aO results211 rfl ⟨rfl,d⟩)))
   ·refine aI k rfl (aJ (aA (cK rfl rfl) (aD (v:=zB (c == 3)) (aF ?_))))
    rcases aH hm with ⟨l,hm⟩|⟨l,hm⟩
    ·refine aL l rfl (aJ (aG (v:=i64 a) (aG (v:=i64 b) (aA (cK rfl rfl) ?_))));obtain ⟨a5,a6,hm⟩:=aC hm
     refine aQ (vs:=[zB (a == b)]) call209 rfl (jD a6 d) ?_
     rintro _ d8 ⟨rfl,a7⟩
     refine aD (v:=i64 a5) (aF ?_);obtain rfl:=zI hm
     exact aX (aY (aK (aO results211 rfl ⟨rfl,a7⟩)))
    ·refine aI l rfl (aJ (aA (cK rfl rfl) (aD (v:=zB (c == 4)) (aF ?_))))
     rcases aH hm with ⟨m,hm⟩|⟨m,hm⟩
     ·refine aL m rfl (aJ (aG (v:=i64 a) (aG (v:=i64 b) (aA (fV rfl rfl) ?_))));obtain ⟨a9,b0,hm⟩:=aC hm
      refine aQ (vs:=[zB (a != b)]) call209 rfl (jD b0 d) ?_
      rintro _ d9 ⟨rfl,b1⟩
      refine aD (v:=i64 a9) (aF ?_);obtain rfl:=zI hm
      exact aX (aY (aK (aO results211 rfl ⟨rfl,b1⟩)))
     ·refine aI m rfl (aJ (aA (cK rfl rfl) (aD (v:=zB (c == 5)) (aF ?_))))
      rcases aH hm with ⟨n,hm⟩|⟨n,hm⟩
      ·refine aL n rfl (aJ (aG (v:=i64 a) (aG (v:=i64 b) (aA (cF rfl rfl) ?_))));obtain ⟨b3,b4,hm⟩:=aC hm
       refine aQ (vs:=[zB (decide (a < b))]) call209 rfl (jD b4 d) ?_
       rintro _ e0 ⟨rfl,b5⟩
       refine aD (v:=i64 b3) (aF ?_);obtain rfl:=zI hm
       exact aX (aY (aK (aO results211 rfl ⟨rfl,b5⟩)))
      ·refine aI n rfl (aJ (aA (cK rfl rfl) (aD (v:=zB (c == 6)) (aF ?_))))
       rcases aH hm with ⟨o,hm⟩|⟨o,hm⟩
       ·refine aL o rfl (aJ (aG (v:=i64 a) (aG (v:=i64 b) (aA (vR rfl rfl) ?_))));obtain ⟨b7,b8,hm⟩:=aC hm
        refine aQ (vs:=[zB (decide (a<=b))]) call209 rfl (jD b8 d) ?_
        rintro _ e1 ⟨rfl,b9⟩
        refine aD (v:=i64 b7) (aF ?_);obtain rfl:=zI hm
        exact aX (aY (aK (aO results211 rfl ⟨rfl,b9⟩)))
       ·refine aI o rfl (aJ (aA (cK rfl rfl) (aD (v:=zB (c == 7)) (aF ?_))))
        rcases aH hm with ⟨p,hm⟩|⟨p,hm⟩
        ·refine aL p rfl (aN (cP [] (fun f w=>∃ q,aFW q=some R/\f 6=i64 q/\aM G K (L) w) ?_ ?_))
         ·rintro f e2 ⟨q,hm,c2,c3⟩
          unfold aFW at hm
          refine aB ?_;obtain rfl:=zI hm
          exact aX (aY (aK (aO results211 rfl ⟨c2,c3⟩)))
         refine aU (aG (v:=i64 a) (aA (fV rfl rfl) (aG (v:=zB (a != 0)) ?_)))
         rcases aH hm with ⟨e,hm⟩|⟨e,hm⟩
         ·refine bB e rfl rfl (aG (v:=i64 b) (bB e rfl rfl (aA (fV rfl rfl) (aA (bI (v:=zB (b != 0)) e rfl rfl) ?_))));obtain ⟨t,c6,hm⟩:=aC hm
          refine aQ (vs:=[zB (b != 0)]) call209 rfl (jD c6 d) ?_
          rintro _ e3 ⟨rfl,c7⟩
          exact aD (v:=i64 t) (aF ⟨aT,t,hm,rfl,c7⟩)
         ·refine aV e rfl rfl (aV e rfl rfl (aA (bL (v:=zB false) e rfl rfl) ?_));obtain ⟨u,c8,hm⟩:=aC hm
          refine aQ (vs:=[zB false]) call209 rfl (jD c8 d) ?_
          rintro _ e4 ⟨rfl,d0⟩
          exact aD (v:=i64 u) (aF ⟨aT,u,hm,rfl,d0⟩)
        ·refine aI p rfl (aW (bH (aB (aN (cP [] (fun f w=>∃ r,aFX r=some R/\f 6=i64 r/\aM G K (L) w) ?_ ?_)))))
         ·rintro f e5 ⟨r,hm,d1,d2⟩
          unfold aFX at hm
          refine aB ?_;obtain rfl:=zI hm
          exact aX (aO results211 rfl ⟨d1,d2⟩)
         refine aU (aG (v:=i64 a) (aA (fV rfl rfl) (aG (v:=zB (a != 0)) ?_)))
         rcases aH hm with ⟨h,hm⟩|⟨h,hm⟩
         ·refine aR h rfl rfl (aR h rfl rfl (aA (bI (v:=zB true) h rfl rfl) ?_));obtain ⟨x,d4,hm⟩:=aC hm
          refine aQ (vs:=[zB true]) call209 rfl (jD d4 d) ?_
          rintro _ e6 ⟨rfl,d5⟩
          exact aD (v:=i64 x) (aF ⟨aT,x,hm,rfl,d5⟩)
         ·refine bD h rfl rfl (aG (v:=i64 b) (bD h rfl rfl (aA (fV rfl rfl) (aA (bL (v:=zB (b != 0)) h rfl rfl) ?_))));obtain ⟨y,d6,hm⟩:=aC hm
          refine aQ (vs:=[zB (b != 0)]) call209 rfl (jD d6 d) ?_
          rintro _ e7 ⟨rfl,d7⟩
          exact aD (v:=i64 y) (aF ⟨aT,y,hm,rfl,d7⟩)
theorem aMk {rec_:(List bS)->(List Int)->Int->Option Int} (j:∀ {G:qG} {K:Hp} {L:List iU} {w:World} {e:(List bS)} {a1:Option Addr} {c2:Nat} {a:(List Int)} {a4:Option Addr} {c5:Nat} {k:Int} {R:Int} (hm:rec_ e a k=some R) (c:aM G K (L) w) (b:bY K a1 c2 e) (g:bY K a4 c5 a),
  Calls prog 174 ([zS a1 e.length c2,zS a4 a.length c5,i64 k]:List Value).toArray w (eK fun v w'=>v=i64 R/\aM G K (L) w'))
  {G:qG} {K:Hp} {L:List iU} {w:World} {e:(List bS)} {a1:Option Addr} {c2:Nat} {a:(List Int)} {a4:Option Addr} {c5:Nat} {k:Int} {R:Int} (hm:uU rec_ e a k=some R) (c:aM G K (L) w) (b:bY K a1 c2 e) (g:bY K a4 c5 a):
  Calls prog 174 ([zS a1 e.length c2,zS a4 a.length c5,i64 k]:List Value).toArray w (eK fun v w'=>v=i64 R/\aM G K (L) w'):=by
 let q:=[zS a1 e.length c2,zS a4 a.length c5,i64 (wr (k+1))]
 refine aP func174 rfl (by kernel_rfl) (by show (3:Nat)<=60;decide) ?_;unfold uU at hm
 refine aJ (aD (v:=i64 0) (aF (aN (aJ (aG (v:=zS a1 e.length c2) (aG (v:=i64 k) ?_))))));obtain ⟨h,i,hm⟩:=aC hm
 refine aA (cG lX rfl b rfl rfl rfl i) ?_;obtain ⟨b9,d,x⟩:=bY.el (sz:=2) rfl b i
 cases x
 refine aA (cH (k':=k.toNat * 2+0) vT rfl d rfl) (aA (cC (t:=0) dC c d rfl rfl) (aF (bX (aJ (aA (cK rfl rfl) (aD (v:=zB (h.Kind == 0)) (aF ?_)))))))
 rcases aH hm with ⟨l,hm⟩|⟨l,hm⟩
 ·refine aL l rfl (aJ (aG (v:=zS a1 e.length c2) (aG (v:=i64 k) (aA (cG lX rfl b rfl rfl rfl i) (aA (cH (k':=k.toNat * 2+1) kL rfl d rfl) (aA (cC (t:=1) dC c d rfl rfl) (aD (v:=i64 h.Value) (aF ?_))))))));obtain rfl:=zI hm
  exact aX (aY (aK (aO results174 rfl ⟨rfl,c⟩)))
 ·refine aI l rfl (aJ (aA (cK rfl rfl) (aD (v:=zB (h.Kind == 1)) (aF ?_))))
  rcases aH hm with ⟨m,hm⟩|⟨m,hm⟩
  ·refine aL m rfl (aJ (aG (v:=zS a4 a.length c5) (aG (v:=zS a1 e.length c2) (aG (v:=i64 k) (aA (cG lX rfl b rfl rfl rfl i) (aA (cH (k':=k.toNat * 2+1) kL rfl d rfl) (aA (cC (t:=1) dC c d rfl rfl) ?_)))))));obtain ⟨z,r,hm⟩:=aC hm
   refine aA (cG fN rfl g rfl rfl rfl r) ?_;obtain ⟨c0,J,V⟩:=bY.el (sz:=1) rfl g r
   cases V
   refine aA (cC (t:=0) dC c J rfl rfl) (aD (v:=i64 z) (aF ?_));obtain rfl:=zI hm
   exact aX (aY (aK (aO results174 rfl ⟨rfl,c⟩)))
  ·refine aI m rfl (aJ (aA (cK rfl rfl) (aD (v:=zB (h.Kind == 3)) (aF ?_))))
   rcases aH hm with ⟨n,hm⟩|⟨n,hm⟩
   ·refine aL n rfl (aJ (aG (v:=zS a1 e.length c2) (aG (v:=zS a4 a.length c5) (aG (v:=i64 k) (aA (cA rfl rfl) ?_)))));obtain ⟨a0,a2,hm⟩:=aC hm
    refine aQ (vs:=q) call174 rfl (j a2 c b g) ?_
    rintro _ c1 ⟨rfl,a3⟩
    refine aA (cK rfl rfl) ?_;obtain ⟨a5,a6,hm⟩:=aC hm
    refine aQ (vs:=[zB (a0 == 0)]) call209 rfl (jD a6 a3) ?_
    rintro _ c3 ⟨rfl,a7⟩
    refine aD (v:=i64 a5) (aF ?_);obtain rfl:=zI hm
    exact aX (aY (aK (aO results174 rfl ⟨rfl,a7⟩)))
   ·refine aI n rfl (aW (bH (aB (aJ (aG (v:=zS a1 e.length c2) (aG (v:=zS a4 a.length c5) (aG (v:=i64 k) (aA (cA rfl rfl) ?_))))))));obtain ⟨o,a9,hm⟩:=aC hm
    refine aQ (vs:=q) call174 rfl (j a9 c b g) ?_
    rintro _ c4 ⟨rfl,b0⟩
    refine aD (v:=i64 o) (aF (aJ (aG (v:=zS a1 e.length c2) (aG (v:=zS a4 a.length c5) (aG (v:=zS a1 e.length c2) (aG (v:=i64 k) (aA (cA rfl rfl) ?_)))))));obtain ⟨b1,b2,hm⟩:=aC hm
    refine aQ (vs:=[zS a1 e.length c2,i64 (wr (k+1))]) call210 rfl (aMY b2 b0 b) ?_
    rintro _ c6 ⟨rfl,b3⟩
    obtain ⟨p,b4,hm⟩:=aC hm
    refine aQ (vs:=[zS a1 e.length c2,zS a4 a.length c5,i64 b1]) call174 rfl (j b4 b3 b g) ?_
    rintro _ c7 ⟨rfl,u⟩
    refine aD (v:=i64 p) (aF (aJ (aG (v:=zS a1 e.length c2) (aG (v:=i64 k) (aA (cG lX rfl b rfl rfl rfl i) (aA (cH (k':=k.toNat * 2+1) kL rfl d rfl) (aA (cC (t:=1) dC u d rfl rfl) (aG (v:=i64 o) (aG (v:=i64 p) ?_)))))))));obtain ⟨b5,b6,hm⟩:=aC hm
    refine aQ (vs:=[i64 h.Value,i64 o,i64 p]) call211 rfl (aOH b6 u) ?_
    rintro _ c8 ⟨rfl,b7⟩
    refine aD (v:=i64 b5) (aF ?_);obtain rfl:=zI hm
    exact aX (aO results174 rfl ⟨rfl,b7⟩)
theorem aMl (n:Nat):∀ {G:qG} {K:Hp} {L:List iU} {w:World} {e:(List bS)} {a1:Option Addr} {c2:Nat} {a:(List Int)} {a4:Option Addr} {c5:Nat} {k:Int} {R:Int} (hm:uV n e a k=some R) (b:aM G K (L) w) (c:bY K a1 c2 e) (d:bY K a4 c5 a),
  Calls prog 174 ([zS a1 e.length c2,zS a4 a.length c5,i64 k]:List Value).toArray w (eK fun v w'=>v=i64 R/\aM G K (L) w'):=by
 induction n with
 |zero=>
  intro G K L w e a1 c2 a a4 c5 k R hm b c d
  unfold uV at hm
  cases hm
 |succ n ih=>
  intro G K L w e a1 c2 a a4 c5 k R hm b c d
  exact aMk (rec_:=uV n) (fun hm b c d=>ih hm b c d) hm b c d
theorem aOI {e:(List bS)} {values:(List Int)} {k R:Int} (hm:aOD e values k=some R) (hs:aM G K (L) w) (h3:bY K a1 c2 e) (h6:bY K a4 c5 values):
  Calls prog 174 ([zS a1 e.length c2,zS a4 values.length c5,i64 k]:List Value).toArray w (eK fun v w'=>v=i64 R/\aM G K (L) w'):=aMl 100000 hm hs h3 h6
theorem aHc {e:(List bS)} {a:(List Int)} {R:Int} (hm:yQ e a=some R) (b:aM G K (L) w) (c:bY K a1 c2 e) (d:bY K a4 c5 a):
  Calls prog 135 ([zS a1 e.length c2,zS a4 a.length c5]:List Value).toArray w (eK fun v w'=>v=i64 R/\aM G K (L) w'):=by
 refine aP func135 rfl (by kernel_rfl) (by show (2:Nat)<=8;decide) ?_;unfold yQ at hm
 refine aJ (aD (v:=i64 0) (aF (aJ (aG (v:=zS a1 e.length c2) (aG (v:=zS a4 a.length c5) ?_)))));obtain ⟨g,h,hm⟩:=aC hm
 refine aQ (vs:=[zS a1 e.length c2,zS a4 a.length c5,i64 0]) call174 rfl (aOI h b c d) ?_
 rintro _ k ⟨rfl,i⟩
 refine aD (v:=i64 g) (aF ?_);obtain rfl:=zI hm
 exact aX (aO results135 rfl ⟨rfl,i⟩)
theorem aHd {a:(List (List bS))} {c R:(List Int)} (hm:aDt a c=some R) (O:aM G K (L) w) (u:bY K a1 c2 a) (h6:bY K a4 c5 c):
  Calls prog 132 ([zS a1 a.length c2,zS a4 c.length c5]:List Value).toArray w (eK fun v w'=>∃ x y,v=zS x R.length y/\aM G K (bN 2 K x y R::L) w'):=by
 refine aP func132 rfl (by kernel_rfl) (by show (2:Nat)<=24;decide) ?_;unfold aDt at hm
 refine aJ (aD (v:=zS none 0 0) (aF (aJ (gA (Kt:=K) (xs:=([]:List Int)) (cs:=[]) (vs:=[]) fN aFe rfl rfl O rfl (by kernel_rfl) rfl rfl rfl trivial (fun m w8 (a3:aM G K (bN 2 K m 0 ([]:List Int)::L) w8)=>(aD (v:=zS m ([]:List Int).length 0) (aF (aN (aJ (aD (v:=i64 0) (aF (bM [] (fun f w=>∃ d e g,aDa d=some R/\f 5=zS e d.length g/\aM G K (bN 2 K e g d::L) w) ?_ ?_))))))))))))
 ·rintro f c7 ⟨d,e,g,hm,a5,a6⟩
  unfold aDa at hm
  refine aB (aJ (bF a5 (aD (v:=zS e d.length g) (aF ?_))));obtain rfl:=zI hm
  exact aX (aO results132 rfl ⟨e,g,rfl,a6⟩)
 obtain ⟨c8,a9,ho⟩:=aC hm
 refine dD [0,1] a9 (fun b i32 f w=>∃ j k,f 5=zS j b.length k/\f 6=i64 i32/\aM G K (bN 2 K j k b::L) w) ?_ ?_
 ·exact ⟨m,0,rfl,rfl,a3⟩
 ·rintro b i32 c9 f d0 hm hr ⟨j,k,z,n,o⟩
  unfold aAo at hm
  refine aN (aJ (bF n (aG (v:=zS a1 a.length c2) (aA (bO (len:=a.length) lE rfl) (aA (cF rfl rfl) (aF ?_))))))
  rcases aH hm with ⟨p,hm⟩|⟨p,hm⟩
  ·refine aL p rfl (aW (aB (aN (bX (aU (bF z (aG (v:=zS a1 a.length c2) (bF n ?_))))))));obtain ⟨b0,J,hm⟩:=aC hm
   refine aA (cG lE rfl u rfl rfl rfl J) ?_;obtain ⟨d1,b1,b2⟩:=bY.el (sz:=1) rfl u J
   obtain ⟨b3,b4,rfl,b5⟩:=b2
   refine aA (cC (t:=0) aFP o b1 rfl rfl) (aG (v:=zS a4 c.length c5) ?_);obtain ⟨l,b6,hm⟩:=aC hm
   refine aQ (vs:=[zS b3 b0.length b4,zS a4 c.length c5]) call135 rfl (aHc b6 o b5 h6) ?_
   rintro _ d2 ⟨rfl,b7⟩
   refine gA (Kt:=K) (xs:=([l]:List Int)) (cs:=[i64 l]) (vs:=[(0,i64 l)]) fN aFe rfl rfl b7 rfl (by kernel_rfl) rfl rfl rfl ⟨rfl,trivial⟩ (fun b8 b9 (c0:aM G K (bN 2 K b8 1 ([l]:List Int)::bN 2 K j k b::L) b9)=>?_);obtain ⟨V,c1,hm⟩:=aC hm
   exact qM (i:=0) fN underlying68 aFe rfl rfl c0 rfl (zR _) (zR _) c1 rfl rfl rfl rfl (fun _ h=>h) (fun q r c3 (c4:aM G K (bN 2 K q r V::L) c3)=>(aD (v:=zS q V.length r) (cW (bH (aB (aU (bF n (aA (cA rfl rfl) (aD (v:=i64 (wr (i32+1))) (aF ⟨_,(zI hm).symm,aT,q,r,rfl,rfl,c4⟩))))))))))
  ·refine aI p rfl (cD (bA (bA ?_)))
   have c6:=hr _ (zI hm).symm
   subst c6
   have hm:(aDa b)=some R:=ho
   clear hr ho
   exact bR (aB ⟨aT,b,j,k,hm,z,o⟩)
theorem aHe {a b:(List Int)} {R:Bool} (hm:aDu a b=some R) (j:aM G K (L) w) (k:bY K a1 c2 a) (l:bY K a4 c5 b):
  Calls prog 101 ([zS a1 a.length c2,zS a4 b.length c5]:List Value).toArray w (eK fun v w'=>v=zB R/\aM G K (L) w'):=by
 refine aP func101 rfl (by kernel_rfl) (by show (2:Nat)<=26;decide) ?_;unfold aDu at hm
 refine aJ (aD (v:=zB false) (aF (aN (aJ (aG (v:=zS a1 a.length c2) (aA (bO (len:=a.length) fN rfl) (aG (v:=zS a4 b.length c5) (aA (bO (len:=b.length) fN rfl) (aA (fV rfl rfl) (aF ?_))))))))))
 rcases aH hm with ⟨e,hm⟩|⟨e,hm⟩
 ·refine aL e rfl (aJ (aD (v:=zB false) (aF ?_)));obtain rfl:=zI hm
  exact aX (aK (aO results101 rfl ⟨rfl,j⟩))
 ·refine aI e rfl (aW (aB (aN (aJ (aD (v:=i64 0) (aF (bM [] (fun f w=>aDb=some R/\aM G K (L) w) ?_ ?_)))))))
  ·rintro f w9 ⟨hm,q⟩
   unfold aDb at hm
   refine aB (aJ (aD (v:=zB true) (aF ?_)));obtain rfl:=zI hm
   exact aX (aO results101 rfl ⟨rfl,q⟩)
  obtain ⟨a3,u,ho⟩:=aC hm
  refine dP [0,1] u (fun g f w=>f 5=i64 g/\aM G K (L) w) ?_ ?_
  ·exact ⟨rfl,j⟩
  ·rintro g a5 f a6 hm hr ⟨d,c⟩
   unfold aAp at hm
   refine aN (aJ (bF d (aG (v:=zS a1 a.length c2) (aA (bO (len:=a.length) fN rfl) (aA (cF rfl rfl) (aF ?_))))))
   rcases aH hm with ⟨h,hm⟩|⟨h,hm⟩
   ·refine aL h rfl (aW (aB (aN (bX (aN (dU (C:=fun w'=>aM G K (L) w') cI (by kernel_rfl) (aM.mono c (eH.drew _)) (bG (fun _ c=>bP (v:=zS a1 a.length c2) rfl) (bG (fun _ c=>bP d) ?_))))))));obtain ⟨a7,m,hm⟩:=aC hm
    refine bG (fun _ c=>cG fN rfl k rfl rfl rfl m) ?_;obtain ⟨a8,x,y⟩:=bY.el (sz:=1) rfl k m
    cases y
    refine bG (fun _ c=>cC (t:=0) dC c x rfl rfl) (bG (fun _ c=>bP (v:=zS a4 b.length c5) rfl) (bG (fun _ c=>bP d) ?_));obtain ⟨a9,n,hm⟩:=aC hm
    refine bG (fun _ c=>cG fN rfl l rfl rfl rfl n) ?_;obtain ⟨b0,z,J⟩:=bY.el (sz:=1) rfl l n
    cases J
    refine bG (fun _ c=>cC (t:=0) dC c z rfl rfl) (bG (fun _ c=>fV rfl rfl) (eT (fun b1 o=>(aB ?_))))
    rcases aH hm with ⟨i,hm⟩|⟨i,hm⟩
    ·refine aL i rfl (aJ (aD (v:=zB false) (aF (aX (aY (aK (aK ?_)))))))
     have V:=hr _ (zI hm).symm
     subst V
     have hm:(some false)=some R:=ho
     clear hr ho
     obtain rfl:=zI hm
     exact aY (aK (aK (aO results101 rfl ⟨rfl,o⟩)))
    ·exact aI i rfl (aW (bH (aB (aU (bF d (aA (cA rfl rfl) (aD (v:=i64 (wr (g+1))) (aF ⟨_,(zI hm).symm,aT,rfl,o⟩))))))))
   ·refine aI h rfl (cD (bA (bA ?_)))
    have a0:=hr _ (zI hm).symm
    subst a0
    have hm:(aDb)=some R:=ho
    clear hr ho
    exact bR (aB ⟨aT,hm,c⟩)
theorem aCN {a:aZ} {j:Nat} {b:aZ} {k:Nat} {R:Bool} (hm:pJ a b=some R) (c:aM G K (L) w) (h:iG K a1 j [i64 a.Definition,i64 a.Part,zS a4 a.Values.length c5]) (n:bY K a4 c5 a.Values) (i:iG K a7 k [i64 b.Definition,i64 b.Part,zS a10 b.Values.length c11]) (o:bY K a10 c11 b.Values):
  Calls prog 136 ([eP a1 j,eP a7 k]:List Value).toArray w (eK fun v w'=>v=zB R/\aM G K (L) w'):=by
 refine aP func136 rfl (by kernel_rfl) (by show (2:Nat)<=36;decide) ?_;unfold pJ at hm
 refine aJ (aD (v:=zB false) (aF (aN (cP [] (fun f w=>∃ m,lR m=some R/\f 4=zB m/\aM G K (L) w) ?_ ?_))))
 ·rintro f J ⟨m,hm,p,q⟩
  unfold lR at hm
  refine aB ?_;obtain rfl:=zI hm
  exact aX (aO results136 rfl ⟨p,q⟩)
 refine dU (C:=fun w'=>aM G K (L) w') cI (by kernel_rfl) (aM.mono c (eH.drew _)) (bG (fun _ c=>bP (v:=eP a1 j) rfl) (bG (fun _ c=>eR rfl h) (bG (fun _ c=>cH (k':=j+0) aBx rfl h rfl) (bG (fun _ c=>cC (t:=0) dC c h rfl rfl) (bG (fun _ c=>bP (v:=eP a7 k) rfl) (bG (fun _ c=>eR rfl i) (bG (fun _ c=>cH (k':=k+0) aBx rfl i rfl) (bG (fun _ c=>cC (t:=0) dC c i rfl rfl) (bG (fun _ c=>cK rfl rfl) (bG (fun _ c=>bP (v:=zB (a.Definition == b.Definition)) rfl) ?_))))))))))
 rcases aH hm with ⟨d,hm⟩|⟨d,hm⟩
 ·refine cQ (g:=14) rfl rfl d (bG (fun _ c=>bP (v:=eP a1 j) rfl) (cQ (g:=14) rfl rfl d (bG (fun _ c=>eR rfl h) (cQ (g:=14) rfl rfl d (bG (fun _ c=>cH (k':=j+1) aBy rfl h rfl) (cQ (g:=14) rfl rfl d (bG (fun _ c=>cC (t:=1) dC c h rfl rfl) (cQ (g:=14) rfl rfl d (bG (fun _ c=>bP (v:=eP a7 k) rfl) (cQ (g:=14) rfl rfl d (bG (fun _ c=>eR rfl i) (cQ (g:=14) rfl rfl d (bG (fun _ c=>cH (k':=k+1) aBy rfl i rfl) (cQ (g:=14) rfl rfl d (bG (fun _ c=>cC (t:=1) dC c i rfl rfl) (cQ (g:=14) rfl rfl d (bG (fun _ c=>cK rfl rfl) (bG (fun _ c=>bI (v:=zB (a.Part == b.Part)) d rfl rfl) (bG (fun _ c=>bP (v:=zB (a.Part == b.Part)) rfl) ?_)))))))))))))))))))
  rcases aH hm with ⟨e,hm⟩|⟨e,hm⟩
  ·refine cQ (g:=25) rfl rfl e (bG (fun _ c=>bP (v:=eP a1 j) rfl) (cQ (g:=25) rfl rfl e (bG (fun _ c=>eR rfl h) (cQ (g:=25) rfl rfl e (bG (fun _ c=>cH (k':=j+2) xD rfl h rfl) (cQ (g:=25) rfl rfl e (bG (fun _ c=>cC (t:=2) vL c h rfl rfl) (cQ (g:=25) rfl rfl e (bG (fun _ c=>bP (v:=eP a7 k) rfl) (cQ (g:=25) rfl rfl e (bG (fun _ c=>eR rfl i) (cQ (g:=25) rfl rfl e (bG (fun _ c=>cH (k':=k+2) xD rfl i rfl) (cQ (g:=25) rfl rfl e (bG (fun _ c=>cC (t:=2) vL c i rfl rfl) (cQ (g:=25) rfl rfl e ?_))))))))))))))))
   obtain ⟨l,u,hm⟩:=aC hm
   exact eU (vs:=[zS a4 a.Values.length c5,zS a10 b.Values.length c11]) (v:=zB l) call101 rfl (fun _ c=>(aHe u c n o)) (bG (fun _ c=>bI (v:=zB l) e rfl rfl) (bG (fun _ c=>fG (v:=zB l) rfl) (eT (fun V x=>(aB ⟨aT,l,hm,rfl,x⟩)))))
  ·exact bW (g:=25) rfl rfl (eB e) (bW (g:=25) rfl rfl (eB e) (bW (g:=25) rfl rfl (eB e) (bW (g:=25) rfl rfl (eB e) (bW (g:=25) rfl rfl (eB e) (bW (g:=25) rfl rfl (eB e) (bW (g:=25) rfl rfl (eB e) (bW (g:=25) rfl rfl (eB e) (bW (g:=25) rfl rfl (eB e) (bG (fun _ c=>bL (v:=zB false) e rfl rfl) (bG (fun _ c=>fG (v:=zB false) rfl) (eT (fun O y=>(aB ⟨aT,false,hm,rfl,y⟩)))))))))))))
 ·refine bW (g:=14) rfl rfl (eB d) (bW (g:=14) rfl rfl (eB d) (bW (g:=14) rfl rfl (eB d) (bW (g:=14) rfl rfl (eB d) (bW (g:=14) rfl rfl (eB d) (bW (g:=14) rfl rfl (eB d) (bW (g:=14) rfl rfl (eB d) (bW (g:=14) rfl rfl (eB d) (bW (g:=14) rfl rfl (eB d) (bG (fun _ c=>bL (v:=zB false) d rfl rfl) (bG (fun _ c=>bP (v:=zB false) rfl) (bW (g:=25) rfl rfl (eB (by decide:¬ false=true)) (bW (g:=25) rfl rfl (eB (by decide:¬ false=true)) (bW (g:=25) rfl rfl (eB (by decide:¬ false=true)) (bW (g:=25) rfl rfl (eB (by decide:¬ false=true)) (bW (g:=25) rfl rfl (eB (by decide:¬ false=true)) (bW (g:=25) rfl rfl (eB (by decide:¬ false=true)) (bW (g:=25) rfl rfl (eB (by decide:¬ false=true)) (bW (g:=25) rfl rfl (eB (by decide:¬ false=true)) (bW (g:=25) rfl rfl (eB (by decide:¬ false=true)) (bG (fun _ c=>bL (v:=zB false) (by decide:¬ false=true) rfl rfl) (bG (fun _ c=>fG (v:=zB false) rfl) (eT (fun a0 z=>?_)))))))))))))))))))))))
  exact aB ⟨aT,false,hm,rfl,z⟩
theorem aJZ {b:(List cM)} {x_:cM} {R:(List cM)} (hm:yR b x_=some R) (hs:aM G K (bN 127 Kf a1 c2 b::L) w) (J:Hp.le Kf K) (V:bY Kf a3 c4 x_.Next.Values):
  Calls prog 133 ([zS a1 b.length c2,Value.agg #[bE x_.B,i64 x_.Next.Definition,i64 x_.Next.Part,zS a3 x_.Next.Values.length c4]]:List Value).toArray w (eK fun v w'=>∃ O a0,v=zS O R.length a0/\aM G K (bN 127 Kf O a0 R::L) w'):=by
 let d:=[bE x_.B,i64 x_.Next.Definition,i64 x_.Next.Part,zS a3 x_.Next.Values.length c4]
 refine aP func133 rfl (by kernel_rfl) (by show (2:Nat)<=33;decide) ?_;unfold yR at hm
 refine aJ (dM (v:=Value.agg #[bE x_.B,i64 x_.Next.Definition,i64 x_.Next.Part,zS a3 x_.Next.Values.length c4]) (vs:=d) hs rfl rfl (fun j w7 b3=>(aD (v:=zS none 0 0) (aF (aN (aJ (aD (v:=i64 0) (aF (bM [0,3] (fun f w=>pK b x_=some R/\aM G K (box j 127 d::bN 127 Kf a1 c2 b::L) w) ?_ ?_)))))))))
 ·rintro f w9 ⟨hm,a2⟩
  unfold pK at hm
  refine aB (aJ (aG (v:=zS a1 b.length c2) (aA (fQ (us:=d) aJV a2 (i:=0) rfl rfl rfl rfl) (gA (Kt:=Kf) (xs:=([x_]:List cM)) (cs:=d) (vs:=[(0,Value.agg #[bE x_.B,i64 x_.Next.Definition,i64 x_.Next.Part,zS a3 x_.Next.Values.length c4])]) lY aLX rfl rfl a2 rfl (by kernel_rfl) rfl rfl rfl ⟨⟨a3,c4,rfl,V⟩,trivial⟩ (fun b4 b5 (b7:aM G K (bN 127 Kf b4 1 ([x_]:List cM)::box j 127 d::bN 127 Kf a1 c2 b::L) b5)=>?_)))))
  obtain ⟨a4,b8,hm⟩:=aC hm
  refine aEr (i:=1) Kf lY underlying122 aLX rfl rfl b7 rfl (zR _) (zR _) b8 rfl rfl rfl rfl (fun _ _ _ h=>El.one h) (fun o p b9 (c0:aM G K (box j 127 d::bN 127 Kf o p a4::L) b9)=>(aD (v:=zS o a4.length p) (aF ?_)));obtain rfl:=zI hm
  exact aX (aO results133 rfl ⟨o,p,rfl,(aM.arr 1 [] c0 rfl)⟩)
 obtain ⟨e6,c3,ho⟩:=aC hm
 refine dP [0,3] c3 (fun e f w=>f 5=i64 e/\aM G K (box j 127 d::bN 127 Kf a1 c2 b::L) w) ?_ ?_
 ·exact ⟨rfl,b3⟩
 ·rintro e c5 f e7 hm hr ⟨l,a5⟩
  unfold tI at hm
  refine aN (aJ (bF l (aG (v:=zS a1 b.length c2) (aA (bO (len:=b.length) lY rfl) (aA (cF rfl rfl) (aF ?_))))))
  rcases aH hm with ⟨q,hm⟩|⟨q,hm⟩
  ·refine aL q rfl (aW (aB (aN (bX (aN (cP [0,3,5] (fun f w=>∃ r,tH b e r=some c5/\f 27=zB r/\aM G K (box j 127 d::bN 127 Kf a1 c2 b::L) w) ?_ ?_))))))
   ·rintro f e8 ⟨r,hm,a6,a7⟩
    unfold tH at hm
    refine aB ?_
    rcases aH hm with ⟨u,hm⟩|⟨u,hm⟩
    ·refine aL u a6 (aJ (aG (v:=zS a1 b.length c2) (aD (v:=zS a1 b.length c2) (aF (aX (aY (aK (aK ?_))))))))
     have c6:=hr _ (zI hm).symm
     subst c6
     have hm:(some b)=some R:=ho
     clear hr ho
     obtain rfl:=zI hm
     exact aY (aK (aK (aO results133 rfl ⟨a1,c2,rfl,(aM.arr 1 [] a7 rfl)⟩)))
    ·exact aI u a6 (aW (bH (aB (aU (bF l (aA (cA rfl rfl) (aD (v:=i64 (wr (e+1))) (aF ⟨_,(zI hm).symm,aT,rfl,a7⟩))))))))
   obtain ⟨e9,a8,a9,c8,b0⟩:=aM.lendBp a5 .head
   obtain ⟨c9,x,y,a,b1⟩:=aM.lendSp c8 (zL J a8) .head
   refine dU (C:=fun w'=>aM G c9 (L) w') cI (by kernel_rfl) (aM.mono a (eH.drew _)) (bG (fun _ a=>bP (v:=zS a1 b.length c2) rfl) (bG (fun _ a=>bP l) ?_));obtain ⟨d0,k,hm⟩:=aC hm
   have n:=aLt y k
   refine bG (fun _ a=>fT lY rfl n rfl rfl rfl k) (bG (fun _ a=>jE (k':=e.toNat * 4+0) tA n rfl rfl) ?_);obtain ⟨f0,d1,d2⟩:=bY.el (sz:=4) rfl y k
   obtain ⟨f1,f2,rfl,f3⟩:=d2
   refine bG (fun _ a=>cC (t:=0) fA a d1 rfl rfl) (bG (fun _ a=>bC (t':=0) tA rfl rfl) (bG (fun _ a=>cC (t:=0) fA a (a9.mono x) rfl rfl) (bG (fun _ a=>kS rfl rfl) (bG (fun _ a=>bP (v:=zB (d0.B == x_.B)) rfl) ?_))))
   rcases aH hm with ⟨c,hm⟩|⟨c,hm⟩
   ·refine cQ (g:=20) rfl rfl c (bG (fun _ a=>bP (v:=zS a1 b.length c2) rfl) (cQ (g:=20) rfl rfl c (bG (fun _ a=>bP l) (cQ (g:=20) rfl rfl c (bG (fun _ a=>fT lY rfl n rfl rfl rfl k) (cQ (g:=20) rfl rfl c (bG (fun _ a=>jE (k':=e.toNat * 4+1) zX n rfl rfl) (cQ (g:=20) rfl rfl c (bG (fun _ a=>bC (t':=1) zX rfl rfl) (cQ (g:=20) rfl rfl c ?_))))))))));obtain ⟨f4,d3,d4⟩:=bY.el (sz:=4) rfl y k
    obtain ⟨f5,f6,rfl,d5⟩:=d4
    obtain ⟨z,d6,hm⟩:=aC hm
    refine eU (vs:=[eP a1 (e.toNat * 4+1),eP (some ⟨j,0,none⟩) (0+1)]) (v:=zB z) call136 rfl (fun _ a=>(aCN d6 a (iG.sub (t:=1) (m:=3) d3 rfl) d5 (iG.sub (t:=1) (m:=3) (a9.mono x) rfl) (V.mono (zL (zL J a8) x)))) (bG (fun _ a=>bI (v:=zB z) c rfl rfl) (eT (fun f7 d7=>?_)))
    have d8:=b1 _ _ d7
    have d9:=b0 _ _ d8
    exact aB ⟨aT,z,hm,rfl,d9⟩
   ·refine bW (g:=20) rfl rfl (eB c) (bW (g:=20) rfl rfl (eB c) (bW (g:=20) rfl rfl (eB c) (bW (g:=20) rfl rfl (eB c) (bW (g:=20) rfl rfl (eB c) (bW (g:=20) rfl rfl (eB c) (bG (fun _ a=>bL (v:=zB false) c rfl rfl) (eT (fun f8 e0=>?_))))))))
    have e1:=b1 _ _ e0
    have e2:=b0 _ _ e1
    exact aB ⟨aT,false,hm,rfl,e2⟩
  ·refine aI q rfl (cD (bA (bA ?_)))
   have e3:=hr _ (zI hm).symm
   subst e3
   have hm:(pK b x_)=some R:=ho
   clear hr ho
   exact bR (aB ⟨aT,hm,a5⟩)
theorem aHT {rec_:(List Definition)->Int->Int->(List Int)->(List cM)->Option (List cM)} (ih:∀ {G:qG} {K:Hp} {L:List iU} {w:World} {Kf:Hp} {j:(List Definition)} {a1:Option Addr} {c2:Nat} {d:Int} {part:Int} {e:(List Int)} {a4:Option Addr} {c5:Nat} {out:(List cM)} {a7:Option Addr} {c8:Nat} {R:(List cM)} (hm:rec_ j d part e out=some R) (hs:aM G K (bN 127 Kf a7 c8 out::L) w) (z:Hp.le Kf K) (h3:bY K a1 c2 j) (x:bY K a4 c5 e),
  Calls prog 97 ([zS a1 j.length c2,i64 d,i64 part,zS a4 e.length c5,zS a7 out.length c8]:List Value).toArray w (eK fun v w'=>∃ K' c4 c6,v=zS c4 R.length c6/\Hp.le K K'/\aM G K' (bN 127 K' c4 c6 R::L) w'))
  {G:qG} {K:Hp} {L:List iU} {w:World} {Kf:Hp} {j:(List Definition)} {a1:Option Addr} {c2:Nat} {d:Int} {part:Int} {e:(List Int)} {a4:Option Addr} {c5:Nat} {out:(List cM)} {a7:Option Addr} {c8:Nat} {R:(List cM)} (hm:cT rec_ j d part e out=some R) (hs:aM G K (bN 127 Kf a7 c8 out::L) w) (z:Hp.le Kf K) (h3:bY K a1 c2 j) (x:bY K a4 c5 e):
  Calls prog 97 ([zS a1 j.length c2,i64 d,i64 part,zS a4 e.length c5,zS a7 out.length c8]:List Value).toArray w (eK fun v w'=>∃ K' c4 c6,v=zS c4 R.length c6/\Hp.le K K'/\aM G K' (bN 127 K' c4 c6 R::L) w'):=by
 let g8:=[zS a1 j.length c2,i64 d,i64 (wr (part+1)),zS a4 e.length c5,zS a7 out.length c8]
 let J:=bN 127 K a7 c8 out
 let b9:=bN 127 Kf a7 c8 out
 refine aP func97 rfl (by kernel_rfl) (by show (5:Nat)<=125;decide) ?_;unfold cT at hm
 refine aJ (aD (v:=zS none 0 0) (aF (aJ (aG (v:=zS a1 j.length c2) (aG (v:=i64 d) ?_)))));obtain ⟨e9,g9,hm⟩:=aC hm
 refine aA (cG jO rfl h3 rfl rfl rfl g9) ?_;obtain ⟨s5,h0,j3⟩:=bY.el (sz:=3) rfl h3 g9
 obtain ⟨a8,a9,rfl,b0⟩:=j3
 refine aA (cH (k':=d.toNat * 3+2) jJ rfl h0 rfl) (aA (cC (t:=2) qO hs h0 rfl rfl) (aD (v:=zS a8 e9.Body.length a9) (aF (aJ (aG (v:=zS a8 e9.Body.length a9) (aG (v:=i64 part) ?_))))));obtain ⟨a,h1,hm⟩:=aC hm
 refine aA (cG iH rfl b0 rfl rfl rfl h1) ?_;obtain ⟨s6,j4,j5⟩:=bY.el (sz:=4) rfl b0 h1
 obtain ⟨b,c,rfl,e7⟩:=j5
 refine aA (dZ (t:=0) (vs:=[i64 a.Kind,i64 a.Number,bE a.Name,zS b a.Arguments.length c]) yD hs j4 rfl rfl rfl) (eA (vs:=[i64 0,i64 0,bE ([]:bJ),zS none 0 0]) zeroValue152 hs rfl (fun g s7 j6=>(eD (i:=0) (ns:=[i64 a.Kind,i64 a.Number,bE a.Name,zS b a.Arguments.length c]) (us:=[i64 a.Kind,i64 a.Number,bE a.Name,zS b a.Arguments.length c]) sizeOf152 j6 rfl rfl rfl rfl rfl (gJ rfl) rfl rfl (fun c0 (y:aM G K (box g 152 [i64 a.Kind,i64 a.Number,bE a.Name,zS b a.Arguments.length c]::b9::L) c0)=>(aF (aN (aJ (aG (v:=zS a7 out.length c8) (aA (bO (len:=out.length) lY rfl) (aA (nN rfl rfl) (aF ?_)))))))))))
 rcases aH hm with ⟨e8,hm⟩|⟨e8,hm⟩
 ·refine aL e8 rfl (aJ (aG (v:=zS a7 out.length c8) (aD (v:=zS a7 out.length c8) (aF ?_))))
  have j7:aM G K (box g 152 [i64 a.Kind,i64 a.Number,bE a.Name,zS b a.Arguments.length c]::J::L) c0:=aM.weak (i:=1) y rfl (fun _ h=>bN.mono z h)
  obtain rfl:=zI hm
  exact aX (aK (aO results97 rfl ⟨K,a7,c8,rfl,(zR _),(aM.arr 1 [] j7 rfl)⟩))
 ·refine aI e8 rfl (aW (aB (aN (aJ (aA (bC (t':=0) eY rfl rfl) (aA (bQ dC y (i:=0) rfl rfl rfl) (aF (bM [] (fun f w=>∃ c7 c9 d0 d1,Hp.le K c7/\rJ c9=some R/\f 4=zS d0 c9.length d1/\aM G c7 (bN 127 c7 d0 d1 c9::L) w) ?_ ?_))))))))
  ·rintro f s8 ⟨c7,c9,d0,d1,j9,hm,k0,k1⟩
   unfold rJ at hm
   refine aB (aJ (bF k0 (aD (v:=zS d0 c9.length d1) (aF ?_))));obtain rfl:=zI hm
   exact aX (aO results97 rfl ⟨c7,d0,d1,rfl,j9,k1⟩)
  refine aJ (aA (cK rfl rfl) (aD (v:=zB (a.Kind == 1)) (aF ?_)))
  rcases aH hm with ⟨f0,hm⟩|⟨f0,hm⟩
  ·refine aL f0 rfl (aJ (aG (v:=i64 d) (aG (v:=i64 part) (aA (cA rfl rfl) (aG (v:=zS a4 e.length c5) ?_)))));obtain ⟨V,k3,hm⟩:=aC hm
   refine aQ (vs:=[zS a4 e.length c5]) call52 rfl (aBT k3 y x) ?_
   rintro _ s9 ⟨O,a0,rfl,k4⟩
   refine aA (lQ (vs:=[(0,i64 d),(1,i64 (wr (part+1))),(2,zS O V.length a0)]) (cs:=[i64 d,i64 (wr (part+1)),zS O V.length a0]) aLW rfl (by kernel_rfl)) (eA (vs:=[i64 0,i64 0,zS none 0 0]) zeroValue70 k4 rfl (fun a2 t0 k5=>(eD (i:=0) (ns:=[i64 d,i64 (wr (part+1)),zS O V.length a0]) (us:=[i64 d,i64 (wr (part+1)),zS O V.length a0]) sizeOf70 k5 rfl rfl rfl rfl rfl (gJ rfl) rfl rfl (fun k6 (d7:aM G K (box a2 70 [i64 d,i64 (wr (part+1)),zS O V.length a0]::bN 2 K O a0 V::box g 152 [i64 a.Kind,i64 a.Number,bE a.Name,zS b a.Arguments.length c]::b9::L) k6)=>(aF (zO [3,4,12,13] (fun f w=>∃ l m k n o,nP e out a l m k=some R/\aM G K (bN 2 K n o k::box a2 70 [i64 l,i64 m,zS n k.length o]::box g 152 [i64 a.Kind,i64 a.Number,bE a.Name,zS b a.Arguments.length c]::b9::L) w) ?_ ?_))))))
   ·rintro f k7 ⟨l,m,k,n,o,hm,k8⟩
    unfold nP at hm
    refine aN ?_
    have h2:aM G K (box a2 70 [i64 l,i64 m,zS n k.length o]::box g 152 [i64 a.Kind,i64 a.Number,bE a.Name,zS b a.Arguments.length c]::bN 2 K n o k::b9::L) k7:=(aM.arr 3 [1,2,0] k8 rfl)
    refine kT (C:=fun w'=>∃ L',aM G K (box a2 70 [i64 l,i64 m,zS n k.length o]::box g 152 [i64 a.Kind,i64 a.Number,bE a.Name,zS b a.Arguments.length c]::L') w') [(0,0),(1,0),(2,0),(3,0),(4,0),(5,0),(8,0),(6,1),(7,1),(9,0),(10,1),(11,0)] cI (by kernel_rfl) (fun _ hg=>⟨_,aM.mono h2 hg⟩) (fun t1 k9=>?_)
    have b1:=aM.mono h2 k9
    refine dB rfl (fun _ _=>bP (v:=zS a7 out.length c8) rfl) (dB rfl (fun _ _=>bC (t':=2) lD rfl rfl) (dB rfl (fun _ ⟨_,b1⟩=>bQ fA b1 (i:=1) rfl rfl rfl) (dB rfl (fun _ _=>bC (t':=3) jI rfl rfl) (dB rfl (fun _ ⟨_,b1⟩=>bQ qN b1 (i:=1) rfl rfl rfl) (dB rfl (fun _ _=>bP (v:=zS a4 e.length c5) rfl) (dB rfl (fun _ ⟨_,b1⟩=>fQ (us:=[i64 l,i64 m,zS n k.length o]) vM b1 (i:=0) rfl rfl rfl rfl) (yC rfl ?_)))))))
    obtain ⟨d8,l0,hm⟩:=aC hm
    refine aQ (vs:=[zS b a.Arguments.length c,zS a4 e.length c5]) call132 rfl (aHd l0 b1 e7 x) ?_
    rintro _ t2 ⟨d9,e0,rfl,h4⟩
    refine cW (aB ⟨⟨_,(aM.arr 3 [1,2,0] h4 rfl)⟩,?_⟩)
    refine yC rfl ?_;obtain ⟨t3,t4,l1,l2,l3⟩:=aM.lendSp h4 (zR _) .head
    obtain ⟨e1,l4,hm⟩:=aC hm
    refine aQ (vs:=[bE a.Name,zS d9 d8.length e0]) call103 rfl (aHb l4 l2 l1) ?_
    rintro _ f1 ⟨rfl,l5⟩
    have h5:=l3 _ _ l5
    refine cW (aB ⟨⟨_,(aM.arr 3 [1,2,0] h5 rfl)⟩,?_⟩)
    refine dB rfl (fun _ _=>lQ (vs:=[(0,bE e1),(1,Value.agg #[i64 l,i64 m,zS n k.length o])]) (cs:=[bE e1,i64 l,i64 m,zS n k.length o]) bs_127 rfl (by kernel_rfl)) (yC rfl ?_);obtain ⟨b2,f2,l6,f3⟩:=aM.giveSp h5 (zR _) zt3
    replace f3:aM G b2 (bN 2 K d9 e0 d8::box a2 70 [i64 l,i64 m,zS n k.length o]::box g 152 [i64 a.Kind,i64 a.Number,bE a.Name,zS b a.Arguments.length c]::b9::L) f1:=f3
    have l7:aM G b2 (bN 2 K d9 e0 d8::box a2 70 [i64 l,i64 m,zS n k.length o]::box g 152 [i64 a.Kind,i64 a.Number,bE a.Name,zS b a.Arguments.length c]::bN 127 b2 a7 c8 out::L) f1:=aM.weak (i:=3) f3 rfl (fun _ h=>bN.mono (zL z f2) h)
    have l8:aM G b2 (bN 127 b2 a7 c8 out::bN 2 K d9 e0 d8::box a2 70 [i64 l,i64 m,zS n k.length o]::box g 152 [i64 a.Kind,i64 a.Number,bE a.Name,zS b a.Arguments.length c]::L) f1:=(aM.arr 4 [3,0,1,2] l7 rfl)
    obtain ⟨l9,m0,hm⟩:=aC hm
    refine aQ (vs:=[zS a7 out.length c8,Value.agg #[bE e1,i64 l,i64 m,zS n k.length o]]) call133 rfl (aJZ (Kf:=b2) (x_:=⟨e1,⟨l,m,k⟩⟩) m0 l8 (zR _) l6) ?_
    rintro _ t5 ⟨h7,h8,rfl,h9⟩
    refine cW (aB ⟨⟨_,(aM.weakK (aM.arr 4 [2,3,0,1] h9 rfl) f2)⟩,?_⟩)
    refine dB rfl (fun _ _=>fG (v:=zS h7 l9.length h8) rfl) (yB (aB ?_));obtain rfl:=zI hm
    exact aX (aY (aK (aK (aO results97 rfl ⟨b2,h7,h8,rfl,f2,(aM.arr 4 [0] h9 rfl)⟩))))
   refine aJ (aG (v:=zS a8 e9.Body.length a9) (aG (v:=i64 part) (aA (cA rfl rfl) ?_)));obtain ⟨b3,e2,hm⟩:=aC hm
   refine aA (cG iH rfl b0 rfl rfl rfl e2) ?_;obtain ⟨t6,c1,m2⟩:=bY.el (sz:=4) rfl b0 e2
   obtain ⟨m3,m4,rfl,m5⟩:=m2
   refine aA (cH (k':=(wr (part+1)).toNat * 4+0) eY rfl c1 rfl) (aA (cC (t:=0) dC d7 c1 rfl rfl) (aA (cK rfl rfl) (aF ?_)))
   rcases aH hm with ⟨f4,hm⟩|⟨f4,hm⟩
   ·refine aL f4 rfl (kT (C:=fun w'=>∃ L',aM G K L' w') [(0,0),(1,0),(2,0),(3,0),(4,0),(5,0),(6,0),(7,0),(8,0),(9,0),(10,0),(11,0),(12,0),(13,1),(14,0),(15,2)] cI (by kernel_rfl) (fun _ hg=>⟨_,aM.mono d7 hg⟩) (fun t7 m6=>?_))
    have d2:=aM.mono d7 m6
    refine dB rfl (fun _ _=>bP (v:=zS a8 e9.Body.length a9) rfl) (dB rfl (fun _ _=>bP (v:=i64 part) rfl) (dB rfl (fun _ _=>cA rfl rfl) (dB rfl (fun _ _=>cG iH rfl b0 rfl rfl rfl e2) (dB rfl (fun _ _=>cH (k':=(wr (part+1)).toNat * 4+1) jH rfl c1 rfl) (dB rfl (fun _ ⟨_,d2⟩=>cC (t:=1) dC d2 c1 rfl rfl) (dB rfl (fun _ _=>bP (v:=zS a8 e9.Body.length a9) rfl) (dB rfl (fun _ _=>bP (v:=i64 part) rfl) (dB rfl (fun _ _=>cA rfl rfl) (dB rfl (fun _ _=>cG iH rfl b0 rfl rfl rfl e2) (dB rfl (fun _ _=>cH (k':=(wr (part+1)).toNat * 4+3) jI rfl c1 rfl) (dB rfl (fun _ ⟨_,d2⟩=>cC (t:=3) qN d2 c1 rfl rfl) (dB rfl (fun _ _=>bP (v:=zS a4 e.length c5) rfl) (yC rfl ?_)))))))))))))
    obtain ⟨b4,m7,hm⟩:=aC hm
    refine aQ (vs:=[zS m3 b3.Arguments.length m4,zS a4 e.length c5]) call132 rfl (aHd m7 d2 m5 x) ?_
    rintro _ t8 ⟨b5,b6,rfl,i0⟩
    refine cW (aB ⟨⟨_,i0⟩,?_⟩)
    exact dB rfl (fun _ _=>lQ (vs:=[(0,i64 b3.Number),(2,zS b5 b4.length b6)]) (cs:=[i64 b3.Number,i64 0,zS b5 b4.length b6]) aLW rfl (by kernel_rfl)) (WE_s rfl (eD (i:=1) (ns:=[i64 b3.Number,i64 0,zS b5 b4.length b6]) (us:=[i64 b3.Number,i64 0,zS b5 b4.length b6]) sizeOf70 i0 rfl rfl rfl rfl rfl (gJ rfl) rfl rfl (fun m8 (m9:aM G K (bN 2 K b5 b6 b4::box a2 70 [i64 b3.Number,i64 0,zS b5 b4.length b6]::bN 2 K O a0 V::box g 152 [i64 a.Kind,i64 a.Number,bE a.Name,zS b a.Arguments.length c]::b9::L) m8)=>(aF (yB (aB ⟨aT,b3.Number,0,b4,b5,b6,hm,(aM.arr 3 [0,1] m9 rfl)⟩))))))
   ·exact aI f4 rfl (aW (aB ⟨aT,d,wr (part+1),V,O,a0,hm,(aM.arr 2 [1,0] d7 rfl)⟩))
  ·refine aI f0 rfl (aJ (aA (cK rfl rfl) (aD (v:=zB (a.Kind == 2)) (aF ?_))))
   rcases aH hm with ⟨f5,hm⟩|⟨f5,hm⟩
   ·refine aL f5 rfl (aJ (aG (v:=zS a1 j.length c2) (aG (v:=i64 d) (aG (v:=i64 part) (aA (cA rfl rfl) (aG (v:=zS a4 e.length c5) (aG (v:=zS a7 out.length c8) ?_)))))))
    have n0:aM G K (box g 152 [i64 a.Kind,i64 a.Number,bE a.Name,zS b a.Arguments.length c]::J::L) c0:=aM.weak (i:=1) y rfl (fun _ h=>bN.mono z h)
    have n1:aM G K (J::box g 152 [i64 a.Kind,i64 a.Number,bE a.Name,zS b a.Arguments.length c]::L) c0:=(aM.arr 2 [1,0] n0 rfl)
    obtain ⟨f6,n2,hm⟩:=aC hm
    refine aQ (vs:=g8) call97 rfl (ih (Kf:=K) n2 n1 (zR _) h3 x) ?_
    rintro _ t9 ⟨n3,f7,f8,rfl,e3,n4⟩
    refine aD (v:=zS f7 f6.length f8) (aF (aJ (aG (v:=zS a1 j.length c2) (aG (v:=i64 d) (aG (v:=zS a8 e9.Body.length a9) (aG (v:=i64 part) (aA (cA rfl rfl) ?_)))))));obtain ⟨n5,n6,hm⟩:=aC hm
    refine aQ (vs:=[zS a8 e9.Body.length a9,i64 (wr (part+1))]) call134 rfl (aIn n6 n4 (b0.mono e3)) ?_
    rintro _ u0 ⟨rfl,n7⟩
    refine aG (v:=zS a4 e.length c5) (aG (v:=zS f7 f6.length f8) ?_);obtain ⟨n8,n9,hm⟩:=aC hm
    refine aQ (vs:=[zS a1 j.length c2,i64 d,i64 n5,zS a4 e.length c5,zS f7 f6.length f8]) call97 rfl (ih (Kf:=n3) n9 n7 (zR _) (h3.mono e3) (x.mono e3)) ?_
    rintro _ u1 ⟨o0,i1,i2,rfl,o1,o2⟩
    refine aD (v:=zS i1 n8.length i2) (aF ?_);obtain rfl:=zI hm
    exact aX (aY (aK (aK (aO results97 rfl ⟨o0,i1,i2,rfl,(zL e3 o1),(aM.arr 2 [0] o2 rfl)⟩))))
   ·refine aI f5 rfl (aJ (aA (cK rfl rfl) (aD (v:=zB (a.Kind == 3)) (aF ?_))))
    rcases aH hm with ⟨f9,hm⟩|⟨f9,hm⟩
    ·refine aL f9 rfl (aJ (aA (bC (t':=3) jI rfl rfl) (aA (bQ qN y (i:=0) rfl rfl rfl) ?_)));obtain ⟨o4,i3,hm⟩:=aC hm
     refine aA (cG lE rfl e7 rfl rfl rfl i3) ?_;obtain ⟨u2,o5,o6⟩:=bY.el (sz:=1) rfl e7 i3
     obtain ⟨o7,o8,rfl,o9⟩:=o6
     refine aA (cC (t:=0) aFP y o5 rfl rfl) (aG (v:=zS a4 e.length c5) ?_);obtain ⟨u3,p0,hm⟩:=aC hm
     refine aQ (vs:=[zS o7 o4.length o8,zS a4 e.length c5]) call135 rfl (aHc p0 y o9 x) ?_
     rintro _ g0 ⟨rfl,i4⟩
     refine aA (fV rfl rfl) (aF ?_)
     rcases aH hm with ⟨g1,hm⟩|⟨g1,hm⟩
     ·refine aL g1 rfl (aJ (aG (v:=zS a1 j.length c2) (aG (v:=i64 d) (aG (v:=i64 part) (aA (cA rfl rfl) (aG (v:=zS a4 e.length c5) (aG (v:=zS a7 out.length c8) ?_)))))))
      have p1:aM G K (box g 152 [i64 a.Kind,i64 a.Number,bE a.Name,zS b a.Arguments.length c]::J::L) g0:=aM.weak (i:=1) i4 rfl (fun _ h=>bN.mono z h)
      have p2:aM G K (J::box g 152 [i64 a.Kind,i64 a.Number,bE a.Name,zS b a.Arguments.length c]::L) g0:=(aM.arr 2 [1,0] p1 rfl)
      obtain ⟨p3,p4,hm⟩:=aC hm
      refine aQ (vs:=g8) call97 rfl (ih (Kf:=K) p4 p2 (zR _) h3 x) ?_
      rintro _ u4 ⟨p5,i5,i6,rfl,p6,p7⟩
      refine aD (v:=zS i5 p3.length i6) (aF ?_);obtain rfl:=zI hm
      exact aX (aY (aK (aK (aO results97 rfl ⟨p5,i5,i6,rfl,p6,(aM.arr 2 [0] p7 rfl)⟩))))
     ·refine aI g1 rfl ?_
      have p9:aM G K (box g 152 [i64 a.Kind,i64 a.Number,bE a.Name,zS b a.Arguments.length c]::J::L) g0:=aM.weak (i:=1) i4 rfl (fun _ h=>bN.mono z h)
      exact aW (bH (aB ⟨aT,K,out,a7,c8,(zR _),hm,rfl,(aM.arr 1 [] p9 rfl)⟩))
    ·refine aI f9 rfl (aJ (aA (cK rfl rfl) (aD (v:=zB (a.Kind == 4)) (aF ?_))))
     rcases aH hm with ⟨g2,hm⟩|⟨g2,hm⟩
     ·refine aL g2 rfl (aJ (aD (v:=i64 0) (aF (bM [] (fun f w=>∃ d3 d4 e4 e5,Hp.le K d3/\xH d4=some R/\f 4=zS e4 d4.length e5/\aM G d3 (bN 127 d3 e4 e5 d4::L) w) ?_ ?_))))
      ·rintro f u5 ⟨d3,d4,e4,e5,q0,hm,q1,q2⟩
       unfold xH at hm
       exact bH (aB ⟨aT,d3,d4,e4,e5,q0,hm,q1,q2⟩)
      have q3:aM G K (box g 152 [i64 a.Kind,i64 a.Number,bE a.Name,zS b a.Arguments.length c]::J::L) c0:=aM.weak (i:=1) y rfl (fun _ h=>bN.mono z h)
      obtain ⟨u6,q4,ho⟩:=aC hm
      refine dD [0,1,2,3,12] q4 (fun p b7 f w=>∃ q r u,Hp.le K q/\f 4=zS r p.length u/\f 14=i64 b7/\aM G q (box g 152 [i64 a.Kind,i64 a.Number,bE a.Name,zS b a.Arguments.length c]::bN 127 q r u p::L) w) ?_ ?_
      ·exact ⟨K,a7,c8,(zR _),rfl,rfl,q3⟩
      ·rintro p b7 u7 f u8 hm hr ⟨q,r,u,b8,i7,g3,g4⟩
       unfold kE at hm
       refine aN (aJ (bF g3 (aA (bC (t':=1) jH rfl rfl) (aA (bQ dC g4 (i:=0) rfl rfl rfl) (aA (vR rfl rfl) (aF ?_))))))
       rcases aH hm with ⟨g5,hm⟩|⟨g5,hm⟩
       ·refine aL g5 rfl (aW (aB (aN (bX (aU (aG (v:=zS a1 j.length c2) (aG (v:=i64 d) (aG (v:=i64 part) (aA (cA rfl rfl) (aG (v:=zS a4 e.length c5) ?_))))))))));obtain ⟨q5,q6,hm⟩:=aC hm
        refine aQ (vs:=[zS a4 e.length c5]) call52 rfl (aBT q6 g4 (x.mono b8)) ?_
        rintro _ u9 ⟨q7,q8,rfl,q9⟩
        refine bF g3 (gA (Kt:=K) (xs:=([b7]:List Int)) (cs:=[i64 b7]) (vs:=[(0,i64 b7)]) fN aFe rfl rfl q9 rfl (by kernel_rfl) rfl rfl rfl ⟨rfl,trivial⟩ (fun r0 r1 (r2:aM G q (bN 2 K r0 1 ([b7]:List Int)::bN 2 K q7 q8 q5::box g 152 [i64 a.Kind,i64 a.Number,bE a.Name,zS b a.Arguments.length c]::bN 127 q r u p::L) r1)=>?_));obtain ⟨i8,r3,hm⟩:=aC hm
        refine qM (i:=0) fN underlying68 aFe rfl rfl r2 rfl b8 b8 r3 rfl rfl rfl rfl (fun _ h=>h) (fun i9 j0 e6 (r4:aM G q (bN 2 K i9 j0 i8::box g 152 [i64 a.Kind,i64 a.Number,bE a.Name,zS b a.Arguments.length c]::bN 127 q r u p::L) e6)=>(bF i7 ?_));obtain ⟨c3,g6,r5,g7⟩:=aM.giveSp r4 b8 .head
        replace g7:aM G c3 (box g 152 [i64 a.Kind,i64 a.Number,bE a.Name,zS b a.Arguments.length c]::bN 127 q r u p::L) e6:=g7
        have r6:aM G c3 (box g 152 [i64 a.Kind,i64 a.Number,bE a.Name,zS b a.Arguments.length c]::bN 127 c3 r u p::L) e6:=aM.weak (i:=1) g7 rfl (fun _ h=>bN.mono g6 h)
        have r7:aM G c3 (bN 127 c3 r u p::box g 152 [i64 a.Kind,i64 a.Number,bE a.Name,zS b a.Arguments.length c]::L) e6:=(aM.arr 2 [1,0] r6 rfl)
        obtain ⟨r8,r9,hm⟩:=aC hm
        refine aQ (vs:=[zS a1 j.length c2,i64 d,i64 (wr (part+1)),zS i9 i8.length j0,zS r p.length u]) call97 rfl (ih (Kf:=c3) r9 r7 (zR _) (h3.mono (zL b8 g6)) r5) ?_
        rintro _ v0 ⟨s0,j1,j2,rfl,s1,s2⟩
        exact aD (v:=zS j1 r8.length j2) (cW (bH (aB (aU (bF g3 (aA (cA rfl rfl) (aD (v:=i64 (wr (b7+1))) (aF ⟨_,(zI hm).symm,aT,s0,j1,j2,(zL (zL b8 g6) s1),rfl,rfl,(aM.arr 2 [1,0] s2 rfl)⟩))))))))
       ·refine aI g5 rfl (cD (bA (bA ?_)))
        have s3:=hr _ (zI hm).symm
        subst s3
        have hm:(xH p)=some R:=ho
        clear hr ho
        exact bR (aB ⟨aT,q,p,r,u,b8,hm,i7,(aM.arr 1 [] g4 rfl)⟩)
     ·refine aI g2 rfl ?_
      have s4:aM G K (box g 152 [i64 a.Kind,i64 a.Number,bE a.Name,zS b a.Arguments.length c]::J::L) c0:=aM.weak (i:=1) y rfl (fun _ h=>bN.mono z h)
      exact aW (bH (aB ⟨aT,K,out,a7,c8,(zR _),hm,rfl,(aM.arr 1 [] s4 rfl)⟩))
theorem aHU (n:Nat):∀ {G:qG} {K:Hp} {L:List iU} {w:World} {Kf:Hp} {a:(List Definition)} {a1:Option Addr} {c2:Nat} {d:Int} {part:Int} {b:(List Int)} {a4:Option Addr} {c5:Nat} {out:(List cM)} {a7:Option Addr} {c8:Nat} {R:(List cM)} (hm:dE n a d part b out=some R) (c:aM G K (bN 127 Kf a7 c8 out::L) w) (e:Hp.le Kf K) (g:bY K a1 c2 a) (h:bY K a4 c5 b),
  Calls prog 97 ([zS a1 a.length c2,i64 d,i64 part,zS a4 b.length c5,zS a7 out.length c8]:List Value).toArray w (eK fun v w'=>∃ i j k,v=zS j R.length k/\Hp.le K i/\aM G i (bN 127 i j k R::L) w'):=by
 induction n with
 |zero=>
  intro G K L w Kf a a1 c2 d part b a4 c5 out a7 c8 R hm c e g h
  unfold dE at hm
  cases hm
 |succ n ih=>
  intro G K L w Kf a a1 c2 d part b a4 c5 out a7 c8 R hm c e g h
  exact aHT (rec_:=dE n) (fun hm c e g h=>ih hm c e g h) hm c e g h
theorem aJf {list:(List Definition)} {d part:Int} {values:(List Int)} {out R:(List cM)} (hm:aFY list d part values out=some R) (hs:aM G K (bN 127 Kf a7 c8 out::L) w) (hKf:Hp.le Kf K) (h3:bY K a1 c2 list) (h6:bY K a4 c5 values):
  Calls prog 97 ([zS a1 list.length c2,i64 d,i64 part,zS a4 values.length c5,zS a7 out.length c8]:List Value).toArray w (eK fun v w'=>∃ K' ra1 rc1,v=zS ra1 R.length rc1/\Hp.le K K'/\aM G K' (bN 127 K' ra1 rc1 R::L) w'):=aHU 100000 hm hs hKf h3 h6
theorem aJg {e:(List Definition)} {p:aZ} {b:Nat} {R:((List cM) × Bool)} (hm:qT e p=some R) (j:aM G K (L) w) (r:bY K a1 c2 e) (a:iG K a4 b [i64 p.Definition,i64 p.Part,zS a7 p.Values.length c8]) (u:bY K a7 c8 p.Values):
  Calls prog 70 ([zS a1 e.length c2,eP a4 b]:List Value).toArray w (eK fun v w'=>∃ i k l,v=Value.tuple #[zS k R.1.length l,zB R.2]/\Hp.le K i/\aM G i (bN 127 i k l R.1::L) w'):=by
 refine aP func70 rfl (by kernel_rfl) (by show (2:Nat)<=26;decide) ?_;unfold qT at hm
 refine aJ (aD (v:=zS none 0 0) (aD (v:=zB false) (aF (aN (kT (C:=fun w'=>∃ L',aM G K L' w') [(0,0),(1,0),(2,0),(3,0),(4,0),(5,0),(6,0),(7,0),(8,0),(9,0),(10,0),(11,0),(12,0),(13,1),(14,1),(15,0)] cI (by kernel_rfl) (fun _ hg=>⟨_,aM.mono j hg⟩) (fun O x=>?_))))))
 have c:=aM.mono j x
 refine dB rfl (fun _ _=>bP (v:=zS a1 e.length c2) rfl) (dB rfl (fun _ _=>bP (v:=eP a4 b) rfl) (dB rfl (fun _ _=>eR rfl a) (dB rfl (fun _ _=>cH (k':=b+0) aBx rfl a rfl) (dB rfl (fun _ ⟨_,c⟩=>cC (t:=0) dC c a rfl rfl) (dB rfl (fun _ _=>bP (v:=eP a4 b) rfl) (dB rfl (fun _ _=>eR rfl a) (dB rfl (fun _ _=>cH (k':=b+1) aBy rfl a rfl) (dB rfl (fun _ ⟨_,c⟩=>cC (t:=1) dC c a rfl rfl) (dB rfl (fun _ _=>bP (v:=eP a4 b) rfl) (dB rfl (fun _ _=>eR rfl a) (dB rfl (fun _ _=>cH (k':=b+2) xD rfl a rfl) (dB rfl (fun _ ⟨_,c⟩=>cC (t:=2) vL c a rfl rfl) (yC rfl (gA (Kt:=K) (xs:=([]:List cM)) (cs:=[]) (vs:=[]) lY aLX rfl rfl c rfl (by kernel_rfl) rfl rfl rfl trivial (fun m y (n:aM G K (bN 127 K m 0 ([]:List cM)::L) y)=>(cW (aB ⟨⟨_,n⟩,?_⟩)))))))))))))))))
 refine yC rfl ?_;obtain ⟨d,z,hm⟩:=aC hm
 refine aQ (vs:=[zS a1 e.length c2,i64 p.Definition,i64 p.Part,zS a7 p.Values.length c8,zS m ([]:List cM).length 0]) call97 rfl (aJf (Kf:=K) z n (zR _) r u) ?_
 rintro _ a0 ⟨J,g,h,rfl,o,q⟩
 refine cW (aB ⟨⟨_,(aM.weakK q o)⟩,?_⟩)
 refine dB rfl (fun _ _=>fG (v:=zS g d.length h) rfl) (yB (aB (aJ (aG (v:=zS g d.length h) (aG (v:=zS g d.length h) (aA (bO (len:=d.length) lY rfl) (aA (vR rfl rfl) (aD (v:=zS g d.length h) (aD (v:=zB (decide ((d.length:Int)<=200))) (aF ?_))))))))));obtain rfl:=zI hm
 exact aX (kJ results70 rfl rfl ⟨J,g,h,rfl,o,q⟩)
theorem aDZ {a:(List bJ)} {s_:bJ} {R:Int} (hm:yS a s_=some R) (j:aM G K (L) w) (h:bY K a1 c2 a):
  Calls prog 71 ([zS a1 a.length c2,bE s_]:List Value).toArray w (eK fun v w'=>v=i64 R/\aM G K (L) w'):=by
 refine aP func71 rfl (by kernel_rfl) (by show (2:Nat)<=19;decide) ?_;unfold yS at hm
 refine aJ (aD (v:=i64 0) (aF (aN (aJ (aD (v:=i64 0) (aF (bM [] (fun f w=>aDc=some R/\aM G K (L) w) ?_ ?_)))))))
 ·rintro f u ⟨hm,k⟩
  unfold aDc at hm
  refine aB (aJ (aD (v:=i64 (-1)) (aF ?_)));obtain rfl:=zI hm
  exact aX (aO results71 rfl ⟨rfl,k⟩)
 obtain ⟨x,m,ho⟩:=aC hm
 refine dP [0,1] m (fun b f w=>f 5=i64 b/\aM G K (L) w) ?_ ?_
 ·exact ⟨rfl,j⟩
 ·rintro b y f z hm hr ⟨c,d⟩
  unfold aAq at hm
  refine aN (aJ (bF c (aG (v:=zS a1 a.length c2) (aA (bO (len:=a.length) hH rfl) (aA (cF rfl rfl) (aF ?_))))))
  rcases aH hm with ⟨e,hm⟩|⟨e,hm⟩
  ·refine aL e rfl (aW (aB (aN (bX (aJ (aG (v:=zS a1 a.length c2) (bF c ?_)))))));obtain ⟨J,i,hm⟩:=aC hm
   refine aA (cG hH rfl h rfl rfl rfl i) ?_;obtain ⟨V,n,o⟩:=bY.el (sz:=1) rfl h i
   cases o
   refine aA (cC (t:=0) fA d n rfl rfl) (aG (v:=bE s_) (aA (kS rfl rfl) (aF ?_)))
   rcases aH hm with ⟨g,hm⟩|⟨g,hm⟩
   ·refine aL g rfl (aJ (bF c (aD (v:=i64 b) (aF (aX (aY (aK (aK ?_))))))))
    have p:=hr _ (zI hm).symm
    subst p
    have hm:(some b)=some R:=ho
    clear hr ho
    obtain rfl:=zI hm
    exact aY (aK (aK (aO results71 rfl ⟨rfl,d⟩)))
   ·exact aI g rfl (aW (bH (aB (aU (bF c (aA (cA rfl rfl) (aD (v:=i64 (wr (b+1))) (aF ⟨_,(zI hm).symm,aT,rfl,d⟩))))))))
  ·refine aI e rfl (cD (bA (bA ?_)))
   have r:=hr _ (zI hm).symm
   subst r
   have hm:(aDc)=some R:=ho
   clear hr ho
   exact bR (aB ⟨aT,hm,d⟩)
theorem aHf {s_:bJ} {R:Int} (hm:aDv s_=some R) (g:aM G K (L) w):
  Calls prog 98 ([bE s_]:List Value).toArray w (eK fun v w'=>v=i64 R/\aM G K (L) w'):=by
 refine aP func98 rfl (by kernel_rfl) (by show (1:Nat)<=17;decide) ?_;unfold aDv at hm
 refine aJ (aD (v:=i64 0) (aF (aN (aJ (aD (v:=i64 0) (aF (bM [0] (fun f w=>aDd s_=some R/\aM G K (L) w) ?_ ?_)))))))
 ·rintro f o ⟨hm,h⟩
  unfold aDd at hm
  refine aB (aJ (aG (v:=bE s_) (aA (fX runUnderlying9 rfl) (aD (v:=i64 (s_.length:Int)) (aF ?_)))));obtain rfl:=zI hm
  exact aX (aO results98 rfl ⟨rfl,h⟩)
 obtain ⟨p,j,ho⟩:=aC hm
 refine dP [0] j (fun a f w=>f 3=i64 a/\aM G K (L) w) ?_ ?_
 ·exact ⟨rfl,g⟩
 ·rintro a q f r hm hr ⟨b,c⟩
  unfold aAr at hm
  refine aN (aJ (bF b (aG (v:=bE s_) (aA (fX runUnderlying9 rfl) (aA (cF rfl rfl) (aF ?_))))))
  rcases aH hm with ⟨d,hm⟩|⟨d,hm⟩
  ·refine aL d rfl (aW (aB (aN (bX (aJ (aG (v:=bE s_) (bF b ?_)))))));obtain ⟨t,k,hm⟩:=aC hm
   refine aA (aDE runUnderlying9 rfl rfl k) (aA (cK rfl rfl) (aF ?_))
   rcases aH hm with ⟨e,hm⟩|⟨e,hm⟩
   ·refine aL e rfl (aJ (bF b (aD (v:=i64 a) (aF (aX (aY (aK (aK ?_))))))))
    have l:=hr _ (zI hm).symm
    subst l
    have hm:(some a)=some R:=ho
    clear hr ho
    obtain rfl:=zI hm
    exact aY (aK (aK (aO results98 rfl ⟨rfl,c⟩)))
   ·exact aI e rfl (aW (bH (aB (aU (bF b (aA (cA rfl rfl) (aD (v:=i64 (wr (a+1))) (aF ⟨_,(zI hm).symm,aT,rfl,c⟩))))))))
  ·refine aI d rfl (cD (bA (bA ?_)))
   have n:=hr _ (zI hm).symm
   subst n
   have hm:(aDd s_)=some R:=ho
   clear hr ho
   exact bR (aB ⟨aT,hm,c⟩)
theorem oX {s_ R:bJ} (hm:jT s_=some R) (a:aM G K (L) w):
  Calls prog 72 ([bE s_]:List Value).toArray w (eK fun v w'=>v=bE R/\aM G K (L) w'):=by
 refine aP func72 rfl (by kernel_rfl) (by show (1:Nat)<=7;decide) ?_;unfold jT at hm
 refine aJ (aD (v:=bE ([]:bJ)) (aF (aJ (aG (v:=bE s_) (aG (v:=bE s_) ?_)))));obtain ⟨h,b,hm⟩:=aC hm
 refine aQ (vs:=[bE s_]) call98 rfl (aHf b a) ?_
 rintro _ i ⟨rfl,c⟩
 obtain ⟨d,e,hm⟩:=aC hm
 refine aA (R_slSH runUnderlying9 rfl rfl e) (aD (v:=bE d) (aF ?_));obtain rfl:=zI hm
 exact aX (aO results72 rfl ⟨rfl,c⟩)
theorem aMm {a b:(List aZ)} {R:Bool} (hm:aFm a b=some R) (j:aM G K (L) w) (k:bY K a1 c2 a) (l:bY K a4 c5 b):
  Calls prog 99 ([zS a1 a.length c2,zS a4 b.length c5]:List Value).toArray w (eK fun v w'=>v=zB R/\aM G K (L) w'):=by
 refine aP func99 rfl (by kernel_rfl) (by show (2:Nat)<=25;decide) ?_;unfold aFm at hm
 refine aJ (aD (v:=zB false) (aF (aN (aJ (aG (v:=zS a1 a.length c2) (aA (bO (len:=a.length) gP rfl) (aG (v:=zS a4 b.length c5) (aA (bO (len:=b.length) gP rfl) (aA (fV rfl rfl) (aF ?_))))))))))
 rcases aH hm with ⟨g,hm⟩|⟨g,hm⟩
 ·refine aL g rfl (aJ (aD (v:=zB false) (aF ?_)));obtain rfl:=zI hm
  exact aX (aK (aO results99 rfl ⟨rfl,j⟩))
 ·refine aI g rfl (aW (aB (aN (aJ (aD (v:=i64 0) (aF (bM [] (fun f w=>aDe=some R/\aM G K (L) w) ?_ ?_)))))))
  ·rintro f w9 ⟨hm,q⟩
   unfold aDe at hm
   refine aB (aJ (aD (v:=zB true) (aF ?_)));obtain rfl:=zI hm
   exact aX (aO results99 rfl ⟨rfl,q⟩)
  obtain ⟨a7,t,ho⟩:=aC hm
  refine dP [0,1] t (fun d f w=>f 5=i64 d/\aM G K (L) w) ?_ ?_
  ·exact ⟨rfl,j⟩
  ·rintro d a8 f a9 hm hr ⟨e,c⟩
   unfold aAs at hm
   refine aN (aJ (bF e (aG (v:=zS a1 a.length c2) (aA (bO (len:=a.length) gP rfl) (aA (cF rfl rfl) (aF ?_))))))
   rcases aH hm with ⟨h,hm⟩|⟨h,hm⟩
   ·refine aL h rfl (aW (aB (aN (bX (aN (dU (C:=fun w'=>aM G K (L) w') cI (by kernel_rfl) (aM.mono c (eH.drew _)) (bG (fun _ c=>bP (v:=zS a1 a.length c2) rfl) (bG (fun _ c=>bP e) ?_))))))));obtain ⟨b0,m,hm⟩:=aC hm
    refine bG (fun _ c=>cG gP rfl k rfl rfl rfl m) ?_;obtain ⟨b1,u,x⟩:=bY.el (sz:=3) rfl k m
    obtain ⟨b2,b3,rfl,y⟩:=x
    refine bG (fun _ c=>bP (v:=zS a4 b.length c5) rfl) (bG (fun _ c=>bP e) ?_);obtain ⟨b4,n,hm⟩:=aC hm
    refine bG (fun _ c=>cG gP rfl l rfl rfl rfl n) ?_;obtain ⟨b5,z,J⟩:=bY.el (sz:=3) rfl l n
    obtain ⟨b6,c45,rfl,V⟩:=J
    obtain ⟨O,a0,hm⟩:=aC hm
    refine eU (vs:=[eP a1 (d.toNat * 3+0),eP a4 (d.toNat * 3+0)]) (v:=zB O) call136 rfl (fun _ c=>(aCN a0 c u y z V)) (bG (fun _ c=>dA rfl) (eT (fun b7 o=>(aB ?_))))
    rcases aH hm with ⟨i,hm⟩|⟨i,hm⟩
    ·refine aL i rfl (aJ (aD (v:=zB false) (aF (aX (aY (aK (aK ?_)))))))
     have a2:=hr _ (zI hm).symm
     subst a2
     have hm:(some false)=some R:=ho
     clear hr ho
     obtain rfl:=zI hm
     exact aY (aK (aK (aO results99 rfl ⟨rfl,o⟩)))
    ·exact aI i rfl (aW (bH (aB (aU (bF e (aA (cA rfl rfl) (aD (v:=i64 (wr (d+1))) (aF ⟨_,(zI hm).symm,aT,rfl,o⟩))))))))
   ·refine aI h rfl (cD (bA (bA ?_)))
    have a5:=hr _ (zI hm).symm
    subst a5
    have hm:(aDe)=some R:=ho
    clear hr ho
    exact bR (aB ⟨aT,hm,c⟩)
theorem aHg {s_:bZ} {c:Nat} {b R:bJ} (hm:aDw s_ b=some R) (a:aM G K (L) w) (d:iG K a1 c [zS a4 s_.Definitions.length c5,zS a7 s_.Components.length c8,zS a10 s_.Meetings.length c11,zS a13 s_.Allowed.length c14,zS a16 s_.Hidden.length c17]) (o:bY K a4 c5 s_.Definitions) (p:bY K a7 c8 s_.Components) (q:bY K a10 c11 s_.Meetings) (r:bY K a13 c14 s_.Allowed) (i:bY K a16 c17 s_.Hidden):
  Calls prog 74 ([eP a1 c,bE b]:List Value).toArray w (eK fun v w'=>v=bE R/\aM G K (L) w'):=by
 refine aP func74 rfl (by kernel_rfl) (by show (2:Nat)<=14;decide) ?_;unfold aDw at hm
 refine aJ (aD (v:=bE ([]:bJ)) (aF (aN (aN (dU (C:=fun w'=>aM G K (L) w') cI (by kernel_rfl) (aM.mono a (eH.drew _)) (bG (fun _ a=>bP (v:=eP a1 c) rfl) (bG (fun _ a=>eR rfl d) (bG (fun _ a=>cH (k':=c+4) aEu rfl d rfl) (bG (fun _ a=>cC (t:=4) zV a d rfl rfl) (bG (fun _ a=>bP (v:=bE b) rfl) ?_))))))))));obtain ⟨g,j,hm⟩:=aC hm
 refine eU (vs:=[bE b]) (v:=bE g) call72 rfl (fun _ a=>(oX j a)) ?_;obtain ⟨k,l,hm⟩:=aC hm
 refine eU (vs:=[zS a16 s_.Hidden.length c17,bE g]) (v:=i64 k) call71 rfl (fun _ a=>(aDZ l a i)) (bG (fun _ a=>sO rfl rfl) (eT (fun u h=>(aB ?_))))
 rcases aH hm with ⟨e,hm⟩|⟨e,hm⟩
 ·refine aL e rfl (aJ (aD (v:=bE ([116,97,117]:bJ)) (aF ?_)));obtain rfl:=zI hm
  exact aX (aK (aO results74 rfl ⟨rfl,h⟩))
 ·refine aI e rfl (aW (aB (aJ (aG (v:=bE b) (aD (v:=bE b) (aF ?_))))));obtain rfl:=zI hm
  exact aX (aO results74 rfl ⟨rfl,h⟩)
theorem aLb {s_:bJ} {by_:UInt8} {R:(List bJ)} (hm:aDQ s_ by_=some R) (hs:aM G K (L) w):
  Calls prog 137 ([bE s_,Value.int .u8 (by_.toNat:Int)]:List Value).toArray w (eK fun v w'=>∃ a6 a7,v=zS a6 R.length a7/\aM G K (bN 9 K a6 a7 R::L) w'):=by
 refine aP func137 rfl (by kernel_rfl) (by show (2:Nat)<=35;decide) ?_;unfold aDQ at hm
 refine aJ (aD (v:=zS none 0 0) (aF (aJ (gA (Kt:=K) (xs:=([]:List bJ)) (cs:=[]) (vs:=[]) hH ez_9 rfl rfl hs rfl (by kernel_rfl) rfl rfl rfl trivial (fun r w2 (b1:aM G K (bN 9 K r 0 ([]:List bJ)::L) w2)=>(aD (v:=zS r ([]:List bJ).length 0) (aF (aJ (aD (v:=i64 0) (aF (aN (aJ (aD (v:=i64 0) (aF (bM [0] (fun f w=>∃ e t k l,wG s_ e t=some R/\f 5=zS k e.length l/\f 6=i64 t/\aM G K (bN 9 K k l e::L) w) ?_ ?_)))))))))))))))
 ·rintro f d8 ⟨e,t,k,l,hm,e8,e9,b4⟩
  unfold wG at hm
  refine aB (aJ (bF e8 (aG (v:=bE s_) (bF e9 ?_))));obtain ⟨m,b5,hm⟩:=aC hm
  refine aA (R_slSL runUnderlying9 rfl rfl b5) (gA (Kt:=K) (xs:=([m]:List bJ)) (cs:=[bE m]) (vs:=[(0,bE m)]) hH ez_9 rfl rfl b4 rfl (by kernel_rfl) rfl rfl rfl ⟨rfl,trivial⟩ (fun b6 b7 (b8:aM G K (bN 9 K b6 1 ([m]:List bJ)::bN 9 K k l e::L) b7)=>?_));obtain ⟨a8,b9,hm⟩:=aC hm
  refine qM (i:=0) hH underlying25 ez_9 rfl rfl b8 rfl (zR _) (zR _) b9 rfl rfl rfl rfl (fun _ h=>h) (fun u x c0 (c1:aM G K (bN 9 K u x a8::L) c0)=>(aD (v:=zS u a8.length x) (aF ?_)));obtain rfl:=zI hm
  exact aX (aO results137 rfl ⟨u,x,rfl,c1⟩)
 obtain ⟨d9,c3,ho⟩:=aC hm
 refine jP [0,1] c3 (fun a g b f w=>∃ c d,f 5=zS c a.length d/\f 6=i64 g/\f 7=i64 b/\aM G K (bN 9 K c d a::L) w) ?_ ?_
 ·exact ⟨r,0,rfl,rfl,rfl,b1⟩
 ·rintro a g b c4 f e0 hm hr ⟨c,d,y,z,j,J⟩
  unfold aBF at hm
  refine aN (aJ (bF j (aG (v:=bE s_) (aA (fX runUnderlying9 rfl) (aA (cF rfl rfl) (aF ?_))))))
  rcases aH hm with ⟨V,hm⟩|⟨V,hm⟩
  ·refine aL V rfl (aW (aB (aN (bM [0,1,7] (fun f w=>∃ n O o p,sC b n O=some c4/\f 5=zS o n.length p/\f 6=i64 O/\aM G K (bN 9 K o p n::L) w) ?_ ?_))))
   ·rintro f e1 ⟨n,O,o,p,hm,c5,c7,c8⟩
    unfold sC at hm
    exact aB (aU (bF j (aA (cA rfl rfl) (aD (v:=i64 (wr (b+1))) (aF ⟨_,(zI hm).symm,aT,o,p,c5,c7,rfl,c8⟩)))))
   refine aJ (aG (v:=bE s_) (bF j ?_));obtain ⟨e2,c9,hm⟩:=aC hm
   refine aA (aDE runUnderlying9 rfl rfl c9) (aG (v:=Value.int .u8 (by_.toNat:Int)) (aA (cK rfl rfl) (aF ?_)))
   rcases aH hm with ⟨a0,hm⟩|⟨a0,hm⟩
   ·refine aL a0 rfl (aJ (bF y (aG (v:=bE s_) (bF z (bF j ?_)))));obtain ⟨q,d0,hm⟩:=aC hm
    refine aA (R_slSLH runUnderlying9 rfl rfl rfl d0) (gA (Kt:=K) (xs:=([q]:List bJ)) (cs:=[bE q]) (vs:=[(0,bE q)]) hH ez_9 rfl rfl J rfl (by kernel_rfl) rfl rfl rfl ⟨rfl,trivial⟩ (fun d1 d2 (d3:aM G K (bN 9 K d1 1 ([q]:List bJ)::bN 9 K c d a::L) d2)=>?_));obtain ⟨a2,d4,hm⟩:=aC hm
    exact qM (i:=0) hH underlying25 ez_9 rfl rfl d3 rfl (zR _) (zR _) d4 rfl rfl rfl rfl (fun _ h=>h) (fun a3 a4 d5 (d6:aM G K (bN 9 K a3 a4 a2::L) d5)=>(aD (v:=zS a3 a2.length a4) (aF (aU (bF j (aA (cA rfl rfl) (aD (v:=i64 (wr (b+1))) (cW (bH (aB ⟨aT,a2,wr (b+1),a3,a4,hm,rfl,rfl,d6⟩))))))))))
   ·exact aI a0 rfl (aW (bH (aB ⟨aT,a,g,c,d,hm,y,z,J⟩)))
  ·refine aI V rfl (cD (bA (bA ?_)))
   have d7:=hr _ (zI hm).symm
   subst d7
   have hm:(wG s_ a g)=some R:=ho
   clear hr ho
   exact bR (aB ⟨aT,a,g,c,d,hm,y,z,J⟩)
theorem aKa {s_:bJ} {R:(Int × Bool)} (hm:aCj s_=some R) (z:aM G K (L) w):
  Calls prog 138 ([bE s_]:List Value).toArray w (eK fun v w'=>v=Value.tuple #[i64 R.1,zB R.2]/\aM G K (L) w'):=by
 refine aP func138 rfl (by kernel_rfl) (by show (1:Nat)<=62;decide) ?_;unfold aCj at hm
 refine aJ (aD (v:=i64 0) (aD (v:=zB false) (aF (aJ (aD (v:=i64 0) (aF (zO [0] (fun f w=>∃ e,tK s_ e=some R/\f 4=i64 e/\aM G K (L) w) ?_ ?_)))))))
 ·rintro f w3 ⟨e,hm,k,m⟩
  unfold tK at hm
  refine aN (aN (cP [0,4] (fun f w=>∃ p,lF s_ e p=some R/\f 36=zB p/\aM G K (L) w) ?_ ?_))
  ·rintro f w7 ⟨p,hm,J,V⟩
   unfold lF at hm
   refine aB ?_
   rcases aH hm with ⟨q,hm⟩|⟨q,hm⟩
   ·refine aL q J (aJ (aD (v:=i64 0) (aD (v:=zB false) (aF ?_))));obtain rfl:=zI hm
    exact aX (aK (kJ results138 rfl rfl ⟨rfl,V⟩))
   ·refine aI q J (aW (aB (aJ (aD (v:=i64 0) (aF (aN (aJ (bF k (aD (v:=i64 e) (aF (bM [4] (fun f w=>∃ j,tJ e j=some R/\f 5=i64 j/\aM G K (L) w) ?_ ?_)))))))))))
    ·rintro f c2 ⟨j,hm,O,a0⟩
     unfold tJ at hm
     refine aB (zO [] (fun f w=>∃ n,aAt n=some R/\f 5=i64 n/\aM G K (L) w) ?_ ?_)
     ·rintro f c3 ⟨n,hm,a9,b0⟩
      unfold aAt at hm
      refine aJ (bF a9 (aD (v:=i64 n) (aD (v:=zB true) (aF ?_))));obtain rfl:=zI hm
      exact aX (kJ results138 rfl rfl ⟨rfl,b0⟩)
     refine aJ (bF k (aA (cK rfl rfl) (aF ?_)))
     rcases aH hm with ⟨r,hm⟩|⟨r,hm⟩
     ·exact aL r rfl (aU (bF O (aA (R_neg rfl) (aD (v:=i64 (wr (0 - j))) (aF ⟨aT,wr (0 - j),hm,rfl,a0⟩)))))
     ·exact aI r rfl (aW (aB ⟨aT,j,hm,O,a0⟩))
    obtain ⟨c4,b2,ho⟩:=aC hm
    refine dD [0,4] b2 (fun l i32 f w=>f 5=i64 l/\f 6=i64 i32/\aM G K (L) w) ?_ ?_
    ·exact ⟨rfl,rfl,V⟩
    ·rintro l i32 c5 f c6 hm hr ⟨a1,o,a2⟩
     unfold pL at hm
     refine aN (aJ (bF o (aG (v:=bE s_) (aA (fX runUnderlying9 rfl) (aA (cF rfl rfl) (aF ?_))))))
     rcases aH hm with ⟨t,hm⟩|⟨t,hm⟩
     ·refine aL t rfl (aW (aB (aN (bX (aN (aJ (aG (v:=bE s_) (bF o ?_))))))));obtain ⟨c45,a3,hm⟩:=aC hm
      refine aA (aDE runUnderlying9 rfl rfl a3) ?_;obtain ⟨c7,b3,hm⟩:=aC hm
      refine aQ (vs:=[Value.int .u8 (c45.toNat:Int)]) call170 rfl (aGv b3 a2) ?_
      rintro _ c8 ⟨rfl,a4⟩
      refine aA (dA rfl) (aF ?_)
      rcases aH hm with ⟨u,hm⟩|⟨u,hm⟩
      ·refine aL u rfl (aJ (aD (v:=i64 0) (aD (v:=zB false) (aF (aX (aK (aY (aK (aK ?_)))))))))
       have b4:=hr _ (zI hm).symm
       subst b4
       have hm:(some (0,false))=some R:=ho
       clear hr ho
       obtain rfl:=zI hm
       exact aY (aK (aK (kJ results138 rfl rfl ⟨rfl,a4⟩)))
      ·exact aI u rfl (aW (aB (aU (bF a1 (aA (R_mul rfl rfl) (aG (v:=bE s_) (bF o (aA (aDE runUnderlying9 rfl rfl a3) (aA (R_u8sub' (a:=c45) (b:=(48:UInt8)) rfl rfl) (aA (aLO runUnderlying2 rfl ⟨_,runUnderlying5⟩) (aA (cA rfl rfl) (aD (v:=i64 (wr ((wr (10 * l))+(wr ((c45 - (48:UInt8)).toNat:Int))))) (cW (bH (aB (aU (bF o (aA (cA rfl rfl) (aD (v:=i64 (wr (i32+1))) (aF ⟨_,(zI hm).symm,aT,rfl,rfl,a4⟩))))))))))))))))))))
     ·refine aI t rfl (cD (bA (bA ?_)))
      have b6:=hr _ (zI hm).symm
      subst b6
      have hm:(tJ e l)=some R:=ho
      clear hr ho
      exact bR (aB ⟨aT,l,hm,a1,a2⟩)
  refine aU (aG (v:=bE s_) (aA (fX runUnderlying9 rfl) (bF k (aA (cK rfl rfl) (aG (v:=zB ((s_.length:Int) == e)) ?_)))))
  rcases aH hm with ⟨d,hm⟩|⟨d,hm⟩
  ·exact aR d rfl rfl (aR d rfl rfl (aR d rfl rfl (aR d rfl rfl (aR d rfl rfl (aA (bI (v:=zB true) d rfl rfl) (aG (v:=zB true) (aR (rfl:true=true) rfl rfl (aR (rfl:true=true) rfl rfl (aR (rfl:true=true) rfl rfl (aR (rfl:true=true) rfl rfl (aR (rfl:true=true) rfl rfl (cL (g:=31) rfl rfl (cL (g:=31) rfl rfl (cL (g:=31) rfl rfl (aR (rfl:true=true) rfl rfl (aA (bI (v:=zB true) (rfl:true=true) rfl rfl) (aF ⟨aT,true,hm,rfl,m⟩)))))))))))))))))
  ·refine bD d rfl rfl (aG (v:=bE s_) (bD d rfl rfl (aA (fX runUnderlying9 rfl) (bD d rfl rfl (bF k (bD d rfl rfl (aA (iW rfl rfl) (bD d rfl rfl (aA (nN rfl rfl) (aA (bL (v:=zB (decide (18 < wr ((s_.length:Int) - e)))) d rfl rfl) (aG (v:=zB (decide (18 < wr ((s_.length:Int) - e)))) ?_)))))))))))
   rcases aH hm with ⟨c,hm⟩|⟨c,hm⟩
   ·exact aR c rfl rfl (aR c rfl rfl (aR c rfl rfl (aR c rfl rfl (aR c rfl rfl (cL (g:=31) rfl rfl (cL (g:=31) rfl rfl (cL (g:=31) rfl rfl (aR c rfl rfl (aA (bI (v:=zB true) c rfl rfl) (aF ⟨aT,true,hm,rfl,m⟩))))))))))
   ·refine bD c rfl rfl (aG (v:=bE s_) (bD c rfl rfl (bF k (bD c rfl rfl ?_))));obtain ⟨b7,b8,hm⟩:=aC hm
    refine aA (aDE runUnderlying9 rfl rfl b8) (bD c rfl rfl (aA (cK rfl rfl) (bD c rfl rfl (aG (v:=zB ((b7.toNat:Int) == 48)) ?_))))
    rcases aH hm with ⟨h,hm⟩|⟨h,hm⟩
    ·exact bB h rfl rfl (aG (v:=bE s_) (bB h rfl rfl (aA (fX runUnderlying9 rfl) (bB h rfl rfl (aA (nN rfl rfl) (bD c rfl rfl (aA (bI (v:=zB (decide (1 < (s_.length:Int)))) h rfl rfl) (aA (bL (v:=zB (decide (1 < (s_.length:Int)))) c rfl rfl) (aF ⟨aT,decide (1 < (s_.length:Int)),hm,rfl,m⟩)))))))))
    ·exact aV h rfl rfl (aV h rfl rfl (aV h rfl rfl (bD c rfl rfl (aA (bL (v:=zB false) h rfl rfl) (aA (bL (v:=zB false) c rfl rfl) (aF ⟨aT,false,hm,rfl,m⟩))))))
 refine aN (cP [0,4] (fun f w=>∃ x,tL s_ x=some R/\f 14=zB x/\aM G K (L) w) ?_ ?_)
 ·rintro f d0 ⟨x,hm,a5,a6⟩
  unfold tL at hm
  refine aB ?_
  rcases aH hm with ⟨y,hm⟩|⟨y,hm⟩
  ·exact aL y a5 (aU (aD (v:=i64 1) (aF ⟨aT,1,hm,rfl,a6⟩)))
  ·exact aI y a5 (aW (aB ⟨aT,0,hm,rfl,a6⟩))
 refine aU (aG (v:=bE s_) (aA (fX runUnderlying9 rfl) (aA (nN rfl rfl) (aG (v:=zB (decide (0 < (s_.length:Int)))) ?_))))
 rcases aH hm with ⟨i,hm⟩|⟨i,hm⟩
 ·refine bB i rfl rfl (aG (v:=bE s_) (bB i rfl rfl ?_));obtain ⟨a7,b9,hm⟩:=aC hm
  exact aA (aDE runUnderlying9 rfl rfl b9) (bB i rfl rfl (aA (cK rfl rfl) (aA (bI (v:=zB ((a7.toNat:Int) == 45)) i rfl rfl) (aF ⟨aT,(a7.toNat:Int) == 45,hm,rfl,z⟩))))
 ·exact aV i rfl rfl (aV i rfl rfl (aV i rfl rfl (aA (bL (v:=zB false) i rfl rfl) (aF ⟨aT,false,hm,rfl,z⟩))))
end Gv
namespace Gv
open Gv.Hp renaming le_refl→zR
open Go.Value renaming slice→zS,bool→zB,agg→zA,tuple→zT
open Option.some renaming inj→zI
open Gv.Hp renaming le_trans→zL
open Go Go.Proofs Go.Proofs.Tryz
set_option maxRecDepth 20000
set_option maxHeartbeats 40000000
variable {G:qG} {K Kf:Hp} {L:List iU} {w:World} {a1 a4 a7 a10 a13 a16 a3 a19 a22:Option Addr} {c2 c5 c8 c11 c14 c17 c4 c20 c23:Nat}
theorem aFt {s_:bJ} {R:((List Int) × Bool)} (hm:yT s_=some R) (hs:aM G K (L) w):
  Calls prog 100 ([bE s_]:List Value).toArray w (eK fun v w'=>∃ a7 a8,v=zT #[zS a7 R.1.length a8,zB R.2]/\aM G K (bN 2 K a7 a8 R.1::L) w'):=by
 refine aP func100 rfl (by kernel_rfl) (by show (1:Nat)<=70;decide) ?_;unfold yT at hm
 refine aJ (aD (v:=zS none 0 0) (aD (v:=zB false) (aF (aJ (aG (v:=bE s_) ?_)))));obtain ⟨o,q2,hm⟩:=aC hm
 refine aQ (vs:=[bE s_]) call98 rfl (aHf q2 hs) ?_
 rintro _ w3 ⟨rfl,a9⟩
 refine aD (v:=i64 o) (aF (aN (aJ (aG (v:=i64 o) (aG (v:=bE s_) (aA (fX runUnderlying9 rfl) (aA (cK rfl rfl) (aF ?_))))))))
 rcases aH hm with ⟨x,hm⟩|⟨x,hm⟩
 ·refine aL x rfl (aJ (gA (Kt:=K) (xs:=([]:List Int)) (cs:=[]) (vs:=[]) fN aFe rfl rfl a9 rfl (by kernel_rfl) rfl rfl rfl trivial (fun y w7 (c4:aM G K (bN 2 K y 0 ([]:List Int)::L) w7)=>(aG (v:=bE s_) ?_))));obtain ⟨r9,c7,hm⟩:=aC hm
  refine aQ (vs:=[bE s_]) call127 rfl (aAY c7 c4) ?_
  rintro _ g3 ⟨rfl,c8⟩
  refine aD (v:=zS y ([]:List Int).length 0) (aD (v:=zB r9) (aF ?_));obtain rfl:=zI hm
  exact aX (aK (kJ results100 rfl rfl ⟨y,0,rfl,c8⟩))
 ·refine aI x rfl (aW (aB (aN (aN (cP [0,4] (fun f w=>∃ z,tO s_ o z=some R/\f 31=zB z/\aM G K (L) w) ?_ ?_)))))
  ·rintro f g4 ⟨z,hm,b0,b1⟩
   unfold tO at hm
   refine aB ?_
   rcases aH hm with ⟨J,hm⟩|⟨J,hm⟩
   ·refine aL J b0 (aJ (aD (v:=zS none 0 0) (aD (v:=zB false) (aF ?_))))
    have d0:=aM.nil (α:=Int) b1 2 K
    obtain rfl:=zI hm
    exact aX (aK (kJ results100 rfl rfl ⟨none,0,rfl,d0⟩))
   ·refine aI J b0 (aW (aB (aJ (aG (v:=bE s_) (aG (v:=i64 o) (aA (cA rfl rfl) (aG (v:=bE s_) (aA (fX runUnderlying9 rfl) (aA (iW rfl rfl) ?_)))))))));obtain ⟨d2,d3,hm⟩:=aC hm
    refine aA (R_slSLH runUnderlying9 rfl rfl rfl d3) ?_;obtain ⟨c,d4,hm⟩:=aC hm
    refine aQ (vs:=[bE d2,Value.int .u8 44]) call137 rfl (aLb (by_:=(44:UInt8)) d4 b1) ?_
    rintro _ g5 ⟨e,j,rfl,d5⟩
    refine aD (v:=zS e c.length j) (aF (aJ (gA (Kt:=K) (xs:=([]:List Int)) (cs:=[]) (vs:=[]) fN aFe rfl rfl d5 rfl (by kernel_rfl) rfl rfl rfl trivial (fun V d6 (d7:aM G K (bN 2 K V 0 ([]:List Int)::bN 9 K e j c::L) d6)=>(aD (v:=zS V ([]:List Int).length 0) (aF (aN (aJ (aD (v:=i64 0) (aF (bM [] (fun f w=>∃ l p q,aAu l=some R/\f 6=zS p l.length q/\aM G K (bN 2 K p q l::L) w) ?_ ?_)))))))))))
    ·rintro f g6 ⟨l,p,q,hm,b2,d8⟩
     unfold aAu at hm
     refine aB (aJ (bF b2 (bF b2 (aA (bO (len:=l.length) fN rfl) (aA (vR rfl rfl) (aD (v:=zS p l.length q) (aD (v:=zB (decide ((l.length:Int)<=2))) (aF ?_))))))));obtain rfl:=zI hm
     exact aX (kJ results100 rfl rfl ⟨p,q,rfl,d8⟩)
    obtain ⟨g7,e0,ho⟩:=aC hm
    refine dD [5] e0 (fun k r f w=>∃ m n,f 6=zS m k.length n/\f 7=i64 r/\aM G K (bN 2 K m n k::bN 9 K e j c::L) w) ?_ ?_
    ·exact ⟨V,0,rfl,rfl,d7⟩
    ·rintro k r e1 f g8 hm hr ⟨m,n,b3,O,u⟩
     unfold tN at hm
     refine aN (aJ (bF O (aG (v:=zS e c.length j) (aA (bO (len:=c.length) hH rfl) (aA (cF rfl rfl) (aF ?_))))))
     rcases aH hm with ⟨a0,hm⟩|⟨a0,hm⟩
     ·refine aL a0 rfl (aW (aB (aN (bX (aJ (aG (v:=zS e c.length j) (bF O ?_)))))));obtain ⟨e2,a1,hm⟩:=aC hm
      have e3:=gC u (i:=1) rfl a1
      refine aA (fT hH rfl e3 rfl rfl rfl a1) (aA (aKD (t:=0) fA u (i:=1) rfl a1 rfl rfl rfl) ?_);obtain ⟨b,e4,hm⟩:=aC hm
      refine aQ (vs:=[bE e2]) call138 rfl (aKa e4 u) ?_
      rintro _ g9 ⟨rfl,b4⟩
      refine aG (v:=zT #[i64 b.1,zB b.2]) (aA (cJ rfl rfl) (aA (cJ rfl rfl) (aD (v:=i64 b.1) (aD (v:=zB b.2) (aF (aN (aN (cP [5,6,7,8] (fun f w=>∃ a2,tM k r b a2=some e1/\f 61=zB a2/\aM G K (bN 2 K m n k::bN 9 K e j c::L) w) ?_ ?_))))))))
      ·rintro f h0 ⟨a2,hm,b5,b6⟩
       unfold tM at hm
       refine aB ?_
       rcases aH hm with ⟨a3,hm⟩|⟨a3,hm⟩
       ·refine aL a3 b5 (aJ (aD (v:=zS none 0 0) (aD (v:=zB false) (aF (aX (aK (aY (aK (aK ?_)))))))))
        have e5:=hr _ (zI hm).symm
        subst e5
        have hm:(some ([],false))=some R:=ho
        clear hr ho
        have e6:=aM.nil (α:=Int) b6 2 K
        obtain rfl:=zI hm
        exact aY (aK (aK (kJ results100 rfl rfl ⟨none,0,rfl,(aM.arr 3 [0] e6 rfl)⟩)))
       ·refine aI a3 b5 (aW (aB (aU (bF b3 (aG (v:=i64 b.1) (gA (Kt:=K) (xs:=([b.1]:List Int)) (cs:=[i64 b.1]) (vs:=[(0,i64 b.1)]) fN aFe rfl rfl b6 rfl (by kernel_rfl) rfl rfl rfl ⟨rfl,trivial⟩ (fun e8 e9 (f0:aM G K (bN 2 K e8 1 ([b.1]:List Int)::bN 2 K m n k::bN 9 K e j c::L) e9)=>?_)))))));obtain ⟨b7,f1,hm⟩:=aC hm
        exact qM (i:=0) fN underlying68 aFe rfl rfl f0 rfl (zR _) (zR _) f1 rfl rfl rfl rfl (fun _ h=>h) (fun a4 a5 f2 (f3:aM G K (bN 2 K a4 a5 b7::bN 9 K e j c::L) f2)=>(aD (v:=zS a4 b7.length a5) (cW (bH (aB (aU (bF O (aA (cA rfl rfl) (aD (v:=i64 (wr (r+1))) (aF ⟨_,(zI hm).symm,aT,a4,a5,rfl,rfl,f3⟩))))))))))
      refine aU (aG (v:=zB b.2) (aA (dA rfl) (aG (v:=zB (!b.2)) ?_)))
      rcases aH hm with ⟨d,hm⟩|⟨d,hm⟩
      ·exact aR d rfl rfl (aR d rfl rfl (aR d rfl rfl (aA (bI (v:=zB true) d rfl rfl) (aF ⟨aT,true,hm,rfl,b4⟩))))
      ·refine bD d rfl rfl (aG (v:=i64 b.1) (bD d rfl rfl ?_));obtain ⟨b8,f4,hm⟩:=aC hm
       refine aQ (vs:=[i64 b.1,i64 0,i64 63]) call48 rfl (iQ f4 b4) ?_
       rintro _ h1 ⟨rfl,f5⟩
       exact bD d rfl rfl (aA (dA rfl) (aA (bL (v:=zB (!b8)) d rfl rfl) (aF ⟨aT,!b8,hm,rfl,f5⟩)))
     ·refine aI a0 rfl (cD (bA (bA ?_)))
      have f6:=hr _ (zI hm).symm
      subst f6
      have hm:(aAu k)=some R:=ho
      clear hr ho
      exact bR (aB ⟨aT,k,m,n,hm,b3,(aM.arr 2 [0] u rfl)⟩)
  refine aU (aG (v:=bE s_) (aG (v:=i64 o) ?_));obtain ⟨f7,f8,hm⟩:=aC hm
  refine aA (R_slSH runUnderlying9 rfl rfl f8) ?_;obtain ⟨f9,g0,hm⟩:=aC hm
  refine aQ (vs:=[bE f7]) call130 rfl (qB g0 a9) ?_
  rintro _ h2 ⟨rfl,b9⟩
  refine aA (dA rfl) (aG (v:=zB (!f9)) ?_)
  rcases aH hm with ⟨a,hm⟩|⟨a,hm⟩
  ·exact aR a rfl rfl (aR a rfl rfl (aR a rfl rfl (aR a rfl rfl (aR a rfl rfl (aR a rfl rfl (aA (bI (v:=zB true) a rfl rfl) (aF ⟨aT,true,hm,rfl,b9⟩)))))))
  ·refine bD a rfl rfl (aG (v:=bE s_) (bD a rfl rfl (aG (v:=bE s_) (bD a rfl rfl (aA (fX runUnderlying9 rfl) (bD a rfl rfl (aA (iW rfl rfl) (bD a rfl rfl ?_))))))));obtain ⟨c0,g1,hm⟩:=aC hm
   exact aA (aDE runUnderlying9 rfl rfl g1) (bD a rfl rfl (aA (fV rfl rfl) (aA (bL (v:=zB ((c0.toNat:Int) != 41)) a rfl rfl) (aF ⟨aT,(c0.toNat:Int) != 41,hm,rfl,b9⟩))))
theorem aKb {rec_:(List bU)->bJ->bJ->Option bJ} (V:∀ {G:qG} {K:Hp} {L:List iU} {w:World} {d:(List bU)} {a1:Option Addr} {c2:Nat} {a:bJ} {b:bJ} {R:bJ} (hm:rec_ d a b=some R) (l:aM G K (L) w) (e:bY K a1 c2 d),
  Calls prog 102 ([zS a1 d.length c2,bE a,bE b]:List Value).toArray w (eK fun v w'=>v=bE R/\aM G K (L) w'))
  {G:qG} {K:Hp} {L:List iU} {w:World} {d:(List bU)} {a1:Option Addr} {c2:Nat} {a:bJ} {b:bJ} {R:bJ} (hm:tP rec_ d a b=some R) (l:aM G K (L) w) (e:bY K a1 c2 d):
  Calls prog 102 ([zS a1 d.length c2,bE a,bE b]:List Value).toArray w (eK fun v w'=>v=bE R/\aM G K (L) w'):=by
 refine aP func102 rfl (by kernel_rfl) (by show (3:Nat)<=42;decide) ?_;unfold tP at hm
 refine aJ (aD (v:=bE ([]:bJ)) (aF (aN (aJ (aG (v:=bE a) (aG (v:=bE b) (aA (aLK rfl rfl) (aF ?_))))))))
 rcases aH hm with ⟨m,hm⟩|⟨m,hm⟩
 ·refine aL m rfl (aJ (aG (v:=zS a1 d.length c2) (aG (v:=bE b) (aG (v:=bE a) ?_))));obtain ⟨O,q6,hm⟩:=aC hm
  refine aQ (vs:=[zS a1 d.length c2,bE b,bE a]) call102 rfl (V q6 l e) ?_
  rintro _ w7 ⟨rfl,a2⟩
  refine aD (v:=bE O) (aF ?_);obtain rfl:=zI hm
  exact aX (aK (aO results102 rfl ⟨rfl,a2⟩))
 ·refine aI m rfl (aW (aB (aN (aJ (aD (v:=i64 0) (aF (bM [] (fun f w=>aAv=some R/\aM G K (L) w) ?_ ?_)))))))
  ·rintro f b4 ⟨hm,a4⟩
   unfold aAv at hm
   refine aB (aJ (aD (v:=bE ([]:bJ)) (aF ?_)));obtain rfl:=zI hm
   exact aX (aO results102 rfl ⟨rfl,a4⟩)
  obtain ⟨b5,a6,ho⟩:=aC hm
  refine dP [0,1,2] a6 (fun h f w=>f 7=i64 h/\aM G K (L) w) ?_ ?_
  ·exact ⟨rfl,l⟩
  ·rintro h a7 f b6 hm hr ⟨i,j⟩
   unfold uW at hm
   refine aN (aJ (bF i (aG (v:=zS a1 d.length c2) (aA (bO (len:=d.length) mB rfl) (aA (cF rfl rfl) (aF ?_))))))
   rcases aH hm with ⟨n,hm⟩|⟨n,hm⟩
   ·refine aL n rfl (aW (aB (aN (bX (aN (cP [0,1,2,7] (fun f w=>∃ o,aAw d h o=some a7/\f 36=zB o/\aM G K (L) w) ?_ ?_))))))
    ·rintro f b7 ⟨o,hm,x,p⟩
     unfold aAw at hm
     refine aB ?_
     rcases aH hm with ⟨q,hm⟩|⟨q,hm⟩
     ·refine aL q x (aJ (aG (v:=zS a1 d.length c2) (bF i ?_)));obtain ⟨y,z,hm⟩:=aC hm
      refine aA (cG mB rfl e rfl rfl rfl z) ?_;obtain ⟨b8,J,a8⟩:=bY.el (sz:=3) rfl e z
      cases a8
      refine aA (cH (k':=h.toNat * 3+2) rF rfl J rfl) (aA (cC (t:=2) fA p J rfl rfl) (aD (v:=bE y.Result) (aF (aX (aY (aK (aK ?_)))))))
      have a9:=hr _ (zI hm).symm
      subst a9
      have hm:(some y.Result)=some R:=ho
      clear hr ho
      obtain rfl:=zI hm
      exact aY (aK (aK (aO results102 rfl ⟨rfl,p⟩)))
     ·exact aI q x (aW (bH (aB (aU (bF i (aA (cA rfl rfl) (aD (v:=i64 (wr (h+1))) (aF ⟨_,(zI hm).symm,aT,rfl,p⟩))))))))
    refine aU (aG (v:=zS a1 d.length c2) (bF i ?_));obtain ⟨r,u,hm⟩:=aC hm
    refine aA (cG mB rfl e rfl rfl rfl u) ?_;obtain ⟨b9,k,b1⟩:=bY.el (sz:=3) rfl e u
    cases b1
    refine aA (cH (k':=h.toNat * 3+0) kM rfl k rfl) (aA (cC (t:=0) fA j k rfl rfl) (aG (v:=bE a) (aA (kS rfl rfl) (aG (v:=zB (r.Left == a)) ?_))))
    rcases aH hm with ⟨c,hm⟩|⟨c,hm⟩
    ·exact bB c rfl rfl (aG (v:=zS a1 d.length c2) (bB c rfl rfl (bF i (bB c rfl rfl (aA (cG mB rfl e rfl rfl rfl u) (bB c rfl rfl (aA (cH (k':=h.toNat * 3+1) mC rfl k rfl) (bB c rfl rfl (aA (cC (t:=1) fA j k rfl rfl) (bB c rfl rfl (aG (v:=bE b) (bB c rfl rfl (aA (kS rfl rfl) (aA (bI (v:=zB (r.Right == b)) c rfl rfl) (aF ⟨aT,r.Right == b,hm,rfl,j⟩)))))))))))))))
    ·exact aV c rfl rfl (aV c rfl rfl (aV c rfl rfl (aV c rfl rfl (aV c rfl rfl (aV c rfl rfl (aV c rfl rfl (aA (bL (v:=zB false) c rfl rfl) (aF ⟨aT,false,hm,rfl,j⟩))))))))
   ·refine aI n rfl (cD (bA (bA ?_)))
    have b2:=hr _ (zI hm).symm
    subst b2
    have hm:(aAv)=some R:=ho
    clear hr ho
    exact bR (aB ⟨aT,hm,j⟩)
theorem aKc (n:Nat):∀ {G:qG} {K:Hp} {L:List iU} {w:World} {c:(List bU)} {a1:Option Addr} {c2:Nat} {a:bJ} {b:bJ} {R:bJ} (hm:tQ n c a b=some R) (d:aM G K (L) w) (e:bY K a1 c2 c),
  Calls prog 102 ([zS a1 c.length c2,bE a,bE b]:List Value).toArray w (eK fun v w'=>v=bE R/\aM G K (L) w'):=by
 induction n with
 |zero=>
  intro G K L w c a1 c2 a b R hm d e
  unfold tQ at hm
  cases hm
 |succ n ih=>
  intro G K L w c a1 c2 a b R hm d e
  exact aKb (rec_:=tQ n) (fun hm d e=>ih hm d e) hm d e
theorem aMn {list:(List bU)} {a b R:bJ} (hm:aHC list a b=some R) (hs:aM G K (L) w) (h3:bY K a1 c2 list):
  Calls prog 102 ([zS a1 list.length c2,bE a,bE b]:List Value).toArray w (eK fun v w'=>v=bE R/\aM G K (L) w'):=aKc 100000 hm hs h3
theorem aMo {s_:bZ} {l:Nat} {a b R:bJ} (hm:aFn s_ a b=some R) (O:aM G K (L) w) (m:iG K a1 l [zS a4 s_.Definitions.length c5,zS a7 s_.Components.length c8,zS a10 s_.Meetings.length c11,zS a13 s_.Allowed.length c14,zS a16 s_.Hidden.length c17]) (h6:bY K a4 c5 s_.Definitions) (h9:bY K a7 c8 s_.Components) (a0:bY K a10 c11 s_.Meetings) (a2:bY K a13 c14 s_.Allowed) (d9:bY K a16 c17 s_.Hidden):
  Calls prog 75 ([eP a1 l,bE a,bE b]:List Value).toArray w (eK fun v w'=>v=bE R/\aM G K (L) w'):=by
 refine aP func75 rfl (by kernel_rfl) (by show (3:Nat)<=49;decide) ?_;unfold aFn at hm
 refine aJ (aD (v:=bE ([]:bJ)) (aF (aJ (aG (v:=bE a) ?_))));obtain ⟨e,a3,hm⟩:=aC hm
 refine aQ (vs:=[bE a]) call100 rfl (aFt a3 O) ?_
 rintro _ e0 ⟨i,j,rfl,a5⟩
 refine aG (v:=zT #[zS i e.1.length j,zB e.2]) (aA (cJ rfl rfl) (aA (cJ rfl rfl) (aD (v:=zS i e.1.length j) (aD (v:=zB e.2) (aF (aJ (aG (v:=bE b) ?_)))))));obtain ⟨k,a6,hm⟩:=aC hm
 refine aQ (vs:=[bE b]) call100 rfl (aFt a6 a5) ?_
 rintro _ e1 ⟨n,o,rfl,a8⟩
 refine aG (v:=zT #[zS n k.1.length o,zB k.2]) (aA (cJ rfl rfl) (aA (cJ rfl rfl) (aD (v:=zS n k.1.length o) (aD (v:=zB k.2) (aF (aN (aJ (aG (v:=zS i e.1.length j) (aG (v:=zS n k.1.length o) ?_)))))))));obtain ⟨e2,a9,b0,b1,b2⟩:=aM.lendSp a8 (zR _) zt1
 obtain ⟨e3,b3,b4,b5,b6⟩:=aM.lendSp b1 a9 .head
 obtain ⟨e4,b7,hm⟩:=aC hm
 refine aQ (vs:=[zS i e.1.length j,zS n k.1.length o]) call101 rfl (aHe b7 b5 (b0.mono b3) b4) ?_
 rintro _ e5 ⟨rfl,b8⟩
 have b9:=b6 _ _ b8
 have d:=b2 _ _ b9
 refine aA (dA rfl) (aF ?_)
 rcases aH hm with ⟨p,hm⟩|⟨p,hm⟩
 ·refine aL p rfl (aJ (aD (v:=bE ([]:bJ)) (aF ?_)));obtain rfl:=zI hm
  exact aX (aK (aO results75 rfl ⟨rfl,(aM.arr 2 [] d rfl)⟩))
 ·refine aI p rfl (aW (aB (aN (dU (C:=fun w'=>aM G K (bN 2 K i j e.1::bN 2 K n o k.1::L) w') cI (by kernel_rfl) (aM.mono d (eH.drew _)) (bG (fun _ d=>bP (v:=eP a1 l) rfl) (bG (fun _ d=>eR rfl m) (bG (fun _ d=>cH (k':=l+2) aCR rfl m rfl) (bG (fun _ d=>cC (t:=2) aKF d m rfl rfl) (bG (fun _ d=>bP (v:=bE a) rfl) ?_)))))))));obtain ⟨x,c1,hm⟩:=aC hm
  refine eU (vs:=[bE a]) (v:=bE x) call72 rfl (fun _ d=>(oX c1 d)) (bG (fun _ d=>bP (v:=bE b) rfl) ?_);obtain ⟨y,c2,hm⟩:=aC hm
  refine eU (vs:=[bE b]) (v:=bE y) call72 rfl (fun _ d=>(oX c2 d)) ?_;obtain ⟨h,c3,hm⟩:=aC hm
  refine eU (vs:=[zS a10 s_.Meetings.length c11,bE x,bE y]) (v:=bE h) call102 rfl (fun _ d=>(aMn c3 d a0)) (bG (fun _ d=>fG (v:=bE h) rfl) (eT (fun e6 q=>(aB (aN (aN (cP [7,11] (fun f w=>∃ r,aAx e h r=some R/\f 45=zB r/\aM G K (bN 2 K i j e.1::L) w) ?_ ?_)))))))
  ·rintro f e7 ⟨r,hm,z,J⟩
   unfold aAx at hm
   refine aB ?_
   rcases aH hm with ⟨u,hm⟩|⟨u,hm⟩
   ·refine aL u z (aJ (aD (v:=bE ([]:bJ)) (aF ?_)));obtain rfl:=zI hm
    exact aX (aK (aO results75 rfl ⟨rfl,(aM.arr 1 [] J rfl)⟩))
   ·refine aI u z (aW (aB (aJ (aG (v:=bE h) (aG (v:=zS i e.1.length j) ?_)))));obtain ⟨e8,e9,c6,c7,c9⟩:=aM.lendSp J (zR _) .head
    obtain ⟨d0,d1,hm⟩:=aC hm
    refine aQ (vs:=[bE h,zS i e.1.length j]) call103 rfl (aHb d1 c7 c6) ?_
    rintro _ f0 ⟨rfl,d2⟩
    have d3:=c9 _ _ d2
    refine aD (v:=bE d0) (aF ?_);obtain rfl:=zI hm
    exact aX (aO results75 rfl ⟨rfl,(aM.arr 1 [] d3 rfl)⟩)
  refine aU (aG (v:=bE h) (aA (kS rfl rfl) (aG (v:=zB (h == ([]:bJ))) ?_)))
  rcases aH hm with ⟨c,hm⟩|⟨c,hm⟩
  ·exact aR c rfl rfl (aR c rfl rfl (aR c rfl rfl (aR c rfl rfl (aR c rfl rfl (aR c rfl rfl (aR c rfl rfl (aA (bI (v:=zB true) c rfl rfl) (aF ⟨aT,true,hm,rfl,(aM.arr 2 [0] q rfl)⟩))))))))
  ·refine bD c rfl rfl (aG (v:=eP a1 l) (bD c rfl rfl (aA (eR rfl m) (bD c rfl rfl (aA (cH (k':=l+3) aCS rfl m rfl) (bD c rfl rfl (aA (cC (t:=3) zV q m rfl rfl) (bD c rfl rfl (aG (v:=bE h) (bD c rfl rfl ?_))))))))));obtain ⟨V,d5,hm⟩:=aC hm
   refine aQ (vs:=[zS a13 s_.Allowed.length c14,bE h]) call71 rfl (aDZ d5 q a2) ?_
   rintro _ f1 ⟨rfl,d6⟩
   exact bD c rfl rfl (aA (cF rfl rfl) (aA (bL (v:=zB (decide (V < 0))) c rfl rfl) (aF ⟨aT,decide (V < 0),hm,rfl,(aM.arr 2 [0] d6 rfl)⟩)))
theorem aFu {b:(List bV)} {x_:bV} {R:(List bV)} (hm:yU b x_=some R) (hs:aM G K (bN 99 Kf a1 c2 b::L) w) (V:Hp.le Kf K) (O:bY Kf a3 c4 x_.State):
  Calls prog 73 ([zS a1 b.length c2,zA #[bE x_.B,i64 x_.First,i64 x_.Second,zS a3 x_.State.length c4]]:List Value).toArray w (eK fun v w'=>∃ a0 a2,v=zS a0 R.length a2/\aM G K (bN 99 Kf a0 a2 R::L) w'):=by
 let k:=[bE x_.B,i64 x_.First,i64 x_.Second,zS a3 x_.State.length c4]
 let m:=bN 99 Kf a1 c2 b
 refine aP func73 rfl (by kernel_rfl) (by show (2:Nat)<=48;decide) ?_;unfold yU at hm
 refine aJ (dM (v:=zA #[bE x_.B,i64 x_.First,i64 x_.Second,zS a3 x_.State.length c4]) (vs:=k) hs rfl rfl (fun l w7 b0=>(aD (v:=zS none 0 0) (aF (aN (aJ (aD (v:=i64 0) (aF (bM [0,3] (fun f w=>pM b x_=some R/\aM G K (box l 99 k::m::L) w) ?_ ?_)))))))))
 ·rintro f w9 ⟨hm,a4⟩
  unfold pM at hm
  refine aB (aJ (aG (v:=zS a1 b.length c2) (aA (fQ (us:=k) ag_99 a4 (i:=0) rfl rfl rfl rfl) (gA (Kt:=Kf) (xs:=([x_]:List bV)) (cs:=k) (vs:=[(0,zA #[bE x_.B,i64 x_.First,i64 x_.Second,zS a3 x_.State.length c4])]) qI ez_99 rfl rfl a4 rfl (by kernel_rfl) rfl rfl rfl ⟨⟨a3,c4,rfl,O⟩,trivial⟩ (fun b1 b2 (b3:aM G K (bN 99 Kf b1 1 ([x_]:List bV)::box l 99 k::m::L) b2)=>?_)))));obtain ⟨a5,b4,hm⟩:=aC hm
  refine aEr (i:=1) Kf qI underlying94 ez_99 rfl rfl b3 rfl (zR _) (zR _) b4 rfl rfl rfl rfl (fun _ _ _ h=>El.one h) (fun q r b5 (b7:aM G K (box l 99 k::bN 99 Kf q r a5::L) b5)=>(aD (v:=zS q a5.length r) (aF ?_)));obtain rfl:=zI hm
  exact aX (aO results73 rfl ⟨q,r,rfl,(aM.arr 1 [] b7 rfl)⟩)
 obtain ⟨d7,b9,ho⟩:=aC hm
 refine dP [0,3] b9 (fun o f w=>f 5=i64 o/\aM G K (box l 99 k::m::L) w) ?_ ?_
 ·exact ⟨rfl,b0⟩
 ·rintro o c0 f d8 hm hr ⟨u,p⟩
  unfold tR at hm
  refine aN (aJ (bF u (aG (v:=zS a1 b.length c2) (aA (bO (len:=b.length) qI rfl) (aA (cF rfl rfl) (aF ?_))))))
  rcases aH hm with ⟨x,hm⟩|⟨x,hm⟩
  ·refine aL x rfl (aW (aB (aN (bX (aJ (aG (v:=zS a1 b.length c2) (bF u ?_)))))));obtain ⟨a,y,hm⟩:=aC hm
   have c1:=gC p (i:=1) rfl y
   refine aA (fT qI rfl c1 rfl rfl rfl y) ?_;obtain ⟨d9,c3,c5⟩:=aGO (sz:=4) rfl p (i:=1) rfl y
   obtain ⟨n,c45,rfl,c6⟩:=c5
   refine aA (R_ldCG (t:=0) (vs:=[bE a.B,i64 a.First,i64 a.Second,zS n a.State.length c45]) ag_99 c3 rfl rfl rfl) (eA (vs:=[bE ([]:bJ),i64 0,i64 0,zS none 0 0]) zeroValue99 p rfl (fun c7 e0 c8=>(eD (i:=0) (ns:=[bE a.B,i64 a.First,i64 a.Second,zS n a.State.length c45]) (us:=[bE a.B,i64 a.First,i64 a.Second,zS n a.State.length c45]) sizeOf99 c8 rfl rfl rfl rfl rfl (gJ rfl) rfl rfl (fun c9 (j:aM G K (box c7 99 [bE a.B,i64 a.First,i64 a.Second,zS n a.State.length c45]::box l 99 k::m::L) c9)=>(aF (aN (cP [0,3,5] (fun f w=>∃ z,nD b o z=some c0/\f 42=zB z/\aM G K (box l 99 k::m::L) w) ?_ ?_)))))))
   ·rintro f e1 ⟨z,hm,a6,a7⟩
    unfold nD at hm
    refine aB ?_
    rcases aH hm with ⟨J,hm⟩|⟨J,hm⟩
    ·refine aL J a6 (aJ (aG (v:=zS a1 b.length c2) (aD (v:=zS a1 b.length c2) (aF (aX (aY (aK (aK ?_))))))))
     have d0:=hr _ (zI hm).symm
     subst d0
     have hm:(some b)=some R:=ho
     clear hr ho
     obtain rfl:=zI hm
     exact aY (aK (aK (aO results73 rfl ⟨a1,c2,rfl,(aM.arr 1 [] a7 rfl)⟩)))
    ·exact aI J a6 (aW (bH (aB (aU (bF u (aA (cA rfl rfl) (aD (v:=i64 (wr (o+1))) (aF ⟨_,(zI hm).symm,aT,rfl,a7⟩))))))))
   refine aU (aA (bC (t':=0) aLu rfl rfl) (aA (bQ fA j (i:=0) rfl rfl rfl) (aA (bC (t':=0) aLu rfl rfl) (aA (bQ fA j (i:=1) rfl rfl rfl) (aA (kS rfl rfl) (aG (v:=zB (a.B == x_.B)) ?_))))))
   rcases aH hm with ⟨c,hm⟩|⟨c,hm⟩
   ·refine bB c rfl rfl (aA (bC (t':=1) aHz rfl rfl) (bB c rfl rfl (aA (bQ dC j (i:=0) rfl rfl rfl) (bB c rfl rfl (aA (bC (t':=1) aHz rfl rfl) (bB c rfl rfl (aA (bQ dC j (i:=1) rfl rfl rfl) (bB c rfl rfl (aA (cK rfl rfl) (aA (bI (v:=zB (a.First == x_.First)) c rfl rfl) (aG (v:=zB (a.First == x_.First)) ?_)))))))))))
    rcases aH hm with ⟨d,hm⟩|⟨d,hm⟩
    ·refine bB d rfl rfl (aA (bC (t':=2) aLv rfl rfl) (bB d rfl rfl (aA (bQ dC j (i:=0) rfl rfl rfl) (bB d rfl rfl (aA (bC (t':=2) aLv rfl rfl) (bB d rfl rfl (aA (bQ dC j (i:=1) rfl rfl rfl) (bB d rfl rfl (aA (cK rfl rfl) (aA (bI (v:=zB (a.Second == x_.Second)) d rfl rfl) (aG (v:=zB (a.Second == x_.Second)) ?_)))))))))))
     rcases aH hm with ⟨e,hm⟩|⟨e,hm⟩
     ·refine bB e rfl rfl (aA (bC (t':=3) aLw rfl rfl) (bB e rfl rfl (aA (bQ sc_30 j (i:=0) rfl rfl rfl) (bB e rfl rfl (aA (bC (t':=3) aLw rfl rfl) (bB e rfl rfl (aA (bQ sc_30 j (i:=1) rfl rfl rfl) (bB e rfl rfl ?_))))))));obtain ⟨a8,d2,hm⟩:=aC hm
      refine aQ (vs:=[zS n a.State.length c45,zS a3 x_.State.length c4]) call99 rfl (aMm d2 j (c6.mono V) (O.mono V)) ?_
      rintro _ e2 ⟨rfl,d3⟩
      exact aA (bI (v:=zB a8) e rfl rfl) (aF ⟨aT,a8,hm,rfl,(aM.arr 1 [] d3 rfl)⟩)
     ·exact aV e rfl rfl (aV e rfl rfl (aV e rfl rfl (aV e rfl rfl (aV e rfl rfl (aA (bL (v:=zB false) e rfl rfl) (aF ⟨aT,false,hm,rfl,(aM.arr 1 [] j rfl)⟩))))))
    ·exact aV d rfl rfl (aV d rfl rfl (aV d rfl rfl (aV d rfl rfl (aV d rfl rfl (aA (bL (v:=zB false) d rfl rfl) (aG (v:=zB false) (aV (by decide:¬ false=true) rfl rfl (aV (by decide:¬ false=true) rfl rfl (aV (by decide:¬ false=true) rfl rfl (aV (by decide:¬ false=true) rfl rfl (aV (by decide:¬ false=true) rfl rfl (aA (bL (v:=zB false) (by decide:¬ false=true) rfl rfl) (aF ⟨aT,false,hm,rfl,(aM.arr 1 [] j rfl)⟩)))))))))))))
   ·exact aV c rfl rfl (aV c rfl rfl (aV c rfl rfl (aV c rfl rfl (aV c rfl rfl (aA (bL (v:=zB false) c rfl rfl) (aG (v:=zB false) (aV (by decide:¬ false=true) rfl rfl (aV (by decide:¬ false=true) rfl rfl (aV (by decide:¬ false=true) rfl rfl (aV (by decide:¬ false=true) rfl rfl (aV (by decide:¬ false=true) rfl rfl (aA (bL (v:=zB false) (by decide:¬ false=true) rfl rfl) (aG (v:=zB false) (aV (by decide:¬ false=true) rfl rfl (aV (by decide:¬ false=true) rfl rfl (aV (by decide:¬ false=true) rfl rfl (aV (by decide:¬ false=true) rfl rfl (aV (by decide:¬ false=true) rfl rfl (aA (bL (v:=zB false) (by decide:¬ false=true) rfl rfl) (aF ⟨aT,false,hm,rfl,(aM.arr 1 [] j rfl)⟩))))))))))))))))))))
  ·refine aI x rfl (cD (bA (bA ?_)))
   have d4:=hr _ (zI hm).symm
   subst d4
   have hm:(pM b x_)=some R:=ho
   clear hr ho
   exact bR (aB ⟨aT,hm,p⟩)
theorem aLc {s_:bZ} {k2:Nat} {r:(List aZ)} {R:((List bV) × Bool)} (hm:tS s_ r=some R) (hs:aM G K (L) w) (h3:iG K a1 k2 [zS a4 s_.Definitions.length c5,zS a7 s_.Components.length c8,zS a10 s_.Meetings.length c11,zS a13 s_.Allowed.length c14,zS a16 s_.Hidden.length c17]) (h6:bY K a4 c5 s_.Definitions) (h9:bY K a7 c8 s_.Components) (n9:bY K a10 c11 s_.Meetings) (j0:bY K a13 c14 s_.Allowed) (o0:bY K a16 c17 s_.Hidden) (j1:bY K a19 c20 r):
  Calls prog 50 ([eP a1 k2,zS a19 r.length c20]:List Value).toArray w (eK fun v w'=>∃ K' t3 t4,v=zT #[zS t3 R.1.length t4,zB R.2]/\Hp.le K K'/\aM G K' (bN 99 K' t3 t4 R.1::L) w'):=by
 refine aP func50 rfl (by kernel_rfl) (by show (2:Nat)<=194;decide) ?_;unfold tS at hm
 refine aJ (aD (v:=zS none 0 0) (aD (v:=zB false) (aF (aJ (gA (Kt:=K) (xs:=([]:List bV)) (cs:=[]) (vs:=[]) qI ez_99 rfl rfl hs rfl (by kernel_rfl) rfl rfl rfl trivial (fun b5 z1 (z2:aM G K (bN 99 K b5 0 ([]:List bV)::L) z1)=>(aD (v:=zS b5 ([]:List bV).length 0) (aF (aJ (gA (Kt:=K) (xs:=([]:List (List cM))) (cs:=[]) (vs:=[]) yE aLZ rfl rfl z2 rfl (by kernel_rfl) rfl rfl rfl trivial (fun o2 z3 (z4:aM G K (bN 122 K o2 0 ([]:List (List cM))::bN 99 K b5 0 ([]:List bV)::L) z3)=>(aD (v:=zS o2 ([]:List (List cM)).length 0) (aF (aN (aJ (aD (v:=i64 0) (aF (bM [0,1,6] (fun f w=>∃ b c d e,Hp.le K b/\lH s_ r c=some R/\f 7=zS d c.length e/\aM G b (bN 122 b d e c::bN 99 K b5 0 ([]:List bV)::L) w) ?_ ?_))))))))))))))))))
 ·rintro f z5 ⟨b,c,d,e,j,hm,d0,z6⟩
  unfold lH at hm
  refine aB (aN (aJ (aD (v:=i64 0) (aF (bM [0,1,7] (fun f w=>∃ d8 j2 j3 j4,Hp.le b d8/\nF s_ r c j2=some R/\f 6=zS j3 j2.length j4/\aM G d8 (bN 99 d8 j3 j4 j2::bN 122 b d e c::L) w) ?_ ?_)))))
  ·rintro f w42 ⟨d8,j2,j3,j4,q,hm,z7,z8⟩
   unfold nF at hm
   refine aB (aN (aJ (aD (v:=i64 0) (aF (bM [] (fun f w=>∃ f5 d9 f6 c48,Hp.le d8 f5/\wH d9=some R/\f 6=zS f6 d9.length c48/\aM G f5 (bN 99 f5 f6 c48 d9::L) w) ?_ ?_)))))
   ·rintro f w50 ⟨f5,d9,f6,c48,z9,hm,t5,a00⟩
    unfold wH at hm
    refine aB (aJ (bF t5 (bF t5 (aA (bO (len:=d9.length) qI rfl) (aA (vR rfl rfl) (aD (v:=zS f6 d9.length c48) (aD (v:=zB (decide ((d9.length:Int)<=200))) (aF ?_))))))));obtain rfl:=zI hm
    exact aX (kJ results50 rfl rfl ⟨f5,f6,c48,rfl,(zL (zL j q) z9),a00⟩)
   obtain ⟨b55,a02,ho⟩:=aC hm
   refine dD [0,1,7] a02 (fun f7 b2 f w=>∃ c1 f8 f9,Hp.le d8 c1/\f 6=zS f8 f7.length f9/\f 15=i64 b2/\aM G c1 (bN 99 c1 f8 f9 f7::bN 122 b d e c::L) w) ?_ ?_
   ·exact ⟨d8,j3,j4,(zR _),z7,rfl,z8⟩
   ·rintro f7 b2 o3 f w75 hm hr ⟨c1,f8,f9,l,t6,d1,t7⟩
    unfold nE at hm
    refine aN (aJ (bF d1 (aG (v:=zS a19 r.length c20) (aA (bO (len:=r.length) gP rfl) (aA (cF rfl rfl) (aF ?_))))))
    rcases aH hm with ⟨o4,hm⟩|⟨o4,hm⟩
    ·refine aL o4 rfl (aW (aB (aN (bM [0,1,7,15] (fun f w=>∃ g0 j5 j6 j7,Hp.le c1 g0/\aBG b2 j5=some o3/\f 6=zS j6 j5.length j7/\aM G g0 (bN 99 g0 j6 j7 j5::bN 122 b d e c::L) w) ?_ ?_))))
     ·rintro f w95 ⟨g0,j5,j6,j7,a03,hm,e94,a05⟩
      unfold aBG at hm
      exact aB (aU (bF d1 (aA (cA rfl rfl) (aD (v:=i64 (wr (b2+1))) (aF ⟨_,(zI hm).symm,aT,g0,j6,j7,(zL l a03),e94,rfl,a05⟩)))))
     refine aJ (bF d1 (aA (cA rfl rfl) (aD (v:=i64 (wr (b2+1))) (aF (bM [0,1,7,15] (fun f w=>∃ g1 g2 j8 j9,Hp.le c1 g1/\sD b2 g2=some o3/\f 6=zS j8 g2.length j9/\aM G g1 (bN 99 g1 j8 j9 g2::bN 122 b d e c::L) w) ?_ ?_)))))
     ·rintro f b58 ⟨g1,g2,j8,j9,a06,hm,a07,a08⟩
      unfold sD at hm
      exact bH (aB ⟨aT,g1,g2,j8,j9,a06,hm,a07,a08⟩)
     obtain ⟨b59,a09,ho⟩:=aC hm
     refine dD [0,1,7,15] a09 (fun g3 b3 f w=>∃ c2 g4 g5,Hp.le c1 c2/\f 6=zS g4 g3.length g5/\f 16=i64 b3/\aM G c2 (bN 99 c2 g4 g5 g3::bN 122 b d e c::L) w) ?_ ?_
     ·exact ⟨c1,f8,f9,(zR _),t6,rfl,t7⟩
     ·rintro g3 b3 o5 f b60 hm hr ⟨c2,g4,g5,m,t8,e0,t9⟩
      unfold lG at hm
      refine aN (aJ (bF e0 (aG (v:=zS a19 r.length c20) (aA (bO (len:=r.length) gP rfl) (aA (cF rfl rfl) (aF ?_))))))
      rcases aH hm with ⟨o6,hm⟩|⟨o6,hm⟩
      ·refine aL o6 rfl (aW (aB (aN (bM [0,1,7,15,16] (fun f w=>∃ g6 k0 k1 k3,Hp.le c2 g6/\aBH b3 k0=some o5/\f 6=zS k1 k0.length k3/\aM G g6 (bN 99 g6 k1 k3 k0::bN 122 b d e c::L) w) ?_ ?_))))
       ·rintro f b61 ⟨g6,k0,k1,k3,a11,hm,a12,a14⟩
        unfold aBH at hm
        exact aB (aU (bF e0 (aA (cA rfl rfl) (aD (v:=i64 (wr (b3+1))) (aF ⟨_,(zI hm).symm,aT,g6,k1,k3,(zL m a11),a12,rfl,a14⟩)))))
       refine aJ (aD (v:=i64 0) (aF (bM [0,1,7,15,16] (fun f w=>∃ g7 g8 k4 k5,Hp.le c2 g7/\sE b3 g8=some o5/\f 6=zS k4 g8.length k5/\aM G g7 (bN 99 g7 k4 k5 g8::bN 122 b d e c::L) w) ?_ ?_)))
       ·rintro f b62 ⟨g7,g8,k4,k5,a15,hm,a17,a18⟩
        unfold sE at hm
        exact bH (aB ⟨aT,g7,g8,k4,k5,a15,hm,a17,a18⟩)
       obtain ⟨b63,a20,ho⟩:=aC hm
       refine dD [0,1,7,15,16] a20 (fun g9 c3 f w=>∃ c4 h0 h1,Hp.le c2 c4/\f 6=zS h0 g9.length h1/\f 17=i64 c3/\aM G c4 (bN 99 c4 h0 h1 g9::bN 122 b d e c::L) w) ?_ ?_
       ·exact ⟨c2,g4,g5,(zR _),t8,rfl,t9⟩
       ·rintro g9 c3 o7 f b64 hm hr ⟨c4,h0,h1,o,u0,k6,k7⟩
        unfold jU at hm
        refine aN (aJ (bF k6 (bF d0 (bF d1 ?_))));obtain ⟨k8,e1,hm⟩:=aC hm
        have e5:=gC k7 (i:=1) rfl e1
        refine aA (fT yE rfl e5 rfl rfl rfl e1) ?_;obtain ⟨b65,a21,a23⟩:=aGO (sz:=1) rfl k7 (i:=1) rfl e1
        obtain ⟨a24,a26,rfl,b66⟩:=a23
        refine aA (aLS (t:=0) (v:=zS a24 k8.length a26) aBg a21 rfl rfl) (aA (bO (len:=k8.length) lY rfl) (aA (cF rfl rfl) (aF ?_)))
        rcases aH hm with ⟨o8,hm⟩|⟨o8,hm⟩
        ·refine aL o8 rfl (aW (aB (aN (bM [0,1,7,15,16,17] (fun f w=>∃ h2 k9 l0 l1,Hp.le c4 h2/\aBI c3 k9=some o7/\f 6=zS l0 k9.length l1/\aM G h2 (bN 99 h2 l0 l1 k9::bN 122 b d e c::L) w) ?_ ?_))))
         ·rintro f b67 ⟨h2,k9,l0,l1,a27,hm,a28,a29⟩
          unfold aBI at hm
          exact aB (aU (bF k6 (aA (cA rfl rfl) (aD (v:=i64 (wr (c3+1))) (aF ⟨_,(zI hm).symm,aT,h2,l0,l1,(zL o a27),a28,rfl,a29⟩)))))
         refine aJ (aD (v:=i64 0) (aF (bM [0,1,7,15,16,17] (fun f w=>∃ h4 h5 l2 l3,Hp.le c4 h4/\sF c3 h5=some o7/\f 6=zS l2 h5.length l3/\aM G h4 (bN 99 h4 l2 l3 h5::bN 122 b d e c::L) w) ?_ ?_)))
         ·rintro f b68 ⟨h4,h5,l2,l3,a30,hm,a32,a33⟩
          unfold sF at hm
          exact bH (aB ⟨aT,h4,h5,l2,l3,a30,hm,a32,a33⟩)
         obtain ⟨b69,a34,ho⟩:=aC hm
         refine dD [0,1,7,15,16,17] a34 (fun y d2 f w=>∃ a2 a3 a5,Hp.le c4 a2/\f 6=zS a3 y.length a5/\f 18=i64 d2/\aM G a2 (bN 99 a2 a3 a5 y::bN 122 b d e c::L) w) ?_ ?_
         ·exact ⟨c4,h0,h1,(zR _),u0,rfl,k7⟩
         ·rintro y d2 u1 f b70 hm hr ⟨a2,a3,a5,p,l4,l5,o9⟩
          unfold jC at hm
          refine aN (aN (cP [0,1,6,7,15,16,17,18] (fun f w=>∃ p0,oM s_ r c b2 b3 c3 k8 y d2 p0=some u1/\f 133=zB p0/\aM G a2 (bN 99 a2 a3 a5 y::bN 122 b d e c::L) w) ?_ ?_))
          ·rintro f b71 ⟨p0,hm,u2,u3⟩
           unfold oM at hm
           refine aB ?_
           rcases aH hm with ⟨p1,hm⟩|⟨p1,hm⟩
           ·refine aL p1 u2 (aW (aB (aN (bM [0,1,7,15,16,17,18] (fun f w=>∃ h7 l6 l7 l8,Hp.le a2 h7/\wI d2 l6=some u1/\f 6=zS l7 l6.length l8/\aM G h7 (bN 99 h7 l7 l8 l6::bN 122 b d e c::L) w) ?_ ?_))))
            ·rintro f b72 ⟨h7,l6,l7,l8,a35,hm,a36,a37⟩
             unfold wI at hm
             exact aB (aU (bF l5 (aA (cA rfl rfl) (aD (v:=i64 (wr (d2+1))) (aF ⟨_,(zI hm).symm,aT,h7,l7,l8,(zL p a35),a36,rfl,a37⟩)))))
            refine aN ?_;obtain ⟨a38,e6,u4,k,a40⟩:=aM.lendSp u3 (zL (zL (zL (zL q l) m) o) p) zt1
            refine dU (C:=fun w'=>aM G a38 (bN 99 a2 a3 a5 y::L) w') cI (by kernel_rfl) (aM.mono k (eH.drew _)) (bG (fun _ k=>bP (v:=eP a1 k2) rfl) (bG (fun _ k=>bP d0) (bG (fun _ k=>bP d1) (bG (fun _ k=>fT yE rfl e5 rfl rfl rfl e1) ?_))));obtain ⟨b73,a41,a42⟩:=bY.el (sz:=1) rfl u4 e1
            obtain ⟨b74,b75,rfl,u5⟩:=a42
            refine bG (fun _ k=>cC (t:=0) aBg k a41 rfl rfl) (bG (fun _ k=>bP k6) ?_);obtain ⟨d3,l9,hm⟩:=aC hm
            refine bG (fun _ k=>cG lY rfl u5 rfl rfl rfl l9) ?_;obtain ⟨b76,u6,a43⟩:=bY.el (sz:=4) rfl u5 l9
            obtain ⟨b77,b78,rfl,b79⟩:=a43
            refine bG (fun _ k=>cH (k':=c3.toNat * 4+0) tA rfl u6 rfl) (bG (fun _ k=>cC (t:=0) fA k u6 rfl rfl) (bG (fun _ k=>bP d0) (bG (fun _ k=>bP e0) ?_)));obtain ⟨a44,m0,hm⟩:=aC hm
            refine bG (fun _ k=>fT yE rfl e5 rfl rfl rfl m0) ?_;obtain ⟨b80,a45,a46⟩:=bY.el (sz:=1) rfl u4 m0
            obtain ⟨b81,b82,rfl,u7⟩:=a46
            refine bG (fun _ k=>cC (t:=0) aBg k a45 rfl rfl) (bG (fun _ k=>bP l5) ?_);obtain ⟨d4,m1,hm⟩:=aC hm
            refine bG (fun _ k=>cG lY rfl u7 rfl rfl rfl m1) ?_;obtain ⟨b83,u8,a48⟩:=bY.el (sz:=4) rfl u7 m1
            obtain ⟨b84,b85,rfl,b86⟩:=a48
            refine bG (fun _ k=>cH (k':=d2.toNat * 4+0) tA rfl u8 rfl) (bG (fun _ k=>cC (t:=0) fA k u8 rfl rfl) ?_);obtain ⟨h8,a49,hm⟩:=aC hm
            refine eU (vs:=[eP a1 k2,bE d3.B,bE d4.B]) (v:=bE h8) call75 rfl (fun _ k=>(aMo a49 k (h3.mono (zL (zL (zL (zL (zL (zL j q) l) m) o) p) e6)) (h6.mono (zL (zL (zL (zL (zL (zL j q) l) m) o) p) e6)) (h9.mono (zL (zL (zL (zL (zL (zL j q) l) m) o) p) e6)) (n9.mono (zL (zL (zL (zL (zL (zL j q) l) m) o) p) e6)) (j0.mono (zL (zL (zL (zL (zL (zL j q) l) m) o) p) e6)) (o0.mono (zL (zL (zL (zL (zL (zL j q) l) m) o) p) e6)))) (bG (fun _ k=>fG (v:=bE h8) rfl) (eT (fun b87 a50=>?_)))
            have u9:=a40 _ _ a50
            refine aB (aN (aJ (aG (v:=bE h8) (aA (kS rfl rfl) (aF ?_)))))
            rcases aH hm with ⟨p2,hm⟩|⟨p2,hm⟩
            ·exact aL p2 rfl (cD (bA (bR (aB ⟨aT,a2,y,a3,a5,(zR _),hm,l4,(aM.arr 2 [1,0] u9 rfl)⟩))))
            ·refine aI p2 rfl (aW (aB (aJ (aG (v:=zS a19 r.length c20) ?_))));obtain ⟨v0,a51,hm⟩:=aC hm
             refine aQ (vs:=[zS a19 r.length c20]) call49 rfl (sL a51 u9 (j1.mono (zL (zL (zL (zL (zL j q) l) m) o) p))) ?_
             rintro _ b88 ⟨m2,b6,b7,rfl,z,m3⟩
             refine aD (v:=zS b6 v0.length b7) (aF (aJ (aG (v:=zS b6 v0.length b7) (bF d1 (bF d0 (bF d1 (aA (fT yE rfl e5 rfl rfl rfl e1) ?_)))))));obtain ⟨b89,a52,a53⟩:=aGO (sz:=1) rfl m3 (i:=1) rfl e1
             obtain ⟨a54,a55,rfl,v1⟩:=a53
             refine aA (aLS (t:=0) (v:=zS a54 k8.length a55) aBg a52 rfl rfl) (bF k6 (aA (cG lY rfl (v1.mono (zL (zL (zL (zL (zL q l) m) o) p) z)) rfl rfl rfl l9) ?_));obtain ⟨b90,v2,a56⟩:=bY.el (sz:=4) rfl v1 l9
             obtain ⟨p3,p4,rfl,a57⟩:=a56
             refine aA (cH (k':=c3.toNat * 4+1) zX rfl (v2.mono (zL (zL (zL (zL (zL q l) m) o) p) z)) rfl) (aA (dZ (t:=1) (vs:=[i64 d3.Next.Definition,i64 d3.Next.Part,zS p3 d3.Next.Values.length p4]) vM m3 (v2.mono (zL (zL (zL (zL (zL q l) m) o) p) z)) rfl rfl rfl) ?_);obtain ⟨b91,p5,hm⟩:=aC hm
             have v3:=gC m3 (i:=0) rfl p5
             refine aA (fT gP rfl v3 rfl rfl rfl p5) ?_;obtain ⟨v4,p6,hm⟩:=aC hm
             refine WO_stE (i:=0) (ns:=[i64 d3.Next.Definition,i64 d3.Next.Part,zS p3 d3.Next.Values.length p4]) (e':=(d3.Next:aZ)) sizeOf70 m3 rfl (zR _) rfl rfl rfl p5 p6 rfl ⟨p3,p4,rfl,(a57.mono (zL (zL (zL (zL (zL q l) m) o) p) z))⟩ (fun a58 (p7:aM G m2 (bN 70 m2 b6 b7 v4::bN 122 b d e c::bN 99 a2 a3 a5 y::L) a58)=>(aF (aJ (bF (v:=zS b6 v4.length b7) (Eq.trans rfl (congrArg (fun n=>zS b6 n b7) (cE p6))) (bF e0 (bF d0 (bF e0 (aA (fT yE rfl e5 rfl rfl rfl m0) ?_))))))))
             obtain ⟨b92,a59,a60⟩:=aGO (sz:=1) rfl p7 (i:=1) rfl m0
             obtain ⟨a61,a62,rfl,v5⟩:=a60
             refine aA (aLS (t:=0) (v:=zS a61 a44.length a62) aBg a59 rfl rfl) (bF l5 (aA (cG lY rfl (v5.mono (zL (zL (zL (zL (zL q l) m) o) p) z)) rfl rfl rfl m1) ?_));obtain ⟨b93,v6,a63⟩:=bY.el (sz:=4) rfl v5 m1
             obtain ⟨p8,p9,rfl,a64⟩:=a63
             refine aA (cH (k':=d2.toNat * 4+1) zX rfl (v6.mono (zL (zL (zL (zL (zL q l) m) o) p) z)) rfl) (aA (dZ (t:=1) (vs:=[i64 d4.Next.Definition,i64 d4.Next.Part,zS p8 d4.Next.Values.length p9]) vM p7 (v6.mono (zL (zL (zL (zL (zL q l) m) o) p) z)) rfl rfl rfl) ?_);obtain ⟨b94,v7,hm⟩:=aC hm
             refine aA (fT gP rfl v3 rfl rfl rfl v7) ?_;obtain ⟨q0,v8,hm⟩:=aC hm
             refine WO_stE (i:=0) (ns:=[i64 d4.Next.Definition,i64 d4.Next.Part,zS p8 d4.Next.Values.length p9]) (e':=(d4.Next:aZ)) sizeOf70 p7 rfl (zR _) rfl rfl rfl v7 v8 rfl ⟨p8,p9,rfl,(a64.mono (zL (zL (zL (zL (zL q l) m) o) p) z))⟩ (fun a65 (a66:aM G m2 (bN 70 m2 b6 b7 q0::bN 122 b d e c::bN 99 a2 a3 a5 y::L) a65)=>(aF (aU (bF l4 (aG (v:=eP a1 k2) (aG (v:=bE h8) ?_))))));obtain ⟨m4,a67,hm⟩:=aC hm
             refine aQ (vs:=[eP a1 k2,bE h8]) call74 rfl (aHg a67 a66 (h3.mono (zL (zL (zL (zL (zL (zL j q) l) m) o) p) z)) (h6.mono (zL (zL (zL (zL (zL (zL j q) l) m) o) p) z)) (h9.mono (zL (zL (zL (zL (zL (zL j q) l) m) o) p) z)) (n9.mono (zL (zL (zL (zL (zL (zL j q) l) m) o) p) z)) (j0.mono (zL (zL (zL (zL (zL (zL j q) l) m) o) p) z)) (o0.mono (zL (zL (zL (zL (zL (zL j q) l) m) o) p) z))) ?_
             rintro _ a68 ⟨rfl,a69⟩
             refine bF d1 (bF e0 (bF (v:=zS b6 q0.length b7) (Eq.trans (Eq.trans rfl (congrArg (fun n=>zS b6 n b7) (cE p6))) (congrArg (fun n=>zS b6 n b7) (cE v8))) ?_));obtain ⟨a71,v9,a72,q1⟩:=aM.giveSp a69 (zR _) .head
             replace q1:aM G a71 (bN 122 b d e c::bN 99 a2 a3 a5 y::L) a68:=q1
             obtain ⟨m5,a73,hm⟩:=aC hm
             refine aQ (vs:=[zS b6 q0.length b7]) call49 rfl (sL a73 q1 a72) ?_
             rintro _ q2 ⟨b95,q3,q4,rfl,w0,a74⟩
             refine aA (lQ (vs:=[(0,bE m4),(1,i64 b2),(2,i64 b3),(3,zS q3 m5.length q4)]) (cs:=[bE m4,i64 b2,i64 b3,zS q3 m5.length q4]) bs_99 rfl (by kernel_rfl)) ?_;obtain ⟨e2,w1,a75,q5⟩:=aM.giveSp a74 (zR _) .head
             replace q5:aM G e2 (bN 122 b d e c::bN 99 a2 a3 a5 y::L) q2:=q5
             have a76:aM G e2 (bN 122 b d e c::bN 99 e2 a3 a5 y::L) q2:=aM.weak (i:=1) q5 rfl (fun _ h=>bN.mono (zL (zL (zL z v9) w0) w1) h)
             have a77:aM G e2 (bN 99 e2 a3 a5 y::bN 122 b d e c::L) q2:=(aM.arr 2 [1,0] a76 rfl)
             obtain ⟨w2,a78,hm⟩:=aC hm
             refine aQ (vs:=[zS a3 y.length a5,zA #[bE m4,i64 b2,i64 b3,zS q3 m5.length q4]]) call73 rfl (aFu (Kf:=e2) (x_:=⟨m4,b2,b3,m5⟩) a78 a77 (zR _) a75) ?_
             rintro _ b96 ⟨w3,w4,rfl,a79⟩
             exact aD (v:=zS w3 w2.length w4) (cW (bH (aB ⟨aT,e2,w2,w3,w4,(zL (zL (zL z v9) w0) w1),hm,rfl,a79⟩)))
           ·refine aI p1 u2 (cD (bA (bA ?_)))
            have a80:=hr _ (zI hm).symm
            subst a80
            have hm:(sF c3 y)=some o7:=ho
            clear hr ho
            exact bR (aB ⟨aT,a2,y,a3,a5,p,hm,l4,u3⟩)
          refine aU (bF l5 (bF d0 (bF e0 ?_)));obtain ⟨q6,w5,hm⟩:=aC hm
          refine aA (fT yE rfl e5 rfl rfl rfl w5) ?_;obtain ⟨b97,a81,a82⟩:=aGO (sz:=1) rfl o9 (i:=1) rfl w5
          obtain ⟨a83,a84,rfl,b98⟩:=a82
          refine aA (aLS (t:=0) (v:=zS a83 q6.length a84) aBg a81 rfl rfl) (aA (bO (len:=q6.length) lY rfl) (aA (cF rfl rfl) (aG (v:=zB (decide (d2 < (q6.length:Int)))) ?_)))
          rcases aH hm with ⟨c6,hm⟩|⟨c6,hm⟩
          ·exact bB c6 rfl rfl (bF l4 (bB c6 rfl rfl (aA (bO (len:=y.length) qI rfl) (bB c6 rfl rfl (aA (vR rfl rfl) (aA (bI (v:=zB (decide ((y.length:Int)<=200))) c6 rfl rfl) (aF ⟨aT,decide ((y.length:Int)<=200),hm,rfl,o9⟩)))))))
          ·exact aV c6 rfl rfl (aV c6 rfl rfl (aV c6 rfl rfl (aA (bL (v:=zB false) c6 rfl rfl) (aF ⟨aT,false,hm,rfl,o9⟩))))
        ·refine aI o8 rfl (cD (bA (bA ?_)))
         have a85:=hr _ (zI hm).symm
         subst a85
         have hm:(sE b3 g9)=some o5:=ho
         clear hr ho
         exact bR (aB ⟨aT,c4,g9,h0,h1,o,hm,u0,k7⟩)
      ·refine aI o6 rfl (cD (bA (bA ?_)))
       have a86:=hr _ (zI hm).symm
       subst a86
       have hm:(sD b2 g3)=some o3:=ho
       clear hr ho
       exact bR (aB ⟨aT,c2,g3,g4,g5,m,hm,t8,t9⟩)
    ·refine aI o4 rfl (cD (bA (bA ?_)))
     have a87:=hr _ (zI hm).symm
     subst a87
     have hm:(wH f7)=some R:=ho
     clear hr ho
     exact bR (aB ⟨aT,c1,f7,f8,f9,l,hm,t6,(aM.arr 2 [0] t7 rfl)⟩)
  have a88:aM G b (bN 122 b d e c::bN 99 b b5 0 ([]:List bV)::L) z5:=aM.weak (i:=1) z6 rfl (fun _ h=>bN.mono j h)
  obtain ⟨b99,a89,ho⟩:=aC hm
  refine dD [0,1,7] a89 (fun i0 b4 f w=>∃ c7 i1 i2,Hp.le b c7/\f 6=zS i1 i0.length i2/\f 11=i64 b4/\aM G c7 (bN 122 b d e c::bN 99 c7 i1 i2 i0::L) w) ?_ ?_
  ·exact ⟨b,b5,0,(zR _),rfl,rfl,a88⟩
  ·rintro i0 b4 q7 f c00 hm hr ⟨c7,i1,i2,J,w6,e7,w7⟩
   unfold pQ at hm
   refine aN (aJ (bF e7 (aG (v:=zS a19 r.length c20) (aA (bO (len:=r.length) gP rfl) (aA (cF rfl rfl) (aF ?_))))))
   rcases aH hm with ⟨q8,hm⟩|⟨q8,hm⟩
   ·refine aL q8 rfl (aW (aB (aN (bM [0,1,7,11] (fun f w=>∃ i3 m6 m7 m8,Hp.le c7 i3/\aAy b4 m6=some q7/\f 6=zS m7 m6.length m8/\aM G i3 (bN 99 i3 m7 m8 m6::bN 122 b d e c::L) w) ?_ ?_))))
    ·rintro f c01 ⟨i3,m6,m7,m8,a90,hm,a91,a93⟩
     unfold aAy at hm
     exact aB (aU (bF e7 (aA (cA rfl rfl) (aD (v:=i64 (wr (b4+1))) (aF ⟨_,(zI hm).symm,aT,i3,m7,m8,(zL J a90),a91,rfl,(aM.arr 2 [1,0] a93 rfl)⟩)))))
    refine aJ (aD (v:=i64 0) (aF (bM [0,1,7,11] (fun f w=>∃ i4 i5 m9 n0,Hp.le c7 i4/\pN b4 i5=some q7/\f 6=zS m9 i5.length n0/\aM G i4 (bN 99 i4 m9 n0 i5::bN 122 b d e c::L) w) ?_ ?_)))
    ·rintro f c02 ⟨i4,i5,m9,n0,a94,hm,a95,a96⟩
     unfold pN at hm
     exact bH (aB ⟨aT,i4,i5,m9,n0,a94,hm,a95,a96⟩)
    obtain ⟨c03,a97,ho⟩:=aC hm
    refine dD [0,1,7,11] a97 (fun V i6 f w=>∃ O a6 a8,Hp.le c7 O/\f 6=zS a6 V.length a8/\f 12=i64 i6/\aM G O (bN 122 b d e c::bN 99 O a6 a8 V::L) w) ?_ ?_
    ·exact ⟨c7,i1,i2,(zR _),w6,rfl,w7⟩
    ·rintro V i6 w8 f c04 hm hr ⟨O,a6,a8,a0,q9,r0,e8⟩
     unfold pP at hm
     refine aN (aJ (bF r0 (bF d0 (bF e7 ?_))));obtain ⟨r1,i7,hm⟩:=aC hm
     have w9:=gC e8 (i:=0) rfl i7
     refine aA (fT yE rfl w9 rfl rfl rfl i7) ?_;obtain ⟨c05,a98,a99⟩:=aGO (sz:=1) rfl e8 (i:=0) rfl i7
     obtain ⟨b00,b01,rfl,c06⟩:=a99
     refine aA (aLS (t:=0) (v:=zS b00 r1.length b01) aBg a98 rfl rfl) (aA (bO (len:=r1.length) lY rfl) (aA (cF rfl rfl) (aF ?_)))
     rcases aH hm with ⟨r2,hm⟩|⟨r2,hm⟩
     ·refine aL r2 rfl (aW (aB (aN (bM [0,1,7,11,12] (fun f w=>∃ i8 n1 n2 n3,Hp.le O i8/\pO i6 n1=some w8/\f 6=zS n2 n1.length n3/\aM G i8 (bN 122 b d e c::bN 99 i8 n2 n3 n1::L) w) ?_ ?_))))
      ·rintro f c07 ⟨i8,n1,n2,n3,b02,hm,b03,b04⟩
       unfold pO at hm
       exact aB (aU (bF r0 (aA (cA rfl rfl) (aD (v:=i64 (wr (i6+1))) (aF ⟨_,(zI hm).symm,aT,i8,n2,n3,(zL a0 b02),b03,rfl,b04⟩)))))
      refine aJ (bF d0 (bF e7 (aA (fT yE rfl w9 rfl rfl rfl i7) ?_)));obtain ⟨c08,b05,b06⟩:=aGO (sz:=1) rfl e8 (i:=0) rfl i7
      obtain ⟨b07,b08,rfl,x0⟩:=b06
      refine aA (aLS (t:=0) (v:=zS b07 r1.length b08) aBg b05 rfl rfl) (bF r0 ?_);obtain ⟨a,x1,hm⟩:=aC hm
      refine aA (cG lY rfl (x0.mono (zL J a0)) rfl rfl rfl x1) ?_;obtain ⟨c09,b09,b10⟩:=bY.el (sz:=4) rfl x0 x1
      obtain ⟨a9,b0,rfl,b11⟩:=b10
      refine aA (dZ (t:=0) (vs:=[bE a.B,i64 a.Next.Definition,i64 a.Next.Part,zS a9 a.Next.Values.length b0]) aJV e8 (b09.mono (zL J a0)) rfl rfl rfl) (eA (vs:=[bE ([]:bJ),i64 0,i64 0,zS none 0 0]) zeroValue127 e8 rfl (fun d5 c10 b12=>(eD (i:=0) (ns:=[bE a.B,i64 a.Next.Definition,i64 a.Next.Part,zS a9 a.Next.Values.length b0]) (us:=[bE a.B,i64 a.Next.Definition,i64 a.Next.Part,zS a9 a.Next.Values.length b0]) sizeOf127 b12 rfl rfl rfl rfl rfl (gJ rfl) rfl rfl (fun b13 (u:aM G O (box d5 127 [bE a.B,i64 a.Next.Definition,i64 a.Next.Part,zS a9 a.Next.Values.length b0]::bN 122 b d e c::bN 99 O a6 a8 V::L) b13)=>(aF (aN (aN (cP [0,1,6,7,11,12,13] (fun f w=>∃ r3,jV s_ r b4 V i6 a r3=some w8/\f 81=zB r3/\aM G O (box d5 127 [bE a.B,i64 a.Next.Definition,i64 a.Next.Part,zS a9 a.Next.Values.length b0]::bN 122 b d e c::bN 99 O a6 a8 V::L) w) ?_ ?_))))))))
      ·rintro f c12 ⟨r3,hm,x2,x3⟩
       unfold jV at hm
       refine aB ?_
       rcases aH hm with ⟨r4,hm⟩|⟨r4,hm⟩
       ·exact aL r4 x2 (cD (bA (bR (aB ⟨aT,O,V,a6,a8,(zR _),hm,q9,(aM.arr 1 [] x3 rfl)⟩))))
       ·refine aI r4 x2 (aW (aB (aJ (aG (v:=zS a19 r.length c20) ?_))));obtain ⟨x4,b14,hm⟩:=aC hm
        refine aQ (vs:=[zS a19 r.length c20]) call49 rfl (sL b14 x3 (j1.mono (zL (zL j J) a0))) ?_
        rintro _ c13 ⟨x5,e9,f0,rfl,c9,r5⟩
        refine aD (v:=zS e9 x4.length f0) (aF (aJ (aG (v:=zS e9 x4.length f0) (bF e7 (aA (bC (t':=1) zX rfl rfl) (aA (fQ (us:=[i64 a.Next.Definition,i64 a.Next.Part,zS a9 a.Next.Values.length b0]) vM r5 (i:=1) rfl rfl rfl rfl) ?_))))));obtain ⟨c15,r6,hm⟩:=aC hm
        have b15:=gC r5 (i:=0) rfl r6
        refine aA (fT gP rfl b15 rfl rfl rfl r6) ?_;obtain ⟨r7,x6,hm⟩:=aC hm
        refine WO_stE (i:=0) (ns:=[i64 a.Next.Definition,i64 a.Next.Part,zS a9 a.Next.Values.length b0]) (e':=(a.Next:aZ)) sizeOf70 r5 rfl (zR _) rfl rfl rfl r6 x6 rfl ⟨a9,b0,rfl,(b11.mono (zL (zL J a0) c9))⟩ (fun b16 (x7:aM G x5 (bN 70 x5 e9 f0 r7::box d5 127 [bE a.B,i64 a.Next.Definition,i64 a.Next.Part,zS a9 a.Next.Values.length b0]::bN 122 b d e c::bN 99 O a6 a8 V::L) b16)=>(aF (aU (bF q9 (aG (v:=eP a1 k2) (aA (bC (t':=0) tA rfl rfl) (aA (bQ fA x7 (i:=1) rfl rfl rfl) ?_)))))))
        obtain ⟨n4,b17,hm⟩:=aC hm
        refine aQ (vs:=[eP a1 k2,bE a.B]) call74 rfl (aHg b17 x7 (h3.mono (zL (zL (zL j J) a0) c9)) (h6.mono (zL (zL (zL j J) a0) c9)) (h9.mono (zL (zL (zL j J) a0) c9)) (n9.mono (zL (zL (zL j J) a0) c9)) (j0.mono (zL (zL (zL j J) a0) c9)) (o0.mono (zL (zL (zL j J) a0) c9))) ?_
        rintro _ b18 ⟨rfl,b19⟩
        refine bF e7 (bF (v:=zS e9 r7.length f0) (Eq.trans rfl (congrArg (fun n=>zS e9 n f0) (cE x6))) ?_);obtain ⟨b20,x8,b21,r8⟩:=aM.giveSp b19 (zR _) .head
        replace r8:aM G b20 (box d5 127 [bE a.B,i64 a.Next.Definition,i64 a.Next.Part,zS a9 a.Next.Values.length b0]::bN 122 b d e c::bN 99 O a6 a8 V::L) b18:=r8
        obtain ⟨n5,b22,hm⟩:=aC hm
        refine aQ (vs:=[zS e9 r7.length f0]) call49 rfl (sL b22 r8 b21) ?_
        rintro _ r9 ⟨c16,s0,s1,rfl,x9,b23⟩
        refine aA (lQ (vs:=[(0,bE n4),(1,i64 b4),(2,i64 (-1)),(3,zS s0 n5.length s1)]) (cs:=[bE n4,i64 b4,i64 (-1),zS s0 n5.length s1]) bs_99 rfl (by kernel_rfl)) ?_;obtain ⟨e3,y0,b24,s2⟩:=aM.giveSp b23 (zR _) .head
        replace s2:aM G e3 (box d5 127 [bE a.B,i64 a.Next.Definition,i64 a.Next.Part,zS a9 a.Next.Values.length b0]::bN 122 b d e c::bN 99 O a6 a8 V::L) r9:=s2
        have b25:aM G e3 (box d5 127 [bE a.B,i64 a.Next.Definition,i64 a.Next.Part,zS a9 a.Next.Values.length b0]::bN 122 b d e c::bN 99 e3 a6 a8 V::L) r9:=aM.weak (i:=2) s2 rfl (fun _ h=>bN.mono (zL (zL (zL c9 x8) x9) y0) h)
        have b26:aM G e3 (bN 99 e3 a6 a8 V::box d5 127 [bE a.B,i64 a.Next.Definition,i64 a.Next.Part,zS a9 a.Next.Values.length b0]::bN 122 b d e c::L) r9:=(aM.arr 3 [2,0,1] b25 rfl)
        obtain ⟨y1,b27,hm⟩:=aC hm
        refine aQ (vs:=[zS a6 V.length a8,zA #[bE n4,i64 b4,i64 (-1),zS s0 n5.length s1]]) call73 rfl (aFu (Kf:=e3) (x_:=⟨n4,b4,(-1),n5⟩) b27 b26 (zR _) b24) ?_
        rintro _ c18 ⟨y2,y3,rfl,b28⟩
        exact aD (v:=zS y2 y1.length y3) (cW (bH (aB ⟨aT,e3,y1,y2,y3,(zL (zL (zL c9 x8) x9) y0),hm,rfl,(aM.arr 3 [2,0] b28 rfl)⟩)))
      refine dU (C:=fun w'=>aM G O (box d5 127 [bE a.B,i64 a.Next.Definition,i64 a.Next.Part,zS a9 a.Next.Values.length b0]::bN 122 b d e c::bN 99 O a6 a8 V::L) w') cI (by kernel_rfl) (aM.mono u (eH.drew _)) (bG (fun _ u=>bC (t':=0) tA rfl rfl) (bG (fun _ u=>bQ fA u (i:=0) rfl rfl rfl) (bG (fun _ u=>vO rfl rfl) (bG (fun _ u=>bP (v:=zB (!(a.B == ([116,97,117]:bJ)))) rfl) ?_))))
      rcases aH hm with ⟨x,hm⟩|⟨x,hm⟩
      ·refine cQ (g:=71) rfl rfl x (bG (fun _ u=>bP (v:=eP a1 k2) rfl) (cQ (g:=71) rfl rfl x (bG (fun _ u=>eR rfl (h3.mono (zL (zL j J) a0))) (cQ (g:=71) rfl rfl x (bG (fun _ u=>cH (k':=k2+3) aCS rfl (h3.mono (zL (zL j J) a0)) rfl) (cQ (g:=71) rfl rfl x (bG (fun _ u=>cC (t:=3) zV u (h3.mono (zL (zL j J) a0)) rfl rfl) (cQ (g:=71) rfl rfl x (bG (fun _ u=>bC (t':=0) tA rfl rfl) (cQ (g:=71) rfl rfl x (bG (fun _ u=>bQ fA u (i:=0) rfl rfl rfl) (cQ (g:=71) rfl rfl x ?_))))))))))))
       obtain ⟨y4,b29,hm⟩:=aC hm
       refine eU (vs:=[bE a.B]) (v:=bE y4) call72 rfl (fun _ u=>(oX b29 u)) (cQ (g:=71) rfl rfl x ?_);obtain ⟨s3,b30,hm⟩:=aC hm
       exact eU (vs:=[zS a13 s_.Allowed.length c14,bE y4]) (v:=i64 s3) call71 rfl (fun _ u=>(aDZ b30 u (j0.mono (zL (zL j J) a0)))) (cQ (g:=71) rfl rfl x (bG (fun _ u=>cF rfl rfl) (bG (fun _ u=>bI (v:=zB (decide (s3 < 0))) x rfl rfl) (eT (fun c19 b31=>(aB ⟨aT,decide (s3 < 0),hm,rfl,b31⟩))))))
      ·exact bW (g:=71) rfl rfl (eB x) (bW (g:=71) rfl rfl (eB x) (bW (g:=71) rfl rfl (eB x) (bW (g:=71) rfl rfl (eB x) (bW (g:=71) rfl rfl (eB x) (bW (g:=71) rfl rfl (eB x) (bW (g:=71) rfl rfl (eB x) (bW (g:=71) rfl rfl (eB x) (bW (g:=71) rfl rfl (eB x) (bG (fun _ u=>bL (v:=zB false) x rfl rfl) (eT (fun c21 b32=>(aB ⟨aT,false,hm,rfl,b32⟩))))))))))))
     ·refine aI r2 rfl (cD (bA (bA ?_)))
      have b33:=hr _ (zI hm).symm
      subst b33
      have hm:(pN b4 V)=some q7:=ho
      clear hr ho
      exact bR (aB ⟨aT,O,V,a6,a8,a0,hm,q9,(aM.arr 2 [1,0] e8 rfl)⟩)
   ·refine aI q8 rfl (cD (bA (bA ?_)))
    have b34:=hr _ (zI hm).symm
    subst b34
    have hm:(nF s_ r c i0)=some R:=ho
    clear hr ho
    exact bR (aB ⟨aT,c7,i0,i1,i2,J,hm,w6,(aM.arr 2 [1,0] w7 rfl)⟩)
 obtain ⟨c22,b35,ho⟩:=aC hm
 refine dD [0,1,6] b35 (fun e4 n6 f w=>∃ d6 f1 f2,Hp.le K d6/\f 7=zS f1 e4.length f2/\f 8=i64 n6/\aM G d6 (bN 122 d6 f1 f2 e4::bN 99 K b5 0 ([]:List bV)::L) w) ?_ ?_
 ·exact ⟨K,o2,0,(zR _),rfl,rfl,z4⟩
 ·rintro e4 n6 c23 f c24 hm hr ⟨d6,f1,f2,b8,y5,s4,s5⟩
  unfold lI at hm
  refine aN (aJ (bF s4 (aG (v:=zS a19 r.length c20) (aA (bO (len:=r.length) gP rfl) (aA (cF rfl rfl) (aF ?_))))))
  rcases aH hm with ⟨s6,hm⟩|⟨s6,hm⟩
  ·refine aL s6 rfl (aW (aB (aN (bX (aN (kT (C:=fun w'=>∃ L',aM G d6 L' w') [(0,0),(1,0),(2,0),(3,0),(4,0),(5,0),(6,0),(7,1),(8,0),(9,0),(10,0),(11,0),(12,0)] cI (by kernel_rfl) (fun _ hg=>⟨_,aM.mono s5 hg⟩) (fun c25 b36=>?_)))))))
   have s7:=aM.mono s5 b36
   refine dB rfl (fun _ _=>bP (v:=eP a1 k2) rfl) (dB rfl (fun _ _=>eR rfl (h3.mono b8)) (dB rfl (fun _ _=>cH (k':=k2+0) zW rfl (h3.mono b8) rfl) (dB rfl (fun _ ⟨_,s7⟩=>cC (t:=0) aGR s7 (h3.mono b8) rfl rfl) (dB rfl (fun _ _=>bP (v:=zS a19 r.length c20) rfl) (dB rfl (fun _ _=>bP s4) ?_)))));obtain ⟨c26,y6,hm⟩:=aC hm
   refine dB rfl (fun _ _=>cG gP rfl (j1.mono b8) rfl rfl rfl y6) ?_;obtain ⟨c27,b37,b38⟩:=bY.el (sz:=3) rfl j1 y6
   obtain ⟨c28,c29,rfl,b39⟩:=b38
   refine yC rfl ?_;obtain ⟨b9,b40,hm⟩:=aC hm
   refine aQ (vs:=[zS a4 s_.Definitions.length c5,eP a19 (n6.toNat * 3+0)]) call70 rfl (aJg b40 s7 (h6.mono b8) (b37.mono b8) (b39.mono b8)) ?_
   rintro _ b41 ⟨y7,f3,f4,rfl,n7,s8⟩
   refine cW (aB ⟨⟨_,(aM.weakK s8 n7)⟩,?_⟩)
   refine dB rfl (fun _ _=>bP (v:=zT #[zS f3 b9.1.length f4,zB b9.2]) rfl) (dB rfl (fun _ _=>cJ rfl rfl) (dB rfl (fun _ _=>cJ rfl rfl) (dB rfl (fun _ _=>fG (v:=zS f3 b9.1.length f4) rfl) (dB rfl (fun _ _=>fG (v:=zB b9.2) rfl) (yB (aB (aN (aJ (aG (v:=zB b9.2) (aA (dA rfl) (aF ?_)))))))))))
   rcases aH hm with ⟨s9,hm⟩|⟨s9,hm⟩
   ·refine aL s9 rfl (aJ (aD (v:=zS none 0 0) (aD (v:=zB false) (aF (aX (aK (aY (aK (aK ?_)))))))))
    have b42:=hr _ (zI hm).symm
    subst b42
    have hm:(some ([],false))=some R:=ho
    clear hr ho
    have b43:=aM.nil (α:=bV) s8 99 y7
    obtain rfl:=zI hm
    exact aY (aK (aK (kJ results50 rfl rfl ⟨y7,none,0,rfl,(zL b8 n7),(aM.arr 4 [0] b43 rfl)⟩)))
   ·refine aI s9 rfl (aW (aB (aU (bF y5 (aG (v:=zS f3 b9.1.length f4) ?_)))));obtain ⟨d7,y8,b45,t0⟩:=aM.giveSp s8 (zR _) .head
    replace t0:aM G d7 (bN 122 d6 f1 f2 e4::bN 99 K b5 0 ([]:List bV)::L) b41:=t0
    refine gA (Kt:=d7) (xs:=([b9.1]:List (List cM))) (cs:=[zS f3 b9.1.length f4]) (vs:=[(0,zS f3 b9.1.length f4)]) yE aLZ rfl rfl t0 rfl (by kernel_rfl) rfl rfl rfl ⟨⟨f3,f4,rfl,b45⟩,trivial⟩ (fun b46 b47 (b48:aM G d7 (bN 122 d7 b46 1 ([b9.1]:List (List cM))::bN 122 d6 f1 f2 e4::bN 99 K b5 0 ([]:List bV)::L) b47)=>?_);obtain ⟨y9,b49,hm⟩:=aC hm
    exact aEr (i:=0) d7 yE underlying121 aLZ rfl rfl b48 rfl (zL n7 y8) (zR _) b49 rfl rfl rfl rfl (fun _ _ _ h=>El.one h) (fun t1 t2 b50 (b51:aM G d7 (bN 122 d7 t1 t2 y9::bN 99 K b5 0 ([]:List bV)::L) b50)=>(aD (v:=zS t1 y9.length t2) (cW (bH (aB (aU (bF s4 (aA (cA rfl rfl) (aD (v:=i64 (wr (n6+1))) (aF ⟨_,(zI hm).symm,aT,d7,t1,t2,(zL (zL b8 n7) y8),rfl,rfl,b51⟩))))))))))
  ·refine aI s6 rfl (cD (bA (bA ?_)))
   have b52:=hr _ (zI hm).symm
   subst b52
   have hm:(lH s_ r e4)=some R:=ho
   clear hr ho
   exact bR (aB ⟨aT,d6,e4,f1,f2,b8,hm,y5,s5⟩)
theorem aMZ {s_:bJ} {q R:Int} (hm:aGV s_ q=some R) (y:aM G K (L) w):
  Calls prog 76 ([bE s_,i64 q]:List Value).toArray w (eK fun v w'=>v=i64 R/\aM G K (L) w'):=by
 refine aP func76 rfl (by kernel_rfl) (by show (2:Nat)<=32;decide) ?_;unfold aGV at hm
 refine aJ (aD (v:=i64 0) (aF (aN (aJ (aD (v:=i64 0) (aF (bM [] (fun f w=>∃ d,aCk d=some R/\f 1=i64 d/\aM G K (L) w) ?_ ?_)))))))
 ·rintro f w3 ⟨d,hm,z,J⟩
  unfold aCk at hm
  refine aB (aJ (bF z (aD (v:=i64 d) (aF ?_))));obtain rfl:=zI hm
  exact aX (aO results76 rfl ⟨rfl,J⟩)
 obtain ⟨b5,O,ho⟩:=aC hm
 refine dD [0] O (fun c a f w=>f 1=i64 c/\f 5=i64 a/\aM G K (L) w) ?_ ?_
 ·exact ⟨rfl,rfl,y⟩
 ·rintro c a i f b6 hm hr ⟨r,j,t⟩
  unfold aCo at hm
  refine aN (aJ (bF j (aG (v:=bE s_) (aA (fX runUnderlying9 rfl) (aA (cF rfl rfl) (aF ?_))))))
  rcases aH hm with ⟨k,hm⟩|⟨k,hm⟩
  ·refine aL k rfl (aW (aB (aN (bM [0,5] (fun f w=>∃ l,aEA a l=some i/\f 1=i64 l/\aM G K (L) w) ?_ ?_))))
   ·rintro f b7 ⟨l,hm,a0,a1⟩
    unfold aEA at hm
    exact aB (aU (bF j (aA (cA rfl rfl) (aD (v:=i64 (wr (a+1))) (aF ⟨_,(zI hm).symm,aT,a0,rfl,a1⟩)))))
   refine aJ (bF r (aG (v:=bE s_) (bF j ?_)));obtain ⟨b8,a2,hm⟩:=aC hm
   refine aA (aDE runUnderlying9 rfl rfl a2) (aA (aLO runUnderlying2 rfl ⟨_,runUnderlying5⟩) ?_);obtain ⟨a3,a4,hm⟩:=aC hm
   refine aA (R_shlI rfl rfl a4) (aA (aOu rfl rfl) (aD (v:=i64 (xoI c a3)) (aF (aJ (aD (v:=i64 0) (aF (bM [0,5] (fun f w=>∃ e,aCl a e=some i/\f 1=i64 e/\aM G K (L) w) ?_ ?_)))))))
   ·rintro f b9 ⟨e,hm,a5,a6⟩
    unfold aCl at hm
    exact bH (aB ⟨aT,e,hm,a5,a6⟩)
   obtain ⟨c0,a7,ho⟩:=aC hm
   refine dD [0,5] a7 (fun g h f w=>f 1=i64 g/\f 6=i64 h/\aM G K (L) w) ?_ ?_
   ·exact ⟨rfl,rfl,t⟩
   ·rintro g h a8 f c1 hm hr ⟨u,x,m⟩
    unfold aCn at hm
    refine aN (aJ (bF x (aA (cF rfl rfl) (aF ?_))))
    rcases aH hm with ⟨n,hm⟩|⟨n,hm⟩
    ·refine aL n rfl (aW (aB (aN (bM [0,5,6] (fun f w=>∃ o,aCm h o=some a8/\f 1=i64 o/\aM G K (L) w) ?_ ?_))))
     ·rintro f c2 ⟨o,hm,a9,b0⟩
      unfold aCm at hm
      exact aB (aU (bF x (aA (cA rfl rfl) (aD (v:=i64 (wr (h+1))) (aF ⟨_,(zI hm).symm,aT,a9,rfl,b0⟩)))))
     refine aJ (bF u ?_);obtain ⟨b,b1,hm⟩:=aC hm
     refine aA (R_shlI rfl rfl b1) (aD (v:=i64 b) (aF (aJ (aG (v:=i64 b) (aA (nN rfl rfl) (aF ?_))))))
     rcases aH hm with ⟨p,hm⟩|⟨p,hm⟩
     ·exact aL p rfl (aU (aG (v:=i64 b) (aA (R_andI rfl rfl) (aA (aOu rfl rfl) (aD (v:=i64 (xoI (anI b 65535) 4129)) (cW (bH (aB ⟨aT,xoI (anI b 65535) 4129,hm,rfl,m⟩))))))))
     ·exact aI p rfl (aW (bH (aB ⟨aT,b,hm,rfl,m⟩)))
    ·refine aI n rfl (cD (bA (bA ?_)))
     have b2:=hr _ (zI hm).symm
     subst b2
     have hm:(aCl a g)=some i:=ho
     clear hr ho
     exact bR (aB ⟨aT,g,hm,u,m⟩)
  ·refine aI k rfl (cD (bA (bA ?_)))
   have b3:=hr _ (zI hm).symm
   subst b3
   have hm:(aCk c)=some R:=ho
   clear hr ho
   exact bR (aB ⟨aT,c,hm,r,t⟩)
theorem aKd {a:(List bV)} {log:(List dI)} {c e R:Int} (hm:nW a log c e=some R) (d:aM G K (L) w) (m:bY K a1 c2 a) (n:bY K a4 c5 log):
  Calls prog 51 ([zS a1 a.length c2,zS a4 log.length c5,i64 c,i64 e]:List Value).toArray w (eK fun v w'=>v=i64 R/\aM G K (L) w'):=by
 refine aP func51 rfl (by kernel_rfl) (by show (4:Nat)<=51;decide) ?_;unfold nW at hm
 refine aJ (aD (v:=i64 0) (aF (aN (aJ (aG (v:=i64 c) (aF (bM [] (fun f w=>tT=some R/\aM G K (L) w) ?_ ?_)))))))
 ·rintro f w7 ⟨hm,x⟩
  unfold tT at hm
  refine aB (aJ (aD (v:=i64 0) (aF ?_)));obtain rfl:=zI hm
  exact aX (aO results51 rfl ⟨rfl,x⟩)
 refine aJ (aA (cK rfl rfl) (aD (v:=zB (c == 1)) (aF ?_)))
 rcases aH hm with ⟨i,hm⟩|⟨i,hm⟩
 ·refine aL i rfl (aN (aJ (aG (v:=zS a4 log.length c5) (aA (bO (len:=log.length) mX rfl) (aA (cK rfl rfl) (aF ?_))))))
  rcases aH hm with ⟨j,hm⟩|⟨j,hm⟩
  ·refine aL j rfl (aJ (aD (v:=i64 0) (aF ?_)));obtain rfl:=zI hm
   exact aX (aK (aY (aK (aK (aO results51 rfl ⟨rfl,d⟩)))))
  ·refine aI j rfl (aW (aB (aJ (aG (v:=zS a4 log.length c5) (aG (v:=zS a4 log.length c5) (aA (bO (len:=log.length) mX rfl) (aA (iW rfl rfl) ?_)))))));obtain ⟨o,p,hm⟩:=aC hm
   refine aA (cG mX rfl n rfl rfl rfl p) ?_;obtain ⟨b9,q,J⟩:=bY.el (sz:=4) rfl n p
   cases J
   refine aA (cH (k':=(wr ((log.length:Int) - 1)).toNat * 4+1) aIU rfl q rfl) (aA (cC (t:=1) dC d q rfl rfl) (aD (v:=i64 o.First) (aF (aJ (aD (v:=i64 0) (aF (bM [] (fun f w=>tU=some R/\aM G K (L) w) ?_ ?_)))))))
   ·rintro f c0 ⟨hm,V⟩
    unfold tU at hm
    exact bH (aB ⟨aT,hm,V⟩)
   obtain ⟨c1,O,ho⟩:=aC hm
   refine dP [0,9] O (fun b f w=>f 10=i64 b/\aM G K (L) w) ?_ ?_
   ·exact ⟨rfl,d⟩
   ·rintro b c3 f c4 hm hr ⟨g,h⟩
    unfold pR at hm
    refine aN (aJ (bF g (aG (v:=zS a1 a.length c2) (aA (bO (len:=a.length) qI rfl) (aA (cF rfl rfl) (aF ?_))))))
    rcases aH hm with ⟨k,hm⟩|⟨k,hm⟩
    ·refine aL k rfl (aW (aB (aN (bX (aJ (aG (v:=zS a1 a.length c2) (bF g ?_)))))));obtain ⟨c6,r,hm⟩:=aC hm
     refine aA (cG qI rfl m rfl rfl rfl r) ?_;obtain ⟨c7,u,a0⟩:=bY.el (sz:=4) rfl m r
     obtain ⟨c8,c9,rfl,d0⟩:=a0
     refine aA (cH (k':=b.toNat * 4+1) aHz rfl u rfl) (aA (cC (t:=1) dC h u rfl rfl) (aG (v:=i64 o.First) (aA (nN rfl rfl) (aF ?_))))
     rcases aH hm with ⟨c45,hm⟩|⟨c45,hm⟩
     ·refine aL c45 rfl (aJ (bF g (aD (v:=i64 b) (aF (aX (aY (aK (aK ?_))))))))
      have a2:=hr _ (zI hm).symm
      subst a2
      have hm:(some b)=some R:=ho
      clear hr ho
      obtain rfl:=zI hm
      exact aY (aK (aY (aK (aK (aO results51 rfl ⟨rfl,h⟩)))))
     ·exact aI c45 rfl (aW (bH (aB (aU (bF g (aA (cA rfl rfl) (aD (v:=i64 (wr (b+1))) (aF ⟨_,(zI hm).symm,aT,rfl,h⟩))))))))
    ·refine aI k rfl (cD (bA (bA ?_)))
     have a5:=hr _ (zI hm).symm
     subst a5
     have hm:(tU)=some R:=ho
     clear hr ho
     exact bR (aB ⟨aT,hm,h⟩)
 ·refine aI i rfl (aJ (aA (cK rfl rfl) (aD (v:=zB (c == 2)) (aF ?_))))
  rcases aH hm with ⟨l,hm⟩|⟨l,hm⟩
  ·refine aL l rfl (aJ (aG (v:=i64 e) ?_));obtain ⟨d1,a6,hm⟩:=aC hm
   refine aQ (vs:=[i64 e]) call77 rfl (aEP a6 d) ?_
   rintro _ d2 ⟨rfl,a7⟩
   obtain ⟨d3,a8,hm⟩:=aC hm
   refine aA (qH rfl rfl a8) (aG (v:=zS a4 log.length c5) (aA (bO (len:=log.length) mX rfl) ?_));obtain ⟨d4,a9,hm⟩:=aC hm
   refine aQ (vs:=[i64 (log.length:Int)]) call77 rfl (aEP a9 a7) ?_
   rintro _ d5 ⟨rfl,b0⟩
   obtain ⟨b1,b2,hm⟩:=aC hm
   refine aA (qH rfl rfl b2) ?_;obtain ⟨d6,b3,hm⟩:=aC hm
   refine aQ (vs:=[bE b1,i64 65535]) call76 rfl (aMZ b3 b0) ?_
   rintro _ d7 ⟨rfl,b4⟩
   refine aG (v:=zS a1 a.length c2) (aA (bO (len:=a.length) qI rfl) ?_);obtain ⟨b5,b6,hm⟩:=aC hm
   refine aA (aIj rfl rfl b6) (aD (v:=i64 b5) (aF ?_));obtain rfl:=zI hm
   exact aX (aY (aK (aK (aO results51 rfl ⟨rfl,b4⟩))))
  ·exact aI l rfl (aW (bH (aB ⟨aT,hm,d⟩)))
theorem aOJ {s_:bZ} {k2:Nat} {log:(List dI)} {z:(List aZ)} {a9 b0 b8:Int} {R:((List dI) × (List aZ) × Bool)} (hm:aLA s_ log z a9 b0 b8=some R) (hs:aM G K (L) w) (h3:iG K a1 k2 [zS a4 s_.Definitions.length c5,zS a7 s_.Components.length c8,zS a10 s_.Meetings.length c11,zS a13 s_.Allowed.length c14,zS a16 s_.Hidden.length c17]) (h6:bY K a4 c5 s_.Definitions) (h9:bY K a7 c8 s_.Components) (g0:bY K a10 c11 s_.Meetings) (g1:bY K a13 c14 s_.Allowed) (g2:bY K a16 c17 s_.Hidden) (g3:bY K a19 c20 log) (g4:bY K a22 c23 z):
  Calls prog 21 ([eP a1 k2,zS a19 log.length c20,zS a22 z.length c23,i64 a9,i64 b0,i64 b8]:List Value).toArray w (eK fun v w'=>∃ K' d5 d6 d7 d8,v=zT #[zS d5 R.1.length d6,zS d7 R.2.1.length d8,zB R.2.2]/\Hp.le K K'/\bY K' d5 d6 R.1/\bY K' d7 d8 R.2.1/\aM G K' (L) w'):=by
 refine aP func21 rfl (by kernel_rfl) (by show (6:Nat)<=73;decide) ?_;unfold aLA at hm
 refine aJ (aD (v:=zS none 0 0) (aD (v:=zS none 0 0) (aD (v:=zB false) (aF (aJ (gA (Kt:=K) (xs:=([]:List dI)) (cs:=[]) (vs:=[]) mX aNM rfl rfl hs rfl (by kernel_rfl) rfl rfl rfl trivial (fun g5 g6 (g7:aM G K (bN 66 K g5 0 ([]:List dI)::L) g6)=>(aG (v:=zS a19 log.length c20) ?_))))))));obtain ⟨b9,g8,hm⟩:=aC hm
 refine aOl (i:=0) mX underlying29 aNM rfl rfl g7 rfl (zR _) g3 g8 rfl rfl rfl rfl (fun b2 b3 g9 (h0:aM G K (bN 66 K b2 b3 b9::L) g9)=>(aD (v:=zS b2 b9.length b3) (aF (aJ (aG (v:=zS a22 z.length c23) ?_)))));obtain ⟨h1,h2,hm⟩:=aC hm
 refine aQ (vs:=[zS a22 z.length c23]) call49 rfl (sL h2 h0 g4) ?_
 rintro _ h4 ⟨m2,d9,e0,rfl,e,h5⟩
 refine aD (v:=zS d9 h1.length e0) ?_;obtain ⟨b4,g,h7,c0⟩:=aM.giveSp h5 (zR _) .head
 replace c0:aM G b4 (bN 66 K b2 b3 b9::L) h4:=c0
 refine aF (aN (bM [] (fun f w=>∃ b5 J V O a0 a2 a3,Hp.le b4 b5/\yF J V=some R/\f 15=zS O J.length a0/\f 16=zS a2 V.length a3/\bY b5 a2 a3 V/\aM G b5 (bN 66 K O a0 J::L) w) ?_ ?_))
 ·rintro f h8 ⟨b5,J,V,O,a0,a2,a3,e1,hm,i0,i1,i2,i3⟩
  unfold yF at hm
  refine aB (aJ (bF i0 (bF i1 (aD (v:=zS O J.length a0) (aD (v:=zS a2 V.length a3) (aD (v:=zB true) (aF ?_)))))));obtain ⟨e2,e3,i4,c1⟩:=aM.giveSp i3 (zL (zL e g) e1) .head
  replace c1:aM G e2 (L) h8:=c1
  obtain rfl:=zI hm
  exact aX (aCI results21 rfl rfl rfl ⟨e2,O,a0,a2,a3,rfl,(zL (zL (zL e g) e1) e3),i4,(i2.mono e3),c1⟩)
 obtain ⟨m3,i6,ho⟩:=aC hm
 refine dD [0,3,4,5] i6 (fun j m f w=>∃ a5 o p x y,Hp.le b4 a5/\f 15=zS o j.length p/\f 16=zS x m.length y/\bY a5 x y m/\aM G a5 (bN 66 K o p j::L) w) ?_ ?_
 ·exact ⟨b4,b2,b3,d9,e0,(zR _),rfl,rfl,h7,c0⟩
 ·rintro j m m4 f m5 hm hr ⟨a5,o,p,x,y,d,a6,c2,c3,e4⟩
  unfold lZ at hm
  refine aN (aJ (bF a6 (aA (bO (len:=j.length) mX rfl) (aG (v:=i64 b8) (aA (cF rfl rfl) (aF ?_))))))
  rcases aH hm with ⟨c4,hm⟩|⟨c4,hm⟩
  ·refine aL c4 rfl (aW (aB (bX (aJ (aG (v:=eP a1 k2) (bF c2 ?_))))));obtain ⟨c,i7,hm⟩:=aC hm
   refine aQ (vs:=[eP a1 k2,zS x m.length y]) call50 rfl (aLc i7 e4 (h3.mono (zL (zL e g) d)) (h6.mono (zL (zL e g) d)) (h9.mono (zL (zL e g) d)) (g0.mono (zL (zL e g) d)) (g1.mono (zL (zL e g) d)) (g2.mono (zL (zL e g) d)) c3) ?_
   rintro _ m6 ⟨c6,k,l,rfl,q,c7⟩
   refine aG (v:=zT #[zS k c.1.length l,zB c.2]) (aA (cJ rfl rfl) (aA (cJ rfl rfl) (aD (v:=zS k c.1.length l) (aD (v:=zB c.2) (aF (aN (aJ (aG (v:=zB c.2) (aA (dA rfl) (aF ?_))))))))))
   rcases aH hm with ⟨c9,hm⟩|⟨c9,hm⟩
   ·refine aL c9 rfl (aJ (aD (v:=zS none 0 0) (aD (v:=zS none 0 0) (aD (v:=zB false) (aF (aX (aK (aY (aK ?_)))))))))
    have i8:=hr _ (zI hm).symm
    subst i8
    have hm:(some ([],[],false))=some R:=ho
    clear hr ho
    obtain rfl:=zI hm
    exact aY (aK (aK (aCI results21 rfl rfl rfl ⟨c6,none,0,none,0,rfl,(zL (zL (zL e g) d) q),aCP _,aCP _,(aM.arr 2 [] c7 rfl)⟩)))
   ·refine aI c9 rfl (aW (aB (aN (aJ (aG (v:=zS k c.1.length l) (aA (bO (len:=c.1.length) qI rfl) (aA (cK rfl rfl) (aF ?_))))))))
    rcases aH hm with ⟨d0,hm⟩|⟨d0,hm⟩
    ·refine aL d0 rfl (cD (bA (aNx rfl (bA ?_))))
     have j0:=hr _ (zI hm).symm
     subst j0
     have hm:(yF j m)=some R:=ho
     clear hr ho
     exact bR (aB ⟨aT,c6,j,m,o,p,x,y,(zL d q),hm,a6,c2,(c3.mono q),(aM.arr 1 [] c7 rfl)⟩)
    ·refine aI d0 rfl (aW (aB (aJ (aG (v:=zS k c.1.length l) (bF a6 (aG (v:=i64 a9) (aG (v:=i64 b0) ?_)))))));obtain ⟨m7,j1,j2,j3,j4⟩:=aM.lendSp c7 (zR _) .head
     obtain ⟨m8,j5,j6,j7,j8⟩:=aM.lendSp j3 (zL (zL (zL (zL e g) d) q) j1) .head
     obtain ⟨b,j9,hm⟩:=aC hm
     refine aQ (vs:=[zS k c.1.length l,zS o j.length p,i64 a9,i64 b0]) call51 rfl (aKd j9 j7 (j2.mono j5) j6) ?_
     rintro _ m9 ⟨rfl,k0⟩
     have k1:=j8 _ _ k0
     have k3:=j4 _ _ k1
     refine aD (v:=i64 b) (aF (aN ?_));obtain ⟨d1,e5,e6,e7,k4⟩:=aM.lendSp k3 (zR _) .head
     refine kT (C:=fun w'=>∃ L',aM G d1 L' w') [(0,0),(1,0),(2,0),(3,0),(4,0),(5,0),(6,0),(7,0),(8,0),(9,0),(10,0),(11,0),(12,0),(13,0),(14,0),(15,0),(16,0),(17,0),(18,1),(19,1),(20,0)] cI (by kernel_rfl) (fun _ hg=>⟨_,aM.mono e7 hg⟩) (fun n0 k5=>?_)
     have r:=aM.mono e7 k5
     refine dB rfl (fun _ _=>bP a6) (dB rfl (fun _ _=>bP (v:=i64 b) rfl) (dB rfl (fun _ _=>bP (v:=zS k c.1.length l) rfl) (dB rfl (fun _ _=>bP (v:=i64 b) rfl) ?_)));obtain ⟨a,u,hm⟩:=aC hm
     have n:=aLt e6 u
     refine dB rfl (fun _ _=>fT qI rfl n rfl rfl rfl u) (dB rfl (fun _ _=>jE (k':=b.toNat * 4+1) aHz n rfl rfl) ?_);obtain ⟨n1,d2,k6⟩:=bY.el (sz:=4) rfl e6 u
     obtain ⟨n2,n3,rfl,n4⟩:=k6
     refine dB rfl (fun _ ⟨_,r⟩=>cC (t:=1) dC r d2 rfl rfl) (dB rfl (fun _ _=>bP (v:=zS k c.1.length l) rfl) (dB rfl (fun _ _=>bP (v:=i64 b) rfl) (dB rfl (fun _ _=>fT qI rfl n rfl rfl rfl u) (dB rfl (fun _ _=>jE (k':=b.toNat * 4+2) aLv n rfl rfl) (dB rfl (fun _ ⟨_,r⟩=>cC (t:=2) dC r d2 rfl rfl) (dB rfl (fun _ _=>bP (v:=zS k c.1.length l) rfl) (dB rfl (fun _ _=>bP (v:=i64 b) rfl) (dB rfl (fun _ _=>fT qI rfl n rfl rfl rfl u) (dB rfl (fun _ _=>jE (k':=b.toNat * 4+0) aLu n rfl rfl) (dB rfl (fun _ ⟨_,r⟩=>cC (t:=0) fA r d2 rfl rfl) (dB rfl (fun _ _=>lQ (vs:=[(0,i64 b),(1,i64 a.First),(2,i64 a.Second),(3,bE a.B)]) (cs:=[i64 b,i64 a.First,i64 a.Second,bE a.B]) bs_66 rfl (by kernel_rfl)) (yC rfl (gA (Kt:=K) (xs:=([⟨b,a.First,a.Second,a.B⟩]:List dI)) (cs:=[i64 b,i64 a.First,i64 a.Second,bE a.B]) (vs:=[(0,zA #[i64 b,i64 a.First,i64 a.Second,bE a.B])]) mX aNM rfl rfl r rfl (by kernel_rfl) rfl rfl rfl ⟨rfl,trivial⟩ (fun k7 k8 (e8:aM G d1 (bN 66 K k7 1 ([⟨b,a.First,a.Second,a.B⟩]:List dI)::bN 66 K o p j::L) k8)=>(cW (aB ⟨⟨_,e8⟩,?_⟩))))))))))))))))
     refine yC rfl ?_;obtain ⟨d3,k9,hm⟩:=aC hm
     refine qM (i:=0) mX underlying29 aNM rfl rfl e8 rfl (zL (zL (zL (zL e g) d) q) e5) (zL (zL (zL (zL e g) d) q) e5) k9 rfl rfl rfl rfl (fun _ h=>h) (fun b6 b7 l0 (e9:aM G d1 (bN 66 K b6 b7 d3::L) l0)=>(cW (aB ⟨⟨_,e9⟩,?_⟩)))
     refine dB rfl (fun _ _=>fG (v:=zS b6 d3.length b7) rfl) (yB ?_)
     have f0:=k4 _ _ e9
     refine aB (aU (aG (v:=zS k c.1.length l) (aG (v:=i64 b) (aA (fT qI rfl n rfl rfl rfl u) (aA (jE (k':=b.toNat * 4+3) aLw n rfl rfl) ?_)))));obtain ⟨n5,l1,l2⟩:=aGO (sz:=4) rfl f0 (i:=0) rfl u
     obtain ⟨f1,f2,rfl,l3⟩:=l2
     refine aA (aLS (t:=3) (v:=zS f1 a.State.length f2) sc_30 l1 rfl rfl) ?_;obtain ⟨l4,l5,hm⟩:=aC hm
     refine aQ (vs:=[zS f1 a.State.length f2]) call49 rfl (sL l5 f0 l3) ?_
     rintro _ l6 ⟨n6,f3,f4,rfl,l7,l8⟩
     refine aD (v:=zS f3 l4.length f4) ?_;obtain ⟨f5,l9,m0,d4⟩:=aM.giveSp l8 (zR _) .head
     replace d4:aM G f5 (bN 99 c6 k l c.1::bN 66 K b6 b7 d3::L) l6:=d4
     exact cW (bH (aB ⟨_,(zI hm).symm,aT,f5,b6,b7,f3,f4,(zL (zL (zL d q) l7) l9),rfl,rfl,m0,(aM.arr 1 [] d4 rfl)⟩))
  ·refine aI c4 rfl (cD (bA (bA ?_)))
   have m1:=hr _ (zI hm).symm
   subst m1
   have hm:(yF j m)=some R:=ho
   clear hr ho
   exact bR (aB ⟨aT,a5,j,m,o,p,x,y,d,hm,a6,c2,c3,e4⟩)
theorem aLd {s_:bZ} {m:Nat} {R:(List aZ)} (hm:aDR s_=some R) (hs:aM G K (L) w) (n:iG K a1 m [zS a4 s_.Definitions.length c5,zS a7 s_.Components.length c8,zS a10 s_.Meetings.length c11,zS a13 s_.Allowed.length c14,zS a16 s_.Hidden.length c17]) (h6:bY K a4 c5 s_.Definitions) (h9:bY K a7 c8 s_.Components) (e7:bY K a10 c11 s_.Meetings) (e8:bY K a13 c14 s_.Allowed) (e9:bY K a16 c17 s_.Hidden):
  Calls prog 22 ([eP a1 m]:List Value).toArray w (eK fun v w'=>∃ K' b2 b3,v=zS b2 R.length b3/\Hp.le K K'/\aM G K' (bN 70 K' b2 b3 R::L) w'):=by
 refine aP func22 rfl (by kernel_rfl) (by show (1:Nat)<=33;decide) ?_;unfold aDR at hm
 refine aJ (aD (v:=zS none 0 0) (aF (aJ (gA (Kt:=K) (xs:=([]:List aZ)) (cs:=[]) (vs:=[]) gP aGt rfl rfl hs rfl (by kernel_rfl) rfl rfl rfl trivial (fun a2 c3 (c4:aM G K (bN 70 K a2 0 ([]:List aZ)::L) c3)=>(aD (v:=zS a2 ([]:List aZ).length 0) (aF (aN (aJ (aD (v:=i64 0) (aF (bM [] (fun f w=>∃ q r u x,Hp.le K q/\aBJ r=some R/\f 3=zS u r.length x/\aM G q (bN 70 q u x r::L) w) ?_ ?_))))))))))))
 ·rintro f f0 ⟨q,r,u,x,c6,hm,c7,c9⟩
  unfold aBJ at hm
  refine aB (aJ (bF c7 (aD (v:=zS u r.length x) (aF ?_))));obtain rfl:=zI hm
  exact aX (aO results22 rfl ⟨q,u,x,rfl,c6,c9⟩)
 obtain ⟨f1,d1,ho⟩:=aC hm
 refine dD [0] d1 (fun g a3 f w=>∃ b j k,Hp.le K b/\f 3=zS j g.length k/\f 4=i64 a3/\aM G b (bN 70 b j k g::L) w) ?_ ?_
 ·exact ⟨K,a2,0,(zR _),rfl,rfl,c4⟩
 ·rintro g a3 f2 f f3 hm hr ⟨b,j,k,c,b4,a5,y⟩
  unfold wJ at hm
  refine aN (aJ (bF a5 (aG (v:=eP a1 m) (aA (eR rfl (n.mono c)) (aA (cH (k':=m+1) uM rfl (n.mono c) rfl) (aA (cC (t:=1) aGs y (n.mono c) rfl rfl) (aA (bO (len:=s_.Components.length) vV rfl) (aA (cF rfl rfl) (aF ?_)))))))))
  rcases aH hm with ⟨a6,hm⟩|⟨a6,hm⟩
  ·refine aL a6 rfl (aW (aB (aN (bX (aJ (aG (v:=eP a1 m) (aA (eR rfl (n.mono c)) (aA (cH (k':=m+1) uM rfl (n.mono c) rfl) (aA (cC (t:=1) aGs y (n.mono c) rfl rfl) (bF a5 ?_))))))))));obtain ⟨a,b5,hm⟩:=aC hm
   refine aA (cG vV rfl (h9.mono c) rfl rfl rfl b5) ?_;obtain ⟨f4,d2,d3⟩:=bY.el (sz:=2) rfl h9 b5
   obtain ⟨d,e,rfl,d4⟩:=d3
   refine aA (dZ (t:=0) (vs:=[i64 a.Definition,zS d a.Values.length e]) aFQ y (d2.mono c) rfl rfl rfl) (eA (vs:=[i64 0,zS none 0 0]) zeroValue100 y rfl (fun o f5 d5=>(eD (i:=0) (ns:=[i64 a.Definition,zS d a.Values.length e]) (us:=[i64 a.Definition,zS d a.Values.length e]) sizeOf100 d5 rfl rfl rfl rfl rfl (gJ rfl) rfl rfl (fun b6 (d6:aM G b (box o 100 [i64 a.Definition,zS d a.Values.length e]::bN 70 b j k g::L) b6)=>(aF ?_)))))
   have b7:aM G b (box o 100 [i64 a.Definition,zS d a.Values.length e]::bN 70 b j k g::L) b6:=d6
   refine kT (C:=fun w'=>∃ L',aM G b (box o 100 [i64 a.Definition,zS d a.Values.length e]::L') w') [(0,0),(1,0),(2,0),(3,0),(4,0),(5,1),(6,0),(7,1),(8,1),(9,0)] cI (by kernel_rfl) (fun _ hg=>⟨_,aM.mono b7 hg⟩) (fun f6 d7=>?_)
   have z:=aM.mono b7 d7
   refine dB rfl (fun _ _=>bP b4) (dB rfl (fun _ _=>bC (t':=0) vW rfl rfl) (dB rfl (fun _ ⟨_,z⟩=>bQ dC z (i:=0) rfl rfl rfl) (dB rfl (fun _ _=>bC (t':=1) vX rfl rfl) (dB rfl (fun _ ⟨_,z⟩=>bQ vL z (i:=0) rfl rfl rfl) (yC rfl ?_)))));obtain ⟨p,d8,hm⟩:=aC hm
   refine aQ (vs:=[zS d a.Values.length e]) call52 rfl (aBT d8 z (d4.mono c)) ?_
   rintro _ d9 ⟨J,V,rfl,b8⟩
   refine cW (aB ⟨⟨_,(aM.arr 2 [1,0] b8 rfl)⟩,?_⟩)
   refine dB rfl (fun _ _=>lQ (vs:=[(0,i64 a.Definition),(2,zS J p.length V)]) (cs:=[i64 a.Definition,i64 0,zS J p.length V]) aLW rfl (by kernel_rfl)) (yC rfl ?_);obtain ⟨l,O,e0,a8⟩:=aM.giveSp b8 c .head
   replace a8:aM G l (box o 100 [i64 a.Definition,zS d a.Values.length e]::bN 70 b j k g::L) d9:=a8
   refine gA (Kt:=l) (xs:=([⟨a.Definition,0,p⟩]:List aZ)) (cs:=[i64 a.Definition,i64 0,zS J p.length V]) (vs:=[(0,zA #[i64 a.Definition,i64 0,zS J p.length V])]) gP aGt rfl rfl a8 rfl (by kernel_rfl) rfl rfl rfl ⟨⟨J,V,rfl,e0⟩,trivial⟩ (fun e1 e2 (b9:aM G l (bN 70 l e1 1 ([⟨a.Definition,0,p⟩]:List aZ)::box o 100 [i64 a.Definition,zS d a.Values.length e]::bN 70 b j k g::L) e2)=>(cW (aB ⟨⟨_,(aM.weakK (aM.arr 2 [1,0] b9 rfl) O)⟩,?_⟩)))
   refine yC rfl ?_;obtain ⟨c0,e3,hm⟩:=aC hm
   refine aEr (i:=1) l gP underlying30 aGt rfl rfl b9 rfl O (zR _) e3 rfl rfl rfl rfl (fun _ _ _ h=>El.one h) (fun a9 b0 e4 (c1:aM G l (box o 100 [i64 a.Definition,zS d a.Values.length e]::bN 70 l a9 b0 c0::L) e4)=>(cW (aB ⟨⟨_,(aM.weakK c1 O)⟩,?_⟩)))
   exact dB rfl (fun _ _=>fG (v:=zS a9 c0.length b0) rfl) (yB (bH (aB (aU (bF a5 (aA (cA rfl rfl) (aD (v:=i64 (wr (a3+1))) (aF ⟨_,(zI hm).symm,aT,l,a9,b0,(zL c O),rfl,rfl,(aM.arr 1 [] c1 rfl)⟩))))))))
  ·refine aI a6 rfl (cD (bA (bA ?_)))
   have e5:=hr _ (zI hm).symm
   subst e5
   have hm:(aBJ g)=some R:=ho
   clear hr ho
   exact bR (aB ⟨aT,b,g,j,k,c,hm,b4,y⟩)
theorem aKe {s_:bZ} {e g h:Int} {R:((List dI) × (List aZ) × Int)} (hm:aCp s_ e g h=some R) (hs:aM G K (L) w) (p:bY K a1 c2 s_.Definitions) (q:bY K a4 c5 s_.Components) (r:bY K a7 c8 s_.Meetings) (t:bY K a10 c11 s_.Allowed) (u:bY K a13 c14 s_.Hidden):
  Calls prog 5 ([zA #[zS a1 s_.Definitions.length c2,zS a4 s_.Components.length c5,zS a7 s_.Meetings.length c8,zS a10 s_.Allowed.length c11,zS a13 s_.Hidden.length c14],i64 e,i64 g,i64 h]:List Value).toArray w (eK fun v w'=>∃ n O a0 a2 a3,v=zT #[zS O R.1.length a0,zS a2 R.2.1.length a3,i64 R.2.2]/\Hp.le K n/\bY n O a0 R.1/\bY n a2 a3 R.2.1/\aM G n (L) w'):=by
 refine aP func5 rfl (by kernel_rfl) (by show (4:Nat)<=35;decide) ?_;unfold aCp at hm
 refine aJ (dM (v:=zA #[zS a1 s_.Definitions.length c2,zS a4 s_.Components.length c5,zS a7 s_.Meetings.length c8,zS a10 s_.Allowed.length c11,zS a13 s_.Hidden.length c14]) (vs:=[zS a1 s_.Definitions.length c2,zS a4 s_.Components.length c5,zS a7 s_.Meetings.length c8,zS a10 s_.Allowed.length c11,zS a13 s_.Hidden.length c14]) hs rfl rfl (fun x d7 b2=>(aD (v:=zS none 0 0) (aD (v:=zS none 0 0) (aD (v:=i64 0) (aF (aJ (aG (v:=i64 e) (aG (v:=i64 g) (aG (v:=i64 h) ?_))))))))))
 obtain ⟨d8,i,b3,b4,b5⟩:=aM.lendBp b2 .head
 obtain ⟨o,b6,hm⟩:=aC hm
 refine aQ (vs:=[eP (some ⟨x,0,none⟩) 0,i64 e,i64 g,i64 h]) call20 rfl (aMX b6 b4 b3 (p.mono i) (q.mono i) (r.mono i) (t.mono i) (u.mono i)) ?_
 rintro _ b7 ⟨rfl,b8⟩
 have a5:=b5 _ _ b8
 refine aD (v:=i64 o) (aF (aN (aJ (aG (v:=i64 o) (aA (fV rfl rfl) (aF ?_))))))
 rcases aH hm with ⟨y,hm⟩|⟨y,hm⟩
 ·refine aL y rfl (aJ (aG (v:=i64 o) (aD (v:=zS none 0 0) (aD (v:=zS none 0 0) (aD (v:=i64 o) (aF ?_))))));obtain rfl:=zI hm
  exact aX (aK (aCI results5 rfl rfl rfl ⟨K,none,0,none,0,rfl,(zR _),aCP _,aCP _,(aM.arr 1 [] a5 rfl)⟩))
 ·refine aI y rfl (aW (aB (aJ ?_)));obtain ⟨c0,a,a6,z,_⟩:=aM.lendBp a5 .head
  replace z:aM G c0 (L) b7:=z
  obtain ⟨c1,c3,hm⟩:=aC hm
  refine aQ (vs:=[eP (some ⟨x,0,none⟩) 0]) call22 (lst1 (elp_b rfl)) (aLd c3 z a6 (p.mono a) (q.mono a) (r.mono a) (t.mono a) (u.mono a)) ?_
  rintro _ c4 ⟨d9,c6,c7,rfl,c,c9⟩
  refine aG (v:=i64 e) (aG (v:=i64 g) (aG (v:=i64 h) ?_));obtain ⟨d0,d,d1,J⟩:=aM.giveSp c9 (zR _) .head
  replace J:aM G d0 (L) c4:=J
  obtain ⟨b,d2,hm⟩:=aC hm
  have hcl:=aOJ d2 J (a6.mono (zL c d)) (p.mono (zL (zL a c) d)) (q.mono (zL (zL a c) d)) (r.mono (zL (zL a c) d)) (t.mono (zL (zL a c) d)) (u.mono (zL (zL a c) d)) (aCP (α:=dI) _) d1
  refine aQ (vs:=[eP (some ⟨x,0,none⟩) 0,zS none 0 0,zS c6 c1.length c7,i64 e,i64 g,i64 h]) call21 (lst6 (elp_b rfl) rfl rfl rfl rfl rfl) hcl ?_
  rintro _ e0 ⟨a8,j,k,l,m,rfl,a9,d3,d4,b0⟩
  refine aG (v:=zT #[zS j b.1.length k,zS l b.2.1.length m,zB b.2.2]) (aA (cJ rfl rfl) (aA (cJ rfl rfl) (aA (cJ rfl rfl) (aD (v:=zS j b.1.length k) (aD (v:=zS l b.2.1.length m) (aD (v:=zB b.2.2) (aF (aN (aJ (aG (v:=zB b.2.2) (aA (dA rfl) (aF ?_))))))))))))
  rcases aH hm with ⟨V,hm⟩|⟨V,hm⟩
  ·refine aL V rfl (aJ (aD (v:=zS none 0 0) (aD (v:=zS none 0 0) (aD (v:=i64 5) (aF ?_)))));obtain rfl:=zI hm
   exact aX (aK (aCI results5 rfl rfl rfl ⟨a8,none,0,none,0,rfl,(zL (zL (zL a c) d) a9),aCP _,aCP _,b0⟩))
  ·refine aI V rfl (aW (aB (aJ (aG (v:=zS j b.1.length k) (aG (v:=zS l b.2.1.length m) (aD (v:=zS j b.1.length k) (aD (v:=zS l b.2.1.length m) (aD (v:=i64 0) (aF ?_)))))))));obtain rfl:=zI hm
   exact aX (aCI results5 rfl rfl rfl ⟨a8,j,k,l,m,rfl,(zL (zL (zL a c) d) a9),d3,d4,b0⟩)
theorem aNa {a R:bS} (hm:aJa a=some R) (k:aM G K (L) w):
  Calls prog 212 ([zA #[i64 a.Kind,i64 a.Value]]:List Value).toArray w (eK fun v w'=>v=zA #[i64 R.Kind,i64 R.Value]/\aM G K (L) w'):=by
 refine aP func212 rfl (by kernel_rfl) (by show (1:Nat)<=11;decide) ?_;unfold aJa at hm
 refine aJ (dM (v:=zA #[i64 a.Kind,i64 a.Value]) (vs:=[i64 a.Kind,i64 a.Value]) k rfl rfl (fun b r l=>(eA (vs:=[i64 0,i64 0]) zeroValue224 l rfl (fun c t m=>(aF (aJ (eA (vs:=[i64 0,i64 0]) zeroValue224 m rfl (fun d u e=>(aF (aJ (aA (bC (t':=0) fa_277_0 rfl rfl) (aA (bQ dC e (i:=2) rfl rfl rfl) (aA (bC (t':=0) vT rfl rfl) (eD (i:=0) (ns:=[i64 a.Kind]) (us:=[i64 a.Kind,i64 0]) sizeOf2 e rfl rfl rfl rfl rfl (gJ rfl) rfl rfl (fun n (g:aM G K (box d 224 [i64 a.Kind,i64 0]::box c 224 [i64 0,i64 0]::box b 277 [i64 a.Kind,i64 a.Value]::L) n)=>(aF (aJ (aA (bC (t':=1) fa_277_1 rfl rfl) (aA (bQ dC g (i:=2) rfl rfl rfl) (aA (bC (t':=1) kL rfl rfl) (eD (i:=0) (ns:=[i64 a.Value]) (us:=[i64 a.Kind,i64 a.Value]) sizeOf2 g rfl rfl rfl rfl rfl (gJ rfl) rfl rfl (fun o (h:aM G K (box d 224 [i64 a.Kind,i64 a.Value]::box c 224 [i64 0,i64 0]::box b 277 [i64 a.Kind,i64 a.Value]::L) o)=>(aF ?_)))))))))))))))))))))))
 refine aJ (aA (fQ (us:=[i64 a.Kind,i64 a.Value]) aFR h (i:=0) rfl rfl rfl rfl) (eD (i:=1) (ns:=[i64 a.Kind,i64 a.Value]) (us:=[i64 a.Kind,i64 a.Value]) sizeOf224 h rfl rfl rfl rfl rfl (gJ rfl) rfl rfl (fun p (j:aM G K (box d 224 [i64 a.Kind,i64 a.Value]::box c 224 [i64 a.Kind,i64 a.Value]::box b 277 [i64 a.Kind,i64 a.Value]::L) p)=>(aF ?_))));obtain rfl:=zI hm
 exact aX (aEs results212 (aBY (vs:=[i64 a.Kind,i64 a.Value]) rfl aFR j (i:=1) rfl rfl rfl) ⟨rfl,(aM.arr 3 [] j rfl)⟩)
end Gv
