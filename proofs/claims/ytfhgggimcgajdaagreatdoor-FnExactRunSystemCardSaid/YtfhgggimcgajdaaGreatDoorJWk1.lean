/- Walks, printed by program. -/
import Derived.Test.YtfhgggimcgajdaaGreatDoorJWk0
set_option linter.all false
namespace Gv
open Gv.Hp renaming le_refl→zR
open Go.Value renaming slice→zS,bool→zB,agg→zA
open Option.some renaming inj→zI
open Go Go.Proofs Go.Proofs.Tryz
set_option maxRecDepth 20000
set_option maxHeartbeats 40000000
variable {G:qG} {K:Hp} {L:List iU} {w:World} {a1 a4 a7 a10 a13:Option Addr} {c2 c5 c8 c11 c14:Nat}
theorem aMc {a:(List bS)} {left R:Int} (hm:aDq a left=some R) (c:aM G K (L) w) (g:bY K a1 c2 a):
  Calls prog 168 ([zS a1 a.length c2,i64 left]:List Value).toArray w (eK fun v w'=>v=i64 R/\aM G K (L) w'):=by
 refine aP func168 rfl (by kernel_rfl) (by show (2:Nat)<=12;decide) ?_;unfold aDq at hm
 refine aJ (aD (v:=i64 0) (aF (aJ (aG (v:=i64 left) (aG (v:=zS a1 a.length c2) (aA (bO (len:=a.length) aOy rfl) (aA (iW rfl rfl) (aD (v:=i64 (wr (left - (a.length:Int)))) (aF (aN (aJ (aG (v:=i64 (wr (left - (a.length:Int)))) (aA (cF rfl rfl) (aF ?_))))))))))))))
 rcases aH hm with ⟨b,hm⟩|⟨b,hm⟩
 ·refine aL b rfl (aJ (aD (v:=i64 (-1)) (aF ?_)));obtain rfl:=zI hm
  exact aX (aK (aO results168 rfl ⟨rfl,c⟩))
 ·refine aI b rfl (aW (aB (aJ (aG (v:=i64 (wr (left - (a.length:Int)))) (aD (v:=i64 (wr (left - (a.length:Int)))) (aF ?_))))));obtain rfl:=zI hm
  exact aX (aO results168 rfl ⟨rfl,c⟩)
theorem aKV {a:(List (List bS))} {left R:Int} (hm:aFS a left=some R) (k:aM G K (L) w) (l:bY K a1 c2 a):
  Calls prog 126 ([zS a1 a.length c2,i64 left]:List Value).toArray w (eK fun v w'=>v=i64 R/\aM G K (L) w'):=by
 refine aP func126 rfl (by kernel_rfl) (by show (2:Nat)<=27;decide) ?_;unfold aFS at hm
 refine aJ (aD (v:=i64 0) (aF (aJ (aG (v:=i64 left) (aG (v:=zS a1 a.length c2) (aA (bO (len:=a.length) aJU rfl) (aA (iW rfl rfl) (aD (v:=i64 (wr (left - (a.length:Int)))) (aF (aN (aJ (aG (v:=i64 (wr (left - (a.length:Int)))) (aA (cF rfl rfl) (aF ?_))))))))))))))
 rcases aH hm with ⟨d,hm⟩|⟨d,hm⟩
 ·refine aL d rfl (aJ (aD (v:=i64 (-1)) (aF ?_)));obtain rfl:=zI hm
  exact aX (aK (aO results126 rfl ⟨rfl,k⟩))
 ·refine aI d rfl (aW (aB (aN (aJ (aD (v:=i64 0) (aF (bM [] (fun f w=>∃ c,aBz c=some R/\f 1=i64 c/\aM G K (L) w) ?_ ?_)))))))
  ·rintro f w8 ⟨c,hm,r,u⟩
   unfold aBz at hm
   refine aB (aJ (bF r (aD (v:=i64 c) (aF ?_))));obtain rfl:=zI hm
   exact aX (aO results126 rfl ⟨rfl,u⟩)
  obtain ⟨a8,y,ho⟩:=aC hm
  refine dD [0] y (fun b e f w=>f 1=i64 b/\f 5=i64 e/\aM G K (L) w) ?_ ?_
  ·exact ⟨rfl,rfl,k⟩
  ·rintro b e a9 f b0 hm hr ⟨m,g,h⟩
   unfold vY at hm
   refine aN (aJ (bF g (aG (v:=zS a1 a.length c2) (aA (bO (len:=a.length) aJU rfl) (aA (cF rfl rfl) (aF ?_))))))
   rcases aH hm with ⟨i,hm⟩|⟨i,hm⟩
   ·refine aL i rfl (aW (aB (aN (bX (aJ (aG (v:=zS a1 a.length c2) (bF g ?_)))))));obtain ⟨z,n,hm⟩:=aC hm
    refine aA (cG aJU rfl l rfl rfl rfl n) ?_;obtain ⟨b1,J,V⟩:=bY.el (sz:=1) rfl l n
    obtain ⟨O,a0,rfl,a2⟩:=V
    refine aA (cC (t:=0) sc_226 h J rfl rfl) (bF m ?_);obtain ⟨o,a3,hm⟩:=aC hm
    refine aQ (vs:=[zS O z.length a0,i64 b]) call168 rfl (aMc a3 h a2) ?_
    rintro _ b2 ⟨rfl,p⟩
    refine aD (v:=i64 o) (aF (aJ (aG (v:=i64 o) (aA (cF rfl rfl) (aF ?_)))))
    rcases aH hm with ⟨j,hm⟩|⟨j,hm⟩
    ·refine aL j rfl (aJ (aD (v:=i64 (-1)) (aF (aX (aY (aK (aK ?_)))))))
     have a4:=hr _ (zI hm).symm
     subst a4
     have hm:(some (-1))=some R:=ho
     clear hr ho
     obtain rfl:=zI hm
     exact aY (aK (aK (aO results126 rfl ⟨rfl,p⟩)))
    ·exact aI j rfl (aW (bH (aB (aU (bF g (aA (cA rfl rfl) (aD (v:=i64 (wr (e+1))) (aF ⟨_,(zI hm).symm,aT,rfl,rfl,p⟩))))))))
   ·refine aI i rfl (cD (bA (bA ?_)))
    have a6:=hr _ (zI hm).symm
    subst a6
    have hm:(aBz b)=some R:=ho
    clear hr ho
    exact bR (aB ⟨aT,b,hm,m,h⟩)
theorem aMW {a:Part} {left R:Int} (hm:aFg a left=some R) (h:aM G K (L) w) (j:bY K a1 c2 a.Arguments):
  Calls prog 92 ([zA #[i64 a.Kind,i64 a.Number,bE a.Name,zS a1 a.Arguments.length c2],i64 left]:List Value).toArray w (eK fun v w'=>v=i64 R/\aM G K (L) w'):=by
 refine aP func92 rfl (by kernel_rfl) (by show (2:Nat)<=19;decide) ?_;unfold aFg at hm
 refine aJ (dM (v:=zA #[i64 a.Kind,i64 a.Number,bE a.Name,zS a1 a.Arguments.length c2]) (vs:=[i64 a.Kind,i64 a.Number,bE a.Name,zS a1 a.Arguments.length c2]) h rfl rfl (fun o p b=>(aD (v:=i64 0) (aF (aJ (aG (v:=i64 left) (aA (bC (t':=2) aPB rfl rfl) (aA (bQ fA b (i:=0) rfl rfl rfl) (aA (fX runUnderlying9 rfl) (aA (iW rfl rfl) (aD (v:=i64 (wr (left - (a.Name.length:Int)))) (aF (aN (aJ (aG (v:=i64 (wr (left - (a.Name.length:Int)))) (aA (cF rfl rfl) (aF ?_)))))))))))))))))
 rcases aH hm with ⟨d,hm⟩|⟨d,hm⟩
 ·refine aL d rfl (aJ (aD (v:=i64 (-1)) (aF ?_)));obtain rfl:=zI hm
  exact aX (aK (aO results92 rfl ⟨rfl,(aM.arr 1 [] b rfl)⟩))
 ·refine aI d rfl (aW (aB (aJ (aA (bC (t':=3) aPC rfl rfl) (aA (bQ sc_155 b (i:=0) rfl rfl rfl) (aG (v:=i64 (wr (left - (a.Name.length:Int)))) ?_))))));obtain ⟨c,l,hm⟩:=aC hm
  refine aQ (vs:=[zS a1 a.Arguments.length c2,i64 (wr (left - (a.Name.length:Int)))]) call126 rfl (aKV l b j) ?_
  rintro _ q ⟨rfl,g⟩
  refine aD (v:=i64 c) (aF (aN (aJ (aG (v:=i64 c) (aA (cF rfl rfl) (aF ?_))))))
  rcases aH hm with ⟨e,hm⟩|⟨e,hm⟩
  ·refine aL e rfl (aJ (aD (v:=i64 (-1)) (aF ?_)));obtain rfl:=zI hm
   exact aX (aK (aO results92 rfl ⟨rfl,(aM.arr 1 [] g rfl)⟩))
  ·refine aI e rfl (aW (aB (aJ (aG (v:=i64 c) (aD (v:=i64 c) (aF ?_))))));obtain rfl:=zI hm
   exact aX (aO results92 rfl ⟨rfl,(aM.arr 1 [] g rfl)⟩)
theorem aMd {a:(List Part)} {left R:Int} (hm:aHA a left=some R) (l:aM G K (L) w) (m:bY K a1 c2 a):
  Calls prog 67 ([zS a1 a.length c2,i64 left]:List Value).toArray w (eK fun v w'=>v=i64 R/\aM G K (L) w'):=by
 refine aP func67 rfl (by kernel_rfl) (by show (2:Nat)<=27;decide) ?_;unfold aHA at hm
 refine aJ (aD (v:=i64 0) (aF (aJ (aG (v:=i64 left) (aG (v:=zS a1 a.length c2) (aA (bO (len:=a.length) aNI rfl) (aA (iW rfl rfl) (aD (v:=i64 (wr (left - (a.length:Int)))) (aF (aN (aJ (aG (v:=i64 (wr (left - (a.length:Int)))) (aA (cF rfl rfl) (aF ?_))))))))))))))
 rcases aH hm with ⟨e,hm⟩|⟨e,hm⟩
 ·refine aL e rfl (aJ (aD (v:=i64 (-1)) (aF ?_)));obtain rfl:=zI hm
  exact aX (aK (aO results67 rfl ⟨rfl,l⟩))
 ·refine aI e rfl (aW (aB (aN (aJ (aD (v:=i64 0) (aF (bM [] (fun f w=>∃ d,aCT d=some R/\f 1=i64 d/\aM G K (L) w) ?_ ?_)))))))
  ·rintro f w8 ⟨d,hm,y,z⟩
   unfold aCT at hm
   refine aB (aJ (bF y (aD (v:=i64 d) (aF ?_))));obtain rfl:=zI hm
   exact aX (aO results67 rfl ⟨rfl,z⟩)
  obtain ⟨a8,V,ho⟩:=aC hm
  refine dD [0] V (fun c g f w=>f 1=i64 c/\f 5=i64 g/\aM G K (L) w) ?_ ?_
  ·exact ⟨rfl,rfl,l⟩
  ·rintro c g a9 f b0 hm hr ⟨n,h,i⟩
   unfold zY at hm
   refine aN (aJ (bF h (aG (v:=zS a1 a.length c2) (aA (bO (len:=a.length) aNI rfl) (aA (cF rfl rfl) (aF ?_))))))
   rcases aH hm with ⟨j,hm⟩|⟨j,hm⟩
   ·refine aL j rfl (aW (aB (aN (bX (aJ (aG (v:=zS a1 a.length c2) (bF h ?_)))))));obtain ⟨b,o,hm⟩:=aC hm
    refine aA (cG aNI rfl m rfl rfl rfl o) ?_;obtain ⟨b1,O,a0⟩:=bY.el (sz:=4) rfl m o
    obtain ⟨p,q,rfl,a2⟩:=a0
    refine aA (dZ (t:=0) (vs:=[i64 b.Kind,i64 b.Number,bE b.Name,zS p b.Arguments.length q]) ag_157 i O rfl rfl rfl) (bF n ?_);obtain ⟨r,a3,hm⟩:=aC hm
    refine aQ (vs:=[zA #[i64 b.Kind,i64 b.Number,bE b.Name,zS p b.Arguments.length q],i64 c]) call92 rfl (aMW a3 i a2) ?_
    rintro _ b2 ⟨rfl,u⟩
    refine aD (v:=i64 r) (aF (aJ (aG (v:=i64 r) (aA (cF rfl rfl) (aF ?_)))))
    rcases aH hm with ⟨k,hm⟩|⟨k,hm⟩
    ·refine aL k rfl (aJ (aD (v:=i64 (-1)) (aF (aX (aY (aK (aK ?_)))))))
     have a4:=hr _ (zI hm).symm
     subst a4
     have hm:(some (-1))=some R:=ho
     clear hr ho
     obtain rfl:=zI hm
     exact aY (aK (aK (aO results67 rfl ⟨rfl,u⟩)))
    ·exact aI k rfl (aW (bH (aB (aU (bF h (aA (cA rfl rfl) (aD (v:=i64 (wr (g+1))) (aF ⟨_,(zI hm).symm,aT,rfl,rfl,u⟩))))))))
   ·refine aI j rfl (cD (bA (bA ?_)))
    have a6:=hr _ (zI hm).symm
    subst a6
    have hm:(aCT c)=some R:=ho
    clear hr ho
    exact bR (aB ⟨aT,c,hm,n,i⟩)
theorem aHR {a:Definition} {left R:Int} (hm:pA a left=some R) (h:aM G K (L) w) (j:bY K a1 c2 a.Body):
  Calls prog 43 ([zA #[bE a.Name,i64 a.Parameters,zS a1 a.Body.length c2],i64 left]:List Value).toArray w (eK fun v w'=>v=i64 R/\aM G K (L) w'):=by
 refine aP func43 rfl (by kernel_rfl) (by show (2:Nat)<=19;decide) ?_;unfold pA at hm
 refine aJ (dM (v:=zA #[bE a.Name,i64 a.Parameters,zS a1 a.Body.length c2]) (vs:=[bE a.Name,i64 a.Parameters,zS a1 a.Body.length c2]) h rfl rfl (fun o p b=>(aD (v:=i64 0) (aF (aJ (aG (v:=i64 left) (aA (bC (t':=0) fa_83_0 rfl rfl) (aA (bQ fA b (i:=0) rfl rfl rfl) (aA (fX runUnderlying9 rfl) (aA (iW rfl rfl) (aD (v:=i64 (wr (left - (a.Name.length:Int)))) (aF (aN (aJ (aG (v:=i64 (wr (left - (a.Name.length:Int)))) (aA (cF rfl rfl) (aF ?_)))))))))))))))))
 rcases aH hm with ⟨d,hm⟩|⟨d,hm⟩
 ·refine aL d rfl (aJ (aD (v:=i64 (-1)) (aF ?_)));obtain rfl:=zI hm
  exact aX (aK (aO results43 rfl ⟨rfl,(aM.arr 1 [] b rfl)⟩))
 ·refine aI d rfl (aW (aB (aJ (aA (bC (t':=2) fa_83_2 rfl rfl) (aA (bQ sc_81 b (i:=0) rfl rfl rfl) (aG (v:=i64 (wr (left - (a.Name.length:Int)))) ?_))))));obtain ⟨c,l,hm⟩:=aC hm
  refine aQ (vs:=[zS a1 a.Body.length c2,i64 (wr (left - (a.Name.length:Int)))]) call67 rfl (aMd l b j) ?_
  rintro _ q ⟨rfl,g⟩
  refine aD (v:=i64 c) (aF (aN (aJ (aG (v:=i64 c) (aA (cF rfl rfl) (aF ?_))))))
  rcases aH hm with ⟨e,hm⟩|⟨e,hm⟩
  ·refine aL e rfl (aJ (aD (v:=i64 (-1)) (aF ?_)));obtain rfl:=zI hm
   exact aX (aK (aO results43 rfl ⟨rfl,(aM.arr 1 [] g rfl)⟩))
  ·refine aI e rfl (aW (aB (aJ (aG (v:=i64 c) (aD (v:=i64 c) (aF ?_))))));obtain rfl:=zI hm
   exact aX (aO results43 rfl ⟨rfl,(aM.arr 1 [] g rfl)⟩)
theorem aGZ {a:(List Definition)} {left R:Int} (hm:xE a left=some R) (l:aM G K (L) w) (m:bY K a1 c2 a):
  Calls prog 16 ([zS a1 a.length c2,i64 left]:List Value).toArray w (eK fun v w'=>v=i64 R/\aM G K (L) w'):=by
 refine aP func16 rfl (by kernel_rfl) (by show (2:Nat)<=27;decide) ?_;unfold xE at hm
 refine aJ (aD (v:=i64 0) (aF (aJ (aG (v:=i64 left) (aG (v:=zS a1 a.length c2) (aA (bO (len:=a.length) aNJ rfl) (aA (iW rfl rfl) (aD (v:=i64 (wr (left - (a.length:Int)))) (aF (aN (aJ (aG (v:=i64 (wr (left - (a.length:Int)))) (aA (cF rfl rfl) (aF ?_))))))))))))))
 rcases aH hm with ⟨e,hm⟩|⟨e,hm⟩
 ·refine aL e rfl (aJ (aD (v:=i64 (-1)) (aF ?_)));obtain rfl:=zI hm
  exact aX (aK (aO results16 rfl ⟨rfl,l⟩))
 ·refine aI e rfl (aW (aB (aN (aJ (aD (v:=i64 0) (aF (bM [] (fun f w=>∃ d,qP d=some R/\f 1=i64 d/\aM G K (L) w) ?_ ?_)))))))
  ·rintro f w8 ⟨d,hm,y,z⟩
   unfold qP at hm
   refine aB (aJ (bF y (aD (v:=i64 d) (aF ?_))));obtain rfl:=zI hm
   exact aX (aO results16 rfl ⟨rfl,z⟩)
  obtain ⟨a8,V,ho⟩:=aC hm
  refine dD [0] V (fun c g f w=>f 1=i64 c/\f 5=i64 g/\aM G K (L) w) ?_ ?_
  ·exact ⟨rfl,rfl,l⟩
  ·rintro c g a9 f b0 hm hr ⟨n,h,i⟩
   unfold mY at hm
   refine aN (aJ (bF h (aG (v:=zS a1 a.length c2) (aA (bO (len:=a.length) aNJ rfl) (aA (cF rfl rfl) (aF ?_))))))
   rcases aH hm with ⟨j,hm⟩|⟨j,hm⟩
   ·refine aL j rfl (aW (aB (aN (bX (aJ (aG (v:=zS a1 a.length c2) (bF h ?_)))))));obtain ⟨b,o,hm⟩:=aC hm
    refine aA (cG aNJ rfl m rfl rfl rfl o) ?_;obtain ⟨b1,O,a0⟩:=bY.el (sz:=3) rfl m o
    obtain ⟨p,q,rfl,a2⟩:=a0
    refine aA (dZ (t:=0) (vs:=[bE b.Name,i64 b.Parameters,zS p b.Body.length q]) ag_83 i O rfl rfl rfl) (bF n ?_);obtain ⟨r,a3,hm⟩:=aC hm
    refine aQ (vs:=[zA #[bE b.Name,i64 b.Parameters,zS p b.Body.length q],i64 c]) call43 rfl (aHR a3 i a2) ?_
    rintro _ b2 ⟨rfl,u⟩
    refine aD (v:=i64 r) (aF (aJ (aG (v:=i64 r) (aA (cF rfl rfl) (aF ?_)))))
    rcases aH hm with ⟨k,hm⟩|⟨k,hm⟩
    ·refine aL k rfl (aJ (aD (v:=i64 (-1)) (aF (aX (aY (aK (aK ?_)))))))
     have a4:=hr _ (zI hm).symm
     subst a4
     have hm:(some (-1))=some R:=ho
     clear hr ho
     obtain rfl:=zI hm
     exact aY (aK (aK (aO results16 rfl ⟨rfl,u⟩)))
    ·exact aI k rfl (aW (bH (aB (aU (bF h (aA (cA rfl rfl) (aD (v:=i64 (wr (g+1))) (aF ⟨_,(zI hm).symm,aT,rfl,rfl,u⟩))))))))
   ·refine aI j rfl (cD (bA (bA ?_)))
    have a6:=hr _ (zI hm).symm
    subst a6
    have hm:(qP c)=some R:=ho
    clear hr ho
    exact bR (aB ⟨aT,c,hm,n,i⟩)
theorem aKW {a:(List Int)} {left R:Int} (hm:aFT a left=some R) (c:aM G K (L) w) (g:bY K a1 c2 a):
  Calls prog 68 ([zS a1 a.length c2,i64 left]:List Value).toArray w (eK fun v w'=>v=i64 R/\aM G K (L) w'):=by
 refine aP func68 rfl (by kernel_rfl) (by show (2:Nat)<=12;decide) ?_;unfold aFT at hm
 refine aJ (aD (v:=i64 0) (aF (aJ (aG (v:=i64 left) (aG (v:=zS a1 a.length c2) (aA (bO (len:=a.length) fN rfl) (aA (iW rfl rfl) (aD (v:=i64 (wr (left - (a.length:Int)))) (aF (aN (aJ (aG (v:=i64 (wr (left - (a.length:Int)))) (aA (cF rfl rfl) (aF ?_))))))))))))))
 rcases aH hm with ⟨b,hm⟩|⟨b,hm⟩
 ·refine aL b rfl (aJ (aD (v:=i64 (-1)) (aF ?_)));obtain rfl:=zI hm
  exact aX (aK (aO results68 rfl ⟨rfl,c⟩))
 ·refine aI b rfl (aW (aB (aJ (aG (v:=i64 (wr (left - (a.length:Int)))) (aD (v:=i64 (wr (left - (a.length:Int)))) (aF ?_))))));obtain rfl:=zI hm
  exact aX (aO results68 rfl ⟨rfl,c⟩)
theorem aIz {a:bT} {left R:Int} (hm:sA a left=some R) (g:aM G K (L) w) (h:bY K a1 c2 a.Values):
  Calls prog 44 ([zA #[i64 a.Definition,zS a1 a.Values.length c2],i64 left]:List Value).toArray w (eK fun v w'=>v=i64 R/\aM G K (L) w'):=by
 refine aP func44 rfl (by kernel_rfl) (by show (2:Nat)<=12;decide) ?_;unfold sA at hm
 refine aJ (dM (v:=zA #[i64 a.Definition,zS a1 a.Values.length c2]) (vs:=[i64 a.Definition,zS a1 a.Values.length c2]) g rfl rfl (fun m n d=>(aD (v:=i64 0) (aF (aJ (aA (bC (t':=1) fa_86_1 rfl rfl) (aA (bQ vL d (i:=0) rfl rfl rfl) (aG (v:=i64 left) ?_))))))));obtain ⟨b,j,hm⟩:=aC hm
 refine aQ (vs:=[zS a1 a.Values.length c2,i64 left]) call68 rfl (aKW j d h) ?_
 rintro _ o ⟨rfl,e⟩
 refine aD (v:=i64 b) (aF (aN (aJ (aG (v:=i64 b) (aA (cF rfl rfl) (aF ?_))))))
 rcases aH hm with ⟨c,hm⟩|⟨c,hm⟩
 ·refine aL c rfl (aJ (aD (v:=i64 (-1)) (aF ?_)));obtain rfl:=zI hm
  exact aX (aK (aO results44 rfl ⟨rfl,(aM.arr 1 [] e rfl)⟩))
 ·refine aI c rfl (aW (aB (aJ (aG (v:=i64 b) (aD (v:=i64 b) (aF ?_))))));obtain rfl:=zI hm
  exact aX (aO results44 rfl ⟨rfl,(aM.arr 1 [] e rfl)⟩)
theorem aHS {a:(List bT)} {left R:Int} (hm:zZ a left=some R) (l:aM G K (L) w) (m:bY K a1 c2 a):
  Calls prog 17 ([zS a1 a.length c2,i64 left]:List Value).toArray w (eK fun v w'=>v=i64 R/\aM G K (L) w'):=by
 refine aP func17 rfl (by kernel_rfl) (by show (2:Nat)<=27;decide) ?_;unfold zZ at hm
 refine aJ (aD (v:=i64 0) (aF (aJ (aG (v:=i64 left) (aG (v:=zS a1 a.length c2) (aA (bO (len:=a.length) aNK rfl) (aA (iW rfl rfl) (aD (v:=i64 (wr (left - (a.length:Int)))) (aF (aN (aJ (aG (v:=i64 (wr (left - (a.length:Int)))) (aA (cF rfl rfl) (aF ?_))))))))))))))
 rcases aH hm with ⟨e,hm⟩|⟨e,hm⟩
 ·refine aL e rfl (aJ (aD (v:=i64 (-1)) (aF ?_)));obtain rfl:=zI hm
  exact aX (aK (aO results17 rfl ⟨rfl,l⟩))
 ·refine aI e rfl (aW (aB (aN (aJ (aD (v:=i64 0) (aF (bM [] (fun f w=>∃ c,sP c=some R/\f 1=i64 c/\aM G K (L) w) ?_ ?_)))))))
  ·rintro f w8 ⟨c,hm,y,z⟩
   unfold sP at hm
   refine aB (aJ (bF y (aD (v:=i64 c) (aF ?_))));obtain rfl:=zI hm
   exact aX (aO results17 rfl ⟨rfl,z⟩)
  obtain ⟨a8,V,ho⟩:=aC hm
  refine dD [0] V (fun b g f w=>f 1=i64 b/\f 5=i64 g/\aM G K (L) w) ?_ ?_
  ·exact ⟨rfl,rfl,l⟩
  ·rintro b g a9 f b0 hm hr ⟨n,h,i⟩
   unfold nU at hm
   refine aN (aJ (bF h (aG (v:=zS a1 a.length c2) (aA (bO (len:=a.length) aNK rfl) (aA (cF rfl rfl) (aF ?_))))))
   rcases aH hm with ⟨j,hm⟩|⟨j,hm⟩
   ·refine aL j rfl (aW (aB (aN (bX (aJ (aG (v:=zS a1 a.length c2) (bF h ?_)))))));obtain ⟨d,o,hm⟩:=aC hm
    refine aA (cG aNK rfl m rfl rfl rfl o) ?_;obtain ⟨b1,O,a0⟩:=bY.el (sz:=2) rfl m o
    obtain ⟨p,q,rfl,a2⟩:=a0
    refine aA (dZ (t:=0) (vs:=[i64 d.Definition,zS p d.Values.length q]) ag_86 i O rfl rfl rfl) (bF n ?_);obtain ⟨r,a3,hm⟩:=aC hm
    refine aQ (vs:=[zA #[i64 d.Definition,zS p d.Values.length q],i64 b]) call44 rfl (aIz a3 i a2) ?_
    rintro _ b2 ⟨rfl,u⟩
    refine aD (v:=i64 r) (aF (aJ (aG (v:=i64 r) (aA (cF rfl rfl) (aF ?_)))))
    rcases aH hm with ⟨k,hm⟩|⟨k,hm⟩
    ·refine aL k rfl (aJ (aD (v:=i64 (-1)) (aF (aX (aY (aK (aK ?_)))))))
     have a4:=hr _ (zI hm).symm
     subst a4
     have hm:(some (-1))=some R:=ho
     clear hr ho
     obtain rfl:=zI hm
     exact aY (aK (aK (aO results17 rfl ⟨rfl,u⟩)))
    ·exact aI k rfl (aW (bH (aB (aU (bF h (aA (cA rfl rfl) (aD (v:=i64 (wr (g+1))) (aF ⟨_,(zI hm).symm,aT,rfl,rfl,u⟩))))))))
   ·refine aI j rfl (cD (bA (bA ?_)))
    have a6:=hr _ (zI hm).symm
    subst a6
    have hm:(sP b)=some R:=ho
    clear hr ho
    exact bR (aB ⟨aT,b,hm,n,i⟩)
theorem aJW {a:bU} {left R:Int} (hm:yM a left=some R) (g:aM G K (L) w):
  Calls prog 45 ([zA #[bE a.Left,bE a.Right,bE a.Result],i64 left]:List Value).toArray w (eK fun v w'=>v=i64 R/\aM G K (L) w'):=by
 refine aP func45 rfl (by kernel_rfl) (by show (2:Nat)<=27;decide) ?_;unfold yM at hm
 refine aJ (dM (v:=zA #[bE a.Left,bE a.Right,bE a.Result]) (vs:=[bE a.Left,bE a.Right,bE a.Result]) g rfl rfl (fun m n b=>(aD (v:=i64 0) (aF (aJ (aG (v:=i64 left) (aA (bC (t':=0) fa_89_0 rfl rfl) (aA (bQ fA b (i:=0) rfl rfl rfl) (aA (fX runUnderlying9 rfl) (aA (iW rfl rfl) (aD (v:=i64 (wr (left - (a.Left.length:Int)))) (aF (aN (aJ (aG (v:=i64 (wr (left - (a.Left.length:Int)))) (aA (cF rfl rfl) (aF ?_)))))))))))))))))
 rcases aH hm with ⟨c,hm⟩|⟨c,hm⟩
 ·refine aL c rfl (aJ (aD (v:=i64 (-1)) (aF ?_)));obtain rfl:=zI hm
  exact aX (aK (aO results45 rfl ⟨rfl,(aM.arr 1 [] b rfl)⟩))
 ·refine aI c rfl (aW (aB (aJ (aG (v:=i64 (wr (left - (a.Left.length:Int)))) (aA (bC (t':=1) fa_89_1 rfl rfl) (aA (bQ fA b (i:=0) rfl rfl rfl) (aA (fX runUnderlying9 rfl) (aA (iW rfl rfl) (aD (v:=i64 (wr ((wr (left - (a.Left.length:Int))) - (a.Right.length:Int)))) (aF (aN (aJ (aG (v:=i64 (wr ((wr (left - (a.Left.length:Int))) - (a.Right.length:Int)))) (aA (cF rfl rfl) (aF ?_)))))))))))))))
  rcases aH hm with ⟨d,hm⟩|⟨d,hm⟩
  ·refine aL d rfl (aJ (aD (v:=i64 (-1)) (aF ?_)));obtain rfl:=zI hm
   exact aX (aK (aO results45 rfl ⟨rfl,(aM.arr 1 [] b rfl)⟩))
  ·refine aI d rfl (aW (aB (aJ (aG (v:=i64 (wr ((wr (left - (a.Left.length:Int))) - (a.Right.length:Int)))) (aA (bC (t':=2) fa_89_2 rfl rfl) (aA (bQ fA b (i:=0) rfl rfl rfl) (aA (fX runUnderlying9 rfl) (aA (iW rfl rfl) (aD (v:=i64 (wr ((wr ((wr (left - (a.Left.length:Int))) - (a.Right.length:Int))) - (a.Result.length:Int)))) (aF (aN (aJ (aG (v:=i64 (wr ((wr ((wr (left - (a.Left.length:Int))) - (a.Right.length:Int))) - (a.Result.length:Int)))) (aA (cF rfl rfl) (aF ?_)))))))))))))))
   rcases aH hm with ⟨e,hm⟩|⟨e,hm⟩
   ·refine aL e rfl (aJ (aD (v:=i64 (-1)) (aF ?_)));obtain rfl:=zI hm
    exact aX (aK (aO results45 rfl ⟨rfl,(aM.arr 1 [] b rfl)⟩))
   ·refine aI e rfl (aW (aB (aJ (aG (v:=i64 (wr ((wr ((wr (left - (a.Left.length:Int))) - (a.Right.length:Int))) - (a.Result.length:Int)))) (aD (v:=i64 (wr ((wr ((wr (left - (a.Left.length:Int))) - (a.Right.length:Int))) - (a.Result.length:Int)))) (aF ?_))))));obtain rfl:=zI hm
    exact aX (aO results45 rfl ⟨rfl,(aM.arr 1 [] b rfl)⟩)
theorem aJd {a:(List bU)} {left R:Int} (hm:aCU a left=some R) (l:aM G K (L) w) (m:bY K a1 c2 a):
  Calls prog 18 ([zS a1 a.length c2,i64 left]:List Value).toArray w (eK fun v w'=>v=i64 R/\aM G K (L) w'):=by
 refine aP func18 rfl (by kernel_rfl) (by show (2:Nat)<=27;decide) ?_;unfold aCU at hm
 refine aJ (aD (v:=i64 0) (aF (aJ (aG (v:=i64 left) (aG (v:=zS a1 a.length c2) (aA (bO (len:=a.length) aNL rfl) (aA (iW rfl rfl) (aD (v:=i64 (wr (left - (a.length:Int)))) (aF (aN (aJ (aG (v:=i64 (wr (left - (a.length:Int)))) (aA (cF rfl rfl) (aF ?_))))))))))))))
 rcases aH hm with ⟨e,hm⟩|⟨e,hm⟩
 ·refine aL e rfl (aJ (aD (v:=i64 (-1)) (aF ?_)));obtain rfl:=zI hm
  exact aX (aK (aO results18 rfl ⟨rfl,l⟩))
 ·refine aI e rfl (aW (aB (aN (aJ (aD (v:=i64 0) (aF (bM [] (fun f w=>∃ d,xF d=some R/\f 1=i64 d/\aM G K (L) w) ?_ ?_)))))))
  ·rintro f w8 ⟨d,hm,u,x⟩
   unfold xF at hm
   refine aB (aJ (bF u (aD (v:=i64 d) (aF ?_))));obtain rfl:=zI hm
   exact aX (aO results18 rfl ⟨rfl,x⟩)
  obtain ⟨a5,z,ho⟩:=aC hm
  refine dD [0] z (fun c g f w=>f 1=i64 c/\f 5=i64 g/\aM G K (L) w) ?_ ?_
  ·exact ⟨rfl,rfl,l⟩
  ·rintro c g a6 f a7 hm hr ⟨n,h,i⟩
   unfold rG at hm
   refine aN (aJ (bF h (aG (v:=zS a1 a.length c2) (aA (bO (len:=a.length) aNL rfl) (aA (cF rfl rfl) (aF ?_))))))
   rcases aH hm with ⟨j,hm⟩|⟨j,hm⟩
   ·refine aL j rfl (aW (aB (aN (bX (aJ (aG (v:=zS a1 a.length c2) (bF h ?_)))))));obtain ⟨b,o,hm⟩:=aC hm
    refine aA (cG aNL rfl m rfl rfl rfl o) ?_;obtain ⟨a8,J,V⟩:=bY.el (sz:=3) rfl m o
    cases V
    refine aA (dZ (t:=0) (vs:=[bE b.Left,bE b.Right,bE b.Result]) ag_89 i J rfl rfl rfl) (bF n ?_);obtain ⟨p,O,hm⟩:=aC hm
    refine aQ (vs:=[zA #[bE b.Left,bE b.Right,bE b.Result],i64 c]) call45 rfl (aJW O i) ?_
    rintro _ a9 ⟨rfl,q⟩
    refine aD (v:=i64 p) (aF (aJ (aG (v:=i64 p) (aA (cF rfl rfl) (aF ?_)))))
    rcases aH hm with ⟨k,hm⟩|⟨k,hm⟩
    ·refine aL k rfl (aJ (aD (v:=i64 (-1)) (aF (aX (aY (aK (aK ?_)))))))
     have a0:=hr _ (zI hm).symm
     subst a0
     have hm:(some (-1))=some R:=ho
     clear hr ho
     obtain rfl:=zI hm
     exact aY (aK (aK (aO results18 rfl ⟨rfl,q⟩)))
    ·exact aI k rfl (aW (bH (aB (aU (bF h (aA (cA rfl rfl) (aD (v:=i64 (wr (g+1))) (aF ⟨_,(zI hm).symm,aT,rfl,rfl,q⟩))))))))
   ·refine aI j rfl (cD (bA (bA ?_)))
    have a3:=hr _ (zI hm).symm
    subst a3
    have hm:(xF c)=some R:=ho
    clear hr ho
    exact bR (aB ⟨aT,c,hm,n,i⟩)
theorem aFr {a:(List bJ)} {left R:Int} (hm:aBZ a left=some R) (k:aM G K (L) w) (l:bY K a1 c2 a):
  Calls prog 19 ([zS a1 a.length c2,i64 left]:List Value).toArray w (eK fun v w'=>v=i64 R/\aM G K (L) w'):=by
 refine aP func19 rfl (by kernel_rfl) (by show (2:Nat)<=28;decide) ?_;unfold aBZ at hm
 refine aJ (aD (v:=i64 0) (aF (aJ (aG (v:=i64 left) (aG (v:=zS a1 a.length c2) (aA (bO (len:=a.length) hH rfl) (aA (iW rfl rfl) (aD (v:=i64 (wr (left - (a.length:Int)))) (aF (aN (aJ (aG (v:=i64 (wr (left - (a.length:Int)))) (aA (cF rfl rfl) (aF ?_))))))))))))))
 rcases aH hm with ⟨e,hm⟩|⟨e,hm⟩
 ·refine aL e rfl (aJ (aD (v:=i64 (-1)) (aF ?_)));obtain rfl:=zI hm
  exact aX (aK (aO results19 rfl ⟨rfl,k⟩))
 ·refine aI e rfl (aW (aB (aN (aJ (aD (v:=i64 0) (aF (bM [] (fun f w=>∃ c,aAa c=some R/\f 1=i64 c/\aM G K (L) w) ?_ ?_)))))))
  ·rintro f w8 ⟨c,hm,q,r⟩
   unfold aAa at hm
   refine aB (aJ (bF q (aD (v:=i64 c) (aF ?_))));obtain rfl:=zI hm
   exact aX (aO results19 rfl ⟨rfl,r⟩)
  obtain ⟨a2,x,ho⟩:=aC hm
  refine dD [0] x (fun b g f w=>f 1=i64 b/\f 5=i64 g/\aM G K (L) w) ?_ ?_
  ·exact ⟨rfl,rfl,k⟩
  ·rintro b g a3 f a4 hm hr ⟨m,h,d⟩
   unfold tB at hm
   refine aN (aJ (bF h (aG (v:=zS a1 a.length c2) (aA (bO (len:=a.length) hH rfl) (aA (cF rfl rfl) (aF ?_))))))
   rcases aH hm with ⟨i,hm⟩|⟨i,hm⟩
   ·refine aL i rfl (aW (aB (aN (bX (aJ (bF m (aG (v:=zS a1 a.length c2) (bF h ?_))))))));obtain ⟨n,o,hm⟩:=aC hm
    refine aA (cG hH rfl l rfl rfl rfl o) ?_;obtain ⟨a5,y,z⟩:=bY.el (sz:=1) rfl l o
    cases z
    refine aA (cC (t:=0) fA d y rfl rfl) (aA (fX runUnderlying9 rfl) (aA (iW rfl rfl) (aD (v:=i64 (wr (b - (n.length:Int)))) (aF (aJ (aG (v:=i64 (wr (b - (n.length:Int)))) (aA (cF rfl rfl) (aF ?_))))))))
    rcases aH hm with ⟨j,hm⟩|⟨j,hm⟩
    ·refine aL j rfl (aJ (aD (v:=i64 (-1)) (aF (aX (aY (aK (aK ?_)))))))
     have J:=hr _ (zI hm).symm
     subst J
     have hm:(some (-1))=some R:=ho
     clear hr ho
     obtain rfl:=zI hm
     exact aY (aK (aK (aO results19 rfl ⟨rfl,d⟩)))
    ·exact aI j rfl (aW (bH (aB (aU (bF h (aA (cA rfl rfl) (aD (v:=i64 (wr (g+1))) (aF ⟨_,(zI hm).symm,aT,rfl,rfl,d⟩))))))))
   ·refine aI i rfl (cD (bA (bA ?_)))
    have O:=hr _ (zI hm).symm
    subst O
    have hm:(aAa b)=some R:=ho
    clear hr ho
    exact bR (aB ⟨aT,b,hm,m,d⟩)
theorem aKX {a:bZ} {left R:Int} (hm:aDI a left=some R) (u:aM G K (L) w) (x:bY K a1 c2 a.Definitions) (y:bY K a4 c5 a.Components) (z:bY K a7 c8 a.Meetings) (J:bY K a10 c11 a.Allowed) (V:bY K a13 c14 a.Hidden):
  Calls prog 4 ([zA #[zS a1 a.Definitions.length c2,zS a4 a.Components.length c5,zS a7 a.Meetings.length c8,zS a10 a.Allowed.length c11,zS a13 a.Hidden.length c14],i64 left]:List Value).toArray w (eK fun v w'=>v=i64 R/\aM G K (L) w'):=by
 refine aP func4 rfl (by kernel_rfl) (by show (2:Nat)<=36;decide) ?_;unfold aDI at hm
 refine aJ (dM (v:=zA #[zS a1 a.Definitions.length c2,zS a4 a.Components.length c5,zS a7 a.Meetings.length c8,zS a10 a.Allowed.length c11,zS a13 a.Hidden.length c14]) (vs:=[zS a1 a.Definitions.length c2,zS a4 a.Components.length c5,zS a7 a.Meetings.length c8,zS a10 a.Allowed.length c11,zS a13 a.Hidden.length c14]) u rfl rfl (fun b3 b4 r=>(aD (v:=i64 0) (aF (aJ (aA (bC (t':=0) fa_27_0 rfl rfl) (aA (bQ sc_22 r (i:=0) rfl rfl rfl) (aG (v:=i64 left) ?_))))))))
 obtain ⟨b,O,hm⟩:=aC hm
 refine aQ (vs:=[zS a1 a.Definitions.length c2,i64 left]) call16 rfl (aGZ O r x) ?_
 rintro _ b5 ⟨rfl,h⟩
 refine aD (v:=i64 b) (aF (aN (aJ (aG (v:=i64 b) (aA (cF rfl rfl) (aF ?_))))))
 rcases aH hm with ⟨j,hm⟩|⟨j,hm⟩
 ·refine aL j rfl (aJ (aD (v:=i64 (-1)) (aF ?_)));obtain rfl:=zI hm
  exact aX (aK (aO results4 rfl ⟨rfl,(aM.arr 1 [] h rfl)⟩))
 ·refine aI j rfl (aW (aB (aJ (aA (bC (t':=1) fa_27_1 rfl rfl) (aA (bQ sc_23 h (i:=0) rfl rfl rfl) (aG (v:=i64 b) ?_))))));obtain ⟨c,a2,hm⟩:=aC hm
  refine aQ (vs:=[zS a4 a.Components.length c5,i64 b]) call17 rfl (aHS a2 h y) ?_
  rintro _ b6 ⟨rfl,k⟩
  refine aD (v:=i64 c) (aF (aN (aJ (aG (v:=i64 c) (aA (cF rfl rfl) (aF ?_))))))
  rcases aH hm with ⟨l,hm⟩|⟨l,hm⟩
  ·refine aL l rfl (aJ (aD (v:=i64 (-1)) (aF ?_)));obtain rfl:=zI hm
   exact aX (aK (aO results4 rfl ⟨rfl,(aM.arr 1 [] k rfl)⟩))
  ·refine aI l rfl (aW (aB (aJ (aA (bC (t':=2) fa_27_2 rfl rfl) (aA (bQ sc_24 k (i:=0) rfl rfl rfl) (aG (v:=i64 c) ?_))))));obtain ⟨d,a5,hm⟩:=aC hm
   refine aQ (vs:=[zS a7 a.Meetings.length c8,i64 c]) call18 rfl (aJd a5 k z) ?_
   rintro _ b7 ⟨rfl,m⟩
   refine aD (v:=i64 d) (aF (aN (aJ (aG (v:=i64 d) (aA (cF rfl rfl) (aF ?_))))))
   rcases aH hm with ⟨n,hm⟩|⟨n,hm⟩
   ·refine aL n rfl (aJ (aD (v:=i64 (-1)) (aF ?_)));obtain rfl:=zI hm
    exact aX (aK (aO results4 rfl ⟨rfl,(aM.arr 1 [] m rfl)⟩))
   ·refine aI n rfl (aW (aB (aJ (aA (bC (t':=3) fa_27_3 rfl rfl) (aA (bQ zV m (i:=0) rfl rfl rfl) (aG (v:=i64 d) ?_))))));obtain ⟨e,a8,hm⟩:=aC hm
    refine aQ (vs:=[zS a10 a.Allowed.length c11,i64 d]) call19 rfl (aFr a8 m J) ?_
    rintro _ b8 ⟨rfl,o⟩
    refine aD (v:=i64 e) (aF (aN (aJ (aG (v:=i64 e) (aA (cF rfl rfl) (aF ?_))))))
    rcases aH hm with ⟨p,hm⟩|⟨p,hm⟩
    ·refine aL p rfl (aJ (aD (v:=i64 (-1)) (aF ?_)));obtain rfl:=zI hm
     exact aX (aK (aO results4 rfl ⟨rfl,(aM.arr 1 [] o rfl)⟩))
    ·refine aI p rfl (aW (aB (aJ (aA (bC (t':=4) fa_27_4 rfl rfl) (aA (bQ zV o (i:=0) rfl rfl rfl) (aG (v:=i64 e) ?_))))));obtain ⟨g,b0,hm⟩:=aC hm
     refine aQ (vs:=[zS a13 a.Hidden.length c14,i64 e]) call19 rfl (aFr b0 o V) ?_
     rintro _ b9 ⟨rfl,t⟩
     refine aD (v:=i64 g) (aF (aN (aJ (aG (v:=i64 g) (aA (cF rfl rfl) (aF ?_))))))
     rcases aH hm with ⟨q,hm⟩|⟨q,hm⟩
     ·refine aL q rfl (aJ (aD (v:=i64 (-1)) (aF ?_)));obtain rfl:=zI hm
      exact aX (aK (aO results4 rfl ⟨rfl,(aM.arr 1 [] t rfl)⟩))
     ·refine aI q rfl (aW (aB (aJ (aG (v:=i64 g) (aD (v:=i64 g) (aF ?_))))));obtain rfl:=zI hm
      exact aX (aO results4 rfl ⟨rfl,(aM.arr 1 [] t rfl)⟩)
theorem iQ {n low b:Int} {R:Bool} (hm:nK n low b=some R) (d:aM G K (L) w):
  Calls prog 48 ([i64 n,i64 low,i64 b]:List Value).toArray w (eK fun v w'=>v=zB R/\aM G K (L) w'):=by
 refine aP func48 rfl (by kernel_rfl) (by show (3:Nat)<=15;decide) ?_;unfold nK at hm
 refine aJ (aD (v:=zB false) (aF (aN (cP [] (fun f w=>∃ c,aFU c=some R/\f 6=zB c/\aM G K (L) w) ?_ ?_))))
 ·rintro f j ⟨c,hm,e,h⟩
  unfold aFU at hm
  refine aB ?_;obtain rfl:=zI hm
  exact aX (aO results48 rfl ⟨e,h⟩)
 refine aU (aG (v:=i64 n) (aG (v:=i64 low) (aA (sO rfl rfl) (aG (v:=zB (decide (low<=n))) ?_))))
 rcases aH hm with ⟨a,hm⟩|⟨a,hm⟩
 ·exact bB a rfl rfl (aG (v:=i64 n) (bB a rfl rfl (aG (v:=i64 b) (bB a rfl rfl (aA (vR rfl rfl) (aA (bI (v:=zB (decide (n<=b))) a rfl rfl) (aD (v:=zB (decide (n<=b))) (aF ⟨aT,decide (n<=b),hm,rfl,d⟩))))))))
 ·exact aV a rfl rfl (aV a rfl rfl (aV a rfl rfl (aA (bL (v:=zB false) a rfl rfl) (aD (v:=zB false) (aF ⟨aT,false,hm,rfl,d⟩)))))
theorem aGu {c:UInt8} {R:Bool} (hm:aDJ c=some R) (d:aM G K (L) w):
  Calls prog 169 ([Value.int .u8 (c.toNat:Int)]:List Value).toArray w (eK fun v w'=>v=zB R/\aM G K (L) w'):=by
 refine aP func169 rfl (by kernel_rfl) (by show (1:Nat)<=9;decide) ?_;unfold aDJ at hm
 refine aJ (aD (v:=zB false) (aF (aN (cP [] (fun f w=>∃ b,aBA b=some R/\f 2=zB b/\aM G K (L) w) ?_ ?_))))
 ·rintro f j ⟨b,hm,e,h⟩
  unfold aBA at hm
  refine aB ?_;obtain rfl:=zI hm
  exact aX (aO results169 rfl ⟨e,h⟩)
 refine aU (aG (v:=Value.int .u8 (c.toNat:Int)) (aA (sO rfl rfl) (aG (v:=zB (decide (97<=(c.toNat:Int)))) ?_)))
 rcases aH hm with ⟨a,hm⟩|⟨a,hm⟩
 ·exact bB a rfl rfl (aG (v:=Value.int .u8 (c.toNat:Int)) (bB a rfl rfl (aA (vR rfl rfl) (aA (bI (v:=zB (decide ((c.toNat:Int)<=122))) a rfl rfl) (aD (v:=zB (decide ((c.toNat:Int)<=122))) (aF ⟨aT,decide ((c.toNat:Int)<=122),hm,rfl,d⟩))))))
 ·exact aV a rfl rfl (aV a rfl rfl (aA (bL (v:=zB false) a rfl rfl) (aD (v:=zB false) (aF ⟨aT,false,hm,rfl,d⟩))))
theorem aGv {c:UInt8} {R:Bool} (hm:aDK c=some R) (d:aM G K (L) w):
  Calls prog 170 ([Value.int .u8 (c.toNat:Int)]:List Value).toArray w (eK fun v w'=>v=zB R/\aM G K (L) w'):=by
 refine aP func170 rfl (by kernel_rfl) (by show (1:Nat)<=9;decide) ?_;unfold aDK at hm
 refine aJ (aD (v:=zB false) (aF (aN (cP [] (fun f w=>∃ b,aBB b=some R/\f 2=zB b/\aM G K (L) w) ?_ ?_))))
 ·rintro f j ⟨b,hm,e,h⟩
  unfold aBB at hm
  refine aB ?_;obtain rfl:=zI hm
  exact aX (aO results170 rfl ⟨e,h⟩)
 refine aU (aG (v:=Value.int .u8 (c.toNat:Int)) (aA (sO rfl rfl) (aG (v:=zB (decide (48<=(c.toNat:Int)))) ?_)))
 rcases aH hm with ⟨a,hm⟩|⟨a,hm⟩
 ·exact bB a rfl rfl (aG (v:=Value.int .u8 (c.toNat:Int)) (bB a rfl rfl (aA (vR rfl rfl) (aA (bI (v:=zB (decide ((c.toNat:Int)<=57))) a rfl rfl) (aD (v:=zB (decide ((c.toNat:Int)<=57))) (aF ⟨aT,decide ((c.toNat:Int)<=57),hm,rfl,d⟩))))))
 ·exact aV a rfl rfl (aV a rfl rfl (aA (bL (v:=zB false) a rfl rfl) (aD (v:=zB false) (aF ⟨aT,false,hm,rfl,d⟩))))
theorem aAY {s_:bJ} {R:Bool} (hm:yN s_=some R) (e:aM G K (L) w):
  Calls prog 127 ([bE s_]:List Value).toArray w (eK fun v w'=>v=zB R/\aM G K (L) w'):=by
 refine aP func127 rfl (by kernel_rfl) (by show (1:Nat)<=35;decide) ?_;unfold yN at hm
 refine aJ (aD (v:=zB false) (aF (aN (aN (cP [0] (fun f w=>∃ h,qQ s_ h=some R/\f 16=zB h/\aM G K (L) w) ?_ ?_)))))
 ·rintro f w3 ⟨h,hm,m,n⟩
  unfold qQ at hm
  refine aB ?_
  rcases aH hm with ⟨i,hm⟩|⟨i,hm⟩
  ·refine aL i m (aJ (aD (v:=zB false) (aF ?_)));obtain rfl:=zI hm
   exact aX (aK (aO results127 rfl ⟨rfl,n⟩))
  ·refine aI i m (aW (aB (aN (aJ (aD (v:=i64 0) (aF (bM [] (fun f w=>aAb=some R/\aM G K (L) w) ?_ ?_)))))))
   ·rintro f w7 ⟨hm,J⟩
    unfold aAb at hm
    refine aB (aJ (aD (v:=zB true) (aF ?_)));obtain rfl:=zI hm
    exact aX (aO results127 rfl ⟨rfl,J⟩)
   obtain ⟨b4,O,ho⟩:=aC hm
   refine dP [0] O (fun c f w=>f 3=i64 c/\aM G K (L) w) ?_ ?_
   ·exact ⟨rfl,n⟩
   ·rintro c a0 f b5 hm hr ⟨d,o⟩
    unfold aAd at hm
    refine aN (aJ (bF d (aG (v:=bE s_) (aA (fX runUnderlying9 rfl) (aA (cF rfl rfl) (aF ?_))))))
    rcases aH hm with ⟨j,hm⟩|⟨j,hm⟩
    ·refine aL j rfl (aW (aB (aN (bX (aN (cP [0,3] (fun f w=>∃ k,aAc c k=some a0/\f 34=zB k/\aM G K (L) w) ?_ ?_))))))
     ·rintro f b6 ⟨k,hm,p,q⟩
      unfold aAc at hm
      refine aB ?_
      rcases aH hm with ⟨l,hm⟩|⟨l,hm⟩
      ·refine aL l p (aJ (aD (v:=zB false) (aF (aX (aY (aK (aK ?_)))))))
       have a1:=hr _ (zI hm).symm
       subst a1
       have hm:(some false)=some R:=ho
       clear hr ho
       obtain rfl:=zI hm
       exact aY (aK (aK (aO results127 rfl ⟨rfl,q⟩)))
      ·exact aI l p (aW (bH (aB (aU (bF d (aA (cA rfl rfl) (aD (v:=i64 (wr (c+1))) (aF ⟨_,(zI hm).symm,aT,rfl,q⟩))))))))
     refine aU (aG (v:=bE s_) (bF d ?_));obtain ⟨r,t,hm⟩:=aC hm
     refine aA (aDE runUnderlying9 rfl rfl t) ?_;obtain ⟨a3,a4,hm⟩:=aC hm
     refine aQ (vs:=[Value.int .u8 (r.toNat:Int)]) call169 rfl (aGu a4 o) ?_
     rintro _ b7 ⟨rfl,u⟩
     refine aA (dA rfl) (aG (v:=zB (!a3)) ?_)
     rcases aH hm with ⟨a,hm⟩|⟨a,hm⟩
     ·refine bB a rfl rfl (aG (v:=bE s_) (bB a rfl rfl (bF d (bB a rfl rfl (aA (aDE runUnderlying9 rfl rfl t) (bB a rfl rfl ?_))))));obtain ⟨x,a5,hm⟩:=aC hm
      refine aQ (vs:=[Value.int .u8 (r.toNat:Int)]) call170 rfl (aGv a5 u) ?_
      rintro _ b8 ⟨rfl,a6⟩
      exact bB a rfl rfl (aA (dA rfl) (aA (bI (v:=zB (!x)) a rfl rfl) (aF ⟨aT,!x,hm,rfl,a6⟩)))
     ·exact aV a rfl rfl (aV a rfl rfl (aV a rfl rfl (aV a rfl rfl (aV a rfl rfl (aA (bL (v:=zB false) a rfl rfl) (aF ⟨aT,false,hm,rfl,u⟩))))))
    ·refine aI j rfl (cD (bA (bA ?_)))
     have a7:=hr _ (zI hm).symm
     subst a7
     have hm:(aAb)=some R:=ho
     clear hr ho
     exact bR (aB ⟨aT,hm,o⟩)
 refine aU (aG (v:=bE s_) (aA (kS rfl rfl) (aG (v:=zB (s_ == ([]:bJ))) ?_)))
 rcases aH hm with ⟨c48,hm⟩|⟨c48,hm⟩
 ·exact aR c48 rfl rfl (aR c48 rfl rfl (aR c48 rfl rfl (aA (bI (v:=zB true) c48 rfl rfl) (aG (v:=zB true) (aR (rfl:true=true) rfl rfl (aR (rfl:true=true) rfl rfl (aR (rfl:true=true) rfl rfl (aR (rfl:true=true) rfl rfl (aA (bI (v:=zB true) (rfl:true=true) rfl rfl) (aF ⟨aT,true,hm,rfl,e⟩))))))))))
 ·refine bD c48 rfl rfl (aG (v:=bE s_) (bD c48 rfl rfl (aA (fX runUnderlying9 rfl) (bD c48 rfl rfl (aA (nN rfl rfl) (aA (bL (v:=zB (decide (10 < (s_.length:Int)))) c48 rfl rfl) (aG (v:=zB (decide (10 < (s_.length:Int)))) ?_)))))))
  rcases aH hm with ⟨b,hm⟩|⟨b,hm⟩
  ·exact aR b rfl rfl (aR b rfl rfl (aR b rfl rfl (aR b rfl rfl (aA (bI (v:=zB true) b rfl rfl) (aF ⟨aT,true,hm,rfl,e⟩)))))
  ·refine bD b rfl rfl (aG (v:=bE s_) (bD b rfl rfl ?_));obtain ⟨a8,a9,hm⟩:=aC hm
   refine aA (aDE runUnderlying9 rfl rfl a9) (bD b rfl rfl ?_);obtain ⟨y,b0,hm⟩:=aC hm
   refine aQ (vs:=[Value.int .u8 (a8.toNat:Int)]) call169 rfl (aGu b0 e) ?_
   rintro _ b9 ⟨rfl,b1⟩
   exact bD b rfl rfl (aA (dA rfl) (aA (bL (v:=zB (!y)) b rfl rfl) (aF ⟨aT,!y,hm,rfl,b1⟩)))
theorem aFs {p:Part} {a:Nat} {R:Int} (hm:yO p=some R) (b:aM G K (L) w) (c:iG K a1 a [i64 p.Kind,i64 p.Number,bE p.Name,zS a4 p.Arguments.length c5]) (o:bY K a4 c5 p.Arguments):
  Calls prog 173 ([eP a1 a]:List Value).toArray w (eK fun v w'=>v=i64 R/\aM G K (L) w'):=by
 refine aP func173 rfl (by kernel_rfl) (by show (1:Nat)<=13;decide) ?_;unfold yO at hm
 refine aJ (aD (v:=i64 0) (aF (aN (aJ (aG (v:=eP a1 a) (aA (eR rfl c) (aA (cH (k':=a+0) eY rfl c rfl) (aA (cC (t:=0) dC b c rfl rfl) (aF (bX (zO [6] (fun f w=>∃ d,pB p d=some R/\f 7=zB d/\aM G K (L) w) ?_ ?_)))))))))))
 ·rintro f q ⟨d,hm,k,e⟩
  unfold pB at hm
  rcases aH hm with ⟨g,hm⟩|⟨g,hm⟩
  ·refine aL g k (aJ (aD (v:=i64 1) (aF ?_)));obtain rfl:=zI hm
   exact aX (aY (aK (aO results173 rfl ⟨rfl,e⟩)))
  ·refine aI g k (aJ (aA (cK rfl rfl) (aD (v:=zB (p.Kind == 2)) (aF ?_))))
   rcases aH hm with ⟨h,hm⟩|⟨h,hm⟩
   ·refine aL h rfl (aJ (aD (v:=i64 2) (aF ?_)));obtain rfl:=zI hm
    exact aX (aY (aK (aO results173 rfl ⟨rfl,e⟩)))
   ·refine aI h rfl (aW (bH (aB (aJ (aD (v:=i64 0) (aF ?_))))));obtain rfl:=zI hm
    exact aX (aO results173 rfl ⟨rfl,e⟩)
 refine aJ (aA (cK rfl rfl) (aD (v:=zB (p.Kind == 1)) (aF ?_)))
 rcases aH hm with ⟨i,hm⟩|⟨i,hm⟩
 ·exact aL i rfl (aW (aB ⟨aT,p.Kind == 1,hm,rfl,b⟩))
 ·refine aI i rfl (aJ (aA (cK rfl rfl) (aD (v:=zB (p.Kind == 3)) (aF ?_))))
  rcases aH hm with ⟨j,hm⟩|⟨j,hm⟩
  ·exact aL j rfl (aW (aB ⟨aT,p.Kind == 3,hm,rfl,b⟩))
  ·exact aI j rfl (aU (aA (cK rfl rfl) (aD (v:=zB (p.Kind == 4)) (aF ⟨aT,p.Kind == 4,hm,rfl,b⟩))))
theorem aKY {a:(List Part)} {R:Bool} (hm:aDL a=some R) (o:aM G K (L) w) (p:bY K a1 c2 a):
  Calls prog 171 ([zS a1 a.length c2]:List Value).toArray w (eK fun v w'=>v=zB R/\aM G K (L) w'):=by
 refine aP func171 rfl (by kernel_rfl) (by show (1:Nat)<=30;decide) ?_;unfold aDL at hm
 refine aJ (aD (v:=zB false) (aF (aN (aN (cP [0] (fun f w=>∃ h,wA a h=some R/\f 12=zB h/\aM G K (L) w) ?_ ?_)))))
 ·rintro f w6 ⟨h,hm,q,r⟩
  unfold wA at hm
  refine aB ?_
  rcases aH hm with ⟨i,hm⟩|⟨i,hm⟩
  ·refine aL i q (aJ (aD (v:=zB false) (aF ?_)));obtain rfl:=zI hm
   exact aX (aK (aO results171 rfl ⟨rfl,r⟩))
  ·refine aI i q (aW (aB (aJ (aD (v:=i64 1) (aF (aN (aJ (aD (v:=i64 0) (aF (bM [] (fun f w=>∃ d,aBC d=some R/\f 3=i64 d/\aM G K (L) w) ?_ ?_))))))))))
   ·rintro f a9 ⟨d,hm,x,y⟩
    unfold aBC at hm
    refine aB (aJ (bF x (aA (cK rfl rfl) (aD (v:=zB (d == 0)) (aF ?_)))));obtain rfl:=zI hm
    exact aX (aO results171 rfl ⟨rfl,y⟩)
   obtain ⟨b0,J,ho⟩:=aC hm
   refine dD [0] J (fun c e f w=>f 3=i64 c/\f 4=i64 e/\aM G K (L) w) ?_ ?_
   ·exact ⟨rfl,rfl,r⟩
   ·rintro c e b1 f b2 hm hr ⟨j,k,l⟩
    unfold vZ at hm
    refine aN (aJ (bF k (aG (v:=zS a1 a.length c2) (aA (bO (len:=a.length) iH rfl) (aA (cF rfl rfl) (aF ?_))))))
    rcases aH hm with ⟨m,hm⟩|⟨m,hm⟩
    ·refine aL m rfl (aW (aB (aN (bX (aN (aJ (bF j (aA (cK rfl rfl) (aF ?_)))))))))
     rcases aH hm with ⟨n,hm⟩|⟨n,hm⟩
     ·refine aL n rfl (aJ (aD (v:=zB false) (aF (aX (aK (aY (aK (aK ?_))))))))
      have V:=hr _ (zI hm).symm
      subst V
      have hm:(some false)=some R:=ho
      clear hr ho
      obtain rfl:=zI hm
      exact aY (aK (aK (aO results171 rfl ⟨rfl,l⟩)))
     ·refine aI n rfl (aW (aB (aU (bF j (aG (v:=zS a1 a.length c2) (bF k ?_))))));obtain ⟨b3,t,hm⟩:=aC hm
      refine aA (cG iH rfl p rfl rfl rfl t) ?_;obtain ⟨b4,a0,a2⟩:=bY.el (sz:=4) rfl p t
      obtain ⟨b5,c48,rfl,a3⟩:=a2
      obtain ⟨a4,a5,hm⟩:=aC hm
      refine aQ (vs:=[eP a1 (e.toNat * 4+0)]) call173 rfl (aFs a5 l a0 a3) ?_
      rintro _ b6 ⟨rfl,a6⟩
      exact aA (iW rfl rfl) (aA (cA rfl rfl) (aD (v:=i64 (wr (c+(wr (a4 - 1))))) (cW (bH (aB (aU (bF k (aA (cA rfl rfl) (aD (v:=i64 (wr (e+1))) (aF ⟨_,(zI hm).symm,aT,rfl,rfl,a6⟩))))))))))
    ·refine aI m rfl (cD (bA (bA ?_)))
     have a7:=hr _ (zI hm).symm
     subst a7
     have hm:(aBC c)=some R:=ho
     clear hr ho
     exact bR (aB ⟨aT,c,hm,j,l⟩)
 refine aU (aG (v:=zS a1 a.length c2) (aA (bO (len:=a.length) iH rfl) (aA (cK rfl rfl) (aG (v:=zB ((a.length:Int) == 0)) ?_))))
 rcases aH hm with ⟨b,hm⟩|⟨b,hm⟩
 ·exact aR b rfl rfl (aR b rfl rfl (aR b rfl rfl (aA (bI (v:=zB true) b rfl rfl) (aF ⟨aT,true,hm,rfl,o⟩))))
 ·exact bD b rfl rfl (aG (v:=zS a1 a.length c2) (bD b rfl rfl (aA (bO (len:=a.length) iH rfl) (bD b rfl rfl (aA (nN rfl rfl) (aA (bL (v:=zB (decide (20 < (a.length:Int)))) b rfl rfl) (aF ⟨aT,decide (20 < (a.length:Int)),hm,rfl,o⟩)))))))
theorem aMe {p:Part} {b:Nat} {R:Bool} (hm:aFh p=some R) (j:aM G K (L) w) (a:iG K a1 b [i64 p.Kind,i64 p.Number,bE p.Name,zS a4 p.Arguments.length c5]) (h6:bY K a4 c5 p.Arguments):
  Calls prog 206 ([eP a1 b]:List Value).toArray w (eK fun v w'=>v=zB R/\aM G K (L) w'):=by
 refine aP func206 rfl (by kernel_rfl) (by show (1:Nat)<=73;decide) ?_;unfold aFh at hm
 refine aJ (aD (v:=zB false) (aF (aN (aJ (aG (v:=eP a1 b) (aA (eR rfl a) (aA (cH (k':=b+0) eY rfl a rfl) (aA (cC (t:=0) dC j a rfl rfl) (aF (bX (zO [0,6] (fun f w=>∃ k,aAg p k=some R/\f 7=zB k/\aM G K (L) w) ?_ ?_)))))))))))
 ·rintro f w9 ⟨k,hm,z,c⟩
  unfold aAg at hm
  rcases aH hm with ⟨l,hm⟩|⟨l,hm⟩
  ·refine aL l z (aN (cP [] (fun f w=>∃ m,uN m=some R/\f 2=zB m/\aM G K (L) w) ?_ ?_))
   ·rintro f b3 ⟨m,hm,J,V⟩
    unfold uN at hm
    refine aB ?_;obtain rfl:=zI hm
    exact aX (aY (aK (aO results206 rfl ⟨J,V⟩)))
   refine aU (aG (v:=eP a1 b) (aA (eR rfl a) (aA (cH (k':=b+1) jH rfl a rfl) (aA (cC (t:=1) dC c a rfl rfl) (aA (cK rfl rfl) (aG (v:=zB (p.Number == 0)) ?_))))))
   rcases aH hm with ⟨h,hm⟩|⟨h,hm⟩
   ·refine bB h rfl rfl (aG (v:=eP a1 b) (bB h rfl rfl (aA (eR rfl a) (bB h rfl rfl (aA (cH (k':=b+2) lD rfl a rfl) (bB h rfl rfl (aA (cC (t:=2) fA c a rfl rfl) (bB h rfl rfl (aA (kS rfl rfl) (aA (bI (v:=zB (p.Name == ([]:bJ))) h rfl rfl) (aG (v:=zB (p.Name == ([]:bJ))) ?_)))))))))))
    rcases aH hm with ⟨d,hm⟩|⟨d,hm⟩
    ·exact bB d rfl rfl (aG (v:=eP a1 b) (bB d rfl rfl (aA (eR rfl a) (bB d rfl rfl (aA (cH (k':=b+3) jI rfl a rfl) (bB d rfl rfl (aA (cC (t:=3) qN c a rfl rfl) (bB d rfl rfl (aA (bO (len:=p.Arguments.length) lE rfl) (bB d rfl rfl (aA (cK rfl rfl) (aA (bI (v:=zB ((p.Arguments.length:Int) == 0)) d rfl rfl) (aD (v:=zB ((p.Arguments.length:Int) == 0)) (aF ⟨aT,(p.Arguments.length:Int) == 0,hm,rfl,c⟩))))))))))))))
    ·exact aV d rfl rfl (aV d rfl rfl (aV d rfl rfl (aV d rfl rfl (aV d rfl rfl (aV d rfl rfl (aA (bL (v:=zB false) d rfl rfl) (aD (v:=zB false) (aF ⟨aT,false,hm,rfl,c⟩))))))))
   ·exact aV h rfl rfl (aV h rfl rfl (aV h rfl rfl (aV h rfl rfl (aV h rfl rfl (aA (bL (v:=zB false) h rfl rfl) (aG (v:=zB false) (aV (by decide:¬ false=true) rfl rfl (aV (by decide:¬ false=true) rfl rfl (aV (by decide:¬ false=true) rfl rfl (aV (by decide:¬ false=true) rfl rfl (aV (by decide:¬ false=true) rfl rfl (aV (by decide:¬ false=true) rfl rfl (aA (bL (v:=zB false) (by decide:¬ false=true) rfl rfl) (aD (v:=zB false) (aF ⟨aT,false,hm,rfl,c⟩)))))))))))))))
  ·refine aI l z (aJ (aA (cK rfl rfl) (aD (v:=zB (p.Kind == 1)) (aF ?_))))
   rcases aH hm with ⟨n,hm⟩|⟨n,hm⟩
   ·refine aL n rfl (aJ (aG (v:=eP a1 b) (aA (eR rfl a) (aA (cH (k':=b+1) jH rfl a rfl) (aA (cC (t:=1) dC c a rfl rfl) (aA (cK rfl rfl) (aD (v:=zB (p.Number == 0)) (aF ?_))))))));obtain rfl:=zI hm
    exact aX (aY (aK (aO results206 rfl ⟨rfl,c⟩)))
   ·refine aI n rfl (aJ (aA (cK rfl rfl) (aD (v:=zB (p.Kind == 3)) (aF ?_))))
    rcases aH hm with ⟨o,hm⟩|⟨o,hm⟩
    ·refine aL o rfl (aN (cP [] (fun f w=>∃ q,aAe q=some R/\f 2=zB q/\aM G K (L) w) ?_ ?_))
     ·rintro f b4 ⟨q,hm,a2,a3⟩
      unfold aAe at hm
      refine aB ?_;obtain rfl:=zI hm
      exact aX (aY (aK (aO results206 rfl ⟨a2,a3⟩)))
     refine aU (aG (v:=eP a1 b) (aA (eR rfl a) (aA (cH (k':=b+1) jH rfl a rfl) (aA (cC (t:=1) dC c a rfl rfl) (aA (cK rfl rfl) (aG (v:=zB (p.Number == 0)) ?_))))))
     rcases aH hm with ⟨i,hm⟩|⟨i,hm⟩
     ·exact bB i rfl rfl (aG (v:=eP a1 b) (bB i rfl rfl (aA (eR rfl a) (bB i rfl rfl (aA (cH (k':=b+2) lD rfl a rfl) (bB i rfl rfl (aA (cC (t:=2) fA c a rfl rfl) (bB i rfl rfl (aA (kS rfl rfl) (aA (bI (v:=zB (p.Name == ([]:bJ))) i rfl rfl) (aD (v:=zB (p.Name == ([]:bJ))) (aF ⟨aT,p.Name == ([]:bJ),hm,rfl,c⟩))))))))))))
     ·exact aV i rfl rfl (aV i rfl rfl (aV i rfl rfl (aV i rfl rfl (aV i rfl rfl (aA (bL (v:=zB false) i rfl rfl) (aD (v:=zB false) (aF ⟨aT,false,hm,rfl,c⟩)))))))
    ·refine aI o rfl (aJ (aA (cK rfl rfl) (aD (v:=zB (p.Kind == 4)) (aF ?_))))
     rcases aH hm with ⟨r,hm⟩|⟨r,hm⟩
     ·refine aL r rfl (aN (cP [] (fun f w=>∃ u,aAf u=some R/\f 2=zB u/\aM G K (L) w) ?_ ?_))
      ·rintro f b5 ⟨u,hm,a6,a7⟩
       unfold aAf at hm
       refine aB ?_;obtain rfl:=zI hm
       exact aX (aY (aK (aO results206 rfl ⟨a6,a7⟩)))
      refine aU (aG (v:=eP a1 b) (aA (eR rfl a) (aA (cH (k':=b+2) lD rfl a rfl) (aA (cC (t:=2) fA c a rfl rfl) (aA (kS rfl rfl) (aG (v:=zB (p.Name == ([]:bJ))) ?_))))))
      rcases aH hm with ⟨e,hm⟩|⟨e,hm⟩
      ·exact bB e rfl rfl (aG (v:=eP a1 b) (bB e rfl rfl (aA (eR rfl a) (bB e rfl rfl (aA (cH (k':=b+3) jI rfl a rfl) (bB e rfl rfl (aA (cC (t:=3) qN c a rfl rfl) (bB e rfl rfl (aA (bO (len:=p.Arguments.length) lE rfl) (bB e rfl rfl (aA (cK rfl rfl) (aA (bI (v:=zB ((p.Arguments.length:Int) == 0)) e rfl rfl) (aD (v:=zB ((p.Arguments.length:Int) == 0)) (aF ⟨aT,(p.Arguments.length:Int) == 0,hm,rfl,c⟩))))))))))))))
      ·exact aV e rfl rfl (aV e rfl rfl (aV e rfl rfl (aV e rfl rfl (aV e rfl rfl (aV e rfl rfl (aA (bL (v:=zB false) e rfl rfl) (aD (v:=zB false) (aF ⟨aT,false,hm,rfl,c⟩))))))))
     ·refine aI r rfl (aJ (aA (cK rfl rfl) (aD (v:=zB (p.Kind == 5)) (aF ?_))))
      rcases aH hm with ⟨x,hm⟩|⟨x,hm⟩
      ·refine aL x rfl (aJ (aG (v:=eP a1 b) (aA (eR rfl a) (aA (cH (k':=b+2) lD rfl a rfl) (aA (cC (t:=2) fA c a rfl rfl) (aA (kS rfl rfl) (aD (v:=zB (p.Name == ([]:bJ))) (aF ?_))))))));obtain rfl:=zI hm
       exact aX (aY (aK (aO results206 rfl ⟨rfl,c⟩)))
      ·refine aI x rfl (aW (bH (aB (aJ (aD (v:=zB false) (aF ?_))))));obtain rfl:=zI hm
       exact aX (aO results206 rfl ⟨rfl,c⟩)
 refine aJ (aA (cK rfl rfl) (aD (v:=zB (p.Kind == 0)) (aF ?_)))
 rcases aH hm with ⟨y,hm⟩|⟨y,hm⟩
 ·exact aL y rfl (aW (aB ⟨aT,p.Kind == 0,hm,rfl,j⟩))
 ·exact aI y rfl (aU (aA (cK rfl rfl) (aD (v:=zB (p.Kind == 2)) (aF ⟨aT,p.Kind == 2,hm,rfl,j⟩))))
theorem aIn {b:(List Part)} {h R:Int} (hm:aFi b h=some R) (m:aM G K (L) w) (i:bY K a1 c2 b):
  Calls prog 134 ([zS a1 b.length c2,i64 h]:List Value).toArray w (eK fun v w'=>v=i64 R/\aM G K (L) w'):=by
 refine aP func134 rfl (by kernel_rfl) (by show (2:Nat)<=18;decide) ?_;unfold aFi at hm
 refine aJ (aD (v:=i64 0) (aF (aJ (aD (v:=i64 1) (aF (aN (bM [] (fun f w=>∃ c,aCa c=some R/\f 1=i64 c/\aM G K (L) w) ?_ ?_)))))))
 ·rintro f V ⟨c,hm,n,o⟩
  unfold aCa at hm
  refine aB (aJ (bF n (aD (v:=i64 c) (aF ?_))));obtain rfl:=zI hm
  exact aX (aO results134 rfl ⟨rfl,o⟩)
 obtain ⟨O,q,ho⟩:=aC hm
 refine dD [0] q (fun a d f w=>f 1=i64 a/\f 5=i64 d/\aM G K (L) w) ?_ ?_
 ·exact ⟨rfl,rfl,m⟩
 ·rintro a d a0 f a2 hm hr ⟨e,j,k⟩
  unfold aEv at hm
  refine aN (aJ (bF j (aA (nN rfl rfl) (aF ?_))))
  rcases aH hm with ⟨g,hm⟩|⟨g,hm⟩
  ·refine aL g rfl (aW (aB (bX (aJ (bF j (aG (v:=zS a1 b.length c2) (bF e ?_)))))));obtain ⟨a3,l,hm⟩:=aC hm
   refine aA (cG iH rfl i rfl rfl rfl l) ?_;obtain ⟨a4,r,t⟩:=bY.el (sz:=4) rfl i l
   obtain ⟨a5,a6,rfl,u⟩:=t
   obtain ⟨x,y,hm⟩:=aC hm
   refine aQ (vs:=[eP a1 (a.toNat * 4+0)]) call173 rfl (aFs y k r u) ?_
   rintro _ a7 ⟨rfl,z⟩
   exact aA (iW rfl rfl) (aA (cA rfl rfl) (aD (v:=i64 (wr (d+(wr (x - 1))))) (aF (aU (bF e (aA (cA rfl rfl) (aD (v:=i64 (wr (a+1))) (cW (bH (aB ⟨_,(zI hm).symm,aT,rfl,rfl,z⟩))))))))))
  ·refine aI g rfl (cD (bA (bA ?_)))
   have J:=hr _ (zI hm).symm
   subst J
   have hm:(aCa a)=some R:=ho
   clear hr ho
   exact bR (aB ⟨aT,a,hm,e,k⟩)
theorem aKZ {d:Definition} {c:Nat} {part R:Int} (hm:aBh d part=some R) (r:aM G K (L) w) (b:iG K a1 c [bE d.Name,i64 d.Parameters,zS a4 d.Body.length c5]) (l:bY K a4 c5 d.Body):
  Calls prog 207 ([eP a1 c,i64 part]:List Value).toArray w (eK fun v w'=>v=i64 R/\aM G K (L) w'):=by
 refine aP func207 rfl (by kernel_rfl) (by show (2:Nat)<=38;decide) ?_;unfold aBh at hm
 refine aJ (aD (v:=i64 0) (aF (aJ (aG (v:=eP a1 c) (aA (eR rfl b) (aA (cH (k':=c+1) rE rfl b rfl) (aA (cC (t:=1) dC r b rfl rfl) (aD (v:=i64 d.Parameters) (aF (aN (aJ (aD (v:=i64 0) (aF (bM [] (fun f w=>∃ j,aBD j=some R/\f 5=i64 j/\aM G K (L) w) ?_ ?_))))))))))))))
 ·rintro f w9 ⟨j,hm,O,a0⟩
  unfold aBD at hm
  refine aB (aJ (bF O (aD (v:=i64 j) (aF ?_))));obtain rfl:=zI hm
  exact aX (aO results207 rfl ⟨rfl,a0⟩)
 obtain ⟨b3,a3,ho⟩:=aC hm
 refine dD [0,1] a3 (fun e h f w=>f 5=i64 e/\f 6=i64 h/\aM G K (L) w) ?_ ?_
 ·exact ⟨rfl,rfl,r⟩
 ·rintro e h u f b4 hm hr ⟨m,k,i⟩
  unfold lC at hm
  refine aN (aJ (bF k (aG (v:=i64 part) (aA (cF rfl rfl) (aF ?_)))))
  rcases aH hm with ⟨n,hm⟩|⟨n,hm⟩
  ·refine aL n rfl (aW (aB (aN (bM [0,1,6] (fun f w=>∃ o,wB h o=some u/\f 5=i64 o/\aM G K (L) w) ?_ ?_))))
   ·rintro f b5 ⟨o,hm,a5,a6⟩
    unfold wB at hm
    exact aB (aU (bF k (aA (cA rfl rfl) (aD (v:=i64 (wr (h+1))) (aF ⟨_,(zI hm).symm,aT,a5,rfl,a6⟩)))))
   refine aN (cP [0,1,5,6] (fun f w=>∃ p,wC e h p=some u/\f 34=zB p/\aM G K (L) w) ?_ ?_)
   ·rintro f b6 ⟨p,hm,x,y⟩
    unfold wC at hm
    refine aB ?_
    rcases aH hm with ⟨q,hm⟩|⟨q,hm⟩
    ·exact aL q x (aU (bF m (aA (cA rfl rfl) (aD (v:=i64 (wr (e+1))) (cW (bH (aB ⟨aT,wr (e+1),hm,rfl,y⟩)))))))
    ·exact aI q x (aW (bH (aB ⟨aT,e,hm,m,y⟩)))
   refine aU (aG (v:=eP a1 c) (aA (eR rfl b) (aA (cH (k':=c+2) jJ rfl b rfl) (aA (cC (t:=2) qO i b rfl rfl) (bF k ?_)))));obtain ⟨a7,z,hm⟩:=aC hm
   refine aA (cG iH rfl l rfl rfl rfl z) ?_;obtain ⟨b7,J,a8⟩:=bY.el (sz:=4) rfl l z
   obtain ⟨b8,b9,rfl,c0⟩:=a8
   refine aA (cH (k':=h.toNat * 4+0) eY rfl J rfl) (aA (cC (t:=0) dC i J rfl rfl) (aA (cK rfl rfl) (aG (v:=zB (a7.Kind == 4)) ?_)))
   rcases aH hm with ⟨a,hm⟩|⟨a,hm⟩
   ·refine bB a rfl rfl (aG (v:=eP a1 c) (bB a rfl rfl (aA (eR rfl b) (bB a rfl rfl (aA (cH (k':=c+2) jJ rfl b rfl) (bB a rfl rfl (aA (cC (t:=2) qO i b rfl rfl) (bB a rfl rfl (bF k (bB a rfl rfl ?_))))))))));obtain ⟨V,a9,hm⟩:=aC hm
    refine aQ (vs:=[zS a4 d.Body.length c5,i64 h]) call134 rfl (aIn a9 i l) ?_
    rintro _ c1 ⟨rfl,b0⟩
    exact bB a rfl rfl (aG (v:=i64 part) (bB a rfl rfl (aA (nN rfl rfl) (aA (bI (v:=zB (decide (part < V))) a rfl rfl) (aF ⟨aT,decide (part < V),hm,rfl,b0⟩)))))
   ·exact aV a rfl rfl (aV a rfl rfl (aV a rfl rfl (aV a rfl rfl (aV a rfl rfl (aV a rfl rfl (aV a rfl rfl (aV a rfl rfl (aA (bL (v:=zB false) a rfl rfl) (aF ⟨aT,false,hm,rfl,i⟩)))))))))
  ·refine aI n rfl (cD (bA (bA ?_)))
   have b1:=hr _ (zI hm).symm
   subst b1
   have hm:(aBD e)=some R:=ho
   clear hr ho
   exact bR (aB ⟨aT,e,hm,m,i⟩)
theorem aMf {t:bS} {b:Nat} {d:Int} {R:Bool} (hm:aFj t d=some R) (c:aM G K (L) w) (a:iG K a1 b [i64 t.Kind,i64 t.Value]):
  Calls prog 243 ([eP a1 b,i64 d]:List Value).toArray w (eK fun v w'=>v=zB R/\aM G K (L) w'):=by
 refine aP func243 rfl (by kernel_rfl) (by show (2:Nat)<=39;decide) ?_;unfold aFj at hm
 refine aJ (aD (v:=zB false) (aF (aN (aJ (aG (v:=eP a1 b) (aA (eR rfl a) (aA (cH (k':=b+0) vT rfl a rfl) (aA (cC (t:=0) dC c a rfl rfl) (aF (bX (aJ (aA (cK rfl rfl) (aD (v:=zB (t.Kind == 0)) (aF ?_))))))))))))))
 rcases aH hm with ⟨e,hm⟩|⟨e,hm⟩
 ·refine aL e rfl (aJ (aG (v:=eP a1 b) (aA (eR rfl a) (aA (cH (k':=b+1) kL rfl a rfl) (aA (cC (t:=1) dC c a rfl rfl) ?_)))));obtain ⟨j,k,hm⟩:=aC hm
  refine aQ (vs:=[i64 t.Value,i64 0,i64 63]) call48 rfl (iQ k c) ?_
  rintro _ V ⟨rfl,l⟩
  refine aD (v:=zB j) (aF ?_);obtain rfl:=zI hm
  exact aX (aY (aK (aO results243 rfl ⟨rfl,l⟩)))
 ·refine aI e rfl (aJ (aA (cK rfl rfl) (aD (v:=zB (t.Kind == 1)) (aF ?_))))
  rcases aH hm with ⟨g,hm⟩|⟨g,hm⟩
  ·refine aL g rfl (aJ (aG (v:=eP a1 b) (aA (eR rfl a) (aA (cH (k':=b+1) kL rfl a rfl) (aA (cC (t:=1) dC c a rfl rfl) (aG (v:=i64 d) (aA (iW rfl rfl) ?_)))))));obtain ⟨n,o,hm⟩:=aC hm
   refine aQ (vs:=[i64 t.Value,i64 0,i64 (wr (d - 1))]) call48 rfl (iQ o c) ?_
   rintro _ O ⟨rfl,p⟩
   refine aD (v:=zB n) (aF ?_);obtain rfl:=zI hm
   exact aX (aY (aK (aO results243 rfl ⟨rfl,p⟩)))
  ·refine aI g rfl (aJ (aA (cK rfl rfl) (aD (v:=zB (t.Kind == 2)) (aF ?_))))
   rcases aH hm with ⟨h,hm⟩|⟨h,hm⟩
   ·refine aL h rfl (aJ (aG (v:=eP a1 b) (aA (eR rfl a) (aA (cH (k':=b+1) kL rfl a rfl) (aA (cC (t:=1) dC c a rfl rfl) ?_)))));obtain ⟨r,u,hm⟩:=aC hm
    refine aQ (vs:=[i64 t.Value,i64 0,i64 8]) call48 rfl (iQ u c) ?_
    rintro _ a0 ⟨rfl,x⟩
    refine aD (v:=zB r) (aF ?_);obtain rfl:=zI hm
    exact aX (aY (aK (aO results243 rfl ⟨rfl,x⟩)))
   ·refine aI h rfl (aJ (aA (cK rfl rfl) (aD (v:=zB (t.Kind == 3)) (aF ?_))))
    rcases aH hm with ⟨i,hm⟩|⟨i,hm⟩
    ·refine aL i rfl (aJ (aG (v:=eP a1 b) (aA (eR rfl a) (aA (cH (k':=b+1) kL rfl a rfl) (aA (cC (t:=1) dC c a rfl rfl) (aA (cK rfl rfl) (aD (v:=zB (t.Value == 0)) (aF ?_))))))));obtain rfl:=zI hm
     exact aX (aY (aK (aO results243 rfl ⟨rfl,c⟩)))
    ·refine aI i rfl (aW (bH (aB (aJ (aD (v:=zB false) (aF ?_))))));obtain rfl:=zI hm
     exact aX (aO results243 rfl ⟨rfl,c⟩)
theorem aGw {t:bS} {a:Nat} {R:Int} (hm:aBi t=some R) (b:aM G K (L) w) (c:iG K a1 a [i64 t.Kind,i64 t.Value]):
  Calls prog 244 ([eP a1 a]:List Value).toArray w (eK fun v w'=>v=i64 R/\aM G K (L) w'):=by
 refine aP func244 rfl (by kernel_rfl) (by show (1:Nat)<=11;decide) ?_;unfold aBi at hm
 refine aJ (aD (v:=i64 0) (aF (aN (aJ (aG (v:=eP a1 a) (aA (eR rfl c) (aA (cH (k':=a+0) vT rfl c rfl) (aA (cC (t:=0) dC b c rfl rfl) (aF (bX (aJ (aA (cK rfl rfl) (aD (v:=zB (t.Kind == 2)) (aF ?_))))))))))))))
 rcases aH hm with ⟨d,hm⟩|⟨d,hm⟩
 ·refine aL d rfl (aJ (aD (v:=i64 2) (aF ?_)));obtain rfl:=zI hm
  exact aX (aY (aK (aO results244 rfl ⟨rfl,b⟩)))
 ·refine aI d rfl (aJ (aA (cK rfl rfl) (aD (v:=zB (t.Kind == 3)) (aF ?_))))
  rcases aH hm with ⟨e,hm⟩|⟨e,hm⟩
  ·refine aL e rfl (aJ (aD (v:=i64 1) (aF ?_)));obtain rfl:=zI hm
   exact aX (aY (aK (aO results244 rfl ⟨rfl,b⟩)))
  ·refine aI e rfl (aW (bH (aB (aJ (aD (v:=i64 0) (aF ?_))))));obtain rfl:=zI hm
   exact aX (aO results244 rfl ⟨rfl,b⟩)
theorem aOF {e:(List bS)} {d k:Int} {R:Bool} (hm:aIY e d k=some R) (r:aM G K (L) w) (h:bY K a1 c2 e):
  Calls prog 208 ([zS a1 e.length c2,i64 d,i64 k]:List Value).toArray w (eK fun v w'=>v=zB R/\aM G K (L) w'):=by
 refine aP func208 rfl (by kernel_rfl) (by show (3:Nat)<=38;decide) ?_;unfold aIY at hm
 refine aJ (aD (v:=zB false) (aF (aN (aJ (aG (v:=zS a1 e.length c2) (aA (bO (len:=e.length) lX rfl) (aG (v:=i64 k) (aA (nN rfl rfl) (aF ?_)))))))))
 rcases aH hm with ⟨l,hm⟩|⟨l,hm⟩
 ·refine aL l rfl (aJ (aD (v:=zB false) (aF ?_)));obtain rfl:=zI hm
  exact aX (aK (aO results208 rfl ⟨rfl,r⟩))
 ·refine aI l rfl (aW (aB (aJ (aD (v:=i64 1) (aF (aN (aJ (aD (v:=i64 0) (aF (bM [] (fun f w=>∃ i,aFV i=some R/\f 7=i64 i/\aM G K (L) w) ?_ ?_))))))))))
  ·rintro f w8 ⟨i,hm,V,O⟩
   unfold aFV at hm
   refine aB (aJ (bF V (aA (cK rfl rfl) (aD (v:=zB (i == 0)) (aF ?_)))));obtain rfl:=zI hm
   exact aX (aO results208 rfl ⟨rfl,O⟩)
  obtain ⟨b7,a2,ho⟩:=aC hm
  refine dD [0,1] a2 (fun b c f w=>f 7=i64 b/\f 8=i64 c/\aM G K (L) w) ?_ ?_
  ·exact ⟨rfl,rfl,r⟩
  ·rintro b c a3 f b8 hm hr ⟨m,j,n⟩
   unfold aDN at hm
   refine aN (aJ (bF j (aG (v:=zS a1 e.length c2) (aA (bO (len:=e.length) lX rfl) (aA (cF rfl rfl) (aF ?_))))))
   rcases aH hm with ⟨o,hm⟩|⟨o,hm⟩
   ·refine aL o rfl (aW (aB (aN (bX (aN (aN (cP [0,1,7,8] (fun f w=>∃ p,aDM e b c p=some a3/\f 28=zB p/\aM G K (L) w) ?_ ?_)))))))
    ·rintro f b9 ⟨p,hm,t,u⟩
     unfold aDM at hm
     refine aB ?_
     rcases aH hm with ⟨q,hm⟩|⟨q,hm⟩
     ·refine aL q t (aJ (aD (v:=zB false) (aF (aX (aK (aY (aK (aK ?_))))))))
      have a4:=hr _ (zI hm).symm
      subst a4
      have hm:(some false)=some R:=ho
      clear hr ho
      obtain rfl:=zI hm
      exact aY (aK (aK (aO results208 rfl ⟨rfl,u⟩)))
     ·refine aI q t (aW (aB (aU (bF m (aG (v:=zS a1 e.length c2) (bF j ?_))))));obtain ⟨c0,x,hm⟩:=aC hm
      refine aA (cG lX rfl h rfl rfl rfl x) ?_;obtain ⟨c1,a6,a7⟩:=bY.el (sz:=2) rfl h x
      cases a7
      obtain ⟨a8,a9,hm⟩:=aC hm
      refine aQ (vs:=[eP a1 (c.toNat * 2+0)]) call244 rfl (aGw a9 u a6) ?_
      rintro _ c3 ⟨rfl,b0⟩
      exact aA (iW rfl rfl) (aA (cA rfl rfl) (aD (v:=i64 (wr (b+(wr (a8 - 1))))) (cW (bH (aB (aU (bF j (aA (cA rfl rfl) (aD (v:=i64 (wr (c+1))) (aF ⟨_,(zI hm).symm,aT,rfl,rfl,b0⟩))))))))))
    refine aU (bF m (aA (cK rfl rfl) (aG (v:=zB (b == 0)) ?_)))
    rcases aH hm with ⟨a,hm⟩|⟨a,hm⟩
    ·exact aR a rfl rfl (aR a rfl rfl (aR a rfl rfl (aR a rfl rfl (aR a rfl rfl (aR a rfl rfl (aA (bI (v:=zB true) a rfl rfl) (aF ⟨aT,true,hm,rfl,n⟩)))))))
    ·refine bD a rfl rfl (aG (v:=zS a1 e.length c2) (bD a rfl rfl (bF j (bD a rfl rfl ?_))));obtain ⟨c5,y,hm⟩:=aC hm
     refine aA (cG lX rfl h rfl rfl rfl y) ?_;obtain ⟨c6,b1,b2⟩:=bY.el (sz:=2) rfl h y
     cases b2
     refine bD a rfl rfl (aG (v:=i64 d) (bD a rfl rfl ?_));obtain ⟨z,b3,hm⟩:=aC hm
     refine aQ (vs:=[eP a1 (c.toNat * 2+0),i64 d]) call243 rfl (aMf b3 n b1) ?_
     rintro _ c7 ⟨rfl,b4⟩
     exact bD a rfl rfl (aA (dA rfl) (aA (bL (v:=zB (!z)) a rfl rfl) (aF ⟨aT,!z,hm,rfl,b4⟩)))
   ·refine aI o rfl (cD (bA (bA ?_)))
    have b5:=hr _ (zI hm).symm
    subst b5
    have hm:(aFV b)=some R:=ho
    clear hr ho
    exact bR (aB ⟨aT,b,hm,m,n⟩)
end Gv
namespace Gv
open Gv.Hp renaming le_refl→zR
open Go.Value renaming slice→zS,bool→zB
open Option.some renaming inj→zI
open Go Go.Proofs Go.Proofs.Tryz
set_option maxRecDepth 20000
set_option maxHeartbeats 40000000
variable {G:qG} {K:Hp} {L:List iU} {w:World} {a1 a4 a7 a10 a13 a16:Option Addr} {c2 c8 c5 c11 c14 c17:Nat}
theorem aJX {n:(List Definition)} {d:Definition} {y:Nat} {j R:Int} (hm:yP n d j=some R) (hs:aM G K (L) w) (h3:bY K a1 c2 n) (J:iG K a4 y [bE d.Name,i64 d.Parameters,zS a7 d.Body.length c8]) (h9:bY K a7 c8 d.Body):
  Calls prog 172 ([zS a1 n.length c2,eP a4 y,i64 j]:List Value).toArray w (eK fun v w'=>v=i64 R/\aM G K (L) w'):=by
 refine aP func172 rfl (by kernel_rfl) (by show (3:Nat)<=126;decide) ?_;unfold yP at hm
 refine aJ (aD (v:=i64 0) (aF (aJ (aG (v:=eP a4 y) (aA (eR rfl J) (aA (cH (k':=y+2) jJ rfl J rfl) (aA (cC (t:=2) qO hs J rfl rfl) (aG (v:=i64 j) ?_))))))));obtain ⟨a,d6,hm⟩:=aC hm
 refine aA (cG iH rfl h9 rfl rfl rfl d6) ?_;obtain ⟨j8,f3,f4⟩:=bY.el (sz:=4) rfl h9 d6
 obtain ⟨o,p,rfl,a9⟩:=f4
 refine aA (dZ (t:=0) (vs:=[i64 a.Kind,i64 a.Number,bE a.Name,zS o a.Arguments.length p]) yD hs f3 rfl rfl rfl) (eA (vs:=[i64 0,i64 0,bE ([]:bJ),zS none 0 0]) zeroValue152 hs rfl (fun u j9 f5=>(eD (i:=0) (ns:=[i64 a.Kind,i64 a.Number,bE a.Name,zS o a.Arguments.length p]) (us:=[i64 a.Kind,i64 a.Number,bE a.Name,zS o a.Arguments.length p]) sizeOf152 f5 rfl rfl rfl rfl rfl (gJ rfl) rfl rfl (fun f6 (f7:aM G K (box u 152 [i64 a.Kind,i64 a.Number,bE a.Name,zS o a.Arguments.length p]::L) f6)=>(aF (aN (aJ ?_)))))))
 obtain ⟨k0,f8,f9,g0,g1⟩:=aM.lendBp f7 .head
 obtain ⟨k1,g2,hm⟩:=aC hm
 refine aQ (vs:=[eP (some ⟨u,0,none⟩) 0]) call206 rfl (aMe g2 g0 f9 (a9.mono f8)) ?_
 rintro _ k2 ⟨rfl,g3⟩
 have a3:=g1 _ _ g3
 refine aA (dA rfl) (aF ?_)
 rcases aH hm with ⟨b0,hm⟩|⟨b0,hm⟩
 ·refine aL b0 rfl (aJ (aD (v:=i64 2) (aF ?_)));obtain rfl:=zI hm
  exact aX (aK (aO results172 rfl ⟨rfl,(aM.arr 1 [] a3 rfl)⟩))
 ·refine aI b0 rfl (aW (aB (aN (aN (cP [0,1,2,7] (fun f w=>∃ b1,pF n d j a b1=some R/\f 28=zB b1/\aM G K (box u 152 [i64 a.Kind,i64 a.Number,bE a.Name,zS o a.Arguments.length p]::L) w) ?_ ?_)))))
  ·rintro f k3 ⟨b1,hm,d7,z⟩
   unfold pF at hm
   refine aB ?_
   rcases aH hm with ⟨b2,hm⟩|⟨b2,hm⟩
   ·refine aL b2 d7 (aJ (aD (v:=i64 3) (aF ?_)));obtain rfl:=zI hm
    exact aX (aK (aO results172 rfl ⟨rfl,(aM.arr 1 [] z rfl)⟩))
   ·refine aI b2 d7 (aW (aB (aN (aN (cP [0,1,2,7] (fun f w=>∃ b3,jS n d j a b3=some R/\f 51=zB b3/\aM G K (box u 152 [i64 a.Kind,i64 a.Number,bE a.Name,zS o a.Arguments.length p]::L) w) ?_ ?_)))))
    ·rintro f k4 ⟨b3,hm,d8,k⟩
     unfold jS at hm
     refine aB ?_
     rcases aH hm with ⟨c45,hm⟩|⟨c45,hm⟩
     ·refine aL c45 d8 (aJ (aD (v:=i64 4) (aF ?_)));obtain rfl:=zI hm
      exact aX (aK (aO results172 rfl ⟨rfl,(aM.arr 1 [] k rfl)⟩))
     ·refine aI c45 d8 (aW (aB (aJ (aA (bC (t':=3) jI rfl rfl) (aA (bQ qN k (i:=0) rfl rfl rfl) (aA (bO (len:=a.Arguments.length) lE rfl) (aD (v:=i64 (a.Arguments.length:Int)) (aF (aN (aJ (aA (bC (t':=0) eY rfl rfl) (aA (bQ dC k (i:=0) rfl rfl rfl) (aF (bM [1,2,7,8] (fun f w=>jR d j a=some R/\aM G K (box u 152 [i64 a.Kind,i64 a.Number,bE a.Name,zS o a.Arguments.length p]::L) w) ?_ ?_))))))))))))))
      ·rintro f k6 ⟨hm,a0⟩
       unfold jR at hm
       refine aB (aN (aN (cP [1,2,7,8] (fun f w=>∃ b4,mZ d j a b4=some R/\f 102=zB b4/\aM G K (box u 152 [i64 a.Kind,i64 a.Number,bE a.Name,zS o a.Arguments.length p]::L) w) ?_ ?_)))
       ·rintro f k7 ⟨b4,hm,d9,e0⟩
        unfold mZ at hm
        refine aB ?_
        rcases aH hm with ⟨b5,hm⟩|⟨b5,hm⟩
        ·refine aL b5 d9 (aJ (aD (v:=i64 6) (aF ?_)));obtain rfl:=zI hm
         exact aX (aK (aO results172 rfl ⟨rfl,(aM.arr 1 [] e0 rfl)⟩))
        ·refine aI b5 d9 (aW (aB (aJ (aG (v:=eP a4 y) (aG (v:=i64 j) ?_)))));obtain ⟨V,g8,hm⟩:=aC hm
         refine aQ (vs:=[eP a4 y,i64 j]) call207 rfl (aKZ g8 e0 J h9) ?_
         rintro _ k8 ⟨rfl,b6⟩
         refine aD (v:=i64 V) (aF (aN (aN (cP [7,8,9] (fun f w=>∃ b7,pD a V b7=some R/\f 112=zB b7/\aM G K (box u 152 [i64 a.Kind,i64 a.Number,bE a.Name,zS o a.Arguments.length p]::L) w) ?_ ?_))))
         ·rintro f k9 ⟨b7,hm,e1,e2⟩
          unfold pD at hm
          refine aB ?_
          rcases aH hm with ⟨b8,hm⟩|⟨b8,hm⟩
          ·refine aL b8 e1 (aJ (aD (v:=i64 7) (aF ?_)));obtain rfl:=zI hm
           exact aX (aK (aO results172 rfl ⟨rfl,(aM.arr 1 [] e2 rfl)⟩))
          ·refine aI b8 e1 (aW (aB (aN (aJ (aD (v:=i64 0) (aF (bM [] (fun f w=>tC=some R/\aM G K (L) w) ?_ ?_)))))))
           ·rintro f l0 ⟨hm,h0⟩
            unfold tC at hm
            refine aB (aJ (aD (v:=i64 0) (aF ?_)));obtain rfl:=zI hm
            exact aX (aO results172 rfl ⟨rfl,h0⟩)
           obtain ⟨l1,h2,ho⟩:=aC hm
           refine dP [7,8,9] h2 (fun b9 f w=>f 10=i64 b9/\aM G K (box u 152 [i64 a.Kind,i64 a.Number,bE a.Name,zS o a.Arguments.length p]::L) w) ?_ ?_
           ·exact ⟨rfl,e2⟩
           ·rintro b9 l2 f l3 hm hr ⟨c0,a6⟩
            unfold pC at hm
            refine aN (aJ (bF c0 (aG (v:=i64 (a.Arguments.length:Int)) (aA (cF rfl rfl) (aF ?_)))))
            rcases aH hm with ⟨c1,hm⟩|⟨c1,hm⟩
            ·refine aL c1 rfl (aW (aB (aN (bX (aJ (aA (bC (t':=3) jI rfl rfl) (aA (bQ qN a6 (i:=0) rfl rfl rfl) (bF c0 ?_))))))));obtain ⟨h4,e3,hm⟩:=aC hm
             refine aA (cG lE rfl a9 rfl rfl rfl e3) ?_;obtain ⟨l4,h5,h7⟩:=bY.el (sz:=1) rfl a9 e3
             obtain ⟨h8,i0,rfl,i1⟩:=h7
             refine aA (cC (t:=0) aFP a6 h5 rfl rfl) (aG (v:=i64 V) ?_);obtain ⟨l5,i2,hm⟩:=aC hm
             refine aQ (vs:=[zS h8 h4.length i0,i64 V,i64 15]) call208 rfl (aOF i2 a6 i1) ?_
             rintro _ l6 ⟨rfl,e4⟩
             refine aA (dA rfl) (aF ?_)
             rcases aH hm with ⟨c3,hm⟩|⟨c3,hm⟩
             ·refine aL c3 rfl (aJ (aD (v:=i64 8) (aF (aX (aY (aK (aK ?_)))))))
              have i3:=hr _ (zI hm).symm
              subst i3
              have hm:(some 8)=some R:=ho
              clear hr ho
              obtain rfl:=zI hm
              exact aY (aK (aK (aO results172 rfl ⟨rfl,(aM.arr 1 [] e4 rfl)⟩)))
             ·exact aI c3 rfl (aW (bH (aB (aU (bF c0 (aA (cA rfl rfl) (aD (v:=i64 (wr (b9+1))) (aF ⟨_,(zI hm).symm,aT,rfl,e4⟩))))))))
            ·refine aI c1 rfl (cD (bA (bA ?_)))
             have i5:=hr _ (zI hm).symm
             subst i5
             have hm:(tC)=some R:=ho
             clear hr ho
             exact bR (aB ⟨aT,hm,(aM.arr 1 [] a6 rfl)⟩)
         refine aU (aA (bC (t':=0) eY rfl rfl) (aA (bQ dC b6 (i:=0) rfl rfl rfl) (aA (cK rfl rfl) (aG (v:=zB (a.Kind == 4)) ?_))))
         rcases aH hm with ⟨O,hm⟩|⟨O,hm⟩
         ·exact bB O rfl rfl (aG (v:=i64 V) (bB O rfl rfl (aA (sO rfl rfl) (aA (bI (v:=zB (decide (6<=V))) O rfl rfl) (aF ⟨aT,decide (6<=V),hm,rfl,b6⟩)))))
         ·exact aV O rfl rfl (aV O rfl rfl (aA (bL (v:=zB false) O rfl rfl) (aF ⟨aT,false,hm,rfl,b6⟩)))
       refine aU (aA (bC (t':=0) eY rfl rfl) (aA (bQ dC a0 (i:=0) rfl rfl rfl) (aA (cK rfl rfl) (aG (v:=zB (a.Kind == 5)) ?_))))
       rcases aH hm with ⟨l,hm⟩|⟨l,hm⟩
       ·refine bB l rfl rfl (aG (v:=i64 j) (bB l rfl rfl (aA (cK rfl rfl) (bB l rfl rfl (aG (v:=zB (j == 0)) ?_)))))
        rcases aH hm with ⟨b,hm⟩|⟨b,hm⟩
        ·exact aR b rfl rfl (aR b rfl rfl (aR b rfl rfl (aR b rfl rfl (aR b rfl rfl (aR b rfl rfl (aR b rfl rfl (aR b rfl rfl (aR b rfl rfl (aR b rfl rfl (bB l rfl rfl (aA (bI (v:=zB true) b rfl rfl) (aA (bI (v:=zB true) l rfl rfl) (aF ⟨aT,true,hm,rfl,a0⟩)))))))))))))
        ·refine bD b rfl rfl (aG (v:=eP a4 y) (bD b rfl rfl (aA (eR rfl J) (bD b rfl rfl (aA (cH (k':=y+2) jJ rfl J rfl) (bD b rfl rfl (aA (cC (t:=2) qO a0 J rfl rfl) (bD b rfl rfl (aG (v:=i64 j) (bD b rfl rfl (aA (iW rfl rfl) (bD b rfl rfl ?_))))))))))));obtain ⟨c4,e5,hm⟩:=aC hm
         refine aA (cG iH rfl h9 rfl rfl rfl e5) ?_;obtain ⟨l7,e6,i6⟩:=bY.el (sz:=4) rfl h9 e5
         obtain ⟨l8,l9,rfl,m0⟩:=i6
         exact bD b rfl rfl (aA (cH (k':=(wr (j - 1)).toNat * 4+0) eY rfl e6 rfl) (bD b rfl rfl (aA (cC (t:=0) dC a0 e6 rfl rfl) (bD b rfl rfl (aA (fV rfl rfl) (bB l rfl rfl (aA (bL (v:=zB (c4.Kind != 1)) b rfl rfl) (aA (bI (v:=zB (c4.Kind != 1)) l rfl rfl) (aF ⟨aT,c4.Kind != 1,hm,rfl,a0⟩)))))))))
       ·exact aV l rfl rfl (aV l rfl rfl (aV l rfl rfl (cL (g:=90) rfl rfl (cL (g:=90) rfl rfl (cL (g:=90) rfl rfl (cL (g:=90) rfl rfl (cL (g:=90) rfl rfl (cL (g:=90) rfl rfl (cL (g:=90) rfl rfl (cL (g:=90) rfl rfl (cL (g:=90) rfl rfl (cL (g:=90) rfl rfl (aV l rfl rfl (aA (bL (v:=zB false) l rfl rfl) (aF ⟨aT,false,hm,rfl,a0⟩)))))))))))))))
      refine aJ (aA (cK rfl rfl) (aD (v:=zB (a.Kind == 1)) (aF ?_)))
      rcases aH hm with ⟨c5,hm⟩|⟨c5,hm⟩
      ·refine aL c5 rfl (aN (cP [1,2,7,8] (fun f w=>∃ c6,pE d j a c6=some R/\f 69=zB c6/\aM G K (box u 152 [i64 a.Kind,i64 a.Number,bE a.Name,zS o a.Arguments.length p]::L) w) ?_ ?_))
       ·rintro f m1 ⟨c6,hm,e7,e8⟩
        unfold pE at hm
        refine aB ?_
        rcases aH hm with ⟨c7,hm⟩|⟨c7,hm⟩
        ·refine aL c7 e7 (aJ (aD (v:=i64 5) (aF ?_)));obtain rfl:=zI hm
         exact aX (aY (aK (aK (aO results172 rfl ⟨rfl,(aM.arr 1 [] e8 rfl)⟩))))
        ·exact aI c7 e7 (aW (bH (aB ⟨aT,hm,e8⟩)))
       refine aU (aG (v:=i64 (a.Arguments.length:Int)) (aA (nN rfl rfl) (aG (v:=zB (decide (2 < (a.Arguments.length:Int)))) ?_)))
       rcases aH hm with ⟨m,hm⟩|⟨m,hm⟩
       ·exact aR m rfl rfl (aR m rfl rfl (aR m rfl rfl (cL (g:=64) rfl rfl (cL (g:=64) rfl rfl (cL (g:=64) rfl rfl (aR m rfl rfl (aA (bI (v:=zB true) m rfl rfl) (aF ⟨aT,true,hm,rfl,k⟩))))))))
       ·refine bD m rfl rfl (aG (v:=i64 (a.Arguments.length:Int)) (bD m rfl rfl (aA (nN rfl rfl) (bD m rfl rfl (aG (v:=zB (decide (0 < (a.Arguments.length:Int)))) ?_)))))
        rcases aH hm with ⟨x,hm⟩|⟨x,hm⟩
        ·exact bB x rfl rfl (aA (bC (t':=2) lD rfl rfl) (bB x rfl rfl (aA (bQ fA k (i:=0) rfl rfl rfl) (bB x rfl rfl (aA (kS rfl rfl) (bD m rfl rfl (aA (bI (v:=zB (a.Name == ([116,97,117]:bJ))) x rfl rfl) (aA (bL (v:=zB (a.Name == ([116,97,117]:bJ))) m rfl rfl) (aF ⟨aT,a.Name == ([116,97,117]:bJ),hm,rfl,k⟩)))))))))
        ·exact aV x rfl rfl (aV x rfl rfl (aV x rfl rfl (bD m rfl rfl (aA (bL (v:=zB false) x rfl rfl) (aA (bL (v:=zB false) m rfl rfl) (aF ⟨aT,false,hm,rfl,k⟩))))))
      ·refine aI c5 rfl (aJ (aA (cK rfl rfl) (aD (v:=zB (a.Kind == 3)) (aF ?_))))
       rcases aH hm with ⟨c9,hm⟩|⟨c9,hm⟩
       ·refine aL c9 rfl (aJ (aG (v:=i64 (a.Arguments.length:Int)) (aA (fV rfl rfl) (aF ?_))))
        rcases aH hm with ⟨d0,hm⟩|⟨d0,hm⟩
        ·refine aL d0 rfl (aJ (aD (v:=i64 5) (aF ?_)));obtain rfl:=zI hm
         exact aX (aY (aK (aK (aO results172 rfl ⟨rfl,(aM.arr 1 [] k rfl)⟩))))
        ·exact aI d0 rfl (aW (bH (aB ⟨aT,hm,k⟩)))
       ·refine aI c9 rfl (aJ (aA (cK rfl rfl) (aD (v:=zB (a.Kind == 5)) (aF ?_))))
        rcases aH hm with ⟨d1,hm⟩|⟨d1,hm⟩
        ·refine aL d1 rfl (aJ (aG (v:=i64 (a.Arguments.length:Int)) (aG (v:=zS a1 n.length c2) (aA (bC (t':=1) jH rfl rfl) (aA (bQ dC k (i:=0) rfl rfl rfl) ?_)))));obtain ⟨m2,e9,hm⟩:=aC hm
         refine aA (cG jO rfl h3 rfl rfl rfl e9) ?_;obtain ⟨m3,f0,i9⟩:=bY.el (sz:=3) rfl h3 e9
         obtain ⟨m4,m5,rfl,m6⟩:=i9
         refine aA (cH (k':=a.Number.toNat * 3+1) rE rfl f0 rfl) (aA (cC (t:=1) dC k f0 rfl rfl) (aA (fV rfl rfl) (aF ?_)))
         rcases aH hm with ⟨d2,hm⟩|⟨d2,hm⟩
         ·refine aL d2 rfl (aJ (aD (v:=i64 5) (aF ?_)));obtain rfl:=zI hm
          exact aX (aY (aK (aK (aO results172 rfl ⟨rfl,(aM.arr 1 [] k rfl)⟩))))
         ·exact aI d2 rfl (aW (bH (aB ⟨aT,hm,k⟩)))
        ·exact aI d1 rfl (aW (bH (aB ⟨aT,hm,k⟩)))
    refine aU (aA (bC (t':=0) eY rfl rfl) (aA (bQ dC z (i:=0) rfl rfl rfl) (aA (cK rfl rfl) (aG (v:=zB (a.Kind == 4)) ?_))))
    rcases aH hm with ⟨q,hm⟩|⟨q,hm⟩
    ·refine bB q rfl rfl (aA (bC (t':=1) jH rfl rfl) (bB q rfl rfl (aA (bQ dC z (i:=0) rfl rfl rfl) (bB q rfl rfl ?_))));obtain ⟨f1,j1,hm⟩:=aC hm
     refine aQ (vs:=[i64 a.Number,i64 1,i64 7]) call48 rfl (iQ j1 z) ?_
     rintro _ m7 ⟨rfl,a5⟩
     refine bB q rfl rfl (aA (dA rfl) (aA (bI (v:=zB (!f1)) q rfl rfl) (aG (v:=zB (!f1)) ?_)))
     rcases aH hm with ⟨h,hm⟩|⟨h,hm⟩
     ·exact aR h rfl rfl (aR h rfl rfl (aR h rfl rfl (aR h rfl rfl (cL (g:=42) rfl rfl (cL (g:=42) rfl rfl (cL (g:=42) rfl rfl (cL (g:=42) rfl rfl (cL (g:=42) rfl rfl (cL (g:=42) rfl rfl (cL (g:=42) rfl rfl (aR h rfl rfl (aA (bI (v:=zB true) h rfl rfl) (aF ⟨aT,true,hm,rfl,a5⟩)))))))))))))
     ·refine bD h rfl rfl (aA (bC (t':=0) eY rfl rfl) (bD h rfl rfl (aA (bQ dC a5 (i:=0) rfl rfl rfl) (bD h rfl rfl (aA (cK rfl rfl) (bD h rfl rfl (aG (v:=zB (a.Kind == 5)) ?_)))))))
      rcases aH hm with ⟨c,hm⟩|⟨c,hm⟩
      ·refine bB c rfl rfl (aA (bC (t':=1) jH rfl rfl) (bB c rfl rfl (aA (bQ dC a5 (i:=0) rfl rfl rfl) (bB c rfl rfl (aG (v:=zS a1 n.length c2) (bB c rfl rfl (aA (bO (len:=n.length) jO rfl) (bB c rfl rfl (aA (iW rfl rfl) (bB c rfl rfl ?_))))))))));obtain ⟨d3,j2,hm⟩:=aC hm
       refine aQ (vs:=[i64 a.Number,i64 0,i64 (wr ((n.length:Int) - 1))]) call48 rfl (iQ j2 a5) ?_
       rintro _ m8 ⟨rfl,j3⟩
       exact bB c rfl rfl (aA (dA rfl) (bD h rfl rfl (aA (bI (v:=zB (!d3)) c rfl rfl) (aA (bL (v:=zB (!d3)) h rfl rfl) (aF ⟨aT,!d3,hm,rfl,j3⟩)))))
      ·exact aV c rfl rfl (aV c rfl rfl (aV c rfl rfl (aV c rfl rfl (aV c rfl rfl (aV c rfl rfl (aV c rfl rfl (bD h rfl rfl (aA (bL (v:=zB false) c rfl rfl) (aA (bL (v:=zB false) h rfl rfl) (aF ⟨aT,false,hm,rfl,a5⟩))))))))))
    ·refine aV q rfl rfl (aV q rfl rfl (aV q rfl rfl (aV q rfl rfl (aA (bL (v:=zB false) q rfl rfl) (aG (v:=zB false) (bD (by decide:¬ false=true) rfl rfl (aA (bC (t':=0) eY rfl rfl) (bD (by decide:¬ false=true) rfl rfl (aA (bQ dC z (i:=0) rfl rfl rfl) (bD (by decide:¬ false=true) rfl rfl (aA (cK rfl rfl) (bD (by decide:¬ false=true) rfl rfl (aG (v:=zB (a.Kind == 5)) ?_)))))))))))))
     rcases aH hm with ⟨e,hm⟩|⟨e,hm⟩
     ·refine bB e rfl rfl (aA (bC (t':=1) jH rfl rfl) (bB e rfl rfl (aA (bQ dC z (i:=0) rfl rfl rfl) (bB e rfl rfl (aG (v:=zS a1 n.length c2) (bB e rfl rfl (aA (bO (len:=n.length) jO rfl) (bB e rfl rfl (aA (iW rfl rfl) (bB e rfl rfl ?_))))))))));obtain ⟨d4,j4,hm⟩:=aC hm
      refine aQ (vs:=[i64 a.Number,i64 0,i64 (wr ((n.length:Int) - 1))]) call48 rfl (iQ j4 z) ?_
      rintro _ m9 ⟨rfl,j5⟩
      exact bB e rfl rfl (aA (dA rfl) (bD (by decide:¬ false=true) rfl rfl (aA (bI (v:=zB (!d4)) e rfl rfl) (aA (bL (v:=zB (!d4)) (by decide:¬ false=true) rfl rfl) (aF ⟨aT,!d4,hm,rfl,j5⟩)))))
     ·exact aV e rfl rfl (aV e rfl rfl (aV e rfl rfl (aV e rfl rfl (aV e rfl rfl (aV e rfl rfl (aV e rfl rfl (bD (by decide:¬ false=true) rfl rfl (aA (bL (v:=zB false) e rfl rfl) (aA (bL (v:=zB false) (by decide:¬ false=true) rfl rfl) (aF ⟨aT,false,hm,rfl,z⟩))))))))))
  refine aU (aA (bC (t':=0) eY rfl rfl) (aA (bQ dC a3 (i:=0) rfl rfl rfl) (aA (cK rfl rfl) (aG (v:=zB (a.Kind == 1)) ?_))))
  rcases aH hm with ⟨r,hm⟩|⟨r,hm⟩
  ·refine bB r rfl rfl (aA (bC (t':=2) lD rfl rfl) (bB r rfl rfl (aA (bQ fA a3 (i:=0) rfl rfl rfl) (bB r rfl rfl ?_))));obtain ⟨f2,j6,hm⟩:=aC hm
   refine aQ (vs:=[bE a.Name]) call127 rfl (aAY j6 a3) ?_
   rintro _ n0 ⟨rfl,j7⟩
   exact bB r rfl rfl (aA (dA rfl) (aA (bI (v:=zB (!f2)) r rfl rfl) (aF ⟨aT,!f2,hm,rfl,j7⟩)))
  ·exact aV r rfl rfl (aV r rfl rfl (aV r rfl rfl (aV r rfl rfl (aA (bL (v:=zB false) r rfl rfl) (aF ⟨aT,false,hm,rfl,a3⟩)))))
theorem aMg {e:(List Definition)} {d:Definition} {a:Nat} {R:(Int × Int)} (hm:aDr e d=some R) (m:aM G K (L) w) (q:bY K a1 c2 e) (b:iG K a4 a [bE d.Name,i64 d.Parameters,zS a7 d.Body.length c8]) (n:bY K a7 c8 d.Body):
  Calls prog 128 ([zS a1 e.length c2,eP a4 a]:List Value).toArray w (eK fun v w'=>v=Value.tuple #[i64 R.1,i64 R.2]/\aM G K (L) w'):=by
 refine aP func128 rfl (by kernel_rfl) (by show (2:Nat)<=31;decide) ?_;unfold aDr at hm
 refine aJ (aD (v:=i64 0) (aD (v:=i64 0) (aF (aN (aJ (aG (v:=eP a4 a) (aA (eR rfl b) (aA (cH (k':=a+2) jJ rfl b rfl) (aA (cC (t:=2) qO m b rfl rfl) ?_)))))))));obtain ⟨a2,r,hm⟩:=aC hm
 refine aQ (vs:=[zS a7 d.Body.length c8]) call171 rfl (aKY r m n) ?_
 rintro _ a3 ⟨rfl,o⟩
 refine aA (dA rfl) (aF ?_)
 rcases aH hm with ⟨i,hm⟩|⟨i,hm⟩
 ·refine aL i rfl (aJ (aD (v:=i64 0) (aD (v:=i64 1) (aF ?_))));obtain rfl:=zI hm
  exact aX (aK (kJ results128 rfl rfl ⟨rfl,o⟩))
 ·refine aI i rfl (aW (aB (aN (aJ (aD (v:=i64 0) (aF (bM [] (fun f w=>aCV=some R/\aM G K (L) w) ?_ ?_)))))))
  ·rintro f a5 ⟨hm,x⟩
   unfold aCV at hm
   refine aB (aJ (aD (v:=i64 0) (aD (v:=i64 0) (aF ?_))));obtain rfl:=zI hm
   exact aX (kJ results128 rfl rfl ⟨rfl,x⟩)
  obtain ⟨a6,z,ho⟩:=aC hm
  refine dP [0,1] z (fun c f w=>f 6=i64 c/\aM G K (L) w) ?_ ?_
  ·exact ⟨rfl,o⟩
  ·rintro c a8 f a9 hm hr ⟨h,j⟩
   unfold uO at hm
   refine aN (aJ (bF h (aG (v:=eP a4 a) (aA (eR rfl b) (aA (cH (k':=a+2) jJ rfl b rfl) (aA (cC (t:=2) qO j b rfl rfl) (aA (bO (len:=d.Body.length) iH rfl) (aA (cF rfl rfl) (aF ?_)))))))))
   rcases aH hm with ⟨k,hm⟩|⟨k,hm⟩
   ·refine aL k rfl (aW (aB (aN (bX (aJ (aG (v:=zS a1 e.length c2) (aG (v:=eP a4 a) (bF h ?_))))))));obtain ⟨g,J,hm⟩:=aC hm
    refine aQ (vs:=[zS a1 e.length c2,eP a4 a,i64 c]) call172 rfl (aJX J j q b n) ?_
    rintro _ b0 ⟨rfl,p⟩
    refine aD (v:=i64 g) (aF (aJ (aG (v:=i64 g) (aA (nN rfl rfl) (aF ?_)))))
    rcases aH hm with ⟨l,hm⟩|⟨l,hm⟩
    ·refine aL l rfl (aJ (bF h (aG (v:=i64 g) (aD (v:=i64 c) (aD (v:=i64 g) (aF (aX (aY (aK (aK ?_))))))))))
     have V:=hr _ (zI hm).symm
     subst V
     have hm:(some (c,g))=some R:=ho
     clear hr ho
     obtain rfl:=zI hm
     exact aY (aK (aK (kJ results128 rfl rfl ⟨rfl,p⟩)))
    ·exact aI l rfl (aW (bH (aB (aU (bF h (aA (cA rfl rfl) (aD (v:=i64 (wr (c+1))) (aF ⟨_,(zI hm).symm,aT,rfl,p⟩))))))))
   ·refine aI k rfl (cD (bA (bA ?_)))
    have a0:=hr _ (zI hm).symm
    subst a0
    have hm:(aCV)=some R:=ho
    clear hr ho
    exact bR (aB ⟨aT,hm,j⟩)
theorem aMh {a:(List Definition)} {R:Bool} (hm:aBj a=some R) (hs:aM G K (L) w) (d:bY K a1 c2 a):
  Calls prog 93 ([zS a1 a.length c2]:List Value).toArray w (eK fun v w'=>v=zB R/\aM G K (L) w'):=by
 refine aP func93 rfl (by kernel_rfl) (by show (1:Nat)<=70;decide) ?_;unfold aBj at hm
 refine aJ (aD (v:=zB false) (aF (aN (aN (cP [0] (fun f w=>∃ o,uR a o=some R/\f 15=zB o/\aM G K (L) w) ?_ ?_)))))
 ·rintro f w6 ⟨o,hm,e5,a6⟩
  unfold uR at hm
  refine aB ?_
  rcases aH hm with ⟨p,hm⟩|⟨p,hm⟩
  ·refine aL p e5 (aJ (aD (v:=zB false) (aF ?_)));obtain rfl:=zI hm
   exact aX (aK (aO results93 rfl ⟨rfl,a6⟩))
  ·refine aI p e5 (aW (aB (aN (aJ (aD (v:=i64 0) (aF (bM [0] (fun f w=>uP a=some R/\aM G K (L) w) ?_ ?_)))))))
   ·rintro f f3 ⟨hm,c0⟩
    unfold uP at hm
    refine aB (aN (aJ (aD (v:=i64 0) (aF (bM [] (fun f w=>aCW=some R/\aM G K (L) w) ?_ ?_)))))
    ·rintro f f4 ⟨hm,c1⟩
     unfold aCW at hm
     refine aB (aJ (aD (v:=zB true) (aF ?_)));obtain rfl:=zI hm
     exact aX (aO results93 rfl ⟨rfl,c1⟩)
    obtain ⟨f5,c4,ho⟩:=aC hm
    refine dP [0] c4 (fun l f w=>f 5=i64 l/\aM G K (L) w) ?_ ?_
    ·exact ⟨rfl,c0⟩
    ·rintro l f6 f f7 hm hr ⟨q,a7⟩
     unfold aAh at hm
     refine aN (aJ (bF q (aG (v:=zS a1 a.length c2) (aA (bO (len:=a.length) jO rfl) (aA (cF rfl rfl) (aF ?_))))))
     rcases aH hm with ⟨r,hm⟩|⟨r,hm⟩
     ·refine aL r rfl (aW (aB (aN (bX (aJ (aG (v:=zS a1 a.length c2) (aG (v:=zS a1 a.length c2) (bF q ?_))))))));obtain ⟨f8,a8,hm⟩:=aC hm
      refine aA (cG jO rfl d rfl rfl rfl a8) ?_;obtain ⟨f9,c5,c6⟩:=bY.el (sz:=3) rfl d a8
      obtain ⟨g0,g1,rfl,c7⟩:=c6
      obtain ⟨j,c9,hm⟩:=aC hm
      refine aQ (vs:=[zS a1 a.length c2,eP a1 (l.toNat * 3+0)]) call128 rfl (aMg c9 a7 d c5 c7) ?_
      rintro _ g2 ⟨rfl,a9⟩
      refine aG (v:=Value.tuple #[i64 j.1,i64 j.2]) (aA (cJ rfl rfl) (aA (cJ rfl rfl) (aD (v:=i64 j.1) (aD (v:=i64 j.2) (aF (aJ (aG (v:=i64 j.2) (aA (nN rfl rfl) (aF ?_)))))))))
      rcases aH hm with ⟨u,hm⟩|⟨u,hm⟩
      ·refine aL u rfl (aJ (aD (v:=zB false) (aF (aX (aY (aK (aK ?_)))))))
       have d0:=hr _ (zI hm).symm
       subst d0
       have hm:(some false)=some R:=ho
       clear hr ho
       obtain rfl:=zI hm
       exact aY (aK (aK (aO results93 rfl ⟨rfl,a9⟩)))
      ·exact aI u rfl (aW (bH (aB (aU (bF q (aA (cA rfl rfl) (aD (v:=i64 (wr (l+1))) (aF ⟨_,(zI hm).symm,aT,rfl,a9⟩))))))))
     ·refine aI r rfl (cD (bA (bA ?_)))
      have d2:=hr _ (zI hm).symm
      subst d2
      have hm:(aCW)=some R:=ho
      clear hr ho
      exact bR (aB ⟨aT,hm,a7⟩)
   obtain ⟨g3,d3,ho⟩:=aC hm
   refine dP [0] d3 (fun e f w=>f 3=i64 e/\aM G K (L) w) ?_ ?_
   ·exact ⟨rfl,a6⟩
   ·rintro e k f g4 hm hr ⟨i,x⟩
    unfold aAk at hm
    refine aN (aJ (bF i (aG (v:=zS a1 a.length c2) (aA (bO (len:=a.length) jO rfl) (aA (cF rfl rfl) (aF ?_))))))
    rcases aH hm with ⟨y,hm⟩|⟨y,hm⟩
    ·refine aL y rfl (aW (aB (aN (bM [0,3] (fun f w=>aCX e=some k/\aM G K (L) w) ?_ ?_))))
     ·rintro f g5 ⟨hm,d4⟩
      unfold aCX at hm
      exact aB (aU (bF i (aA (cA rfl rfl) (aD (v:=i64 (wr (e+1))) (aF ⟨_,(zI hm).symm,aT,rfl,d4⟩)))))
     refine aN (aN (cP [0,3] (fun f w=>∃ z,aAj a e z=some k/\f 37=zB z/\aM G K (L) w) ?_ ?_))
     ·rintro f g6 ⟨z,hm,b0,b1⟩
      unfold aAj at hm
      refine aB ?_
      rcases aH hm with ⟨J,hm⟩|⟨J,hm⟩
      ·refine aL J b0 (aJ (aD (v:=zB false) (aF (aX (aK (aY (aK (aK (aK ?_)))))))))
       have d5:=hr _ (zI hm).symm
       subst d5
       have hm:(some false)=some R:=ho
       clear hr ho
       obtain rfl:=zI hm
       exact aY (aK (aK (aO results93 rfl ⟨rfl,b1⟩)))
      ·refine aI J b0 (aW (aB (aJ (aD (v:=i64 0) (aF (bM [0,3] (fun f w=>uQ e=some k/\aM G K (L) w) ?_ ?_))))))
       ·rintro f g7 ⟨hm,d7⟩
        unfold uQ at hm
        exact bH (aB ⟨aT,hm,d7⟩)
       obtain ⟨g8,d8,ho⟩:=aC hm
       refine dP [0,3] d8 (fun m f w=>f 4=i64 m/\aM G K (L) w) ?_ ?_
       ·exact ⟨rfl,b1⟩
       ·rintro m g9 f h0 hm hr ⟨V,c⟩
        unfold aAi at hm
        refine aN (aJ (bF V (bF i (aA (cF rfl rfl) (aF ?_)))))
        rcases aH hm with ⟨O,hm⟩|⟨O,hm⟩
        ·refine aL O rfl (aW (aB (aN (bX (aN (dU (C:=fun w'=>aM G K (L) w') cI (by kernel_rfl) (aM.mono c (eH.drew _)) (bG (fun _ c=>bP (v:=zS a1 a.length c2) rfl) (bG (fun _ c=>bP V) ?_))))))));obtain ⟨h1,b2,hm⟩:=aC hm
         refine bG (fun _ c=>cG jO rfl d rfl rfl rfl b2) ?_;obtain ⟨h2,b3,d9⟩:=bY.el (sz:=3) rfl d b2
         obtain ⟨h4,h5,rfl,h6⟩:=d9
         refine bG (fun _ c=>cH (k':=m.toNat * 3+0) vU rfl b3 rfl) (bG (fun _ c=>cC (t:=0) fA c b3 rfl rfl) (bG (fun _ c=>bP (v:=zS a1 a.length c2) rfl) (bG (fun _ c=>bP i) ?_)));obtain ⟨h7,b4,hm⟩:=aC hm
         refine bG (fun _ c=>cG jO rfl d rfl rfl rfl b4) ?_;obtain ⟨h8,b5,e0⟩:=bY.el (sz:=3) rfl d b4
         obtain ⟨h9,i0,rfl,i1⟩:=e0
         refine bG (fun _ c=>cH (k':=e.toNat * 3+0) vU rfl b5 rfl) (bG (fun _ c=>cC (t:=0) fA c b5 rfl rfl) (bG (fun _ c=>kS rfl rfl) (eT (fun i2 b6=>(aB ?_)))))
         rcases aH hm with ⟨a0,hm⟩|⟨a0,hm⟩
         ·refine aL a0 rfl (aJ (aD (v:=zB false) (aF (aX (aY (aK (aK ?_)))))))
          have e1:=hr _ (zI hm).symm
          subst e1
          have hm:(some (.inr (.inr false)))=some k:=ho
          clear hr ho
          refine aY (aK (aY (aK (aK (aK ?_)))))
          have e2:=hr _ (zI hm).symm
          subst e2
          have hm:(some false)=some R:=ho
          clear hr ho
          obtain rfl:=zI hm
          exact aY (aK (aK (aO results93 rfl ⟨rfl,b6⟩)))
         ·exact aI a0 rfl (aW (bH (aB (aU (bF V (aA (cA rfl rfl) (aD (v:=i64 (wr (m+1))) (aF ⟨_,(zI hm).symm,aT,rfl,b6⟩))))))))
        ·refine aI O rfl (cD (bA (bA ?_)))
         have e4:=hr _ (zI hm).symm
         subst e4
         have hm:(uQ e)=some k:=ho
         clear hr ho
         exact bR (aB ⟨aT,hm,c⟩)
     refine aU (aG (v:=zS a1 a.length c2) (bF i ?_));obtain ⟨b7,a2,hm⟩:=aC hm
     refine aA (cG jO rfl d rfl rfl rfl a2) ?_;obtain ⟨i3,n,e6⟩:=bY.el (sz:=3) rfl d a2
     obtain ⟨i4,i5,rfl,i6⟩:=e6
     refine aA (cH (k':=e.toNat * 3+0) vU rfl n rfl) (aA (cC (t:=0) fA x n rfl rfl) ?_);obtain ⟨e7,e8,hm⟩:=aC hm
     refine aQ (vs:=[bE b7.Name]) call127 rfl (aAY e8 x) ?_
     rintro _ i7 ⟨rfl,a3⟩
     refine aA (dA rfl) (aG (v:=zB (!e7)) ?_)
     rcases aH hm with ⟨b,hm⟩|⟨b,hm⟩
     ·exact aR b rfl rfl (aR b rfl rfl (aR b rfl rfl (aR b rfl rfl (aR b rfl rfl (aR b rfl rfl (aR b rfl rfl (aA (bI (v:=zB true) b rfl rfl) (aF ⟨aT,true,hm,rfl,a3⟩))))))))
     ·refine bD b rfl rfl (aG (v:=zS a1 a.length c2) (bD b rfl rfl (bF i (bD b rfl rfl (aA (cG jO rfl d rfl rfl rfl a2) (bD b rfl rfl (aA (cH (k':=e.toNat * 3+1) rE rfl n rfl) (bD b rfl rfl (aA (cC (t:=1) dC a3 n rfl rfl) (bD b rfl rfl ?_))))))))));obtain ⟨b8,e9,hm⟩:=aC hm
      refine aQ (vs:=[i64 b7.Parameters,i64 0,i64 3]) call48 rfl (iQ e9 a3) ?_
      rintro _ i8 ⟨rfl,f0⟩
      exact bD b rfl rfl (aA (dA rfl) (aA (bL (v:=zB (!b8)) b rfl rfl) (aF ⟨aT,!b8,hm,rfl,f0⟩)))
    ·refine aI y rfl (cD (bA (bA ?_)))
     have f1:=hr _ (zI hm).symm
     subst f1
     have hm:(uP a)=some R:=ho
     clear hr ho
     exact bR (aB ⟨aT,hm,x⟩)
 refine aU (aG (v:=zS a1 a.length c2) (aA (bO (len:=a.length) jO rfl) (aA (cK rfl rfl) (aG (v:=zB ((a.length:Int) == 0)) ?_))))
 rcases aH hm with ⟨h,hm⟩|⟨h,hm⟩
 ·exact aR h rfl rfl (aR h rfl rfl (aR h rfl rfl (aA (bI (v:=zB true) h rfl rfl) (aF ⟨aT,true,hm,rfl,hs⟩))))
 ·exact bD h rfl rfl (aG (v:=zS a1 a.length c2) (bD h rfl rfl (aA (bO (len:=a.length) jO rfl) (bD h rfl rfl (aA (nN rfl rfl) (aA (bL (v:=zB (decide (4 < (a.length:Int)))) h rfl rfl) (aF ⟨aT,decide (4 < (a.length:Int)),hm,rfl,hs⟩)))))))
theorem aMi {a:(List Int)} {R:Bool} (hm:aFk a=some R) (k:aM G K (L) w) (h:bY K a1 c2 a):
  Calls prog 129 ([zS a1 a.length c2]:List Value).toArray w (eK fun v w'=>v=zB R/\aM G K (L) w'):=by
 refine aP func129 rfl (by kernel_rfl) (by show (1:Nat)<=16;decide) ?_;unfold aFk at hm
 refine aJ (aD (v:=zB false) (aF (aN (aJ (aD (v:=i64 0) (aF (bM [] (fun f w=>aCY=some R/\aM G K (L) w) ?_ ?_)))))))
 ·rintro f z ⟨hm,l⟩
  unfold aCY at hm
  refine aB (aJ (aD (v:=zB true) (aF ?_)));obtain rfl:=zI hm
  exact aX (aO results129 rfl ⟨rfl,l⟩)
 obtain ⟨J,n,ho⟩:=aC hm
 refine dP [0] n (fun b f w=>f 3=i64 b/\aM G K (L) w) ?_ ?_
 ·exact ⟨rfl,k⟩
 ·rintro b V f O hm hr ⟨c,d⟩
  unfold aAl at hm
  refine aN (aJ (bF c (aG (v:=zS a1 a.length c2) (aA (bO (len:=a.length) fN rfl) (aA (cF rfl rfl) (aF ?_))))))
  rcases aH hm with ⟨e,hm⟩|⟨e,hm⟩
  ·refine aL e rfl (aW (aB (aN (bX (aJ (aG (v:=zS a1 a.length c2) (bF c ?_)))))));obtain ⟨o,i,hm⟩:=aC hm
   refine aA (cG fN rfl h rfl rfl rfl i) ?_;obtain ⟨a0,p,q⟩:=bY.el (sz:=1) rfl h i
   cases q
   refine aA (cC (t:=0) dC d p rfl rfl) ?_;obtain ⟨a2,r,hm⟩:=aC hm
   refine aQ (vs:=[i64 o,i64 0,i64 63]) call48 rfl (iQ r d) ?_
   rintro _ a3 ⟨rfl,j⟩
   refine aA (dA rfl) (aF ?_)
   rcases aH hm with ⟨g,hm⟩|⟨g,hm⟩
   ·refine aL g rfl (aJ (aD (v:=zB false) (aF (aX (aY (aK (aK ?_)))))))
    have u:=hr _ (zI hm).symm
    subst u
    have hm:(some false)=some R:=ho
    clear hr ho
    obtain rfl:=zI hm
    exact aY (aK (aK (aO results129 rfl ⟨rfl,j⟩)))
   ·exact aI g rfl (aW (bH (aB (aU (bF c (aA (cA rfl rfl) (aD (v:=i64 (wr (b+1))) (aF ⟨_,(zI hm).symm,aT,rfl,j⟩))))))))
  ·refine aI e rfl (cD (bA (bA ?_)))
   have y:=hr _ (zI hm).symm
   subst y
   have hm:(aCY)=some R:=ho
   clear hr ho
   exact bR (aB ⟨aT,hm,d⟩)
theorem aHa {s_:bZ} {e:Nat} {R:Bool} (hm:rH s_=some R) (n:aM G K (L) w) (b:iG K a1 e [zS a4 s_.Definitions.length c5,zS a7 s_.Components.length c8,zS a10 s_.Meetings.length c11,zS a13 s_.Allowed.length c14,zS a16 s_.Hidden.length c17]) (O:bY K a4 c5 s_.Definitions) (h9:bY K a7 c8 s_.Components) (d5:bY K a10 c11 s_.Meetings) (d6:bY K a13 c14 s_.Allowed) (d7:bY K a16 c17 s_.Hidden):
  Calls prog 94 ([eP a1 e]:List Value).toArray w (eK fun v w'=>v=zB R/\aM G K (L) w'):=by
 refine aP func94 rfl (by kernel_rfl) (by show (1:Nat)<=64;decide) ?_;unfold rH at hm
 refine aJ (aD (v:=zB false) (aF (aN (aN (cP [0] (fun f w=>∃ p,nC s_ p=some R/\f 18=zB p/\aM G K (L) w) ?_ ?_)))))
 ·rintro f d8 ⟨p,hm,a2,a3⟩
  unfold nC at hm
  refine aB ?_
  rcases aH hm with ⟨q,hm⟩|⟨q,hm⟩
  ·refine aL q a2 (aJ (aD (v:=zB false) (aF ?_)));obtain rfl:=zI hm
   exact aX (aK (aO results94 rfl ⟨rfl,a3⟩))
  ·refine aI q a2 (aW (aB (aN (aJ (aD (v:=i64 0) (aF (bM [] (fun f w=>qR=some R/\aM G K (L) w) ?_ ?_)))))))
   ·rintro f d9 ⟨hm,b2⟩
    unfold qR at hm
    refine aB (aJ (aD (v:=zB true) (aF ?_)));obtain rfl:=zI hm
    exact aX (aO results94 rfl ⟨rfl,b2⟩)
   obtain ⟨e0,b4,ho⟩:=aC hm
   refine dP [0] b4 (fun o f w=>f 3=i64 o/\aM G K (L) w) ?_ ?_
   ·exact ⟨rfl,a3⟩
   ·rintro o b5 f e1 hm hr ⟨r,m⟩
    unfold nB at hm
    refine aN (aJ (bF r (aG (v:=eP a1 e) (aA (eR rfl b) (aA (cH (k':=e+1) uM rfl b rfl) (aA (cC (t:=1) aGs m b rfl rfl) (aA (bO (len:=s_.Components.length) vV rfl) (aA (cF rfl rfl) (aF ?_)))))))))
    rcases aH hm with ⟨u,hm⟩|⟨u,hm⟩
    ·refine aL u rfl (aW (aB (aN (bX (aJ (aG (v:=eP a1 e) (aA (eR rfl b) (aA (cH (k':=e+1) uM rfl b rfl) (aA (cC (t:=1) aGs m b rfl rfl) (bF r ?_))))))))));obtain ⟨c,a5,hm⟩:=aC hm
     refine aA (cG vV rfl h9 rfl rfl rfl a5) ?_;obtain ⟨e2,b6,b7⟩:=bY.el (sz:=2) rfl h9 a5
     obtain ⟨k,l,rfl,b8⟩:=b7
     refine aA (dZ (t:=0) (vs:=[i64 c.Definition,zS k c.Values.length l]) aFQ m b6 rfl rfl rfl) (eA (vs:=[i64 0,zS none 0 0]) zeroValue100 m rfl (fun x e3 b9=>(eD (i:=0) (ns:=[i64 c.Definition,zS k c.Values.length l]) (us:=[i64 c.Definition,zS k c.Values.length l]) sizeOf100 b9 rfl rfl rfl rfl rfl (gJ rfl) rfl rfl (fun c0 (h:aM G K (box x 100 [i64 c.Definition,zS k c.Values.length l]::L) c0)=>(aF (aN (aN (dU (C:=fun w'=>aM G K (box x 100 [i64 c.Definition,zS k c.Values.length l]::L) w') cI (by kernel_rfl) (aM.mono h (eH.drew _)) (bG (fun _ h=>bC (t':=0) vW rfl rfl) (bG (fun _ h=>bQ dC h (i:=0) rfl rfl rfl) (bG (fun _ h=>bP (v:=eP a1 e) rfl) (bG (fun _ h=>eR rfl b) (bG (fun _ h=>cH (k':=e+0) zW rfl b rfl) (bG (fun _ h=>cC (t:=0) aGR h b rfl rfl) (bG (fun _ h=>bO (len:=s_.Definitions.length) jO rfl) (bG (fun _ h=>iW rfl rfl) ?_))))))))))))))))
     obtain ⟨c1,c2,hm⟩:=aC hm
     refine eU (vs:=[i64 c.Definition,i64 0,i64 (wr ((s_.Definitions.length:Int) - 1))]) (v:=zB c1) call48 rfl (fun _ h=>(iQ c2 h)) (bG (fun _ h=>dA rfl) (eT (fun e4 a=>(aB ?_))))
     rcases aH hm with ⟨y,hm⟩|⟨y,hm⟩
     ·refine aL y rfl (aJ (aD (v:=zB false) (aF (aX (aK (aY (aK (aK ?_))))))))
      have c3:=hr _ (zI hm).symm
      subst c3
      have hm:(some false)=some R:=ho
      clear hr ho
      obtain rfl:=zI hm
      exact aY (aK (aK (aO results94 rfl ⟨rfl,(aM.arr 1 [] a rfl)⟩)))
     ·refine aI y rfl (aW (aB (aN (cP [0,3] (fun f w=>∃ z,nA o z=some b5/\f 63=zB z/\aM G K (L) w) ?_ ?_))))
      ·rintro f e5 ⟨z,hm,a6,a8⟩
       unfold nA at hm
       refine aB ?_
       rcases aH hm with ⟨J,hm⟩|⟨J,hm⟩
       ·refine aL J a6 (aJ (aD (v:=zB false) (aF (aX (aY (aK (aK ?_)))))))
        have c6:=hr _ (zI hm).symm
        subst c6
        have hm:(some false)=some R:=ho
        clear hr ho
        obtain rfl:=zI hm
        exact aY (aK (aK (aO results94 rfl ⟨rfl,a8⟩)))
       ·exact aI J a6 (aW (bH (aB (aU (bF r (aA (cA rfl rfl) (aD (v:=i64 (wr (o+1))) (aF ⟨_,(zI hm).symm,aT,rfl,a8⟩))))))))
      refine dU (C:=fun w'=>aM G K (box x 100 [i64 c.Definition,zS k c.Values.length l]::L) w') cI (by kernel_rfl) (aM.mono a (eH.drew _)) (bG (fun _ a=>bC (t':=1) vX rfl rfl) (bG (fun _ a=>bQ vL a (i:=0) rfl rfl rfl) (bG (fun _ a=>bO (len:=c.Values.length) fN rfl) (bG (fun _ a=>bP (v:=eP a1 e) rfl) (bG (fun _ a=>eR rfl b) (bG (fun _ a=>cH (k':=e+0) zW rfl b rfl) (bG (fun _ a=>cC (t:=0) aGR a b rfl rfl) (bG (fun _ a=>bC (t':=0) vW rfl rfl) (bG (fun _ a=>bQ dC a (i:=0) rfl rfl rfl) ?_)))))))))
      obtain ⟨c9,a9,hm⟩:=aC hm
      refine bG (fun _ a=>cG jO rfl O rfl rfl rfl a9) ?_;obtain ⟨e6,b0,d0⟩:=bY.el (sz:=3) rfl O a9
      obtain ⟨e7,e8,rfl,e9⟩:=d0
      refine bG (fun _ a=>cH (k':=c.Definition.toNat * 3+1) rE rfl b0 rfl) (bG (fun _ a=>cC (t:=1) dC a b0 rfl rfl) (bG (fun _ a=>fV rfl rfl) (bG (fun _ a=>bP (v:=zB ((c.Values.length:Int) != c9.Parameters)) rfl) ?_)))
      rcases aH hm with ⟨j,hm⟩|⟨j,hm⟩
      ·exact bW (g:=58) rfl rfl (eM j) (bW (g:=58) rfl rfl (eM j) (bW (g:=58) rfl rfl (eM j) (bW (g:=58) rfl rfl (eM j) (bG (fun _ a=>bI (v:=zB true) j rfl rfl) (eT (fun f0 d1=>(aB ⟨aT,true,hm,rfl,(aM.arr 1 [] d1 rfl)⟩)))))))
      ·refine cQ (g:=58) rfl rfl (eW j) (bG (fun _ a=>bC (t':=1) vX rfl rfl) (cQ (g:=58) rfl rfl (eW j) (bG (fun _ a=>bQ vL a (i:=0) rfl rfl rfl) (cQ (g:=58) rfl rfl (eW j) ?_))));obtain ⟨V,d2,hm⟩:=aC hm
       exact eU (vs:=[zS k c.Values.length l]) (v:=zB V) call129 rfl (fun _ a=>(aMi d2 a b8)) (cQ (g:=58) rfl rfl (eW j) (bG (fun _ a=>dA rfl) (bG (fun _ a=>bL (v:=zB (!V)) j rfl rfl) (eT (fun f1 d3=>(aB ⟨aT,!V,hm,rfl,(aM.arr 1 [] d3 rfl)⟩))))))
    ·refine aI u rfl (cD (bA (bA ?_)))
     have d4:=hr _ (zI hm).symm
     subst d4
     have hm:(qR)=some R:=ho
     clear hr ho
     exact bR (aB ⟨aT,hm,m⟩)
 refine aU (aG (v:=eP a1 e) (aA (eR rfl b) (aA (cH (k':=e+1) uM rfl b rfl) (aA (cC (t:=1) aGs n b rfl rfl) (aA (bO (len:=s_.Components.length) vV rfl) (aA (cK rfl rfl) (aG (v:=zB ((s_.Components.length:Int) == 0)) ?_)))))))
 rcases aH hm with ⟨d,hm⟩|⟨d,hm⟩
 ·exact aR d rfl rfl (aR d rfl rfl (aR d rfl rfl (aR d rfl rfl (aR d rfl rfl (aR d rfl rfl (aA (bI (v:=zB true) d rfl rfl) (aF ⟨aT,true,hm,rfl,n⟩)))))))
 ·exact bD d rfl rfl (aG (v:=eP a1 e) (bD d rfl rfl (aA (eR rfl b) (bD d rfl rfl (aA (cH (k':=e+1) uM rfl b rfl) (bD d rfl rfl (aA (cC (t:=1) aGs n b rfl rfl) (bD d rfl rfl (aA (bO (len:=s_.Components.length) vV rfl) (bD d rfl rfl (aA (nN rfl rfl) (aA (bL (v:=zB (decide (3 < (s_.Components.length:Int)))) d rfl rfl) (aF ⟨aT,decide (3 < (s_.Components.length:Int)),hm,rfl,n⟩)))))))))))))
theorem qB {s_:bJ} {R:Bool} (hm:nV s_=some R) (d:aM G K (L) w):
  Calls prog 130 ([bE s_]:List Value).toArray w (eK fun v w'=>v=zB R/\aM G K (L) w'):=by
 refine aP func130 rfl (by kernel_rfl) (by show (1:Nat)<=9;decide) ?_;unfold nV at hm
 refine aJ (aD (v:=zB false) (aF (aN (cP [] (fun f w=>∃ b,tD b=some R/\f 2=zB b/\aM G K (L) w) ?_ ?_))))
 ·rintro f l ⟨b,hm,e,h⟩
  unfold tD at hm
  refine aB ?_;obtain rfl:=zI hm
  exact aX (aO results130 rfl ⟨e,h⟩)
 refine aU (aG (v:=bE s_) ?_);obtain ⟨j,k,hm⟩:=aC hm
 refine aQ (vs:=[bE s_]) call127 rfl (aAY k d) ?_
 rintro _ m ⟨rfl,c⟩
 refine aG (v:=zB j) ?_
 rcases aH hm with ⟨a,hm⟩|⟨a,hm⟩
 ·exact bB a rfl rfl (aG (v:=bE s_) (bB a rfl rfl (aA (vO rfl rfl) (aA (bI (v:=zB (!(s_ == ([116,97,117]:bJ)))) a rfl rfl) (aD (v:=zB (!(s_ == ([116,97,117]:bJ)))) (aF ⟨aT,!(s_ == ([116,97,117]:bJ)),hm,rfl,c⟩))))))
 ·exact aV a rfl rfl (aV a rfl rfl (aA (bL (v:=zB false) a rfl rfl) (aD (v:=zB false) (aF ⟨aT,false,hm,rfl,c⟩))))
theorem aIA {k:(List bU)} {R:Bool} (hm:wD k=some R) (hs:aM G K (L) w) (p:bY K a1 c2 k):
  Calls prog 95 ([zS a1 k.length c2]:List Value).toArray w (eK fun v w'=>v=zB R/\aM G K (L) w'):=by
 refine aP func95 rfl (by kernel_rfl) (by show (1:Nat)<=101;decide) ?_;unfold wD at hm
 refine aJ (aD (v:=zB false) (aF (aN (aJ (aG (v:=zS a1 k.length c2) (aA (bO (len:=k.length) mB rfl) (aA (nN rfl rfl) (aF ?_))))))))
 rcases aH hm with ⟨c4,hm⟩|⟨c4,hm⟩
 ·refine aL c4 rfl (aJ (aD (v:=zB false) (aF ?_)));obtain rfl:=zI hm
  exact aX (aK (aO results95 rfl ⟨rfl,hs⟩))
 ·refine aI c4 rfl (aW (aB (aN (aJ (aD (v:=i64 0) (aF (bM [] (fun f w=>uS=some R/\aM G K (L) w) ?_ ?_)))))))
  ·rintro f w6 ⟨hm,c9⟩
   unfold uS at hm
   refine aB (aJ (aD (v:=zB true) (aF ?_)));obtain rfl:=zI hm
   exact aX (aO results95 rfl ⟨rfl,c9⟩)
  obtain ⟨g2,d1,ho⟩:=aC hm
  refine dP [0] d1 (fun m f w=>f 3=i64 m/\aM G K (L) w) ?_ ?_
  ·exact ⟨rfl,hs⟩
  ·rintro m x f g3 hm hr ⟨q,a3⟩
   unfold mP at hm
   refine aN (aJ (bF q (aG (v:=zS a1 k.length c2) (aA (bO (len:=k.length) mB rfl) (aA (cF rfl rfl) (aF ?_))))))
   rcases aH hm with ⟨a4,hm⟩|⟨a4,hm⟩
   ·refine aL a4 rfl (aW (aB (aN (bM [0,3] (fun f w=>uT m=some x/\aM G K (L) w) ?_ ?_))))
    ·rintro f g4 ⟨hm,d2⟩
     unfold uT at hm
     exact aB (aU (bF q (aA (cA rfl rfl) (aD (v:=i64 (wr (m+1))) (aF ⟨_,(zI hm).symm,aT,rfl,d2⟩)))))
    refine aJ (aG (v:=zS a1 k.length c2) (bF q ?_));obtain ⟨a,b7,hm⟩:=aC hm
    refine aA (cG mB rfl p rfl rfl rfl b7) ?_;obtain ⟨g5,d3,d4⟩:=bY.el (sz:=3) rfl p b7
    cases d4
    refine aA (dZ (t:=0) (vs:=[bE a.Left,bE a.Right,bE a.Result]) aEO a3 d3 rfl rfl rfl) (eA (vs:=[bE ([]:bJ),bE ([]:bJ),bE ([]:bJ)]) zeroValue107 a3 rfl (fun r g6 d5=>(eD (i:=0) (ns:=[bE a.Left,bE a.Right,bE a.Result]) (us:=[bE a.Left,bE a.Right,bE a.Result]) sizeOf107 d5 rfl rfl rfl rfl rfl (gJ rfl) rfl rfl (fun d6 (b8:aM G K (box r 107 [bE a.Left,bE a.Right,bE a.Result]::L) d6)=>(aF (aN (aN (cP [0,3,4] (fun f w=>∃ a5,jL k m a a5=some x/\f 41=zB a5/\aM G K (box r 107 [bE a.Left,bE a.Right,bE a.Result]::L) w) ?_ ?_))))))))
    ·rintro f g7 ⟨a5,hm,b9,b⟩
     unfold jL at hm
     refine aB ?_
     rcases aH hm with ⟨a6,hm⟩|⟨a6,hm⟩
     ·refine aL a6 b9 (aJ (aD (v:=zB false) (aF (aX (aK (aY (aK (aK (aK ?_)))))))))
      have d7:=hr _ (zI hm).symm
      subst d7
      have hm:(some false)=some R:=ho
      clear hr ho
      obtain rfl:=zI hm
      exact aY (aK (aK (aO results95 rfl ⟨rfl,(aM.arr 1 [] b rfl)⟩)))
     ·refine aI a6 b9 (aW (aB (aN (aN (cP [0,3,4] (fun f w=>∃ a7,jK k m a a7=some x/\f 76=zB a7/\aM G K (box r 107 [bE a.Left,bE a.Right,bE a.Result]::L) w) ?_ ?_)))))
      ·rintro f g8 ⟨a7,hm,c0,c1⟩
       unfold jK at hm
       refine aB ?_
       rcases aH hm with ⟨a8,hm⟩|⟨a8,hm⟩
       ·refine aL a8 c0 (aJ (aD (v:=zB false) (aF (aX (aK (aY (aK (aK (aK ?_)))))))))
        have d9:=hr _ (zI hm).symm
        subst d9
        have hm:(some false)=some R:=ho
        clear hr ho
        obtain rfl:=zI hm
        exact aY (aK (aK (aO results95 rfl ⟨rfl,(aM.arr 1 [] c1 rfl)⟩)))
       ·refine aI a8 c0 (aW (aB (aJ (aD (v:=i64 0) (aF (bM [0,3] (fun f w=>pG m=some x/\aM G K (L) w) ?_ ?_))))))
        ·rintro f g9 ⟨hm,e1⟩
         unfold pG at hm
         exact bH (aB ⟨aT,hm,e1⟩)
        obtain ⟨h0,e2,ho⟩:=aC hm
        refine dP [0,3,4] e2 (fun y f w=>f 5=i64 y/\aM G K (box r 107 [bE a.Left,bE a.Right,bE a.Result]::L) w) ?_ ?_
        ·exact ⟨rfl,c1⟩
        ·rintro y e3 f h1 hm hr ⟨J,e⟩
         unfold pI at hm
         refine aN (aJ (bF J (aG (v:=zS a1 k.length c2) (aA (bO (len:=k.length) mB rfl) (aA (cF rfl rfl) (aF ?_))))))
         rcases aH hm with ⟨a9,hm⟩|⟨a9,hm⟩
         ·refine aL a9 rfl (aW (aB (aN (bX (aN (cP [0,3,4,5] (fun f w=>∃ b0,pH y b0=some e3/\f 100=zB b0/\aM G K (box r 107 [bE a.Left,bE a.Right,bE a.Result]::L) w) ?_ ?_))))))
          ·rintro f h2 ⟨b0,hm,c3,c5⟩
           unfold pH at hm
           refine aB ?_
           rcases aH hm with ⟨b1,hm⟩|⟨b1,hm⟩
           ·refine aL b1 c3 (aJ (aD (v:=zB false) (aF (aX (aY (aK (aK ?_)))))))
            have e4:=hr _ (zI hm).symm
            subst e4
            have hm:(some (.inr (.inr false)))=some x:=ho
            clear hr ho
            refine aY (aK (aY (aK (aK (aK ?_)))))
            have e5:=hr _ (zI hm).symm
            subst e5
            have hm:(some false)=some R:=ho
            clear hr ho
            obtain rfl:=zI hm
            exact aY (aK (aK (aO results95 rfl ⟨rfl,(aM.arr 1 [] c5 rfl)⟩)))
           ·exact aI b1 c3 (aW (bH (aB (aU (bF J (aA (cA rfl rfl) (aD (v:=i64 (wr (y+1))) (aF ⟨_,(zI hm).symm,aT,rfl,c5⟩))))))))
          refine dU (C:=fun w'=>aM G K (box r 107 [bE a.Left,bE a.Right,bE a.Result]::L) w') cI (by kernel_rfl) (aM.mono e (eH.drew _)) (bG (fun _ e=>bP (v:=zS a1 k.length c2) rfl) (bG (fun _ e=>bP J) ?_));obtain ⟨b2,b3,hm⟩:=aC hm
          refine bG (fun _ e=>cG mB rfl p rfl rfl rfl b3) ?_;obtain ⟨h4,V,e7⟩:=bY.el (sz:=3) rfl p b3
          cases e7
          refine bG (fun _ e=>cH (k':=y.toNat * 3+0) kM rfl V rfl) (bG (fun _ e=>cC (t:=0) fA e V rfl rfl) (bG (fun _ e=>bC (t':=2) rF rfl rfl) (bG (fun _ e=>bQ fA e (i:=0) rfl rfl rfl) (bG (fun _ e=>kS rfl rfl) (bG (fun _ e=>bP (v:=zB (b2.Left == a.Result)) rfl) ?_)))))
          rcases aH hm with ⟨j,hm⟩|⟨j,hm⟩
          ·exact bW (g:=91) rfl rfl (eM j) (bW (g:=91) rfl rfl (eM j) (bW (g:=91) rfl rfl (eM j) (bW (g:=91) rfl rfl (eM j) (bW (g:=91) rfl rfl (eM j) (bW (g:=91) rfl rfl (eM j) (bW (g:=91) rfl rfl (eM j) (bW (g:=91) rfl rfl (eM j) (bG (fun _ e=>bI (v:=zB true) j rfl rfl) (eT (fun h5 e8=>(aB ⟨aT,true,hm,rfl,e8⟩)))))))))))
          ·exact cQ (g:=91) rfl rfl (eW j) (bG (fun _ e=>bP (v:=zS a1 k.length c2) rfl) (cQ (g:=91) rfl rfl (eW j) (bG (fun _ e=>bP J) (cQ (g:=91) rfl rfl (eW j) (bG (fun _ e=>cG mB rfl p rfl rfl rfl b3) (cQ (g:=91) rfl rfl (eW j) (bG (fun _ e=>cH (k':=y.toNat * 3+1) mC rfl V rfl) (cQ (g:=91) rfl rfl (eW j) (bG (fun _ e=>cC (t:=1) fA e V rfl rfl) (cQ (g:=91) rfl rfl (eW j) (bG (fun _ e=>bC (t':=2) rF rfl rfl) (cQ (g:=91) rfl rfl (eW j) (bG (fun _ e=>bQ fA e (i:=0) rfl rfl rfl) (cQ (g:=91) rfl rfl (eW j) (bG (fun _ e=>kS rfl rfl) (bG (fun _ e=>bL (v:=zB (b2.Right == a.Result)) j rfl rfl) (eT (fun h6 e9=>(aB ⟨aT,b2.Right == a.Result,hm,rfl,e9⟩)))))))))))))))))))
         ·refine aI a9 rfl (cD (bA (bA ?_)))
          have f0:=hr _ (zI hm).symm
          subst f0
          have hm:(pG m)=some x:=ho
          clear hr ho
          exact bR (aB ⟨aT,hm,(aM.arr 1 [] e rfl)⟩)
      refine dU (C:=fun w'=>aM G K (box r 107 [bE a.Left,bE a.Right,bE a.Result]::L) w') cI (by kernel_rfl) (aM.mono b (eH.drew _)) (bG (fun _ b=>bP q) (bG (fun _ b=>nN rfl rfl) (bG (fun _ b=>bP (v:=zB (decide (0 < m))) rfl) ?_)))
      rcases aH hm with ⟨c,hm⟩|⟨c,hm⟩
      ·refine cQ (g:=44) rfl rfl c (bG (fun _ b=>bP (v:=zS a1 k.length c2) rfl) (cQ (g:=44) rfl rfl c (bG (fun _ b=>bP q) (cQ (g:=44) rfl rfl c (bG (fun _ b=>iW rfl rfl) (cQ (g:=44) rfl rfl c ?_))))));obtain ⟨u,O,hm⟩:=aC hm
       refine bG (fun _ b=>cG mB rfl p rfl rfl rfl O) ?_;obtain ⟨h7,z,f1⟩:=bY.el (sz:=3) rfl p O
       cases f1
       refine cQ (g:=44) rfl rfl c (bG (fun _ b=>cH (k':=(wr (m - 1)).toNat * 3+0) kM rfl z rfl) (cQ (g:=44) rfl rfl c (bG (fun _ b=>cC (t:=0) fA b z rfl rfl) (cQ (g:=44) rfl rfl c (bG (fun _ b=>bC (t':=0) kM rfl rfl) (cQ (g:=44) rfl rfl c (bG (fun _ b=>bQ fA b (i:=0) rfl rfl rfl) (cQ (g:=44) rfl rfl c (bG (fun _ b=>aLK rfl rfl) (cQ (g:=44) rfl rfl c (bG (fun _ b=>bP (v:=zB (!(qF u.Left a.Left||u.Left == a.Left))) rfl) ?_)))))))))))
       rcases aH hm with ⟨d,hm⟩|⟨d,hm⟩
       ·refine bW (g:=54) rfl rfl (eM d) (bW (g:=54) rfl rfl (eM d) (bW (g:=54) rfl rfl (eM d) (bW (g:=54) rfl rfl (eM d) (bW (g:=54) rfl rfl (eM d) (bW (g:=54) rfl rfl (eM d) (bW (g:=54) rfl rfl (eM d) (bW (g:=54) rfl rfl (eM d) (bW (g:=54) rfl rfl (eM d) (bW (g:=54) rfl rfl (eM d) (cV (g:=64) rfl rfl (cV (g:=64) rfl rfl (cV (g:=64) rfl rfl (cV (g:=64) rfl rfl (cV (g:=64) rfl rfl (cV (g:=64) rfl rfl (cV (g:=64) rfl rfl (cV (g:=64) rfl rfl (cV (g:=64) rfl rfl (bW (g:=54) rfl rfl (eM d) (cQ (g:=44) rfl rfl c (bG (fun _ b=>bI (v:=zB true) d rfl rfl) (bG (fun _ b=>bI (v:=zB true) c rfl rfl) (eT ?_)))))))))))))))))))))))
        intro h8 f2
        exact aB ⟨aT,true,hm,rfl,f2⟩
       ·refine cQ (g:=54) rfl rfl (eW d) (bG (fun _ b=>bP (v:=zS a1 k.length c2) rfl) (cQ (g:=54) rfl rfl (eW d) (bG (fun _ b=>bP q) (cQ (g:=54) rfl rfl (eW d) (bG (fun _ b=>iW rfl rfl) (cQ (g:=54) rfl rfl (eW d) (bG (fun _ b=>cG mB rfl p rfl rfl rfl O) (cQ (g:=54) rfl rfl (eW d) (bG (fun _ b=>cH (k':=(wr (m - 1)).toNat * 3+0) kM rfl z rfl) (cQ (g:=54) rfl rfl (eW d) (bG (fun _ b=>cC (t:=0) fA b z rfl rfl) (cQ (g:=54) rfl rfl (eW d) (bG (fun _ b=>bC (t':=0) kM rfl rfl) (cQ (g:=54) rfl rfl (eW d) (bG (fun _ b=>bQ fA b (i:=0) rfl rfl rfl) (cQ (g:=54) rfl rfl (eW d) (bG (fun _ b=>kS rfl rfl) (cQ (g:=54) rfl rfl (eW d) (bG (fun _ b=>bP (v:=zB (u.Left == a.Left)) rfl) ?_)))))))))))))))))))
        rcases aH hm with ⟨h,hm⟩|⟨h,hm⟩
        ·refine cQ (g:=64) rfl rfl h (bG (fun _ b=>bP (v:=zS a1 k.length c2) rfl) (cQ (g:=64) rfl rfl h (bG (fun _ b=>bP q) (cQ (g:=64) rfl rfl h (bG (fun _ b=>iW rfl rfl) (cQ (g:=64) rfl rfl h (bG (fun _ b=>cG mB rfl p rfl rfl rfl O) (cQ (g:=64) rfl rfl h (bG (fun _ b=>cH (k':=(wr (m - 1)).toNat * 3+1) mC rfl z rfl) (cQ (g:=64) rfl rfl h (bG (fun _ b=>cC (t:=1) fA b z rfl rfl) (cQ (g:=64) rfl rfl h (bG (fun _ b=>bC (t':=1) mC rfl rfl) (cQ (g:=64) rfl rfl h (bG (fun _ b=>bQ fA b (i:=0) rfl rfl rfl) (cQ (g:=64) rfl rfl h (bG (fun _ b=>R_geqS rfl rfl) (cQ (g:=54) rfl rfl (eW d) (bG (fun _ b=>bI (v:=zB (!qF u.Right a.Right)) h rfl rfl) (cQ (g:=44) rfl rfl c (bG (fun _ b=>bL (v:=zB (!qF u.Right a.Right)) d rfl rfl) (bG (fun _ b=>bI (v:=zB (!qF u.Right a.Right)) c rfl rfl) (eT ?_)))))))))))))))))))))))
         intro h9 f3
         exact aB ⟨aT,!qF u.Right a.Right,hm,rfl,f3⟩
        ·exact bW (g:=64) rfl rfl (eB h) (bW (g:=64) rfl rfl (eB h) (bW (g:=64) rfl rfl (eB h) (bW (g:=64) rfl rfl (eB h) (bW (g:=64) rfl rfl (eB h) (bW (g:=64) rfl rfl (eB h) (bW (g:=64) rfl rfl (eB h) (bW (g:=64) rfl rfl (eB h) (bW (g:=64) rfl rfl (eB h) (cQ (g:=54) rfl rfl (eW d) (bG (fun _ b=>bL (v:=zB false) h rfl rfl) (cQ (g:=44) rfl rfl c (bG (fun _ b=>bL (v:=zB false) d rfl rfl) (bG (fun _ b=>bI (v:=zB false) c rfl rfl) (eT (fun i0 f4=>(aB ⟨aT,false,hm,rfl,f4⟩))))))))))))))))
      ·refine bW (g:=44) rfl rfl (eB c) (bW (g:=44) rfl rfl (eB c) (bW (g:=44) rfl rfl (eB c) (bW (g:=44) rfl rfl (eB c) (bW (g:=44) rfl rfl (eB c) (bW (g:=44) rfl rfl (eB c) (bW (g:=44) rfl rfl (eB c) (bW (g:=44) rfl rfl (eB c) (bW (g:=44) rfl rfl (eB c) (bW (g:=44) rfl rfl (eB c) (cV (g:=54) rfl rfl (cV (g:=54) rfl rfl (cV (g:=54) rfl rfl (cV (g:=54) rfl rfl (cV (g:=54) rfl rfl (cV (g:=54) rfl rfl (cV (g:=54) rfl rfl (cV (g:=54) rfl rfl (cV (g:=54) rfl rfl (cV (g:=54) rfl rfl (cV (g:=64) rfl rfl (cV (g:=64) rfl rfl (cV (g:=64) rfl rfl (cV (g:=64) rfl rfl ?_)))))))))))))))))))))))
       exact cV (g:=64) rfl rfl (cV (g:=64) rfl rfl (cV (g:=64) rfl rfl (cV (g:=64) rfl rfl (cV (g:=64) rfl rfl (cV (g:=54) rfl rfl (bW (g:=44) rfl rfl (eB c) (bG (fun _ b=>bL (v:=zB false) c rfl rfl) (eT (fun i1 f5=>(aB ⟨aT,false,hm,rfl,f5⟩))))))))))
    refine aU (aA (bC (t':=0) kM rfl rfl) (aA (bQ fA b8 (i:=0) rfl rfl rfl) ?_));obtain ⟨f6,f7,hm⟩:=aC hm
    refine aQ (vs:=[bE a.Left]) call130 rfl (qB f7 b8) ?_
    rintro _ i2 ⟨rfl,b4⟩
    refine aA (dA rfl) (aG (v:=zB (!f6)) ?_)
    rcases aH hm with ⟨n,hm⟩|⟨n,hm⟩
    ·exact aR n rfl rfl (aR n rfl rfl (aR n rfl rfl (aR n rfl rfl (aA (bI (v:=zB true) n rfl rfl) (aG (v:=zB true) (aR (rfl:true=true) rfl rfl (aR (rfl:true=true) rfl rfl (aR (rfl:true=true) rfl rfl (aR (rfl:true=true) rfl rfl (aA (bI (v:=zB true) (rfl:true=true) rfl rfl) (aG (v:=zB true) (aR (rfl:true=true) rfl rfl (aR (rfl:true=true) rfl rfl (aR (rfl:true=true) rfl rfl (aR (rfl:true=true) rfl rfl (aR (rfl:true=true) rfl rfl (aA (bI (v:=zB true) (rfl:true=true) rfl rfl) (aF ⟨aT,true,hm,rfl,b4⟩))))))))))))))))))
    ·refine bD n rfl rfl (aA (bC (t':=1) mC rfl rfl) (bD n rfl rfl (aA (bQ fA b4 (i:=0) rfl rfl rfl) (bD n rfl rfl ?_))));obtain ⟨c6,f8,hm⟩:=aC hm
     refine aQ (vs:=[bE a.Right]) call130 rfl (qB f8 b4) ?_
     rintro _ i3 ⟨rfl,b5⟩
     refine bD n rfl rfl (aA (dA rfl) (aA (bL (v:=zB (!c6)) n rfl rfl) (aG (v:=zB (!c6)) ?_)))
     rcases aH hm with ⟨o,hm⟩|⟨o,hm⟩
     ·exact aR o rfl rfl (aR o rfl rfl (aR o rfl rfl (aR o rfl rfl (aA (bI (v:=zB true) o rfl rfl) (aG (v:=zB true) (aR (rfl:true=true) rfl rfl (aR (rfl:true=true) rfl rfl (aR (rfl:true=true) rfl rfl (aR (rfl:true=true) rfl rfl (aR (rfl:true=true) rfl rfl (aA (bI (v:=zB true) (rfl:true=true) rfl rfl) (aF ⟨aT,true,hm,rfl,b5⟩))))))))))))
     ·refine bD o rfl rfl (aA (bC (t':=2) rF rfl rfl) (bD o rfl rfl (aA (bQ fA b5 (i:=0) rfl rfl rfl) (bD o rfl rfl ?_))));obtain ⟨c7,f9,hm⟩:=aC hm
      refine aQ (vs:=[bE a.Result]) call130 rfl (qB f9 b5) ?_
      rintro _ i4 ⟨rfl,a0⟩
      refine bD o rfl rfl (aA (dA rfl) (aA (bL (v:=zB (!c7)) o rfl rfl) (aG (v:=zB (!c7)) ?_)))
      rcases aH hm with ⟨l,hm⟩|⟨l,hm⟩
      ·exact aR l rfl rfl (aR l rfl rfl (aR l rfl rfl (aR l rfl rfl (aR l rfl rfl (aA (bI (v:=zB true) l rfl rfl) (aF ⟨aT,true,hm,rfl,a0⟩))))))
      ·exact bD l rfl rfl (aA (bC (t':=0) kM rfl rfl) (bD l rfl rfl (aA (bQ fA a0 (i:=0) rfl rfl rfl) (bD l rfl rfl (aA (bC (t':=1) mC rfl rfl) (bD l rfl rfl (aA (bQ fA a0 (i:=0) rfl rfl rfl) (bD l rfl rfl (aA (aLK rfl rfl) (aA (bL (v:=zB (!(qF a.Left a.Right||a.Left == a.Right))) l rfl rfl) (aF ⟨aT,!(qF a.Left a.Right||a.Left == a.Right),hm,rfl,a0⟩)))))))))))
   ·refine aI a4 rfl (cD (bA (bA ?_)))
    have g0:=hr _ (zI hm).symm
    subst g0
    have hm:(uS)=some R:=ho
    clear hr ho
    exact bR (aB ⟨aT,hm,a3⟩)
theorem aJe {a:(List bJ)} {R:Bool} (hm:aAm a=some R) (k:aM G K (L) w) (h:bY K a1 c2 a):
  Calls prog 131 ([zS a1 a.length c2]:List Value).toArray w (eK fun v w'=>v=zB R/\aM G K (L) w'):=by
 refine aP func131 rfl (by kernel_rfl) (by show (1:Nat)<=16;decide) ?_;unfold aAm at hm
 refine aJ (aD (v:=zB false) (aF (aN (aJ (aD (v:=i64 0) (aF (bM [] (fun f w=>xG=some R/\aM G K (L) w) ?_ ?_)))))))
 ·rintro f z ⟨hm,l⟩
  unfold xG at hm
  refine aB (aJ (aD (v:=zB true) (aF ?_)));obtain rfl:=zI hm
  exact aX (aO results131 rfl ⟨rfl,l⟩)
 obtain ⟨J,n,ho⟩:=aC hm
 refine dP [0] n (fun b f w=>f 3=i64 b/\aM G K (L) w) ?_ ?_
 ·exact ⟨rfl,k⟩
 ·rintro b V f O hm hr ⟨c,d⟩
  unfold rI at hm
  refine aN (aJ (bF c (aG (v:=zS a1 a.length c2) (aA (bO (len:=a.length) hH rfl) (aA (cF rfl rfl) (aF ?_))))))
  rcases aH hm with ⟨e,hm⟩|⟨e,hm⟩
  ·refine aL e rfl (aW (aB (aN (bX (aJ (aG (v:=zS a1 a.length c2) (bF c ?_)))))));obtain ⟨o,i,hm⟩:=aC hm
   refine aA (cG hH rfl h rfl rfl rfl i) ?_;obtain ⟨a0,p,q⟩:=bY.el (sz:=1) rfl h i
   cases q
   refine aA (cC (t:=0) fA d p rfl rfl) ?_;obtain ⟨a2,r,hm⟩:=aC hm
   refine aQ (vs:=[bE o]) call130 rfl (qB r d) ?_
   rintro _ a3 ⟨rfl,j⟩
   refine aA (dA rfl) (aF ?_)
   rcases aH hm with ⟨g,hm⟩|⟨g,hm⟩
   ·refine aL g rfl (aJ (aD (v:=zB false) (aF (aX (aY (aK (aK ?_)))))))
    have u:=hr _ (zI hm).symm
    subst u
    have hm:(some false)=some R:=ho
    clear hr ho
    obtain rfl:=zI hm
    exact aY (aK (aK (aO results131 rfl ⟨rfl,j⟩)))
   ·exact aI g rfl (aW (bH (aB (aU (bF c (aA (cA rfl rfl) (aD (v:=i64 (wr (b+1))) (aF ⟨_,(zI hm).symm,aT,rfl,j⟩))))))))
  ·refine aI e rfl (cD (bA (bA ?_)))
   have y:=hr _ (zI hm).symm
   subst y
   have hm:(xG)=some R:=ho
   clear hr ho
   exact bR (aB ⟨aT,hm,d⟩)
theorem aGx {b:(List bJ)} {R:Bool} (hm:aBk b=some R) (m:aM G K (L) w) (d:bY K a1 c2 b):
  Calls prog 96 ([zS a1 b.length c2]:List Value).toArray w (eK fun v w'=>v=zB R/\aM G K (L) w'):=by
 refine aP func96 rfl (by kernel_rfl) (by show (1:Nat)<=28;decide) ?_;unfold aBk at hm
 refine aJ (aD (v:=zB false) (aF (aN (aN (cP [0] (fun f w=>∃ h,wE b h=some R/\f 11=zB h/\aM G K (L) w) ?_ ?_)))))
 ·rintro f w6 ⟨h,hm,n,o⟩
  unfold wE at hm
  refine aB ?_
  rcases aH hm with ⟨i,hm⟩|⟨i,hm⟩
  ·refine aL i n (aJ (aD (v:=zB false) (aF ?_)));obtain rfl:=zI hm
   exact aX (aK (aO results96 rfl ⟨rfl,o⟩))
  ·refine aI i n (aW (aB (aN (aJ (aD (v:=i64 1) (aF (bM [] (fun f w=>aBE=some R/\aM G K (L) w) ?_ ?_)))))))
   ·rintro f a9 ⟨hm,y⟩
    unfold aBE at hm
    refine aB (aJ (aD (v:=zB true) (aF ?_)));obtain rfl:=zI hm
    exact aX (aO results96 rfl ⟨rfl,y⟩)
   obtain ⟨b0,J,ho⟩:=aC hm
   refine dP [0] J (fun j f w=>f 3=i64 j/\aM G K (L) w) ?_ ?_
   ·exact ⟨rfl,o⟩
   ·rintro j b1 f b2 hm hr ⟨e,a⟩
    unfold sB at hm
    refine aN (aJ (bF e (aG (v:=zS a1 b.length c2) (aA (bO (len:=b.length) hH rfl) (aA (cF rfl rfl) (aF ?_))))))
    rcases aH hm with ⟨k,hm⟩|⟨k,hm⟩
    ·refine aL k rfl (aW (aB (aN (bX (aN (dU (C:=fun w'=>aM G K (L) w') cI (by kernel_rfl) (aM.mono a (eH.drew _)) (bG (fun _ a=>bP (v:=zS a1 b.length c2) rfl) (bG (fun _ a=>bP e) (bG (fun _ a=>iW rfl rfl) ?_)))))))));obtain ⟨b3,p,hm⟩:=aC hm
     refine bG (fun _ a=>cG hH rfl d rfl rfl rfl p) ?_;obtain ⟨b4,V,O⟩:=bY.el (sz:=1) rfl d p
     cases O
     refine bG (fun _ a=>cC (t:=0) fA a V rfl rfl) (bG (fun _ a=>bP (v:=zS a1 b.length c2) rfl) (bG (fun _ a=>bP e) ?_));obtain ⟨b5,q,hm⟩:=aC hm
     refine bG (fun _ a=>cG hH rfl d rfl rfl rfl q) ?_;obtain ⟨b6,a0,a2⟩:=bY.el (sz:=1) rfl d q
     cases a2
     refine bG (fun _ a=>cC (t:=0) fA a a0 rfl rfl) (bG (fun _ a=>R_geqS rfl rfl) (eT (fun b7 r=>(aB ?_))))
     rcases aH hm with ⟨l,hm⟩|⟨l,hm⟩
     ·refine aL l rfl (aJ (aD (v:=zB false) (aF (aX (aY (aK (aK ?_)))))))
      have a3:=hr _ (zI hm).symm
      subst a3
      have hm:(some false)=some R:=ho
      clear hr ho
      obtain rfl:=zI hm
      exact aY (aK (aK (aO results96 rfl ⟨rfl,r⟩)))
     ·exact aI l rfl (aW (bH (aB (aU (bF e (aA (cA rfl rfl) (aD (v:=i64 (wr (j+1))) (aF ⟨_,(zI hm).symm,aT,rfl,r⟩))))))))
    ·refine aI k rfl (cD (bA (bA ?_)))
     have a5:=hr _ (zI hm).symm
     subst a5
     have hm:(aBE)=some R:=ho
     clear hr ho
     exact bR (aB ⟨aT,hm,a⟩)
 refine aU (aG (v:=zS a1 b.length c2) (aA (bO (len:=b.length) hH rfl) (aA (nN rfl rfl) (aG (v:=zB (decide (12 < (b.length:Int)))) ?_))))
 rcases aH hm with ⟨c,hm⟩|⟨c,hm⟩
 ·exact aR c rfl rfl (aR c rfl rfl (aR c rfl rfl (aA (bI (v:=zB true) c rfl rfl) (aF ⟨aT,true,hm,rfl,m⟩))))
 ·refine bD c rfl rfl (aG (v:=zS a1 b.length c2) (bD c rfl rfl ?_));obtain ⟨u,a6,hm⟩:=aC hm
  refine aQ (vs:=[zS a1 b.length c2]) call131 rfl (aJe a6 m d) ?_
  rintro _ b8 ⟨rfl,a7⟩
  exact bD c rfl rfl (aA (dA rfl) (aA (bL (v:=zB (!u)) c rfl rfl) (aF ⟨aT,!u,hm,rfl,a7⟩)))
theorem aLa {s_:bZ} {b:Nat} {R:Int} (hm:aDO s_=some R) (l:aM G K (L) w) (a:iG K a1 b [zS a4 s_.Definitions.length c5,zS a7 s_.Components.length c8,zS a10 s_.Meetings.length c11,zS a13 s_.Allowed.length c14,zS a16 s_.Hidden.length c17]) (m:bY K a4 c5 s_.Definitions) (u:bY K a7 c8 s_.Components) (n:bY K a10 c11 s_.Meetings) (o:bY K a13 c14 s_.Allowed) (p:bY K a16 c17 s_.Hidden):
  Calls prog 69 ([eP a1 b]:List Value).toArray w (eK fun v w'=>v=i64 R/\aM G K (L) w'):=by
 refine aP func69 rfl (by kernel_rfl) (by show (1:Nat)<=30;decide) ?_;unfold aDO at hm
 refine aJ (aD (v:=i64 0) (aF (aN (aJ (aG (v:=eP a1 b) (aA (eR rfl a) (aA (cH (k':=b+0) zW rfl a rfl) (aA (cC (t:=0) aGR l a rfl rfl) ?_))))))));obtain ⟨a8,x,hm⟩:=aC hm
 refine aQ (vs:=[zS a4 s_.Definitions.length c5]) call93 rfl (aMh x l m) ?_
 rintro _ a9 ⟨rfl,q⟩
 refine aA (dA rfl) (aF ?_)
 rcases aH hm with ⟨c,hm⟩|⟨c,hm⟩
 ·refine aL c rfl (aJ (aD (v:=i64 1) (aF ?_)));obtain rfl:=zI hm
  exact aX (aK (aO results69 rfl ⟨rfl,q⟩))
 ·refine aI c rfl (aW (aB (aN (aJ (aG (v:=eP a1 b) ?_)))));obtain ⟨b0,z,hm⟩:=aC hm
  refine aQ (vs:=[eP a1 b]) call94 rfl (aHa z q a m u n o p) ?_
  rintro _ b1 ⟨rfl,d⟩
  refine aA (dA rfl) (aF ?_)
  rcases aH hm with ⟨e,hm⟩|⟨e,hm⟩
  ·refine aL e rfl (aJ (aD (v:=i64 2) (aF ?_)));obtain rfl:=zI hm
   exact aX (aK (aO results69 rfl ⟨rfl,d⟩))
  ·refine aI e rfl (aW (aB (aN (aJ (aG (v:=eP a1 b) (aA (eR rfl a) (aA (cH (k':=b+2) aCR rfl a rfl) (aA (cC (t:=2) aKF d a rfl rfl) ?_))))))));obtain ⟨b2,V,hm⟩:=aC hm
   refine aQ (vs:=[zS a10 s_.Meetings.length c11]) call95 rfl (aIA V d n) ?_
   rintro _ b3 ⟨rfl,g⟩
   refine aA (dA rfl) (aF ?_)
   rcases aH hm with ⟨h,hm⟩|⟨h,hm⟩
   ·refine aL h rfl (aJ (aD (v:=i64 3) (aF ?_)));obtain rfl:=zI hm
    exact aX (aK (aO results69 rfl ⟨rfl,g⟩))
   ·refine aI h rfl (aW (aB (aN (aJ (aG (v:=eP a1 b) (aA (eR rfl a) (aA (cH (k':=b+3) aCS rfl a rfl) (aA (cC (t:=3) zV g a rfl rfl) ?_))))))));obtain ⟨b4,a0,hm⟩:=aC hm
    refine aQ (vs:=[zS a13 s_.Allowed.length c14]) call96 rfl (aGx a0 g o) ?_
    rintro _ b5 ⟨rfl,i⟩
    refine aA (dA rfl) (aF ?_)
    rcases aH hm with ⟨j,hm⟩|⟨j,hm⟩
    ·refine aL j rfl (aJ (aD (v:=i64 4) (aF ?_)));obtain rfl:=zI hm
     exact aX (aK (aO results69 rfl ⟨rfl,i⟩))
    ·refine aI j rfl (aW (aB (aN (aJ (aG (v:=eP a1 b) (aA (eR rfl a) (aA (cH (k':=b+4) aEu rfl a rfl) (aA (cC (t:=4) zV i a rfl rfl) ?_))))))));obtain ⟨b6,a3,hm⟩:=aC hm
     refine aQ (vs:=[zS a16 s_.Hidden.length c17]) call96 rfl (aGx a3 i p) ?_
     rintro _ b7 ⟨rfl,r⟩
     refine aA (dA rfl) (aF ?_)
     rcases aH hm with ⟨k,hm⟩|⟨k,hm⟩
     ·refine aL k rfl (aJ (aD (v:=i64 5) (aF ?_)));obtain rfl:=zI hm
      exact aX (aK (aO results69 rfl ⟨rfl,r⟩))
     ·refine aI k rfl (aW (aB (aJ (aD (v:=i64 0) (aF ?_)))));obtain rfl:=zI hm
      exact aX (aO results69 rfl ⟨rfl,r⟩)
theorem aOG {s_:bZ} {a:Nat} {R:Bool} (hm:aHB s_=some R) (b:aM G K (L) w) (c:iG K a1 a [zS a4 s_.Definitions.length c5,zS a7 s_.Components.length c8,zS a10 s_.Meetings.length c11,zS a13 s_.Allowed.length c14,zS a16 s_.Hidden.length c17]) (d:bY K a4 c5 s_.Definitions) (e:bY K a7 c8 s_.Components) (g:bY K a10 c11 s_.Meetings) (h:bY K a13 c14 s_.Allowed) (i:bY K a16 c17 s_.Hidden):
  Calls prog 46 ([eP a1 a]:List Value).toArray w (eK fun v w'=>v=zB R/\aM G K (L) w'):=by
 refine aP func46 rfl (by kernel_rfl) (by show (1:Nat)<=6;decide) ?_;unfold aHB at hm
 refine aJ (aD (v:=zB false) (aF (aJ (aG (v:=eP a1 a) ?_))));obtain ⟨j,k,hm⟩:=aC hm
 refine aQ (vs:=[eP a1 a]) call69 rfl (aLa k b c d e g h i) ?_
 rintro _ n ⟨rfl,l⟩
 refine aA (cK rfl rfl) (aD (v:=zB (j == 0)) (aF ?_));obtain rfl:=zI hm
 exact aX (aO results46 rfl ⟨rfl,l⟩)
theorem aJY {b c:Int} {R:Bool} (hm:aCb b c=some R) (i:aM G K (L) w):
  Calls prog 47 ([i64 b,i64 c]:List Value).toArray w (eK fun v w'=>v=zB R/\aM G K (L) w'):=by
 refine aP func47 rfl (by kernel_rfl) (by show (2:Nat)<=11;decide) ?_;unfold aCb at hm
 refine aJ (aD (v:=zB false) (aF (aN (cP [] (fun f w=>∃ d,tE d=some R/\f 4=zB d/\aM G K (L) w) ?_ ?_))))
 ·rintro f q ⟨d,hm,j,k⟩
  unfold tE at hm
  refine aB ?_;obtain rfl:=zI hm
  exact aX (aO results47 rfl ⟨j,k⟩)
 refine aU (aG (v:=i64 b) ?_);obtain ⟨m,n,hm⟩:=aC hm
 refine aQ (vs:=[i64 b,i64 0,i64 2]) call48 rfl (iQ n i) ?_
 rintro _ r ⟨rfl,h⟩
 refine aG (v:=zB m) ?_
 rcases aH hm with ⟨a,hm⟩|⟨a,hm⟩
 ·refine bB a rfl rfl (aG (v:=i64 c) (bB a rfl rfl ?_));obtain ⟨e,o,hm⟩:=aC hm
  refine aQ (vs:=[i64 c,i64 0,i64 65535]) call48 rfl (iQ o h) ?_
  rintro _ t ⟨rfl,p⟩
  exact aA (bI (v:=zB e) a rfl rfl) (aD (v:=zB e) (aF ⟨aT,e,hm,rfl,p⟩))
 ·exact aV a rfl rfl (aV a rfl rfl (aA (bL (v:=zB false) a rfl rfl) (aD (v:=zB false) (aF ⟨aT,false,hm,rfl,h⟩))))
theorem aMX {s_:bZ} {b:Nat} {c d e R:Int} (hm:aIZ s_ c d e=some R) (p:aM G K (L) w) (q:iG K a1 b [zS a4 s_.Definitions.length c5,zS a7 s_.Components.length c8,zS a10 s_.Meetings.length c11,zS a13 s_.Allowed.length c14,zS a16 s_.Hidden.length c17]) (r:bY K a4 c5 s_.Definitions) (t:bY K a7 c8 s_.Components) (u:bY K a10 c11 s_.Meetings) (x:bY K a13 c14 s_.Allowed) (y:bY K a16 c17 s_.Hidden):
  Calls prog 20 ([eP a1 b,i64 c,i64 d,i64 e]:List Value).toArray w (eK fun v w'=>v=i64 R/\aM G K (L) w'):=by
 refine aP func20 rfl (by kernel_rfl) (by show (4:Nat)<=21;decide) ?_;unfold aIZ at hm
 refine aJ (aD (v:=i64 0) (aF (aN (aJ (aG (v:=eP a1 b) ?_)))));obtain ⟨a6,z,hm⟩:=aC hm
 refine aQ (vs:=[eP a1 b]) call46 rfl (aOG z p q r t u x y) ?_
 rintro _ a8 ⟨rfl,k⟩
 refine aA (dA rfl) (aF ?_)
 rcases aH hm with ⟨h,hm⟩|⟨h,hm⟩
 ·refine aL h rfl (aJ (aD (v:=i64 1) (aF ?_)));obtain rfl:=zI hm
  exact aX (aK (aO results20 rfl ⟨rfl,k⟩))
 ·refine aI h rfl (aW (aB (aN (aN (cP [] (fun f w=>∃ i,tF i=some R/\f 20=zB i/\aM G K (L) w) ?_ ?_)))))
  ·rintro f a9 ⟨i,hm,l,m⟩
   unfold tF at hm
   refine aB ?_
   rcases aH hm with ⟨j,hm⟩|⟨j,hm⟩
   ·refine aL j l (aJ (aD (v:=i64 2) (aF ?_)));obtain rfl:=zI hm
    exact aX (aK (aO results20 rfl ⟨rfl,m⟩))
   ·refine aI j l (aW (aB (aJ (aD (v:=i64 0) (aF ?_)))));obtain rfl:=zI hm
    exact aX (aO results20 rfl ⟨rfl,m⟩)
  refine aU (aG (v:=i64 c) (aG (v:=i64 d) ?_));obtain ⟨a0,a2,hm⟩:=aC hm
  refine aQ (vs:=[i64 c,i64 d]) call47 rfl (aJY a2 k) ?_
  rintro _ b0 ⟨rfl,n⟩
  refine aA (dA rfl) (aG (v:=zB (!a0)) ?_)
  rcases aH hm with ⟨a,hm⟩|⟨a,hm⟩
  ·exact aR a rfl rfl (aR a rfl rfl (aR a rfl rfl (aA (bI (v:=zB true) a rfl rfl) (aF ⟨aT,true,hm,rfl,n⟩))))
  ·refine bD a rfl rfl (aG (v:=i64 e) (bD a rfl rfl ?_));obtain ⟨o,a3,hm⟩:=aC hm
   refine aQ (vs:=[i64 e,i64 0,i64 60]) call48 rfl (iQ a3 n) ?_
   rintro _ b1 ⟨rfl,a5⟩
   exact bD a rfl rfl (aA (dA rfl) (aA (bL (v:=zB (!o)) a rfl rfl) (aF ⟨aT,!o,hm,rfl,a5⟩)))
theorem aBT {a R:(List Int)} (hm:tG a=some R) (h:aM G K (L) w) (j:bY K a1 c2 a):
  Calls prog 52 ([zS a1 a.length c2]:List Value).toArray w (eK fun v w'=>∃ d e,v=zS d R.length e/\aM G K (bN 2 K d e R::L) w'):=by
 refine aP func52 rfl (by kernel_rfl) (by show (1:Nat)<=6;decide) ?_;unfold tG at hm
 refine aJ (aD (v:=zS none 0 0) (aF (aJ (gA (Kt:=K) (xs:=([]:List Int)) (cs:=[]) (vs:=[]) fN aFe rfl rfl h rfl (by kernel_rfl) rfl rfl rfl trivial (fun k l (m:aM G K (bN 2 K k 0 ([]:List Int)::L) l)=>(aG (v:=zS a1 a.length c2) ?_))))));obtain ⟨g,n,hm⟩:=aC hm
 refine aOl (i:=0) fN underlying68 aFe rfl rfl m rfl (Hp.le_refl _) j n rfl rfl rfl rfl (fun b c o (p:aM G K (bN 2 K b c g::L) o)=>(aD (v:=zS b g.length c) (aF ?_)));obtain rfl:=zI hm
 exact aX (aO results52 rfl ⟨b,c,rfl,p⟩)
theorem sL {c R:(List aZ)} (hm:wF c=some R) (hs:aM G K (L) w) (J:bY K a1 c2 c):
  Calls prog 49 ([zS a1 c.length c2]:List Value).toArray w (eK fun v w'=>∃ K' a9 b0,v=zS a9 R.length b0/\Hp.le K K'/\aM G K' (bN 70 K' a9 b0 R::L) w'):=by
 refine aP func49 rfl (by kernel_rfl) (by show (1:Nat)<=33;decide) ?_;unfold wF at hm
 refine aJ (aD (v:=zS none 0 0) (aF (aJ (gA (Kt:=K) (xs:=([]:List aZ)) (cs:=[]) (vs:=[]) gP aGt rfl rfl hs rfl (by kernel_rfl) rfl rfl rfl trivial (fun a4 w5 (b8:aM G K (bN 70 K a4 0 ([]:List aZ)::L) w5)=>(aD (v:=zS a4 ([]:List aZ).length 0) (aF (aN (aJ (aD (v:=i64 0) (aF (bM [] (fun f w=>∃ p q r u,Hp.le K p/\aEw q=some R/\f 3=zS r q.length u/\aM G p (bN 70 p r u q::L) w) ?_ ?_))))))))))))
 ·rintro f d8 ⟨p,q,r,u,b9,hm,c0,c1⟩
  unfold aEw at hm
  refine aB (aJ (bF c0 (aD (v:=zS r q.length u) (aF ?_))));obtain rfl:=zI hm
  exact aX (aO results49 rfl ⟨p,r,u,rfl,b9,c1⟩)
 obtain ⟨d9,c4,ho⟩:=aC hm
 refine dD [0] c4 (fun g k f w=>∃ d l m,Hp.le K d/\f 3=zS l g.length m/\f 4=i64 k/\aM G d (bN 70 d l m g::L) w) ?_ ?_
 ·exact ⟨K,a4,0,(Hp.le_refl _),rfl,rfl,b8⟩
 ·rintro g k e0 f e1 hm hr ⟨d,l,m,a,b1,x,a3⟩
  unfold aCc at hm
  refine aN (aJ (bF x (aG (v:=zS a1 c.length c2) (aA (bO (len:=c.length) gP rfl) (aA (cF rfl rfl) (aF ?_))))))
  rcases aH hm with ⟨a5,hm⟩|⟨a5,hm⟩
  ·refine aL a5 rfl (aW (aB (aN (bX (kT (C:=fun w'=>∃ L',aM G d L' w') [(0,0),(1,0),(2,0),(3,0),(4,0),(5,0),(6,0),(7,0),(8,0),(9,0),(10,0),(11,0),(12,0),(13,0),(14,0),(15,0),(16,1),(17,0),(18,1),(19,1),(20,0)] cI (by kernel_rfl) (fun _ hg=>⟨_,aM.mono a3 hg⟩) (fun e2 c5=>?_))))))
   have j:=aM.mono a3 c5
   refine dB rfl (fun _ _=>bP b1) (dB rfl (fun _ _=>bP (v:=zS a1 c.length c2) rfl) (dB rfl (fun _ _=>bP x) ?_));obtain ⟨b,V,hm⟩:=aC hm
   refine dB rfl (fun _ _=>cG gP rfl (J.mono a) rfl rfl rfl V) ?_;obtain ⟨e3,n,c6⟩:=bY.el (sz:=3) rfl J V
   obtain ⟨c7,c8,rfl,c9⟩:=c6
   refine dB rfl (fun _ _=>cH (k':=k.toNat * 3+0) aBx rfl (n.mono a) rfl) (dB rfl (fun _ ⟨_,j⟩=>cC (t:=0) dC j (n.mono a) rfl rfl) (dB rfl (fun _ _=>bP (v:=zS a1 c.length c2) rfl) (dB rfl (fun _ _=>bP x) (dB rfl (fun _ _=>cG gP rfl (J.mono a) rfl rfl rfl V) (dB rfl (fun _ _=>cH (k':=k.toNat * 3+1) aBy rfl (n.mono a) rfl) (dB rfl (fun _ ⟨_,j⟩=>cC (t:=1) dC j (n.mono a) rfl rfl) (dB rfl (fun _ _=>bP (v:=zS a1 c.length c2) rfl) (dB rfl (fun _ _=>bP x) (dB rfl (fun _ _=>cG gP rfl (J.mono a) rfl rfl rfl V) (dB rfl (fun _ _=>cH (k':=k.toNat * 3+2) xD rfl (n.mono a) rfl) (dB rfl (fun _ ⟨_,j⟩=>cC (t:=2) vL j (n.mono a) rfl rfl) (yC rfl ?_))))))))))))
   obtain ⟨o,d0,hm⟩:=aC hm
   refine aQ (vs:=[zS c7 b.Values.length c8]) call52 rfl (aBT d0 j (c9.mono a)) ?_
   rintro _ d1 ⟨y,z,rfl,b2⟩
   refine cW (aB ⟨⟨_,b2⟩,?_⟩)
   refine dB rfl (fun _ _=>lQ (vs:=[(0,i64 b.Definition),(1,i64 b.Part),(2,zS y o.length z)]) (cs:=[i64 b.Definition,i64 b.Part,zS y o.length z]) aLW rfl (by kernel_rfl)) (yC rfl ?_);obtain ⟨e,O,d2,a6⟩:=aM.giveSp b2 a .head
   replace a6:aM G e (bN 70 d l m g::L) d1:=a6
   refine gA (Kt:=e) (xs:=([⟨b.Definition,b.Part,o⟩]:List aZ)) (cs:=[i64 b.Definition,i64 b.Part,zS y o.length z]) (vs:=[(0,Value.agg #[i64 b.Definition,i64 b.Part,zS y o.length z])]) gP aGt rfl rfl a6 rfl (by kernel_rfl) rfl rfl rfl ⟨⟨y,z,rfl,d2⟩,trivial⟩ (fun d3 d4 (b3:aM G e (bN 70 e d3 1 ([⟨b.Definition,b.Part,o⟩]:List aZ)::bN 70 d l m g::L) d4)=>(cW (aB ⟨⟨_,(aM.weakK b3 O)⟩,?_⟩)))
   refine yC rfl ?_;obtain ⟨b4,d5,hm⟩:=aC hm
   refine aEr (i:=0) e gP underlying30 aGt rfl rfl b3 rfl O (Hp.le_refl _) d5 rfl rfl rfl rfl (fun _ _ _ h=>El.one h) (fun a7 a8 d6 (b5:aM G e (bN 70 e a7 a8 b4::L) d6)=>(cW (aB ⟨⟨_,(aM.weakK b5 O)⟩,?_⟩)))
   exact dB rfl (fun _ _=>fG (v:=zS a7 b4.length a8) rfl) (yB (bH (aB (aU (bF x (aA (cA rfl rfl) (aD (v:=i64 (wr (k+1))) (aF ⟨_,(zI hm).symm,aT,e,a7,a8,(Hp.le_trans a O),rfl,rfl,b5⟩))))))))
  ·refine aI a5 rfl (cD (bA (bA ?_)))
   have d7:=hr _ (zI hm).symm
   subst d7
   have hm:(aEw g)=some R:=ho
   clear hr ho
   exact bR (aB ⟨aT,d,g,l,m,a,hm,b1,a3⟩)
end Gv
