/- Walks, printed by program. -/
import Derived.Test.YtfhgggimcgajdaaGreatDoorJLWa
import Derived.Test.YtfhgggimcgajdaaGreatDoorJMd
set_option linter.all false
namespace Gv
open Gv.Hp renaming le_refl→zR
open Go.Value renaming slice→zS,bool→zB
open Option.some renaming inj→zI
open Go Go.Proofs Go.Proofs.Tryz
set_option maxRecDepth 20000
set_option maxHeartbeats 40000000
variable {G:qG} {K:Hp} {L:List iU} {w:World} {a1 a4:Option Addr} {c2 c5:Nat}
theorem xB {x_:bJ} {R:Bool} (hm:mE x_=some R) (a:aM G K (L) w):
  Calls prog 248 ([bE x_]:List Value).toArray w (eK fun v w'=>v=zB R/\aM G K (L) w'):=by
 refine aP func248 rfl (by kernel_rfl) (by show (1:Nat)<=6;decide) ?_;unfold mE at hm
 refine aJ (aD (v:=zB false) (aF (aJ (aG (v:=bE x_) (aG (v:=bE x_) (aA (vO rfl rfl) (aD (v:=zB (!(x_ == x_))) (aF ?_))))))));obtain rfl:=zI hm
 exact aX (aO results248 rfl ⟨rfl,a⟩)
theorem aDY {x_ y:bJ} {R:Int} (hm:kQ x_ y=some R) (k:aM G K (L) w):
  Calls prog 220 ([bE x_,bE y]:List Value).toArray w (eK fun v w'=>v=i64 R/\aM G K (L) w'):=by
 refine aP func220 rfl (by kernel_rfl) (by show (2:Nat)<=20;decide) ?_;unfold kQ at hm
 refine aJ (aD (v:=i64 0) (aF (aJ (aG (v:=bE x_) ?_))));obtain ⟨j,l,hm⟩:=aC hm
 refine aQ (vs:=[bE x_]) call248 rfl (xB l k) ?_
 rintro _ x ⟨rfl,m⟩
 refine aD (v:=zB j) (aF (aJ (aG (v:=bE y) ?_)));obtain ⟨c,n,hm⟩:=aC hm
 refine aQ (vs:=[bE y]) call248 rfl (xB n m) ?_
 rintro _ z ⟨rfl,b⟩
 refine aD (v:=zB c) (aF (aN (aJ (aG (v:=zB j) (aF ?_)))))
 rcases aH hm with ⟨d,hm⟩|⟨d,hm⟩
 ·refine aL d rfl (aN (aJ (aG (v:=zB c) (aF ?_))))
  rcases aH hm with ⟨e,hm⟩|⟨e,hm⟩
  ·refine aL e rfl (aJ (aD (v:=i64 0) (aF ?_)));obtain rfl:=zI hm
   exact aX (aK (aK (aO results220 rfl ⟨rfl,b⟩)))
  ·refine aI e rfl (aW (aB (aJ (aD (v:=i64 (-1)) (aF ?_)))));obtain rfl:=zI hm
   exact aX (aK (aO results220 rfl ⟨rfl,b⟩))
 ·refine aI d rfl (aW (aB (aN (aJ (aG (v:=zB c) (aF ?_))))))
  rcases aH hm with ⟨g,hm⟩|⟨g,hm⟩
  ·refine aL g rfl (aJ (aD (v:=i64 1) (aF ?_)));obtain rfl:=zI hm
   exact aX (aK (aO results220 rfl ⟨rfl,b⟩))
  ·refine aI g rfl (aW (aB (aN (aJ (aG (v:=bE x_) (aG (v:=bE y) (aA (R_lssS rfl rfl) (aF ?_))))))))
   rcases aH hm with ⟨h,hm⟩|⟨h,hm⟩
   ·refine aL h rfl (aJ (aD (v:=i64 (-1)) (aF ?_)));obtain rfl:=zI hm
    exact aX (aK (aO results220 rfl ⟨rfl,b⟩))
   ·refine aI h rfl (aW (aB (aN (aJ (aG (v:=bE x_) (aG (v:=bE y) (aA (aLK rfl rfl) (aF ?_))))))))
    rcases aH hm with ⟨i,hm⟩|⟨i,hm⟩
    ·refine aL i rfl (aJ (aD (v:=i64 1) (aF ?_)));obtain rfl:=zI hm
     exact aX (aK (aO results220 rfl ⟨rfl,b⟩))
    ·refine aI i rfl (aW (aB (aJ (aD (v:=i64 0) (aF ?_)))));obtain rfl:=zI hm
     exact aX (aO results220 rfl ⟨rfl,b⟩)
theorem uH {b a:(List bJ)} {R:Int} (hm:gY b a=some R) (x:aM G K (L) w) (n:bY K a1 c2 b) (o:bY K a4 c5 a):
  Calls prog 186 ([zS a1 b.length c2,zS a4 a.length c5]:List Value).toArray w (eK fun v w'=>v=i64 R/\aM G K (L) w'):=by
 refine aP func186 rfl (by kernel_rfl) (by show (2:Nat)<=36;decide) ?_;unfold gY at hm
 refine aJ (aD (v:=i64 0) (aF (aN (aJ (aG (v:=zS a1 b.length c2) (aA (bO (len:=b.length) hH rfl) (aG (v:=i64 0) (aF (bM [0,1] (fun f w=>gN b a=some R/\aM G K (L) w) ?_ ?_)))))))))
 ·rintro f w7 ⟨hm,p⟩
  unfold gN at hm
  refine aB (aN (aJ (aG (v:=zS a1 b.length c2) (aA (bO (len:=b.length) hH rfl) (aG (v:=zS a4 a.length c5) (aA (bO (len:=a.length) hH rfl) (aA (cF rfl rfl) (aF ?_))))))))
  rcases aH hm with ⟨h,hm⟩|⟨h,hm⟩
  ·refine aL h rfl (aJ (aD (v:=i64 (-1)) (aF ?_)));obtain rfl:=zI hm
   exact aX (aK (aO results186 rfl ⟨rfl,p⟩))
  ·refine aI h rfl (aW (aB (aJ (aD (v:=i64 0) (aF ?_)))));obtain rfl:=zI hm
   exact aX (aO results186 rfl ⟨rfl,p⟩)
 obtain ⟨b1,J,ho⟩:=aC hm
 refine dP [0,1,9,10] J (fun c f w=>f 11=i64 c/\aM G K (L) w) ?_ ?_
 ·exact ⟨rfl,x⟩
 ·rintro c b2 f b3 hm hr ⟨g,d⟩
  unfold cU at hm
  refine aJ (aA (cF g rfl) (aF (aN ?_)))
  rcases aH hm with ⟨i,hm⟩|⟨i,hm⟩
  ·refine aL i rfl (aW (aB (aN (bX (aJ (bF g ?_))))));obtain ⟨j,q,hm⟩:=aC hm
   refine aA (cG hH rfl n rfl rfl g q) ?_;obtain ⟨b4,V,O⟩:=bY.el (sz:=1) rfl n q
   cases O
   refine aA (cC (t:=0) fA d V rfl rfl) (aD (v:=i64 c) (aD (v:=bE j) (aF (aN (aJ (aG (v:=i64 c) (aG (v:=zS a4 a.length c5) (aA (bO (len:=a.length) hH rfl) (aA (sO rfl rfl) (aF ?_))))))))))
   rcases aH hm with ⟨k,hm⟩|⟨k,hm⟩
   ·refine aL k rfl (aJ (aD (v:=i64 1) (aF (aX (aK (aY (aK (aK ?_))))))))
    have a0:=hr _ (zI hm).symm
    subst a0
    have hm:(some 1)=some R:=ho
    clear hr ho
    obtain rfl:=zI hm
    exact aY (aK (aK (aO results186 rfl ⟨rfl,d⟩)))
   ·refine aI k rfl (aW (aB (aJ (aG (v:=zS a4 a.length c5) (aG (v:=i64 c) ?_)))));obtain ⟨l,r,hm⟩:=aC hm
    refine aA (cG hH rfl o rfl rfl rfl r) ?_;obtain ⟨b5,a3,a5⟩:=bY.el (sz:=1) rfl o r
    cases a5
    refine aA (cC (t:=0) fA d a3 rfl rfl) (aD (v:=bE l) (aF (aJ (aG (v:=bE j) (aG (v:=bE l) ?_)))));obtain ⟨e,a6,hm⟩:=aC hm
    refine aQ (vs:=[bE j,bE l]) call220 rfl (aDY a6 d) ?_
    rintro _ b6 ⟨rfl,u⟩
    refine aD (v:=i64 e) (aF (aJ (aG (v:=i64 e) (aA (fV rfl rfl) (aF ?_)))))
    rcases aH hm with ⟨m,hm⟩|⟨m,hm⟩
    ·refine aL m rfl (aJ (aG (v:=i64 e) (aD (v:=i64 e) (aF (aX (aY (aK (aK ?_))))))))
     have a7:=hr _ (zI hm).symm
     subst a7
     have hm:(some e)=some R:=ho
     clear hr ho
     obtain rfl:=zI hm
     exact aY (aK (aK (aO results186 rfl ⟨rfl,u⟩)))
    ·exact aI m rfl (aW (bH (aB (aU (aA (cA g rfl) (aG (v:=i64 (wr (c+1))) (aF ⟨_,(zI hm).symm,aT,rfl,u⟩)))))))
  ·refine aI i rfl (cD (bA (bA ?_)))
   have a9:=hr _ (zI hm).symm
   subst a9
   have hm:(gN b a)=some R:=ho
   clear hr ho
   exact bR (aB ⟨aT,hm,d⟩)
end Gv
