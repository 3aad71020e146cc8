/- Walks, printed by program. -/
import Derived.Test.YtmlgcbjkfcapaaaGreatDoorKWk2
set_option linter.all false
namespace Gv
open Go.Value renaming slice→zS,bool→zB,pointer→zP
open Option.some renaming inj→zI
open Gv.Hp renaming le_trans→zL,le_refl→zR
open Go Go.Proofs
set_option maxRecDepth 20000
set_option maxHeartbeats 40000000
variable {G:Env} {K:Hp} {L:List qD} {w:World} {a1 a4 a7 a10 a13 a16 a19 a22:Option Addr} {c5 c8 c2 c11 c14 c20 c23:Nat}
theorem aGO {t:dB} {l:Nat} {R:Bool} (hs:aL G K (L) w) (h:fW K a1 l (zC t a4 c5 a7 c8)) (h6:bT K a4 c5 t.L) (n:bT K a7 c8 t.E) (j:aAP t=some R):
  Calls Tryz.prog 130 ([bY a1 l]:List Value).toArray w (fV fun v w'=>v=zB R∧aL G K (L) w'):=by
 refine aT Tryz.func130 rfl (by kernel_rfl) (by show (1:Nat)≤66;decide) ?_
 unfold aAP at j
 refine aAZ (pM (v:=zB false) (aAf (aH (aAZ (pM (v:=i64 0) (aAf (bD (fun f w=>yR=some R∧aL G K (L) w) ?_ ?_)))))))
 ·rintro f c1 ⟨j,a5⟩
  unfold yR at j
  refine aA (aAZ (pM (v:=zB true) (aAf ?_)))
  cases zI j
  exact bF (bC Tryz.results130 rfl ⟨rfl,a5⟩)
 obtain ⟨c2,a8,j⟩:=aI j
 refine cD a8 (fun (i:Int) f w=>f 0=bY a1 l∧f 3=i64 i∧aL G K (L) w) ?_ ?_
 ·exact ⟨rfl,rfl,hs⟩
 ·rintro i V f c3 d Z ⟨m,k,a⟩
  replace d:qQ t i=some V:=d
  unfold qQ at d
  refine aH (aAZ (aCv k (aCv m (aB (dG rfl h) (aB (cH (k':=l+3) dO rfl h rfl) (aB (bH (t:=3) hX a h rfl rfl) (aB (bQ (len:=t.E.length) cR rfl) (aB (cJ rfl rfl) (aAf ?_)))))))))
  rcases aK d with ⟨x,d⟩|⟨x,d⟩
  ·refine aO x rfl (aW (aA (aH (cU (aH (cS (fun f w=>∃ (y:Bool),oF i y=some V∧f 0=bY a1 l∧f 3=i64 i∧f 65=zB y∧aL G K (L) w) ?_ ?_))))))
   ·rintro f c4 ⟨y,d,a9,b0,a0,a2⟩
    unfold oF at d
    refine aA ?_
    rcases aK d with ⟨z,d⟩|⟨z,d⟩
    ·refine aO z a0 (aAZ (pM (v:=zB false) (aAf (bF (bN (aS (aS ?_)))))))
     have b1:=Z _ (zI d).symm
     subst b1
     have j:(some false)=some R:=j
     cases zI j
     exact bN (aS (aS (bC Tryz.results130 rfl ⟨rfl,a2⟩)))
    ·exact aM z a0 (aW (bG (aA (aC (aCv b0 (aB (cX rfl rfl) (pM (v:=i64 (wr (i+1))) (aAf ⟨wr (i+1),(zI d).symm,a9,rfl,a2⟩))))))))
   refine cT (C:=fun w'=>aL G K (L) w') bK (by kernel_rfl) (aL.mono a (dE.drew _)) (aQ (fun _ a=>aD m) (aQ (fun _ a=>dG rfl h) (aQ (fun _ a=>cH (k':=l+3) dO rfl h rfl) (aQ (fun _ a=>bH (t:=3) hX a h rfl rfl) (aQ (fun _ a=>aD k) ?_)))))
   obtain ⟨o,r,d⟩:=aI d
   refine aQ (fun _ a=>cO cR rfl n rfl rfl rfl r) ?_
   obtain ⟨c6,p,b3⟩:=bT.el (sz:=3) rfl n r
   cases b3
   refine aQ (fun _ a=>cH (k':=i.toNat * 3+1) fP rfl p rfl) (aQ (fun _ a=>bH (t:=1) cP a p rfl rfl) (aQ (fun _ a=>oY rfl rfl) (aQ (fun _ a=>aD (v:=zB (o.B == 0)) rfl) ?_)))
   rcases aK d with ⟨e,d⟩|⟨e,d⟩
   ·refine aX (g:=22) rfl rfl (bZ e) (aX (g:=22) rfl rfl (bZ e) (aX (g:=22) rfl rfl (bZ e) (bL (g:=25) rfl rfl (bL (g:=25) rfl rfl (bL (g:=25) rfl rfl (bL (g:=25) rfl rfl (bL (g:=25) rfl rfl (bL (g:=25) rfl rfl (bL (g:=25) rfl rfl (bL (g:=25) rfl rfl (bL (g:=25) rfl rfl (bL (g:=25) rfl rfl (bL (g:=25) rfl rfl (bL (g:=25) rfl rfl (bL (g:=25) rfl rfl (bL (g:=25) rfl rfl (bL (g:=25) rfl rfl (bL (g:=25) rfl rfl (bL (g:=25) rfl rfl (bL (g:=25) rfl rfl (aX (g:=22) rfl rfl (bZ e) (aX (g:=22) rfl rfl (bZ e) (bL (g:=45) rfl rfl ?_)))))))))))))))))))))))
    exact bL (g:=45) rfl rfl (bL (g:=45) rfl rfl (bL (g:=45) rfl rfl (bL (g:=45) rfl rfl (bL (g:=45) rfl rfl (bL (g:=45) rfl rfl (bL (g:=45) rfl rfl (bL (g:=45) rfl rfl (bL (g:=45) rfl rfl (bL (g:=45) rfl rfl (bL (g:=45) rfl rfl (bL (g:=45) rfl rfl (bL (g:=45) rfl rfl (bL (g:=45) rfl rfl (bL (g:=45) rfl rfl (bL (g:=45) rfl rfl (bL (g:=45) rfl rfl (aX (g:=22) rfl rfl (bZ e) (aQ (fun _ a=>bI (v:=zB true) e rfl rfl) (dC (fun c7 b4=>(aA ⟨true,d,m,k,rfl,b4⟩)))))))))))))))))))))
   ·refine bP (g:=22) rfl rfl (bX e) (aQ (fun _ a=>aD k) (bP (g:=22) rfl rfl (bX e) (aQ (fun _ a=>mL rfl rfl) (bP (g:=22) rfl rfl (bX e) (aQ (fun _ a=>aD (v:=zB (decide (0 < i))) rfl) ?_)))))
    rcases aK d with ⟨b,d⟩|⟨b,d⟩
    ·refine bP (g:=25) rfl rfl b (aQ (fun _ a=>aD m) (bP (g:=25) rfl rfl b (aQ (fun _ a=>dG rfl h) (bP (g:=25) rfl rfl b (aQ (fun _ a=>cH (k':=l+3) dO rfl h rfl) (bP (g:=25) rfl rfl b (aQ (fun _ a=>bH (t:=3) hX a h rfl rfl) (bP (g:=25) rfl rfl b (aQ (fun _ a=>aD k) (bP (g:=25) rfl rfl b (aQ (fun _ a=>cO cR rfl n rfl rfl rfl r) (bP (g:=25) rfl rfl b (aQ (fun _ a=>cH (k':=i.toNat * 3+0) fY rfl p rfl) (bP (g:=25) rfl rfl b (aQ (fun _ a=>bH (t:=0) cP a p rfl rfl) (bP (g:=25) rfl rfl b (aQ (fun _ a=>aD m) (bP (g:=25) rfl rfl b (aQ (fun _ a=>dG rfl h) (bP (g:=25) rfl rfl b (aQ (fun _ a=>cH (k':=l+3) dO rfl h rfl) (bP (g:=25) rfl rfl b (aQ (fun _ a=>bH (t:=3) hX a h rfl rfl) ?_)))))))))))))))))))))))
     refine bP (g:=25) rfl rfl b (aQ (fun _ a=>aD k) (bP (g:=25) rfl rfl b (aQ (fun _ a=>jS rfl rfl) (bP (g:=25) rfl rfl b ?_))))
     obtain ⟨q,J,d⟩:=aI d
     refine aQ (fun _ a=>cO cR rfl n rfl rfl rfl J) ?_
     obtain ⟨c9,u,b5⟩:=bT.el (sz:=3) rfl n J
     cases b5
     refine bP (g:=25) rfl rfl b (aQ (fun _ a=>cH (k':=(wr (i - 1)).toNat * 3+0) fY rfl u rfl) (bP (g:=25) rfl rfl b (aQ (fun _ a=>bH (t:=0) cP a u rfl rfl) (bP (g:=25) rfl rfl b (aQ (fun _ a=>oY rfl rfl) (bP (g:=22) rfl rfl (bX e) (aQ (fun _ a=>bI (v:=zB (o.F == q.F)) b rfl rfl) (bP (g:=22) rfl rfl (bX e) (aQ (fun _ a=>aD (v:=zB (o.F == q.F)) rfl) ?_)))))))))
     rcases aK d with ⟨c,d⟩|⟨c,d⟩
     ·refine bP (g:=45) rfl rfl c (aQ (fun _ a=>aD m) (bP (g:=45) rfl rfl c (aQ (fun _ a=>dG rfl h) (bP (g:=45) rfl rfl c (aQ (fun _ a=>cH (k':=l+3) dO rfl h rfl) (bP (g:=45) rfl rfl c (aQ (fun _ a=>bH (t:=3) hX a h rfl rfl) (bP (g:=45) rfl rfl c (aQ (fun _ a=>aD k) (bP (g:=45) rfl rfl c (aQ (fun _ a=>cO cR rfl n rfl rfl rfl r) (bP (g:=45) rfl rfl c (aQ (fun _ a=>cH (k':=i.toNat * 3+1) fP rfl p rfl) (bP (g:=45) rfl rfl c (aQ (fun _ a=>bH (t:=1) cP a p rfl rfl) (bP (g:=45) rfl rfl c (aQ (fun _ a=>aD m) (bP (g:=45) rfl rfl c (aQ (fun _ a=>dG rfl h) (bP (g:=45) rfl rfl c (aQ (fun _ a=>cH (k':=l+3) dO rfl h rfl) (bP (g:=45) rfl rfl c (aQ (fun _ a=>bH (t:=3) hX a h rfl rfl) ?_)))))))))))))))))))))))
      exact bP (g:=45) rfl rfl c (aQ (fun _ a=>aD k) (bP (g:=45) rfl rfl c (aQ (fun _ a=>jS rfl rfl) (bP (g:=45) rfl rfl c (aQ (fun _ a=>cO cR rfl n rfl rfl rfl J) (bP (g:=45) rfl rfl c (aQ (fun _ a=>cH (k':=(wr (i - 1)).toNat * 3+1) fP rfl u rfl) (bP (g:=45) rfl rfl c (aQ (fun _ a=>bH (t:=1) cP a u rfl rfl) (bP (g:=45) rfl rfl c (aQ (fun _ a=>oY rfl rfl) (bP (g:=22) rfl rfl (bX e) (aQ (fun _ a=>bI (v:=zB (o.B == q.B)) c rfl rfl) (aQ (fun _ a=>bJ (v:=zB (o.B == q.B)) e rfl rfl) (dC (fun d0 b6=>(aA ⟨o.B == q.B,d,m,k,rfl,b6⟩)))))))))))))))))
     ·refine aX (g:=45) rfl rfl (bU c) (aX (g:=45) rfl rfl (bU c) (aX (g:=45) rfl rfl (bU c) (aX (g:=45) rfl rfl (bU c) (aX (g:=45) rfl rfl (bU c) (aX (g:=45) rfl rfl (bU c) (aX (g:=45) rfl rfl (bU c) (aX (g:=45) rfl rfl (bU c) (aX (g:=45) rfl rfl (bU c) (aX (g:=45) rfl rfl (bU c) (aX (g:=45) rfl rfl (bU c) (aX (g:=45) rfl rfl (bU c) (aX (g:=45) rfl rfl (bU c) (aX (g:=45) rfl rfl (bU c) (aX (g:=45) rfl rfl (bU c) (aX (g:=45) rfl rfl (bU c) (aX (g:=45) rfl rfl (bU c) (aX (g:=45) rfl rfl (bU c) (bP (g:=22) rfl rfl (bX e) (aQ (fun _ a=>bJ (v:=zB false) c rfl rfl) (aQ (fun _ a=>bJ (v:=zB false) e rfl rfl) (dC (fun d1 b7=>(aA ?_)))))))))))))))))))))))
      exact ⟨false,d,m,k,rfl,b7⟩
    ·refine aX (g:=25) rfl rfl (bU b) (aX (g:=25) rfl rfl (bU b) (aX (g:=25) rfl rfl (bU b) (aX (g:=25) rfl rfl (bU b) (aX (g:=25) rfl rfl (bU b) (aX (g:=25) rfl rfl (bU b) (aX (g:=25) rfl rfl (bU b) (aX (g:=25) rfl rfl (bU b) (aX (g:=25) rfl rfl (bU b) (aX (g:=25) rfl rfl (bU b) (aX (g:=25) rfl rfl (bU b) (aX (g:=25) rfl rfl (bU b) (aX (g:=25) rfl rfl (bU b) (aX (g:=25) rfl rfl (bU b) (aX (g:=25) rfl rfl (bU b) (aX (g:=25) rfl rfl (bU b) (aX (g:=25) rfl rfl (bU b) (aX (g:=25) rfl rfl (bU b) (bP (g:=22) rfl rfl (bX e) (aQ (fun _ a=>bJ (v:=zB false) b rfl rfl) (bP (g:=22) rfl rfl (bX e) (aQ (fun _ a=>aD (v:=zB false) rfl) (aX (g:=45) rfl rfl (bU (by decide:¬ false=true)) (aX (g:=45) rfl rfl (bU (by decide:¬ false=true)) ?_)))))))))))))))))))))))
     exact aX (g:=45) rfl rfl (bU (by decide:¬ false=true)) (aX (g:=45) rfl rfl (bU (by decide:¬ false=true)) (aX (g:=45) rfl rfl (bU (by decide:¬ false=true)) (aX (g:=45) rfl rfl (bU (by decide:¬ false=true)) (aX (g:=45) rfl rfl (bU (by decide:¬ false=true)) (aX (g:=45) rfl rfl (bU (by decide:¬ false=true)) (aX (g:=45) rfl rfl (bU (by decide:¬ false=true)) (aX (g:=45) rfl rfl (bU (by decide:¬ false=true)) (aX (g:=45) rfl rfl (bU (by decide:¬ false=true)) (aX (g:=45) rfl rfl (bU (by decide:¬ false=true)) (aX (g:=45) rfl rfl (bU (by decide:¬ false=true)) (aX (g:=45) rfl rfl (bU (by decide:¬ false=true)) (aX (g:=45) rfl rfl (bU (by decide:¬ false=true)) (aX (g:=45) rfl rfl (bU (by decide:¬ false=true)) (aX (g:=45) rfl rfl (bU (by decide:¬ false=true)) (aX (g:=45) rfl rfl (bU (by decide:¬ false=true)) (bP (g:=22) rfl rfl (bX e) (aQ (fun _ a=>bJ (v:=zB false) (by decide:¬ false=true) rfl rfl) (aQ (fun _ a=>bJ (v:=zB false) e rfl rfl) (dC (fun d2 b8=>(aA ⟨false,d,m,k,rfl,b8⟩)))))))))))))))))))))
  ·refine aM x rfl (cB (aY (aY ?_)))
   have b9:=Z _ (zI d).symm
   subst b9
   have j:(yR)=some R:=j
   exact bO (aA ⟨j,a⟩)
theorem aEL {t:dB} {c:Nat} {R:Bool} (l:aL G K (L) w) (h:fW K a1 c (zC t a4 c5 a7 c8)) (i:bT K a4 c5 t.L) (j:bT K a7 c8 t.E) (a:aBL t=some R):
  Calls Tryz.prog 56 ([bY a1 c]:List Value).toArray w (fV fun v w'=>v=zB R∧aL G K (L) w'):=by
 refine aT Tryz.func56 rfl (by kernel_rfl) (by show (1:Nat)≤9;decide) ?_
 unfold aBL at a
 refine aAZ (pM (v:=zB false) (aAf (aH (cS (fun f w=>∃ (d:Bool),yS d=some R∧f 2=zB d∧aL G K (L) w) ?_ ?_))))
 ·rintro f x ⟨d,a,m,n⟩
  unfold yS at a
  refine aA ?_
  cases zI a
  exact bF (bC Tryz.results56 rfl ⟨m,n⟩)
 refine aC (aBl (v:=bY a1 c) ?_)
 obtain ⟨p,q,a⟩:=aI a
 refine aU (vs:=[bY a1 c]) Tryz.call23 rfl (aKR l h i j q) ?_
 rintro _ y ⟨rfl,k⟩
 refine aBl (v:=zB p) ?_
 rcases aK a with ⟨b,a⟩|⟨b,a⟩
 ·refine bE b rfl rfl (aBl (v:=bY a1 c) (bE b rfl rfl ?_))
  obtain ⟨e,r,a⟩:=aI a
  refine aU (vs:=[bY a1 c]) Tryz.call130 rfl (aGO k h i j r) ?_
  rintro _ z ⟨rfl,u⟩
  exact aB (bI (v:=zB e) b rfl rfl) (pM (v:=zB e) (aAf ⟨e,a,rfl,u⟩))
 ·exact aV b rfl rfl (aV b rfl rfl (aB (bJ (v:=zB false) b rfl rfl) (pM (v:=zB false) (aAf ⟨false,a,rfl,k⟩))))
theorem aHC {j:(List Int)} {low l:Int} {R:Bool} (hs:aL G K (L) w) (m:bT K a1 c2 j) (e:aCe j low l=some R):
  Calls Tryz.prog 128 ([zS a1 j.length c2,i64 low,i64 l]:List Value).toArray w (fV fun v w'=>v=zB R∧aL G K (L) w'):=by
 refine aT Tryz.func128 rfl (by kernel_rfl) (by show (3:Nat)≤38;decide) ?_
 unfold aCe at e
 refine aAZ (pM (v:=zB false) (aAf (aH (aAZ (pM (v:=i64 0) (aAf (bD (fun f w=>aAy=some R∧aL G K (L) w) ?_ ?_)))))))
 ·rintro f w4 ⟨e,a5⟩
  unfold aAy at e
  refine aA (aAZ (pM (v:=zB true) (aAf ?_)))
  cases zI e
  exact bF (bC Tryz.results128 rfl ⟨rfl,a5⟩)
 obtain ⟨c4,a7,e⟩:=aI e
 refine cD a7 (fun (h:Int) f w=>f 0=zS a1 j.length c2∧f 1=i64 low∧f 2=i64 l∧f 7=i64 h∧aL G K (L) w) ?_ ?_
 ·exact ⟨rfl,rfl,rfl,rfl,hs⟩
 ·rintro h z f c5 b J ⟨k,n,o,i,a⟩
  replace b:tF j low l h=some z:=b
  unfold tF at b
  refine aH (aAZ (aCv i (aCv k (aB (bQ (len:=j.length) bW rfl) (aB (cJ rfl rfl) (aAf ?_))))))
  rcases aK b with ⟨q,b⟩|⟨q,b⟩
  ·refine aO q rfl (aW (aA (aH (cU (aH (cS (fun f w=>∃ (r:Bool),tE h r=some z∧f 0=zS a1 j.length c2∧f 1=i64 low∧f 2=i64 l∧f 7=i64 h∧f 37=zB r∧aL G K (L) w) ?_ ?_))))))
   ·rintro f c6 ⟨r,b,a8,a9,b0,b1,V,Z⟩
    unfold tE at b
    refine aA ?_
    rcases aK b with ⟨u,b⟩|⟨u,b⟩
    ·refine aO u V (aAZ (pM (v:=zB false) (aAf (bF (bN (aS (aS ?_)))))))
     have b2:=J _ (zI b).symm
     subst b2
     have e:(some false)=some R:=e
     cases zI e
     exact bN (aS (aS (bC Tryz.results128 rfl ⟨rfl,Z⟩)))
    ·exact aM u V (aW (bG (aA (aC (aCv b1 (aB (cX rfl rfl) (pM (v:=i64 (wr (h+1))) (aAf ⟨wr (h+1),(zI b).symm,a8,a9,b0,rfl,Z⟩))))))))
   refine cT (C:=fun w'=>aL G K (L) w') bK (by kernel_rfl) (aL.mono a (dE.drew _)) (aQ (fun _ a=>aD k) (aQ (fun _ a=>aD i) ?_))
   obtain ⟨p,x,b⟩:=aI b
   refine aQ (fun _ a=>cO bW rfl m rfl rfl rfl x) ?_
   obtain ⟨c7,a0,b4⟩:=bT.el (sz:=1) rfl m x
   cases b4
   refine aQ (fun _ a=>bH (t:=0) cP a a0 rfl rfl) (aQ (fun _ a=>aD n) (aQ (fun _ a=>aD o) ?_))
   obtain ⟨a2,b5,b⟩:=aI b
   refine iR (vs:=[i64 p,i64 low,i64 l]) (v:=zB a2) Tryz.call67 rfl (fun _ a=>(sA a b5)) (aQ (fun _ a=>dY rfl) (aQ (fun _ a=>aD (v:=zB (!a2)) rfl) ?_))
   rcases aK b with ⟨d,b⟩|⟨d,b⟩
   ·exact aX (g:=22) rfl rfl (bZ d) (aX (g:=22) rfl rfl (bZ d) (aX (g:=22) rfl rfl (bZ d) (bL (g:=25) rfl rfl (bL (g:=25) rfl rfl (bL (g:=25) rfl rfl (bL (g:=25) rfl rfl (bL (g:=25) rfl rfl (bL (g:=25) rfl rfl (bL (g:=25) rfl rfl (bL (g:=25) rfl rfl (bL (g:=25) rfl rfl (bL (g:=25) rfl rfl (aX (g:=22) rfl rfl (bZ d) (aQ (fun _ a=>bI (v:=zB true) d rfl rfl) (dC (fun c8 b6=>(aA ⟨true,b,k,n,o,i,rfl,b6⟩)))))))))))))))))
   ·refine bP (g:=22) rfl rfl (bX d) (aQ (fun _ a=>aD i) (bP (g:=22) rfl rfl (bX d) (aQ (fun _ a=>mL rfl rfl) (bP (g:=22) rfl rfl (bX d) (aQ (fun _ a=>aD (v:=zB (decide (0 < h))) rfl) ?_)))))
    rcases aK b with ⟨c,b⟩|⟨c,b⟩
    ·refine bP (g:=25) rfl rfl c (aQ (fun _ a=>aD k) (bP (g:=25) rfl rfl c (aQ (fun _ a=>aD i) (bP (g:=25) rfl rfl c (aQ (fun _ a=>jS rfl rfl) (bP (g:=25) rfl rfl c ?_))))))
     obtain ⟨y,a3,b⟩:=aI b
     refine aQ (fun _ a=>cO bW rfl m rfl rfl rfl a3) ?_
     obtain ⟨c9,b7,b8⟩:=bT.el (sz:=1) rfl m a3
     cases b8
     exact bP (g:=25) rfl rfl c (aQ (fun _ a=>bH (t:=0) cP a b7 rfl rfl) (bP (g:=25) rfl rfl c (aQ (fun _ a=>aD k) (bP (g:=25) rfl rfl c (aQ (fun _ a=>aD i) (bP (g:=25) rfl rfl c (aQ (fun _ a=>cO bW rfl m rfl rfl rfl x) (bP (g:=25) rfl rfl c (aQ (fun _ a=>bH (t:=0) cP a a0 rfl rfl) (bP (g:=25) rfl rfl c (aQ (fun _ a=>tT rfl rfl) (bP (g:=22) rfl rfl (bX d) (aQ (fun _ a=>bI (v:=zB (decide (p≤y))) c rfl rfl) (aQ (fun _ a=>bJ (v:=zB (decide (p≤y))) d rfl rfl) (dC (fun d0 b9=>(aA ⟨decide (p≤y),b,k,n,o,i,rfl,b9⟩)))))))))))))))))
    ·exact aX (g:=25) rfl rfl (bU c) (aX (g:=25) rfl rfl (bU c) (aX (g:=25) rfl rfl (bU c) (aX (g:=25) rfl rfl (bU c) (aX (g:=25) rfl rfl (bU c) (aX (g:=25) rfl rfl (bU c) (aX (g:=25) rfl rfl (bU c) (aX (g:=25) rfl rfl (bU c) (aX (g:=25) rfl rfl (bU c) (aX (g:=25) rfl rfl (bU c) (bP (g:=22) rfl rfl (bX d) (aQ (fun _ a=>bJ (v:=zB false) c rfl rfl) (aQ (fun _ a=>bJ (v:=zB false) d rfl rfl) (dC (fun d1 c0=>(aA ⟨false,b,k,n,o,i,rfl,c0⟩)))))))))))))))
  ·refine aM q rfl (cB (aY (aY ?_)))
   have c1:=J _ (zI b).symm
   subst c1
   have e:(aAy)=some R:=e
   exact bO (aA ⟨e,a⟩)
theorem aGm {c:(List aZ)} {R:Bool} (o:aL G K (L) w) (k:bT K a1 c2 c) (b:yT c=some R):
  Calls Tryz.prog 195 ([zS a1 c.length c2]:List Value).toArray w (fV fun v w'=>v=zB R∧aL G K (L) w'):=by
 refine aT Tryz.func195 rfl (by kernel_rfl) (by show (1:Nat)≤16;decide) ?_
 unfold yT at b
 refine aAZ (pM (v:=zB false) (aAf (aH (aAZ (pM (v:=i64 0) (aAf (bD (fun f w=>wS=some R∧aL G K (L) w) ?_ ?_)))))))
 ·rintro f w4 ⟨b,p⟩
  unfold wS at b
  refine aA (aAZ (pM (v:=zB true) (aAf ?_)))
  cases zI b
  exact bF (bC Tryz.results195 rfl ⟨rfl,p⟩)
 obtain ⟨a3,r,b⟩:=aI b
 refine cD r (fun (d:Int) f w=>f 0=zS a1 c.length c2∧f 3=i64 d∧aL G K (L) w) ?_ ?_
 ·exact ⟨rfl,rfl,o⟩
 ·rintro d u f a4 a l ⟨e,g,h⟩
  replace a:oT c d=some u:=a
  unfold oT at a
  refine aH (aAZ (aCv g (aCv e (aB (bQ (len:=c.length) cY rfl) (aB (cJ rfl rfl) (aAf ?_))))))
  rcases aK a with ⟨i,a⟩|⟨i,a⟩
  ·refine aO i rfl (aW (aA (aH (cU (aAZ (aCv e (aCv g ?_)))))))
   obtain ⟨x,m,a⟩:=aI a
   refine aB (cO cY rfl k rfl rfl rfl m) ?_
   obtain ⟨a5,y,z⟩:=bT.el (sz:=1) rfl k m
   cases z
   refine aB (bH (t:=0) pK h y rfl rfl) ?_
   obtain ⟨a6,J,a⟩:=aI a
   refine aU (vs:=[cL x]) Tryz.call258 rfl (aDx h J) ?_
   rintro _ a7 ⟨rfl,n⟩
   refine aB (dY rfl) (aAf ?_)
   rcases aK a with ⟨j,a⟩|⟨j,a⟩
   ·refine aO j rfl (aAZ (pM (v:=zB false) (aAf (bF (bN (aS (aS ?_)))))))
    have V:=l _ (zI a).symm
    subst V
    have b:(some false)=some R:=b
    cases zI b
    exact bN (aS (aS (bC Tryz.results195 rfl ⟨rfl,n⟩)))
   ·exact aM j rfl (aW (bG (aA (aC (aCv g (aB (cX rfl rfl) (pM (v:=i64 (wr (d+1))) (aAf ⟨wr (d+1),(zI a).symm,e,rfl,n⟩))))))))
  ·refine aM i rfl (cB (aY (aY ?_)))
   have a0:=l _ (zI a).symm
   subst a0
   have b:(wS)=some R:=b
   exact bO (aA ⟨b,h⟩)
theorem aHD {d:(List aZ)} {R:Bool} (p:aL G K (L) w) (h:bT K a1 c2 d) (a:aCf d=some R):
  Calls Tryz.prog 129 ([zS a1 d.length c2]:List Value).toArray w (fV fun v w'=>v=zB R∧aL G K (L) w'):=by
 refine aT Tryz.func129 rfl (by kernel_rfl) (by show (1:Nat)≤28;decide) ?_
 unfold aCf at a
 refine aAZ (pM (v:=zB false) (aAf (aH (aH (cS (fun f w=>∃ (l:Bool),wG d l=some R∧f 0=zS a1 d.length c2∧f 11=zB l∧aL G K (L) w) ?_ ?_)))))
 ·rintro f w7 ⟨l,a,V,q,r⟩
  unfold wG at a
  refine aA ?_
  rcases aK a with ⟨m,a⟩|⟨m,a⟩
  ·refine aO m q (aAZ (pM (v:=zB false) (aAf ?_)))
   cases zI a
   exact bF (aS (bC Tryz.results129 rfl ⟨rfl,r⟩))
  ·refine aM m q (aW (aA (aH (aAZ (pM (v:=i64 1) (aAf (bD (fun f w=>aAz=some R∧aL G K (L) w) ?_ ?_)))))))
   ·rintro f b5 ⟨a,a0⟩
    unfold aAz at a
    refine aA (aAZ (pM (v:=zB true) (aAf ?_)))
    cases zI a
    exact bF (bC Tryz.results129 rfl ⟨rfl,a0⟩)
   obtain ⟨b6,a3,a⟩:=aI a
   refine cD a3 (fun (i:Int) f w=>f 0=zS a1 d.length c2∧f 3=i64 i∧aL G K (L) w) ?_ ?_
   ·exact ⟨V,rfl,r⟩
   ·rintro i a4 f b7 b u ⟨j,k,c⟩
    replace b:pP d i=some a4:=b
    unfold pP at b
    refine aH (aAZ (aCv k (aCv j (aB (bQ (len:=d.length) cY rfl) (aB (cJ rfl rfl) (aAf ?_))))))
    rcases aK b with ⟨n,b⟩|⟨n,b⟩
    ·refine aO n rfl (aW (aA (aH (cU (aH (cT (C:=fun w'=>aL G K (L) w') bK (by kernel_rfl) (aL.mono c (dE.drew _)) (aQ (fun _ c=>aD j) (aQ (fun _ c=>aD k) (aQ (fun _ c=>jS rfl rfl) ?_)))))))))
     obtain ⟨b8,x,b⟩:=aI b
     refine aQ (fun _ c=>cO cY rfl h rfl rfl rfl x) ?_
     obtain ⟨b9,a5,a6⟩:=bT.el (sz:=1) rfl h x
     cases a6
     refine aQ (fun _ c=>bH (t:=0) pK c a5 rfl rfl) (aQ (fun _ c=>aD j) (aQ (fun _ c=>aD k) ?_))
     obtain ⟨c0,y,b⟩:=aI b
     refine aQ (fun _ c=>cO cY rfl h rfl rfl rfl y) ?_
     obtain ⟨c1,a7,a8⟩:=bT.el (sz:=1) rfl h y
     cases a8
     refine aQ (fun _ c=>bH (t:=0) pK c a7 rfl rfl) (aQ (fun _ c=>R_geqS rfl rfl) (dC (fun c3 z=>(aA ?_))))
     rcases aK b with ⟨o,b⟩|⟨o,b⟩
     ·refine aO o rfl (aAZ (pM (v:=zB false) (aAf (bF (bN (aS (aS ?_)))))))
      have a9:=u _ (zI b).symm
      subst a9
      have a:(some false)=some R:=a
      cases zI a
      exact bN (aS (aS (bC Tryz.results129 rfl ⟨rfl,z⟩)))
     ·exact aM o rfl (aW (bG (aA (aC (aCv k (aB (cX rfl rfl) (pM (v:=i64 (wr (i+1))) (aAf ⟨wr (i+1),(zI b).symm,j,rfl,z⟩))))))))
    ·refine aM n rfl (cB (aY (aY ?_)))
     have b1:=u _ (zI b).symm
     subst b1
     have a:(aAz)=some R:=a
     exact bO (aA ⟨a,c⟩)
 refine aC (aBl (v:=zS a1 d.length c2) (aB (bQ (len:=d.length) cY rfl) (aB (mL rfl rfl) (aBl (v:=zB (decide (12 < (d.length:Int)))) ?_))))
 rcases aK a with ⟨e,a⟩|⟨e,a⟩
 ·exact bA e rfl rfl (bA e rfl rfl (bA e rfl rfl (aB (bI (v:=zB true) e rfl rfl) (aAf ⟨true,a,rfl,rfl,p⟩))))
 ·refine bM e rfl rfl (aBl (v:=zS a1 d.length c2) (bM e rfl rfl ?_))
  obtain ⟨J,b2,a⟩:=aI a
  refine aU (vs:=[zS a1 d.length c2]) Tryz.call195 rfl (aGm p h b2) ?_
  rintro _ c4 ⟨rfl,b3⟩
  exact bM e rfl rfl (aB (dY rfl) (aB (bJ (v:=zB (!J)) e rfl rfl) (aAf ⟨!J,a,rfl,rfl,b3⟩)))
theorem aKS {p:cA} {h:Nat} {R:Bool} (a:aL G K (L) w) (d:fW K a1 h (zE p a4 c5 a7 c8 a10 c11 a13 c14)) (n:bT K a4 c5 p.S.L) (o:bT K a7 c8 p.S.E) (q:bT K a10 c11 p.M) (r:bT K a13 c14 p.C) (c:aGj p=some R):
  Calls Tryz.prog 55 ([bY a1 h]:List Value).toArray w (fV fun v w'=>v=zB R∧aL G K (L) w'):=by
 refine aT Tryz.func55 rfl (by kernel_rfl) (by show (1:Nat)≤27;decide) ?_
 unfold aGj at c
 refine aAZ (pM (v:=zB false) (aAf (aH (cS (fun f w=>∃ (j:Bool),aAk j=some R∧f 2=zB j∧aL G K (L) w) ?_ ?_))))
 ·rintro f a3 ⟨j,c,u,x⟩
  unfold aAk at c
  refine aA ?_
  cases zI c
  exact bF (bC Tryz.results55 rfl ⟨u,x⟩)
 refine cT (C:=fun w'=>aL G K (L) w') bK (by kernel_rfl) (aL.mono a (dE.drew _)) (aQ (fun _ a=>aD (v:=bY a1 h) rfl) (aQ (fun _ a=>dG rfl d) (aQ (fun _ a=>cH (k':=h+0) iZ rfl d rfl) ?_)))
 obtain ⟨l,z,c⟩:=aI c
 refine iR (vs:=[bY a1 (h+0)]) (v:=zB l) Tryz.call56 rfl (fun _ a=>(aEL a (fW.sub (t:=0) (m:=4) d rfl) n o z)) (aQ (fun _ a=>aD (v:=zB l) rfl) ?_)
 rcases aK c with ⟨b,c⟩|⟨b,c⟩
 ·refine bP (g:=7) rfl rfl b (aQ (fun _ a=>aD (v:=bY a1 h) rfl) (bP (g:=7) rfl rfl b (aQ (fun _ a=>dG rfl d) (bP (g:=7) rfl rfl b (aQ (fun _ a=>cH (k':=h+4) aAr rfl d rfl) (bP (g:=7) rfl rfl b (aQ (fun _ a=>bH (t:=4) mM a d rfl rfl) (bP (g:=7) rfl rfl b (aQ (fun _ a=>aD (v:=bY a1 h) rfl) (bP (g:=7) rfl rfl b (aQ (fun _ a=>dG rfl d) (bP (g:=7) rfl rfl b (aQ (fun _ a=>cH (k':=h+0) iZ rfl d rfl) (bP (g:=7) rfl rfl b (aQ (fun _ a=>cH (k':=h+0) tP rfl d rfl) (bP (g:=7) rfl rfl b (aQ (fun _ a=>bH (t:=0) cP a d rfl rfl) (bP (g:=7) rfl rfl b (aQ (fun _ a=>jS rfl rfl) (bP (g:=7) rfl rfl b ?_))))))))))))))))))))
  obtain ⟨k,J,c⟩:=aI c
  refine iR (vs:=[zS a10 p.M.length c11,i64 0,i64 (wr (p.S.N - 1))]) (v:=zB k) Tryz.call128 rfl (fun _ a=>(aHC a q J)) (aQ (fun _ a=>bI (v:=zB k) b rfl rfl) (aQ (fun _ a=>aD (v:=zB k) rfl) ?_))
  rcases aK c with ⟨e,c⟩|⟨e,c⟩
  ·refine bP (g:=20) rfl rfl e (aQ (fun _ a=>aD (v:=bY a1 h) rfl) (bP (g:=20) rfl rfl e (aQ (fun _ a=>dG rfl d) (bP (g:=20) rfl rfl e (aQ (fun _ a=>cH (k':=h+5) aBp rfl d rfl) (bP (g:=20) rfl rfl e (aQ (fun _ a=>bH (t:=5) jJ a d rfl rfl) (bP (g:=20) rfl rfl e ?_))))))))
   obtain ⟨i,V,c⟩:=aI c
   exact iR (vs:=[zS a13 p.C.length c14]) (v:=zB i) Tryz.call129 rfl (fun _ a=>(aHD a r V)) (aQ (fun _ a=>bI (v:=zB i) e rfl rfl) (aQ (fun _ a=>aG (v:=zB i) rfl) (dC (fun a5 Z=>(aA ⟨i,c,rfl,Z⟩)))))
  ·exact aX (g:=20) rfl rfl (bU e) (aX (g:=20) rfl rfl (bU e) (aX (g:=20) rfl rfl (bU e) (aX (g:=20) rfl rfl (bU e) (aX (g:=20) rfl rfl (bU e) (aQ (fun _ a=>bJ (v:=zB false) e rfl rfl) (aQ (fun _ a=>aG (v:=zB false) rfl) (dC (fun a6 a0=>(aA ⟨false,c,rfl,a0⟩)))))))))
 ·exact aX (g:=7) rfl rfl (bU b) (aX (g:=7) rfl rfl (bU b) (aX (g:=7) rfl rfl (bU b) (aX (g:=7) rfl rfl (bU b) (aX (g:=7) rfl rfl (bU b) (aX (g:=7) rfl rfl (bU b) (aX (g:=7) rfl rfl (bU b) (aX (g:=7) rfl rfl (bU b) (aX (g:=7) rfl rfl (bU b) (aX (g:=7) rfl rfl (bU b) (aX (g:=7) rfl rfl (bU b) (aQ (fun _ a=>bJ (v:=zB false) b rfl rfl) (aQ (fun _ a=>aD (v:=zB false) rfl) (aX (g:=20) rfl rfl (bU (by decide:¬ false=true)) (aX (g:=20) rfl rfl (bU (by decide:¬ false=true)) (aX (g:=20) rfl rfl (bU (by decide:¬ false=true)) (aX (g:=20) rfl rfl (bU (by decide:¬ false=true)) (aX (g:=20) rfl rfl (bU (by decide:¬ false=true)) (aQ (fun _ a=>bJ (v:=zB false) (by decide:¬ false=true) rfl rfl) (aQ (fun _ a=>aG (v:=zB false) rfl) (dC (fun a8 a2=>(aA ⟨false,c,rfl,a2⟩))))))))))))))))))))))
theorem aFy {t:dB} {l:Nat} {k:Int} {R:(List Edge)} (hs:aL G K (L) w) (c:fW K a1 l (zC t a4 c5 a7 c8)) (h6:bT K a4 c5 t.L) (J:bT K a7 c8 t.E) (d:aDl t k=some R):
  Calls Tryz.prog 131 ([bY a1 l,i64 k]:List Value).toArray w (fV fun v w'=>∃ (b1:Option Addr) (b2:Nat),v=zS b1 R.length b2∧aL G K (aN 63 K b1 b2 R::L) w'):=by
 refine aT Tryz.func131 rfl (by kernel_rfl) (by show (2:Nat)≤38;decide) ?_
 unfold aDl at d
 refine aAZ (pM (v:=zS none 0 0) (aAf (aAZ (dM (Kt:=K) (xs:=([]:List Edge)) (cs:=[]) (vs:=[]) cR vQ rfl rfl hs rfl (by kernel_rfl) rfl rfl rfl trivial (fun V b5 (b6:aL G K (aN 63 K V 0 ([]:List Edge)::L) b5)=>(pM (v:=zS V ([]:List Edge).length 0) (aAf (aH (aAZ (pM (v:=i64 0) (aAf (bD (fun f w=>∃ (o:List Edge) (p:Option Addr) (q:Nat),aAQ o=some R∧f 5=zS p o.length q∧aL G K (aN 63 K p q o::L) w) ?_ ?_))))))))))))
 ·rintro f d8 ⟨o,p,q,d,b7,b8⟩
  unfold aAQ at d
  refine aA (aAZ (aCv b7 (pM (v:=zS p o.length q) (aAf ?_))))
  cases zI d
  exact bF (bC Tryz.results131 rfl ⟨p,q,rfl,b8⟩)
 obtain ⟨d9,c0,d⟩:=aI d
 refine cD c0 (fun (s:(List Edge × Int)) f w=>match s with|(e,g)=>∃ (m:Option Addr) (n:Nat),f 0=bY a1 l∧f 1=i64 k∧f 5=zS m e.length n∧f 6=i64 g∧aL G K (aN 63 K m n e::L) w) ?_ ?_
 ·exact ⟨V,0,rfl,rfl,rfl,rfl,b6⟩
 ·rintro ⟨e,g⟩ b3 f e0 a c1 ⟨m,n,r,Z,a0,u,j⟩
  replace a:xO t k e g=some b3:=a
  unfold xO at a
  refine aH (aAZ (aCv u (aCv r (aB (dG rfl c) (aB (cH (k':=l+3) dO rfl c rfl) (aB (bH (t:=3) hX j c rfl rfl) (aB (bQ (len:=t.E.length) cR rfl) (aB (cJ rfl rfl) (aAf ?_)))))))))
  rcases aK a with ⟨a2,a⟩|⟨a2,a⟩
  ·refine aO a2 rfl (aW (aA (aH (bD (fun f w=>∃ (x:List Edge) (y:Option Addr) (z:Nat),aAR g x=some b3∧f 0=bY a1 l∧f 1=i64 k∧f 5=zS y x.length z∧f 6=i64 g∧aL G K (aN 63 K y z x::L) w) ?_ ?_))))
   ·rintro f e1 ⟨x,y,z,a,c2,c3,c4,c6,c7⟩
    unfold aAR at a
    exact aA (aC (aCv c6 (aB (cX rfl rfl) (pM (v:=i64 (wr (g+1))) (aAf ⟨(x,wr (g+1)),(zI a).symm,y,z,c2,c3,c4,rfl,c7⟩)))))
   refine aAZ (aCv r (aB (dG rfl c) (aB (cH (k':=l+3) dO rfl c rfl) (aB (bH (t:=3) hX j c rfl rfl) (aCv u ?_)))))
   obtain ⟨b,a3,a⟩:=aI a
   refine aB (cO cR rfl J rfl rfl rfl a3) ?_
   obtain ⟨e2,a5,c9⟩:=bT.el (sz:=3) rfl J a3
   cases c9
   refine aB (cH (k':=g.toNat * 3+0) fY rfl a5 rfl) (aB (bH (t:=0) cP j a5 rfl rfl) (aCv Z (aB (oY rfl rfl) (aAf ?_))))
   rcases aK a with ⟨a6,a⟩|⟨a6,a⟩
   ·refine aO a6 rfl (aC (aCv a0 (aCv r (aB (dG rfl c) (aB (cH (k':=l+3) dO rfl c rfl) (aB (bH (t:=3) hX j c rfl rfl) (aCv u (aB (cO cR rfl J rfl rfl rfl a3) (aB (gO (t:=0) (vs:=[i64 b.F,i64 b.B,i64 b.To]) mB j a5 rfl rfl rfl) (dM (Kt:=K) (xs:=([b]:List Edge)) (cs:=[i64 b.F,i64 b.B,i64 b.To]) (vs:=[(0,Value.agg #[i64 b.F,i64 b.B,i64 b.To])]) cR vQ rfl rfl j rfl (by kernel_rfl) rfl rfl rfl ⟨rfl,trivial⟩ (fun d0 d1 (d2:aL G K (aN 63 K d0 1 ([b]:List Edge)::aN 63 K m n e::L) d1)=>?_)))))))))))
    obtain ⟨a8,d3,a⟩:=aI a
    exact iY (i:=0) cR Tryz.underlying27 vQ rfl rfl d2 rfl (zR _) (zR _) d3 rfl rfl rfl rfl (fun _ h=>h) (fun a9 b0 d4 (d5:aL G K (aN 63 K a9 b0 a8::L) d4)=>(pM (v:=zS a9 a8.length b0) (aF (bG (aA ⟨a8,a9,b0,a,r,Z,rfl,u,d5⟩)))))
   ·exact aM a6 rfl (aW (bG (aA ⟨e,m,n,a,r,Z,a0,u,j⟩)))
  ·refine aM a2 rfl (cB (aY (aY ?_)))
   have d6:=c1 _ (zI a).symm
   subst d6
   have d:(aAQ e)=some R:=d
   exact bO (aA ⟨e,m,n,d,a0,j⟩)
theorem zY {d:(List aZ)} {e:aZ} {R:Int} (p:aL G K (L) w) (l:bT K a1 c2 d) (b:vF d e=some R):
  Calls Tryz.prog 105 ([zS a1 d.length c2,cL e]:List Value).toArray w (fV fun v w'=>v=i64 R∧aL G K (L) w'):=by
 refine aT Tryz.func105 rfl (by kernel_rfl) (by show (2:Nat)≤19;decide) ?_
 unfold vF at b
 refine aAZ (pM (v:=i64 0) (aAf (aH (aAZ (pM (v:=i64 0) (aAf (bD (fun f w=>aBy=some R∧aL G K (L) w) ?_ ?_)))))))
 ·rintro f w4 ⟨b,q⟩
  unfold aBy at b
  refine aA (aAZ (pM (v:=i64 (-1)) (aAf ?_)))
  cases zI b
  exact bF (bC Tryz.results105 rfl ⟨rfl,q⟩)
 obtain ⟨a2,u,b⟩:=aI b
 refine cD u (fun (c:Int) f w=>f 0=zS a1 d.length c2∧f 1=cL e∧f 5=i64 c∧aL G K (L) w) ?_ ?_
 ·exact ⟨rfl,rfl,rfl,p⟩
 ·rintro c x f a3 a m ⟨i,n,g,h⟩
  replace a:vE d e c=some x:=a
  unfold vE at a
  refine aH (aAZ (aCv g (aCv i (aB (bQ (len:=d.length) cY rfl) (aB (cJ rfl rfl) (aAf ?_))))))
  rcases aK a with ⟨j,a⟩|⟨j,a⟩
  ·refine aO j rfl (aW (aA (aH (cU (aAZ (aCv i (aCv g ?_)))))))
   obtain ⟨a4,o,a⟩:=aI a
   refine aB (cO cY rfl l rfl rfl rfl o) ?_
   obtain ⟨a5,y,z⟩:=bT.el (sz:=1) rfl l o
   cases z
   refine aB (bH (t:=0) pK h y rfl rfl) (aCv n (aB (aBb rfl rfl) (aAf ?_)))
   rcases aK a with ⟨k,a⟩|⟨k,a⟩
   ·refine aO k rfl (aAZ (aCv g (pM (v:=i64 c) (aAf (bF (bN (aS (aS ?_))))))))
    have J:=m _ (zI a).symm
    subst J
    have b:(some c)=some R:=b
    cases zI b
    exact bN (aS (aS (bC Tryz.results105 rfl ⟨rfl,h⟩)))
   ·exact aM k rfl (aW (bG (aA (aC (aCv g (aB (cX rfl rfl) (pM (v:=i64 (wr (c+1))) (aAf ⟨wr (c+1),(zI a).symm,i,n,rfl,h⟩))))))))
  ·refine aM j rfl (cB (aY (aY ?_)))
   have Z:=m _ (zI a).symm
   subst Z
   have b:(aBy)=some R:=b
   exact bO (aA ⟨b,h⟩)
theorem aIx {t:dB} {j:Nat} {k m:Int} {R:(List Int)} (hs:aL G K (L) w) (c:fW K a1 j (zC t a4 c5 a7 c8)) (h6:bT K a4 c5 t.L) (q:bT K a7 c8 t.E) (l:aDm t k m=some R):
  Calls Tryz.prog 196 ([bY a1 j,i64 k,i64 m]:List Value).toArray w (fV fun v w'=>∃ (c1:Option Addr) (c2:Nat),v=zS c1 R.length c2∧aL G K (aN 2 K c1 c2 R::L) w'):=by
 refine aT Tryz.func196 rfl (by kernel_rfl) (by show (3:Nat)≤53;decide) ?_
 unfold aDm at l
 refine aAZ (pM (v:=zS none 0 0) (aAf (aAZ (dM (Kt:=K) (xs:=([]:List Int)) (cs:=[]) (vs:=[]) bW tU rfl rfl hs rfl (by kernel_rfl) rfl rfl rfl trivial (fun a5 d2 (d3:aL G K (aN 2 K a5 0 ([]:List Int)::L) d2)=>(pM (v:=zS a5 ([]:List Int).length 0) (aAf (aH (aAZ (pM (v:=i64 0) (aAf (bD (fun f w=>∃ (r:List Int) (u:Option Addr) (x:Nat),yU r=some R∧f 7=zS u r.length x∧aL G K (aN 2 K u x r::L) w) ?_ ?_))))))))))))
 ·rintro f f5 ⟨r,u,x,l,d4,d5⟩
  unfold yU at l
  refine aA (aAZ (aCv d4 (pM (v:=zS u r.length x) (aAf ?_))))
  cases zI l
  exact bF (bC Tryz.results196 rfl ⟨u,x,rfl,d5⟩)
 obtain ⟨f6,d7,l⟩:=aI l
 refine cD d7 (fun (s:(List Int × Int)) f w=>match s with|(e,d)=>∃ (n:Option Addr) (o:Nat),f 0=bY a1 j∧f 1=i64 k∧f 2=i64 m∧f 7=zS n e.length o∧f 8=i64 d∧aL G K (aN 2 K n o e::L) w) ?_ ?_
 ·exact ⟨a5,0,rfl,rfl,rfl,rfl,rfl,d3⟩
 ·rintro ⟨e,d⟩ a6 f f7 a d8 ⟨n,o,y,a8,a9,b0,z,p⟩
  replace a:vG t k m e d=some a6:=a
  unfold vG at a
  refine aH (aAZ (aCv z (aCv y (aB (dG rfl c) (aB (cH (k':=j+3) dO rfl c rfl) (aB (bH (t:=3) hX p c rfl rfl) (aB (bQ (len:=t.E.length) cR rfl) (aB (cJ rfl rfl) (aAf ?_)))))))))
  rcases aK a with ⟨b1,a⟩|⟨b1,a⟩
  ·refine aO b1 rfl (aW (aA (aH (bD (fun f w=>∃ (J:List Int) (V:Option Addr) (Z:Nat),yV d J=some a6∧f 0=bY a1 j∧f 1=i64 k∧f 2=i64 m∧f 7=zS V J.length Z∧f 8=i64 d∧aL G K (aN 2 K V Z J::L) w) ?_ ?_))))
   ·rintro f f8 ⟨J,V,Z,a,d9,e0,e1,e2,e3,e4⟩
    unfold yV at a
    exact aA (aC (aCv e3 (aB (cX rfl rfl) (pM (v:=i64 (wr (d+1))) (aAf ⟨(J,wr (d+1)),(zI a).symm,V,Z,d9,e0,e1,e2,rfl,e4⟩)))))
   refine aH (cS (fun f w=>∃ (b2:Bool),yW t e d b2=some a6∧f 0=bY a1 j∧f 1=i64 k∧f 2=i64 m∧f 7=zS n e.length o∧f 8=i64 d∧f 40=zB b2∧aL G K (aN 2 K n o e::L) w) ?_ ?_)
   ·rintro f f9 ⟨b2,a,b3,c3,c4,c6,b4,c7,a0⟩
    unfold yW at a
    refine aA ?_
    rcases aK a with ⟨b5,a⟩|⟨b5,a⟩
    ·refine aO b5 c7 (aC (aCv c6 (aCv b3 (aB (dG rfl c) (aB (cH (k':=j+3) dO rfl c rfl) (aB (bH (t:=3) hX a0 c rfl rfl) (aCv b4 ?_)))))))
     obtain ⟨a2,c9,a⟩:=aI a
     refine aB (cO cR rfl q rfl rfl rfl c9) ?_
     obtain ⟨g0,d0,e5⟩:=bT.el (sz:=3) rfl q c9
     cases e5
     refine aB (cH (k':=d.toNat * 3+2) iB rfl d0 rfl) (aB (bH (t:=2) cP a0 d0 rfl rfl) (dM (Kt:=K) (xs:=([a2.To]:List Int)) (cs:=[i64 a2.To]) (vs:=[(0,i64 a2.To)]) bW tU rfl rfl a0 rfl (by kernel_rfl) rfl rfl rfl ⟨rfl,trivial⟩ (fun e6 e7 (e8:aL G K (aN 2 K e6 1 ([a2.To]:List Int)::aN 2 K n o e::L) e7)=>?_)))
     obtain ⟨b6,e9,a⟩:=aI a
     exact iY (i:=0) bW Tryz.underlying38 tU rfl rfl e8 rfl (zR _) (zR _) e9 rfl rfl rfl rfl (fun _ h=>h) (fun b7 b8 f0 (f1:aL G K (aN 2 K b7 b8 b6::L) f0)=>(pM (v:=zS b7 b6.length b8) (aF (bG (aA ⟨b6,b7,b8,a,b3,c3,c4,rfl,b4,f1⟩)))))
    ·exact aM b5 c7 (aW (bG (aA ⟨e,n,o,a,b3,c3,c4,c6,b4,a0⟩)))
   refine aC (aCv y (aB (dG rfl c) (aB (cH (k':=j+3) dO rfl c rfl) (aB (bH (t:=3) hX p c rfl rfl) (aCv z ?_)))))
   obtain ⟨b9,c0,a⟩:=aI a
   refine aB (cO cR rfl q rfl rfl rfl c0) ?_
   obtain ⟨g1,a3,f2⟩:=bT.el (sz:=3) rfl q c0
   cases f2
   refine aB (cH (k':=d.toNat * 3+0) fY rfl a3 rfl) (aB (bH (t:=0) cP p a3 rfl rfl) (aCv a8 (aB (oY rfl rfl) (aBl (v:=zB (b9.F == k)) ?_))))
   rcases aK a with ⟨b,a⟩|⟨b,a⟩
   ·exact bE b rfl rfl (aCv y (bE b rfl rfl (aB (dG rfl c) (bE b rfl rfl (aB (cH (k':=j+3) dO rfl c rfl) (bE b rfl rfl (aB (bH (t:=3) hX p c rfl rfl) (bE b rfl rfl (aCv z (bE b rfl rfl (aB (cO cR rfl q rfl rfl rfl c0) (bE b rfl rfl (aB (cH (k':=d.toNat * 3+1) fP rfl a3 rfl) (bE b rfl rfl (aB (bH (t:=1) cP p a3 rfl rfl) (bE b rfl rfl (aCv a9 (bE b rfl rfl (aB (oY rfl rfl) (aB (bI (v:=zB (b9.B == m)) b rfl rfl) (aAf ⟨b9.B == m,a,y,a8,a9,b0,z,rfl,p⟩)))))))))))))))))))))
   ·exact aV b rfl rfl (aV b rfl rfl (aV b rfl rfl (aV b rfl rfl (aV b rfl rfl (aV b rfl rfl (aV b rfl rfl (aV b rfl rfl (aV b rfl rfl (aV b rfl rfl (aB (bJ (v:=zB false) b rfl rfl) (aAf ⟨false,a,y,a8,a9,b0,z,rfl,p⟩)))))))))))
  ·refine aM b1 rfl (cB (aY (aY ?_)))
   have f3:=d8 _ (zI a).symm
   subst f3
   have l:(yU e)=some R:=l
   exact bO (aA ⟨e,n,o,l,b0,p⟩)
theorem aGn {d:dB} {b:Nat} {k:Int} {c:aZ} {R:(Int × Bool)} (q:aL G K (L) w) (e:fW K a1 b (zC d a4 c5 a7 c8)) (r:bT K a4 c5 d.L) (x:bT K a7 c8 d.E) (a:aFd d k c=some R):
  Calls Tryz.prog 132 ([bY a1 b,i64 k,cL c]:List Value).toArray w (fV fun v w'=>v=Value.tuple #[i64 R.1,zB R.2]∧aL G K (L) w'):=by
 refine aT Tryz.func132 rfl (by kernel_rfl) (by show (3:Nat)≤29;decide) ?_
 unfold aFd at a
 refine aAZ (pM (v:=i64 0) (pM (v:=zB false) (aAf (aAZ (aBl (v:=bY a1 b) (aB (dG rfl e) (aB (cH (k':=b+2) gL rfl e rfl) (aB (bH (t:=2) jJ q e rfl rfl) (aBl (v:=cL c) ?_)))))))))
 obtain ⟨g,y,a⟩:=aI a
 refine aU (vs:=[zS a4 d.L.length c5,cL c]) Tryz.call105 rfl (zY q r y) ?_
 rintro _ a3 ⟨rfl,u⟩
 refine pM (v:=i64 g) (aAf (aH (aAZ (aBl (v:=i64 g) (aB (cJ rfl rfl) (aAf ?_))))))
 rcases aK a with ⟨l,a⟩|⟨l,a⟩
 ·refine aO l rfl (aAZ (aBl (v:=i64 k) (pM (v:=i64 k) (pM (v:=zB true) (aAf ?_)))))
  cases zI a
  exact bF (aS (tM Tryz.results132 rfl rfl ⟨rfl,u⟩))
 ·refine aM l rfl (aW (aA (aAZ (aBl (v:=bY a1 b) (aBl (v:=i64 k) (aBl (v:=i64 g) ?_))))))
  obtain ⟨h,J,a⟩:=aI a
  refine aU (vs:=[bY a1 b,i64 k,i64 g]) Tryz.call196 rfl (aIx u e r x J) ?_
  rintro _ a5 ⟨m,n,rfl,j⟩
  refine pM (v:=zS m h.length n) (aAf (aH (aAZ (aBl (v:=zS m h.length n) (aB (bQ (len:=h.length) bW rfl) (aB (oY rfl rfl) (aAf ?_)))))))
  rcases aK a with ⟨o,a⟩|⟨o,a⟩
  ·refine aO o rfl (aAZ (pM (v:=i64 0) (pM (v:=zB false) (aAf ?_))))
   cases zI a
   exact bF (aS (tM Tryz.results132 rfl rfl ⟨rfl,(aL.arr 1 [] j rfl)⟩))
  ·refine aM o rfl (aW (aA (aAZ (aBl (v:=zS m h.length n) ?_))))
   obtain ⟨Z,p,a⟩:=aI a
   have a0:=cG j (i:=0) rfl p
   refine aB (dA bW rfl a0 rfl rfl rfl p) (aB (kA (t:=0) cP j (i:=0) rfl p rfl rfl rfl) (pM (v:=i64 Z) (pM (v:=zB true) (aAf ?_))))
   cases zI a
   exact bF (tM Tryz.results132 rfl rfl ⟨rfl,(aL.arr 1 [] j rfl)⟩)
theorem aIy {a b:(List Int)} {R:Bool} (m:aL G K (L) w) (n:bT K a1 c2 a) (o:bT K a4 c5 b) (c:aDn a b=some R):
  Calls Tryz.prog 108 ([zS a1 a.length c2,zS a4 b.length c5]:List Value).toArray w (fV fun v w'=>v=zB R∧aL G K (L) w'):=by
 refine aT Tryz.func108 rfl (by kernel_rfl) (by show (2:Nat)≤26;decide) ?_
 unfold aDn at c
 refine aAZ (pM (v:=zB false) (aAf (aH (aAZ (aBl (v:=zS a1 a.length c2) (aB (bQ (len:=a.length) bW rfl) (aBl (v:=zS a4 b.length c5) (aB (bQ (len:=b.length) bW rfl) (aB (oZ rfl rfl) (aAf ?_))))))))))
 rcases aK c with ⟨i,c⟩|⟨i,c⟩
 ·refine aO i rfl (aAZ (pM (v:=zB false) (aAf ?_)))
  cases zI c
  exact bF (aS (bC Tryz.results108 rfl ⟨rfl,m⟩))
 ·refine aM i rfl (aW (aA (aH (aAZ (pM (v:=i64 0) (aAf (bD (fun f w=>aBz=some R∧aL G K (L) w) ?_ ?_)))))))
  ·rintro f w9 ⟨c,z⟩
   unfold aBz at c
   refine aA (aAZ (pM (v:=zB true) (aAf ?_)))
   cases zI c
   exact bF (bC Tryz.results108 rfl ⟨rfl,z⟩)
  obtain ⟨b0,V,c⟩:=aI c
  refine cD V (fun (g:Int) f w=>f 0=zS a1 a.length c2∧f 1=zS a4 b.length c5∧f 5=i64 g∧aL G K (L) w) ?_ ?_
  ·exact ⟨rfl,rfl,rfl,m⟩
  ·rintro g Z f b1 d p ⟨j,q,h,e⟩
   replace d:vH a b g=some Z:=d
   unfold vH at d
   refine aH (aAZ (aCv h (aCv j (aB (bQ (len:=a.length) bW rfl) (aB (cJ rfl rfl) (aAf ?_))))))
   rcases aK d with ⟨k,d⟩|⟨k,d⟩
   ·refine aO k rfl (aW (aA (aH (cU (aH (cT (C:=fun w'=>aL G K (L) w') bK (by kernel_rfl) (aL.mono e (dE.drew _)) (aQ (fun _ e=>aD j) (aQ (fun _ e=>aD h) ?_))))))))
    obtain ⟨b2,r,d⟩:=aI d
    refine aQ (fun _ e=>cO bW rfl n rfl rfl rfl r) ?_
    obtain ⟨b3,a0,a2⟩:=bT.el (sz:=1) rfl n r
    cases a2
    refine aQ (fun _ e=>bH (t:=0) cP e a0 rfl rfl) (aQ (fun _ e=>aD q) (aQ (fun _ e=>aD h) ?_))
    obtain ⟨b4,u,d⟩:=aI d
    refine aQ (fun _ e=>cO bW rfl o rfl rfl rfl u) ?_
    obtain ⟨b5,a3,a5⟩:=bT.el (sz:=1) rfl o u
    cases a5
    refine aQ (fun _ e=>bH (t:=0) cP e a3 rfl rfl) (aQ (fun _ e=>oZ rfl rfl) (dC (fun b6 x=>(aA ?_))))
    rcases aK d with ⟨l,d⟩|⟨l,d⟩
    ·refine aO l rfl (aAZ (pM (v:=zB false) (aAf (bF (bN (aS (aS ?_)))))))
     have a6:=p _ (zI d).symm
     subst a6
     have c:(some false)=some R:=c
     cases zI c
     exact bN (aS (aS (bC Tryz.results108 rfl ⟨rfl,x⟩)))
    ·exact aM l rfl (aW (bG (aA (aC (aCv h (aB (cX rfl rfl) (pM (v:=i64 (wr (g+1))) (aAf ⟨wr (g+1),(zI d).symm,j,q,rfl,x⟩))))))))
   ·refine aM k rfl (cB (aY (aY ?_)))
    have a8:=p _ (zI d).symm
    subst a8
    have c:(aBz)=some R:=c
    exact bO (aA ⟨c,e⟩)
theorem aAH {rows:(List (List Int))} {d:(List Int)} {R:Int} (p:aL G K (L) w) (k:bT K a1 c2 rows) (q:bT K a4 c5 d) (b:yX rows d=some R):
  Calls Tryz.prog 133 ([zS a1 rows.length c2,zS a4 d.length c5]:List Value).toArray w (fV fun v w'=>v=i64 R∧aL G K (L) w'):=by
 refine aT Tryz.func133 rfl (by kernel_rfl) (by show (2:Nat)≤19;decide) ?_
 unfold yX at b
 refine aAZ (pM (v:=i64 0) (aAf (aH (aAZ (pM (v:=i64 0) (aAf (bD (fun f w=>aCF=some R∧aL G K (L) w) ?_ ?_)))))))
 ·rintro f w7 ⟨b,r⟩
  unfold aCF at b
  refine aA (aAZ (pM (v:=i64 (-1)) (aAf ?_)))
  cases zI b
  exact bF (bC Tryz.results133 rfl ⟨rfl,r⟩)
 obtain ⟨a9,x,b⟩:=aI b
 refine cD x (fun (c:Int) f w=>f 0=zS a1 rows.length c2∧f 1=zS a4 d.length c5∧f 5=i64 c∧aL G K (L) w) ?_ ?_
 ·exact ⟨rfl,rfl,rfl,p⟩
 ·rintro c y f b0 a l ⟨g,m,e,h⟩
  replace a:xP rows d c=some y:=a
  unfold xP at a
  refine aH (aAZ (aCv e (aCv g (aB (bQ (len:=rows.length) fX rfl) (aB (cJ rfl rfl) (aAf ?_))))))
  rcases aK a with ⟨i,a⟩|⟨i,a⟩
  ·refine aO i rfl (aW (aA (aH (cU (aAZ (aCv g (aCv e ?_)))))))
   obtain ⟨z,n,a⟩:=aI a
   refine aB (cO fX rfl k rfl rfl rfl n) ?_
   obtain ⟨b1,J,V⟩:=bT.el (sz:=1) rfl k n
   obtain ⟨Z,a0,rfl,a2⟩:=V
   refine aB (bH (t:=0) mM h J rfl rfl) (aCv m ?_)
   obtain ⟨b2,a3,a⟩:=aI a
   refine aU (vs:=[zS Z z.length a0,zS a4 d.length c5]) Tryz.call108 rfl (aIy h a2 q a3) ?_
   rintro _ b3 ⟨rfl,o⟩
   refine aAf ?_
   rcases aK a with ⟨j,a⟩|⟨j,a⟩
   ·refine aO j rfl (aAZ (aCv e (pM (v:=i64 c) (aAf (bF (bN (aS (aS ?_))))))))
    have a5:=l _ (zI a).symm
    subst a5
    have b:(some c)=some R:=b
    cases zI b
    exact bN (aS (aS (bC Tryz.results133 rfl ⟨rfl,o⟩)))
   ·exact aM j rfl (aW (bG (aA (aC (aCv e (aB (cX rfl rfl) (pM (v:=i64 (wr (c+1))) (aAf ⟨wr (c+1),(zI a).symm,g,m,rfl,o⟩))))))))
  ·refine aM i rfl (cB (aY (aY ?_)))
   have a7:=l _ (zI a).symm
   subst a7
   have b:(aCF)=some R:=b
   exact bO (aA ⟨b,h⟩)
theorem aHE {p:cA} {a:Nat} {d:dB} {b:Nat} {R:((List (List Int)) × (List Edge) × Bool)} (hs:aL G K (L) w) (h3:fW K a1 a (zE p a4 c5 a7 c8 a10 c11 a13 c14)) (h6:bT K a4 c5 p.S.L) (h9:bT K a7 c8 p.S.E) (z0:bT K a10 c11 p.M) (z1:bT K a13 c14 p.C) (g6:fW K a16 b (zC d a19 c20 a22 c23)) (n9:bT K a19 c20 d.L) (o0:bT K a22 c23 d.E) (V:aCg p d=some R):
  Calls Tryz.prog 57 ([bY a1 a,bY a16 b]:List Value).toArray w (fV fun v w'=>∃ (K':Hp) (l0:Option Addr) (l1:Nat) (l2:Option Addr) (l3:Nat) (l4:Nat),v=zP (some ⟨l4,0,none⟩)∧Hp.le K K'∧aL G K' (aN 38 K' l0 l1 R.1::aN 63 K l2 l3 R.2.1::box l4 86 [bY a1 a,bY a16 b,zS l0 R.1.length l1,zS l2 R.2.1.length l3,zB R.2.2]::L) w'):=by
 refine aT Tryz.func57 rfl (by kernel_rfl) (by show (2:Nat)≤149;decide) ?_
 unfold aCg at V
 refine aAZ (pM (v:=zP none) (aAf (aH (eQ (C:=fun w'=>∃ L',aL G K L' w') [(0,0),(1,0),(2,0),(3,0),(4,0),(5,0),(6,0),(7,0),(8,0),(9,0),(10,0),(11,1),(12,1),(13,0),(14,1),(15,0)] bK (by kernel_rfl) (fun _ hg=>⟨_,aL.mono hs hg⟩) (fun z2 o1=>?_)))))
 have e8:=aL.mono hs o1
 refine bS rfl (fun _ _=>aD (v:=bY a1 a) rfl) (bS rfl (fun _ _=>aD (v:=bY a16 b) rfl) (bS rfl (fun _ _=>aD (v:=bY a1 a) rfl) (bS rfl (fun _ _=>dG rfl h3) (bS rfl (fun _ _=>cH (k':=a+0) iZ rfl h3 rfl) (bS rfl (fun _ _=>cH (k':=a+1) rM rfl h3 rfl) (bS rfl (fun _ ⟨_,e8⟩=>bH (t:=1) cP e8 h3 rfl rfl) (bS rfl (fun _ _=>aD (v:=bY a16 b) rfl) (bS rfl (fun _ _=>dG rfl g6) (bS rfl (fun _ _=>cH (k':=b+1) rM rfl g6 rfl) (bS rfl (fun _ ⟨_,e8⟩=>bH (t:=1) cP e8 g6 rfl rfl) (lL rfl (dM (Kt:=K) (xs:=([p.S.I,d.I]:List Int)) (cs:=[i64 p.S.I,i64 d.I]) (vs:=[(0,i64 p.S.I),(1,i64 d.I)]) bW tU rfl rfl e8 rfl (by kernel_rfl) rfl rfl rfl ⟨rfl,rfl,trivial⟩ (fun g7 l5 (l6:aL G K (aN 2 K g7 2 ([p.S.I,d.I]:List Int)::L) l5)=>(aF (aA ⟨⟨_,l6⟩,?_⟩)))))))))))))))
 refine lL rfl ?_
 obtain ⟨d0,n,o2,j0⟩:=aL.giveS (i:=0) l6 (zR _) rfl
 replace j0:aL G d0 (L) l5:=j0
 refine dM (Kt:=d0) (xs:=([([p.S.I,d.I]:List Int)]:List (List Int))) (cs:=[zS g7 ([p.S.I,d.I]:List Int).length 2]) (vs:=[(0,zS g7 ([p.S.I,d.I]:List Int).length 2)]) fX aBV rfl rfl j0 rfl (by kernel_rfl) rfl rfl rfl ⟨⟨g7,2,rfl,o2⟩,trivial⟩ (fun d5 o3 (l7:aL G d0 (aN 38 d0 d5 1 ([([p.S.I,d.I]:List Int)]:List (List Int))::L) o3)=>(aF (aA ⟨⟨_,(aL.weakK l7 n)⟩,?_⟩)))
 refine bS rfl (fun _ _=>kU (vs:=[(0,bY a1 a),(1,bY a16 b),(2,zS d5 ([([p.S.I,d.I]:List Int)]:List (List Int)).length 1)]) (cs:=[bY a1 a,bY a16 b,zS d5 ([([p.S.I,d.I]:List Int)]:List (List Int)).length 1,zS none 0 0,zB false]) bs_86 rfl (by kernel_rfl)) (lL rfl (dW (v:=Value.agg #[bY a1 a,bY a16 b,zS d5 ([([p.S.I,d.I]:List Int)]:List (List Int)).length 1,zS none 0 0,zB false]) (vs:=[bY a1 a,bY a16 b,zS d5 ([([p.S.I,d.I]:List Int)]:List (List Int)).length 1,zS none 0 0,zB false]) l7 rfl rfl (fun j z3 l8=>(aF (aA ⟨⟨_,(aL.weakK l8 n)⟩,?_⟩)))))
 refine bS rfl (fun _ _=>aG (v:=zP (some ⟨j,0,none⟩)) rfl) (kB (aA (aH (aAZ (pM (v:=i64 0) (aAf (bD (fun f w=>∃ (b7:Hp) (a2:List (List Int)) (z:List Edge) (b1:Option Addr) (b2:Nat) (b3:Option Addr) (b4:Nat),Hp.le d0 b7∧wI a2 z=some R∧f 5=zP (some ⟨j,0,none⟩)∧aL G b7 (aN 63 K b3 b4 z::aN 38 b7 b1 b2 a2::box j 86 [bY a1 a,bY a16 b,zS b1 a2.length b2,zS b3 z.length b4,zB false]::L) w) ?_ ?_)))))))
 ·rintro f z4 ⟨b7,a2,z,b1,b2,b3,b4,o4,V,e9,g8⟩
  unfold wI at V
  refine aA (aH (cS (fun f w=>∃ (j1:Bool),wH a2 z j1=some R∧f 5=zP (some ⟨j,0,none⟩)∧aL G b7 (aN 63 K b3 b4 z::aN 38 b7 b1 b2 a2::box j 86 [bY a1 a,bY a16 b,zS b1 a2.length b2,zS b3 z.length b4,zB j1]::L) w) ?_ ?_))
  ·rintro f z5 ⟨j1,V,o5,o6⟩
   unfold wH at V
   refine aA (aAZ (aCv o5 (pM (v:=zP (some ⟨j,0,none⟩)) (aAf ?_))))
   cases zI V
   exact bF (bC Tryz.results57 rfl ⟨b7,b1,b2,b3,b4,j,rfl,(zL n o4),(aL.arr 2 [1,0] o6 rfl)⟩)
  refine aC (aCv e9 (aCv e9 (aB (dJ rfl) (aB (bB (t':=2) pB rfl rfl) (aB (bR qC g8 (i:=2) rfl rfl rfl) (aB (bQ (len:=a2.length) fX rfl) (aB (mL rfl rfl) (aBl (v:=zB (decide (40 < (a2.length:Int)))) ?_))))))))
  rcases aK V with ⟨a3,V⟩|⟨a3,V⟩
  ·exact bA a3 rfl rfl (bA a3 rfl rfl (bA a3 rfl rfl (bA a3 rfl rfl (bA a3 rfl rfl (bA a3 rfl rfl (aB (bI (v:=zB true) a3 rfl rfl) (aB (dJ rfl) (aB (bB (t':=4) aKO rfl rfl) (cC (i:=2) (ns:=[zB true]) (us:=[bY a1 a,bY a16 b,zS b1 a2.length b2,zS b3 z.length b4,zB true]) Tryz.sizeOf4 g8 rfl rfl rfl rfl rfl (dL rfl) rfl rfl (fun o8 (o9:aL G b7 (aN 63 K b3 b4 z::aN 38 b7 b1 b2 a2::box j 86 [bY a1 a,bY a16 b,zS b1 a2.length b2,zS b3 z.length b4,zB true]::L) o8)=>(aAf ⟨true,V,e9,o9⟩)))))))))))
  ·refine bM a3 rfl rfl (aCv e9 (bM a3 rfl rfl (aB (dJ rfl) (bM a3 rfl rfl (aB (bB (t':=3) aBq rfl rfl) (bM a3 rfl rfl (aB (bR hX g8 (i:=2) rfl rfl rfl) (bM a3 rfl rfl (aB (bQ (len:=z.length) cR rfl) (bM a3 rfl rfl (aB (mL rfl rfl) (aB (bJ (v:=zB (decide (300 < (z.length:Int)))) a3 rfl rfl) (aB (dJ rfl) (aB (bB (t':=4) aKO rfl rfl) (cC (i:=2) (ns:=[zB (decide (300 < (z.length:Int)))]) (us:=[bY a1 a,bY a16 b,zS b1 a2.length b2,zS b3 z.length b4,zB (decide (300 < (z.length:Int)))]) Tryz.sizeOf4 g8 rfl rfl rfl rfl rfl (dL rfl) rfl rfl ?_)))))))))))))))
   intro p0 (p1:aL G b7 (aN 63 K b3 b4 z::aN 38 b7 b1 b2 a2::box j 86 [bY a1 a,bY a16 b,zS b1 a2.length b2,zS b3 z.length b4,zB (decide (300 < (z.length:Int)))]::L) p0)
   exact aAf ⟨decide (300 < (z.length:Int)),V,e9,p1⟩
 have p2:=aL.nil (α:=Edge) l8 63 K
 obtain ⟨z6,p3,V⟩:=aI V
 refine cD p3 (fun (s:(List (List Int) × List Edge × Int)) f w=>match s with|(d1,d6,o)=>∃ (c0:Hp) (f0:Option Addr) (f1:Nat) (f2:Option Addr) (f3:Nat),Hp.le d0 c0∧f 0=bY a1 a∧f 1=bY a16 b∧f 5=zP (some ⟨j,0,none⟩)∧f 6=i64 o∧aL G c0 (aN 63 K f2 f3 d6::box j 86 [bY a1 a,bY a16 b,zS f0 d1.length f1,zS f2 d6.length f3,zB false]::aN 38 c0 f0 f1 d1::L) w) ?_ ?_
 ·exact ⟨d0,d5,1,none,0,(zR _),rfl,rfl,rfl,rfl,p2⟩
 ·rintro ⟨d1,d6,o⟩ g9 f z7 k p4 ⟨c0,f0,f1,f2,f3,q,l9,p5,h0,j2,j3⟩
  replace k:tG p d d1 d6 o=some g9:=k
  unfold tG at k
  refine aH (aAZ (aCv j2 (aCv h0 (aB (dJ rfl) (aB (bB (t':=2) pB rfl rfl) (aB (bR qC j3 (i:=1) rfl rfl rfl) (aB (bQ (len:=d1.length) fX rfl) (aB (cJ rfl rfl) (aAf ?_)))))))))
  rcases aK k with ⟨j4,k⟩|⟨j4,k⟩
  ·refine aO j4 rfl (aW (aA (aH (bD (fun f w=>∃ (f4:Hp) (f5:List (List Int)) (f6:List Edge) (h1:Option Addr) (h2:Nat) (h4:Option Addr) (h5:Nat),Hp.le c0 f4∧aCN o f5 f6=some g9∧f 0=bY a1 a∧f 1=bY a16 b∧f 5=zP (some ⟨j,0,none⟩)∧f 6=i64 o∧aL G f4 (aN 63 K h4 h5 f6::aN 38 f4 h1 h2 f5::box j 86 [bY a1 a,bY a16 b,zS h1 f5.length h2,zS h4 f6.length h5,zB false]::L) w) ?_ ?_))))
   ·rintro f z8 ⟨f4,f5,f6,h1,h2,h4,h5,p6,k,p7,p8,p9,q0,q1⟩
    unfold aCN at k
    exact aA (aC (aCv q0 (aB (cX rfl rfl) (pM (v:=i64 (wr (o+1))) (aAf ⟨(f5,f6,wr (o+1)),(zI k).symm,f4,h1,h2,h4,h5,(zL q p6),p7,p8,p9,rfl,(aL.arr 3 [0,2,1] q1 rfl)⟩)))))
   refine aH ?_
   obtain ⟨z9,d7,q2,q3,q4⟩:=aL.lendB (i:=1) j3 rfl
   obtain ⟨q5,d8,m0,m1,q6⟩:=aL.lendS (i:=1) q3 d7 rfl
   refine eQ (C:=fun w'=>∃ L',aL G q5 L' w') [(0,0),(1,0),(2,0),(3,0),(4,0),(5,0),(6,0),(7,0),(8,0),(9,0),(10,0),(11,0),(12,1),(13,0)] bK (by kernel_rfl) (fun _ hg=>⟨_,aL.mono m1 hg⟩) (fun a00 q7=>?_)
   have d2:=aL.mono m1 q7
   refine bS rfl (fun _ _=>aD l9) (bS rfl (fun _ _=>dG rfl (h3.mono (zL (zL (zL n q) d7) d8))) (bS rfl (fun _ _=>cH (k':=a+0) iZ rfl (h3.mono (zL (zL (zL n q) d7) d8)) rfl) (bS rfl (fun _ _=>aD h0) (bS rfl (fun _ _=>dJ rfl) (bS rfl (fun _ _=>bB (t':=2) pB rfl rfl) (bS rfl (fun _ ⟨_,d2⟩=>bH (t:=2) qC d2 (q2.mono d8) rfl rfl) (bS rfl (fun _ _=>aD j2) ?_)))))))
   obtain ⟨a01,j5,k⟩:=aI k
   have q8:=aCB m0 j5
   refine bS rfl (fun _ _=>dA fX rfl q8 rfl rfl rfl j5) ?_
   obtain ⟨a02,q9,r0⟩:=bT.el (sz:=1) rfl m0 j5
   obtain ⟨a03,a04,rfl,m2⟩:=r0
   refine bS rfl (fun _ ⟨_,d2⟩=>bH (t:=0) mM d2 q9 rfl rfl) ?_
   obtain ⟨r1,m3,k⟩:=aI k
   refine bS rfl (fun _ _=>cO bW rfl m2 rfl rfl rfl m3) ?_
   obtain ⟨a05,r2,r3⟩:=bT.el (sz:=1) rfl m2 m3
   cases r3
   refine bS rfl (fun _ ⟨_,d2⟩=>bH (t:=0) cP d2 r2 rfl rfl) (lL rfl ?_)
   obtain ⟨Z,r4,k⟩:=aI k
   refine aU (vs:=[bY a1 (a+0),i64 r1]) Tryz.call131 rfl (aFy d2 (fW.sub (t:=0) (m:=4) (h3.mono (zL (zL (zL n q) d7) d8)) rfl) (h6.mono (zL (zL (zL n q) d7) d8)) (h9.mono (zL (zL (zL n q) d7) d8)) r4) ?_
   rintro _ a06 ⟨a8,a9,rfl,m4⟩
   refine aF (aA ⟨⟨_,m4⟩,?_⟩)
   refine bS rfl (fun _ _=>aG (v:=zS a8 Z.length a9) rfl) (kB ?_)
   have r5:=q6 _ _ m4
   have r6:=q4 _ _ r5
   refine aA (aAZ (pM (v:=i64 0) (aAf (bD (fun f w=>∃ (f7:Hp) (f8:List (List Int)) (f9:List Edge) (h7:Option Addr) (h8:Nat) (i0:Option Addr) (i1:Nat),Hp.le c0 f7∧aAA o f8 f9=some g9∧f 0=bY a1 a∧f 1=bY a16 b∧f 5=zP (some ⟨j,0,none⟩)∧f 6=i64 o∧aL G f7 (aN 63 K i0 i1 f9::aN 38 f7 h7 h8 f8::box j 86 [bY a1 a,bY a16 b,zS h7 f8.length h8,zS i0 f9.length i1,zB false]::L) w) ?_ ?_))))
   ·rintro f a07 ⟨f7,f8,f9,h7,h8,i0,i1,r7,k,r8,r9,s0,s1,s2⟩
    unfold aAA at k
    exact bG (aA ⟨f7,f8,f9,h7,h8,i0,i1,r7,k,r8,r9,s0,s1,s2⟩)
   obtain ⟨a08,s3,k⟩:=aI k
   refine cD s3 (fun (s:(List (List Int) × List Edge × Int)) f w=>match s with|(x,l,b5)=>∃ (b0:Hp) (a5:Option Addr) (a6:Nat) (r:Option Addr) (u:Nat),Hp.le c0 b0∧f 0=bY a1 a∧f 1=bY a16 b∧f 5=zP (some ⟨j,0,none⟩)∧f 6=i64 o∧f 7=zS a8 Z.length a9∧f 8=i64 b5∧aL G b0 (box j 86 [bY a1 a,bY a16 b,zS a5 x.length a6,zS r l.length u,zB false]::aN 38 b0 a5 a6 x::aN 63 K a8 a9 Z::aN 63 K r u l::L) w) ?_ ?_
   ·exact ⟨c0,f0,f1,f2,f3,(zR _),l9,p5,h0,j2,rfl,rfl,r6⟩
   ·rintro ⟨x,l,b5⟩ j6 f a09 c s4 ⟨b0,a5,a6,r,u,a0,g0,g1,c1,g2,d9,e0,m5⟩
    replace c:pR p d o Z x l b5=some j6:=c
    unfold pR at c
    refine aH (aAZ (aCv e0 (aCv d9 (aB (bQ (len:=Z.length) cR rfl) (aB (cJ rfl rfl) (aAf ?_))))))
    rcases aK c with ⟨j7,c⟩|⟨j7,c⟩
    ·refine aO j7 rfl (aW (aA (aH (bD (fun f w=>∃ (g3:Hp) (g4:List (List Int)) (g5:List Edge) (i2:Option Addr) (i3:Nat) (i4:Option Addr) (i5:Nat),Hp.le b0 g3∧pQ b5 g4 g5=some j6∧f 0=bY a1 a∧f 1=bY a16 b∧f 5=zP (some ⟨j,0,none⟩)∧f 6=i64 o∧f 7=zS a8 Z.length a9∧f 8=i64 b5∧aL G g3 (box j 86 [bY a1 a,bY a16 b,zS i2 g4.length i3,zS i4 g5.length i5,zB false]::aN 38 g3 i2 i3 g4::aN 63 K a8 a9 Z::aN 63 K i4 i5 g5::L) w) ?_ ?_))))
     ·rintro f a11 ⟨g3,g4,g5,i2,i3,i4,i5,s5,c,s6,s7,s8,s9,t0,t1,t2⟩
      unfold pQ at c
      exact aA (aC (aCv t1 (aB (cX rfl rfl) (pM (v:=i64 (wr (b5+1))) (aAf ⟨(g4,g5,wr (b5+1)),(zI c).symm,g3,i2,i3,i4,i5,(zL a0 s5),s6,s7,s8,s9,t0,rfl,t2⟩)))))
     refine aH ?_
     obtain ⟨t3,c2,m6,e,t4⟩:=aL.lendS (i:=1) m5 (zR _) rfl
     refine cT (C:=fun w'=>aL G t3 (box j 86 [bY a1 a,bY a16 b,zS a5 x.length a6,zS r l.length u,zB false]::aN 63 K a8 a9 Z::aN 63 K r u l::L) w') bK (by kernel_rfl) (aL.mono e (dE.drew _)) (aQ (fun _ e=>aD g1) (aQ (fun _ e=>aD c1) (aQ (fun _ e=>dJ rfl) (aQ (fun _ e=>bB (t':=2) pB rfl rfl) (aQ (fun _ e=>bR qC e (i:=0) rfl rfl rfl) (aQ (fun _ e=>aD g2) ?_))))))
     obtain ⟨a12,j8,c⟩:=aI c
     have t5:=aCB m6 j8
     refine aQ (fun _ e=>dA fX rfl t5 rfl rfl rfl j8) ?_
     obtain ⟨a14,t6,t7⟩:=bT.el (sz:=1) rfl m6 j8
     obtain ⟨a15,a17,rfl,m7⟩:=t7
     refine aQ (fun _ e=>bH (t:=0) mM e t6 rfl rfl) ?_
     obtain ⟨t8,m8,c⟩:=aI c
     refine aQ (fun _ e=>cO bW rfl m7 rfl rfl rfl m8) ?_
     obtain ⟨a18,t9,u0⟩:=bT.el (sz:=1) rfl m7 m8
     cases u0
     refine aQ (fun _ e=>bH (t:=0) cP e t9 rfl rfl) (aQ (fun _ e=>aD g0) (aQ (fun _ e=>dG rfl (h3.mono (zL (zL (zL n q) a0) c2))) (aQ (fun _ e=>cH (k':=a+0) iZ rfl (h3.mono (zL (zL (zL n q) a0) c2)) rfl) (aQ (fun _ e=>cH (k':=a+2) gL rfl (h3.mono (zL (zL (zL n q) a0) c2)) rfl) (aQ (fun _ e=>bH (t:=2) jJ e (h3.mono (zL (zL (zL n q) a0) c2)) rfl rfl) (aQ (fun _ e=>aD d9) (aQ (fun _ e=>aD e0) ?_)))))))
     obtain ⟨J,d3,c⟩:=aI c
     have e1:=cG e (i:=1) rfl d3
     refine aQ (fun _ e=>dA cR rfl e1 rfl rfl rfl d3) (aQ (fun _ e=>aEx (k':=b5.toNat * 3+1) fP e1 rfl rfl) (aQ (fun _ e=>kA (t:=1) cP e (i:=1) rfl d3 rfl rfl rfl) ?_))
     obtain ⟨u1,m9,c⟩:=aI c
     refine aQ (fun _ e=>cO cY rfl (h6.mono (zL (zL (zL n q) a0) c2)) rfl rfl rfl m9) ?_
     obtain ⟨a20,u2,u3⟩:=bT.el (sz:=1) rfl h6 m9
     cases u3
     refine aQ (fun _ e=>bH (t:=0) pK e (u2.mono (zL (zL (zL n q) a0) c2)) rfl rfl) ?_
     obtain ⟨y,u4,c⟩:=aI c
     refine iR (vs:=[bY a16 b,i64 t8,cL u1]) (v:=Value.tuple #[i64 y.1,zB y.2]) Tryz.call132 rfl (fun _ e=>(aGn e (g6.mono (zL (zL (zL n q) a0) c2)) (n9.mono (zL (zL (zL n q) a0) c2)) (o0.mono (zL (zL (zL n q) a0) c2)) u4)) (aQ (fun _ e=>aD (v:=Value.tuple #[i64 y.1,zB y.2]) rfl) (aQ (fun _ e=>bV rfl rfl) (aQ (fun _ e=>bV rfl rfl) (aQ (fun _ e=>aG (v:=i64 y.1) rfl) (aQ (fun _ e=>aG (v:=zB y.2) rfl) (dC (fun a21 u5=>?_)))))))
     have j9:=t4 _ _ u5
     refine aA (aH (aAZ (aBl (v:=zB y.2) (aB (dY rfl) (aAf ?_)))))
     rcases aK c with ⟨k0,c⟩|⟨k0,c⟩
     ·exact aO k0 rfl (cB (aY (bO (aA ⟨b0,x,l,a5,a6,r,u,(zR _),c,g0,g1,c1,g2,d9,e0,(aL.arr 2 [1,0] j9 rfl)⟩))))
     ·refine aM k0 rfl (aW (aA (aAZ (aCv d9 (aCv e0 (aB (dA cR rfl e1 rfl rfl rfl d3) (aB (aEx (k':=b5.toNat * 3+2) iB e1 rfl rfl) (aB (kA (t:=2) cP j9 (i:=2) rfl d3 rfl rfl rfl) (aBl (v:=i64 y.1) (dM (Kt:=K) (xs:=([J.To,y.1]:List Int)) (cs:=[i64 J.To,i64 y.1]) (vs:=[(0,i64 J.To),(1,i64 y.1)]) bW tU rfl rfl j9 rfl (by kernel_rfl) rfl rfl rfl ⟨rfl,rfl,trivial⟩ (fun c9 u6 (n0:aL G b0 (aN 2 K c9 2 ([J.To,y.1]:List Int)::aN 38 b0 a5 a6 x::box j 86 [bY a1 a,bY a16 b,zS a5 x.length a6,zS r l.length u,zB false]::aN 63 K a8 a9 Z::aN 63 K r u l::L) u6)=>(pM (v:=zS c9 ([J.To,y.1]:List Int).length 2) (aAf (aAZ (aCv c1 (aB (dJ rfl) (aB (bB (t':=2) pB rfl rfl) (aB (bR qC n0 (i:=2) rfl rfl rfl) (aBl (v:=zS c9 ([J.To,y.1]:List Int).length 2) ?_)))))))))))))))))))
      obtain ⟨a23,u7,u8,u9,v0⟩:=aL.lendS (i:=1) n0 (zR _) rfl
      obtain ⟨a24,v1,v2,v3,v4⟩:=aL.lendS (i:=0) u9 (zL (zL (zL n q) a0) u7) rfl
      obtain ⟨k1,v5,c⟩:=aI c
      refine aU (vs:=[zS a5 x.length a6,zS c9 ([J.To,y.1]:List Int).length 2]) Tryz.call133 rfl (aAH v3 (u8.mono v1) v2 v5) ?_
      rintro _ v6 ⟨rfl,v7⟩
      have v8:=v4 _ _ v7
      have i6:=v0 _ _ v8
      refine pM (v:=i64 k1) (aAf (aBQ (fun f w=>∃ (c3:Hp) (b8:List (List Int)) (c4:Int) (c6:Option Addr) (c7:Nat),Hp.le b0 c3∧wJ o l b5 J b8 c4=some j6∧f 0=bY a1 a∧f 1=bY a16 b∧f 5=zP (some ⟨j,0,none⟩)∧f 6=i64 o∧f 7=zS a8 Z.length a9∧f 8=i64 b5∧f 12=i64 c4∧aL G c3 (aN 38 c3 c6 c7 b8::box j 86 [bY a1 a,bY a16 b,zS c6 b8.length c7,zS r l.length u,zB false]::aN 63 K a8 a9 Z::aN 63 K r u l::L) w) ?_ ?_))
      ·rintro f a25 ⟨c3,b8,c4,c6,c7,i7,c,v9,w0,k3,n1,n2,n3,w1,w2⟩
       unfold wJ at c
       obtain ⟨a26,k4,w3,w4,w5⟩:=aL.lendB (i:=1) w2 rfl
       obtain ⟨k5,k6,w6,n4,w7⟩:=aL.lendS (i:=1) w4 (zL (zL (zL (zL n q) a0) i7) k4) rfl
       refine eQ (C:=fun w'=>∃ L',aL G k5 L' w') [(0,0),(1,0),(2,0),(3,0),(4,0),(5,0),(6,0),(7,0),(8,0),(9,0),(10,0),(11,1),(12,1),(13,1),(14,1),(15,2),(16,2),(17,2)] bK (by kernel_rfl) (fun _ hg=>⟨_,aL.mono n4 hg⟩) (fun a27 w8=>?_)
       have d4:=aL.mono n4 w8
       refine bS rfl (fun _ _=>aD k3) (bS rfl (fun _ _=>aD k3) (bS rfl (fun _ _=>dJ rfl) (bS rfl (fun _ _=>bB (t':=3) aBq rfl rfl) (bS rfl (fun _ ⟨_,d4⟩=>bH (t:=3) hX d4 (w3.mono k6) rfl rfl) (bS rfl (fun _ _=>aD n1) (bS rfl (fun _ _=>aD n2) (bS rfl (fun _ _=>aD n3) (bS rfl (fun _ _=>dA cR rfl e1 rfl rfl rfl d3) (bS rfl (fun _ _=>aEx (k':=b5.toNat * 3+1) fP e1 rfl rfl) ?_)))))))))
       obtain ⟨a28,w9,x0⟩:=bT.el (sz:=3) rfl w6 d3
       cases x0
       refine bS rfl (fun _ ⟨_,d4⟩=>bH (t:=1) cP d4 w9 rfl rfl) (lL rfl (aCv w1 (aF (aA ⟨⟨_,d4⟩,?_⟩))))
       refine lL rfl (aB (kU (vs:=[(0,i64 o),(1,i64 J.B),(2,i64 c4)]) (cs:=[i64 o,i64 J.B,i64 c4]) bs_63 rfl (by kernel_rfl)) (aF (aA ⟨⟨_,d4⟩,?_⟩)))
       refine lL rfl (dM (Kt:=K) (xs:=([⟨o,J.B,c4⟩]:List Edge)) (cs:=[i64 o,i64 J.B,i64 c4]) (vs:=[(0,Value.agg #[i64 o,i64 J.B,i64 c4])]) cR vQ rfl rfl d4 rfl (by kernel_rfl) rfl rfl rfl ⟨rfl,trivial⟩ (fun x1 x2 (n5:aL G k5 (aN 63 K x1 1 ([⟨o,J.B,c4⟩]:List Edge)::aN 38 c3 c6 c7 b8::aN 63 K r u l::L) x2)=>(aF (aA ⟨⟨_,n5⟩,?_⟩))))
       refine lL rfl ?_
       obtain ⟨e2,x3,c⟩:=aI c
       refine iY (i:=1) cR Tryz.underlying27 vQ rfl rfl n5 rfl (zL (zL (zL (zL (zL n q) a0) i7) k4) k6) (zL (zL (zL (zL (zL n q) a0) i7) k4) k6) x3 rfl rfl rfl rfl (fun _ h=>h) (fun e3 e4 x4 (n6:aL G k5 (aN 38 c3 c6 c7 b8::aN 63 K e3 e4 e2::L) x4)=>(aF (aA ⟨⟨_,n6⟩,?_⟩)))
       have x5:=w7 _ _ n6
       have x6:=w5 _ _ x5
       exact aBn rfl (aB (dJ rfl) (aAf (aBn rfl (aB (bB (t':=3) aBq rfl rfl) (aAf (aBn rfl (cC (i:=0) (ns:=[zS e3 e2.length e4]) (us:=[bY a1 a,bY a16 b,zS c6 b8.length c7,zS e3 e2.length e4,zB false]) Tryz.sizeOf27 x6 rfl rfl rfl rfl rfl (dL rfl) rfl rfl (fun x7 (x8:aL G c3 (box j 86 [bY a1 a,bY a16 b,zS c6 b8.length c7,zS e3 e2.length e4,zB false]::aN 63 K a8 a9 Z::aN 38 c3 c6 c7 b8::aN 63 K e3 e4 e2::L) x7)=>(aAf (kB (bG (aA ⟨c3,b8,e2,c6,c7,e3,e4,i7,c,v9,w0,k3,n1,n2,n3,(aL.arr 3 [0,2,1] x8 rfl)⟩))))))))))))
      refine aAZ (aBl (v:=i64 k1) (aB (cJ rfl rfl) (aAf ?_)))
      rcases aK c with ⟨k7,c⟩|⟨k7,c⟩
      ·refine aO k7 rfl (aAZ (aCv c1 (aB (dJ rfl) (aB (bB (t':=2) pB rfl rfl) (aB (bR qC i6 (i:=2) rfl rfl rfl) (aB (bQ (len:=x.length) fX rfl) (pM (v:=i64 (x.length:Int)) (aAf (aC (aCv c1 (aCv c1 (aB (dJ rfl) (aB (bB (t':=2) pB rfl rfl) (aB (bR qC i6 (i:=2) rfl rfl rfl) (aBl (v:=zS c9 ([J.To,y.1]:List Int).length 2) ?_)))))))))))))))
       obtain ⟨b9,n7,x9,k8⟩:=aL.giveS (i:=1) i6 (zL (zL n q) a0) rfl
       replace k8:aL G b9 (aN 38 b0 a5 a6 x::box j 86 [bY a1 a,bY a16 b,zS a5 x.length a6,zS r l.length u,zB false]::aN 63 K a8 a9 Z::aN 63 K r u l::L) v6:=k8
       refine dM (Kt:=b9) (xs:=([([J.To,y.1]:List Int)]:List (List Int))) (cs:=[zS c9 ([J.To,y.1]:List Int).length 2]) (vs:=[(0,zS c9 ([J.To,y.1]:List Int).length 2)]) fX aBV rfl rfl k8 rfl (by kernel_rfl) rfl rfl rfl ⟨⟨c9,2,rfl,x9⟩,trivial⟩ (fun y0 y1 (y2:aL G b9 (aN 38 b9 y0 1 ([([J.To,y.1]:List Int)]:List (List Int))::aN 38 b0 a5 a6 x::box j 86 [bY a1 a,bY a16 b,zS a5 x.length a6,zS r l.length u,zB false]::aN 63 K a8 a9 Z::aN 63 K r u l::L) y1)=>?_)
       obtain ⟨e5,y3,c⟩:=aI c
       exact aFX (i:=0) b9 fX Tryz.underlying74 aBV rfl rfl y2 rfl n7 (zR _) y3 rfl rfl rfl rfl (fun _ _ _ h=>El.one h) (fun e6 e7 y4 (y5:aL G b9 (aN 38 b9 e6 e7 e5::box j 86 [bY a1 a,bY a16 b,zS a5 x.length a6,zS r l.length u,zB false]::aN 63 K a8 a9 Z::aN 63 K r u l::L) y4)=>(aB (dJ rfl) (aB (bB (t':=2) pB rfl rfl) (cC (i:=1) (ns:=[zS e6 e5.length e7]) (us:=[bY a1 a,bY a16 b,zS e6 e5.length e7,zS r l.length u,zB false]) Tryz.sizeOf74 y5 rfl rfl rfl rfl rfl (dL rfl) rfl rfl (fun y6 (y7:aL G b9 (aN 38 b9 e6 e7 e5::box j 86 [bY a1 a,bY a16 b,zS e6 e5.length e7,zS r l.length u,zB false]::aN 63 K a8 a9 Z::aN 63 K r u l::L) y6)=>(aAf ⟨b9,e5,(x.length:Int),e6,e7,n7,c,g0,g1,c1,g2,d9,e0,rfl,y7⟩))))))
      ·exact aM k7 rfl (aW (aA ⟨b0,x,k1,a5,a6,(zR _),c,g0,g1,c1,g2,d9,e0,rfl,(aL.arr 2 [0] i6 rfl)⟩))
    ·refine aM j7 rfl (cB (aY (aY ?_)))
     have y8:=s4 _ (zI c).symm
     subst y8
     have k:(aAA o x l)=some g9:=k
     exact bO (aA ⟨b0,x,l,a5,a6,r,u,a0,k,g0,g1,c1,g2,(aL.arr 4 [3,1,0] m5 rfl)⟩)
  ·refine aM j4 rfl (cB (aY (aY ?_)))
   have y9:=p4 _ (zI k).symm
   subst y9
   have V:(wI d1 d6)=some R:=V
   exact bO (aA ⟨c0,d1,d6,f0,f1,f2,f3,q,V,h0,(aL.arr 3 [0,2,1] j3 rfl)⟩)
theorem aHF {n:Int} {R:(List Bool)} (J:aL G K (L) w) (c:aCh n=some R):
  Calls Tryz.prog 134 ([i64 n]:List Value).toArray w (fV fun v w'=>∃ (r:Option Addr) (u:Nat),v=zS r R.length u∧aL G K (aN 4 K r u R::L) w'):=by
 refine aT Tryz.func134 rfl (by kernel_rfl) (by show (1:Nat)≤16;decide) ?_
 unfold aCh at c
 refine aAZ (pM (v:=zS none 0 0) (aAf (aAZ (aBl (v:=i64 n) ?_))))
 obtain ⟨a,V,c⟩:=aI c
 refine aFt (e:=(false:Bool)) fQ ez_4 rfl rfl J rfl rfl rfl V rfl (fun d Z (a0:aL G K (aN 4 K d a.length a::L) Z)=>(pM (v:=zS d a.length a.length) (aAf (aH (aAZ (pM (v:=i64 0) (aAf (bD (fun f w=>∃ (j:List Bool),aAB j=some R∧f 3=zS d j.length a.length∧aL G K (aN 4 K d a.length j::L) w) ?_ ?_))))))))
 ·rintro f w8 ⟨j,c,e7,a2⟩
  unfold aAB at c
  refine aA (aAZ (aCv e7 (pM (v:=zS d j.length a.length) (aAf ?_))))
  cases zI c
  exact bF (bC Tryz.results134 rfl ⟨d,a.length,rfl,a2⟩)
 obtain ⟨b3,a5,c⟩:=aI c
 refine cD a5 (fun (s:(List Bool × Int)) f w=>match s with|(g,k)=>f 0=i64 n∧f 3=zS d g.length a.length∧f 4=i64 k∧aL G K (aN 4 K d a.length g::L) w) ?_ ?_
 ·exact ⟨rfl,rfl,rfl,a0⟩
 ·rintro ⟨g,k⟩ a6 f b4 b a7 ⟨x,l,m,o⟩
  replace b:pS n g k=some a6:=b
  unfold pS at b
  refine aH (aAZ (aCv m (aCv x (aB (cJ rfl rfl) (aAf ?_)))))
  rcases aK b with ⟨p,b⟩|⟨p,b⟩
  ·refine aO p rfl (aW (aA (aH (cU (aC (aCv l (aCv m ?_)))))))
   obtain ⟨b5,q,b⟩:=aI b
   have a8:=cG o (i:=0) rfl q
   refine aB (dA fQ rfl a8 rfl rfl rfl q) ?_
   obtain ⟨y,z,b⟩:=aI b
   exact kV (i:=0) (t:=0) (ns:=[zB true]) (e':=(true:Bool)) Tryz.sizeOf4 o rfl (zR _) rfl rfl rfl q z rfl rfl (dL rfl) rfl (fun cs h=>by cases h;rfl) (fun a9 (b0:aL G K (aN 4 K d a.length y::L) a9)=>(aF (bG (aA (aC (aCv m (aB (cX rfl rfl) (pM (v:=i64 (wr (k+1))) (aAf ⟨(y,wr (k+1)),(zI b).symm,x,(Eq.trans l (congrArg (fun n=>zS d n a.length) (iN z))),rfl,b0⟩)))))))))
  ·refine aM p rfl (cB (aY (aY ?_)))
   have b1:=a7 _ (zI b).symm
   subst b1
   have c:(aAB g)=some R:=c
   exact bO (aA ⟨g,c,l,o⟩)
theorem aFo {b R:aZ} (c:aL G K (L) w) (a:uG b=some R):
  Calls Tryz.prog 104 ([cL b]:List Value).toArray w (fV fun v w'=>v=cL R∧aL G K (L) w'):=by
 refine aT Tryz.func104 rfl (by kernel_rfl) (by show (1:Nat)≤7;decide) ?_
 unfold uG at a
 refine aAZ (pM (v:=cL ([]:aZ)) (aAf (aAZ (aBl (v:=cL b) (aBl (v:=cL b) ?_)))))
 obtain ⟨j,d,a⟩:=aI a
 refine aU (vs:=[cL b]) Tryz.call175 rfl (aEI c d) ?_
 rintro _ k ⟨rfl,e⟩
 obtain ⟨g,h,a⟩:=aI a
 refine aB (R_slSH Tryz.runUnderlying9 rfl rfl h) (pM (v:=cL g) (aAf ?_))
 cases zI a
 exact bF (bC Tryz.results104 rfl ⟨rfl,e⟩)
theorem aJK {c:(List Int)} {n:Int} {R:Bool} (p:aL G K (L) w) (k:bT K a1 c2 c) (b:aED c n=some R):
  Calls Tryz.prog 136 ([zS a1 c.length c2,i64 n]:List Value).toArray w (fV fun v w'=>v=zB R∧aL G K (L) w'):=by
 refine aT Tryz.func136 rfl (by kernel_rfl) (by show (2:Nat)≤18;decide) ?_
 unfold aED at b
 refine aAZ (pM (v:=zB false) (aAf (aH (aAZ (pM (v:=i64 0) (aAf (bD (fun f w=>aCG=some R∧aL G K (L) w) ?_ ?_)))))))
 ·rintro f w4 ⟨b,q⟩
  unfold aCG at b
  refine aA (aAZ (pM (v:=zB false) (aAf ?_)))
  cases zI b
  exact bF (bC Tryz.results136 rfl ⟨rfl,q⟩)
 obtain ⟨a2,u,b⟩:=aI b
 refine cD u (fun (d:Int) f w=>f 0=zS a1 c.length c2∧f 1=i64 n∧f 5=i64 d∧aL G K (L) w) ?_ ?_
 ·exact ⟨rfl,rfl,rfl,p⟩
 ·rintro d x f a3 a l ⟨g,m,h,e⟩
  replace a:xR c n d=some x:=a
  unfold xR at a
  refine aH (aAZ (aCv h (aCv g (aB (bQ (len:=c.length) bW rfl) (aB (cJ rfl rfl) (aAf ?_))))))
  rcases aK a with ⟨i,a⟩|⟨i,a⟩
  ·refine aO i rfl (aW (aA (aH (cU (aAZ (aCv g (aCv h ?_)))))))
   obtain ⟨a4,o,a⟩:=aI a
   refine aB (cO bW rfl k rfl rfl rfl o) ?_
   obtain ⟨a5,y,z⟩:=bT.el (sz:=1) rfl k o
   cases z
   refine aB (bH (t:=0) cP e y rfl rfl) (aCv m (aB (oY rfl rfl) (aAf ?_)))
   rcases aK a with ⟨j,a⟩|⟨j,a⟩
   ·refine aO j rfl (aAZ (pM (v:=zB true) (aAf (bF (bN (aS (aS ?_)))))))
    have J:=l _ (zI a).symm
    subst J
    have b:(some true)=some R:=b
    cases zI b
    exact bN (aS (aS (bC Tryz.results136 rfl ⟨rfl,e⟩)))
   ·exact aM j rfl (aW (bG (aA (aC (aCv h (aB (cX rfl rfl) (pM (v:=i64 (wr (d+1))) (aAf ⟨wr (d+1),(zI a).symm,g,m,rfl,e⟩))))))))
  ·refine aM i rfl (cB (aY (aY ?_)))
   have Z:=l _ (zI a).symm
   subst Z
   have b:(aCG)=some R:=b
   exact bO (aA ⟨b,e⟩)
theorem aHG {a b:(List Bool)} {R:Bool} (u:aL G K (L) w) (l:bT K a1 c2 a) (m:bT K a4 c5 b) (e:aCi a b=some R):
  Calls Tryz.prog 138 ([zS a1 a.length c2,zS a4 b.length c5]:List Value).toArray w (fV fun v w'=>v=zB R∧aL G K (L) w'):=by
 refine aT Tryz.func138 rfl (by kernel_rfl) (by show (2:Nat)≤21;decide) ?_
 unfold aCi at e
 refine aAZ (pM (v:=zB false) (aAf (aH (aAZ (pM (v:=i64 0) (aAf (bD (fun f w=>aAC=some R∧aL G K (L) w) ?_ ?_)))))))
 ·rintro f w7 ⟨e,x⟩
  unfold aAC at e
  refine aA (aAZ (pM (v:=zB true) (aAf ?_)))
  cases zI e
  exact bF (bC Tryz.results138 rfl ⟨rfl,x⟩)
 obtain ⟨a8,z,e⟩:=aI e
 refine cD z (fun (g:Int) f w=>f 0=zS a1 a.length c2∧f 1=zS a4 b.length c5∧f 5=i64 g∧aL G K (L) w) ?_ ?_
 ·exact ⟨rfl,rfl,rfl,u⟩
 ·rintro g J f a9 c n ⟨i,o,h,d⟩
  replace c:tH a b g=some J:=c
  unfold tH at c
  refine aH (aAZ (aCv h (aCv i (aB (bQ (len:=a.length) fQ rfl) (aB (cJ rfl rfl) (aAf ?_))))))
  rcases aK c with ⟨j,c⟩|⟨j,c⟩
  ·refine aO j rfl (aW (aA (aH (cU (aH (cT (C:=fun w'=>aL G K (L) w') bK (by kernel_rfl) (aL.mono d (dE.drew _)) (aQ (fun _ d=>aD i) (aQ (fun _ d=>aD h) ?_))))))))
   obtain ⟨b0,p,c⟩:=aI c
   refine aQ (fun _ d=>cO fQ rfl l rfl rfl rfl p) ?_
   obtain ⟨b1,V,Z⟩:=bT.el (sz:=1) rfl l p
   cases Z
   refine aQ (fun _ d=>bH (t:=0) yE d V rfl rfl) (aQ (fun _ d=>aD o) (aQ (fun _ d=>aD h) ?_))
   obtain ⟨b2,q,c⟩:=aI c
   refine aQ (fun _ d=>cO fQ rfl m rfl rfl rfl q) ?_
   obtain ⟨b3,a0,a2⟩:=bT.el (sz:=1) rfl m q
   cases a2
   refine aQ (fun _ d=>bH (t:=0) yE d a0 rfl rfl) (aQ (fun _ d=>R_neqB Tryz.runUnderlying4 rfl rfl) (dC (fun b4 r=>(aA ?_))))
   rcases aK c with ⟨k,c⟩|⟨k,c⟩
   ·refine aO k rfl (aAZ (pM (v:=zB false) (aAf (bF (bN (aS (aS ?_)))))))
    have a3:=n _ (zI c).symm
    subst a3
    have e:(some false)=some R:=e
    cases zI e
    exact bN (aS (aS (bC Tryz.results138 rfl ⟨rfl,r⟩)))
   ·exact aM k rfl (aW (bG (aA (aC (aCv h (aB (cX rfl rfl) (pM (v:=i64 (wr (g+1))) (aAf ⟨wr (g+1),(zI c).symm,i,o,rfl,r⟩))))))))
  ·refine aM j rfl (cB (aY (aY ?_)))
   have a6:=n _ (zI c).symm
   subst a6
   have e:(aAC)=some R:=e
   exact bO (aA ⟨e,d⟩)
theorem aIz {o R:(List aZ)} (hs:aL G K (L) w) (h3:bT K a1 c2 o) (x:aDo o=some R):
  Calls Tryz.prog 100 ([zS a1 o.length c2]:List Value).toArray w (fV fun v w'=>∃ (d7:Option Addr) (d8:Nat),v=zS d7 R.length d8∧aL G K (aN 9 K d7 d8 R::L) w'):=by
 refine aT Tryz.func100 rfl (by kernel_rfl) (by show (1:Nat)≤65;decide) ?_
 unfold aDo at x
 refine aAZ (pM (v:=zS none 0 0) (aAf (aAZ (dM (Kt:=K) (xs:=([([116,97,117]:aZ)]:List aZ)) (cs:=[cL ([116,97,117]:aZ)]) (vs:=[(0,cL ([116,97,117]:aZ))]) cY yD rfl rfl hs rfl (by kernel_rfl) rfl rfl rfl ⟨rfl,trivial⟩ (fun a4 w5 (g2:aL G K (aN 9 K a4 1 ([([116,97,117]:aZ)]:List aZ)::L) w5)=>(pM (v:=zS a4 ([([116,97,117]:aZ)]:List aZ).length 1) (aAf (aH (aAZ (pM (v:=i64 0) (aAf (bD (fun f w=>∃ (V:List aZ) (Z:Option Addr) (c9:Nat),aBA V=some R∧f 3=zS Z V.length c9∧aL G K (aN 9 K Z c9 V::L) w) ?_ ?_))))))))))))
 ·rintro f k7 ⟨V,Z,c9,x,g3,g4⟩
  unfold aBA at x
  refine aA (aAZ (aCv g3 (pM (v:=zS Z V.length c9) (aAf ?_))))
  cases zI x
  exact bF (bC Tryz.results100 rfl ⟨Z,c9,rfl,g4⟩)
 obtain ⟨k8,g6,x⟩:=aI x
 refine cD g6 (fun (s:(List aZ × Int)) f w=>match s with|(b,j)=>∃ (k:Option Addr) (l:Nat),f 0=zS a1 o.length c2∧f 3=zS k b.length l∧f 4=i64 j∧aL G K (aN 9 K k l b::L) w) ?_ ?_
 ·exact ⟨a4,1,rfl,rfl,rfl,g2⟩
 ·rintro ⟨b,j⟩ z f k9 a g7 ⟨k,l,a7,a9,b0,c1⟩
  replace a:pC o b j=some z:=a
  unfold pC at a
  refine aH (aAZ (aCv b0 (aCv a7 (aB (bQ (len:=o.length) cY rfl) (aB (cJ rfl rfl) (aAf ?_))))))
  rcases aK a with ⟨c3,a⟩|⟨c3,a⟩
  ·refine aO c3 rfl (aW (aA (aH (bD (fun f w=>∃ (a2:List aZ) (b1:Option Addr) (b2:Nat),vI j a2=some z∧f 0=zS a1 o.length c2∧f 3=zS b1 a2.length b2∧f 4=i64 j∧aL G K (aN 9 K b1 b2 a2::L) w) ?_ ?_))))
   ·rintro f l0 ⟨a2,b1,b2,a,g8,g9,h0,h1⟩
    unfold vI at a
    exact aA (aC (aCv h0 (aB (cX rfl rfl) (pM (v:=i64 (wr (j+1))) (aAf ⟨(a2,wr (j+1)),(zI a).symm,b1,b2,g8,g9,rfl,h1⟩)))))
   refine aH (aAZ (aCv a9 (aCv a7 (aCv b0 ?_))))
   obtain ⟨r,b3,a⟩:=aI a
   refine aB (cO cY rfl h3 rfl rfl rfl b3) ?_
   obtain ⟨l1,c4,h2⟩:=bT.el (sz:=1) rfl h3 b3
   cases h2
   refine aB (bH (t:=0) pK c1 c4 rfl rfl) ?_
   obtain ⟨l2,l3,h4,h5,h6⟩:=aL.lendS (i:=0) c1 (zR _) rfl
   obtain ⟨l4,h7,a⟩:=aI a
   refine aU (vs:=[zS k b.length l,cL r]) Tryz.call105 rfl (zY h5 h4 h7) ?_
   rintro _ l5 ⟨rfl,h8⟩
   have d9:=h6 _ _ h8
   refine aB (tT rfl rfl) (aAf ?_)
   rcases aK a with ⟨c5,a⟩|⟨c5,a⟩
   ·exact aO c5 rfl (cB (aY (bO (aA ⟨b,k,l,a,a7,a9,b0,d9⟩))))
   ·refine aM c5 rfl (aW (aA (aAZ (pM (v:=i64 1) (aAf (aH (bD (fun f w=>∃ (y:Int),zD b j r y=some z∧f 0=zS a1 o.length c2∧f 3=zS k b.length l∧f 4=i64 j∧f 5=i64 y∧aL G K (aN 9 K k l b::L) w) ?_ ?_)))))))
    ·rintro f l6 ⟨y,a,h9,i0,i1,i2,i3⟩
     unfold zD at a
     refine aA (aAZ (aCv i0 (dM (Kt:=K) (xs:=([([]:aZ)]:List aZ)) (cs:=[cL ([]:aZ)]) (vs:=[(0,cL ([]:aZ))]) cY yD rfl rfl i3 rfl (by kernel_rfl) rfl rfl rfl ⟨rfl,trivial⟩ (fun i4 i5 (i6:aL G K (aN 9 K i4 1 ([([]:aZ)]:List aZ)::aN 9 K k l b::L) i5)=>?_))))
     obtain ⟨a3,i7,a⟩:=aI a
     refine iY (i:=0) cY Tryz.underlying22 yD rfl rfl i6 rfl (zR _) (zR _) i7 rfl rfl rfl rfl (fun _ h=>h) (fun p q i8 (i9:aL G K (aN 9 K p q a3::L) i8)=>(pM (v:=zS p a3.length q) (aAf (aH (aAZ (aBl (v:=zS p a3.length q) (aB (bQ (len:=a3.length) cY rfl) (aB (jS rfl rfl) (pM (v:=i64 (wr ((a3.length:Int) - 1))) (aAf (bD (fun f w=>∃ (b4:List aZ),yY j r y b4=some z∧f 0=zS a1 o.length c2∧f 3=zS p b4.length q∧f 4=i64 j∧f 5=i64 y∧aL G K (aN 9 K p q b4::L) w) ?_ ?_)))))))))))
     ·rintro f l7 ⟨b4,a,e0,e1,e2,j0,c6⟩
      unfold yY at a
      refine aA (aC (aCv e1 (aCv j0 (aCv e0 (aCv e2 (aB (cO cY rfl h3 rfl rfl rfl b3) (aB (bH (t:=0) pK c6 c4 rfl rfl) ?_)))))))
      obtain ⟨l8,c7,a⟩:=aI a
      have j1:=cG c6 (i:=0) rfl c7
      refine aB (dA cY rfl j1 rfl rfl rfl c7) ?_
      obtain ⟨e3,e4,a⟩:=aI a
      exact kV (i:=0) (t:=0) (ns:=[cL r]) (e':=(r:aZ)) Tryz.sizeOf9 c6 rfl (zR _) rfl rfl rfl c7 e4 rfl rfl (dL rfl) rfl (fun cs h=>by cases h;rfl) (fun j2 (j3:aL G K (aN 9 K p q e3::L) j2)=>(aF (bG (aA ⟨e3,p,q,a,e0,(Eq.trans e1 (congrArg (fun n=>zS p n q) (iN e4))),e2,j3⟩))))
     obtain ⟨l9,j4,a⟩:=aI a
     refine cD j4 (fun (s:(List aZ × Int)) f w=>match s with|(J,a5)=>f 0=zS a1 o.length c2∧f 3=zS p J.length q∧f 4=i64 j∧f 5=i64 y∧f 6=i64 a5∧aL G K (aN 9 K p q J::L) w) ?_ ?_
     ·exact ⟨h9,rfl,i1,i2,rfl,i9⟩
     ·rintro ⟨J,a5⟩ j5 f m0 m j6 ⟨e5,b5,e6,c8,b6,b7⟩
      replace m:yZ y J a5=some j5:=m
      unfold yZ at m
      refine aH (aAZ (aCv b6 (aCv c8 (aB (mL rfl rfl) (aAf ?_)))))
      rcases aK m with ⟨d0,m⟩|⟨d0,m⟩
      ·refine aO d0 rfl (aW (aA (aH (cU (aC (aCv b5 (aCv b6 (aCv b5 (aCv b6 (aB (jS rfl rfl) ?_))))))))))
       obtain ⟨e7,d1,m⟩:=aI m
       have e8:=cG b7 (i:=0) rfl d1
       refine aB (dA cY rfl e8 rfl rfl rfl d1) (aB (kA (t:=0) pK b7 (i:=0) rfl d1 rfl rfl rfl) ?_)
       obtain ⟨m1,e9,m⟩:=aI m
       refine aB (dA cY rfl e8 rfl rfl rfl e9) ?_
       obtain ⟨f0,f1,m⟩:=aI m
       exact kV (i:=0) (t:=0) (ns:=[cL e7]) (e':=(e7:aZ)) Tryz.sizeOf9 b7 rfl (zR _) rfl rfl rfl e9 f1 rfl rfl (dL rfl) rfl (fun cs h=>by cases h;rfl) (fun j7 (j8:aL G K (aN 9 K p q f0::L) j7)=>(aF (bG (aA (aC (aCv b6 (aB (jS rfl rfl) (pM (v:=i64 (wr (a5 - 1))) (aAf ⟨(f0,wr (a5 - 1)),(zI m).symm,e5,(Eq.trans b5 (congrArg (fun n=>zS p n q) (iN f1))),e6,c8,rfl,j8⟩)))))))))
      ·refine aM d0 rfl (cB (aY (aY ?_)))
       have j9:=j6 _ (zI m).symm
       subst j9
       have a:(yY j r y J)=some z:=a
       exact bO (aA ⟨J,a,e5,b5,e6,c8,b7⟩)
    obtain ⟨m2,k0,a⟩:=aI a
    refine cD k0 (fun (u:Int) f w=>f 0=zS a1 o.length c2∧f 3=zS k b.length l∧f 4=i64 j∧f 5=i64 u∧aL G K (aN 9 K k l b::L) w) ?_ ?_
    ·exact ⟨a7,a9,b0,rfl,d9⟩
    ·rintro u f2 f m3 e k1 ⟨d2,b8,d3,b9,d⟩
     replace e:rR b r u=some f2:=e
     unfold rR at e
     refine aH (aH (cS (fun f w=>∃ (d4:Bool),zF u d4=some f2∧f 0=zS a1 o.length c2∧f 3=zS k b.length l∧f 4=i64 j∧f 5=i64 u∧f 35=zB d4∧aL G K (aN 9 K k l b::L) w) ?_ ?_))
     ·rintro f m4 ⟨d4,e,f3,f4,f5,f6,f7,f8⟩
      unfold zF at e
      refine aA ?_
      rcases aK e with ⟨d5,e⟩|⟨d5,e⟩
      ·exact aO d5 f7 (aW (aA (cU (aC (aCv f6 (aB (cX rfl rfl) (pM (v:=i64 (wr (u+1))) (aF (bG (aA ⟨wr (u+1),(zI e).symm,f3,f4,f5,rfl,f8⟩))))))))))
      ·refine aM d5 f7 (cB (aY (aY ?_)))
       have k2:=k1 _ (zI e).symm
       subst k2
       have a:(zD b j r u)=some z:=a
       exact bO (aA ⟨u,a,f3,f4,f5,f6,f8⟩)
     refine cT (C:=fun w'=>aL G K (aN 9 K k l b::L) w') bK (by kernel_rfl) (aL.mono d (dE.drew _)) (aQ (fun _ d=>aD b9) (aQ (fun _ d=>aD b8) (aQ (fun _ d=>bQ (len:=b.length) cY rfl) (aQ (fun _ d=>cJ rfl rfl) (aQ (fun _ d=>aD (v:=zB (decide (u < (b.length:Int)))) rfl) ?_)))))
     rcases aK e with ⟨c,e⟩|⟨c,e⟩
     ·refine bP (g:=25) rfl rfl c (aQ (fun _ d=>aD b8) (bP (g:=25) rfl rfl c (aQ (fun _ d=>aD b9) (bP (g:=25) rfl rfl c ?_))))
      obtain ⟨f9,d6,e⟩:=aI e
      have k3:=cG d (i:=0) rfl d6
      exact aQ (fun _ d=>dA cY rfl k3 rfl rfl rfl d6) (bP (g:=25) rfl rfl c (aQ (fun _ d=>kA (t:=0) pK d (i:=0) rfl d6 rfl rfl rfl) (bP (g:=25) rfl rfl c (aQ (fun _ d=>aD d2) (bP (g:=25) rfl rfl c (aQ (fun _ d=>aD d3) (bP (g:=25) rfl rfl c (aQ (fun _ d=>cO cY rfl h3 rfl rfl rfl b3) (bP (g:=25) rfl rfl c (aQ (fun _ d=>bH (t:=0) pK d c4 rfl rfl) (bP (g:=25) rfl rfl c (aQ (fun _ d=>R_lssS rfl rfl) (aQ (fun _ d=>bI (v:=zB (wQ f9 r)) c rfl rfl) (dC (fun m5 k4=>(aA ⟨wQ f9 r,e,d2,b8,d3,b9,rfl,k4⟩))))))))))))))))
     ·exact aX (g:=25) rfl rfl (bU c) (aX (g:=25) rfl rfl (bU c) (aX (g:=25) rfl rfl (bU c) (aX (g:=25) rfl rfl (bU c) (aX (g:=25) rfl rfl (bU c) (aX (g:=25) rfl rfl (bU c) (aX (g:=25) rfl rfl (bU c) (aX (g:=25) rfl rfl (bU c) (aX (g:=25) rfl rfl (bU c) (aQ (fun _ d=>bJ (v:=zB false) c rfl rfl) (dC (fun m6 k5=>(aA ⟨false,e,d2,b8,d3,b9,rfl,k5⟩))))))))))))
  ·refine aM c3 rfl (cB (aY (aY ?_)))
   have k6:=g7 _ (zI a).symm
   subst k6
   have x:(aBA b)=some R:=x
   exact bO (aA ⟨b,k,l,x,a9,c1⟩)
end Gv
