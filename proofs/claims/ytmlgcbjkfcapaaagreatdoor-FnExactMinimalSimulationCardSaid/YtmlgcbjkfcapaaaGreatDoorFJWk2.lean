/- Walks, printed by program. -/
import Derived.Test.YtmlgcbjkfcapaaaGreatDoorFJWk1
set_option linter.all false
namespace Gv
open Go.Value renaming slice→zS,bool→zB,pointer→zP,agg→zA
open Option.some renaming inj→zI
open Gv.Hp renaming le_refl→zR
open Go Go.Proofs
set_option maxRecDepth 20000
set_option maxHeartbeats 40000000
variable {G:Env} {K:Hp} {L:List oT} {w:World} {a1 a4 a7 a10:Option Addr} {c5 c8 c2 c11:Nat}
theorem aHR {t:cH} {k:Nat} {R:Bool} (a:aK G K (L) w) (e:fV K a1 k (zC t a4 c5 a7 c8)) (h6:cL K a4 c5 t.L) (z:cL K a7 c8 t.E) (d:aDC t=some R):
  Calls Tryz.prog 23 ([bV a1 k]:List Value).toArray w (gO fun v w'=>v=zB R∧aK G K (L) w'):=by
 refine aS Tryz.func23 rfl (by kernel_rfl) (by show (1:Nat)≤101;decide) ?_
 unfold aDC at d
 refine aI (aF (v:=zB false) (aG (aN (aN (cN (fun f w=>∃ (Z:Bool),tL t Z=some R∧f 0=bV a1 k∧f 39=zB Z∧aK G K (L) w) ?_ ?_)))))
 ·rintro f g8 ⟨Z,d,c9,b6,b7⟩
  unfold tL at d
  refine aA ?_
  rcases aH d with ⟨a0,d⟩|⟨a0,d⟩
  ·refine aL a0 b6 (aI (aF (v:=zB false) (aG ?_)))
   obtain rfl:=zI d
   exact bF (aR (bB Tryz.results23 rfl ⟨rfl,b7⟩))
  ·refine aJ a0 b6 (aY (aA (aN (aI (aF (v:=i64 0) (aG (bC (fun f w=>aBw=some R∧aK G K (L) w) ?_ ?_)))))))
   ·rintro f g9 ⟨d,d1⟩
    unfold aBw at d
    refine aA (aI (aF (v:=zB true) (aG ?_)))
    obtain rfl:=zI d
    exact bF (bB Tryz.results23 rfl ⟨rfl,d1⟩)
   obtain ⟨h0,d3,d⟩:=aB d
   refine cA d3 (fun (q:Int) f w=>f 0=bV a1 k∧f 3=i64 q∧aK G K (L) w) ?_ ?_
   ·exact ⟨c9,rfl,b7⟩
   ·rintro q a2 f h1 b a3 ⟨r,u,x⟩
    replace b:vT t q=some a2:=b
    unfold vT at b
    refine aN (aI (aO u (aO r (aC (cS rfl e) (aC (cC (k':=k+3) cK rfl e rfl) (aC (bJ (t:=3) fS x e rfl rfl) (aC (bT (len:=t.E.length) bY rfl) (aC (cJ rfl rfl) (aG ?_)))))))))
    rcases aH b with ⟨a5,b⟩|⟨a5,b⟩
    ·refine aL a5 rfl (aY (aA (aN (cP (aI (aO r (aC (cS rfl e) (aC (cC (k':=k+3) cK rfl e rfl) (aC (bJ (t:=3) fS x e rfl rfl) (aO u ?_))))))))))
     obtain ⟨l,b8,b⟩:=aB b
     refine aC (cT bY rfl z rfl rfl rfl b8) ?_
     obtain ⟨h2,d4,d5⟩:=cL.el (sz:=3) rfl z b8
     cases d5
     refine aC (gG (t:=0) (vs:=[i64 l.F,i64 l.B,i64 l.To]) iJ x d4 rfl rfl rfl) (bW (vs:=[i64 0,i64 0,i64 0]) Tryz.zeroValue63 x rfl (fun y h4 d6=>(cD (i:=0) (ns:=[i64 l.F,i64 l.B,i64 l.To]) (us:=[i64 l.F,i64 l.B,i64 l.To]) Tryz.sizeOf63 d6 rfl rfl rfl rfl rfl (dK rfl) rfl rfl (fun d7 (c:aK G K (box y 63 [i64 l.F,i64 l.B,i64 l.To]::L) d7)=>(aG (aN (aN (cN (fun f w=>∃ (a6:Bool),vS t q l a6=some a2∧f 0=bV a1 k∧f 3=i64 q∧f 4=zP (some ⟨y,0,none⟩)∧f 87=zB a6∧aK G K (box y 63 [i64 l.F,i64 l.B,i64 l.To]::L) w) ?_ ?_))))))))
     ·rintro f h5 ⟨a6,b,a8,J,d8,b9,V⟩
      unfold vS at b
      refine aA ?_
      rcases aH b with ⟨a9,b⟩|⟨a9,b⟩
      ·refine aL a9 b9 (aI (aF (v:=zB false) (aG (bF (aR (bQ (aR (aR ?_))))))))
       have d9:=a3 _ (zI b).symm
       subst d9
       have d:(some false)=some R:=d
       obtain rfl:=zI d
       exact bQ (aR (aR (bB Tryz.results23 rfl ⟨rfl,(aK.arr 1 [] V rfl)⟩)))
      ·refine aJ a9 b9 (aY (aA (aN (cN (fun f w=>∃ (b0:Bool),aAe q b0=some a2∧f 0=bV a1 k∧f 3=i64 q∧f 100=zB b0∧aK G K (L) w) ?_ ?_))))
       ·rintro f h7 ⟨b0,b,e1,e2,c0,c1⟩
        unfold aAe at b
        refine aA ?_
        rcases aH b with ⟨b1,b⟩|⟨b1,b⟩
        ·refine aL b1 c0 (aI (aF (v:=zB false) (aG (bF (bQ (aR (aR ?_)))))))
         have e3:=a3 _ (zI b).symm
         subst e3
         have d:(some false)=some R:=d
         obtain rfl:=zI d
         exact bQ (aR (aR (bB Tryz.results23 rfl ⟨rfl,c1⟩)))
        ·exact aJ b1 c0 (aY (bE (aA (aP (aO e2 (aC (cM rfl rfl) (aF (v:=i64 (wr (q+1))) (aG ⟨wr (q+1),(zI b).symm,e1,rfl,c1⟩))))))))
       refine aP (aO J (aC (qC rfl rfl) (aM (v:=zB (decide (0 < q))) ?_)))
       rcases aH b with ⟨m,b⟩|⟨m,b⟩
       ·refine bA m rfl rfl (aO a8 (bA m rfl rfl (aC (cS rfl e) (bA m rfl rfl (aC (cC (k':=k+3) cK rfl e rfl) (bA m rfl rfl (aC (bJ (t:=3) fS V e rfl rfl) (bA m rfl rfl (aO J (bA m rfl rfl (aC (kO rfl rfl) (bA m rfl rfl ?_))))))))))))
        obtain ⟨h8,c2,b⟩:=aB b
        refine aC (cT bY rfl z rfl rfl rfl c2) ?_
        obtain ⟨i0,e5,e6⟩:=cL.el (sz:=3) rfl z c2
        cases e6
        refine bA m rfl rfl ?_
        obtain ⟨i1,e7,e8,e9,f0⟩:=aK.lendB (i:=0) V rfl
        obtain ⟨c3,f1,b⟩:=aB b
        refine aU (vs:=[bV a7 ((wr (q - 1)).toNat * 3+0),bV (some ⟨y,0,none⟩) 0]) Tryz.call69 (lst2 rfl d8) (aCl e9 (e5.mono e7) e8 f1) ?_
        rintro _ i2 ⟨rfl,f2⟩
        have f3:=f0 _ _ f2
        exact bA m rfl rfl (aC (fH rfl) (aC (bI (v:=zB (!c3)) m rfl rfl) (aG ⟨!c3,b,a8,J,rfl,(aK.arr 1 [] f3 rfl)⟩)))
       ·exact aQ m rfl rfl (aQ m rfl rfl (aQ m rfl rfl (aQ m rfl rfl (aQ m rfl rfl (aQ m rfl rfl (aQ m rfl rfl (aQ m rfl rfl (aQ m rfl rfl (aC (bL (v:=zB false) m rfl rfl) (aG ⟨false,b,a8,J,rfl,(aK.arr 1 [] V rfl)⟩))))))))))
     refine eK (C:=fun w'=>aK G K (box y 63 [i64 l.F,i64 l.B,i64 l.To]::L) w') bU (by kernel_rfl) (aK.mono c (dQ.drew _)) (aX (fun _ c=>bG (t':=0) fJ rfl rfl) (aX (fun _ c=>cF cE c (i:=0) rfl rfl rfl) (aX (fun _ c=>bD r) (aX (fun _ c=>cS rfl e) (aX (fun _ c=>cC (k':=k+0) iM rfl e rfl) (aX (fun _ c=>bJ (t:=0) cE c e rfl rfl) (aX (fun _ c=>kO rfl rfl) ?_)))))))
     obtain ⟨c4,f4,b⟩:=aB b
     refine rA (vs:=[i64 l.F,i64 0,i64 (wr (t.N - 1))]) (v:=zB c4) Tryz.call67 rfl (fun _ c=>(rP c f4)) (aX (fun _ c=>fH rfl) (aX (fun _ c=>bD (v:=zB (!c4)) rfl) ?_))
     rcases aH b with ⟨n,b⟩|⟨n,b⟩
     ·refine aT (g:=65) rfl rfl (bS n) (aT (g:=65) rfl rfl (bS n) (aT (g:=65) rfl rfl (bS n) (aT (g:=65) rfl rfl (bS n) (aT (g:=65) rfl rfl (bS n) (aT (g:=65) rfl rfl (bS n) (aT (g:=65) rfl rfl (bS n) (aT (g:=65) rfl rfl (bS n) (aT (g:=65) rfl rfl (bS n) (aX (fun _ c=>bI (v:=zB true) n rfl rfl) (aX (fun _ c=>bD (v:=zB true) rfl) (aT (g:=76) rfl rfl (bS (rfl:true=true)) (aT (g:=76) rfl rfl (bS (rfl:true=true)) (aT (g:=76) rfl rfl (bS (rfl:true=true)) (aT (g:=76) rfl rfl (bS (rfl:true=true)) (aT (g:=76) rfl rfl (bS (rfl:true=true)) (aT (g:=76) rfl rfl (bS (rfl:true=true)) (aT (g:=76) rfl rfl (bS (rfl:true=true)) (aT (g:=76) rfl rfl (bS (rfl:true=true)) (aT (g:=76) rfl rfl (bS (rfl:true=true)) (aT (g:=76) rfl rfl (bS (rfl:true=true)) (aX (fun _ c=>bI (v:=zB true) (rfl:true=true) rfl rfl) (eG (fun i3 f5=>?_)))))))))))))))))))))))
      exact aA ⟨true,b,r,u,rfl,rfl,f5⟩
     ·refine bM (g:=65) rfl rfl (bR n) (aX (fun _ c=>bG (t':=2) eM rfl rfl) (bM (g:=65) rfl rfl (bR n) (aX (fun _ c=>cF cE c (i:=0) rfl rfl rfl) (bM (g:=65) rfl rfl (bR n) (aX (fun _ c=>bD r) (bM (g:=65) rfl rfl (bR n) (aX (fun _ c=>cS rfl e) (bM (g:=65) rfl rfl (bR n) (aX (fun _ c=>cC (k':=k+0) iM rfl e rfl) (bM (g:=65) rfl rfl (bR n) (aX (fun _ c=>bJ (t:=0) cE c e rfl rfl) (bM (g:=65) rfl rfl (bR n) (aX (fun _ c=>kO rfl rfl) (bM (g:=65) rfl rfl (bR n) ?_))))))))))))))
      obtain ⟨b2,f6,b⟩:=aB b
      refine rA (vs:=[i64 l.To,i64 0,i64 (wr (t.N - 1))]) (v:=zB b2) Tryz.call67 rfl (fun _ c=>(rP c f6)) (bM (g:=65) rfl rfl (bR n) (aX (fun _ c=>fH rfl) (aX (fun _ c=>bL (v:=zB (!b2)) n rfl rfl) (aX (fun _ c=>bD (v:=zB (!b2)) rfl) ?_))))
      rcases aH b with ⟨j,b⟩|⟨j,b⟩
      ·exact aT (g:=76) rfl rfl (bS j) (aT (g:=76) rfl rfl (bS j) (aT (g:=76) rfl rfl (bS j) (aT (g:=76) rfl rfl (bS j) (aT (g:=76) rfl rfl (bS j) (aT (g:=76) rfl rfl (bS j) (aT (g:=76) rfl rfl (bS j) (aT (g:=76) rfl rfl (bS j) (aT (g:=76) rfl rfl (bS j) (aT (g:=76) rfl rfl (bS j) (aX (fun _ c=>bI (v:=zB true) j rfl rfl) (eG (fun i4 f7=>(aA ⟨true,b,r,u,rfl,rfl,f7⟩)))))))))))))
      ·refine bM (g:=76) rfl rfl (bR j) (aX (fun _ c=>bG (t':=1) gB rfl rfl) (bM (g:=76) rfl rfl (bR j) (aX (fun _ c=>cF cE c (i:=0) rfl rfl rfl) (bM (g:=76) rfl rfl (bR j) (aX (fun _ c=>bD r) (bM (g:=76) rfl rfl (bR j) (aX (fun _ c=>cS rfl e) (bM (g:=76) rfl rfl (bR j) (aX (fun _ c=>cC (k':=k+2) gI rfl e rfl) (bM (g:=76) rfl rfl (bR j) (aX (fun _ c=>bJ (t:=2) mG c e rfl rfl) (bM (g:=76) rfl rfl (bR j) (aX (fun _ c=>bT (len:=t.L.length) cO rfl) (bM (g:=76) rfl rfl (bR j) (aX (fun _ c=>kO rfl rfl) (bM (g:=76) rfl rfl (bR j) ?_))))))))))))))))
       obtain ⟨b3,f8,b⟩:=aB b
       exact rA (vs:=[i64 l.B,i64 0,i64 (wr ((t.L.length:Int) - 1))]) (v:=zB b3) Tryz.call67 rfl (fun _ c=>(rP c f8)) (bM (g:=76) rfl rfl (bR j) (aX (fun _ c=>fH rfl) (aX (fun _ c=>bL (v:=zB (!b3)) j rfl rfl) (eG (fun i5 f9=>(aA ⟨!b3,b,r,u,rfl,rfl,f9⟩))))))
    ·refine aJ a5 rfl (bZ (aW (aW ?_)))
     have g0:=a3 _ (zI b).symm
     subst g0
     have d:(aBw)=some R:=d
     exact bO (aA ⟨d,x⟩)
 refine eK (C:=fun w'=>aK G K (L) w') bU (by kernel_rfl) (aK.mono a (dQ.drew _)) (aX (fun _ a=>bD (v:=bV a1 k) rfl) (aX (fun _ a=>cS rfl e) (aX (fun _ a=>cC (k':=k+0) iM rfl e rfl) (aX (fun _ a=>bJ (t:=0) cE a e rfl rfl) ?_))))
 obtain ⟨c6,g1,d⟩:=aB d
 refine rA (vs:=[i64 t.N,i64 1,i64 40]) (v:=zB c6) Tryz.call67 rfl (fun _ a=>(rP a g1)) (aX (fun _ a=>fH rfl) (aX (fun _ a=>bD (v:=zB (!c6)) rfl) ?_))
 rcases aH d with ⟨h,d⟩|⟨h,d⟩
 ·refine aT (g:=11) rfl rfl (bS h) (aT (g:=11) rfl rfl (bS h) (aT (g:=11) rfl rfl (bS h) (aT (g:=11) rfl rfl (bS h) (aT (g:=11) rfl rfl (bS h) (aT (g:=11) rfl rfl (bS h) (aT (g:=11) rfl rfl (bS h) (aT (g:=11) rfl rfl (bS h) (aT (g:=11) rfl rfl (bS h) (aT (g:=11) rfl rfl (bS h) (aT (g:=11) rfl rfl (bS h) (aX (fun _ a=>bI (v:=zB true) h rfl rfl) (aX (fun _ a=>bD (v:=zB true) rfl) (aT (g:=24) rfl rfl (bS (rfl:true=true)) (aT (g:=24) rfl rfl (bS (rfl:true=true)) (aT (g:=24) rfl rfl (bS (rfl:true=true)) (aT (g:=24) rfl rfl (bS (rfl:true=true)) (aT (g:=24) rfl rfl (bS (rfl:true=true)) (aT (g:=24) rfl rfl (bS (rfl:true=true)) (aX (fun _ a=>bI (v:=zB true) (rfl:true=true) rfl rfl) (aX (fun _ a=>bD (v:=zB true) rfl) (aT (g:=32) rfl rfl (bS (rfl:true=true)) (aT (g:=32) rfl rfl (bS (rfl:true=true)) (aT (g:=32) rfl rfl (bS (rfl:true=true)) ?_)))))))))))))))))))))))
  exact aT (g:=32) rfl rfl (bS (rfl:true=true)) (aT (g:=32) rfl rfl (bS (rfl:true=true)) (aT (g:=32) rfl rfl (bS (rfl:true=true)) (aX (fun _ a=>bI (v:=zB true) (rfl:true=true) rfl rfl) (eG (fun i6 g2=>(aA ⟨true,d,rfl,rfl,g2⟩))))))
 ·refine bM (g:=11) rfl rfl (bR h) (aX (fun _ a=>bD (v:=bV a1 k) rfl) (bM (g:=11) rfl rfl (bR h) (aX (fun _ a=>cS rfl e) (bM (g:=11) rfl rfl (bR h) (aX (fun _ a=>cC (k':=k+1) nE rfl e rfl) (bM (g:=11) rfl rfl (bR h) (aX (fun _ a=>bJ (t:=1) cE a e rfl rfl) (bM (g:=11) rfl rfl (bR h) (aX (fun _ a=>bD (v:=bV a1 k) rfl) (bM (g:=11) rfl rfl (bR h) (aX (fun _ a=>cS rfl e) (bM (g:=11) rfl rfl (bR h) (aX (fun _ a=>cC (k':=k+0) iM rfl e rfl) (bM (g:=11) rfl rfl (bR h) (aX (fun _ a=>bJ (t:=0) cE a e rfl rfl) (bM (g:=11) rfl rfl (bR h) (aX (fun _ a=>kO rfl rfl) (bM (g:=11) rfl rfl (bR h) ?_))))))))))))))))))
  obtain ⟨b4,g3,d⟩:=aB d
  refine rA (vs:=[i64 t.I,i64 0,i64 (wr (t.N - 1))]) (v:=zB b4) Tryz.call67 rfl (fun _ a=>(rP a g3)) (bM (g:=11) rfl rfl (bR h) (aX (fun _ a=>fH rfl) (aX (fun _ a=>bL (v:=zB (!b4)) h rfl rfl) (aX (fun _ a=>bD (v:=zB (!b4)) rfl) ?_))))
  rcases aH d with ⟨o,d⟩|⟨o,d⟩
  ·exact aT (g:=24) rfl rfl (bS o) (aT (g:=24) rfl rfl (bS o) (aT (g:=24) rfl rfl (bS o) (aT (g:=24) rfl rfl (bS o) (aT (g:=24) rfl rfl (bS o) (aT (g:=24) rfl rfl (bS o) (aX (fun _ a=>bI (v:=zB true) o rfl rfl) (aX (fun _ a=>bD (v:=zB true) rfl) (aT (g:=32) rfl rfl (bS (rfl:true=true)) (aT (g:=32) rfl rfl (bS (rfl:true=true)) (aT (g:=32) rfl rfl (bS (rfl:true=true)) (aT (g:=32) rfl rfl (bS (rfl:true=true)) (aT (g:=32) rfl rfl (bS (rfl:true=true)) (aT (g:=32) rfl rfl (bS (rfl:true=true)) (aX (fun _ a=>bI (v:=zB true) (rfl:true=true) rfl rfl) (eG (fun i7 g4=>(aA ⟨true,d,rfl,rfl,g4⟩)))))))))))))))))
  ·refine bM (g:=24) rfl rfl (bR o) (aX (fun _ a=>bD (v:=bV a1 k) rfl) (bM (g:=24) rfl rfl (bR o) (aX (fun _ a=>cS rfl e) (bM (g:=24) rfl rfl (bR o) (aX (fun _ a=>cC (k':=k+2) gI rfl e rfl) (bM (g:=24) rfl rfl (bR o) (aX (fun _ a=>bJ (t:=2) mG a e rfl rfl) (bM (g:=24) rfl rfl (bR o) ?_))))))))
   obtain ⟨b5,g5,d⟩:=aB d
   refine rA (vs:=[zS a4 t.L.length c5]) (v:=zB b5) Tryz.call68 rfl (fun _ a=>(aFd a h6 g5)) (bM (g:=24) rfl rfl (bR o) (aX (fun _ a=>fH rfl) (aX (fun _ a=>bL (v:=zB (!b5)) o rfl rfl) (aX (fun _ a=>bD (v:=zB (!b5)) rfl) ?_))))
   rcases aH d with ⟨p,d⟩|⟨p,d⟩
   ·exact aT (g:=32) rfl rfl (bS p) (aT (g:=32) rfl rfl (bS p) (aT (g:=32) rfl rfl (bS p) (aT (g:=32) rfl rfl (bS p) (aT (g:=32) rfl rfl (bS p) (aT (g:=32) rfl rfl (bS p) (aX (fun _ a=>bI (v:=zB true) p rfl rfl) (eG (fun i8 g6=>(aA ⟨true,d,rfl,rfl,g6⟩)))))))))
   ·exact bM (g:=32) rfl rfl (bR p) (aX (fun _ a=>bD (v:=bV a1 k) rfl) (bM (g:=32) rfl rfl (bR p) (aX (fun _ a=>cS rfl e) (bM (g:=32) rfl rfl (bR p) (aX (fun _ a=>cC (k':=k+3) cK rfl e rfl) (bM (g:=32) rfl rfl (bR p) (aX (fun _ a=>bJ (t:=3) fS a e rfl rfl) (bM (g:=32) rfl rfl (bR p) (aX (fun _ a=>bT (len:=t.E.length) bY rfl) (bM (g:=32) rfl rfl (bR p) (aX (fun _ a=>qC rfl rfl) (aX (fun _ a=>bL (v:=zB (decide (300 < (t.E.length:Int)))) p rfl rfl) (eG (fun i9 g7=>(aA ⟨decide (300 < (t.E.length:Int)),d,rfl,rfl,g7⟩)))))))))))))))
theorem xT {d:(List Int)} {n R:Int} (p:aK G K (L) w) (k:cL K a1 c2 d) (b:tM d n=some R):
  Calls Tryz.prog 70 ([zS a1 d.length c2,i64 n]:List Value).toArray w (gO fun v w'=>v=i64 R∧aK G K (L) w'):=by
 refine aS Tryz.func70 rfl (by kernel_rfl) (by show (2:Nat)≤19;decide) ?_
 unfold tM at b
 refine aI (aF (v:=i64 0) (aG (aN (aI (aF (v:=i64 0) (aG (bC (fun f w=>wG=some R∧aK G K (L) w) ?_ ?_)))))))
 ·rintro f w4 ⟨b,q⟩
  unfold wG at b
  refine aA (aI (aF (v:=i64 (-1)) (aG ?_)))
  obtain rfl:=zI b
  exact bF (bB Tryz.results70 rfl ⟨rfl,q⟩)
 obtain ⟨a2,u,b⟩:=aB b
 refine cA u (fun (c:Int) f w=>f 0=zS a1 d.length c2∧f 1=i64 n∧f 5=i64 c∧aK G K (L) w) ?_ ?_
 ·exact ⟨rfl,rfl,rfl,p⟩
 ·rintro c x f a3 a l ⟨h,m,e,g⟩
  replace a:pM d n c=some x:=a
  unfold pM at a
  refine aN (aI (aO e (aO h (aC (bT (len:=d.length) cG rfl) (aC (cJ rfl rfl) (aG ?_))))))
  rcases aH a with ⟨i,a⟩|⟨i,a⟩
  ·refine aL i rfl (aY (aA (aN (cP (aI (aO h (aO e ?_)))))))
   obtain ⟨a4,o,a⟩:=aB a
   refine aC (cT cG rfl k rfl rfl rfl o) ?_
   obtain ⟨a5,y,z⟩:=cL.el (sz:=1) rfl k o
   cases z
   refine aC (bJ (t:=0) cE g y rfl rfl) (aO m (aC (lC rfl rfl) (aG ?_)))
   rcases aH a with ⟨j,a⟩|⟨j,a⟩
   ·refine aL j rfl (aI (aO e (aF (v:=i64 c) (aG (bF (bQ (aR (aR ?_))))))))
    have J:=l _ (zI a).symm
    subst J
    have b:(some c)=some R:=b
    obtain rfl:=zI b
    exact bQ (aR (aR (bB Tryz.results70 rfl ⟨rfl,g⟩)))
   ·exact aJ j rfl (aY (bE (aA (aP (aO e (aC (cM rfl rfl) (aF (v:=i64 (wr (c+1))) (aG ⟨wr (c+1),(zI a).symm,h,m,rfl,g⟩))))))))
  ·refine aJ i rfl (bZ (aW (aW ?_)))
   have Z:=l _ (zI a).symm
   subst Z
   have b:(wG)=some R:=b
   exact bO (aA ⟨b,g⟩)
theorem aCm {t:cH} {J:Nat} {a:(List Int)} {R:cH} (hs:aK G K (L) w) (z:fV K a1 J (zC t a4 c5 a7 c8)) (h6:cL K a4 c5 t.L) (h9:cL K a7 c8 t.E) (c0:cL K a10 c11 a) (y:zF t a=some R):
  Calls Tryz.prog 24 ([bV a1 J,zS a10 a.length c11]:List Value).toArray w (gO fun v w'=>∃ (d0:Option Addr) (d1:Nat) (d2:Option Addr) (d3:Nat),v=zA (zCa R d0 d1 d2 d3)∧aK G K (aV 9 K d0 d1 R.L::aV 63 K d2 d3 R.E::L) w'):=by
 let o:=zG
 refine aS Tryz.func24 rfl (by kernel_rfl) (by show (2:Nat)≤66;decide) ?_
 unfold zF at y
 refine aI (bW (vs:=o) Tryz.zeroValue29 hs rfl (fun l j7 d4=>(aG (aI (aM (v:=zS a10 a.length c11) (aC (bT (len:=a.length) cG rfl) (aM (v:=zS a10 a.length c11) (aM (v:=bV a1 J) (aC (cS rfl z) (aC (cC (k':=J+1) nE rfl z rfl) (aC (bJ (t:=1) cE d4 z rfl rfl) ?_)))))))))))
 obtain ⟨k,e9,y⟩:=aB y
 refine aU (vs:=[zS a10 a.length c11,i64 t.I]) Tryz.call70 rfl (xT d4 c0 e9) ?_
 rintro _ j8 ⟨rfl,f0⟩
 refine dJ (Kt:=K) (xs:=([]:List Edge)) (cs:=[]) (vs:=[]) bY lD rfl rfl f0 rfl (by kernel_rfl) rfl rfl rfl trivial (fun u f1 (f2:aK G K (aV 63 K u 0 ([]:List Edge)::box l 29 o::L) f1)=>(aC (kA (vs:=[(0,i64 (a.length:Int)),(1,i64 k),(3,zS u ([]:List Edge).length 0)]) (cs:=[i64 (a.length:Int),i64 k,zS none 0 0,zS u ([]:List Edge).length 0]) aAX rfl (by kernel_rfl)) (bW (vs:=o) Tryz.zeroValue29 f2 rfl (fun m j9 f3=>(cD (i:=0) (ns:=[i64 (a.length:Int),i64 k,zS none 0 0,zS u ([]:List Edge).length 0]) (us:=[i64 (a.length:Int),i64 k,zS none 0 0,zS u ([]:List Edge).length 0]) Tryz.sizeOf29 f3 rfl rfl rfl rfl rfl (dK rfl) rfl rfl (fun f4 (f5:aK G K (box m 29 [i64 (a.length:Int),i64 k,zS none 0 0,zS u ([]:List Edge).length 0]::aV 63 K u 0 ([]:List Edge)::box l 29 o::L) f4)=>(aG (aI (dJ (Kt:=K) (xs:=([]:List bH)) (cs:=[]) (vs:=[]) cO aAo rfl rfl f5 rfl (by kernel_rfl) rfl rfl rfl trivial (fun f6 f7 (d5:aK G K (aV 9 K f6 0 ([]:List bH)::box m 29 [i64 (a.length:Int),i64 k,zS none 0 0,zS u ([]:List Edge).length 0]::aV 63 K u 0 ([]:List Edge)::box l 29 o::L) f7)=>(aM (v:=bV a1 J) (aC (cS rfl z) (aC (cC (k':=J+2) gI rfl z rfl) (aC (bJ (t:=2) mG d5 z rfl rfl) ?_))))))))))))))
 obtain ⟨b,f8,y⟩:=aB y
 refine aCS (i:=0) cO Tryz.underlying22 aAo rfl rfl d5 rfl (zR _) h6 f8 rfl rfl rfl rfl (fun c d f9 (g0:aK G K (aV 9 K c d b::box m 29 [i64 (a.length:Int),i64 k,zS none 0 0,zS u ([]:List Edge).length 0]::aV 63 K u 0 ([]:List Edge)::box l 29 o::L) f9)=>(aC (bG (t':=2) gI rfl rfl) (cD (i:=1) (ns:=[zS c b.length d]) (us:=[i64 (a.length:Int),i64 k,zS c b.length d,zS u ([]:List Edge).length 0]) Tryz.sizeOf22 g0 rfl rfl rfl rfl rfl (dK rfl) rfl rfl (fun g1 (g2:aK G K (aV 9 K c d b::box m 29 [i64 (a.length:Int),i64 k,zS c b.length d,zS u ([]:List Edge).length 0]::aV 63 K u 0 ([]:List Edge)::box l 29 o::L) g1)=>(aG (aN (aI (aF (v:=i64 0) (aG (bC (fun f w=>∃ (V:List Edge) (Z:Option Addr) (a0:Nat),yI a k b V=some R∧f 4=zP (some ⟨l,0,none⟩)∧f 5=zP (some ⟨m,0,none⟩)∧aK G K (aV 63 K Z a0 V::aV 9 K c d b::box m 29 [i64 (a.length:Int),i64 k,zS c b.length d,zS Z V.length a0]::box l 29 o::L) w) ?_ ?_))))))))))
 ·rintro f k0 ⟨V,Z,a0,y,d6,g3,d7⟩
  unfold yI at y
  refine aA (aI (aC (dF (us:=[i64 (a.length:Int),i64 k,zS c b.length d,zS Z V.length a0]) eC d7 (i:=2) rfl g3 rfl rfl) (cD (i:=3) (ns:=[i64 (a.length:Int),i64 k,zS c b.length d,zS Z V.length a0]) (us:=[i64 (a.length:Int),i64 k,zS c b.length d,zS Z V.length a0]) Tryz.sizeOf29 d7 rfl d6 rfl rfl rfl (dK rfl) rfl rfl (fun g4 (d8:aK G K (aV 63 K Z a0 V::aV 9 K c d b::box m 29 [i64 (a.length:Int),i64 k,zS c b.length d,zS Z V.length a0]::box l 29 [i64 (a.length:Int),i64 k,zS c b.length d,zS Z V.length a0]::L) g4)=>(aG ?_)))))
  obtain rfl:=zI y
  exact bF (sX Tryz.results24 (kQ (vs:=[i64 (a.length:Int),i64 k,zS c b.length d,zS Z V.length a0]) rfl eC d8 (i:=3) rfl d6 rfl) ⟨c,d,Z,a0,rfl,(aK.arr 4 [1,0] d8 rfl)⟩)
 obtain ⟨k1,g6,y⟩:=aB y
 refine cA g6 (fun (s:(List Edge × Int)) f w=>match s with|(n,a2)=>∃ (p:Option Addr) (q:Nat),f 0=bV a1 J∧f 1=zS a10 a.length c11∧f 4=zP (some ⟨l,0,none⟩)∧f 5=zP (some ⟨m,0,none⟩)∧f 6=i64 a2∧aK G K (aV 9 K c d b::box m 29 [i64 (a.length:Int),i64 k,zS c b.length d,zS p n.length q]::aV 63 K p q n::box l 29 o::L) w) ?_ ?_
 ·exact ⟨u,0,rfl,rfl,rfl,rfl,rfl,g2⟩
 ·rintro ⟨n,a2⟩ c1 f k3 e g7 ⟨p,q,b2,b3,c2,c3,b4,b0⟩
  replace e:oI t a n a2=some c1:=e
  unfold oI at e
  refine aN (aI (aO b4 (aO b2 (aC (cS rfl z) (aC (cC (k':=J+3) cK rfl z rfl) (aC (bJ (t:=3) fS b0 z rfl rfl) (aC (bT (len:=t.E.length) bY rfl) (aC (cJ rfl rfl) (aG ?_)))))))))
  rcases aH e with ⟨c4,e⟩|⟨c4,e⟩
  ·refine aL c4 rfl (aY (aA (aN (bC (fun f w=>∃ (b1:List Edge) (b5:Option Addr) (b6:Nat),oG a2 b1=some c1∧f 0=bV a1 J∧f 1=zS a10 a.length c11∧f 4=zP (some ⟨l,0,none⟩)∧f 5=zP (some ⟨m,0,none⟩)∧f 6=i64 a2∧aK G K (aV 63 K b5 b6 b1::aV 9 K c d b::box m 29 [i64 (a.length:Int),i64 k,zS c b.length d,zS b5 b1.length b6]::box l 29 o::L) w) ?_ ?_))))
   ·rintro f k4 ⟨b1,b5,b6,e,g8,g9,h0,h1,h2,h4⟩
    unfold oG at e
    exact aA (aP (aO h2 (aC (cM rfl rfl) (aF (v:=i64 (wr (a2+1))) (aG ⟨(b1,wr (a2+1)),(zI e).symm,b5,b6,g8,g9,h0,h1,rfl,(aK.arr 3 [1,2,0] h4 rfl)⟩)))))
   refine aI (aO b2 (aC (cS rfl z) (aC (cC (k':=J+3) cK rfl z rfl) (aC (bJ (t:=3) fS b0 z rfl rfl) (aO b4 ?_)))))
   obtain ⟨j,d9,e⟩:=aB e
   refine aC (cT bY rfl h9 rfl rfl rfl d9) ?_
   obtain ⟨k5,h5,h7⟩:=cL.el (sz:=3) rfl h9 d9
   cases h7
   refine aC (gG (t:=0) (vs:=[i64 j.F,i64 j.B,i64 j.To]) iJ b0 h5 rfl rfl rfl) (bW (vs:=[i64 0,i64 0,i64 0]) Tryz.zeroValue63 b0 rfl (fun a5 k6 h8=>(cD (i:=0) (ns:=[i64 j.F,i64 j.B,i64 j.To]) (us:=[i64 j.F,i64 j.B,i64 j.To]) Tryz.sizeOf63 h8 rfl rfl rfl rfl rfl (dK rfl) rfl rfl (fun i0 (e0:aK G K (box a5 63 [i64 j.F,i64 j.B,i64 j.To]::aV 9 K c d b::box m 29 [i64 (a.length:Int),i64 k,zS c b.length d,zS p n.length q]::aV 63 K p q n::box l 29 o::L) i0)=>(aG (aI (aO b3 (aC (bG (t':=0) fJ rfl rfl) (aC (cF cE e0 (i:=0) rfl rfl rfl) ?_)))))))))
   obtain ⟨r,i1,e⟩:=aB e
   refine aU (vs:=[zS a10 a.length c11,i64 j.F]) Tryz.call70 rfl (xT e0 c0 i1) ?_
   rintro _ k7 ⟨rfl,i2⟩
   refine aC (bG (t':=0) fJ rfl rfl) (cD (i:=0) (ns:=[i64 r]) (us:=[i64 r,i64 j.B,i64 j.To]) Tryz.sizeOf2 i2 rfl rfl rfl rfl rfl (dK rfl) rfl rfl (fun i3 (e1:aK G K (box a5 63 [i64 r,i64 j.B,i64 j.To]::aV 9 K c d b::box m 29 [i64 (a.length:Int),i64 k,zS c b.length d,zS p n.length q]::aV 63 K p q n::box l 29 o::L) i3)=>(aG (aI (aO b3 (aC (bG (t':=2) eM rfl rfl) (aC (cF cE e1 (i:=0) rfl rfl rfl) ?_)))))))
   obtain ⟨x,i4,e⟩:=aB e
   refine aU (vs:=[zS a10 a.length c11,i64 j.To]) Tryz.call70 rfl (xT e1 c0 i4) ?_
   rintro _ k8 ⟨rfl,i5⟩
   refine aC (bG (t':=2) eM rfl rfl) (cD (i:=0) (ns:=[i64 x]) (us:=[i64 r,i64 j.B,i64 x]) Tryz.sizeOf2 i5 rfl rfl rfl rfl rfl (dK rfl) rfl rfl (fun i6 (b7:aK G K (box a5 63 [i64 r,i64 j.B,i64 x]::aV 9 K c d b::box m 29 [i64 (a.length:Int),i64 k,zS c b.length d,zS p n.length q]::aV 63 K p q n::box l 29 o::L) i6)=>(aG (aN (cN (fun f w=>∃ (c6:Bool),oH n a2 j r x c6=some c1∧f 0=bV a1 J∧f 1=zS a10 a.length c11∧f 4=zP (some ⟨l,0,none⟩)∧f 5=zP (some ⟨m,0,none⟩)∧f 6=i64 a2∧f 7=zP (some ⟨a5,0,none⟩)∧f 58=zB c6∧aK G K (box a5 63 [i64 r,i64 j.B,i64 x]::aV 9 K c d b::box m 29 [i64 (a.length:Int),i64 k,zS c b.length d,zS p n.length q]::aV 63 K p q n::box l 29 o::L) w) ?_ ?_)))))
   ·rintro f k9 ⟨c6,e,e2,e3,e4,b8,e5,i7,e6,b9⟩
    unfold oH at e
    refine aA ?_
    rcases aH e with ⟨c7,e⟩|⟨c7,e⟩
    ·refine aL c7 e6 (aP (aC (bG (t':=3) cK b8 rfl) (aC (cF fS b9 (i:=2) rfl rfl rfl) (aC (dF (us:=[i64 r,i64 j.B,i64 x]) iJ b9 (i:=0) rfl i7 rfl rfl) (dJ (Kt:=K) (xs:=([⟨r,j.B,x⟩]:List Edge)) (cs:=[i64 r,i64 j.B,i64 x]) (vs:=[(0,zA #[i64 r,i64 j.B,i64 x])]) bY lD rfl rfl b9 rfl (by kernel_rfl) rfl rfl rfl ⟨rfl,trivial⟩ (fun i8 i9 (j0:aK G K (aV 63 K i8 1 ([⟨r,j.B,x⟩]:List Edge)::box a5 63 [i64 r,i64 j.B,i64 x]::aV 9 K c d b::box m 29 [i64 (a.length:Int),i64 k,zS c b.length d,zS p n.length q]::aV 63 K p q n::box l 29 o::L) i9)=>?_))))))
     obtain ⟨a6,j1,e⟩:=aB e
     exact iA (i:=3) bY Tryz.underlying27 lD rfl rfl j0 rfl (zR _) (zR _) j1 rfl rfl rfl rfl (fun _ h=>h) (fun a8 a9 j2 (j3:aK G K (box a5 63 [i64 r,i64 j.B,i64 x]::aV 9 K c d b::box m 29 [i64 (a.length:Int),i64 k,zS c b.length d,zS p n.length q]::aV 63 K a8 a9 a6::box l 29 o::L) j2)=>(aC (bG (t':=3) cK b8 rfl) (cD (i:=2) (ns:=[zS a8 a6.length a9]) (us:=[i64 (a.length:Int),i64 k,zS c b.length d,zS a8 a6.length a9]) Tryz.sizeOf27 j3 rfl rfl rfl rfl rfl (dK rfl) rfl rfl (fun j4 (j5:aK G K (box a5 63 [i64 r,i64 j.B,i64 x]::aV 9 K c d b::box m 29 [i64 (a.length:Int),i64 k,zS c b.length d,zS a8 a6.length a9]::aV 63 K a8 a9 a6::box l 29 o::L) j4)=>(bK (bE (aA ⟨a6,a8,a9,e,e2,e3,e4,b8,e5,(aK.arr 4 [3,1,2] j5 rfl)⟩)))))))
    ·exact aJ c7 e6 (aY (bE (aA ⟨n,p,q,e,e2,e3,e4,b8,e5,(aK.arr 4 [3,1,2] b9 rfl)⟩)))
   refine aP (aC (bG (t':=0) fJ rfl rfl) (aC (cF cE b7 (i:=0) rfl rfl rfl) (aC (uI rfl rfl) (aM (v:=zB (decide (0≤r))) ?_))))
   rcases aH e with ⟨a3,e⟩|⟨a3,e⟩
   ·exact bA a3 rfl rfl (aC (bG (t':=2) eM rfl rfl) (bA a3 rfl rfl (aC (cF cE b7 (i:=0) rfl rfl rfl) (bA a3 rfl rfl (aC (uI rfl rfl) (aC (bI (v:=zB (decide (0≤x))) a3 rfl rfl) (aG ⟨decide (0≤x),e,b2,b3,c2,c3,b4,rfl,rfl,b7⟩)))))))
   ·exact aQ a3 rfl rfl (aQ a3 rfl rfl (aQ a3 rfl rfl (aC (bL (v:=zB false) a3 rfl rfl) (aG ⟨false,e,b2,b3,c2,c3,b4,rfl,rfl,b7⟩))))
  ·refine aJ c4 rfl (bZ (aW (aW ?_)))
   have j6:=g7 _ (zI e).symm
   subst j6
   have y:(yI a k b n)=some R:=y
   exact bO (aA ⟨n,p,q,y,c2,c3,(aK.arr 3 [2,0,1] b0 rfl)⟩)
theorem aBL {t:cH} {l:Nat} {R:(List Int)} (hs:aK G K (L) w) (k:fV K a1 l (zC t a4 c5 a7 c8)) (h6:cL K a4 c5 t.L) (h9:cL K a7 c8 t.E) (j:vU t=some R):
  Calls Tryz.prog 25 ([bV a1 l]:List Value).toArray w (gO fun v w'=>∃ (f0:Option Addr) (f1:Nat),v=zS f0 R.length f1∧aK G K (aV 2 K f0 f1 R::L) w'):=by
 refine aS Tryz.func25 rfl (by kernel_rfl) (by show (1:Nat)≤82;decide) ?_
 unfold vU at j
 refine aI (aF (v:=zS none 0 0) (aG (aI (aM (v:=bV a1 l) (aC (cS rfl k) (aC (cC (k':=l+0) iM rfl k rfl) (aC (bJ (t:=0) cE hs k rfl rfl) ?_)))))))
 obtain ⟨b,g7,j⟩:=aB j
 refine aDv (e:=(false:Bool)) jN ez_4 rfl rfl hs rfl rfl rfl g7 rfl (fun c g8 (c6:aK G K (aV 4 K c b.length b::L) g8)=>(aF (v:=zS c b.length b.length) (aG (aI (aM (v:=zS c b.length b.length) (aM (v:=bV a1 l) (aC (cS rfl k) (aC (cC (k':=l+1) nE rfl k rfl) (aC (bJ (t:=1) cE c6 k rfl rfl) ?_)))))))))
 obtain ⟨m5,c7,j⟩:=aB j
 have a3:=dM c6 (i:=0) rfl c7
 refine aC (eB jN rfl a3 rfl rfl rfl c7) ?_
 obtain ⟨g9,f2,j⟩:=aB j
 refine jW (i:=0) (t:=0) (ns:=[zB true]) (e':=(true:Bool)) Tryz.sizeOf4 c6 rfl (zR _) rfl rfl rfl c7 f2 rfl rfl (dK rfl) rfl (fun cs h=>by cases h;rfl) (fun h0 (h1:aK G K (aV 4 K c b.length g9::L) h0)=>(aG (aN (aI (aF (v:=zB true) (aG (bC (fun f w=>∃ (p:List Bool),sE t p=some R∧f 0=bV a1 l∧f 3=zS c p.length b.length∧aK G K (aV 4 K c b.length p::L) w) ?_ ?_)))))))
 ·rintro f m6 ⟨p,j,h2,h4,h5⟩
  unfold sE at j
  refine aA (aI (dJ (Kt:=K) (xs:=([]:List Int)) (cs:=[]) (vs:=[]) cG qE rfl rfl h5 rfl (by kernel_rfl) rfl rfl rfl trivial (fun c9 h7 (h8:aK G K (aV 2 K c9 0 ([]:List Int)::aV 4 K c b.length p::L) h7)=>(aF (v:=zS c9 ([]:List Int).length 0) (aG (aN (aI (aF (v:=i64 0) (aG (bC (fun f w=>∃ (a5:List Int) (a6:Option Addr) (a8:Nat),wH a5=some R∧f 6=zS a6 a5.length a8∧aK G K (aV 2 K a6 a8 a5::L) w) ?_ ?_))))))))))
  ·rintro f m7 ⟨a5,a6,a8,j,i0,i1⟩
   unfold wH at j
   refine aA (aI (aO i0 (aF (v:=zS a6 a5.length a8) (aG ?_))))
   obtain rfl:=zI j
   exact bF (bB Tryz.results25 rfl ⟨a6,a8,rfl,i1⟩)
  obtain ⟨m8,i3,j⟩:=aB j
  refine cA i3 (fun (s:(List Int × Int)) f w=>match s with|(y,r)=>∃ (J:Option Addr) (V:Nat),f 0=bV a1 l∧f 3=zS c p.length b.length∧f 6=zS J y.length V∧f 7=i64 r∧aK G K (aV 2 K J V y::aV 4 K c b.length p::L) w) ?_ ?_
  ·exact ⟨c9,0,h2,h4,rfl,rfl,h8⟩
  ·rintro ⟨y,r⟩ f3 f m9 m i4 ⟨J,V,d0,d1,d2,a9,b0⟩
   replace m:pN t p y r=some f3:=m
   unfold pN at m
   refine aN (aI (aO a9 (aO d0 (aC (cS rfl k) (aC (cC (k':=l+0) iM rfl k rfl) (aC (bJ (t:=0) cE b0 k rfl rfl) (aC (cJ rfl rfl) (aG ?_))))))))
   rcases aH m with ⟨d3,m⟩|⟨d3,m⟩
   ·refine aL d3 rfl (aY (aA (aN (bC (fun f w=>∃ (b1:List Int) (b7:Option Addr) (b8:Nat),sD r b1=some f3∧f 0=bV a1 l∧f 3=zS c p.length b.length∧f 6=zS b7 b1.length b8∧f 7=i64 r∧aK G K (aV 2 K b7 b8 b1::aV 4 K c b.length p::L) w) ?_ ?_))))
    ·rintro f n0 ⟨b1,b7,b8,m,i5,i6,i7,i8,i9⟩
     unfold sD at m
     exact aA (aP (aO i8 (aC (cM rfl rfl) (aF (v:=i64 (wr (r+1))) (aG ⟨(b1,wr (r+1)),(zI m).symm,b7,b8,i5,i6,i7,rfl,i9⟩)))))
    refine aI (aO d1 (aO a9 ?_))
    obtain ⟨n1,f4,m⟩:=aB m
    refine aC (eB jN rfl a3 rfl rfl rfl f4) (aC (lX (t:=0) aCD b0 (i:=1) rfl f4 rfl rfl rfl) (aG ?_))
    rcases aH m with ⟨d4,m⟩|⟨d4,m⟩
    ·refine aL d4 rfl (aP (aO d2 (aO a9 (dJ (Kt:=K) (xs:=([r]:List Int)) (cs:=[i64 r]) (vs:=[(0,i64 r)]) cG qE rfl rfl b0 rfl (by kernel_rfl) rfl rfl rfl ⟨rfl,trivial⟩ (fun j0 j1 (j2:aK G K (aV 2 K j0 1 ([r]:List Int)::aV 2 K J V y::aV 4 K c b.length p::L) j1)=>?_)))))
     obtain ⟨d5,j3,m⟩:=aB m
     exact iA (i:=0) cG Tryz.underlying38 qE rfl rfl j2 rfl (zR _) (zR _) j3 rfl rfl rfl rfl (fun _ h=>h) (fun d6 d7 j4 (j5:aK G K (aV 2 K d6 d7 d5::aV 4 K c b.length p::L) j4)=>(aF (v:=zS d6 d5.length d7) (bK (bE (aA ⟨d5,d6,d7,m,d0,d1,rfl,a9,j5⟩)))))
    ·exact aJ d4 rfl (aY (bE (aA ⟨y,J,V,m,d0,d1,d2,a9,b0⟩)))
   ·refine aJ d3 rfl (bZ (aW (aW ?_)))
    have j6:=i4 _ (zI m).symm
    subst j6
    have j:(wH y)=some R:=j
    exact bO (aA ⟨y,J,V,j,d2,(aK.arr 2 [0] b0 rfl)⟩)
 obtain ⟨n2,j7,j⟩:=aB j
 refine cA j7 (fun (s:(List Bool × Bool)) f w=>match s with|(Z,d8)=>f 0=bV a1 l∧f 3=zS c Z.length b.length∧f 4=zB d8∧aK G K (aV 4 K c b.length Z::L) w) ?_ ?_
 ·exact ⟨rfl,(Eq.trans rfl (congrArg (fun n=>zS c n b.length) (iE f2))),rfl,h1⟩
 ·rintro ⟨Z,d8⟩ b9 f n3 o j8 ⟨f5,f6,j9,f7⟩
  replace o:uR t Z d8=some b9:=o
  unfold uR at o
  refine aN (aI (aO j9 (aG ?_)))
  rcases aH o with ⟨d9,o⟩|⟨d9,o⟩
  ·refine aL d9 rfl (aY (aA (bC (fun f w=>∃ (b2:List Bool) (c0:Bool),aAI b2 c0=some b9∧f 0=bV a1 l∧f 3=zS c b2.length b.length∧f 4=zB c0∧aK G K (aV 4 K c b.length b2::L) w) ?_ ?_)))
   ·rintro f n4 ⟨b2,c0,o,k0,k1,k3,k4⟩
    unfold aAI at o
    exact aA ⟨(b2,c0),(zI o).symm,k0,k1,k3,k4⟩
   refine aI (aF (v:=zB false) (aG (aI (aF (v:=i64 0) (aG (bC (fun f w=>∃ (b3:List Bool) (c1:Bool),wI b3 c1=some b9∧f 0=bV a1 l∧f 3=zS c b3.length b.length∧f 4=zB c1∧aK G K (aV 4 K c b.length b3::L) w) ?_ ?_))))))
   ·rintro f n5 ⟨b3,c1,o,k5,k6,k7,k8⟩
    unfold wI at o
    exact bE (aA ⟨b3,c1,o,k5,k6,k7,k8⟩)
   obtain ⟨n6,k9,o⟩:=aB o
   refine cA k9 (fun (s:(List Bool × Bool × Int)) f w=>match s with|(u,z,q)=>f 0=bV a1 l∧f 3=zS c u.length b.length∧f 4=zB z∧f 5=i64 q∧aK G K (aV 4 K c b.length u::L) w) ?_ ?_
   ·exact ⟨f5,f6,rfl,rfl,f7⟩
   ·rintro ⟨u,z,q⟩ e0 f n7 a l0 ⟨a0,b4,e1,b5,x⟩
    replace a:pO t u z q=some e0:=a
    unfold pO at a
    refine aN (aI (aO b5 (aO a0 (aC (cS rfl k) (aC (cC (k':=l+3) cK rfl k rfl) (aC (bJ (t:=3) fS x k rfl rfl) (aC (bT (len:=t.E.length) bY rfl) (aC (cJ rfl rfl) (aG ?_)))))))))
    rcases aH a with ⟨e2,a⟩|⟨e2,a⟩
    ·refine aL e2 rfl (aY (aA (aN (bC (fun f w=>∃ (b6:List Bool) (c2:Bool),mR q b6 c2=some e0∧f 0=bV a1 l∧f 3=zS c b6.length b.length∧f 4=zB c2∧f 5=i64 q∧aK G K (aV 4 K c b.length b6::L) w) ?_ ?_))))
     ·rintro f n8 ⟨b6,c2,a,l1,l2,l3,l4,l5⟩
      unfold mR at a
      exact aA (aP (aO l4 (aC (cM rfl rfl) (aF (v:=i64 (wr (q+1))) (aG ⟨(b6,c2,wr (q+1)),(zI a).symm,l1,l2,l3,rfl,l5⟩)))))
     refine aN (cN (fun f w=>∃ (e3:Bool),mT t u z q e3=some e0∧f 0=bV a1 l∧f 3=zS c u.length b.length∧f 4=zB z∧f 5=i64 q∧f 53=zB e3∧aK G K (aV 4 K c b.length u::L) w) ?_ ?_)
     ·rintro f n9 ⟨e3,a,e4,e5,l6,e6,f8,c3⟩
      unfold mT at a
      refine aA ?_
      rcases aH a with ⟨e7,a⟩|⟨e7,a⟩
      ·refine aL e7 f8 (aI (aO e5 (aO e4 (aC (cS rfl k) (aC (cC (k':=l+3) cK rfl k rfl) (aC (bJ (t:=3) fS c3 k rfl rfl) (aO e6 ?_)))))))
       obtain ⟨o0,f9,a⟩:=aB a
       refine aC (cT bY rfl h9 rfl rfl rfl f9) ?_
       obtain ⟨o1,g0,l7⟩:=cL.el (sz:=3) rfl h9 f9
       cases l7
       refine aC (cC (k':=q.toNat * 3+2) eM rfl g0 rfl) (aC (bJ (t:=2) cE c3 g0 rfl rfl) ?_)
       obtain ⟨o2,g1,a⟩:=aB a
       refine aC (eB jN rfl a3 rfl rfl rfl g1) ?_
       obtain ⟨g2,g3,a⟩:=aB a
       exact jW (i:=0) (t:=0) (ns:=[zB true]) (e':=(true:Bool)) Tryz.sizeOf4 c3 rfl (zR _) rfl rfl rfl g1 g3 rfl rfl (dK rfl) rfl (fun cs h=>by cases h;rfl) (fun l8 (l9:aK G K (aV 4 K c b.length g2::L) l8)=>(aG (aP (aF (v:=zB true) (bK (bE (aA ⟨g2,true,a,e4,(Eq.trans e5 (congrArg (fun n=>zS c n b.length) (iE g3))),rfl,e6,l9⟩)))))))
      ·exact aJ e7 f8 (aY (bE (aA ⟨u,z,a,e4,e5,l6,e6,c3⟩)))
     refine aP (aO b4 (aO a0 (aC (cS rfl k) (aC (cC (k':=l+3) cK rfl k rfl) (aC (bJ (t:=3) fS x k rfl rfl) (aO b5 ?_))))))
     obtain ⟨o3,e8,a⟩:=aB a
     refine aC (cT bY rfl h9 rfl rfl rfl e8) ?_
     obtain ⟨o4,c4,m0⟩:=cL.el (sz:=3) rfl h9 e8
     cases m0
     refine aC (cC (k':=q.toNat * 3+0) fJ rfl c4 rfl) (aC (bJ (t:=0) cE x c4 rfl rfl) ?_)
     obtain ⟨m1,g4,a⟩:=aB a
     refine aC (eB jN rfl a3 rfl rfl rfl g4) (aC (lX (t:=0) aCD x (i:=0) rfl g4 rfl rfl rfl) (aM (v:=zB m1) ?_))
     rcases aH a with ⟨d,a⟩|⟨d,a⟩
     ·refine bA d rfl rfl (aO b4 (bA d rfl rfl (aO a0 (bA d rfl rfl (aC (cS rfl k) (bA d rfl rfl (aC (cC (k':=l+3) cK rfl k rfl) (bA d rfl rfl (aC (bJ (t:=3) fS x k rfl rfl) (bA d rfl rfl (aO b5 (bA d rfl rfl (aC (cT bY rfl h9 rfl rfl rfl e8) (bA d rfl rfl (aC (cC (k':=q.toNat * 3+2) eM rfl c4 rfl) (bA d rfl rfl (aC (bJ (t:=2) cE x c4 rfl rfl) (bA d rfl rfl ?_))))))))))))))))))
      obtain ⟨g5,g6,a⟩:=aB a
      exact aC (eB jN rfl a3 rfl rfl rfl g6) (bA d rfl rfl (aC (lX (t:=0) aCD x (i:=0) rfl g6 rfl rfl rfl) (bA d rfl rfl (aC (fH rfl) (aC (bI (v:=zB (!g5)) d rfl rfl) (aG ⟨!g5,a,a0,b4,e1,b5,rfl,x⟩))))))
     ·exact aQ d rfl rfl (aQ d rfl rfl (aQ d rfl rfl (aQ d rfl rfl (aQ d rfl rfl (aQ d rfl rfl (aQ d rfl rfl (aQ d rfl rfl (aQ d rfl rfl (aQ d rfl rfl (aQ d rfl rfl (aQ d rfl rfl (aC (bL (v:=zB false) d rfl rfl) (aG ⟨false,a,a0,b4,e1,b5,rfl,x⟩)))))))))))))
    ·refine aJ e2 rfl (bZ (aW (aW ?_)))
     have m2:=l0 _ (zI a).symm
     subst m2
     have o:(wI u z)=some b9:=o
     exact bO (aA ⟨u,z,o,a0,b4,e1,x⟩)
  ·refine aJ d9 rfl (bZ (aW (aW ?_)))
   have m3:=j8 _ (zI o).symm
   subst m3
   have j:(sE t Z)=some R:=j
   exact bO (aA ⟨Z,j,f5,f6,f7⟩)
theorem aAi {d:(List bH)} {e:bH} {R:Int} (p:aK G K (L) w) (l:cL K a1 c2 d) (b:tW d e=some R):
  Calls Tryz.prog 105 ([zS a1 d.length c2,str e]:List Value).toArray w (gO fun v w'=>v=i64 R∧aK G K (L) w'):=by
 refine aS Tryz.func105 rfl (by kernel_rfl) (by show (2:Nat)≤19;decide) ?_
 unfold tW at b
 refine aI (aF (v:=i64 0) (aG (aN (aI (aF (v:=i64 0) (aG (bC (fun f w=>yJ=some R∧aK G K (L) w) ?_ ?_)))))))
 ·rintro f w4 ⟨b,q⟩
  unfold yJ at b
  refine aA (aI (aF (v:=i64 (-1)) (aG ?_)))
  obtain rfl:=zI b
  exact bF (bB Tryz.results105 rfl ⟨rfl,q⟩)
 obtain ⟨a2,u,b⟩:=aB b
 refine cA u (fun (c:Int) f w=>f 0=zS a1 d.length c2∧f 1=str e∧f 5=i64 c∧aK G K (L) w) ?_ ?_
 ·exact ⟨rfl,rfl,rfl,p⟩
 ·rintro c x f a3 a m ⟨i,n,g,h⟩
  replace a:rG d e c=some x:=a
  unfold rG at a
  refine aN (aI (aO g (aO i (aC (bT (len:=d.length) cO rfl) (aC (cJ rfl rfl) (aG ?_))))))
  rcases aH a with ⟨j,a⟩|⟨j,a⟩
  ·refine aL j rfl (aY (aA (aN (cP (aI (aO i (aO g ?_)))))))
   obtain ⟨a4,o,a⟩:=aB a
   refine aC (cT cO rfl l rfl rfl rfl o) ?_
   obtain ⟨a5,y,z⟩:=cL.el (sz:=1) rfl l o
   cases z
   refine aC (bJ (t:=0) pU h y rfl rfl) (aO n (aC (vR rfl rfl) (aG ?_)))
   rcases aH a with ⟨k,a⟩|⟨k,a⟩
   ·refine aL k rfl (aI (aO g (aF (v:=i64 c) (aG (bF (bQ (aR (aR ?_))))))))
    have J:=m _ (zI a).symm
    subst J
    have b:(some c)=some R:=b
    obtain rfl:=zI b
    exact bQ (aR (aR (bB Tryz.results105 rfl ⟨rfl,h⟩)))
   ·exact aJ k rfl (aY (bE (aA (aP (aO g (aC (cM rfl rfl) (aF (v:=i64 (wr (c+1))) (aG ⟨wr (c+1),(zI a).symm,i,n,rfl,h⟩))))))))
  ·refine aJ j rfl (bZ (aW (aW ?_)))
   have Z:=m _ (zI a).symm
   subst Z
   have b:(yJ)=some R:=b
   exact bO (aA ⟨b,h⟩)
theorem aFS {o R:(List bH)} (hs:aK G K (L) w) (h3:cL K a1 c2 o) (x:aBc o=some R):
  Calls Tryz.prog 100 ([zS a1 o.length c2]:List Value).toArray w (gO fun v w'=>∃ (d7:Option Addr) (d8:Nat),v=zS d7 R.length d8∧aK G K (aV 9 K d7 d8 R::L) w'):=by
 refine aS Tryz.func100 rfl (by kernel_rfl) (by show (1:Nat)≤65;decide) ?_
 unfold aBc at x
 refine aI (aF (v:=zS none 0 0) (aG (aI (dJ (Kt:=K) (xs:=([([116,97,117]:bH)]:List bH)) (cs:=[str ([116,97,117]:bH)]) (vs:=[(0,str ([116,97,117]:bH))]) cO aAo rfl rfl hs rfl (by kernel_rfl) rfl rfl rfl ⟨rfl,trivial⟩ (fun a4 w5 (g2:aK G K (aV 9 K a4 1 ([([116,97,117]:bH)]:List bH)::L) w5)=>(aF (v:=zS a4 ([([116,97,117]:bH)]:List bH).length 1) (aG (aN (aI (aF (v:=i64 0) (aG (bC (fun f w=>∃ (V:List bH) (Z:Option Addr) (c9:Nat),yK V=some R∧f 3=zS Z V.length c9∧aK G K (aV 9 K Z c9 V::L) w) ?_ ?_))))))))))))
 ·rintro f k7 ⟨V,Z,c9,x,g3,g4⟩
  unfold yK at x
  refine aA (aI (aO g3 (aF (v:=zS Z V.length c9) (aG ?_))))
  obtain rfl:=zI x
  exact bF (bB Tryz.results100 rfl ⟨Z,c9,rfl,g4⟩)
 obtain ⟨k8,g6,x⟩:=aB x
 refine cA g6 (fun (s:(List bH × Int)) f w=>match s with|(b,j)=>∃ (k:Option Addr) (l:Nat),f 0=zS a1 o.length c2∧f 3=zS k b.length l∧f 4=i64 j∧aK G K (aV 9 K k l b::L) w) ?_ ?_
 ·exact ⟨a4,1,rfl,rfl,rfl,g2⟩
 ·rintro ⟨b,j⟩ z f k9 a g7 ⟨k,l,a7,a9,b0,c1⟩
  replace a:mH o b j=some z:=a
  unfold mH at a
  refine aN (aI (aO b0 (aO a7 (aC (bT (len:=o.length) cO rfl) (aC (cJ rfl rfl) (aG ?_))))))
  rcases aH a with ⟨c3,a⟩|⟨c3,a⟩
  ·refine aL c3 rfl (aY (aA (aN (bC (fun f w=>∃ (a2:List bH) (b1:Option Addr) (b2:Nat),rH j a2=some z∧f 0=zS a1 o.length c2∧f 3=zS b1 a2.length b2∧f 4=i64 j∧aK G K (aV 9 K b1 b2 a2::L) w) ?_ ?_))))
   ·rintro f l0 ⟨a2,b1,b2,a,g8,g9,h0,h1⟩
    unfold rH at a
    exact aA (aP (aO h0 (aC (cM rfl rfl) (aF (v:=i64 (wr (j+1))) (aG ⟨(a2,wr (j+1)),(zI a).symm,b1,b2,g8,g9,rfl,h1⟩)))))
   refine aN (aI (aO a9 (aO a7 (aO b0 ?_))))
   obtain ⟨r,b3,a⟩:=aB a
   refine aC (cT cO rfl h3 rfl rfl rfl b3) ?_
   obtain ⟨l1,c4,h2⟩:=cL.el (sz:=1) rfl h3 b3
   cases h2
   refine aC (bJ (t:=0) pU c1 c4 rfl rfl) ?_
   obtain ⟨l2,l3,h4,h5,h6⟩:=aK.lendS (i:=0) c1 (zR _) rfl
   obtain ⟨l4,h7,a⟩:=aB a
   refine aU (vs:=[zS k b.length l,str r]) Tryz.call105 rfl (aAi h5 h4 h7) ?_
   rintro _ l5 ⟨rfl,h8⟩
   have d9:=h6 _ _ h8
   refine aC (uI rfl rfl) (aG ?_)
   rcases aH a with ⟨c5,a⟩|⟨c5,a⟩
   ·exact aL c5 rfl (bZ (aW (bO (aA ⟨b,k,l,a,a7,a9,b0,d9⟩))))
   ·refine aJ c5 rfl (aY (aA (aI (aF (v:=i64 1) (aG (aN (bC (fun f w=>∃ (y:Int),uU b j r y=some z∧f 0=zS a1 o.length c2∧f 3=zS k b.length l∧f 4=i64 j∧f 5=i64 y∧aK G K (aV 9 K k l b::L) w) ?_ ?_)))))))
    ·rintro f l6 ⟨y,a,h9,i0,i1,i2,i3⟩
     unfold uU at a
     refine aA (aI (aO i0 (dJ (Kt:=K) (xs:=([([]:bH)]:List bH)) (cs:=[str ([]:bH)]) (vs:=[(0,str ([]:bH))]) cO aAo rfl rfl i3 rfl (by kernel_rfl) rfl rfl rfl ⟨rfl,trivial⟩ (fun i4 i5 (i6:aK G K (aV 9 K i4 1 ([([]:bH)]:List bH)::aV 9 K k l b::L) i5)=>?_))))
     obtain ⟨a3,i7,a⟩:=aB a
     refine iA (i:=0) cO Tryz.underlying22 aAo rfl rfl i6 rfl (zR _) (zR _) i7 rfl rfl rfl rfl (fun _ h=>h) (fun p q i8 (i9:aK G K (aV 9 K p q a3::L) i8)=>(aF (v:=zS p a3.length q) (aG (aN (aI (aM (v:=zS p a3.length q) (aC (bT (len:=a3.length) cO rfl) (aC (kO rfl rfl) (aF (v:=i64 (wr ((a3.length:Int) - 1))) (aG (bC (fun f w=>∃ (b4:List bH),uS j r y b4=some z∧f 0=zS a1 o.length c2∧f 3=zS p b4.length q∧f 4=i64 j∧f 5=i64 y∧aK G K (aV 9 K p q b4::L) w) ?_ ?_)))))))))))
     ·rintro f l7 ⟨b4,a,e0,e1,e2,j0,c6⟩
      unfold uS at a
      refine aA (aP (aO e1 (aO j0 (aO e0 (aO e2 (aC (cT cO rfl h3 rfl rfl rfl b3) (aC (bJ (t:=0) pU c6 c4 rfl rfl) ?_)))))))
      obtain ⟨l8,c7,a⟩:=aB a
      have j1:=dM c6 (i:=0) rfl c7
      refine aC (eB cO rfl j1 rfl rfl rfl c7) ?_
      obtain ⟨e3,e4,a⟩:=aB a
      exact jW (i:=0) (t:=0) (ns:=[str r]) (e':=(r:bH)) Tryz.sizeOf9 c6 rfl (zR _) rfl rfl rfl c7 e4 rfl rfl (dK rfl) rfl (fun cs h=>by cases h;rfl) (fun j2 (j3:aK G K (aV 9 K p q e3::L) j2)=>(bK (bE (aA ⟨e3,p,q,a,e0,(Eq.trans e1 (congrArg (fun n=>zS p n q) (iE e4))),e2,j3⟩))))
     obtain ⟨l9,j4,a⟩:=aB a
     refine cA j4 (fun (s:(List bH × Int)) f w=>match s with|(J,a5)=>f 0=zS a1 o.length c2∧f 3=zS p J.length q∧f 4=i64 j∧f 5=i64 y∧f 6=i64 a5∧aK G K (aV 9 K p q J::L) w) ?_ ?_
     ·exact ⟨h9,rfl,i1,i2,rfl,i9⟩
     ·rintro ⟨J,a5⟩ j5 f m0 m j6 ⟨e5,b5,e6,c8,b6,b7⟩
      replace m:uT y J a5=some j5:=m
      unfold uT at m
      refine aN (aI (aO b6 (aO c8 (aC (qC rfl rfl) (aG ?_)))))
      rcases aH m with ⟨d0,m⟩|⟨d0,m⟩
      ·refine aL d0 rfl (aY (aA (aN (cP (aP (aO b5 (aO b6 (aO b5 (aO b6 (aC (kO rfl rfl) ?_))))))))))
       obtain ⟨e7,d1,m⟩:=aB m
       have e8:=dM b7 (i:=0) rfl d1
       refine aC (eB cO rfl e8 rfl rfl rfl d1) (aC (lX (t:=0) pU b7 (i:=0) rfl d1 rfl rfl rfl) ?_)
       obtain ⟨m1,e9,m⟩:=aB m
       refine aC (eB cO rfl e8 rfl rfl rfl e9) ?_
       obtain ⟨f0,f1,m⟩:=aB m
       exact jW (i:=0) (t:=0) (ns:=[str e7]) (e':=(e7:bH)) Tryz.sizeOf9 b7 rfl (zR _) rfl rfl rfl e9 f1 rfl rfl (dK rfl) rfl (fun cs h=>by cases h;rfl) (fun j7 (j8:aK G K (aV 9 K p q f0::L) j7)=>(bK (bE (aA (aP (aO b6 (aC (kO rfl rfl) (aF (v:=i64 (wr (a5 - 1))) (aG ⟨(f0,wr (a5 - 1)),(zI m).symm,e5,(Eq.trans b5 (congrArg (fun n=>zS p n q) (iE f1))),e6,c8,rfl,j8⟩)))))))))
      ·refine aJ d0 rfl (bZ (aW (aW ?_)))
       have j9:=j6 _ (zI m).symm
       subst j9
       have a:(uS j r y J)=some z:=a
       exact bO (aA ⟨J,a,e5,b5,e6,c8,b7⟩)
    obtain ⟨m2,k0,a⟩:=aB a
    refine cA k0 (fun (u:Int) f w=>f 0=zS a1 o.length c2∧f 3=zS k b.length l∧f 4=i64 j∧f 5=i64 u∧aK G K (aV 9 K k l b::L) w) ?_ ?_
    ·exact ⟨a7,a9,b0,rfl,d9⟩
    ·rintro u f2 f m3 e k1 ⟨d2,b8,d3,b9,d⟩
     replace e:oJ b r u=some f2:=e
     unfold oJ at e
     refine aN (aN (cN (fun f w=>∃ (d4:Bool),uV u d4=some f2∧f 0=zS a1 o.length c2∧f 3=zS k b.length l∧f 4=i64 j∧f 5=i64 u∧f 35=zB d4∧aK G K (aV 9 K k l b::L) w) ?_ ?_))
     ·rintro f m4 ⟨d4,e,f3,f4,f5,f6,f7,f8⟩
      unfold uV at e
      refine aA ?_
      rcases aH e with ⟨d5,e⟩|⟨d5,e⟩
      ·exact aL d5 f7 (aY (aA (cP (aP (aO f6 (aC (cM rfl rfl) (aF (v:=i64 (wr (u+1))) (bK (bE (aA ⟨wr (u+1),(zI e).symm,f3,f4,f5,rfl,f8⟩))))))))))
      ·refine aJ d5 f7 (bZ (aW (aW ?_)))
       have k2:=k1 _ (zI e).symm
       subst k2
       have a:(uU b j r u)=some z:=a
       exact bO (aA ⟨u,a,f3,f4,f5,f6,f8⟩)
     refine eK (C:=fun w'=>aK G K (aV 9 K k l b::L) w') bU (by kernel_rfl) (aK.mono d (dQ.drew _)) (aX (fun _ d=>bD b9) (aX (fun _ d=>bD b8) (aX (fun _ d=>bT (len:=b.length) cO rfl) (aX (fun _ d=>cJ rfl rfl) (aX (fun _ d=>bD (v:=zB (decide (u < (b.length:Int)))) rfl) ?_)))))
     rcases aH e with ⟨c,e⟩|⟨c,e⟩
     ·refine bM (g:=25) rfl rfl c (aX (fun _ d=>bD b8) (bM (g:=25) rfl rfl c (aX (fun _ d=>bD b9) (bM (g:=25) rfl rfl c ?_))))
      obtain ⟨f9,d6,e⟩:=aB e
      have k3:=dM d (i:=0) rfl d6
      exact aX (fun _ d=>eB cO rfl k3 rfl rfl rfl d6) (bM (g:=25) rfl rfl c (aX (fun _ d=>lX (t:=0) pU d (i:=0) rfl d6 rfl rfl rfl) (bM (g:=25) rfl rfl c (aX (fun _ d=>bD d2) (bM (g:=25) rfl rfl c (aX (fun _ d=>bD d3) (bM (g:=25) rfl rfl c (aX (fun _ d=>cT cO rfl h3 rfl rfl rfl b3) (bM (g:=25) rfl rfl c (aX (fun _ d=>bJ (t:=0) pU d c4 rfl rfl) (bM (g:=25) rfl rfl c (aX (fun _ d=>R_lssS rfl rfl) (aX (fun _ d=>bI (v:=zB (xY f9 r)) c rfl rfl) (eG (fun m5 k4=>(aA ⟨xY f9 r,e,d2,b8,d3,b9,rfl,k4⟩))))))))))))))))
     ·exact aT (g:=25) rfl rfl (cB c) (aT (g:=25) rfl rfl (cB c) (aT (g:=25) rfl rfl (cB c) (aT (g:=25) rfl rfl (cB c) (aT (g:=25) rfl rfl (cB c) (aT (g:=25) rfl rfl (cB c) (aT (g:=25) rfl rfl (cB c) (aT (g:=25) rfl rfl (cB c) (aT (g:=25) rfl rfl (cB c) (aX (fun _ d=>bL (v:=zB false) c rfl rfl) (eG (fun m6 k5=>(aA ⟨false,e,d2,b8,d3,b9,rfl,k5⟩))))))))))))
  ·refine aJ c3 rfl (bZ (aW (aW ?_)))
   have k6:=g7 _ (zI a).symm
   subst k6
   have x:(yK b)=some R:=x
   exact bO (aA ⟨b,k,l,x,a9,c1⟩)
theorem aGK {j:(List Edge)} {e:Edge} {R:(List Edge)} (hs:aK G K (aV 63 K a1 c2 j::L) w) (a:aCe j e=some R):
  Calls Tryz.prog 102 ([zS a1 j.length c2,zA #[i64 e.F,i64 e.B,i64 e.To]]:List Value).toArray w (gO fun v w'=>∃ (c8:Option Addr) (c9:Nat),v=zS c8 R.length c9∧aK G K (aV 63 K c8 c9 R::L) w'):=by
 let l:=[i64 e.F,i64 e.B,i64 e.To]
 let J:=aV 63 K a1 c2 j
 refine aS Tryz.func102 rfl (by kernel_rfl) (by show (2:Nat)≤57;decide) ?_
 unfold aCe at a
 refine aI (eE (v:=zA #[i64 e.F,i64 e.B,i64 e.To]) (vs:=l) hs rfl rfl (fun c w4 f1=>(aF (v:=zS none 0 0) (aG (aI (aM (v:=zS a1 j.length c2) (aC (bT (len:=j.length) bY rfl) (aF (v:=i64 (j.length:Int)) (aG (aN (bC (fun f w=>∃ (r:Int),xG j e r=some R∧f 0=zS a1 j.length c2∧f 3=zP (some ⟨c,0,none⟩)∧f 5=i64 r∧aK G K (box c 63 l::J::L) w) ?_ ?_)))))))))))
 ·rintro f j5 ⟨r,a,e7,e8,e9,k⟩
  unfold xG at a
  refine aA (aN (aN (cN (fun f w=>∃ (b1:Bool),tY j e r b1=some R∧f 0=zS a1 j.length c2∧f 3=zP (some ⟨c,0,none⟩)∧f 5=i64 r∧f 30=zB b1∧aK G K (box c 63 l::J::L) w) ?_ ?_)))
  ·rintro f j6 ⟨b1,a,d0,f2,f3,d1,d2⟩
   unfold tY at a
   refine aA ?_
   rcases aH a with ⟨b2,a⟩|⟨b2,a⟩
   ·refine aL b2 d1 (aI (aO d0 (aF (v:=zS a1 j.length c2) (aG ?_))))
    obtain rfl:=zI a
    exact bF (aR (bB Tryz.results102 rfl ⟨a1,c2,rfl,(aK.arr 1 [] d2 rfl)⟩))
   ·refine aJ b2 d1 (aY (aA (aI (aO d0 (aC (kA (vs:=[]) (cs:=[i64 0,i64 0,i64 0]) bs_63 rfl (by kernel_rfl)) (dJ (Kt:=K) (xs:=([⟨0,0,0⟩]:List Edge)) (cs:=[i64 0,i64 0,i64 0]) (vs:=[(0,zA #[i64 0,i64 0,i64 0])]) bY lD rfl rfl d2 rfl (by kernel_rfl) rfl rfl rfl ⟨rfl,trivial⟩ (fun f5 f6 (f7:aK G K (aV 63 K f5 1 ([⟨0,0,0⟩]:List Edge)::box c 63 l::J::L) f6)=>?_)))))))
    obtain ⟨a0,f8,a⟩:=aB a
    refine iA (i:=1) bY Tryz.underlying27 lD rfl rfl f7 rfl (zR _) (zR _) f8 rfl rfl rfl rfl (fun _ h=>h) (fun m o f9 (g0:aK G K (box c 63 l::aV 63 K m o a0::L) f9)=>(aF (v:=zS m a0.length o) (aG (aN (aI (aM (v:=zS m a0.length o) (aC (bT (len:=a0.length) bY rfl) (aC (kO rfl rfl) (aF (v:=i64 (wr ((a0.length:Int) - 1))) (aG (bC (fun f w=>∃ (a4:List Edge),xF e r a4=some R∧f 0=zS m a4.length o∧f 3=zP (some ⟨c,0,none⟩)∧f 5=i64 r∧aK G K (box c 63 l::aV 63 K m o a4::L) w) ?_ ?_)))))))))))
    ·rintro f j7 ⟨a4,a,d3,g1,g2,b4⟩
     unfold xF at a
     refine aA (aI (aO d3 (aO g2 (aC (dF (us:=l) iJ b4 (i:=0) rfl g1 rfl rfl) ?_))))
     obtain ⟨j8,b5,a⟩:=aB a
     have g3:=dM b4 (i:=1) rfl b5
     refine aC (eB bY rfl g3 rfl rfl rfl b5) ?_
     obtain ⟨b6,d4,a⟩:=aB a
     refine jW (i:=1) (t:=0) (ns:=l) (e':=(⟨e.F,e.B,e.To⟩:Edge)) Tryz.sizeOf63 b4 rfl (zR _) rfl rfl rfl b5 d4 rfl rfl (dK rfl) rfl (fun cs h=>by cases h;rfl) (fun g4 (g5:aK G K (box c 63 l::aV 63 K m o b6::L) g4)=>(aG (aI (aO (v:=zS m b6.length o) (Eq.trans d3 (congrArg (fun n=>zS m n o) (iE d4))) (aF (v:=zS m b6.length o) (aG ?_))))))
     obtain rfl:=zI a
     exact bF (bB Tryz.results102 rfl ⟨m,o,rfl,(aK.arr 1 [] g5 rfl)⟩)
    obtain ⟨j9,g7,a⟩:=aB a
    refine cA g7 (fun (s:(List Edge × Int)) f w=>match s with|(V,a2)=>f 0=zS m V.length o∧f 3=zP (some ⟨c,0,none⟩)∧f 5=i64 r∧f 6=i64 a2∧aK G K (box c 63 l::aV 63 K m o V::L) w) ?_ ?_
    ·exact ⟨rfl,f2,f3,rfl,g0⟩
    ·rintro ⟨V,a2⟩ g8 f k0 p g9 ⟨a5,d5,b7,a6,a7⟩
     replace p:tX r V a2=some g8:=p
     unfold tX at p
     refine aN (aI (aO a6 (aO b7 (aC (qC rfl rfl) (aG ?_)))))
     rcases aH p with ⟨b8,p⟩|⟨b8,p⟩
     ·refine aL b8 rfl (aY (aA (aN (cP (aP (aO a5 (aO a6 (aO a5 (aO a6 (aC (kO rfl rfl) ?_))))))))))
      obtain ⟨z,b9,p⟩:=aB p
      have d6:=dM a7 (i:=1) rfl b9
      refine aC (eB bY rfl d6 rfl rfl rfl b9) (aC (aAH (t:=0) (vs:=[i64 z.F,i64 z.B,i64 z.To]) iJ a7 (i:=1) rfl b9 rfl rfl rfl rfl) ?_)
      obtain ⟨k1,d7,p⟩:=aB p
      refine aC (eB bY rfl d6 rfl rfl rfl d7) ?_
      obtain ⟨d8,d9,p⟩:=aB p
      exact jW (i:=1) (t:=0) (ns:=[i64 z.F,i64 z.B,i64 z.To]) (e':=(⟨z.F,z.B,z.To⟩:Edge)) Tryz.sizeOf63 a7 rfl (zR _) rfl rfl rfl d7 d9 rfl rfl (dK rfl) rfl (fun cs h=>by cases h;rfl) (fun h0 (h1:aK G K (box c 63 l::aV 63 K m o d8::L) h0)=>(bK (bE (aA (aP (aO a6 (aC (kO rfl rfl) (aF (v:=i64 (wr (a2 - 1))) (aG ⟨(d8,wr (a2 - 1)),(zI p).symm,(Eq.trans a5 (congrArg (fun n=>zS m n o) (iE d9))),d5,b7,rfl,h1⟩)))))))))
     ·refine aJ b8 rfl (bZ (aW (aW ?_)))
      have h2:=g9 _ (zI p).symm
      subst h2
      have a:(xF e r V)=some R:=a
      exact bO (aA ⟨V,a,a5,d5,b7,a7⟩)
  refine eK (C:=fun w'=>aK G K (box c 63 l::J::L) w') bU (by kernel_rfl) (aK.mono k (dQ.drew _)) (aX (fun _ k=>bD e9) (aX (fun _ k=>qC rfl rfl) (aX (fun _ k=>bD (v:=zB (decide (0 < r))) rfl) ?_)))
  rcases aH a with ⟨d,a⟩|⟨d,a⟩
  ·refine bM (g:=22) rfl rfl d (aX (fun _ k=>bD e7) (bM (g:=22) rfl rfl d (aX (fun _ k=>bD e9) (bM (g:=22) rfl rfl d (aX (fun _ k=>kO rfl rfl) (bM (g:=22) rfl rfl d ?_))))))
   obtain ⟨Z,c0,a⟩:=aB a
   have h3:=dM k (i:=1) rfl c0
   exact aX (fun _ k=>eB bY rfl h3 rfl rfl rfl c0) (bM (g:=22) rfl rfl d (aX (fun _ k=>aAH (t:=0) (vs:=[i64 Z.F,i64 Z.B,i64 Z.To]) iJ k (i:=1) rfl c0 rfl rfl rfl rfl) (bM (g:=22) rfl rfl d (aX (fun _ k=>dF (us:=l) iJ k (i:=0) rfl e8 rfl rfl) (bM (g:=22) rfl rfl d (aX (fun _ k=>R_eqlG (eq_63 (x:=Z) (y:=e)) rfl rfl) (aX (fun _ k=>bI (v:=zB (decide ((Z:Edge)=e))) d rfl rfl) (eG (fun k2 h4=>(aA ⟨decide ((Z:Edge)=e),a,e7,e8,e9,rfl,h4⟩))))))))))
  ·exact aT (g:=22) rfl rfl (cB d) (aT (g:=22) rfl rfl (cB d) (aT (g:=22) rfl rfl (cB d) (aT (g:=22) rfl rfl (cB d) (aT (g:=22) rfl rfl (cB d) (aT (g:=22) rfl rfl (cB d) (aT (g:=22) rfl rfl (cB d) (aX (fun _ k=>bL (v:=zB false) d rfl rfl) (eG (fun k3 h5=>(aA ⟨false,a,e7,e8,e9,rfl,h5⟩))))))))))
 obtain ⟨k4,h6,a⟩:=aB a
 refine cA h6 (fun (u:Int) f w=>f 0=zS a1 j.length c2∧f 3=zP (some ⟨c,0,none⟩)∧f 5=i64 u∧aK G K (box c 63 l::J::L) w) ?_ ?_
 ·exact ⟨rfl,rfl,rfl,f1⟩
 ·rintro u e0 f k5 b h7 ⟨c1,c3,a8,c4⟩
  replace b:qM j e u=some e0:=b
  unfold qM at b
  refine aN (aN (cN (fun f w=>∃ (c5:Bool),tZ u c5=some e0∧f 0=zS a1 j.length c2∧f 3=zP (some ⟨c,0,none⟩)∧f 5=i64 u∧f 17=zB c5∧aK G K (box c 63 l::J::L) w) ?_ ?_))
  ·rintro f k6 ⟨c5,b,e1,e2,e3,e4,e5⟩
   unfold tZ at b
   refine aA ?_
   rcases aH b with ⟨c6,b⟩|⟨c6,b⟩
   ·exact aL c6 e4 (aY (aA (cP (aP (aO e3 (aC (kO rfl rfl) (aF (v:=i64 (wr (u - 1))) (bK (bE (aA ⟨wr (u - 1),(zI b).symm,e1,e2,rfl,e5⟩))))))))))
   ·refine aJ c6 e4 (bZ (aW (aW ?_)))
    have h8:=h7 _ (zI b).symm
    subst h8
    have a:(xG j e u)=some R:=a
    exact bO (aA ⟨u,a,e1,e2,e3,e5⟩)
  refine aP (aO a8 (aC (qC rfl rfl) (aM (v:=zB (decide (0 < u))) ?_)))
  rcases aH b with ⟨q,b⟩|⟨q,b⟩
  ·refine bA q rfl rfl (aO c1 (bA q rfl rfl (aO a8 (bA q rfl rfl (aC (kO rfl rfl) (bA q rfl rfl ?_))))))
   obtain ⟨k7,c7,b⟩:=aB b
   have h9:=dM c4 (i:=1) rfl c7
   refine aC (eB bY rfl h9 rfl rfl rfl c7) (bA q rfl rfl ?_)
   obtain ⟨k8,i0,i1,i2,i3⟩:=aK.lendB (i:=0) c4 rfl
   obtain ⟨k9,i4,i5,i6,i7⟩:=aK.lendS (i:=0) i2 i0 rfl
   obtain ⟨l0,i8,i9⟩:=cL.el (sz:=3) rfl i5 c7
   cases i9
   obtain ⟨e6,j0,b⟩:=aB b
   refine aU (vs:=[bV (some ⟨c,0,none⟩) 0,bV a1 ((wr (u - 1)).toNat * 3+0)]) Tryz.call69 (lst2 c3 rfl) (aCl i6 (i1.mono i4) i8 j0) ?_
   rintro _ l1 ⟨rfl,j1⟩
   have j2:=i7 _ _ j1
   have j3:=i3 _ _ j2
   exact aC (bI (v:=zB e6) q rfl rfl) (aG ⟨e6,b,c1,c3,a8,rfl,j3⟩)
  ·exact aQ q rfl rfl (aQ q rfl rfl (aQ q rfl rfl (aQ q rfl rfl (aQ q rfl rfl (aC (bL (v:=zB false) q rfl rfl) (aG ⟨false,b,c1,c3,a8,rfl,c4⟩))))))
theorem aFT {g h:Int} {J:(List bH)} {Z:(List Edge)} {R:cH} (hs:aK G K (L) w) (h3:cL K a1 c2 J) (h6:cL K a4 c5 Z) (l:aBd g h J Z=some R):
  Calls Tryz.prog 71 ([i64 g,i64 h,zS a1 J.length c2,zS a4 Z.length c5]:List Value).toArray w (gO fun v w'=>∃ (b8:Option Addr) (b9:Nat) (c0:Option Addr) (c1:Nat),v=zA (zCa R b8 b9 c0 c1)∧aK G K (aV 9 K b8 b9 R.L::aV 63 K c0 c1 R.E::L) w'):=by
 let u:=zG
 refine aS Tryz.func71 rfl (by kernel_rfl) (by show (4:Nat)≤43;decide) ?_
 unfold aBd at l
 refine aI (bW (vs:=u) Tryz.zeroValue29 hs rfl (fun m w8 d5=>(aG (aI (aM (v:=i64 g) (aM (v:=i64 h) (aM (v:=zS a1 J.length c2) ?_)))))))
 obtain ⟨a,d6,l⟩:=aB l
 refine aU (vs:=[zS a1 J.length c2]) Tryz.call100 rfl (aFS d5 h3 d6) ?_
 rintro _ i0 ⟨b,c,rfl,d7⟩
 refine dJ (Kt:=K) (xs:=([]:List Edge)) (cs:=[]) (vs:=[]) bY lD rfl rfl d7 rfl (by kernel_rfl) rfl rfl rfl trivial (fun y d8 (d9:aK G K (aV 63 K y 0 ([]:List Edge)::aV 9 K b c a::box m 29 u::L) d8)=>(aC (kA (vs:=[(0,i64 g),(1,i64 h),(2,zS b a.length c),(3,zS y ([]:List Edge).length 0)]) (cs:=[i64 g,i64 h,zS b a.length c,zS y ([]:List Edge).length 0]) aAX rfl (by kernel_rfl)) (bW (vs:=u) Tryz.zeroValue29 d9 rfl (fun x i1 e0=>(cD (i:=0) (ns:=[i64 g,i64 h,zS b a.length c,zS y ([]:List Edge).length 0]) (us:=[i64 g,i64 h,zS b a.length c,zS y ([]:List Edge).length 0]) Tryz.sizeOf29 e0 rfl rfl rfl rfl rfl (dK rfl) rfl rfl (fun e1 (e2:aK G K (box x 29 [i64 g,i64 h,zS b a.length c,zS y ([]:List Edge).length 0]::aV 63 K y 0 ([]:List Edge)::aV 9 K b c a::box m 29 u::L) e1)=>(aG (aN (aI (aF (v:=i64 0) (aG (bC (fun f w=>∃ (n:List Edge) (o:Option Addr) (p:Nat),yL g h a n=some R∧f 8=zP (some ⟨m,0,none⟩)∧f 9=zP (some ⟨x,0,none⟩)∧aK G K (aV 63 K o p n::box x 29 [i64 g,i64 h,zS b a.length c,zS o n.length p]::aV 9 K b c a::box m 29 u::L) w) ?_ ?_))))))))))))
 ·rintro f i2 ⟨n,o,p,l,c3,e3,c4⟩
  unfold yL at l
  refine aA (aI (aC (dF (us:=[i64 g,i64 h,zS b a.length c,zS o n.length p]) eC c4 (i:=1) rfl e3 rfl rfl) (cD (i:=3) (ns:=[i64 g,i64 h,zS b a.length c,zS o n.length p]) (us:=[i64 g,i64 h,zS b a.length c,zS o n.length p]) Tryz.sizeOf29 c4 rfl c3 rfl rfl rfl (dK rfl) rfl rfl (fun e4 (c6:aK G K (aV 63 K o p n::box x 29 [i64 g,i64 h,zS b a.length c,zS o n.length p]::aV 9 K b c a::box m 29 [i64 g,i64 h,zS b a.length c,zS o n.length p]::L) e4)=>(aG ?_)))))
  obtain rfl:=zI l
  exact bF (sX Tryz.results71 (kQ (vs:=[i64 g,i64 h,zS b a.length c,zS o n.length p]) rfl eC c6 (i:=3) rfl c3 rfl) ⟨b,c,o,p,rfl,(aK.arr 4 [2,0] c6 rfl)⟩)
 obtain ⟨i3,e6,l⟩:=aB l
 refine cA e6 (fun (s:(List Edge × Int)) f w=>match s with|(k,a0)=>∃ (q:Option Addr) (r:Nat),f 2=zS a1 J.length c2∧f 3=zS a4 Z.length c5∧f 8=zP (some ⟨m,0,none⟩)∧f 9=zP (some ⟨x,0,none⟩)∧f 10=i64 a0∧aK G K (box x 29 [i64 g,i64 h,zS b a.length c,zS q k.length r]::aV 63 K q r k::aV 9 K b c a::box m 29 u::L) w) ?_ ?_
 ·exact ⟨y,0,rfl,rfl,rfl,rfl,rfl,e2⟩
 ·rintro ⟨k,a0⟩ e7 f i4 j e8 ⟨q,r,c7,b0,c8,a2,b1,b2⟩
  replace j:oK J Z a k a0=some e7:=j
  unfold oK at j
  refine aN (aI (aO b1 (aO b0 (aC (bT (len:=Z.length) bY rfl) (aC (cJ rfl rfl) (aG ?_))))))
  rcases aH j with ⟨b3,j⟩|⟨b3,j⟩
  ·refine aL b3 rfl (aY (aA (aN (cP (aI (aO b0 (aO b1 ?_)))))))
   obtain ⟨d,c9,j⟩:=aB j
   refine aC (cT bY rfl h6 rfl rfl rfl c9) ?_
   obtain ⟨i5,e9,f0⟩:=cL.el (sz:=3) rfl h6 c9
   cases f0
   refine aC (gG (t:=0) (vs:=[i64 d.F,i64 d.B,i64 d.To]) iJ b2 e9 rfl rfl rfl) (bW (vs:=[i64 0,i64 0,i64 0]) Tryz.zeroValue63 b2 rfl (fun a7 i6 f1=>(cD (i:=0) (ns:=[i64 d.F,i64 d.B,i64 d.To]) (us:=[i64 d.F,i64 d.B,i64 d.To]) Tryz.sizeOf63 f1 rfl rfl rfl rfl rfl (dK rfl) rfl rfl (fun f2 (f3:aK G K (box a7 63 [i64 d.F,i64 d.B,i64 d.To]::box x 29 [i64 g,i64 h,zS b a.length c,zS q k.length r]::aV 63 K q r k::aV 9 K b c a::box m 29 u::L) f2)=>(aG (aN ?_))))))
   obtain ⟨i7,b4,f4,f5,f6⟩:=aK.lendB (i:=0) f3 rfl
   obtain ⟨f7,a8,f8,d0,f9⟩:=aK.lendB (i:=0) f5 rfl
   refine iB (C:=fun w'=>∃ L',aK G f7 L' w') [(0,0),(1,0),(2,0),(3,0),(4,0),(5,0),(6,0),(7,1),(8,0),(9,2)] bU (by kernel_rfl) (fun _ hg=>⟨_,aK.mono d0 hg⟩) (fun i8 g0=>?_)
   have V:=aK.mono d0 g0
   refine bX rfl (fun _ _=>bG (t':=2) gI a2 rfl) (bX rfl (fun _ ⟨_,V⟩=>bJ (t:=2) mG V f8 rfl rfl) (bX rfl (fun _ _=>bD c7) (bX rfl (fun _ _=>bG (t':=1) gB rfl rfl) (bX rfl (fun _ ⟨_,V⟩=>bJ (t:=1) cE V (f4.mono a8) rfl rfl) ?_))))
   obtain ⟨g1,d1,j⟩:=aB j
   refine bX rfl (fun _ _=>cT cO rfl (h3.mono (Hp.le_trans b4 a8)) rfl rfl rfl d1) ?_
   obtain ⟨i9,g2,g3⟩:=cL.el (sz:=1) rfl h3 d1
   cases g3
   refine bX rfl (fun _ ⟨_,V⟩=>bJ (t:=0) pU V (g2.mono (Hp.le_trans b4 a8)) rfl rfl) (nD rfl ?_)
   obtain ⟨j0,j1,g4,g5,g6⟩:=aK.lendS (i:=1) V (Hp.le_trans b4 a8) rfl
   obtain ⟨z,g7,j⟩:=aB j
   refine aU (vs:=[zS b a.length c,str g1]) Tryz.call105 rfl (aAi g5 g4 g7) ?_
   rintro _ j2 ⟨rfl,g8⟩
   have d2:=g6 _ _ g8
   refine bK (aA ⟨⟨_,d2⟩,?_⟩)
   refine bX rfl (fun _ _=>bG (t':=1) gB rfl rfl) ?_
   have g9:=f9 _ _ d2
   have h0:=f6 _ _ g9
   refine WE_s rfl (cD (i:=0) (ns:=[i64 z]) (us:=[i64 d.F,i64 z,i64 d.To]) Tryz.sizeOf2 h0 rfl rfl rfl rfl rfl (dK rfl) rfl rfl (fun d3 (b5:aK G K (box a7 63 [i64 d.F,i64 z,i64 d.To]::box x 29 [i64 g,i64 h,zS b a.length c,zS q k.length r]::aV 9 K b c a::aV 63 K q r k::box m 29 u::L) d3)=>(aG (mP (aA (aP (aC (bG (t':=3) cK a2 rfl) (aC (cF fS b5 (i:=1) rfl rfl rfl) (aC (dF (us:=[i64 d.F,i64 z,i64 d.To]) iJ b5 (i:=0) rfl rfl rfl rfl) ?_)))))))))
   have h1:aK G K (aV 63 K q r k::box a7 63 [i64 d.F,i64 z,i64 d.To]::box x 29 [i64 g,i64 h,zS b a.length c,zS q k.length r]::aV 9 K b c a::box m 29 u::L) d3:=(aK.arr 4 [3,0,1,2] b5 rfl)
   obtain ⟨a3,h2,j⟩:=aB j
   refine aU (vs:=[zS q k.length r,zA #[i64 d.F,i64 z,i64 d.To]]) Tryz.call102 rfl (aGK (e:=⟨d.F,z,d.To⟩) h1 h2) ?_
   rintro _ j3 ⟨a5,a6,rfl,h4⟩
   exact aC (bG (t':=3) cK a2 rfl) (cD (i:=2) (ns:=[zS a5 a3.length a6]) (us:=[i64 g,i64 h,zS b a.length c,zS a5 a3.length a6]) Tryz.sizeOf27 h4 rfl rfl rfl rfl rfl (dK rfl) rfl rfl (fun h5 (h7:aK G K (aV 63 K a5 a6 a3::box a7 63 [i64 d.F,i64 z,i64 d.To]::box x 29 [i64 g,i64 h,zS b a.length c,zS a5 a3.length a6]::aV 9 K b c a::box m 29 u::L) h5)=>(bK (bE (aA (aP (aO b1 (aC (cM rfl rfl) (aF (v:=i64 (wr (a0+1))) (aG ⟨(a3,wr (a0+1)),(zI j).symm,a5,a6,c7,b0,c8,a2,rfl,(aK.arr 3 [2,0] h7 rfl)⟩))))))))))
  ·refine aJ b3 rfl (bZ (aW (aW ?_)))
   have h8:=e8 _ (zI j).symm
   subst h8
   have l:(yL g h a k)=some R:=l
   exact bO (aA ⟨k,q,r,l,c8,a2,(aK.arr 2 [1,0] b2 rfl)⟩)
theorem aGL {a b R:Int} (e:aK G K (L) w) (c:aDD a b=some R):
  Calls Tryz.prog 158 ([i64 a,i64 b]:List Value).toArray w (gO fun v w'=>v=i64 R∧aK G K (L) w'):=by
 refine aS Tryz.func158 rfl (by kernel_rfl) (by show (2:Nat)≤10;decide) ?_
 unfold aDD at c
 refine aI (aF (v:=i64 0) (aG (aN (aI (aM (v:=i64 a) (aM (v:=i64 b) (aC (qC rfl rfl) (aG ?_))))))))
 rcases aH c with ⟨d,c⟩|⟨d,c⟩
 ·refine aL d rfl (aI (aM (v:=i64 a) (aF (v:=i64 a) (aG ?_))))
  obtain rfl:=zI c
  exact bF (aR (bB Tryz.results158 rfl ⟨rfl,e⟩))
 ·refine aJ d rfl (aY (aA (aI (aM (v:=i64 b) (aF (v:=i64 b) (aG ?_))))))
  obtain rfl:=zI c
  exact bF (bB Tryz.results158 rfl ⟨rfl,e⟩)
theorem aEs {p:(List Int)} {R:Int} (o:aK G K (L) w) (k:cL K a1 c2 p) (b:uA p=some R):
  Calls Tryz.prog 72 ([zS a1 p.length c2]:List Value).toArray w (gO fun v w'=>v=i64 R∧aK G K (L) w'):=by
 refine aS Tryz.func72 rfl (by kernel_rfl) (by show (1:Nat)≤19;decide) ?_
 unfold uA at b
 refine aI (aF (v:=i64 0) (aG (aI (aF (v:=i64 0) (aG (aN (aI (aF (v:=i64 0) (aG (bC (fun f w=>∃ (e:Int),uW e=some R∧f 3=i64 e∧aK G K (L) w) ?_ ?_))))))))))
 ·rintro f w6 ⟨e,b,q,r⟩
  unfold uW at b
  refine aA (aI (aO q (aF (v:=i64 e) (aG ?_))))
  obtain rfl:=zI b
  exact bF (bB Tryz.results72 rfl ⟨rfl,r⟩)
 obtain ⟨a5,x,b⟩:=aB b
 refine cA x (fun (s:(Int × Int)) f w=>match s with|(c,d)=>f 0=zS a1 p.length c2∧f 3=i64 c∧f 4=i64 d∧aK G K (L) w) ?_ ?_
 ·exact ⟨rfl,rfl,rfl,o⟩
 ·rintro ⟨c,d⟩ y f a6 a z ⟨g,l,h,i⟩
  replace a:lL p c d=some y:=a
  unfold lL at a
  refine aN (aI (aO h (aO g (aC (bT (len:=p.length) cG rfl) (aC (cJ rfl rfl) (aG ?_))))))
  rcases aH a with ⟨j,a⟩|⟨j,a⟩
  ·refine aL j rfl (aY (aA (aN (cP (aP (aO l (aO g (aO h ?_))))))))
   obtain ⟨J,m,a⟩:=aB a
   refine aC (cT cG rfl k rfl rfl rfl m) ?_
   obtain ⟨a7,V,Z⟩:=cL.el (sz:=1) rfl k m
   cases Z
   refine aC (bJ (t:=0) cE i V rfl rfl) (aC (cM rfl rfl) ?_)
   obtain ⟨n,a0,a⟩:=aB a
   refine aU (vs:=[i64 c,i64 (wr (J+1))]) Tryz.call158 rfl (aGL i a0) ?_
   rintro _ a8 ⟨rfl,a2⟩
   exact aF (v:=i64 n) (bK (bE (aA (aP (aO h (aC (cM rfl rfl) (aF (v:=i64 (wr (d+1))) (aG ⟨(n,wr (d+1)),(zI a).symm,g,rfl,rfl,a2⟩))))))))
  ·refine aJ j rfl (bZ (aW (aW ?_)))
   have a3:=z _ (zI a).symm
   subst a3
   have b:(uW c)=some R:=b
   exact bO (aA ⟨c,b,l,i⟩)
theorem aDd {t:cH} {k:Nat} {p:(List Int)} {R:cH} (hs:aK G K (L) w) (e:fV K a1 k (zC t a4 c5 a7 c8)) (h6:cL K a4 c5 t.L) (h9:cL K a7 c8 t.E) (m:cL K a10 c11 p) (d:sF t p=some R):
  Calls Tryz.prog 26 ([bV a1 k,zS a10 p.length c11]:List Value).toArray w (gO fun v w'=>∃ (b9:Option Addr) (c0:Nat) (c1:Option Addr) (c2:Nat),v=zA (zCa R b9 c0 c1 c2)∧aK G K (aV 9 K b9 c0 R.L::aV 63 K c1 c2 R.E::L) w'):=by
 let n:=zG
 refine aS Tryz.func26 rfl (by kernel_rfl) (by show (2:Nat)≤56;decide) ?_
 unfold sF at d
 refine aI (bW (vs:=n) Tryz.zeroValue29 hs rfl (fun j i5 e3=>(aG (aI (dJ (Kt:=K) (xs:=([]:List Edge)) (cs:=[]) (vs:=[]) bY lD rfl rfl e3 rfl (by kernel_rfl) rfl rfl rfl trivial (fun b0 e4 (e5:aK G K (aV 63 K b0 0 ([]:List Edge)::box j 29 n::L) e4)=>(aF (v:=zS b0 ([]:List Edge).length 0) (aG (aN (aI (aF (v:=i64 0) (aG (bC (fun f w=>∃ (q:List Edge) (a2:Option Addr) (a3:Nat),nL t p q=some R∧f 0=bV a1 k∧f 1=zS a10 p.length c11∧f 4=zP (some ⟨j,0,none⟩)∧f 5=zS a2 q.length a3∧aK G K (aV 63 K a2 a3 q::box j 29 n::L) w) ?_ ?_)))))))))))))
 ·rintro f i6 ⟨q,a2,a3,d,c3,c4,c6,e6,c7⟩
  unfold nL at d
  refine aA (aN (iB (C:=fun w'=>∃ L',aK G K L' w') [(0,0),(2,0),(3,0),(4,0),(5,0),(6,0),(7,0),(8,0),(9,0),(10,0),(11,0),(12,0),(13,0),(1,1),(14,1),(15,2)] bU (by kernel_rfl) (fun _ hg=>⟨_,aK.mono c7 hg⟩) (fun i7 e7=>?_)))
  have o:=aK.mono c7 e7
  refine bX rfl (fun _ _=>bD c4) (bX rfl (fun _ _=>bD c4) (bX rfl (fun _ _=>bD c3) (bX rfl (fun _ _=>cS rfl e) (bX rfl (fun _ _=>cC (k':=k+1) nE rfl e rfl) (bX rfl (fun _ ⟨_,o⟩=>bJ (t:=1) cE o e rfl rfl) ?_)))))
  obtain ⟨e8,c9,d⟩:=aB d
  refine bX rfl (fun _ _=>cT cG rfl m rfl rfl rfl c9) ?_
  obtain ⟨i8,e9,f0⟩:=cL.el (sz:=1) rfl m c9
  cases f0
  refine bX rfl (fun _ ⟨_,o⟩=>bJ (t:=0) cE o e9 rfl rfl) (bX rfl (fun _ _=>bD c3) (bX rfl (fun _ _=>cS rfl e) (bX rfl (fun _ _=>cC (k':=k+2) gI rfl e rfl) (bX rfl (fun _ ⟨_,o⟩=>bJ (t:=2) mG o e rfl rfl) (bX rfl (fun _ _=>bD e6) (nD rfl ?_))))))
  obtain ⟨f1,f2,d⟩:=aB d
  refine aU (vs:=[zS a10 p.length c11]) Tryz.call72 rfl (aEs o m f2) ?_
  rintro _ i9 ⟨rfl,d0⟩
  refine bK (aA ⟨⟨_,d0⟩,?_⟩)
  refine nD rfl ?_
  obtain ⟨j0,f3,f4,f5,f6⟩:=aK.lendS (i:=0) d0 (zR _) rfl
  obtain ⟨a,f7,d⟩:=aB d
  refine aU (vs:=[i64 f1,i64 e8,zS a4 t.L.length c5,zS a2 q.length a3]) Tryz.call71 rfl (aFT f5 (h6.mono f3) f4 f7) ?_
  rintro _ j1 ⟨r,u,x,y,rfl,f8⟩
  have d1:=f6 _ _ f8
  refine bK (aA ⟨⟨_,d1⟩,?_⟩)
  refine WE_s rfl (cD (i:=3) (ns:=(zC a r u x y)) (us:=(zC a r u x y)) Tryz.sizeOf29 d1 rfl c6 rfl rfl rfl (dK rfl) rfl rfl (fun f9 (d2:aK G K (aV 63 K a2 a3 q::aV 9 K r u a.L::aV 63 K x y a.E::box j 29 (zC a r u x y)::L) f9)=>(aG (mP (aA ?_)))))
  obtain rfl:=zI d
  exact bF (sX Tryz.results26 (kQ (vs:=(zC a r u x y)) rfl eC d2 (i:=3) rfl c6 rfl) ⟨r,u,x,y,rfl,(aK.arr 4 [1,2] d2 rfl)⟩)
 obtain ⟨j2,g1,d⟩:=aB d
 refine cA g1 (fun (s:(List Edge × Int)) f w=>match s with|(l,a5)=>∃ (z:Option Addr) (J:Nat),f 0=bV a1 k∧f 1=zS a10 p.length c11∧f 4=zP (some ⟨j,0,none⟩)∧f 5=zS z l.length J∧f 6=i64 a5∧aK G K (aV 63 K z J l::box j 29 n::L) w) ?_ ?_
 ·exact ⟨b0,0,rfl,rfl,rfl,rfl,rfl,e5⟩
 ·rintro ⟨l,a5⟩ g2 f j3 c g3 ⟨z,J,a8,a9,d3,d4,b1,a6⟩
  replace c:lH t p l a5=some g2:=c
  unfold lH at c
  refine aN (aI (aO b1 (aO a8 (aC (cS rfl e) (aC (cC (k':=k+3) cK rfl e rfl) (aC (bJ (t:=3) fS a6 e rfl rfl) (aC (bT (len:=t.E.length) bY rfl) (aC (cJ rfl rfl) (aG ?_)))))))))
  rcases aH c with ⟨b2,c⟩|⟨b2,c⟩
  ·refine aL b2 rfl (aY (aA (aN (cP (aI (aO a8 (aC (cS rfl e) (aC (cC (k':=k+3) cK rfl e rfl) (aC (bJ (t:=3) fS a6 e rfl rfl) (aO b1 ?_))))))))))
   obtain ⟨b,d5,c⟩:=aB c
   refine aC (cT bY rfl h9 rfl rfl rfl d5) ?_
   obtain ⟨j4,g4,g5⟩:=cL.el (sz:=3) rfl h9 d5
   cases g5
   refine aC (gG (t:=0) (vs:=[i64 b.F,i64 b.B,i64 b.To]) iJ a6 g4 rfl rfl rfl) (bW (vs:=[i64 0,i64 0,i64 0]) Tryz.zeroValue63 a6 rfl (fun g6 j5 g7=>(cD (i:=0) (ns:=[i64 b.F,i64 b.B,i64 b.To]) (us:=[i64 b.F,i64 b.B,i64 b.To]) Tryz.sizeOf63 g7 rfl rfl rfl rfl rfl (dK rfl) rfl rfl (fun g8 (g9:aK G K (box g6 63 [i64 b.F,i64 b.B,i64 b.To]::aV 63 K z J l::box j 29 n::L) g8)=>(aG ?_)))))
   obtain ⟨b3,V,b4,d6,h0⟩:=aK.lendB (i:=0) g9 rfl
   refine iB (C:=fun w'=>∃ L',aK G b3 L' w') [(0,0),(1,0),(2,0),(3,0),(4,0),(5,0),(6,0),(7,0),(8,0),(9,0),(10,0),(11,0),(12,0),(13,0),(14,1),(15,1),(16,0)] bU (by kernel_rfl) (fun _ hg=>⟨_,aK.mono d6 hg⟩) (fun j6 h1=>?_)
   have g:=aK.mono d6 h1
   refine bX rfl (fun _ _=>bD d4) (bX rfl (fun _ _=>bD a9) (bX rfl (fun _ _=>bG (t':=0) fJ rfl rfl) (bX rfl (fun _ ⟨_,g⟩=>bJ (t:=0) cE g b4 rfl rfl) ?_)))
   obtain ⟨Z,d7,c⟩:=aB c
   refine bX rfl (fun _ _=>cT cG rfl (m.mono V) rfl rfl rfl d7) ?_
   obtain ⟨j7,h2,h4⟩:=cL.el (sz:=1) rfl m d7
   cases h4
   refine bX rfl (fun _ ⟨_,g⟩=>bJ (t:=0) cE g (h2.mono V) rfl rfl) (bX rfl (fun _ _=>bG (t':=1) gB rfl rfl) (bX rfl (fun _ ⟨_,g⟩=>bJ (t:=1) cE g b4 rfl rfl) (bX rfl (fun _ _=>bD a9) (bX rfl (fun _ _=>bG (t':=2) eM rfl rfl) (bX rfl (fun _ ⟨_,g⟩=>bJ (t:=2) cE g b4 rfl rfl) ?_)))))
   obtain ⟨a0,d8,c⟩:=aB c
   refine bX rfl (fun _ _=>cT cG rfl (m.mono V) rfl rfl rfl d8) ?_
   obtain ⟨j8,h5,h7⟩:=cL.el (sz:=1) rfl m d8
   cases h7
   refine bX rfl (fun _ ⟨_,g⟩=>bJ (t:=0) cE g (h5.mono V) rfl rfl) (bX rfl (fun _ _=>kA (vs:=[(0,i64 Z),(1,i64 b.B),(2,i64 a0)]) (cs:=[i64 Z,i64 b.B,i64 a0]) bs_63 rfl (by kernel_rfl)) (nD rfl (dJ (Kt:=K) (xs:=([⟨Z,b.B,a0⟩]:List Edge)) (cs:=[i64 Z,i64 b.B,i64 a0]) (vs:=[(0,zA #[i64 Z,i64 b.B,i64 a0])]) bY lD rfl rfl g rfl (by kernel_rfl) rfl rfl rfl ⟨rfl,trivial⟩ (fun h8 i0 (d9:aK G b3 (aV 63 K h8 1 ([⟨Z,b.B,a0⟩]:List Edge)::aV 63 K z J l::box j 29 n::L) i0)=>(bK (aA ⟨⟨_,d9⟩,?_⟩))))))
   refine nD rfl ?_
   obtain ⟨b5,i1,c⟩:=aB c
   refine iA (i:=0) bY Tryz.underlying27 lD rfl rfl d9 rfl V V i1 rfl rfl rfl rfl (fun _ h=>h) (fun b6 b7 i2 (e0:aK G b3 (aV 63 K b6 b7 b5::box j 29 n::L) i2)=>(bK (aA ⟨⟨_,e0⟩,?_⟩)))
   refine bX rfl (fun _ _=>gF (v:=zS b6 b5.length b7) rfl) (mP ?_)
   have i3:=h0 _ _ e0
   exact bE (aA (aP (aO b1 (aC (cM rfl rfl) (aF (v:=i64 (wr (a5+1))) (aG ⟨(b5,wr (a5+1)),(zI c).symm,b6,b7,a8,a9,d3,rfl,rfl,(aK.arr 1 [] i3 rfl)⟩))))))
  ·refine aJ b2 rfl (bZ (aW (aW ?_)))
   have i4:=g3 _ (zI c).symm
   subst i4
   have d:(nL t p l)=some R:=d
   exact bO (aA ⟨l,z,J,d,a8,a9,d3,d4,a6⟩)
theorem aFe {a b:(List bH)} {R:Bool} (m:aK G K (L) w) (n:cL K a1 c2 a) (o:cL K a4 c5 b) (c:aCZ a b=some R):
  Calls Tryz.prog 213 ([zS a1 a.length c2,zS a4 b.length c5]:List Value).toArray w (gO fun v w'=>v=zB R∧aK G K (L) w'):=by
 refine aS Tryz.func213 rfl (by kernel_rfl) (by show (2:Nat)≤26;decide) ?_
 unfold aCZ at c
 refine aI (aF (v:=zB false) (aG (aN (aI (aM (v:=zS a1 a.length c2) (aC (bT (len:=a.length) cO rfl) (aM (v:=zS a4 b.length c5) (aC (bT (len:=b.length) cO rfl) (aC (oC rfl rfl) (aG ?_))))))))))
 rcases aH c with ⟨i,c⟩|⟨i,c⟩
 ·refine aL i rfl (aI (aF (v:=zB false) (aG ?_)))
  obtain rfl:=zI c
  exact bF (aR (bB Tryz.results213 rfl ⟨rfl,m⟩))
 ·refine aJ i rfl (aY (aA (aN (aI (aF (v:=i64 0) (aG (bC (fun f w=>wJ=some R∧aK G K (L) w) ?_ ?_)))))))
  ·rintro f w9 ⟨c,z⟩
   unfold wJ at c
   refine aA (aI (aF (v:=zB true) (aG ?_)))
   obtain rfl:=zI c
   exact bF (bB Tryz.results213 rfl ⟨rfl,z⟩)
  obtain ⟨b0,V,c⟩:=aB c
  refine cA V (fun (g:Int) f w=>f 0=zS a1 a.length c2∧f 1=zS a4 b.length c5∧f 5=i64 g∧aK G K (L) w) ?_ ?_
  ·exact ⟨rfl,rfl,rfl,m⟩
  ·rintro g Z f b1 d p ⟨j,q,h,e⟩
   replace d:aAJ a b g=some Z:=d
   unfold aAJ at d
   refine aN (aI (aO h (aO j (aC (bT (len:=a.length) cO rfl) (aC (cJ rfl rfl) (aG ?_))))))
   rcases aH d with ⟨k,d⟩|⟨k,d⟩
   ·refine aL k rfl (aY (aA (aN (cP (aN (eK (C:=fun w'=>aK G K (L) w') bU (by kernel_rfl) (aK.mono e (dQ.drew _)) (aX (fun _ e=>bD j) (aX (fun _ e=>bD h) ?_))))))))
    obtain ⟨b2,r,d⟩:=aB d
    refine aX (fun _ e=>cT cO rfl n rfl rfl rfl r) ?_
    obtain ⟨b3,a0,a2⟩:=cL.el (sz:=1) rfl n r
    cases a2
    refine aX (fun _ e=>bJ (t:=0) pU e a0 rfl rfl) (aX (fun _ e=>bD q) (aX (fun _ e=>bD h) ?_))
    obtain ⟨b4,u,d⟩:=aB d
    refine aX (fun _ e=>cT cO rfl o rfl rfl rfl u) ?_
    obtain ⟨b5,a3,a5⟩:=cL.el (sz:=1) rfl o u
    cases a5
    refine aX (fun _ e=>bJ (t:=0) pU e a3 rfl rfl) (aX (fun _ e=>aAG rfl rfl) (eG (fun b6 x=>(aA ?_))))
    rcases aH d with ⟨l,d⟩|⟨l,d⟩
    ·refine aL l rfl (aI (aF (v:=zB false) (aG (bF (bQ (aR (aR ?_)))))))
     have a6:=p _ (zI d).symm
     subst a6
     have c:(some false)=some R:=c
     obtain rfl:=zI c
     exact bQ (aR (aR (bB Tryz.results213 rfl ⟨rfl,x⟩)))
    ·exact aJ l rfl (aY (bE (aA (aP (aO h (aC (cM rfl rfl) (aF (v:=i64 (wr (g+1))) (aG ⟨wr (g+1),(zI d).symm,j,q,rfl,x⟩))))))))
   ·refine aJ k rfl (bZ (aW (aW ?_)))
    have a8:=p _ (zI d).symm
    subst a8
    have c:(wJ)=some R:=c
    exact bO (aA ⟨c,e⟩)
theorem aFU {t:cH} {j:Nat} {k m:Int} {R:(List Int)} (hs:aK G K (L) w) (c:fV K a1 j (zC t a4 c5 a7 c8)) (h6:cL K a4 c5 t.L) (q:cL K a7 c8 t.E) (l:aEl t k m=some R):
  Calls Tryz.prog 196 ([bV a1 j,i64 k,i64 m]:List Value).toArray w (gO fun v w'=>∃ (c1:Option Addr) (c2:Nat),v=zS c1 R.length c2∧aK G K (aV 2 K c1 c2 R::L) w'):=by
 refine aS Tryz.func196 rfl (by kernel_rfl) (by show (3:Nat)≤53;decide) ?_
 unfold aEl at l
 refine aI (aF (v:=zS none 0 0) (aG (aI (dJ (Kt:=K) (xs:=([]:List Int)) (cs:=[]) (vs:=[]) cG qE rfl rfl hs rfl (by kernel_rfl) rfl rfl rfl trivial (fun a5 d2 (d3:aK G K (aV 2 K a5 0 ([]:List Int)::L) d2)=>(aF (v:=zS a5 ([]:List Int).length 0) (aG (aN (aI (aF (v:=i64 0) (aG (bC (fun f w=>∃ (r:List Int) (u:Option Addr) (x:Nat),yM r=some R∧f 7=zS u r.length x∧aK G K (aV 2 K u x r::L) w) ?_ ?_))))))))))))
 ·rintro f f5 ⟨r,u,x,l,d4,d5⟩
  unfold yM at l
  refine aA (aI (aO d4 (aF (v:=zS u r.length x) (aG ?_))))
  obtain rfl:=zI l
  exact bF (bB Tryz.results196 rfl ⟨u,x,rfl,d5⟩)
 obtain ⟨f6,d7,l⟩:=aB l
 refine cA d7 (fun (s:(List Int × Int)) f w=>match s with|(e,d)=>∃ (n:Option Addr) (o:Nat),f 0=bV a1 j∧f 1=i64 k∧f 2=i64 m∧f 7=zS n e.length o∧f 8=i64 d∧aK G K (aV 2 K n o e::L) w) ?_ ?_
 ·exact ⟨a5,0,rfl,rfl,rfl,rfl,rfl,d3⟩
 ·rintro ⟨e,d⟩ a6 f f7 a d8 ⟨n,o,y,a8,a9,b0,z,p⟩
  replace a:aBx t k m e d=some a6:=a
  unfold aBx at a
  refine aN (aI (aO z (aO y (aC (cS rfl c) (aC (cC (k':=j+3) cK rfl c rfl) (aC (bJ (t:=3) fS p c rfl rfl) (aC (bT (len:=t.E.length) bY rfl) (aC (cJ rfl rfl) (aG ?_)))))))))
  rcases aH a with ⟨b1,a⟩|⟨b1,a⟩
  ·refine aL b1 rfl (aY (aA (aN (bC (fun f w=>∃ (J:List Int) (V:Option Addr) (Z:Nat),yN d J=some a6∧f 0=bV a1 j∧f 1=i64 k∧f 2=i64 m∧f 7=zS V J.length Z∧f 8=i64 d∧aK G K (aV 2 K V Z J::L) w) ?_ ?_))))
   ·rintro f f8 ⟨J,V,Z,a,d9,e0,e1,e2,e3,e4⟩
    unfold yN at a
    exact aA (aP (aO e3 (aC (cM rfl rfl) (aF (v:=i64 (wr (d+1))) (aG ⟨(J,wr (d+1)),(zI a).symm,V,Z,d9,e0,e1,e2,rfl,e4⟩)))))
   refine aN (cN (fun f w=>∃ (b2:Bool),yO t e d b2=some a6∧f 0=bV a1 j∧f 1=i64 k∧f 2=i64 m∧f 7=zS n e.length o∧f 8=i64 d∧f 40=zB b2∧aK G K (aV 2 K n o e::L) w) ?_ ?_)
   ·rintro f f9 ⟨b2,a,b3,c3,c4,c6,b4,c7,a0⟩
    unfold yO at a
    refine aA ?_
    rcases aH a with ⟨b5,a⟩|⟨b5,a⟩
    ·refine aL b5 c7 (aP (aO c6 (aO b3 (aC (cS rfl c) (aC (cC (k':=j+3) cK rfl c rfl) (aC (bJ (t:=3) fS a0 c rfl rfl) (aO b4 ?_)))))))
     obtain ⟨a2,c9,a⟩:=aB a
     refine aC (cT bY rfl q rfl rfl rfl c9) ?_
     obtain ⟨g0,d0,e5⟩:=cL.el (sz:=3) rfl q c9
     cases e5
     refine aC (cC (k':=d.toNat * 3+2) eM rfl d0 rfl) (aC (bJ (t:=2) cE a0 d0 rfl rfl) (dJ (Kt:=K) (xs:=([a2.To]:List Int)) (cs:=[i64 a2.To]) (vs:=[(0,i64 a2.To)]) cG qE rfl rfl a0 rfl (by kernel_rfl) rfl rfl rfl ⟨rfl,trivial⟩ (fun e6 e7 (e8:aK G K (aV 2 K e6 1 ([a2.To]:List Int)::aV 2 K n o e::L) e7)=>?_)))
     obtain ⟨b6,e9,a⟩:=aB a
     exact iA (i:=0) cG Tryz.underlying38 qE rfl rfl e8 rfl (zR _) (zR _) e9 rfl rfl rfl rfl (fun _ h=>h) (fun b7 b8 f0 (f1:aK G K (aV 2 K b7 b8 b6::L) f0)=>(aF (v:=zS b7 b6.length b8) (bK (bE (aA ⟨b6,b7,b8,a,b3,c3,c4,rfl,b4,f1⟩)))))
    ·exact aJ b5 c7 (aY (bE (aA ⟨e,n,o,a,b3,c3,c4,c6,b4,a0⟩)))
   refine aP (aO y (aC (cS rfl c) (aC (cC (k':=j+3) cK rfl c rfl) (aC (bJ (t:=3) fS p c rfl rfl) (aO z ?_)))))
   obtain ⟨b9,c0,a⟩:=aB a
   refine aC (cT bY rfl q rfl rfl rfl c0) ?_
   obtain ⟨g1,a3,f2⟩:=cL.el (sz:=3) rfl q c0
   cases f2
   refine aC (cC (k':=d.toNat * 3+0) fJ rfl a3 rfl) (aC (bJ (t:=0) cE p a3 rfl rfl) (aO a8 (aC (lC rfl rfl) (aM (v:=zB (b9.F == k)) ?_))))
   rcases aH a with ⟨b,a⟩|⟨b,a⟩
   ·exact bA b rfl rfl (aO y (bA b rfl rfl (aC (cS rfl c) (bA b rfl rfl (aC (cC (k':=j+3) cK rfl c rfl) (bA b rfl rfl (aC (bJ (t:=3) fS p c rfl rfl) (bA b rfl rfl (aO z (bA b rfl rfl (aC (cT bY rfl q rfl rfl rfl c0) (bA b rfl rfl (aC (cC (k':=d.toNat * 3+1) gB rfl a3 rfl) (bA b rfl rfl (aC (bJ (t:=1) cE p a3 rfl rfl) (bA b rfl rfl (aO a9 (bA b rfl rfl (aC (lC rfl rfl) (aC (bI (v:=zB (b9.B == m)) b rfl rfl) (aG ⟨b9.B == m,a,y,a8,a9,b0,z,rfl,p⟩)))))))))))))))))))))
   ·exact aQ b rfl rfl (aQ b rfl rfl (aQ b rfl rfl (aQ b rfl rfl (aQ b rfl rfl (aQ b rfl rfl (aQ b rfl rfl (aQ b rfl rfl (aQ b rfl rfl (aQ b rfl rfl (aC (bL (v:=zB false) b rfl rfl) (aG ⟨false,a,y,a8,a9,b0,z,rfl,p⟩)))))))))))
  ·refine aJ b1 rfl (bZ (aW (aW ?_)))
   have f3:=d8 _ (zI a).symm
   subst f3
   have l:(yM e)=some R:=l
   exact bO (aA ⟨e,n,o,l,b0,p⟩)
end Gv
