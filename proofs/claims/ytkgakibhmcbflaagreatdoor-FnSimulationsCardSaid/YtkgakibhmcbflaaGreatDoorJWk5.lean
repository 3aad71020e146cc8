/- Walks, printed by program. -/
import Derived.Test.YtkgakibhmcbflaaGreatDoorJWk1
import Derived.Test.YtkgakibhmcbflaaGreatDoorJWk4
set_option linter.all false
namespace Gv
open Go.Value renaming slice→zS,bool→zB,pointer→zP,agg→zA
open Option.some renaming inj→zI
open Gv.Hp renaming le_trans→zL,le_refl→zR
open Go Go.Proofs
set_option maxRecDepth 20000
set_option maxHeartbeats 40000000
variable {G:Env} {K:Hp} {L:List nG} {w:World} {a1 a4 a7 a10 a13 a16 a21 a19 a24:Option Addr} {c2 c5 c8 c11 c14 c17:Nat}
theorem oA {t:cD} {R:Bool} (hs:aI G K (L) w) (hG:G.lo=0) (h3:bX K a1 c2 t.L) (h6:bX K a4 c5 t.E) (b:oS t=some R):
  Calls Tryz.prog 27 ([zA (zCa t a1 c2 a4 c5)]:List Value).toArray w (gQ fun v w'=>v=zB R∧aI G K (L) w'):=by
 let y:=(zC t a1 c2 a4 c5)
 refine aS Tryz.func27 rfl (by kernel_rfl) (by show (1:Nat)≤109;decide) ?_
 unfold oS at b
 refine aK (eA (v:=zA (zCa t a1 c2 a4 c5)) (vs:=y) hs rfl rfl (fun l w8 d3=>(aF (v:=zB false) (aG (aO (aO (dO (fun f w=>∃ (b5:Bool),oR t b5=some R∧f 1=zP (some ⟨l,0,none⟩)∧f 30=zB b5∧aI G K (box l 27 y::L) w) ?_ ?_)))))))
 ·rintro f k3 ⟨b5,b,d4,d5,b6⟩
  unfold oR at b
  refine aA ?_
  rcases aH b with ⟨b8,b⟩|⟨b8,b⟩
  ·refine aM b8 d5 (aK (aF (v:=zB false) (aG ?_)))
   obtain rfl:=zI b
   exact bK (aX (bE Tryz.results27 rfl ⟨rfl,(aI.arr 1 [] b6 rfl)⟩))
  ·refine aJ b8 d5 (aY (aA (aO (aK (aD (bL (t':=2) gV d4 rfl) (aD (dG oC b6 (i:=0) rfl rfl rfl) (aD (bT (len:=t.L.length) dM rfl) (aL (v:=i64 0) (aG (aZ (fun f w=>uZ t=some R∧f 1=zP (some ⟨l,0,none⟩)∧aI G K (box l 27 y::L) w) ?_ ?_))))))))))
   ·rintro f k4 ⟨b,d6,d7⟩
    unfold uZ at b
    refine aA (aO (aK (aD (bL (t':=3) dY d6 rfl) (aD (dG jR d7 (i:=0) rfl rfl rfl) (aD (bT (len:=t.E.length) cN rfl) (aL (v:=i64 0) (aG (aZ (fun f w=>zN=some R∧aI G K (L) w) ?_ ?_))))))))
    ·rintro f k5 ⟨b,f7⟩
     unfold zN at b
     refine aA (aK (aF (v:=zB true) (aG ?_)))
     obtain rfl:=zI b
     exact bK (bE Tryz.results27 rfl ⟨rfl,f7⟩)
    obtain ⟨k6,f9,b⟩:=aC b
    refine cC f9 (fun (z:Int) f w=>f 1=zP (some ⟨l,0,none⟩)∧f 65=zS a4 t.E.length c5∧f 66=i64 (t.E.length:Int)∧f 67=i64 z∧aI G K (box l 27 y::L) w) ?_ ?_
    ·exact ⟨d6,rfl,rfl,rfl,d7⟩
    ·rintro z d8 f k7 c d9 ⟨V,a5,a6,Z,b9⟩
     replace c:rV t z=some d8:=c
     unfold rV at c
     refine aK (aD (cT Z a6) (aG (aO ?_)))
     rcases aH c with ⟨c0,c⟩|⟨c0,c⟩
     ·refine aM c0 rfl (aY (aA (aO (cI (aK (aN Z ?_))))))
      obtain ⟨e,e0,c⟩:=aC c
      refine aD (cU cN rfl h6 a5 rfl Z e0) ?_
      obtain ⟨k8,g0,g1⟩:=bX.el (sz:=3) rfl h6 e0
      cases g1
      refine aD (iD (t:=0) (vs:=[i64 e.F,i64 e.B,i64 e.To]) kW b9 g0 rfl rfl rfl) (cQ (vs:=[i64 0,i64 0,i64 0]) Tryz.zeroValue51 b9 rfl (fun e1 k9 g2=>(aF (v:=i64 z) (cZ (i:=0) (ns:=[i64 e.F,i64 e.B,i64 e.To]) (us:=[i64 e.F,i64 e.B,i64 e.To]) Tryz.sizeOf51 g2 rfl rfl rfl rfl rfl (fO rfl) rfl rfl (fun g3 (a:aI G K (box e1 51 [i64 e.F,i64 e.B,i64 e.To]::box l 27 y::L) g3)=>(aG (aO (dO (fun f w=>∃ (c1:Bool),mD z c1=some d8∧f 1=zP (some ⟨l,0,none⟩)∧f 65=zS a4 t.E.length c5∧f 66=i64 (t.E.length:Int)∧f 67=i64 z∧f 107=zB c1∧aI G K (box l 27 y::L) w) ?_ ?_))))))))
      ·rintro f l0 ⟨c1,c,g4,g5,g6,g7,e2,e3⟩
       unfold mD at c
       refine aA ?_
       rcases aH c with ⟨c3,c⟩|⟨c3,c⟩
       ·refine aM c3 e2 (aK (aF (v:=zB false) (aG (bK (bS (aX (aX ?_)))))))
        have g8:=d9 _ (zI c).symm
        subst g8
        have b:(some false)=some R:=b
        obtain rfl:=zI b
        exact bS (aX (aX (bE Tryz.results27 rfl ⟨rfl,(aI.arr 1 [] e3 rfl)⟩)))
       ·exact aJ c3 e2 (aY (bA (aA (aP (aD (cK g7 rfl) (aL (v:=i64 (wr (z+1))) (aG ⟨wr (z+1),(zI c).symm,g4,g5,g6,rfl,e3⟩)))))))
      refine eL (C:=fun w'=>aI G K (box e1 51 [i64 e.F,i64 e.B,i64 e.To]::box l 27 y::L) w') bP (by kernel_rfl) (aI.mono a (dN.drew _)) (bC (fun _ a=>cS (us:=y) dB a (i:=1) rfl V rfl rfl) (bC (fun _ a=>bL (t':=0) iY rfl rfl) (bC (fun _ a=>dG bY a (i:=0) rfl rfl rfl) ?_)))
      obtain ⟨e4,h0,c⟩:=aC c
      refine yW (vs:=[zA (zCa t a1 c2 a4 c5),i64 e.F]) (v:=zB e4) Tryz.call59 rfl (fun _ a=>(nD a h3 h6 h0)) (bC (fun _ a=>eR rfl) (bC (fun _ a=>aW (v:=zB (!e4)) rfl) ?_))
      rcases aH c with ⟨n,c⟩|⟨n,c⟩
      ·refine bQ (g:=77) rfl rfl (eZ n) (bQ (g:=77) rfl rfl (eZ n) (bQ (g:=77) rfl rfl (eZ n) (bQ (g:=77) rfl rfl (eZ n) (bQ (g:=77) rfl rfl (eZ n) (bC (fun _ a=>bF (v:=zB true) n rfl rfl) (bC (fun _ a=>aW (v:=zB true) rfl) (bQ (g:=84) rfl rfl (eZ (rfl:true=true)) (bQ (g:=84) rfl rfl (eZ (rfl:true=true)) (bQ (g:=84) rfl rfl (eZ (rfl:true=true)) (bQ (g:=84) rfl rfl (eZ (rfl:true=true)) (bQ (g:=84) rfl rfl (eZ (rfl:true=true)) (bQ (g:=84) rfl rfl (eZ (rfl:true=true)) (bQ (g:=84) rfl rfl (eZ (rfl:true=true)) (bC (fun _ a=>bF (v:=zB true) (rfl:true=true) rfl rfl) (bC (fun _ a=>aW (v:=zB true) rfl) (bQ (g:=93) rfl rfl (eZ (rfl:true=true)) (bQ (g:=93) rfl rfl (eZ (rfl:true=true)) (bQ (g:=93) rfl rfl (eZ (rfl:true=true)) (cY (g:=96) rfl rfl (cY (g:=96) rfl rfl (cY (g:=96) rfl rfl (cY (g:=96) rfl rfl (cY (g:=96) rfl rfl ?_)))))))))))))))))))))))
       exact cY (g:=96) rfl rfl (cY (g:=96) rfl rfl (cY (g:=96) rfl rfl (cY (g:=96) rfl rfl (bQ (g:=93) rfl rfl (eZ (rfl:true=true)) (bC (fun _ a=>bF (v:=zB true) (rfl:true=true) rfl rfl) (fT (fun l1 h1=>(aA ⟨true,c,V,a5,a6,Z,rfl,(aI.arr 1 [] h1 rfl)⟩))))))))
      ·refine dA (g:=77) rfl rfl (gF n) (bC (fun _ a=>cS (us:=y) dB a (i:=1) rfl V rfl rfl) (dA (g:=77) rfl rfl (gF n) (bC (fun _ a=>bL (t':=2) iC rfl rfl) (dA (g:=77) rfl rfl (gF n) (bC (fun _ a=>dG bY a (i:=0) rfl rfl rfl) (dA (g:=77) rfl rfl (gF n) ?_))))))
       obtain ⟨c4,h2,c⟩:=aC c
       refine yW (vs:=[zA (zCa t a1 c2 a4 c5),i64 e.To]) (v:=zB c4) Tryz.call59 rfl (fun _ a=>(nD a h3 h6 h2)) (dA (g:=77) rfl rfl (gF n) (bC (fun _ a=>eR rfl) (bC (fun _ a=>bH (v:=zB (!c4)) n rfl rfl) (bC (fun _ a=>aW (v:=zB (!c4)) rfl) ?_))))
       rcases aH c with ⟨k,c⟩|⟨k,c⟩
       ·refine bQ (g:=84) rfl rfl (eZ k) (bQ (g:=84) rfl rfl (eZ k) (bQ (g:=84) rfl rfl (eZ k) (bQ (g:=84) rfl rfl (eZ k) (bQ (g:=84) rfl rfl (eZ k) (bQ (g:=84) rfl rfl (eZ k) (bQ (g:=84) rfl rfl (eZ k) (bC (fun _ a=>bF (v:=zB true) k rfl rfl) (bC (fun _ a=>aW (v:=zB true) rfl) (bQ (g:=93) rfl rfl (eZ (rfl:true=true)) (bQ (g:=93) rfl rfl (eZ (rfl:true=true)) (bQ (g:=93) rfl rfl (eZ (rfl:true=true)) (cY (g:=96) rfl rfl (cY (g:=96) rfl rfl (cY (g:=96) rfl rfl (cY (g:=96) rfl rfl (cY (g:=96) rfl rfl (cY (g:=96) rfl rfl (cY (g:=96) rfl rfl (cY (g:=96) rfl rfl (cY (g:=96) rfl rfl (bQ (g:=93) rfl rfl (eZ (rfl:true=true)) (bC (fun _ a=>bF (v:=zB true) (rfl:true=true) rfl rfl) (fT ?_)))))))))))))))))))))))
        intro l2 h4
        exact aA ⟨true,c,V,a5,a6,Z,rfl,(aI.arr 1 [] h4 rfl)⟩
       ·refine dA (g:=84) rfl rfl (gF k) (bC (fun _ a=>bL (t':=1) iZ rfl rfl) (dA (g:=84) rfl rfl (gF k) (bC (fun _ a=>dG bY a (i:=0) rfl rfl rfl) (dA (g:=84) rfl rfl (gF k) (bC (fun _ a=>bL (t':=2) gV V rfl) (dA (g:=84) rfl rfl (gF k) (bC (fun _ a=>dG oC a (i:=1) rfl rfl rfl) (dA (g:=84) rfl rfl (gF k) (bC (fun _ a=>bT (len:=t.L.length) dM rfl) (dA (g:=84) rfl rfl (gF k) ?_))))))))))
        obtain ⟨c6,h5,c⟩:=aC c
        refine yW (vs:=[i64 e.B,i64 (t.L.length:Int)]) (v:=zB c6) Tryz.call61 rfl (fun _ a=>(aJF a h5)) (dA (g:=84) rfl rfl (gF k) (bC (fun _ a=>eR rfl) (bC (fun _ a=>bH (v:=zB (!c6)) k rfl rfl) (bC (fun _ a=>aW (v:=zB (!c6)) rfl) ?_))))
        rcases aH c with ⟨o,c⟩|⟨o,c⟩
        ·exact bQ (g:=93) rfl rfl (eZ o) (bQ (g:=93) rfl rfl (eZ o) (bQ (g:=93) rfl rfl (eZ o) (cY (g:=96) rfl rfl (cY (g:=96) rfl rfl (cY (g:=96) rfl rfl (cY (g:=96) rfl rfl (cY (g:=96) rfl rfl (cY (g:=96) rfl rfl (cY (g:=96) rfl rfl (cY (g:=96) rfl rfl (cY (g:=96) rfl rfl (bQ (g:=93) rfl rfl (eZ o) (bC (fun _ a=>bF (v:=zB true) o rfl rfl) (fT (fun l3 h7=>(aA ⟨true,c,V,a5,a6,Z,rfl,(aI.arr 1 [] h7 rfl)⟩))))))))))))))))
        ·refine dA (g:=93) rfl rfl (gF o) (bC (fun _ a=>aW (v:=i64 z) rfl) (dA (g:=93) rfl rfl (gF o) (bC (fun _ a=>sL rfl rfl) (dA (g:=93) rfl rfl (gF o) (bC (fun _ a=>aW (v:=zB (decide (0 < z))) rfl) ?_)))))
         rcases aH c with ⟨h,c⟩|⟨h,c⟩
         ·refine dA (g:=96) rfl rfl h (bC (fun _ a=>bL (t':=3) dY V rfl) (dA (g:=96) rfl rfl h (bC (fun _ a=>dG jR a (i:=1) rfl rfl rfl) (dA (g:=96) rfl rfl h (bC (fun _ a=>aW (v:=i64 z) rfl) (dA (g:=96) rfl rfl h (bC (fun _ a=>nI rfl rfl) (dA (g:=96) rfl rfl h ?_))))))))
          obtain ⟨a7,e5,c⟩:=aC c
          refine bC (fun _ a=>cU cN rfl h6 rfl rfl rfl e5) ?_
          obtain ⟨l4,h8,h9⟩:=bX.el (sz:=3) rfl h6 e5
          cases h9
          refine dA (g:=96) rfl rfl h (bC (fun _ a=>iD (t:=0) (vs:=[i64 a7.F,i64 a7.B,i64 a7.To]) kW a h8 rfl rfl rfl) (dA (g:=96) rfl rfl h (bC (fun _ a=>cS (us:=[i64 e.F,i64 e.B,i64 e.To]) kW a (i:=0) rfl rfl rfl rfl) (dA (g:=96) rfl rfl h ?_))))
          obtain ⟨b3,i0,c⟩:=aC c
          exact yW (vs:=[zA #[i64 a7.F,i64 a7.B,i64 a7.To],zA #[i64 e.F,i64 e.B,i64 e.To]]) (v:=i64 b3) Tryz.call62 rfl (fun _ a=>(aAz a i0)) (dA (g:=96) rfl rfl h (bC (fun _ a=>uJ rfl rfl) (dA (g:=93) rfl rfl (gF o) (bC (fun _ a=>bF (v:=zB (decide (0≤b3))) h rfl rfl) (bC (fun _ a=>bH (v:=zB (decide (0≤b3))) o rfl rfl) (fT (fun l5 i1=>(aA ⟨decide (0≤b3),c,V,a5,a6,Z,rfl,(aI.arr 1 [] i1 rfl)⟩))))))))
         ·exact bQ (g:=96) rfl rfl (dC h) (bQ (g:=96) rfl rfl (dC h) (bQ (g:=96) rfl rfl (dC h) (bQ (g:=96) rfl rfl (dC h) (bQ (g:=96) rfl rfl (dC h) (bQ (g:=96) rfl rfl (dC h) (bQ (g:=96) rfl rfl (dC h) (bQ (g:=96) rfl rfl (dC h) (bQ (g:=96) rfl rfl (dC h) (dA (g:=93) rfl rfl (gF o) (bC (fun _ a=>bH (v:=zB false) h rfl rfl) (bC (fun _ a=>bH (v:=zB false) o rfl rfl) (fT (fun l6 i2=>(aA ⟨false,c,V,a5,a6,Z,rfl,(aI.arr 1 [] i2 rfl)⟩))))))))))))))
     ·refine aJ c0 rfl (cA (aV (aV ?_)))
      have i3:=d9 _ (zI c).symm
      subst i3
      have b:(zN)=some R:=b
      exact bN (aA ⟨b,(aI.arr 1 [] b9 rfl)⟩)
   obtain ⟨l7,i4,b⟩:=aC b
   refine cC i4 (fun (m:Int) f w=>f 1=zP (some ⟨l,0,none⟩)∧f 32=zS a1 t.L.length c2∧f 33=i64 (t.L.length:Int)∧f 34=i64 m∧aI G K (box l 27 y::L) w) ?_ ?_
   ·exact ⟨d4,rfl,rfl,rfl,b6⟩
   ·rintro m e6 f l8 d e7 ⟨a8,b1,b2,a3,c7⟩
    replace d:rW t m=some e6:=d
    unfold rW at d
    refine aK (aD (cT a3 b2) (aG (aO ?_)))
    rcases aH d with ⟨c8,d⟩|⟨c8,d⟩
    ·refine aM c8 rfl (aY (aA (aO (cI (aK (aN a3 ?_))))))
     obtain ⟨p,e8,d⟩:=aC d
     refine aD (cU dM rfl h3 b1 rfl a3 e8) ?_
     obtain ⟨l9,i5,i6⟩:=bX.el (sz:=1) rfl h3 e8
     cases i6
     refine aD (bG (t:=0) yF c7 i5 rfl rfl) (aF (v:=i64 m) (aF (v:=str p) (aG (aO (dO (fun f w=>∃ (c9:Bool),oQ m c9=some e6∧f 1=zP (some ⟨l,0,none⟩)∧f 32=zS a1 t.L.length c2∧f 33=i64 (t.L.length:Int)∧f 34=i64 m∧f 62=zB c9∧aI G K (box l 27 y::L) w) ?_ ?_)))))
     ·rintro f m0 ⟨c9,d,i7,i8,i9,j0,e9,f0⟩
      unfold oQ at d
      refine aA ?_
      rcases aH d with ⟨d0,d⟩|⟨d0,d⟩
      ·refine aM d0 e9 (aK (aF (v:=zB false) (aG (bK (bS (aX (aX ?_)))))))
       have j1:=e7 _ (zI d).symm
       subst j1
       have b:(some false)=some R:=b
       obtain rfl:=zI b
       exact bS (aX (aX (bE Tryz.results27 rfl ⟨rfl,(aI.arr 1 [] f0 rfl)⟩)))
      ·exact aJ d0 e9 (aY (bA (aA (aP (aD (cK j0 rfl) (aL (v:=i64 (wr (m+1))) (aG ⟨wr (m+1),(zI d).symm,i7,i8,i9,rfl,f0⟩)))))))
     refine aP (aL (v:=str p) ?_)
     obtain ⟨j3,j4,d⟩:=aC d
     refine aQ (vs:=[str p]) Tryz.call60 rfl (aHm c7 hG j4) ?_
     rintro _ m1 ⟨rfl,a9⟩
     refine aD (eR rfl) (aL (v:=zB (!j3)) ?_)
     rcases aH d with ⟨q,d⟩|⟨q,d⟩
     ·exact aT q rfl rfl (aT q rfl rfl (aT q rfl rfl (aT q rfl rfl (aT q rfl rfl (aD (bF (v:=zB true) q rfl rfl) (aL (v:=zB true) (aT (rfl:true=true) rfl rfl (aT (rfl:true=true) rfl rfl (aT (rfl:true=true) rfl rfl (cE (g:=52) rfl rfl (cE (g:=52) rfl rfl (cE (g:=52) rfl rfl (cE (g:=52) rfl rfl (cE (g:=52) rfl rfl (cE (g:=52) rfl rfl (cE (g:=52) rfl rfl (cE (g:=52) rfl rfl (aT (rfl:true=true) rfl rfl (aD (bF (v:=zB true) (rfl:true=true) rfl rfl) (aG ⟨true,d,a8,b1,b2,a3,rfl,a9⟩))))))))))))))))))))
     ·refine bD q rfl rfl (aL (v:=str p) (bD q rfl rfl (aD (aBd rfl rfl) (bD q rfl rfl (aL (v:=i64 m) (bD q rfl rfl (aD (lA rfl rfl) (bD q rfl rfl (aD (R_neqB Tryz.runUnderlying4 rfl rfl) (aD (bH (v:=zB ((p == ([116,97,117]:bI)) != (m == 0))) q rfl rfl) (aL (v:=zB ((p == ([116,97,117]:bI)) != (m == 0))) ?_)))))))))))
      rcases aH d with ⟨r,d⟩|⟨r,d⟩
      ·exact aT r rfl rfl (aT r rfl rfl (aT r rfl rfl (cE (g:=52) rfl rfl (cE (g:=52) rfl rfl (cE (g:=52) rfl rfl (cE (g:=52) rfl rfl (cE (g:=52) rfl rfl (cE (g:=52) rfl rfl (cE (g:=52) rfl rfl (cE (g:=52) rfl rfl (aT r rfl rfl (aD (bF (v:=zB true) r rfl rfl) (aG ⟨true,d,a8,b1,b2,a3,rfl,a9⟩)))))))))))))
      ·refine bD r rfl rfl (aL (v:=i64 m) (bD r rfl rfl (aD (sL rfl rfl) (bD r rfl rfl (aL (v:=zB (decide (1 < m))) ?_)))))
       rcases aH d with ⟨j,d⟩|⟨j,d⟩
       ·refine bB j rfl rfl (aL (v:=str p) (bB j rfl rfl (aD (bL (t':=2) gV a8 rfl) (bB j rfl rfl (aD (dG oC a9 (i:=0) rfl rfl rfl) (bB j rfl rfl (aL (v:=i64 m) (bB j rfl rfl (aD (nI rfl rfl) (bB j rfl rfl ?_))))))))))
        obtain ⟨b0,f1,d⟩:=aC d
        refine aD (cU dM rfl h3 rfl rfl rfl f1) ?_
        obtain ⟨m2,j5,j6⟩:=bX.el (sz:=1) rfl h3 f1
        cases j6
        exact bB j rfl rfl (aD (bG (t:=0) yF a9 j5 rfl rfl) (bB j rfl rfl (aD (R_leqS rfl rfl) (bD r rfl rfl (aD (bF (v:=zB (zW p b0||p == b0)) j rfl rfl) (aD (bH (v:=zB (zW p b0||p == b0)) r rfl rfl) (aG ⟨(zW p b0||p == b0),d,a8,b1,b2,a3,rfl,a9⟩)))))))
       ·exact aU j rfl rfl (aU j rfl rfl (aU j rfl rfl (aU j rfl rfl (aU j rfl rfl (aU j rfl rfl (aU j rfl rfl (aU j rfl rfl (bD r rfl rfl (aD (bH (v:=zB false) j rfl rfl) (aD (bH (v:=zB false) r rfl rfl) (aG ⟨false,d,a8,b1,b2,a3,rfl,a9⟩)))))))))))
    ·refine aJ c8 rfl (cA (aV (aV ?_)))
     have j7:=e7 _ (zI d).symm
     subst j7
     have b:(uZ t)=some R:=b
     exact bN (aA ⟨b,a8,c7⟩)
 refine aP (aD (bL (t':=0) dP rfl rfl) (aD (dG bY d3 (i:=0) rfl rfl rfl) ?_))
 obtain ⟨j8,j9,b⟩:=aC b
 refine aQ (vs:=[i64 t.N,i64 1,i64 40]) Tryz.call58 rfl (rZ d3 j9) ?_
 rintro _ m3 ⟨rfl,b4⟩
 refine aD (eR rfl) (aL (v:=zB (!j8)) ?_)
 rcases aH b with ⟨u,b⟩|⟨u,b⟩
 ·exact aT u rfl rfl (aT u rfl rfl (aT u rfl rfl (aT u rfl rfl (aT u rfl rfl (aD (bF (v:=zB true) u rfl rfl) (aL (v:=zB true) (aT (rfl:true=true) rfl rfl (aT (rfl:true=true) rfl rfl (aT (rfl:true=true) rfl rfl (aT (rfl:true=true) rfl rfl (aT (rfl:true=true) rfl rfl (aD (bF (v:=zB true) (rfl:true=true) rfl rfl) (aL (v:=zB true) (aT (rfl:true=true) rfl rfl (aT (rfl:true=true) rfl rfl (aT (rfl:true=true) rfl rfl (aT (rfl:true=true) rfl rfl (aD (bF (v:=zB true) (rfl:true=true) rfl rfl) (aG ⟨true,b,rfl,rfl,b4⟩)))))))))))))))))))
 ·refine bD u rfl rfl (aD (cS (us:=y) dB b4 (i:=0) rfl rfl rfl rfl) (bD u rfl rfl (aD (bL (t':=1) oV rfl rfl) (bD u rfl rfl (aD (dG bY b4 (i:=0) rfl rfl rfl) (bD u rfl rfl ?_))))))
  obtain ⟨f2,k0,b⟩:=aC b
  refine aQ (vs:=[zA (zCa t a1 c2 a4 c5),i64 t.I]) Tryz.call59 rfl (nD b4 h3 h6 k0) ?_
  rintro _ m4 ⟨rfl,d1⟩
  refine bD u rfl rfl (aD (eR rfl) (aD (bH (v:=zB (!f2)) u rfl rfl) (aL (v:=zB (!f2)) ?_)))
  rcases aH b with ⟨x,b⟩|⟨x,b⟩
  ·exact aT x rfl rfl (aT x rfl rfl (aT x rfl rfl (aT x rfl rfl (aT x rfl rfl (aD (bF (v:=zB true) x rfl rfl) (aL (v:=zB true) (aT (rfl:true=true) rfl rfl (aT (rfl:true=true) rfl rfl (aT (rfl:true=true) rfl rfl (aT (rfl:true=true) rfl rfl (aD (bF (v:=zB true) (rfl:true=true) rfl rfl) (aG ⟨true,b,rfl,rfl,d1⟩))))))))))))
  ·refine bD x rfl rfl (aD (bL (t':=2) gV rfl rfl) (bD x rfl rfl (aD (dG oC d1 (i:=0) rfl rfl rfl) (bD x rfl rfl (aD (bT (len:=t.L.length) dM rfl) (bD x rfl rfl ?_))))))
   obtain ⟨f3,k1,b⟩:=aC b
   refine aQ (vs:=[i64 (t.L.length:Int),i64 1,i64 12]) Tryz.call58 rfl (rZ d1 k1) ?_
   rintro _ m5 ⟨rfl,d2⟩
   refine bD x rfl rfl (aD (eR rfl) (aD (bH (v:=zB (!f3)) x rfl rfl) (aL (v:=zB (!f3)) ?_)))
   rcases aH b with ⟨J,b⟩|⟨J,b⟩
   ·exact aT J rfl rfl (aT J rfl rfl (aT J rfl rfl (aT J rfl rfl (aD (bF (v:=zB true) J rfl rfl) (aG ⟨true,b,rfl,rfl,d2⟩)))))
   ·exact bD J rfl rfl (aD (bL (t':=3) dY rfl rfl) (bD J rfl rfl (aD (dG jR d2 (i:=0) rfl rfl rfl) (bD J rfl rfl (aD (bT (len:=t.E.length) cN rfl) (bD J rfl rfl (aD (sL rfl rfl) (aD (bH (v:=zB (decide (300 < (t.E.length:Int)))) J rfl rfl) (aG ⟨decide (300 < (t.E.length:Int)),b,rfl,rfl,d2⟩)))))))))
theorem aEg {kind:Int} {R:Bool} (b:aI G K (L) w) (a:aCj kind=some R):
  Calls Tryz.prog 28 ([i64 kind]:List Value).toArray w (gQ fun v w'=>v=zB R∧aI G K (L) w'):=by
 refine aS Tryz.func28 rfl (by kernel_rfl) (by show (1:Nat)≤5;decide) ?_
 unfold aCj at a
 refine aK (aF (v:=zB false) (aG (aK (aL (v:=i64 kind) ?_))))
 obtain ⟨c,d,a⟩:=aC a
 refine aQ (vs:=[i64 kind,i64 0,i64 2]) Tryz.call58 rfl (rZ b d) ?_
 rintro _ h ⟨rfl,e⟩
 refine aF (v:=zB c) (aG ?_)
 obtain rfl:=zI a
 exact bK (bE Tryz.results28 rfl ⟨rfl,e⟩)
theorem yG {a b:cD} {kind R:Int} (u:aI G K (L) w) (m:G.lo=0) (x:bX K a1 c2 a.L) (y:bX K a4 c5 a.E) (z:bX K a7 c8 b.L) (J:bX K a10 c11 b.E) (c:mP a b kind=some R):
  Calls Tryz.prog 21 ([zA (zCa a a1 c2 a4 c5),zA (zCa b a7 c8 a10 c11),i64 kind]:List Value).toArray w (gQ fun v w'=>v=i64 R∧aI G K (L) w'):=by
 let n:=(zC b a7 c8 a10 c11)
 let o:=(zC a a1 c2 a4 c5)
 refine aS Tryz.func21 rfl (by kernel_rfl) (by show (3:Nat)≤20;decide) ?_
 unfold mP at c
 refine aK (eA (v:=zA (zCa a a1 c2 a4 c5)) (vs:=o) u rfl rfl (fun b2 b3 V=>(eA (v:=zA (zCa b a7 c8 a10 c11)) (vs:=n) V rfl rfl (fun b4 b5 p=>(aF (v:=i64 0) (aG (aO (cI (aO (dO (fun f w=>∃ (e:Bool),lT kind e=some R∧f 2=i64 kind∧f 7=zB e∧aI G K (L) w) ?_ ?_))))))))))
 ·rintro f b6 ⟨e,c,Z,q,r⟩
  unfold lT at c
  refine aA ?_
  rcases aH c with ⟨h,c⟩|⟨h,c⟩
  ·refine aM h q (aK (aF (v:=i64 1) (aG ?_)))
   obtain rfl:=zI c
   exact bK (bS (aX (bE Tryz.results21 rfl ⟨rfl,r⟩)))
  ·refine aJ h q (aK (aN Z ?_))
   obtain ⟨a2,a3,c⟩:=aC c
   refine aQ (vs:=[i64 kind]) Tryz.call28 rfl (aEg r a3) ?_
   rintro _ b7 ⟨rfl,t⟩
   refine aD (eR rfl) (aF (v:=zB (!a2)) (aG ?_))
   rcases aH c with ⟨j,c⟩|⟨j,c⟩
   ·refine aM j rfl (aK (aF (v:=i64 2) (aG ?_)))
    obtain rfl:=zI c
    exact bK (bS (aX (bE Tryz.results21 rfl ⟨rfl,t⟩)))
   ·refine aJ j rfl (aY (bA (aA (aK (aF (v:=i64 0) (aG ?_))))))
    obtain rfl:=zI c
    exact bK (bE Tryz.results21 rfl ⟨rfl,t⟩)
 refine aP (aD (cS (us:=o) dB p (i:=1) rfl rfl rfl rfl) ?_)
 obtain ⟨a8,a9,c⟩:=aC c
 refine aQ (vs:=[zA (zCa a a1 c2 a4 c5)]) Tryz.call27 rfl (oA p m x y a9) ?_
 rintro _ b8 ⟨rfl,k⟩
 refine aD (eR rfl) (aL (v:=zB (!a8)) ?_)
 rcases aH c with ⟨d,c⟩|⟨d,c⟩
 ·exact aT d rfl rfl (aT d rfl rfl (aT d rfl rfl (aD (bF (v:=zB true) d rfl rfl) (aF (v:=zB true) (aG ⟨true,c,rfl,rfl,(aI.arr 2 [] k rfl)⟩)))))
 ·refine bD d rfl rfl (aD (cS (us:=n) dB k (i:=0) rfl rfl rfl rfl) (bD d rfl rfl ?_))
  obtain ⟨l,b0,c⟩:=aC c
  refine aQ (vs:=[zA (zCa b a7 c8 a10 c11)]) Tryz.call27 rfl (oA k m z J b0) ?_
  rintro _ b9 ⟨rfl,b1⟩
  exact bD d rfl rfl (aD (eR rfl) (aD (bH (v:=zB (!l)) d rfl rfl) (aF (v:=zB (!l)) (aG ⟨!l,c,rfl,rfl,(aI.arr 2 [] b1 rfl)⟩))))
theorem tJ {t:cD} {k:Int} {R:(List Edge)} (hs:aI G K (L) w) (h3:bX K a1 c2 t.L) (h6:bX K a4 c5 t.E) (c:tY t k=some R):
  Calls Tryz.prog 79 ([zA (zCa t a1 c2 a4 c5),i64 k]:List Value).toArray w (gQ fun v w'=>∃ (a8:Option Addr) (a9:Nat),v=zS a8 R.length a9∧aI G K (aR 51 K a8 a9 R::L) w'):=by
 refine aS Tryz.func79 rfl (by kernel_rfl) (by show (2:Nat)≤25;decide) ?_
 unfold tY at c
 refine aK (eA (v:=zA (zCa t a1 c2 a4 c5)) (vs:=(zC t a1 c2 a4 c5)) hs rfl rfl (fun b7 w8 b0=>(aF (v:=zS none 0 0) (aG (aK (aF (v:=zS none 0 0) (aG (aO (aK (aD (bL (t':=3) dY rfl rfl) (aD (dG jR b0 (i:=0) rfl rfl rfl) (aD (bT (len:=t.E.length) cN rfl) (aL (v:=i64 0) (aG (aZ (fun f w=>∃ (l:List Edge) (m:Option Addr) (n:Nat),xQ l=some R∧f 5=zS m l.length n∧aI G K (aR 51 K m n l::L) w) ?_ ?_)))))))))))))))
 ·rintro f e3 ⟨l,m,n,c,b4,b5⟩
  unfold xQ at c
  refine aA (aK (aN b4 (aF (v:=zS m l.length n) (aG ?_))))
  obtain rfl:=zI c
  exact bK (bE Tryz.results79 rfl ⟨m,n,rfl,b5⟩)
 have b8:=aI.nil (α:=Edge) b0 51 K
 obtain ⟨e4,b9,c⟩:=aC c
 refine cC b9 (fun (s:(List Edge × Int)) f w=>match s with|(d,e)=>∃ (g:Option Addr) (j:Nat),f 1=i64 k∧f 5=zS g d.length j∧f 9=zS a4 t.E.length c5∧f 10=i64 (t.E.length:Int)∧f 11=i64 e∧aI G K (aR 51 K g j d::L) w) ?_ ?_
 ·exact ⟨none,0,rfl,rfl,rfl,rfl,rfl,(aI.arr 2 [0] b8 rfl)⟩
 ·rintro ⟨d,e⟩ b1 f e5 b c0 ⟨g,j,x,y,z,J,p,V⟩
  replace b:tX t k d e=some b1:=b
  unfold tX at b
  refine aK (aD (cT p J) (aG (aO ?_)))
  rcases aH b with ⟨Z,b⟩|⟨Z,b⟩
  ·refine aM Z rfl (aY (aA (aO (aZ (fun f w=>∃ (o:List Edge) (q:Option Addr) (r:Nat),xR e o=some b1∧f 1=i64 k∧f 5=zS q o.length r∧f 9=zS a4 t.E.length c5∧f 10=i64 (t.E.length:Int)∧f 11=i64 e∧aI G K (aR 51 K q r o::L) w) ?_ ?_))))
   ·rintro f e6 ⟨o,q,r,b,c1,c3,c4,c6,c7,c8⟩
    unfold xR at b
    exact aA (aP (aD (cK c7 rfl) (aL (v:=i64 (wr (e+1))) (aG ⟨(o,wr (e+1)),(zI b).symm,q,r,c1,c3,c4,c6,rfl,c8⟩))))
   refine aK ?_
   obtain ⟨a,b2,b⟩:=aC b
   refine aD (cU cN rfl h6 z rfl p b2) ?_
   obtain ⟨e7,c9,d0⟩:=bX.el (sz:=3) rfl h6 b2
   cases d0
   refine aD (iD (t:=0) (vs:=[i64 a.F,i64 a.B,i64 a.To]) kW V c9 rfl rfl rfl) (cQ (vs:=[i64 0,i64 0,i64 0]) Tryz.zeroValue51 V rfl (fun a0 e8 d1=>(cZ (i:=0) (ns:=[i64 a.F,i64 a.B,i64 a.To]) (us:=[i64 a.F,i64 a.B,i64 a.To]) Tryz.sizeOf51 d1 rfl rfl rfl rfl rfl (fO rfl) rfl rfl (fun d2 (u:aI G K (box a0 51 [i64 a.F,i64 a.B,i64 a.To]::aR 51 K g j d::L) d2)=>(aG (aK (aD (bL (t':=0) iY rfl rfl) (aD (dG bY u (i:=0) rfl rfl rfl) (aN x (aD (lA rfl rfl) (aG ?_)))))))))))
   rcases aH b with ⟨a2,b⟩|⟨a2,b⟩
   ·refine aM a2 rfl (aP (aN y (aD (cS (us:=[i64 a.F,i64 a.B,i64 a.To]) kW u (i:=0) rfl rfl rfl rfl) (cJ (Kt:=K) (xs:=([a]:List Edge)) (cs:=[i64 a.F,i64 a.B,i64 a.To]) (vs:=[(0,zA #[i64 a.F,i64 a.B,i64 a.To])]) cN jD rfl rfl u rfl (by kernel_rfl) rfl rfl rfl ⟨rfl,trivial⟩ (fun d3 d4 (d5:aI G K (aR 51 K d3 1 ([a]:List Edge)::box a0 51 [i64 a.F,i64 a.B,i64 a.To]::aR 51 K g j d::L) d4)=>?_)))))
    obtain ⟨a3,d6,b⟩:=aC b
    exact eK (i:=1) cN Tryz.underlying25 jD rfl rfl d5 rfl (zR _) (zR _) d6 rfl rfl rfl rfl (fun _ h=>h) (fun a5 a6 d7 (d8:aI G K (box a0 51 [i64 a.F,i64 a.B,i64 a.To]::aR 51 K a5 a6 a3::L) d7)=>(aF (v:=zS a5 a3.length a6) (bM (bA (aA ⟨a3,a5,a6,b,x,rfl,z,J,p,(aI.arr 1 [] d8 rfl)⟩)))))
   ·exact aJ a2 rfl (aY (bA (aA ⟨d,g,j,b,x,y,z,J,p,(aI.arr 1 [] u rfl)⟩)))
  ·refine aJ Z rfl (cA (aV (aV ?_)))
   have d9:=c0 _ (zI b).symm
   subst d9
   have c:(xQ d)=some R:=c
   exact bN (aA ⟨d,g,j,c,y,V⟩)
theorem lG {c R:(List bI)} (hs:aI G K (aR 9 K a1 c2 c::L) w) (d:eI c=some R):
  Calls Tryz.prog 82 ([zS a1 c.length c2]:List Value).toArray w (gQ fun v w'=>∃ (b9:Option Addr) (c0:Nat),v=zS b9 R.length c0∧aI G K (aR 9 K b9 c0 R::L) w'):=by
 refine aS Tryz.func82 rfl (by kernel_rfl) (by show (1:Nat)≤61;decide) ?_
 unfold eI at d
 refine aK (aF (v:=zS none 0 0) (aG (aO (aK (aL (v:=zS a1 c.length c2) (aD (bT (len:=c.length) dM rfl) (aD (cT rfl rfl) (aG ?_))))))))
 rcases aH d with ⟨c3,d⟩|⟨c3,d⟩
 ·refine aM c3 rfl (aK (aL (v:=zS a1 c.length c2) (aF (v:=zS a1 c.length c2) (aG ?_))))
  obtain rfl:=zI d
  exact bK (aX (bE Tryz.results82 rfl ⟨a1,c2,rfl,hs⟩))
 ·refine aJ c3 rfl (aY (aA (aO (aK (aF (v:=i64 1) (aG (aZ (fun f w=>fW c=some R∧f 0=zS a1 c.length c2∧aI G K (aR 9 K a1 c2 c::L) w) ?_ ?_)))))))
  ·rintro f w6 ⟨d,e5,e4⟩
   unfold fW at d
   refine aA (aK (aN e5 (aF (v:=zS a1 c.length c2) (aG ?_))))
   obtain rfl:=zI d
   exact bK (bE Tryz.results82 rfl ⟨a1,c2,rfl,e4⟩)
  obtain ⟨h1,e7,d⟩:=aC d
  refine cC e7 (fun (j:Int) f w=>f 0=zS a1 c.length c2∧f 3=i64 j∧aI G K (aR 9 K a1 c2 c::L) w) ?_ ?_
  ·exact ⟨rfl,rfl,hs⟩
  ·rintro j z f h2 a c1 ⟨m,p,e⟩
   replace a:dT c j=some z:=a
   unfold dT at a
   refine aO (aK (aN p (aN m (aD (bT (len:=c.length) dM rfl) (aD (cT rfl rfl) (aG ?_))))))
   rcases aH a with ⟨a7,a⟩|⟨a7,a⟩
   ·refine aM a7 rfl (aY (aA (aO (aZ (fun f w=>fX j=some z∧f 0=zS a1 c.length c2∧f 3=i64 j∧aI G K (aR 9 K a1 c2 c::L) w) ?_ ?_))))
    ·rintro f h3 ⟨a,e8,e9,f0⟩
     unfold fX at a
     exact aA (aP (aN e9 (aD (cK rfl rfl) (aF (v:=i64 (wr (j+1))) (aG ⟨wr (j+1),(zI a).symm,e8,rfl,f0⟩)))))
    refine aO (eL (C:=fun w'=>aI G K (aR 9 K a1 c2 c::L) w') bP (by kernel_rfl) (aI.mono e (dN.drew _)) (bC (fun _ e=>aW m) (bC (fun _ e=>aW p) ?_)))
    obtain ⟨h4,a8,a⟩:=aC a
    have q:=dZ e (i:=0) rfl a8
    refine bC (fun _ e=>eM dM rfl q rfl rfl rfl a8) (bC (fun _ e=>lB (t:=0) yF e (i:=0) rfl a8 rfl rfl rfl) (bC (fun _ e=>aW m) (bC (fun _ e=>aW p) (bC (fun _ e=>nI rfl rfl) ?_))))
    obtain ⟨h5,c4,a⟩:=aC a
    refine bC (fun _ e=>eM dM rfl q rfl rfl rfl c4) (bC (fun _ e=>lB (t:=0) yF e (i:=0) rfl c4 rfl rfl rfl) (bC (fun _ e=>aBd rfl rfl) (fT (fun h6 a9=>(aA ?_)))))
    rcases aH a with ⟨c45,a⟩|⟨c45,a⟩
    ·refine aM c45 rfl (aK (aN m (aN p ?_)))
     obtain ⟨x,J,a⟩:=aC a
     have V:=yX a9 (i:=0) rfl
     obtain ⟨b0,b1,Z⟩:=Cut.ex 1 a1 c2 j
     refine aD (aFN dM V Z rfl rfl rfl J) (aF (v:=zS b0 x.length b1) (aG (aO (aK (aF (v:=i64 1) (aG (aZ (fun f w=>∃ (a0:List bI) (a2:Int),eS a0 a2=some z∧f 0=zS a1 a0.length c2∧f 3=i64 a2∧aI G K (aR 9 K a1 c2 a0::L) w) ?_ ?_)))))))
     ·rintro f h7 ⟨a0,a2,a,c5,c6,c7⟩
      unfold eS at a
      refine aA (aK (aN c5 (aN c6 ?_)))
      obtain ⟨h8,f1,a⟩:=aC a
      have f2:=yX c7 (i:=0) rfl
      obtain ⟨h9,i0,c8⟩:=Cut.ex 1 a1 c2 a2
      refine aD (aFN dM f2 c8 rfl rfl rfl f1) ?_
      obtain ⟨c9,d0,a⟩:=aC a
      refine aFM dM aBx rfl c7 (i:=0) rfl c8 rfl rfl d0 (fun d1 (d2:aI G K (aR 9 K a1 c2 c9::L) d1)=>(aG (aK (aN (v:=zS a1 c9.length c2) (Eq.trans c5 (congrArg (fun n=>zS a1 n c2) (aJl d0))) (aN c6 ?_)))))
      obtain ⟨b2,d3,a⟩:=aC a
      have f3:=yX d2 (i:=0) rfl
      obtain ⟨b3,b4,d4⟩:=Cut.ex 1 a1 c2 0
      refine aD (aJu dM f3 d4 rfl rfl rfl d3) (aF (v:=zS b3 b2.length b4) (aG (bK (bS (aX (aX (aX ?_)))))))
      have f4:=c1 _ (zI a).symm
      subst f4
      have d:(some b2)=some R:=d
      have f5:aI G K (aR 9 K b3 b4 b2::L) d1:=aI.cutP d2 (i:=0) rfl d3 d4
      obtain rfl:=zI d
      exact bS (aX (aX (bE Tryz.results82 rfl ⟨b3,b4,rfl,f5⟩)))
     obtain ⟨i1,f7,a⟩:=aC a
     refine cC f7 (fun (s:(List bI × Int × Int)) f w=>match s with|(k,l,o)=>f 0=zS a1 k.length c2∧f 3=i64 l∧f 4=zS b0 x.length b1∧f 5=i64 o∧aI G K (aR 9 K a1 c2 k::L) w) ?_ ?_
     ·exact ⟨m,p,rfl,rfl,a9⟩
     ·rintro ⟨k,l,o⟩ d5 f i2 b f8 ⟨a3,a4,r,u,g⟩
      replace b:dS j x k l o=some d5:=b
      unfold dS at b
      refine aO (aK (aN u (aN r (aD (bT (len:=x.length) dM rfl) (aD (cT rfl rfl) (aG ?_))))))
      rcases aH b with ⟨b5,b⟩|⟨b5,b⟩
      ·refine aM b5 rfl (aY (aA (aO (aZ (fun f w=>∃ (y:List bI) (a5:Int),eT o y a5=some d5∧f 0=zS a1 y.length c2∧f 3=i64 a5∧f 4=zS b0 x.length b1∧f 5=i64 o∧aI G K (aR 9 K a1 c2 y::L) w) ?_ ?_))))
       ·rintro f i3 ⟨y,a5,b,f9,g0,g1,g2,g3⟩
        unfold eT at b
        exact aA (aP (aN g2 (aD (cK rfl rfl) (aF (v:=i64 (wr (o+1))) (aG ⟨(y,a5,wr (o+1)),(zI b).symm,f9,g0,g1,rfl,g3⟩)))))
       refine aO (eL (C:=fun w'=>aI G K (aR 9 K a1 c2 k::L) w') bP (by kernel_rfl) (aI.mono g (dN.drew _)) (bC (fun _ g=>aW r) (bC (fun _ g=>aW u) ?_)))
       obtain ⟨i4,d6,b⟩:=aC b
       obtain ⟨d7,d8,b⟩:=aC b
       refine bC (fun _ g=>aEU dM q Z J V rfl rfl rfl d6 rfl) (bC (fun _ g=>lB (t:=0) yF g (i:=0) rfl d8 rfl rfl rfl) (bC (fun _ g=>aW r) (bC (fun _ g=>aW u) (bC (fun _ g=>nI rfl rfl) ?_))))
       obtain ⟨i5,g4,b⟩:=aC b
       obtain ⟨i6,g5,b⟩:=aC b
       refine bC (fun _ g=>aEU dM q Z J V rfl rfl rfl g4 rfl) (bC (fun _ g=>lB (t:=0) yF g (i:=0) rfl g5 rfl rfl rfl) (bC (fun _ g=>aJq rfl rfl) (fT (fun i7 b6=>(aA ?_)))))
       rcases aH b with ⟨b7,b⟩|⟨b7,b⟩
       ·refine aM b7 rfl (aK (aN a3 (aN a4 (aN r (aN u (aD (aEU dM q Z J V rfl rfl rfl d6 rfl) (aD (lB (t:=0) yF b6 (i:=0) rfl d8 rfl rfl rfl) ?_)))))))
        obtain ⟨i8,d9,b⟩:=aC b
        refine aD (eM dM rfl q rfl rfl rfl d9) ?_
        obtain ⟨e0,e1,b⟩:=aC b
        exact sM (i:=0) (t:=0) (ns:=[str d7]) (e':=(d7:bI)) Tryz.sizeOf9 b6 rfl (zR _) rfl rfl rfl d9 e1 rfl rfl (fO rfl) rfl (fun cs h=>by cases h;rfl) (fun g6 (g7:aI G K (aR 9 K a1 c2 e0::L) g6)=>(aG (aP (aN a4 (aD (cK rfl rfl) (aF (v:=i64 (wr (l+1))) (bM (bA (aA ⟨e0,wr (l+1),b,(Eq.trans a3 (congrArg (fun n=>zS a1 n c2) (oY e1))),rfl,r,u,g7⟩)))))))))
       ·exact aJ b7 rfl (aY (bA (aA ⟨k,l,b,a3,a4,r,u,b6⟩)))
      ·refine aJ b5 rfl (cA (aV (aV ?_)))
       have g8:=f8 _ (zI b).symm
       subst g8
       have a:(eS k l)=some z:=a
       exact bN (aA ⟨k,l,a,a3,a4,g⟩)
    ·exact aJ c45 rfl (aY (bA (aA ⟨a,m,p,a9⟩)))
   ·refine aJ a7 rfl (cA (aV (aV ?_)))
    have g9:=c1 _ (zI a).symm
    subst g9
    have d:(fW c)=some R:=d
    exact bN (aA ⟨d,m,e⟩)
theorem iP {t:cD} {k:Int} {R:(List bI)} (hs:aI G K (L) w) (V:bX K a1 c2 t.L) (h6:bX K a4 c5 t.E) (b:gD t k=some R):
  Calls Tryz.prog 49 ([zA (zCa t a1 c2 a4 c5),i64 k]:List Value).toArray w (gQ fun v w'=>∃ (a8:Option Addr) (a9:Nat),v=zS a8 R.length a9∧aI G K (aR 9 K a8 a9 R::L) w'):=by
 let l:=(zC t a1 c2 a4 c5)
 refine aS Tryz.func49 rfl (by kernel_rfl) (by show (2:Nat)≤30;decide) ?_
 unfold gD at b
 refine aK (eA (v:=zA (zCa t a1 c2 a4 c5)) (vs:=l) hs rfl rfl (fun p w8 b0=>(aF (v:=zS none 0 0) (aG (aK (aF (v:=zS none 0 0) (aG (aO (aK (aD (cS (us:=l) dB b0 (i:=0) rfl rfl rfl rfl) (aL (v:=i64 k) ?_)))))))))))
 obtain ⟨d,c4,b⟩:=aC b
 refine aQ (vs:=[zA (zCa t a1 c2 a4 c5),i64 k]) Tryz.call79 rfl (tJ b0 V h6 c4) ?_
 rintro _ f2 ⟨q,r,rfl,c6⟩
 refine aD (bT (len:=d.length) cN rfl) (aL (v:=i64 0) (aG (aZ (fun f w=>∃ (u:List bI) (g:Option Addr) (j:Nat),lF u=some R∧f 5=zS g u.length j∧aI G K (aR 9 K g j u::L) w) ?_ ?_)))
 ·rintro f f3 ⟨u,g,j,b,b1,c7⟩
  unfold lF at b
  refine aA (aK (aN b1 ?_))
  obtain ⟨b2,c8,b⟩:=aC b
  refine aQ (vs:=[zS g u.length j,Value.func (.func 81) #[] #[]]) Tryz.call80 rfl (lib_SortStr c7 c8) ?_
  rintro _ f4 ⟨rfl,c9,d0⟩
  refine aG (aK (aN (v:=zS g b2.length j) (Eq.trans b1 (congrArg (fun n=>zS g n j) c9)) ?_))
  obtain ⟨d1,d2,b⟩:=aC b
  refine aQ (vs:=[zS g b2.length j]) Tryz.call82 rfl (lG d0 d2) ?_
  rintro _ f5 ⟨b3,b4,rfl,d3⟩
  refine aF (v:=zS b3 d1.length b4) (aG ?_)
  obtain rfl:=zI b
  exact bK (bE Tryz.results49 rfl ⟨b3,b4,rfl,d3⟩)
 have d5:=aI.nil (α:=bI) c6 9 K
 obtain ⟨f6,d6,b⟩:=aC b
 refine cC d6 (fun (s:(List bI × Int)) f w=>match s with|(e,x)=>∃ (m:Option Addr) (o:Nat),f 2=zP (some ⟨p,0,none⟩)∧f 5=zS m e.length o∧f 10=zS q d.length r∧f 11=i64 (d.length:Int)∧f 12=i64 x∧aI G K (aR 9 K m o e::aR 51 K q r d::box p 27 l::L) w) ?_ ?_
 ·exact ⟨none,0,rfl,rfl,rfl,rfl,rfl,d5⟩
 ·rintro ⟨e,x⟩ d7 f f7 c d8 ⟨m,o,b5,b6,b8,b9,Z,y⟩
  replace c:iF t d e x=some d7:=c
  unfold iF at c
  refine aK (aD (cT Z b9) (aG (aO ?_)))
  rcases aH c with ⟨a0,c⟩|⟨a0,c⟩
  ·refine aM a0 rfl (aY (aA (aO (cI (aK ?_)))))
   obtain ⟨a,a2,c⟩:=aC c
   have d9:=dZ y (i:=1) rfl a2
   refine aD (eM cN rfl d9 b8 rfl Z a2) (aD (wZ (t:=0) (vs:=[i64 a.F,i64 a.B,i64 a.To]) kW y (i:=1) rfl a2 rfl rfl rfl rfl) (cQ (vs:=[i64 0,i64 0,i64 0]) Tryz.zeroValue51 y rfl (fun a3 f8 e0=>(cZ (i:=0) (ns:=[i64 a.F,i64 a.B,i64 a.To]) (us:=[i64 a.F,i64 a.B,i64 a.To]) Tryz.sizeOf51 e0 rfl rfl rfl rfl rfl (fO rfl) rfl rfl (fun e1 (z:aI G K (box a3 51 [i64 a.F,i64 a.B,i64 a.To]::aR 9 K m o e::aR 51 K q r d::box p 27 l::L) e1)=>(aG (aP (aN b6 (aD (bL (t':=2) gV b5 rfl) (aD (dG oC z (i:=3) rfl rfl rfl) (aD (bL (t':=1) iZ rfl rfl) (aD (dG bY z (i:=0) rfl rfl rfl) ?_))))))))))))
   obtain ⟨J,c0,c⟩:=aC c
   refine aD (cU dM rfl V rfl rfl rfl c0) ?_
   obtain ⟨f9,e2,e3⟩:=bX.el (sz:=1) rfl V c0
   cases e3
   refine aD (bG (t:=0) yF z e2 rfl rfl) (cJ (Kt:=K) (xs:=([J]:List bI)) (cs:=[str J]) (vs:=[(0,str J)]) dM aBx rfl rfl z rfl (by kernel_rfl) rfl rfl rfl ⟨rfl,trivial⟩ (fun e4 e5 (e6:aI G K (aR 9 K e4 1 ([J]:List bI)::box a3 51 [i64 a.F,i64 a.B,i64 a.To]::aR 9 K m o e::aR 51 K q r d::box p 27 l::L) e5)=>?_))
   obtain ⟨a5,e7,c⟩:=aC c
   exact eK (i:=1) dM Tryz.underlying24 aBx rfl rfl e6 rfl (zR _) (zR _) e7 rfl rfl rfl rfl (fun _ h=>h) (fun a6 a7 e8 (e9:aI G K (box a3 51 [i64 a.F,i64 a.B,i64 a.To]::aR 9 K a6 a7 a5::aR 51 K q r d::box p 27 l::L) e8)=>(aF (v:=zS a6 a5.length a7) (bM (bA (aA (aP (aD (cK Z rfl) (aL (v:=i64 (wr (x+1))) (aG ⟨(a5,wr (x+1)),(zI c).symm,a6,a7,b5,rfl,b8,b9,rfl,(aI.arr 1 [] e9 rfl)⟩)))))))))
  ·refine aJ a0 rfl (cA (aV (aV ?_)))
   have f0:=d8 _ (zI c).symm
   subst f0
   have b:(lF e)=some R:=b
   exact bN (aA ⟨e,m,o,b,b6,(aI.arr 3 [0] y rfl)⟩)
theorem wC {d:(List Int)} {e R:Int} (q:aI G K (L) w) (k:bX K a1 c2 d) (b:gG d e=some R):
  Calls Tryz.prog 168 ([zS a1 d.length c2,i64 e]:List Value).toArray w (gQ fun v w'=>v=i64 R∧aI G K (L) w'):=by
 refine aS Tryz.func168 rfl (by kernel_rfl) (by show (2:Nat)≤19;decide) ?_
 unfold gG at b
 refine aK (aF (v:=i64 0) (aG (aO (aK (aL (v:=zS a1 d.length c2) (aD (bT (len:=d.length) bO rfl) (aL (v:=i64 0) (aG (aZ (fun f w=>gX=some R∧aI G K (L) w) ?_ ?_)))))))))
 ·rintro f w4 ⟨b,r⟩
  unfold gX at b
  refine aA (aK (aF (v:=i64 (-1)) (aG ?_)))
  obtain rfl:=zI b
  exact bK (bE Tryz.results168 rfl ⟨rfl,r⟩)
 obtain ⟨a3,x,b⟩:=aC b
 refine cC x (fun (c:Int) f w=>f 0=zS a1 d.length c2∧f 1=i64 e∧f 7=i64 (d.length:Int)∧f 8=i64 c∧aI G K (L) w) ?_ ?_
 ·exact ⟨rfl,rfl,rfl,rfl,q⟩
 ·rintro c y f a4 a l ⟨m,n,o,h,g⟩
  replace a:eN d e c=some y:=a
  unfold eN at a
  refine aK (aD (cT h o) (aG (aO ?_)))
  rcases aH a with ⟨i,a⟩|⟨i,a⟩
  ·refine aM i rfl (aY (aA (aO (cI (aK (aN h (aF (v:=i64 c) (aG (aK (aN n (aN m (aL (v:=i64 c) ?_))))))))))))
   obtain ⟨a5,p,a⟩:=aC a
   refine aD (cU bO rfl k rfl rfl rfl p) ?_
   obtain ⟨a6,z,J⟩:=bX.el (sz:=1) rfl k p
   cases J
   refine aD (bG (t:=0) bY g z rfl rfl) (aD (lA rfl rfl) (aG ?_))
   rcases aH a with ⟨j,a⟩|⟨j,a⟩
   ·refine aM j rfl (aK (aL (v:=i64 c) (aF (v:=i64 c) (aG (bK (bS (aX (aX ?_))))))))
    have V:=l _ (zI a).symm
    subst V
    have b:(some c)=some R:=b
    obtain rfl:=zI b
    exact bS (aX (aX (bE Tryz.results168 rfl ⟨rfl,g⟩)))
   ·exact aJ j rfl (aY (bA (aA (aP (aD (cK h rfl) (aL (v:=i64 (wr (c+1))) (aG ⟨wr (c+1),(zI a).symm,m,n,o,rfl,g⟩)))))))
  ·refine aJ i rfl (cA (aV (aV ?_)))
   have a0:=l _ (zI a).symm
   subst a0
   have b:(gX)=some R:=b
   exact bN (aA ⟨b,g⟩)
theorem lM {a:(List Int)} {b:Int} {R:Bool} (d:aI G K (L) w) (e:bX K a1 c2 a) (c:eO a b=some R):
  Calls Tryz.prog 130 ([zS a1 a.length c2,i64 b]:List Value).toArray w (gQ fun v w'=>v=zB R∧aI G K (L) w'):=by
 refine aS Tryz.func130 rfl (by kernel_rfl) (by show (2:Nat)≤9;decide) ?_
 unfold eO at c
 refine aK (aF (v:=zB false) (aG (aK (aL (v:=zS a1 a.length c2) (aL (v:=i64 b) ?_)))))
 obtain ⟨g,h,c⟩:=aC c
 refine aQ (vs:=[zS a1 a.length c2,i64 b]) Tryz.call168 rfl (wC d e h) ?_
 rintro _ k ⟨rfl,i⟩
 refine aD (uJ rfl rfl) (aF (v:=zB (decide (0≤g))) (aG ?_))
 obtain rfl:=zI c
 exact bK (bE Tryz.results130 rfl ⟨rfl,i⟩)
theorem iV {c R:(List Int)} (hs:aI G K (aR 2 K a1 c2 c::L) w) (d:eU c=some R):
  Calls Tryz.prog 90 ([zS a1 c.length c2]:List Value).toArray w (gQ fun v w'=>∃ (b9:Option Addr) (c0:Nat),v=zS b9 R.length c0∧aI G K (aR 2 K b9 c0 R::L) w'):=by
 refine aS Tryz.func90 rfl (by kernel_rfl) (by show (1:Nat)≤61;decide) ?_
 unfold eU at d
 refine aK (aF (v:=zS none 0 0) (aG (aO (aK (aL (v:=zS a1 c.length c2) (aD (bT (len:=c.length) bO rfl) (aD (cT rfl rfl) (aG ?_))))))))
 rcases aH d with ⟨c3,d⟩|⟨c3,d⟩
 ·refine aM c3 rfl (aK (aL (v:=zS a1 c.length c2) (aF (v:=zS a1 c.length c2) (aG ?_))))
  obtain rfl:=zI d
  exact bK (aX (bE Tryz.results90 rfl ⟨a1,c2,rfl,hs⟩))
 ·refine aJ c3 rfl (aY (aA (aO (aK (aF (v:=i64 1) (aG (aZ (fun f w=>gK c=some R∧f 0=zS a1 c.length c2∧aI G K (aR 2 K a1 c2 c::L) w) ?_ ?_)))))))
  ·rintro f w6 ⟨d,e5,e4⟩
   unfold gK at d
   refine aA (aK (aN e5 (aF (v:=zS a1 c.length c2) (aG ?_))))
   obtain rfl:=zI d
   exact bK (bE Tryz.results90 rfl ⟨a1,c2,rfl,e4⟩)
  obtain ⟨h1,e7,d⟩:=aC d
  refine cC e7 (fun (j:Int) f w=>f 0=zS a1 c.length c2∧f 3=i64 j∧aI G K (aR 2 K a1 c2 c::L) w) ?_ ?_
  ·exact ⟨rfl,rfl,hs⟩
  ·rintro j z f h2 a c1 ⟨m,p,e⟩
   replace a:eC c j=some z:=a
   unfold eC at a
   refine aO (aK (aN p (aN m (aD (bT (len:=c.length) bO rfl) (aD (cT rfl rfl) (aG ?_))))))
   rcases aH a with ⟨a7,a⟩|⟨a7,a⟩
   ·refine aM a7 rfl (aY (aA (aO (aZ (fun f w=>gL j=some z∧f 0=zS a1 c.length c2∧f 3=i64 j∧aI G K (aR 2 K a1 c2 c::L) w) ?_ ?_))))
    ·rintro f h3 ⟨a,e8,e9,f0⟩
     unfold gL at a
     exact aA (aP (aN e9 (aD (cK rfl rfl) (aF (v:=i64 (wr (j+1))) (aG ⟨wr (j+1),(zI a).symm,e8,rfl,f0⟩)))))
    refine aO (eL (C:=fun w'=>aI G K (aR 2 K a1 c2 c::L) w') bP (by kernel_rfl) (aI.mono e (dN.drew _)) (bC (fun _ e=>aW m) (bC (fun _ e=>aW p) ?_)))
    obtain ⟨h4,a8,a⟩:=aC a
    have q:=dZ e (i:=0) rfl a8
    refine bC (fun _ e=>eM bO rfl q rfl rfl rfl a8) (bC (fun _ e=>lB (t:=0) bY e (i:=0) rfl a8 rfl rfl rfl) (bC (fun _ e=>aW m) (bC (fun _ e=>aW p) (bC (fun _ e=>nI rfl rfl) ?_))))
    obtain ⟨h5,c4,a⟩:=aC a
    refine bC (fun _ e=>eM bO rfl q rfl rfl rfl c4) (bC (fun _ e=>lB (t:=0) bY e (i:=0) rfl c4 rfl rfl rfl) (bC (fun _ e=>lA rfl rfl) (fT (fun h6 a9=>(aA ?_)))))
    rcases aH a with ⟨c45,a⟩|⟨c45,a⟩
    ·refine aM c45 rfl (aK (aN m (aN p ?_)))
     obtain ⟨x,J,a⟩:=aC a
     have V:=yX a9 (i:=0) rfl
     obtain ⟨b0,b1,Z⟩:=Cut.ex 1 a1 c2 j
     refine aD (aFN bO V Z rfl rfl rfl J) (aF (v:=zS b0 x.length b1) (aG (aO (aK (aF (v:=i64 1) (aG (aZ (fun f w=>∃ (a0:List Int) (a2:Int),fE a0 a2=some z∧f 0=zS a1 a0.length c2∧f 3=i64 a2∧aI G K (aR 2 K a1 c2 a0::L) w) ?_ ?_)))))))
     ·rintro f h7 ⟨a0,a2,a,c5,c6,c7⟩
      unfold fE at a
      refine aA (aK (aN c5 (aN c6 ?_)))
      obtain ⟨h8,f1,a⟩:=aC a
      have f2:=yX c7 (i:=0) rfl
      obtain ⟨h9,i0,c8⟩:=Cut.ex 1 a1 c2 a2
      refine aD (aFN bO f2 c8 rfl rfl rfl f1) ?_
      obtain ⟨c9,d0,a⟩:=aC a
      refine aFM bO jU rfl c7 (i:=0) rfl c8 rfl rfl d0 (fun d1 (d2:aI G K (aR 2 K a1 c2 c9::L) d1)=>(aG (aK (aN (v:=zS a1 c9.length c2) (Eq.trans c5 (congrArg (fun n=>zS a1 n c2) (aJl d0))) (aN c6 ?_)))))
      obtain ⟨b2,d3,a⟩:=aC a
      have f3:=yX d2 (i:=0) rfl
      obtain ⟨b3,b4,d4⟩:=Cut.ex 1 a1 c2 0
      refine aD (aJu bO f3 d4 rfl rfl rfl d3) (aF (v:=zS b3 b2.length b4) (aG (bK (bS (aX (aX (aX ?_)))))))
      have f4:=c1 _ (zI a).symm
      subst f4
      have d:(some b2)=some R:=d
      have f5:aI G K (aR 2 K b3 b4 b2::L) d1:=aI.cutP d2 (i:=0) rfl d3 d4
      obtain rfl:=zI d
      exact bS (aX (aX (bE Tryz.results90 rfl ⟨b3,b4,rfl,f5⟩)))
     obtain ⟨i1,f7,a⟩:=aC a
     refine cC f7 (fun (s:(List Int × Int × Int)) f w=>match s with|(k,l,o)=>f 0=zS a1 k.length c2∧f 3=i64 l∧f 4=zS b0 x.length b1∧f 5=i64 o∧aI G K (aR 2 K a1 c2 k::L) w) ?_ ?_
     ·exact ⟨m,p,rfl,rfl,a9⟩
     ·rintro ⟨k,l,o⟩ d5 f i2 b f8 ⟨a3,a4,r,u,g⟩
      replace b:eB j x k l o=some d5:=b
      unfold eB at b
      refine aO (aK (aN u (aN r (aD (bT (len:=x.length) bO rfl) (aD (cT rfl rfl) (aG ?_))))))
      rcases aH b with ⟨b5,b⟩|⟨b5,b⟩
      ·refine aM b5 rfl (aY (aA (aO (aZ (fun f w=>∃ (y:List Int) (a5:Int),fF o y a5=some d5∧f 0=zS a1 y.length c2∧f 3=i64 a5∧f 4=zS b0 x.length b1∧f 5=i64 o∧aI G K (aR 2 K a1 c2 y::L) w) ?_ ?_))))
       ·rintro f i3 ⟨y,a5,b,f9,g0,g1,g2,g3⟩
        unfold fF at b
        exact aA (aP (aN g2 (aD (cK rfl rfl) (aF (v:=i64 (wr (o+1))) (aG ⟨(y,a5,wr (o+1)),(zI b).symm,f9,g0,g1,rfl,g3⟩)))))
       refine aO (eL (C:=fun w'=>aI G K (aR 2 K a1 c2 k::L) w') bP (by kernel_rfl) (aI.mono g (dN.drew _)) (bC (fun _ g=>aW r) (bC (fun _ g=>aW u) ?_)))
       obtain ⟨i4,d6,b⟩:=aC b
       obtain ⟨d7,d8,b⟩:=aC b
       refine bC (fun _ g=>aEU bO q Z J V rfl rfl rfl d6 rfl) (bC (fun _ g=>lB (t:=0) bY g (i:=0) rfl d8 rfl rfl rfl) (bC (fun _ g=>aW r) (bC (fun _ g=>aW u) (bC (fun _ g=>nI rfl rfl) ?_))))
       obtain ⟨i5,g4,b⟩:=aC b
       obtain ⟨i6,g5,b⟩:=aC b
       refine bC (fun _ g=>aEU bO q Z J V rfl rfl rfl g4 rfl) (bC (fun _ g=>lB (t:=0) bY g (i:=0) rfl g5 rfl rfl rfl) (bC (fun _ g=>uK rfl rfl) (fT (fun i7 b6=>(aA ?_)))))
       rcases aH b with ⟨b7,b⟩|⟨b7,b⟩
       ·refine aM b7 rfl (aK (aN a3 (aN a4 (aN r (aN u (aD (aEU bO q Z J V rfl rfl rfl d6 rfl) (aD (lB (t:=0) bY b6 (i:=0) rfl d8 rfl rfl rfl) ?_)))))))
        obtain ⟨i8,d9,b⟩:=aC b
        refine aD (eM bO rfl q rfl rfl rfl d9) ?_
        obtain ⟨e0,e1,b⟩:=aC b
        exact sM (i:=0) (t:=0) (ns:=[i64 d7]) (e':=(d7:Int)) Tryz.sizeOf2 b6 rfl (zR _) rfl rfl rfl d9 e1 rfl rfl (fO rfl) rfl (fun cs h=>by cases h;rfl) (fun g6 (g7:aI G K (aR 2 K a1 c2 e0::L) g6)=>(aG (aP (aN a4 (aD (cK rfl rfl) (aF (v:=i64 (wr (l+1))) (bM (bA (aA ⟨e0,wr (l+1),b,(Eq.trans a3 (congrArg (fun n=>zS a1 n c2) (oY e1))),rfl,r,u,g7⟩)))))))))
       ·exact aJ b7 rfl (aY (bA (aA ⟨k,l,b,a3,a4,r,u,b6⟩)))
      ·refine aJ b5 rfl (cA (aV (aV ?_)))
       have g8:=f8 _ (zI b).symm
       subst g8
       have a:(fE k l)=some z:=a
       exact bN (aA ⟨k,l,a,a3,a4,g⟩)
    ·exact aJ c45 rfl (aY (bA (aA ⟨a,m,p,a9⟩)))
   ·refine aJ a7 rfl (cA (aV (aV ?_)))
    have g9:=c1 _ (zI a).symm
    subst g9
    have d:(gK c)=some R:=d
    exact bN (aA ⟨d,m,e⟩)
theorem sG {t:cD} {o:(List Int)} {p:bI} {R:(List Int)} (hs:aI G K (L) w) (h3:bX K a1 c2 t.L) (h6:bX K a4 c5 t.E) (h9:bX K a7 c8 o) (c:kX t o p=some R):
  Calls Tryz.prog 97 ([zA (zCa t a1 c2 a4 c5),zS a7 o.length c8,str p]:List Value).toArray w (gQ fun v w'=>∃ (c1:Option Addr) (c3:Nat),v=zS c1 R.length c3∧aI G K (aR 2 K c1 c3 R::L) w'):=by
 let q:=(zC t a1 c2 a4 c5)
 refine aS Tryz.func97 rfl (by kernel_rfl) (by show (3:Nat)≤41;decide) ?_
 unfold kX at c
 refine aK (eA (v:=zA (zCa t a1 c2 a4 c5)) (vs:=q) hs rfl rfl (fun j i3 c4=>(aF (v:=zS none 0 0) (aG (aK (aF (v:=zS none 0 0) (aG (aO (aK (aD (bL (t':=3) dY rfl rfl) (aD (dG jR c4 (i:=0) rfl rfl rfl) (aD (bT (len:=t.E.length) cN rfl) (aL (v:=i64 0) (aG (aZ (fun f w=>∃ (y:List Int) (r:Option Addr) (u:Nat),nR y=some R∧f 7=zS r y.length u∧aI G K (aR 2 K r u y::L) w) ?_ ?_)))))))))))))))
 ·rintro f i4 ⟨y,r,u,c,c6,e4⟩
  unfold nR at c
  refine aA (aK (aN c6 ?_))
  obtain ⟨c7,e5,c⟩:=aC c
  refine aQ (vs:=[zS r y.length u]) Tryz.call89 rfl (aDd e4 e5) ?_
  rintro _ i5 ⟨rfl,e6,e7⟩
  refine aG (aK (aN (v:=zS r c7.length u) (Eq.trans c6 (congrArg (fun n=>zS r n u) e6)) ?_))
  obtain ⟨e8,e9,c⟩:=aC c
  refine aQ (vs:=[zS r c7.length u]) Tryz.call90 rfl (iV e7 e9) ?_
  rintro _ i6 ⟨c9,d0,rfl,f0⟩
  refine aF (v:=zS c9 e8.length d0) (aG ?_)
  obtain rfl:=zI c
  exact bK (bE Tryz.results97 rfl ⟨c9,d0,rfl,f0⟩)
 have f2:=aI.nil (α:=Int) c4 2 K
 obtain ⟨i7,f3,c⟩:=aC c
 refine cC f3 (fun (s:(List Int × Int)) f w=>match s with|(d,k)=>∃ (l:Option Addr) (m:Nat),f 1=zS a7 o.length c8∧f 2=str p∧f 3=zP (some ⟨j,0,none⟩)∧f 7=zS l d.length m∧f 11=zS a4 t.E.length c5∧f 12=i64 (t.E.length:Int)∧f 13=i64 k∧aI G K (aR 2 K l m d::box j 27 q::L) w) ?_ ?_
 ·exact ⟨none,0,rfl,rfl,rfl,rfl,rfl,rfl,rfl,f2⟩
 ·rintro ⟨d,k⟩ a2 f i8 a f4 ⟨l,m,a3,a5,a6,a8,a9,b0,V,b1⟩
  replace a:jI t o p d k=some a2:=a
  unfold jI at a
  refine aK (aD (cT V b0) (aG (aO ?_)))
  rcases aH a with ⟨b2,a⟩|⟨b2,a⟩
  ·refine aM b2 rfl (aY (aA (aO (aZ (fun f w=>∃ (z:List Int) (Z:Option Addr) (a0:Nat),nS k z=some a2∧f 1=zS a7 o.length c8∧f 2=str p∧f 3=zP (some ⟨j,0,none⟩)∧f 7=zS Z z.length a0∧f 11=zS a4 t.E.length c5∧f 12=i64 (t.E.length:Int)∧f 13=i64 k∧aI G K (aR 2 K Z a0 z::box j 27 q::L) w) ?_ ?_))))
   ·rintro f i9 ⟨z,Z,a0,a,f5,f6,f7,f8,f9,g0,g1,g2⟩
    unfold nS at a
    exact aA (aP (aD (cK g1 rfl) (aL (v:=i64 (wr (k+1))) (aG ⟨(z,wr (k+1)),(zI a).symm,Z,a0,f5,f6,f7,f8,f9,g0,rfl,g2⟩))))
   refine aK ?_
   obtain ⟨b,d1,a⟩:=aC a
   refine aD (cU cN rfl h6 a9 rfl V d1) ?_
   obtain ⟨j0,g3,g4⟩:=bX.el (sz:=3) rfl h6 d1
   cases g4
   refine aD (iD (t:=0) (vs:=[i64 b.F,i64 b.B,i64 b.To]) kW b1 g3 rfl rfl rfl) (cQ (vs:=[i64 0,i64 0,i64 0]) Tryz.zeroValue51 b1 rfl (fun J j1 g5=>(cZ (i:=0) (ns:=[i64 b.F,i64 b.B,i64 b.To]) (us:=[i64 b.F,i64 b.B,i64 b.To]) Tryz.sizeOf51 g5 rfl rfl rfl rfl rfl (fO rfl) rfl rfl (fun g6 (x:aI G K (box J 51 [i64 b.F,i64 b.B,i64 b.To]::aR 2 K l m d::box j 27 q::L) g6)=>(aG (aO (dO (fun f w=>∃ (b3:Bool),nT d k b b3=some a2∧f 1=zS a7 o.length c8∧f 2=str p∧f 3=zP (some ⟨j,0,none⟩)∧f 7=zS l d.length m∧f 9=zP (some ⟨J,0,none⟩)∧f 11=zS a4 t.E.length c5∧f 12=i64 (t.E.length:Int)∧f 13=i64 k∧f 30=zB b3∧aI G K (box J 51 [i64 b.F,i64 b.B,i64 b.To]::aR 2 K l m d::box j 27 q::L) w) ?_ ?_)))))))
   ·rintro f j2 ⟨b3,a,d2,d3,d4,d5,g7,d6,d7,d8,d9,b4⟩
    unfold nT at a
    refine aA ?_
    rcases aH a with ⟨b5,a⟩|⟨b5,a⟩
    ·refine aM b5 d9 (aP (aN d5 (aD (bL (t':=2) iC g7 rfl) (aD (dG bY b4 (i:=0) rfl rfl rfl) (cJ (Kt:=K) (xs:=([b.To]:List Int)) (cs:=[i64 b.To]) (vs:=[(0,i64 b.To)]) bO jU rfl rfl b4 rfl (by kernel_rfl) rfl rfl rfl ⟨rfl,trivial⟩ (fun g8 g9 (h0:aI G K (aR 2 K g8 1 ([b.To]:List Int)::box J 51 [i64 b.F,i64 b.B,i64 b.To]::aR 2 K l m d::box j 27 q::L) g9)=>?_))))))
     obtain ⟨b6,h1,a⟩:=aC a
     exact eK (i:=1) bO Tryz.underlying40 jU rfl rfl h0 rfl (zR _) (zR _) h1 rfl rfl rfl rfl (fun _ h=>h) (fun b7 b8 h2 (h4:aI G K (box J 51 [i64 b.F,i64 b.B,i64 b.To]::aR 2 K b7 b8 b6::box j 27 q::L) h2)=>(aF (v:=zS b7 b6.length b8) (bM (bA (aA ⟨b6,b7,b8,a,d2,d3,d4,rfl,d6,d7,d8,(aI.arr 1 [] h4 rfl)⟩)))))
    ·exact aJ b5 d9 (aY (bA (aA ⟨d,l,m,a,d2,d3,d4,d5,d6,d7,d8,(aI.arr 1 [] b4 rfl)⟩)))
   refine aP (aD (bL (t':=2) gV a6 rfl) (aD (dG oC x (i:=2) rfl rfl rfl) (aD (bL (t':=1) iZ rfl rfl) (aD (dG bY x (i:=0) rfl rfl rfl) ?_))))
   obtain ⟨h5,e0,a⟩:=aC a
   refine aD (cU dM rfl h3 rfl rfl rfl e0) ?_
   obtain ⟨j3,h7,h8⟩:=bX.el (sz:=1) rfl h3 e0
   cases h8
   refine aD (bG (t:=0) yF x h7 rfl rfl) (aN a5 (aD (aBd rfl rfl) (aL (v:=zB (h5 == p)) ?_)))
   rcases aH a with ⟨e,a⟩|⟨e,a⟩
   ·refine bB e rfl rfl (aN a3 (bB e rfl rfl (aD (bL (t':=0) iY rfl rfl) (bB e rfl rfl (aD (dG bY x (i:=0) rfl rfl rfl) (bB e rfl rfl ?_))))))
    obtain ⟨e1,i0,a⟩:=aC a
    refine aQ (vs:=[zS a7 o.length c8,i64 b.F]) Tryz.call130 rfl (lM x h9 i0) ?_
    rintro _ j4 ⟨rfl,i1⟩
    exact aD (bF (v:=zB e1) e rfl rfl) (aG ⟨e1,a,a3,a5,a6,a8,rfl,a9,b0,V,rfl,i1⟩)
   ·exact aU e rfl rfl (aU e rfl rfl (aU e rfl rfl (aU e rfl rfl (aD (bH (v:=zB false) e rfl rfl) (aG ⟨false,a,a3,a5,a6,a8,rfl,a9,b0,V,rfl,x⟩)))))
  ·refine aJ b2 rfl (cA (aV (aV ?_)))
   have i2:=f4 _ (zI a).symm
   subst i2
   have c:(nR d)=some R:=c
   exact bN (aA ⟨d,l,m,c,a8,(aI.arr 2 [0] b1 rfl)⟩)
theorem wD {b R:(List Int)} (e:aI G K (L) w) (g:bX K a1 c2 b) (a:jA b=some R):
  Calls Tryz.prog 167 ([zS a1 b.length c2]:List Value).toArray w (gQ fun v w'=>∃ (h:Option Addr) (j:Nat),v=zS h R.length j∧aI G K (aR 2 K h j R::L) w'):=by
 refine aS Tryz.func167 rfl (by kernel_rfl) (by show (1:Nat)≤8;decide) ?_
 unfold jA at a
 refine aK (aF (v:=zS none 0 0) (aG (aO (aK (aL (v:=zS a1 b.length c2) (aD (R_isNil bO rfl rfl) (aG ?_)))))))
 rcases nil_cases g with ⟨l,m,n⟩|o
 ·subst l;subst m;subst n
  refine W_cond_t rfl ?_
  replace a:(some [])=some R:=a
  refine aK (aF (v:=zS none 0 0) (aG ?_))
  have p:=aI.nil (α:=Int) e 2 K
  obtain rfl:=zI a
  exact bK (aX (bE Tryz.results167 rfl ⟨none,0,rfl,p⟩))
 ·refine W_cond_f (Eq.trans rfl (congrArg zB o)) (aY (aA (aK (cJ (Kt:=K) (xs:=([]:List Int)) (cs:=[]) (vs:=[]) bO jU rfl rfl e rfl (by kernel_rfl) rfl rfl rfl trivial (fun r t (u:aI G K (aR 2 K r 0 ([]:List Int)::L) t)=>(aL (v:=zS a1 b.length c2) ?_))))))
  obtain ⟨k,x,a⟩:=aC a
  refine aAr (i:=0) bO Tryz.underlying40 jU rfl rfl u rfl (zR _) g x rfl rfl rfl rfl (fun c d y (z:aI G K (aR 2 K c d k::L) y)=>(aF (v:=zS c k.length d) (aG ?_)))
  obtain rfl:=zI a
  exact bK (bE Tryz.results167 rfl ⟨c,d,rfl,z⟩)
theorem aAA {t:cD} {z R:(List Int)} (hs:aI G K (L) w) (h3:bX K a1 c2 t.L) (h6:bX K a4 c5 t.E) (h9:bX K a7 c8 z) (c:pQ t z=some R):
  Calls Tryz.prog 128 ([zA (zCa t a1 c2 a4 c5),zS a7 z.length c8]:List Value).toArray w (gQ fun v w'=>∃ (d6:Option Addr) (d7:Nat),v=zS d6 R.length d7∧aI G K (aR 2 K d6 d7 R::L) w'):=by
 let j:=(zC t a1 c2 a4 c5)
 refine aS Tryz.func128 rfl (by kernel_rfl) (by show (2:Nat)≤41;decide) ?_
 unfold pQ at c
 refine aK (eA (v:=zA (zCa t a1 c2 a4 c5)) (vs:=j) hs rfl rfl (fun d l8 f7=>(aF (v:=zS none 0 0) (aG (aK (aL (v:=zS a7 z.length c8) ?_))))))
 obtain ⟨f8,f9,c⟩:=aC c
 refine aQ (vs:=[zS a7 z.length c8]) Tryz.call167 rfl (wD f7 h9 f9) ?_
 rintro _ l9 ⟨d8,d9,rfl,g0⟩
 refine aF (v:=zS d8 f8.length d9) (aG (aO (aK (aF (v:=i64 0) (aG (aZ (fun f w=>∃ (J:List Int) (l:Option Addr) (m:Nat),oH J=some R∧f 5=zS l J.length m∧aI G K (aR 2 K l m J::L) w) ?_ ?_))))))
 ·rintro f m0 ⟨J,l,m,c,e0,g1⟩
  unfold oH at c
  refine aA (aK (aN e0 ?_))
  obtain ⟨e1,g2,c⟩:=aC c
  refine aQ (vs:=[zS l J.length m]) Tryz.call89 rfl (aDd g1 g2) ?_
  rintro _ m1 ⟨rfl,g3,g4⟩
  refine aG (aK (aN (v:=zS l e1.length m) (Eq.trans e0 (congrArg (fun n=>zS l n m) g3)) (aF (v:=zS l e1.length m) (aG ?_))))
  obtain rfl:=zI c
  exact bK (bE Tryz.results128 rfl ⟨l,m,rfl,g4⟩)
 obtain ⟨m2,g6,c⟩:=aC c
 refine cC g6 (fun (s:(List Int × Int)) f w=>match s with|(p,e)=>∃ (V:Option Addr) (c48:Nat),f 2=zP (some ⟨d,0,none⟩)∧f 5=zS V p.length c48∧f 6=i64 e∧aI G K (aR 2 K V c48 p::box d 27 j::L) w) ?_ ?_
 ·exact ⟨d8,d9,rfl,rfl,rfl,g0⟩
 ·rintro ⟨p,e⟩ a8 f m3 a g7 ⟨V,c48,e2,a9,b9,e3⟩
  replace a:lJ t p e=some a8:=a
  unfold lJ at a
  refine aO (aK (aN b9 (aN a9 (aD (bT (len:=p.length) bO rfl) (aD (cT rfl rfl) (aG ?_))))))
  rcases aH a with ⟨c0,a⟩|⟨c0,a⟩
  ·refine aM c0 rfl (aY (aA (aO (aZ (fun f w=>∃ (Z:List Int) (b0:Option Addr) (b1:Nat),sE e Z=some a8∧f 2=zP (some ⟨d,0,none⟩)∧f 5=zS b0 Z.length b1∧f 6=i64 e∧aI G K (aR 2 K b0 b1 Z::box d 27 j::L) w) ?_ ?_))))
   ·rintro f m4 ⟨Z,b0,b1,a,g8,g9,h0,h1⟩
    unfold sE at a
    exact aA (aP (aN h0 (aD (cK rfl rfl) (aF (v:=i64 (wr (e+1))) (aG ⟨(Z,wr (e+1)),(zI a).symm,b0,b1,g8,g9,rfl,h1⟩)))))
   refine aO ?_
   obtain ⟨m5,c1,e4,h2,h4⟩:=aI.lendS (i:=0) e3 (zR _) rfl
   obtain ⟨e5,a0,h5,e6,h7⟩:=aI.lendB (i:=0) h2 rfl
   refine dQ (C:=fun w'=>∃ L',aI G e5 L' w') [(0,0),(1,0),(2,0),(3,0),(4,0),(8,0),(5,1),(6,1),(7,0)] bP (by kernel_rfl) (fun _ hg=>⟨_,aI.mono e6 hg⟩) (fun m6 h8=>?_)
   have a2:=aI.mono e6 h8
   refine bJ rfl (fun _ ⟨_,a2⟩=>iD (t:=0) (vs:=j) dB a2 h5 e2 rfl rfl) (bJ rfl (fun _ _=>aW a9) (bJ rfl (fun _ _=>aW b9) ?_))
   obtain ⟨a3,c3,a⟩:=aC a
   have i0:=aEQ (e4.mono a0) c3
   refine bJ rfl (fun _ _=>eM bO rfl i0 rfl rfl rfl c3) ?_
   obtain ⟨m7,i1,i2⟩:=bX.el (sz:=1) rfl (e4.mono a0) c3
   cases i2
   refine bJ rfl (fun _ ⟨_,a2⟩=>bG (t:=0) bY a2 i1 rfl rfl) (bJ rfl (fun _ _=>aW (v:=i64 0) rfl) (gZ rfl (cJ (Kt:=K) (xs:=([a3]:List Int)) (cs:=[i64 a3]) (vs:=[(0,i64 a3)]) bO jU rfl rfl a2 rfl (by kernel_rfl) rfl rfl rfl ⟨rfl,trivial⟩ (fun e7 i3 (e8:aI G e5 (aR 2 K e7 1 ([a3]:List Int)::L) i3)=>(bM (aA ⟨⟨_,e8⟩,?_⟩))))))
   refine gZ rfl ?_
   obtain ⟨m8,e9,i4,i5,i6⟩:=aI.lendS (i:=0) e8 (zL c1 a0) rfl
   obtain ⟨g,i7,a⟩:=aC a
   refine aQ (vs:=[zA (zCa t a1 c2 a4 c5),zS e7 ([a3]:List Int).length 1,str ([116,97,117]:bI)]) Tryz.call97 rfl (sG i5 (h3.mono (zL (zL c1 a0) e9)) (h6.mono (zL (zL c1 a0) e9)) i4 i7) ?_
   rintro _ m9 ⟨x,y,rfl,i8⟩
   have f0:=i6 _ _ i8
   refine bM (aA ⟨⟨_,f0⟩,?_⟩)
   refine bJ rfl (fun _ _=>bT (len:=g.length) bO rfl) (gR ?_)
   have i9:=h7 _ _ f0
   have j0:=h4 _ _ i9
   refine aA (aZ (fun f w=>∃ (a5:List Int) (b2:Option Addr) (b3:Nat),oI e a5=some a8∧f 2=zP (some ⟨d,0,none⟩)∧f 5=zS b2 a5.length b3∧f 6=i64 e∧aI G K (aR 2 K b2 b3 a5::box d 27 j::L) w) ?_ ?_)
   ·rintro f n0 ⟨a5,b2,b3,a,j1,j2,j3,j4⟩
    unfold oI at a
    exact bA (aA ⟨a5,b2,b3,a,j1,j2,j3,j4⟩)
   obtain ⟨n1,j5,a⟩:=aC a
   refine cC j5 (fun (s:(List Int × Int)) f w=>match s with|(k,q)=>∃ (r:Option Addr) (u:Nat),f 2=zP (some ⟨d,0,none⟩)∧f 5=zS r k.length u∧f 6=i64 e∧f 23=zS x g.length y∧f 24=i64 (g.length:Int)∧f 25=i64 q∧aI G K (aR 2 K r u k::box d 27 j::aR 2 K x y g::L) w) ?_ ?_
   ·exact ⟨V,c48,e2,a9,b9,rfl,rfl,rfl,(aI.arr 3 [0,1] j0 rfl)⟩
   ·rintro ⟨k,q⟩ f1 f n2 b j6 ⟨r,u,c4,b4,c6,c7,c9,b5,b6⟩
    replace b:kE g k q=some f1:=b
    unfold kE at b
    refine aK (aD (cT b5 c9) (aG (aO ?_)))
    rcases aH b with ⟨d0,b⟩|⟨d0,b⟩
    ·refine aM d0 rfl (aY (aA (aO (aZ (fun f w=>∃ (a6:List Int) (b7:Option Addr) (b8:Nat),oJ q a6=some f1∧f 2=zP (some ⟨d,0,none⟩)∧f 5=zS b7 a6.length b8∧f 6=i64 e∧f 23=zS x g.length y∧f 24=i64 (g.length:Int)∧f 25=i64 q∧aI G K (aR 2 K b7 b8 a6::box d 27 j::aR 2 K x y g::L) w) ?_ ?_))))
     ·rintro f n3 ⟨a6,b7,b8,b,j7,j8,j9,k0,k1,k2,k3⟩
      unfold oJ at b
      exact aA (aP (aD (cK k2 rfl) (aL (v:=i64 (wr (q+1))) (aG ⟨(a6,wr (q+1)),(zI b).symm,b7,b8,j7,j8,j9,k0,k1,rfl,k3⟩))))
     refine aK ?_
     obtain ⟨o,d1,b⟩:=aC b
     have k4:=dZ b6 (i:=2) rfl d1
     refine aD (eM bO rfl k4 c7 rfl b5 d1) (aD (lB (t:=0) bY b6 (i:=2) rfl d1 rfl rfl rfl) (aF (v:=i64 o) (aG (aK (aN b4 (aL (v:=i64 o) ?_))))))
     obtain ⟨n4,n5,k5,k6,k7⟩:=aI.lendS (i:=0) b6 (zR _) rfl
     obtain ⟨n6,k8,b⟩:=aC b
     refine aQ (vs:=[zS r k.length u,i64 o]) Tryz.call130 rfl (lM k6 k5 k8) ?_
     rintro _ n7 ⟨rfl,k9⟩
     have f2:=k7 _ _ k9
     refine aD (eR rfl) (aG ?_)
     rcases aH b with ⟨d2,b⟩|⟨d2,b⟩
     ·refine aM d2 rfl (aP (aN b4 (aL (v:=i64 o) (cJ (Kt:=K) (xs:=([o]:List Int)) (cs:=[i64 o]) (vs:=[(0,i64 o)]) bO jU rfl rfl f2 rfl (by kernel_rfl) rfl rfl rfl ⟨rfl,trivial⟩ (fun l0 l1 (l2:aI G K (aR 2 K l0 1 ([o]:List Int)::aR 2 K r u k::box d 27 j::aR 2 K x y g::L) l1)=>?_)))))
      obtain ⟨d3,l3,b⟩:=aC b
      exact eK (i:=0) bO Tryz.underlying40 jU rfl rfl l2 rfl (zR _) (zR _) l3 rfl rfl rfl rfl (fun _ h=>h) (fun d4 d5 l4 (l5:aI G K (aR 2 K d4 d5 d3::box d 27 j::aR 2 K x y g::L) l4)=>(aF (v:=zS d4 d3.length d5) (bM (bA (aA ⟨d3,d4,d5,b,c4,rfl,c6,c7,c9,b5,l5⟩)))))
     ·exact aJ d2 rfl (aY (bA (aA ⟨k,r,u,b,c4,b4,c6,c7,c9,b5,f2⟩)))
    ·refine aJ d0 rfl (cA (aV (aV ?_)))
     have l6:=j6 _ (zI b).symm
     subst l6
     have a:(oI e k)=some a8:=a
     exact bN (aA ⟨k,r,u,a,c4,b4,c6,(aI.arr 3 [0,1] b6 rfl)⟩)
  ·refine aJ c0 rfl (cA (aV (aV ?_)))
   have l7:=g7 _ (zI a).symm
   subst l7
   have c:(oH p)=some R:=c
   exact bN (aA ⟨p,V,c48,c,a9,(aI.arr 2 [0] e3 rfl)⟩)
theorem aEz {t:cD} {c:(List Int)} {e:bI} {R:(List Int)} (x:aI G K (L) w) (h:bX K a1 c2 t.L) (j:bX K a4 c5 t.E) (y:bX K a7 c8 c) (a:vA t c e=some R):
  Calls Tryz.prog 129 ([zA (zCa t a1 c2 a4 c5),zS a7 c.length c8,str e]:List Value).toArray w (gQ fun v w'=>∃ (k:Option Addr) (l:Nat),v=zS k R.length l∧aI G K (aR 2 K k l R::L) w'):=by
 let g:=(zC t a1 c2 a4 c5)
 refine aS Tryz.func129 rfl (by kernel_rfl) (by show (3:Nat)≤13;decide) ?_
 unfold vA at a
 refine aK (eA (v:=zA (zCa t a1 c2 a4 c5)) (vs:=g) x rfl rfl (fun b5 b6 z=>(aF (v:=zS none 0 0) (aG (aO ?_)))))
 obtain ⟨J,b,m,n,V⟩:=aI.lendB (i:=0) z rfl
 refine dQ (C:=fun w'=>∃ L',aI G J L' w') [(0,0),(1,0),(2,0),(3,0),(4,1),(5,1),(6,0)] bP (by kernel_rfl) (fun _ hg=>⟨_,aI.mono n hg⟩) (fun b7 Z=>?_)
 have d:=aI.mono n Z
 refine bJ rfl (fun _ ⟨_,d⟩=>iD (t:=0) (vs:=g) dB d m rfl rfl rfl) (bJ rfl (fun _ ⟨_,d⟩=>iD (t:=0) (vs:=g) dB d m rfl rfl rfl) (bJ rfl (fun _ _=>aW (v:=zS a7 c.length c8) rfl) (bJ rfl (fun _ _=>aW (v:=str e) rfl) (gZ rfl ?_))))
 obtain ⟨a0,a2,a⟩:=aC a
 refine aQ (vs:=[zA (zCa t a1 c2 a4 c5),zS a7 c.length c8,str e]) Tryz.call97 rfl (sG d (h.mono b) (j.mono b) (y.mono b) a2) ?_
 rintro _ b8 ⟨a3,a5,rfl,o⟩
 refine bM (aA ⟨⟨_,o⟩,?_⟩)
 refine gZ rfl ?_
 obtain ⟨b9,p,a6,a8,a9⟩:=aI.lendS (i:=0) o b rfl
 obtain ⟨b0,b1,a⟩:=aC a
 refine aQ (vs:=[zA (zCa t a1 c2 a4 c5),zS a3 a0.length a5]) Tryz.call128 rfl (aAA a8 (h.mono (zL b p)) (j.mono (zL b p)) a6 b1) ?_
 rintro _ c0 ⟨q,r,rfl,b2⟩
 have u:=a9 _ _ b2
 refine bM (aA ⟨⟨_,u⟩,?_⟩)
 refine bJ rfl (fun _ _=>gB (v:=zS q b0.length r) rfl) (gR ?_)
 have b3:=V _ _ u
 refine aA ?_
 obtain rfl:=zI a
 exact bK (bE Tryz.results129 rfl ⟨q,r,rfl,(aI.arr 2 [] b3 rfl)⟩)
theorem aBI {t:cD} {k:Int} {d:bI} {R:(List Int)} (z:aI G K (L) w) (l:bX K a1 c2 t.L) (m:bX K a4 c5 t.E) (a:tZ t k d=some R):
  Calls Tryz.prog 95 ([zA (zCa t a1 c2 a4 c5),i64 k,str d]:List Value).toArray w (gQ fun v w'=>∃ (n:Option Addr) (o:Nat),v=zS n R.length o∧aI G K (aR 2 K n o R::L) w'):=by
 let g:=(zC t a1 c2 a4 c5)
 refine aS Tryz.func95 rfl (by kernel_rfl) (by show (3:Nat)≤19;decide) ?_
 unfold tZ at a
 refine aK (eA (v:=zA (zCa t a1 c2 a4 c5)) (vs:=g) z rfl rfl (fun J w8 p=>(aF (v:=zS none 0 0) (aG (aK (aD (cS (us:=g) dB p (i:=0) rfl rfl rfl rfl) (aL (v:=i64 k) (cJ (Kt:=K) (xs:=([k]:List Int)) (cs:=[i64 k]) (vs:=[(0,i64 k)]) bO jU rfl rfl p rfl (by kernel_rfl) rfl rfl rfl ⟨rfl,trivial⟩ (fun q V (Z:aI G K (aR 2 K q 1 ([k]:List Int)::box J 27 g::L) V)=>?_)))))))))
 obtain ⟨b8,r,a0,a2,a3⟩:=aI.lendS (i:=0) Z (zR _) rfl
 obtain ⟨e,a5,a⟩:=aC a
 refine aQ (vs:=[zA (zCa t a1 c2 a4 c5),zS q ([k]:List Int).length 1]) Tryz.call128 rfl (aAA a2 (l.mono r) (m.mono r) a0 a5) ?_
 rintro _ b9 ⟨b,c,rfl,a6⟩
 have h:=a3 _ _ a6
 refine aF (v:=zS b e.length c) (aG (aO (aK (aL (v:=str d) (aD (aBd rfl rfl) (aG ?_))))))
 rcases aH a with ⟨j,a⟩|⟨j,a⟩
 ·refine aM j rfl (aK (aL (v:=zS b e.length c) (aF (v:=zS b e.length c) (aG ?_))))
  obtain rfl:=zI a
  exact bK (aX (bE Tryz.results95 rfl ⟨b,c,rfl,(aI.arr 3 [1] h rfl)⟩))
 ·refine aJ j rfl (aY (aA (aK (aD (cS (us:=g) dB h (i:=2) rfl rfl rfl rfl) (aL (v:=zS b e.length c) (aL (v:=str d) ?_))))))
  obtain ⟨c0,u,a8,a9,b0⟩:=aI.lendS (i:=1) h (zR _) rfl
  obtain ⟨b1,b2,a⟩:=aC a
  refine aQ (vs:=[zA (zCa t a1 c2 a4 c5),zS b e.length c,str d]) Tryz.call129 rfl (aEz a9 (l.mono u) (m.mono u) a8 b2) ?_
  rintro _ c1 ⟨x,y,rfl,b3⟩
  have b4:=b0 _ _ b3
  refine aF (v:=zS x b1.length y) (aG ?_)
  obtain rfl:=zI a
  exact bK (bE Tryz.results95 rfl ⟨x,y,rfl,(aI.arr 4 [1] b4 rfl)⟩)
theorem iW {d g:(List bI)} {R:Bool} (l:aI G K (L) w) (m:bX K a1 c2 d) (n:bX K a4 c5 g) (a:dV d g=some R):
  Calls Tryz.prog 48 ([zS a1 d.length c2,zS a4 g.length c5]:List Value).toArray w (gQ fun v w'=>v=zB R∧aI G K (L) w'):=by
 refine aS Tryz.func48 rfl (by kernel_rfl) (by show (2:Nat)≤26;decide) ?_
 unfold dV at a
 refine aK (aF (v:=zB false) (aG (aO (aK (aL (v:=zS a1 d.length c2) (aD (bT (len:=d.length) dM rfl) (aL (v:=zS a4 g.length c5) (aD (bT (len:=g.length) dM rfl) (aD (uK rfl rfl) (aG ?_))))))))))
 rcases aH a with ⟨h,a⟩|⟨h,a⟩
 ·refine aM h rfl (aK (aF (v:=zB false) (aG ?_)))
  obtain rfl:=zI a
  exact bK (aX (bE Tryz.results48 rfl ⟨rfl,l⟩))
 ·refine aJ h rfl (aY (aA (aO (aK (aL (v:=zS a1 d.length c2) (aD (bT (len:=d.length) dM rfl) (aL (v:=i64 0) (aG (aZ (fun f w=>gM=some R∧aI G K (L) w) ?_ ?_)))))))))
  ·rintro f w9 ⟨a,J⟩
   unfold gM at a
   refine aA (aK (aF (v:=zB true) (aG ?_)))
   obtain rfl:=zI a
   exact bK (bE Tryz.results48 rfl ⟨rfl,J⟩)
  obtain ⟨b1,Z,a⟩:=aC a
  refine cC Z (fun (e:Int) f w=>f 0=zS a1 d.length c2∧f 1=zS a4 g.length c5∧f 12=i64 (d.length:Int)∧f 13=i64 e∧aI G K (L) w) ?_ ?_
  ·exact ⟨rfl,rfl,rfl,rfl,l⟩
  ·rintro e a0 f b2 b o ⟨p,q,r,i,c⟩
   replace b:eD d g e=some a0:=b
   unfold eD at b
   refine aK (aD (cT i r) (aG (aO ?_)))
   rcases aH b with ⟨j,b⟩|⟨j,b⟩
   ·refine aM j rfl (aY (aA (aO (cI (aK (aN i (aF (v:=i64 e) (aG (aO (eL (C:=fun w'=>aI G K (L) w') bP (by kernel_rfl) (aI.mono c (dN.drew _)) (bC (fun _ c=>aW p) (bC (fun _ c=>aW (v:=i64 e) rfl) ?_))))))))))))
    obtain ⟨b3,u,b⟩:=aC b
    refine bC (fun _ c=>cU dM rfl m rfl rfl rfl u) ?_
    obtain ⟨b4,a2,a3⟩:=bX.el (sz:=1) rfl m u
    cases a3
    refine bC (fun _ c=>bG (t:=0) yF c a2 rfl rfl) (bC (fun _ c=>aW q) (bC (fun _ c=>aW (v:=i64 e) rfl) ?_))
    obtain ⟨b5,x,b⟩:=aC b
    refine bC (fun _ c=>cU dM rfl n rfl rfl rfl x) ?_
    obtain ⟨b6,a5,a6⟩:=bX.el (sz:=1) rfl n x
    cases a6
    refine bC (fun _ c=>bG (t:=0) yF c a5 rfl rfl) (bC (fun _ c=>aJq rfl rfl) (fT (fun b7 y=>(aA ?_))))
    rcases aH b with ⟨k,b⟩|⟨k,b⟩
    ·refine aM k rfl (aK (aF (v:=zB false) (aG (bK (bS (aX (aX ?_)))))))
     have a7:=o _ (zI b).symm
     subst a7
     have a:(some false)=some R:=a
     obtain rfl:=zI a
     exact bS (aX (aX (bE Tryz.results48 rfl ⟨rfl,y⟩)))
    ·exact aJ k rfl (aY (bA (aA (aP (aD (cK i rfl) (aL (v:=i64 (wr (e+1))) (aG ⟨wr (e+1),(zI b).symm,p,q,r,rfl,y⟩)))))))
   ·refine aJ j rfl (cA (aV (aV ?_)))
    have a9:=o _ (zI b).symm
    subst a9
    have a:(gM)=some R:=a
    exact bN (aA ⟨a,c⟩)
theorem aAp {a y:Int} {d:Nat} {b:(List ((Int × Int) × Bool))} {e:Nat} {R:Bool} (c:aI G K (L) w) (h:fP K a1 d [Value.map (some e)]) (i:rdM K e b) (g:nU a y b=some R):
  Calls Tryz.prog 50 ([i64 a,i64 y,cP a1 d]:List Value).toArray w (gQ fun v w'=>v=zB R∧aI G K (L) w'):=by
 refine aS Tryz.func50 rfl (by kernel_rfl) (by show (3:Nat)≤11;decide) ?_
 unfold nU at g
 refine aK (aF (v:=zB false) (aG (aK (aD (bG (t:=0) aFa c h rfl rfl) (aL (v:=i64 a) (aL (v:=i64 y) (aD (aBZ (vs:=[(0,i64 a),(1,i64 y)]) (cs:=[i64 a,i64 y]) aCD aIK rfl (by kernel_rfl)) (aD (aKs (kv:=b) (k:=⟨a,y⟩) (z:=(false:Bool)) Tryz.runUnderlying56 aHg Tryz.zeroValue4 c i rfl rfl) (aF (v:=zB ((kZ b ⟨a,y⟩).getD false)) (aG ?_))))))))))
 obtain rfl:=zI g
 exact bK (bE Tryz.results50 rfl ⟨rfl,c⟩)
theorem aFh {a:Int} {d:Nat} {k l:Int} {e:(List bI)} {g:(List Edge)} {m n:Int} {h:(List bI)} {i:(List Edge)} {b:Nat} {o:(List ((Int × Int) × Bool))} {r19:Nat} {p:Int} {q:Nat} {R:Bool} (j:aI G K (L) w) (r:fP K a1 d [i64 k,i64 l,zS a4 e.length c5,zS a7 g.length c8,i64 m,i64 n,zS a10 h.length c11,zS a13 i.length c14,Value.func (.func 50) #[] #[cP a16 b]]) (h6:bX K a4 c5 e) (h9:bX K a7 c8 g) (a3:bX K a10 c11 h) (a5:bX K a13 c14 i) (u:fP K a16 b [Value.map (some r19)]) (x:rdM K r19 o) (y:fP K a21 q [i64 p]) (c:aAO a k l e g m n h i o p=some R):
  Calls Tryz.prog 96 ([i64 a,cP a1 d,cP a21 q]:List Value).toArray w (gQ fun v w'=>v=zB R∧aI G K (L) w'):=by
 refine aS Tryz.func96 rfl (by kernel_rfl) (by show (3:Nat)≤10;decide) ?_
 unfold aAO at c
 refine aK (aF (v:=zB false) (aG (aK (aD (cG (k':=d+8) aGJ rfl r rfl) (aD (bG (t:=8) sc_67 j r rfl rfl) (aD (bG (t:=0) bY j y rfl rfl) (aL (v:=i64 a) ?_)))))))
 obtain ⟨z,J,c⟩:=aC c
 refine mS (vs:=[i64 p,i64 a]) (caps:=[cP a16 b]) (us:=[i64 p,i64 a,cP a16 b]) rfl Tryz.call50 rfl rfl (aAp j u x J) ?_
 rintro _ a6 ⟨rfl,V⟩
 refine aF (v:=zB z) (aG ?_)
 obtain rfl:=zI c
 exact bK (bE Tryz.results96 rfl ⟨rfl,V⟩)
theorem rI {d:(List Int)} {e:Nat} {l m:Int} {h:(List bI)} {i:(List Edge)} {n o:Int} {j:(List bI)} {k:(List Edge)} {z:Nat} {p:(List ((Int × Int) × Bool))} {J:Nat} {q:Int} {g:Nat} {R:Int} (hs:aI G K (L) w) (V:bX K a1 c2 d) (h6:fP K a4 e [i64 l,i64 m,zS a7 h.length c8,zS a10 i.length c11,i64 n,i64 o,zS a13 j.length c14,zS a16 k.length c17,Value.func (.func 50) #[] #[cP a19 z]]) (h9:bX K a7 c8 h) (b2:bX K a10 c11 i) (b3:bX K a13 c14 j) (b4:bX K a16 c17 k) (b5:fP K a19 z [Value.map (some J)]) (b6:rdM K J p) (b7:fP K a24 g [i64 q]) (b:fY d l m h i n o j k p q=some R):
  Calls Tryz.prog 127 ([zS a1 d.length c2,Value.func (.func 96) #[] #[cP a4 e,cP a24 g]]:List Value).toArray w (gQ fun v w'=>v=i64 R∧aI G K (L) w'):=by
 refine aS Tryz.func127 rfl (by kernel_rfl) (by show (2:Nat)≤19;decide) ?_
 unfold fY at b
 refine aK (aF (v:=i64 0) (aG (aO (aK (aL (v:=zS a1 d.length c2) (aD (bT (len:=d.length) bO rfl) (aL (v:=i64 0) (aG (aZ (fun f w=>fK=some R∧aI G K (L) w) ?_ ?_)))))))))
 ·rintro f d0 ⟨b,b8⟩
  unfold fK at b
  refine aA (aK (aF (v:=i64 (-1)) (aG ?_)))
  obtain rfl:=zI b
  exact bK (bE Tryz.results127 rfl ⟨rfl,b8⟩)
 obtain ⟨d1,c0,b⟩:=aC b
 refine cC c0 (fun (c:Int) f w=>f 0=zS a1 d.length c2∧f 1=Value.func (.func 96) #[] #[cP a4 e,cP a24 g]∧f 7=i64 (d.length:Int)∧f 8=i64 c∧aI G K (L) w) ?_ ?_
 ·exact ⟨rfl,rfl,rfl,rfl,hs⟩
 ·rintro c c1 f d2 a Z ⟨a0,a2,a3,r,u⟩
  replace a:dJ d l m h i n o j k p q c=some c1:=a
  unfold dJ at a
  refine aK (aD (cT r a3) (aG (aO ?_)))
  rcases aH a with ⟨x,a⟩|⟨x,a⟩
  ·refine aM x rfl (aY (aA (aO (cI (aK (aN r (aF (v:=i64 c) (aG (aK (aN a2 (aN a0 (aL (v:=i64 c) ?_))))))))))))
   obtain ⟨a5,a6,a⟩:=aC a
   refine aD (cU bO rfl V rfl rfl rfl a6) ?_
   obtain ⟨d3,c3,c4⟩:=bX.el (sz:=1) rfl V a6
   cases c4
   refine aD (bG (t:=0) bY u c3 rfl rfl) ?_
   obtain ⟨d4,c5,a⟩:=aC a
   refine mS (vs:=[i64 a5]) (caps:=[cP a4 e,cP a24 g]) (us:=[i64 a5,cP a4 e,cP a24 g]) rfl Tryz.call96 rfl rfl (aFh u h6 h9 b2 b3 b4 b5 b6 b7 c5) ?_
   rintro _ d5 ⟨rfl,a8⟩
   refine aG ?_
   rcases aH a with ⟨y,a⟩|⟨y,a⟩
   ·refine aM y rfl (aK (aL (v:=i64 c) (aF (v:=i64 c) (aG (bK (bS (aX (aX ?_))))))))
    have c6:=Z _ (zI a).symm
    subst c6
    have b:(some c)=some R:=b
    obtain rfl:=zI b
    exact bS (aX (aX (bE Tryz.results127 rfl ⟨rfl,a8⟩)))
   ·exact aJ y rfl (aY (bA (aA (aP (aD (cK r rfl) (aL (v:=i64 (wr (c+1))) (aG ⟨wr (c+1),(zI a).symm,a0,a2,a3,rfl,a8⟩)))))))
  ·refine aJ x rfl (cA (aV (aV ?_)))
   have c9:=Z _ (zI a).symm
   subst c9
   have b:(fK)=some R:=b
   exact bN (aA ⟨b,u⟩)
theorem pW {a:(List Int)} {b:Nat} {j k:Int} {e:(List bI)} {g:(List Edge)} {l m:Int} {h:(List bI)} {i:(List Edge)} {n:Nat} {o:(List ((Int × Int) × Bool))} {p:Nat} {q:Int} {c:Nat} {R:Bool} (r:aI G K (L) w) (t:bX K a1 c2 a) (u:fP K a4 b [i64 j,i64 k,zS a7 e.length c8,zS a10 g.length c11,i64 l,i64 m,zS a13 h.length c14,zS a16 i.length c17,Value.func (.func 50) #[] #[cP a19 n]]) (x:bX K a7 c8 e) (y:bX K a10 c11 g) (z:bX K a13 c14 h) (J:bX K a16 c17 i) (V:fP K a19 n [Value.map (some p)]) (Z:rdM K p o) (a0:fP K a24 c [i64 q]) (d:eF a j k e g l m h i o q=some R):
  Calls Tryz.prog 94 ([zS a1 a.length c2,Value.func (.func 96) #[] #[cP a4 b,cP a24 c]]:List Value).toArray w (gQ fun v w'=>v=zB R∧aI G K (L) w'):=by
 refine aS Tryz.func94 rfl (by kernel_rfl) (by show (2:Nat)≤9;decide) ?_
 unfold eF at d
 refine aK (aF (v:=zB false) (aG (aK (aL (v:=zS a1 a.length c2) (aL (v:=Value.func (.func 96) #[] #[cP a4 b,cP a24 c]) ?_)))))
 obtain ⟨a2,a3,d⟩:=aC d
 refine aQ (vs:=[zS a1 a.length c2,Value.func (.func 96) #[] #[cP a4 b,cP a24 c]]) Tryz.call127 rfl (rI r t u x y z J V Z a0 a3) ?_
 rintro _ a8 ⟨rfl,a5⟩
 refine aD (uJ rfl rfl) (aF (v:=zB (decide (0≤a2))) (aG ?_))
 obtain rfl:=zI d
 exact bK (bE Tryz.results94 rfl ⟨rfl,a5⟩)
theorem aFi {r_a r_b:cD} {e:Nat} {j:(List ((Int × Int) × Bool))} {r16:Nat} {k y:Int} {g:bI} {h:Int} {R:Bool} (q:aI G K (L) w) (r:bX K a1 c2 r_a.L) (t:bX K a4 c5 r_a.E) (l:bX K a7 c8 r_b.L) (m:bX K a10 c11 r_b.E) (u:fP K a13 e [Value.map (some r16)]) (x:rdM K r16 j) (c:uA r_a r_b j k y g h=some R):
  Calls Tryz.prog 64 ([zA #[i64 r_a.N,i64 r_a.I,zS a1 r_a.L.length c2,zS a4 r_a.E.length c5,i64 r_b.N,i64 r_b.I,zS a7 r_b.L.length c8,zS a10 r_b.E.length c11,Value.func (.func 50) #[] #[cP a13 e]],i64 k,i64 y,str g,i64 h]:List Value).toArray w (gQ fun v w'=>v=zB R∧aI G K (L) w'):=by
 refine aS Tryz.func64 rfl (by kernel_rfl) (by show (5:Nat)≤18;decide) ?_
 unfold uA at c
 refine aK (eA (v:=zA #[i64 r_a.N,i64 r_a.I,zS a1 r_a.L.length c2,zS a4 r_a.E.length c5,i64 r_b.N,i64 r_b.I,zS a7 r_b.L.length c8,zS a10 r_b.E.length c11,Value.func (.func 50) #[] #[cP a13 e]]) (vs:=[i64 r_a.N,i64 r_a.I,zS a1 r_a.L.length c2,zS a4 r_a.E.length c5,i64 r_b.N,i64 r_b.I,zS a7 r_b.L.length c8,zS a10 r_b.E.length c11,Value.func (.func 50) #[] #[cP a13 e]]) q rfl rfl (fun n c1 z=>(eA (v:=i64 h) (vs:=[i64 h]) z rfl rfl (fun o c3 p=>(aF (v:=zB false) (aG (aK (aD (bL (t':=4) aDC rfl rfl) (aD (cS (us:=(zC r_b a7 c8 a10 c11)) dB p (i:=1) rfl rfl rfl rfl) (aL (v:=i64 y) (aL (v:=str g) ?_)))))))))))
 obtain ⟨J,V,c⟩:=aC c
 refine aQ (vs:=[zA (zCa r_b a7 c8 a10 c11),i64 y,str g]) Tryz.call95 rfl (aBI p l m V) ?_
 rintro _ c4 ⟨Z,a0,rfl,a2⟩
 refine aD (vW (vs:=[zP (some ⟨n,0,none⟩),zP (some ⟨o,0,none⟩)]) rfl) ?_
 obtain ⟨c6,d,a3,a5,a6⟩:=aI.lendS (i:=0) a2 (zR _) rfl
 obtain ⟨c7,b,a8,a9,b0⟩:=aI.lendB (i:=1) a5 rfl
 obtain ⟨c9,a,b1,b2,b3⟩:=aI.lendB (i:=0) a9 rfl
 obtain ⟨b4,b5,c⟩:=aC c
 refine aQ (vs:=[zS Z J.length a0,Value.func (.func 96) #[] #[cP (some ⟨n,0,none⟩) 0,cP (some ⟨o,0,none⟩) 0]]) Tryz.call94 rfl (pW b2 (a3.mono (zL b a)) (a8.mono a) (r.mono (zL (zL d b) a)) (t.mono (zL (zL d b) a)) (l.mono (zL (zL d b) a)) (m.mono (zL (zL d b) a)) (u.mono (zL (zL d b) a)) (x.mono (zL (zL d b) a)) b1 b5) ?_
 rintro _ d0 ⟨rfl,b6⟩
 have b7:=b3 _ _ b6
 have b8:=b0 _ _ b7
 have b9:=a6 _ _ b8
 refine aF (v:=zB b4) (aG ?_)
 obtain rfl:=zI c
 exact bK (bE Tryz.results64 rfl ⟨rfl,(aI.arr 3 [] b9 rfl)⟩)
end Gv
