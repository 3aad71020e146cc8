/- Walks, printed by program. -/
import Derived.Test.YtnpdckpkipjngaaGreatDoorKWk3
import Derived.Test.YtnpdckpkipjngaaGreatDoorKWk4
import Derived.Test.YtnpdckpkipjngaaGreatDoorKWk5
import Derived.Test.YtnpdckpkipjngaaGreatDoorKWk10
set_option linter.all false
namespace Gv
open Go.Value renaming slice→zS,bool→zB,pointer→zP,agg→zA,tuple→zT,map→zM
open Option.some renaming inj→zI
open Gv.Hp renaming le_trans→zL,le_refl→zR
open Go Go.Proofs
set_option maxRecDepth 20000
set_option maxHeartbeats 40000000
variable {G:Env} {K Kf:Hp} {L:List nD} {w:World} {a1 a4 a7 a10 a13 a6 a9 a12 a15 a18 a21 a24 a27 a29 a2 a5 a8 a11 a14 a17 a20 a23 a25 a28 a32 a16:Option Addr} {c2 c5 c8 c11 c14 b4 b5 c7 c10 c13 c16 c19 c22 c25 c28 b1 c3 c6 c9 c12 c15 c18 c21 c24 c26 b31 c17 b6:Nat}
theorem aJO {list:(List aZ)} {R:Bool} (hs:aN G K (L) w) (h3:cJ K a1 c2 list) (hm:aDh list=some R):
  Calls Tryz.prog 108 ([zS a1 list.length c2]:List Value).toArray w (gV fun v w'=>v=zB R∧aN G K (L) w'):=by
 refine aW Tryz.func108 rfl (by kernel_rfl) (by show (1:Nat)≤32;decide) ?_
 unfold aDh at hm
 refine aH (aC (aB (aG (v:=zB false) rfl) (aD (aA (aH (aH (aC (aB (aF (v:=zS a1 list.length c2) rfl) (aB (bR (len:=list.length) cE rfl) (aB (aF (v:=i64 0) rfl) (aD (aA (bJ (fun f w=>yB list=some R∧f 0=zS a1 list.length c2∧aN G K (L) w) ?_ ?_)))))))))))))
 ·rintro f w5 ⟨hm,e4,c4⟩
  unfold yB at hm
  refine aA (aH (aC (aB (aF e4) (aB (bR (len:=list.length) cE rfl) (aB (aED rfl rfl) (aB (aG (v:=zB (decide ((list.length:Int)≤12))) rfl) (aD (aA ?_))))))))
  cases zI hm
  exact bC (bA Tryz.results108 rfl ⟨rfl,c4⟩)
 obtain ⟨e1,c6,hm⟩:=aJ hm
 refine cP c6 (fun (a4:Int) f w=>f 0=zS a1 list.length c2∧f 5=zS a1 list.length c2∧f 6=i64 (list.length:Int)∧f 7=i64 a4∧aN G K (L) w) ?_ ?_
 ·exact ⟨rfl,rfl,rfl,rfl,hs⟩
 ·rintro a4 b6 f e2 a0 b7 ⟨a8,a9,b0,a6,b2⟩
  replace a0:tJ list a4=some b6:=a0
  unfold tJ at a0
  refine aH (aC (aB (cK a6 b0) (aD (aA (aH ?_)))))
  rcases aM a0 with ⟨b3,a0⟩|⟨b3,a0⟩
  ·refine aQ b3 rfl (aY (aA (aH (cQ (aH (aC (aB (aF a6) ?_)))))))
   obtain ⟨a5,b8,a0⟩:=aJ a0
   refine aB (cV cE rfl h3 a9 rfl a6 b8) ?_
   obtain ⟨e3,c7,c8⟩:=cJ.el (sz:=1) rfl h3 b8
   cases c8
   refine aB (bP (t:=0) qR b2 c7 rfl rfl) (aB (aG (v:=i64 a4) rfl) (aB (aG (v:=cR a5) rfl) (aD (aA (aH (cU (fun f w=>∃ (b4:Bool),tI a4 b4=some b6∧f 0=zS a1 list.length c2∧f 5=zS a1 list.length c2∧f 6=i64 (list.length:Int)∧f 7=i64 a4∧f 27=zB b4∧aN G K (L) w) ?_ ?_))))))
   ·rintro f w50 ⟨b4,a0,c9,d0,d1,d2,b9,c0⟩
    unfold tI at a0
    refine aA ?_
    rcases aM a0 with ⟨b5,a0⟩|⟨b5,a0⟩
    ·refine aQ b5 b9 (aH (aC (aB (aG (v:=zB false) rfl) (aD (aA (bC (bN (aS (aS ?_)))))))))
     have d3:=b7 _ (zI a0).symm
     subst d3
     have hm:(some false)=some R:=hm
     cases zI hm
     exact bN (aS (aS (bA Tryz.results108 rfl ⟨rfl,c0⟩)))
    ·exact aO b5 b9 (aY (bO (aA (aC (aB (cY d2 rfl) (aB (aF (v:=i64 (wr (a4+1))) rfl) (aD (aA ⟨wr (a4+1),(zI a0).symm,c9,d0,d1,rfl,c0⟩))))))))
   refine aC (aB (aF (v:=cR a5) rfl) ?_)
   obtain ⟨d5,d6,a0⟩:=aJ a0
   refine aX (vs:=[cR a5]) Tryz.call150 rfl (aEv b2 d6) ?_
   rintro _ e5 ⟨rfl,b1⟩
   refine aB (eP rfl) (aB (aF (v:=zB (!d5)) rfl) ?_)
   rcases aM a0 with ⟨a3,a0⟩|⟨a3,a0⟩
   ·exact aV a3 rfl rfl (aV a3 rfl rfl (aV a3 rfl rfl (dG (g:=18) rfl rfl (dG (g:=18) rfl rfl (dG (g:=18) rfl rfl (dG (g:=18) rfl rfl (dG (g:=18) rfl rfl (dG (g:=18) rfl rfl (dG (g:=18) rfl rfl (aV a3 rfl rfl (aB (bH (v:=zB true) a3 rfl rfl) (aD (aA ⟨true,a0,a8,a9,b0,a6,rfl,b1⟩)))))))))))))
   ·refine bI a3 rfl rfl (aB (aF (v:=i64 a4) rfl) (bI a3 rfl rfl (aB (lJ rfl rfl) (bI a3 rfl rfl (aB (aF (v:=zB (decide (0 < a4))) rfl) ?_)))))
    rcases aM a0 with ⟨a2,a0⟩|⟨a2,a0⟩
    ·refine bK a2 rfl rfl (aB (aF (v:=cR a5) rfl) (bK a2 rfl rfl (aB (aF a8) (bK a2 rfl rfl (aB (aF (v:=i64 a4) rfl) (bK a2 rfl rfl (aB (hY rfl rfl) (bK a2 rfl rfl ?_))))))))
     obtain ⟨a7,c1,a0⟩:=aJ a0
     refine aB (cV cE rfl h3 rfl rfl rfl c1) ?_
     obtain ⟨e6,d7,d8⟩:=cJ.el (sz:=1) rfl h3 c1
     cases d8
     exact bK a2 rfl rfl (aB (bP (t:=0) qR b1 d7 rfl rfl) (bK a2 rfl rfl (aB (R_leqS rfl rfl) (bI a3 rfl rfl (aB (bH (v:=zB (qW a5 a7||a5 == a7)) a2 rfl rfl) (aB (bL (v:=zB (qW a5 a7||a5 == a7)) a3 rfl rfl) (aD (aA ⟨(qW a5 a7||a5 == a7),a0,a8,a9,b0,a6,rfl,b1⟩))))))))
    ·exact bE a2 rfl rfl (bE a2 rfl rfl (bE a2 rfl rfl (bE a2 rfl rfl (bE a2 rfl rfl (bE a2 rfl rfl (bE a2 rfl rfl (bI a3 rfl rfl (aB (bL (v:=zB false) a2 rfl rfl) (aB (bL (v:=zB false) a3 rfl rfl) (aD (aA ⟨false,a0,a8,a9,b0,a6,rfl,b1⟩)))))))))))
  ·refine aO b3 rfl (cN (bB (bB ?_)))
   have d9:=b7 _ (zI a0).symm
   subst d9
   have hm:(yB list)=some R:=hm
   exact bS (aA ⟨hm,a8,b2⟩)
theorem aCz {p:cI} {R:Bool} (hs:aN G K (L) w) (hG:G.lo=0) (h3:cJ K a1 c2 p.S.L) (h6:cJ K a4 c5 p.S.E) (h9:cJ K a7 c8 p.M) (h12:cJ K a10 c11 p.C) (hm:tK p=some R):
  Calls Tryz.prog 60 ([zA (zEa p a1 c2 a4 c5 a7 c8 a10 c11)]:List Value).toArray w (gV fun v w'=>v=zB R∧aN G K (L) w'):=by
 refine aW Tryz.func60 rfl (by kernel_rfl) (by show (1:Nat)≤18;decide) ?_
 unfold tK at hm
 refine aH (aC (fC (v:=zA (zEa p a1 c2 a4 c5 a7 c8 a10 c11)) (vs:=(zE p a1 c2 a4 c5 a7 c8 a10 c11)) hs rfl rfl (fun b9 c0 a9=>(aB (aG (v:=zB false) rfl) (aD (aA (aH (cU (fun f w=>∃ (a5:Bool),mL a5=some R∧f 2=zB a5∧aN G K (L) w) ?_ ?_))))))))
 ·rintro f c1 ⟨a5,hm,b1,b2⟩
  unfold mL at hm
  refine aA ?_
  cases zI hm
  exact bC (bA Tryz.results60 rfl ⟨b1,b2⟩)
 refine aC (aB (bD (t':=0) kK rfl rfl) (aB (dO (us:=(zC p.S a1 c2 a4 c5)) kE a9 (i:=0) rfl rfl rfl rfl) ?_))
 obtain ⟨b4,b5,hm⟩:=aJ hm
 refine aX (vs:=[zA (zCa p.S a1 c2 a4 c5)]) Tryz.call34 rfl (tS a9 hG h3 h6 b5) ?_
 rintro _ c3 ⟨rfl,a3⟩
 refine aB (aF (v:=zB b4) rfl) ?_
 rcases aM hm with ⟨a0,hm⟩|⟨a0,hm⟩
 ·refine bK a0 rfl rfl (aB (bD (t':=0) kK rfl rfl) (bK a0 rfl rfl (aB (dO (us:=(zC p.S a1 c2 a4 c5)) kE a3 (i:=0) rfl rfl rfl rfl) (bK a0 rfl rfl (aB (bD (t':=4) sV rfl rfl) (bK a0 rfl rfl (aB (bY kD a3 (i:=0) rfl rfl rfl) (bK a0 rfl rfl ?_))))))))
  obtain ⟨b0,b6,hm⟩:=aJ hm
  refine aX (vs:=[zA (zCa p.S a1 c2 a4 c5),zS a7 p.M.length c8]) Tryz.call107 rfl (aFJ a3 h3 h6 h9 b6) ?_
  rintro _ c4 ⟨rfl,a6⟩
  refine aB (bH (v:=zB b0) a0 rfl rfl) (aB (aF (v:=zB b0) rfl) ?_)
  rcases aM hm with ⟨a2,hm⟩|⟨a2,hm⟩
  ·refine bK a2 rfl rfl (aB (bD (t':=5) aAU rfl rfl) (bK a2 rfl rfl (aB (bY jK a6 (i:=0) rfl rfl rfl) (bK a2 rfl rfl ?_))))
   obtain ⟨a8,b7,hm⟩:=aJ hm
   refine aX (vs:=[zS a10 p.C.length c11]) Tryz.call108 rfl (aJO a6 h12 b7) ?_
   rintro _ c6 ⟨rfl,b8⟩
   exact aB (bH (v:=zB a8) a2 rfl rfl) (aB (aG (v:=zB a8) rfl) (aD (aA ⟨a8,hm,rfl,(aN.arr 1 [] b8 rfl)⟩)))
  ·exact bE a2 rfl rfl (bE a2 rfl rfl (bE a2 rfl rfl (aB (bL (v:=zB false) a2 rfl rfl) (aB (aG (v:=zB false) rfl) (aD (aA ⟨false,hm,rfl,(aN.arr 1 [] a6 rfl)⟩))))))
 ·exact bE a0 rfl rfl (bE a0 rfl rfl (bE a0 rfl rfl (bE a0 rfl rfl (bE a0 rfl rfl (aB (bL (v:=zB false) a0 rfl rfl) (aB (aF (v:=zB false) rfl) (bE (by decide:¬ false=true) rfl rfl (bE (by decide:¬ false=true) rfl rfl (bE (by decide:¬ false=true) rfl rfl (aB (bL (v:=zB false) (by decide:¬ false=true) rfl rfl) (aB (aG (v:=zB false) rfl) (aD (aA ⟨false,hm,rfl,(aN.arr 1 [] a3 rfl)⟩)))))))))))))
theorem aFK {t:cH} {R:Bool} (hs:aN G K (L) w) (hG:G.lo=0) (h3:cJ K a1 c2 t.L) (h6:cJ K a4 c5 t.E) (hm:yC t=some R):
  Calls Tryz.prog 97 ([zA (zCa t a1 c2 a4 c5)]:List Value).toArray w (gV fun v w'=>v=zB R∧aN G K (L) w'):=by
 refine aW Tryz.func97 rfl (by kernel_rfl) (by show (1:Nat)≤6;decide) ?_
 unfold yC at hm
 refine aH (aC (fC (v:=zA (zCa t a1 c2 a4 c5)) (vs:=(zC t a1 c2 a4 c5)) hs rfl rfl (fun b7 w8 a0=>(aB (aG (v:=zB false) rfl) (aD (aA (aH (aC (aB (dO (us:=(zC t a1 c2 a4 c5)) kE a0 (i:=0) rfl rfl rfl rfl) ?_)))))))))
 obtain ⟨a2,a3,hm⟩:=aJ hm
 refine aX (vs:=[zA (zCa t a1 c2 a4 c5)]) Tryz.call34 rfl (tS a0 hG h3 h6 a3) ?_
 rintro _ a9 ⟨rfl,a5⟩
 refine aB (eP rfl) (aB (aG (v:=zB (!a2)) rfl) (aD (aA ?_)))
 cases zI hm
 exact bC (bA Tryz.results97 rfl ⟨rfl,(aN.arr 1 [] a5 rfl)⟩)
theorem pA {s_:(List cH)} {R:Int} (hs:aN G K (L) w) (hG:G.lo=0) (h3:cJ K a1 c2 s_) (hm:dU s_=some R):
  Calls Tryz.prog 143 ([zS a1 s_.length c2,Value.func (.func 97) #[] #[]]:List Value).toArray w (gV fun v w'=>v=i64 R∧aN G K (L) w'):=by
 refine aW Tryz.func143 rfl (by kernel_rfl) (by show (2:Nat)≤19;decide) ?_
 unfold dU at hm
 refine aH (aC (aB (aG (v:=i64 0) rfl) (aD (aA (aH (aH (aC (aB (aF (v:=zS a1 s_.length c2) rfl) (aB (bR (len:=s_.length) sl_130 rfl) (aB (aF (v:=i64 0) rfl) (aD (aA (bJ (fun f w=>eI=some R∧aN G K (L) w) ?_ ?_)))))))))))))
 ·rintro f w4 ⟨hm,b8⟩
  unfold eI at hm
  refine aA (aH (aC (aB (aG (v:=i64 (-1)) rfl) (aD (aA ?_)))))
  cases zI hm
  exact bC (bA Tryz.results143 rfl ⟨rfl,b8⟩)
 obtain ⟨d2,c0,hm⟩:=aJ hm
 refine cP c0 (fun (a3:Int) f w=>f 0=zS a1 s_.length c2∧f 1=Value.func (.func 97) #[] #[]∧f 7=i64 (s_.length:Int)∧f 8=i64 a3∧aN G K (L) w) ?_ ?_
 ·exact ⟨rfl,rfl,rfl,rfl,hs⟩
 ·rintro a3 c1 f d3 a0 b2 ⟨b3,b4,b5,a4,a5⟩
  replace a0:eJ s_ a3=some c1:=a0
  unfold eJ at a0
  refine aH (aC (aB (cK a4 b5) (aD (aA (aH ?_)))))
  rcases aM a0 with ⟨a6,a0⟩|⟨a6,a0⟩
  ·refine aQ a6 rfl (aY (aA (aH (cQ (aH (aC (aB (aF a4) (aB (aG (v:=i64 a3) rfl) (aD (aA (aH (aC (aB (aF b4) (aB (aF b3) (aB (aF (v:=i64 a3) rfl) ?_)))))))))))))))
   obtain ⟨a2,b6,a0⟩:=aJ a0
   refine aB (cV sl_130 rfl h3 rfl rfl rfl b6) ?_
   obtain ⟨d4,c3,c4⟩:=cJ.el (sz:=4) rfl h3 b6
   obtain ⟨a7,a8,a9,b0,rfl,c5,c6⟩:=c4
   refine aB (iU (t:=0) (vs:=(zC a2 a7 a8 a9 b0)) kE a5 c3 rfl rfl rfl) ?_
   obtain ⟨d5,c7,a0⟩:=aJ a0
   refine tZ (vs:=[zA (zCa a2 a7 a8 a9 b0)]) (caps:=[]) (us:=[zA (zCa a2 a7 a8 a9 b0)]) rfl Tryz.call97 rfl rfl (aFK a5 hG c5 c6 c7) ?_
   rintro _ d6 ⟨rfl,b7⟩
   refine aD (aA ?_)
   rcases aM a0 with ⟨b1,a0⟩|⟨b1,a0⟩
   ·refine aQ b1 rfl (aH (aC (aB (aF (v:=i64 a3) rfl) (aB (aG (v:=i64 a3) rfl) (aD (aA (bC (bN (aS (aS ?_))))))))))
    have c8:=b2 _ (zI a0).symm
    subst c8
    have hm:(some a3)=some R:=hm
    cases zI hm
    exact bN (aS (aS (bA Tryz.results143 rfl ⟨rfl,b7⟩)))
   ·exact aO b1 rfl (aY (bO (aA (aC (aB (cY a4 rfl) (aB (aF (v:=i64 (wr (a3+1))) rfl) (aD (aA ⟨wr (a3+1),(zI a0).symm,b3,b4,b5,rfl,b7⟩))))))))
  ·refine aO a6 rfl (cN (bB (bB ?_)))
   have d0:=b2 _ (zI a0).symm
   subst d0
   have hm:(eI)=some R:=hm
   exact bS (aA ⟨hm,a5⟩)
theorem nB {s_:(List cH)} {R:Bool} (hs:aN G K (L) w) (hG:G.lo=0) (h3:cJ K a1 c2 s_) (hm:eK s_=some R):
  Calls Tryz.prog 96 ([zS a1 s_.length c2,Value.func (.func 97) #[] #[]]:List Value).toArray w (gV fun v w'=>v=zB R∧aN G K (L) w'):=by
 refine aW Tryz.func96 rfl (by kernel_rfl) (by show (2:Nat)≤9;decide) ?_
 unfold eK at hm
 refine aH (aC (aB (aG (v:=zB false) rfl) (aD (aA (aH (aC (aB (aF (v:=zS a1 s_.length c2) rfl) (aB (aF (v:=Value.func (.func 97) #[] #[]) rfl) ?_))))))))
 obtain ⟨r4,q5,hm⟩:=aJ hm
 refine aX (vs:=[zS a1 s_.length c2,Value.func (.func 97) #[] #[]]) Tryz.call143 rfl (pA hs hG h3 q5) ?_
 rintro _ w6 ⟨rfl,a3⟩
 refine aB (yL rfl rfl) (aB (aG (v:=zB (decide (0≤r4))) rfl) (aD (aA ?_)))
 cases zI hm
 exact bC (bA Tryz.results96 rfl ⟨rfl,a3⟩)
theorem aHX {p:cI} {list:(List cH)} {R:Int} (hs:aN G K (L) w) (hG:G.lo=0) (h3:cJ K a1 c2 p.S.L) (h6:cJ K a4 c5 p.S.E) (h9:cJ K a7 c8 p.M) (h12:cJ K a10 c11 p.C) (h15:cJ K a13 c14 list) (hm:aAE p list=some R):
  Calls Tryz.prog 54 ([zA (zEa p a1 c2 a4 c5 a7 c8 a10 c11),zS a13 list.length c14]:List Value).toArray w (gV fun v w'=>v=i64 R∧aN G K (L) w'):=by
 refine aW Tryz.func54 rfl (by kernel_rfl) (by show (2:Nat)≤12;decide) ?_
 unfold aAE at hm
 refine aH (aC (fC (v:=zA (zEa p a1 c2 a4 c5 a7 c8 a10 c11)) (vs:=(zE p a1 c2 a4 c5 a7 c8 a10 c11)) hs rfl rfl (fun b7 b8 a5=>(aB (aG (v:=i64 0) rfl) (aD (aA (aH (aH (cU (fun f w=>∃ (a2:Bool),sM a2=some R∧f 11=zB a2∧aN G K (L) w) ?_ ?_)))))))))
 ·rintro f b9 ⟨a2,hm,a6,a8⟩
  unfold sM at hm
  refine aA ?_
  rcases aM hm with ⟨a3,hm⟩|⟨a3,hm⟩
  ·refine aQ a3 a6 (aH (aC (aB (aG (v:=i64 1) rfl) (aD (aA ?_)))))
   cases zI hm
   exact bC (aS (bA Tryz.results54 rfl ⟨rfl,a8⟩))
  ·refine aO a3 a6 (aY (aA (aH (aC (aB (aG (v:=i64 0) rfl) (aD (aA ?_)))))))
   cases zI hm
   exact bC (bA Tryz.results54 rfl ⟨rfl,a8⟩)
 refine aC (aB (dO (us:=(zE p a1 c2 a4 c5 a7 c8 a10 c11)) nV a5 (i:=0) rfl rfl rfl rfl) ?_)
 obtain ⟨b3,b4,hm⟩:=aJ hm
 refine aX (vs:=[zA (zEa p a1 c2 a4 c5 a7 c8 a10 c11)]) Tryz.call60 rfl (aCz a5 hG h3 h6 h9 h12 b4) ?_
 rintro _ c0 ⟨rfl,a9⟩
 refine aB (eP rfl) (aB (aF (v:=zB (!b3)) rfl) ?_)
 rcases aM hm with ⟨a0,hm⟩|⟨a0,hm⟩
 ·exact aV a0 rfl rfl (aV a0 rfl rfl (aB (bH (v:=zB true) a0 rfl rfl) (aD (aA ⟨true,hm,rfl,(aN.arr 1 [] a9 rfl)⟩))))
 ·refine bI a0 rfl rfl (aB (aF (v:=zS a13 list.length c14) rfl) (bI a0 rfl rfl ?_))
  obtain ⟨b0,b5,hm⟩:=aJ hm
  refine aX (vs:=[zS a13 list.length c14,Value.func (.func 97) #[] #[]]) Tryz.call96 rfl (nB a9 hG h15 b5) ?_
  rintro _ c1 ⟨rfl,b6⟩
  exact aB (bL (v:=zB b0) a0 rfl rfl) (aD (aA ⟨b0,hm,rfl,(aN.arr 1 [] b6 rfl)⟩))
theorem aDq {t:cH} {k:Int} {label:aZ} {R:(Int × Bool)} (hs:aN G K (L) w) (h3:cJ K a1 c2 t.L) (h6:cJ K a4 c5 t.E) (hm:wI t k label=some R):
  Calls Tryz.prog 145 ([zA (zCa t a1 c2 a4 c5),i64 k,cR label]:List Value).toArray w (gV fun v w'=>v=zT #[i64 R.1,zB R.2]∧aN G K (L) w'):=by
 refine aW Tryz.func145 rfl (by kernel_rfl) (by show (3:Nat)≤22;decide) ?_
 unfold wI at hm
 refine aH (aC (fC (v:=zA (zCa t a1 c2 a4 c5)) (vs:=(zC t a1 c2 a4 c5)) hs rfl rfl (fun b7 w8 a5=>(aB (aG (v:=i64 0) rfl) (aB (aG (v:=zB false) rfl) (aD (aA (aH (aH (aC (aB (bD (t':=2) iO rfl rfl) (aB (bY jK a5 (i:=0) rfl rfl rfl) (aB (aF (v:=cR label) rfl) ?_)))))))))))))
 obtain ⟨b3,a6,hm⟩:=aJ hm
 refine aX (vs:=[zS a1 t.L.length c2,cR label]) Tryz.call121 rfl (rN a5 h3 a6) ?_
 rintro _ b4 ⟨rfl,a2⟩
 refine aB (eP rfl) (aD (aA ?_))
 rcases aM hm with ⟨a3,hm⟩|⟨a3,hm⟩
 ·refine aQ a3 rfl (aH (aC (aB (aF (v:=i64 k) rfl) (aB (aG (v:=i64 k) rfl) (aB (aG (v:=zB true) rfl) (aD (aA ?_)))))))
  cases zI hm
  exact bC (aS (qO Tryz.results145 rfl rfl ⟨rfl,(aN.arr 1 [] a2 rfl)⟩))
 ·refine aO a3 rfl (aY (aA (aH (aC (aB (dO (us:=(zC t a1 c2 a4 c5)) kE a2 (i:=0) rfl rfl rfl rfl) (aB (aF (v:=i64 k) rfl) (aB (aF (v:=cR label) rfl) ?_)))))))
  obtain ⟨a0,a8,hm⟩:=aJ hm
  refine aX (vs:=[zA (zCa t a1 c2 a4 c5),i64 k,cR label]) Tryz.call135 rfl (aIx a2 h3 h6 a8) ?_
  rintro _ b5 ⟨rfl,a9⟩
  refine aB (aG (v:=i64 a0) rfl) (aD (aA (aH (aC (aB (aF (v:=i64 a0) rfl) (aB (aF (v:=i64 a0) rfl) (aB (yL rfl rfl) (aB (aG (v:=i64 a0) rfl) (aB (aG (v:=zB (decide (0≤a0))) rfl) (aD (aA ?_)))))))))))
  cases zI hm
  exact bC (qO Tryz.results145 rfl rfl ⟨rfl,(aN.arr 1 [] a9 rfl)⟩)
theorem iM {pair:(Int × Int)} {path:(List aZ)} {p0_:Int} {p1_:Int} {p2_:(List aZ)} {p3_:(List Edge)} {p4_:(List Int)} {p5_:(List aZ)} {p6_:Int} {p7_:Int} {p8_:(List aZ)} {p9_:(List Edge)} {p10_:(List (List Int))} {p11_M:(List ((Int × Int) × Int))} {r26:Nat} {p12_:(List (List aZ))} {R:((List (List Int)) × (List ((Int × Int) × Int)) × (List (List aZ)))} (hs:aN G K (aK 31 Kf a24 c25 p10_::gX r26 p11_M::aK 22 Kf a27 c28 p12_::box b5 98 [i64 p0_,i64 p1_,zS a6 p2_.length c7,zS a9 p3_.length c10,zS a12 p4_.length c13,zS a15 p5_.length c16,i64 p6_,i64 p7_,zS a18 p8_.length c19,zS a21 p9_.length c22,zS a24 p10_.length c25,zM (some r26),zS a27 p12_.length c28]::box b4 92 [zP (some ⟨b5,0,none⟩)]::L) w) (hKf:Hp.le Kf K) (h3:cJ K a1 c2 path) (h8:cJ K a6 c7 p2_) (h11:cJ K a9 c10 p3_) (h14:cJ K a12 c13 p4_) (h17:cJ K a15 c16 p5_) (h20:cJ K a18 c19 p8_) (h23:cJ K a21 c22 p9_) (hm:kV pair path p0_ p1_ p2_ p3_ p4_ p5_ p6_ p7_ p8_ p9_ p10_ p11_M p12_=some R):
  Calls Tryz.prog 98 ([zA #[i64 pair.1,i64 pair.2],zS a1 path.length c2,zP (some ⟨b4,0,none⟩)]:List Value).toArray w (gV fun v w'=>∃ (K':Hp) (ra1:Option Addr) (rc1:Nat) (ra2:Option Addr) (rc2:Nat),v=zT #[]∧Hp.le K K'∧aN G K' (aK 31 K' ra1 rc1 R.1::gX r26 R.2.1::aK 22 K' ra2 rc2 R.2.2::box b5 98 [i64 p0_,i64 p1_,zS a6 p2_.length c7,zS a9 p3_.length c10,zS a12 p4_.length c13,zS a15 p5_.length c16,i64 p6_,i64 p7_,zS a18 p8_.length c19,zS a21 p9_.length c22,zS ra1 R.1.length rc1,zM (some r26),zS ra2 R.2.2.length rc2]::box b4 92 [zP (some ⟨b5,0,none⟩)]::L) w'):=by
 refine aW Tryz.func98 rfl (by kernel_rfl) (by show (3:Nat)≤52;decide) ?_
 unfold kV at hm
 refine aH (aC (fC (v:=zA #[i64 pair.1,i64 pair.2]) (vs:=[i64 pair.1,i64 pair.2]) hs rfl rfl (fun a2 i4 a0=>(aD (aA (aH (cW (C:=fun w'=>aN G K (box a2 132 [i64 pair.1,i64 pair.2]::aK 31 Kf a24 c25 p10_::gX r26 p11_M::aK 22 Kf a27 c28 p12_::box b5 98 [i64 p0_,i64 p1_,zS a6 p2_.length c7,zS a9 p3_.length c10,zS a12 p4_.length c13,zS a15 p5_.length c16,i64 p6_,i64 p7_,zS a18 p8_.length c19,zS a21 p9_.length c22,zS a24 p10_.length c25,zM (some r26),zS a27 p12_.length c28]::box b4 92 [zP (some ⟨b5,0,none⟩)]::L) w') bQ (by kernel_rfl) (aN.mono a0 (dE.drew _)) (aT (fun _ a0=>bY aAn a0 (i:=5) rfl rfl rfl) (aT (fun _ a0=>eR rfl) (aT (fun _ a0=>bD (t':=11) fa_98_3 rfl rfl) (aT (fun _ a0=>bY sc_95 a0 (i:=4) rfl rfl rfl) (aT (fun _ a0=>dO (us:=[i64 pair.1,i64 pair.2]) aLI a0 (i:=0) rfl rfl rfl rfl) (aT (fun _ a0=>R_look (kv:=p11_M) (k:=pair) (z:=(0:Int)) Tryz.runUnderlying95 aJa Tryz.zeroValue2 a0 (i:=2) rfl rfl rfl) (aT (fun _ a0=>aF (v:=zT #[i64 ((mF p11_M pair).getD 0),zB ((mF p11_M pair).isSome)]) rfl) (aT (fun _ a0=>bX rfl rfl) (aT (fun _ a0=>bX rfl rfl) (aT (fun _ a0=>aG (v:=i64 ((mF p11_M pair).getD 0)) rfl) (aT (fun _ a0=>aG (v:=zB ((mF p11_M pair).isSome)) rfl) (dD (fun c5 c6=>(aA (aH (aC (aB (aF (v:=zB ((mF p11_M pair).isSome)) rfl) ?_))))))))))))))))))))))))
 refine aB (eP rfl) (aD (aA ?_))
 rcases aM hm with ⟨c0,hm⟩|⟨c0,hm⟩
 ·refine aQ c0 rfl (aH ?_)
  obtain ⟨i5,i6,e2,e3,e4⟩:=aN.lendB (i:=0) c6 rfl
  obtain ⟨i7,e5,c8,e6,e7⟩:=aN.lendB (i:=3) e3 rfl
  obtain ⟨e8,c1,c9,d0,e9⟩:=aN.lendB (i:=3) e6 rfl
  refine hJ (C:=fun w'=>∃ L',aN G e8 L' w') [(0,0),(1,0),(2,0),(3,0),(4,0),(5,0),(6,0),(7,0),(8,0),(9,0),(10,2)] bQ (by kernel_rfl) (fun _ hg=>⟨_,aN.mono d0 hg⟩) (fun i8 f0=>?_)
  have a5:=aN.mono d0 f0
  refine cD rfl (fun _ ⟨_,a5⟩=>bP (t:=0) aAn a5 c9 rfl rfl) (cD rfl (fun _ _=>eR rfl) (cD rfl (fun _ _=>bD (t':=11) fa_98_3 rfl rfl) (cD rfl (fun _ ⟨_,a5⟩=>bP (t:=11) sc_95 a5 (c8.mono c1) rfl rfl) (cD rfl (fun _ ⟨_,a5⟩=>iU (t:=0) (vs:=[i64 pair.1,i64 pair.2]) aLI a5 (e2.mono (zL e5 c1)) rfl rfl rfl) (cD rfl (fun _ ⟨_,a5⟩=>bP (t:=0) aAn a5 c9 rfl rfl) (cD rfl (fun _ _=>eR rfl) (cD rfl (fun _ _=>bD (t':=10) aCd rfl rfl) (cD rfl (fun _ ⟨_,a5⟩=>bP (t:=10) uD a5 (c8.mono c1) rfl rfl) (cD rfl (fun _ _=>bR (len:=p10_.length) eQ rfl) ?_)))))))))
  have f1:=e9 _ _ a5
  have f2:=e7 _ _ f1
  have f3:=e4 _ _ f2
  refine aGd rfl ?_
  obtain ⟨a7,f4,hm⟩:=aJ hm
  refine aMV (i:=4) (k:=pair) (v:=(p10_.length:Int)) Tryz.runUnderlying95 aJa f3 rfl rfl rfl rfl f4 (fun d1 (f5:aN G K (box a2 132 [i64 pair.1,i64 pair.2]::box b5 98 [i64 p0_,i64 p1_,zS a6 p2_.length c7,zS a9 p3_.length c10,zS a12 p4_.length c13,zS a15 p5_.length c16,i64 p6_,i64 p7_,zS a18 p8_.length c19,zS a21 p9_.length c22,zS a24 p10_.length c25,zM (some r26),zS a27 p12_.length c28]::box b4 92 [zP (some ⟨b5,0,none⟩)]::aK 31 Kf a24 c25 p10_::gX r26 a7::aK 22 Kf a27 c28 p12_::L) d1)=>(aD (aA (qQ (aA (aH ?_))))))
  have d2:aN G K (box a2 132 [i64 pair.1,i64 pair.2]::box b5 98 [i64 p0_,i64 p1_,zS a6 p2_.length c7,zS a9 p3_.length c10,zS a12 p4_.length c13,zS a15 p5_.length c16,i64 p6_,i64 p7_,zS a18 p8_.length c19,zS a21 p9_.length c22,zS a24 p10_.length c25,zM (some r26),zS a27 p12_.length c28]::box b4 92 [zP (some ⟨b5,0,none⟩)]::aK 31 Kf a24 c25 p10_::gX r26 a7::aK 22 Kf a27 c28 p12_::L) d1:=f5
  refine hJ (C:=fun w'=>∃ L',aN G K (box a2 132 [i64 pair.1,i64 pair.2]::box b5 98 [i64 p0_,i64 p1_,zS a6 p2_.length c7,zS a9 p3_.length c10,zS a12 p4_.length c13,zS a15 p5_.length c16,i64 p6_,i64 p7_,zS a18 p8_.length c19,zS a21 p9_.length c22,zS a24 p10_.length c25,zM (some r26),zS a27 p12_.length c28]::box b4 92 [zP (some ⟨b5,0,none⟩)]::L') w') [(0,0),(1,0),(2,0),(3,0),(4,0),(5,0),(6,0),(7,1),(8,1),(9,1),(10,1),(11,1),(12,2),(13,2),(14,2)] bQ (by kernel_rfl) (fun _ hg=>⟨_,aN.mono d2 hg⟩) (fun i9 f6=>?_)
  have a4:=aN.mono d2 f6
  refine cD rfl (fun _ ⟨_,a4⟩=>bY aAn a4 (i:=2) rfl rfl rfl) (cD rfl (fun _ ⟨_,a4⟩=>bY aAn a4 (i:=2) rfl rfl rfl) (cD rfl (fun _ _=>eR rfl) (cD rfl (fun _ _=>bD (t':=10) aCd rfl rfl) (cD rfl (fun _ ⟨_,a4⟩=>bY uD a4 (i:=1) rfl rfl rfl) (cD rfl (fun _ _=>R_ixP (t':=0) (j:=0) aGh rfl rfl (by decide) (by decide) rfl) (cD rfl (fun _ ⟨_,a4⟩=>bY dF a4 (i:=0) rfl rfl rfl) (nZ rfl (aB (R_ixP (t':=1) (j:=1) aGh rfl rfl (by decide) (by decide) rfl) (aD (aA ⟨⟨_,a4⟩,?_⟩))))))))))
  refine nZ rfl (aB (bY dF a4 (i:=0) rfl rfl rfl) (aD (aA ⟨⟨_,a4⟩,?_⟩)))
  refine nZ rfl (dA (Kt:=K) (xs:=([pair.1,pair.2]:List Int)) (cs:=[i64 pair.1,i64 pair.2]) (vs:=[(0,i64 pair.1),(1,i64 pair.2)]) cG sU rfl rfl a4 rfl (by kernel_rfl) rfl rfl rfl ⟨rfl,rfl,trivial⟩ (fun b3 d3 (d4:aN G K (aK 2 K b3 2 ([pair.1,pair.2]:List Int)::box a2 132 [i64 pair.1,i64 pair.2]::box b5 98 [i64 p0_,i64 p1_,zS a6 p2_.length c7,zS a9 p3_.length c10,zS a12 p4_.length c13,zS a15 p5_.length c16,i64 p6_,i64 p7_,zS a18 p8_.length c19,zS a21 p9_.length c22,zS a24 p10_.length c25,zM (some r26),zS a27 p12_.length c28]::box b4 92 [zP (some ⟨b5,0,none⟩)]::aK 31 Kf a24 c25 p10_::gX r26 a7::aK 22 Kf a27 c28 p12_::L) d3)=>(aD (aA ⟨⟨_,(aN.arr 4 [1,2,3,0] d4 rfl)⟩,?_⟩))))
  refine nZ rfl ?_
  have f7:aN G K (rows [2] ([(b3,2)]:List (Dp.Hd (List Int))) [([pair.1,pair.2]:List Int)]::box a2 132 [i64 pair.1,i64 pair.2]::box b5 98 [i64 p0_,i64 p1_,zS a6 p2_.length c7,zS a9 p3_.length c10,zS a12 p4_.length c13,zS a15 p5_.length c16,i64 p6_,i64 p7_,zS a18 p8_.length c19,zS a21 p9_.length c22,zS a24 p10_.length c25,zM (some r26),zS a27 p12_.length c28]::box b4 92 [zP (some ⟨b5,0,none⟩)]::aK 31 Kf a24 c25 p10_::gX r26 a7::aK 22 Kf a27 c28 p12_::L) d3:=aN.rowsOne d4
  refine dA (Kt:=K) (xs:=bZ ([(b3,2)]:List (Dp.Hd (List Int))) ([([pair.1,pair.2]:List Int)]:List (List Int))) (cs:=[zS b3 ([pair.1,pair.2]:List Int).length 2]) (vs:=[(0,zS b3 ([pair.1,pair.2]:List Int).length 2)]) eQ yN rfl rfl f7 rfl (by kernel_rfl) rfl rfl rfl ⟨rfl,trivial⟩ ?_
  intro f8 d5 (d6:aN G K (aK 31 K f8 1 (bZ ([(b3,2)]:List (Dp.Hd (List Int))) ([([pair.1,pair.2]:List Int)]:List (List Int)))::rows [2] ([(b3,2)]:List (Dp.Hd (List Int))) ([([pair.1,pair.2]:List Int)]:List (List Int))::box a2 132 [i64 pair.1,i64 pair.2]::box b5 98 [i64 p0_,i64 p1_,zS a6 p2_.length c7,zS a9 p3_.length c10,zS a12 p4_.length c13,zS a15 p5_.length c16,i64 p6_,i64 p7_,zS a18 p8_.length c19,zS a21 p9_.length c22,zS a24 p10_.length c25,zM (some r26),zS a27 p12_.length c28]::box b4 92 [zP (some ⟨b5,0,none⟩)]::aK 31 Kf a24 c25 p10_::gX r26 a7::aK 22 Kf a27 c28 p12_::L) d5)
  refine aD (aA ⟨⟨_,(aN.arr 5 [2,3,4,0,1] d6 rfl)⟩,?_⟩)
  refine nZ rfl ?_
  obtain ⟨a3,b8,f9,_,c3,_⟩:=aN.lendD' (i:=0) d6 rfl rfl rfl
  replace c3:aN G a3 (box a2 132 [i64 pair.1,i64 pair.2]::box b5 98 [i64 p0_,i64 p1_,zS a6 p2_.length c7,zS a9 p3_.length c10,zS a12 p4_.length c13,zS a15 p5_.length c16,i64 p6_,i64 p7_,zS a18 p8_.length c19,zS a21 p9_.length c22,zS a24 p10_.length c25,zM (some r26),zS a27 p12_.length c28]::box b4 92 [zP (some ⟨b5,0,none⟩)]::aK 31 Kf a24 c25 p10_::gX r26 a7::aK 22 Kf a27 c28 p12_::L) d5:=c3
  obtain ⟨b1,g0,hm⟩:=aJ hm
  refine qP (i:=3) eQ Tryz.underlying49 yN rfl rfl c3 rfl (zL hKf b8) f9 g0 rfl rfl rfl rfl (fun a8 b0 g1 (d7:aN G a3 (box a2 132 [i64 pair.1,i64 pair.2]::box b5 98 [i64 p0_,i64 p1_,zS a6 p2_.length c7,zS a9 p3_.length c10,zS a12 p4_.length c13,zS a15 p5_.length c16,i64 p6_,i64 p7_,zS a18 p8_.length c19,zS a21 p9_.length c22,zS a24 p10_.length c25,zM (some r26),zS a27 p12_.length c28]::box b4 92 [zP (some ⟨b5,0,none⟩)]::aK 31 a3 a8 b0 b1::gX r26 a7::aK 22 Kf a27 c28 p12_::L) g1)=>(aD (aA ⟨⟨_,(aN.weakK d7 b8)⟩,?_⟩)))
  refine aGd rfl (aB (eR rfl) (aD (aA (aGd rfl (aB (bD (t':=10) aCd rfl rfl) (aD (aA (aGd rfl (cM (i:=1) (ns:=[zS a8 b1.length b0]) (us:=[i64 p0_,i64 p1_,zS a6 p2_.length c7,zS a9 p3_.length c10,zS a12 p4_.length c13,zS a15 p5_.length c16,i64 p6_,i64 p7_,zS a18 p8_.length c19,zS a21 p9_.length c22,zS a8 b1.length b0,zM (some r26),zS a27 p12_.length c28]) Tryz.sizeOf49 d7 rfl rfl rfl rfl rfl (eD rfl) rfl rfl (fun g2 (g3:aN G a3 (box a2 132 [i64 pair.1,i64 pair.2]::box b5 98 [i64 p0_,i64 p1_,zS a6 p2_.length c7,zS a9 p3_.length c10,zS a12 p4_.length c13,zS a15 p5_.length c16,i64 p6_,i64 p7_,zS a18 p8_.length c19,zS a21 p9_.length c22,zS a8 b1.length b0,zM (some r26),zS a27 p12_.length c28]::box b4 92 [zP (some ⟨b5,0,none⟩)]::aK 31 a3 a8 b0 b1::gX r26 a7::aK 22 Kf a27 c28 p12_::L) g2)=>(aD (aA (qQ (aA ?_))))))))))))))
  obtain ⟨j0,j1,g4,g5,g6⟩:=aN.lendB (i:=1) g3 rfl
  obtain ⟨c4,g7,d8,d9,g8⟩:=aN.lendB (i:=1) g5 rfl
  refine hJ (C:=fun w'=>∃ L',aN G c4 L' w') [(0,0),(1,0),(2,0),(3,0),(4,0),(5,1),(6,1),(7,1),(8,2),(9,2),(10,2)] bQ (by kernel_rfl) (fun _ hg=>⟨_,aN.mono d9 hg⟩) (fun j2 g9=>?_)
  have b2:=aN.mono d9 g9
  refine cD rfl (fun _ ⟨_,b2⟩=>bP (t:=0) aAn b2 d8 rfl rfl) (cD rfl (fun _ ⟨_,b2⟩=>bP (t:=0) aAn b2 d8 rfl rfl) (cD rfl (fun _ _=>eR rfl) (cD rfl (fun _ _=>bD (t':=12) aIH rfl rfl) (cD rfl (fun _ ⟨_,b2⟩=>bP (t:=12) sc_96 b2 (g4.mono g7) rfl rfl) (nZ rfl (aB (aF (v:=zS a1 path.length c2) rfl) (aD (aA ⟨⟨_,b2⟩,?_⟩))))))))
  refine nZ rfl (dA (Kt:=a3) (xs:=([path]:List (List aZ))) (cs:=[zS a1 path.length c2]) (vs:=[(0,zS a1 path.length c2)]) sl_96 ez_22 rfl rfl b2 rfl (by kernel_rfl) rfl rfl rfl ⟨⟨a1,c2,rfl,(h3.mono b8)⟩,trivial⟩ (fun h0 h1 (e0:aN G c4 (aK 22 a3 h0 1 ([path]:List (List aZ))::box a2 132 [i64 pair.1,i64 pair.2]::aK 31 a3 a8 b0 b1::gX r26 a7::aK 22 Kf a27 c28 p12_::L) h1)=>(aD (aA ⟨⟨_,e0⟩,?_⟩))))
  refine nZ rfl ?_
  obtain ⟨b9,h2,hm⟩:=aJ hm
  refine aGD (i:=3) a3 sl_96 Tryz.underlying96 ez_22 rfl rfl e0 rfl (zL hKf b8) (zR _) h2 rfl rfl rfl rfl (fun _ _ _ h=>El.one h) (fun b6 b7 h4 (e1:aN G c4 (box a2 132 [i64 pair.1,i64 pair.2]::aK 31 a3 a8 b0 b1::gX r26 a7::aK 22 a3 b6 b7 b9::L) h4)=>(aD (aA ⟨⟨_,e1⟩,?_⟩)))
  have h5:=g8 _ _ e1
  have h6:=g6 _ _ h5
  refine aGd rfl (aB (eR rfl) (aD (aA (aGd rfl (aB (bD (t':=12) aIH rfl rfl) (aD (aA (aGd rfl (cM (i:=0) (ns:=[zS b6 b9.length b7]) (us:=[i64 p0_,i64 p1_,zS a6 p2_.length c7,zS a9 p3_.length c10,zS a12 p4_.length c13,zS a15 p5_.length c16,i64 p6_,i64 p7_,zS a18 p8_.length c19,zS a21 p9_.length c22,zS a8 b1.length b0,zM (some r26),zS b6 b9.length b7]) Tryz.sizeOf96 h6 rfl rfl rfl rfl rfl (eD rfl) rfl rfl (fun h7 (h9:aN G a3 (box b5 98 [i64 p0_,i64 p1_,zS a6 p2_.length c7,zS a9 p3_.length c10,zS a12 p4_.length c13,zS a15 p5_.length c16,i64 p6_,i64 p7_,zS a18 p8_.length c19,zS a21 p9_.length c22,zS a8 b1.length b0,zM (some r26),zS b6 b9.length b7]::box b4 92 [zP (some ⟨b5,0,none⟩)]::box a2 132 [i64 pair.1,i64 pair.2]::aK 31 a3 a8 b0 b1::gX r26 a7::aK 22 a3 b6 b7 b9::L) h7)=>(aD (aA (qQ ?_)))))))))))))
  cases zI hm
  exact aDA Tryz.results98 ⟨a3,a8,b0,b6,b7,rfl,b8,(aN.arr 6 [3,4,5,0,1] h9 rfl)⟩
 ·refine aO c0 rfl ?_
  have i1:aN G K (box a2 132 [i64 pair.1,i64 pair.2]::aK 31 K a24 c25 p10_::gX r26 p11_M::aK 22 Kf a27 c28 p12_::box b5 98 [i64 p0_,i64 p1_,zS a6 p2_.length c7,zS a9 p3_.length c10,zS a12 p4_.length c13,zS a15 p5_.length c16,i64 p6_,i64 p7_,zS a18 p8_.length c19,zS a21 p9_.length c22,zS a24 p10_.length c25,zM (some r26),zS a27 p12_.length c28]::box b4 92 [zP (some ⟨b5,0,none⟩)]::L) c5:=aN.weak (i:=1) c6 rfl (fun _ h=>aK.mono hKf h)
  have i2:aN G K (box a2 132 [i64 pair.1,i64 pair.2]::aK 31 K a24 c25 p10_::gX r26 p11_M::aK 22 K a27 c28 p12_::box b5 98 [i64 p0_,i64 p1_,zS a6 p2_.length c7,zS a9 p3_.length c10,zS a12 p4_.length c13,zS a15 p5_.length c16,i64 p6_,i64 p7_,zS a18 p8_.length c19,zS a21 p9_.length c22,zS a24 p10_.length c25,zM (some r26),zS a27 p12_.length c28]::box b4 92 [zP (some ⟨b5,0,none⟩)]::L) c5:=aN.weak (i:=3) i1 rfl (fun _ h=>aK.mono hKf h)
  cases zI hm
  exact aY (aDA Tryz.results98 ⟨K,a24,c25,a27,c28,rfl,(zR _),(aN.arr 1 [] i2 rfl)⟩)
theorem dB {s_:(List aZ)} {R:(List aZ)} (hs:aN G K (L) w) (h3:cJ K a1 c2 s_) (hm:eC s_=some R):
  Calls Tryz.prog 58 ([zS a1 s_.length c2]:List Value).toArray w (gV fun v w'=>∃ (ra0:Option Addr) (rc0:Nat),v=zS ra0 R.length rc0∧aN G K (aK 9 K ra0 rc0 R::L) w'):=by
 refine aW Tryz.func58 rfl (by kernel_rfl) (by show (1:Nat)≤8;decide) ?_
 unfold eC at hm
 refine aH (aC (aB (aG (v:=zS none 0 0) rfl) (aD (aA (aH (aH (aC (aB (aF (v:=zS a1 s_.length c2) rfl) (aB (R_isNil cE rfl rfl) (aD (aA ?_)))))))))))
 rcases aLc h3 with ⟨a4,a5,a6⟩|h7
 ·subst a4;subst a5;subst a6
  refine aMG rfl ?_
  replace hm:(some [])=some R:=hm
  refine aH (aC (aB (aG (v:=zS none 0 0) rfl) (aD (aA ?_))))
  have hs18:=aN.nil (α:=aZ) hs 9 K
  cases zI hm
  exact bC (aS (bA Tryz.results58 rfl ⟨none,0,rfl,hs18⟩))
 ·refine aMH (Eq.trans rfl (congrArg zB h7)) (aY (aA (aH (aC (dA (Kt:=K) (xs:=([]:List aZ)) (cs:=[]) (vs:=[]) cE oB rfl rfl hs rfl (by kernel_rfl) rfl rfl rfl trivial (fun a8 w9 (b2:aN G K (aK 9 K a8 0 ([]:List aZ)::L) w9)=>(aB (aF (v:=zS a1 s_.length c2) rfl) ?_)))))))
  obtain ⟨a3,b3,hm⟩:=aJ hm
  refine qP (i:=0) cE Tryz.underlying22 oB rfl rfl b2 rfl (zR _) h3 b3 rfl rfl rfl rfl (fun a0 a2 b4 (b5:aN G K (aK 9 K a0 a2 a3::L) b4)=>(aB (aG (v:=zS a0 a3.length a2) rfl) (aD (aA ?_))))
  cases zI hm
  exact bC (bA Tryz.results58 rfl ⟨a0,a2,rfl,b5⟩)
theorem aFn {label:aZ} {to_:(Int × Int)} {k2:Nat} {p_c00_:Int} {p_c01_:Int} {p_c02_:(List aZ)} {p_c03_:(List Edge)} {p_c04_:(List Int)} {p_c05_:(List aZ)} {p_c06_:Int} {p_c07_:Int} {p_c08_:(List aZ)} {p_c09_:(List Edge)} {p_c010_:(List (List Int))} {p_c011_M:(List ((Int × Int) × Int))} {r26:Nat} {p_c012_:(List (List aZ))} {p:Int} {k30:Nat} {R:((List (List Int)) × (List ((Int × Int) × Int)) × (List (List aZ)))} (hs:aN G K (aK 31 Kf a24 c25 p_c010_::gX r26 p_c011_M::aK 22 Kf a27 c28 p_c012_::box b5 98 [i64 p_c00_,i64 p_c01_,zS a6 p_c02_.length c7,zS a9 p_c03_.length c10,zS a12 p_c04_.length c13,zS a15 p_c05_.length c16,i64 p_c06_,i64 p_c07_,zS a18 p_c08_.length c19,zS a21 p_c09_.length c22,zS a24 p_c010_.length c25,zM (some r26),zS a27 p_c012_.length c28]::box b4 92 [zP (some ⟨b5,0,none⟩)]::L) w) (hKf:Hp.le Kf K) (h3:nY K a1 k2 [Value.func (.func 98) #[] #[zP (some ⟨b4,0,none⟩)]]) (h8:cJ K a6 c7 p_c02_) (h11:cJ K a9 c10 p_c03_) (h14:cJ K a12 c13 p_c04_) (h17:cJ K a15 c16 p_c05_) (h20:cJ K a18 c19 p_c08_) (h23:cJ K a21 c22 p_c09_) (h31:nY K a29 k30 [i64 p]) (hm:vF label to_ p_c00_ p_c01_ p_c02_ p_c03_ p_c04_ p_c05_ p_c06_ p_c07_ p_c08_ p_c09_ p_c010_ p_c011_M p_c012_ p=some R):
  Calls Tryz.prog 100 ([cR label,zA #[i64 to_.1,i64 to_.2],cS a1 k2,zP (some ⟨b4,0,none⟩),cS a29 k30]:List Value).toArray w (gV fun v w'=>∃ (K':Hp) (ra1:Option Addr) (rc1:Nat) (ra2:Option Addr) (rc2:Nat),v=zT #[]∧Hp.le K K'∧aN G K' (aK 31 K' ra1 rc1 R.1::gX r26 R.2.1::aK 22 K' ra2 rc2 R.2.2::box b5 98 [i64 p_c00_,i64 p_c01_,zS a6 p_c02_.length c7,zS a9 p_c03_.length c10,zS a12 p_c04_.length c13,zS a15 p_c05_.length c16,i64 p_c06_,i64 p_c07_,zS a18 p_c08_.length c19,zS a21 p_c09_.length c22,zS ra1 R.1.length rc1,zM (some r26),zS ra2 R.2.2.length rc2]::box b4 92 [zP (some ⟨b5,0,none⟩)]::L) w'):=by
 refine aW Tryz.func100 rfl (by kernel_rfl) (by show (5:Nat)≤21;decide) ?_
 unfold vF at hm
 refine aH (aC (fC (v:=zA #[i64 to_.1,i64 to_.2]) (vs:=[i64 to_.1,i64 to_.2]) hs rfl rfl (fun v0 k5 k6=>(aD (aA (cU (fun f w=>∃ (c0:Hp) (c2:List (List Int)) (d6:(List ((Int × Int) × Int))) (c3:List (List aZ)) (c4:Option Addr) (c5:Nat) (c6:Option Addr) (c8:Nat),Hp.le K c0∧pK c2 d6 c3=some R∧aN G c0 (aK 22 c0 c6 c8 c3::aK 31 c0 c4 c5 c2::gX r26 d6::box b5 98 [i64 p_c00_,i64 p_c01_,zS a6 p_c02_.length c7,zS a9 p_c03_.length c10,zS a12 p_c04_.length c13,zS a15 p_c05_.length c16,i64 p_c06_,i64 p_c07_,zS a18 p_c08_.length c19,zS a21 p_c09_.length c22,zS c4 c2.length c5,zM (some r26),zS c6 c3.length c8]::box b4 92 [zP (some ⟨b5,0,none⟩)]::L) w) ?_ ?_))))))
 ·rintro f v1 ⟨c0,c2,d6,c3,c4,c5,c6,c8,k7,hm,k8⟩
  unfold pK at hm
  cases zI hm
  exact aDA Tryz.results100 ⟨c0,c4,c5,c6,c8,rfl,k7,(aN.arr 3 [1,2,0] k8 rfl)⟩
 obtain ⟨a3,a0,l0,d7,_⟩:=aN.lendB (i:=0) k6 rfl
 replace d7:aN G a3 (aK 31 Kf a24 c25 p_c010_::gX r26 p_c011_M::aK 22 Kf a27 c28 p_c012_::box b5 98 [i64 p_c00_,i64 p_c01_,zS a6 p_c02_.length c7,zS a9 p_c03_.length c10,zS a12 p_c04_.length c13,zS a15 p_c05_.length c16,i64 p_c06_,i64 p_c07_,zS a18 p_c08_.length c19,zS a21 p_c09_.length c22,zS a24 p_c010_.length c25,zM (some r26),zS a27 p_c012_.length c28]::box b4 92 [zP (some ⟨b5,0,none⟩)]::L) k5:=d7
 refine aBh (C:=fun w'=>∃ L',aN G a3 L' w') [] bQ (by kernel_rfl) (fun v2 l1=>?_)
 have a2:=aN.mono d7 l1
 refine eS (i:=0) rfl (by kernel_rfl) ⟨_,a2⟩ (fun _ ⟨_,a2⟩=>bP (t:=0) sc_133 a2 (h3.mono a0) rfl rfl) (eS (i:=1) rfl (by kernel_rfl) ⟨_,a2⟩ (fun _ ⟨_,a2⟩=>iU (t:=0) (vs:=[i64 to_.1,i64 to_.2]) aLI a2 l0 (kY rfl) rfl rfl) (eS (i:=6) rfl (by kernel_rfl) ⟨_,a2⟩ (fun _ ⟨_,a2⟩=>bP (t:=0) sc_3 a2 (h31.mono a0) rfl rfl) (eS (i:=10) rfl (by kernel_rfl) ⟨_,a2⟩ (fun _ _=>aF (v:=cR label) rfl) (jW (i:=2) (j:=11) (by kernel_rfl) rfl rfl ?_ ?_))))
 ·refine aB (bY aAn a2 (i:=4) rfl rfl rfl) (aD (aA ⟨fun _=>⟨_,a2⟩,?_⟩))
  refine eS (i:=3) rfl (by kernel_rfl) ⟨_,a2⟩ (fun _ _=>eR rfl) (eS (i:=4) rfl (by kernel_rfl) ⟨_,a2⟩ (fun _ _=>bD (t':=12) aIH rfl rfl) (jW (i:=5) (j:=11) (by kernel_rfl) rfl rfl ?_ ?_))
  ·refine aB (bY sc_96 a2 (i:=3) rfl rfl rfl) (aD (aA ⟨fun _=>⟨_,a2⟩,?_⟩))
   obtain ⟨c1,c9,hm⟩:=aJ hm
   have l2:=dH a2 (i:=2) rfl c9
   refine eS (i:=7) rfl (by kernel_rfl) ⟨_,a2⟩ (fun _ _=>eY sl_96 rfl l2 rfl rfl rfl c9) (jW (i:=8) (j:=11) (by kernel_rfl) rfl rfl ?_ ?_)
   ·obtain ⟨v3,l3,l4⟩:=aBr (sz:=1) rfl a2 (i:=2) rfl c9
    obtain ⟨d8,d9,rfl,g7⟩:=l4
    refine aB (aEM (t:=0) (v:=zS d8 c1.length d9) jK l3 rfl rfl) (aD (aA ⟨fun _=>⟨_,a2⟩,?_⟩))
    refine jW (i:=9) (j:=11) (by kernel_rfl) rfl rfl ?_ ?_
    ·obtain ⟨l5,l6,hm⟩:=aJ hm
     refine aX (vs:=[zS d8 c1.length d9]) Tryz.call58 rfl (dB a2 (g7.mono (zL hKf a0)) l6) ?_
     rintro _ v4 ⟨l7,l8,rfl,g8⟩
     refine aD (aA ⟨fun _=>⟨_,g8⟩,?_⟩)
     refine bW (i:=11) (by kernel_rfl) rfl (dA (Kt:=K) (xs:=([label]:List aZ)) (cs:=[cR label]) (vs:=[(0,cR label)]) cE oB rfl rfl g8 rfl (by kernel_rfl) rfl rfl rfl ⟨rfl,trivial⟩ (fun l9 m0 (g9:aN G a3 (aK 9 K l9 1 ([label]:List aZ)::aK 9 K l7 l8 l5::aK 31 Kf a24 c25 p_c010_::gX r26 p_c011_M::aK 22 Kf a27 c28 p_c012_::box b5 98 [i64 p_c00_,i64 p_c01_,zS a6 p_c02_.length c7,zS a9 p_c03_.length c10,zS a12 p_c04_.length c13,zS a15 p_c05_.length c16,i64 p_c06_,i64 p_c07_,zS a18 p_c08_.length c19,zS a21 p_c09_.length c22,zS a24 p_c010_.length c25,zM (some r26),zS a27 p_c012_.length c28]::box b4 92 [zP (some ⟨b5,0,none⟩)]::L) m0)=>(aD (aA ⟨fun _=>⟨_,g9⟩,?_⟩))))
     refine bW (i:=12) (by kernel_rfl) rfl ?_
     obtain ⟨e0,m1,hm⟩:=aJ hm
     refine jO (i:=0) cE Tryz.underlying22 oB rfl rfl g9 rfl a0 a0 m1 rfl rfl rfl rfl (fun _ h=>h) (fun e1 e2 d0 (h0:aN G a3 (aK 9 K e1 e2 e0::aK 31 Kf a24 c25 p_c010_::gX r26 p_c011_M::aK 22 Kf a27 c28 p_c012_::box b5 98 [i64 p_c00_,i64 p_c01_,zS a6 p_c02_.length c7,zS a9 p_c03_.length c10,zS a12 p_c04_.length c13,zS a15 p_c05_.length c16,i64 p_c06_,i64 p_c07_,zS a18 p_c08_.length c19,zS a21 p_c09_.length c22,zS a24 p_c010_.length c25,zM (some r26),zS a27 p_c012_.length c28]::box b4 92 [zP (some ⟨b5,0,none⟩)]::L) d0)=>(aD (aA ⟨fun _=>⟨_,h0⟩,?_⟩)))
     refine bW (i:=13) (by kernel_rfl) rfl ?_
     obtain ⟨b3,a5,m2,e3⟩:=aN.giveS (i:=0) h0 a0 rfl
     replace e3:aN G b3 (aK 31 Kf a24 c25 p_c010_::gX r26 p_c011_M::aK 22 Kf a27 c28 p_c012_::box b5 98 [i64 p_c00_,i64 p_c01_,zS a6 p_c02_.length c7,zS a9 p_c03_.length c10,zS a12 p_c04_.length c13,zS a15 p_c05_.length c16,i64 p_c06_,i64 p_c07_,zS a18 p_c08_.length c19,zS a21 p_c09_.length c22,zS a24 p_c010_.length c25,zM (some r26),zS a27 p_c012_.length c28]::box b4 92 [zP (some ⟨b5,0,none⟩)]::L) d0:=e3
     have m3:aN G b3 (aK 31 b3 a24 c25 p_c010_::gX r26 p_c011_M::aK 22 Kf a27 c28 p_c012_::box b5 98 [i64 p_c00_,i64 p_c01_,zS a6 p_c02_.length c7,zS a9 p_c03_.length c10,zS a12 p_c04_.length c13,zS a15 p_c05_.length c16,i64 p_c06_,i64 p_c07_,zS a18 p_c08_.length c19,zS a21 p_c09_.length c22,zS a24 p_c010_.length c25,zM (some r26),zS a27 p_c012_.length c28]::box b4 92 [zP (some ⟨b5,0,none⟩)]::L) d0:=aN.weak (i:=0) e3 rfl (fun _ h=>aK.mono (zL (zL hKf a0) a5) h)
     have m4:aN G b3 (aK 31 b3 a24 c25 p_c010_::gX r26 p_c011_M::aK 22 b3 a27 c28 p_c012_::box b5 98 [i64 p_c00_,i64 p_c01_,zS a6 p_c02_.length c7,zS a9 p_c03_.length c10,zS a12 p_c04_.length c13,zS a15 p_c05_.length c16,i64 p_c06_,i64 p_c07_,zS a18 p_c08_.length c19,zS a21 p_c09_.length c22,zS a24 p_c010_.length c25,zM (some r26),zS a27 p_c012_.length c28]::box b4 92 [zP (some ⟨b5,0,none⟩)]::L) d0:=aN.weak (i:=2) m3 rfl (fun _ h=>aK.mono (zL (zL hKf a0) a5) h)
     obtain ⟨e4,m5,hm⟩:=aJ hm
     refine tZ (vs:=[zA #[i64 to_.1,i64 to_.2],zS e1 e0.length e2]) (caps:=[zP (some ⟨b4,0,none⟩)]) (us:=[zA #[i64 to_.1,i64 to_.2],zS e1 e0.length e2,zP (some ⟨b4,0,none⟩)]) rfl Tryz.call98 rfl rfl (iM (Kf:=b3) m4 (zR _) m2 (h8.mono (zL a0 a5)) (h11.mono (zL a0 a5)) (h14.mono (zL a0 a5)) (h17.mono (zL a0 a5)) (h20.mono (zL a0 a5)) (h23.mono (zL a0 a5)) m5) ?_
     rintro _ v5 ⟨m6,m7,m8,m9,n0,rfl,h1,h2⟩
     refine aD (aA ⟨fun _=>⟨_,(aN.weakK h2 (zL a5 h1))⟩,?_⟩)
     exact fT (by kernel_rfl) (aA ⟨m6,e4.1,e4.2.1,e4.2.2,m7,m8,m9,n0,(zL (zL a0 a5) h1),hm,(aN.arr 3 [2,0,1] h2 rfl)⟩)
    ·refine dA (Kt:=K) (xs:=([label]:List aZ)) (cs:=[cR label]) (vs:=[(0,cR label)]) cE oB rfl rfl a2 rfl (by kernel_rfl) rfl rfl rfl ⟨rfl,trivial⟩ (fun h4 n1 (h5:aN G a3 (aK 9 K h4 1 ([label]:List aZ)::aK 31 Kf a24 c25 p_c010_::gX r26 p_c011_M::aK 22 Kf a27 c28 p_c012_::box b5 98 [i64 p_c00_,i64 p_c01_,zS a6 p_c02_.length c7,zS a9 p_c03_.length c10,zS a12 p_c04_.length c13,zS a15 p_c05_.length c16,i64 p_c06_,i64 p_c07_,zS a18 p_c08_.length c19,zS a21 p_c09_.length c22,zS a24 p_c010_.length c25,zM (some r26),zS a27 p_c012_.length c28]::box b4 92 [zP (some ⟨b5,0,none⟩)]::L) n1)=>(aD (aA ⟨fun _=>⟨_,h5⟩,?_⟩)))
     refine bW (i:=9) (by kernel_rfl) rfl ?_
     obtain ⟨n2,n3,hm⟩:=aJ hm
     refine aX (vs:=[zS d8 c1.length d9]) Tryz.call58 rfl (dB h5 (g7.mono (zL hKf a0)) n3) ?_
     rintro _ n4 ⟨n5,n6,rfl,h6⟩
     refine aD (aA ⟨fun _=>⟨_,h6⟩,?_⟩)
     refine bW (i:=12) (by kernel_rfl) rfl ?_
     obtain ⟨e5,n7,hm⟩:=aJ hm
     have n8:aN G a3 (aK 9 K h4 1 ([label]:List aZ)::aK 9 K n5 n6 n2::aK 31 Kf a24 c25 p_c010_::gX r26 p_c011_M::aK 22 Kf a27 c28 p_c012_::box b5 98 [i64 p_c00_,i64 p_c01_,zS a6 p_c02_.length c7,zS a9 p_c03_.length c10,zS a12 p_c04_.length c13,zS a15 p_c05_.length c16,i64 p_c06_,i64 p_c07_,zS a18 p_c08_.length c19,zS a21 p_c09_.length c22,zS a24 p_c010_.length c25,zM (some r26),zS a27 p_c012_.length c28]::box b4 92 [zP (some ⟨b5,0,none⟩)]::L) n4:=(aN.arr 2 [1,0] h6 rfl)
     refine jO (i:=0) cE Tryz.underlying22 oB rfl rfl n8 rfl a0 a0 n7 rfl rfl rfl rfl (fun _ h=>h) (fun e6 e7 d1 (h7:aN G a3 (aK 9 K e6 e7 e5::aK 31 Kf a24 c25 p_c010_::gX r26 p_c011_M::aK 22 Kf a27 c28 p_c012_::box b5 98 [i64 p_c00_,i64 p_c01_,zS a6 p_c02_.length c7,zS a9 p_c03_.length c10,zS a12 p_c04_.length c13,zS a15 p_c05_.length c16,i64 p_c06_,i64 p_c07_,zS a18 p_c08_.length c19,zS a21 p_c09_.length c22,zS a24 p_c010_.length c25,zM (some r26),zS a27 p_c012_.length c28]::box b4 92 [zP (some ⟨b5,0,none⟩)]::L) d1)=>(aD (aA ⟨fun _=>⟨_,h7⟩,?_⟩)))
     refine bW (i:=13) (by kernel_rfl) rfl ?_
     obtain ⟨b6,a7,n9,e8⟩:=aN.giveS (i:=0) h7 a0 rfl
     replace e8:aN G b6 (aK 31 Kf a24 c25 p_c010_::gX r26 p_c011_M::aK 22 Kf a27 c28 p_c012_::box b5 98 [i64 p_c00_,i64 p_c01_,zS a6 p_c02_.length c7,zS a9 p_c03_.length c10,zS a12 p_c04_.length c13,zS a15 p_c05_.length c16,i64 p_c06_,i64 p_c07_,zS a18 p_c08_.length c19,zS a21 p_c09_.length c22,zS a24 p_c010_.length c25,zM (some r26),zS a27 p_c012_.length c28]::box b4 92 [zP (some ⟨b5,0,none⟩)]::L) d1:=e8
     have o0:aN G b6 (aK 31 b6 a24 c25 p_c010_::gX r26 p_c011_M::aK 22 Kf a27 c28 p_c012_::box b5 98 [i64 p_c00_,i64 p_c01_,zS a6 p_c02_.length c7,zS a9 p_c03_.length c10,zS a12 p_c04_.length c13,zS a15 p_c05_.length c16,i64 p_c06_,i64 p_c07_,zS a18 p_c08_.length c19,zS a21 p_c09_.length c22,zS a24 p_c010_.length c25,zM (some r26),zS a27 p_c012_.length c28]::box b4 92 [zP (some ⟨b5,0,none⟩)]::L) d1:=aN.weak (i:=0) e8 rfl (fun _ h=>aK.mono (zL (zL hKf a0) a7) h)
     have o1:aN G b6 (aK 31 b6 a24 c25 p_c010_::gX r26 p_c011_M::aK 22 b6 a27 c28 p_c012_::box b5 98 [i64 p_c00_,i64 p_c01_,zS a6 p_c02_.length c7,zS a9 p_c03_.length c10,zS a12 p_c04_.length c13,zS a15 p_c05_.length c16,i64 p_c06_,i64 p_c07_,zS a18 p_c08_.length c19,zS a21 p_c09_.length c22,zS a24 p_c010_.length c25,zM (some r26),zS a27 p_c012_.length c28]::box b4 92 [zP (some ⟨b5,0,none⟩)]::L) d1:=aN.weak (i:=2) o0 rfl (fun _ h=>aK.mono (zL (zL hKf a0) a7) h)
     obtain ⟨e9,o2,hm⟩:=aJ hm
     refine tZ (vs:=[zA #[i64 to_.1,i64 to_.2],zS e6 e5.length e7]) (caps:=[zP (some ⟨b4,0,none⟩)]) (us:=[zA #[i64 to_.1,i64 to_.2],zS e6 e5.length e7,zP (some ⟨b4,0,none⟩)]) rfl Tryz.call98 rfl rfl (iM (Kf:=b6) o1 (zR _) n9 (h8.mono (zL a0 a7)) (h11.mono (zL a0 a7)) (h14.mono (zL a0 a7)) (h17.mono (zL a0 a7)) (h20.mono (zL a0 a7)) (h23.mono (zL a0 a7)) o2) ?_
     rintro _ v6 ⟨o3,o4,o5,o6,o7,rfl,h9,i0⟩
     refine aD (aA ⟨fun _=>⟨_,(aN.weakK i0 (zL a7 h9))⟩,?_⟩)
     exact fT (by kernel_rfl) (aA ⟨o3,e9.1,e9.2.1,e9.2.2,o4,o5,o6,o7,(zL (zL a0 a7) h9),hm,(aN.arr 3 [2,0,1] i0 rfl)⟩)
   ·refine dA (Kt:=K) (xs:=([label]:List aZ)) (cs:=[cR label]) (vs:=[(0,cR label)]) cE oB rfl rfl a2 rfl (by kernel_rfl) rfl rfl rfl ⟨rfl,trivial⟩ (fun i1 o8 (d2:aN G a3 (aK 9 K i1 1 ([label]:List aZ)::aK 31 Kf a24 c25 p_c010_::gX r26 p_c011_M::aK 22 Kf a27 c28 p_c012_::box b5 98 [i64 p_c00_,i64 p_c01_,zS a6 p_c02_.length c7,zS a9 p_c03_.length c10,zS a12 p_c04_.length c13,zS a15 p_c05_.length c16,i64 p_c06_,i64 p_c07_,zS a18 p_c08_.length c19,zS a21 p_c09_.length c22,zS a24 p_c010_.length c25,zM (some r26),zS a27 p_c012_.length c28]::box b4 92 [zP (some ⟨b5,0,none⟩)]::L) o8)=>(aD (aA ⟨fun _=>⟨_,d2⟩,?_⟩)))
    refine bW (i:=8) (by kernel_rfl) rfl ?_
    obtain ⟨v7,o9,p0⟩:=aBr (sz:=1) rfl d2 (i:=3) rfl c9
    obtain ⟨i2,i3,rfl,p1⟩:=p0
    refine aB (aEM (t:=0) (v:=zS i2 c1.length i3) jK o9 rfl rfl) (aD (aA ⟨fun _=>⟨_,d2⟩,?_⟩))
    refine bW (i:=9) (by kernel_rfl) rfl ?_
    obtain ⟨p2,p3,hm⟩:=aJ hm
    refine aX (vs:=[zS i2 c1.length i3]) Tryz.call58 rfl (dB d2 (p1.mono (zL hKf a0)) p3) ?_
    rintro _ p4 ⟨p5,p6,rfl,i4⟩
    refine aD (aA ⟨fun _=>⟨_,i4⟩,?_⟩)
    refine bW (i:=12) (by kernel_rfl) rfl ?_
    obtain ⟨f0,p7,hm⟩:=aJ hm
    have p8:aN G a3 (aK 9 K i1 1 ([label]:List aZ)::aK 9 K p5 p6 p2::aK 31 Kf a24 c25 p_c010_::gX r26 p_c011_M::aK 22 Kf a27 c28 p_c012_::box b5 98 [i64 p_c00_,i64 p_c01_,zS a6 p_c02_.length c7,zS a9 p_c03_.length c10,zS a12 p_c04_.length c13,zS a15 p_c05_.length c16,i64 p_c06_,i64 p_c07_,zS a18 p_c08_.length c19,zS a21 p_c09_.length c22,zS a24 p_c010_.length c25,zM (some r26),zS a27 p_c012_.length c28]::box b4 92 [zP (some ⟨b5,0,none⟩)]::L) p4:=(aN.arr 2 [1,0] i4 rfl)
    refine jO (i:=0) cE Tryz.underlying22 oB rfl rfl p8 rfl a0 a0 p7 rfl rfl rfl rfl (fun _ h=>h) (fun f1 f2 d3 (i5:aN G a3 (aK 9 K f1 f2 f0::aK 31 Kf a24 c25 p_c010_::gX r26 p_c011_M::aK 22 Kf a27 c28 p_c012_::box b5 98 [i64 p_c00_,i64 p_c01_,zS a6 p_c02_.length c7,zS a9 p_c03_.length c10,zS a12 p_c04_.length c13,zS a15 p_c05_.length c16,i64 p_c06_,i64 p_c07_,zS a18 p_c08_.length c19,zS a21 p_c09_.length c22,zS a24 p_c010_.length c25,zM (some r26),zS a27 p_c012_.length c28]::box b4 92 [zP (some ⟨b5,0,none⟩)]::L) d3)=>(aD (aA ⟨fun _=>⟨_,i5⟩,?_⟩)))
    refine bW (i:=13) (by kernel_rfl) rfl ?_
    obtain ⟨b7,a8,p9,f3⟩:=aN.giveS (i:=0) i5 a0 rfl
    replace f3:aN G b7 (aK 31 Kf a24 c25 p_c010_::gX r26 p_c011_M::aK 22 Kf a27 c28 p_c012_::box b5 98 [i64 p_c00_,i64 p_c01_,zS a6 p_c02_.length c7,zS a9 p_c03_.length c10,zS a12 p_c04_.length c13,zS a15 p_c05_.length c16,i64 p_c06_,i64 p_c07_,zS a18 p_c08_.length c19,zS a21 p_c09_.length c22,zS a24 p_c010_.length c25,zM (some r26),zS a27 p_c012_.length c28]::box b4 92 [zP (some ⟨b5,0,none⟩)]::L) d3:=f3
    have q0:aN G b7 (aK 31 b7 a24 c25 p_c010_::gX r26 p_c011_M::aK 22 Kf a27 c28 p_c012_::box b5 98 [i64 p_c00_,i64 p_c01_,zS a6 p_c02_.length c7,zS a9 p_c03_.length c10,zS a12 p_c04_.length c13,zS a15 p_c05_.length c16,i64 p_c06_,i64 p_c07_,zS a18 p_c08_.length c19,zS a21 p_c09_.length c22,zS a24 p_c010_.length c25,zM (some r26),zS a27 p_c012_.length c28]::box b4 92 [zP (some ⟨b5,0,none⟩)]::L) d3:=aN.weak (i:=0) f3 rfl (fun _ h=>aK.mono (zL (zL hKf a0) a8) h)
    have q1:aN G b7 (aK 31 b7 a24 c25 p_c010_::gX r26 p_c011_M::aK 22 b7 a27 c28 p_c012_::box b5 98 [i64 p_c00_,i64 p_c01_,zS a6 p_c02_.length c7,zS a9 p_c03_.length c10,zS a12 p_c04_.length c13,zS a15 p_c05_.length c16,i64 p_c06_,i64 p_c07_,zS a18 p_c08_.length c19,zS a21 p_c09_.length c22,zS a24 p_c010_.length c25,zM (some r26),zS a27 p_c012_.length c28]::box b4 92 [zP (some ⟨b5,0,none⟩)]::L) d3:=aN.weak (i:=2) q0 rfl (fun _ h=>aK.mono (zL (zL hKf a0) a8) h)
    obtain ⟨f4,q2,hm⟩:=aJ hm
    refine tZ (vs:=[zA #[i64 to_.1,i64 to_.2],zS f1 f0.length f2]) (caps:=[zP (some ⟨b4,0,none⟩)]) (us:=[zA #[i64 to_.1,i64 to_.2],zS f1 f0.length f2,zP (some ⟨b4,0,none⟩)]) rfl Tryz.call98 rfl rfl (iM (Kf:=b7) q1 (zR _) p9 (h8.mono (zL a0 a8)) (h11.mono (zL a0 a8)) (h14.mono (zL a0 a8)) (h17.mono (zL a0 a8)) (h20.mono (zL a0 a8)) (h23.mono (zL a0 a8)) q2) ?_
    rintro _ v8 ⟨q3,q4,q5,q6,q7,rfl,i6,i7⟩
    refine aD (aA ⟨fun _=>⟨_,(aN.weakK i7 (zL a8 i6))⟩,?_⟩)
    exact fT (by kernel_rfl) (aA ⟨q3,f4.1,f4.2.1,f4.2.2,q4,q5,q6,q7,(zL (zL a0 a8) i6),hm,(aN.arr 3 [2,0,1] i7 rfl)⟩)
  ·refine dA (Kt:=K) (xs:=([label]:List aZ)) (cs:=[cR label]) (vs:=[(0,cR label)]) cE oB rfl rfl a2 rfl (by kernel_rfl) rfl rfl rfl ⟨rfl,trivial⟩ (fun i8 q8 (b2:aN G a3 (aK 9 K i8 1 ([label]:List aZ)::aK 31 Kf a24 c25 p_c010_::gX r26 p_c011_M::aK 22 Kf a27 c28 p_c012_::box b5 98 [i64 p_c00_,i64 p_c01_,zS a6 p_c02_.length c7,zS a9 p_c03_.length c10,zS a12 p_c04_.length c13,zS a15 p_c05_.length c16,i64 p_c06_,i64 p_c07_,zS a18 p_c08_.length c19,zS a21 p_c09_.length c22,zS a24 p_c010_.length c25,zM (some r26),zS a27 p_c012_.length c28]::box b4 92 [zP (some ⟨b5,0,none⟩)]::L) q8)=>(aD (aA ⟨fun _=>⟨_,b2⟩,?_⟩)))
   refine bW (i:=5) (by kernel_rfl) rfl (aB (bY sc_96 b2 (i:=4) rfl rfl rfl) (aD (aA ⟨fun _=>⟨_,b2⟩,?_⟩)))
   obtain ⟨i9,f5,hm⟩:=aJ hm
   have q9:=dH b2 (i:=3) rfl f5
   refine eS (i:=7) rfl (by kernel_rfl) ⟨_,b2⟩ (fun _ _=>eY sl_96 rfl q9 rfl rfl rfl f5) (bW (i:=8) (by kernel_rfl) rfl ?_)
   obtain ⟨v9,r0,r1⟩:=aBr (sz:=1) rfl b2 (i:=3) rfl f5
   obtain ⟨j0,j1,rfl,r2⟩:=r1
   refine aB (aEM (t:=0) (v:=zS j0 i9.length j1) jK r0 rfl rfl) (aD (aA ⟨fun _=>⟨_,b2⟩,?_⟩))
   refine bW (i:=9) (by kernel_rfl) rfl ?_
   obtain ⟨r3,r4,hm⟩:=aJ hm
   refine aX (vs:=[zS j0 i9.length j1]) Tryz.call58 rfl (dB b2 (r2.mono (zL hKf a0)) r4) ?_
   rintro _ r5 ⟨r6,r7,rfl,j2⟩
   refine aD (aA ⟨fun _=>⟨_,j2⟩,?_⟩)
   refine bW (i:=12) (by kernel_rfl) rfl ?_
   obtain ⟨f6,r8,hm⟩:=aJ hm
   have r9:aN G a3 (aK 9 K i8 1 ([label]:List aZ)::aK 9 K r6 r7 r3::aK 31 Kf a24 c25 p_c010_::gX r26 p_c011_M::aK 22 Kf a27 c28 p_c012_::box b5 98 [i64 p_c00_,i64 p_c01_,zS a6 p_c02_.length c7,zS a9 p_c03_.length c10,zS a12 p_c04_.length c13,zS a15 p_c05_.length c16,i64 p_c06_,i64 p_c07_,zS a18 p_c08_.length c19,zS a21 p_c09_.length c22,zS a24 p_c010_.length c25,zM (some r26),zS a27 p_c012_.length c28]::box b4 92 [zP (some ⟨b5,0,none⟩)]::L) r5:=(aN.arr 2 [1,0] j2 rfl)
   refine jO (i:=0) cE Tryz.underlying22 oB rfl rfl r9 rfl a0 a0 r8 rfl rfl rfl rfl (fun _ h=>h) (fun f7 f8 d4 (j3:aN G a3 (aK 9 K f7 f8 f6::aK 31 Kf a24 c25 p_c010_::gX r26 p_c011_M::aK 22 Kf a27 c28 p_c012_::box b5 98 [i64 p_c00_,i64 p_c01_,zS a6 p_c02_.length c7,zS a9 p_c03_.length c10,zS a12 p_c04_.length c13,zS a15 p_c05_.length c16,i64 p_c06_,i64 p_c07_,zS a18 p_c08_.length c19,zS a21 p_c09_.length c22,zS a24 p_c010_.length c25,zM (some r26),zS a27 p_c012_.length c28]::box b4 92 [zP (some ⟨b5,0,none⟩)]::L) d4)=>(aD (aA ⟨fun _=>⟨_,j3⟩,?_⟩)))
   refine bW (i:=13) (by kernel_rfl) rfl ?_
   obtain ⟨b8,b0,s0,f9⟩:=aN.giveS (i:=0) j3 a0 rfl
   replace f9:aN G b8 (aK 31 Kf a24 c25 p_c010_::gX r26 p_c011_M::aK 22 Kf a27 c28 p_c012_::box b5 98 [i64 p_c00_,i64 p_c01_,zS a6 p_c02_.length c7,zS a9 p_c03_.length c10,zS a12 p_c04_.length c13,zS a15 p_c05_.length c16,i64 p_c06_,i64 p_c07_,zS a18 p_c08_.length c19,zS a21 p_c09_.length c22,zS a24 p_c010_.length c25,zM (some r26),zS a27 p_c012_.length c28]::box b4 92 [zP (some ⟨b5,0,none⟩)]::L) d4:=f9
   have s1:aN G b8 (aK 31 b8 a24 c25 p_c010_::gX r26 p_c011_M::aK 22 Kf a27 c28 p_c012_::box b5 98 [i64 p_c00_,i64 p_c01_,zS a6 p_c02_.length c7,zS a9 p_c03_.length c10,zS a12 p_c04_.length c13,zS a15 p_c05_.length c16,i64 p_c06_,i64 p_c07_,zS a18 p_c08_.length c19,zS a21 p_c09_.length c22,zS a24 p_c010_.length c25,zM (some r26),zS a27 p_c012_.length c28]::box b4 92 [zP (some ⟨b5,0,none⟩)]::L) d4:=aN.weak (i:=0) f9 rfl (fun _ h=>aK.mono (zL (zL hKf a0) b0) h)
   have s2:aN G b8 (aK 31 b8 a24 c25 p_c010_::gX r26 p_c011_M::aK 22 b8 a27 c28 p_c012_::box b5 98 [i64 p_c00_,i64 p_c01_,zS a6 p_c02_.length c7,zS a9 p_c03_.length c10,zS a12 p_c04_.length c13,zS a15 p_c05_.length c16,i64 p_c06_,i64 p_c07_,zS a18 p_c08_.length c19,zS a21 p_c09_.length c22,zS a24 p_c010_.length c25,zM (some r26),zS a27 p_c012_.length c28]::box b4 92 [zP (some ⟨b5,0,none⟩)]::L) d4:=aN.weak (i:=2) s1 rfl (fun _ h=>aK.mono (zL (zL hKf a0) b0) h)
   obtain ⟨g0,s3,hm⟩:=aJ hm
   refine tZ (vs:=[zA #[i64 to_.1,i64 to_.2],zS f7 f6.length f8]) (caps:=[zP (some ⟨b4,0,none⟩)]) (us:=[zA #[i64 to_.1,i64 to_.2],zS f7 f6.length f8,zP (some ⟨b4,0,none⟩)]) rfl Tryz.call98 rfl rfl (iM (Kf:=b8) s2 (zR _) s0 (h8.mono (zL a0 b0)) (h11.mono (zL a0 b0)) (h14.mono (zL a0 b0)) (h17.mono (zL a0 b0)) (h20.mono (zL a0 b0)) (h23.mono (zL a0 b0)) s3) ?_
   rintro _ w0 ⟨s4,s5,s6,s7,s8,rfl,j4,j5⟩
   refine aD (aA ⟨fun _=>⟨_,(aN.weakK j5 (zL b0 j4))⟩,?_⟩)
   exact fT (by kernel_rfl) (aA ⟨s4,g0.1,g0.2.1,g0.2.2,s5,s6,s7,s8,(zL (zL a0 b0) j4),hm,(aN.arr 3 [2,0,1] j5 rfl)⟩)
 ·refine dA (Kt:=K) (xs:=([label]:List aZ)) (cs:=[cR label]) (vs:=[(0,cR label)]) cE oB rfl rfl a2 rfl (by kernel_rfl) rfl rfl rfl ⟨rfl,trivial⟩ (fun j6 s9 (a4:aN G a3 (aK 9 K j6 1 ([label]:List aZ)::aK 31 Kf a24 c25 p_c010_::gX r26 p_c011_M::aK 22 Kf a27 c28 p_c012_::box b5 98 [i64 p_c00_,i64 p_c01_,zS a6 p_c02_.length c7,zS a9 p_c03_.length c10,zS a12 p_c04_.length c13,zS a15 p_c05_.length c16,i64 p_c06_,i64 p_c07_,zS a18 p_c08_.length c19,zS a21 p_c09_.length c22,zS a24 p_c010_.length c25,zM (some r26),zS a27 p_c012_.length c28]::box b4 92 [zP (some ⟨b5,0,none⟩)]::L) s9)=>(aD (aA ⟨fun _=>⟨_,a4⟩,?_⟩)))
  refine bW (i:=2) (by kernel_rfl) rfl (aB (bY aAn a4 (i:=5) rfl rfl rfl) (aD (aA ⟨fun _=>⟨_,a4⟩,?_⟩)))
  refine eS (i:=3) rfl (by kernel_rfl) ⟨_,a4⟩ (fun _ _=>eR rfl) (eS (i:=4) rfl (by kernel_rfl) ⟨_,a4⟩ (fun _ _=>bD (t':=12) aIH rfl rfl) (bW (i:=5) (by kernel_rfl) rfl (aB (bY sc_96 a4 (i:=4) rfl rfl rfl) (aD (aA ⟨fun _=>⟨_,a4⟩,?_⟩)))))
  obtain ⟨j7,g1,hm⟩:=aJ hm
  have t0:=dH a4 (i:=3) rfl g1
  refine eS (i:=7) rfl (by kernel_rfl) ⟨_,a4⟩ (fun _ _=>eY sl_96 rfl t0 rfl rfl rfl g1) (bW (i:=8) (by kernel_rfl) rfl ?_)
  obtain ⟨w1,t1,t2⟩:=aBr (sz:=1) rfl a4 (i:=3) rfl g1
  obtain ⟨j8,j9,rfl,t3⟩:=t2
  refine aB (aEM (t:=0) (v:=zS j8 j7.length j9) jK t1 rfl rfl) (aD (aA ⟨fun _=>⟨_,a4⟩,?_⟩))
  refine bW (i:=9) (by kernel_rfl) rfl ?_
  obtain ⟨t4,t5,hm⟩:=aJ hm
  refine aX (vs:=[zS j8 j7.length j9]) Tryz.call58 rfl (dB a4 (t3.mono (zL hKf a0)) t5) ?_
  rintro _ t6 ⟨t7,t8,rfl,k0⟩
  refine aD (aA ⟨fun _=>⟨_,k0⟩,?_⟩)
  refine bW (i:=12) (by kernel_rfl) rfl ?_
  obtain ⟨g2,t9,hm⟩:=aJ hm
  have u0:aN G a3 (aK 9 K j6 1 ([label]:List aZ)::aK 9 K t7 t8 t4::aK 31 Kf a24 c25 p_c010_::gX r26 p_c011_M::aK 22 Kf a27 c28 p_c012_::box b5 98 [i64 p_c00_,i64 p_c01_,zS a6 p_c02_.length c7,zS a9 p_c03_.length c10,zS a12 p_c04_.length c13,zS a15 p_c05_.length c16,i64 p_c06_,i64 p_c07_,zS a18 p_c08_.length c19,zS a21 p_c09_.length c22,zS a24 p_c010_.length c25,zM (some r26),zS a27 p_c012_.length c28]::box b4 92 [zP (some ⟨b5,0,none⟩)]::L) t6:=(aN.arr 2 [1,0] k0 rfl)
  refine jO (i:=0) cE Tryz.underlying22 oB rfl rfl u0 rfl a0 a0 t9 rfl rfl rfl rfl (fun _ h=>h) (fun g3 g4 d5 (k1:aN G a3 (aK 9 K g3 g4 g2::aK 31 Kf a24 c25 p_c010_::gX r26 p_c011_M::aK 22 Kf a27 c28 p_c012_::box b5 98 [i64 p_c00_,i64 p_c01_,zS a6 p_c02_.length c7,zS a9 p_c03_.length c10,zS a12 p_c04_.length c13,zS a15 p_c05_.length c16,i64 p_c06_,i64 p_c07_,zS a18 p_c08_.length c19,zS a21 p_c09_.length c22,zS a24 p_c010_.length c25,zM (some r26),zS a27 p_c012_.length c28]::box b4 92 [zP (some ⟨b5,0,none⟩)]::L) d5)=>(aD (aA ⟨fun _=>⟨_,k1⟩,?_⟩)))
  refine bW (i:=13) (by kernel_rfl) rfl ?_
  obtain ⟨b9,b1,u1,g5⟩:=aN.giveS (i:=0) k1 a0 rfl
  replace g5:aN G b9 (aK 31 Kf a24 c25 p_c010_::gX r26 p_c011_M::aK 22 Kf a27 c28 p_c012_::box b5 98 [i64 p_c00_,i64 p_c01_,zS a6 p_c02_.length c7,zS a9 p_c03_.length c10,zS a12 p_c04_.length c13,zS a15 p_c05_.length c16,i64 p_c06_,i64 p_c07_,zS a18 p_c08_.length c19,zS a21 p_c09_.length c22,zS a24 p_c010_.length c25,zM (some r26),zS a27 p_c012_.length c28]::box b4 92 [zP (some ⟨b5,0,none⟩)]::L) d5:=g5
  have u2:aN G b9 (aK 31 b9 a24 c25 p_c010_::gX r26 p_c011_M::aK 22 Kf a27 c28 p_c012_::box b5 98 [i64 p_c00_,i64 p_c01_,zS a6 p_c02_.length c7,zS a9 p_c03_.length c10,zS a12 p_c04_.length c13,zS a15 p_c05_.length c16,i64 p_c06_,i64 p_c07_,zS a18 p_c08_.length c19,zS a21 p_c09_.length c22,zS a24 p_c010_.length c25,zM (some r26),zS a27 p_c012_.length c28]::box b4 92 [zP (some ⟨b5,0,none⟩)]::L) d5:=aN.weak (i:=0) g5 rfl (fun _ h=>aK.mono (zL (zL hKf a0) b1) h)
  have u3:aN G b9 (aK 31 b9 a24 c25 p_c010_::gX r26 p_c011_M::aK 22 b9 a27 c28 p_c012_::box b5 98 [i64 p_c00_,i64 p_c01_,zS a6 p_c02_.length c7,zS a9 p_c03_.length c10,zS a12 p_c04_.length c13,zS a15 p_c05_.length c16,i64 p_c06_,i64 p_c07_,zS a18 p_c08_.length c19,zS a21 p_c09_.length c22,zS a24 p_c010_.length c25,zM (some r26),zS a27 p_c012_.length c28]::box b4 92 [zP (some ⟨b5,0,none⟩)]::L) d5:=aN.weak (i:=2) u2 rfl (fun _ h=>aK.mono (zL (zL hKf a0) b1) h)
  obtain ⟨g6,u4,hm⟩:=aJ hm
  refine tZ (vs:=[zA #[i64 to_.1,i64 to_.2],zS g3 g2.length g4]) (caps:=[zP (some ⟨b4,0,none⟩)]) (us:=[zA #[i64 to_.1,i64 to_.2],zS g3 g2.length g4,zP (some ⟨b4,0,none⟩)]) rfl Tryz.call98 rfl rfl (iM (Kf:=b9) u3 (zR _) u1 (h8.mono (zL a0 b1)) (h11.mono (zL a0 b1)) (h14.mono (zL a0 b1)) (h17.mono (zL a0 b1)) (h20.mono (zL a0 b1)) (h23.mono (zL a0 b1)) u4) ?_
  rintro _ w2 ⟨u5,u6,u7,u8,u9,rfl,k3,k4⟩
  refine aD (aA ⟨fun _=>⟨_,(aN.weakK k4 (zL b1 k3))⟩,?_⟩)
  exact fT (by kernel_rfl) (aA ⟨u5,g6.1,g6.2.1,g6.2.2,u6,u7,u8,u9,(zL (zL a0 b1) k3),hm,(aN.arr 3 [2,0,1] k4 rfl)⟩)
theorem nC {x0_:Int} {x1_:Int} {x2_:(List aZ)} {x3_:(List Edge)} {x4_:(List Int)} {x5_:(List aZ)} {x6_:Int} {x7_:Int} {x8_:(List aZ)} {x9_:(List Edge)} {x10_:(List (List Int))} {x11_M:(List ((Int × Int) × Int))} {r22:Nat} {x12_:(List (List aZ))} {pair:(List Int)} {k29:Nat} {do_c2_:Int} {k33:Nat} {R:((List (List Int)) × (List ((Int × Int) × Int)) × (List (List aZ)))} (hs:aN G K (aK 31 Kf a20 c21 x10_::gX r22 x11_M::aK 22 Kf a23 c24 x12_::box b1 98 [i64 x0_,i64 x1_,zS a2 x2_.length c3,zS a5 x3_.length c6,zS a8 x4_.length c9,zS a11 x5_.length c12,i64 x6_,i64 x7_,zS a14 x8_.length c15,zS a17 x9_.length c18,zS a20 x10_.length c21,zM (some r22),zS a23 x12_.length c24]::box b31 92 [zP (some ⟨b1,0,none⟩)]::L) w) (hKf:Hp.le Kf K) (h4:cJ K a2 c3 x2_) (h7:cJ K a5 c6 x3_) (h10:cJ K a8 c9 x4_) (h13:cJ K a11 c12 x5_) (h16:cJ K a14 c15 x8_) (h19:cJ K a17 c18 x9_) (h27:cJ K a25 c26 pair) (h30:nY K a28 k29 [Value.func (.func 98) #[] #[zP (some ⟨b31,0,none⟩)]]) (h34:nY K a32 k33 [i64 do_c2_]) (hm:pX x0_ x1_ x2_ x3_ x4_ x5_ x6_ x7_ x8_ x9_ x10_ x11_M x12_ pair do_c2_=some R):
  Calls Tryz.prog 99 ([zP (some ⟨b1,0,none⟩),zS a25 pair.length c26,Value.func (.func 100) #[] #[cS a28 k29,zP (some ⟨b31,0,none⟩),cS a32 k33]]:List Value).toArray w (gV fun v w'=>∃ (K':Hp) (ra1:Option Addr) (rc1:Nat) (ra2:Option Addr) (rc2:Nat),v=zT #[]∧Hp.le K K'∧aN G K' (aK 31 K' ra1 rc1 R.1::gX r22 R.2.1::aK 22 K' ra2 rc2 R.2.2::box b1 98 [i64 x0_,i64 x1_,zS a2 x2_.length c3,zS a5 x3_.length c6,zS a8 x4_.length c9,zS a11 x5_.length c12,i64 x6_,i64 x7_,zS a14 x8_.length c15,zS a17 x9_.length c18,zS ra1 R.1.length rc1,zM (some r22),zS ra2 R.2.2.length rc2]::box b31 92 [zP (some ⟨b1,0,none⟩)]::L) w'):=by
 refine aW Tryz.func99 rfl (by kernel_rfl) (by show (3:Nat)≤56;decide) ?_
 unfold pX at hm
 refine aH ?_
 obtain ⟨g4,d1,g5,f7,g6⟩:=aN.lendB (i:=3) hs rfl
 refine hJ (C:=fun w'=>∃ L',aN G g4 L' w') [(0,0),(1,0),(2,0),(3,0),(4,0),(5,0),(6,0),(7,0),(10,0),(8,1),(9,0)] bQ (by kernel_rfl) (fun _ hg=>⟨_,aN.mono f7 hg⟩) (fun l0 g7=>?_)
 have c7:=aN.mono f7 g7
 refine cD rfl (fun _ _=>aF (v:=zP (some ⟨b1,0,none⟩)) rfl) (cD rfl (fun _ _=>eR rfl) (cD rfl (fun _ _=>bD (t':=0) aFt rfl rfl) (cD rfl (fun _ _=>bD (t':=0) kK rfl rfl) (cD rfl (fun _ ⟨_,c7⟩=>iU (t:=0) (vs:=[i64 x0_,i64 x1_,zS a2 x2_.length c3,zS a5 x3_.length c6]) kE c7 g5 rfl rfl rfl) (cD rfl (fun _ _=>aF (v:=zS a25 pair.length c26) rfl) ?_)))))
 obtain ⟨g8,f8,hm⟩:=aJ hm
 refine cD rfl (fun _ _=>cV cG rfl (h27.mono d1) rfl rfl rfl f8) ?_
 obtain ⟨l1,g9,h0⟩:=cJ.el (sz:=1) rfl h27 f8
 cases h0
 refine cD rfl (fun _ ⟨_,c7⟩=>bP (t:=0) dF c7 (g9.mono d1) rfl rfl) (cD rfl (fun _ _=>aF (v:=i64 0) rfl) (nZ rfl ?_))
 obtain ⟨b2,h1,hm⟩:=aJ hm
 refine aX (vs:=[zA #[i64 x0_,i64 x1_,zS a2 x2_.length c3,zS a5 x3_.length c6],i64 g8]) Tryz.call144 rfl (aFk (t:=⟨x0_,x1_,x2_,x3_⟩) c7 (h4.mono d1) (h7.mono d1) h1) ?_
 rintro _ f9 ⟨b8,b9,rfl,g0⟩
 refine aD (aA ⟨⟨_,g0⟩,?_⟩)
 refine cD rfl (fun _ _=>bR (len:=b2.length) cZ rfl) (qQ ?_)
 have h2:=g6 _ _ g0
 refine aA (bJ (fun f w=>∃ (c2:Hp) (d2:List (List Int)) (e7:(List ((Int × Int) × Int))) (d3:List (List aZ)) (d4:Option Addr) (d5:Nat) (d6:Option Addr) (d7:Nat),Hp.le K c2∧pL d2 e7 d3=some R∧aN G c2 (aK 22 c2 d6 d7 d3::aK 31 c2 d4 d5 d2::box b1 98 [i64 x0_,i64 x1_,zS a2 x2_.length c3,zS a5 x3_.length c6,zS a8 x4_.length c9,zS a11 x5_.length c12,i64 x6_,i64 x7_,zS a14 x8_.length c15,zS a17 x9_.length c18,zS d4 d2.length d5,zM (some r22),zS d6 d3.length d7]::gX r22 e7::box b31 92 [zP (some ⟨b1,0,none⟩)]::L) w) ?_ ?_)
 ·rintro f l2 ⟨c2,d2,e7,d3,d4,d5,d6,d7,h3,hm,h5⟩
  unfold pL at hm
  cases zI hm
  exact aDA Tryz.results99 ⟨c2,d4,d5,d6,d7,rfl,h3,(aN.arr 4 [1,3,0,2] h5 rfl)⟩
 have h8:aN G K (box b1 98 [i64 x0_,i64 x1_,zS a2 x2_.length c3,zS a5 x3_.length c6,zS a8 x4_.length c9,zS a11 x5_.length c12,i64 x6_,i64 x7_,zS a14 x8_.length c15,zS a17 x9_.length c18,zS a20 x10_.length c21,zM (some r22),zS a23 x12_.length c24]::aK 63 K b8 b9 b2::aK 31 K a20 c21 x10_::gX r22 x11_M::aK 22 Kf a23 c24 x12_::box b31 92 [zP (some ⟨b1,0,none⟩)]::L) f9:=aN.weak (i:=2) h2 rfl (fun _ h=>aK.mono hKf h)
 have h9:aN G K (box b1 98 [i64 x0_,i64 x1_,zS a2 x2_.length c3,zS a5 x3_.length c6,zS a8 x4_.length c9,zS a11 x5_.length c12,i64 x6_,i64 x7_,zS a14 x8_.length c15,zS a17 x9_.length c18,zS a20 x10_.length c21,zM (some r22),zS a23 x12_.length c24]::aK 63 K b8 b9 b2::aK 31 K a20 c21 x10_::gX r22 x11_M::aK 22 K a23 c24 x12_::box b31 92 [zP (some ⟨b1,0,none⟩)]::L) f9:=aN.weak (i:=4) h8 rfl (fun _ h=>aK.mono hKf h)
 obtain ⟨l3,i0,hm⟩:=aJ hm
 refine cP i0 (fun (s:(List (List Int) × (List ((Int × Int) × Int)) × List (List aZ) × Int)) f w=>match s with|(a7,c0,a9,c1)=>∃ (a3:Hp) (b3:Option Addr) (b4:Nat) (b5:Option Addr) (b6:Nat),Hp.le K a3∧f 0=zP (some ⟨b1,0,none⟩)∧f 1=zS a25 pair.length c26∧f 2=Value.func (.func 100) #[] #[cS a28 k29,zP (some ⟨b31,0,none⟩),cS a32 k33]∧f 19=zS b8 b2.length b9∧f 20=i64 (b2.length:Int)∧f 21=i64 c1∧aN G a3 (box b1 98 [i64 x0_,i64 x1_,zS a2 x2_.length c3,zS a5 x3_.length c6,zS a8 x4_.length c9,zS a11 x5_.length c12,i64 x6_,i64 x7_,zS a14 x8_.length c15,zS a17 x9_.length c18,zS b3 a7.length b4,zM (some r22),zS b5 a9.length b6]::aK 63 K b8 b9 b2::aK 31 a3 b3 b4 a7::gX r22 c0::aK 22 a3 b5 b6 a9::box b31 92 [zP (some ⟨b1,0,none⟩)]::L) w) ?_ ?_
 ·exact ⟨K,a20,c21,a23,c24,(zR _),rfl,rfl,rfl,rfl,rfl,rfl,h9⟩
 ·rintro ⟨a7,c0,a9,c1⟩ g1 f l4 a1 i1 ⟨a3,b3,b4,b5,b6,a6,d8,e8,e9,f0,f1,d9,e0⟩
  replace a1:iF x0_ x1_ x2_ x3_ x4_ x5_ x6_ x7_ x8_ x9_ pair do_c2_ b2 a7 c0 a9 c1=some g1:=a1
  unfold iF at a1
  refine aH (aC (aB (cK d9 f1) (aD (aA (aH ?_)))))
  rcases aM a1 with ⟨f2,a1⟩|⟨f2,a1⟩
  ·refine aQ f2 rfl (aY (aA (aH (bJ (fun f w=>∃ (c4:Hp) (c8:List (List Int)) (e1:(List ((Int × Int) × Int))) (d0:List (List aZ)) (e2:Option Addr) (e3:Nat) (e4:Option Addr) (e5:Nat),Hp.le a3 c4∧jS c1 c8 e1 d0=some g1∧f 0=zP (some ⟨b1,0,none⟩)∧f 1=zS a25 pair.length c26∧f 2=Value.func (.func 100) #[] #[cS a28 k29,zP (some ⟨b31,0,none⟩),cS a32 k33]∧f 19=zS b8 b2.length b9∧f 20=i64 (b2.length:Int)∧f 21=i64 c1∧aN G c4 (aK 22 c4 e4 e5 d0::aK 31 c4 e2 e3 c8::box b1 98 [i64 x0_,i64 x1_,zS a2 x2_.length c3,zS a5 x3_.length c6,zS a8 x4_.length c9,zS a11 x5_.length c12,i64 x6_,i64 x7_,zS a14 x8_.length c15,zS a17 x9_.length c18,zS e2 c8.length e3,zM (some r22),zS e4 d0.length e5]::aK 63 K b8 b9 b2::gX r22 e1::box b31 92 [zP (some ⟨b1,0,none⟩)]::L) w) ?_ ?_))))
   ·rintro f l5 ⟨c4,c8,e1,d0,e2,e3,e4,e5,i2,a1,i3,i4,i5,i6,i7,i8,i9⟩
    unfold jS at a1
    exact aA (aC (aB (cY i8 rfl) (aB (aF (v:=i64 (wr (c1+1))) rfl) (aD (aA ⟨(c8,e1,d0,wr (c1+1)),(zI a1).symm,c4,e2,e3,e4,e5,(zL a6 i2),i3,i4,i5,i6,i7,rfl,(aN.arr 5 [2,3,1,4,0] i9 rfl)⟩)))))
   refine aH (aC ?_)
   obtain ⟨a0,f3,a1⟩:=aJ a1
   have j0:=dH e0 (i:=1) rfl f3
   refine aB (eY cZ rfl j0 f0 rfl d9 f3) (aB (aCA (t:=0) (vs:=[i64 a0.F,i64 a0.B,i64 a0.To]) oC e0 (i:=1) rfl f3 rfl rfl rfl rfl) (cL (vs:=[i64 0,i64 0,i64 0]) Tryz.zeroValue63 e0 rfl (fun e6 l6 j1=>(cM (i:=0) (ns:=[i64 a0.F,i64 a0.B,i64 a0.To]) (us:=[i64 a0.F,i64 a0.B,i64 a0.To]) Tryz.sizeOf63 j1 rfl rfl rfl rfl rfl (eD rfl) rfl rfl (fun j2 (b0:aN G a3 (box e6 63 [i64 a0.F,i64 a0.B,i64 a0.To]::box b1 98 [i64 x0_,i64 x1_,zS a2 x2_.length c3,zS a5 x3_.length c6,zS a8 x4_.length c9,zS a11 x5_.length c12,i64 x6_,i64 x7_,zS a14 x8_.length c15,zS a17 x9_.length c18,zS b3 a7.length b4,zM (some r22),zS b5 a9.length b6]::aK 63 K b8 b9 b2::aK 31 a3 b3 b4 a7::gX r22 c0::aK 22 a3 b5 b6 a9::box b31 92 [zP (some ⟨b1,0,none⟩)]::L) j2)=>(aD (aA (aH (cW (C:=fun w'=>aN G a3 (box e6 63 [i64 a0.F,i64 a0.B,i64 a0.To]::box b1 98 [i64 x0_,i64 x1_,zS a2 x2_.length c3,zS a5 x3_.length c6,zS a8 x4_.length c9,zS a11 x5_.length c12,i64 x6_,i64 x7_,zS a14 x8_.length c15,zS a17 x9_.length c18,zS b3 a7.length b4,zM (some r22),zS b5 a9.length b6]::aK 63 K b8 b9 b2::aK 31 a3 b3 b4 a7::gX r22 c0::aK 22 a3 b5 b6 a9::box b31 92 [zP (some ⟨b1,0,none⟩)]::L) w') bQ (by kernel_rfl) (aN.mono b0 (dE.drew _)) (aT (fun _ b0=>aF d8) (aT (fun _ b0=>eR rfl) (aT (fun _ b0=>bD (t':=0) aFt rfl rfl) (aT (fun _ b0=>bD (t':=0) kK rfl rfl) (aT (fun _ b0=>bD (t':=2) iO rfl rfl) (aT (fun _ b0=>bY jK b0 (i:=1) rfl rfl rfl) (aT (fun _ b0=>bD (t':=1) gO rfl rfl) (aT (fun _ b0=>bY dF b0 (i:=0) rfl rfl rfl) ?_)))))))))))))))))
   obtain ⟨c5,g2,a1⟩:=aJ a1
   refine aT (fun _ b0=>cV cE rfl (h4.mono a6) rfl rfl rfl g2) ?_
   obtain ⟨l7,j3,j4⟩:=cJ.el (sz:=1) rfl h4 g2
   cases j4
   refine aT (fun _ b0=>bP (t:=0) qR b0 (j3.mono a6) rfl rfl) (aT (fun _ b0=>aG (v:=cR c5) rfl) (dD (fun l8 a4=>(aA (aH (cW (C:=fun w'=>aN G a3 (box e6 63 [i64 a0.F,i64 a0.B,i64 a0.To]::box b1 98 [i64 x0_,i64 x1_,zS a2 x2_.length c3,zS a5 x3_.length c6,zS a8 x4_.length c9,zS a11 x5_.length c12,i64 x6_,i64 x7_,zS a14 x8_.length c15,zS a17 x9_.length c18,zS b3 a7.length b4,zM (some r22),zS b5 a9.length b6]::aK 63 K b8 b9 b2::aK 31 a3 b3 b4 a7::gX r22 c0::aK 22 a3 b5 b6 a9::box b31 92 [zP (some ⟨b1,0,none⟩)]::L) w') bQ (by kernel_rfl) (aN.mono a4 (dE.drew _)) (aT (fun _ a4=>aF d8) (aT (fun _ a4=>eR rfl) (aT (fun _ a4=>bD (t':=6) aLJ rfl rfl) (aT (fun _ a4=>dO (us:=[i64 x6_,i64 x7_,zS a14 x8_.length c15,zS a17 x9_.length c18]) kE a4 (i:=1) rfl rfl rfl rfl) (aT (fun _ a4=>aF e8) ?_)))))))))))
   obtain ⟨j5,g3,a1⟩:=aJ a1
   refine aT (fun _ a4=>cV cG rfl (h27.mono a6) rfl rfl rfl g3) ?_
   obtain ⟨l9,j6,j7⟩:=cJ.el (sz:=1) rfl h27 g3
   cases j7
   refine aT (fun _ a4=>bP (t:=0) dF a4 (j6.mono a6) rfl rfl) (aT (fun _ a4=>aF (v:=cR c5) rfl) ?_)
   obtain ⟨b7,j8,a1⟩:=aJ a1
   refine iV (vs:=[zA #[i64 x6_,i64 x7_,zS a14 x8_.length c15,zS a17 x9_.length c18],i64 j5,cR c5]) (v:=zT #[i64 b7.1,zB b7.2]) Tryz.call145 rfl (fun _ a4=>(aDq (t:=⟨x6_,x7_,x8_,x9_⟩) a4 (h16.mono a6) (h19.mono a6) j8)) (aT (fun _ a4=>aF (v:=zT #[i64 b7.1,zB b7.2]) rfl) (aT (fun _ a4=>bX rfl rfl) (aT (fun _ a4=>bX rfl rfl) (aT (fun _ a4=>aG (v:=i64 b7.1) rfl) (aT (fun _ a4=>aG (v:=zB b7.2) rfl) (dD (fun j9 f4=>(aA (aH (aC (aB (aF (v:=zB b7.2) rfl) (aD (aA ?_)))))))))))))
   rcases aM a1 with ⟨f5,a1⟩|⟨f5,a1⟩
   ·refine aQ f5 rfl (aC (aB (aF e9) (aB (aF (v:=cR c5) rfl) (aB (bD (t':=2) lY rfl rfl) (aB (bY dF f4 (i:=0) rfl rfl rfl) (aB (aF (v:=i64 b7.1) rfl) (aB (aEN (vs:=[(0,i64 a0.To),(1,i64 b7.1)]) (cs:=[i64 a0.To,i64 b7.1]) aGh aIZ rfl (by kernel_rfl)) ?_)))))))
    have k0:aN G a3 (aK 31 a3 b3 b4 a7::gX r22 c0::aK 22 a3 b5 b6 a9::box b1 98 [i64 x0_,i64 x1_,zS a2 x2_.length c3,zS a5 x3_.length c6,zS a8 x4_.length c9,zS a11 x5_.length c12,i64 x6_,i64 x7_,zS a14 x8_.length c15,zS a17 x9_.length c18,zS b3 a7.length b4,zM (some r22),zS b5 a9.length b6]::box b31 92 [zP (some ⟨b1,0,none⟩)]::box e6 63 [i64 a0.F,i64 a0.B,i64 a0.To]::aK 63 K b8 b9 b2::L) j9:=(aN.arr 7 [3,4,5,1,6,0,2] f4 rfl)
    obtain ⟨f6,k1,a1⟩:=aJ a1
    refine tZ (vs:=[cR c5,zA #[i64 a0.To,i64 b7.1]]) (caps:=[cS a28 k29,zP (some ⟨b31,0,none⟩),cS a32 k33]) (us:=[cR c5,zA #[i64 a0.To,i64 b7.1],cS a28 k29,zP (some ⟨b31,0,none⟩),cS a32 k33]) rfl Tryz.call100 rfl rfl (aFn (Kf:=a3) (to_:=⟨a0.To,b7.1⟩) k0 (zR _) (h30.mono a6) (h4.mono a6) (h7.mono a6) (h10.mono a6) (h13.mono a6) (h16.mono a6) (h19.mono a6) (h34.mono a6) k1) ?_
    rintro _ m0 ⟨k2,k3,k4,k5,k6,rfl,k7,k8⟩
    exact aD (bO (aA ⟨k2,f6.1,f6.2.1,f6.2.2,k3,k4,k5,k6,k7,a1,d8,e8,e9,f0,f1,d9,(aN.arr 7 [2,0,3,6,1,4] k8 rfl)⟩))
   ·exact aO f5 rfl (aY (bO (aA ⟨a3,a7,c0,a9,b3,b4,b5,b6,(zR _),a1,d8,e8,e9,f0,f1,d9,(aN.arr 6 [5,3,1,2,4] f4 rfl)⟩)))
  ·refine aO f2 rfl (cN (bB (bB ?_)))
   have k9:=i1 _ (zI a1).symm
   subst k9
   have hm:(pL a7 c0 a9)=some R:=hm
   exact bS (aA ⟨a3,a7,c0,a9,b3,b4,b5,b6,a6,hm,(aN.arr 5 [4,2,0,3] e0 rfl)⟩)
theorem aHm {p:cI} {r_:cH} {R:((List (List Int)) × (List ((Int × Int) × Int)) × (List (List aZ)))} (hs:aN G K (L) w) (h3:cJ K a1 c2 p.S.L) (h6:cJ K a4 c5 p.S.E) (h9:cJ K a7 c8 p.M) (h12:cJ K a10 c11 p.C) (h15:cJ K a13 c14 r_.L) (h18:cJ K a16 c17 r_.E) (hm:yD p r_=some R):
  Calls Tryz.prog 55 ([zA (zEa p a1 c2 a4 c5 a7 c8 a10 c11),zA (zCa r_ a13 c14 a16 c17)]:List Value).toArray w (gV fun v w'=>∃ (K':Hp) (ra1:Option Addr) (rc1:Nat) (rr2:Nat) (ra3:Option Addr) (rc3:Nat) (rb4:Nat),v=zP (some ⟨rb4,0,none⟩)∧Hp.le K K'∧aN G K' (aK 31 K' ra1 rc1 R.1::gX rr2 R.2.1::aK 22 K' ra3 rc3 R.2.2::box rb4 98 [i64 p.S.N,i64 p.S.I,zS a1 p.S.L.length c2,zS a4 p.S.E.length c5,zS a7 p.M.length c8,zS a10 p.C.length c11,i64 r_.N,i64 r_.I,zS a13 r_.L.length c14,zS a16 r_.E.length c17,zS ra1 R.1.length rc1,zM (some rr2),zS ra3 R.2.2.length rc3]::L) w'):=by
 refine aW Tryz.func55 rfl (by kernel_rfl) (by show (2:Nat)≤43;decide) ?_
 unfold yD at hm
 refine aH (aC (fC (v:=zA (zEa p a1 c2 a4 c5 a7 c8 a10 c11)) (vs:=(zE p a1 c2 a4 c5 a7 c8 a10 c11)) hs rfl rfl (fun d8 s3 k2=>(fC (v:=zA (zCa r_ a13 c14 a16 c17)) (vs:=(zC r_ a13 c14 a16 c17)) k2 rfl rfl (fun d9 s4 g3=>(aB (aG (v:=zP none) rfl) (aD (aA (aH (aC (aB (dO (us:=(zE p a1 c2 a4 c5 a7 c8 a10 c11)) nV g3 (i:=1) rfl rfl rfl rfl) (aB (dO (us:=(zC r_ a13 c14 a16 c17)) kE g3 (i:=0) rfl rfl rfl rfl) (aMU (Int × Int) Int g3 ?_)))))))))))))
 intro a2 k3 (k4:aN G K (gX a2 ([]:(List ((Int × Int) × Int)))::box d9 30 (zC r_ a13 c14 a16 c17)::box d8 48 (zE p a1 c2 a4 c5 a7 c8 a10 c11)::L) k3)
 refine aB (gW (vs:=[(0,zA (zEa p a1 c2 a4 c5 a7 c8 a10 c11)),(1,zA (zCa r_ a13 c14 a16 c17)),(3,zM (some a2))]) (cs:=[i64 p.S.N,i64 p.S.I,zS a1 p.S.L.length c2,zS a4 p.S.E.length c5,zS a7 p.M.length c8,zS a10 p.C.length c11,i64 r_.N,i64 r_.I,zS a13 r_.L.length c14,zS a16 r_.E.length c17,zS none 0 0,zM (some a2),zS none 0 0]) bs_98 rfl (by kernel_rfl)) (fC (v:=zA #[i64 p.S.N,i64 p.S.I,zS a1 p.S.L.length c2,zS a4 p.S.E.length c5,zS a7 p.M.length c8,zS a10 p.C.length c11,i64 r_.N,i64 r_.I,zS a13 r_.L.length c14,zS a16 r_.E.length c17,zS none 0 0,zM (some a2),zS none 0 0]) (vs:=[i64 p.S.N,i64 p.S.I,zS a1 p.S.L.length c2,zS a4 p.S.E.length c5,zS a7 p.M.length c8,zS a10 p.C.length c11,i64 r_.N,i64 r_.I,zS a13 r_.L.length c14,zS a16 r_.E.length c17,zS none 0 0,zM (some a2),zS none 0 0]) k4 rfl rfl (fun a0 s5 k5=>(cL (vs:=[zP none]) Tryz.zeroValue92 k5 rfl (fun a6 s6 k6=>(cM (i:=0) (ns:=[zP (some ⟨a0,0,none⟩)]) (us:=[zP (some ⟨a0,0,none⟩)]) Tryz.sizeOf92 k6 rfl rfl rfl rfl rfl (eD rfl) rfl rfl ?_)))))
 intro k7 (k8:aN G K (box a6 92 [zP (some ⟨a0,0,none⟩)]::box a0 98 [i64 p.S.N,i64 p.S.I,zS a1 p.S.L.length c2,zS a4 p.S.E.length c5,zS a7 p.M.length c8,zS a10 p.C.length c11,i64 r_.N,i64 r_.I,zS a13 r_.L.length c14,zS a16 r_.E.length c17,zS none 0 0,zM (some a2),zS none 0 0]::gX a2 ([]:(List ((Int × Int) × Int)))::box d9 30 (zC r_ a13 c14 a16 c17)::box d8 48 (zE p a1 c2 a4 c5 a7 c8 a10 c11)::L) k7)
 refine aD (aA (aH (aC (aB (aGa (vs:=[zP (some ⟨a6,0,none⟩)]) rfl) (cL (vs:=[Value.nilFunc]) Tryz.zeroValue133 k8 rfl (fun d0 s7 k9=>(cM (i:=0) (ns:=[Value.func (.func 98) #[] #[zP (some ⟨a6,0,none⟩)]]) (us:=[Value.func (.func 98) #[] #[zP (some ⟨a6,0,none⟩)]]) Tryz.sizeOf133 k9 rfl rfl rfl rfl rfl (eD rfl) rfl rfl ?_)))))))
 intro i2 (f2:aN G K (box d0 133 [Value.func (.func 98) #[] #[zP (some ⟨a6,0,none⟩)]]::box a6 92 [zP (some ⟨a0,0,none⟩)]::box a0 98 [i64 p.S.N,i64 p.S.I,zS a1 p.S.L.length c2,zS a4 p.S.E.length c5,zS a7 p.M.length c8,zS a10 p.C.length c11,i64 r_.N,i64 r_.I,zS a13 r_.L.length c14,zS a16 r_.E.length c17,zS none 0 0,zM (some a2),zS none 0 0]::gX a2 ([]:(List ((Int × Int) × Int)))::box d9 30 (zC r_ a13 c14 a16 c17)::box d8 48 (zE p a1 c2 a4 c5 a7 c8 a10 c11)::L) i2)
 refine aD (aA (aH (aC (aB (bY sc_133 f2 (i:=0) rfl rfl rfl) (aB (bD (t':=0) kK rfl rfl) (aB (bD (t':=1) wV rfl rfl) (aB (bY dF f2 (i:=5) rfl rfl rfl) (aB (bD (t':=1) wV rfl rfl) (aB (bY dF f2 (i:=4) rfl rfl rfl) (aB (aEN (vs:=[(0,i64 p.S.I),(1,i64 r_.I)]) (cs:=[i64 p.S.I,i64 r_.I]) aGh aIZ rfl (by kernel_rfl)) ?_))))))))))
 have l0:=aN.nil (α:=(List Int)) f2 31 K
 have l1:=aN.nil (α:=(List aZ)) l0 22 K
 have l2:aN G K (aK 31 K none 0 ([]:List (List Int))::gX a2 ([]:(List ((Int × Int) × Int)))::aK 22 K none 0 ([]:List (List aZ))::box a0 98 [i64 p.S.N,i64 p.S.I,zS a1 p.S.L.length c2,zS a4 p.S.E.length c5,zS a7 p.M.length c8,zS a10 p.C.length c11,i64 r_.N,i64 r_.I,zS a13 r_.L.length c14,zS a16 r_.E.length c17,zS none 0 0,zM (some a2),zS none 0 0]::box a6 92 [zP (some ⟨a0,0,none⟩)]::box d0 133 [Value.func (.func 98) #[] #[zP (some ⟨a6,0,none⟩)]]::box d9 30 (zC r_ a13 c14 a16 c17)::box d8 48 (zE p a1 c2 a4 c5 a7 c8 a10 c11)::L) i2:=(aN.arr 6 [1,5,0,4,3,2] l1 rfl)
 obtain ⟨b9,l3,hm⟩:=aJ hm
 refine tZ (vs:=[zA #[i64 p.S.I,i64 r_.I],zS none 0 0]) (caps:=[zP (some ⟨a6,0,none⟩)]) (us:=[zA #[i64 p.S.I,i64 r_.I],zS none 0 0,zP (some ⟨a6,0,none⟩)]) rfl Tryz.call98 rfl rfl (iM (Kf:=K) (pair:=⟨p.S.I,r_.I⟩) (path:=[]) (p10_:=[]) (p12_:=[]) l2 (zR _) (aIG (α:=aZ) _) h3 h6 h9 h12 h15 h18 l3) ?_
 rintro _ s8 ⟨e6,d1,d2,d3,d4,rfl,b4,l4⟩
 refine aD (aA (aH (aH (aC (cL (vs:=[i64 0]) Tryz.zeroValue3 l4 rfl (fun f0 s9 l5=>(cM (i:=0) (ns:=[i64 0]) (us:=[i64 0]) Tryz.sizeOf3 l5 rfl rfl rfl rfl rfl (eD rfl) rfl rfl (fun f3 (l6:aN G e6 (box f0 3 [i64 0]::aK 31 e6 d1 d2 b9.1::gX a2 b9.2.1::aK 22 e6 d3 d4 b9.2.2::box a0 98 [i64 p.S.N,i64 p.S.I,zS a1 p.S.L.length c2,zS a4 p.S.E.length c5,zS a7 p.M.length c8,zS a10 p.C.length c11,i64 r_.N,i64 r_.I,zS a13 r_.L.length c14,zS a16 r_.E.length c17,zS d1 b9.1.length d2,zM (some a2),zS d3 b9.2.2.length d4]::box a6 92 [zP (some ⟨a0,0,none⟩)]::box d0 133 [Value.func (.func 98) #[] #[zP (some ⟨a6,0,none⟩)]]::box d9 30 (zC r_ a13 c14 a16 c17)::box d8 48 (zE p a1 c2 a4 c5 a7 c8 a10 c11)::L) f3)=>(aD (aA (bJ (fun f w=>∃ (e8:Hp) (f4:List (List Int)) (g4:(List ((Int × Int) × Int))) (f5:List (List aZ)) (f6:Option Addr) (f7:Nat) (f8:Option Addr) (f9:Nat),Hp.le e6 e8∧vG f4 g4 f5=some R∧f 5=zP (some ⟨a6,0,none⟩)∧aN G e8 (aK 22 e8 f8 f9 f5::aK 31 e8 f6 f7 f4::gX a2 g4::box a0 98 [i64 p.S.N,i64 p.S.I,zS a1 p.S.L.length c2,zS a4 p.S.E.length c5,zS a7 p.M.length c8,zS a10 p.C.length c11,i64 r_.N,i64 r_.I,zS a13 r_.L.length c14,zS a16 r_.E.length c17,zS f6 f4.length f7,zM (some a2),zS f8 f5.length f9]::box a6 92 [zP (some ⟨a0,0,none⟩)]::L) w) ?_ ?_)))))))))))
 ·rintro f t0 ⟨e8,f4,g4,f5,f6,f7,f8,f9,l7,hm,l8,i3⟩
  unfold vG at hm
  refine aA (aH (aC (aB (bY aAn i3 (i:=4) rfl l8 rfl) (aB (aG (v:=zP (some ⟨a0,0,none⟩)) rfl) (aD (aA ?_))))))
  cases zI hm
  exact bC (bA Tryz.results55 rfl ⟨e8,f6,f7,a2,f8,f9,a0,rfl,(zL b4 l7),(aN.arr 5 [1,2,0,3] i3 rfl)⟩)
 obtain ⟨e0,b0,g0,g5,_⟩:=aN.lendB (i:=6) l6 rfl
 replace g5:aN G e0 (box f0 3 [i64 0]::aK 31 e6 d1 d2 b9.1::gX a2 b9.2.1::aK 22 e6 d3 d4 b9.2.2::box a0 98 [i64 p.S.N,i64 p.S.I,zS a1 p.S.L.length c2,zS a4 p.S.E.length c5,zS a7 p.M.length c8,zS a10 p.C.length c11,i64 r_.N,i64 r_.I,zS a13 r_.L.length c14,zS a16 r_.E.length c17,zS d1 b9.1.length d2,zM (some a2),zS d3 b9.2.2.length d4]::box a6 92 [zP (some ⟨a0,0,none⟩)]::box d9 30 (zC r_ a13 c14 a16 c17)::box d8 48 (zE p a1 c2 a4 c5 a7 c8 a10 c11)::L) f3:=g5
 have m0:aN G e0 (box f0 3 [i64 0]::aK 31 e0 d1 d2 b9.1::gX a2 b9.2.1::aK 22 e6 d3 d4 b9.2.2::box a0 98 [i64 p.S.N,i64 p.S.I,zS a1 p.S.L.length c2,zS a4 p.S.E.length c5,zS a7 p.M.length c8,zS a10 p.C.length c11,i64 r_.N,i64 r_.I,zS a13 r_.L.length c14,zS a16 r_.E.length c17,zS d1 b9.1.length d2,zM (some a2),zS d3 b9.2.2.length d4]::box a6 92 [zP (some ⟨a0,0,none⟩)]::box d9 30 (zC r_ a13 c14 a16 c17)::box d8 48 (zE p a1 c2 a4 c5 a7 c8 a10 c11)::L) f3:=aN.weak (i:=1) g5 rfl (fun _ h=>aK.mono b0 h)
 have m1:aN G e0 (box f0 3 [i64 0]::aK 31 e0 d1 d2 b9.1::gX a2 b9.2.1::aK 22 e0 d3 d4 b9.2.2::box a0 98 [i64 p.S.N,i64 p.S.I,zS a1 p.S.L.length c2,zS a4 p.S.E.length c5,zS a7 p.M.length c8,zS a10 p.C.length c11,i64 r_.N,i64 r_.I,zS a13 r_.L.length c14,zS a16 r_.E.length c17,zS d1 b9.1.length d2,zM (some a2),zS d3 b9.2.2.length d4]::box a6 92 [zP (some ⟨a0,0,none⟩)]::box d9 30 (zC r_ a13 c14 a16 c17)::box d8 48 (zE p a1 c2 a4 c5 a7 c8 a10 c11)::L) f3:=aN.weak (i:=3) m0 rfl (fun _ h=>aK.mono b0 h)
 obtain ⟨t1,m2,hm⟩:=aJ hm
 refine cP m2 (fun (s:(List (List Int) × (List ((Int × Int) × Int)) × List (List aZ) × Int)) f w=>match s with|(b1,c1,b2,c3)=>∃ (c0:Hp) (b5:Option Addr) (b6:Nat) (b7:Option Addr) (b8:Nat) (c7:Nat),Hp.le e0 c0∧f 5=zP (some ⟨a6,0,none⟩)∧f 6=cS (some ⟨d0,0,none⟩) 0∧f 7=zP (some ⟨c7,0,none⟩)∧aN G c0 (box c7 3 [i64 c3]::aK 31 c0 b5 b6 b1::gX a2 c1::aK 22 c0 b7 b8 b2::box a0 98 [i64 p.S.N,i64 p.S.I,zS a1 p.S.L.length c2,zS a4 p.S.E.length c5,zS a7 p.M.length c8,zS a10 p.C.length c11,i64 r_.N,i64 r_.I,zS a13 r_.L.length c14,zS a16 r_.E.length c17,zS b5 b1.length b6,zM (some a2),zS b7 b2.length b8]::box a6 92 [zP (some ⟨a0,0,none⟩)]::L) w) ?_ ?_
 ·exact ⟨e0,d1,d2,d3,d4,f0,(zR _),rfl,(kY rfl),rfl,(aN.arr 8 [0,1,2,3,4,5] m1 rfl)⟩
 ·rintro ⟨b1,c1,b2,c3⟩ i4 f t2 a9 m3 ⟨c0,b5,b6,b7,b8,c7,a8,c4,f1,e7,c9⟩
  replace a9:mM p r_ b1 c1 b2 c3=some i4:=a9
  unfold mM at a9
  refine aH (aH (cW (C:=fun w'=>aN G c0 (box c7 3 [i64 c3]::aK 31 c0 b5 b6 b1::gX a2 c1::aK 22 c0 b7 b8 b2::box a0 98 [i64 p.S.N,i64 p.S.I,zS a1 p.S.L.length c2,zS a4 p.S.E.length c5,zS a7 p.M.length c8,zS a10 p.C.length c11,i64 r_.N,i64 r_.I,zS a13 r_.L.length c14,zS a16 r_.E.length c17,zS b5 b1.length b6,zM (some a2),zS b7 b2.length b8]::box a6 92 [zP (some ⟨a0,0,none⟩)]::L) w') bQ (by kernel_rfl) (aN.mono c9 (dE.drew _)) (aT (fun _ c9=>bY sc_3 c9 (i:=0) rfl e7 rfl) (aT (fun _ c9=>bY aAn c9 (i:=5) rfl c4 rfl) (aT (fun _ c9=>eR rfl) (aT (fun _ c9=>bD (t':=10) aCd rfl rfl) (aT (fun _ c9=>bY uD c9 (i:=4) rfl rfl rfl) (aT (fun _ c9=>bR (len:=b1.length) eQ rfl) (aT (fun _ c9=>cK rfl rfl) (dD (fun m4 i5=>(aA ?_))))))))))))
  rcases aM a9 with ⟨g6,a9⟩|⟨g6,a9⟩
  ·refine aQ g6 rfl (aY (aA (aH (cQ (cU (fun f w=>∃ (c6:Hp) (d5:List (List Int)) (e9:(List ((Int × Int) × Int))) (d6:List (List aZ)) (e1:Option Addr) (e2:Nat) (e3:Option Addr) (e4:Nat),Hp.le c0 c6∧aAN c3 d5 e9 d6=some i4∧f 5=zP (some ⟨a6,0,none⟩)∧f 6=cS (some ⟨d0,0,none⟩) 0∧f 7=cS (some ⟨c7,0,none⟩) 0∧nY c6 (some ⟨c7,0,none⟩) 0 [i64 c3]∧aN G c6 (aK 22 c6 e3 e4 d6::aK 31 c6 e1 e2 d5::gX a2 e9::box a0 98 [i64 p.S.N,i64 p.S.I,zS a1 p.S.L.length c2,zS a4 p.S.E.length c5,zS a7 p.M.length c8,zS a10 p.C.length c11,i64 r_.N,i64 r_.I,zS a13 r_.L.length c14,zS a16 r_.E.length c17,zS e1 d5.length e2,zM (some a2),zS e3 d6.length e4]::box a6 92 [zP (some ⟨a0,0,none⟩)]::L) w) ?_ ?_)))))
   ·rintro f t3 ⟨c6,d5,e9,d6,e1,e2,e3,e4,m5,a9,m6,m7,m8,m9,i6⟩
    unfold aAN at a9
    exact bO (aA (aH (aH (aC (aB (bP (t:=0) sc_3 i6 m9 m8 rfl) (aD (aA (aC (cL (vs:=[i64 0]) Tryz.zeroValue3 i6 rfl (fun g7 t4 n0=>(cM (i:=0) (ns:=[i64 c3]) (us:=[i64 c3]) Tryz.sizeOf3 n0 rfl rfl rfl rfl rfl (eD rfl) rfl rfl (fun n1 (i7:aN G c6 (box g7 3 [i64 c3]::aK 22 c6 e3 e4 d6::aK 31 c6 e1 e2 d5::gX a2 e9::box a0 98 [i64 p.S.N,i64 p.S.I,zS a1 p.S.L.length c2,zS a4 p.S.E.length c5,zS a7 p.M.length c8,zS a10 p.C.length c11,i64 r_.N,i64 r_.I,zS a13 r_.L.length c14,zS a16 r_.E.length c17,zS e1 d5.length e2,zM (some a2),zS e3 d6.length e4]::box a6 92 [zP (some ⟨a0,0,none⟩)]::L) n1)=>(aD (aA (aC (aB (bY sc_3 i7 (i:=0) rfl rfl rfl) (aB (cY rfl rfl) (cM (i:=0) (ns:=[i64 (wr (c3+1))]) (us:=[i64 (wr (c3+1))]) Tryz.sizeOf3 i7 rfl rfl rfl rfl rfl (eD rfl) rfl rfl (fun n2 (n3:aN G c6 (box g7 3 [i64 (wr (c3+1))]::aK 22 c6 e3 e4 d6::aK 31 c6 e1 e2 d5::gX a2 e9::box a0 98 [i64 p.S.N,i64 p.S.I,zS a1 p.S.L.length c2,zS a4 p.S.E.length c5,zS a7 p.M.length c8,zS a10 p.C.length c11,i64 r_.N,i64 r_.I,zS a13 r_.L.length c14,zS a16 r_.E.length c17,zS e1 d5.length e2,zM (some a2),zS e3 d6.length e4]::box a6 92 [zP (some ⟨a0,0,none⟩)]::L) n2)=>(aD (aA ⟨(d5,e9,d6,wr (c3+1)),(zI a9).symm,c6,e1,e2,e3,e4,g7,(zL a8 m5),m6,m7,rfl,(aN.arr 4 [0,2,3,1] n3 rfl)⟩)))))))))))))))))))))
   obtain ⟨b3,a3,d7,g8,_⟩:=aN.lendB (i:=0) i5 rfl
   replace g8:aN G b3 (aK 31 c0 b5 b6 b1::gX a2 c1::aK 22 c0 b7 b8 b2::box a0 98 [i64 p.S.N,i64 p.S.I,zS a1 p.S.L.length c2,zS a4 p.S.E.length c5,zS a7 p.M.length c8,zS a10 p.C.length c11,i64 r_.N,i64 r_.I,zS a13 r_.L.length c14,zS a16 r_.E.length c17,zS b5 b1.length b6,zM (some a2),zS b7 b2.length b8]::box a6 92 [zP (some ⟨a0,0,none⟩)]::L) m4:=g8
   refine aBh (C:=fun w'=>∃ L',aN G b3 L' w') [] bQ (by kernel_rfl) (fun e5 n4=>?_)
   have a5:=aN.mono g8 n4
   refine eS (i:=5) rfl (by kernel_rfl) ⟨_,a5⟩ (fun _ ⟨_,a5⟩=>bP (t:=0) sc_3 a5 d7 (kY e7) rfl) (eS (i:=8) rfl (by kernel_rfl) ⟨_,a5⟩ (fun _ _=>aGa (vs:=[cS (some ⟨d0,0,none⟩) 0,zP (some ⟨a6,0,none⟩),cS (some ⟨c7,0,none⟩) 0]) (lst3 f1 c4 (kY e7))) (jW (i:=0) (j:=1) (by kernel_rfl) rfl rfl ?_ ?_))
   ·refine aB (bY aAn a5 (i:=4) rfl c4 rfl) (aD (aA ⟨fun _=>⟨_,a5⟩,?_⟩))
    refine bW (i:=1) (by kernel_rfl) rfl (aB (bY aAn a5 (i:=4) rfl c4 rfl) (aD (aA ⟨fun _=>⟨_,a5⟩,?_⟩)))
    refine eS (i:=2) rfl (by kernel_rfl) ⟨_,a5⟩ (fun _ _=>eR rfl) (eS (i:=3) rfl (by kernel_rfl) ⟨_,a5⟩ (fun _ _=>bD (t':=10) aCd rfl rfl) (bW (i:=4) (by kernel_rfl) rfl (aB (bY uD a5 (i:=3) rfl rfl rfl) (aD (aA ⟨fun _=>⟨_,a5⟩,?_⟩)))))
    obtain ⟨i8,g9,a9⟩:=aJ a9
    have n5:=dH a5 (i:=0) rfl g9
    refine eS (i:=6) rfl (by kernel_rfl) ⟨_,a5⟩ (fun _ _=>eY eQ rfl n5 rfl rfl rfl g9) (bW (i:=7) (by kernel_rfl) rfl ?_)
    obtain ⟨t5,n6,n7⟩:=aBr (sz:=1) rfl a5 (i:=0) rfl g9
    obtain ⟨i9,j0,rfl,n8⟩:=n7
    refine aB (aEM (t:=0) (v:=zS i9 i8.length j0) kD n6 rfl rfl) (aD (aA ⟨fun _=>⟨_,a5⟩,?_⟩))
    refine bW (i:=9) (by kernel_rfl) rfl ?_
    have n9:aN G b3 (aK 31 b3 b5 b6 b1::gX a2 c1::aK 22 c0 b7 b8 b2::box a0 98 [i64 p.S.N,i64 p.S.I,zS a1 p.S.L.length c2,zS a4 p.S.E.length c5,zS a7 p.M.length c8,zS a10 p.C.length c11,i64 r_.N,i64 r_.I,zS a13 r_.L.length c14,zS a16 r_.E.length c17,zS b5 b1.length b6,zM (some a2),zS b7 b2.length b8]::box a6 92 [zP (some ⟨a0,0,none⟩)]::L) e5:=aN.weak (i:=0) a5 rfl (fun _ h=>aK.mono a3 h)
    have o0:aN G b3 (aK 31 b3 b5 b6 b1::gX a2 c1::aK 22 b3 b7 b8 b2::box a0 98 [i64 p.S.N,i64 p.S.I,zS a1 p.S.L.length c2,zS a4 p.S.E.length c5,zS a7 p.M.length c8,zS a10 p.C.length c11,i64 r_.N,i64 r_.I,zS a13 r_.L.length c14,zS a16 r_.E.length c17,zS b5 b1.length b6,zM (some a2),zS b7 b2.length b8]::box a6 92 [zP (some ⟨a0,0,none⟩)]::L) e5:=aN.weak (i:=2) n9 rfl (fun _ h=>aK.mono a3 h)
    obtain ⟨h0,o1,a9⟩:=aJ a9
    refine aX (vs:=[zP (some ⟨a0,0,none⟩),zS i9 i8.length j0,Value.func (.func 100) #[] #[cS (some ⟨d0,0,none⟩) 0,zP (some ⟨a6,0,none⟩),cS (some ⟨c7,0,none⟩) 0]]) Tryz.call99 rfl (nC (Kf:=b3) o0 (zR _) (h3.mono (zL (zL (zL b4 b0) a8) a3)) (h6.mono (zL (zL (zL b4 b0) a8) a3)) (h9.mono (zL (zL (zL b4 b0) a8) a3)) (h12.mono (zL (zL (zL b4 b0) a8) a3)) (h15.mono (zL (zL (zL b4 b0) a8) a3)) (h18.mono (zL (zL (zL b4 b0) a8) a3)) (n8.mono a3) (g0.mono (zL a8 a3)) d7 o1) ?_
    rintro _ t6 ⟨o2,o3,o4,o5,o6,rfl,h1,j1⟩
    refine aD (aA ⟨fun _=>⟨_,(aN.weakK j1 h1)⟩,?_⟩)
    exact fT (by kernel_rfl) (aA ⟨o2,h0.1,h0.2.1,h0.2.2,o3,o4,o5,o6,(zL a3 h1),a9,c4,f1,(kY e7),(d7.mono h1),(aN.arr 3 [2,0,1] j1 rfl)⟩)
   ·refine aB (bY aAn a5 (i:=4) rfl c4 rfl) (aD (aA ⟨fun _=>⟨_,a5⟩,?_⟩))
    refine eS (i:=2) rfl (by kernel_rfl) ⟨_,a5⟩ (fun _ _=>eR rfl) (eS (i:=3) rfl (by kernel_rfl) ⟨_,a5⟩ (fun _ _=>bD (t':=10) aCd rfl rfl) (jW (i:=0) (j:=4) (by kernel_rfl) rfl rfl ?_ ?_))
    ·refine aB (bY aAn a5 (i:=4) rfl c4 rfl) (aD (aA ⟨fun _=>⟨_,a5⟩,?_⟩))
     refine bW (i:=4) (by kernel_rfl) rfl (aB (bY uD a5 (i:=3) rfl rfl rfl) (aD (aA ⟨fun _=>⟨_,a5⟩,?_⟩)))
     obtain ⟨j2,h2,a9⟩:=aJ a9
     have o7:=dH a5 (i:=0) rfl h2
     refine eS (i:=6) rfl (by kernel_rfl) ⟨_,a5⟩ (fun _ _=>eY eQ rfl o7 rfl rfl rfl h2) (bW (i:=7) (by kernel_rfl) rfl ?_)
     obtain ⟨t7,o8,o9⟩:=aBr (sz:=1) rfl a5 (i:=0) rfl h2
     obtain ⟨j3,j4,rfl,p0⟩:=o9
     refine aB (aEM (t:=0) (v:=zS j3 j2.length j4) kD o8 rfl rfl) (aD (aA ⟨fun _=>⟨_,a5⟩,?_⟩))
     refine bW (i:=9) (by kernel_rfl) rfl ?_
     have p1:aN G b3 (aK 31 b3 b5 b6 b1::gX a2 c1::aK 22 c0 b7 b8 b2::box a0 98 [i64 p.S.N,i64 p.S.I,zS a1 p.S.L.length c2,zS a4 p.S.E.length c5,zS a7 p.M.length c8,zS a10 p.C.length c11,i64 r_.N,i64 r_.I,zS a13 r_.L.length c14,zS a16 r_.E.length c17,zS b5 b1.length b6,zM (some a2),zS b7 b2.length b8]::box a6 92 [zP (some ⟨a0,0,none⟩)]::L) e5:=aN.weak (i:=0) a5 rfl (fun _ h=>aK.mono a3 h)
     have p2:aN G b3 (aK 31 b3 b5 b6 b1::gX a2 c1::aK 22 b3 b7 b8 b2::box a0 98 [i64 p.S.N,i64 p.S.I,zS a1 p.S.L.length c2,zS a4 p.S.E.length c5,zS a7 p.M.length c8,zS a10 p.C.length c11,i64 r_.N,i64 r_.I,zS a13 r_.L.length c14,zS a16 r_.E.length c17,zS b5 b1.length b6,zM (some a2),zS b7 b2.length b8]::box a6 92 [zP (some ⟨a0,0,none⟩)]::L) e5:=aN.weak (i:=2) p1 rfl (fun _ h=>aK.mono a3 h)
     obtain ⟨h4,p3,a9⟩:=aJ a9
     refine aX (vs:=[zP (some ⟨a0,0,none⟩),zS j3 j2.length j4,Value.func (.func 100) #[] #[cS (some ⟨d0,0,none⟩) 0,zP (some ⟨a6,0,none⟩),cS (some ⟨c7,0,none⟩) 0]]) Tryz.call99 rfl (nC (Kf:=b3) p2 (zR _) (h3.mono (zL (zL (zL b4 b0) a8) a3)) (h6.mono (zL (zL (zL b4 b0) a8) a3)) (h9.mono (zL (zL (zL b4 b0) a8) a3)) (h12.mono (zL (zL (zL b4 b0) a8) a3)) (h15.mono (zL (zL (zL b4 b0) a8) a3)) (h18.mono (zL (zL (zL b4 b0) a8) a3)) (p0.mono a3) (g0.mono (zL a8 a3)) d7 p3) ?_
     rintro _ t8 ⟨p4,p5,p6,p7,p8,rfl,h5,j5⟩
     refine aD (aA ⟨fun _=>⟨_,(aN.weakK j5 h5)⟩,?_⟩)
     exact fT (by kernel_rfl) (aA ⟨p4,h4.1,h4.2.1,h4.2.2,p5,p6,p7,p8,(zL a3 h5),a9,c4,f1,(kY e7),(d7.mono h5),(aN.arr 3 [2,0,1] j5 rfl)⟩)
    ·refine aB (bY uD a5 (i:=3) rfl rfl rfl) (aD (aA ⟨fun _=>⟨_,a5⟩,?_⟩))
     obtain ⟨g1,g2,a9⟩:=aJ a9
     have p9:=dH a5 (i:=0) rfl g2
     refine eS (i:=6) rfl (by kernel_rfl) ⟨_,a5⟩ (fun _ _=>eY eQ rfl p9 rfl rfl rfl g2) (jW (i:=0) (j:=7) (by kernel_rfl) rfl rfl ?_ ?_)
     ·refine aB (bY aAn a5 (i:=4) rfl c4 rfl) (aD (aA ⟨fun _=>⟨_,a5⟩,?_⟩))
      refine bW (i:=7) (by kernel_rfl) rfl ?_
      obtain ⟨t9,q0,q1⟩:=aBr (sz:=1) rfl a5 (i:=0) rfl g2
      obtain ⟨j6,j7,rfl,q2⟩:=q1
      refine aB (aEM (t:=0) (v:=zS j6 g1.length j7) kD q0 rfl rfl) (aD (aA ⟨fun _=>⟨_,a5⟩,?_⟩))
      refine bW (i:=9) (by kernel_rfl) rfl ?_
      have q3:aN G b3 (aK 31 b3 b5 b6 b1::gX a2 c1::aK 22 c0 b7 b8 b2::box a0 98 [i64 p.S.N,i64 p.S.I,zS a1 p.S.L.length c2,zS a4 p.S.E.length c5,zS a7 p.M.length c8,zS a10 p.C.length c11,i64 r_.N,i64 r_.I,zS a13 r_.L.length c14,zS a16 r_.E.length c17,zS b5 b1.length b6,zM (some a2),zS b7 b2.length b8]::box a6 92 [zP (some ⟨a0,0,none⟩)]::L) e5:=aN.weak (i:=0) a5 rfl (fun _ h=>aK.mono a3 h)
      have q4:aN G b3 (aK 31 b3 b5 b6 b1::gX a2 c1::aK 22 b3 b7 b8 b2::box a0 98 [i64 p.S.N,i64 p.S.I,zS a1 p.S.L.length c2,zS a4 p.S.E.length c5,zS a7 p.M.length c8,zS a10 p.C.length c11,i64 r_.N,i64 r_.I,zS a13 r_.L.length c14,zS a16 r_.E.length c17,zS b5 b1.length b6,zM (some a2),zS b7 b2.length b8]::box a6 92 [zP (some ⟨a0,0,none⟩)]::L) e5:=aN.weak (i:=2) q3 rfl (fun _ h=>aK.mono a3 h)
      obtain ⟨h7,q5,a9⟩:=aJ a9
      refine aX (vs:=[zP (some ⟨a0,0,none⟩),zS j6 g1.length j7,Value.func (.func 100) #[] #[cS (some ⟨d0,0,none⟩) 0,zP (some ⟨a6,0,none⟩),cS (some ⟨c7,0,none⟩) 0]]) Tryz.call99 rfl (nC (Kf:=b3) q4 (zR _) (h3.mono (zL (zL (zL b4 b0) a8) a3)) (h6.mono (zL (zL (zL b4 b0) a8) a3)) (h9.mono (zL (zL (zL b4 b0) a8) a3)) (h12.mono (zL (zL (zL b4 b0) a8) a3)) (h15.mono (zL (zL (zL b4 b0) a8) a3)) (h18.mono (zL (zL (zL b4 b0) a8) a3)) (q2.mono a3) (g0.mono (zL a8 a3)) d7 q5) ?_
      rintro _ u0 ⟨q6,q7,q8,q9,r0,rfl,h8,j8⟩
      refine aD (aA ⟨fun _=>⟨_,(aN.weakK j8 h8)⟩,?_⟩)
      exact fT (by kernel_rfl) (aA ⟨q6,h7.1,h7.2.1,h7.2.2,q7,q8,q9,r0,(zL a3 h8),a9,c4,f1,(kY e7),(d7.mono h8),(aN.arr 3 [2,0,1] j8 rfl)⟩)
     ·obtain ⟨u1,r1,r2⟩:=aBr (sz:=1) rfl a5 (i:=0) rfl g2
      obtain ⟨j9,k0,rfl,r3⟩:=r2
      refine aB (aEM (t:=0) (v:=zS j9 g1.length k0) kD r1 rfl rfl) (aD (aA ⟨fun _=>⟨_,a5⟩,?_⟩))
      refine bW (i:=0) (by kernel_rfl) rfl (aB (bY aAn a5 (i:=4) rfl c4 rfl) (aD (aA ⟨fun _=>⟨_,a5⟩,?_⟩)))
      refine bW (i:=9) (by kernel_rfl) rfl ?_
      have r4:aN G b3 (aK 31 b3 b5 b6 b1::gX a2 c1::aK 22 c0 b7 b8 b2::box a0 98 [i64 p.S.N,i64 p.S.I,zS a1 p.S.L.length c2,zS a4 p.S.E.length c5,zS a7 p.M.length c8,zS a10 p.C.length c11,i64 r_.N,i64 r_.I,zS a13 r_.L.length c14,zS a16 r_.E.length c17,zS b5 b1.length b6,zM (some a2),zS b7 b2.length b8]::box a6 92 [zP (some ⟨a0,0,none⟩)]::L) e5:=aN.weak (i:=0) a5 rfl (fun _ h=>aK.mono a3 h)
      have r5:aN G b3 (aK 31 b3 b5 b6 b1::gX a2 c1::aK 22 b3 b7 b8 b2::box a0 98 [i64 p.S.N,i64 p.S.I,zS a1 p.S.L.length c2,zS a4 p.S.E.length c5,zS a7 p.M.length c8,zS a10 p.C.length c11,i64 r_.N,i64 r_.I,zS a13 r_.L.length c14,zS a16 r_.E.length c17,zS b5 b1.length b6,zM (some a2),zS b7 b2.length b8]::box a6 92 [zP (some ⟨a0,0,none⟩)]::L) e5:=aN.weak (i:=2) r4 rfl (fun _ h=>aK.mono a3 h)
      obtain ⟨i0,r6,a9⟩:=aJ a9
      refine aX (vs:=[zP (some ⟨a0,0,none⟩),zS j9 g1.length k0,Value.func (.func 100) #[] #[cS (some ⟨d0,0,none⟩) 0,zP (some ⟨a6,0,none⟩),cS (some ⟨c7,0,none⟩) 0]]) Tryz.call99 rfl (nC (Kf:=b3) r5 (zR _) (h3.mono (zL (zL (zL b4 b0) a8) a3)) (h6.mono (zL (zL (zL b4 b0) a8) a3)) (h9.mono (zL (zL (zL b4 b0) a8) a3)) (h12.mono (zL (zL (zL b4 b0) a8) a3)) (h15.mono (zL (zL (zL b4 b0) a8) a3)) (h18.mono (zL (zL (zL b4 b0) a8) a3)) (r3.mono a3) (g0.mono (zL a8 a3)) d7 r6) ?_
      rintro _ u2 ⟨r7,r8,r9,s0,s1,rfl,i1,k1⟩
      refine aD (aA ⟨fun _=>⟨_,(aN.weakK k1 i1)⟩,?_⟩)
      exact fT (by kernel_rfl) (aA ⟨r7,i0.1,i0.2.1,i0.2.2,r8,r9,s0,s1,(zL a3 i1),a9,c4,f1,(kY e7),(d7.mono i1),(aN.arr 3 [2,0,1] k1 rfl)⟩)
  ·refine aO g6 rfl (cN (bB (bB ?_)))
   have s2:=m3 _ (zI a9).symm
   subst s2
   have hm:(vG b1 c1 b2)=some R:=hm
   exact bS (aA ⟨c0,b1,c1,b2,b5,b6,b7,b8,(zL b0 a8),hm,c4,(aN.arr 4 [3,1,2] i5 rfl)⟩)
theorem aFL {p:cI} {k:Int} {R:Bool} (hs:aN G K (L) w) (h3:cJ K a1 c2 p.S.L) (h6:cJ K a4 c5 p.S.E) (h9:cJ K a7 c8 p.M) (h12:cJ K a10 c11 p.C) (hm:yE p k=some R):
  Calls Tryz.prog 59 ([zA (zEa p a1 c2 a4 c5 a7 c8 a10 c11),i64 k]:List Value).toArray w (gV fun v w'=>v=zB R∧aN G K (L) w'):=by
 refine aW Tryz.func59 rfl (by kernel_rfl) (by show (2:Nat)≤9;decide) ?_
 unfold yE at hm
 refine aH (aC (fC (v:=zA (zEa p a1 c2 a4 c5 a7 c8 a10 c11)) (vs:=(zE p a1 c2 a4 c5 a7 c8 a10 c11)) hs rfl rfl (fun a8 a9 a0=>(aB (aG (v:=zB false) rfl) (aD (aA (aH (aC (aB (bD (t':=4) sV rfl rfl) (aB (bY kD a0 (i:=0) rfl rfl rfl) (aB (aF (v:=i64 k) rfl) ?_)))))))))))
 obtain ⟨a2,a3,hm⟩:=aJ hm
 refine aX (vs:=[zS a7 p.M.length c8,i64 k]) Tryz.call106 rfl (kS a0 h9 a3) ?_
 rintro _ b0 ⟨rfl,a5⟩
 refine aB (aG (v:=zB a2) rfl) (aD (aA ?_))
 cases zI hm
 exact bC (bA Tryz.results59 rfl ⟨rfl,(aN.arr 1 [] a5 rfl)⟩)
theorem aBX {label:aZ} {to_:(Int × Int)} {k2:Nat} {pM:(List ((Int × Int) × Int))} {r4:Nat} {p:(List lS)} {p':Int} {k10:Nat} {R:(List lS)} (hs:aN G K (aK 70 K a7 c8 p::box b6 68 [zS a7 p.length c8]::L) w) (h3:nY K a1 k2 [zM (some r4)]) (h5:rdM K r4 pM) (h11:nY K a9 k10 [i64 p']) (hm:mZ label to_ pM p p'=some R):
  Calls Tryz.prog 104 ([cR label,zA #[i64 to_.1,i64 to_.2],cS a1 k2,zP (some ⟨b6,0,none⟩),cS a9 k10]:List Value).toArray w (gV fun v w'=>∃ (ra0:Option Addr) (rc0:Nat),v=zT #[]∧aN G K (aK 70 K ra0 rc0 R::box b6 68 [zS ra0 R.length rc0]::L) w'):=by
 refine aW Tryz.func104 rfl (by kernel_rfl) (by show (5:Nat)≤23;decide) ?_
 unfold mZ at hm
 refine aH (aC (fC (v:=zA #[i64 to_.1,i64 to_.2]) (vs:=[i64 to_.1,i64 to_.2]) hs rfl rfl (fun a5 c0 a0=>(aD (aA (aH (aC (aB (bP (t:=0) sc_95 a0 h3 rfl rfl) (aB (dO (us:=[i64 to_.1,i64 to_.2]) aLI a0 (i:=0) rfl rfl rfl rfl) (aB (R_lookK (kv:=pM) (k:=to_) (z:=(0:Int)) Tryz.runUnderlying95 aJa Tryz.zeroValue2 a0 h5 rfl rfl) (aB (aF (v:=zT #[i64 ((mF pM to_).getD 0),zB ((mF pM to_).isSome)]) rfl) (aB (bX rfl rfl) (aB (bX rfl rfl) (aB (aG (v:=i64 ((mF pM to_).getD 0)) rfl) (aB (aG (v:=zB ((mF pM to_).isSome)) rfl) (aD (aA (aH (aC (aB (aF (v:=zB ((mF pM to_).isSome)) rfl) (aD (aA ?_))))))))))))))))))))))
 rcases aM hm with ⟨a6,hm⟩|⟨a6,hm⟩
 ·refine aQ a6 rfl (aC (aB (bY sc_68 a0 (i:=2) rfl rfl rfl) (aB (bP (t:=0) sc_3 a0 h11 rfl rfl) (aB (aF (v:=cR label) rfl) (aB (aF (v:=i64 ((mF pM to_).getD 0)) rfl) (aB (gW (vs:=[(0,i64 p'),(1,cR label),(2,i64 ((mF pM to_).getD 0))]) (cs:=[i64 p',cR label,i64 ((mF pM to_).getD 0)]) bs_70 rfl (by kernel_rfl)) (dA (Kt:=K) (xs:=([⟨p',label,((mF pM to_).getD 0)⟩]:List lS)) (cs:=[i64 p',cR label,i64 ((mF pM to_).getD 0)]) (vs:=[(0,zA #[i64 p',cR label,i64 ((mF pM to_).getD 0)])]) sl_68 ez_70 rfl rfl a0 rfl (by kernel_rfl) rfl rfl rfl ⟨rfl,trivial⟩ ?_)))))))
  intro a8 b0 (b1:aN G K (aK 70 K a8 1 ([⟨p',label,((mF pM to_).getD 0)⟩]:List lS)::box a5 132 [i64 to_.1,i64 to_.2]::aK 70 K a7 c8 p::box b6 68 [zS a7 p.length c8]::L) b0)
  obtain ⟨a4,b2,hm⟩:=aJ hm
  refine jO (i:=1) sl_68 Tryz.underlying68 ez_70 rfl rfl b1 rfl (zR _) (zR _) b2 rfl rfl rfl rfl (fun _ h=>h) (fun a2 a3 b3 (b4:aN G K (box a5 132 [i64 to_.1,i64 to_.2]::aK 70 K a2 a3 a4::box b6 68 [zS a7 p.length c8]::L) b3)=>(cM (i:=2) (ns:=[zS a2 a4.length a3]) (us:=[zS a2 a4.length a3]) Tryz.sizeOf68 b4 rfl rfl rfl rfl rfl (eD rfl) rfl rfl (fun b5 (b7:aN G K (box a5 132 [i64 to_.1,i64 to_.2]::aK 70 K a2 a3 a4::box b6 68 [zS a2 a4.length a3]::L) b5)=>?_)))
  cases zI hm
  exact aD (aDA Tryz.results104 ⟨a2,a3,rfl,(aN.arr 1 [] b7 rfl)⟩)
 ·refine aO a6 rfl ?_
  cases zI hm
  exact aY (aDA Tryz.results104 ⟨a7,c8,rfl,(aN.arr 1 [] a0 rfl)⟩)
end Gv
