/- Walks, printed by program. -/
import Derived.Test.YtnpdckpkipjngaaGreatDoorKWk4
import Derived.Test.YtnpdckpkipjngaaGreatDoorKWk6
set_option linter.all false
namespace Gv
open Go.Value renaming slice→zS,bool→zB,agg→zA
open Option.some renaming inj→zI
open Go Go.Proofs
set_option maxRecDepth 20000
set_option maxHeartbeats 40000000
variable {G:Env} {K:Hp} {L:List nD} {w:World} {a1 a4 a7 a10:Option Addr} {c2 c5 c8 c11:Nat}
theorem aDp {a:(List aZ)} {b:(List aZ)} {R:Bool} (hs:aN G K (L) w) (h3:cJ K a1 c2 a) (h6:cJ K a4 c5 b) (hm:sD a b=some R):
  Calls Tryz.prog 13 ([zS a1 a.length c2,zS a4 b.length c5]:List Value).toArray w (gV fun v w'=>v=zB R∧aN G K (L) w'):=by
 refine aW Tryz.func13 rfl (by kernel_rfl) (by show (2:Nat)≤26;decide) ?_
 unfold sD at hm
 refine aH (aC (aB (aG (v:=zB false) rfl) (aD (aA (aH (aH (aC (aB (aF (v:=zS a1 a.length c2) rfl) (aB (bR (len:=a.length) cE rfl) (aB (aF (v:=zS a4 b.length c5) rfl) (aB (bR (len:=b.length) cE rfl) (aB (mO rfl rfl) (aD (aA ?_))))))))))))))
 rcases aM hm with ⟨c7,hm⟩|⟨c7,hm⟩
 ·refine aQ c7 rfl (aH (aC (aB (aG (v:=zB false) rfl) (aD (aA ?_)))))
  cases zI hm
  exact bC (aS (bA Tryz.results13 rfl ⟨rfl,hs⟩))
 ·refine aO c7 rfl (aY (aA (aH (aH (aC (aB (aG (v:=i64 0) rfl) (aD (aA (bJ (fun f w=>xN=some R∧aN G K (L) w) ?_ ?_)))))))))
  ·rintro f w9 ⟨hm,b6⟩
   unfold xN at hm
   refine aA (aH (aC (aB (aG (v:=zB true) rfl) (aD (aA ?_)))))
   cases zI hm
   exact bC (bA Tryz.results13 rfl ⟨rfl,b6⟩)
  obtain ⟨d0,b8,hm⟩:=aJ hm
  refine cP b8 (fun (a3:Int) f w=>f 0=zS a1 a.length c2∧f 1=zS a4 b.length c5∧f 5=i64 a3∧aN G K (L) w) ?_ ?_
  ·exact ⟨rfl,rfl,rfl,hs⟩
  ·rintro a3 b9 f d1 a0 b0 ⟨a7,b1,a5,a2⟩
   replace a0:oO a b a3=some b9:=a0
   unfold oO at a0
   refine aH (aH (aC (aB (aF a5) (aB (aF a7) (aB (bR (len:=a.length) cE rfl) (aB (cK rfl rfl) (aD (aA ?_))))))))
   rcases aM a0 with ⟨a8,a0⟩|⟨a8,a0⟩
   ·refine aQ a8 rfl (aY (aA (aH (cQ (aH (cW (C:=fun w'=>aN G K (L) w') bQ (by kernel_rfl) (aN.mono a2 (dE.drew _)) (aT (fun _ a2=>aF a7) (aT (fun _ a2=>aF a5) ?_))))))))
    obtain ⟨d2,b2,a0⟩:=aJ a0
    refine aT (fun _ a2=>cV cE rfl h3 rfl rfl rfl b2) ?_
    obtain ⟨d3,c0,c1⟩:=cJ.el (sz:=1) rfl h3 b2
    cases c1
    refine aT (fun _ a2=>bP (t:=0) qR a2 c0 rfl rfl) (aT (fun _ a2=>aF b1) (aT (fun _ a2=>aF a5) ?_))
    obtain ⟨d4,b3,a0⟩:=aJ a0
    refine aT (fun _ a2=>cV cE rfl h6 rfl rfl rfl b3) ?_
    obtain ⟨d5,c3,c4⟩:=cJ.el (sz:=1) rfl h6 b3
    cases c4
    refine aT (fun _ a2=>bP (t:=0) qR a2 c3 rfl rfl) (aT (fun _ a2=>aFZ rfl rfl) (dD (fun d6 b4=>(aA ?_))))
    rcases aM a0 with ⟨a9,a0⟩|⟨a9,a0⟩
    ·refine aQ a9 rfl (aH (aC (aB (aG (v:=zB false) rfl) (aD (aA (bC (bN (aS (aS ?_)))))))))
     have c6:=b0 _ (zI a0).symm
     subst c6
     have hm:(some false)=some R:=hm
     cases zI hm
     exact bN (aS (aS (bA Tryz.results13 rfl ⟨rfl,b4⟩)))
    ·exact aO a9 rfl (aY (bO (aA (aC (aB (aF a5) (aB (cY rfl rfl) (aB (aG (v:=i64 (wr (a3+1))) rfl) (aD (aA ⟨wr (a3+1),(zI a0).symm,a7,b1,rfl,b4⟩)))))))))
   ·refine aO a8 rfl (cN (bB (bB ?_)))
    have c8:=b0 _ (zI a0).symm
    subst c8
    have hm:(xN)=some R:=hm
    exact bS (aA ⟨hm,a2⟩)
theorem aKG {a:Edge} {b:Edge} {R:Bool} (hs:aN G K (L) w)  (hm:aEZ a b=some R):
  Calls Tryz.prog 87 ([zA #[i64 a.F,i64 a.B,i64 a.To],zA #[i64 b.F,i64 b.B,i64 b.To]]:List Value).toArray w (gV fun v w'=>v=zB R∧aN G K (L) w'):=by
 refine aW Tryz.func87 rfl (by kernel_rfl) (by show (2:Nat)≤20;decide) ?_
 unfold aEZ at hm
 refine aH (aC (fC (v:=zA #[i64 a.F,i64 a.B,i64 a.To]) (vs:=[i64 a.F,i64 a.B,i64 a.To]) hs rfl rfl (fun b1 w2 a4=>(fC (v:=zA #[i64 b.F,i64 b.B,i64 b.To]) (vs:=[i64 b.F,i64 b.B,i64 b.To]) a4 rfl rfl (fun b4 w5 a0=>(aB (aG (v:=zB false) rfl) (aD (aA (aH (aH (aC (aB (bD (t':=0) iX rfl rfl) (aB (bY dF a0 (i:=1) rfl rfl rfl) (aB (bD (t':=0) iX rfl rfl) (aB (bY dF a0 (i:=0) rfl rfl rfl) (aB (mO rfl rfl) (aD (aA ?_))))))))))))))))))
 rcases aM hm with ⟨c7,hm⟩|⟨c7,hm⟩
 ·refine aQ c7 rfl (aH (aC (aB (aG (v:=zB false) rfl) (aD (aA ?_)))))
  cases zI hm
  exact bC (aS (bA Tryz.results87 rfl ⟨rfl,(aN.arr 2 [] a0 rfl)⟩))
 ·refine aO c7 rfl (aY (aA (aH (aH (aC (aB (bD (t':=1) gO rfl rfl) (aB (bY dF a0 (i:=1) rfl rfl rfl) (aB (bD (t':=1) gO rfl rfl) (aB (bY dF a0 (i:=0) rfl rfl rfl) (aB (mO rfl rfl) (aD (aA ?_))))))))))))
  rcases aM hm with ⟨c9,hm⟩|⟨c9,hm⟩
  ·refine aQ c9 rfl (aH (aC (aB (aG (v:=zB false) rfl) (aD (aA ?_)))))
   cases zI hm
   exact bC (aS (bA Tryz.results87 rfl ⟨rfl,(aN.arr 2 [] a0 rfl)⟩))
  ·refine aO c9 rfl (aY (aA (aH (aH (aC (aB (bD (t':=2) lY rfl rfl) (aB (bY dF a0 (i:=1) rfl rfl rfl) (aB (bD (t':=2) lY rfl rfl) (aB (bY dF a0 (i:=0) rfl rfl rfl) (aB (mO rfl rfl) (aD (aA ?_))))))))))))
   rcases aM hm with ⟨a3,hm⟩|⟨a3,hm⟩
   ·refine aQ a3 rfl (aH (aC (aB (aG (v:=zB false) rfl) (aD (aA ?_)))))
    cases zI hm
    exact bC (aS (bA Tryz.results87 rfl ⟨rfl,(aN.arr 2 [] a0 rfl)⟩))
   ·refine aO a3 rfl (aY (aA (aH (aC (aB (aG (v:=zB true) rfl) (aD (aA ?_)))))))
    cases zI hm
    exact bC (bA Tryz.results87 rfl ⟨rfl,(aN.arr 2 [] a0 rfl)⟩)
theorem aJI {a:(List Edge)} {b:(List Edge)} {R:Bool} (hs:aN G K (L) w) (h3:cJ K a1 c2 a) (h6:cJ K a4 c5 b) (hm:aDc a b=some R):
  Calls Tryz.prog 39 ([zS a1 a.length c2,zS a4 b.length c5]:List Value).toArray w (gV fun v w'=>v=zB R∧aN G K (L) w'):=by
 refine aW Tryz.func39 rfl (by kernel_rfl) (by show (2:Nat)≤27;decide) ?_
 unfold aDc at hm
 refine aH (aC (aB (aG (v:=zB false) rfl) (aD (aA (aH (aH (aC (aB (aF (v:=zS a1 a.length c2) rfl) (aB (bR (len:=a.length) cZ rfl) (aB (aF (v:=zS a4 b.length c5) rfl) (aB (bR (len:=b.length) cZ rfl) (aB (mO rfl rfl) (aD (aA ?_))))))))))))))
 rcases aM hm with ⟨c7,hm⟩|⟨c7,hm⟩
 ·refine aQ c7 rfl (aH (aC (aB (aG (v:=zB false) rfl) (aD (aA ?_)))))
  cases zI hm
  exact bC (aS (bA Tryz.results39 rfl ⟨rfl,hs⟩))
 ·refine aO c7 rfl (aY (aA (aH (aH (aC (aB (aG (v:=i64 0) rfl) (aD (aA (bJ (fun f w=>aBc=some R∧aN G K (L) w) ?_ ?_)))))))))
  ·rintro f w9 ⟨hm,b8⟩
   unfold aBc at hm
   refine aA (aH (aC (aB (aG (v:=zB true) rfl) (aD (aA ?_)))))
   cases zI hm
   exact bC (bA Tryz.results39 rfl ⟨rfl,b8⟩)
  obtain ⟨d4,c0,hm⟩:=aJ hm
  refine cP c0 (fun (a6:Int) f w=>f 0=zS a1 a.length c2∧f 1=zS a4 b.length c5∧f 5=i64 a6∧aN G K (L) w) ?_ ?_
  ·exact ⟨rfl,rfl,rfl,hs⟩
  ·rintro a6 c1 f d5 a0 b2 ⟨a9,b3,a7,a2⟩
   replace a0:tD a b a6=some c1:=a0
   unfold tD at a0
   refine aH (aH (aC (aB (aF a7) (aB (aF a9) (aB (bR (len:=a.length) cZ rfl) (aB (cK rfl rfl) (aD (aA ?_))))))))
   rcases aM a0 with ⟨b0,a0⟩|⟨b0,a0⟩
   ·refine aQ b0 rfl (aY (aA (aH (cQ (aH (cW (C:=fun w'=>aN G K (L) w') bQ (by kernel_rfl) (aN.mono a2 (dE.drew _)) (aT (fun _ a2=>aF a9) (aT (fun _ a2=>aF a7) ?_))))))))
    obtain ⟨a3,b4,a0⟩:=aJ a0
    refine aT (fun _ a2=>cV cZ rfl h3 rfl rfl rfl b4) ?_
    obtain ⟨d6,c3,c4⟩:=cJ.el (sz:=3) rfl h3 b4
    cases c4
    refine aT (fun _ a2=>iU (t:=0) (vs:=[i64 a3.F,i64 a3.B,i64 a3.To]) oC a2 c3 rfl rfl rfl) (aT (fun _ a2=>aF b3) (aT (fun _ a2=>aF a7) ?_))
    obtain ⟨a5,b5,a0⟩:=aJ a0
    refine aT (fun _ a2=>cV cZ rfl h6 rfl rfl rfl b5) ?_
    obtain ⟨d7,c6,hr50⟩:=cJ.el (sz:=3) rfl h6 b5
    cases hr50
    refine aT (fun _ a2=>iU (t:=0) (vs:=[i64 a5.F,i64 a5.B,i64 a5.To]) oC a2 c6 rfl rfl rfl) ?_
    obtain ⟨c8,c9,a0⟩:=aJ a0
    refine iV (vs:=[zA #[i64 a3.F,i64 a3.B,i64 a3.To],zA #[i64 a5.F,i64 a5.B,i64 a5.To]]) (v:=zB c8) Tryz.call87 rfl (fun _ a2=>(aKG a2 c9)) (aT (fun _ a2=>eP rfl) (dD (fun d8 b6=>(aA ?_))))
    rcases aM a0 with ⟨b1,a0⟩|⟨b1,a0⟩
    ·refine aQ b1 rfl (aH (aC (aB (aG (v:=zB false) rfl) (aD (aA (bC (bN (aS (aS ?_)))))))))
     have d0:=b2 _ (zI a0).symm
     subst d0
     have hm:(some false)=some R:=hm
     cases zI hm
     exact bN (aS (aS (bA Tryz.results39 rfl ⟨rfl,b6⟩)))
    ·exact aO b1 rfl (aY (bO (aA (aC (aB (aF a7) (aB (cY rfl rfl) (aB (aG (v:=i64 (wr (a6+1))) rfl) (aD (aA ⟨wr (a6+1),(zI a0).symm,a9,b3,rfl,b6⟩)))))))))
   ·refine aO b0 rfl (cN (bB (bB ?_)))
    have d2:=b2 _ (zI a0).symm
    subst d2
    have hm:(aBc)=some R:=hm
    exact bS (aA ⟨hm,a2⟩)
theorem aHj {a:cH} {b:cH} {R:Bool} (hs:aN G K (L) w) (h3:cJ K a1 c2 a.L) (h6:cJ K a4 c5 a.E) (h9:cJ K a7 c8 b.L) (h12:cJ K a10 c11 b.E) (hm:aCt a b=some R):
  Calls Tryz.prog 12 ([zA (zCa a a1 c2 a4 c5),zA (zCa b a7 c8 a10 c11)]:List Value).toArray w (gV fun v w'=>v=zB R∧aN G K (L) w'):=by
 refine aW Tryz.func12 rfl (by kernel_rfl) (by show (2:Nat)≤27;decide) ?_
 unfold aCt at hm
 refine aH (aC (fC (v:=zA (zCa a a1 c2 a4 c5)) (vs:=(zC a a1 c2 a4 c5)) hs rfl rfl (fun b8 b9 b0=>(fC (v:=zA (zCa b a7 c8 a10 c11)) (vs:=(zC b a7 c8 a10 c11)) b0 rfl rfl (fun c0 c1 a0=>(aB (aG (v:=zB false) rfl) (aD (aA (aH (aH (aC (aB (bD (t':=0) aAR rfl rfl) (aB (bY dF a0 (i:=1) rfl rfl rfl) (aB (bD (t':=0) aAR rfl rfl) (aB (bY dF a0 (i:=0) rfl rfl rfl) (aB (mO rfl rfl) (aD (aA ?_))))))))))))))))))
 rcases aM hm with ⟨a3,hm⟩|⟨a3,hm⟩
 ·refine aQ a3 rfl (aH (aC (aB (aG (v:=zB false) rfl) (aD (aA ?_)))))
  cases zI hm
  exact bC (aS (bA Tryz.results12 rfl ⟨rfl,(aN.arr 2 [] a0 rfl)⟩))
 ·refine aO a3 rfl (aY (aA (aH (aH (aC (aB (bD (t':=1) wV rfl rfl) (aB (bY dF a0 (i:=1) rfl rfl rfl) (aB (bD (t':=1) wV rfl rfl) (aB (bY dF a0 (i:=0) rfl rfl rfl) (aB (mO rfl rfl) (aD (aA ?_))))))))))))
  rcases aM hm with ⟨a5,hm⟩|⟨a5,hm⟩
  ·refine aQ a5 rfl (aH (aC (aB (aG (v:=zB false) rfl) (aD (aA ?_)))))
   cases zI hm
   exact bC (aS (bA Tryz.results12 rfl ⟨rfl,(aN.arr 2 [] a0 rfl)⟩))
  ·refine aO a5 rfl (aY (aA (aH (aH (aC (aB (bD (t':=2) iO rfl rfl) (aB (bY jK a0 (i:=1) rfl rfl rfl) (aB (bD (t':=2) iO rfl rfl) (aB (bY jK a0 (i:=0) rfl rfl rfl) ?_)))))))))
   obtain ⟨c3,b3,hm⟩:=aJ hm
   refine aX (vs:=[zS a1 a.L.length c2,zS a7 b.L.length c8]) Tryz.call13 rfl (aDp a0 h3 h9 b3) ?_
   rintro _ c4 ⟨rfl,a2⟩
   refine aB (eP rfl) (aD (aA ?_))
   rcases aM hm with ⟨a6,hm⟩|⟨a6,hm⟩
   ·refine aQ a6 rfl (aH (aC (aB (aG (v:=zB false) rfl) (aD (aA ?_)))))
    cases zI hm
    exact bC (aS (bA Tryz.results12 rfl ⟨rfl,(aN.arr 2 [] a2 rfl)⟩))
   ·refine aO a6 rfl (aY (aA (aH (aH (aC (aB (bD (t':=3) eO rfl rfl) (aB (bY jQ a2 (i:=1) rfl rfl rfl) (aB (bD (t':=3) eO rfl rfl) (aB (bY jQ a2 (i:=0) rfl rfl rfl) ?_)))))))))
    obtain ⟨c6,b5,hm⟩:=aJ hm
    refine aX (vs:=[zS a4 a.E.length c5,zS a10 b.E.length c11]) Tryz.call39 rfl (aJI a2 h6 h12 b5) ?_
    rintro _ c7 ⟨rfl,a9⟩
    refine aB (eP rfl) (aD (aA ?_))
    rcases aM hm with ⟨a8,hm⟩|⟨a8,hm⟩
    ·refine aQ a8 rfl (aH (aC (aB (aG (v:=zB false) rfl) (aD (aA ?_)))))
     cases zI hm
     exact bC (aS (bA Tryz.results12 rfl ⟨rfl,(aN.arr 2 [] a9 rfl)⟩))
    ·refine aO a8 rfl (aY (aA (aH (aC (aB (aG (v:=zB true) rfl) (aD (aA ?_)))))))
     cases zI hm
     exact bC (bA Tryz.results12 rfl ⟨rfl,(aN.arr 2 [] a9 rfl)⟩)
theorem aEw {a:(List Int)} {b:(List Int)} {R:Bool} (hs:aN G K (L) w) (h3:cJ K a1 c2 a) (h6:cJ K a4 c5 b) (hm:vN a b=some R):
  Calls Tryz.prog 38 ([zS a1 a.length c2,zS a4 b.length c5]:List Value).toArray w (gV fun v w'=>v=zB R∧aN G K (L) w'):=by
 refine aW Tryz.func38 rfl (by kernel_rfl) (by show (2:Nat)≤26;decide) ?_
 unfold vN at hm
 refine aH (aC (aB (aG (v:=zB false) rfl) (aD (aA (aH (aH (aC (aB (aF (v:=zS a1 a.length c2) rfl) (aB (bR (len:=a.length) cG rfl) (aB (aF (v:=zS a4 b.length c5) rfl) (aB (bR (len:=b.length) cG rfl) (aB (mO rfl rfl) (aD (aA ?_))))))))))))))
 rcases aM hm with ⟨c7,hm⟩|⟨c7,hm⟩
 ·refine aQ c7 rfl (aH (aC (aB (aG (v:=zB false) rfl) (aD (aA ?_)))))
  cases zI hm
  exact bC (aS (bA Tryz.results38 rfl ⟨rfl,hs⟩))
 ·refine aO c7 rfl (aY (aA (aH (aH (aC (aB (aG (v:=i64 0) rfl) (aD (aA (bJ (fun f w=>aAa=some R∧aN G K (L) w) ?_ ?_)))))))))
  ·rintro f w9 ⟨hm,b6⟩
   unfold aAa at hm
   refine aA (aH (aC (aB (aG (v:=zB true) rfl) (aD (aA ?_)))))
   cases zI hm
   exact bC (bA Tryz.results38 rfl ⟨rfl,b6⟩)
  obtain ⟨d0,b8,hm⟩:=aJ hm
  refine cP b8 (fun (a3:Int) f w=>f 0=zS a1 a.length c2∧f 1=zS a4 b.length c5∧f 5=i64 a3∧aN G K (L) w) ?_ ?_
  ·exact ⟨rfl,rfl,rfl,hs⟩
  ·rintro a3 b9 f d1 a0 b0 ⟨a7,b1,a5,a2⟩
   replace a0:qG a b a3=some b9:=a0
   unfold qG at a0
   refine aH (aH (aC (aB (aF a5) (aB (aF a7) (aB (bR (len:=a.length) cG rfl) (aB (cK rfl rfl) (aD (aA ?_))))))))
   rcases aM a0 with ⟨a8,a0⟩|⟨a8,a0⟩
   ·refine aQ a8 rfl (aY (aA (aH (cQ (aH (cW (C:=fun w'=>aN G K (L) w') bQ (by kernel_rfl) (aN.mono a2 (dE.drew _)) (aT (fun _ a2=>aF a7) (aT (fun _ a2=>aF a5) ?_))))))))
    obtain ⟨d2,b2,a0⟩:=aJ a0
    refine aT (fun _ a2=>cV cG rfl h3 rfl rfl rfl b2) ?_
    obtain ⟨d3,c0,c1⟩:=cJ.el (sz:=1) rfl h3 b2
    cases c1
    refine aT (fun _ a2=>bP (t:=0) dF a2 c0 rfl rfl) (aT (fun _ a2=>aF b1) (aT (fun _ a2=>aF a5) ?_))
    obtain ⟨d4,b3,a0⟩:=aJ a0
    refine aT (fun _ a2=>cV cG rfl h6 rfl rfl rfl b3) ?_
    obtain ⟨d5,c3,c4⟩:=cJ.el (sz:=1) rfl h6 b3
    cases c4
    refine aT (fun _ a2=>bP (t:=0) dF a2 c3 rfl rfl) (aT (fun _ a2=>mO rfl rfl) (dD (fun d6 b4=>(aA ?_))))
    rcases aM a0 with ⟨a9,a0⟩|⟨a9,a0⟩
    ·refine aQ a9 rfl (aH (aC (aB (aG (v:=zB false) rfl) (aD (aA (bC (bN (aS (aS ?_)))))))))
     have c6:=b0 _ (zI a0).symm
     subst c6
     have hm:(some false)=some R:=hm
     cases zI hm
     exact bN (aS (aS (bA Tryz.results38 rfl ⟨rfl,b4⟩)))
    ·exact aO a9 rfl (aY (bO (aA (aC (aB (aF a5) (aB (cY rfl rfl) (aB (aG (v:=i64 (wr (a3+1))) rfl) (aD (aA ⟨wr (a3+1),(zI a0).symm,a7,b1,rfl,b4⟩)))))))))
   ·refine aO a8 rfl (cN (bB (bB ?_)))
    have c8:=b0 _ (zI a0).symm
    subst c8
    have hm:(aAa)=some R:=hm
    exact bS (aA ⟨hm,a2⟩)
theorem aEx {k:Int} {R:aZ} (hs:aN G K (L) w)  (hm:sE k=some R):
  Calls Tryz.prog 41 ([i64 k]:List Value).toArray w (gV fun v w'=>v=cR R∧aN G K (L) w'):=by
 refine aW Tryz.func41 rfl (by kernel_rfl) (by show (1:Nat)≤20;decide) ?_
 unfold sE at hm
 refine aH (aC (aB (aG (v:=cR ([]:aZ)) rfl) (aD (aA (aH (aH (aC (aB (aF (v:=i64 k) rfl) (aB (aED rfl rfl) (aD (aA ?_)))))))))))
 rcases aM hm with ⟨c1,hm⟩|⟨c1,hm⟩
 ·refine aQ c1 rfl (aH (aC (aB (aG (v:=cR ([109,48]:aZ)) rfl) (aD (aA ?_)))))
  cases zI hm
  exact bC (aS (bA Tryz.results41 rfl ⟨rfl,hs⟩))
 ·refine aO c1 rfl (aY (aA (aH (aC (aB (aG (v:=cR ([]:aZ)) rfl) (aD (aA (aH (bJ (fun f w=>∃ (a4:aZ),uO a4=some R∧f 3=cR a4∧aN G K (L) w) ?_ ?_)))))))))
  ·rintro f w5 ⟨a4,hm,e4,b5⟩
   unfold uO at hm
   refine aA (aH (aC (aB (aF e4) ?_)))
   obtain ⟨s7,q8,hm⟩:=aJ hm
   refine aB (R_cat rfl rfl q8) (aB (aG (v:=cR s7) rfl) (aD (aA ?_)))
   cases zI hm
   exact bC (bA Tryz.results41 rfl ⟨rfl,b5⟩)
  obtain ⟨c9,b9,hm⟩:=aJ hm
  refine cP b9 (fun (s:(Int × aZ)) f w=>match s with|(a5,a1)=>f 0=i64 a5∧f 3=cR a1∧aN G K (L) w) ?_ ?_
  ·exact ⟨rfl,rfl,hs⟩
  ·rintro ⟨a5,a1⟩ c0 f d0 a0 hr33 ⟨a6,a8,a9⟩
   replace a0:uP a5 a1=some c0:=a0
   unfold uP at a0
   refine aH (aH (aC (aB (aF a6) (aB (lJ rfl rfl) (aD (aA ?_))))))
   rcases aM a0 with ⟨a7,a0⟩|⟨a7,a0⟩
   ·refine aQ a7 rfl (aY (aA (cQ (aH (aC (aB (aF a6) ?_))))))
    obtain ⟨a2,c2,a0⟩:=aJ a0
    refine aB (R_rem rfl rfl c2) (aB (cY rfl rfl) (aB (R_convu8' Tryz.runUnderlying5 rfl ⟨_,Tryz.runUnderlying3⟩) (dA (Kt:=K) (xs:=([(UInt8.ofInt (wr (48+a2)))]:List UInt8)) (cs:=[Value.int .u8 ((UInt8.ofInt (wr (48+a2))).toNat:Int)]) (vs:=[(0,Value.int .u8 ((UInt8.ofInt (wr (48+a2))).toNat:Int))]) sl_122 ez_5 rfl rfl a9 rfl (by kernel_rfl) rfl rfl rfl ⟨rfl,trivial⟩ ?_)))
    intro c3 c4 (b0:aN G K (aK 5 K c3 1 ([(UInt8.ofInt (wr (48+a2)))]:List UInt8)::L) c4)
    refine aB (R_convBSO Tryz.underlying122 Tryz.underlying5 Tryz.underlying9 b0 (i:=0) rfl rfl rfl) (aB (aF a8) ?_)
    obtain ⟨b1,c5,a0⟩:=aJ a0
    refine aB (R_cat rfl rfl c5) (aB (aG (v:=cR b1) rfl) (aD (aA (aC (aB (aF a6) ?_)))))
    obtain ⟨b2,c6,a0⟩:=aJ a0
    exact aB (R_quo rfl rfl c6) (aB (aG (v:=i64 b2) rfl) (aD (bO (aA ⟨(b2,b1),(zI a0).symm,rfl,rfl,(aN.arr 1 [] b0 rfl)⟩))))
   ·refine aO a7 rfl (cN (bB (bB ?_)))
    have c7:=hr33 _ (zI a0).symm
    subst c7
    have hm:(uO a1)=some R:=hm
    exact bS (aA ⟨a1,hm,a8,a9⟩)
end Gv
