/- Walks, printed by program. -/
import Derived.Test.YtnpdckpkipjngaaGreatDoorKWk1
import Derived.Test.YtnpdckpkipjngaaGreatDoorKWk2
set_option linter.all false
namespace Gv
open Go.Value renaming slice→zS,bool→zB,agg→zA
open Option.some renaming inj→zI
open Gv.Hp renaming le_refl→zR
open Go Go.Proofs
set_option maxRecDepth 20000
set_option maxHeartbeats 40000000
variable {G:Env} {K:Hp} {L:List nD} {w:World} {a1 a4:Option Addr} {c2 c5:Nat}
theorem aDo {a:(List aZ)} {R:(List aZ)} (hs:aN G K (L) w) (h3:cJ K a1 c2 a) (hm:kG a=some R):
  Calls Tryz.prog 9 ([zS a1 a.length c2]:List Value).toArray w (gV fun v w'=>∃ (ra0:Option Addr) (rc0:Nat),v=zS ra0 R.length rc0∧aN G K (aK 9 K ra0 rc0 R::L) w'):=by
 refine aW Tryz.func9 rfl (by kernel_rfl) (by show (1:Nat)≤22;decide) ?_
 unfold kG at hm
 refine aH (aC (aB (aG (v:=zS none 0 0) rfl) (aD (aA (aH (aC (aB (aF (v:=zS a1 a.length c2) rfl) (aB (bR (len:=a.length) cE rfl) ?_))))))))
 obtain ⟨a2,q5,hm⟩:=aJ hm
 refine aKW (e:=([]:aZ)) cE oB rfl rfl hs rfl rfl rfl q5 rfl (fun a6 w7 (b9:aN G K (aK 9 K a6 a2.length a2::L) w7)=>(aB (aG (v:=zS a6 a2.length a2.length) rfl) (aD (aA (aH (aH (aC (aB (aG (v:=i64 0) rfl) (aD (aA (bJ (fun f w=>∃ (a5:List aZ),xD a5=some R∧f 3=zS a6 a5.length a2.length∧aN G K (aK 9 K a6 a2.length a5::L) w) ?_ ?_)))))))))))
 ·rintro f d3 ⟨a5,hm,c0,c1⟩
  unfold xD at hm
  refine aA (aH (aC (aB (aF c0) (aB (aG (v:=zS a6 a5.length a2.length) rfl) (aD (aA ?_))))))
  cases zI hm
  exact bC (bA Tryz.results9 rfl ⟨a6,a2.length,rfl,c1⟩)
 obtain ⟨d4,c4,hm⟩:=aJ hm
 refine cP c4 (fun (s:(List aZ × Int)) f w=>match s with|(a4,i27)=>f 0=zS a1 a.length c2∧f 3=zS a6 a4.length a2.length∧f 4=i64 i27∧aN G K (aK 9 K a6 a2.length a4::L) w) ?_ ?_
 ·exact ⟨rfl,rfl,rfl,b9⟩
 ·rintro ⟨a4,i27⟩ c5 f d5 a0 c6 ⟨a9,b0,a7,a8⟩
  replace a0:rW a a4 i27=some c5:=a0
  unfold rW at a0
  refine aH (aH (aC (aB (aF a7) (aB (aF a9) (aB (bR (len:=a.length) cE rfl) (aB (cK rfl rfl) (aD (aA ?_))))))))
  rcases aM a0 with ⟨b1,a0⟩|⟨b1,a0⟩
  ·refine aQ b1 rfl (aY (aA (aH (cQ (aC (aB (aF b0) (aB (aF a7) (aB (aF a9) (aB (aF a7) ?_)))))))))
   obtain ⟨b3,b4,a0⟩:=aJ a0
   refine aB (cV cE rfl h3 rfl rfl rfl b4) ?_
   obtain ⟨d6,c7,c8⟩:=cJ.el (sz:=1) rfl h3 b4
   cases c8
   refine aB (bP (t:=0) qR a8 c7 rfl rfl) ?_
   obtain ⟨d7,b2,a0⟩:=aJ a0
   have c9:=dH a8 (i:=0) rfl b2
   refine aB (eY cE rfl c9 rfl rfl rfl b2) ?_
   obtain ⟨b5,b6,a0⟩:=aJ a0
   exact rO (i:=0) (t:=0) (ns:=[cR b3]) (e':=(b3:aZ)) Tryz.sizeOf9 a8 rfl (zR _) rfl rfl rfl b2 b6 rfl rfl (eD rfl) rfl (fun cs h=>by cases h;rfl) (fun d0 (d1:aN G K (aK 9 K a6 a2.length b5::L) d0)=>(aD (bO (aA (aC (aB (aF a7) (aB (cY rfl rfl) (aB (aG (v:=i64 (wr (i27+1))) rfl) (aD (aA ⟨(b5,wr (i27+1)),(zI a0).symm,a9,(Eq.trans b0 (congrArg (fun n=>zS a6 n a2.length) (jM b6))),rfl,d1⟩))))))))))
  ·refine aO b1 rfl (cN (bB (bB ?_)))
   have d2:=c6 _ (zI a0).symm
   subst d2
   have hm:(xD a4)=some R:=hm
   exact bS (aA ⟨a4,hm,b0,a8⟩)
theorem aKD {a:Edge} {R:Edge} (hs:aN G K (L) w)  (hm:aGQ a=some R):
  Calls Tryz.prog 72 ([zA #[i64 a.F,i64 a.B,i64 a.To]]:List Value).toArray w (gV fun v w'=>v=zA #[i64 R.F,i64 R.B,i64 R.To]∧aN G K (L) w'):=by
 refine aW Tryz.func72 rfl (by kernel_rfl) (by show (1:Nat)≤14;decide) ?_
 unfold aGQ at hm
 refine aH (aC (fC (v:=zA #[i64 a.F,i64 a.B,i64 a.To]) (vs:=[i64 a.F,i64 a.B,i64 a.To]) hs rfl rfl (fun b1 w2 a8=>(cL (vs:=[i64 0,i64 0,i64 0]) Tryz.zeroValue63 a8 rfl (fun b4 w5 a9=>(aD (aA (aH (aC (cL (vs:=[i64 0,i64 0,i64 0]) Tryz.zeroValue63 a9 rfl (fun b7 w8 a3=>(aD (aA (aH (aC (aB (bD (t':=0) fa_107_0 rfl rfl) (aB (bY dF a3 (i:=2) rfl rfl rfl) (aB (bD (t':=0) iX rfl rfl) (cM (i:=0) (ns:=[i64 a.F]) (us:=[i64 a.F,i64 0,i64 0]) Tryz.sizeOf2 a3 rfl rfl rfl rfl rfl (eD rfl) rfl rfl (fun b0 (a4:aN G K (box b7 63 [i64 a.F,i64 0,i64 0]::box b4 63 [i64 0,i64 0,i64 0]::box b1 107 [i64 a.F,i64 a.B,i64 a.To]::L) b0)=>(aD (aA (aH (aC (aB (bD (t':=1) fa_107_1 rfl rfl) (aB (bY dF a4 (i:=2) rfl rfl rfl) ?_))))))))))))))))))))))))))
 refine aB (bD (t':=1) gO rfl rfl) (cM (i:=0) (ns:=[i64 a.B]) (us:=[i64 a.F,i64 a.B,i64 0]) Tryz.sizeOf2 a4 rfl rfl rfl rfl rfl (eD rfl) rfl rfl (fun w12 (a5:aN G K (box b7 63 [i64 a.F,i64 a.B,i64 0]::box b4 63 [i64 0,i64 0,i64 0]::box b1 107 [i64 a.F,i64 a.B,i64 a.To]::L) w12)=>(aD (aA (aH (aC (aB (bD (t':=2) fa_107_2 rfl rfl) (aB (bY dF a5 (i:=2) rfl rfl rfl) (aB (bD (t':=2) lY rfl rfl) (cM (i:=0) (ns:=[i64 a.To]) (us:=[i64 a.F,i64 a.B,i64 a.To]) Tryz.sizeOf2 a5 rfl rfl rfl rfl rfl (eD rfl) rfl rfl (fun b2 (a6:aN G K (box b7 63 [i64 a.F,i64 a.B,i64 a.To]::box b4 63 [i64 0,i64 0,i64 0]::box b1 107 [i64 a.F,i64 a.B,i64 a.To]::L) b2)=>(aD (aA (aH (aC (aB (dO (us:=[i64 a.F,i64 a.B,i64 a.To]) oC a6 (i:=0) rfl rfl rfl rfl) (cM (i:=1) (ns:=[i64 a.F,i64 a.B,i64 a.To]) (us:=[i64 a.F,i64 a.B,i64 a.To]) Tryz.sizeOf63 a6 rfl rfl rfl rfl rfl (eD rfl) rfl rfl (fun b3 (a7:aN G K (box b7 63 [i64 a.F,i64 a.B,i64 a.To]::box b4 63 [i64 a.F,i64 a.B,i64 a.To]::box b1 107 [i64 a.F,i64 a.B,i64 a.To]::L) b3)=>(aD (aA ?_))))))))))))))))))))
 cases zI hm
 exact bC (aGF Tryz.results72 (oA (vs:=[i64 a.F,i64 a.B,i64 a.To]) rfl oC a7 (i:=1) rfl rfl rfl) ⟨rfl,(aN.arr 3 [] a7 rfl)⟩)
theorem aJD {a:(List Edge)} {R:(List Edge)} (hs:aN G K (L) w) (h3:cJ K a1 c2 a) (hm:aCU a=some R):
  Calls Tryz.prog 32 ([zS a1 a.length c2]:List Value).toArray w (gV fun v w'=>∃ (ra0:Option Addr) (rc0:Nat),v=zS ra0 R.length rc0∧aN G K (aK 63 K ra0 rc0 R::L) w'):=by
 refine aW Tryz.func32 rfl (by kernel_rfl) (by show (1:Nat)≤23;decide) ?_
 unfold aCU at hm
 refine aH (aC (aB (aG (v:=zS none 0 0) rfl) (aD (aA (aH (aC (aB (aF (v:=zS a1 a.length c2) rfl) (aB (bR (len:=a.length) sl_23 rfl) ?_))))))))
 obtain ⟨a2,q5,hm⟩:=aJ hm
 refine aKW (e:=(⟨0,0,0⟩:Edge)) cZ aAm rfl rfl hs rfl rfl rfl q5 rfl (fun a6 w7 (c1:aN G K (aK 63 K a6 a2.length a2::L) w7)=>(aB (aG (v:=zS a6 a2.length a2.length) rfl) (aD (aA (aH (aH (aC (aB (aG (v:=i64 0) rfl) (aD (aA (bJ (fun f w=>∃ (a7:List Edge),aBa a7=some R∧f 3=zS a6 a7.length a2.length∧aN G K (aK 63 K a6 a2.length a7::L) w) ?_ ?_)))))))))))
 ·rintro f d6 ⟨a7,hm,c3,c4⟩
  unfold aBa at hm
  refine aA (aH (aC (aB (aF c3) (aB (aG (v:=zS a6 a7.length a2.length) rfl) (aD (aA ?_))))))
  cases zI hm
  exact bC (bA Tryz.results32 rfl ⟨a6,a2.length,rfl,c4⟩)
 obtain ⟨d7,c6,hm⟩:=aJ hm
 refine cP c6 (fun (s:(List Edge × Int)) f w=>match s with|(a4,a8)=>f 0=zS a1 a.length c2∧f 3=zS a6 a4.length a2.length∧f 4=i64 a8∧aN G K (aK 63 K a6 a2.length a4::L) w) ?_ ?_
 ·exact ⟨rfl,rfl,rfl,c1⟩
 ·rintro ⟨a4,a8⟩ c7 f d8 a0 c8 ⟨b0,b1,a9,b2⟩
  replace a0:xE a a4 a8=some c7:=a0
  unfold xE at a0
  refine aH (aH (aC (aB (aF a9) (aB (aF b0) (aB (bR (len:=a.length) sl_23 rfl) (aB (cK rfl rfl) (aD (aA ?_))))))))
  rcases aM a0 with ⟨b3,a0⟩|⟨b3,a0⟩
  ·refine aQ b3 rfl (aY (aA (aH (cQ (aC (aB (aF b1) (aB (aF a9) (aB (aF b0) (aB (aF a9) ?_)))))))))
   obtain ⟨a5,b5,a0⟩:=aJ a0
   refine aB (cV sl_23 rfl h3 rfl rfl rfl b5) ?_
   obtain ⟨d9,c9,d0⟩:=cJ.el (sz:=3) rfl h3 b5
   cases d0
   refine aB (iU (t:=0) (vs:=[i64 a5.F,i64 a5.B,i64 a5.To]) ag_107 b2 c9 rfl rfl rfl) ?_
   obtain ⟨r49,d1,a0⟩:=aJ a0
   refine aX (vs:=[zA #[i64 a5.F,i64 a5.B,i64 a5.To]]) Tryz.call72 rfl (aKD b2 d1) ?_
   rintro _ e0 ⟨rfl,b6⟩
   obtain ⟨e1,b4,a0⟩:=aJ a0
   have d2:=dH b6 (i:=0) rfl b4
   refine aB (eY cZ rfl d2 rfl rfl rfl b4) ?_
   obtain ⟨b7,b8,a0⟩:=aJ a0
   exact rO (i:=0) (t:=0) (ns:=[i64 r49.F,i64 r49.B,i64 r49.To]) (e':=(⟨r49.F,r49.B,r49.To⟩:Edge)) Tryz.sizeOf63 b6 rfl (zR _) rfl rfl rfl b4 b8 rfl rfl (eD rfl) rfl (fun cs h=>by cases h;rfl) (fun d3 (d4:aN G K (aK 63 K a6 a2.length b7::L) d3)=>(aD (bO (aA (aC (aB (aF a9) (aB (cY rfl rfl) (aB (aG (v:=i64 (wr (a8+1))) rfl) (aD (aA ⟨(b7,wr (a8+1)),(zI a0).symm,b0,(Eq.trans b1 (congrArg (fun n=>zS a6 n a2.length) (jM b8))),rfl,d4⟩))))))))))
  ·refine aO b3 rfl (cN (bB (bB ?_)))
   have d5:=c8 _ (zI a0).symm
   subst d5
   have hm:(aBa a4)=some R:=hm
   exact bS (aA ⟨a4,hm,b1,b2⟩)
theorem lI {a:cH} {R:cH} (hs:aN G K (L) w) (h3:cJ K a1 c2 a.L) (h6:cJ K a4 c5 a.E) (hm:sY a=some R):
  Calls Tryz.prog 8 ([zA (zCa a a1 c2 a4 c5)]:List Value).toArray w (gV fun v w'=>∃ (ra0:Option Addr) (rc0:Nat) (ra1:Option Addr) (rc1:Nat),v=zA (zCa R ra0 rc0 ra1 rc1)∧aN G K (aK 9 K ra0 rc0 R.L::aK 63 K ra1 rc1 R.E::L) w'):=by
 refine aW Tryz.func8 rfl (by kernel_rfl) (by show (1:Nat)≤19;decide) ?_
 unfold sY at hm
 refine aH (aC (fC (v:=zA (zCa a a1 c2 a4 c5)) (vs:=(zC a a1 c2 a4 c5)) hs rfl rfl (fun b7 w8 hs9=>(cL (vs:=zG) Tryz.zeroValue30 hs9 rfl (fun a9 d2 b8=>(aD (aA (aH (aC (cL (vs:=zG) Tryz.zeroValue30 b8 rfl (fun b0 d3 b1=>(aD (aA (aH (aC (aB (bD (t':=0) fa_25_0 rfl rfl) (aB (bY dF b1 (i:=2) rfl rfl rfl) (aB (bD (t':=0) aAR rfl rfl) (cM (i:=0) (ns:=[i64 a.N]) (us:=[i64 a.N,i64 0,zS none 0 0,zS none 0 0]) Tryz.sizeOf2 b1 rfl rfl rfl rfl rfl (eD rfl) rfl rfl (fun b9 (b2:aN G K (box b0 30 [i64 a.N,i64 0,zS none 0 0,zS none 0 0]::box a9 30 zG::box b7 25 (zC a a1 c2 a4 c5)::L) b9)=>(aD (aA (aH (aC (aB (bD (t':=1) fa_25_1 rfl rfl) (aB (bY dF b2 (i:=2) rfl rfl rfl) ?_))))))))))))))))))))))))))
 refine aB (bD (t':=1) wV rfl rfl) (cM (i:=0) (ns:=[i64 a.I]) (us:=[i64 a.N,i64 a.I,zS none 0 0,zS none 0 0]) Tryz.sizeOf2 b2 rfl rfl rfl rfl rfl (eD rfl) rfl rfl (fun c0 (b3:aN G K (box b0 30 [i64 a.N,i64 a.I,zS none 0 0,zS none 0 0]::box a9 30 zG::box b7 25 (zC a a1 c2 a4 c5)::L) c0)=>(aD (aA (aH (aC (aB (bD (t':=2) fa_25_2 rfl rfl) (aB (bY jK b3 (i:=2) rfl rfl rfl) ?_))))))))
 obtain ⟨a3,c1,hm⟩:=aJ hm
 refine aX (vs:=[zS a1 a.L.length c2]) Tryz.call9 rfl (aDo b3 h3 c1) ?_
 rintro _ d4 ⟨a0,a2,rfl,c3⟩
 refine aB (bD (t':=2) iO rfl rfl) (cM (i:=1) (ns:=[zS a0 a3.length a2]) (us:=[i64 a.N,i64 a.I,zS a0 a3.length a2,zS none 0 0]) Tryz.sizeOf22 c3 rfl rfl rfl rfl rfl (eD rfl) rfl rfl (fun c4 (b4:aN G K (aK 9 K a0 a2 a3::box b0 30 [i64 a.N,i64 a.I,zS a0 a3.length a2,zS none 0 0]::box a9 30 zG::box b7 25 (zC a a1 c2 a4 c5)::L) c4)=>(aD (aA (aH (aC (aB (bD (t':=3) fa_25_3 rfl rfl) (aB (bY sc_23 b4 (i:=3) rfl rfl rfl) ?_))))))))
 obtain ⟨a7,c6,hm⟩:=aJ hm
 refine aX (vs:=[zS a4 a.E.length c5]) Tryz.call32 rfl (aJD b4 h6 c6) ?_
 rintro _ d5 ⟨a5,a6,rfl,c7⟩
 refine aB (bD (t':=3) eO rfl rfl) (cM (i:=2) (ns:=[zS a5 a7.length a6]) (us:=[i64 a.N,i64 a.I,zS a0 a3.length a2,zS a5 a7.length a6]) Tryz.sizeOf28 c7 rfl rfl rfl rfl rfl (eD rfl) rfl rfl (fun c8 (b5:aN G K (aK 63 K a5 a6 a7::aK 9 K a0 a2 a3::box b0 30 [i64 a.N,i64 a.I,zS a0 a3.length a2,zS a5 a7.length a6]::box a9 30 zG::box b7 25 (zC a a1 c2 a4 c5)::L) c8)=>(aD (aA (aH (aC (aB (dO (us:=[i64 a.N,i64 a.I,zS a0 a3.length a2,zS a5 a7.length a6]) kE b5 (i:=2) rfl rfl rfl rfl) (cM (i:=3) (ns:=[i64 a.N,i64 a.I,zS a0 a3.length a2,zS a5 a7.length a6]) (us:=[i64 a.N,i64 a.I,zS a0 a3.length a2,zS a5 a7.length a6]) Tryz.sizeOf30 b5 rfl rfl rfl rfl rfl (eD rfl) rfl rfl (fun c9 (b6:aN G K (aK 63 K a5 a6 a7::aK 9 K a0 a2 a3::box b0 30 [i64 a.N,i64 a.I,zS a0 a3.length a2,zS a5 a7.length a6]::box a9 30 [i64 a.N,i64 a.I,zS a0 a3.length a2,zS a5 a7.length a6]::box b7 25 (zC a a1 c2 a4 c5)::L) c9)=>(aD (aA ?_)))))))))))
 cases zI hm
 exact bC (aGF Tryz.results8 (oA (vs:=[i64 a.N,i64 a.I,zS a0 a3.length a2,zS a5 a7.length a6]) rfl kE b6 (i:=3) rfl rfl rfl) ⟨a0,a2,a5,a6,rfl,(aN.arr 5 [1,0] b6 rfl)⟩)
theorem uW {n:Int} {low:Int} {high:Int} {R:Bool} (hs:aN G K (L) w)  (hm:xF n low high=some R):
  Calls Tryz.prog 73 ([i64 n,i64 low,i64 high]:List Value).toArray w (gV fun v w'=>v=zB R∧aN G K (L) w'):=by
 refine aW Tryz.func73 rfl (by kernel_rfl) (by show (3:Nat)≤15;decide) ?_
 unfold xF at hm
 refine aH (aC (aB (aG (v:=zB false) rfl) (aD (aA (aH (cU (fun f w=>∃ (v1:Bool),aCi v1=some R∧f 6=zB v1∧aN G K (L) w) ?_ ?_))))))
 ·rintro f w3 ⟨v1,hm,e2,a3⟩
  unfold aCi at hm
  refine aA ?_
  cases zI hm
  exact bC (bA Tryz.results73 rfl ⟨e2,a3⟩)
 refine aC (aB (aF (v:=i64 n) rfl) (aB (aF (v:=i64 low) rfl) (aB (yL rfl rfl) (aB (aF (v:=zB (decide (low≤n))) rfl) ?_))))
 rcases aM hm with ⟨c6,hm⟩|⟨c6,hm⟩
 ·exact bK c6 rfl rfl (aB (aF (v:=i64 n) rfl) (bK c6 rfl rfl (aB (aF (v:=i64 high) rfl) (bK c6 rfl rfl (aB (aED rfl rfl) (aB (bH (v:=zB (decide (n≤high))) c6 rfl rfl) (aB (aG (v:=zB (decide (n≤high))) rfl) (aD (aA ⟨decide (n≤high),hm,rfl,hs⟩)))))))))
 ·exact bE c6 rfl rfl (bE c6 rfl rfl (bE c6 rfl rfl (aB (bL (v:=zB false) c6 rfl rfl) (aB (aG (v:=zB false) rfl) (aD (aA ⟨false,hm,rfl,hs⟩))))))
theorem pP {t:cH} {k:Int} {R:Bool} (hs:aN G K (L) w) (h3:cJ K a1 c2 t.L) (h6:cJ K a4 c5 t.E) (hm:lL t k=some R):
  Calls Tryz.prog 74 ([zA (zCa t a1 c2 a4 c5),i64 k]:List Value).toArray w (gV fun v w'=>v=zB R∧aN G K (L) w'):=by
 refine aW Tryz.func74 rfl (by kernel_rfl) (by show (2:Nat)≤10;decide) ?_
 unfold lL at hm
 refine aH (aC (fC (v:=zA (zCa t a1 c2 a4 c5)) (vs:=(zC t a1 c2 a4 c5)) hs rfl rfl (fun b7 w8 a0=>(aB (aG (v:=zB false) rfl) (aD (aA (aH (aC (aB (aF (v:=i64 k) rfl) (aB (bD (t':=0) aAR rfl rfl) (aB (bY dF a0 (i:=0) rfl rfl rfl) (aB (hY rfl rfl) ?_))))))))))))
 obtain ⟨a2,a3,hm⟩:=aJ hm
 refine aX (vs:=[i64 k,i64 0,i64 (wr (t.N - 1))]) Tryz.call73 rfl (uW a0 a3) ?_
 rintro _ a9 ⟨rfl,a5⟩
 refine aB (aG (v:=zB a2) rfl) (aD (aA ?_))
 cases zI hm
 exact bC (bA Tryz.results74 rfl ⟨rfl,(aN.arr 1 [] a5 rfl)⟩)
theorem aGu {words:(List aZ)} {R:((List Int) × Bool)} (hs:aN G K (L) w) (hG:G.lo=0) (h3:cJ K a1 c2 words) (hm:uJ words=some R):
  Calls Tryz.prog 153 ([zS a1 words.length c2]:List Value).toArray w (gV fun v w'=>∃ (ra0:Option Addr) (rc0:Nat),v=Value.tuple #[zS ra0 R.1.length rc0,zB R.2]∧aN G K (aK 2 K ra0 rc0 R.1::L) w'):=by
 refine aW Tryz.func153 rfl (by kernel_rfl) (by show (1:Nat)≤28;decide) ?_
 unfold uJ at hm
 refine aH (aC (aB (aG (v:=zS none 0 0) rfl) (aB (aG (v:=zB false) rfl) (aD (aA (aH (aC (aB (aG (v:=zS none 0 0) rfl) (aD (aA (aH (aH (aC (aB (aF (v:=zS a1 words.length c2) rfl) (aB (bR (len:=words.length) cE rfl) (aB (aF (v:=i64 0) rfl) (aD (aA (bJ (fun f w=>∃ (a4:List Int) (a5:Option Addr) (c6:Nat),sZ a4=some R∧f 4=zS a5 a4.length c6∧aN G K (aK 2 K a5 c6 a4::L) w) ?_ ?_)))))))))))))))))))
 ·rintro f w8 ⟨a4,a5,c6,hm,e7,hs9⟩
  unfold sZ at hm
  refine aA (aH (aC (aB (aF e7) (aB (aG (v:=zS a5 a4.length c6) rfl) (aB (aG (v:=zB true) rfl) (aD (aA ?_)))))))
  cases zI hm
  exact bC (qO Tryz.results153 rfl rfl ⟨a5,c6,rfl,hs9⟩)
 have c8:=aN.nil (α:=Int) hs 2 K
 obtain ⟨e5,c9,hm⟩:=aJ hm
 refine cP c9 (fun (s:(List Int × Int)) f w=>match s with|(a3,a7)=>∃ (a8:Option Addr) (a9:Nat),f 4=zS a8 a3.length a9∧f 9=zS a1 words.length c2∧f 10=i64 (words.length:Int)∧f 11=i64 a7∧aN G K (aK 2 K a8 a9 a3::L) w) ?_ ?_
 ·exact ⟨none,0,rfl,rfl,rfl,rfl,c8⟩
 ·rintro ⟨a3,a7⟩ d0 f e6 a0 b8 ⟨a8,a9,b9,c0,c1,b0,b1⟩
  replace a0:lP words a3 a7=some d0:=a0
  unfold lP at a0
  refine aH (aC (aB (cK b0 c1) (aD (aA (aH ?_)))))
  rcases aM a0 with ⟨b2,a0⟩|⟨b2,a0⟩
  ·refine aQ b2 rfl (aY (aA (aH (cQ (aH (aC ?_))))))
   obtain ⟨b3,c3,a0⟩:=aJ a0
   refine aB (cV cE rfl h3 c0 rfl b0 c3) ?_
   obtain ⟨cs54,d1,d2⟩:=cJ.el (sz:=1) rfl h3 c3
   cases d2
   refine aB (bP (t:=0) qR b1 d1 rfl rfl) (aB (aG (v:=cR b3) rfl) (aD (aA (aH (aC (aB (aF (v:=cR b3) rfl) ?_))))))
   obtain ⟨a2,d3,a0⟩:=aJ a0
   refine aX (vs:=[cR b3]) Tryz.call206 rfl (aIr b1 hG d3) ?_
   rintro _ e8 ⟨rfl,c4⟩
   refine aB (aF (v:=Value.tuple #[i64 a2.1,zB a2.2]) rfl) (aB (bX rfl rfl) (aB (bX rfl rfl) (aB (aG (v:=i64 a2.1) rfl) (aB (aG (v:=zB a2.2) rfl) (aD (aA (aH (aH (aC (aB (aF (v:=zB a2.2) rfl) (aB (eP rfl) (aD (aA ?_)))))))))))))
   rcases aM a0 with ⟨b4,a0⟩|⟨b4,a0⟩
   ·refine aQ b4 rfl (aH (aC (aB (aG (v:=zS none 0 0) rfl) (aB (aG (v:=zB false) rfl) (aD (aA (bC (aS (bN (aS (aS ?_)))))))))))
    have d4:=b8 _ (zI a0).symm
    subst d4
    have hm:(some ([],false))=some R:=hm
    have d5:=aN.nil (α:=Int) c4 2 K
    cases zI hm
    exact bN (aS (aS (qO Tryz.results153 rfl rfl ⟨none,0,rfl,(aN.arr 2 [0] d5 rfl)⟩)))
   ·refine aO b4 rfl (aY (aA (aC (aB (aF b9) (aB (aF (v:=i64 a2.1) rfl) (dA (Kt:=K) (xs:=([a2.1]:List Int)) (cs:=[i64 a2.1]) (vs:=[(0,i64 a2.1)]) cG sU rfl rfl c4 rfl (by kernel_rfl) rfl rfl rfl ⟨rfl,trivial⟩ (fun d7 d8 (d9:aN G K (aK 2 K d7 1 ([a2.1]:List Int)::aK 2 K a8 a9 a3::L) d8)=>?_)))))))
    obtain ⟨b5,e0,a0⟩:=aJ a0
    exact jO (i:=0) cG Tryz.underlying31 sU rfl rfl d9 rfl (zR _) (zR _) e0 rfl rfl rfl rfl (fun _ h=>h) (fun b6 b7 e1 (e2:aN G K (aK 2 K b6 b7 b5::L) e1)=>(aB (aG (v:=zS b6 b5.length b7) rfl) (aD (bO (aA (aC (aB (cY b0 rfl) (aB (aF (v:=i64 (wr (a7+1))) rfl) (aD (aA ⟨(b5,wr (a7+1)),(zI a0).symm,b6,b7,rfl,c0,c1,rfl,e2⟩))))))))))
  ·refine aO b2 rfl (cN (bB (bB ?_)))
   have e3:=b8 _ (zI a0).symm
   subst e3
   have hm:(sZ a3)=some R:=hm
   exact bS (aA ⟨a3,a8,a9,hm,b9,b1⟩)
theorem aKE {list:(List Int)} {sep:aZ} {R:aZ} (hs:aN G K (L) w) (hG:G.lo=0) (h3:cJ K a1 c2 list) (hm:aBD list sep=some R):
  Calls Tryz.prog 129 ([zS a1 list.length c2,cR sep]:List Value).toArray w (gV fun v w'=>v=cR R∧aN G K (L) w'):=by
 refine aW Tryz.func129 rfl (by kernel_rfl) (by show (2:Nat)≤27;decide) ?_
 unfold aBD at hm
 refine aH (aC (aB (aG (v:=cR ([]:aZ)) rfl) (aD (aA (aH (aC (aB (aF (v:=zS a1 list.length c2) rfl) (aB (bR (len:=list.length) cG rfl) ?_))))))))
 obtain ⟨a2,q5,hm⟩:=aJ hm
 refine aKW (e:=([]:aZ)) cE oB rfl rfl hs rfl rfl rfl q5 rfl (fun a6 w7 (c4:aN G K (aK 9 K a6 a2.length a2::L) w7)=>(aB (aG (v:=zS a6 a2.length a2.length) rfl) (aD (aA (aH (aH (aC (aB (aF (v:=zS a1 list.length c2) rfl) (aB (bR (len:=list.length) cG rfl) (aB (aF (v:=i64 0) rfl) (aD (aA (bJ (fun f w=>∃ (words9:List aZ),aAs sep words9=some R∧f 1=cR sep∧f 5=zS a6 words9.length a2.length∧aN G K (aK 9 K a6 a2.length words9::L) w) ?_ ?_)))))))))))))
 ·rintro f e6 ⟨words9,hm,c5,c6,c7⟩
  unfold aAs at hm
  refine aA (aH (aC (aB (aF c6) (aB (aF c5) ?_))))
  obtain ⟨e7,e8,c8,c9,d0⟩:=aN.lendS (i:=0) c7 (zR _) rfl
  obtain ⟨d1,d2,hm⟩:=aJ hm
  refine aX (vs:=[zS a6 words9.length a2.length,cR sep]) Tryz.call183 rfl (lib_Join c9 hG c8 d2) ?_
  rintro _ e9 ⟨rfl,d3⟩
  have d4:=d0 _ _ d3
  refine aB (aG (v:=cR d1) rfl) (aD (aA ?_))
  cases zI hm
  exact bC (bA Tryz.results129 rfl ⟨rfl,(aN.arr 1 [] d4 rfl)⟩)
 obtain ⟨f0,d6,hm⟩:=aJ hm
 refine cP d6 (fun (s:(List aZ × Int)) f w=>match s with|(a5,a4)=>f 1=cR sep∧f 5=zS a6 a5.length a2.length∧f 11=zS a1 list.length c2∧f 12=i64 (list.length:Int)∧f 13=i64 a4∧aN G K (aK 9 K a6 a2.length a5::L) w) ?_ ?_
 ·exact ⟨rfl,rfl,rfl,rfl,rfl,c4⟩
 ·rintro ⟨a5,a4⟩ d7 f f1 a0 d8 ⟨b3,a8,b4,b5,a7,a9⟩
  replace a0:vX list a5 a4=some d7:=a0
  unfold vX at a0
  refine aH (aC (aB (cK a7 b5) (aD (aA (aH ?_)))))
  rcases aM a0 with ⟨b0,a0⟩|⟨b0,a0⟩
  ·refine aQ b0 rfl (aY (aA (aH (cQ (aH (aC (aB (aF a7) ?_)))))))
   obtain ⟨b1,b6,a0⟩:=aJ a0
   refine aB (cV cG rfl h3 b4 rfl a7 b6) ?_
   obtain ⟨f2,d9,e0⟩:=cJ.el (sz:=1) rfl h3 b6
   cases e0
   refine aB (bP (t:=0) dF a9 d9 rfl rfl) (aB (aG (v:=i64 a4) rfl) (aB (aG (v:=i64 b1) rfl) (aD (aA (aC (aB (aF a8) (aB (aF (v:=i64 a4) rfl) (aB (aF (v:=i64 b1) rfl) ?_))))))))
   obtain ⟨b7,e1,a0⟩:=aJ a0
   refine aX (vs:=[i64 b1]) Tryz.call130 rfl (aNj a9 e1) ?_
   rintro _ f3 ⟨rfl,b8⟩
   obtain ⟨f4,b2,a0⟩:=aJ a0
   have e2:=dH b8 (i:=0) rfl b2
   refine aB (eY cE rfl e2 rfl rfl rfl b2) ?_
   obtain ⟨b9,c0,a0⟩:=aJ a0
   exact rO (i:=0) (t:=0) (ns:=[cR b7]) (e':=(b7:aZ)) Tryz.sizeOf9 b8 rfl (zR _) rfl rfl rfl b2 c0 rfl rfl (eD rfl) rfl (fun cs h=>by cases h;rfl) (fun e3 (e4:aN G K (aK 9 K a6 a2.length b9::L) e3)=>(aD (bO (aA (aC (aB (cY a7 rfl) (aB (aF (v:=i64 (wr (a4+1))) rfl) (aD (aA ⟨(b9,wr (a4+1)),(zI a0).symm,b3,(Eq.trans a8 (congrArg (fun n=>zS a6 n a2.length) (jM c0))),b4,b5,rfl,e4⟩)))))))))
  ·refine aO b0 rfl (cN (bB (bB ?_)))
   have e5:=d8 _ (zI a0).symm
   subst e5
   have hm:(aAs sep a5)=some R:=hm
   exact bS (aA ⟨a5,hm,b3,a8,a9⟩)
theorem aJE {c:UInt8} {R:Bool} (hs:aN G K (L) w)  (hm:aFw c=some R):
  Calls Tryz.prog 235 ([Value.int .u8 (c.toNat:Int)]:List Value).toArray w (gV fun v w'=>v=zB R∧aN G K (L) w'):=by
 refine aW Tryz.func235 rfl (by kernel_rfl) (by show (1:Nat)≤9;decide) ?_
 unfold aFw at hm
 refine aH (aC (aB (aG (v:=zB false) rfl) (aD (aA (aH (cU (fun f w=>∃ (v1:Bool),aBb v1=some R∧f 2=zB v1∧aN G K (L) w) ?_ ?_))))))
 ·rintro f w3 ⟨v1,hm,e2,a3⟩
  unfold aBb at hm
  refine aA ?_
  cases zI hm
  exact bC (bA Tryz.results235 rfl ⟨e2,a3⟩)
 refine aC (aB (aF (v:=Value.int .u8 (c.toNat:Int)) rfl) (aB (yL rfl rfl) (aB (aF (v:=zB (decide (48≤(c.toNat:Int)))) rfl) ?_)))
 rcases aM hm with ⟨c6,hm⟩|⟨c6,hm⟩
 ·exact bK c6 rfl rfl (aB (aF (v:=Value.int .u8 (c.toNat:Int)) rfl) (bK c6 rfl rfl (aB (aED rfl rfl) (aB (bH (v:=zB (decide ((c.toNat:Int)≤57))) c6 rfl rfl) (aB (aG (v:=zB (decide ((c.toNat:Int)≤57))) rfl) (aD (aA ⟨decide ((c.toNat:Int)≤57),hm,rfl,hs⟩)))))))
 ·exact bE c6 rfl rfl (bE c6 rfl rfl (aB (bL (v:=zB false) c6 rfl rfl) (aB (aG (v:=zB false) rfl) (aD (aA ⟨false,hm,rfl,hs⟩)))))
theorem aKF {s_:aZ} {R:Bool} (hs:aN G K (L) w)  (hm:aEP s_=some R):
  Calls Tryz.prog 200 ([cR s_]:List Value).toArray w (gV fun v w'=>v=zB R∧aN G K (L) w'):=by
 refine aW Tryz.func200 rfl (by kernel_rfl) (by show (1:Nat)≤42;decide) ?_
 unfold aEP at hm
 refine aH (aC (aB (aG (v:=zB false) rfl) (aD (aA (aH (aH (aC (aB (aF (v:=cR s_) rfl) (aB (gU Tryz.runUnderlying9 rfl) (aB (aF (v:=i64 0) rfl) (aD (aA (bJ (fun f w=>aAt s_=some R∧f 0=cR s_∧aN G K (L) w) ?_ ?_)))))))))))))
 ·rintro f w2 ⟨hm,e1,c3⟩
  unfold aAt at hm
  refine aA (aH (cU (fun f w=>∃ (v4:Bool),aCj v4=some R∧f 2=zB v4∧aN G K (L) w) ?_ ?_))
  ·rintro f w6 ⟨v4,hm,e5,d0⟩
   unfold aCj at hm
   refine aA ?_
   cases zI hm
   exact bC (bA Tryz.results200 rfl ⟨e5,d0⟩)
  refine aC (aB (aF e1) (aB (gU Tryz.runUnderlying9 rfl) (aB (yL rfl rfl) (aB (aF (v:=zB (decide (1≤(s_.length:Int)))) rfl) ?_))))
  rcases aM hm with ⟨c9,hm⟩|⟨c9,hm⟩
  ·exact bK c9 rfl rfl (aB (aF e1) (bK c9 rfl rfl (aB (gU Tryz.runUnderlying9 rfl) (bK c9 rfl rfl (aB (aED rfl rfl) (aB (bH (v:=zB (decide ((s_.length:Int)≤10))) c9 rfl rfl) (aB (aG (v:=zB (decide ((s_.length:Int)≤10))) rfl) (aD (aA ⟨decide ((s_.length:Int)≤10),hm,rfl,c3⟩)))))))))
  ·exact bE c9 rfl rfl (bE c9 rfl rfl (bE c9 rfl rfl (aB (bL (v:=zB false) c9 rfl rfl) (aB (aG (v:=zB false) rfl) (aD (aA ⟨false,hm,rfl,c3⟩))))))
 obtain ⟨e6,d2,hm⟩:=aJ hm
 refine cP d2 (fun (a1:Int) f w=>f 0=cR s_∧f 6=i64 (s_.length:Int)∧f 7=i64 a1∧aN G K (L) w) ?_ ?_
 ·exact ⟨rfl,rfl,rfl,hs⟩
 ·rintro a1 b2 f e7 a0 c4 ⟨a6,b3,a7,b4⟩
  replace a0:rX s_ a1=some b2:=a0
  unfold rX at a0
  refine aH (aC (aB (cK a7 b3) (aD (aA (aH ?_)))))
  rcases aM a0 with ⟨b5,a0⟩|⟨b5,a0⟩
  ·refine aQ b5 rfl (aY (aA (aH (cQ (aH (aC (aB (aF a7) (aB (aG (v:=i64 a1) rfl) (aD (aA (aH (cU (fun f w=>∃ (a8:Bool),pC s_ a1 a8=some b2∧f 0=cR s_∧f 3=i64 a1∧f 4=zB a8∧f 6=i64 (s_.length:Int)∧f 7=i64 a1∧aN G K (L) w) ?_ ?_))))))))))))
   ·rintro f e8 ⟨a8,a0,a9,c5,d3,b6,b7,b8⟩
    unfold pC at a0
    refine aA (aH (cU (fun f w=>∃ (b9:Bool),vY a1 b9=some b2∧f 0=cR s_∧f 6=i64 (s_.length:Int)∧f 7=i64 a1∧f 32=zB b9∧aN G K (L) w) ?_ ?_))
    ·rintro f e9 ⟨b9,a0,d4,d5,d6,c6,c7⟩
     unfold vY at a0
     refine aA ?_
     rcases aM a0 with ⟨c0,a0⟩|⟨c0,a0⟩
     ·refine aQ c0 c6 (aH (aC (aB (aG (v:=zB false) rfl) (aD (aA (bC (bN (aS (aS ?_)))))))))
      have d7:=c4 _ (zI a0).symm
      subst d7
      have hm:(some false)=some R:=hm
      cases zI hm
      exact bN (aS (aS (bA Tryz.results200 rfl ⟨rfl,c7⟩)))
     ·exact aO c0 c6 (aY (bO (aA (aC (aB (cY d6 rfl) (aB (aF (v:=i64 (wr (a1+1))) rfl) (aD (aA ⟨wr (a1+1),(zI a0).symm,d4,d5,rfl,c7⟩))))))))
    refine aC (aB (aF d3) (aB (eP rfl) (aB (aF (v:=zB (!a8)) rfl) ?_)))
    rcases aM a0 with ⟨a2,a0⟩|⟨a2,a0⟩
    ·refine bK a2 rfl rfl (aB (aF c5) (bK a2 rfl rfl (aB (pB rfl rfl) (bK a2 rfl rfl (aB (aF (v:=zB (a1 == 0)) rfl) ?_)))))
     rcases aM a0 with ⟨a3,a0⟩|⟨a3,a0⟩
     ·exact aV a3 rfl rfl (aV a3 rfl rfl (aV a3 rfl rfl (aV a3 rfl rfl (aV a3 rfl rfl (bK a2 rfl rfl (aB (bH (v:=zB true) a3 rfl rfl) (aB (bH (v:=zB true) a2 rfl rfl) (aD (aA ⟨true,a0,a9,b6,b7,rfl,b8⟩)))))))))
     ·refine bI a3 rfl rfl (aB (aF a9) (bI a3 rfl rfl (aB (aF c5) (bI a3 rfl rfl ?_))))
      obtain ⟨d9,e0,a0⟩:=aJ a0
      refine aB (aCO Tryz.runUnderlying9 rfl rfl e0) (bI a3 rfl rfl ?_)
      obtain ⟨c1,q60,a0⟩:=aJ a0
      refine aX (vs:=[Value.int .u8 (d9.toNat:Int)]) Tryz.call235 rfl (aJE b8 q60) ?_
      rintro _ f0 ⟨rfl,e2⟩
      exact bI a3 rfl rfl (aB (eP rfl) (bK a2 rfl rfl (aB (bL (v:=zB (!c1)) a3 rfl rfl) (aB (bH (v:=zB (!c1)) a2 rfl rfl) (aD (aA ⟨!c1,a0,a9,b6,b7,rfl,e2⟩))))))
    ·exact bE a2 rfl rfl (bE a2 rfl rfl (bE a2 rfl rfl (dG (g:=25) rfl rfl (dG (g:=25) rfl rfl (dG (g:=25) rfl rfl (dG (g:=25) rfl rfl (dG (g:=25) rfl rfl (bE a2 rfl rfl (aB (bL (v:=zB false) a2 rfl rfl) (aD (aA ⟨false,a0,a9,b6,b7,rfl,b8⟩)))))))))))
   refine aC (aB (aF a6) (aB (aF (v:=i64 a1) rfl) ?_))
   obtain ⟨b0,c8,a0⟩:=aJ a0
   refine aB (aCO Tryz.runUnderlying9 rfl rfl c8) (aB (yL rfl rfl) (aB (aF (v:=zB (decide (97≤(b0.toNat:Int)))) rfl) ?_))
   rcases aM a0 with ⟨a4,a0⟩|⟨a4,a0⟩
   ·exact bK a4 rfl rfl (aB (aF a6) (bK a4 rfl rfl (aB (aF (v:=i64 a1) rfl) (bK a4 rfl rfl (aB (aCO Tryz.runUnderlying9 rfl rfl c8) (bK a4 rfl rfl (aB (aED rfl rfl) (aB (bH (v:=zB (decide ((b0.toNat:Int)≤122))) a4 rfl rfl) (aB (aG (v:=zB (decide ((b0.toNat:Int)≤122))) rfl) (aD (aA ⟨decide ((b0.toNat:Int)≤122),a0,a6,rfl,rfl,b3,a7,b4⟩)))))))))))
   ·exact bE a4 rfl rfl (bE a4 rfl rfl (bE a4 rfl rfl (bE a4 rfl rfl (aB (bL (v:=zB false) a4 rfl rfl) (aB (aG (v:=zB false) rfl) (aD (aA ⟨false,a0,a6,rfl,rfl,b3,a7,b4⟩)))))))
  ·refine aO b5 rfl (cN (bB (bB ?_)))
   have e3:=c4 _ (zI a0).symm
   subst e3
   have hm:(aAt s_)=some R:=hm
   exact bS (aA ⟨hm,a6,b4⟩)
theorem aEv {s_:aZ} {R:Bool} (hs:aN G K (L) w)  (hm:yY s_=some R):
  Calls Tryz.prog 150 ([cR s_]:List Value).toArray w (gV fun v w'=>v=zB R∧aN G K (L) w'):=by
 refine aW Tryz.func150 rfl (by kernel_rfl) (by show (1:Nat)≤9;decide) ?_
 unfold yY at hm
 refine aH (aC (aB (aG (v:=zB false) rfl) (aD (aA (aH (cU (fun f w=>∃ (v1:Bool),uK v1=some R∧f 2=zB v1∧aN G K (L) w) ?_ ?_))))))
 ·rintro f w3 ⟨v1,hm,e2,a4⟩
  unfold uK at hm
  refine aA ?_
  cases zI hm
  exact bC (bA Tryz.results150 rfl ⟨e2,a4⟩)
 refine aC (aB (aF (v:=cR s_) rfl) ?_)
 obtain ⟨r6,q7,hm⟩:=aJ hm
 refine aX (vs:=[cR s_]) Tryz.call200 rfl (aKF hs q7) ?_
 rintro _ w8 ⟨rfl,a2⟩
 refine aB (aF (v:=zB r6) rfl) ?_
 rcases aM hm with ⟨a0,hm⟩|⟨a0,hm⟩
 ·exact bK a0 rfl rfl (aB (aF (v:=cR s_) rfl) (bK a0 rfl rfl (aB (aFZ rfl rfl) (aB (bH (v:=zB (!(s_ == ([116,97,117]:aZ)))) a0 rfl rfl) (aB (aG (v:=zB (!(s_ == ([116,97,117]:aZ)))) rfl) (aD (aA ⟨!(s_ == ([116,97,117]:aZ)),hm,rfl,a2⟩)))))))
 ·exact bE a0 rfl rfl (bE a0 rfl rfl (aB (bL (v:=zB false) a0 rfl rfl) (aB (aG (v:=zB false) rfl) (aD (aA ⟨false,hm,rfl,a2⟩)))))
theorem aJF {n:Int} {R:Bool} (hs:aN G K (L) w)  (hm:aFx n=some R):
  Calls Tryz.prog 246 ([i64 n]:List Value).toArray w (gV fun v w'=>v=zB R∧aN G K (L) w'):=by
 refine aW Tryz.func246 rfl (by kernel_rfl) (by show (1:Nat)≤5;decide) ?_
 unfold aFx at hm
 refine aH (aC (aB (aG (v:=zB false) rfl) (aD (aA (aH (aC (aB (aF (v:=i64 n) rfl) ?_)))))))
 obtain ⟨r1,q2,hm⟩:=aJ hm
 refine aX (vs:=[i64 n,i64 0,i64 63]) Tryz.call73 rfl (uW hs q2) ?_
 rintro _ w3 ⟨rfl,a2⟩
 refine aB (aG (v:=zB r1) rfl) (aD (aA ?_))
 cases zI hm
 exact bC (bA Tryz.results246 rfl ⟨rfl,a2⟩)
theorem aFI {n:Int} {R:Bool} (hs:aN G K (L) w)  (hm:xG n=some R):
  Calls Tryz.prog 245 ([i64 n]:List Value).toArray w (gV fun v w'=>v=zB R∧aN G K (L) w'):=by
 refine aW Tryz.func245 rfl (by kernel_rfl) (by show (1:Nat)≤6;decide) ?_
 unfold xG at hm
 refine aH (aC (aB (aG (v:=zB false) rfl) (aD (aA (aH (aC (aB (aF (v:=i64 n) rfl) ?_)))))))
 obtain ⟨r1,q2,hm⟩:=aJ hm
 refine aX (vs:=[i64 n]) Tryz.call246 rfl (aJF hs q2) ?_
 rintro _ w3 ⟨rfl,a2⟩
 refine aB (eP rfl) (aB (aG (v:=zB (!r1)) rfl) (aD (aA ?_)))
 cases zI hm
 exact bC (bA Tryz.results245 rfl ⟨rfl,a2⟩)
theorem sQ {s_:(List Int)} {R:Int} (hs:aN G K (L) w) (h3:cJ K a1 c2 s_) (hm:gB s_=some R):
  Calls Tryz.prog 231 ([zS a1 s_.length c2,Value.func (.func 245) #[] #[]]:List Value).toArray w (gV fun v w'=>v=i64 R∧aN G K (L) w'):=by
 refine aW Tryz.func231 rfl (by kernel_rfl) (by show (2:Nat)≤19;decide) ?_
 unfold gB at hm
 refine aH (aC (aB (aG (v:=i64 0) rfl) (aD (aA (aH (aH (aC (aB (aF (v:=zS a1 s_.length c2) rfl) (aB (bR (len:=s_.length) cG rfl) (aB (aF (v:=i64 0) rfl) (aD (aA (bJ (fun f w=>fH=some R∧aN G K (L) w) ?_ ?_)))))))))))))
 ·rintro f w4 ⟨hm,b4⟩
  unfold fH at hm
  refine aA (aH (aC (aB (aG (v:=i64 (-1)) rfl) (aD (aA ?_)))))
  cases zI hm
  exact bC (bA Tryz.results231 rfl ⟨rfl,b4⟩)
 obtain ⟨c6,b6,hm⟩:=aJ hm
 refine cP b6 (fun (a2:Int) f w=>f 0=zS a1 s_.length c2∧f 1=Value.func (.func 245) #[] #[]∧f 7=i64 (s_.length:Int)∧f 8=i64 a2∧aN G K (L) w) ?_ ?_
 ·exact ⟨rfl,rfl,rfl,rfl,hs⟩
 ·rintro a2 b7 f c7 a0 a7 ⟨a8,a9,b0,a3,a4⟩
  replace a0:dJ s_ a2=some b7:=a0
  unfold dJ at a0
  refine aH (aC (aB (cK a3 b0) (aD (aA (aH ?_)))))
  rcases aM a0 with ⟨a5,a0⟩|⟨a5,a0⟩
  ·refine aQ a5 rfl (aY (aA (aH (cQ (aH (aC (aB (aF a3) (aB (aG (v:=i64 a2) rfl) (aD (aA (aH (aC (aB (aF a9) (aB (aF a8) (aB (aF (v:=i64 a2) rfl) ?_)))))))))))))))
   obtain ⟨b1,b2,a0⟩:=aJ a0
   refine aB (cV cG rfl h3 rfl rfl rfl b2) ?_
   obtain ⟨c8,b8,b9⟩:=cJ.el (sz:=1) rfl h3 b2
   cases b9
   refine aB (bP (t:=0) dF a4 b8 rfl rfl) ?_
   obtain ⟨c9,c0,a0⟩:=aJ a0
   refine tZ (vs:=[i64 b1]) (caps:=[]) (us:=[i64 b1]) rfl Tryz.call245 rfl rfl (aFI a4 c0) ?_
   rintro _ d0 ⟨rfl,b3⟩
   refine aD (aA ?_)
   rcases aM a0 with ⟨a6,a0⟩|⟨a6,a0⟩
   ·refine aQ a6 rfl (aH (aC (aB (aF (v:=i64 a2) rfl) (aB (aG (v:=i64 a2) rfl) (aD (aA (bC (bN (aS (aS ?_))))))))))
    have c1:=a7 _ (zI a0).symm
    subst c1
    have hm:(some a2)=some R:=hm
    cases zI hm
    exact bN (aS (aS (bA Tryz.results231 rfl ⟨rfl,b3⟩)))
   ·exact aO a6 rfl (aY (bO (aA (aC (aB (cY a3 rfl) (aB (aF (v:=i64 (wr (a2+1))) rfl) (aD (aA ⟨wr (a2+1),(zI a0).symm,a8,a9,b0,rfl,b3⟩))))))))
  ·refine aO a5 rfl (cN (bB (bB ?_)))
   have c4:=a7 _ (zI a0).symm
   subst c4
   have hm:(fH)=some R:=hm
   exact bS (aA ⟨hm,a4⟩)
theorem pZ {s_:(List Int)} {R:Bool} (hs:aN G K (L) w) (h3:cJ K a1 c2 s_) (hm:fI s_=some R):
  Calls Tryz.prog 188 ([zS a1 s_.length c2,Value.func (.func 245) #[] #[]]:List Value).toArray w (gV fun v w'=>v=zB R∧aN G K (L) w'):=by
 refine aW Tryz.func188 rfl (by kernel_rfl) (by show (2:Nat)≤9;decide) ?_
 unfold fI at hm
 refine aH (aC (aB (aG (v:=zB false) rfl) (aD (aA (aH (aC (aB (aF (v:=zS a1 s_.length c2) rfl) (aB (aF (v:=Value.func (.func 245) #[] #[]) rfl) ?_))))))))
 obtain ⟨r4,q5,hm⟩:=aJ hm
 refine aX (vs:=[zS a1 s_.length c2,Value.func (.func 245) #[] #[]]) Tryz.call231 rfl (sQ hs h3 q5) ?_
 rintro _ w6 ⟨rfl,a3⟩
 refine aB (yL rfl rfl) (aB (aG (v:=zB (decide (0≤r4))) rfl) (aD (aA ?_)))
 cases zI hm
 exact bC (bA Tryz.results188 rfl ⟨rfl,a3⟩)
theorem aHS {list:(List Int)} {R:Bool} (hs:aN G K (L) w) (h3:cJ K a1 c2 list) (hm:aAu list=some R):
  Calls Tryz.prog 209 ([zS a1 list.length c2]:List Value).toArray w (gV fun v w'=>v=zB R∧aN G K (L) w'):=by
 refine aW Tryz.func209 rfl (by kernel_rfl) (by show (1:Nat)≤6;decide) ?_
 unfold aAu at hm
 refine aH (aC (aB (aG (v:=zB false) rfl) (aD (aA (aH (aC (aB (aF (v:=zS a1 list.length c2) rfl) ?_)))))))
 obtain ⟨r4,q5,hm⟩:=aJ hm
 refine aX (vs:=[zS a1 list.length c2,Value.func (.func 245) #[] #[]]) Tryz.call188 rfl (pZ hs h3 q5) ?_
 rintro _ w6 ⟨rfl,a3⟩
 refine aB (eP rfl) (aB (aG (v:=zB (!r4)) rfl) (aD (aA ?_)))
 cases zI hm
 exact bC (bA Tryz.results209 rfl ⟨rfl,a3⟩)
theorem aJG {name:aZ} {values:(List Int)} {R:(aZ × Bool)} (hs:aN G K (L) w) (hG:G.lo=0) (h3:cJ K a1 c2 values) (hm:aCV name values=some R):
  Calls Tryz.prog 156 ([cR name,zS a1 values.length c2]:List Value).toArray w (gV fun v w'=>v=Value.tuple #[cR R.1,zB R.2]∧aN G K (L) w'):=by
 refine aW Tryz.func156 rfl (by kernel_rfl) (by show (2:Nat)≤37;decide) ?_
 unfold aCV at hm
 refine aH (aC (aB (aG (v:=cR ([]:aZ)) rfl) (aB (aG (v:=zB false) rfl) (aD (aA (aH (cQ (aH (aC (aB (aF (v:=cR name) rfl) (aB (aAJ rfl rfl) (aB (aG (v:=zB (name == ([116,97,117]:aZ))) rfl) (aD (aA ?_))))))))))))))
 rcases aM hm with ⟨c4,hm⟩|⟨c4,hm⟩
 ·refine aQ c4 rfl (aH (aC (aB (aF (v:=zS a1 values.length c2) rfl) (aB (bR (len:=values.length) cG rfl) (aB (pB rfl rfl) (aB (aG (v:=cR ([116,97,117]:aZ)) rfl) (aB (aG (v:=zB ((values.length:Int) == 0)) rfl) (aD (aA ?_)))))))))
  cases zI hm
  exact bC (bN (aS (qO Tryz.results156 rfl rfl ⟨rfl,hs⟩)))
 ·refine aO c4 rfl (aH (cU (fun f w=>∃ (v6:Bool),tA name values v6=some R∧f 0=cR name∧f 1=zS a1 values.length c2∧f 12=zB v6∧aN G K (L) w) ?_ ?_))
  ·rintro f c8 ⟨v6,hm,e7,e8,e9,a5⟩
   unfold tA at hm
   refine aA ?_
   rcases aM hm with ⟨a6,hm⟩|⟨a6,hm⟩
   ·refine aQ a6 e9 (aH (aC (aB (aG (v:=cR ([]:aZ)) rfl) (aB (aG (v:=zB false) rfl) (aD (aA ?_))))))
    cases zI hm
    exact bC (bN (aS (qO Tryz.results156 rfl rfl ⟨rfl,a5⟩)))
   ·refine aO a6 e9 (aH (aC (aB (aF e8) (aB (bR (len:=values.length) cG rfl) (aB (pB rfl rfl) (aB (aG (v:=zB ((values.length:Int) == 0)) rfl) (aD (aA ?_))))))))
    rcases aM hm with ⟨a7,hm⟩|⟨a7,hm⟩
    ·refine aQ a7 rfl (aH (aC (aB (aF e7) (aB (aG (v:=cR name) rfl) (aB (aG (v:=zB true) rfl) (aD (aA ?_)))))))
     cases zI hm
     exact bC (bN (aS (qO Tryz.results156 rfl rfl ⟨rfl,a5⟩)))
    ·refine aO a7 rfl (aY (bO (aA (aH (aC (aB (aF e7) ?_))))))
     obtain ⟨c9,b6,hm⟩:=aJ hm
     refine aB (R_cat rfl rfl b6) (aB (aF e8) ?_)
     obtain ⟨d0,b7,hm⟩:=aJ hm
     refine aX (vs:=[zS a1 values.length c2,cR ([44]:aZ)]) Tryz.call129 rfl (aKE a5 hG h3 b7) ?_
     rintro _ d1 ⟨rfl,b8⟩
     obtain ⟨d2,b9,hm⟩:=aJ hm
     refine aB (R_cat rfl rfl b9) ?_
     obtain ⟨c0,c1,hm⟩:=aJ hm
     refine aB (R_cat rfl rfl c1) (aB (aG (v:=cR c0) rfl) (aB (aG (v:=zB true) rfl) (aD (aA ?_))))
     cases zI hm
     exact bC (qO Tryz.results156 rfl rfl ⟨rfl,b8⟩)
  refine aC (aB (aF (v:=cR name) rfl) ?_)
  obtain ⟨r27,c5,hm⟩:=aJ hm
  refine aX (vs:=[cR name]) Tryz.call150 rfl (aEv hs c5) ?_
  rintro _ d3 ⟨rfl,a8⟩
  refine aB (eP rfl) (aB (aF (v:=zB (!r27)) rfl) ?_)
  rcases aM hm with ⟨a0,hm⟩|⟨a0,hm⟩
  ·exact aV a0 rfl rfl (aV a0 rfl rfl (aV a0 rfl rfl (aB (bH (v:=zB true) a0 rfl rfl) (aB (aF (v:=zB true) rfl) (aV (rfl:true=true) rfl rfl (aV (rfl:true=true) rfl rfl (aV (rfl:true=true) rfl rfl (aB (bH (v:=zB true) (rfl:true=true) rfl rfl) (aB (aG (v:=zB true) rfl) (aD (aA ⟨true,hm,rfl,rfl,rfl,a8⟩)))))))))))
  ·refine bI a0 rfl rfl (aB (aF (v:=zS a1 values.length c2) rfl) (bI a0 rfl rfl (aB (bR (len:=values.length) cG rfl) (bI a0 rfl rfl (aB (lJ rfl rfl) (aB (bL (v:=zB (decide (2 < (values.length:Int)))) a0 rfl rfl) (aB (aF (v:=zB (decide (2 < (values.length:Int)))) rfl) ?_)))))))
   rcases aM hm with ⟨a2,hm⟩|⟨a2,hm⟩
   ·exact aV a2 rfl rfl (aV a2 rfl rfl (aV a2 rfl rfl (aB (bH (v:=zB true) a2 rfl rfl) (aB (aG (v:=zB true) rfl) (aD (aA ⟨true,hm,rfl,rfl,rfl,a8⟩))))))
   ·refine bI a2 rfl rfl (aB (aF (v:=zS a1 values.length c2) rfl) (bI a2 rfl rfl ?_))
    obtain ⟨a9,c6,hm⟩:=aJ hm
    refine aX (vs:=[zS a1 values.length c2]) Tryz.call209 rfl (aHS a8 h3 c6) ?_
    rintro _ d4 ⟨rfl,c7⟩
    exact bI a2 rfl rfl (aB (eP rfl) (aB (bL (v:=zB (!a9)) a2 rfl rfl) (aB (aG (v:=zB (!a9)) rfl) (aD (aA ⟨!a9,hm,rfl,rfl,rfl,c7⟩)))))
end Gv
