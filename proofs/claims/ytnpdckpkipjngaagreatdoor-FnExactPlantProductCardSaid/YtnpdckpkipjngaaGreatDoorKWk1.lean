/- Walks, printed by program. -/
import Derived.Test.YtnpdckpkipjngaaGreatDoorKLW
import Derived.Test.YtnpdckpkipjngaaGreatDoorKMd
set_option linter.all false
namespace Gv
open Go.Value renaming slice→zS,bool→zB
open Option.some renaming inj→zI
open Gv.Hp renaming le_refl→zR
open Go Go.Proofs
set_option maxRecDepth 20000
set_option maxHeartbeats 40000000
variable {G:Env} {K:Hp} {L:List nD} {w:World} {a1 a4 a7:Option Addr} {c2 c5 c8:Nat}
theorem aDm {a:(List aZ)} {left:Int} {R:Int} (hs:aN G K (L) w) (h3:cJ K a1 c2 a) (hm:rQ a left=some R):
  Calls Tryz.prog 6 ([zS a1 a.length c2,i64 left]:List Value).toArray w (gV fun v w'=>v=i64 R∧aN G K (L) w'):=by
 refine aW Tryz.func6 rfl (by kernel_rfl) (by show (2:Nat)≤28;decide) ?_
 unfold rQ at hm
 refine aH (aC (aB (aG (v:=i64 0) rfl) (aD (aA (aH (aC (aB (aF (v:=i64 left) rfl) (aB (aF (v:=zS a1 a.length c2) rfl) (aB (bR (len:=a.length) cE rfl) (aB (hY rfl rfl) (aB (aG (v:=i64 (wr (left - (a.length:Int)))) rfl) (aD (aA (aH (aH (aC (aB (aF (v:=i64 (wr (left - (a.length:Int)))) rfl) (aB (cK rfl rfl) (aD (aA ?_))))))))))))))))))))
 rcases aM hm with ⟨c4,hm⟩|⟨c4,hm⟩
 ·refine aQ c4 rfl (aH (aC (aB (aG (v:=i64 (-1)) rfl) (aD (aA ?_)))))
  cases zI hm
  exact bC (aS (bA Tryz.results6 rfl ⟨rfl,hs⟩))
 ·refine aO c4 rfl (aY (aA (aH (aH (aC (aB (aG (v:=i64 0) rfl) (aD (aA (bJ (fun f w=>∃ (a4:Int),wW a4=some R∧f 1=i64 a4∧aN G K (L) w) ?_ ?_)))))))))
  ·rintro f w8 ⟨a4,hm,e7,b7⟩
   unfold wW at hm
   refine aA (aH (aC (aB (aF e7) (aB (aG (v:=i64 a4) rfl) (aD (aA ?_))))))
   cases zI hm
   exact bC (bA Tryz.results6 rfl ⟨rfl,b7⟩)
  obtain ⟨c8,b9,hm⟩:=aJ hm
  refine cP b9 (fun (s:(Int × Int)) f w=>match s with|(a2,a3)=>f 0=zS a1 a.length c2∧f 1=i64 a2∧f 5=i64 a3∧aN G K (L) w) ?_ ?_
  ·exact ⟨rfl,rfl,rfl,hs⟩
  ·rintro ⟨a2,a3⟩ c0 f c9 a0 b2 ⟨a7,b3,a8,a5⟩
   replace a0:rP a a2 a3=some c0:=a0
   unfold rP at a0
   refine aH (aH (aC (aB (aF a8) (aB (aF a7) (aB (bR (len:=a.length) cE rfl) (aB (cK rfl rfl) (aD (aA ?_))))))))
   rcases aM a0 with ⟨a9,a0⟩|⟨a9,a0⟩
   ·refine aQ a9 rfl (aY (aA (aH (cQ (aH (aC (aB (aF b3) (aB (aF a7) (aB (aF a8) ?_)))))))))
    obtain ⟨b0,b4,a0⟩:=aJ a0
    refine aB (cV cE rfl h3 rfl rfl rfl b4) ?_
    obtain ⟨d0,c1,c3⟩:=cJ.el (sz:=1) rfl h3 b4
    cases c3
    refine aB (bP (t:=0) qR a5 c1 rfl rfl) (aB (gU Tryz.runUnderlying9 rfl) (aB (hY rfl rfl) (aB (aG (v:=i64 (wr (a2 - (b0.length:Int)))) rfl) (aD (aA (aH (aC (aB (aF (v:=i64 (wr (a2 - (b0.length:Int)))) rfl) (aB (cK rfl rfl) (aD (aA ?_)))))))))))
    rcases aM a0 with ⟨b1,a0⟩|⟨b1,a0⟩
    ·refine aQ b1 rfl (aH (aC (aB (aG (v:=i64 (-1)) rfl) (aD (aA (bC (bN (aS (aS ?_)))))))))
     have hq47:=b2 _ (zI a0).symm
     subst hq47
     have hm:(some (-1))=some R:=hm
     cases zI hm
     exact bN (aS (aS (bA Tryz.results6 rfl ⟨rfl,a5⟩)))
    ·exact aO b1 rfl (aY (bO (aA (aC (aB (aF a8) (aB (cY rfl rfl) (aB (aG (v:=i64 (wr (a3+1))) rfl) (aD (aA ⟨(wr (a2 - (b0.length:Int)),wr (a3+1)),(zI a0).symm,a7,rfl,rfl,a5⟩)))))))))
   ·refine aO a9 rfl (cN (bB (bB ?_)))
    have c6:=b2 _ (zI a0).symm
    subst c6
    have hm:(wW a2)=some R:=hm
    exact bS (aA ⟨a2,hm,b3,a5⟩)
theorem aJA {a:(List Edge)} {left:Int} {R:Int} (hs:aN G K (L) w) (h3:cJ K a1 c2 a) (hm:aCR a left=some R):
  Calls Tryz.prog 28 ([zS a1 a.length c2,i64 left]:List Value).toArray w (gV fun v w'=>v=i64 R∧aN G K (L) w'):=by
 refine aW Tryz.func28 rfl (by kernel_rfl) (by show (2:Nat)≤12;decide) ?_
 unfold aCR at hm
 refine aH (aC (aB (aG (v:=i64 0) rfl) (aD (aA (aH (aC (aB (aF (v:=i64 left) rfl) (aB (aF (v:=zS a1 a.length c2) rfl) (aB (bR (len:=a.length) sl_23 rfl) (aB (hY rfl rfl) (aB (aG (v:=i64 (wr (left - (a.length:Int)))) rfl) (aD (aA (aH (aH (aC (aB (aF (v:=i64 (wr (left - (a.length:Int)))) rfl) (aB (cK rfl rfl) (aD (aA ?_))))))))))))))))))))
 rcases aM hm with ⟨c4,hm⟩|⟨c4,hm⟩
 ·refine aQ c4 rfl (aH (aC (aB (aG (v:=i64 (-1)) rfl) (aD (aA ?_)))))
  cases zI hm
  exact bC (aS (bA Tryz.results28 rfl ⟨rfl,hs⟩))
 ·refine aO c4 rfl (aY (aA (aH (aC (aB (aF (v:=i64 (wr (left - (a.length:Int)))) rfl) (aB (aG (v:=i64 (wr (left - (a.length:Int)))) rfl) (aD (aA ?_))))))))
  cases zI hm
  exact bC (bA Tryz.results28 rfl ⟨rfl,hs⟩)
theorem aHh {a:cH} {left:Int} {R:Int} (hs:aN G K (L) w) (h3:cJ K a1 c2 a.L) (h6:cJ K a4 c5 a.E) (hm:aDG a left=some R):
  Calls Tryz.prog 5 ([Value.agg (zCa a a1 c2 a4 c5),i64 left]:List Value).toArray w (gV fun v w'=>v=i64 R∧aN G K (L) w'):=by
 refine aW Tryz.func5 rfl (by kernel_rfl) (by show (2:Nat)≤18;decide) ?_
 unfold aDG at hm
 refine aH (aC (fC (v:=Value.agg (zCa a a1 c2 a4 c5)) (vs:=(zC a a1 c2 a4 c5)) hs rfl rfl (fun b7 w8 a7=>(aB (aG (v:=i64 0) rfl) (aD (aA (aH (aC (aB (bD (t':=2) fa_25_2 rfl rfl) (aB (bY jK a7 (i:=0) rfl rfl rfl) (aB (aF (v:=i64 left) rfl) ?_)))))))))))
 obtain ⟨a0,a9,hm⟩:=aJ hm
 refine aX (vs:=[zS a1 a.L.length c2,i64 left]) Tryz.call6 rfl (aDm a7 h3 a9) ?_
 rintro _ b6 ⟨rfl,a3⟩
 refine aB (aG (v:=i64 a0) rfl) (aD (aA (aH (aH (aC (aB (aF (v:=i64 a0) rfl) (aB (cK rfl rfl) (aD (aA ?_)))))))))
 rcases aM hm with ⟨a5,hm⟩|⟨a5,hm⟩
 ·refine aQ a5 rfl (aH (aC (aB (aG (v:=i64 (-1)) rfl) (aD (aA ?_)))))
  cases zI hm
  exact bC (aS (bA Tryz.results5 rfl ⟨rfl,(aN.arr 1 [] a3 rfl)⟩))
 ·refine aO a5 rfl (aY (aA (aH (aC (aB (bD (t':=3) fa_25_3 rfl rfl) (aB (bY sc_23 a3 (i:=0) rfl rfl rfl) (aB (aF (v:=i64 a0) rfl) ?_)))))))
  obtain ⟨a2,b1,hm⟩:=aJ hm
  refine aX (vs:=[zS a4 a.E.length c5,i64 a0]) Tryz.call28 rfl (aJA a3 h6 b1) ?_
  rintro _ w18 ⟨rfl,a8⟩
  refine aB (aG (v:=i64 a2) rfl) (aD (aA (aH (aH (aC (aB (aF (v:=i64 a2) rfl) (aB (cK rfl rfl) (aD (aA ?_)))))))))
  rcases aM hm with ⟨a6,hm⟩|⟨a6,hm⟩
  ·refine aQ a6 rfl (aH (aC (aB (aG (v:=i64 (-1)) rfl) (aD (aA ?_)))))
   cases zI hm
   exact bC (aS (bA Tryz.results5 rfl ⟨rfl,(aN.arr 1 [] a8 rfl)⟩))
  ·refine aO a6 rfl (aY (aA (aH (aC (aB (aF (v:=i64 a2) rfl) (aB (aG (v:=i64 a2) rfl) (aD (aA ?_))))))))
   cases zI hm
   exact bC (bA Tryz.results5 rfl ⟨rfl,(aN.arr 1 [] a8 rfl)⟩)
theorem pO {n:Int} {low:Int} {high:Int} {R:Bool} (hs:aN G K (L) w)  (hm:wX n low high=some R):
  Calls Tryz.prog 109 ([i64 n,i64 low,i64 high]:List Value).toArray w (gV fun v w'=>v=zB R∧aN G K (L) w'):=by
 refine aW Tryz.func109 rfl (by kernel_rfl) (by show (3:Nat)≤15;decide) ?_
 unfold wX at hm
 refine aH (aC (aB (aG (v:=zB false) rfl) (aD (aA (aH (cU (fun f w=>∃ (v1:Bool),aDH v1=some R∧f 6=zB v1∧aN G K (L) w) ?_ ?_))))))
 ·rintro f w3 ⟨v1,hm,e2,a3⟩
  unfold aDH at hm
  refine aA ?_
  cases zI hm
  exact bC (bA Tryz.results109 rfl ⟨e2,a3⟩)
 refine aC (aB (aF (v:=i64 n) rfl) (aB (aF (v:=i64 low) rfl) (aB (yL rfl rfl) (aB (aF (v:=zB (decide (low≤n))) rfl) ?_))))
 rcases aM hm with ⟨c6,hm⟩|⟨c6,hm⟩
 ·exact bK c6 rfl rfl (aB (aF (v:=i64 n) rfl) (bK c6 rfl rfl (aB (aF (v:=i64 high) rfl) (bK c6 rfl rfl (aB (aED rfl rfl) (aB (bH (v:=zB (decide (n≤high))) c6 rfl rfl) (aB (aG (v:=zB (decide (n≤high))) rfl) (aD (aA ⟨decide (n≤high),hm,rfl,hs⟩)))))))))
 ·exact bE c6 rfl rfl (bE c6 rfl rfl (bE c6 rfl rfl (aB (bL (v:=zB false) c6 rfl rfl) (aB (aG (v:=zB false) rfl) (aD (aA ⟨false,hm,rfl,hs⟩))))))
theorem aEt {c:UInt8} {R:Bool} (hs:aN G K (L) w)  (hm:aBw c=some R):
  Calls Tryz.prog 236 ([Value.int .u8 (c.toNat:Int)]:List Value).toArray w (gV fun v w'=>v=zB R∧aN G K (L) w'):=by
 refine aW Tryz.func236 rfl (by kernel_rfl) (by show (1:Nat)≤9;decide) ?_
 unfold aBw at hm
 refine aH (aC (aB (aG (v:=zB false) rfl) (aD (aA (aH (cU (fun f w=>∃ (v1:Bool),zJ v1=some R∧f 2=zB v1∧aN G K (L) w) ?_ ?_))))))
 ·rintro f w3 ⟨v1,hm,e2,a3⟩
  unfold zJ at hm
  refine aA ?_
  cases zI hm
  exact bC (bA Tryz.results236 rfl ⟨e2,a3⟩)
 refine aC (aB (aF (v:=Value.int .u8 (c.toNat:Int)) rfl) (aB (yL rfl rfl) (aB (aF (v:=zB (decide (97≤(c.toNat:Int)))) rfl) ?_)))
 rcases aM hm with ⟨c6,hm⟩|⟨c6,hm⟩
 ·exact bK c6 rfl rfl (aB (aF (v:=Value.int .u8 (c.toNat:Int)) rfl) (bK c6 rfl rfl (aB (aED rfl rfl) (aB (bH (v:=zB (decide ((c.toNat:Int)≤122))) c6 rfl rfl) (aB (aG (v:=zB (decide ((c.toNat:Int)≤122))) rfl) (aD (aA ⟨decide ((c.toNat:Int)≤122),hm,rfl,hs⟩)))))))
 ·exact bE c6 rfl rfl (bE c6 rfl rfl (aB (bL (v:=zB false) c6 rfl rfl) (aB (aG (v:=zB false) rfl) (aD (aA ⟨false,hm,rfl,hs⟩)))))
theorem aEu {c:UInt8} {R:Bool} (hs:aN G K (L) w)  (hm:aBx c=some R):
  Calls Tryz.prog 237 ([Value.int .u8 (c.toNat:Int)]:List Value).toArray w (gV fun v w'=>v=zB R∧aN G K (L) w'):=by
 refine aW Tryz.func237 rfl (by kernel_rfl) (by show (1:Nat)≤9;decide) ?_
 unfold aBx at hm
 refine aH (aC (aB (aG (v:=zB false) rfl) (aD (aA (aH (cU (fun f w=>∃ (v1:Bool),aHZ v1=some R∧f 2=zB v1∧aN G K (L) w) ?_ ?_))))))
 ·rintro f w3 ⟨v1,hm,e2,a3⟩
  unfold aHZ at hm
  refine aA ?_
  cases zI hm
  exact bC (bA Tryz.results237 rfl ⟨e2,a3⟩)
 refine aC (aB (aF (v:=Value.int .u8 (c.toNat:Int)) rfl) (aB (yL rfl rfl) (aB (aF (v:=zB (decide (48≤(c.toNat:Int)))) rfl) ?_)))
 rcases aM hm with ⟨c6,hm⟩|⟨c6,hm⟩
 ·exact bK c6 rfl rfl (aB (aF (v:=Value.int .u8 (c.toNat:Int)) rfl) (bK c6 rfl rfl (aB (aED rfl rfl) (aB (bH (v:=zB (decide ((c.toNat:Int)≤57))) c6 rfl rfl) (aB (aG (v:=zB (decide ((c.toNat:Int)≤57))) rfl) (aD (aA ⟨decide ((c.toNat:Int)≤57),hm,rfl,hs⟩)))))))
 ·exact bE c6 rfl rfl (bE c6 rfl rfl (aB (bL (v:=zB false) c6 rfl rfl) (aB (aG (v:=zB false) rfl) (aD (aA ⟨false,hm,rfl,hs⟩)))))
theorem aFi {s_:aZ} {R:Bool} (hs:aN G K (L) w)  (hm:aBj s_=some R):
  Calls Tryz.prog 202 ([cR s_]:List Value).toArray w (gV fun v w'=>v=zB R∧aN G K (L) w'):=by
 refine aW Tryz.func202 rfl (by kernel_rfl) (by show (1:Nat)≤35;decide) ?_
 unfold aBj at hm
 refine aH (aC (aB (aG (v:=zB false) rfl) (aD (aA (aH (aH (cU (fun f w=>∃ (v1:Bool),pD s_ v1=some R∧f 0=cR s_∧f 16=zB v1∧aN G K (L) w) ?_ ?_)))))))
 ·rintro f w4 ⟨v1,hm,e2,e3,b3⟩
  unfold pD at hm
  refine aA ?_
  rcases aM hm with ⟨c6,hm⟩|⟨c6,hm⟩
  ·refine aQ c6 e3 (aH (aC (aB (aG (v:=zB false) rfl) (aD (aA ?_)))))
   cases zI hm
   exact bC (aS (bA Tryz.results202 rfl ⟨rfl,b3⟩))
  ·refine aO c6 e3 (aY (aA (aH (aH (aC (aB (aG (v:=i64 0) rfl) (aD (aA (bJ (fun f w=>wY=some R∧aN G K (L) w) ?_ ?_)))))))))
   ·rintro f w8 ⟨hm,hs9⟩
    unfold wY at hm
    refine aA (aH (aC (aB (aG (v:=zB true) rfl) (aD (aA ?_)))))
    cases zI hm
    exact bC (bA Tryz.results202 rfl ⟨rfl,hs9⟩)
   obtain ⟨e4,c8,hm⟩:=aJ hm
   refine cP c8 (fun (a4:Int) f w=>f 0=cR s_∧f 3=i64 a4∧aN G K (L) w) ?_ ?_
   ·exact ⟨e2,rfl,b3⟩
   ·rintro a4 b4 f e5 a0 b5 ⟨a5,a6,b6⟩
    replace a0:sW s_ a4=some b4:=a0
    unfold sW at a0
    refine aH (aH (aC (aB (aF a6) (aB (aF a5) (aB (gU Tryz.runUnderlying9 rfl) (aB (cK rfl rfl) (aD (aA ?_))))))))
    rcases aM a0 with ⟨a9,a0⟩|⟨a9,a0⟩
    ·refine aQ a9 rfl (aY (aA (aH (cQ (aH (cU (fun f w=>∃ (b0:Bool),wZ a4 b0=some b4∧f 0=cR s_∧f 3=i64 a4∧f 34=zB b0∧aN G K (L) w) ?_ ?_))))))
     ·rintro f e6 ⟨b0,a0,c9,d0,b7,b8⟩
      unfold wZ at a0
      refine aA ?_
      rcases aM a0 with ⟨b1,a0⟩|⟨b1,a0⟩
      ·refine aQ b1 b7 (aH (aC (aB (aG (v:=zB false) rfl) (aD (aA (bC (bN (aS (aS ?_)))))))))
       have d1:=b5 _ (zI a0).symm
       subst d1
       have hm:(some false)=some R:=hm
       cases zI hm
       exact bN (aS (aS (bA Tryz.results202 rfl ⟨rfl,b8⟩)))
      ·exact aO b1 b7 (aY (bO (aA (aC (aB (aF d0) (aB (cY rfl rfl) (aB (aG (v:=i64 (wr (a4+1))) rfl) (aD (aA ⟨wr (a4+1),(zI a0).symm,c9,rfl,b8⟩)))))))))
     refine aC (aB (aF a5) (aB (aF a6) ?_))
     obtain ⟨b9,c0,a0⟩:=aJ a0
     refine aB (aCO Tryz.runUnderlying9 rfl rfl c0) ?_
     obtain ⟨d3,d4,a0⟩:=aJ a0
     refine aX (vs:=[Value.int .u8 (b9.toNat:Int)]) Tryz.call236 rfl (aEt b6 d4) ?_
     rintro _ e7 ⟨rfl,c1⟩
     refine aB (eP rfl) (aB (aF (v:=zB (!d3)) rfl) ?_)
     rcases aM a0 with ⟨a1,a0⟩|⟨a1,a0⟩
     ·refine bK a1 rfl rfl (aB (aF a5) (bK a1 rfl rfl (aB (aF a6) (bK a1 rfl rfl (aB (aCO Tryz.runUnderlying9 rfl rfl c0) (bK a1 rfl rfl ?_))))))
      obtain ⟨c2,d5,a0⟩:=aJ a0
      refine aX (vs:=[Value.int .u8 (b9.toNat:Int)]) Tryz.call237 rfl (aEu c1 d5) ?_
      rintro _ e8 ⟨rfl,d6⟩
      exact bK a1 rfl rfl (aB (eP rfl) (aB (bH (v:=zB (!c2)) a1 rfl rfl) (aD (aA ⟨!c2,a0,a5,a6,rfl,d6⟩))))
     ·exact bE a1 rfl rfl (bE a1 rfl rfl (bE a1 rfl rfl (bE a1 rfl rfl (bE a1 rfl rfl (aB (bL (v:=zB false) a1 rfl rfl) (aD (aA ⟨false,a0,a5,a6,rfl,c1⟩)))))))
    ·refine aO a9 rfl (cN (bB (bB ?_)))
     have d7:=b5 _ (zI a0).symm
     subst d7
     have hm:(wY)=some R:=hm
     exact bS (aA ⟨hm,b6⟩)
 refine aC (aB (aF (v:=cR s_) rfl) (aB (aAJ rfl rfl) (aB (aF (v:=zB (s_ == ([]:aZ))) rfl) ?_)))
 rcases aM hm with ⟨a3,hm⟩|⟨a3,hm⟩
 ·exact aV a3 rfl rfl (aV a3 rfl rfl (aV a3 rfl rfl (aB (bH (v:=zB true) a3 rfl rfl) (aB (aF (v:=zB true) rfl) (aV (rfl:true=true) rfl rfl (aV (rfl:true=true) rfl rfl (aV (rfl:true=true) rfl rfl (aV (rfl:true=true) rfl rfl (aB (bH (v:=zB true) (rfl:true=true) rfl rfl) (aD (aA ⟨true,hm,rfl,rfl,hs⟩)))))))))))
 ·refine bI a3 rfl rfl (aB (aF (v:=cR s_) rfl) (bI a3 rfl rfl (aB (gU Tryz.runUnderlying9 rfl) (bI a3 rfl rfl (aB (lJ rfl rfl) (aB (bL (v:=zB (decide (10 < (s_.length:Int)))) a3 rfl rfl) (aB (aF (v:=zB (decide (10 < (s_.length:Int)))) rfl) ?_)))))))
  rcases aM hm with ⟨a2,hm⟩|⟨a2,hm⟩
  ·exact aV a2 rfl rfl (aV a2 rfl rfl (aV a2 rfl rfl (aV a2 rfl rfl (aB (bH (v:=zB true) a2 rfl rfl) (aD (aA ⟨true,hm,rfl,rfl,hs⟩))))))
  ·refine bI a2 rfl rfl (aB (aF (v:=cR s_) rfl) (bI a2 rfl rfl ?_))
   obtain ⟨d8,d9,hm⟩:=aJ hm
   refine aB (aCO Tryz.runUnderlying9 rfl rfl d9) (bI a2 rfl rfl ?_)
   obtain ⟨c3,e0,hm⟩:=aJ hm
   refine aX (vs:=[Value.int .u8 (d8.toNat:Int)]) Tryz.call236 rfl (aEt hs e0) ?_
   rintro _ e9 ⟨rfl,e1⟩
   exact bI a2 rfl rfl (aB (eP rfl) (aB (bL (v:=zB (!c3)) a2 rfl rfl) (aD (aA ⟨!c3,hm,rfl,rfl,e1⟩))))
theorem aDn {s_:aZ} {R:Bool} (hs:aN G K (L) w)  (hm:vS s_=some R):
  Calls Tryz.prog 191 ([cR s_]:List Value).toArray w (gV fun v w'=>v=zB R∧aN G K (L) w'):=by
 refine aW Tryz.func191 rfl (by kernel_rfl) (by show (1:Nat)≤9;decide) ?_
 unfold vS at hm
 refine aH (aC (aB (aG (v:=zB false) rfl) (aD (aA (aH (cU (fun f w=>∃ (v1:Bool),rR v1=some R∧f 2=zB v1∧aN G K (L) w) ?_ ?_))))))
 ·rintro f w3 ⟨v1,hm,e2,a4⟩
  unfold rR at hm
  refine aA ?_
  cases zI hm
  exact bC (bA Tryz.results191 rfl ⟨e2,a4⟩)
 refine aC (aB (aF (v:=cR s_) rfl) ?_)
 obtain ⟨r6,q7,hm⟩:=aJ hm
 refine aX (vs:=[cR s_]) Tryz.call202 rfl (aFi hs q7) ?_
 rintro _ w8 ⟨rfl,a2⟩
 refine aB (aF (v:=zB r6) rfl) ?_
 rcases aM hm with ⟨a0,hm⟩|⟨a0,hm⟩
 ·exact bK a0 rfl rfl (aB (aF (v:=cR s_) rfl) (bK a0 rfl rfl (aB (aFZ rfl rfl) (aB (bH (v:=zB (!(s_ == ([116,97,117]:aZ)))) a0 rfl rfl) (aB (aG (v:=zB (!(s_ == ([116,97,117]:aZ)))) rfl) (aD (aA ⟨!(s_ == ([116,97,117]:aZ)),hm,rfl,a2⟩)))))))
 ·exact bE a0 rfl rfl (bE a0 rfl rfl (aB (bL (v:=zB false) a0 rfl rfl) (aB (aG (v:=zB false) rfl) (aD (aA ⟨false,hm,rfl,a2⟩)))))
theorem aJB {s_:aZ} {R:Int} (hs:aN G K (L) w)  (hm:aCS s_=some R):
  Calls Tryz.prog 201 ([cR s_]:List Value).toArray w (gV fun v w'=>v=i64 R∧aN G K (L) w'):=by
 refine aW Tryz.func201 rfl (by kernel_rfl) (by show (1:Nat)≤17;decide) ?_
 unfold aCS at hm
 refine aH (aC (aB (aG (v:=i64 0) rfl) (aD (aA (aH (aH (aC (aB (aG (v:=i64 0) rfl) (aD (aA (bJ (fun f w=>aAV s_=some R∧f 0=cR s_∧aN G K (L) w) ?_ ?_)))))))))))
 ·rintro f w2 ⟨hm,e1,a9⟩
  unfold aAV at hm
  refine aA (aH (aC (aB (aF e1) (aB (gU Tryz.runUnderlying9 rfl) (aB (aG (v:=i64 (s_.length:Int)) rfl) (aD (aA ?_)))))))
  cases zI hm
  exact bC (bA Tryz.results201 rfl ⟨rfl,a9⟩)
 obtain ⟨b8,b1,hm⟩:=aJ hm
 refine cP b1 (fun (a1:Int) f w=>f 0=cR s_∧f 3=i64 a1∧aN G K (L) w) ?_ ?_
 ·exact ⟨rfl,rfl,hs⟩
 ·rintro a1 b2 f b9 a0 a7 ⟨a2,a3,a4⟩
  replace a0:sX s_ a1=some b2:=a0
  unfold sX at a0
  refine aH (aH (aC (aB (aF a3) (aB (aF a2) (aB (gU Tryz.runUnderlying9 rfl) (aB (cK rfl rfl) (aD (aA ?_))))))))
  rcases aM a0 with ⟨a5,a0⟩|⟨a5,a0⟩
  ·refine aQ a5 rfl (aY (aA (aH (cQ (aH (aC (aB (aF a2) (aB (aF a3) ?_))))))))
   obtain ⟨c0,b3,a0⟩:=aJ a0
   refine aB (aCO Tryz.runUnderlying9 rfl rfl b3) (aB (pB rfl rfl) (aD (aA ?_)))
   rcases aM a0 with ⟨a6,a0⟩|⟨a6,a0⟩
   ·refine aQ a6 rfl (aH (aC (aB (aF a3) (aB (aG (v:=i64 a1) rfl) (aD (aA (bC (bN (aS (aS ?_))))))))))
    have b4:=a7 _ (zI a0).symm
    subst b4
    have hm:(some a1)=some R:=hm
    cases zI hm
    exact bN (aS (aS (bA Tryz.results201 rfl ⟨rfl,a4⟩)))
   ·exact aO a6 rfl (aY (bO (aA (aC (aB (aF a3) (aB (cY rfl rfl) (aB (aG (v:=i64 (wr (a1+1))) rfl) (aD (aA ⟨wr (a1+1),(zI a0).symm,a2,rfl,a4⟩)))))))))
  ·refine aO a5 rfl (cN (bB (bB ?_)))
   have b6:=a7 _ (zI a0).symm
   subst b6
   have hm:(aAV s_)=some R:=hm
   exact bS (aA ⟨hm,a2,a4⟩)
theorem aIt {s_:aZ} {by_:UInt8} {R:(List aZ)} (hs:aN G K (L) w)  (hm:aBy s_ by_=some R):
  Calls Tryz.prog 203 ([cR s_,Value.int .u8 (by_.toNat:Int)]:List Value).toArray w (gV fun v w'=>∃ (ra0:Option Addr) (rc0:Nat),v=zS ra0 R.length rc0∧aN G K (aK 9 K ra0 rc0 R::L) w'):=by
 refine aW Tryz.func203 rfl (by kernel_rfl) (by show (2:Nat)≤35;decide) ?_
 unfold aBy at hm
 refine aH (aC (aB (aG (v:=zS none 0 0) rfl) (aD (aA (aH (aC (dA (Kt:=K) (xs:=([]:List aZ)) (cs:=[]) (vs:=[]) cE oB rfl rfl hs rfl (by kernel_rfl) rfl rfl rfl trivial (fun a1 w2 (d3:aN G K (aK 9 K a1 0 ([]:List aZ)::L) w2)=>(aB (aG (v:=zS a1 ([]:List aZ).length 0) rfl) (aD (aA (aH (aC (aB (aG (v:=i64 0) rfl) (aD (aA (aH (aH (aC (aB (aG (v:=i64 0) rfl) (aD (aA (bJ (fun f w=>∃ (a8:List aZ) (b8:Int) (a5:Option Addr) (c6:Nat),uE s_ a8 b8=some R∧f 0=cR s_∧f 5=zS a5 a8.length c6∧f 6=i64 b8∧aN G K (aK 9 K a5 c6 a8::L) w) ?_ ?_)))))))))))))))))))))))
 ·rintro f g3 ⟨a8,b8,a5,c6,hm,e8,e9,d6,d7⟩
  unfold uE at hm
  refine aA (aH (aC (aB (aF e9) (aB (aF e8) (aB (aF d6) ?_)))))
  obtain ⟨b2,d8,hm⟩:=aJ hm
  refine aB (R_slSL Tryz.runUnderlying9 rfl rfl d8) (dA (Kt:=K) (xs:=([b2]:List aZ)) (cs:=[cR b2]) (vs:=[(0,cR b2)]) cE oB rfl rfl d7 rfl (by kernel_rfl) rfl rfl rfl ⟨rfl,trivial⟩ (fun d9 e0 (e1:aN G K (aK 9 K d9 1 ([b2]:List aZ)::aK 9 K a5 c6 a8::L) e0)=>?_))
  obtain ⟨d0,e2,hm⟩:=aJ hm
  refine jO (i:=0) cE Tryz.underlying22 oB rfl rfl e1 rfl (zR _) (zR _) e2 rfl rfl rfl rfl (fun _ h=>h) (fun b9 c0 e3 (e4:aN G K (aK 9 K b9 c0 d0::L) e3)=>(aB (aG (v:=zS b9 d0.length c0) rfl) (aD (aA ?_))))
  cases zI hm
  exact bC (bA Tryz.results203 rfl ⟨b9,c0,rfl,e4⟩)
 obtain ⟨g4,e6,hm⟩:=aJ hm
 refine cP e6 (fun (s:(List aZ × Int × Int)) f w=>match s with|(a2,a3,i48)=>∃ (a4:Option Addr) (c46:Nat),f 0=cR s_∧f 1=Value.int .u8 (by_.toNat:Int)∧f 5=zS a4 a2.length c46∧f 6=i64 a3∧f 7=i64 i48∧aN G K (aK 9 K a4 c46 a2::L) w) ?_ ?_
 ·exact ⟨a1,0,rfl,rfl,rfl,rfl,rfl,d3⟩
 ·rintro ⟨a2,a3,i48⟩ d1 f g5 a0 e7 ⟨a4,c46,a6,c1,c2,c3,a7,c4⟩
  replace a0:uF s_ by_ a2 a3 i48=some d1:=a0
  unfold uF at a0
  refine aH (aH (aC (aB (aF a7) (aB (aF a6) (aB (gU Tryz.runUnderlying9 rfl) (aB (cK rfl rfl) (aD (aA ?_))))))))
  rcases aM a0 with ⟨c5,a0⟩|⟨c5,a0⟩
  ·refine aQ c5 rfl (aY (aA (aH (bJ (fun f w=>∃ (a9:List aZ) (b3:Int) (b4:Option Addr) (b5:Nat),qA i48 a9 b3=some d1∧f 0=cR s_∧f 1=Value.int .u8 (by_.toNat:Int)∧f 5=zS b4 a9.length b5∧f 6=i64 b3∧f 7=i64 i48∧aN G K (aK 9 K b4 b5 a9::L) w) ?_ ?_))))
   ·rintro f g6 ⟨a9,b3,b4,b5,a0,e76,e77,f0,f1,f2,f3⟩
    unfold qA at a0
    exact aA (aC (aB (aF f2) (aB (cY rfl rfl) (aB (aG (v:=i64 (wr (i48+1))) rfl) (aD (aA ⟨(a9,b3,wr (i48+1)),(zI a0).symm,b4,b5,e76,e77,f0,f1,rfl,f3⟩))))))
   refine aH (aC (aB (aF a6) (aB (aF a7) ?_)))
   obtain ⟨g7,f4,a0⟩:=aJ a0
   refine aB (aCO Tryz.runUnderlying9 rfl rfl f4) (aB (aF c1) (aB (pB rfl rfl) (aD (aA ?_))))
   rcases aM a0 with ⟨c85,a0⟩|⟨c85,a0⟩
   ·refine aQ c85 rfl (aH (aC (aB (aF c2) (aB (aF a6) (aB (aF c3) (aB (aF a7) ?_))))))
    obtain ⟨b6,f5,a0⟩:=aJ a0
    refine aB (R_slSLH Tryz.runUnderlying9 rfl rfl rfl f5) (dA (Kt:=K) (xs:=([b6]:List aZ)) (cs:=[cR b6]) (vs:=[(0,cR b6)]) cE oB rfl rfl c4 rfl (by kernel_rfl) rfl rfl rfl ⟨rfl,trivial⟩ (fun f6 f7 (f8:aN G K (aK 9 K f6 1 ([b6]:List aZ)::aK 9 K a4 c46 a2::L) f7)=>?_))
    obtain ⟨c7,f9,a0⟩:=aJ a0
    exact jO (i:=0) cE Tryz.underlying22 oB rfl rfl f8 rfl (zR _) (zR _) f9 rfl rfl rfl rfl (fun _ h=>h) (fun c8 c9 g0 (g1:aN G K (aK 9 K c8 c9 c7::L) g0)=>(aB (aG (v:=zS c8 c7.length c9) rfl) (aD (aA (aC (aB (aF a7) (aB (cY rfl rfl) (aB (aG (v:=i64 (wr (i48+1))) rfl) (aD (bO (aA ⟨c7,wr (i48+1),c8,c9,a0,a6,c1,rfl,rfl,a7,g1⟩)))))))))))
   ·exact aO c85 rfl (aY (bO (aA ⟨a2,a3,a4,c46,a0,a6,c1,c2,c3,a7,c4⟩)))
  ·refine aO c5 rfl (cN (bB (bB ?_)))
   have g2:=e7 _ (zI a0).symm
   subst g2
   have hm:(uE s_ a2 a3)=some R:=hm
   exact bS (aA ⟨a2,a3,a4,c46,hm,a6,c2,c3,c4⟩)
theorem aHP {s_:aZ} {R:(Int × Bool)} (hs:aN G K (L) w)  (hm:vT s_=some R):
  Calls Tryz.prog 204 ([cR s_]:List Value).toArray w (gV fun v w'=>v=Value.tuple #[i64 R.1,zB R.2]∧aN G K (L) w'):=by
 refine aW Tryz.func204 rfl (by kernel_rfl) (by show (1:Nat)≤62;decide) ?_
 unfold vT at hm
 refine aH (aC (aB (aG (v:=i64 0) rfl) (aB (aG (v:=zB false) rfl) (aD (aA (aH (aC (aB (aG (v:=i64 0) rfl) (aD (aA (aDz (fun f w=>∃ (a2:Int),oD s_ a2=some R∧f 0=cR s_∧f 4=i64 a2∧aN G K (L) w) ?_ ?_)))))))))))
 ·rintro f w4 ⟨a2,hm,e2,e3,b1⟩
  unfold oD at hm
  refine aH (aH (cU (fun f w=>∃ (v6:Bool),kF s_ a2 v6=some R∧f 0=cR s_∧f 4=i64 a2∧f 36=zB v6∧aN G K (L) w) ?_ ?_))
  ·rintro f f5 ⟨v6,hm,e7,e8,e9,c5⟩
   unfold kF at hm
   refine aA ?_
   rcases aM hm with ⟨b7,hm⟩|⟨b7,hm⟩
   ·refine aQ b7 e9 (aH (aC (aB (aG (v:=i64 0) rfl) (aB (aG (v:=zB false) rfl) (aD (aA ?_))))))
    cases zI hm
    exact bC (aS (qO Tryz.results204 rfl rfl ⟨rfl,c5⟩))
   ·refine aO b7 e9 (aY (aA (aH (aC (aB (aG (v:=i64 0) rfl) (aD (aA (aH (aH (aC (aB (aF e8) (aB (aG (v:=i64 a2) rfl) (aD (aA (bJ (fun f w=>∃ (a9:Int),rS a2 a9=some R∧f 4=i64 a2∧f 5=i64 a9∧aN G K (L) w) ?_ ?_)))))))))))))))
    ·rintro f f6 ⟨a9,hm,e0,c6,c7⟩
     unfold rS at hm
     refine aA (aDz (fun f w=>∃ (b2:Int),xA b2=some R∧f 5=i64 b2∧aN G K (L) w) ?_ ?_)
     ·rintro f f7 ⟨b2,hm,e1,hs22⟩
      unfold xA at hm
      refine aH (aC (aB (aF e1) (aB (aG (v:=i64 b2) rfl) (aB (aG (v:=zB true) rfl) (aD (aA ?_))))))
      cases zI hm
      exact bC (qO Tryz.results204 rfl rfl ⟨rfl,hs22⟩)
     refine aH (aC (aB (aF e0) (aB (pB rfl rfl) (aD (aA ?_)))))
     rcases aM hm with ⟨b8,hm⟩|⟨b8,hm⟩
     ·exact aQ b8 rfl (aC (aB (aF c6) (aB (R_neg rfl) (aB (aG (v:=i64 (wr (0 - a9))) rfl) (aD (aA ⟨wr (0 - a9),hm,rfl,c7⟩))))))
     ·exact aO b8 rfl (aY (aA ⟨a9,hm,c6,c7⟩))
    obtain ⟨f8,e4,hm⟩:=aJ hm
    refine cP e4 (fun (s:(Int × Int)) f w=>match s with|(a8,b0)=>f 0=cR s_∧f 4=i64 a2∧f 5=i64 a8∧f 6=i64 b0∧aN G K (L) w) ?_ ?_
    ·exact ⟨e7,e8,rfl,rfl,c5⟩
    ·rintro ⟨a8,b0⟩ e5 f f9 a1 c8 ⟨b3,c9,d0,b4,d1⟩
     replace a1:lT s_ a8 b0=some e5:=a1
     unfold lT at a1
     refine aH (aH (aC (aB (aF b4) (aB (aF b3) (aB (gU Tryz.runUnderlying9 rfl) (aB (cK rfl rfl) (aD (aA ?_))))))))
     rcases aM a1 with ⟨b9,a1⟩|⟨b9,a1⟩
     ·refine aQ b9 rfl (aY (aA (aH (cQ (aH (aH (aC (aB (aF b3) (aB (aF b4) ?_)))))))))
      obtain ⟨b5,d2,a1⟩:=aJ a1
      refine aB (aCO Tryz.runUnderlying9 rfl rfl d2) ?_
      obtain ⟨g0,e6,a1⟩:=aJ a1
      refine aX (vs:=[Value.int .u8 (b5.toNat:Int)]) Tryz.call237 rfl (aEu d1 e6) ?_
      rintro _ g1 ⟨rfl,d3⟩
      refine aB (eP rfl) (aD (aA ?_))
      rcases aM a1 with ⟨c0,a1⟩|⟨c0,a1⟩
      ·refine aQ c0 rfl (aH (aC (aB (aG (v:=i64 0) rfl) (aB (aG (v:=zB false) rfl) (aD (aA (bC (aS (bN (aS (aS ?_)))))))))))
       have hq66:=c8 _ (zI a1).symm
       subst hq66
       have hm:(some (0,false))=some R:=hm
       cases zI hm
       exact bN (aS (aS (qO Tryz.results204 rfl rfl ⟨rfl,d3⟩)))
      ·exact aO c0 rfl (aY (aA (aC (aB (aF d0) (aB (R_mul rfl rfl) (aB (aF b3) (aB (aF b4) (aB (aCO Tryz.runUnderlying9 rfl rfl d2) (aB (R_u8sub' (a:=b5) (b:=(48:UInt8)) rfl rfl) (aB (aML Tryz.runUnderlying2 rfl ⟨_,Tryz.runUnderlying5⟩) (aB (cY rfl rfl) (aB (aG (v:=i64 (wr ((wr (10 * a8))+(wr ((b5 - (48:UInt8)).toNat:Int))))) rfl) (aD (bO (aA (aC (aB (aF b4) (aB (cY rfl rfl) (aB (aG (v:=i64 (wr (b0+1))) rfl) (aD (aA ⟨(wr ((wr (10 * a8))+(wr ((b5 - (48:UInt8)).toNat:Int))),wr (b0+1)),(zI a1).symm,b3,c9,rfl,rfl,d3⟩)))))))))))))))))))))
     ·refine aO b9 rfl (cN (bB (bB ?_)))
      have hq68:=c8 _ (zI a1).symm
      subst hq68
      have hm:(rS a2 a8)=some R:=hm
      exact bS (aA ⟨a8,hm,c9,d0,d1⟩)
  refine aC (aB (aF e2) (aB (gU Tryz.runUnderlying9 rfl) (aB (aF e3) (aB (pB rfl rfl) (aB (aF (v:=zB ((s_.length:Int) == a2)) rfl) ?_)))))
  rcases aM hm with ⟨a3,hm⟩|⟨a3,hm⟩
  ·exact aV a3 rfl rfl (aV a3 rfl rfl (aV a3 rfl rfl (aV a3 rfl rfl (aV a3 rfl rfl (aB (bH (v:=zB true) a3 rfl rfl) (aB (aF (v:=zB true) rfl) (aV (rfl:true=true) rfl rfl (aV (rfl:true=true) rfl rfl (aV (rfl:true=true) rfl rfl (aV (rfl:true=true) rfl rfl (aV (rfl:true=true) rfl rfl (dG (g:=31) rfl rfl (dG (g:=31) rfl rfl (dG (g:=31) rfl rfl (aV (rfl:true=true) rfl rfl (aB (bH (v:=zB true) (rfl:true=true) rfl rfl) (aD (aA ⟨true,hm,e2,e3,rfl,b1⟩))))))))))))))))))
  ·refine bI a3 rfl rfl (aB (aF e2) (bI a3 rfl rfl (aB (gU Tryz.runUnderlying9 rfl) (bI a3 rfl rfl (aB (aF e3) (bI a3 rfl rfl (aB (hY rfl rfl) (bI a3 rfl rfl (aB (lJ rfl rfl) (aB (bL (v:=zB (decide (18 < wr ((s_.length:Int) - a2)))) a3 rfl rfl) (aB (aF (v:=zB (decide (18 < wr ((s_.length:Int) - a2)))) rfl) ?_)))))))))))
   rcases aM hm with ⟨a0,hm⟩|⟨a0,hm⟩
   ·exact aV a0 rfl rfl (aV a0 rfl rfl (aV a0 rfl rfl (aV a0 rfl rfl (aV a0 rfl rfl (dG (g:=31) rfl rfl (dG (g:=31) rfl rfl (dG (g:=31) rfl rfl (aV a0 rfl rfl (aB (bH (v:=zB true) a0 rfl rfl) (aD (aA ⟨true,hm,e2,e3,rfl,b1⟩)))))))))))
   ·refine bI a0 rfl rfl (aB (aF e2) (bI a0 rfl rfl (aB (aF e3) (bI a0 rfl rfl ?_))))
    obtain ⟨f0,f1,hm⟩:=aJ hm
    refine aB (aCO Tryz.runUnderlying9 rfl rfl f1) (bI a0 rfl rfl (aB (pB rfl rfl) (bI a0 rfl rfl (aB (aF (v:=zB ((f0.toNat:Int) == 48)) rfl) ?_))))
    rcases aM hm with ⟨a4,hm⟩|⟨a4,hm⟩
    ·exact bK a4 rfl rfl (aB (aF e2) (bK a4 rfl rfl (aB (gU Tryz.runUnderlying9 rfl) (bK a4 rfl rfl (aB (lJ rfl rfl) (bI a0 rfl rfl (aB (bH (v:=zB (decide (1 < (s_.length:Int)))) a4 rfl rfl) (aB (bL (v:=zB (decide (1 < (s_.length:Int)))) a0 rfl rfl) (aD (aA ⟨decide (1 < (s_.length:Int)),hm,e2,e3,rfl,b1⟩))))))))))
    ·exact bE a4 rfl rfl (bE a4 rfl rfl (bE a4 rfl rfl (bI a0 rfl rfl (aB (bL (v:=zB false) a4 rfl rfl) (aB (bL (v:=zB false) a0 rfl rfl) (aD (aA ⟨false,hm,e2,e3,rfl,b1⟩)))))))
 refine aH (cU (fun f w=>∃ (c1:Bool),oE s_ c1=some R∧f 0=cR s_∧f 4=i64 0∧f 14=zB c1∧aN G K (L) w) ?_ ?_)
 ·rintro f g2 ⟨c1,hm,d4,f2,d5,d6⟩
  unfold oE at hm
  refine aA ?_
  rcases aM hm with ⟨c2,hm⟩|⟨c2,hm⟩
  ·exact aQ c2 d5 (aC (aB (aG (v:=i64 1) rfl) (aD (aA ⟨1,hm,d4,rfl,d6⟩))))
  ·exact aO c2 d5 (aY (aA ⟨0,hm,d4,f2,d6⟩))
 refine aC (aB (aF (v:=cR s_) rfl) (aB (gU Tryz.runUnderlying9 rfl) (aB (lJ rfl rfl) (aB (aF (v:=zB (decide (0 < (s_.length:Int)))) rfl) ?_))))
 rcases aM hm with ⟨a5,hm⟩|⟨a5,hm⟩
 ·refine bK a5 rfl rfl (aB (aF (v:=cR s_) rfl) (bK a5 rfl rfl ?_))
  obtain ⟨d7,f3,hm⟩:=aJ hm
  exact aB (aCO Tryz.runUnderlying9 rfl rfl f3) (bK a5 rfl rfl (aB (pB rfl rfl) (aB (bH (v:=zB ((d7.toNat:Int) == 45)) a5 rfl rfl) (aD (aA ⟨(d7.toNat:Int) == 45,hm,rfl,rfl,rfl,hs⟩)))))
 ·exact bE a5 rfl rfl (bE a5 rfl rfl (bE a5 rfl rfl (aB (bL (v:=zB false) a5 rfl rfl) (aD (aA ⟨false,hm,rfl,rfl,rfl,hs⟩)))))
theorem aHQ {s_:aZ} {R:((List Int) × Bool)} (hs:aN G K (L) w)  (hm:aCe s_=some R):
  Calls Tryz.prog 151 ([cR s_]:List Value).toArray w (gV fun v w'=>∃ (ra0:Option Addr) (rc0:Nat),v=Value.tuple #[zS ra0 R.1.length rc0,zB R.2]∧aN G K (aK 2 K ra0 rc0 R.1::L) w'):=by
 refine aW Tryz.func151 rfl (by kernel_rfl) (by show (1:Nat)≤70;decide) ?_
 unfold aCe at hm
 refine aH (aC (aB (aG (v:=zS none 0 0) rfl) (aB (aG (v:=zB false) rfl) (aD (aA (aH (aC (aB (aF (v:=cR s_) rfl) ?_))))))))
 obtain ⟨r1,q2,hm⟩:=aJ hm
 refine aX (vs:=[cR s_]) Tryz.call201 rfl (aJB hs q2) ?_
 rintro _ w3 ⟨rfl,d1⟩
 refine aB (aG (v:=i64 r1) rfl) (aD (aA (aH (aH (aC (aB (aF (v:=i64 r1) rfl) (aB (aF (v:=cR s_) rfl) (aB (gU Tryz.runUnderlying9 rfl) (aB (pB rfl rfl) (aD (aA ?_)))))))))))
 rcases aM hm with ⟨c5,hm⟩|⟨c5,hm⟩
 ·refine aQ c5 rfl (aH (aC (dA (Kt:=K) (xs:=([]:List Int)) (cs:=[]) (vs:=[]) cG sU rfl rfl d1 rfl (by kernel_rfl) rfl rfl rfl trivial (fun a6 w7 (e6:aN G K (aK 2 K a6 0 ([]:List Int)::L) w7)=>(aB (aF (v:=cR s_) rfl) ?_)))))
  obtain ⟨r9,e8,hm⟩:=aJ hm
  refine aX (vs:=[cR s_]) Tryz.call202 rfl (aFi e6 e8) ?_
  rintro _ i8 ⟨rfl,e9⟩
  refine aB (aG (v:=zS a6 ([]:List Int).length 0) rfl) (aB (aG (v:=zB r9) rfl) (aD (aA ?_)))
  cases zI hm
  exact bC (aS (qO Tryz.results151 rfl rfl ⟨a6,0,rfl,e9⟩))
 ·refine aO c5 rfl (aY (aA (aH (aH (cU (fun f w=>∃ (c0:Bool),oG s_ r1 c0=some R∧f 0=cR s_∧f 4=i64 r1∧f 31=zB c0∧aN G K (L) w) ?_ ?_)))))
  ·rintro f i9 ⟨c0,hm,d2,f1,d3,d4⟩
   unfold oG at hm
   refine aA ?_
   rcases aM hm with ⟨c1,hm⟩|⟨c1,hm⟩
   ·refine aQ c1 d3 (aH (aC (aB (aG (v:=zS none 0 0) rfl) (aB (aG (v:=zB false) rfl) (aD (aA ?_))))))
    have f2:=aN.nil (α:=Int) d4 2 K
    cases zI hm
    exact bC (aS (qO Tryz.results151 rfl rfl ⟨none,0,rfl,f2⟩))
   ·refine aO c1 d3 (aY (aA (aH (aC (aB (aF d2) (aB (aF f1) (aB (cY rfl rfl) (aB (aF d2) (aB (gU Tryz.runUnderlying9 rfl) (aB (hY rfl rfl) ?_))))))))))
    obtain ⟨f4,f5,hm⟩:=aJ hm
    refine aB (R_slSLH Tryz.runUnderlying9 rfl rfl rfl f5) ?_
    obtain ⟨a3,f6,hm⟩:=aJ hm
    refine aX (vs:=[cR f4,Value.int .u8 44]) Tryz.call203 rfl (aIt (by_:=(44:UInt8)) d4 f6) ?_
    rintro _ j0 ⟨a27,a7,rfl,f7⟩
    refine aB (aG (v:=zS a27 a3.length a7) rfl) (aD (aA (aH (aC (dA (Kt:=K) (xs:=([]:List Int)) (cs:=[]) (vs:=[]) cG sU rfl rfl f7 rfl (by kernel_rfl) rfl rfl rfl trivial (fun c2 f8 (f9:aN G K (aK 2 K c2 0 ([]:List Int)::aK 9 K a27 a7 a3::L) f8)=>(aB (aG (v:=zS c2 ([]:List Int).length 0) rfl) (aD (aA (aH (aH (aC (aB (aG (v:=i64 0) rfl) (aD (aA (bJ (fun f w=>∃ (a8:List Int) (b3:Option Addr) (b4:Nat),rT a8=some R∧f 6=zS b3 a8.length b4∧aN G K (aK 2 K b3 b4 a8::L) w) ?_ ?_))))))))))))))))
    ·rintro f j1 ⟨a8,b3,b4,hm,d5,g0⟩
     unfold rT at hm
     refine aA (aH (aC (aB (aF d5) (aB (aF d5) (aB (bR (len:=a8.length) cG rfl) (aB (aED rfl rfl) (aB (aG (v:=zS b3 a8.length b4) rfl) (aB (aG (v:=zB (decide ((a8.length:Int)≤2))) rfl) (aD (aA ?_))))))))))
     cases zI hm
     exact bC (qO Tryz.results151 rfl rfl ⟨b3,b4,rfl,g0⟩)
    obtain ⟨j2,g2,hm⟩:=aJ hm
    refine cP g2 (fun (s:(List Int × Int)) f w=>match s with|(a4,a9)=>∃ (b0:Option Addr) (b1:Nat),f 5=zS a27 a3.length a7∧f 6=zS b0 a4.length b1∧f 7=i64 a9∧aN G K (aK 2 K b0 b1 a4::aK 9 K a27 a7 a3::L) w) ?_ ?_
    ·exact ⟨c2,0,rfl,rfl,rfl,f9⟩
    ·rintro ⟨a4,a9⟩ d6 f j3 a0 d7 ⟨b0,b1,b5,c3,b6,b7⟩
     replace a0:oF a3 a4 a9=some d6:=a0
     unfold oF at a0
     refine aH (aH (aC (aB (aF b6) (aB (aF b5) (aB (bR (len:=a3.length) cE rfl) (aB (cK rfl rfl) (aD (aA ?_))))))))
     rcases aM a0 with ⟨c4,a0⟩|⟨c4,a0⟩
     ·refine aQ c4 rfl (aY (aA (aH (cQ (aH (aC (aB (aF b5) (aB (aF b6) ?_))))))))
      obtain ⟨g3,q78,a0⟩:=aJ a0
      have g4:=dH b7 (i:=1) rfl q78
      refine aB (eY cE rfl g4 rfl rfl rfl q78) (aB (tQ (t:=0) qR b7 (i:=1) rfl q78 rfl rfl rfl) ?_)
      obtain ⟨a2,g5,a0⟩:=aJ a0
      refine aX (vs:=[cR g3]) Tryz.call204 rfl (aHP b7 g5) ?_
      rintro _ j4 ⟨rfl,d8⟩
      refine aB (aF (v:=Value.tuple #[i64 a2.1,zB a2.2]) rfl) (aB (bX rfl rfl) (aB (bX rfl rfl) (aB (aG (v:=i64 a2.1) rfl) (aB (aG (v:=zB a2.2) rfl) (aD (aA (aH (aH (cU (fun f w=>∃ (c6:Bool),rU a4 a9 a2 c6=some d6∧f 5=zS a27 a3.length a7∧f 6=zS b0 a4.length b1∧f 7=i64 a9∧f 8=i64 a2.1∧f 61=zB c6∧aN G K (aK 2 K b0 b1 a4::aK 9 K a27 a7 a3::L) w) ?_ ?_)))))))))
      ·rintro f j5 ⟨c6,a0,g6,g7,g8,g9,d9,e0⟩
       unfold rU at a0
       refine aA ?_
       rcases aM a0 with ⟨c7,a0⟩|⟨c7,a0⟩
       ·refine aQ c7 d9 (aH (aC (aB (aG (v:=zS none 0 0) rfl) (aB (aG (v:=zB false) rfl) (aD (aA (bC (aS (bN (aS (aS ?_)))))))))))
        have h0:=d7 _ (zI a0).symm
        subst h0
        have hm:(some ([],false))=some R:=hm
        have h1:=aN.nil (α:=Int) e0 2 K
        cases zI hm
        exact bN (aS (aS (qO Tryz.results151 rfl rfl ⟨none,0,rfl,(aN.arr 3 [0] h1 rfl)⟩)))
       ·refine aO c7 d9 (aY (aA (aC (aB (aF g7) (aB (aF g9) (dA (Kt:=K) (xs:=([a2.1]:List Int)) (cs:=[i64 a2.1]) (vs:=[(0,i64 a2.1)]) cG sU rfl rfl e0 rfl (by kernel_rfl) rfl rfl rfl ⟨rfl,trivial⟩ (fun h3 h4 (h5:aN G K (aK 2 K h3 1 ([a2.1]:List Int)::aK 2 K b0 b1 a4::aK 9 K a27 a7 a3::L) h4)=>?_)))))))
        obtain ⟨c8,h6,a0⟩:=aJ a0
        exact jO (i:=0) cG Tryz.underlying31 sU rfl rfl h5 rfl (zR _) (zR _) h6 rfl rfl rfl rfl (fun _ h=>h) (fun c9 d0 h7 (h8:aN G K (aK 2 K c9 d0 c8::aK 9 K a27 a7 a3::L) h7)=>(aB (aG (v:=zS c9 c8.length d0) rfl) (aD (bO (aA (aC (aB (aF g8) (aB (cY rfl rfl) (aB (aG (v:=i64 (wr (a9+1))) rfl) (aD (aA ⟨(c8,wr (a9+1)),(zI a0).symm,c9,d0,g6,rfl,rfl,h8⟩)))))))))))
      refine aC (aB (aF (v:=zB a2.2) rfl) (aB (eP rfl) (aB (aF (v:=zB (!a2.2)) rfl) ?_)))
      rcases aM a0 with ⟨a5,a0⟩|⟨a5,a0⟩
      ·exact aV a5 rfl rfl (aV a5 rfl rfl (aV a5 rfl rfl (aB (bH (v:=zB true) a5 rfl rfl) (aD (aA ⟨true,a0,b5,c3,b6,rfl,rfl,d8⟩)))))
      ·refine bI a5 rfl rfl (aB (aF (v:=i64 a2.1) rfl) (bI a5 rfl rfl ?_))
       obtain ⟨e1,h9,a0⟩:=aJ a0
       refine aX (vs:=[i64 a2.1,i64 0,i64 63]) Tryz.call109 rfl (pO d8 h9) ?_
       rintro _ j6 ⟨rfl,i0⟩
       exact bI a5 rfl rfl (aB (eP rfl) (aB (bL (v:=zB (!e1)) a5 rfl rfl) (aD (aA ⟨!e1,a0,b5,c3,b6,rfl,rfl,i0⟩))))
     ·refine aO c4 rfl (cN (bB (bB ?_)))
      have i1:=d7 _ (zI a0).symm
      subst i1
      have hm:(rT a4)=some R:=hm
      exact bS (aA ⟨a4,b0,b1,hm,c3,(aN.arr 2 [0] b7 rfl)⟩)
  refine aC (aB (aF (v:=cR s_) rfl) (aB (aF (v:=i64 r1) rfl) ?_))
  obtain ⟨i2,i3,hm⟩:=aJ hm
  refine aB (R_slSH Tryz.runUnderlying9 rfl rfl i3) ?_
  obtain ⟨i4,i5,hm⟩:=aJ hm
  refine aX (vs:=[cR i2]) Tryz.call191 rfl (aDn d1 i5) ?_
  rintro _ j7 ⟨rfl,e2⟩
  refine aB (eP rfl) (aB (aF (v:=zB (!i4)) rfl) ?_)
  rcases aM hm with ⟨a1,hm⟩|⟨a1,hm⟩
  ·exact aV a1 rfl rfl (aV a1 rfl rfl (aV a1 rfl rfl (aV a1 rfl rfl (aV a1 rfl rfl (aV a1 rfl rfl (aB (bH (v:=zB true) a1 rfl rfl) (aD (aA ⟨true,hm,rfl,rfl,rfl,e2⟩))))))))
  ·refine bI a1 rfl rfl (aB (aF (v:=cR s_) rfl) (bI a1 rfl rfl (aB (aF (v:=cR s_) rfl) (bI a1 rfl rfl (aB (gU Tryz.runUnderlying9 rfl) (bI a1 rfl rfl (aB (hY rfl rfl) (bI a1 rfl rfl ?_))))))))
   obtain ⟨e3,i6,hm⟩:=aJ hm
   exact aB (aCO Tryz.runUnderlying9 rfl rfl i6) (bI a1 rfl rfl (aB (mO rfl rfl) (aB (bL (v:=zB ((e3.toNat:Int) != 41)) a1 rfl rfl) (aD (aA ⟨(e3.toNat:Int) != 41,hm,rfl,rfl,rfl,e2⟩)))))
theorem aIu {s_:aZ} {R:Bool} (hs:aN G K (L) w)  (hm:yV s_=some R):
  Calls Tryz.prog 112 ([cR s_]:List Value).toArray w (gV fun v w'=>v=zB R∧aN G K (L) w'):=by
 refine aW Tryz.func112 rfl (by kernel_rfl) (by show (1:Nat)≤11;decide) ?_
 unfold yV at hm
 refine aH (aC (aB (aG (v:=zB false) rfl) (aD (aA (aH (aC (aB (aF (v:=cR s_) rfl) ?_)))))))
 obtain ⟨r1,q2,hm⟩:=aJ hm
 refine aX (vs:=[cR s_]) Tryz.call151 rfl (aHQ hs q2) ?_
 rintro _ w5 ⟨a3,c4,rfl,a4⟩
 refine aB (aF (v:=Value.tuple #[zS a3 r1.1.length c4,zB r1.2]) rfl) (aB (bX rfl rfl) (aB (bX rfl rfl) (aB (aG (v:=zS a3 r1.1.length c4) rfl) (aB (aG (v:=zB r1.2) rfl) (aD (aA (aH (aC (aB (aF (v:=zB r1.2) rfl) (aB (aG (v:=zB r1.2) rfl) (aD (aA ?_))))))))))))
 cases zI hm
 exact bC (bA Tryz.results112 rfl ⟨rfl,(aN.arr 1 [] a4 rfl)⟩)
theorem aIv {list:(List aZ)} {R:Bool} (hs:aN G K (L) w) (h3:cJ K a1 c2 list) (hm:aBz list=some R):
  Calls Tryz.prog 110 ([zS a1 list.length c2]:List Value).toArray w (gV fun v w'=>v=zB R∧aN G K (L) w'):=by
 refine aW Tryz.func110 rfl (by kernel_rfl) (by show (1:Nat)≤53;decide) ?_
 unfold aBz at hm
 refine aH (aC (aB (aG (v:=zB false) rfl) (aD (aA (aH (aH (cU (fun f w=>∃ (v4:Bool),qC list v4=some R∧f 0=zS a1 list.length c2∧f 17=zB v4∧aN G K (L) w) ?_ ?_)))))))
 ·rintro f w7 ⟨v4,hm,e5,e6,c1⟩
  unfold qC at hm
  refine aA ?_
  rcases aM hm with ⟨c9,hm⟩|⟨c9,hm⟩
  ·refine aQ c9 e6 (aH (aC (aB (aG (v:=zB false) rfl) (aD (aA ?_)))))
   cases zI hm
   exact bC (aS (bA Tryz.results110 rfl ⟨rfl,c1⟩))
  ·refine aO c9 e6 (aY (aA (aH (aH (aC (aB (aG (v:=i64 1) rfl) (aD (aA (bJ (fun f w=>aBV=some R∧aN G K (L) w) ?_ ?_)))))))))
   ·rintro f f2 ⟨hm,d3⟩
    unfold aBV at hm
    refine aA (aH (aC (aB (aG (v:=zB true) rfl) (aD (aA ?_)))))
    cases zI hm
    exact bC (bA Tryz.results110 rfl ⟨rfl,d3⟩)
   obtain ⟨f3,d5,hm⟩:=aJ hm
   refine cP d5 (fun (b0:Int) f w=>f 0=zS a1 list.length c2∧f 3=i64 b0∧aN G K (L) w) ?_ ?_
   ·exact ⟨e5,rfl,c1⟩
   ·rintro b0 c3 f f4 a2 c4 ⟨a8,a7,a0⟩
    replace a2:qB list b0=some c3:=a2
    unfold qB at a2
    refine aH (aH (aC (aB (aF a7) (aB (aF a8) (aB (bR (len:=list.length) cE rfl) (aB (cK rfl rfl) (aD (aA ?_))))))))
    rcases aM a2 with ⟨b5,a2⟩|⟨b5,a2⟩
    ·refine aQ b5 rfl (aY (aA (aH (cQ (aH (cU (fun f w=>∃ (b6:Bool),nF b0 b6=some c3∧f 0=zS a1 list.length c2∧f 3=i64 b0∧f 52=zB b6∧aN G K (L) w) ?_ ?_))))))
     ·rintro f f5 ⟨b6,a2,d6,d7,c5,c6⟩
      unfold nF at a2
      refine aA ?_
      rcases aM a2 with ⟨b7,a2⟩|⟨b7,a2⟩
      ·refine aQ b7 c5 (aH (aC (aB (aG (v:=zB false) rfl) (aD (aA (bC (bN (aS (aS ?_)))))))))
       have d8:=c4 _ (zI a2).symm
       subst d8
       have hm:(some false)=some R:=hm
       cases zI hm
       exact bN (aS (aS (bA Tryz.results110 rfl ⟨rfl,c6⟩)))
      ·exact aO b7 c5 (aY (bO (aA (aC (aB (aF d7) (aB (cY rfl rfl) (aB (aG (v:=i64 (wr (b0+1))) rfl) (aD (aA ⟨wr (b0+1),(zI a2).symm,d6,rfl,c6⟩)))))))))
     refine cW (C:=fun w'=>aN G K (L) w') bQ (by kernel_rfl) (aN.mono a0 (dE.drew _)) (aT (fun _ a0=>aF a8) (aT (fun _ a0=>aF a7) ?_))
     obtain ⟨b1,b2,a2⟩:=aJ a2
     refine aT (fun _ a0=>cV cE rfl h3 rfl rfl rfl b2) ?_
     obtain ⟨f6,b8,e0⟩:=cJ.el (sz:=1) rfl h3 b2
     cases e0
     refine aT (fun _ a0=>bP (t:=0) qR a0 b8 rfl rfl) ?_
     obtain ⟨c7,e1,a2⟩:=aJ a2
     refine iV (vs:=[cR b1]) (v:=zB c7) Tryz.call112 rfl (fun _ a0=>(aIu a0 e1)) (aT (fun _ a0=>eP rfl) (aT (fun _ a0=>aF (v:=zB (!c7)) rfl) ?_))
     rcases aM a2 with ⟨a4,a2⟩|⟨a4,a2⟩
     ·refine aU (g:=30) rfl rfl (cA a4) (aU (g:=30) rfl rfl (cA a4) (aU (g:=30) rfl rfl (cA a4) (aU (g:=30) rfl rfl (cA a4) (aU (g:=30) rfl rfl (cA a4) (aT (fun _ a0=>bH (v:=zB true) a4 rfl rfl) (aT (fun _ a0=>aF (v:=zB true) rfl) (aU (g:=37) rfl rfl (cA (rfl:true=true)) (aU (g:=37) rfl rfl (cA (rfl:true=true)) (aU (g:=37) rfl rfl (cA (rfl:true=true)) (bF (g:=40) rfl rfl (bF (g:=40) rfl rfl (bF (g:=40) rfl rfl (bF (g:=40) rfl rfl (bF (g:=40) rfl rfl (bF (g:=40) rfl rfl (bF (g:=40) rfl rfl (bF (g:=40) rfl rfl (bF (g:=40) rfl rfl (bF (g:=40) rfl rfl (aU (g:=37) rfl rfl (cA (rfl:true=true)) (aT (fun _ a0=>bH (v:=zB true) (rfl:true=true) rfl rfl) (dD (fun f7 e2=>?_)))))))))))))))))))))))
      exact aA ⟨true,a2,a8,a7,rfl,e2⟩
     ·refine bG (g:=30) rfl rfl (cC a4) (aT (fun _ a0=>aF a8) (bG (g:=30) rfl rfl (cC a4) (aT (fun _ a0=>aF a7) (bG (g:=30) rfl rfl (cC a4) (aT (fun _ a0=>cV cE rfl h3 rfl rfl rfl b2) (bG (g:=30) rfl rfl (cC a4) (aT (fun _ a0=>bP (t:=0) qR a0 b8 rfl rfl) (bG (g:=30) rfl rfl (cC a4) (aT (fun _ a0=>aAJ rfl rfl) (aT (fun _ a0=>bL (v:=zB (b1 == ([116,97,117]:aZ))) a4 rfl rfl) (aT (fun _ a0=>aF (v:=zB (b1 == ([116,97,117]:aZ))) rfl) ?_)))))))))))
      rcases aM a2 with ⟨a5,a2⟩|⟨a5,a2⟩
      ·exact aU (g:=37) rfl rfl (cA a5) (aU (g:=37) rfl rfl (cA a5) (aU (g:=37) rfl rfl (cA a5) (bF (g:=40) rfl rfl (bF (g:=40) rfl rfl (bF (g:=40) rfl rfl (bF (g:=40) rfl rfl (bF (g:=40) rfl rfl (bF (g:=40) rfl rfl (bF (g:=40) rfl rfl (bF (g:=40) rfl rfl (bF (g:=40) rfl rfl (bF (g:=40) rfl rfl (aU (g:=37) rfl rfl (cA a5) (aT (fun _ a0=>bH (v:=zB true) a5 rfl rfl) (dD (fun f8 e3=>(aA ⟨true,a2,a8,a7,rfl,e3⟩)))))))))))))))))
      ·refine bG (g:=37) rfl rfl (cC a5) (aT (fun _ a0=>aF a7) (bG (g:=37) rfl rfl (cC a5) (aT (fun _ a0=>lJ rfl rfl) (bG (g:=37) rfl rfl (cC a5) (aT (fun _ a0=>aF (v:=zB (decide (1 < b0))) rfl) ?_)))))
       rcases aM a2 with ⟨a3,a2⟩|⟨a3,a2⟩
       ·refine bG (g:=40) rfl rfl a3 (aT (fun _ a0=>aF a8) (bG (g:=40) rfl rfl a3 (aT (fun _ a0=>aF a7) (bG (g:=40) rfl rfl a3 (aT (fun _ a0=>hY rfl rfl) (bG (g:=40) rfl rfl a3 ?_))))))
        obtain ⟨b9,c8,a2⟩:=aJ a2
        refine aT (fun _ a0=>cV cE rfl h3 rfl rfl rfl c8) ?_
        obtain ⟨f9,e4,hr68⟩:=cJ.el (sz:=1) rfl h3 c8
        cases hr68
        exact bG (g:=40) rfl rfl a3 (aT (fun _ a0=>bP (t:=0) qR a0 e4 rfl rfl) (bG (g:=40) rfl rfl a3 (aT (fun _ a0=>aF a8) (bG (g:=40) rfl rfl a3 (aT (fun _ a0=>aF a7) (bG (g:=40) rfl rfl a3 (aT (fun _ a0=>cV cE rfl h3 rfl rfl rfl b2) (bG (g:=40) rfl rfl a3 (aT (fun _ a0=>bP (t:=0) qR a0 b8 rfl rfl) (bG (g:=40) rfl rfl a3 (aT (fun _ a0=>R_geqS rfl rfl) (bG (g:=37) rfl rfl (cC a5) (aT (fun _ a0=>bH (v:=zB (!qW b9 b1)) a3 rfl rfl) (aT (fun _ a0=>bL (v:=zB (!qW b9 b1)) a5 rfl rfl) (dD (fun g0 hs70=>(aA ⟨!qW b9 b1,a2,a8,a7,rfl,hs70⟩)))))))))))))))))
       ·exact aU (g:=40) rfl rfl (bU a3) (aU (g:=40) rfl rfl (bU a3) (aU (g:=40) rfl rfl (bU a3) (aU (g:=40) rfl rfl (bU a3) (aU (g:=40) rfl rfl (bU a3) (aU (g:=40) rfl rfl (bU a3) (aU (g:=40) rfl rfl (bU a3) (aU (g:=40) rfl rfl (bU a3) (aU (g:=40) rfl rfl (bU a3) (aU (g:=40) rfl rfl (bU a3) (bG (g:=37) rfl rfl (cC a5) (aT (fun _ a0=>bL (v:=zB false) a3 rfl rfl) (aT (fun _ a0=>bL (v:=zB false) a5 rfl rfl) (dD (fun g1 e7=>(aA ⟨false,a2,a8,a7,rfl,e7⟩)))))))))))))))
    ·refine aO b5 rfl (cN (bB (bB ?_)))
     have e8:=c4 _ (zI a2).symm
     subst e8
     have hm:(aBV)=some R:=hm
     exact bS (aA ⟨hm,a0⟩)
 refine aC (aB (aF (v:=zS a1 list.length c2) rfl) (aB (bR (len:=list.length) cE rfl) (aB (pB rfl rfl) (aB (aF (v:=zB ((list.length:Int) == 0)) rfl) ?_))))
 rcases aM hm with ⟨a9,hm⟩|⟨a9,hm⟩
 ·exact aV a9 rfl rfl (aV a9 rfl rfl (aV a9 rfl rfl (aB (bH (v:=zB true) a9 rfl rfl) (aB (aF (v:=zB true) rfl) (aV (rfl:true=true) rfl rfl (aV (rfl:true=true) rfl rfl (aV (rfl:true=true) rfl rfl (aV (rfl:true=true) rfl rfl (aB (bH (v:=zB true) (rfl:true=true) rfl rfl) (aD (aA ⟨true,hm,rfl,rfl,hs⟩)))))))))))
 ·refine bI a9 rfl rfl (aB (aF (v:=zS a1 list.length c2) rfl) (bI a9 rfl rfl (aB (bR (len:=list.length) cE rfl) (bI a9 rfl rfl (aB (lJ rfl rfl) (aB (bL (v:=zB (decide (12 < (list.length:Int)))) a9 rfl rfl) (aB (aF (v:=zB (decide (12 < (list.length:Int)))) rfl) ?_)))))))
  rcases aM hm with ⟨a6,hm⟩|⟨a6,hm⟩
  ·exact aV a6 rfl rfl (aV a6 rfl rfl (aV a6 rfl rfl (aV a6 rfl rfl (aB (bH (v:=zB true) a6 rfl rfl) (aD (aA ⟨true,hm,rfl,rfl,hs⟩))))))
  ·refine bI a6 rfl rfl (aB (aF (v:=zS a1 list.length c2) rfl) (bI a6 rfl rfl ?_))
   obtain ⟨e79,d0,hm⟩:=aJ hm
   refine aB (cV cE rfl h3 rfl rfl rfl d0) ?_
   obtain ⟨g2,e9,f0⟩:=cJ.el (sz:=1) rfl h3 d0
   cases f0
   exact bI a6 rfl rfl (aB (bP (t:=0) qR hs e9 rfl rfl) (bI a6 rfl rfl (aB (aFZ rfl rfl) (aB (bL (v:=zB (!(e79 == ([116,97,117]:aZ)))) a6 rfl rfl) (aD (aA ⟨!(e79 == ([116,97,117]:aZ)),hm,rfl,rfl,hs⟩))))))
theorem aFj {a:Edge} {k2:Nat} {b:Edge} {k5:Nat} {R:Bool} (hs:aN G K (L) w) (h3:nY K a1 k2 [i64 a.F,i64 a.B,i64 a.To]) (h6:nY K a4 k5 [i64 b.F,i64 b.B,i64 b.To]) (hm:aBk a b=some R):
  Calls Tryz.prog 111 ([cS a1 k2,cS a4 k5]:List Value).toArray w (gV fun v w'=>v=zB R∧aN G K (L) w'):=by
 refine aW Tryz.func111 rfl (by kernel_rfl) (by show (2:Nat)≤50;decide) ?_
 unfold aBk at hm
 refine aH (aC (aB (aG (v:=zB false) rfl) (aD (aA (aH (aH (cW (C:=fun w'=>aN G K (L) w') bQ (by kernel_rfl) (aN.mono hs (dE.drew _)) (aT (fun _ hs=>aF (v:=cS a1 k2) rfl) (aT (fun _ hs=>eX rfl h3) (aT (fun _ hs=>dC (k':=k2+0) iX rfl h3 rfl) (aT (fun _ hs=>bP (t:=0) dF hs h3 rfl rfl) (aT (fun _ hs=>aF (v:=cS a4 k5) rfl) (aT (fun _ hs=>eX rfl h6) (aT (fun _ hs=>dC (k':=k5+0) iX rfl h6 rfl) (aT (fun _ hs=>bP (t:=0) dF hs h6 rfl rfl) (aT (fun _ hs=>mO rfl rfl) (dD (fun w9 a2=>(aA ?_)))))))))))))))))))
 rcases aM hm with ⟨a3,hm⟩|⟨a3,hm⟩
 ·refine aQ a3 rfl (aH (cW (C:=fun w'=>aN G K (L) w') bQ (by kernel_rfl) (aN.mono a2 (dE.drew _)) (aT (fun _ a2=>aF (v:=cS a1 k2) rfl) (aT (fun _ a2=>eX rfl h3) (aT (fun _ a2=>dC (k':=k2+0) iX rfl h3 rfl) (aT (fun _ a2=>bP (t:=0) dF a2 h3 rfl rfl) (aT (fun _ a2=>aF (v:=cS a4 k5) rfl) (aT (fun _ a2=>eX rfl h6) (aT (fun _ a2=>dC (k':=k5+0) iX rfl h6 rfl) (aT (fun _ a2=>bP (t:=0) dF a2 h6 rfl rfl) (aT (fun _ a2=>cK rfl rfl) (aT (fun _ a2=>aG (v:=zB (decide (a.F < b.F))) rfl) (dD (fun b3 a6=>(aA ?_)))))))))))))))
  cases zI hm
  exact bC (aS (bA Tryz.results111 rfl ⟨rfl,a6⟩))
 ·refine aO a3 rfl (aY (aA (aH (aH (cW (C:=fun w'=>aN G K (L) w') bQ (by kernel_rfl) (aN.mono a2 (dE.drew _)) (aT (fun _ a2=>aF (v:=cS a1 k2) rfl) (aT (fun _ a2=>eX rfl h3) (aT (fun _ a2=>dC (k':=k2+1) gO rfl h3 rfl) (aT (fun _ a2=>bP (t:=1) dF a2 h3 rfl rfl) (aT (fun _ a2=>aF (v:=cS a4 k5) rfl) (aT (fun _ a2=>eX rfl h6) (aT (fun _ a2=>dC (k':=k5+1) gO rfl h6 rfl) (aT (fun _ a2=>bP (t:=1) dF a2 h6 rfl rfl) (aT (fun _ a2=>mO rfl rfl) (dD (fun b4 a0=>(aA ?_)))))))))))))))))
  rcases aM hm with ⟨a5,hm⟩|⟨a5,hm⟩
  ·refine aQ a5 rfl (aH (cW (C:=fun w'=>aN G K (L) w') bQ (by kernel_rfl) (aN.mono a0 (dE.drew _)) (aT (fun _ a0=>aF (v:=cS a1 k2) rfl) (aT (fun _ a0=>eX rfl h3) (aT (fun _ a0=>dC (k':=k2+1) gO rfl h3 rfl) (aT (fun _ a0=>bP (t:=1) dF a0 h3 rfl rfl) (aT (fun _ a0=>aF (v:=cS a4 k5) rfl) (aT (fun _ a0=>eX rfl h6) (aT (fun _ a0=>dC (k':=k5+1) gO rfl h6 rfl) (aT (fun _ a0=>bP (t:=1) dF a0 h6 rfl rfl) (aT (fun _ a0=>cK rfl rfl) (aT (fun _ a0=>aG (v:=zB (decide (a.B < b.B))) rfl) (dD (fun b5 a8=>(aA ?_)))))))))))))))
   cases zI hm
   exact bC (aS (bA Tryz.results111 rfl ⟨rfl,a8⟩))
  ·refine aO a5 rfl (aY (aA (aH (cW (C:=fun w'=>aN G K (L) w') bQ (by kernel_rfl) (aN.mono a0 (dE.drew _)) (aT (fun _ a0=>aF (v:=cS a1 k2) rfl) (aT (fun _ a0=>eX rfl h3) (aT (fun _ a0=>dC (k':=k2+2) lY rfl h3 rfl) (aT (fun _ a0=>bP (t:=2) dF a0 h3 rfl rfl) (aT (fun _ a0=>aF (v:=cS a4 k5) rfl) (aT (fun _ a0=>eX rfl h6) (aT (fun _ a0=>dC (k':=k5+2) lY rfl h6 rfl) (aT (fun _ a0=>bP (t:=2) dF a0 h6 rfl rfl) (aT (fun _ a0=>cK rfl rfl) (aT (fun _ a0=>aG (v:=zB (decide (a.To < b.To))) rfl) (dD (fun b6 b0=>(aA ?_)))))))))))))))))
   cases zI hm
   exact bC (bA Tryz.results111 rfl ⟨rfl,b0⟩)
theorem aMf {t:cH} {k2:Nat} {R:Bool} (hs:aN G K (L) w) (h3:nY K a1 k2 (zC t a4 c5 a7 c8)) (h6:cJ K a4 c5 t.L) (h9:cJ K a7 c8 t.E) (hm:aDJ t=some R):
  Calls Tryz.prog 62 ([cS a1 k2]:List Value).toArray w (gV fun v w'=>v=zB R∧aN G K (L) w'):=by
 refine aW Tryz.func62 rfl (by kernel_rfl) (by show (1:Nat)≤101;decide) ?_
 unfold aDJ at hm
 refine aH (aC (aB (aG (v:=zB false) rfl) (aD (aA (aH (aH (cU (fun f w=>∃ (b9:Bool),vJ t b9=some R∧f 0=cS a1 k2∧f 39=zB b9∧aN G K (L) w) ?_ ?_)))))))
 ·rintro f i7 ⟨b9,hm,e5,d5,d6⟩
  unfold vJ at hm
  refine aA ?_
  rcases aM hm with ⟨c0,hm⟩|⟨c0,hm⟩
  ·refine aQ c0 d5 (aH (aC (aB (aG (v:=zB false) rfl) (aD (aA ?_)))))
   cases zI hm
   exact bC (aS (bA Tryz.results62 rfl ⟨rfl,d6⟩))
  ·refine aO c0 d5 (aY (aA (aH (aH (aC (aB (aG (v:=i64 0) rfl) (aD (aA (bJ (fun f w=>aDI=some R∧aN G K (L) w) ?_ ?_)))))))))
   ·rintro f i8 ⟨hm,e7⟩
    unfold aDI at hm
    refine aA (aH (aC (aB (aG (v:=zB true) rfl) (aD (aA ?_)))))
    cases zI hm
    exact bC (bA Tryz.results62 rfl ⟨rfl,e7⟩)
   obtain ⟨i9,e9,hm⟩:=aJ hm
   refine cP e9 (fun (b2:Int) f w=>f 0=cS a1 k2∧f 3=i64 b2∧aN G K (L) w) ?_ ?_
   ·exact ⟨e5,rfl,d6⟩
   ·rintro b2 c1 f j0 a0 c2 ⟨b3,b4,b5⟩
    replace a0:yX t b2=some c1:=a0
    unfold yX at a0
    refine aH (aH (aC (aB (aF b4) (aB (aF b3) (aB (eX rfl h3) (aB (dC (k':=k2+3) eO rfl h3 rfl) (aB (bP (t:=3) jQ b5 h3 rfl rfl) (aB (bR (len:=t.E.length) cZ rfl) (aB (cK rfl rfl) (aD (aA ?_)))))))))))
    rcases aM a0 with ⟨c3,a0⟩|⟨c3,a0⟩
    ·refine aQ c3 rfl (aY (aA (aH (cQ (aH (aC (aB (aF b3) (aB (eX rfl h3) (aB (dC (k':=k2+3) eO rfl h3 rfl) (aB (bP (t:=3) jQ b5 h3 rfl rfl) (aB (aF b4) ?_)))))))))))
     obtain ⟨a6,d7,a0⟩:=aJ a0
     refine aB (cV cZ rfl h9 rfl rfl rfl d7) ?_
     obtain ⟨j1,f0,f1⟩:=cJ.el (sz:=3) rfl h9 d7
     cases f1
     refine aB (iU (t:=0) (vs:=[i64 a6.F,i64 a6.B,i64 a6.To]) oC b5 f0 rfl rfl rfl) (cL (vs:=[i64 0,i64 0,i64 0]) Tryz.zeroValue63 b5 rfl (fun b6 j2 f2=>(cM (i:=0) (ns:=[i64 a6.F,i64 a6.B,i64 a6.To]) (us:=[i64 a6.F,i64 a6.B,i64 a6.To]) Tryz.sizeOf63 f2 rfl rfl rfl rfl rfl (eD rfl) rfl rfl (fun f3 (a2:aN G K (box b6 63 [i64 a6.F,i64 a6.B,i64 a6.To]::L) f3)=>(aD (aA (aH (aH (cU (fun f w=>∃ (c4:Bool),yW t b2 a6 c4=some c1∧f 0=cS a1 k2∧f 3=i64 b2∧f 4=Value.pointer (some ⟨b6,0,none⟩)∧f 87=zB c4∧aN G K (box b6 63 [i64 a6.F,i64 a6.B,i64 a6.To]::L) w) ?_ ?_)))))))))
     ·rintro f j3 ⟨c4,a0,c6,b7,f4,d8,b8⟩
      unfold yW at a0
      refine aA ?_
      rcases aM a0 with ⟨c7,a0⟩|⟨c7,a0⟩
      ·refine aQ c7 d8 (aH (aC (aB (aG (v:=zB false) rfl) (aD (aA (bC (aS (bN (aS (aS ?_))))))))))
       have f5:=c2 _ (zI a0).symm
       subst f5
       have hm:(some false)=some R:=hm
       cases zI hm
       exact bN (aS (aS (bA Tryz.results62 rfl ⟨rfl,(aN.arr 1 [] b8 rfl)⟩)))
      ·refine aO c7 d8 (aY (aA (aH (cU (fun f w=>∃ (c9:Bool),aBA b2 c9=some c1∧f 0=cS a1 k2∧f 3=i64 b2∧f 100=zB c9∧aN G K (L) w) ?_ ?_))))
       ·rintro f j4 ⟨c9,a0,f7,f8,d9,e0⟩
        unfold aBA at a0
        refine aA ?_
        rcases aM a0 with ⟨d0,a0⟩|⟨d0,a0⟩
        ·refine aQ d0 d9 (aH (aC (aB (aG (v:=zB false) rfl) (aD (aA (bC (bN (aS (aS ?_)))))))))
         have f9:=c2 _ (zI a0).symm
         subst f9
         have hm:(some false)=some R:=hm
         cases zI hm
         exact bN (aS (aS (bA Tryz.results62 rfl ⟨rfl,e0⟩)))
        ·exact aO d0 d9 (aY (bO (aA (aC (aB (aF f8) (aB (cY rfl rfl) (aB (aG (v:=i64 (wr (b2+1))) rfl) (aD (aA ⟨wr (b2+1),(zI a0).symm,f7,rfl,e0⟩)))))))))
       refine aC (aB (aF b7) (aB (lJ rfl rfl) (aB (aF (v:=zB (decide (0 < b2))) rfl) ?_)))
       rcases aM a0 with ⟨a8,a0⟩|⟨a8,a0⟩
       ·refine bK a8 rfl rfl (aB (aF c6) (bK a8 rfl rfl (aB (eX rfl h3) (bK a8 rfl rfl (aB (dC (k':=k2+3) eO rfl h3 rfl) (bK a8 rfl rfl (aB (bP (t:=3) jQ b8 h3 rfl rfl) (bK a8 rfl rfl (aB (aF b7) (bK a8 rfl rfl (aB (hY rfl rfl) (bK a8 rfl rfl ?_))))))))))))
        obtain ⟨j5,e1,a0⟩:=aJ a0
        refine aB (cV cZ rfl h9 rfl rfl rfl e1) ?_
        obtain ⟨j6,g1,g2⟩:=cJ.el (sz:=3) rfl h9 e1
        cases g2
        refine bK a8 rfl rfl ?_
        obtain ⟨j7,g3,g4,g5,g6⟩:=aN.lendB (i:=0) b8 rfl
        obtain ⟨e2,g7,a0⟩:=aJ a0
        refine aX (vs:=[cS a7 ((wr (b2 - 1)).toNat * 3+0),cS (some ⟨b6,0,none⟩) 0]) Tryz.call111 (lst2 rfl f4) (aFj g5 (g1.mono g3) g4 g7) ?_
        rintro _ j8 ⟨rfl,g8⟩
        have g9:=g6 _ _ g8
        exact bK a8 rfl rfl (aB (eP rfl) (aB (bH (v:=zB (!e2)) a8 rfl rfl) (aD (aA ⟨!e2,a0,c6,b7,rfl,(aN.arr 1 [] g9 rfl)⟩))))
       ·exact bE a8 rfl rfl (bE a8 rfl rfl (bE a8 rfl rfl (bE a8 rfl rfl (bE a8 rfl rfl (bE a8 rfl rfl (bE a8 rfl rfl (bE a8 rfl rfl (bE a8 rfl rfl (aB (bL (v:=zB false) a8 rfl rfl) (aD (aA ⟨false,a0,c6,b7,rfl,(aN.arr 1 [] b8 rfl)⟩)))))))))))
     refine cW (C:=fun w'=>aN G K (box b6 63 [i64 a6.F,i64 a6.B,i64 a6.To]::L) w') bQ (by kernel_rfl) (aN.mono a2 (dE.drew _)) (aT (fun _ a2=>bD (t':=0) iX rfl rfl) (aT (fun _ a2=>bY dF a2 (i:=0) rfl rfl rfl) (aT (fun _ a2=>aF b3) (aT (fun _ a2=>eX rfl h3) (aT (fun _ a2=>dC (k':=k2+0) aAR rfl h3 rfl) (aT (fun _ a2=>bP (t:=0) dF a2 h3 rfl rfl) (aT (fun _ a2=>hY rfl rfl) ?_)))))))
     obtain ⟨e3,h0,a0⟩:=aJ a0
     refine iV (vs:=[i64 a6.F,i64 0,i64 (wr (t.N - 1))]) (v:=zB e3) Tryz.call109 rfl (fun _ a2=>(pO a2 h0)) (aT (fun _ a2=>eP rfl) (aT (fun _ a2=>aF (v:=zB (!e3)) rfl) ?_))
     rcases aM a0 with ⟨a9,a0⟩|⟨a9,a0⟩
     ·refine aU (g:=65) rfl rfl (cA a9) (aU (g:=65) rfl rfl (cA a9) (aU (g:=65) rfl rfl (cA a9) (aU (g:=65) rfl rfl (cA a9) (aU (g:=65) rfl rfl (cA a9) (aU (g:=65) rfl rfl (cA a9) (aU (g:=65) rfl rfl (cA a9) (aU (g:=65) rfl rfl (cA a9) (aU (g:=65) rfl rfl (cA a9) (aT (fun _ a2=>bH (v:=zB true) a9 rfl rfl) (aT (fun _ a2=>aF (v:=zB true) rfl) (aU (g:=76) rfl rfl (cA (rfl:true=true)) (aU (g:=76) rfl rfl (cA (rfl:true=true)) (aU (g:=76) rfl rfl (cA (rfl:true=true)) (aU (g:=76) rfl rfl (cA (rfl:true=true)) (aU (g:=76) rfl rfl (cA (rfl:true=true)) (aU (g:=76) rfl rfl (cA (rfl:true=true)) (aU (g:=76) rfl rfl (cA (rfl:true=true)) (aU (g:=76) rfl rfl (cA (rfl:true=true)) (aU (g:=76) rfl rfl (cA (rfl:true=true)) (aU (g:=76) rfl rfl (cA (rfl:true=true)) (aT (fun _ a2=>bH (v:=zB true) (rfl:true=true) rfl rfl) (dD (fun j9 h1=>?_)))))))))))))))))))))))
      exact aA ⟨true,a0,b3,b4,rfl,rfl,h1⟩
     ·refine bG (g:=65) rfl rfl (cC a9) (aT (fun _ a2=>bD (t':=2) lY rfl rfl) (bG (g:=65) rfl rfl (cC a9) (aT (fun _ a2=>bY dF a2 (i:=0) rfl rfl rfl) (bG (g:=65) rfl rfl (cC a9) (aT (fun _ a2=>aF b3) (bG (g:=65) rfl rfl (cC a9) (aT (fun _ a2=>eX rfl h3) (bG (g:=65) rfl rfl (cC a9) (aT (fun _ a2=>dC (k':=k2+0) aAR rfl h3 rfl) (bG (g:=65) rfl rfl (cC a9) (aT (fun _ a2=>bP (t:=0) dF a2 h3 rfl rfl) (bG (g:=65) rfl rfl (cC a9) (aT (fun _ a2=>hY rfl rfl) (bG (g:=65) rfl rfl (cC a9) ?_))))))))))))))
      obtain ⟨d1,h2,a0⟩:=aJ a0
      refine iV (vs:=[i64 a6.To,i64 0,i64 (wr (t.N - 1))]) (v:=zB d1) Tryz.call109 rfl (fun _ a2=>(pO a2 h2)) (bG (g:=65) rfl rfl (cC a9) (aT (fun _ a2=>eP rfl) (aT (fun _ a2=>bL (v:=zB (!d1)) a9 rfl rfl) (aT (fun _ a2=>aF (v:=zB (!d1)) rfl) ?_))))
      rcases aM a0 with ⟨a5,a0⟩|⟨a5,a0⟩
      ·exact aU (g:=76) rfl rfl (cA a5) (aU (g:=76) rfl rfl (cA a5) (aU (g:=76) rfl rfl (cA a5) (aU (g:=76) rfl rfl (cA a5) (aU (g:=76) rfl rfl (cA a5) (aU (g:=76) rfl rfl (cA a5) (aU (g:=76) rfl rfl (cA a5) (aU (g:=76) rfl rfl (cA a5) (aU (g:=76) rfl rfl (cA a5) (aU (g:=76) rfl rfl (cA a5) (aT (fun _ a2=>bH (v:=zB true) a5 rfl rfl) (dD (fun k0 h4=>(aA ⟨true,a0,b3,b4,rfl,rfl,h4⟩)))))))))))))
      ·refine bG (g:=76) rfl rfl (cC a5) (aT (fun _ a2=>bD (t':=1) gO rfl rfl) (bG (g:=76) rfl rfl (cC a5) (aT (fun _ a2=>bY dF a2 (i:=0) rfl rfl rfl) (bG (g:=76) rfl rfl (cC a5) (aT (fun _ a2=>aF b3) (bG (g:=76) rfl rfl (cC a5) (aT (fun _ a2=>eX rfl h3) (bG (g:=76) rfl rfl (cC a5) (aT (fun _ a2=>dC (k':=k2+2) iO rfl h3 rfl) (bG (g:=76) rfl rfl (cC a5) (aT (fun _ a2=>bP (t:=2) jK a2 h3 rfl rfl) (bG (g:=76) rfl rfl (cC a5) (aT (fun _ a2=>bR (len:=t.L.length) cE rfl) (bG (g:=76) rfl rfl (cC a5) (aT (fun _ a2=>hY rfl rfl) (bG (g:=76) rfl rfl (cC a5) ?_))))))))))))))))
       obtain ⟨d2,h5,a0⟩:=aJ a0
       exact iV (vs:=[i64 a6.B,i64 0,i64 (wr ((t.L.length:Int) - 1))]) (v:=zB d2) Tryz.call109 rfl (fun _ a2=>(pO a2 h5)) (bG (g:=76) rfl rfl (cC a5) (aT (fun _ a2=>eP rfl) (aT (fun _ a2=>bL (v:=zB (!d2)) a5 rfl rfl) (dD (fun k1 h7=>(aA ⟨!d2,a0,b3,b4,rfl,rfl,h7⟩))))))
    ·refine aO c3 rfl (cN (bB (bB ?_)))
     have h8:=c2 _ (zI a0).symm
     subst h8
     have hm:(aDI)=some R:=hm
     exact bS (aA ⟨hm,b5⟩)
 refine cW (C:=fun w'=>aN G K (L) w') bQ (by kernel_rfl) (aN.mono hs (dE.drew _)) (aT (fun _ hs=>aF (v:=cS a1 k2) rfl) (aT (fun _ hs=>eX rfl h3) (aT (fun _ hs=>dC (k':=k2+0) aAR rfl h3 rfl) (aT (fun _ hs=>bP (t:=0) dF hs h3 rfl rfl) ?_))))
 obtain ⟨e4,i0,hm⟩:=aJ hm
 refine iV (vs:=[i64 t.N,i64 1,i64 40]) (v:=zB e4) Tryz.call109 rfl (fun _ hs=>(pO hs i0)) (aT (fun _ hs=>eP rfl) (aT (fun _ hs=>aF (v:=zB (!e4)) rfl) ?_))
 rcases aM hm with ⟨a3,hm⟩|⟨a3,hm⟩
 ·refine aU (g:=11) rfl rfl (cA a3) (aU (g:=11) rfl rfl (cA a3) (aU (g:=11) rfl rfl (cA a3) (aU (g:=11) rfl rfl (cA a3) (aU (g:=11) rfl rfl (cA a3) (aU (g:=11) rfl rfl (cA a3) (aU (g:=11) rfl rfl (cA a3) (aU (g:=11) rfl rfl (cA a3) (aU (g:=11) rfl rfl (cA a3) (aU (g:=11) rfl rfl (cA a3) (aU (g:=11) rfl rfl (cA a3) (aT (fun _ hs=>bH (v:=zB true) a3 rfl rfl) (aT (fun _ hs=>aF (v:=zB true) rfl) (aU (g:=24) rfl rfl (cA (rfl:true=true)) (aU (g:=24) rfl rfl (cA (rfl:true=true)) (aU (g:=24) rfl rfl (cA (rfl:true=true)) (aU (g:=24) rfl rfl (cA (rfl:true=true)) (aU (g:=24) rfl rfl (cA (rfl:true=true)) (aU (g:=24) rfl rfl (cA (rfl:true=true)) (aT (fun _ hs=>bH (v:=zB true) (rfl:true=true) rfl rfl) (aT (fun _ hs=>aF (v:=zB true) rfl) (aU (g:=32) rfl rfl (cA (rfl:true=true)) (aU (g:=32) rfl rfl (cA (rfl:true=true)) (aU (g:=32) rfl rfl (cA (rfl:true=true)) ?_)))))))))))))))))))))))
  exact aU (g:=32) rfl rfl (cA (rfl:true=true)) (aU (g:=32) rfl rfl (cA (rfl:true=true)) (aU (g:=32) rfl rfl (cA (rfl:true=true)) (aT (fun _ hs=>bH (v:=zB true) (rfl:true=true) rfl rfl) (dD (fun k3 i1=>(aA ⟨true,hm,rfl,rfl,i1⟩))))))
 ·refine bG (g:=11) rfl rfl (cC a3) (aT (fun _ hs=>aF (v:=cS a1 k2) rfl) (bG (g:=11) rfl rfl (cC a3) (aT (fun _ hs=>eX rfl h3) (bG (g:=11) rfl rfl (cC a3) (aT (fun _ hs=>dC (k':=k2+1) wV rfl h3 rfl) (bG (g:=11) rfl rfl (cC a3) (aT (fun _ hs=>bP (t:=1) dF hs h3 rfl rfl) (bG (g:=11) rfl rfl (cC a3) (aT (fun _ hs=>aF (v:=cS a1 k2) rfl) (bG (g:=11) rfl rfl (cC a3) (aT (fun _ hs=>eX rfl h3) (bG (g:=11) rfl rfl (cC a3) (aT (fun _ hs=>dC (k':=k2+0) aAR rfl h3 rfl) (bG (g:=11) rfl rfl (cC a3) (aT (fun _ hs=>bP (t:=0) dF hs h3 rfl rfl) (bG (g:=11) rfl rfl (cC a3) (aT (fun _ hs=>hY rfl rfl) (bG (g:=11) rfl rfl (cC a3) ?_))))))))))))))))))
  obtain ⟨d3,i2,hm⟩:=aJ hm
  refine iV (vs:=[i64 t.I,i64 0,i64 (wr (t.N - 1))]) (v:=zB d3) Tryz.call109 rfl (fun _ hs=>(pO hs i2)) (bG (g:=11) rfl rfl (cC a3) (aT (fun _ hs=>eP rfl) (aT (fun _ hs=>bL (v:=zB (!d3)) a3 rfl rfl) (aT (fun _ hs=>aF (v:=zB (!d3)) rfl) ?_))))
  rcases aM hm with ⟨b0,hm⟩|⟨b0,hm⟩
  ·exact aU (g:=24) rfl rfl (cA b0) (aU (g:=24) rfl rfl (cA b0) (aU (g:=24) rfl rfl (cA b0) (aU (g:=24) rfl rfl (cA b0) (aU (g:=24) rfl rfl (cA b0) (aU (g:=24) rfl rfl (cA b0) (aT (fun _ hs=>bH (v:=zB true) b0 rfl rfl) (aT (fun _ hs=>aF (v:=zB true) rfl) (aU (g:=32) rfl rfl (cA (rfl:true=true)) (aU (g:=32) rfl rfl (cA (rfl:true=true)) (aU (g:=32) rfl rfl (cA (rfl:true=true)) (aU (g:=32) rfl rfl (cA (rfl:true=true)) (aU (g:=32) rfl rfl (cA (rfl:true=true)) (aU (g:=32) rfl rfl (cA (rfl:true=true)) (aT (fun _ hs=>bH (v:=zB true) (rfl:true=true) rfl rfl) (dD (fun k4 i3=>(aA ⟨true,hm,rfl,rfl,i3⟩)))))))))))))))))
  ·refine bG (g:=24) rfl rfl (cC b0) (aT (fun _ hs=>aF (v:=cS a1 k2) rfl) (bG (g:=24) rfl rfl (cC b0) (aT (fun _ hs=>eX rfl h3) (bG (g:=24) rfl rfl (cC b0) (aT (fun _ hs=>dC (k':=k2+2) iO rfl h3 rfl) (bG (g:=24) rfl rfl (cC b0) (aT (fun _ hs=>bP (t:=2) jK hs h3 rfl rfl) (bG (g:=24) rfl rfl (cC b0) ?_))))))))
   obtain ⟨d4,i4,hm⟩:=aJ hm
   refine iV (vs:=[zS a4 t.L.length c5]) (v:=zB d4) Tryz.call110 rfl (fun _ hs=>(aIv hs h6 i4)) (bG (g:=24) rfl rfl (cC b0) (aT (fun _ hs=>eP rfl) (aT (fun _ hs=>bL (v:=zB (!d4)) b0 rfl rfl) (aT (fun _ hs=>aF (v:=zB (!d4)) rfl) ?_))))
   rcases aM hm with ⟨b1,hm⟩|⟨b1,hm⟩
   ·exact aU (g:=32) rfl rfl (cA b1) (aU (g:=32) rfl rfl (cA b1) (aU (g:=32) rfl rfl (cA b1) (aU (g:=32) rfl rfl (cA b1) (aU (g:=32) rfl rfl (cA b1) (aU (g:=32) rfl rfl (cA b1) (aT (fun _ hs=>bH (v:=zB true) b1 rfl rfl) (dD (fun k5 i5=>(aA ⟨true,hm,rfl,rfl,i5⟩)))))))))
   ·exact bG (g:=32) rfl rfl (cC b1) (aT (fun _ hs=>aF (v:=cS a1 k2) rfl) (bG (g:=32) rfl rfl (cC b1) (aT (fun _ hs=>eX rfl h3) (bG (g:=32) rfl rfl (cC b1) (aT (fun _ hs=>dC (k':=k2+3) eO rfl h3 rfl) (bG (g:=32) rfl rfl (cC b1) (aT (fun _ hs=>bP (t:=3) jQ hs h3 rfl rfl) (bG (g:=32) rfl rfl (cC b1) (aT (fun _ hs=>bR (len:=t.E.length) cZ rfl) (bG (g:=32) rfl rfl (cC b1) (aT (fun _ hs=>lJ rfl rfl) (aT (fun _ hs=>bL (v:=zB (decide (300 < (t.E.length:Int)))) b1 rfl rfl) (dD (fun k6 i6=>(aA ⟨decide (300 < (t.E.length:Int)),hm,rfl,rfl,i6⟩)))))))))))))))
theorem aHR {t:cH} {k2:Nat} {R:Bool} (hs:aN G K (L) w) (h3:nY K a1 k2 (zC t a4 c5 a7 c8)) (h6:cJ K a4 c5 t.L) (h9:cJ K a7 c8 t.E) (hm:vU t=some R):
  Calls Tryz.prog 63 ([cS a1 k2]:List Value).toArray w (gV fun v w'=>v=zB R∧aN G K (L) w'):=by
 refine aW Tryz.func63 rfl (by kernel_rfl) (by show (1:Nat)≤66;decide) ?_
 unfold vU at hm
 refine aH (aC (aB (aG (v:=zB false) rfl) (aD (aA (aH (aH (aC (aB (aG (v:=i64 0) rfl) (aD (aA (bJ (fun f w=>xB=some R∧aN G K (L) w) ?_ ?_)))))))))))
 ·rintro f e0 ⟨hm,c4⟩
  unfold xB at hm
  refine aA (aH (aC (aB (aG (v:=zB true) rfl) (aD (aA ?_)))))
  cases zI hm
  exact bC (bA Tryz.results63 rfl ⟨rfl,c4⟩)
 obtain ⟨e1,c7,hm⟩:=aJ hm
 refine cP c7 (fun (a8:Int) f w=>f 0=cS a1 k2∧f 3=i64 a8∧aN G K (L) w) ?_ ?_
 ·exact ⟨rfl,rfl,hs⟩
 ·rintro a8 c0 f e2 a5 c1 ⟨b0,a9,a0⟩
  replace a5:oH t a8=some c0:=a5
  unfold oH at a5
  refine aH (aH (aC (aB (aF a9) (aB (aF b0) (aB (eX rfl h3) (aB (dC (k':=k2+3) eO rfl h3 rfl) (aB (bP (t:=3) jQ a0 h3 rfl rfl) (aB (bR (len:=t.E.length) cZ rfl) (aB (cK rfl rfl) (aD (aA ?_)))))))))))
  rcases aM a5 with ⟨b6,a5⟩|⟨b6,a5⟩
  ·refine aQ b6 rfl (aY (aA (aH (cQ (aH (cU (fun f w=>∃ (b7:Bool),lU a8 b7=some c0∧f 0=cS a1 k2∧f 3=i64 a8∧f 65=zB b7∧aN G K (L) w) ?_ ?_))))))
   ·rintro f e3 ⟨b7,a5,c9,d0,c2,c3⟩
    unfold lU at a5
    refine aA ?_
    rcases aM a5 with ⟨b8,a5⟩|⟨b8,a5⟩
    ·refine aQ b8 c2 (aH (aC (aB (aG (v:=zB false) rfl) (aD (aA (bC (bN (aS (aS ?_)))))))))
     have d1:=c1 _ (zI a5).symm
     subst d1
     have hm:(some false)=some R:=hm
     cases zI hm
     exact bN (aS (aS (bA Tryz.results63 rfl ⟨rfl,c3⟩)))
    ·exact aO b8 c2 (aY (bO (aA (aC (aB (aF d0) (aB (cY rfl rfl) (aB (aG (v:=i64 (wr (a8+1))) rfl) (aD (aA ⟨wr (a8+1),(zI a5).symm,c9,rfl,c3⟩)))))))))
   refine cW (C:=fun w'=>aN G K (L) w') bQ (by kernel_rfl) (aN.mono a0 (dE.drew _)) (aT (fun _ a0=>aF b0) (aT (fun _ a0=>eX rfl h3) (aT (fun _ a0=>dC (k':=k2+3) eO rfl h3 rfl) (aT (fun _ a0=>bP (t:=3) jQ a0 h3 rfl rfl) (aT (fun _ a0=>aF a9) ?_)))))
   obtain ⟨b1,b4,a5⟩:=aJ a5
   refine aT (fun _ a0=>cV cZ rfl h9 rfl rfl rfl b4) ?_
   obtain ⟨e4,b2,d3⟩:=cJ.el (sz:=3) rfl h9 b4
   cases d3
   refine aT (fun _ a0=>dC (k':=a8.toNat * 3+1) gO rfl b2 rfl) (aT (fun _ a0=>bP (t:=1) dF a0 b2 rfl rfl) (aT (fun _ a0=>pB rfl rfl) (aT (fun _ a0=>aF (v:=zB (b1.B == 0)) rfl) ?_)))
   rcases aM a5 with ⟨a6,a5⟩|⟨a6,a5⟩
   ·refine aU (g:=22) rfl rfl (cA a6) (aU (g:=22) rfl rfl (cA a6) (aU (g:=22) rfl rfl (cA a6) (bF (g:=25) rfl rfl (bF (g:=25) rfl rfl (bF (g:=25) rfl rfl (bF (g:=25) rfl rfl (bF (g:=25) rfl rfl (bF (g:=25) rfl rfl (bF (g:=25) rfl rfl (bF (g:=25) rfl rfl (bF (g:=25) rfl rfl (bF (g:=25) rfl rfl (bF (g:=25) rfl rfl (bF (g:=25) rfl rfl (bF (g:=25) rfl rfl (bF (g:=25) rfl rfl (bF (g:=25) rfl rfl (bF (g:=25) rfl rfl (bF (g:=25) rfl rfl (bF (g:=25) rfl rfl (aU (g:=22) rfl rfl (cA a6) (aU (g:=22) rfl rfl (cA a6) (bF (g:=45) rfl rfl ?_)))))))))))))))))))))))
    exact bF (g:=45) rfl rfl (bF (g:=45) rfl rfl (bF (g:=45) rfl rfl (bF (g:=45) rfl rfl (bF (g:=45) rfl rfl (bF (g:=45) rfl rfl (bF (g:=45) rfl rfl (bF (g:=45) rfl rfl (bF (g:=45) rfl rfl (bF (g:=45) rfl rfl (bF (g:=45) rfl rfl (bF (g:=45) rfl rfl (bF (g:=45) rfl rfl (bF (g:=45) rfl rfl (bF (g:=45) rfl rfl (bF (g:=45) rfl rfl (bF (g:=45) rfl rfl (aU (g:=22) rfl rfl (cA a6) (aT (fun _ a0=>bH (v:=zB true) a6 rfl rfl) (dD (fun e5 d4=>(aA ⟨true,a5,b0,a9,rfl,d4⟩)))))))))))))))))))))
   ·refine bG (g:=22) rfl rfl (cC a6) (aT (fun _ a0=>aF a9) (bG (g:=22) rfl rfl (cC a6) (aT (fun _ a0=>lJ rfl rfl) (bG (g:=22) rfl rfl (cC a6) (aT (fun _ a0=>aF (v:=zB (decide (0 < a8))) rfl) ?_)))))
    rcases aM a5 with ⟨a2,a5⟩|⟨a2,a5⟩
    ·refine bG (g:=25) rfl rfl a2 (aT (fun _ a0=>aF b0) (bG (g:=25) rfl rfl a2 (aT (fun _ a0=>eX rfl h3) (bG (g:=25) rfl rfl a2 (aT (fun _ a0=>dC (k':=k2+3) eO rfl h3 rfl) (bG (g:=25) rfl rfl a2 (aT (fun _ a0=>bP (t:=3) jQ a0 h3 rfl rfl) (bG (g:=25) rfl rfl a2 (aT (fun _ a0=>aF a9) (bG (g:=25) rfl rfl a2 (aT (fun _ a0=>cV cZ rfl h9 rfl rfl rfl b4) (bG (g:=25) rfl rfl a2 (aT (fun _ a0=>dC (k':=a8.toNat * 3+0) iX rfl b2 rfl) (bG (g:=25) rfl rfl a2 (aT (fun _ a0=>bP (t:=0) dF a0 b2 rfl rfl) (bG (g:=25) rfl rfl a2 (aT (fun _ a0=>aF b0) (bG (g:=25) rfl rfl a2 (aT (fun _ a0=>eX rfl h3) (bG (g:=25) rfl rfl a2 (aT (fun _ a0=>dC (k':=k2+3) eO rfl h3 rfl) (bG (g:=25) rfl rfl a2 (aT (fun _ a0=>bP (t:=3) jQ a0 h3 rfl rfl) ?_)))))))))))))))))))))))
     refine bG (g:=25) rfl rfl a2 (aT (fun _ a0=>aF a9) (bG (g:=25) rfl rfl a2 (aT (fun _ a0=>hY rfl rfl) (bG (g:=25) rfl rfl a2 ?_))))
     obtain ⟨b3,b9,a5⟩:=aJ a5
     refine aT (fun _ a0=>cV cZ rfl h9 rfl rfl rfl b9) ?_
     obtain ⟨e6,b5,d5⟩:=cJ.el (sz:=3) rfl h9 b9
     cases d5
     refine bG (g:=25) rfl rfl a2 (aT (fun _ a0=>dC (k':=(wr (a8 - 1)).toNat * 3+0) iX rfl b5 rfl) (bG (g:=25) rfl rfl a2 (aT (fun _ a0=>bP (t:=0) dF a0 b5 rfl rfl) (bG (g:=25) rfl rfl a2 (aT (fun _ a0=>pB rfl rfl) (bG (g:=22) rfl rfl (cC a6) (aT (fun _ a0=>bH (v:=zB (b1.F == b3.F)) a2 rfl rfl) (bG (g:=22) rfl rfl (cC a6) (aT (fun _ a0=>aF (v:=zB (b1.F == b3.F)) rfl) ?_)))))))))
     rcases aM a5 with ⟨a3,a5⟩|⟨a3,a5⟩
     ·refine bG (g:=45) rfl rfl a3 (aT (fun _ a0=>aF b0) (bG (g:=45) rfl rfl a3 (aT (fun _ a0=>eX rfl h3) (bG (g:=45) rfl rfl a3 (aT (fun _ a0=>dC (k':=k2+3) eO rfl h3 rfl) (bG (g:=45) rfl rfl a3 (aT (fun _ a0=>bP (t:=3) jQ a0 h3 rfl rfl) (bG (g:=45) rfl rfl a3 (aT (fun _ a0=>aF a9) (bG (g:=45) rfl rfl a3 (aT (fun _ a0=>cV cZ rfl h9 rfl rfl rfl b4) (bG (g:=45) rfl rfl a3 (aT (fun _ a0=>dC (k':=a8.toNat * 3+1) gO rfl b2 rfl) (bG (g:=45) rfl rfl a3 (aT (fun _ a0=>bP (t:=1) dF a0 b2 rfl rfl) (bG (g:=45) rfl rfl a3 (aT (fun _ a0=>aF b0) (bG (g:=45) rfl rfl a3 (aT (fun _ a0=>eX rfl h3) (bG (g:=45) rfl rfl a3 (aT (fun _ a0=>dC (k':=k2+3) eO rfl h3 rfl) (bG (g:=45) rfl rfl a3 (aT (fun _ a0=>bP (t:=3) jQ a0 h3 rfl rfl) ?_)))))))))))))))))))))))
      exact bG (g:=45) rfl rfl a3 (aT (fun _ a0=>aF a9) (bG (g:=45) rfl rfl a3 (aT (fun _ a0=>hY rfl rfl) (bG (g:=45) rfl rfl a3 (aT (fun _ a0=>cV cZ rfl h9 rfl rfl rfl b9) (bG (g:=45) rfl rfl a3 (aT (fun _ a0=>dC (k':=(wr (a8 - 1)).toNat * 3+1) gO rfl b5 rfl) (bG (g:=45) rfl rfl a3 (aT (fun _ a0=>bP (t:=1) dF a0 b5 rfl rfl) (bG (g:=45) rfl rfl a3 (aT (fun _ a0=>pB rfl rfl) (bG (g:=22) rfl rfl (cC a6) (aT (fun _ a0=>bH (v:=zB (b1.B == b3.B)) a3 rfl rfl) (aT (fun _ a0=>bL (v:=zB (b1.B == b3.B)) a6 rfl rfl) (dD (fun e7 d6=>(aA ⟨b1.B == b3.B,a5,b0,a9,rfl,d6⟩)))))))))))))))))
     ·refine aU (g:=45) rfl rfl (bU a3) (aU (g:=45) rfl rfl (bU a3) (aU (g:=45) rfl rfl (bU a3) (aU (g:=45) rfl rfl (bU a3) (aU (g:=45) rfl rfl (bU a3) (aU (g:=45) rfl rfl (bU a3) (aU (g:=45) rfl rfl (bU a3) (aU (g:=45) rfl rfl (bU a3) (aU (g:=45) rfl rfl (bU a3) (aU (g:=45) rfl rfl (bU a3) (aU (g:=45) rfl rfl (bU a3) (aU (g:=45) rfl rfl (bU a3) (aU (g:=45) rfl rfl (bU a3) (aU (g:=45) rfl rfl (bU a3) (aU (g:=45) rfl rfl (bU a3) (aU (g:=45) rfl rfl (bU a3) (aU (g:=45) rfl rfl (bU a3) (aU (g:=45) rfl rfl (bU a3) (bG (g:=22) rfl rfl (cC a6) (aT (fun _ a0=>bL (v:=zB false) a3 rfl rfl) (aT (fun _ a0=>bL (v:=zB false) a6 rfl rfl) (dD (fun e8 d7=>(aA ?_)))))))))))))))))))))))
      exact ⟨false,a5,b0,a9,rfl,d7⟩
    ·refine aU (g:=25) rfl rfl (bU a2) (aU (g:=25) rfl rfl (bU a2) (aU (g:=25) rfl rfl (bU a2) (aU (g:=25) rfl rfl (bU a2) (aU (g:=25) rfl rfl (bU a2) (aU (g:=25) rfl rfl (bU a2) (aU (g:=25) rfl rfl (bU a2) (aU (g:=25) rfl rfl (bU a2) (aU (g:=25) rfl rfl (bU a2) (aU (g:=25) rfl rfl (bU a2) (aU (g:=25) rfl rfl (bU a2) (aU (g:=25) rfl rfl (bU a2) (aU (g:=25) rfl rfl (bU a2) (aU (g:=25) rfl rfl (bU a2) (aU (g:=25) rfl rfl (bU a2) (aU (g:=25) rfl rfl (bU a2) (aU (g:=25) rfl rfl (bU a2) (aU (g:=25) rfl rfl (bU a2) (bG (g:=22) rfl rfl (cC a6) (aT (fun _ a0=>bL (v:=zB false) a2 rfl rfl) (bG (g:=22) rfl rfl (cC a6) (aT (fun _ a0=>aF (v:=zB false) rfl) (aU (g:=45) rfl rfl (bU (by decide:¬ false=true)) (aU (g:=45) rfl rfl (bU (by decide:¬ false=true)) ?_)))))))))))))))))))))))
     exact aU (g:=45) rfl rfl (bU (by decide:¬ false=true)) (aU (g:=45) rfl rfl (bU (by decide:¬ false=true)) (aU (g:=45) rfl rfl (bU (by decide:¬ false=true)) (aU (g:=45) rfl rfl (bU (by decide:¬ false=true)) (aU (g:=45) rfl rfl (bU (by decide:¬ false=true)) (aU (g:=45) rfl rfl (bU (by decide:¬ false=true)) (aU (g:=45) rfl rfl (bU (by decide:¬ false=true)) (aU (g:=45) rfl rfl (bU (by decide:¬ false=true)) (aU (g:=45) rfl rfl (bU (by decide:¬ false=true)) (aU (g:=45) rfl rfl (bU (by decide:¬ false=true)) (aU (g:=45) rfl rfl (bU (by decide:¬ false=true)) (aU (g:=45) rfl rfl (bU (by decide:¬ false=true)) (aU (g:=45) rfl rfl (bU (by decide:¬ false=true)) (aU (g:=45) rfl rfl (bU (by decide:¬ false=true)) (aU (g:=45) rfl rfl (bU (by decide:¬ false=true)) (aU (g:=45) rfl rfl (bU (by decide:¬ false=true)) (bG (g:=22) rfl rfl (cC a6) (aT (fun _ a0=>bL (v:=zB false) (by decide:¬ false=true) rfl rfl) (aT (fun _ a0=>bL (v:=zB false) a6 rfl rfl) (dD (fun e9 d8=>(aA ⟨false,a5,b0,a9,rfl,d8⟩)))))))))))))))))))))
  ·refine aO b6 rfl (cN (bB (bB ?_)))
   have d9:=c1 _ (zI a5).symm
   subst d9
   have hm:(xB)=some R:=hm
   exact bS (aA ⟨hm,a0⟩)
end Gv
