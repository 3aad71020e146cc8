/- Walks, printed by program. -/
import Derived.Test.YtnpdckpkipjngaaGreatDoorKLWa
import Derived.Test.YtnpdckpkipjngaaGreatDoorKMd
set_option linter.all false
namespace Gv
open Go.Value renaming slice→zS,bool→zB
open Option.some renaming inj→zI
open Go Go.Proofs
set_option maxRecDepth 20000
set_option maxHeartbeats 40000000
variable {G:Env} {K:Hp} {L:List nD} {w:World} {a1 a4:Option Addr} {c2 c5:Nat}
theorem aFc {a:aZ} {b:aZ} {R:Int} (hs:aN G K (L) w)  (hm:vB a b=some R):
  Calls Tryz.prog 80 ([cR a,cR b]:List Value).toArray w (gV fun v w'=>v=i64 R∧aN G K (L) w'):=by
 refine aW Tryz.func80 rfl (by kernel_rfl) (by show (2:Nat)≤18;decide) ?_
 unfold vB at hm
 refine aH (aC (aB (aG (v:=i64 0) rfl) (aD (aA (aH (cQ (aH (aC (aB (aF (v:=cR a) rfl) (aB (aF (v:=cR b) rfl) (aB (aAJ rfl rfl) (aB (aG (v:=zB (a == b)) rfl) (aD (aA ?_))))))))))))))
 rcases aM hm with ⟨c1,hm⟩|⟨c1,hm⟩
 ·refine aQ c1 rfl (aH (aC (aB (aG (v:=i64 0) rfl) (aD (aA ?_)))))
  cases zI hm
  exact bC (bN (aS (bA Tryz.results80 rfl ⟨rfl,hs⟩)))
 ·refine aO c1 rfl (aH (aC (aB (aF (v:=cR a) rfl) (aB (aAJ rfl rfl) (aB (aG (v:=zB (a == ([116,97,117]:aZ))) rfl) (aD (aA ?_)))))))
  rcases aM hm with ⟨c3,hm⟩|⟨c3,hm⟩
  ·refine aQ c3 rfl (aH (aC (aB (aG (v:=i64 (-1)) rfl) (aD (aA ?_)))))
   cases zI hm
   exact bC (bN (aS (bA Tryz.results80 rfl ⟨rfl,hs⟩)))
  ·refine aO c3 rfl (aH (aC (aB (aF (v:=cR b) rfl) (aB (aAJ rfl rfl) (aB (aG (v:=zB (b == ([116,97,117]:aZ))) rfl) (aD (aA ?_)))))))
   rcases aM hm with ⟨c5,hm⟩|⟨c5,hm⟩
   ·refine aQ c5 rfl (aH (aC (aB (aG (v:=i64 1) rfl) (aD (aA ?_)))))
    cases zI hm
    exact bC (bN (aS (bA Tryz.results80 rfl ⟨rfl,hs⟩)))
   ·refine aO c5 rfl (aY (bO (aA (aH (aC (aB (aF (v:=cR a) rfl) (aB (aF (v:=cR b) rfl) ?_)))))))
    obtain ⟨r7,q8,hm⟩:=aJ hm
    refine aX (vs:=[cR a,cR b]) Tryz.call124 rfl (aNf hs q8) ?_
    rintro _ w9 ⟨rfl,a8⟩
    refine aB (aG (v:=i64 r7) rfl) (aD (aA ?_))
    cases zI hm
    exact bC (bA Tryz.results80 rfl ⟨rfl,a8⟩)
theorem wM {x_:Int} {R:Bool} (hs:aN G K (L) w)  (hm:jR x_=some R):
  Calls Tryz.prog 157 ([i64 x_]:List Value).toArray w (gV fun v w'=>v=zB R∧aN G K (L) w'):=by
 refine aW Tryz.func157 rfl (by kernel_rfl) (by show (1:Nat)≤6;decide) ?_
 unfold jR at hm
 refine aH (aC (aB (aG (v:=zB false) rfl) (aD (aA (aH (aC (aB (aF (v:=i64 x_) rfl) (aB (aF (v:=i64 x_) rfl) (aB (mO rfl rfl) (aB (aG (v:=zB (x_ != x_)) rfl) (aD (aA ?_))))))))))))
 cases zI hm
 exact bC (bA Tryz.results157 rfl ⟨rfl,hs⟩)
theorem jP {x_:Int} {y:Int} {R:Int} (hs:aN G K (L) w)  (hm:eN x_ y=some R):
  Calls Tryz.prog 119 ([i64 x_,i64 y]:List Value).toArray w (gV fun v w'=>v=i64 R∧aN G K (L) w'):=by
 refine aW Tryz.func119 rfl (by kernel_rfl) (by show (2:Nat)≤20;decide) ?_
 unfold eN at hm
 refine aH (aC (aB (aG (v:=i64 0) rfl) (aD (aA (aH (aC (aB (aF (v:=i64 x_) rfl) ?_)))))))
 obtain ⟨r1,q2,hm⟩:=aJ hm
 refine aX (vs:=[i64 x_]) Tryz.call157 rfl (wM hs q2) ?_
 rintro _ w3 ⟨rfl,a9⟩
 refine aB (aG (v:=zB r1) rfl) (aD (aA (aH (aC (aB (aF (v:=i64 y) rfl) ?_)))))
 obtain ⟨r5,q6,hm⟩:=aJ hm
 refine aX (vs:=[i64 y]) Tryz.call157 rfl (wM a9 q6) ?_
 rintro _ w7 ⟨rfl,a0⟩
 refine aB (aG (v:=zB r5) rfl) (aD (aA (aH (aH (aC (aB (aF (v:=zB r1) rfl) (aD (aA ?_))))))))
 rcases aM hm with ⟨c9,hm⟩|⟨c9,hm⟩
 ·refine aQ c9 rfl (aH (aH (aC (aB (aF (v:=zB r5) rfl) (aD (aA ?_))))))
  rcases aM hm with ⟨a3,hm⟩|⟨a3,hm⟩
  ·refine aQ a3 rfl (aH (aC (aB (aG (v:=i64 0) rfl) (aD (aA ?_)))))
   cases zI hm
   exact bC (aS (aS (bA Tryz.results119 rfl ⟨rfl,a0⟩)))
  ·refine aO a3 rfl (aY (aA (aH (aC (aB (aG (v:=i64 (-1)) rfl) (aD (aA ?_)))))))
   cases zI hm
   exact bC (aS (bA Tryz.results119 rfl ⟨rfl,a0⟩))
 ·refine aO c9 rfl (aY (aA (aH (aH (aC (aB (aF (v:=zB r5) rfl) (aD (aA ?_))))))))
  rcases aM hm with ⟨a4,hm⟩|⟨a4,hm⟩
  ·refine aQ a4 rfl (aH (aC (aB (aG (v:=i64 1) rfl) (aD (aA ?_)))))
   cases zI hm
   exact bC (aS (bA Tryz.results119 rfl ⟨rfl,a0⟩))
  ·refine aO a4 rfl (aY (aA (aH (aH (aC (aB (aF (v:=i64 x_) rfl) (aB (aF (v:=i64 y) rfl) (aB (cK rfl rfl) (aD (aA ?_))))))))))
   rcases aM hm with ⟨a5,hm⟩|⟨a5,hm⟩
   ·refine aQ a5 rfl (aH (aC (aB (aG (v:=i64 (-1)) rfl) (aD (aA ?_)))))
    cases zI hm
    exact bC (aS (bA Tryz.results119 rfl ⟨rfl,a0⟩))
   ·refine aO a5 rfl (aY (aA (aH (aH (aC (aB (aF (v:=i64 x_) rfl) (aB (aF (v:=i64 y) rfl) (aB (lJ rfl rfl) (aD (aA ?_))))))))))
    rcases aM hm with ⟨a6,hm⟩|⟨a6,hm⟩
    ·refine aQ a6 rfl (aH (aC (aB (aG (v:=i64 1) rfl) (aD (aA ?_)))))
     cases zI hm
     exact bC (aS (bA Tryz.results119 rfl ⟨rfl,a0⟩))
    ·refine aO a6 rfl (aY (aA (aH (aC (aB (aG (v:=i64 0) rfl) (aD (aA ?_)))))))
     cases zI hm
     exact bC (bA Tryz.results119 rfl ⟨rfl,a0⟩)
theorem aGp {vals:(List Int)} {R:Int} (hs:aN G K (L) w) (h3:cJ K a1 c2 vals) (hm:uL vals=some R):
  Calls Tryz.prog 118 ([zS a1 vals.length c2]:List Value).toArray w (gV fun v w'=>v=i64 R∧aN G K (L) w'):=by
 refine aW Tryz.func118 rfl (by kernel_rfl) (by show (1:Nat)≤18;decide) ?_
 unfold uL at hm
 refine aH (aC (aB (aG (v:=i64 0) rfl) (aD (aA (aH (aC (aB (aG (v:=i64 0) rfl) (aD (aA (aH (aH (aC (aB (aF (v:=zS a1 vals.length c2) rfl) (aB (bR (len:=vals.length) sl_199 rfl) (aB (aF (v:=i64 0) rfl) (aD (aA (bJ (fun f w=>oK=some R∧f 3=i64 0∧aN G K (L) w) ?_ ?_))))))))))))))))))
 ·rintro f w5 ⟨hm,e4,b4⟩
  unfold oK at hm
  refine aA (aH (aC (aB (aF e4) (aB (aG (v:=i64 0) rfl) (aD (aA ?_))))))
  cases zI hm
  exact bC (bA Tryz.results118 rfl ⟨rfl,b4⟩)
 obtain ⟨c5,b6,hm⟩:=aJ hm
 refine cP b6 (fun (a2:Int) f w=>f 3=i64 0∧f 6=zS a1 vals.length c2∧f 7=i64 (vals.length:Int)∧f 8=i64 a2∧aN G K (L) w) ?_ ?_
 ·exact ⟨rfl,rfl,rfl,rfl,hs⟩
 ·rintro a2 b7 f c6 a0 a9 ⟨a5,b0,b1,a6,a4⟩
  replace a0:gD vals a2=some b7:=a0
  unfold gD at a0
  refine aH (aC (aB (cK a6 b1) (aD (aA (aH ?_)))))
  rcases aM a0 with ⟨a7,a0⟩|⟨a7,a0⟩
  ·refine aQ a7 rfl (aY (aA (aH (cQ (aH (aC ?_))))))
   obtain ⟨a3,b2,a0⟩:=aJ a0
   refine aB (cV sl_199 rfl h3 b0 rfl a6 b2) ?_
   obtain ⟨c7,b8,b9⟩:=cJ.el (sz:=1) rfl h3 b2
   cases b9
   refine aB (bP (t:=0) sc_3 a4 b8 rfl rfl) (aB (aG (v:=i64 a3) rfl) (aD (aA (aH (aC (aB (aF (v:=i64 a3) rfl) (aB (aF a5) (aB (mO rfl rfl) (aD (aA ?_))))))))))
   rcases aM a0 with ⟨a8,a0⟩|⟨a8,a0⟩
   ·refine aQ a8 rfl (aH (aC (aB (aF (v:=i64 a3) rfl) (aB (aG (v:=i64 a3) rfl) (aD (aA (bC (bN (aS (aS ?_))))))))))
    have c0:=a9 _ (zI a0).symm
    subst c0
    have hm:(some a3)=some R:=hm
    cases zI hm
    exact bN (aS (aS (bA Tryz.results118 rfl ⟨rfl,a4⟩)))
   ·exact aO a8 rfl (aY (bO (aA (aC (aB (cY a6 rfl) (aB (aF (v:=i64 (wr (a2+1))) rfl) (aD (aA ⟨wr (a2+1),(zI a0).symm,a5,b0,b1,rfl,a4⟩))))))))
  ·refine aO a7 rfl (cN (bB (bB ?_)))
   have c3:=a9 _ (zI a0).symm
   subst c3
   have hm:(oK)=some R:=hm
   exact bS (aA ⟨hm,a5,a4⟩)
theorem aAQ {a:Edge} {b:Edge} {R:Int} (hs:aN G K (L) w)  (hm:rY a b=some R):
  Calls Tryz.prog 77 ([Value.agg #[i64 a.F,i64 a.B,i64 a.To],Value.agg #[i64 b.F,i64 b.B,i64 b.To]]:List Value).toArray w (gV fun v w'=>v=i64 R∧aN G K (L) w'):=by
 refine aW Tryz.func77 rfl (by kernel_rfl) (by show (2:Nat)≤22;decide) ?_
 unfold rY at hm
 refine aH (aC (fC (v:=Value.agg #[i64 a.F,i64 a.B,i64 a.To]) (vs:=[i64 a.F,i64 a.B,i64 a.To]) hs rfl rfl (fun b1 w2 b5=>(fC (v:=Value.agg #[i64 b.F,i64 b.B,i64 b.To]) (vs:=[i64 b.F,i64 b.B,i64 b.To]) b5 rfl rfl (fun b4 w5 b6=>(aB (aG (v:=i64 0) rfl) (aD (aA (aH ?_)))))))))
 obtain ⟨K7,b7,a5,b8,b9⟩:=aN.lendB (i:=0) b6 rfl
 obtain ⟨a7,a4,a6,a8,c0⟩:=aN.lendB (i:=0) b8 rfl
 refine hJ (C:=fun w'=>∃ L',aN G a7 L' w') [(0,0),(1,0),(2,0),(3,0),(5,0),(6,0),(7,0),(8,0),(10,0),(11,0),(12,0),(13,0),(4,1),(9,1),(14,1),(15,1),(16,1),(17,0)] bQ (by kernel_rfl) (fun _ hg=>⟨_,aN.mono a8 hg⟩) (fun e0 c1=>?_)
 have a0:=aN.mono a8 c1
 refine cD rfl (fun _ _=>bD (t':=0) iX rfl rfl) (cD rfl (fun _ ⟨_,a0⟩=>bP (t:=0) dF a0 a6 rfl rfl) (cD rfl (fun _ _=>bD (t':=0) iX rfl rfl) (cD rfl (fun _ ⟨_,a0⟩=>bP (t:=0) dF a0 (a5.mono a4) rfl rfl) (cD rfl (fun _ _=>bD (t':=1) gO rfl rfl) (cD rfl (fun _ ⟨_,a0⟩=>bP (t:=1) dF a0 a6 rfl rfl) (cD rfl (fun _ _=>bD (t':=1) gO rfl rfl) (cD rfl (fun _ ⟨_,a0⟩=>bP (t:=1) dF a0 (a5.mono a4) rfl rfl) (cD rfl (fun _ _=>bD (t':=2) lY rfl rfl) (cD rfl (fun _ ⟨_,a0⟩=>bP (t:=2) dF a0 a6 rfl rfl) (cD rfl (fun _ _=>bD (t':=2) lY rfl rfl) (cD rfl (fun _ ⟨_,a0⟩=>bP (t:=2) dF a0 (a5.mono a4) rfl rfl) (nZ rfl ?_))))))))))))
 obtain ⟨a1,c2,hm⟩:=aJ hm
 refine aX (vs:=[i64 a.F,i64 b.F]) Tryz.call119 rfl (jP a0 c2) ?_
 rintro _ e1 ⟨rfl,a9⟩
 refine aD (aA ⟨⟨_,a9⟩,?_⟩)
 refine nZ rfl ?_
 obtain ⟨a2,c3,hm⟩:=aJ hm
 refine aX (vs:=[i64 a.B,i64 b.B]) Tryz.call119 rfl (jP a9 c3) ?_
 rintro _ e2 ⟨rfl,b0⟩
 refine aD (aA ⟨⟨_,b0⟩,?_⟩)
 refine nZ rfl ?_
 obtain ⟨a3,c4,hm⟩:=aJ hm
 refine aX (vs:=[i64 a.To,i64 b.To]) Tryz.call119 rfl (jP b0 c4) ?_
 rintro _ e3 ⟨rfl,hs32⟩
 refine aD (aA ⟨⟨_,hs32⟩,?_⟩)
 refine nZ rfl (dA (Kt:=K) (xs:=([a1,a2,a3]:List Int)) (cs:=[i64 a1,i64 a2,i64 a3]) (vs:=[(0,i64 a1),(1,i64 a2),(2,i64 a3)]) sl_199 ez_3 rfl rfl hs32 rfl (by kernel_rfl) rfl rfl rfl ⟨rfl,rfl,rfl,trivial⟩ (fun b2 c5 (b3:aN G a7 (aK 3 K b2 3 ([a1,a2,a3]:List Int)::L) c5)=>(aD (aA ⟨⟨_,b3⟩,?_⟩))))
 refine nZ rfl ?_
 obtain ⟨e4,e5,c6,c7,c8⟩:=aN.lendS (i:=0) b3 (Hp.le_trans b7 a4) rfl
 obtain ⟨c9,d0,hm⟩:=aJ hm
 refine aX (vs:=[zS b2 ([a1,a2,a3]:List Int).length 3]) Tryz.call118 rfl (aGp c7 c6 d0) ?_
 rintro _ e6 ⟨rfl,d1⟩
 have hs45:=c8 _ _ d1
 refine aD (aA ⟨⟨_,hs45⟩,?_⟩)
 refine cD rfl (fun _ _=>aG (v:=i64 c9) rfl) (qQ ?_)
 have d2:=c0 _ _ hs45
 have d3:=b9 _ _ d2
 refine aA ?_
 cases zI hm
 exact bC (bA Tryz.results77 rfl ⟨rfl,(aN.arr 3 [] d3 rfl)⟩)
theorem lC {s1_:(List Int)} {s2_:(List Int)} {R:Int} (hs:aN G K (L) w) (h3:cJ K a1 c2 s1_) (h6:cJ K a4 c5 s2_) (hm:gS s1_ s2_=some R):
  Calls Tryz.prog 103 ([zS a1 s1_.length c2,zS a4 s2_.length c5]:List Value).toArray w (gV fun v w'=>v=i64 R∧aN G K (L) w'):=by
 refine aW Tryz.func103 rfl (by kernel_rfl) (by show (2:Nat)≤36;decide) ?_
 unfold gS at hm
 refine aH (aC (aB (aG (v:=i64 0) rfl) (aD (aA (aH (aH (aC (aB (aF (v:=zS a1 s1_.length c2) rfl) (aB (bR (len:=s1_.length) cG rfl) (aB (aF (v:=i64 0) rfl) (aD (aA (bJ (fun f w=>dS s1_ s2_=some R∧f 0=zS a1 s1_.length c2∧f 1=zS a4 s2_.length c5∧aN G K (L) w) ?_ ?_)))))))))))))
 ·rintro f w9 ⟨hm,e7,e8,b4⟩
  unfold dS at hm
  refine aA (aH (aH (aC (aB (aF e7) (aB (bR (len:=s1_.length) cG rfl) (aB (aF e8) (aB (bR (len:=s2_.length) cG rfl) (aB (cK rfl rfl) (aD (aA ?_))))))))))
  rcases aM hm with ⟨a8,hm⟩|⟨a8,hm⟩
  ·refine aQ a8 rfl (aH (aC (aB (aG (v:=i64 (-1)) rfl) (aD (aA ?_)))))
   cases zI hm
   exact bC (aS (bA Tryz.results103 rfl ⟨rfl,b4⟩))
  ·refine aO a8 rfl (aY (aA (aH (aC (aB (aG (v:=i64 0) rfl) (aD (aA ?_)))))))
   cases zI hm
   exact bC (bA Tryz.results103 rfl ⟨rfl,b4⟩)
 obtain ⟨e0,c7,hm⟩:=aJ hm
 refine cP c7 (fun (a2:Int) f w=>f 0=zS a1 s1_.length c2∧f 1=zS a4 s2_.length c5∧f 9=zS a1 s1_.length c2∧f 10=i64 (s1_.length:Int)∧f 11=i64 a2∧aN G K (L) w) ?_ ?_
 ·exact ⟨rfl,rfl,rfl,rfl,rfl,hs⟩
 ·rintro a2 c8 f e1 a0 a9 ⟨b5,a6,b6,b7,a7,a3⟩
  replace a0:cF s1_ s2_ a2=some c8:=a0
  unfold cF at a0
  refine aH (aC (aB (cK a7 b7) (aD (aA (aH ?_)))))
  rcases aM a0 with ⟨c48,a0⟩|⟨c48,a0⟩
  ·refine aQ c48 rfl (aY (aA (aH (cQ (aH (aC (aB (aF a7) ?_)))))))
   obtain ⟨b0,b8,a0⟩:=aJ a0
   refine aB (cV cG rfl h3 b6 rfl a7 b8) ?_
   obtain ⟨e2,c9,d0⟩:=cJ.el (sz:=1) rfl h3 b8
   cases d0
   refine aB (bP (t:=0) dF a3 c9 rfl rfl) (aB (aG (v:=i64 a2) rfl) (aB (aG (v:=i64 b0) rfl) (aD (aA (aH (aH (aC (aB (aF (v:=i64 a2) rfl) (aB (aF a6) (aB (bR (len:=s2_.length) cG rfl) (aB (yL rfl rfl) (aD (aA ?_)))))))))))))
   rcases aM a0 with ⟨b1,a0⟩|⟨b1,a0⟩
   ·refine aQ b1 rfl (aH (aC (aB (aG (v:=i64 1) rfl) (aD (aA (bC (aS (bN (aS (aS ?_))))))))))
    have d1:=a9 _ (zI a0).symm
    subst d1
    have hm:(some 1)=some R:=hm
    cases zI hm
    exact bN (aS (aS (bA Tryz.results103 rfl ⟨rfl,a3⟩)))
   ·refine aO b1 rfl (aY (aA (aH (aC (aB (aF a6) (aB (aF (v:=i64 a2) rfl) ?_))))))
    obtain ⟨b2,b9,a0⟩:=aJ a0
    refine aB (cV cG rfl h6 rfl rfl rfl b9) ?_
    obtain ⟨e3,d3,d4⟩:=cJ.el (sz:=1) rfl h6 b9
    cases d4
    refine aB (bP (t:=0) dF a3 d3 rfl rfl) (aB (aG (v:=i64 b2) rfl) (aD (aA (aH (aC (aB (aF (v:=i64 b0) rfl) (aB (aF (v:=i64 b2) rfl) ?_)))))))
    obtain ⟨a5,d5,a0⟩:=aJ a0
    refine aX (vs:=[i64 b0,i64 b2]) Tryz.call119 rfl (jP a3 d5) ?_
    rintro _ e4 ⟨rfl,c0⟩
    refine aB (aG (v:=i64 a5) rfl) (aD (aA (aH (aC (aB (aF (v:=i64 a5) rfl) (aB (mO rfl rfl) (aD (aA ?_))))))))
    rcases aM a0 with ⟨b3,a0⟩|⟨b3,a0⟩
    ·refine aQ b3 rfl (aH (aC (aB (aF (v:=i64 a5) rfl) (aB (aG (v:=i64 a5) rfl) (aD (aA (bC (bN (aS (aS ?_))))))))))
     have d6:=a9 _ (zI a0).symm
     subst d6
     have hm:(some a5)=some R:=hm
     cases zI hm
     exact bN (aS (aS (bA Tryz.results103 rfl ⟨rfl,c0⟩)))
    ·exact aO b3 rfl (aY (bO (aA (aC (aB (cY a7 rfl) (aB (aF (v:=i64 (wr (a2+1))) rfl) (aD (aA ⟨wr (a2+1),(zI a0).symm,b5,a6,b6,b7,rfl,c0⟩))))))))
  ·refine aO c48 rfl (cN (bB (bB ?_)))
   have d8:=a9 _ (zI a0).symm
   subst d8
   have hm:(dS s1_ s2_)=some R:=hm
   exact bS (aA ⟨hm,b5,a6,a3⟩)
end Gv
