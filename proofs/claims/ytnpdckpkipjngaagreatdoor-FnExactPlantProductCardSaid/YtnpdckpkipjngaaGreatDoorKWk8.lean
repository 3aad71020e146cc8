/- Walks, printed by program. -/
import Derived.Test.YtnpdckpkipjngaaGreatDoorKWk1
import Derived.Test.YtnpdckpkipjngaaGreatDoorKWk3
import Derived.Test.YtnpdckpkipjngaaGreatDoorKWk7
set_option linter.all false
namespace Gv
open Go.Value renaming slice→zS,bool→zB,agg→zA
open Option.some renaming inj→zI
open Go Go.Proofs
set_option maxRecDepth 20000
set_option maxHeartbeats 40000000
variable {G:Env} {K:Hp} {L:List nD} {w:World} {a1 a3 a4 a7 a10 a13:Option Addr} {c2 c4 c5 c8 c11 c14:Nat}
theorem aBO {a:(List aZ)} {k:Int} {R:(Int × (List aZ))} (hs:aN G K (aK 9 K a1 c2 a::L) w)  (hm:nM a k=some R):
  Calls Tryz.prog 15 ([zS a1 a.length c2,i64 k]:List Value).toArray w (gV fun v w'=>v=i64 R.1∧a.length=R.2.length∧aN G K (aK 9 K a1 c2 R.2::L) w'):=by
 refine aW Tryz.func15 rfl (by kernel_rfl) (by show (2:Nat)≤20;decide) ?_
 unfold nM at hm
 refine aH (aC (aB (aG (v:=i64 0) rfl) (aD (aA (aH (aH (aC (aB (aG (v:=i64 0) rfl) (aD (aA (bJ (fun f w=>∃ (k3:Int) (a4:List aZ),oP k3 a4=some R∧f 1=i64 k3∧a.length=a4.length∧aN G K (aK 9 K a1 c2 a4::L) w) ?_ ?_)))))))))))
 ·rintro f w7 ⟨k3,a4,hm,e6,b8,b9⟩
  unfold oP at hm
  refine aA (aH (aC (aB (aF e6) (aB (aG (v:=i64 k3) rfl) (aD (aA ?_))))))
  cases zI hm
  exact bC (bA Tryz.results15 rfl ⟨rfl,b8,b9⟩)
 obtain ⟨d1,c1,hm⟩:=aJ hm
 refine cP c1 (fun (s:(List aZ × Int × Int)) f w=>match s with|(a2,a3,i27)=>f 0=zS a1 a2.length c2∧f 1=i64 a3∧f 5=i64 i27∧a.length=a2.length∧aN G K (aK 9 K a1 c2 a2::L) w) ?_ ?_
 ·exact ⟨rfl,rfl,rfl,rfl,hs⟩
 ·rintro ⟨a2,a3,i27⟩ c3 f d2 a0 c4 ⟨a7,a8,a9,b2,b3⟩
  replace a0:oQ a2 a3 i27=some c3:=a0
  unfold oQ at a0
  refine aH (aH (aC (aB (aF a9) (aB (aF a7) (aB (bR (len:=a2.length) cE rfl) (aB (cK rfl rfl) (aD (aA ?_))))))))
  rcases aM a0 with ⟨c45,a0⟩|⟨c45,a0⟩
  ·refine aQ c45 rfl (aY (aA (aH (cQ (aH (aC (aB (aF a7) (aB (aF a9) (aB (aF a8) ?_)))))))))
   obtain ⟨b4,c5,a0⟩:=aJ a0
   refine aX (vs:=[i64 a3]) Tryz.call41 rfl (aEx b3 c5) ?_
   rintro _ d3 ⟨rfl,b5⟩
   obtain ⟨d4,b0,a0⟩:=aJ a0
   have c6:=dH b5 (i:=0) rfl b0
   refine aB (eY cE rfl c6 rfl rfl rfl b0) ?_
   obtain ⟨b6,b1,a0⟩:=aJ a0
   exact rO (i:=0) (t:=0) (ns:=[cR b4]) (e':=(b4:aZ)) Tryz.sizeOf9 b5 rfl (Hp.le_refl _) rfl rfl rfl b0 b1 rfl rfl (eD rfl) rfl (fun cs h=>by cases h;rfl) (fun c7 (c8:aN G K (aK 9 K a1 c2 b6::L) c7)=>(aD (aA (aC (aB (aF a8) (aB (cY rfl rfl) (aB (aG (v:=i64 (wr (a3+1))) rfl) (aD (bO (aA (aC (aB (aF a9) (aB (cY rfl rfl) (aB (aG (v:=i64 (wr (i27+1))) rfl) (aD (aA ⟨(b6,wr (a3+1),wr (i27+1)),(zI a0).symm,(Eq.trans a7 (congrArg (fun n=>zS a1 n c2) (jM b1))),rfl,rfl,(b2.trans (jM b1)),c8⟩))))))))))))))))
  ·refine aO c45 rfl (cN (bB (bB ?_)))
   have c9:=c4 _ (zI a0).symm
   subst c9
   have hm:(oP a3 a2)=some R:=hm
   exact bS (aA ⟨a3,a2,hm,a8,b2,b3⟩)
theorem aHU {a:(List Edge)} {k:Int} {R:(Int × (List Edge))} (hs:aN G K (aK 63 K a1 c2 a::L) w)  (hm:aAz a k=some R):
  Calls Tryz.prog 40 ([zS a1 a.length c2,i64 k]:List Value).toArray w (gV fun v w'=>v=i64 R.1∧a.length=R.2.length∧aN G K (aK 63 K a1 c2 R.2::L) w'):=by
 refine aW Tryz.func40 rfl (by kernel_rfl) (by show (2:Nat)≤34;decide) ?_
 unfold aAz at hm
 refine aH (aC (aB (aG (v:=i64 0) rfl) (aD (aA (aH (aH (aC (aB (aG (v:=i64 0) rfl) (aD (aA (bJ (fun f w=>∃ (k3:Int) (a4:List Edge),sF k3 a4=some R∧f 1=i64 k3∧a.length=a4.length∧aN G K (aK 63 K a1 c2 a4::L) w) ?_ ?_)))))))))))
 ·rintro f w7 ⟨k3,a4,hm,e6,c7,c8⟩
  unfold sF at hm
  refine aA (aH (aC (aB (aF e6) (aB (aG (v:=i64 k3) rfl) (aD (aA ?_))))))
  cases zI hm
  exact bC (bA Tryz.results40 rfl ⟨rfl,c7,c8⟩)
 obtain ⟨e1,d0,hm⟩:=aJ hm
 refine cP d0 (fun (s:(List Edge × Int × Int)) f w=>match s with|(a3,a2,i27)=>f 0=zS a1 a3.length c2∧f 1=i64 a2∧f 5=i64 i27∧a.length=a3.length∧aN G K (aK 63 K a1 c2 a3::L) w) ?_ ?_
 ·exact ⟨rfl,rfl,rfl,rfl,hs⟩
 ·rintro ⟨a3,a2,i27⟩ d1 f e2 a0 d2 ⟨a6,b2,a7,b6,b3⟩
  replace a0:sG a3 a2 i27=some d1:=a0
  unfold sG at a0
  refine aH (aH (aC (aB (aF a7) (aB (aF a6) (aB (bR (len:=a3.length) cZ rfl) (aB (cK rfl rfl) (aD (aA ?_))))))))
  rcases aM a0 with ⟨c45,a0⟩|⟨c45,a0⟩
  ·refine aQ c45 rfl (aY (aA (aH (cQ (aH (aC (aB (aF a6) (aB (aF a7) (aB (aF b2) ?_)))))))))
   obtain ⟨b7,b4,a0⟩:=aJ a0
   have a5:=dH b3 (i:=0) rfl b4
   refine aB (eY cZ rfl a5 rfl rfl rfl b4) (aB (aHw (k':=i27.toNat * 3+0) iX a5 rfl rfl) ?_)
   obtain ⟨b8,a8,a0⟩:=aJ a0
   refine rO (i:=0) (t:=0) (ns:=[i64 a2]) (e':=(⟨a2,b7.B,b7.To⟩:Edge)) Tryz.sizeOf2 b3 rfl (Hp.le_refl _) rfl rfl rfl b4 a8 rfl rfl (eD rfl) rfl (fun cs h=>by cases h;rfl) (fun d3 (d4:aN G K (aK 63 K a1 c2 b8::L) d3)=>(aD (aA (aH (aC (aB (aF b2) (aB (cY rfl rfl) (aB (aG (v:=i64 (wr (a2+1))) rfl) (aD (aA (aH (aC (aB (aF (v:=zS a1 b8.length c2) (Eq.trans a6 (congrArg (fun n=>zS a1 n c2) (jM a8)))) (aB (aF a7) (aB (aF (v:=i64 (wr (a2+1))) rfl) ?_)))))))))))))))
   obtain ⟨b9,c0,a0⟩:=aJ a0
   refine aB (eY cZ rfl a5 rfl rfl rfl c0) (aB (aHw (k':=i27.toNat * 3+1) gO a5 rfl rfl) ?_)
   obtain ⟨c1,b1,a0⟩:=aJ a0
   refine rO (i:=0) (t:=1) (ns:=[i64 (wr (a2+1))]) (e':=(⟨b9.F,wr (a2+1),b9.To⟩:Edge)) Tryz.sizeOf2 d4 rfl (Hp.le_refl _) rfl rfl rfl c0 b1 rfl rfl (eD rfl) rfl (fun cs h=>by cases h;rfl) (fun d5 (d6:aN G K (aK 63 K a1 c2 c1::L) d5)=>(aD (aA (aH (aC (aB (aF (v:=i64 (wr (a2+1))) rfl) (aB (cY rfl rfl) (aB (aG (v:=i64 (wr ((wr (a2+1))+1))) rfl) (aD (aA (aH (aC (aB (aF (v:=zS a1 c1.length c2) (Eq.trans (Eq.trans a6 (congrArg (fun n=>zS a1 n c2) (jM a8))) (congrArg (fun n=>zS a1 n c2) (jM b1)))) (aB (aF a7) (aB (aF (v:=i64 (wr ((wr (a2+1))+1))) rfl) ?_)))))))))))))))
   obtain ⟨c3,c4,a0⟩:=aJ a0
   refine aB (eY cZ rfl a5 rfl rfl rfl c4) (aB (aHw (k':=i27.toNat * 3+2) lY a5 rfl rfl) ?_)
   obtain ⟨c5,b5,a0⟩:=aJ a0
   exact rO (i:=0) (t:=2) (ns:=[i64 (wr ((wr (a2+1))+1))]) (e':=(⟨c3.F,c3.B,wr ((wr (a2+1))+1)⟩:Edge)) Tryz.sizeOf2 d6 rfl (Hp.le_refl _) rfl rfl rfl c4 b5 rfl rfl (eD rfl) rfl (fun cs h=>by cases h;rfl) (fun d7 (d8:aN G K (aK 63 K a1 c2 c5::L) d7)=>(aD (aA (aC (aB (aF (v:=i64 (wr ((wr (a2+1))+1))) rfl) (aB (cY rfl rfl) (aB (aG (v:=i64 (wr ((wr ((wr (a2+1))+1))+1))) rfl) (aD (bO (aA (aC (aB (aF a7) (aB (cY rfl rfl) (aB (aG (v:=i64 (wr (i27+1))) rfl) (aD (aA ⟨(c5,wr ((wr ((wr (a2+1))+1))+1),wr (i27+1)),(zI a0).symm,(Eq.trans (Eq.trans (Eq.trans a6 (congrArg (fun n=>zS a1 n c2) (jM a8))) (congrArg (fun n=>zS a1 n c2) (jM b1))) (congrArg (fun n=>zS a1 n c2) (jM b5))),rfl,rfl,(((b6.trans (jM a8)).trans (jM b1)).trans (jM b5)),d8⟩))))))))))))))))
  ·refine aO c45 rfl (cN (bB (bB ?_)))
   have d9:=d2 _ (zI a0).symm
   subst d9
   have hm:(sF a2 a3)=some R:=hm
   exact bS (aA ⟨a2,a3,hm,b2,b6,b3⟩)
theorem aFl {a_States:Int} {a_Initial:Int} {a_Labels:(List aZ)} {a_Edges:(List Edge)} {k:Int} {R:(Int × (List aZ) × (List Edge))} (hs:aN G K (aK 9 K a1 c2 a_Labels::aK 63 K a3 c4 a_Edges::L) w)  (hm:qH a_States a_Initial a_Labels a_Edges k=some R):
  Calls Tryz.prog 14 ([zA #[i64 a_States,i64 a_Initial,zS a1 a_Labels.length c2,zS a3 a_Edges.length c4],i64 k]:List Value).toArray w (gV fun v w'=>v=i64 R.1∧a_Labels.length=R.2.1.length∧a_Edges.length=R.2.2.length∧aN G K (aK 9 K a1 c2 R.2.1::aK 63 K a3 c4 R.2.2::L) w'):=by
 refine aW Tryz.func14 rfl (by kernel_rfl) (by show (2:Nat)≤14;decide) ?_
 unfold qH at hm
 refine aH (aC (fC (v:=zA #[i64 a_States,i64 a_Initial,zS a1 a_Labels.length c2,zS a3 a_Edges.length c4]) (vs:=[i64 a_States,i64 a_Initial,zS a1 a_Labels.length c2,zS a3 a_Edges.length c4]) hs rfl rfl (fun b5 w6 a6=>(aB (aG (v:=i64 0) rfl) (aD (aA (aH (aC (aB (bD (t':=2) iO rfl rfl) (aB (bY jK a6 (i:=0) rfl rfl rfl) (aB (aF (v:=i64 k) rfl) ?_)))))))))))
 have b2:aN G K (aK 9 K a1 c2 a_Labels::box b5 30 [i64 a_States,i64 a_Initial,zS a1 a_Labels.length c2,zS a3 a_Edges.length c4]::aK 63 K a3 c4 a_Edges::L) w6:=(aN.arr 2 [1,0] a6 rfl)
 obtain ⟨r9,b3,hm⟩:=aJ hm
 refine aX (vs:=[zS a1 a_Labels.length c2,i64 k]) Tryz.call15 rfl (aBO b2 b3) ?_
 rintro _ a5 ⟨rfl,a7,b4⟩
 have a8:aN G K (aK 9 K a1 c2 r9.2::box b5 30 [i64 a_States,i64 a_Initial,zS a1 r9.2.length c2,zS a3 a_Edges.length c4]::aK 63 K a3 c4 a_Edges::L) a5:=Eq.mp (congrArg (fun n=>aN G K (aK 9 K a1 c2 r9.2::box b5 30 [i64 a_States,i64 a_Initial,zS a1 n c2,zS a3 a_Edges.length c4]::aK 63 K a3 c4 a_Edges::L) a5) a7) b4
 refine aB (aG (v:=i64 r9.1) rfl) (aD (aA (aH (aC (aB (bD (t':=3) eO rfl rfl) (aB (bY jQ a8 (i:=1) rfl rfl rfl) (aB (aF (v:=i64 r9.1) rfl) ?_)))))))
 have hs15:aN G K (aK 63 K a3 c4 a_Edges::aK 9 K a1 c2 r9.2::box b5 30 [i64 a_States,i64 a_Initial,zS a1 r9.2.length c2,zS a3 a_Edges.length c4]::L) a5:=(aN.arr 3 [2,0,1] a8 rfl)
 obtain ⟨a4,b6,hm⟩:=aJ hm
 refine aX (vs:=[zS a3 a_Edges.length c4,i64 r9.1]) Tryz.call40 rfl (aHU hs15 b6) ?_
 rintro _ a9 ⟨rfl,b0,b7⟩
 have b8:aN G K (aK 63 K a3 c4 a4.2::aK 9 K a1 c2 r9.2::box b5 30 [i64 a_States,i64 a_Initial,zS a1 r9.2.length c2,zS a3 a4.2.length c4]::L) a9:=Eq.mp (congrArg (fun n=>aN G K (aK 63 K a3 c4 a4.2::aK 9 K a1 c2 r9.2::box b5 30 [i64 a_States,i64 a_Initial,zS a1 r9.2.length c2,zS a3 n c4]::L) a9) b0) b7
 refine aB (aG (v:=i64 a4.1) rfl) (aD (aA (aH (aC (aB (aF (v:=i64 a4.1) rfl) (aB (aG (v:=i64 a4.1) rfl) (aD (aA ?_))))))))
 cases zI hm
 exact bC (bA Tryz.results14 rfl ⟨rfl,a7,b0,(aN.arr 3 [1,0] b8 rfl)⟩)
theorem aCx {a:(List Int)} {k:Int} {R:(Int × (List Int))} (hs:aN G K (aK 2 K a1 c2 a::L) w)  (hm:pG a k=some R):
  Calls Tryz.prog 42 ([zS a1 a.length c2,i64 k]:List Value).toArray w (gV fun v w'=>v=i64 R.1∧a.length=R.2.length∧aN G K (aK 2 K a1 c2 R.2::L) w'):=by
 refine aW Tryz.func42 rfl (by kernel_rfl) (by show (2:Nat)≤19;decide) ?_
 unfold pG at hm
 refine aH (aC (aB (aG (v:=i64 0) rfl) (aD (aA (aH (aH (aC (aB (aG (v:=i64 0) rfl) (aD (aA (bJ (fun f w=>∃ (k3:Int) (a4:List Int),pU k3 a4=some R∧f 1=i64 k3∧a.length=a4.length∧aN G K (aK 2 K a1 c2 a4::L) w) ?_ ?_)))))))))))
 ·rintro f w7 ⟨k3,a4,hm,e6,b6,b7⟩
  unfold pU at hm
  refine aA (aH (aC (aB (aF e6) (aB (aG (v:=i64 k3) rfl) (aD (aA ?_))))))
  cases zI hm
  exact bC (bA Tryz.results42 rfl ⟨rfl,b6,b7⟩)
 obtain ⟨c8,b9,hm⟩:=aJ hm
 refine cP b9 (fun (s:(List Int × Int × Int)) f w=>match s with|(a3,a2,i27)=>f 0=zS a1 a3.length c2∧f 1=i64 a2∧f 5=i64 i27∧a.length=a3.length∧aN G K (aK 2 K a1 c2 a3::L) w) ?_ ?_
 ·exact ⟨rfl,rfl,rfl,rfl,hs⟩
 ·rintro ⟨a3,a2,i27⟩ c0 f c9 a0 c1 ⟨a7,a8,a9,b3,b0⟩
  replace a0:pV a3 a2 i27=some c0:=a0
  unfold pV at a0
  refine aH (aH (aC (aB (aF a9) (aB (aF a7) (aB (bR (len:=a3.length) cG rfl) (aB (cK rfl rfl) (aD (aA ?_))))))))
  rcases aM a0 with ⟨c45,a0⟩|⟨c45,a0⟩
  ·refine aQ c45 rfl (aY (aA (aH (cQ (aH (aC (aB (aF a7) (aB (aF a9) (aB (aF a8) ?_)))))))))
   obtain ⟨d0,b1,a0⟩:=aJ a0
   have c3:=dH b0 (i:=0) rfl b1
   refine aB (eY cG rfl c3 rfl rfl rfl b1) ?_
   obtain ⟨b4,b2,a0⟩:=aJ a0
   exact rO (i:=0) (t:=0) (ns:=[i64 a2]) (e':=(a2:Int)) Tryz.sizeOf2 b0 rfl (Hp.le_refl _) rfl rfl rfl b1 b2 rfl rfl (eD rfl) rfl (fun cs h=>by cases h;rfl) (fun c4 (c5:aN G K (aK 2 K a1 c2 b4::L) c4)=>(aD (aA (aC (aB (aF a8) (aB (cY rfl rfl) (aB (aG (v:=i64 (wr (a2+1))) rfl) (aD (bO (aA (aC (aB (aF a9) (aB (cY rfl rfl) (aB (aG (v:=i64 (wr (i27+1))) rfl) (aD (aA ⟨(b4,wr (a2+1),wr (i27+1)),(zI a0).symm,(Eq.trans a7 (congrArg (fun n=>zS a1 n c2) (jM b2))),rfl,rfl,(b3.trans (jM b2)),c5⟩))))))))))))))))
  ·refine aO c45 rfl (cN (bB (bB ?_)))
   have c6:=c1 _ (zI a0).symm
   subst c6
   have hm:(pU a2 a3)=some R:=hm
   exact bS (aA ⟨a2,a3,hm,a8,b3,b0⟩)
theorem aBP {a:(List aZ)} {k:Int} {R:Int} (hs:aN G K (L) w) (h3:cJ K a1 c2 a) (hm:qI a k=some R):
  Calls Tryz.prog 61 ([zS a1 a.length c2,i64 k]:List Value).toArray w (gV fun v w'=>v=i64 R∧aN G K (L) w'):=by
 refine aW Tryz.func61 rfl (by kernel_rfl) (by show (2:Nat)≤22;decide) ?_
 unfold qI at hm
 refine aH (aC (aB (aG (v:=i64 0) rfl) (aD (aA (aH (aH (aC (aB (aG (v:=i64 0) rfl) (aD (aA (bJ (fun f w=>∃ (k4:Int),tE k4=some R∧f 1=i64 k4∧aN G K (L) w) ?_ ?_)))))))))))
 ·rintro f w6 ⟨k4,hm,e5,b5⟩
  unfold tE at hm
  refine aA (aH (aC (aB (aF e5) (aB (aG (v:=i64 k4) rfl) (aD (aA ?_))))))
  cases zI hm
  exact bC (bA Tryz.results61 rfl ⟨rfl,b5⟩)
 obtain ⟨c8,b7,hm⟩:=aJ hm
 refine cP b7 (fun (s:(Int × Int)) f w=>match s with|(a3,a4)=>f 0=zS a1 a.length c2∧f 1=i64 a3∧f 5=i64 a4∧aN G K (L) w) ?_ ?_
 ·exact ⟨rfl,rfl,rfl,hs⟩
 ·rintro ⟨a3,a4⟩ b8 f c9 a0 b1 ⟨a6,a7,a8,a2⟩
  replace a0:lQ a a3 a4=some b8:=a0
  unfold lQ at a0
  refine aH (aH (aC (aB (aF a8) (aB (aF a6) (aB (bR (len:=a.length) cE rfl) (aB (cK rfl rfl) (aD (aA ?_))))))))
  rcases aM a0 with ⟨a9,a0⟩|⟨a9,a0⟩
  ·refine aQ a9 rfl (aY (aA (aH (cQ (aH (aH (cW (C:=fun w'=>aN G K (L) w') bQ (by kernel_rfl) (aN.mono a2 (dE.drew _)) (aT (fun _ a2=>aF a6) (aT (fun _ a2=>aF a8) ?_)))))))))
   obtain ⟨d0,b2,a0⟩:=aJ a0
   refine aT (fun _ a2=>cV cE rfl h3 rfl rfl rfl b2) ?_
   obtain ⟨d1,b9,c0⟩:=cJ.el (sz:=1) rfl h3 b2
   cases c0
   refine aT (fun _ a2=>bP (t:=0) qR a2 b9 rfl rfl) (aT (fun _ a2=>aF a7) ?_)
   obtain ⟨c1,c3,a0⟩:=aJ a0
   refine iV (vs:=[i64 a3]) (v:=cR c1) Tryz.call41 rfl (fun _ a2=>(aEx a2 c3)) (aT (fun _ a2=>aFZ rfl rfl) (dD (fun d2 b3=>(aA ?_))))
   rcases aM a0 with ⟨b0,a0⟩|⟨b0,a0⟩
   ·refine aQ b0 rfl (aH (aC (aB (aG (v:=i64 (-1)) rfl) (aD (aA (bC (aS (bN (aS (aS ?_))))))))))
    have c4:=b1 _ (zI a0).symm
    subst c4
    have hm:(some (-1))=some R:=hm
    cases zI hm
    exact bN (aS (aS (bA Tryz.results61 rfl ⟨rfl,b3⟩)))
   ·exact aO b0 rfl (aY (aA (aC (aB (aF a7) (aB (cY rfl rfl) (aB (aG (v:=i64 (wr (a3+1))) rfl) (aD (bO (aA (aC (aB (aF a8) (aB (cY rfl rfl) (aB (aG (v:=i64 (wr (a4+1))) rfl) (aD (aA ⟨(wr (a3+1),wr (a4+1)),(zI a0).symm,a6,rfl,rfl,b3⟩)))))))))))))))
  ·refine aO a9 rfl (cN (bB (bB ?_)))
   have c6:=b1 _ (zI a0).symm
   subst c6
   have hm:(tE a3)=some R:=hm
   exact bS (aA ⟨a3,hm,a7,a2⟩)
theorem aHV {a:(List Edge)} {k:Int} {R:Int} (hs:aN G K (L) w) (h3:cJ K a1 c2 a) (hm:aAA a k=some R):
  Calls Tryz.prog 88 ([zS a1 a.length c2,i64 k]:List Value).toArray w (gV fun v w'=>v=i64 R∧aN G K (L) w'):=by
 refine aW Tryz.func88 rfl (by kernel_rfl) (by show (2:Nat)≤40;decide) ?_
 unfold aAA at hm
 refine aH (aC (aB (aG (v:=i64 0) rfl) (aD (aA (aH (aH (aC (aB (aG (v:=i64 0) rfl) (aD (aA (bJ (fun f w=>∃ (k4:Int),xO k4=some R∧f 1=i64 k4∧aN G K (L) w) ?_ ?_)))))))))))
 ·rintro f w6 ⟨k4,hm,e5,b7⟩
  unfold xO at hm
  refine aA (aH (aC (aB (aF e5) (aB (aG (v:=i64 k4) rfl) (aD (aA ?_))))))
  cases zI hm
  exact bC (bA Tryz.results88 rfl ⟨rfl,b7⟩)
 obtain ⟨d1,b9,hm⟩:=aJ hm
 refine cP b9 (fun (s:(Int × Int)) f w=>match s with|(a2,a3)=>f 0=zS a1 a.length c2∧f 1=i64 a2∧f 5=i64 a3∧aN G K (L) w) ?_ ?_
 ·exact ⟨rfl,rfl,rfl,hs⟩
 ·rintro ⟨a2,a3⟩ c0 f d2 a0 a9 ⟨a6,b1,a7,a4⟩
  replace a0:oR a a2 a3=some c0:=a0
  unfold oR at a0
  refine aH (aH (aC (aB (aF a7) (aB (aF a6) (aB (bR (len:=a.length) cZ rfl) (aB (cK rfl rfl) (aD (aA ?_))))))))
  rcases aM a0 with ⟨b2,a0⟩|⟨b2,a0⟩
  ·refine aQ b2 rfl (aY (aA (aH (cQ (aH (aH (aC (aB (aF a6) (aB (aF a7) ?_)))))))))
   obtain ⟨d3,b0,a0⟩:=aJ a0
   refine aB (cV cZ rfl h3 rfl rfl rfl b0) ?_
   obtain ⟨d4,a5,c1⟩:=cJ.el (sz:=3) rfl h3 b0
   cases c1
   refine aB (dC (k':=a3.toNat * 3+0) iX rfl a5 rfl) (aB (bP (t:=0) dF a4 a5 rfl rfl) (aB (aF b1) (aB (mO rfl rfl) (aD (aA ?_)))))
   rcases aM a0 with ⟨b3,a0⟩|⟨b3,a0⟩
   ·refine aQ b3 rfl (aH (aC (aB (aG (v:=i64 (-1)) rfl) (aD (aA (bC (aS (bN (aS (aS ?_))))))))))
    have c3:=a9 _ (zI a0).symm
    subst c3
    have hm:(some (-1))=some R:=hm
    cases zI hm
    exact bN (aS (aS (bA Tryz.results88 rfl ⟨rfl,a4⟩)))
   ·refine aO b3 rfl (aY (aA (aH (aC (aB (aF b1) (aB (cY rfl rfl) (aB (aG (v:=i64 (wr (a2+1))) rfl) (aD (aA (aH (aH (aC (aB (aF a6) (aB (aF a7) (aB (cV cZ rfl h3 rfl rfl rfl b0) (aB (dC (k':=a3.toNat * 3+1) gO rfl a5 rfl) (aB (bP (t:=1) dF a4 a5 rfl rfl) (aB (aF (v:=i64 (wr (a2+1))) rfl) (aB (mO rfl rfl) (aD (aA ?_)))))))))))))))))))))
    rcases aM a0 with ⟨b4,a0⟩|⟨b4,a0⟩
    ·refine aQ b4 rfl (aH (aC (aB (aG (v:=i64 (-1)) rfl) (aD (aA (bC (aS (bN (aS (aS ?_))))))))))
     have c5:=a9 _ (zI a0).symm
     subst c5
     have hm:(some (-1))=some R:=hm
     cases zI hm
     exact bN (aS (aS (bA Tryz.results88 rfl ⟨rfl,a4⟩)))
    ·refine aO b4 rfl (aY (aA (aH (aC (aB (aF (v:=i64 (wr (a2+1))) rfl) (aB (cY rfl rfl) (aB (aG (v:=i64 (wr ((wr (a2+1))+1))) rfl) (aD (aA (aH (aH (aC (aB (aF a6) (aB (aF a7) (aB (cV cZ rfl h3 rfl rfl rfl b0) (aB (dC (k':=a3.toNat * 3+2) lY rfl a5 rfl) (aB (bP (t:=2) dF a4 a5 rfl rfl) (aB (aF (v:=i64 (wr ((wr (a2+1))+1))) rfl) (aB (mO rfl rfl) (aD (aA ?_)))))))))))))))))))))
     rcases aM a0 with ⟨b5,a0⟩|⟨b5,a0⟩
     ·refine aQ b5 rfl (aH (aC (aB (aG (v:=i64 (-1)) rfl) (aD (aA (bC (aS (bN (aS (aS ?_))))))))))
      have c7:=a9 _ (zI a0).symm
      subst c7
      have hm:(some (-1))=some R:=hm
      cases zI hm
      exact bN (aS (aS (bA Tryz.results88 rfl ⟨rfl,a4⟩)))
     ·exact aO b5 rfl (aY (aA (aC (aB (aF (v:=i64 (wr ((wr (a2+1))+1))) rfl) (aB (cY rfl rfl) (aB (aG (v:=i64 (wr ((wr ((wr (a2+1))+1))+1))) rfl) (aD (bO (aA (aC (aB (aF a7) (aB (cY rfl rfl) (aB (aG (v:=i64 (wr (a3+1))) rfl) (aD (aA ⟨(wr ((wr ((wr (a2+1))+1))+1),wr (a3+1)),(zI a0).symm,a6,rfl,rfl,a4⟩)))))))))))))))
  ·refine aO b2 rfl (cN (bB (bB ?_)))
   have c9:=a9 _ (zI a0).symm
   subst c9
   have hm:(xO a2)=some R:=hm
   exact bS (aA ⟨a2,hm,b1,a4⟩)
theorem aJJ {a:cH} {k:Int} {R:Int} (hs:aN G K (L) w) (h3:cJ K a1 c2 a.L) (h6:cJ K a4 c5 a.E) (hm:aBm a k=some R):
  Calls Tryz.prog 43 ([zA (zCa a a1 c2 a4 c5),i64 k]:List Value).toArray w (gV fun v w'=>v=i64 R∧aN G K (L) w'):=by
 refine aW Tryz.func43 rfl (by kernel_rfl) (by show (2:Nat)≤18;decide) ?_
 unfold aBm at hm
 refine aH (aC (fC (v:=zA (zCa a a1 c2 a4 c5)) (vs:=(zC a a1 c2 a4 c5)) hs rfl rfl (fun b7 w8 a7=>(aB (aG (v:=i64 0) rfl) (aD (aA (aH (aC (aB (bD (t':=2) iO rfl rfl) (aB (bY jK a7 (i:=0) rfl rfl rfl) (aB (aF (v:=i64 k) rfl) ?_)))))))))))
 obtain ⟨a0,a9,hm⟩:=aJ hm
 refine aX (vs:=[zS a1 a.L.length c2,i64 k]) Tryz.call61 rfl (aBP a7 h3 a9) ?_
 rintro _ b6 ⟨rfl,a3⟩
 refine aB (aG (v:=i64 a0) rfl) (aD (aA (aH (aH (aC (aB (aF (v:=i64 a0) rfl) (aB (cK rfl rfl) (aD (aA ?_)))))))))
 rcases aM hm with ⟨a5,hm⟩|⟨a5,hm⟩
 ·refine aQ a5 rfl (aH (aC (aB (aG (v:=i64 (-1)) rfl) (aD (aA ?_)))))
  cases zI hm
  exact bC (aS (bA Tryz.results43 rfl ⟨rfl,(aN.arr 1 [] a3 rfl)⟩))
 ·refine aO a5 rfl (aY (aA (aH (aC (aB (bD (t':=3) eO rfl rfl) (aB (bY jQ a3 (i:=0) rfl rfl rfl) (aB (aF (v:=i64 a0) rfl) ?_)))))))
  obtain ⟨a2,b1,hm⟩:=aJ hm
  refine aX (vs:=[zS a4 a.E.length c5,i64 a0]) Tryz.call88 rfl (aHV a3 h6 b1) ?_
  rintro _ w18 ⟨rfl,a8⟩
  refine aB (aG (v:=i64 a2) rfl) (aD (aA (aH (aH (aC (aB (aF (v:=i64 a2) rfl) (aB (cK rfl rfl) (aD (aA ?_)))))))))
  rcases aM hm with ⟨a6,hm⟩|⟨a6,hm⟩
  ·refine aQ a6 rfl (aH (aC (aB (aG (v:=i64 (-1)) rfl) (aD (aA ?_)))))
   cases zI hm
   exact bC (aS (bA Tryz.results43 rfl ⟨rfl,(aN.arr 1 [] a8 rfl)⟩))
  ·refine aO a6 rfl (aY (aA (aH (aC (aB (aF (v:=i64 a2) rfl) (aB (aG (v:=i64 a2) rfl) (aD (aA ?_))))))))
   cases zI hm
   exact bC (bA Tryz.results43 rfl ⟨rfl,(aN.arr 1 [] a8 rfl)⟩)
theorem aCy {a:(List Int)} {k:Int} {R:Int} (hs:aN G K (L) w) (h3:cJ K a1 c2 a) (hm:pH a k=some R):
  Calls Tryz.prog 44 ([zS a1 a.length c2,i64 k]:List Value).toArray w (gV fun v w'=>v=i64 R∧aN G K (L) w'):=by
 refine aW Tryz.func44 rfl (by kernel_rfl) (by show (2:Nat)≤21;decide) ?_
 unfold pH at hm
 refine aH (aC (aB (aG (v:=i64 0) rfl) (aD (aA (aH (aH (aC (aB (aG (v:=i64 0) rfl) (aD (aA (bJ (fun f w=>∃ (k4:Int),vD k4=some R∧f 1=i64 k4∧aN G K (L) w) ?_ ?_)))))))))))
 ·rintro f w6 ⟨k4,hm,e5,b4⟩
  unfold vD at hm
  refine aA (aH (aC (aB (aF e5) (aB (aG (v:=i64 k4) rfl) (aD (aA ?_))))))
  cases zI hm
  exact bC (bA Tryz.results44 rfl ⟨rfl,b4⟩)
 obtain ⟨c5,b6,hm⟩:=aJ hm
 refine cP b6 (fun (s:(Int × Int)) f w=>match s with|(a2,a3)=>f 0=zS a1 a.length c2∧f 1=i64 a2∧f 5=i64 a3∧aN G K (L) w) ?_ ?_
 ·exact ⟨rfl,rfl,rfl,hs⟩
 ·rintro ⟨a2,a3⟩ b7 f c6 a0 b1 ⟨a6,a7,a8,a5⟩
  replace a0:mH a a2 a3=some b7:=a0
  unfold mH at a0
  refine aH (aH (aC (aB (aF a8) (aB (aF a6) (aB (bR (len:=a.length) cG rfl) (aB (cK rfl rfl) (aD (aA ?_))))))))
  rcases aM a0 with ⟨a9,a0⟩|⟨a9,a0⟩
  ·refine aQ a9 rfl (aY (aA (aH (cQ (aH (aH (aC (aB (aF a6) (aB (aF a8) ?_)))))))))
   obtain ⟨c7,b2,a0⟩:=aJ a0
   refine aB (cV cG rfl h3 rfl rfl rfl b2) ?_
   obtain ⟨c8,b8,b9⟩:=cJ.el (sz:=1) rfl h3 b2
   cases b9
   refine aB (bP (t:=0) dF a5 b8 rfl rfl) (aB (aF a7) (aB (mO rfl rfl) (aD (aA ?_))))
   rcases aM a0 with ⟨b0,a0⟩|⟨b0,a0⟩
   ·refine aQ b0 rfl (aH (aC (aB (aG (v:=i64 (-1)) rfl) (aD (aA (bC (aS (bN (aS (aS ?_))))))))))
    have c0:=b1 _ (zI a0).symm
    subst c0
    have hm:(some (-1))=some R:=hm
    cases zI hm
    exact bN (aS (aS (bA Tryz.results44 rfl ⟨rfl,a5⟩)))
   ·exact aO b0 rfl (aY (aA (aC (aB (aF a7) (aB (cY rfl rfl) (aB (aG (v:=i64 (wr (a2+1))) rfl) (aD (bO (aA (aC (aB (aF a8) (aB (cY rfl rfl) (aB (aG (v:=i64 (wr (a3+1))) rfl) (aD (aA ⟨(wr (a2+1),wr (a3+1)),(zI a0).symm,a6,rfl,rfl,a5⟩)))))))))))))))
  ·refine aO a9 rfl (cN (bB (bB ?_)))
   have c3:=b1 _ (zI a0).symm
   subst c3
   have hm:(vD a2)=some R:=hm
   exact bS (aA ⟨a2,hm,a7,a5⟩)
theorem aIy {a:(List Int)} {left:Int} {R:Int} (hs:aN G K (L) w) (h3:cJ K a1 c2 a) (hm:aBG a left=some R):
  Calls Tryz.prog 45 ([zS a1 a.length c2,i64 left]:List Value).toArray w (gV fun v w'=>v=i64 R∧aN G K (L) w'):=by
 refine aW Tryz.func45 rfl (by kernel_rfl) (by show (2:Nat)≤12;decide) ?_
 unfold aBG at hm
 refine aH (aC (aB (aG (v:=i64 0) rfl) (aD (aA (aH (aC (aB (aF (v:=i64 left) rfl) (aB (aF (v:=zS a1 a.length c2) rfl) (aB (bR (len:=a.length) cG rfl) (aB (hY rfl rfl) (aB (aG (v:=i64 (wr (left - (a.length:Int)))) rfl) (aD (aA (aH (aH (aC (aB (aF (v:=i64 (wr (left - (a.length:Int)))) rfl) (aB (cK rfl rfl) (aD (aA ?_))))))))))))))))))))
 rcases aM hm with ⟨c4,hm⟩|⟨c4,hm⟩
 ·refine aQ c4 rfl (aH (aC (aB (aG (v:=i64 (-1)) rfl) (aD (aA ?_)))))
  cases zI hm
  exact bC (aS (bA Tryz.results45 rfl ⟨rfl,hs⟩))
 ·refine aO c4 rfl (aY (aA (aH (aC (aB (aF (v:=i64 (wr (left - (a.length:Int)))) rfl) (aB (aG (v:=i64 (wr (left - (a.length:Int)))) rfl) (aD (aA ?_))))))))
  cases zI hm
  exact bC (bA Tryz.results45 rfl ⟨rfl,hs⟩)
theorem aJK {a:cI} {left:Int} {R:Int} (hs:aN G K (L) w) (h3:cJ K a1 c2 a.S.L) (h6:cJ K a4 c5 a.S.E) (h9:cJ K a7 c8 a.M) (h12:cJ K a10 c11 a.C) (hm:aDd a left=some R):
  Calls Tryz.prog 18 ([zA (zEa a a1 c2 a4 c5 a7 c8 a10 c11),i64 left]:List Value).toArray w (gV fun v w'=>v=i64 R∧aN G K (L) w'):=by
 refine aW Tryz.func18 rfl (by kernel_rfl) (by show (2:Nat)≤24;decide) ?_
 unfold aDd at hm
 refine aH (aC (fC (v:=zA (zEa a a1 c2 a4 c5 a7 c8 a10 c11)) (vs:=(zE a a1 c2 a4 c5 a7 c8 a10 c11)) hs rfl rfl (fun c0 c1 b1=>(aB (aG (v:=i64 0) rfl) (aD (aA (aH (aC (aB (bD (t':=0) fa_45_0 rfl rfl) (aB (dO (us:=(zC a.S a1 c2 a4 c5)) aIY b1 (i:=0) rfl rfl rfl rfl) (aB (aF (v:=i64 left) rfl) ?_)))))))))))
 obtain ⟨a0,b3,hm⟩:=aJ hm
 refine aX (vs:=[zA (zCa a.S a1 c2 a4 c5),i64 left]) Tryz.call5 rfl (aHh b1 h3 h6 b3) ?_
 rintro _ c3 ⟨rfl,a5⟩
 refine aB (aG (v:=i64 a0) rfl) (aD (aA (aH (aH (aC (aB (aF (v:=i64 a0) rfl) (aB (cK rfl rfl) (aD (aA ?_)))))))))
 rcases aM hm with ⟨a6,hm⟩|⟨a6,hm⟩
 ·refine aQ a6 rfl (aH (aC (aB (aG (v:=i64 (-1)) rfl) (aD (aA ?_)))))
  cases zI hm
  exact bC (aS (bA Tryz.results18 rfl ⟨rfl,(aN.arr 1 [] a5 rfl)⟩))
 ·refine aO a6 rfl (aY (aA (aH (aC (aB (bD (t':=4) fa_45_1 rfl rfl) (aB (bY kD a5 (i:=0) rfl rfl rfl) (aB (aF (v:=i64 a0) rfl) ?_)))))))
  obtain ⟨a2,b5,hm⟩:=aJ hm
  refine aX (vs:=[zS a7 a.M.length c8,i64 a0]) Tryz.call45 rfl (aIy a5 h9 b5) ?_
  rintro _ c4 ⟨rfl,a8⟩
  refine aB (aG (v:=i64 a2) rfl) (aD (aA (aH (aH (aC (aB (aF (v:=i64 a2) rfl) (aB (cK rfl rfl) (aD (aA ?_)))))))))
  rcases aM hm with ⟨a9,hm⟩|⟨a9,hm⟩
  ·refine aQ a9 rfl (aH (aC (aB (aG (v:=i64 (-1)) rfl) (aD (aA ?_)))))
   cases zI hm
   exact bC (aS (bA Tryz.results18 rfl ⟨rfl,(aN.arr 1 [] a8 rfl)⟩))
  ·refine aO a9 rfl (aY (aA (aH (aC (aB (bD (t':=5) fa_45_2 rfl rfl) (aB (bY jK a8 (i:=0) rfl rfl rfl) (aB (aF (v:=i64 a2) rfl) ?_)))))))
   obtain ⟨a3,b7,hm⟩:=aJ hm
   refine aX (vs:=[zS a10 a.C.length c11,i64 a2]) Tryz.call6 rfl (aDm a8 h12 b7) ?_
   rintro _ c6 ⟨rfl,b2⟩
   refine aB (aG (v:=i64 a3) rfl) (aD (aA (aH (aH (aC (aB (aF (v:=i64 a3) rfl) (aB (cK rfl rfl) (aD (aA ?_)))))))))
   rcases aM hm with ⟨b0,hm⟩|⟨b0,hm⟩
   ·refine aQ b0 rfl (aH (aC (aB (aG (v:=i64 (-1)) rfl) (aD (aA ?_)))))
    cases zI hm
    exact bC (aS (bA Tryz.results18 rfl ⟨rfl,(aN.arr 1 [] b2 rfl)⟩))
   ·refine aO b0 rfl (aY (aA (aH (aC (aB (aF (v:=i64 a3) rfl) (aB (aG (v:=i64 a3) rfl) (aD (aA ?_))))))))
    cases zI hm
    exact bC (bA Tryz.results18 rfl ⟨rfl,(aN.arr 1 [] b2 rfl)⟩)
theorem aFm {t:cH} {k2:Nat} {R:Bool} (hs:aN G K (L) w) (h3:nY K a1 k2 (zC t a4 c5 a7 c8)) (h6:cJ K a4 c5 t.L) (h9:cJ K a7 c8 t.E) (hm:aBn t=some R):
  Calls Tryz.prog 47 ([cS a1 k2]:List Value).toArray w (gV fun v w'=>v=zB R∧aN G K (L) w'):=by
 refine aW Tryz.func47 rfl (by kernel_rfl) (by show (1:Nat)≤9;decide) ?_
 unfold aBn at hm
 refine aH (aC (aB (aG (v:=zB false) rfl) (aD (aA (aH (cU (fun f w=>∃ (a2:Bool),xP a2=some R∧f 2=zB a2∧aN G K (L) w) ?_ ?_))))))
 ·rintro f b4 ⟨a2,hm,a6,a8⟩
  unfold xP at hm
  refine aA ?_
  cases zI hm
  exact bC (bA Tryz.results47 rfl ⟨a6,a8⟩)
 refine aC (aB (aF (v:=cS a1 k2) rfl) ?_)
 obtain ⟨b0,b1,hm⟩:=aJ hm
 refine aX (vs:=[cS a1 k2]) Tryz.call62 rfl (aMf hs h3 h6 h9 b1) ?_
 rintro _ b5 ⟨rfl,a5⟩
 refine aB (aF (v:=zB b0) rfl) ?_
 rcases aM hm with ⟨a0,hm⟩|⟨a0,hm⟩
 ·refine bK a0 rfl rfl (aB (aF (v:=cS a1 k2) rfl) (bK a0 rfl rfl ?_))
  obtain ⟨a3,b2,hm⟩:=aJ hm
  refine aX (vs:=[cS a1 k2]) Tryz.call63 rfl (aHR a5 h3 h6 h9 b2) ?_
  rintro _ b6 ⟨rfl,b3⟩
  exact aB (bH (v:=zB a3) a0 rfl rfl) (aB (aG (v:=zB a3) rfl) (aD (aA ⟨a3,hm,rfl,b3⟩)))
 ·exact bE a0 rfl rfl (bE a0 rfl rfl (aB (bL (v:=zB false) a0 rfl rfl) (aB (aG (v:=zB false) rfl) (aD (aA ⟨false,hm,rfl,a5⟩)))))
theorem aIz {list:(List Int)} {low:Int} {high:Int} {R:Bool} (hs:aN G K (L) w) (h3:cJ K a1 c2 list) (hm:aBH list low high=some R):
  Calls Tryz.prog 89 ([zS a1 list.length c2,i64 low,i64 high]:List Value).toArray w (gV fun v w'=>v=zB R∧aN G K (L) w'):=by
 refine aW Tryz.func89 rfl (by kernel_rfl) (by show (3:Nat)≤38;decide) ?_
 unfold aBH at hm
 refine aH (aC (aB (aG (v:=zB false) rfl) (aD (aA (aH (aH (aC (aB (aG (v:=i64 0) rfl) (aD (aA (bJ (fun f w=>aAc=some R∧aN G K (L) w) ?_ ?_)))))))))))
 ·rintro f w4 ⟨hm,c4⟩
  unfold aAc at hm
  refine aA (aH (aC (aB (aG (v:=zB true) rfl) (aD (aA ?_)))))
  cases zI hm
  exact bC (bA Tryz.results89 rfl ⟨rfl,c4⟩)
 obtain ⟨e2,c6,hm⟩:=aJ hm
 refine cP c6 (fun (a5:Int) f w=>f 0=zS a1 list.length c2∧f 1=i64 low∧f 2=i64 high∧f 7=i64 a5∧aN G K (L) w) ?_ ?_
 ·exact ⟨rfl,rfl,rfl,rfl,hs⟩
 ·rintro a5 b6 f e3 a2 b7 ⟨a7,a8,a9,a6,a0⟩
  replace a2:qK list low high a5=some b6:=a2
  unfold qK at a2
  refine aH (aH (aC (aB (aF a6) (aB (aF a7) (aB (bR (len:=list.length) cG rfl) (aB (cK rfl rfl) (aD (aA ?_))))))))
  rcases aM a2 with ⟨b1,a2⟩|⟨b1,a2⟩
  ·refine aQ b1 rfl (aY (aA (aH (cQ (aH (cU (fun f w=>∃ (b2:Bool),qJ a5 b2=some b6∧f 0=zS a1 list.length c2∧f 1=i64 low∧f 2=i64 high∧f 7=i64 a5∧f 37=zB b2∧aN G K (L) w) ?_ ?_))))))
   ·rintro f e4 ⟨b2,a2,c7,c8,c9,d0,b8,b9⟩
    unfold qJ at a2
    refine aA ?_
    rcases aM a2 with ⟨b3,a2⟩|⟨b3,a2⟩
    ·refine aQ b3 b8 (aH (aC (aB (aG (v:=zB false) rfl) (aD (aA (bC (bN (aS (aS ?_)))))))))
     have d1:=b7 _ (zI a2).symm
     subst d1
     have hm:(some false)=some R:=hm
     cases zI hm
     exact bN (aS (aS (bA Tryz.results89 rfl ⟨rfl,b9⟩)))
    ·exact aO b3 b8 (aY (bO (aA (aC (aB (aF d0) (aB (cY rfl rfl) (aB (aG (v:=i64 (wr (a5+1))) rfl) (aD (aA ⟨wr (a5+1),(zI a2).symm,c7,c8,c9,rfl,b9⟩)))))))))
   refine cW (C:=fun w'=>aN G K (L) w') bQ (by kernel_rfl) (aN.mono a0 (dE.drew _)) (aT (fun _ a0=>aF a7) (aT (fun _ a0=>aF a6) ?_))
   obtain ⟨b0,b4,a2⟩:=aJ a2
   refine aT (fun _ a0=>cV cG rfl h3 rfl rfl rfl b4) ?_
   obtain ⟨e5,c0,d3⟩:=cJ.el (sz:=1) rfl h3 b4
   cases d3
   refine aT (fun _ a0=>bP (t:=0) dF a0 c0 rfl rfl) (aT (fun _ a0=>aF a8) (aT (fun _ a0=>aF a9) ?_))
   obtain ⟨c1,d4,a2⟩:=aJ a2
   refine iV (vs:=[i64 b0,i64 low,i64 high]) (v:=zB c1) Tryz.call109 rfl (fun _ a0=>(pO a0 d4)) (aT (fun _ a0=>eP rfl) (aT (fun _ a0=>aF (v:=zB (!c1)) rfl) ?_))
   rcases aM a2 with ⟨a4,a2⟩|⟨a4,a2⟩
   ·exact aU (g:=22) rfl rfl (cA a4) (aU (g:=22) rfl rfl (cA a4) (aU (g:=22) rfl rfl (cA a4) (bF (g:=25) rfl rfl (bF (g:=25) rfl rfl (bF (g:=25) rfl rfl (bF (g:=25) rfl rfl (bF (g:=25) rfl rfl (bF (g:=25) rfl rfl (bF (g:=25) rfl rfl (bF (g:=25) rfl rfl (bF (g:=25) rfl rfl (bF (g:=25) rfl rfl (aU (g:=22) rfl rfl (cA a4) (aT (fun _ a0=>bH (v:=zB true) a4 rfl rfl) (dD (fun e6 d5=>(aA ⟨true,a2,a7,a8,a9,a6,rfl,d5⟩)))))))))))))))))
   ·refine bG (g:=22) rfl rfl (cC a4) (aT (fun _ a0=>aF a6) (bG (g:=22) rfl rfl (cC a4) (aT (fun _ a0=>lJ rfl rfl) (bG (g:=22) rfl rfl (cC a4) (aT (fun _ a0=>aF (v:=zB (decide (0 < a5))) rfl) ?_)))))
    rcases aM a2 with ⟨a3,a2⟩|⟨a3,a2⟩
    ·refine bG (g:=25) rfl rfl a3 (aT (fun _ a0=>aF a7) (bG (g:=25) rfl rfl a3 (aT (fun _ a0=>aF a6) (bG (g:=25) rfl rfl a3 (aT (fun _ a0=>hY rfl rfl) (bG (g:=25) rfl rfl a3 ?_))))))
     obtain ⟨b5,c3,a2⟩:=aJ a2
     refine aT (fun _ a0=>cV cG rfl h3 rfl rfl rfl c3) ?_
     obtain ⟨e7,d6,d7⟩:=cJ.el (sz:=1) rfl h3 c3
     cases d7
     exact bG (g:=25) rfl rfl a3 (aT (fun _ a0=>bP (t:=0) dF a0 d6 rfl rfl) (bG (g:=25) rfl rfl a3 (aT (fun _ a0=>aF a7) (bG (g:=25) rfl rfl a3 (aT (fun _ a0=>aF a6) (bG (g:=25) rfl rfl a3 (aT (fun _ a0=>cV cG rfl h3 rfl rfl rfl b4) (bG (g:=25) rfl rfl a3 (aT (fun _ a0=>bP (t:=0) dF a0 c0 rfl rfl) (bG (g:=25) rfl rfl a3 (aT (fun _ a0=>yL rfl rfl) (bG (g:=22) rfl rfl (cC a4) (aT (fun _ a0=>bH (v:=zB (decide (b0≤b5))) a3 rfl rfl) (aT (fun _ a0=>bL (v:=zB (decide (b0≤b5))) a4 rfl rfl) (dD (fun e8 d8=>(aA ⟨decide (b0≤b5),a2,a7,a8,a9,a6,rfl,d8⟩)))))))))))))))))
    ·exact aU (g:=25) rfl rfl (bU a3) (aU (g:=25) rfl rfl (bU a3) (aU (g:=25) rfl rfl (bU a3) (aU (g:=25) rfl rfl (bU a3) (aU (g:=25) rfl rfl (bU a3) (aU (g:=25) rfl rfl (bU a3) (aU (g:=25) rfl rfl (bU a3) (aU (g:=25) rfl rfl (bU a3) (aU (g:=25) rfl rfl (bU a3) (aU (g:=25) rfl rfl (bU a3) (bG (g:=22) rfl rfl (cC a4) (aT (fun _ a0=>bL (v:=zB false) a3 rfl rfl) (aT (fun _ a0=>bL (v:=zB false) a4 rfl rfl) (dD (fun e9 d9=>(aA ⟨false,a2,a7,a8,a9,a6,rfl,d9⟩)))))))))))))))
  ·refine aO b1 rfl (cN (bB (bB ?_)))
   have e0:=b7 _ (zI a2).symm
   subst e0
   have hm:(aAc)=some R:=hm
   exact bS (aA ⟨hm,a0⟩)
theorem aHk {list:(List aZ)} {R:Bool} (hs:aN G K (L) w) (h3:cJ K a1 c2 list) (hm:xR list=some R):
  Calls Tryz.prog 137 ([zS a1 list.length c2]:List Value).toArray w (gV fun v w'=>v=zB R∧aN G K (L) w'):=by
 refine aW Tryz.func137 rfl (by kernel_rfl) (by show (1:Nat)≤16;decide) ?_
 unfold xR at hm
 refine aH (aC (aB (aG (v:=zB false) rfl) (aD (aA (aH (aH (aC (aB (aG (v:=i64 0) rfl) (aD (aA (bJ (fun f w=>vE=some R∧aN G K (L) w) ?_ ?_)))))))))))
 ·rintro f w4 ⟨hm,b1⟩
  unfold vE at hm
  refine aA (aH (aC (aB (aG (v:=zB true) rfl) (aD (aA ?_)))))
  cases zI hm
  exact bC (bA Tryz.results137 rfl ⟨rfl,b1⟩)
 obtain ⟨c4,b3,hm⟩:=aJ hm
 refine cP b3 (fun (a2:Int) f w=>f 0=zS a1 list.length c2∧f 3=i64 a2∧aN G K (L) w) ?_ ?_
 ·exact ⟨rfl,rfl,hs⟩
 ·rintro a2 b4 f c5 a0 a8 ⟨a3,a4,a5⟩
  replace a0:mJ list a2=some b4:=a0
  unfold mJ at a0
  refine aH (aH (aC (aB (aF a4) (aB (aF a3) (aB (bR (len:=list.length) cE rfl) (aB (cK rfl rfl) (aD (aA ?_))))))))
  rcases aM a0 with ⟨a6,a0⟩|⟨a6,a0⟩
  ·refine aQ a6 rfl (aY (aA (aH (cQ (aH (aC (aB (aF a3) (aB (aF a4) ?_))))))))
   obtain ⟨b5,a9,a0⟩:=aJ a0
   refine aB (cV cE rfl h3 rfl rfl rfl a9) ?_
   obtain ⟨c6,b6,b7⟩:=cJ.el (sz:=1) rfl h3 a9
   cases b7
   refine aB (bP (t:=0) qR a5 b6 rfl rfl) ?_
   obtain ⟨c7,b8,a0⟩:=aJ a0
   refine aX (vs:=[cR b5]) Tryz.call191 rfl (aDn a5 b8) ?_
   rintro _ c8 ⟨rfl,b0⟩
   refine aB (eP rfl) (aD (aA ?_))
   rcases aM a0 with ⟨a7,a0⟩|⟨a7,a0⟩
   ·refine aQ a7 rfl (aH (aC (aB (aG (v:=zB false) rfl) (aD (aA (bC (bN (aS (aS ?_)))))))))
    have b9:=a8 _ (zI a0).symm
    subst b9
    have hm:(some false)=some R:=hm
    cases zI hm
    exact bN (aS (aS (bA Tryz.results137 rfl ⟨rfl,b0⟩)))
   ·exact aO a7 rfl (aY (bO (aA (aC (aB (aF a4) (aB (cY rfl rfl) (aB (aG (v:=i64 (wr (a2+1))) rfl) (aD (aA ⟨wr (a2+1),(zI a0).symm,a3,rfl,b0⟩)))))))))
  ·refine aO a6 rfl (cN (bB (bB ?_)))
   have c1:=a8 _ (zI a0).symm
   subst c1
   have hm:(vE)=some R:=hm
   exact bS (aA ⟨hm,a5⟩)
theorem aIA {list:(List aZ)} {R:Bool} (hs:aN G K (L) w) (h3:cJ K a1 c2 list) (hm:aBI list=some R):
  Calls Tryz.prog 90 ([zS a1 list.length c2]:List Value).toArray w (gV fun v w'=>v=zB R∧aN G K (L) w'):=by
 refine aW Tryz.func90 rfl (by kernel_rfl) (by show (1:Nat)≤28;decide) ?_
 unfold aBI at hm
 refine aH (aC (aB (aG (v:=zB false) rfl) (aD (aA (aH (aH (cU (fun f w=>∃ (v4:Bool),uQ list v4=some R∧f 0=zS a1 list.length c2∧f 11=zB v4∧aN G K (L) w) ?_ ?_)))))))
 ·rintro f w7 ⟨v4,hm,e5,e6,b2⟩
  unfold uQ at hm
  refine aA ?_
  rcases aM hm with ⟨c9,hm⟩|⟨c9,hm⟩
  ·refine aQ c9 e6 (aH (aC (aB (aG (v:=zB false) rfl) (aD (aA ?_)))))
   cases zI hm
   exact bC (aS (bA Tryz.results90 rfl ⟨rfl,b2⟩))
  ·refine aO c9 e6 (aY (aA (aH (aH (aC (aB (aG (v:=i64 1) rfl) (aD (aA (bJ (fun f w=>aAd=some R∧aN G K (L) w) ?_ ?_)))))))))
   ·rintro f d5 ⟨hm,c0⟩
    unfold aAd at hm
    refine aA (aH (aC (aB (aG (v:=zB true) rfl) (aD (aA ?_)))))
    cases zI hm
    exact bC (bA Tryz.results90 rfl ⟨rfl,c0⟩)
   obtain ⟨d6,c3,hm⟩:=aJ hm
   refine cP c3 (fun (a4:Int) f w=>f 0=zS a1 list.length c2∧f 3=i64 a4∧aN G K (L) w) ?_ ?_
   ·exact ⟨e5,rfl,b2⟩
   ·rintro a4 c4 f d7 a0 b3 ⟨a5,a6,a2⟩
    replace a0:nP list a4=some c4:=a0
    unfold nP at a0
    refine aH (aH (aC (aB (aF a6) (aB (aF a5) (aB (bR (len:=list.length) cE rfl) (aB (cK rfl rfl) (aD (aA ?_))))))))
    rcases aM a0 with ⟨a9,a0⟩|⟨a9,a0⟩
    ·refine aQ a9 rfl (aY (aA (aH (cQ (aH (cW (C:=fun w'=>aN G K (L) w') bQ (by kernel_rfl) (aN.mono a2 (dE.drew _)) (aT (fun _ a2=>aF a5) (aT (fun _ a2=>aF a6) (aT (fun _ a2=>hY rfl rfl) ?_)))))))))
     obtain ⟨d8,b4,a0⟩:=aJ a0
     refine aT (fun _ a2=>cV cE rfl h3 rfl rfl rfl b4) ?_
     obtain ⟨d9,c5,c6⟩:=cJ.el (sz:=1) rfl h3 b4
     cases c6
     refine aT (fun _ a2=>bP (t:=0) qR a2 c5 rfl rfl) (aT (fun _ a2=>aF a5) (aT (fun _ a2=>aF a6) ?_))
     obtain ⟨e0,b5,a0⟩:=aJ a0
     refine aT (fun _ a2=>cV cE rfl h3 rfl rfl rfl b5) ?_
     obtain ⟨e1,c7,c8⟩:=cJ.el (sz:=1) rfl h3 b5
     cases c8
     refine aT (fun _ a2=>bP (t:=0) qR a2 c7 rfl rfl) (aT (fun _ a2=>R_geqS rfl rfl) (dD (fun e2 b6=>(aA ?_))))
     rcases aM a0 with ⟨b0,a0⟩|⟨b0,a0⟩
     ·refine aQ b0 rfl (aH (aC (aB (aG (v:=zB false) rfl) (aD (aA (bC (bN (aS (aS ?_)))))))))
      have hq52:=b3 _ (zI a0).symm
      subst hq52
      have hm:(some false)=some R:=hm
      cases zI hm
      exact bN (aS (aS (bA Tryz.results90 rfl ⟨rfl,b6⟩)))
     ·exact aO b0 rfl (aY (bO (aA (aC (aB (aF a6) (aB (cY rfl rfl) (aB (aG (v:=i64 (wr (a4+1))) rfl) (aD (aA ⟨wr (a4+1),(zI a0).symm,a5,rfl,b6⟩)))))))))
    ·refine aO a9 rfl (cN (bB (bB ?_)))
     have d1:=b3 _ (zI a0).symm
     subst d1
     have hm:(aAd)=some R:=hm
     exact bS (aA ⟨hm,a2⟩)
 refine aC (aB (aF (v:=zS a1 list.length c2) rfl) (aB (bR (len:=list.length) cE rfl) (aB (lJ rfl rfl) (aB (aF (v:=zB (decide (12 < (list.length:Int)))) rfl) ?_))))
 rcases aM hm with ⟨a3,hm⟩|⟨a3,hm⟩
 ·exact aV a3 rfl rfl (aV a3 rfl rfl (aV a3 rfl rfl (aB (bH (v:=zB true) a3 rfl rfl) (aD (aA ⟨true,hm,rfl,rfl,hs⟩)))))
 ·refine bI a3 rfl rfl (aB (aF (v:=zS a1 list.length c2) rfl) (bI a3 rfl rfl ?_))
  obtain ⟨b7,d2,hm⟩:=aJ hm
  refine aX (vs:=[zS a1 list.length c2]) Tryz.call137 rfl (aHk hs h3 d2) ?_
  rintro _ e3 ⟨rfl,d3⟩
  exact bI a3 rfl rfl (aB (eP rfl) (aB (bL (v:=zB (!b7)) a3 rfl rfl) (aD (aA ⟨!b7,hm,rfl,rfl,d3⟩))))
theorem aMh {p:cI} {k2:Nat} {R:Bool} (hs:aN G K (L) w) (h3:nY K a1 k2 (zE p a4 c5 a7 c8 a10 c11 a13 c14)) (h6:cJ K a4 c5 p.S.L) (h9:cJ K a7 c8 p.S.E) (h12:cJ K a10 c11 p.M) (h15:cJ K a13 c14 p.C) (hm:aGT p=some R):
  Calls Tryz.prog 46 ([cS a1 k2]:List Value).toArray w (gV fun v w'=>v=zB R∧aN G K (L) w'):=by
 refine aW Tryz.func46 rfl (by kernel_rfl) (by show (1:Nat)≤27;decide) ?_
 unfold aGT at hm
 refine aH (aC (aB (aG (v:=zB false) rfl) (aD (aA (aH (cU (fun f w=>∃ (a5:Bool),aAF a5=some R∧f 2=zB a5∧aN G K (L) w) ?_ ?_))))))
 ·rintro f b8 ⟨a5,hm,a9,b0⟩
  unfold aAF at hm
  refine aA ?_
  cases zI hm
  exact bC (bA Tryz.results46 rfl ⟨a9,b0⟩)
 refine cW (C:=fun w'=>aN G K (L) w') bQ (by kernel_rfl) (aN.mono hs (dE.drew _)) (aT (fun _ hs=>aF (v:=cS a1 k2) rfl) (aT (fun _ hs=>eX rfl h3) (aT (fun _ hs=>dC (k':=k2+0) kK rfl h3 rfl) ?_)))
 obtain ⟨a8,b2,hm⟩:=aJ hm
 refine iV (vs:=[cS a1 (k2+0)]) (v:=zB a8) Tryz.call47 rfl (fun _ hs=>(aFm hs (nY.sub (t:=0) (m:=4) h3 rfl) h6 h9 b2)) (aT (fun _ hs=>aF (v:=zB a8) rfl) ?_)
 rcases aM hm with ⟨a0,hm⟩|⟨a0,hm⟩
 ·refine bG (g:=7) rfl rfl a0 (aT (fun _ hs=>aF (v:=cS a1 k2) rfl) (bG (g:=7) rfl rfl a0 (aT (fun _ hs=>eX rfl h3) (bG (g:=7) rfl rfl a0 (aT (fun _ hs=>dC (k':=k2+4) sV rfl h3 rfl) (bG (g:=7) rfl rfl a0 (aT (fun _ hs=>bP (t:=4) kD hs h3 rfl rfl) (bG (g:=7) rfl rfl a0 (aT (fun _ hs=>aF (v:=cS a1 k2) rfl) (bG (g:=7) rfl rfl a0 (aT (fun _ hs=>eX rfl h3) (bG (g:=7) rfl rfl a0 (aT (fun _ hs=>dC (k':=k2+0) kK rfl h3 rfl) (bG (g:=7) rfl rfl a0 (aT (fun _ hs=>dC (k':=k2+0) aAR rfl h3 rfl) (bG (g:=7) rfl rfl a0 (aT (fun _ hs=>bP (t:=0) dF hs h3 rfl rfl) (bG (g:=7) rfl rfl a0 (aT (fun _ hs=>hY rfl rfl) (bG (g:=7) rfl rfl a0 ?_))))))))))))))))))))
  obtain ⟨a6,b3,hm⟩:=aJ hm
  refine iV (vs:=[zS a10 p.M.length c11,i64 0,i64 (wr (p.S.N - 1))]) (v:=zB a6) Tryz.call89 rfl (fun _ hs=>(aIz hs h12 b3)) (aT (fun _ hs=>bH (v:=zB a6) a0 rfl rfl) (aT (fun _ hs=>aF (v:=zB a6) rfl) ?_))
  rcases aM hm with ⟨a2,hm⟩|⟨a2,hm⟩
  ·refine bG (g:=20) rfl rfl a2 (aT (fun _ hs=>aF (v:=cS a1 k2) rfl) (bG (g:=20) rfl rfl a2 (aT (fun _ hs=>eX rfl h3) (bG (g:=20) rfl rfl a2 (aT (fun _ hs=>dC (k':=k2+5) aAU rfl h3 rfl) (bG (g:=20) rfl rfl a2 (aT (fun _ hs=>bP (t:=5) jK hs h3 rfl rfl) (bG (g:=20) rfl rfl a2 ?_))))))))
   obtain ⟨a3,b4,hm⟩:=aJ hm
   exact iV (vs:=[zS a13 p.C.length c14]) (v:=zB a3) Tryz.call90 rfl (fun _ hs=>(aIA hs h15 b4)) (aT (fun _ hs=>bH (v:=zB a3) a2 rfl rfl) (aT (fun _ hs=>aG (v:=zB a3) rfl) (dD (fun b9 b5=>(aA ⟨a3,hm,rfl,b5⟩)))))
  ·exact aU (g:=20) rfl rfl (bU a2) (aU (g:=20) rfl rfl (bU a2) (aU (g:=20) rfl rfl (bU a2) (aU (g:=20) rfl rfl (bU a2) (aU (g:=20) rfl rfl (bU a2) (aT (fun _ hs=>bL (v:=zB false) a2 rfl rfl) (aT (fun _ hs=>aG (v:=zB false) rfl) (dD (fun c0 b6=>(aA ⟨false,hm,rfl,b6⟩)))))))))
 ·exact aU (g:=7) rfl rfl (bU a0) (aU (g:=7) rfl rfl (bU a0) (aU (g:=7) rfl rfl (bU a0) (aU (g:=7) rfl rfl (bU a0) (aU (g:=7) rfl rfl (bU a0) (aU (g:=7) rfl rfl (bU a0) (aU (g:=7) rfl rfl (bU a0) (aU (g:=7) rfl rfl (bU a0) (aU (g:=7) rfl rfl (bU a0) (aU (g:=7) rfl rfl (bU a0) (aU (g:=7) rfl rfl (bU a0) (aT (fun _ hs=>bL (v:=zB false) a0 rfl rfl) (aT (fun _ hs=>aF (v:=zB false) rfl) (aU (g:=20) rfl rfl (bU (by decide:¬ false=true)) (aU (g:=20) rfl rfl (bU (by decide:¬ false=true)) (aU (g:=20) rfl rfl (bU (by decide:¬ false=true)) (aU (g:=20) rfl rfl (bU (by decide:¬ false=true)) (aU (g:=20) rfl rfl (bU (by decide:¬ false=true)) (aT (fun _ hs=>bL (v:=zB false) (by decide:¬ false=true) rfl rfl) (aT (fun _ hs=>aG (v:=zB false) rfl) (dD (fun c1 b7=>(aA ⟨false,hm,rfl,b7⟩))))))))))))))))))))))
theorem aBQ {list:(List aZ)} {s_:aZ} {R:Int} (hs:aN G K (L) w) (h3:cJ K a1 c2 list) (hm:wC list s_=some R):
  Calls Tryz.prog 138 ([zS a1 list.length c2,cR s_]:List Value).toArray w (gV fun v w'=>v=i64 R∧aN G K (L) w'):=by
 refine aW Tryz.func138 rfl (by kernel_rfl) (by show (2:Nat)≤19;decide) ?_
 unfold wC at hm
 refine aH (aC (aB (aG (v:=i64 0) rfl) (aD (aA (aH (aH (aC (aB (aG (v:=i64 0) rfl) (aD (aA (bJ (fun f w=>aBd=some R∧aN G K (L) w) ?_ ?_)))))))))))
 ·rintro f w4 ⟨hm,b1⟩
  unfold aBd at hm
  refine aA (aH (aC (aB (aG (v:=i64 (-1)) rfl) (aD (aA ?_)))))
  cases zI hm
  exact bC (bA Tryz.results138 rfl ⟨rfl,b1⟩)
 obtain ⟨c1,b3,hm⟩:=aJ hm
 refine cP b3 (fun (a2:Int) f w=>f 0=zS a1 list.length c2∧f 1=cR s_∧f 5=i64 a2∧aN G K (L) w) ?_ ?_
 ·exact ⟨rfl,rfl,rfl,hs⟩
 ·rintro a2 b4 f c3 a0 a8 ⟨a5,a9,a3,a4⟩
  replace a0:tF list s_ a2=some b4:=a0
  unfold tF at a0
  refine aH (aH (aC (aB (aF a3) (aB (aF a5) (aB (bR (len:=list.length) cE rfl) (aB (cK rfl rfl) (aD (aA ?_))))))))
  rcases aM a0 with ⟨a6,a0⟩|⟨a6,a0⟩
  ·refine aQ a6 rfl (aY (aA (aH (cQ (aH (aC (aB (aF a5) (aB (aF a3) ?_))))))))
   obtain ⟨c4,b0,a0⟩:=aJ a0
   refine aB (cV cE rfl h3 rfl rfl rfl b0) ?_
   obtain ⟨c5,b5,b6⟩:=cJ.el (sz:=1) rfl h3 b0
   cases b6
   refine aB (bP (t:=0) qR a4 b5 rfl rfl) (aB (aF a9) (aB (aAJ rfl rfl) (aD (aA ?_))))
   rcases aM a0 with ⟨a7,a0⟩|⟨a7,a0⟩
   ·refine aQ a7 rfl (aH (aC (aB (aF a3) (aB (aG (v:=i64 a2) rfl) (aD (aA (bC (bN (aS (aS ?_))))))))))
    have b7:=a8 _ (zI a0).symm
    subst b7
    have hm:(some a2)=some R:=hm
    cases zI hm
    exact bN (aS (aS (bA Tryz.results138 rfl ⟨rfl,a4⟩)))
   ·exact aO a7 rfl (aY (bO (aA (aC (aB (aF a3) (aB (cY rfl rfl) (aB (aG (v:=i64 (wr (a2+1))) rfl) (aD (aA ⟨wr (a2+1),(zI a0).symm,a5,a9,rfl,a4⟩)))))))))
  ·refine aO a6 rfl (cN (bB (bB ?_)))
   have b9:=a8 _ (zI a0).symm
   subst b9
   have hm:(aBd)=some R:=hm
   exact bS (aA ⟨hm,a4⟩)
end Gv
