/- Walks, printed by program. -/
import Derived.Test.YtnpdckpkipjngaaGreatDoorKWk4
set_option linter.all false
namespace Gv
open Go.Value renaming slice→zS,bool→zB,pointer→zP,agg→zA
open Option.some renaming inj→zI
open Gv.Hp renaming le_refl→zR
open Go Go.Proofs
set_option maxRecDepth 20000
set_option maxHeartbeats 40000000
variable {G:Env} {K:Hp} {L:List nD} {w:World} {a1 a4 a7:Option Addr} {c2 c5 c8:Nat}
theorem tY {s_:(List Int)} {R:(List Int)} (hs:aN G K (aK 2 K a1 c2 s_::L) w)  (hm:fE s_=some R):
  Calls Tryz.prog 225 ([zS a1 s_.length c2]:List Value).toArray w (gV fun v w'=>∃ (ra0:Option Addr) (rc0:Nat),v=zS ra0 R.length rc0∧aN G K (aK 2 K ra0 rc0 R::L) w'):=by
 refine aW Tryz.func225 rfl (by kernel_rfl) (by show (1:Nat)≤61;decide) ?_
 unfold fE at hm
 refine aH (aC (aB (aG (v:=zS none 0 0) rfl) (aD (aA (aH (aH (aC (aB (aF (v:=zS a1 s_.length c2) rfl) (aB (bR (len:=s_.length) cG rfl) (aB (cK rfl rfl) (aD (aA ?_))))))))))))
 rcases aM hm with ⟨c3,hm⟩|⟨c3,hm⟩
 ·refine aQ c3 rfl (aH (aC (aB (aF (v:=zS a1 s_.length c2) rfl) (aB (aG (v:=zS a1 s_.length c2) rfl) (aD (aA ?_))))))
  cases zI hm
  exact bC (aS (bA Tryz.results225 rfl ⟨a1,c2,rfl,hs⟩))
 ·refine aO c3 rfl (aY (aA (aH (aH (aC (aB (aG (v:=i64 1) rfl) (aD (aA (bJ (fun f w=>fW s_=some R∧f 0=zS a1 s_.length c2∧aN G K (aK 2 K a1 c2 s_::L) w) ?_ ?_)))))))))
  ·rintro f w6 ⟨hm,e5,f9⟩
   unfold fW at hm
   refine aA (aH (aC (aB (aF e5) (aB (aG (v:=zS a1 s_.length c2) rfl) (aD (aA ?_))))))
   cases zI hm
   exact bC (bA Tryz.results225 rfl ⟨a1,c2,rfl,f9⟩)
  obtain ⟨i5,g1,hm⟩:=aJ hm
  refine cP g1 (fun (a5:Int) f w=>f 0=zS a1 s_.length c2∧f 3=i64 a5∧aN G K (aK 2 K a1 c2 s_::L) w) ?_ ?_
  ·exact ⟨rfl,rfl,hs⟩
  ·rintro a5 b6 f i6 a0 d8 ⟨a8,b0,a3⟩
   replace a0:iE s_ a5=some b6:=a0
   unfold iE at a0
   refine aH (aH (aC (aB (aF b0) (aB (aF a8) (aB (bR (len:=s_.length) cG rfl) (aB (cK rfl rfl) (aD (aA ?_))))))))
   rcases aM a0 with ⟨c7,a0⟩|⟨c7,a0⟩
   ·refine aQ c7 rfl (aY (aA (aH (bJ (fun f w=>iC a5=some b6∧f 0=zS a1 s_.length c2∧f 3=i64 a5∧aN G K (aK 2 K a1 c2 s_::L) w) ?_ ?_))))
    ·rintro f i7 ⟨a0,g2,g3,g4⟩
     unfold iC at a0
     exact aA (aC (aB (aF g3) (aB (cY rfl rfl) (aB (aG (v:=i64 (wr (a5+1))) rfl) (aD (aA ⟨wr (a5+1),(zI a0).symm,g2,rfl,g4⟩))))))
    refine aH (cW (C:=fun w'=>aN G K (aK 2 K a1 c2 s_::L) w') bQ (by kernel_rfl) (aN.mono a3 (dE.drew _)) (aT (fun _ a3=>aF a8) (aT (fun _ a3=>aF b0) ?_)))
    obtain ⟨i8,c8,a0⟩:=aJ a0
    have b1:=dH a3 (i:=0) rfl c8
    refine aT (fun _ a3=>eY cG rfl b1 rfl rfl rfl c8) (aT (fun _ a3=>tQ (t:=0) dF a3 (i:=0) rfl c8 rfl rfl rfl) (aT (fun _ a3=>aF a8) (aT (fun _ a3=>aF b0) (aT (fun _ a3=>hY rfl rfl) ?_))))
    obtain ⟨i9,d9,a0⟩:=aJ a0
    refine aT (fun _ a3=>eY cG rfl b1 rfl rfl rfl d9) (aT (fun _ a3=>tQ (t:=0) dF a3 (i:=0) rfl d9 rfl rfl rfl) (aT (fun _ a3=>pB rfl rfl) (dD (fun j0 c9=>(aA ?_)))))
    rcases aM a0 with ⟨c45,a0⟩|⟨c45,a0⟩
    ·refine aQ c45 rfl (aH (aC (aB (aF a8) (aB (aF b0) ?_))))
     obtain ⟨b4,b7,a0⟩:=aJ a0
     have b8:=uY c9 (i:=0) rfl
     obtain ⟨d0,d1,b9⟩:=Cut.ex 1 a1 c2 a5
     refine aB (aGg cG b8 b9 rfl rfl rfl b7) (aB (aG (v:=zS d0 b4.length d1) rfl) (aD (aA (aH (aH (aC (aB (aG (v:=i64 1) rfl) (aD (aA (bJ (fun f w=>∃ (c0:List Int) (c1:Int),fX c0 c1=some b6∧f 0=zS a1 c0.length c2∧f 3=i64 c1∧aN G K (aK 2 K a1 c2 c0::L) w) ?_ ?_))))))))))
     ·rintro f j1 ⟨c0,c1,a0,e0,e1,e2⟩
      unfold fX at a0
      refine aA (aH (aC (aB (aF e0) (aB (aF e1) ?_))))
      obtain ⟨j2,g5,a0⟩:=aJ a0
      have g6:=uY e2 (i:=0) rfl
      obtain ⟨j3,j4,e3⟩:=Cut.ex 1 a1 c2 c1
      refine aB (aGg cG g6 e3 rfl rfl rfl g5) ?_
      obtain ⟨e4,q65,a0⟩:=aJ a0
      refine aHA cG sU rfl e2 (i:=0) rfl e3 rfl rfl q65 (fun e6 (e7:aN G K (aK 2 K a1 c2 e4::L) e6)=>(aD (aA (aH (aC (aB (aF (v:=zS a1 e4.length c2) (Eq.trans e0 (congrArg (fun n=>zS a1 n c2) (aGC q65)))) (aB (aF e1) ?_)))))))
      obtain ⟨d2,e8,a0⟩:=aJ a0
      have g7:=uY e7 (i:=0) rfl
      obtain ⟨d3,d4,e9⟩:=Cut.ex 1 a1 c2 0
      refine aB (aLF cG g7 e9 rfl rfl rfl e8) (aB (aG (v:=zS d3 d2.length d4) rfl) (aD (aA (bC (bN (aS (aS (aS ?_))))))))
      have g8:=d8 _ (zI a0).symm
      subst g8
      have hm:(some d2)=some R:=hm
      have g9:aN G K (aK 2 K d3 d4 d2::L) e6:=aN.cutP e7 (i:=0) rfl e8 e9
      cases zI hm
      exact bN (aS (aS (bA Tryz.results225 rfl ⟨d3,d4,rfl,g9⟩)))
     obtain ⟨j5,h1,a0⟩:=aJ a0
     refine cP h1 (fun (s:(List Int × Int × Int)) f w=>match s with|(a6,a7,a9)=>f 0=zS a1 a6.length c2∧f 3=i64 a7∧f 4=zS d0 b4.length d1∧f 5=i64 a9∧aN G K (aK 2 K a1 c2 a6::L) w) ?_ ?_
     ·exact ⟨a8,b0,rfl,rfl,c9⟩
     ·rintro ⟨a6,a7,a9⟩ f0 f j6 a2 h2 ⟨e95,c4,b2,b3,a4⟩
      replace a2:iD a5 b4 a6 a7 a9=some f0:=a2
      unfold iD at a2
      refine aH (aH (aC (aB (aF b3) (aB (aF b2) (aB (bR (len:=b4.length) cG rfl) (aB (cK rfl rfl) (aD (aA ?_))))))))
      rcases aM a2 with ⟨d5,a2⟩|⟨d5,a2⟩
      ·refine aQ d5 rfl (aY (aA (aH (bJ (fun f w=>∃ (b5:List Int) (c5:Int),fY a9 b5 c5=some f0∧f 0=zS a1 b5.length c2∧f 3=i64 c5∧f 4=zS d0 b4.length d1∧f 5=i64 a9∧aN G K (aK 2 K a1 c2 b5::L) w) ?_ ?_))))
       ·rintro f j7 ⟨b5,c5,a2,h3,h4,h5,h6,h7⟩
        unfold fY at a2
        exact aA (aC (aB (aF h6) (aB (cY rfl rfl) (aB (aG (v:=i64 (wr (a9+1))) rfl) (aD (aA ⟨(b5,c5,wr (a9+1)),(zI a2).symm,h3,h4,h5,rfl,h7⟩))))))
       refine aH (cW (C:=fun w'=>aN G K (aK 2 K a1 c2 a6::L) w') bQ (by kernel_rfl) (aN.mono a4 (dE.drew _)) (aT (fun _ a4=>aF b2) (aT (fun _ a4=>aF b3) ?_)))
       obtain ⟨j8,f1,a2⟩:=aJ a2
       obtain ⟨f2,f3,a2⟩:=aJ a2
       refine aT (fun _ a4=>aGI cG b1 b9 b7 b8 rfl rfl rfl f1 rfl) (aT (fun _ a4=>tQ (t:=0) dF a4 (i:=0) rfl f3 rfl rfl rfl) (aT (fun _ a4=>aF b2) (aT (fun _ a4=>aF b3) (aT (fun _ a4=>hY rfl rfl) ?_))))
       obtain ⟨j9,h8,a2⟩:=aJ a2
       obtain ⟨k0,h9,a2⟩:=aJ a2
       refine aT (fun _ a4=>aGI cG b1 b9 b7 b8 rfl rfl rfl h8 rfl) (aT (fun _ a4=>tQ (t:=0) dF a4 (i:=0) rfl h9 rfl rfl rfl) (aT (fun _ a4=>mO rfl rfl) (dD (fun k1 d6=>(aA ?_)))))
       rcases aM a2 with ⟨d7,a2⟩|⟨d7,a2⟩
       ·refine aQ d7 rfl (aH (aC (aB (aF e95) (aB (aF c4) (aB (aF b2) (aB (aF b3) (aB (aGI cG b1 b9 b7 b8 rfl rfl rfl f1 rfl) (aB (tQ (t:=0) dF d6 (i:=0) rfl f3 rfl rfl rfl) ?_))))))))
        obtain ⟨k2,f4,a2⟩:=aJ a2
        refine aB (eY cG rfl b1 rfl rfl rfl f4) ?_
        obtain ⟨f5,f6,a2⟩:=aJ a2
        exact rO (i:=0) (t:=0) (ns:=[i64 f2]) (e':=(f2:Int)) Tryz.sizeOf2 d6 rfl (zR _) rfl rfl rfl f4 f6 rfl rfl (eD rfl) rfl (fun cs h=>by cases h;rfl) (fun i0 (i1:aN G K (aK 2 K a1 c2 f5::L) i0)=>(aD (aA (aC (aB (aF c4) (aB (cY rfl rfl) (aB (aG (v:=i64 (wr (a7+1))) rfl) (aD (bO (aA ⟨f5,wr (a7+1),a2,(Eq.trans e95 (congrArg (fun n=>zS a1 n c2) (jM f6))),rfl,b2,b3,i1⟩))))))))))
       ·exact aO d7 rfl (aY (bO (aA ⟨a6,a7,a2,e95,c4,b2,b3,d6⟩)))
      ·refine aO d5 rfl (cN (bB (bB ?_)))
       have i2:=h2 _ (zI a2).symm
       subst i2
       have a0:(fX a6 a7)=some b6:=a0
       exact bS (aA ⟨a6,a7,a0,e95,c4,a4⟩)
    ·exact aO c45 rfl (aY (bO (aA ⟨a0,a8,b0,c9⟩)))
   ·refine aO c7 rfl (cN (bB (bB ?_)))
    have i3:=d8 _ (zI a0).symm
    subst i3
    have hm:(fW s_)=some R:=hm
    exact bS (aA ⟨hm,a8,a3⟩)
theorem aHi {t:cH} {states:(List Int)} {label:aZ} {R:(List Int)} (hs:aN G K (L) w) (h3:cJ K a1 c2 t.L) (h6:cJ K a4 c5 t.E) (h9:cJ K a7 c8 states) (hm:mQ t states label=some R):
  Calls Tryz.prog 181 ([zA (zCa t a1 c2 a4 c5),zS a7 states.length c8,cR label]:List Value).toArray w (gV fun v w'=>∃ (ra0:Option Addr) (rc0:Nat),v=zS ra0 R.length rc0∧aN G K (aK 2 K ra0 rc0 R::L) w'):=by
 refine aW Tryz.func181 rfl (by kernel_rfl) (by show (3:Nat)≤41;decide) ?_
 unfold mQ at hm
 refine aH (aC (fC (v:=zA (zCa t a1 c2 a4 c5)) (vs:=(zC t a1 c2 a4 c5)) hs rfl rfl (fun a6 j3 d8=>(aB (aG (v:=zS none 0 0) rfl) (aD (aA (aH (aC (aB (aG (v:=zS none 0 0) rfl) (aD (aA (aH (aH (aC (aB (bD (t':=3) eO rfl rfl) (aB (bY jQ d8 (i:=0) rfl rfl rfl) (aB (bR (len:=t.E.length) cZ rfl) (aB (aF (v:=i64 0) rfl) (aD (aA (bJ (fun f w=>∃ (b4:List Int) (b1:Option Addr) (b2:Nat),pR b4=some R∧f 7=zS b1 b4.length b2∧aN G K (aK 2 K b1 b2 b4::L) w) ?_ ?_)))))))))))))))))))))
 ·rintro f j4 ⟨b4,b1,b2,hm,d9,f4⟩
  unfold pR at hm
  refine aA (aH (aC (aB (aF d9) ?_)))
  obtain ⟨e0,f5,hm⟩:=aJ hm
  refine aX (vs:=[zS b1 b4.length b2]) Tryz.call182 rfl (aNi f4 f5) ?_
  rintro _ j5 ⟨rfl,f6,f7⟩
  refine aD (aA (aH (aC (aB (aF (v:=zS b1 e0.length b2) (Eq.trans d9 (congrArg (fun n=>zS b1 n b2) f6))) ?_))))
  obtain ⟨f8,f9,hm⟩:=aJ hm
  refine aX (vs:=[zS b1 e0.length b2]) Tryz.call225 rfl (tY f7 f9) ?_
  rintro _ j6 ⟨e1,e2,rfl,g0⟩
  refine aB (aG (v:=zS e1 f8.length e2) rfl) (aD (aA ?_))
  cases zI hm
  exact bC (bA Tryz.results181 rfl ⟨e1,e2,rfl,g0⟩)
 have g2:=aN.nil (α:=Int) d8 2 K
 obtain ⟨j7,g3,hm⟩:=aJ hm
 refine cP g3 (fun (s:(List Int × Int)) f w=>match s with|(a3,a8)=>∃ (a9:Option Addr) (b0:Nat),f 1=zS a7 states.length c8∧f 2=cR label∧f 3=zP (some ⟨a6,0,none⟩)∧f 7=zS a9 a3.length b0∧f 11=zS a4 t.E.length c5∧f 12=i64 (t.E.length:Int)∧f 13=i64 a8∧aN G K (aK 2 K a9 b0 a3::box a6 30 (zC t a1 c2 a4 c5)::L) w) ?_ ?_
 ·exact ⟨none,0,rfl,rfl,rfl,rfl,rfl,rfl,rfl,g2⟩
 ·rintro ⟨a3,a8⟩ c0 f j8 a0 g4 ⟨a9,b0,c1,c3,c4,c6,c7,c9,b7,d0⟩
  replace a0:mG t states label a3 a8=some c0:=a0
  unfold mG at a0
  refine aH (aC (aB (cK b7 c9) (aD (aA (aH ?_)))))
  rcases aM a0 with ⟨d1,a0⟩|⟨d1,a0⟩
  ·refine aQ d1 rfl (aY (aA (aH (bJ (fun f w=>∃ (b5:List Int) (b8:Option Addr) (b9:Nat),pS a8 b5=some c0∧f 1=zS a7 states.length c8∧f 2=cR label∧f 3=zP (some ⟨a6,0,none⟩)∧f 7=zS b8 b5.length b9∧f 11=zS a4 t.E.length c5∧f 12=i64 (t.E.length:Int)∧f 13=i64 a8∧aN G K (aK 2 K b8 b9 b5::box a6 30 (zC t a1 c2 a4 c5)::L) w) ?_ ?_))))
   ·rintro f j9 ⟨b5,b8,b9,a0,g5,g6,g7,g8,g9,h0,h1,h2⟩
    unfold pS at a0
    exact aA (aC (aB (cY h1 rfl) (aB (aF (v:=i64 (wr (a8+1))) rfl) (aD (aA ⟨(b5,wr (a8+1)),(zI a0).symm,b8,b9,g5,g6,g7,g8,g9,h0,rfl,h2⟩)))))
   refine aH (aC ?_)
   obtain ⟨a2,e3,a0⟩:=aJ a0
   refine aB (cV cZ rfl h6 c7 rfl b7 e3) ?_
   obtain ⟨k0,h4,h5⟩:=cJ.el (sz:=3) rfl h6 e3
   cases h5
   refine aB (iU (t:=0) (vs:=[i64 a2.F,i64 a2.B,i64 a2.To]) oC d0 h4 rfl rfl rfl) (cL (vs:=[i64 0,i64 0,i64 0]) Tryz.zeroValue63 d0 rfl (fun b6 k1 h7=>(cM (i:=0) (ns:=[i64 a2.F,i64 a2.B,i64 a2.To]) (us:=[i64 a2.F,i64 a2.B,i64 a2.To]) Tryz.sizeOf63 h7 rfl rfl rfl rfl rfl (eD rfl) rfl rfl (fun h8 (b3:aN G K (box b6 63 [i64 a2.F,i64 a2.B,i64 a2.To]::aK 2 K a9 b0 a3::box a6 30 (zC t a1 c2 a4 c5)::L) h8)=>(aD (aA (aH (cU (fun f w=>∃ (d2:Bool),pT a3 a8 a2 d2=some c0∧f 1=zS a7 states.length c8∧f 2=cR label∧f 3=zP (some ⟨a6,0,none⟩)∧f 7=zS a9 a3.length b0∧f 9=zP (some ⟨b6,0,none⟩)∧f 11=zS a4 t.E.length c5∧f 12=i64 (t.E.length:Int)∧f 13=i64 a8∧f 30=zB d2∧aN G K (box b6 63 [i64 a2.F,i64 a2.B,i64 a2.To]::aK 2 K a9 b0 a3::box a6 30 (zC t a1 c2 a4 c5)::L) w) ?_ ?_))))))))
   ·rintro f k2 ⟨d2,a0,e4,e5,e6,e7,i0,e8,e9,f0,f1,d3⟩
    unfold pT at a0
    refine aA ?_
    rcases aM a0 with ⟨d4,a0⟩|⟨d4,a0⟩
    ·refine aQ d4 f1 (aC (aB (aF e7) (aB (bD (t':=2) lY i0 rfl) (aB (bY dF d3 (i:=0) rfl rfl rfl) (dA (Kt:=K) (xs:=([a2.To]:List Int)) (cs:=[i64 a2.To]) (vs:=[(0,i64 a2.To)]) cG sU rfl rfl d3 rfl (by kernel_rfl) rfl rfl rfl ⟨rfl,trivial⟩ (fun i1 i2 (i3:aN G K (aK 2 K i1 1 ([a2.To]:List Int)::box b6 63 [i64 a2.F,i64 a2.B,i64 a2.To]::aK 2 K a9 b0 a3::box a6 30 (zC t a1 c2 a4 c5)::L) i2)=>?_))))))
     obtain ⟨d5,i4,a0⟩:=aJ a0
     exact jO (i:=1) cG Tryz.underlying31 sU rfl rfl i3 rfl (zR _) (zR _) i4 rfl rfl rfl rfl (fun _ h=>h) (fun d6 d7 i5 (i6:aN G K (box b6 63 [i64 a2.F,i64 a2.B,i64 a2.To]::aK 2 K d6 d7 d5::box a6 30 (zC t a1 c2 a4 c5)::L) i5)=>(aB (aG (v:=zS d6 d5.length d7) rfl) (aD (bO (aA ⟨d5,d6,d7,a0,e4,e5,e6,rfl,e8,e9,f0,(aN.arr 1 [] i6 rfl)⟩)))))
    ·exact aO d4 f1 (aY (bO (aA ⟨a3,a9,b0,a0,e4,e5,e6,e7,e8,e9,f0,(aN.arr 1 [] d3 rfl)⟩)))
   refine aC (aB (bD (t':=2) iO c4 rfl) (aB (bY jK b3 (i:=2) rfl rfl rfl) (aB (bD (t':=1) gO rfl rfl) (aB (bY dF b3 (i:=0) rfl rfl rfl) ?_))))
   obtain ⟨i7,f2,a0⟩:=aJ a0
   refine aB (cV cE rfl h3 rfl rfl rfl f2) ?_
   obtain ⟨k3,i8,i9⟩:=cJ.el (sz:=1) rfl h3 f2
   cases i9
   refine aB (bP (t:=0) qR b3 i8 rfl rfl) (aB (aF c3) (aB (aAJ rfl rfl) (aB (aF (v:=zB (i7 == label)) rfl) ?_)))
   rcases aM a0 with ⟨a5,a0⟩|⟨a5,a0⟩
   ·refine bK a5 rfl rfl (aB (aF c1) (bK a5 rfl rfl (aB (bD (t':=0) iX rfl rfl) (bK a5 rfl rfl (aB (bY dF b3 (i:=0) rfl rfl rfl) (bK a5 rfl rfl ?_))))))
    obtain ⟨f3,j0,a0⟩:=aJ a0
    refine aX (vs:=[zS a7 states.length c8,i64 a2.F]) Tryz.call106 rfl (kS b3 h9 j0) ?_
    rintro _ k4 ⟨rfl,j1⟩
    exact aB (bH (v:=zB f3) a5 rfl rfl) (aD (aA ⟨f3,a0,c1,c3,c4,c6,rfl,c7,c9,b7,rfl,j1⟩))
   ·exact bE a5 rfl rfl (bE a5 rfl rfl (bE a5 rfl rfl (bE a5 rfl rfl (aB (bL (v:=zB false) a5 rfl rfl) (aD (aA ⟨false,a0,c1,c3,c4,c6,rfl,c7,c9,b7,rfl,b3⟩))))))
  ·refine aO d1 rfl (cN (bB (bB ?_)))
   have j2:=g4 _ (zI a0).symm
   subst j2
   have hm:(pR a3)=some R:=hm
   exact bS (aA ⟨a3,a9,b0,hm,c6,(aN.arr 2 [0] d0 rfl)⟩)
theorem aIx {t:cH} {k:Int} {label:aZ} {R:Int} (hs:aN G K (L) w) (h3:cJ K a1 c2 t.L) (h6:cJ K a4 c5 t.E) (hm:sA t k label=some R):
  Calls Tryz.prog 135 ([zA (zCa t a1 c2 a4 c5),i64 k,cR label]:List Value).toArray w (gV fun v w'=>v=i64 R∧aN G K (L) w'):=by
 refine aW Tryz.func135 rfl (by kernel_rfl) (by show (3:Nat)≤21;decide) ?_
 unfold sA at hm
 refine aH (aC (fC (v:=zA (zCa t a1 c2 a4 c5)) (vs:=(zC t a1 c2 a4 c5)) hs rfl rfl (fun b7 w8 a3=>(aB (aG (v:=i64 0) rfl) (aD (aA (aH (aH (aC (aB (aF (v:=i64 k) rfl) (aB (cK rfl rfl) (aD (aA ?_)))))))))))))
 rcases aM hm with ⟨a5,hm⟩|⟨a5,hm⟩
 ·refine aQ a5 rfl (aH (aC (aB (aG (v:=i64 (-1)) rfl) (aD (aA ?_)))))
  cases zI hm
  exact bC (aS (bA Tryz.results135 rfl ⟨rfl,(aN.arr 1 [] a3 rfl)⟩))
 ·refine aO a5 rfl (aY (aA (aH (aH (aC (aB (dO (us:=(zC t a1 c2 a4 c5)) kE a3 (i:=0) rfl rfl rfl rfl) (aB (aF (v:=i64 k) rfl) (dA (Kt:=K) (xs:=([k]:List Int)) (cs:=[i64 k]) (vs:=[(0,i64 k)]) cG sU rfl rfl a3 rfl (by kernel_rfl) rfl rfl rfl ⟨rfl,trivial⟩ (fun b0 b4 (b5:aN G K (aK 2 K b0 1 ([k]:List Int)::box b7 30 (zC t a1 c2 a4 c5)::L) b4)=>(aB (aF (v:=cR label) rfl) ?_))))))))))
  obtain ⟨c8,b1,b6,hs18,b8⟩:=aN.lendS (i:=0) b5 (zR _) rfl
  obtain ⟨a0,b9,hm⟩:=aJ hm
  refine aX (vs:=[zA (zCa t a1 c2 a4 c5),zS b0 ([k]:List Int).length 1,cR label]) Tryz.call181 rfl (aHi hs18 (h3.mono b1) (h6.mono b1) b6 b9) ?_
  rintro _ c9 ⟨a6,a7,rfl,c0⟩
  have a2:=b8 _ _ c0
  refine aB (aG (v:=zS a6 a0.length a7) rfl) (aD (aA (aH (aC (aB (aF (v:=zS a6 a0.length a7) rfl) (aB (bR (len:=a0.length) cG rfl) (aB (lJ rfl rfl) (aD (aA ?_)))))))))
  rcases aM hm with ⟨a8,hm⟩|⟨a8,hm⟩
  ·refine aQ a8 rfl (aH (aC (aB (aF (v:=zS a6 a0.length a7) rfl) ?_)))
   obtain ⟨c1,a9,hm⟩:=aJ hm
   have c3:=dH a2 (i:=1) rfl a9
   refine aB (eY cG rfl c3 rfl rfl rfl a9) (aB (tQ (t:=0) dF a2 (i:=1) rfl a9 rfl rfl rfl) (aB (aG (v:=i64 c1) rfl) (aD (aA ?_))))
   cases zI hm
   exact bC (aS (bA Tryz.results135 rfl ⟨rfl,(aN.arr 3 [] a2 rfl)⟩))
  ·refine aO a8 rfl (aY (aA (aH (aC (aB (aG (v:=i64 (-1)) rfl) (aD (aA ?_)))))))
   cases zI hm
   exact bC (bA Tryz.results135 rfl ⟨rfl,(aN.arr 3 [] a2 rfl)⟩)
theorem aFk {t:cH} {k:Int} {R:(List Edge)} (hs:aN G K (L) w) (h3:cJ K a1 c2 t.L) (h6:cJ K a4 c5 t.E) (hm:tC t k=some R):
  Calls Tryz.prog 144 ([zA (zCa t a1 c2 a4 c5),i64 k]:List Value).toArray w (gV fun v w'=>∃ (ra0:Option Addr) (rc0:Nat),v=zS ra0 R.length rc0∧aN G K (aK 63 K ra0 rc0 R::L) w'):=by
 refine aW Tryz.func144 rfl (by kernel_rfl) (by show (2:Nat)≤25;decide) ?_
 unfold tC at hm
 refine aH (aC (fC (v:=zA (zCa t a1 c2 a4 c5)) (vs:=(zC t a1 c2 a4 c5)) hs rfl rfl (fun b7 w8 c9=>(aB (aG (v:=zS none 0 0) rfl) (aD (aA (aH (aC (aB (aG (v:=zS none 0 0) rfl) (aD (aA (aH (aH (aC (aB (bD (t':=3) eO rfl rfl) (aB (bY jQ c9 (i:=0) rfl rfl rfl) (aB (bR (len:=t.E.length) cZ rfl) (aB (aF (v:=i64 0) rfl) (aD (aA (bJ (fun f w=>∃ (a8:List Edge) (a9:Option Addr) (b0:Nat),xI a8=some R∧f 5=zS a9 a8.length b0∧aN G K (aK 63 K a9 b0 a8::L) w) ?_ ?_)))))))))))))))))))))
 ·rintro f f7 ⟨a8,a9,b0,hm,d2,d3⟩
  unfold xI at hm
  refine aA (aH (aC (aB (aF d2) (aB (aG (v:=zS a9 a8.length b0) rfl) (aD (aA ?_))))))
  cases zI hm
  exact bC (bA Tryz.results144 rfl ⟨a9,b0,rfl,d3⟩)
 have d5:=aN.nil (α:=Edge) c9 63 K
 obtain ⟨f8,d6,hm⟩:=aJ hm
 refine cP d6 (fun (s:(List Edge × Int)) f w=>match s with|(a3,a5)=>∃ (a6:Option Addr) (a7:Nat),f 1=i64 k∧f 5=zS a6 a3.length a7∧f 9=zS a4 t.E.length c5∧f 10=i64 (t.E.length:Int)∧f 11=i64 a5∧aN G K (aK 63 K a6 a7 a3::L) w) ?_ ?_
 ·exact ⟨none,0,rfl,rfl,rfl,rfl,rfl,(aN.arr 2 [0] d5 rfl)⟩
 ·rintro ⟨a3,a5⟩ d0 f f9 a2 d7 ⟨a6,a7,b6,e40,b8,b9,b2,c0⟩
  replace a2:tB t k a3 a5=some d0:=a2
  unfold tB at a2
  refine aH (aC (aB (cK b2 b9) (aD (aA (aH ?_)))))
  rcases aM a2 with ⟨c1,a2⟩|⟨c1,a2⟩
  ·refine aQ c1 rfl (aY (aA (aH (bJ (fun f w=>∃ (b1:List Edge) (b3:Option Addr) (b4:Nat),xJ a5 b1=some d0∧f 1=i64 k∧f 5=zS b3 b1.length b4∧f 9=zS a4 t.E.length c5∧f 10=i64 (t.E.length:Int)∧f 11=i64 a5∧aN G K (aK 63 K b3 b4 b1::L) w) ?_ ?_))))
   ·rintro f g0 ⟨b1,b3,b4,a2,d8,d9,e0,e1,e2,e3⟩
    unfold xJ at a2
    exact aA (aC (aB (cY e2 rfl) (aB (aF (v:=i64 (wr (a5+1))) rfl) (aD (aA ⟨(b1,wr (a5+1)),(zI a2).symm,b3,b4,d8,d9,e0,e1,rfl,e3⟩)))))
   refine aH (aC ?_)
   obtain ⟨a0,d1,a2⟩:=aJ a2
   refine aB (cV cZ rfl h6 b8 rfl b2 d1) ?_
   obtain ⟨g1,e4,e5⟩:=cJ.el (sz:=3) rfl h6 d1
   cases e5
   refine aB (iU (t:=0) (vs:=[i64 a0.F,i64 a0.B,i64 a0.To]) oC c0 e4 rfl rfl rfl) (cL (vs:=[i64 0,i64 0,i64 0]) Tryz.zeroValue63 c0 rfl (fun c3 g2 e6=>(cM (i:=0) (ns:=[i64 a0.F,i64 a0.B,i64 a0.To]) (us:=[i64 a0.F,i64 a0.B,i64 a0.To]) Tryz.sizeOf63 e6 rfl rfl rfl rfl rfl (eD rfl) rfl rfl (fun e7 (b5:aN G K (box c3 63 [i64 a0.F,i64 a0.B,i64 a0.To]::aK 63 K a6 a7 a3::L) e7)=>(aD (aA (aH (aC (aB (bD (t':=0) iX rfl rfl) (aB (bY dF b5 (i:=0) rfl rfl rfl) (aB (aF b6) (aB (pB rfl rfl) (aD (aA ?_))))))))))))))
   rcases aM a2 with ⟨c4,a2⟩|⟨c4,a2⟩
   ·refine aQ c4 rfl (aC (aB (aF e40) (aB (dO (us:=[i64 a0.F,i64 a0.B,i64 a0.To]) oC b5 (i:=0) rfl rfl rfl rfl) (dA (Kt:=K) (xs:=([a0]:List Edge)) (cs:=[i64 a0.F,i64 a0.B,i64 a0.To]) (vs:=[(0,zA #[i64 a0.F,i64 a0.B,i64 a0.To])]) cZ aAm rfl rfl b5 rfl (by kernel_rfl) rfl rfl rfl ⟨rfl,trivial⟩ (fun e8 e9 (f0:aN G K (aK 63 K e8 1 ([a0]:List Edge)::box c3 63 [i64 a0.F,i64 a0.B,i64 a0.To]::aK 63 K a6 a7 a3::L) e9)=>?_)))))
    obtain ⟨c6,f1,a2⟩:=aJ a2
    exact jO (i:=1) cZ Tryz.underlying28 aAm rfl rfl f0 rfl (zR _) (zR _) f1 rfl rfl rfl rfl (fun _ h=>h) (fun c7 c8 f2 (f3:aN G K (box c3 63 [i64 a0.F,i64 a0.B,i64 a0.To]::aK 63 K c7 c8 c6::L) f2)=>(aB (aG (v:=zS c7 c6.length c8) rfl) (aD (bO (aA ⟨c6,c7,c8,a2,b6,rfl,b8,b9,b2,(aN.arr 1 [] f3 rfl)⟩)))))
   ·exact aO c4 rfl (aY (bO (aA ⟨a3,a6,a7,a2,b6,e40,b8,b9,b2,(aN.arr 1 [] b5 rfl)⟩)))
  ·refine aO c1 rfl (cN (bB (bB ?_)))
   have f4:=d7 _ (zI a2).symm
   subst f4
   have hm:(xI a3)=some R:=hm
   exact bS (aA ⟨a3,a6,a7,hm,e40,c0⟩)
theorem wR {x_:(List Bool)} {count:Int} {R:(List Bool)} (hs:aN G K (L) w) (h3:cJ K a1 c2 x_) (hm:dX x_ count=some R):
  Calls Tryz.prog 57 ([zS a1 x_.length c2,i64 count]:List Value).toArray w (gV fun v w'=>∃ (ra0:Option Addr) (rc0:Nat),v=zS ra0 R.length rc0∧aN G K (aK 4 K ra0 rc0 R::L) w'):=by
 refine aW Tryz.func57 rfl (by kernel_rfl) (by show (2:Nat)≤48;decide) ?_
 unfold dX at hm
 refine aH (aC (aB (aG (v:=zS none 0 0) rfl) (aD (aA (aDz (fun f w=>gR x_ count=some R∧f 0=zS a1 x_.length c2∧f 1=i64 count∧aN G K (L) w) ?_ ?_)))))
 ·rintro f w6 ⟨hm,e4,e5,d2⟩
  unfold gR at hm
  refine aH (aC (aB (aF e4) (aB (bR (len:=x_.length) aCc rfl) (aB (aKX Tryz.runUnderlying138 rfl ⟨_,Tryz.runUnderlying3⟩) (aB (aF e5) (aB (aKX Tryz.runUnderlying138 rfl ⟨_,Tryz.runUnderlying3⟩) ?_))))))
  obtain ⟨r8,q9,hm⟩:=aJ hm
  refine aX (vs:=[Value.int .u64 (aHt (x_.length:Int)),Value.int .u64 (aHt count)]) Tryz.call105 rfl (lib_Mul d2 q9) ?_
  rintro _ f8 ⟨rfl,b8⟩
  refine aB (aF (v:=Value.tuple #[Value.int .u64 r8.1,Value.int .u64 r8.2]) rfl) (aB (bX rfl rfl) (aB (bX rfl rfl) (aB (aG (v:=Value.int .u64 r8.1) rfl) (aB (aG (v:=Value.int .u64 r8.2) rfl) (aD (aA (aDz (fun f w=>gQ x_ r8=some R∧f 0=zS a1 x_.length c2∧f 6=Value.int .u64 r8.2∧aN G K (L) w) ?_ ?_)))))))
  ·rintro f f9 ⟨hm,d4,d5,d6⟩
   unfold gQ at hm
   refine aH (aC (aB (aF d5) (aB (aML Tryz.runUnderlying3 rfl ⟨_,Tryz.runUnderlying138⟩) ?_)))
   obtain ⟨a0,d7,hm⟩:=aJ hm
   refine aKW (e:=(false:Bool)) aCc ez_4 rfl rfl d6 rfl rfl rfl d7 rfl (fun a2 d8 (b9:aN G K (aK 4 K a2 a0.length a0::L) d8)=>(aB (aG (v:=zS a2 a0.length a0.length) rfl) (aD (aA (aH (aC (aB (aF (v:=zS a2 a0.length a0.length) rfl) (aB (aF d4) ?_))))))))
   obtain ⟨d9,c0,hm⟩:=aJ hm
   refine aMX aCc rfl b9 (i:=0) rfl Cut.whole rfl rfl rfl (aLb _ _ _) aIX (aMY rfl b9 h3) c0 (fun e0 (e1:aN G K (aK 4 K a2 a0.length d9::L) e0)=>(aB (aG (v:=i64 ((Nat.min x_.length a0.length):Int)) rfl) (aD (aA (aH (bJ (fun f w=>∃ (a8:List Bool),gP a8=some R∧f 7=zS a2 a8.length a0.length∧aN G K (aK 4 K a2 a0.length a8::L) w) ?_ ?_))))))
   ·rintro f g0 ⟨a8,hm,e2,e3⟩
    unfold gP at hm
    refine aA (aH (aC (aB (aF e2) (aB (aG (v:=zS a2 a8.length a0.length) rfl) (aD (aA ?_))))))
    cases zI hm
    exact bC (bA Tryz.results57 rfl ⟨a2,a0.length,rfl,e3⟩)
   obtain ⟨g1,hl79,hm⟩:=aJ hm
   refine cP hl79 (fun (s:(List Bool × Int)) f w=>match s with|(a5,a7)=>f 7=zS a2 a5.length a0.length∧f 8=i64 a7∧aN G K (aK 4 K a2 a0.length a5::L) w) ?_ ?_
   ·exact ⟨(Eq.trans rfl (congrArg (fun n=>zS a2 n a0.length) (aGC c0))),rfl,e1⟩
   ·rintro ⟨a5,a7⟩ e6 f g2 a3 e7 ⟨a9,b0,b3⟩
    replace a3:fF a5 a7=some e6:=a3
    unfold fF at a3
    refine aH (aH (aC (aB (aF b0) (aB (aF a9) (aB (bR (len:=a5.length) aCc rfl) (aB (cK rfl rfl) (aD (aA ?_))))))))
    rcases aM a3 with ⟨b4,a3⟩|⟨b4,a3⟩
    ·refine aQ b4 rfl (aY (aA (cQ (hJ (C:=fun w'=>∃ L',aN G K L' w') [(0,0),(1,0),(2,0),(3,0),(4,0),(5,0),(6,0),(7,1),(8,0),(9,0)] bQ (by kernel_rfl) (fun _ hg=>⟨_,aN.mono b3 hg⟩) (fun g3 e8=>?_)))))
     have b1:=aN.mono b3 e8
     refine cD rfl (fun _ _=>aF b0) (cD rfl (fun _ _=>aF a9) (cD rfl (fun _ _=>aF b0) ?_))
     obtain ⟨c1,e9,a3⟩:=aJ a3
     have f0:=uY b1 (i:=0) rfl
     obtain ⟨g4,g5,c3⟩:=Cut.ex 1 a2 a0.length a7
     refine cD rfl (fun _ _=>aGg aCc f0 c3 rfl rfl rfl e9) (cD rfl (fun _ _=>aF a9) (cD rfl (fun _ _=>aF b0) ?_))
     obtain ⟨c4,c5,a3⟩:=aJ a3
     have f1:=uY b1 (i:=0) rfl
     obtain ⟨g6,g7,c6⟩:=Cut.ex 1 a2 a0.length 0
     refine cD rfl (fun _ _=>aLF aCc f1 c6 rfl rfl rfl c5) (nZ rfl ?_)
     obtain ⟨c7,c8,a3⟩:=aJ a3
     refine aMX aCc rfl b1 (i:=0) rfl c3 rfl rfl rfl (aLb _ _ _) aIX (aOo rfl b1 (i:=0) rfl c5 c6) c8 (fun f2 (c9:aN G K (aK 4 K a2 a0.length c7::L) f2)=>(aD (aA ⟨⟨_,c9⟩,?_⟩)))
     exact cD rfl (fun _ _=>cY rfl rfl) (cD rfl (fun _ _=>aG (v:=i64 (wr (a7+((Nat.min c4.length c1.length):Int)))) rfl) (qQ (bO (aA ⟨(c7,wr (a7+((Nat.min c4.length c1.length):Int))),(zI a3).symm,(Eq.trans a9 (congrArg (fun n=>zS a2 n a0.length) (aGC c8))),rfl,c9⟩))))
    ·refine aO b4 rfl (cN (bB (bB ?_)))
     have f3:=e7 _ (zI a3).symm
     subst f3
     have hm:(gP a5)=some R:=hm
     exact bS (aA ⟨a5,hm,a9,b3⟩)
  refine aH (cU (fun f w=>∃ (b5:Bool),fG x_ r8 b5=some R∧f 0=zS a1 x_.length c2∧f 6=Value.int .u64 r8.2∧f 26=zB b5∧aN G K (L) w) ?_ ?_)
  ·rintro f g8 ⟨b5,hm,f4,f5,d0,f6⟩
   unfold fG at hm
   refine aA ?_
   rcases aM hm with ⟨b6,hm⟩|⟨b6,hm⟩
   ·refine aQ b6 d0 (aC ?_)
    cases hm
   ·exact aO b6 d0 (aY (aA ⟨hm,f4,f5,f6⟩))
  refine aC (aB (aF (v:=Value.int .u64 r8.1) rfl) (aB (lJ rfl rfl) (aB (aF (v:=zB (decide (0 < r8.1))) rfl) ?_)))
  rcases aM hm with ⟨a6,hm⟩|⟨a6,hm⟩
  ·exact aV a6 rfl rfl (aV a6 rfl rfl (aB (bH (v:=zB true) a6 rfl rfl) (aD (aA ⟨true,hm,e4,rfl,rfl,b8⟩))))
  ·exact bI a6 rfl rfl (aB (aF (v:=Value.int .u64 r8.2) rfl) (bI a6 rfl rfl (aB (lJ rfl rfl) (aB (bL (v:=zB (decide (9223372036854775807 < r8.2))) a6 rfl rfl) (aD (aA ⟨decide (9223372036854775807 < r8.2),hm,e4,rfl,rfl,b8⟩))))))
 refine aH (aC (aB (aF (v:=i64 count) rfl) (aB (cK rfl rfl) (aD (aA ?_)))))
 rcases aM hm with ⟨b7,hm⟩|⟨b7,hm⟩
 ·refine aQ b7 rfl (aC ?_)
  cases hm
 ·exact aO b7 rfl (aY (aA ⟨hm,rfl,rfl,hs⟩))
end Gv
