/- Walks, printed by program. -/
import Derived.Test.YtnpdckpkipjngaaGreatDoorKLW
import Derived.Test.YtnpdckpkipjngaaGreatDoorKMd
set_option linter.all false
namespace Gv
open Go.Value renaming slice→zS,bool→zB
open Option.some renaming inj→zI
open Go Go.Proofs
set_option maxRecDepth 20000
set_option maxHeartbeats 40000000
variable {G:Env} {K:Hp} {L:List nD} {w:World} {a1 a4 a7:Option Addr} {c5 c8 c2:Nat}
theorem aKB {t:cH} {k2:Nat} {k:Int} {R:(List Edge)} (hs:aN G K (L) w) (h3:nY K a1 k2 (zC t a4 c5 a7 c8)) (h6:cJ K a4 c5 t.L) (h9:cJ K a7 c8 t.E) (hm:aCT t k=some R):
  Calls Tryz.prog 91 ([cS a1 k2,i64 k]:List Value).toArray w (gV fun v w'=>∃ (ra0:Option Addr) (rc0:Nat),v=zS ra0 R.length rc0∧aN G K (aK 63 K ra0 rc0 R::L) w'):=by
 refine aW Tryz.func91 rfl (by kernel_rfl) (by show (2:Nat)≤38;decide) ?_
 unfold aCT at hm
 refine aH (aC (aB (aG (v:=zS none 0 0) rfl) (aD (aA (aH (aC (dA (Kt:=K) (xs:=([]:List Edge)) (cs:=[]) (vs:=[]) cZ aAm rfl rfl hs rfl (by kernel_rfl) rfl rfl rfl trivial (fun b8 d1 (d2:aN G K (aK 63 K b8 0 ([]:List Edge)::L) d1)=>(aB (aG (v:=zS b8 ([]:List Edge).length 0) rfl) (aD (aA (aH (aH (aC (aB (aG (v:=i64 0) rfl) (aD (aA (bJ (fun f w=>∃ (b0:List Edge) (b1:Option Addr) (b2:Nat),aAp b0=some R∧f 5=zS b1 b0.length b2∧aN G K (aK 63 K b1 b2 b0::L) w) ?_ ?_))))))))))))))))))
 ·rintro f f1 ⟨b0,b1,b2,hm,d3,d4⟩
  unfold aAp at hm
  refine aA (aH (aC (aB (aF d3) (aB (aG (v:=zS b1 b0.length b2) rfl) (aD (aA ?_))))))
  cases zI hm
  exact bC (bA Tryz.results91 rfl ⟨b1,b2,rfl,d4⟩)
 obtain ⟨f2,d6,hm⟩:=aJ hm
 refine cP d6 (fun (s:(List Edge × Int)) f w=>match s with|(a3,a5)=>∃ (a8:Option Addr) (a9:Nat),f 0=cS a1 k2∧f 1=i64 k∧f 5=zS a8 a3.length a9∧f 6=i64 a5∧aN G K (aK 63 K a8 a9 a3::L) w) ?_ ?_
 ·exact ⟨b8,0,rfl,rfl,rfl,rfl,d2⟩
 ·rintro ⟨a3,a5⟩ d0 f f3 a0 d7 ⟨a8,a9,b3,b9,c0,b4,a6⟩
  replace a0:vV t k a3 a5=some d0:=a0
  unfold vV at a0
  refine aH (aH (aC (aB (aF b4) (aB (aF b3) (aB (eX rfl h3) (aB (dC (k':=k2+3) eO rfl h3 rfl) (aB (bP (t:=3) jQ a6 h3 rfl rfl) (aB (bR (len:=t.E.length) cZ rfl) (aB (cK rfl rfl) (aD (aA ?_)))))))))))
  rcases aM a0 with ⟨c1,a0⟩|⟨c1,a0⟩
  ·refine aQ c1 rfl (aY (aA (aH (bJ (fun f w=>∃ (b5:List Edge) (b6:Option Addr) (b7:Nat),aAq a5 b5=some d0∧f 0=cS a1 k2∧f 1=i64 k∧f 5=zS b6 b5.length b7∧f 6=i64 a5∧aN G K (aK 63 K b6 b7 b5::L) w) ?_ ?_))))
   ·rintro f f4 ⟨b5,b6,b7,a0,d8,d9,e0,e1,e2⟩
    unfold aAq at a0
    exact aA (aC (aB (aF e1) (aB (cY rfl rfl) (aB (aG (v:=i64 (wr (a5+1))) rfl) (aD (aA ⟨(b5,wr (a5+1)),(zI a0).symm,b6,b7,d8,d9,e0,rfl,e2⟩))))))
   refine aH (aC (aB (aF b3) (aB (eX rfl h3) (aB (dC (k':=k2+3) eO rfl h3 rfl) (aB (bP (t:=3) jQ a6 h3 rfl rfl) (aB (aF b4) ?_))))))
   obtain ⟨a2,c2,a0⟩:=aJ a0
   refine aB (cV cZ rfl h9 rfl rfl rfl c2) ?_
   obtain ⟨f5,c3,e3⟩:=cJ.el (sz:=3) rfl h9 c2
   cases e3
   refine aB (dC (k':=a5.toNat * 3+0) iX rfl c3 rfl) (aB (bP (t:=0) dF a6 c3 rfl rfl) (aB (aF b9) (aB (pB rfl rfl) (aD (aA ?_)))))
   rcases aM a0 with ⟨c4,a0⟩|⟨c4,a0⟩
   ·refine aQ c4 rfl (aC (aB (aF c0) (aB (aF b3) (aB (eX rfl h3) (aB (dC (k':=k2+3) eO rfl h3 rfl) (aB (bP (t:=3) jQ a6 h3 rfl rfl) (aB (aF b4) (aB (cV cZ rfl h9 rfl rfl rfl c2) (aB (iU (t:=0) (vs:=[i64 a2.F,i64 a2.B,i64 a2.To]) oC a6 c3 rfl rfl rfl) (dA (Kt:=K) (xs:=([a2]:List Edge)) (cs:=[i64 a2.F,i64 a2.B,i64 a2.To]) (vs:=[(0,Value.agg #[i64 a2.F,i64 a2.B,i64 a2.To])]) cZ aAm rfl rfl a6 rfl (by kernel_rfl) rfl rfl rfl ⟨rfl,trivial⟩ (fun e4 e5 (e6:aN G K (aK 63 K e4 1 ([a2]:List Edge)::aK 63 K a8 a9 a3::L) e5)=>?_)))))))))))
    obtain ⟨c6,e7,a0⟩:=aJ a0
    exact jO (i:=0) cZ Tryz.underlying28 aAm rfl rfl e6 rfl (Hp.le_refl _) (Hp.le_refl _) e7 rfl rfl rfl rfl (fun _ h=>h) (fun c7 c9 e8 (e9:aN G K (aK 63 K c7 c9 c6::L) e8)=>(aB (aG (v:=zS c7 c6.length c9) rfl) (aD (bO (aA ⟨c6,c7,c9,a0,b3,b9,rfl,b4,e9⟩)))))
   ·exact aO c4 rfl (aY (bO (aA ⟨a3,a8,a9,a0,b3,b9,c0,b4,a6⟩)))
  ·refine aO c1 rfl (cN (bB (bB ?_)))
   have f0:=d7 _ (zI a0).symm
   subst f0
   have hm:(aAp a3)=some R:=hm
   exact bS (aA ⟨a3,a8,a9,hm,c0,a6⟩)
theorem aKC {list:(List Int)} {n:Int} {R:Bool} (hs:aN G K (L) w) (h3:cJ K a1 c2 list) (hm:aAr list n=some R):
  Calls Tryz.prog 51 ([zS a1 list.length c2,i64 n]:List Value).toArray w (gV fun v w'=>v=zB R∧aN G K (L) w'):=by
 refine aW Tryz.func51 rfl (by kernel_rfl) (by show (2:Nat)≤18;decide) ?_
 unfold aAr at hm
 refine aH (aC (aB (aG (v:=zB false) rfl) (aD (aA (aH (aH (aC (aB (aG (v:=i64 0) rfl) (aD (aA (bJ (fun f w=>aCg=some R∧aN G K (L) w) ?_ ?_)))))))))))
 ·rintro f w4 ⟨hm,b1⟩
  unfold aCg at hm
  refine aA (aH (aC (aB (aG (v:=zB false) rfl) (aD (aA ?_)))))
  cases zI hm
  exact bC (bA Tryz.results51 rfl ⟨rfl,b1⟩)
 obtain ⟨c1,b3,hm⟩:=aJ hm
 refine cP b3 (fun (a2:Int) f w=>f 0=zS a1 list.length c2∧f 1=i64 n∧f 5=i64 a2∧aN G K (L) w) ?_ ?_
 ·exact ⟨rfl,rfl,rfl,hs⟩
 ·rintro a2 b4 f c3 a0 a8 ⟨a4,a9,a5,a3⟩
  replace a0:rV list n a2=some b4:=a0
  unfold rV at a0
  refine aH (aH (aC (aB (aF a5) (aB (aF a4) (aB (bR (len:=list.length) cG rfl) (aB (cK rfl rfl) (aD (aA ?_))))))))
  rcases aM a0 with ⟨a6,a0⟩|⟨a6,a0⟩
  ·refine aQ a6 rfl (aY (aA (aH (cQ (aH (aC (aB (aF a4) (aB (aF a5) ?_))))))))
   obtain ⟨c4,b0,a0⟩:=aJ a0
   refine aB (cV cG rfl h3 rfl rfl rfl b0) ?_
   obtain ⟨c5,b5,b6⟩:=cJ.el (sz:=1) rfl h3 b0
   cases b6
   refine aB (bP (t:=0) dF a3 b5 rfl rfl) (aB (aF a9) (aB (pB rfl rfl) (aD (aA ?_))))
   rcases aM a0 with ⟨a7,a0⟩|⟨a7,a0⟩
   ·refine aQ a7 rfl (aH (aC (aB (aG (v:=zB true) rfl) (aD (aA (bC (bN (aS (aS ?_)))))))))
    have b7:=a8 _ (zI a0).symm
    subst b7
    have hm:(some true)=some R:=hm
    cases zI hm
    exact bN (aS (aS (bA Tryz.results51 rfl ⟨rfl,a3⟩)))
   ·exact aO a7 rfl (aY (bO (aA (aC (aB (aF a5) (aB (cY rfl rfl) (aB (aG (v:=i64 (wr (a2+1))) rfl) (aD (aA ⟨wr (a2+1),(zI a0).symm,a4,a9,rfl,a3⟩)))))))))
  ·refine aO a6 rfl (cN (bB (bB ?_)))
   have b9:=a8 _ (zI a0).symm
   subst b9
   have hm:(aCg)=some R:=hm
   exact bS (aA ⟨hm,a3⟩)
theorem aJC {a:(List Int)} {b:(List Int)} {R:Bool} (hs:aN G K (L) w) (h3:cJ K a1 c2 a) (h6:cJ K a4 c5 b) (hm:vW a b=some R):
  Calls Tryz.prog 71 ([zS a1 a.length c2,zS a4 b.length c5]:List Value).toArray w (gV fun v w'=>v=zB R∧aN G K (L) w'):=by
 refine aW Tryz.func71 rfl (by kernel_rfl) (by show (2:Nat)≤26;decide) ?_
 unfold vW at hm
 refine aH (aC (aB (aG (v:=zB false) rfl) (aD (aA (aH (aH (aC (aB (aF (v:=zS a1 a.length c2) rfl) (aB (bR (len:=a.length) cG rfl) (aB (aF (v:=zS a4 b.length c5) rfl) (aB (bR (len:=b.length) cG rfl) (aB (mO rfl rfl) (aD (aA ?_))))))))))))))
 rcases aM hm with ⟨c7,hm⟩|⟨c7,hm⟩
 ·refine aQ c7 rfl (aH (aC (aB (aG (v:=zB false) rfl) (aD (aA ?_)))))
  cases zI hm
  exact bC (aS (bA Tryz.results71 rfl ⟨rfl,hs⟩))
 ·refine aO c7 rfl (aY (aA (aH (aH (aC (aB (aG (v:=i64 0) rfl) (aD (aA (bJ (fun f w=>aAY=some R∧aN G K (L) w) ?_ ?_)))))))))
  ·rintro f w9 ⟨hm,b6⟩
   unfold aAY at hm
   refine aA (aH (aC (aB (aG (v:=zB true) rfl) (aD (aA ?_)))))
   cases zI hm
   exact bC (bA Tryz.results71 rfl ⟨rfl,b6⟩)
  obtain ⟨d0,b8,hm⟩:=aJ hm
  refine cP b8 (fun (a3:Int) f w=>f 0=zS a1 a.length c2∧f 1=zS a4 b.length c5∧f 5=i64 a3∧aN G K (L) w) ?_ ?_
  ·exact ⟨rfl,rfl,rfl,hs⟩
  ·rintro a3 b9 f d1 a0 b0 ⟨a7,b1,a5,a2⟩
   replace a0:mP a b a3=some b9:=a0
   unfold mP at a0
   refine aH (aH (aC (aB (aF a5) (aB (aF a7) (aB (bR (len:=a.length) cG rfl) (aB (cK rfl rfl) (aD (aA ?_))))))))
   rcases aM a0 with ⟨a8,a0⟩|⟨a8,a0⟩
   ·refine aQ a8 rfl (aY (aA (aH (cQ (aH (cW (C:=fun w'=>aN G K (L) w') bQ (by kernel_rfl) (aN.mono a2 (dE.drew _)) (aT (fun _ a2=>aF a7) (aT (fun _ a2=>aF a5) ?_))))))))
    obtain ⟨d2,b2,a0⟩:=aJ a0
    refine aT (fun _ a2=>cV cG rfl h3 rfl rfl rfl b2) ?_
    obtain ⟨d3,c0,c1⟩:=cJ.el (sz:=1) rfl h3 b2
    cases c1
    refine aT (fun _ a2=>bP (t:=0) dF a2 c0 rfl rfl) (aT (fun _ a2=>aF b1) (aT (fun _ a2=>aF a5) ?_))
    obtain ⟨d4,b3,a0⟩:=aJ a0
    refine aT (fun _ a2=>cV cG rfl h6 rfl rfl rfl b3) ?_
    obtain ⟨d5,c3,c4⟩:=cJ.el (sz:=1) rfl h6 b3
    cases c4
    refine aT (fun _ a2=>bP (t:=0) dF a2 c3 rfl rfl) (aT (fun _ a2=>mO rfl rfl) (dD (fun d6 b4=>(aA ?_))))
    rcases aM a0 with ⟨a9,a0⟩|⟨a9,a0⟩
    ·refine aQ a9 rfl (aH (aC (aB (aG (v:=zB false) rfl) (aD (aA (bC (bN (aS (aS ?_)))))))))
     have c6:=b0 _ (zI a0).symm
     subst c6
     have hm:(some false)=some R:=hm
     cases zI hm
     exact bN (aS (aS (bA Tryz.results71 rfl ⟨rfl,b4⟩)))
    ·exact aO a9 rfl (aY (bO (aA (aC (aB (aF a5) (aB (cY rfl rfl) (aB (aG (v:=i64 (wr (a3+1))) rfl) (aD (aA ⟨wr (a3+1),(zI a0).symm,a7,b1,rfl,b4⟩)))))))))
   ·refine aO a8 rfl (cN (bB (bB ?_)))
    have c8:=b0 _ (zI a0).symm
    subst c8
    have hm:(aAY)=some R:=hm
    exact bS (aA ⟨hm,a2⟩)
end Gv
