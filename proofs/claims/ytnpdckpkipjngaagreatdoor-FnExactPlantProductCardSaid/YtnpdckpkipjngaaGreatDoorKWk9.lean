/- Walks, printed by program. -/
import Derived.Test.YtnpdckpkipjngaaGreatDoorKWk1
import Derived.Test.YtnpdckpkipjngaaGreatDoorKWk2
import Derived.Test.YtnpdckpkipjngaaGreatDoorKWk8
set_option linter.all false
namespace Gv
open Go.Value renaming slice→zS,bool→zB,pointer→zP,agg→zA
open Option.some renaming inj→zI
open Gv.Hp renaming le_trans→zL,le_refl→zR
open Go Go.Proofs
set_option maxRecDepth 20000
set_option maxHeartbeats 40000000
variable {G:Env} {K Kf:Hp} {L:List nD} {w:World} {a1 a4 a7 a10 a13 a16 a19 a22:Option Addr} {c5 c8 c2 c11 c14 c20 c23:Nat}
theorem aJL {t:cH} {k2:Nat} {k:Int} {label:Int} {R:(List Int)} (hs:aN G K (L) w) (h3:nY K a1 k2 (zC t a4 c5 a7 c8)) (h6:cJ K a4 c5 t.L) (h9:cJ K a7 c8 t.E) (hm:aDe t k label=some R):
  Calls Tryz.prog 139 ([cS a1 k2,i64 k,i64 label]:List Value).toArray w (gV fun v w'=>∃ (ra0:Option Addr) (rc0:Nat),v=zS ra0 R.length rc0∧aN G K (aK 2 K ra0 rc0 R::L) w'):=by
 refine aW Tryz.func139 rfl (by kernel_rfl) (by show (3:Nat)≤53;decide) ?_
 unfold aDe at hm
 refine aH (aC (aB (aG (v:=zS none 0 0) rfl) (aD (aA (aH (aC (dA (Kt:=K) (xs:=([]:List Int)) (cs:=[]) (vs:=[]) cG sU rfl rfl hs rfl (by kernel_rfl) rfl rfl rfl trivial (fun c1 e4 (e5:aN G K (aK 2 K c1 0 ([]:List Int)::L) e4)=>(aB (aG (v:=zS c1 ([]:List Int).length 0) rfl) (aD (aA (aH (aH (aC (aB (aG (v:=i64 0) rfl) (aD (aA (bJ (fun f w=>∃ (b0:List Int) (b1:Option Addr) (b2:Nat),xS b0=some R∧f 7=zS b1 b0.length b2∧aN G K (aK 2 K b1 b2 b0::L) w) ?_ ?_))))))))))))))))))
 ·rintro f g6 ⟨b0,b1,b2,hm,e6,e7⟩
  unfold xS at hm
  refine aA (aH (aC (aB (aF e6) (aB (aG (v:=zS b1 b0.length b2) rfl) (aD (aA ?_))))))
  cases zI hm
  exact bC (bA Tryz.results139 rfl ⟨b1,b2,rfl,e7⟩)
 obtain ⟨g7,e9,hm⟩:=aJ hm
 refine cP e9 (fun (s:(List Int × Int)) f w=>match s with|(a5,a3)=>∃ (a6:Option Addr) (a8:Nat),f 0=cS a1 k2∧f 1=i64 k∧f 2=i64 label∧f 7=zS a6 a5.length a8∧f 8=i64 a3∧aN G K (aK 2 K a6 a8 a5::L) w) ?_ ?_
 ·exact ⟨c1,0,rfl,rfl,rfl,rfl,rfl,e5⟩
 ·rintro ⟨a5,a3⟩ c2 f g8 a0 f0 ⟨a6,a8,b3,c3,c4,c6,b4,a9⟩
  replace a0:tG t k label a5 a3=some c2:=a0
  unfold tG at a0
  refine aH (aH (aC (aB (aF b4) (aB (aF b3) (aB (eX rfl h3) (aB (dC (k':=k2+3) eO rfl h3 rfl) (aB (bP (t:=3) jQ a9 h3 rfl rfl) (aB (bR (len:=t.E.length) cZ rfl) (aB (cK rfl rfl) (aD (aA ?_)))))))))))
  rcases aM a0 with ⟨c7,a0⟩|⟨c7,a0⟩
  ·refine aQ c7 rfl (aY (aA (aH (bJ (fun f w=>∃ (b5:List Int) (b6:Option Addr) (b7:Nat),xT a3 b5=some c2∧f 0=cS a1 k2∧f 1=i64 k∧f 2=i64 label∧f 7=zS b6 b5.length b7∧f 8=i64 a3∧aN G K (aK 2 K b6 b7 b5::L) w) ?_ ?_))))
   ·rintro f g9 ⟨b5,b6,b7,a0,f1,f2,f3,f4,f5,f6⟩
    unfold xT at a0
    exact aA (aC (aB (aF f5) (aB (cY rfl rfl) (aB (aG (v:=i64 (wr (a3+1))) rfl) (aD (aA ⟨(b5,wr (a3+1)),(zI a0).symm,b6,b7,f1,f2,f3,f4,rfl,f6⟩))))))
   refine aH (cU (fun f w=>∃ (c9:Bool),xU t a5 a3 c9=some c2∧f 0=cS a1 k2∧f 1=i64 k∧f 2=i64 label∧f 7=zS a6 a5.length a8∧f 8=i64 a3∧f 40=zB c9∧aN G K (aK 2 K a6 a8 a5::L) w) ?_ ?_)
   ·rintro f h0 ⟨c9,a0,d0,d8,d9,e0,d1,e1,b8⟩
    unfold xU at a0
    refine aA ?_
    rcases aM a0 with ⟨d2,a0⟩|⟨d2,a0⟩
    ·refine aQ d2 e1 (aC (aB (aF e0) (aB (aF d0) (aB (eX rfl h3) (aB (dC (k':=k2+3) eO rfl h3 rfl) (aB (bP (t:=3) jQ b8 h3 rfl rfl) (aB (aF d1) ?_)))))))
     obtain ⟨b9,e2,a0⟩:=aJ a0
     refine aB (cV cZ rfl h9 rfl rfl rfl e2) ?_
     obtain ⟨h1,e3,f7⟩:=cJ.el (sz:=3) rfl h9 e2
     cases f7
     refine aB (dC (k':=a3.toNat * 3+2) lY rfl e3 rfl) (aB (bP (t:=2) dF b8 e3 rfl rfl) (dA (Kt:=K) (xs:=([b9.To]:List Int)) (cs:=[i64 b9.To]) (vs:=[(0,i64 b9.To)]) cG sU rfl rfl b8 rfl (by kernel_rfl) rfl rfl rfl ⟨rfl,trivial⟩ (fun f8 f9 (g0:aN G K (aK 2 K f8 1 ([b9.To]:List Int)::aK 2 K a6 a8 a5::L) f9)=>?_)))
     obtain ⟨d3,g1,a0⟩:=aJ a0
     exact jO (i:=0) cG Tryz.underlying31 sU rfl rfl g0 rfl (zR _) (zR _) g1 rfl rfl rfl rfl (fun _ h=>h) (fun d4 d5 g2 (g3:aN G K (aK 2 K d4 d5 d3::L) g2)=>(aB (aG (v:=zS d4 d3.length d5) rfl) (aD (bO (aA ⟨d3,d4,d5,a0,d0,d8,d9,rfl,d1,g3⟩)))))
    ·exact aO d2 e1 (aY (bO (aA ⟨a5,a6,a8,a0,d0,d8,d9,e0,d1,b8⟩)))
   refine aC (aB (aF b3) (aB (eX rfl h3) (aB (dC (k':=k2+3) eO rfl h3 rfl) (aB (bP (t:=3) jQ a9 h3 rfl rfl) (aB (aF b4) ?_)))))
   obtain ⟨d6,d7,a0⟩:=aJ a0
   refine aB (cV cZ rfl h9 rfl rfl rfl d7) ?_
   obtain ⟨h2,c0,g4⟩:=cJ.el (sz:=3) rfl h9 d7
   cases g4
   refine aB (dC (k':=a3.toNat * 3+0) iX rfl c0 rfl) (aB (bP (t:=0) dF a9 c0 rfl rfl) (aB (aF c3) (aB (pB rfl rfl) (aB (aF (v:=zB (d6.F == k)) rfl) ?_))))
   rcases aM a0 with ⟨a2,a0⟩|⟨a2,a0⟩
   ·exact bK a2 rfl rfl (aB (aF b3) (bK a2 rfl rfl (aB (eX rfl h3) (bK a2 rfl rfl (aB (dC (k':=k2+3) eO rfl h3 rfl) (bK a2 rfl rfl (aB (bP (t:=3) jQ a9 h3 rfl rfl) (bK a2 rfl rfl (aB (aF b4) (bK a2 rfl rfl (aB (cV cZ rfl h9 rfl rfl rfl d7) (bK a2 rfl rfl (aB (dC (k':=a3.toNat * 3+1) gO rfl c0 rfl) (bK a2 rfl rfl (aB (bP (t:=1) dF a9 c0 rfl rfl) (bK a2 rfl rfl (aB (aF c4) (bK a2 rfl rfl (aB (pB rfl rfl) (aB (bH (v:=zB (d6.B == label)) a2 rfl rfl) (aD (aA ⟨d6.B == label,a0,b3,c3,c4,c6,b4,rfl,a9⟩))))))))))))))))))))))
   ·exact bE a2 rfl rfl (bE a2 rfl rfl (bE a2 rfl rfl (bE a2 rfl rfl (bE a2 rfl rfl (bE a2 rfl rfl (bE a2 rfl rfl (bE a2 rfl rfl (bE a2 rfl rfl (bE a2 rfl rfl (aB (bL (v:=zB false) a2 rfl rfl) (aD (aA ⟨false,a0,b3,c3,c4,c6,b4,rfl,a9⟩))))))))))))
  ·refine aO c7 rfl (cN (bB (bB ?_)))
   have g5:=f0 _ (zI a0).symm
   subst g5
   have hm:(xS a5)=some R:=hm
   exact bS (aA ⟨a5,a6,a8,hm,c6,a9⟩)
theorem aMi {d:cH} {k2:Nat} {k:Int} {label:aZ} {R:(Int × Bool)} (hs:aN G K (L) w) (h3:nY K a1 k2 (zC d a4 c5 a7 c8)) (h6:cJ K a4 c5 d.L) (h9:cJ K a7 c8 d.E) (hm:aGU d k label=some R):
  Calls Tryz.prog 92 ([cS a1 k2,i64 k,cR label]:List Value).toArray w (gV fun v w'=>v=Value.tuple #[i64 R.1,zB R.2]∧aN G K (L) w'):=by
 refine aW Tryz.func92 rfl (by kernel_rfl) (by show (3:Nat)≤29;decide) ?_
 unfold aGU at hm
 refine aH (aC (aB (aG (v:=i64 0) rfl) (aB (aG (v:=zB false) rfl) (aD (aA (aH (aC (aB (aF (v:=cS a1 k2) rfl) (aB (eX rfl h3) (aB (dC (k':=k2+2) iO rfl h3 rfl) (aB (bP (t:=2) jK hs h3 rfl rfl) (aB (aF (v:=cR label) rfl) ?_))))))))))))
 obtain ⟨a0,b2,hm⟩:=aJ hm
 refine aX (vs:=[zS a4 d.L.length c5,cR label]) Tryz.call138 rfl (aBQ hs h6 b2) ?_
 rintro _ b9 ⟨rfl,b1⟩
 refine aB (aG (v:=i64 a0) rfl) (aD (aA (aH (aH (aC (aB (aF (v:=i64 a0) rfl) (aB (cK rfl rfl) (aD (aA ?_)))))))))
 rcases aM hm with ⟨a5,hm⟩|⟨a5,hm⟩
 ·refine aQ a5 rfl (aH (aC (aB (aF (v:=i64 k) rfl) (aB (aG (v:=i64 k) rfl) (aB (aG (v:=zB true) rfl) (aD (aA ?_)))))))
  cases zI hm
  exact bC (aS (qO Tryz.results92 rfl rfl ⟨rfl,b1⟩))
 ·refine aO a5 rfl (aY (aA (aH (aC (aB (aF (v:=cS a1 k2) rfl) (aB (aF (v:=i64 k) rfl) (aB (aF (v:=i64 a0) rfl) ?_)))))))
  obtain ⟨a2,b4,hm⟩:=aJ hm
  refine aX (vs:=[cS a1 k2,i64 k,i64 a0]) Tryz.call139 rfl (aJL b1 h3 h6 h9 b4) ?_
  rintro _ c0 ⟨a6,a8,rfl,a3⟩
  refine aB (aG (v:=zS a6 a2.length a8) rfl) (aD (aA (aH (aH (aC (aB (aF (v:=zS a6 a2.length a8) rfl) (aB (bR (len:=a2.length) cG rfl) (aB (pB rfl rfl) (aD (aA ?_))))))))))
  rcases aM hm with ⟨a9,hm⟩|⟨a9,hm⟩
  ·refine aQ a9 rfl (aH (aC (aB (aG (v:=i64 0) rfl) (aB (aG (v:=zB false) rfl) (aD (aA ?_))))))
   cases zI hm
   exact bC (aS (qO Tryz.results92 rfl rfl ⟨rfl,(aN.arr 1 [] a3 rfl)⟩))
  ·refine aO a9 rfl (aY (aA (aH (aC (aB (aF (v:=zS a6 a2.length a8) rfl) ?_)))))
   obtain ⟨b6,b0,hm⟩:=aJ hm
   have b7:=dH a3 (i:=0) rfl b0
   refine aB (eY cG rfl b7 rfl rfl rfl b0) (aB (tQ (t:=0) dF a3 (i:=0) rfl b0 rfl rfl rfl) (aB (aG (v:=i64 b6) rfl) (aB (aG (v:=zB true) rfl) (aD (aA ?_)))))
   cases zI hm
   exact bC (qO Tryz.results92 rfl rfl ⟨rfl,(aN.arr 1 [] a3 rfl)⟩)
theorem aAh {rows:(List (List Int))} {row:(List Int)} {R:Int} (hs:aN G K (L) w) (h3:cJ K a1 c2 rows) (h6:cJ K a4 c5 row) (hm:xV rows row=some R):
  Calls Tryz.prog 93 ([zS a1 rows.length c2,zS a4 row.length c5]:List Value).toArray w (gV fun v w'=>v=i64 R∧aN G K (L) w'):=by
 refine aW Tryz.func93 rfl (by kernel_rfl) (by show (2:Nat)≤19;decide) ?_
 unfold xV at hm
 refine aH (aC (aB (aG (v:=i64 0) rfl) (aD (aA (aH (aH (aC (aB (aG (v:=i64 0) rfl) (aD (aA (bJ (fun f w=>aCu=some R∧aN G K (L) w) ?_ ?_)))))))))))
 ·rintro f w7 ⟨hm,b3⟩
  unfold aCu at hm
  refine aA (aH (aC (aB (aG (v:=i64 (-1)) rfl) (aD (aA ?_)))))
  cases zI hm
  exact bC (bA Tryz.results93 rfl ⟨rfl,b3⟩)
 obtain ⟨d0,b5,hm⟩:=aJ hm
 refine cP b5 (fun (a2:Int) f w=>f 0=zS a1 rows.length c2∧f 1=zS a4 row.length c5∧f 5=i64 a2∧aN G K (L) w) ?_ ?_
 ·exact ⟨rfl,rfl,rfl,hs⟩
 ·rintro a2 b6 f d1 a0 a9 ⟨a5,b0,a3,a6⟩
  replace a0:wD rows row a2=some b6:=a0
  unfold wD at a0
  refine aH (aH (aC (aB (aF a3) (aB (aF a5) (aB (bR (len:=rows.length) eQ rfl) (aB (cK rfl rfl) (aD (aA ?_))))))))
  rcases aM a0 with ⟨a7,a0⟩|⟨a7,a0⟩
  ·refine aQ a7 rfl (aY (aA (aH (cQ (aH (aC (aB (aF a5) (aB (aF a3) ?_))))))))
   obtain ⟨b7,b1,a0⟩:=aJ a0
   refine aB (cV eQ rfl h3 rfl rfl rfl b1) ?_
   obtain ⟨d2,b8,b9⟩:=cJ.el (sz:=1) rfl h3 b1
   obtain ⟨c0,c1,rfl,c3⟩:=b9
   refine aB (bP (t:=0) kD a6 b8 rfl rfl) (aB (aF b0) ?_)
   obtain ⟨d3,c4,a0⟩:=aJ a0
   refine aX (vs:=[zS c0 b7.length c1,zS a4 row.length c5]) Tryz.call71 rfl (aJC a6 c3 h6 c4) ?_
   rintro _ d4 ⟨rfl,b2⟩
   refine aD (aA ?_)
   rcases aM a0 with ⟨a8,a0⟩|⟨a8,a0⟩
   ·refine aQ a8 rfl (aH (aC (aB (aF a3) (aB (aG (v:=i64 a2) rfl) (aD (aA (bC (bN (aS (aS ?_))))))))))
    have c6:=a9 _ (zI a0).symm
    subst c6
    have hm:(some a2)=some R:=hm
    cases zI hm
    exact bN (aS (aS (bA Tryz.results93 rfl ⟨rfl,b2⟩)))
   ·exact aO a8 rfl (aY (bO (aA (aC (aB (aF a3) (aB (cY rfl rfl) (aB (aG (v:=i64 (wr (a2+1))) rfl) (aD (aA ⟨wr (a2+1),(zI a0).symm,a5,b0,rfl,b2⟩)))))))))
  ·refine aO a7 rfl (cN (bB (bB ?_)))
   have c8:=a9 _ (zI a0).symm
   subst c8
   have hm:(aCu)=some R:=hm
   exact bS (aA ⟨hm,a6⟩)
theorem aIB {p:cI} {k2:Nat} {d:cH} {k17:Nat} {R:((List (List Int)) × (List Edge) × Bool)} (hs:aN G K (L) w) (h3:nY K a1 k2 (zE p a4 c5 a7 c8 a10 c11 a13 c14)) (h6:cJ K a4 c5 p.S.L) (h9:cJ K a7 c8 p.S.E) (h12:cJ K a10 c11 p.M) (h15:cJ K a13 c14 p.C) (h18:nY K a16 k17 (zC d a19 c20 a22 c23)) (h21:cJ K a19 c20 d.L) (h24:cJ K a22 c23 d.E) (hm:aBJ p d=some R):
  Calls Tryz.prog 48 ([cS a1 k2,cS a16 k17]:List Value).toArray w (gV fun v w'=>∃ (K':Hp) (ra1:Option Addr) (rc1:Nat) (ra2:Option Addr) (rc2:Nat) (rb3:Nat),v=zP (some ⟨rb3,0,none⟩)∧Hp.le K K'∧aN G K' (aK 31 K' ra1 rc1 R.1::aK 63 K ra2 rc2 R.2.1::box rb3 84 [cS a1 k2,cS a16 k17,zS ra1 R.1.length rc1,zS ra2 R.2.1.length rc2,zB R.2.2]::L) w'):=by
 refine aW Tryz.func48 rfl (by kernel_rfl) (by show (2:Nat)≤149;decide) ?_
 unfold aBJ at hm
 refine aH (aC (aB (aG (v:=zP none) rfl) (aD (aA (aH (hJ (C:=fun w'=>∃ L',aN G K L' w') [(0,0),(1,0),(2,0),(3,0),(4,0),(5,0),(6,0),(7,0),(8,0),(9,0),(10,0),(11,1),(12,1),(13,0),(14,1),(15,0)] bQ (by kernel_rfl) (fun _ hg=>⟨_,aN.mono hs hg⟩) (fun z2 o3=>?_)))))))
 have g2:=aN.mono hs o3
 refine cD rfl (fun _ _=>aF (v:=cS a1 k2) rfl) (cD rfl (fun _ _=>aF (v:=cS a16 k17) rfl) (cD rfl (fun _ _=>aF (v:=cS a1 k2) rfl) (cD rfl (fun _ _=>eX rfl h3) (cD rfl (fun _ _=>dC (k':=k2+0) kK rfl h3 rfl) (cD rfl (fun _ _=>dC (k':=k2+1) wV rfl h3 rfl) (cD rfl (fun _ ⟨_,g2⟩=>bP (t:=1) dF g2 h3 rfl rfl) (cD rfl (fun _ _=>aF (v:=cS a16 k17) rfl) (cD rfl (fun _ _=>eX rfl h18) (cD rfl (fun _ _=>dC (k':=k17+1) wV rfl h18 rfl) (cD rfl (fun _ ⟨_,g2⟩=>bP (t:=1) dF g2 h18 rfl rfl) (nZ rfl (dA (Kt:=K) (xs:=([p.S.I,d.I]:List Int)) (cs:=[i64 p.S.I,i64 d.I]) (vs:=[(0,i64 p.S.I),(1,i64 d.I)]) cG sU rfl rfl g2 rfl (by kernel_rfl) rfl rfl rfl ⟨rfl,rfl,trivial⟩ (fun i3 m0 (m1:aN G K (aK 2 K i3 2 ([p.S.I,d.I]:List Int)::L) m0)=>(aD (aA ⟨⟨_,m1⟩,?_⟩)))))))))))))))
 refine nZ rfl ?_
 obtain ⟨e4,a8,o4,k1⟩:=aN.giveS (i:=0) m1 (zR _) rfl
 replace k1:aN G e4 (L) m0:=k1
 refine dA (Kt:=e4) (xs:=([([p.S.I,d.I]:List Int)]:List (List Int))) (cs:=[zS i3 ([p.S.I,d.I]:List Int).length 2]) (vs:=[(0,zS i3 ([p.S.I,d.I]:List Int).length 2)]) eQ yN rfl rfl k1 rfl (by kernel_rfl) rfl rfl rfl ⟨⟨i3,2,rfl,o4⟩,trivial⟩ (fun e9 o5 (m2:aN G e4 (aK 31 e4 e9 1 ([([p.S.I,d.I]:List Int)]:List (List Int))::L) o5)=>(aD (aA ⟨⟨_,(aN.weakK m2 a8)⟩,?_⟩)))
 refine cD rfl (fun _ _=>gW (vs:=[(0,cS a1 k2),(1,cS a16 k17),(2,zS e9 ([([p.S.I,d.I]:List Int)]:List (List Int)).length 1)]) (cs:=[cS a1 k2,cS a16 k17,zS e9 ([([p.S.I,d.I]:List Int)]:List (List Int)).length 1,zS none 0 0,zB false]) bs_84 rfl (by kernel_rfl)) (nZ rfl (fC (v:=zA #[cS a1 k2,cS a16 k17,zS e9 ([([p.S.I,d.I]:List Int)]:List (List Int)).length 1,zS none 0 0,zB false]) (vs:=[cS a1 k2,cS a16 k17,zS e9 ([([p.S.I,d.I]:List Int)]:List (List Int)).length 1,zS none 0 0,zB false]) m2 rfl rfl (fun a3 z3 m3=>(aD (aA ⟨⟨_,(aN.weakK m3 a8)⟩,?_⟩)))))
 refine cD rfl (fun _ _=>aG (v:=zP (some ⟨a3,0,none⟩)) rfl) (qQ (aA (aH (aH (aC (aB (aG (v:=i64 0) rfl) (aD (aA (bJ (fun f w=>∃ (d3:Hp) (b9:List (List Int)) (b5:List Edge) (c7:Option Addr) (c9:Nat) (d0:Option Addr) (d1:Nat),Hp.le e4 d3∧uS b9 b5=some R∧f 5=zP (some ⟨a3,0,none⟩)∧aN G d3 (aK 63 K d0 d1 b5::aK 31 d3 c7 c9 b9::box a3 84 [cS a1 k2,cS a16 k17,zS c7 b9.length c9,zS d0 b5.length d1,zB false]::L) w) ?_ ?_)))))))))
 ·rintro f z4 ⟨d3,b9,b5,c7,c9,d0,d1,o6,hm,g3,i4⟩
  unfold uS at hm
  refine aA (aH (cU (fun f w=>∃ (k3:Bool),uR b9 b5 k3=some R∧f 5=zP (some ⟨a3,0,none⟩)∧aN G d3 (aK 63 K d0 d1 b5::aK 31 d3 c7 c9 b9::box a3 84 [cS a1 k2,cS a16 k17,zS c7 b9.length c9,zS d0 b5.length d1,zB k3]::L) w) ?_ ?_))
  ·rintro f z5 ⟨k3,hm,o7,o8⟩
   unfold uR at hm
   refine aA (aH (aC (aB (aF o7) (aB (aG (v:=zP (some ⟨a3,0,none⟩)) rfl) (aD (aA ?_))))))
   cases zI hm
   exact bC (bA Tryz.results48 rfl ⟨d3,c7,c9,d0,d1,a3,rfl,(zL a8 o6),(aN.arr 2 [1,0] o8 rfl)⟩)
  refine aC (aB (aF g3) (aB (aF g3) (aB (eR rfl) (aB (bD (t':=2) qY rfl rfl) (aB (bY uD i4 (i:=2) rfl rfl rfl) (aB (bR (len:=b9.length) eQ rfl) (aB (lJ rfl rfl) (aB (aF (v:=zB (decide (40 < (b9.length:Int)))) rfl) ?_))))))))
  rcases aM hm with ⟨c0,hm⟩|⟨c0,hm⟩
  ·exact aV c0 rfl rfl (aV c0 rfl rfl (aV c0 rfl rfl (aV c0 rfl rfl (aV c0 rfl rfl (aV c0 rfl rfl (aB (bH (v:=zB true) c0 rfl rfl) (aB (eR rfl) (aB (bD (t':=4) aLH rfl rfl) (cM (i:=2) (ns:=[zB true]) (us:=[cS a1 k2,cS a16 k17,zS c7 b9.length c9,zS d0 b5.length d1,zB true]) Tryz.sizeOf4 i4 rfl rfl rfl rfl rfl (eD rfl) rfl rfl (fun p0 (p1:aN G d3 (aK 63 K d0 d1 b5::aK 31 d3 c7 c9 b9::box a3 84 [cS a1 k2,cS a16 k17,zS c7 b9.length c9,zS d0 b5.length d1,zB true]::L) p0)=>(aD (aA ⟨true,hm,g3,p1⟩))))))))))))
  ·refine bI c0 rfl rfl (aB (aF g3) (bI c0 rfl rfl (aB (eR rfl) (bI c0 rfl rfl (aB (bD (t':=3) aGK rfl rfl) (bI c0 rfl rfl (aB (bY jQ i4 (i:=2) rfl rfl rfl) (bI c0 rfl rfl (aB (bR (len:=b5.length) cZ rfl) (bI c0 rfl rfl (aB (lJ rfl rfl) (aB (bL (v:=zB (decide (300 < (b5.length:Int)))) c0 rfl rfl) (aB (eR rfl) (aB (bD (t':=4) aLH rfl rfl) (cM (i:=2) (ns:=[zB (decide (300 < (b5.length:Int)))]) (us:=[cS a1 k2,cS a16 k17,zS c7 b9.length c9,zS d0 b5.length d1,zB (decide (300 < (b5.length:Int)))]) Tryz.sizeOf4 i4 rfl rfl rfl rfl rfl (eD rfl) rfl rfl ?_)))))))))))))))
   intro p2 (p3:aN G d3 (aK 63 K d0 d1 b5::aK 31 d3 c7 c9 b9::box a3 84 [cS a1 k2,cS a16 k17,zS c7 b9.length c9,zS d0 b5.length d1,zB (decide (300 < (b5.length:Int)))]::L) p2)
   exact aD (aA ⟨decide (300 < (b5.length:Int)),hm,g3,p3⟩)
 have p4:=aN.nil (α:=Edge) m3 63 K
 obtain ⟨z6,p5,hm⟩:=aJ hm
 refine cP p5 (fun (s:(List (List Int) × List Edge × Int)) f w=>match s with|(e5,f0,a9)=>∃ (d6:Hp) (g4:Option Addr) (g5:Nat) (g6:Option Addr) (g7:Nat),Hp.le e4 d6∧f 0=cS a1 k2∧f 1=cS a16 k17∧f 5=zP (some ⟨a3,0,none⟩)∧f 6=i64 a9∧aN G d6 (aK 63 K g6 g7 f0::box a3 84 [cS a1 k2,cS a16 k17,zS g4 e5.length g5,zS g6 f0.length g7,zB false]::aK 31 d6 g4 g5 e5::L) w) ?_ ?_
 ·exact ⟨e4,e9,1,none,0,(zR _),rfl,rfl,rfl,rfl,p4⟩
 ·rintro ⟨e5,f0,a9⟩ i5 f z7 a5 p6 ⟨d6,g4,g5,g6,g7,b0,m4,p7,i6,k4,k5⟩
  replace a5:qL p d e5 f0 a9=some i5:=a5
  unfold qL at a5
  refine aH (aH (aC (aB (aF k4) (aB (aF i6) (aB (eR rfl) (aB (bD (t':=2) qY rfl rfl) (aB (bY uD k5 (i:=1) rfl rfl rfl) (aB (bR (len:=e5.length) eQ rfl) (aB (cK rfl rfl) (aD (aA ?_)))))))))))
  rcases aM a5 with ⟨k6,a5⟩|⟨k6,a5⟩
  ·refine aQ k6 rfl (aY (aA (aH (bJ (fun f w=>∃ (g8:Hp) (g9:List (List Int)) (h0:List Edge) (i7:Option Addr) (i8:Nat) (i9:Option Addr) (j0:Nat),Hp.le d6 g8∧aCH a9 g9 h0=some i5∧f 0=cS a1 k2∧f 1=cS a16 k17∧f 5=zP (some ⟨a3,0,none⟩)∧f 6=i64 a9∧aN G g8 (aK 63 K i9 j0 h0::aK 31 g8 i7 i8 g9::box a3 84 [cS a1 k2,cS a16 k17,zS i7 g9.length i8,zS i9 h0.length j0,zB false]::L) w) ?_ ?_))))
   ·rintro f z8 ⟨g8,g9,h0,i7,i8,i9,j0,p8,a5,p9,q0,q1,q2,q3⟩
    unfold aCH at a5
    exact aA (aC (aB (aF q2) (aB (cY rfl rfl) (aB (aG (v:=i64 (wr (a9+1))) rfl) (aD (aA ⟨(g9,h0,wr (a9+1)),(zI a5).symm,g8,i7,i8,i9,j0,(zL b0 p8),p9,q0,q1,rfl,(aN.arr 3 [0,2,1] q3 rfl)⟩))))))
   refine aH ?_
   obtain ⟨z9,f1,q4,q5,q6⟩:=aN.lendB (i:=1) k5 rfl
   obtain ⟨q7,f2,m5,m6,q8⟩:=aN.lendS (i:=1) q5 f1 rfl
   refine hJ (C:=fun w'=>∃ L',aN G q7 L' w') [(0,0),(1,0),(2,0),(3,0),(4,0),(5,0),(6,0),(7,0),(8,0),(9,0),(10,0),(11,0),(12,1),(13,0)] bQ (by kernel_rfl) (fun _ hg=>⟨_,aN.mono m6 hg⟩) (fun a00 q9=>?_)
   have e6:=aN.mono m6 q9
   refine cD rfl (fun _ _=>aF m4) (cD rfl (fun _ _=>eX rfl (h3.mono (zL (zL (zL a8 b0) f1) f2))) (cD rfl (fun _ _=>dC (k':=k2+0) kK rfl (h3.mono (zL (zL (zL a8 b0) f1) f2)) rfl) (cD rfl (fun _ _=>aF i6) (cD rfl (fun _ _=>eR rfl) (cD rfl (fun _ _=>bD (t':=2) qY rfl rfl) (cD rfl (fun _ ⟨_,e6⟩=>bP (t:=2) uD e6 (q4.mono f2) rfl rfl) (cD rfl (fun _ _=>aF k4) ?_)))))))
   obtain ⟨a01,k7,a5⟩:=aJ a5
   have r0:=aFs m5 k7
   refine cD rfl (fun _ _=>eY eQ rfl r0 rfl rfl rfl k7) ?_
   obtain ⟨a02,r1,r2⟩:=cJ.el (sz:=1) rfl m5 k7
   obtain ⟨a03,a04,rfl,m7⟩:=r2
   refine cD rfl (fun _ ⟨_,e6⟩=>bP (t:=0) kD e6 r1 rfl rfl) ?_
   obtain ⟨r3,m8,a5⟩:=aJ a5
   refine cD rfl (fun _ _=>cV cG rfl m7 rfl rfl rfl m8) ?_
   obtain ⟨a05,r4,r5⟩:=cJ.el (sz:=1) rfl m7 m8
   cases r5
   refine cD rfl (fun _ ⟨_,e6⟩=>bP (t:=0) dF e6 r4 rfl rfl) (nZ rfl ?_)
   obtain ⟨b7,r6,a5⟩:=aJ a5
   refine aX (vs:=[cS a1 (k2+0),i64 r3]) Tryz.call91 rfl (aKB e6 (nY.sub (t:=0) (m:=4) (h3.mono (zL (zL (zL a8 b0) f1) f2)) rfl) (h6.mono (zL (zL (zL a8 b0) f1) f2)) (h9.mono (zL (zL (zL a8 b0) f1) f2)) r6) ?_
   rintro _ a06 ⟨c3,c4,rfl,m9⟩
   refine aD (aA ⟨⟨_,m9⟩,?_⟩)
   refine cD rfl (fun _ _=>aG (v:=zS c3 b7.length c4) rfl) (qQ ?_)
   have r7:=q8 _ _ m9
   have r8:=q6 _ _ r7
   refine aA (aH (aC (aB (aG (v:=i64 0) rfl) (aD (aA (bJ (fun f w=>∃ (h1:Hp) (h2:List (List Int)) (h4:List Edge) (j1:Option Addr) (j2:Nat) (j3:Option Addr) (j4:Nat),Hp.le d6 h1∧aAe a9 h2 h4=some i5∧f 0=cS a1 k2∧f 1=cS a16 k17∧f 5=zP (some ⟨a3,0,none⟩)∧f 6=i64 a9∧aN G h1 (aK 63 K j3 j4 h4::aK 31 h1 j1 j2 h2::box a3 84 [cS a1 k2,cS a16 k17,zS j1 h2.length j2,zS j3 h4.length j4,zB false]::L) w) ?_ ?_))))))
   ·rintro f a07 ⟨h1,h2,h4,j1,j2,j3,j4,r9,a5,s0,s1,s2,s3,s4⟩
    unfold aAe at a5
    exact bO (aA ⟨h1,h2,h4,j1,j2,j3,j4,r9,a5,s0,s1,s2,s3,s4⟩)
   obtain ⟨a08,s5,a5⟩:=aJ a5
   refine cP s5 (fun (s:(List (List Int) × List Edge × Int)) f w=>match s with|(b3,a6,d2)=>∃ (c6:Hp) (c1:Option Addr) (c2:Nat) (b1:Option Addr) (b2:Nat),Hp.le d6 c6∧f 0=cS a1 k2∧f 1=cS a16 k17∧f 5=zP (some ⟨a3,0,none⟩)∧f 6=i64 a9∧f 7=zS c3 b7.length c4∧f 8=i64 d2∧aN G c6 (box a3 84 [cS a1 k2,cS a16 k17,zS c1 b3.length c2,zS b1 a6.length b2,zB false]::aK 31 c6 c1 c2 b3::aK 63 K c3 c4 b7::aK 63 K b1 b2 a6::L) w) ?_ ?_
   ·exact ⟨d6,g4,g5,g6,g7,(zR _),m4,p7,i6,k4,rfl,rfl,r8⟩
   ·rintro ⟨b3,a6,d2⟩ k8 f a09 a0 s6 ⟨c6,c1,c2,b1,b2,b8,h5,h7,d7,h8,f3,f4,n0⟩
    replace a0:nS p d a9 b7 b3 a6 d2=some k8:=a0
    unfold nS at a0
    refine aH (aH (aC (aB (aF f4) (aB (aF f3) (aB (bR (len:=b7.length) cZ rfl) (aB (cK rfl rfl) (aD (aA ?_))))))))
    rcases aM a0 with ⟨k9,a0⟩|⟨k9,a0⟩
    ·refine aQ k9 rfl (aY (aA (aH (bJ (fun f w=>∃ (i0:Hp) (i1:List (List Int)) (i2:List Edge) (j5:Option Addr) (j6:Nat) (j7:Option Addr) (j8:Nat),Hp.le c6 i0∧nR d2 i1 i2=some k8∧f 0=cS a1 k2∧f 1=cS a16 k17∧f 5=zP (some ⟨a3,0,none⟩)∧f 6=i64 a9∧f 7=zS c3 b7.length c4∧f 8=i64 d2∧aN G i0 (box a3 84 [cS a1 k2,cS a16 k17,zS j5 i1.length j6,zS j7 i2.length j8,zB false]::aK 31 i0 j5 j6 i1::aK 63 K c3 c4 b7::aK 63 K j7 j8 i2::L) w) ?_ ?_))))
     ·rintro f a11 ⟨i0,i1,i2,j5,j6,j7,j8,s7,a0,s8,s9,t0,t1,t2,t3,t4⟩
      unfold nR at a0
      exact aA (aC (aB (aF t3) (aB (cY rfl rfl) (aB (aG (v:=i64 (wr (d2+1))) rfl) (aD (aA ⟨(i1,i2,wr (d2+1)),(zI a0).symm,i0,j5,j6,j7,j8,(zL b8 s7),s8,s9,t0,t1,t2,rfl,t4⟩))))))
     refine aH ?_
     obtain ⟨t5,d8,n1,a2,t6⟩:=aN.lendS (i:=1) n0 (zR _) rfl
     refine cW (C:=fun w'=>aN G t5 (box a3 84 [cS a1 k2,cS a16 k17,zS c1 b3.length c2,zS b1 a6.length b2,zB false]::aK 63 K c3 c4 b7::aK 63 K b1 b2 a6::L) w') bQ (by kernel_rfl) (aN.mono a2 (dE.drew _)) (aT (fun _ a2=>aF h7) (aT (fun _ a2=>aF d7) (aT (fun _ a2=>eR rfl) (aT (fun _ a2=>bD (t':=2) qY rfl rfl) (aT (fun _ a2=>bY uD a2 (i:=0) rfl rfl rfl) (aT (fun _ a2=>aF h8) ?_))))))
     obtain ⟨a12,l0,a0⟩:=aJ a0
     have t7:=aFs n1 l0
     refine aT (fun _ a2=>eY eQ rfl t7 rfl rfl rfl l0) ?_
     obtain ⟨a14,t8,t9⟩:=cJ.el (sz:=1) rfl n1 l0
     obtain ⟨a15,a17,rfl,n2⟩:=t9
     refine aT (fun _ a2=>bP (t:=0) kD a2 t8 rfl rfl) ?_
     obtain ⟨u0,n3,a0⟩:=aJ a0
     refine aT (fun _ a2=>cV cG rfl n2 rfl rfl rfl n3) ?_
     obtain ⟨a18,u1,u2⟩:=cJ.el (sz:=1) rfl n2 n3
     cases u2
     refine aT (fun _ a2=>bP (t:=0) dF a2 u1 rfl rfl) (aT (fun _ a2=>aF h5) (aT (fun _ a2=>eX rfl (h3.mono (zL (zL (zL a8 b0) b8) d8))) (aT (fun _ a2=>dC (k':=k2+0) kK rfl (h3.mono (zL (zL (zL a8 b0) b8) d8)) rfl) (aT (fun _ a2=>dC (k':=k2+2) iO rfl (h3.mono (zL (zL (zL a8 b0) b8) d8)) rfl) (aT (fun _ a2=>bP (t:=2) jK a2 (h3.mono (zL (zL (zL a8 b0) b8) d8)) rfl rfl) (aT (fun _ a2=>aF f3) (aT (fun _ a2=>aF f4) ?_)))))))
     obtain ⟨b6,e7,a0⟩:=aJ a0
     have f5:=dH a2 (i:=1) rfl e7
     refine aT (fun _ a2=>eY cZ rfl f5 rfl rfl rfl e7) (aT (fun _ a2=>aHw (k':=d2.toNat * 3+1) gO f5 rfl rfl) (aT (fun _ a2=>tQ (t:=1) dF a2 (i:=1) rfl e7 rfl rfl rfl) ?_))
     obtain ⟨u3,n4,a0⟩:=aJ a0
     refine aT (fun _ a2=>cV cE rfl (h6.mono (zL (zL (zL a8 b0) b8) d8)) rfl rfl rfl n4) ?_
     obtain ⟨a20,u4,u5⟩:=cJ.el (sz:=1) rfl h6 n4
     cases u5
     refine aT (fun _ a2=>bP (t:=0) qR a2 (u4.mono (zL (zL (zL a8 b0) b8) d8)) rfl rfl) ?_
     obtain ⟨b4,u6,a0⟩:=aJ a0
     refine iV (vs:=[cS a16 k17,i64 u0,cR u3]) (v:=Value.tuple #[i64 b4.1,zB b4.2]) Tryz.call92 rfl (fun _ a2=>(aMi a2 (h18.mono (zL (zL (zL a8 b0) b8) d8)) (h21.mono (zL (zL (zL a8 b0) b8) d8)) (h24.mono (zL (zL (zL a8 b0) b8) d8)) u6)) (aT (fun _ a2=>aF (v:=Value.tuple #[i64 b4.1,zB b4.2]) rfl) (aT (fun _ a2=>bX rfl rfl) (aT (fun _ a2=>bX rfl rfl) (aT (fun _ a2=>aG (v:=i64 b4.1) rfl) (aT (fun _ a2=>aG (v:=zB b4.2) rfl) (dD (fun a21 u7=>?_)))))))
     have l1:=t6 _ _ u7
     refine aA (aH (aH (aC (aB (aF (v:=zB b4.2) rfl) (aB (eP rfl) (aD (aA ?_)))))))
     rcases aM a0 with ⟨l2,a0⟩|⟨l2,a0⟩
     ·exact aQ l2 rfl (cN (bB (bS (aA ⟨c6,b3,a6,c1,c2,b1,b2,(zR _),a0,h5,h7,d7,h8,f3,f4,(aN.arr 2 [1,0] l1 rfl)⟩))))
     ·refine aO l2 rfl (aY (aA (aH (aC (aB (aF f3) (aB (aF f4) (aB (eY cZ rfl f5 rfl rfl rfl e7) (aB (aHw (k':=d2.toNat * 3+2) lY f5 rfl rfl) (aB (tQ (t:=2) dF l1 (i:=2) rfl e7 rfl rfl rfl) (aB (aF (v:=i64 b4.1) rfl) (dA (Kt:=K) (xs:=([b6.To,b4.1]:List Int)) (cs:=[i64 b6.To,i64 b4.1]) (vs:=[(0,i64 b6.To),(1,i64 b4.1)]) cG sU rfl rfl l1 rfl (by kernel_rfl) rfl rfl rfl ⟨rfl,rfl,trivial⟩ (fun e3 u8 (n5:aN G c6 (aK 2 K e3 2 ([b6.To,b4.1]:List Int)::aK 31 c6 c1 c2 b3::box a3 84 [cS a1 k2,cS a16 k17,zS c1 b3.length c2,zS b1 a6.length b2,zB false]::aK 63 K c3 c4 b7::aK 63 K b1 b2 a6::L) u8)=>(aB (aG (v:=zS e3 ([b6.To,b4.1]:List Int).length 2) rfl) (aD (aA (aH (aC (aB (aF d7) (aB (eR rfl) (aB (bD (t':=2) qY rfl rfl) (aB (bY uD n5 (i:=2) rfl rfl rfl) (aB (aF (v:=zS e3 ([b6.To,b4.1]:List Int).length 2) rfl) ?_))))))))))))))))))))))
      obtain ⟨a23,u9,v0,v1,v2⟩:=aN.lendS (i:=1) n5 (zR _) rfl
      obtain ⟨a24,v3,v4,v5,v6⟩:=aN.lendS (i:=0) v1 (zL (zL (zL a8 b0) b8) u9) rfl
      obtain ⟨l3,v7,a0⟩:=aJ a0
      refine aX (vs:=[zS c1 b3.length c2,zS e3 ([b6.To,b4.1]:List Int).length 2]) Tryz.call93 rfl (aAh v5 (v0.mono v3) v4 v7) ?_
      rintro _ v8 ⟨rfl,v9⟩
      have w0:=v6 _ _ v9
      have j9:=v2 _ _ w0
      refine aB (aG (v:=i64 l3) rfl) (aD (aA (aDz (fun f w=>∃ (d9:Hp) (d4:List (List Int)) (e0:Int) (e1:Option Addr) (e2:Nat),Hp.le c6 d9∧uT a9 a6 d2 b6 d4 e0=some k8∧f 0=cS a1 k2∧f 1=cS a16 k17∧f 5=zP (some ⟨a3,0,none⟩)∧f 6=i64 a9∧f 7=zS c3 b7.length c4∧f 8=i64 d2∧f 12=i64 e0∧aN G d9 (aK 31 d9 e1 e2 d4::box a3 84 [cS a1 k2,cS a16 k17,zS e1 d4.length e2,zS b1 a6.length b2,zB false]::aK 63 K c3 c4 b7::aK 63 K b1 b2 a6::L) w) ?_ ?_)))
      ·rintro f a25 ⟨d9,d4,e0,e1,e2,k0,a0,w1,w2,l4,n6,n7,n8,w3,w4⟩
       unfold uT at a0
       obtain ⟨a26,l5,w5,w6,w7⟩:=aN.lendB (i:=1) w4 rfl
       obtain ⟨l6,l7,w8,n9,w9⟩:=aN.lendS (i:=1) w6 (zL (zL (zL (zL a8 b0) b8) k0) l5) rfl
       refine hJ (C:=fun w'=>∃ L',aN G l6 L' w') [(0,0),(1,0),(2,0),(3,0),(4,0),(5,0),(6,0),(7,0),(8,0),(9,0),(10,0),(11,1),(12,1),(13,1),(14,1),(15,2),(16,2),(17,2)] bQ (by kernel_rfl) (fun _ hg=>⟨_,aN.mono n9 hg⟩) (fun a27 x0=>?_)
       have e8:=aN.mono n9 x0
       refine cD rfl (fun _ _=>aF l4) (cD rfl (fun _ _=>aF l4) (cD rfl (fun _ _=>eR rfl) (cD rfl (fun _ _=>bD (t':=3) aGK rfl rfl) (cD rfl (fun _ ⟨_,e8⟩=>bP (t:=3) jQ e8 (w5.mono l7) rfl rfl) (cD rfl (fun _ _=>aF n6) (cD rfl (fun _ _=>aF n7) (cD rfl (fun _ _=>aF n8) (cD rfl (fun _ _=>eY cZ rfl f5 rfl rfl rfl e7) (cD rfl (fun _ _=>aHw (k':=d2.toNat * 3+1) gO f5 rfl rfl) ?_)))))))))
       obtain ⟨a28,x1,x2⟩:=cJ.el (sz:=3) rfl w8 e7
       cases x2
       refine cD rfl (fun _ ⟨_,e8⟩=>bP (t:=1) dF e8 x1 rfl rfl) (nZ rfl (aB (aF w3) (aD (aA ⟨⟨_,e8⟩,?_⟩))))
       refine nZ rfl (aB (gW (vs:=[(0,i64 a9),(1,i64 b6.B),(2,i64 e0)]) (cs:=[i64 a9,i64 b6.B,i64 e0]) bs_63 rfl (by kernel_rfl)) (aD (aA ⟨⟨_,e8⟩,?_⟩)))
       refine nZ rfl (dA (Kt:=K) (xs:=([⟨a9,b6.B,e0⟩]:List Edge)) (cs:=[i64 a9,i64 b6.B,i64 e0]) (vs:=[(0,zA #[i64 a9,i64 b6.B,i64 e0])]) cZ aAm rfl rfl e8 rfl (by kernel_rfl) rfl rfl rfl ⟨rfl,trivial⟩ (fun x3 x4 (o0:aN G l6 (aK 63 K x3 1 ([⟨a9,b6.B,e0⟩]:List Edge)::aK 31 d9 e1 e2 d4::aK 63 K b1 b2 a6::L) x4)=>(aD (aA ⟨⟨_,o0⟩,?_⟩))))
       refine nZ rfl ?_
       obtain ⟨f6,x5,a0⟩:=aJ a0
       refine jO (i:=1) cZ Tryz.underlying28 aAm rfl rfl o0 rfl (zL (zL (zL (zL (zL a8 b0) b8) k0) l5) l7) (zL (zL (zL (zL (zL a8 b0) b8) k0) l5) l7) x5 rfl rfl rfl rfl (fun _ h=>h) (fun f7 f8 x6 (o1:aN G l6 (aK 31 d9 e1 e2 d4::aK 63 K f7 f8 f6::L) x6)=>(aD (aA ⟨⟨_,o1⟩,?_⟩)))
       have x7:=w9 _ _ o1
       have x8:=w7 _ _ x7
       exact aGd rfl (aB (eR rfl) (aD (aA (aGd rfl (aB (bD (t':=3) aGK rfl rfl) (aD (aA (aGd rfl (cM (i:=0) (ns:=[zS f7 f6.length f8]) (us:=[cS a1 k2,cS a16 k17,zS e1 d4.length e2,zS f7 f6.length f8,zB false]) Tryz.sizeOf28 x8 rfl rfl rfl rfl rfl (eD rfl) rfl rfl (fun x9 (y0:aN G d9 (box a3 84 [cS a1 k2,cS a16 k17,zS e1 d4.length e2,zS f7 f6.length f8,zB false]::aK 63 K c3 c4 b7::aK 31 d9 e1 e2 d4::aK 63 K f7 f8 f6::L) x9)=>(aD (aA (qQ (bO (aA ⟨d9,d4,f6,e1,e2,f7,f8,k0,a0,w1,w2,l4,n6,n7,n8,(aN.arr 3 [0,2,1] y0 rfl)⟩)))))))))))))))
      refine aH (aC (aB (aF (v:=i64 l3) rfl) (aB (cK rfl rfl) (aD (aA ?_)))))
      rcases aM a0 with ⟨l8,a0⟩|⟨l8,a0⟩
      ·refine aQ l8 rfl (aH (aC (aB (aF d7) (aB (eR rfl) (aB (bD (t':=2) qY rfl rfl) (aB (bY uD j9 (i:=2) rfl rfl rfl) (aB (bR (len:=b3.length) eQ rfl) (aB (aG (v:=i64 (b3.length:Int)) rfl) (aD (aA (aC (aB (aF d7) (aB (aF d7) (aB (eR rfl) (aB (bD (t':=2) qY rfl rfl) (aB (bY uD j9 (i:=2) rfl rfl rfl) (aB (aF (v:=zS e3 ([b6.To,b4.1]:List Int).length 2) rfl) ?_)))))))))))))))))
       obtain ⟨d5,o2,y1,l9⟩:=aN.giveS (i:=1) j9 (zL (zL a8 b0) b8) rfl
       replace l9:aN G d5 (aK 31 c6 c1 c2 b3::box a3 84 [cS a1 k2,cS a16 k17,zS c1 b3.length c2,zS b1 a6.length b2,zB false]::aK 63 K c3 c4 b7::aK 63 K b1 b2 a6::L) v8:=l9
       refine dA (Kt:=d5) (xs:=([([b6.To,b4.1]:List Int)]:List (List Int))) (cs:=[zS e3 ([b6.To,b4.1]:List Int).length 2]) (vs:=[(0,zS e3 ([b6.To,b4.1]:List Int).length 2)]) eQ yN rfl rfl l9 rfl (by kernel_rfl) rfl rfl rfl ⟨⟨e3,2,rfl,y1⟩,trivial⟩ (fun y2 y3 (y4:aN G d5 (aK 31 d5 y2 1 ([([b6.To,b4.1]:List Int)]:List (List Int))::aK 31 c6 c1 c2 b3::box a3 84 [cS a1 k2,cS a16 k17,zS c1 b3.length c2,zS b1 a6.length b2,zB false]::aK 63 K c3 c4 b7::aK 63 K b1 b2 a6::L) y3)=>?_)
       obtain ⟨f9,y5,a0⟩:=aJ a0
       exact aGD (i:=0) d5 eQ Tryz.underlying49 yN rfl rfl y4 rfl o2 (zR _) y5 rfl rfl rfl rfl (fun _ _ _ h=>El.one h) (fun g0 g1 y6 (y7:aN G d5 (aK 31 d5 g0 g1 f9::box a3 84 [cS a1 k2,cS a16 k17,zS c1 b3.length c2,zS b1 a6.length b2,zB false]::aK 63 K c3 c4 b7::aK 63 K b1 b2 a6::L) y6)=>(aB (eR rfl) (aB (bD (t':=2) qY rfl rfl) (cM (i:=1) (ns:=[zS g0 f9.length g1]) (us:=[cS a1 k2,cS a16 k17,zS g0 f9.length g1,zS b1 a6.length b2,zB false]) Tryz.sizeOf49 y7 rfl rfl rfl rfl rfl (eD rfl) rfl rfl (fun y8 (y9:aN G d5 (aK 31 d5 g0 g1 f9::box a3 84 [cS a1 k2,cS a16 k17,zS g0 f9.length g1,zS b1 a6.length b2,zB false]::aK 63 K c3 c4 b7::aK 63 K b1 b2 a6::L) y8)=>(aD (aA ⟨d5,f9,(b3.length:Int),g0,g1,o2,a0,h5,h7,d7,h8,f3,f4,rfl,y9⟩)))))))
      ·exact aO l8 rfl (aY (aA ⟨c6,b3,l3,c1,c2,(zR _),a0,h5,h7,d7,h8,f3,f4,rfl,(aN.arr 2 [0] j9 rfl)⟩))
    ·refine aO k9 rfl (cN (bB (bB ?_)))
     have z0:=s6 _ (zI a0).symm
     subst z0
     have a5:(aAe a9 b3 a6)=some i5:=a5
     exact bS (aA ⟨c6,b3,a6,c1,c2,b1,b2,b8,a5,h5,h7,d7,h8,(aN.arr 4 [3,1,0] n0 rfl)⟩)
  ·refine aO k6 rfl (cN (bB (bB ?_)))
   have z1:=p6 _ (zI a5).symm
   subst z1
   have hm:(uS e5 f0)=some R:=hm
   exact bS (aA ⟨d6,e5,f0,g4,g5,g6,g7,b0,hm,i6,(aN.arr 3 [0,2,1] k5 rfl)⟩)
theorem aHl {a:(List Int)} {b:(List Int)} {R:Int} (hs:aN G K (L) w) (h3:cJ K a1 c2 a) (h6:cJ K a4 c5 b) (hm:xW a b=some R):
  Calls Tryz.prog 140 ([zS a1 a.length c2,zS a4 b.length c5]:List Value).toArray w (gV fun v w'=>v=i64 R∧aN G K (L) w'):=by
 refine aW Tryz.func140 rfl (by kernel_rfl) (by show (2:Nat)≤46;decide) ?_
 unfold xW at hm
 refine aH (aC (aB (aG (v:=i64 0) rfl) (aD (aA (aH (aH (aC (aB (aG (v:=i64 0) rfl) (aD (aA (bJ (fun f w=>pW a b=some R∧f 0=zS a1 a.length c2∧f 1=zS a4 b.length c5∧aN G K (L) w) ?_ ?_)))))))))))
 ·rintro f w9 ⟨hm,e7,e8,b1⟩
  unfold pW at hm
  refine aA (aH (aH (aC (aB (aF e7) (aB (bR (len:=a.length) cG rfl) (aB (aF e8) (aB (bR (len:=b.length) cG rfl) (aB (cK rfl rfl) (aD (aA ?_))))))))))
  rcases aM hm with ⟨b2,hm⟩|⟨b2,hm⟩
  ·refine aQ b2 rfl (aH (aC (aB (aG (v:=i64 (-1)) rfl) (aD (aA ?_)))))
   cases zI hm
   exact bC (aS (bA Tryz.results140 rfl ⟨rfl,b1⟩))
  ·refine aO b2 rfl (aY (aA (aH (aH (aC (aB (aF e7) (aB (bR (len:=a.length) cG rfl) (aB (aF e8) (aB (bR (len:=b.length) cG rfl) (aB (lJ rfl rfl) (aD (aA ?_))))))))))))
   rcases aM hm with ⟨b3,hm⟩|⟨b3,hm⟩
   ·refine aQ b3 rfl (aH (aC (aB (aG (v:=i64 1) rfl) (aD (aA ?_)))))
    cases zI hm
    exact bC (aS (bA Tryz.results140 rfl ⟨rfl,b1⟩))
   ·refine aO b3 rfl (aY (aA (aH (aC (aB (aG (v:=i64 0) rfl) (aD (aA ?_)))))))
    cases zI hm
    exact bC (bA Tryz.results140 rfl ⟨rfl,b1⟩)
 obtain ⟨e5,d6,hm⟩:=aJ hm
 refine cP d6 (fun (a6:Int) f w=>f 0=zS a1 a.length c2∧f 1=zS a4 b.length c5∧f 5=i64 a6∧aN G K (L) w) ?_ ?_
 ·exact ⟨rfl,rfl,rfl,hs⟩
 ·rintro a6 c7 f e6 a0 b4 ⟨b5,b6,a8,c8⟩
  replace a0:jL a b a6=some c7:=a0
  unfold jL at a0
  refine aH (aH (cU (fun f w=>∃ (b7:Bool),mK a b a6 b7=some c7∧f 0=zS a1 a.length c2∧f 1=zS a4 b.length c5∧f 5=i64 a6∧f 15=zB b7∧aN G K (L) w) ?_ ?_))
  ·rintro f w47 ⟨b7,a0,a9,b0,a7,c9,a2⟩
   unfold mK at a0
   refine aA ?_
   rcases aM a0 with ⟨b8,a0⟩|⟨b8,a0⟩
   ·refine aQ b8 c9 (aY (aA (aH (cQ (aH (aH (cW (C:=fun w'=>aN G K (L) w') bQ (by kernel_rfl) (aN.mono a2 (dE.drew _)) (aT (fun _ a2=>aF a9) (aT (fun _ a2=>aF a7) ?_)))))))))
    obtain ⟨e52,b9,a0⟩:=aJ a0
    refine aT (fun _ a2=>cV cG rfl h3 rfl rfl rfl b9) ?_
    obtain ⟨e9,d0,d7⟩:=cJ.el (sz:=1) rfl h3 b9
    cases d7
    refine aT (fun _ a2=>bP (t:=0) dF a2 d0 rfl rfl) (aT (fun _ a2=>aF b0) (aT (fun _ a2=>aF a7) ?_))
    obtain ⟨f0,c0,a0⟩:=aJ a0
    refine aT (fun _ a2=>cV cG rfl h6 rfl rfl rfl c0) ?_
    obtain ⟨f1,d1,d8⟩:=cJ.el (sz:=1) rfl h6 c0
    cases d8
    refine aT (fun _ a2=>bP (t:=0) dF a2 d1 rfl rfl) (aT (fun _ a2=>cK rfl rfl) (dD (fun f2 a3=>(aA ?_))))
    rcases aM a0 with ⟨c1,a0⟩|⟨c1,a0⟩
    ·refine aQ c1 rfl (aH (aC (aB (aG (v:=i64 (-1)) rfl) (aD (aA (bC (aS (bN (aS (aS ?_))))))))))
     have d9:=b4 _ (zI a0).symm
     subst d9
     have hm:(some (-1))=some R:=hm
     cases zI hm
     exact bN (aS (aS (bA Tryz.results140 rfl ⟨rfl,a3⟩)))
    ·refine aO c1 rfl (aY (aA (aH (cW (C:=fun w'=>aN G K (L) w') bQ (by kernel_rfl) (aN.mono a3 (dE.drew _)) (aT (fun _ a3=>aF a9) (aT (fun _ a3=>aF a7) (aT (fun _ a3=>cV cG rfl h3 rfl rfl rfl b9) (aT (fun _ a3=>bP (t:=0) dF a3 d0 rfl rfl) (aT (fun _ a3=>aF b0) (aT (fun _ a3=>aF a7) (aT (fun _ a3=>cV cG rfl h6 rfl rfl rfl c0) (aT (fun _ a3=>bP (t:=0) dF a3 d1 rfl rfl) (aT (fun _ a3=>lJ rfl rfl) (dD (fun f3 d2=>(aA ?_))))))))))))))))
     rcases aM a0 with ⟨c3,a0⟩|⟨c3,a0⟩
     ·refine aQ c3 rfl (aH (aC (aB (aG (v:=i64 1) rfl) (aD (aA (bC (bN (aS (aS ?_)))))))))
      have e1:=b4 _ (zI a0).symm
      subst e1
      have hm:(some 1)=some R:=hm
      cases zI hm
      exact bN (aS (aS (bA Tryz.results140 rfl ⟨rfl,d2⟩)))
     ·exact aO c3 rfl (aY (bO (aA (aC (aB (aF a7) (aB (cY rfl rfl) (aB (aG (v:=i64 (wr (a6+1))) rfl) (aD (aA ⟨wr (a6+1),(zI a0).symm,a9,b0,rfl,d2⟩)))))))))
   ·refine aO b8 c9 (cN (bB (bB ?_)))
    have e3:=b4 _ (zI a0).symm
    subst e3
    have hm:(pW a b)=some R:=hm
    exact bS (aA ⟨hm,a9,b0,a2⟩)
  refine aC (aB (aF a8) (aB (aF b5) (aB (bR (len:=a.length) cG rfl) (aB (cK rfl rfl) (aB (aF (v:=zB (decide (a6 < (a.length:Int)))) rfl) ?_)))))
  rcases aM a0 with ⟨a5,a0⟩|⟨a5,a0⟩
  ·exact bK a5 rfl rfl (aB (aF a8) (bK a5 rfl rfl (aB (aF b6) (bK a5 rfl rfl (aB (bR (len:=b.length) cG rfl) (bK a5 rfl rfl (aB (cK rfl rfl) (aB (bH (v:=zB (decide (a6 < (b.length:Int)))) a5 rfl rfl) (aD (aA ⟨decide (a6 < (b.length:Int)),a0,b5,b6,a8,rfl,c8⟩))))))))))
  ·exact bE a5 rfl rfl (bE a5 rfl rfl (bE a5 rfl rfl (bE a5 rfl rfl (aB (bL (v:=zB false) a5 rfl rfl) (aD (aA ⟨false,a0,b5,b6,a8,rfl,c8⟩))))))
theorem aHW {rows:(List (List Int))} {row:(List Int)} {R:(List (List Int))} (hs:aN G K (L) w) (hKf:Hp.le Kf K) (h3:cJ Kf a1 c2 rows) (h6:cJ Kf a4 c5 row) (hm:aAB rows row=some R):
  Calls Tryz.prog 94 ([zS a1 rows.length c2,zS a4 row.length c5]:List Value).toArray w (gV fun v w'=>∃ (ra0:Option Addr) (rc0:Nat),v=zS ra0 R.length rc0∧aN G K (aK 31 Kf ra0 rc0 R::L) w'):=by
 refine aW Tryz.func94 rfl (by kernel_rfl) (by show (2:Nat)≤48;decide) ?_
 unfold aAB at hm
 refine aH (aC (aB (aG (v:=zS none 0 0) rfl) (aD (aA (aH (aC (dA (Kt:=Kf) (xs:=([]:List (List Int))) (cs:=[]) (vs:=[]) eQ yN rfl rfl hs rfl (by kernel_rfl) rfl rfl rfl trivial (fun a7 w8 (g4:aN G K (aK 31 Kf a7 0 ([]:List (List Int))::L) w8)=>(aB (aG (v:=zS a7 ([]:List (List Int)).length 0) rfl) (aD (aA (aH (aC (aB (aG (v:=zB false) rfl) (aD (aA (aH (aH (aC (aB (aG (v:=i64 0) rfl) (aD (aA (bJ (fun f w=>∃ (b0:List (List Int)) (d1:Bool) (b2:Option Addr) (b3:Nat),sI row b0 d1=some R∧f 1=zS a4 row.length c5∧f 5=zS b2 b0.length b3∧f 6=zB d1∧aN G K (aK 31 Kf b2 b3 b0::L) w) ?_ ?_)))))))))))))))))))))))
 ·rintro f k0 ⟨b0,d1,b2,b3,hm,g5,f4,g6,f5⟩
  unfold sI at hm
  refine aA (aDz (fun f w=>∃ (b4:List (List Int)) (b5:Option Addr) (b6:Nat),sH b4=some R∧f 5=zS b5 b4.length b6∧aN G K (aK 31 Kf b5 b6 b4::L) w) ?_ ?_)
  ·rintro f k1 ⟨b4,b5,b6,hm,g7,g8⟩
   unfold sH at hm
   refine aH (aC (aB (aF g7) (aB (aG (v:=zS b5 b4.length b6) rfl) (aD (aA ?_)))))
   cases zI hm
   exact bC (bA Tryz.results94 rfl ⟨b5,b6,rfl,g8⟩)
  refine aH (aC (aB (aF g6) (aB (eP rfl) (aD (aA ?_)))))
  rcases aM hm with ⟨d2,hm⟩|⟨d2,hm⟩
  ·refine aQ d2 rfl (aC (aB (aF f4) (aB (aF g5) (dA (Kt:=Kf) (xs:=([row]:List (List Int))) (cs:=[zS a4 row.length c5]) (vs:=[(0,zS a4 row.length c5)]) eQ yN rfl rfl f5 rfl (by kernel_rfl) rfl rfl rfl ⟨⟨a4,c5,rfl,h6⟩,trivial⟩ (fun h0 h1 (h2:aN G K (aK 31 Kf h0 1 ([row]:List (List Int))::aK 31 Kf b2 b3 b0::L) h1)=>?_)))))
   obtain ⟨d3,h4,hm⟩:=aJ hm
   exact aGD (i:=0) Kf eQ Tryz.underlying49 yN rfl rfl h2 rfl (zR _) (zR _) h4 rfl rfl rfl rfl (fun _ _ _ h=>El.one h) (fun d4 d5 h5 (h7:aN G K (aK 31 Kf d4 d5 d3::L) h5)=>(aB (aG (v:=zS d4 d3.length d5) rfl) (aD (aA ⟨d3,d4,d5,hm,rfl,h7⟩))))
  ·exact aO d2 rfl (aY (aA ⟨b0,b2,b3,hm,f4,f5⟩))
 obtain ⟨k2,h8,hm⟩:=aJ hm
 refine cP h8 (fun (s:(List (List Int) × Bool × Int)) f w=>match s with|(a2,a3,a5)=>∃ (a6:Option Addr) (c57:Nat),f 0=zS a1 rows.length c2∧f 1=zS a4 row.length c5∧f 5=zS a6 a2.length c57∧f 6=zB a3∧f 7=i64 a5∧aN G K (aK 31 Kf a6 c57 a2::L) w) ?_ ?_
 ·exact ⟨a7,0,rfl,rfl,rfl,rfl,rfl,g4⟩
 ·rintro ⟨a2,a3,a5⟩ d6 f k3 a0 h9 ⟨a6,c57,b8,b9,d7,c0,c1,d8⟩
  replace a0:oT rows row a2 a3 a5=some d6:=a0
  unfold oT at a0
  refine aH (aH (aC (aB (aF c1) (aB (aF b8) (aB (bR (len:=rows.length) eQ rfl) (aB (cK rfl rfl) (aD (aA ?_))))))))
  rcases aM a0 with ⟨d9,a0⟩|⟨d9,a0⟩
  ·refine aQ d9 rfl (aY (aA (aH (cQ (aH (aC (aB (aF b8) (aB (aF c1) ?_))))))))
   obtain ⟨a8,e0,a0⟩:=aJ a0
   refine aB (cV eQ rfl (h3.mono hKf) rfl rfl rfl e0) ?_
   obtain ⟨k4,f6,i0⟩:=cJ.el (sz:=1) rfl h3 e0
   obtain ⟨c3,c4,rfl,f7⟩:=i0
   refine aB (bP (t:=0) kD d8 (f6.mono hKf) rfl rfl) (aB (aF b9) ?_)
   obtain ⟨b1,i1,a0⟩:=aJ a0
   refine aX (vs:=[zS c3 a8.length c4,zS a4 row.length c5]) Tryz.call140 rfl (aHl d8 (f7.mono hKf) (h6.mono hKf) i1) ?_
   rintro _ k5 ⟨rfl,f8⟩
   refine aB (aG (v:=i64 b1) rfl) (aD (aA (aDz (fun f w=>∃ (b7:List (List Int)) (c6:Bool) (c7:Option Addr) (c8:Nat),iY a5 a8 b7 c6=some d6∧f 0=zS a1 rows.length c2∧f 1=zS a4 row.length c5∧f 5=zS c7 b7.length c8∧f 6=zB c6∧f 7=i64 a5∧aN G K (aK 31 Kf c7 c8 b7::L) w) ?_ ?_)))
   ·rintro f k6 ⟨b7,c6,c7,c8,a0,f9,i2,i3,i4,g0,g1⟩
    unfold iY at a0
    refine aC (aB (aF i3) (aB (aF f9) (aB (aF g0) (aB (cV eQ rfl (h3.mono hKf) rfl rfl rfl e0) (aB (bP (t:=0) kD g1 (f6.mono hKf) rfl rfl) (dA (Kt:=Kf) (xs:=([a8]:List (List Int))) (cs:=[zS c3 a8.length c4]) (vs:=[(0,zS c3 a8.length c4)]) eQ yN rfl rfl g1 rfl (by kernel_rfl) rfl rfl rfl ⟨⟨c3,c4,rfl,f7⟩,trivial⟩ (fun i5 i6 (i7:aN G K (aK 31 Kf i5 1 ([a8]:List (List Int))::aK 31 Kf c7 c8 b7::L) i6)=>?_)))))))
    obtain ⟨e1,i8,a0⟩:=aJ a0
    exact aGD (i:=0) Kf eQ Tryz.underlying49 yN rfl rfl i7 rfl (zR _) (zR _) i8 rfl rfl rfl rfl (fun _ _ _ h=>El.one h) (fun e2 e3 i9 (j0:aN G K (aK 31 Kf e2 e3 e1::L) i9)=>(aB (aG (v:=zS e2 e1.length e3) rfl) (aD (bO (aA (aC (aB (aF g0) (aB (cY rfl rfl) (aB (aG (v:=i64 (wr (a5+1))) rfl) (aD (aA ⟨(e1,c6,wr (a5+1)),(zI a0).symm,e2,e3,f9,i2,rfl,i4,rfl,j0⟩)))))))))))
   refine aH (cU (fun f w=>∃ (e4:Bool),oS row a2 a3 a5 a8 b1 e4=some d6∧f 0=zS a1 rows.length c2∧f 1=zS a4 row.length c5∧f 5=zS a6 a2.length c57∧f 6=zB a3∧f 7=i64 a5∧f 8=i64 b1∧f 27=zB e4∧aN G K (aK 31 Kf a6 c57 a2::L) w) ?_ ?_)
   ·rintro f k7 ⟨e4,a0,e5,c9,e6,j1,e7,j2,g2,e8⟩
    unfold oS at a0
    refine aA ?_
    rcases aM a0 with ⟨e9,a0⟩|⟨e9,a0⟩
    ·refine aQ e9 g2 (aH (aC (aB (aG (v:=zB true) rfl) (aD (aA (aH (aC (aB (aF j2) (aB (lJ rfl rfl) (aD (aA ?_)))))))))))
     rcases aM a0 with ⟨f0,a0⟩|⟨f0,a0⟩
     ·refine aQ f0 rfl (aC (aB (aF e6) (aB (aF c9) (dA (Kt:=Kf) (xs:=([row]:List (List Int))) (cs:=[zS a4 row.length c5]) (vs:=[(0,zS a4 row.length c5)]) eQ yN rfl rfl e8 rfl (by kernel_rfl) rfl rfl rfl ⟨⟨a4,c5,rfl,h6⟩,trivial⟩ (fun j3 j4 (j5:aN G K (aK 31 Kf j3 1 ([row]:List (List Int))::aK 31 Kf a6 c57 a2::L) j4)=>?_)))))
      obtain ⟨f1,j6,a0⟩:=aJ a0
      exact aGD (i:=0) Kf eQ Tryz.underlying49 yN rfl rfl j5 rfl (zR _) (zR _) j6 rfl rfl rfl rfl (fun _ _ _ h=>El.one h) (fun f2 f3 j7 (j8:aN G K (aK 31 Kf f2 f3 f1::L) j7)=>(aB (aG (v:=zS f2 f1.length f3) rfl) (aD (aA ⟨f1,true,f2,f3,a0,e5,c9,rfl,rfl,e7,j8⟩))))
     ·exact aO f0 rfl (aY (aA ⟨a2,true,a6,c57,a0,e5,c9,e6,rfl,e7,e8⟩))
    ·exact aO e9 g2 (aY (aA ⟨a2,a3,a6,c57,a0,e5,c9,e6,j1,e7,e8⟩))
   refine aC (aB (aF c0) (aB (eP rfl) (aB (aF (v:=zB (!a3)) rfl) ?_)))
   rcases aM a0 with ⟨a9,a0⟩|⟨a9,a0⟩
   ·exact bK a9 rfl rfl (aB (aF (v:=i64 b1) rfl) (bK a9 rfl rfl (aB (yL rfl rfl) (aB (bH (v:=zB (decide (0≤b1))) a9 rfl rfl) (aD (aA ⟨decide (0≤b1),a0,b8,b9,d7,c0,c1,rfl,rfl,f8⟩))))))
   ·exact bE a9 rfl rfl (bE a9 rfl rfl (aB (bL (v:=zB false) a9 rfl rfl) (aD (aA ⟨false,a0,b8,b9,d7,c0,c1,rfl,rfl,f8⟩))))
  ·refine aO d9 rfl (cN (bB (bB ?_)))
   have j9:=h9 _ (zI a0).symm
   subst j9
   have hm:(sI row a2 a3)=some R:=hm
   exact bS (aA ⟨a2,a3,a6,c57,hm,b9,d7,c0,d8⟩)
theorem aJM {list:(List aZ)} {R:(List aZ)} (hs:aN G K (L) w) (h3:cJ K a1 c2 list) (hm:aDf list=some R):
  Calls Tryz.prog 141 ([zS a1 list.length c2]:List Value).toArray w (gV fun v w'=>∃ (ra0:Option Addr) (rc0:Nat),v=zS ra0 R.length rc0∧aN G K (aK 9 K ra0 rc0 R::L) w'):=by
 refine aW Tryz.func141 rfl (by kernel_rfl) (by show (1:Nat)≤65;decide) ?_
 unfold aDf at hm
 refine aH (aC (aB (aG (v:=zS none 0 0) rfl) (aD (aA (aH (aC (dA (Kt:=K) (xs:=([([116,97,117]:aZ)]:List aZ)) (cs:=[cR ([116,97,117]:aZ)]) (vs:=[(0,cR ([116,97,117]:aZ))]) cE oB rfl rfl hs rfl (by kernel_rfl) rfl rfl rfl ⟨rfl,trivial⟩ (fun a4 w5 (h4:aN G K (aK 9 K a4 1 ([([116,97,117]:aZ)]:List aZ)::L) w5)=>(aB (aG (v:=zS a4 ([([116,97,117]:aZ)]:List aZ).length 1) rfl) (aD (aA (aH (aH (aC (aB (aG (v:=i64 0) rfl) (aD (aA (bJ (fun f w=>∃ (b7:List aZ) (a8:Option Addr) (c9:Nat),aBe b7=some R∧f 3=zS a8 b7.length c9∧aN G K (aK 9 K a8 c9 b7::L) w) ?_ ?_))))))))))))))))))
 ·rintro f l8 ⟨b7,a8,c9,hm,h5,h6⟩
  unfold aBe at hm
  refine aA (aH (aC (aB (aF h5) (aB (aG (v:=zS a8 b7.length c9) rfl) (aD (aA ?_))))))
  cases zI hm
  exact bC (bA Tryz.results141 rfl ⟨a8,c9,rfl,h6⟩)
 obtain ⟨l9,h8,hm⟩:=aJ hm
 refine cP h8 (fun (s:(List aZ × Int)) f w=>match s with|(a2,a6)=>∃ (a7:Option Addr) (c30:Nat),f 0=zS a1 list.length c2∧f 3=zS a7 a2.length c30∧f 4=i64 a6∧aN G K (aK 9 K a7 c30 a2::L) w) ?_ ?_
 ·exact ⟨a4,1,rfl,rfl,rfl,h4⟩
 ·rintro ⟨a2,a6⟩ b5 f m0 a0 h9 ⟨a7,c30,c4,c5,c6,d7⟩
  replace a0:mX list a2 a6=some b5:=a0
  unfold mX at a0
  refine aH (aH (aC (aB (aF c6) (aB (aF c4) (aB (bR (len:=list.length) cE rfl) (aB (cK rfl rfl) (aD (aA ?_))))))))
  rcases aM a0 with ⟨d8,a0⟩|⟨d8,a0⟩
  ·refine aQ d8 rfl (aY (aA (aH (bJ (fun f w=>∃ (c0:List aZ) (c7:Option Addr) (c8:Nat),tH a6 c0=some b5∧f 0=zS a1 list.length c2∧f 3=zS c7 c0.length c8∧f 4=i64 a6∧aN G K (aK 9 K c7 c8 c0::L) w) ?_ ?_))))
   ·rintro f m1 ⟨c0,c7,c8,a0,i0,i1,i2,i3⟩
    unfold tH at a0
    exact aA (aC (aB (aF i2) (aB (cY rfl rfl) (aB (aG (v:=i64 (wr (a6+1))) rfl) (aD (aA ⟨(c0,wr (a6+1)),(zI a0).symm,c7,c8,i0,i1,rfl,i3⟩))))))
   refine aH (aH (aC (aB (aF c5) (aB (aF c4) (aB (aF c6) ?_)))))
   obtain ⟨b2,q59,a0⟩:=aJ a0
   refine aB (cV cE rfl h3 rfl rfl rfl q59) ?_
   obtain ⟨m2,d9,i4⟩:=cJ.el (sz:=1) rfl h3 q59
   cases i4
   refine aB (bP (t:=0) qR d7 d9 rfl rfl) ?_
   obtain ⟨m3,m4,i5,i6,i7⟩:=aN.lendS (i:=0) d7 (zR _) rfl
   obtain ⟨m5,i8,a0⟩:=aJ a0
   refine aX (vs:=[zS a7 a2.length c30,cR b2]) Tryz.call138 rfl (aBQ i6 i5 i8) ?_
   rintro _ m6 ⟨rfl,i9⟩
   have f1:=i7 _ _ i9
   refine aB (yL rfl rfl) (aD (aA ?_))
   rcases aM a0 with ⟨e0,a0⟩|⟨e0,a0⟩
   ·exact aQ e0 rfl (cN (bB (bS (aA ⟨a2,a7,c30,a0,c4,c5,c6,f1⟩))))
   ·refine aO e0 rfl (aY (aA (aH (aC (aB (aG (v:=i64 1) rfl) (aD (aA (aH (bJ (fun f w=>∃ (b4:Int),xZ a2 a6 b2 b4=some b5∧f 0=zS a1 list.length c2∧f 3=zS a7 a2.length c30∧f 4=i64 a6∧f 5=i64 b4∧aN G K (aK 9 K a7 c30 a2::L) w) ?_ ?_)))))))))
    ·rintro f m7 ⟨b4,a0,j0,j1,j2,j3,j4⟩
     unfold xZ at a0
     refine aA (aH (aC (aB (aF j1) (dA (Kt:=K) (xs:=([([]:aZ)]:List aZ)) (cs:=[cR ([]:aZ)]) (vs:=[(0,cR ([]:aZ))]) cE oB rfl rfl j4 rfl (by kernel_rfl) rfl rfl rfl ⟨rfl,trivial⟩ (fun j5 j6 (j7:aN G K (aK 9 K j5 1 ([([]:aZ)]:List aZ)::aK 9 K a7 c30 a2::L) j6)=>?_)))))
     obtain ⟨c1,j8,a0⟩:=aJ a0
     refine jO (i:=0) cE Tryz.underlying22 oB rfl rfl j7 rfl (zR _) (zR _) j8 rfl rfl rfl rfl (fun _ h=>h) (fun b0 b1 j9 (k0:aN G K (aK 9 K b0 b1 c1::L) j9)=>(aB (aG (v:=zS b0 c1.length b1) rfl) (aD (aA (aH (aH (aC (aB (aF (v:=zS b0 c1.length b1) rfl) (aB (bR (len:=c1.length) cE rfl) (aB (hY rfl rfl) (aB (aG (v:=i64 (wr ((c1.length:Int) - 1))) rfl) (aD (aA (bJ (fun f w=>∃ (d0:List aZ),xX a6 b2 b4 d0=some b5∧f 0=zS a1 list.length c2∧f 3=zS b0 d0.length b1∧f 4=i64 a6∧f 5=i64 b4∧aN G K (aK 9 K b0 b1 d0::L) w) ?_ ?_))))))))))))))
     ·rintro f m8 ⟨d0,a0,f2,f3,f4,k1,e1⟩
      unfold xX at a0
      refine aA (aC (aB (aF f3) (aB (aF k1) (aB (aF f2) (aB (aF f4) (aB (cV cE rfl h3 rfl rfl rfl q59) (aB (bP (t:=0) qR e1 d9 rfl rfl) ?_)))))))
      obtain ⟨m9,e2,a0⟩:=aJ a0
      have k2:=dH e1 (i:=0) rfl e2
      refine aB (eY cE rfl k2 rfl rfl rfl e2) ?_
      obtain ⟨f5,f6,a0⟩:=aJ a0
      exact rO (i:=0) (t:=0) (ns:=[cR b2]) (e':=(b2:aZ)) Tryz.sizeOf9 e1 rfl (zR _) rfl rfl rfl e2 f6 rfl rfl (eD rfl) rfl (fun cs h=>by cases h;rfl) (fun k3 (k4:aN G K (aK 9 K b0 b1 f5::L) k3)=>(aD (bO (aA ⟨f5,b0,b1,a0,f2,(Eq.trans f3 (congrArg (fun n=>zS b0 n b1) (jM f6))),f4,k4⟩))))
     obtain ⟨n0,k5,a0⟩:=aJ a0
     refine cP k5 (fun (s:(List aZ × Int)) f w=>match s with|(b6,c3)=>f 0=zS a1 list.length c2∧f 3=zS b0 b6.length b1∧f 4=i64 a6∧f 5=i64 b4∧f 6=i64 c3∧aN G K (aK 9 K b0 b1 b6::L) w) ?_ ?_
     ·exact ⟨j0,rfl,j2,j3,rfl,k0⟩
     ·rintro ⟨b6,c3⟩ k6 f n1 a9 k7 ⟨f7,d1,f8,e3,d2,d3⟩
      replace a9:xY b4 b6 c3=some k6:=a9
      unfold xY at a9
      refine aH (aH (aC (aB (aF d2) (aB (aF e3) (aB (lJ rfl rfl) (aD (aA ?_)))))))
      rcases aM a9 with ⟨e4,a9⟩|⟨e4,a9⟩
      ·refine aQ e4 rfl (aY (aA (aH (cQ (aC (aB (aF d1) (aB (aF d2) (aB (aF d1) (aB (aF d2) (aB (hY rfl rfl) ?_))))))))))
       obtain ⟨f9,e5,a9⟩:=aJ a9
       have g0:=dH d3 (i:=0) rfl e5
       refine aB (eY cE rfl g0 rfl rfl rfl e5) (aB (tQ (t:=0) qR d3 (i:=0) rfl e5 rfl rfl rfl) ?_)
       obtain ⟨n2,g1,a9⟩:=aJ a9
       refine aB (eY cE rfl g0 rfl rfl rfl g1) ?_
       obtain ⟨g2,g3,a9⟩:=aJ a9
       exact rO (i:=0) (t:=0) (ns:=[cR f9]) (e':=(f9:aZ)) Tryz.sizeOf9 d3 rfl (zR _) rfl rfl rfl g1 g3 rfl rfl (eD rfl) rfl (fun cs h=>by cases h;rfl) (fun k8 (k9:aN G K (aK 9 K b0 b1 g2::L) k8)=>(aD (bO (aA (aC (aB (aF d2) (aB (hY rfl rfl) (aB (aG (v:=i64 (wr (c3 - 1))) rfl) (aD (aA ⟨(g2,wr (c3 - 1)),(zI a9).symm,f7,(Eq.trans d1 (congrArg (fun n=>zS b0 n b1) (jM g3))),f8,e3,rfl,k9⟩))))))))))
      ·refine aO e4 rfl (cN (bB (bB ?_)))
       have l0:=k7 _ (zI a9).symm
       subst l0
       have a0:(xX a6 b2 b4 b6)=some b5:=a0
       exact bS (aA ⟨b6,a0,f7,d1,f8,e3,d3⟩)
    obtain ⟨n3,l1,a0⟩:=aJ a0
    refine cP l1 (fun (b3:Int) f w=>f 0=zS a1 list.length c2∧f 3=zS a7 a2.length c30∧f 4=i64 a6∧f 5=i64 b3∧aN G K (aK 9 K a7 c30 a2::L) w) ?_ ?_
    ·exact ⟨c4,c5,c6,rfl,f1⟩
    ·rintro b3 g4 f n4 a5 l2 ⟨e6,d4,e7,d5,hs173⟩
     replace a5:pI a2 b2 b3=some g4:=a5
     unfold pI at a5
     refine aH (aH (cU (fun f w=>∃ (e8:Bool),yA b3 e8=some g4∧f 0=zS a1 list.length c2∧f 3=zS a7 a2.length c30∧f 4=i64 a6∧f 5=i64 b3∧f 35=zB e8∧aN G K (aK 9 K a7 c30 a2::L) w) ?_ ?_))
     ·rintro f n5 ⟨e8,a5,g5,g6,g7,g8,g9,h0⟩
      unfold yA at a5
      refine aA ?_
      rcases aM a5 with ⟨e9,a5⟩|⟨e9,a5⟩
      ·exact aQ e9 g9 (aY (aA (cQ (aC (aB (aF g8) (aB (cY rfl rfl) (aB (aG (v:=i64 (wr (b3+1))) rfl) (aD (bO (aA ⟨wr (b3+1),(zI a5).symm,g5,g6,g7,rfl,h0⟩))))))))))
      ·refine aO e9 g9 (cN (bB (bB ?_)))
       have l3:=l2 _ (zI a5).symm
       subst l3
       have a0:(xZ a2 a6 b2 b3)=some b5:=a0
       exact bS (aA ⟨b3,a0,g5,g6,g7,g8,h0⟩)
     refine cW (C:=fun w'=>aN G K (aK 9 K a7 c30 a2::L) w') bQ (by kernel_rfl) (aN.mono hs173 (dE.drew _)) (aT (fun _ hs173=>aF d5) (aT (fun _ hs173=>aF d4) (aT (fun _ hs173=>bR (len:=a2.length) cE rfl) (aT (fun _ hs173=>cK rfl rfl) (aT (fun _ hs173=>aF (v:=zB (decide (b3 < (a2.length:Int)))) rfl) ?_)))))
     rcases aM a5 with ⟨a3,a5⟩|⟨a3,a5⟩
     ·refine bG (g:=25) rfl rfl a3 (aT (fun _ hs173=>aF d4) (bG (g:=25) rfl rfl a3 (aT (fun _ hs173=>aF d5) (bG (g:=25) rfl rfl a3 ?_))))
      obtain ⟨h1,f0,a5⟩:=aJ a5
      have l4:=dH hs173 (i:=0) rfl f0
      exact aT (fun _ hs173=>eY cE rfl l4 rfl rfl rfl f0) (bG (g:=25) rfl rfl a3 (aT (fun _ hs173=>tQ (t:=0) qR hs173 (i:=0) rfl f0 rfl rfl rfl) (bG (g:=25) rfl rfl a3 (aT (fun _ hs173=>aF e6) (bG (g:=25) rfl rfl a3 (aT (fun _ hs173=>aF e7) (bG (g:=25) rfl rfl a3 (aT (fun _ hs173=>cV cE rfl h3 rfl rfl rfl q59) (bG (g:=25) rfl rfl a3 (aT (fun _ hs173=>bP (t:=0) qR hs173 d9 rfl rfl) (bG (g:=25) rfl rfl a3 (aT (fun _ hs173=>R_lssS rfl rfl) (aT (fun _ hs173=>bH (v:=zB (qW h1 b2)) a3 rfl rfl) (dD (fun n6 l5=>(aA ⟨qW h1 b2,a5,e6,d4,e7,d5,rfl,l5⟩))))))))))))))))
     ·exact aU (g:=25) rfl rfl (bU a3) (aU (g:=25) rfl rfl (bU a3) (aU (g:=25) rfl rfl (bU a3) (aU (g:=25) rfl rfl (bU a3) (aU (g:=25) rfl rfl (bU a3) (aU (g:=25) rfl rfl (bU a3) (aU (g:=25) rfl rfl (bU a3) (aU (g:=25) rfl rfl (bU a3) (aU (g:=25) rfl rfl (bU a3) (aT (fun _ hs173=>bL (v:=zB false) a3 rfl rfl) (dD (fun n7 l6=>(aA ⟨false,a5,e6,d4,e7,d5,rfl,l6⟩))))))))))))
  ·refine aO d8 rfl (cN (bB (bB ?_)))
   have l7:=h9 _ (zI a0).symm
   subst l7
   have hm:(aBe a2)=some R:=hm
   exact bS (aA ⟨a2,a7,c30,hm,c5,d7⟩)
theorem aKH {list:(List Edge)} {e:Edge} {R:(List Edge)} (hs:aN G K (aK 63 K a1 c2 list::L) w)  (hm:aFa list e=some R):
  Calls Tryz.prog 142 ([zS a1 list.length c2,zA #[i64 e.F,i64 e.B,i64 e.To]]:List Value).toArray w (gV fun v w'=>∃ (ra0:Option Addr) (rc0:Nat),v=zS ra0 R.length rc0∧aN G K (aK 63 K ra0 rc0 R::L) w'):=by
 refine aW Tryz.func142 rfl (by kernel_rfl) (by show (2:Nat)≤57;decide) ?_
 unfold aFa at hm
 refine aH (aC (fC (v:=zA #[i64 e.F,i64 e.B,i64 e.To]) (vs:=[i64 e.F,i64 e.B,i64 e.To]) hs rfl rfl (fun b3 w4 f7=>(aB (aG (v:=zS none 0 0) rfl) (aD (aA (aH (aC (aB (aF (v:=zS a1 list.length c2) rfl) (aB (bR (len:=list.length) cZ rfl) (aB (aG (v:=i64 (list.length:Int)) rfl) (aD (aA (aH (bJ (fun f w=>∃ (a9:Int),aAD list e a9=some R∧f 0=zS a1 list.length c2∧f 3=zP (some ⟨b3,0,none⟩)∧f 5=i64 a9∧aN G K (box b3 63 [i64 e.F,i64 e.B,i64 e.To]::aK 63 K a1 c2 list::L) w) ?_ ?_)))))))))))))))
 ·rintro f k1 ⟨a9,hm,e7,e8,e9,a4⟩
  unfold aAD at hm
  refine aA (aH (aH (cU (fun f w=>∃ (c5:Bool),wF list e a9 c5=some R∧f 0=zS a1 list.length c2∧f 3=zP (some ⟨b3,0,none⟩)∧f 5=i64 a9∧f 30=zB c5∧aN G K (box b3 63 [i64 e.F,i64 e.B,i64 e.To]::aK 63 K a1 c2 list::L) w) ?_ ?_)))
  ·rintro f k2 ⟨c5,hm,e0,f8,f9,e1,e2⟩
   unfold wF at hm
   refine aA ?_
   rcases aM hm with ⟨c6,hm⟩|⟨c6,hm⟩
   ·refine aQ c6 e1 (aH (aC (aB (aF e0) (aB (aG (v:=zS a1 list.length c2) rfl) (aD (aA ?_))))))
    cases zI hm
    exact bC (aS (bA Tryz.results142 rfl ⟨a1,c2,rfl,(aN.arr 1 [] e2 rfl)⟩))
   ·refine aO c6 e1 (aY (aA (aH (aC (aB (aF e0) (aB (gW (vs:=[]) (cs:=[i64 0,i64 0,i64 0]) bs_63 rfl (by kernel_rfl)) (dA (Kt:=K) (xs:=([⟨0,0,0⟩]:List Edge)) (cs:=[i64 0,i64 0,i64 0]) (vs:=[(0,zA #[i64 0,i64 0,i64 0])]) cZ aAm rfl rfl e2 rfl (by kernel_rfl) rfl rfl rfl ⟨rfl,trivial⟩ (fun g1 g2 (g3:aN G K (aK 63 K g1 1 ([⟨0,0,0⟩]:List Edge)::box b3 63 [i64 e.F,i64 e.B,i64 e.To]::aK 63 K a1 c2 list::L) g2)=>?_))))))))
    obtain ⟨b4,g4,hm⟩:=aJ hm
    refine jO (i:=1) cZ Tryz.underlying28 aAm rfl rfl g3 rfl (zR _) (zR _) g4 rfl rfl rfl rfl (fun _ h=>h) (fun a5 a6 g5 (g6:aN G K (box b3 63 [i64 e.F,i64 e.B,i64 e.To]::aK 63 K a5 a6 b4::L) g5)=>(aB (aG (v:=zS a5 b4.length a6) rfl) (aD (aA (aH (aH (aC (aB (aF (v:=zS a5 b4.length a6) rfl) (aB (bR (len:=b4.length) cZ rfl) (aB (hY rfl rfl) (aB (aG (v:=i64 (wr ((b4.length:Int) - 1))) rfl) (aD (aA (bJ (fun f w=>∃ (b7:List Edge),aAC e a9 b7=some R∧f 0=zS a5 b7.length a6∧f 3=zP (some ⟨b3,0,none⟩)∧f 5=i64 a9∧aN G K (box b3 63 [i64 e.F,i64 e.B,i64 e.To]::aK 63 K a5 a6 b7::L) w) ?_ ?_))))))))))))))
    ·rintro f k3 ⟨b7,hm,e3,g7,g8,c7⟩
     unfold aAC at hm
     refine aA (aH (aC (aB (aF e3) (aB (aF g8) (aB (dO (us:=[i64 e.F,i64 e.B,i64 e.To]) oC c7 (i:=0) rfl g7 rfl rfl) ?_)))))
     obtain ⟨k4,c8,hm⟩:=aJ hm
     have g9:=dH c7 (i:=1) rfl c8
     refine aB (eY cZ rfl g9 rfl rfl rfl c8) ?_
     obtain ⟨c9,e4,hm⟩:=aJ hm
     refine rO (i:=1) (t:=0) (ns:=[i64 e.F,i64 e.B,i64 e.To]) (e':=(⟨e.F,e.B,e.To⟩:Edge)) Tryz.sizeOf63 c7 rfl (zR _) rfl rfl rfl c8 e4 rfl rfl (eD rfl) rfl (fun cs h=>by cases h;rfl) (fun h0 (h1:aN G K (box b3 63 [i64 e.F,i64 e.B,i64 e.To]::aK 63 K a5 a6 c9::L) h0)=>(aD (aA (aH (aC (aB (aF (v:=zS a5 c9.length a6) (Eq.trans e3 (congrArg (fun n=>zS a5 n a6) (jM e4)))) (aB (aG (v:=zS a5 c9.length a6) rfl) (aD (aA ?_)))))))))
     cases zI hm
     exact bC (bA Tryz.results142 rfl ⟨a5,a6,rfl,(aN.arr 1 [] h1 rfl)⟩)
    obtain ⟨k5,h3,hm⟩:=aJ hm
    refine cP h3 (fun (s:(List Edge × Int)) f w=>match s with|(b2,b5)=>f 0=zS a5 b2.length a6∧f 3=zP (some ⟨b3,0,none⟩)∧f 5=i64 a9∧f 6=i64 b5∧aN G K (box b3 63 [i64 e.F,i64 e.B,i64 e.To]::aK 63 K a5 a6 b2::L) w) ?_ ?_
    ·exact ⟨rfl,f8,f9,rfl,g6⟩
    ·rintro ⟨b2,b5⟩ h4 f k6 a7 h5 ⟨b8,e5,d0,b9,c0⟩
     replace a7:wE a9 b2 b5=some h4:=a7
     unfold wE at a7
     refine aH (aH (aC (aB (aF b9) (aB (aF d0) (aB (lJ rfl rfl) (aD (aA ?_)))))))
     rcases aM a7 with ⟨d1,a7⟩|⟨d1,a7⟩
     ·refine aQ d1 rfl (aY (aA (aH (cQ (aC (aB (aF b8) (aB (aF b9) (aB (aF b8) (aB (aF b9) (aB (hY rfl rfl) ?_))))))))))
      obtain ⟨b1,d2,a7⟩:=aJ a7
      have e6:=dH c0 (i:=1) rfl d2
      refine aB (eY cZ rfl e6 rfl rfl rfl d2) (aB (aCA (t:=0) (vs:=[i64 b1.F,i64 b1.B,i64 b1.To]) oC c0 (i:=1) rfl d2 rfl rfl rfl rfl) ?_)
      obtain ⟨k7,q82,a7⟩:=aJ a7
      refine aB (eY cZ rfl e6 rfl rfl rfl q82) ?_
      obtain ⟨list85,q86,a7⟩:=aJ a7
      exact rO (i:=1) (t:=0) (ns:=[i64 b1.F,i64 b1.B,i64 b1.To]) (e':=(⟨b1.F,b1.B,b1.To⟩:Edge)) Tryz.sizeOf63 c0 rfl (zR _) rfl rfl rfl q82 q86 rfl rfl (eD rfl) rfl (fun cs h=>by cases h;rfl) (fun h6 (h7:aN G K (box b3 63 [i64 e.F,i64 e.B,i64 e.To]::aK 63 K a5 a6 list85::L) h6)=>(aD (bO (aA (aC (aB (aF b9) (aB (hY rfl rfl) (aB (aG (v:=i64 (wr (b5 - 1))) rfl) (aD (aA ⟨(list85,wr (b5 - 1)),(zI a7).symm,(Eq.trans b8 (congrArg (fun n=>zS a5 n a6) (jM q86))),e5,d0,rfl,h7⟩))))))))))
     ·refine aO d1 rfl (cN (bB (bB ?_)))
      have h8:=h5 _ (zI a7).symm
      subst h8
      have hm:(aAC e a9 b2)=some R:=hm
      exact bS (aA ⟨b2,hm,b8,e5,d0,c0⟩)
  refine cW (C:=fun w'=>aN G K (box b3 63 [i64 e.F,i64 e.B,i64 e.To]::aK 63 K a1 c2 list::L) w') bQ (by kernel_rfl) (aN.mono a4 (dE.drew _)) (aT (fun _ a4=>aF e9) (aT (fun _ a4=>lJ rfl rfl) (aT (fun _ a4=>aF (v:=zB (decide (0 < a9))) rfl) ?_)))
  rcases aM hm with ⟨a3,hm⟩|⟨a3,hm⟩
  ·refine bG (g:=22) rfl rfl a3 (aT (fun _ a4=>aF e7) (bG (g:=22) rfl rfl a3 (aT (fun _ a4=>aF e9) (bG (g:=22) rfl rfl a3 (aT (fun _ a4=>hY rfl rfl) (bG (g:=22) rfl rfl a3 ?_))))))
   obtain ⟨e93,d3,hm⟩:=aJ hm
   have h9:=dH a4 (i:=1) rfl d3
   exact aT (fun _ a4=>eY cZ rfl h9 rfl rfl rfl d3) (bG (g:=22) rfl rfl a3 (aT (fun _ a4=>aCA (t:=0) (vs:=[i64 e93.F,i64 e93.B,i64 e93.To]) oC a4 (i:=1) rfl d3 rfl rfl rfl rfl) (bG (g:=22) rfl rfl a3 (aT (fun _ a4=>dO (us:=[i64 e.F,i64 e.B,i64 e.To]) oC a4 (i:=0) rfl e8 rfl rfl) (bG (g:=22) rfl rfl a3 (aT (fun _ a4=>R_eqlG (eq_63 (x:=e93) (y:=e)) rfl rfl) (aT (fun _ a4=>bH (v:=zB (decide ((e93:Edge)=e))) a3 rfl rfl) (dD (fun k8 i0=>(aA ⟨decide ((e93:Edge)=e),hm,e7,e8,e9,rfl,i0⟩))))))))))
  ·exact aU (g:=22) rfl rfl (bU a3) (aU (g:=22) rfl rfl (bU a3) (aU (g:=22) rfl rfl (bU a3) (aU (g:=22) rfl rfl (bU a3) (aU (g:=22) rfl rfl (bU a3) (aU (g:=22) rfl rfl (bU a3) (aU (g:=22) rfl rfl (bU a3) (aT (fun _ a4=>bL (v:=zB false) a3 rfl rfl) (dD (fun k9 i1=>(aA ⟨false,hm,e7,e8,e9,rfl,i1⟩))))))))))
 obtain ⟨l0,i2,hm⟩:=aJ hm
 refine cP i2 (fun (b0:Int) f w=>f 0=zS a1 list.length c2∧f 3=zP (some ⟨b3,0,none⟩)∧f 5=i64 b0∧aN G K (box b3 63 [i64 e.F,i64 e.B,i64 e.To]::aK 63 K a1 c2 list::L) w) ?_ ?_
 ·exact ⟨rfl,rfl,rfl,f7⟩
 ·rintro b0 f0 f l1 a0 i3 ⟨d4,d5,c1,d6⟩
  replace a0:sJ list e b0=some f0:=a0
  unfold sJ at a0
  refine aH (aH (cU (fun f w=>∃ (d7:Bool),wG b0 d7=some f0∧f 0=zS a1 list.length c2∧f 3=zP (some ⟨b3,0,none⟩)∧f 5=i64 b0∧f 17=zB d7∧aN G K (box b3 63 [i64 e.F,i64 e.B,i64 e.To]::aK 63 K a1 c2 list::L) w) ?_ ?_))
  ·rintro f l2 ⟨d7,a0,f1,f2,f3,f4,f5⟩
   unfold wG at a0
   refine aA ?_
   rcases aM a0 with ⟨d8,a0⟩|⟨d8,a0⟩
   ·exact aQ d8 f4 (aY (aA (cQ (aC (aB (aF f3) (aB (hY rfl rfl) (aB (aG (v:=i64 (wr (b0 - 1))) rfl) (aD (bO (aA ⟨wr (b0 - 1),(zI a0).symm,f1,f2,rfl,f5⟩))))))))))
   ·refine aO d8 f4 (cN (bB (bB ?_)))
    have i4:=i3 _ (zI a0).symm
    subst i4
    have hm:(aAD list e b0)=some R:=hm
    exact bS (aA ⟨b0,hm,f1,f2,f3,f5⟩)
  refine aC (aB (aF c1) (aB (lJ rfl rfl) (aB (aF (v:=zB (decide (0 < b0))) rfl) ?_)))
  rcases aM a0 with ⟨a8,a0⟩|⟨a8,a0⟩
  ·refine bK a8 rfl rfl (aB (aF d4) (bK a8 rfl rfl (aB (aF c1) (bK a8 rfl rfl (aB (hY rfl rfl) (bK a8 rfl rfl ?_))))))
   obtain ⟨l3,d9,a0⟩:=aJ a0
   have i5:=dH d6 (i:=1) rfl d9
   refine aB (eY cZ rfl i5 rfl rfl rfl d9) (bK a8 rfl rfl ?_)
   obtain ⟨l4,i6,i7,i8,i9⟩:=aN.lendB (i:=0) d6 rfl
   obtain ⟨l5,j0,j1,j2,j3⟩:=aN.lendS (i:=0) i8 i6 rfl
   obtain ⟨l6,j4,j5⟩:=cJ.el (sz:=3) rfl j1 d9
   cases j5
   obtain ⟨f6,j6,a0⟩:=aJ a0
   refine aX (vs:=[cS (some ⟨b3,0,none⟩) 0,cS a1 ((wr (b0 - 1)).toNat * 3+0)]) Tryz.call111 (lst2 d5 rfl) (aFj j2 (i7.mono j0) j4 j6) ?_
   rintro _ l7 ⟨rfl,j7⟩
   have j8:=j3 _ _ j7
   have j9:=i9 _ _ j8
   exact aB (bH (v:=zB f6) a8 rfl rfl) (aD (aA ⟨f6,a0,d4,d5,c1,rfl,j9⟩))
  ·exact bE a8 rfl rfl (bE a8 rfl rfl (bE a8 rfl rfl (bE a8 rfl rfl (bE a8 rfl rfl (aB (bL (v:=zB false) a8 rfl rfl) (aD (aA ⟨false,a0,d4,d5,c1,rfl,d6⟩)))))))
theorem aJN {states:Int} {initial:Int} {texts:(List aZ)} {edges:(List Edge)} {R:cH} (hs:aN G K (L) w) (h3:cJ K a1 c2 texts) (h6:cJ K a4 c5 edges) (hm:aDg states initial texts edges=some R):
  Calls Tryz.prog 95 ([i64 states,i64 initial,zS a1 texts.length c2,zS a4 edges.length c5]:List Value).toArray w (gV fun v w'=>∃ (ra0:Option Addr) (rc0:Nat) (ra1:Option Addr) (rc1:Nat),v=zA (zCa R ra0 rc0 ra1 rc1)∧aN G K (aK 9 K ra0 rc0 R.L::aK 63 K ra1 rc1 R.E::L) w'):=by
 refine aW Tryz.func95 rfl (by kernel_rfl) (by show (4:Nat)≤43;decide) ?_
 unfold aDg at hm
 refine aH (aC (cL (vs:=zG) Tryz.zeroValue30 hs rfl (fun b7 w8 e3=>(aD (aA (aH (aC (aB (aF (v:=i64 states) rfl) (aB (aF (v:=i64 initial) rfl) (aB (aF (v:=zS a1 texts.length c2) rfl) ?_))))))))))
 obtain ⟨a0,e4,hm⟩:=aJ hm
 refine aX (vs:=[zS a1 texts.length c2]) Tryz.call141 rfl (aJM e3 h3 e4) ?_
 rintro _ i8 ⟨a2,a3,rfl,e5⟩
 refine dA (Kt:=K) (xs:=([]:List Edge)) (cs:=[]) (vs:=[]) cZ aAm rfl rfl e5 rfl (by kernel_rfl) rfl rfl rfl trivial (fun b5 e6 (e7:aN G K (aK 63 K b5 0 ([]:List Edge)::aK 9 K a2 a3 a0::box b7 30 zG::L) e6)=>(aB (gW (vs:=[(0,i64 states),(1,i64 initial),(2,zS a2 a0.length a3),(3,zS b5 ([]:List Edge).length 0)]) (cs:=[i64 states,i64 initial,zS a2 a0.length a3,zS b5 ([]:List Edge).length 0]) bs_30 rfl (by kernel_rfl)) (cL (vs:=zG) Tryz.zeroValue30 e7 rfl (fun b4 i9 e8=>(cM (i:=0) (ns:=[i64 states,i64 initial,zS a2 a0.length a3,zS b5 ([]:List Edge).length 0]) (us:=[i64 states,i64 initial,zS a2 a0.length a3,zS b5 ([]:List Edge).length 0]) Tryz.sizeOf30 e8 rfl rfl rfl rfl rfl (eD rfl) rfl rfl (fun e9 (f0:aN G K (box b4 30 [i64 states,i64 initial,zS a2 a0.length a3,zS b5 ([]:List Edge).length 0]::aK 63 K b5 0 ([]:List Edge)::aK 9 K a2 a3 a0::box b7 30 zG::L) e9)=>(aD (aA (aH (aH (aC (aB (aG (v:=i64 0) rfl) (aD (aA (bJ (fun f w=>∃ (a9:List Edge) (b0:Option Addr) (b1:Nat),aBf states initial a0 a9=some R∧f 8=zP (some ⟨b7,0,none⟩)∧f 9=zP (some ⟨b4,0,none⟩)∧aN G K (aK 63 K b0 b1 a9::box b4 30 [i64 states,i64 initial,zS a2 a0.length a3,zS b0 a9.length b1]::aK 9 K a2 a3 a0::box b7 30 zG::L) w) ?_ ?_)))))))))))))))
 ·rintro f j0 ⟨a9,b0,b1,hm,d3,f1,d4⟩
  unfold aBf at hm
  refine aA (aH (aC (aB (dO (us:=[i64 states,i64 initial,zS a2 a0.length a3,zS b0 a9.length b1]) kE d4 (i:=1) rfl f1 rfl rfl) (cM (i:=3) (ns:=[i64 states,i64 initial,zS a2 a0.length a3,zS b0 a9.length b1]) (us:=[i64 states,i64 initial,zS a2 a0.length a3,zS b0 a9.length b1]) Tryz.sizeOf30 d4 rfl d3 rfl rfl rfl (eD rfl) rfl rfl (fun f2 (d5:aN G K (aK 63 K b0 b1 a9::box b4 30 [i64 states,i64 initial,zS a2 a0.length a3,zS b0 a9.length b1]::aK 9 K a2 a3 a0::box b7 30 [i64 states,i64 initial,zS a2 a0.length a3,zS b0 a9.length b1]::L) f2)=>(aD (aA ?_)))))))
  cases zI hm
  exact bC (aGF Tryz.results95 (oA (vs:=[i64 states,i64 initial,zS a2 a0.length a3,zS b0 a9.length b1]) rfl kE d5 (i:=3) rfl d3 rfl) ⟨a2,a3,b0,b1,rfl,(aN.arr 4 [2,0] d5 rfl)⟩)
 obtain ⟨j1,f4,hm⟩:=aJ hm
 refine cP f4 (fun (s:(List Edge × Int)) f w=>match s with|(a7,b8)=>∃ (b2:Option Addr) (b3:Nat),f 2=zS a1 texts.length c2∧f 3=zS a4 edges.length c5∧f 8=zP (some ⟨b7,0,none⟩)∧f 9=zP (some ⟨b4,0,none⟩)∧f 10=i64 b8∧aN G K (box b4 30 [i64 states,i64 initial,zS a2 a0.length a3,zS b2 a7.length b3]::aK 63 K b2 b3 a7::aK 9 K a2 a3 a0::box b7 30 zG::L) w) ?_ ?_
 ·exact ⟨b5,0,rfl,rfl,rfl,rfl,rfl,f0⟩
 ·rintro ⟨a7,b8⟩ f5 f j2 a6 f6 ⟨b2,b3,d6,c7,d7,b9,c8,c9⟩
  replace a6:pJ texts edges a0 a7 b8=some f5:=a6
  unfold pJ at a6
  refine aH (aH (aC (aB (aF c8) (aB (aF c7) (aB (bR (len:=edges.length) cZ rfl) (aB (cK rfl rfl) (aD (aA ?_))))))))
  rcases aM a6 with ⟨d0,a6⟩|⟨d0,a6⟩
  ·refine aQ d0 rfl (aY (aA (aH (cQ (aH (aC (aB (aF c7) (aB (aF c8) ?_))))))))
   obtain ⟨a5,d8,a6⟩:=aJ a6
   refine aB (cV cZ rfl h6 rfl rfl rfl d8) ?_
   obtain ⟨j3,f7,f8⟩:=cJ.el (sz:=3) rfl h6 d8
   cases f8
   refine aB (iU (t:=0) (vs:=[i64 a5.F,i64 a5.B,i64 a5.To]) oC c9 f7 rfl rfl rfl) (cL (vs:=[i64 0,i64 0,i64 0]) Tryz.zeroValue63 c9 rfl (fun c4 j4 f9=>(cM (i:=0) (ns:=[i64 a5.F,i64 a5.B,i64 a5.To]) (us:=[i64 a5.F,i64 a5.B,i64 a5.To]) Tryz.sizeOf63 f9 rfl rfl rfl rfl rfl (eD rfl) rfl rfl (fun g0 (g1:aN G K (box c4 63 [i64 a5.F,i64 a5.B,i64 a5.To]::box b4 30 [i64 states,i64 initial,zS a2 a0.length a3,zS b2 a7.length b3]::aK 63 K b2 b3 a7::aK 9 K a2 a3 a0::box b7 30 zG::L) g0)=>(aD (aA (aH ?_)))))))
   obtain ⟨j5,d1,g2,g3,g4⟩:=aN.lendB (i:=0) g1 rfl
   obtain ⟨g5,c6,g6,d9,g7⟩:=aN.lendB (i:=0) g3 rfl
   refine hJ (C:=fun w'=>∃ L',aN G g5 L' w') [(0,0),(1,0),(2,0),(3,0),(4,0),(5,0),(6,0),(7,1),(8,0),(9,2)] bQ (by kernel_rfl) (fun _ hg=>⟨_,aN.mono d9 hg⟩) (fun j6 g8=>?_)
   have hs101:=aN.mono d9 g8
   refine cD rfl (fun _ _=>bD (t':=2) iO b9 rfl) (cD rfl (fun _ ⟨_,hs101⟩=>bP (t:=2) jK hs101 g6 rfl rfl) (cD rfl (fun _ _=>aF d6) (cD rfl (fun _ _=>bD (t':=1) gO rfl rfl) (cD rfl (fun _ ⟨_,hs101⟩=>bP (t:=1) dF hs101 (g2.mono c6) rfl rfl) ?_))))
   obtain ⟨g9,e0,a6⟩:=aJ a6
   refine cD rfl (fun _ _=>cV cE rfl (h3.mono (zL d1 c6)) rfl rfl rfl e0) ?_
   obtain ⟨j7,h0,h1⟩:=cJ.el (sz:=1) rfl h3 e0
   cases h1
   refine cD rfl (fun _ ⟨_,hs101⟩=>bP (t:=0) qR hs101 (h0.mono (zL d1 c6)) rfl rfl) (nZ rfl ?_)
   obtain ⟨j8,j9,h2,h4,h5⟩:=aN.lendS (i:=1) hs101 (zL d1 c6) rfl
   obtain ⟨b6,h7,a6⟩:=aJ a6
   refine aX (vs:=[zS a2 a0.length a3,cR g9]) Tryz.call138 rfl (aBQ h4 h2 h7) ?_
   rintro _ k0 ⟨rfl,h8⟩
   have e1:=h5 _ _ h8
   refine aD (aA ⟨⟨_,e1⟩,?_⟩)
   refine cD rfl (fun _ _=>bD (t':=1) gO rfl rfl) ?_
   have h9:=g7 _ _ e1
   have i0:=g4 _ _ h9
   refine aGd rfl (cM (i:=0) (ns:=[i64 b6]) (us:=[i64 a5.F,i64 b6,i64 a5.To]) Tryz.sizeOf2 i0 rfl rfl rfl rfl rfl (eD rfl) rfl rfl (fun e2 (d2:aN G K (box c4 63 [i64 a5.F,i64 b6,i64 a5.To]::box b4 30 [i64 states,i64 initial,zS a2 a0.length a3,zS b2 a7.length b3]::aK 9 K a2 a3 a0::aK 63 K b2 b3 a7::box b7 30 zG::L) e2)=>(aD (aA (qQ (aA (aC (aB (bD (t':=3) eO b9 rfl) (aB (bY jQ d2 (i:=1) rfl rfl rfl) (aB (dO (us:=[i64 a5.F,i64 b6,i64 a5.To]) oC d2 (i:=0) rfl rfl rfl rfl) ?_))))))))))
   have i1:aN G K (aK 63 K b2 b3 a7::box c4 63 [i64 a5.F,i64 b6,i64 a5.To]::box b4 30 [i64 states,i64 initial,zS a2 a0.length a3,zS b2 a7.length b3]::aK 9 K a2 a3 a0::box b7 30 zG::L) e2:=(aN.arr 4 [3,0,1,2] d2 rfl)
   obtain ⟨c0,i2,a6⟩:=aJ a6
   refine aX (vs:=[zS b2 a7.length b3,zA #[i64 a5.F,i64 b6,i64 a5.To]]) Tryz.call142 rfl (aKH (e:=⟨a5.F,b6,a5.To⟩) i1 i2) ?_
   rintro _ k1 ⟨c1,c3,rfl,i3⟩
   exact aB (bD (t':=3) eO b9 rfl) (cM (i:=2) (ns:=[zS c1 c0.length c3]) (us:=[i64 states,i64 initial,zS a2 a0.length a3,zS c1 c0.length c3]) Tryz.sizeOf28 i3 rfl rfl rfl rfl rfl (eD rfl) rfl rfl (fun i4 (i5:aN G K (aK 63 K c1 c3 c0::box c4 63 [i64 a5.F,i64 b6,i64 a5.To]::box b4 30 [i64 states,i64 initial,zS a2 a0.length a3,zS c1 c0.length c3]::aK 9 K a2 a3 a0::box b7 30 zG::L) i4)=>(aD (bO (aA (aC (aB (aF c8) (aB (cY rfl rfl) (aB (aG (v:=i64 (wr (b8+1))) rfl) (aD (aA ⟨(c0,wr (b8+1)),(zI a6).symm,c1,c3,d6,c7,d7,b9,rfl,(aN.arr 3 [2,0] i5 rfl)⟩)))))))))))
  ·refine aO d0 rfl (cN (bB (bB ?_)))
   have i6:=f6 _ (zI a6).symm
   subst i6
   have hm:(aBf states initial a0 a7)=some R:=hm
   exact bS (aA ⟨a7,b2,b3,hm,d7,b9,(aN.arr 2 [1,0] c9 rfl)⟩)
theorem aIC {n:Int} {R:(List Bool)} (hs:aN G K (L) w)  (hm:aBK n=some R):
  Calls Tryz.prog 50 ([i64 n]:List Value).toArray w (gV fun v w'=>∃ (ra0:Option Addr) (rc0:Nat),v=zS ra0 R.length rc0∧aN G K (aK 4 K ra0 rc0 R::L) w'):=by
 refine aW Tryz.func50 rfl (by kernel_rfl) (by show (1:Nat)≤16;decide) ?_
 unfold aBK at hm
 refine aH (aC (aB (aG (v:=zS none 0 0) rfl) (aD (aA (aH (aC (aB (aF (v:=i64 n) rfl) ?_)))))))
 obtain ⟨a0,q2,hm⟩:=aJ hm
 refine aKW (e:=(false:Bool)) aCc ez_4 rfl rfl hs rfl rfl rfl q2 rfl (fun a3 w4 (b6:aN G K (aK 4 K a3 a0.length a0::L) w4)=>(aB (aG (v:=zS a3 a0.length a0.length) rfl) (aD (aA (aH (aH (aC (aB (aG (v:=i64 0) rfl) (aD (aA (bJ (fun f w=>∃ (a4:List Bool),aAf a4=some R∧f 3=zS a3 a4.length a0.length∧aN G K (aK 4 K a3 a0.length a4::L) w) ?_ ?_)))))))))))
 ·rintro f w8 ⟨a4,hm,e7,b8⟩
  unfold aAf at hm
  refine aA (aH (aC (aB (aF e7) (aB (aG (v:=zS a3 a4.length a0.length) rfl) (aD (aA ?_))))))
  cases zI hm
  exact bC (bA Tryz.results50 rfl ⟨a3,a0.length,rfl,b8⟩)
 obtain ⟨c8,c0,hm⟩:=aJ hm
 refine cP c0 (fun (s:(List Bool × Int)) f w=>match s with|(out23,a5)=>f 0=i64 n∧f 3=zS a3 out23.length a0.length∧f 4=i64 a5∧aN G K (aK 4 K a3 a0.length out23::L) w) ?_ ?_
 ·exact ⟨rfl,rfl,rfl,b6⟩
 ·rintro ⟨out23,a5⟩ c1 f c9 a1 c2 ⟨b1,a6,a7,a8⟩
  replace a1:qM n out23 a5=some c1:=a1
  unfold qM at a1
  refine aH (aH (aC (aB (aF a7) (aB (aF b1) (aB (cK rfl rfl) (aD (aA ?_)))))))
  rcases aM a1 with ⟨a9,a1⟩|⟨a9,a1⟩
  ·refine aQ a9 rfl (aY (aA (aH (cQ (aC (aB (aF a6) (aB (aF a7) ?_)))))))
   obtain ⟨d0,b0,a1⟩:=aJ a1
   have c3:=dH a8 (i:=0) rfl b0
   refine aB (eY aCc rfl c3 rfl rfl rfl b0) ?_
   obtain ⟨b2,b3,a1⟩:=aJ a1
   exact rO (i:=0) (t:=0) (ns:=[zB true]) (e':=(true:Bool)) Tryz.sizeOf4 a8 rfl (zR _) rfl rfl rfl b0 b3 rfl rfl (eD rfl) rfl (fun cs h=>by cases h;rfl) (fun c4 (c5:aN G K (aK 4 K a3 a0.length b2::L) c4)=>(aD (bO (aA (aC (aB (aF a7) (aB (cY rfl rfl) (aB (aG (v:=i64 (wr (a5+1))) rfl) (aD (aA ⟨(b2,wr (a5+1)),(zI a1).symm,b1,(Eq.trans a6 (congrArg (fun n=>zS a3 n a0.length) (jM b3))),rfl,c5⟩))))))))))
  ·refine aO a9 rfl (cN (bB (bB ?_)))
   have c6:=c2 _ (zI a1).symm
   subst c6
   have hm:(aAf out23)=some R:=hm
   exact bS (aA ⟨out23,hm,a6,a8⟩)
theorem aKI {list:(List Int)} {R:(List Int)} (hs:aN G K (L) w) (h3:cJ K a1 c2 list) (hm:aFb list=some R):
  Calls Tryz.prog 52 ([zS a1 list.length c2]:List Value).toArray w (gV fun v w'=>∃ (ra0:Option Addr) (rc0:Nat),v=zS ra0 R.length rc0∧aN G K (aK 2 K ra0 rc0 R::L) w'):=by
 refine aW Tryz.func52 rfl (by kernel_rfl) (by show (1:Nat)≤6;decide) ?_
 unfold aFb at hm
 refine aH (aC (aB (aG (v:=zS none 0 0) rfl) (aD (aA (aH (aC (dA (Kt:=K) (xs:=([]:List Int)) (cs:=[]) (vs:=[]) cG sU rfl rfl hs rfl (by kernel_rfl) rfl rfl rfl trivial (fun a4 w5 (a6:aN G K (aK 2 K a4 0 ([]:List Int)::L) w5)=>(aB (aF (v:=zS a1 list.length c2) rfl) ?_)))))))))
 obtain ⟨a3,q8,hm⟩:=aJ hm
 refine qP (i:=0) cG Tryz.underlying31 sU rfl rfl a6 rfl (zR _) h3 q8 rfl rfl rfl rfl (fun a9 a2 a8 (hs12:aN G K (aK 2 K a9 a2 a3::L) a8)=>(aB (aG (v:=zS a9 a3.length a2) rfl) (aD (aA ?_))))
 cases zI hm
 exact bC (bA Tryz.results52 rfl ⟨a9,a2,rfl,hs12⟩)
end Gv
