/- Walks, printed by program. -/
import Derived.Test.YtmlgcbjkfcapaaaGreatDoorKWk2
import Derived.Test.YtmlgcbjkfcapaaaGreatDoorKWk3
set_option linter.all false
namespace Gv
open Go.Value renaming slice→zS,bool→zB,pointer→zP
open Option.some renaming inj→zI
open Gv.Hp renaming le_trans→zL,le_refl→zR
open Go Go.Proofs
set_option maxRecDepth 20000
set_option maxHeartbeats 40000000
variable {G:Env} {K Kf:Hp} {L:List qD} {w:World} {a1 a4 a2 a5 a8 a11 a14 a17 a20 a23 a26 a28:Option Addr} {c2 c5 b1 c6 c9 c12 c15 c21 c24 c27 c29:Nat}
theorem aJL {j:(List Edge)} {e:Edge} {R:(List Edge)} (hs:aL G K (aN 63 K a1 c2 j::L) w) (a:aEE j e=some R):
  Calls Tryz.prog 102 ([zS a1 j.length c2,Value.agg #[i64 e.F,i64 e.B,i64 e.To]]:List Value).toArray w (fV fun v w'=>∃ (c8:Option Addr) (c9:Nat),v=zS c8 R.length c9∧aL G K (aN 63 K c8 c9 R::L) w'):=by
 let l:=[i64 e.F,i64 e.B,i64 e.To]
 let J:=aN 63 K a1 c2 j
 refine aT Tryz.func102 rfl (by kernel_rfl) (by show (2:Nat)≤57;decide) ?_
 unfold aEE at a
 refine aAZ (dW (v:=Value.agg #[i64 e.F,i64 e.B,i64 e.To]) (vs:=l) hs rfl rfl (fun c w4 f1=>(pM (v:=zS none 0 0) (aAf (aAZ (aBl (v:=zS a1 j.length c2) (aB (bQ (len:=j.length) cR rfl) (pM (v:=i64 (j.length:Int)) (aAf (aH (bD (fun f w=>∃ (r:Int),aAT j e r=some R∧f 0=zS a1 j.length c2∧f 3=zP (some ⟨c,0,none⟩)∧f 5=i64 r∧aL G K (box c 63 l::J::L) w) ?_ ?_)))))))))))
 ·rintro f j5 ⟨r,a,e7,e8,e9,k⟩
  unfold aAT at a
  refine aA (aH (aH (cS (fun f w=>∃ (b1:Bool),xT j e r b1=some R∧f 0=zS a1 j.length c2∧f 3=zP (some ⟨c,0,none⟩)∧f 5=i64 r∧f 30=zB b1∧aL G K (box c 63 l::J::L) w) ?_ ?_)))
  ·rintro f j6 ⟨b1,a,d0,f2,f3,d1,d2⟩
   unfold xT at a
   refine aA ?_
   rcases aK a with ⟨b2,a⟩|⟨b2,a⟩
   ·refine aO b2 d1 (aAZ (aCv d0 (pM (v:=zS a1 j.length c2) (aAf ?_))))
    cases zI a
    exact bF (aS (bC Tryz.results102 rfl ⟨a1,c2,rfl,(aL.arr 1 [] d2 rfl)⟩))
   ·refine aM b2 d1 (aW (aA (aAZ (aCv d0 (aB (kU (vs:=[]) (cs:=[i64 0,i64 0,i64 0]) bs_63 rfl (by kernel_rfl)) (dM (Kt:=K) (xs:=([⟨0,0,0⟩]:List Edge)) (cs:=[i64 0,i64 0,i64 0]) (vs:=[(0,Value.agg #[i64 0,i64 0,i64 0])]) cR vQ rfl rfl d2 rfl (by kernel_rfl) rfl rfl rfl ⟨rfl,trivial⟩ (fun f5 f6 (f7:aL G K (aN 63 K f5 1 ([⟨0,0,0⟩]:List Edge)::box c 63 l::J::L) f6)=>?_)))))))
    obtain ⟨a0,f8,a⟩:=aI a
    refine iY (i:=1) cR Tryz.underlying27 vQ rfl rfl f7 rfl (zR _) (zR _) f8 rfl rfl rfl rfl (fun _ h=>h) (fun m o f9 (g0:aL G K (box c 63 l::aN 63 K m o a0::L) f9)=>(pM (v:=zS m a0.length o) (aAf (aH (aAZ (aBl (v:=zS m a0.length o) (aB (bQ (len:=a0.length) cR rfl) (aB (jS rfl rfl) (pM (v:=i64 (wr ((a0.length:Int) - 1))) (aAf (bD (fun f w=>∃ (a4:List Edge),aAS e r a4=some R∧f 0=zS m a4.length o∧f 3=zP (some ⟨c,0,none⟩)∧f 5=i64 r∧aL G K (box c 63 l::aN 63 K m o a4::L) w) ?_ ?_)))))))))))
    ·rintro f j7 ⟨a4,a,d3,g1,g2,b4⟩
     unfold aAS at a
     refine aA (aAZ (aCv d3 (aCv g2 (aB (dK (us:=l) mB b4 (i:=0) rfl g1 rfl rfl) ?_))))
     obtain ⟨j8,b5,a⟩:=aI a
     have g3:=cG b4 (i:=1) rfl b5
     refine aB (dA cR rfl g3 rfl rfl rfl b5) ?_
     obtain ⟨b6,d4,a⟩:=aI a
     refine kV (i:=1) (t:=0) (ns:=l) (e':=(⟨e.F,e.B,e.To⟩:Edge)) Tryz.sizeOf63 b4 rfl (zR _) rfl rfl rfl b5 d4 rfl rfl (dL rfl) rfl (fun cs h=>by cases h;rfl) (fun g4 (g5:aL G K (box c 63 l::aN 63 K m o b6::L) g4)=>(aAf (aAZ (aCv (v:=zS m b6.length o) (Eq.trans d3 (congrArg (fun n=>zS m n o) (iN d4))) (pM (v:=zS m b6.length o) (aAf ?_))))))
     cases zI a
     exact bF (bC Tryz.results102 rfl ⟨m,o,rfl,(aL.arr 1 [] g5 rfl)⟩)
    obtain ⟨j9,g7,a⟩:=aI a
    refine cD g7 (fun (s:(List Edge × Int)) f w=>match s with|(V,a2)=>f 0=zS m V.length o∧f 3=zP (some ⟨c,0,none⟩)∧f 5=i64 r∧f 6=i64 a2∧aL G K (box c 63 l::aN 63 K m o V::L) w) ?_ ?_
    ·exact ⟨rfl,f2,f3,rfl,g0⟩
    ·rintro ⟨V,a2⟩ g8 f k0 p g9 ⟨a5,d5,b7,a6,a7⟩
     replace p:xS r V a2=some g8:=p
     unfold xS at p
     refine aH (aAZ (aCv a6 (aCv b7 (aB (mL rfl rfl) (aAf ?_)))))
     rcases aK p with ⟨b8,p⟩|⟨b8,p⟩
     ·refine aO b8 rfl (aW (aA (aH (cU (aC (aCv a5 (aCv a6 (aCv a5 (aCv a6 (aB (jS rfl rfl) ?_))))))))))
      obtain ⟨z,b9,p⟩:=aI p
      have d6:=cG a7 (i:=1) rfl b9
      refine aB (dA cR rfl d6 rfl rfl rfl b9) (aB (wX (t:=0) (vs:=[i64 z.F,i64 z.B,i64 z.To]) mB a7 (i:=1) rfl b9 rfl rfl rfl rfl) ?_)
      obtain ⟨k1,d7,p⟩:=aI p
      refine aB (dA cR rfl d6 rfl rfl rfl d7) ?_
      obtain ⟨d8,d9,p⟩:=aI p
      exact kV (i:=1) (t:=0) (ns:=[i64 z.F,i64 z.B,i64 z.To]) (e':=(⟨z.F,z.B,z.To⟩:Edge)) Tryz.sizeOf63 a7 rfl (zR _) rfl rfl rfl d7 d9 rfl rfl (dL rfl) rfl (fun cs h=>by cases h;rfl) (fun h0 (h1:aL G K (box c 63 l::aN 63 K m o d8::L) h0)=>(aF (bG (aA (aC (aCv a6 (aB (jS rfl rfl) (pM (v:=i64 (wr (a2 - 1))) (aAf ⟨(d8,wr (a2 - 1)),(zI p).symm,(Eq.trans a5 (congrArg (fun n=>zS m n o) (iN d9))),d5,b7,rfl,h1⟩)))))))))
     ·refine aM b8 rfl (cB (aY (aY ?_)))
      have h2:=g9 _ (zI p).symm
      subst h2
      have a:(aAS e r V)=some R:=a
      exact bO (aA ⟨V,a,a5,d5,b7,a7⟩)
  refine cT (C:=fun w'=>aL G K (box c 63 l::J::L) w') bK (by kernel_rfl) (aL.mono k (dE.drew _)) (aQ (fun _ k=>aD e9) (aQ (fun _ k=>mL rfl rfl) (aQ (fun _ k=>aD (v:=zB (decide (0 < r))) rfl) ?_)))
  rcases aK a with ⟨d,a⟩|⟨d,a⟩
  ·refine bP (g:=22) rfl rfl d (aQ (fun _ k=>aD e7) (bP (g:=22) rfl rfl d (aQ (fun _ k=>aD e9) (bP (g:=22) rfl rfl d (aQ (fun _ k=>jS rfl rfl) (bP (g:=22) rfl rfl d ?_))))))
   obtain ⟨Z,c0,a⟩:=aI a
   have h3:=cG k (i:=1) rfl c0
   exact aQ (fun _ k=>dA cR rfl h3 rfl rfl rfl c0) (bP (g:=22) rfl rfl d (aQ (fun _ k=>wX (t:=0) (vs:=[i64 Z.F,i64 Z.B,i64 Z.To]) mB k (i:=1) rfl c0 rfl rfl rfl rfl) (bP (g:=22) rfl rfl d (aQ (fun _ k=>dK (us:=l) mB k (i:=0) rfl e8 rfl rfl) (bP (g:=22) rfl rfl d (aQ (fun _ k=>R_eqlG (eq_63 (x:=Z) (y:=e)) rfl rfl) (aQ (fun _ k=>bI (v:=zB (decide ((Z:Edge)=e))) d rfl rfl) (dC (fun k2 h4=>(aA ⟨decide ((Z:Edge)=e),a,e7,e8,e9,rfl,h4⟩))))))))))
  ·exact aX (g:=22) rfl rfl (bU d) (aX (g:=22) rfl rfl (bU d) (aX (g:=22) rfl rfl (bU d) (aX (g:=22) rfl rfl (bU d) (aX (g:=22) rfl rfl (bU d) (aX (g:=22) rfl rfl (bU d) (aX (g:=22) rfl rfl (bU d) (aQ (fun _ k=>bJ (v:=zB false) d rfl rfl) (dC (fun k3 h5=>(aA ⟨false,a,e7,e8,e9,rfl,h5⟩))))))))))
 obtain ⟨k4,h6,a⟩:=aI a
 refine cD h6 (fun (u:Int) f w=>f 0=zS a1 j.length c2∧f 3=zP (some ⟨c,0,none⟩)∧f 5=i64 u∧aL G K (box c 63 l::J::L) w) ?_ ?_
 ·exact ⟨rfl,rfl,rfl,f1⟩
 ·rintro u e0 f k5 b h7 ⟨c1,c3,a8,c4⟩
  replace b:uH j e u=some e0:=b
  unfold uH at b
  refine aH (aH (cS (fun f w=>∃ (c5:Bool),xU u c5=some e0∧f 0=zS a1 j.length c2∧f 3=zP (some ⟨c,0,none⟩)∧f 5=i64 u∧f 17=zB c5∧aL G K (box c 63 l::J::L) w) ?_ ?_))
  ·rintro f k6 ⟨c5,b,e1,e2,e3,e4,e5⟩
   unfold xU at b
   refine aA ?_
   rcases aK b with ⟨c6,b⟩|⟨c6,b⟩
   ·exact aO c6 e4 (aW (aA (cU (aC (aCv e3 (aB (jS rfl rfl) (pM (v:=i64 (wr (u - 1))) (aF (bG (aA ⟨wr (u - 1),(zI b).symm,e1,e2,rfl,e5⟩))))))))))
   ·refine aM c6 e4 (cB (aY (aY ?_)))
    have h8:=h7 _ (zI b).symm
    subst h8
    have a:(aAT j e u)=some R:=a
    exact bO (aA ⟨u,a,e1,e2,e3,e5⟩)
  refine aC (aCv a8 (aB (mL rfl rfl) (aBl (v:=zB (decide (0 < u))) ?_)))
  rcases aK b with ⟨q,b⟩|⟨q,b⟩
  ·refine bE q rfl rfl (aCv c1 (bE q rfl rfl (aCv a8 (bE q rfl rfl (aB (jS rfl rfl) (bE q rfl rfl ?_))))))
   obtain ⟨k7,c7,b⟩:=aI b
   have h9:=cG c4 (i:=1) rfl c7
   refine aB (dA cR rfl h9 rfl rfl rfl c7) (bE q rfl rfl ?_)
   obtain ⟨k8,i0,i1,i2,i3⟩:=aL.lendB (i:=0) c4 rfl
   obtain ⟨k9,i4,i5,i6,i7⟩:=aL.lendS (i:=0) i2 i0 rfl
   obtain ⟨l0,i8,i9⟩:=bT.el (sz:=3) rfl i5 c7
   cases i9
   obtain ⟨e6,j0,b⟩:=aI b
   refine aU (vs:=[bY (some ⟨c,0,none⟩) 0,bY a1 ((wr (u - 1)).toNat * 3+0)]) Tryz.call69 (lst2 c3 rfl) (aEK i6 (i1.mono i4) i8 j0) ?_
   rintro _ l1 ⟨rfl,j1⟩
   have j2:=i7 _ _ j1
   have j3:=i3 _ _ j2
   exact aB (bI (v:=zB e6) q rfl rfl) (aAf ⟨e6,b,c1,c3,a8,rfl,j3⟩)
  ·exact aV q rfl rfl (aV q rfl rfl (aV q rfl rfl (aV q rfl rfl (aV q rfl rfl (aB (bJ (v:=zB false) q rfl rfl) (aAf ⟨false,b,c1,c3,a8,rfl,c4⟩))))))
theorem aIA {g h:Int} {J:(List aZ)} {Z:(List Edge)} {R:dB} (hs:aL G K (L) w) (h3:bT K a1 c2 J) (h6:bT K a4 c5 Z) (l:aDp g h J Z=some R):
  Calls Tryz.prog 71 ([i64 g,i64 h,zS a1 J.length c2,zS a4 Z.length c5]:List Value).toArray w (fV fun v w'=>∃ (b8:Option Addr) (b9:Nat) (c0:Option Addr) (c1:Nat),v=Value.agg (zCa R b8 b9 c0 c1)∧aL G K (aN 9 K b8 b9 R.L::aN 63 K c0 c1 R.E::L) w'):=by
 let u:=zG
 refine aT Tryz.func71 rfl (by kernel_rfl) (by show (4:Nat)≤43;decide) ?_
 unfold aDp at l
 refine aAZ (cF (vs:=u) Tryz.zeroValue29 hs rfl (fun m w8 d5=>(aAf (aAZ (aBl (v:=i64 g) (aBl (v:=i64 h) (aBl (v:=zS a1 J.length c2) ?_)))))))
 obtain ⟨a,d6,l⟩:=aI l
 refine aU (vs:=[zS a1 J.length c2]) Tryz.call100 rfl (aIz d5 h3 d6) ?_
 rintro _ i0 ⟨b,c,rfl,d7⟩
 refine dM (Kt:=K) (xs:=([]:List Edge)) (cs:=[]) (vs:=[]) cR vQ rfl rfl d7 rfl (by kernel_rfl) rfl rfl rfl trivial (fun y d8 (d9:aL G K (aN 63 K y 0 ([]:List Edge)::aN 9 K b c a::box m 29 u::L) d8)=>(aB (kU (vs:=[(0,i64 g),(1,i64 h),(2,zS b a.length c),(3,zS y ([]:List Edge).length 0)]) (cs:=[i64 g,i64 h,zS b a.length c,zS y ([]:List Edge).length 0]) aEz rfl (by kernel_rfl)) (cF (vs:=u) Tryz.zeroValue29 d9 rfl (fun x i1 e0=>(cC (i:=0) (ns:=[i64 g,i64 h,zS b a.length c,zS y ([]:List Edge).length 0]) (us:=[i64 g,i64 h,zS b a.length c,zS y ([]:List Edge).length 0]) Tryz.sizeOf29 e0 rfl rfl rfl rfl rfl (dL rfl) rfl rfl (fun e1 (e2:aL G K (box x 29 [i64 g,i64 h,zS b a.length c,zS y ([]:List Edge).length 0]::aN 63 K y 0 ([]:List Edge)::aN 9 K b c a::box m 29 u::L) e1)=>(aAf (aH (aAZ (pM (v:=i64 0) (aAf (bD (fun f w=>∃ (n:List Edge) (o:Option Addr) (p:Nat),aBB g h a n=some R∧f 8=zP (some ⟨m,0,none⟩)∧f 9=zP (some ⟨x,0,none⟩)∧aL G K (aN 63 K o p n::box x 29 [i64 g,i64 h,zS b a.length c,zS o n.length p]::aN 9 K b c a::box m 29 u::L) w) ?_ ?_))))))))))))
 ·rintro f i2 ⟨n,o,p,l,c3,e3,c4⟩
  unfold aBB at l
  refine aA (aAZ (aB (dK (us:=[i64 g,i64 h,zS b a.length c,zS o n.length p]) fD c4 (i:=1) rfl e3 rfl rfl) (cC (i:=3) (ns:=[i64 g,i64 h,zS b a.length c,zS o n.length p]) (us:=[i64 g,i64 h,zS b a.length c,zS o n.length p]) Tryz.sizeOf29 c4 rfl c3 rfl rfl rfl (dL rfl) rfl rfl (fun e4 (c6:aL G K (aN 63 K o p n::box x 29 [i64 g,i64 h,zS b a.length c,zS o n.length p]::aN 9 K b c a::box m 29 [i64 g,i64 h,zS b a.length c,zS o n.length p]::L) e4)=>(aAf ?_)))))
  cases zI l
  exact bF (aDN Tryz.results71 (kW (vs:=[i64 g,i64 h,zS b a.length c,zS o n.length p]) rfl fD c6 (i:=3) rfl c3 rfl) ⟨b,c,o,p,rfl,(aL.arr 4 [2,0] c6 rfl)⟩)
 obtain ⟨i3,e6,l⟩:=aI l
 refine cD e6 (fun (s:(List Edge × Int)) f w=>match s with|(k,a0)=>∃ (q:Option Addr) (r:Nat),f 2=zS a1 J.length c2∧f 3=zS a4 Z.length c5∧f 8=zP (some ⟨m,0,none⟩)∧f 9=zP (some ⟨x,0,none⟩)∧f 10=i64 a0∧aL G K (box x 29 [i64 g,i64 h,zS b a.length c,zS q k.length r]::aN 63 K q r k::aN 9 K b c a::box m 29 u::L) w) ?_ ?_
 ·exact ⟨y,0,rfl,rfl,rfl,rfl,rfl,e2⟩
 ·rintro ⟨k,a0⟩ e7 f i4 j e8 ⟨q,r,c7,b0,c8,a2,b1,b2⟩
  replace j:rS J Z a k a0=some e7:=j
  unfold rS at j
  refine aH (aAZ (aCv b1 (aCv b0 (aB (bQ (len:=Z.length) cR rfl) (aB (cJ rfl rfl) (aAf ?_))))))
  rcases aK j with ⟨b3,j⟩|⟨b3,j⟩
  ·refine aO b3 rfl (aW (aA (aH (cU (aAZ (aCv b0 (aCv b1 ?_)))))))
   obtain ⟨d,c9,j⟩:=aI j
   refine aB (cO cR rfl h6 rfl rfl rfl c9) ?_
   obtain ⟨i5,e9,f0⟩:=bT.el (sz:=3) rfl h6 c9
   cases f0
   refine aB (gO (t:=0) (vs:=[i64 d.F,i64 d.B,i64 d.To]) mB b2 e9 rfl rfl rfl) (cF (vs:=[i64 0,i64 0,i64 0]) Tryz.zeroValue63 b2 rfl (fun a7 i6 f1=>(cC (i:=0) (ns:=[i64 d.F,i64 d.B,i64 d.To]) (us:=[i64 d.F,i64 d.B,i64 d.To]) Tryz.sizeOf63 f1 rfl rfl rfl rfl rfl (dL rfl) rfl rfl (fun f2 (f3:aL G K (box a7 63 [i64 d.F,i64 d.B,i64 d.To]::box x 29 [i64 g,i64 h,zS b a.length c,zS q k.length r]::aN 63 K q r k::aN 9 K b c a::box m 29 u::L) f2)=>(aAf (aH ?_))))))
   obtain ⟨i7,b4,f4,f5,f6⟩:=aL.lendB (i:=0) f3 rfl
   obtain ⟨f7,a8,f8,d0,f9⟩:=aL.lendB (i:=0) f5 rfl
   refine eQ (C:=fun w'=>∃ L',aL G f7 L' w') [(0,0),(1,0),(2,0),(3,0),(4,0),(5,0),(6,0),(7,1),(8,0),(9,2)] bK (by kernel_rfl) (fun _ hg=>⟨_,aL.mono d0 hg⟩) (fun i8 g0=>?_)
   have V:=aL.mono d0 g0
   refine bS rfl (fun _ _=>bB (t':=2) gL a2 rfl) (bS rfl (fun _ ⟨_,V⟩=>bH (t:=2) jJ V f8 rfl rfl) (bS rfl (fun _ _=>aD c7) (bS rfl (fun _ _=>bB (t':=1) fP rfl rfl) (bS rfl (fun _ ⟨_,V⟩=>bH (t:=1) cP V (f4.mono a8) rfl rfl) ?_))))
   obtain ⟨g1,d1,j⟩:=aI j
   refine bS rfl (fun _ _=>cO cY rfl (h3.mono (zL b4 a8)) rfl rfl rfl d1) ?_
   obtain ⟨i9,g2,g3⟩:=bT.el (sz:=1) rfl h3 d1
   cases g3
   refine bS rfl (fun _ ⟨_,V⟩=>bH (t:=0) pK V (g2.mono (zL b4 a8)) rfl rfl) (lL rfl ?_)
   obtain ⟨j0,j1,g4,g5,g6⟩:=aL.lendS (i:=1) V (zL b4 a8) rfl
   obtain ⟨z,g7,j⟩:=aI j
   refine aU (vs:=[zS b a.length c,cL g1]) Tryz.call105 rfl (zY g5 g4 g7) ?_
   rintro _ j2 ⟨rfl,g8⟩
   have d2:=g6 _ _ g8
   refine aF (aA ⟨⟨_,d2⟩,?_⟩)
   refine bS rfl (fun _ _=>bB (t':=1) fP rfl rfl) ?_
   have g9:=f9 _ _ d2
   have h0:=f6 _ _ g9
   refine aBn rfl (cC (i:=0) (ns:=[i64 z]) (us:=[i64 d.F,i64 z,i64 d.To]) Tryz.sizeOf2 h0 rfl rfl rfl rfl rfl (dL rfl) rfl rfl (fun d3 (b5:aL G K (box a7 63 [i64 d.F,i64 z,i64 d.To]::box x 29 [i64 g,i64 h,zS b a.length c,zS q k.length r]::aN 9 K b c a::aN 63 K q r k::box m 29 u::L) d3)=>(aAf (kB (aA (aC (aB (bB (t':=3) dO a2 rfl) (aB (bR hX b5 (i:=1) rfl rfl rfl) (aB (dK (us:=[i64 d.F,i64 z,i64 d.To]) mB b5 (i:=0) rfl rfl rfl rfl) ?_)))))))))
   have h1:aL G K (aN 63 K q r k::box a7 63 [i64 d.F,i64 z,i64 d.To]::box x 29 [i64 g,i64 h,zS b a.length c,zS q k.length r]::aN 9 K b c a::box m 29 u::L) d3:=(aL.arr 4 [3,0,1,2] b5 rfl)
   obtain ⟨a3,h2,j⟩:=aI j
   refine aU (vs:=[zS q k.length r,Value.agg #[i64 d.F,i64 z,i64 d.To]]) Tryz.call102 rfl (aJL (e:=⟨d.F,z,d.To⟩) h1 h2) ?_
   rintro _ j3 ⟨a5,a6,rfl,h4⟩
   exact aB (bB (t':=3) dO a2 rfl) (cC (i:=2) (ns:=[zS a5 a3.length a6]) (us:=[i64 g,i64 h,zS b a.length c,zS a5 a3.length a6]) Tryz.sizeOf27 h4 rfl rfl rfl rfl rfl (dL rfl) rfl rfl (fun h5 (h7:aL G K (aN 63 K a5 a6 a3::box a7 63 [i64 d.F,i64 z,i64 d.To]::box x 29 [i64 g,i64 h,zS b a.length c,zS a5 a3.length a6]::aN 9 K b c a::box m 29 u::L) h5)=>(aF (bG (aA (aC (aCv b1 (aB (cX rfl rfl) (pM (v:=i64 (wr (a0+1))) (aAf ⟨(a3,wr (a0+1)),(zI j).symm,a5,a6,c7,b0,c8,a2,rfl,(aL.arr 3 [2,0] h7 rfl)⟩))))))))))
  ·refine aM b3 rfl (cB (aY (aY ?_)))
   have h8:=e8 _ (zI j).symm
   subst h8
   have l:(aBB g h a k)=some R:=l
   exact bO (aA ⟨k,q,r,l,c8,a2,(aL.arr 2 [1,0] b2 rfl)⟩)
theorem aGo {a b:(List Int)} {R:Int} (hs:aL G K (L) w) (o:bT K a1 c2 a) (p:bT K a4 c5 b) (d:zH a b=some R):
  Calls Tryz.prog 198 ([zS a1 a.length c2,zS a4 b.length c5]:List Value).toArray w (fV fun v w'=>v=i64 R∧aL G K (L) w'):=by
 refine aT Tryz.func198 rfl (by kernel_rfl) (by show (2:Nat)≤46;decide) ?_
 unfold zH at d
 refine aAZ (pM (v:=i64 0) (aAf (aH (aAZ (pM (v:=i64 0) (aAf (bD (fun f w=>sF a b=some R∧f 0=zS a1 a.length c2∧f 1=zS a4 b.length c5∧aL G K (L) w) ?_ ?_)))))))
 ·rintro f w9 ⟨d,e7,e8,q⟩
  unfold sF at d
  refine aA (aH (aAZ (aCv e7 (aB (bQ (len:=a.length) bW rfl) (aCv e8 (aB (bQ (len:=b.length) bW rfl) (aB (cJ rfl rfl) (aAf ?_))))))))
  rcases aK d with ⟨r,d⟩|⟨r,d⟩
  ·refine aO r rfl (aAZ (pM (v:=i64 (-1)) (aAf ?_)))
   cases zI d
   exact bF (aS (bC Tryz.results198 rfl ⟨rfl,q⟩))
  ·refine aM r rfl (aW (aA (aH (aAZ (aCv e7 (aB (bQ (len:=a.length) bW rfl) (aCv e8 (aB (bQ (len:=b.length) bW rfl) (aB (mL rfl rfl) (aAf ?_))))))))))
   rcases aK d with ⟨u,d⟩|⟨u,d⟩
   ·refine aO u rfl (aAZ (pM (v:=i64 1) (aAf ?_)))
    cases zI d
    exact bF (aS (bC Tryz.results198 rfl ⟨rfl,q⟩))
   ·refine aM u rfl (aW (aA (aAZ (pM (v:=i64 0) (aAf ?_)))))
    cases zI d
    exact bF (bC Tryz.results198 rfl ⟨rfl,q⟩)
 obtain ⟨c8,b7,d⟩:=aI d
 refine cD b7 (fun (j:Int) f w=>f 0=zS a1 a.length c2∧f 1=zS a4 b.length c5∧f 5=i64 j∧aL G K (L) w) ?_ ?_
 ·exact ⟨rfl,rfl,rfl,hs⟩
 ·rintro j a7 f c9 c x ⟨y,z,l,a8⟩
  replace c:lH a b j=some a7:=c
  unfold lH at c
  refine aH (aH (cS (fun f w=>∃ (J:Bool),oU a b j J=some a7∧f 0=zS a1 a.length c2∧f 1=zS a4 b.length c5∧f 5=i64 j∧f 15=zB J∧aL G K (L) w) ?_ ?_))
  ·rintro f d0 ⟨J,c,m,n,k,a9,e⟩
   unfold oU at c
   refine aA ?_
   rcases aK c with ⟨V,c⟩|⟨V,c⟩
   ·refine aO V a9 (aW (aA (aH (cU (aH (aH (cT (C:=fun w'=>aL G K (L) w') bK (by kernel_rfl) (aL.mono e (dE.drew _)) (aQ (fun _ e=>aD m) (aQ (fun _ e=>aD k) ?_)))))))))
    obtain ⟨d1,Z,c⟩:=aI c
    refine aQ (fun _ e=>cO bW rfl o rfl rfl rfl Z) ?_
    obtain ⟨d2,b0,b8⟩:=bT.el (sz:=1) rfl o Z
    cases b8
    refine aQ (fun _ e=>bH (t:=0) cP e b0 rfl rfl) (aQ (fun _ e=>aD n) (aQ (fun _ e=>aD k) ?_))
    obtain ⟨d3,a0,c⟩:=aI c
    refine aQ (fun _ e=>cO bW rfl p rfl rfl rfl a0) ?_
    obtain ⟨d4,b1,b9⟩:=bT.el (sz:=1) rfl p a0
    cases b9
    refine aQ (fun _ e=>bH (t:=0) cP e b1 rfl rfl) (aQ (fun _ e=>cJ rfl rfl) (dC (fun d5 h=>(aA ?_))))
    rcases aK c with ⟨a2,c⟩|⟨a2,c⟩
    ·refine aO a2 rfl (aAZ (pM (v:=i64 (-1)) (aAf (bF (aS (bN (aS (aS ?_))))))))
     have c0:=x _ (zI c).symm
     subst c0
     have d:(some (-1))=some R:=d
     cases zI d
     exact bN (aS (aS (bC Tryz.results198 rfl ⟨rfl,h⟩)))
    ·refine aM a2 rfl (aW (aA (aH (cT (C:=fun w'=>aL G K (L) w') bK (by kernel_rfl) (aL.mono h (dE.drew _)) (aQ (fun _ h=>aD m) (aQ (fun _ h=>aD k) (aQ (fun _ h=>cO bW rfl o rfl rfl rfl Z) (aQ (fun _ h=>bH (t:=0) cP h b0 rfl rfl) (aQ (fun _ h=>aD n) (aQ (fun _ h=>aD k) (aQ (fun _ h=>cO bW rfl p rfl rfl rfl a0) (aQ (fun _ h=>bH (t:=0) cP h b1 rfl rfl) (aQ (fun _ h=>mL rfl rfl) (dC (fun d6 b2=>(aA ?_))))))))))))))))
     rcases aK c with ⟨a3,c⟩|⟨a3,c⟩
     ·refine aO a3 rfl (aAZ (pM (v:=i64 1) (aAf (bF (bN (aS (aS ?_)))))))
      have c3:=x _ (zI c).symm
      subst c3
      have d:(some 1)=some R:=d
      cases zI d
      exact bN (aS (aS (bC Tryz.results198 rfl ⟨rfl,b2⟩)))
     ·exact aM a3 rfl (aW (bG (aA (aC (aCv k (aB (cX rfl rfl) (pM (v:=i64 (wr (j+1))) (aAf ⟨wr (j+1),(zI c).symm,m,n,rfl,b2⟩))))))))
   ·refine aM V a9 (cB (aY (aY ?_)))
    have c6:=x _ (zI c).symm
    subst c6
    have d:(sF a b)=some R:=d
    exact bO (aA ⟨d,m,n,e⟩)
  refine aC (aCv l (aCv y (aB (bQ (len:=a.length) bW rfl) (aB (cJ rfl rfl) (aBl (v:=zB (decide (j < (a.length:Int)))) ?_)))))
  rcases aK c with ⟨i,c⟩|⟨i,c⟩
  ·exact bE i rfl rfl (aCv l (bE i rfl rfl (aCv z (bE i rfl rfl (aB (bQ (len:=b.length) bW rfl) (bE i rfl rfl (aB (cJ rfl rfl) (aB (bI (v:=zB (decide (j < (b.length:Int)))) i rfl rfl) (aAf ⟨decide (j < (b.length:Int)),c,y,z,l,rfl,a8⟩)))))))))
  ·exact aV i rfl rfl (aV i rfl rfl (aV i rfl rfl (aV i rfl rfl (aB (bJ (v:=zB false) i rfl rfl) (aAf ⟨false,c,y,z,l,rfl,a8⟩)))))
theorem aGP {rows:(List (List Int))} {b:(List Int)} {R:(List (List Int))} (hs:aL G K (L) w) (o:Hp.le Kf K) (h3:bT Kf a1 c2 rows) (h6:bT Kf a4 c5 b) (c:aAU rows b=some R):
  Calls Tryz.prog 139 ([zS a1 rows.length c2,zS a4 b.length c5]:List Value).toArray w (fV fun v w'=>∃ (d9:Option Addr) (e0:Nat),v=zS d9 R.length e0∧aL G K (aN 38 Kf d9 e0 R::L) w'):=by
 refine aT Tryz.func139 rfl (by kernel_rfl) (by show (2:Nat)≤48;decide) ?_
 unfold aAU at c
 refine aAZ (pM (v:=zS none 0 0) (aAf (aAZ (dM (Kt:=Kf) (xs:=([]:List (List Int))) (cs:=[]) (vs:=[]) fX aBV rfl rfl hs rfl (by kernel_rfl) rfl rfl rfl trivial (fun a7 w8 (f2:aL G K (aN 38 Kf a7 0 ([]:List (List Int))::L) w8)=>(pM (v:=zS a7 ([]:List (List Int)).length 0) (aAf (aAZ (pM (v:=zB false) (aAf (aH (aAZ (pM (v:=i64 0) (aAf (bD (fun f w=>∃ (p:List (List Int)) (b4:Bool) (r:Option Addr) (u:Nat),uJ b p b4=some R∧f 1=zS a4 b.length c5∧f 5=zS r p.length u∧f 6=zB b4∧aL G K (aN 38 Kf r u p::L) w) ?_ ?_)))))))))))))))
 ·rintro f i8 ⟨p,b4,r,u,c,f3,e1,f4,e2⟩
  unfold uJ at c
  refine aA (aBQ (fun f w=>∃ (x:List (List Int)) (y:Option Addr) (z:Nat),uI x=some R∧f 5=zS y x.length z∧aL G K (aN 38 Kf y z x::L) w) ?_ ?_)
  ·rintro f i9 ⟨x,y,z,c,f5,f6⟩
   unfold uI at c
   refine aAZ (aCv f5 (pM (v:=zS y x.length z) (aAf ?_)))
   cases zI c
   exact bF (bC Tryz.results139 rfl ⟨y,z,rfl,f6⟩)
  refine aAZ (aCv f4 (aB (dY rfl) (aAf ?_)))
  rcases aK c with ⟨b5,c⟩|⟨b5,c⟩
  ·refine aO b5 rfl (aC (aCv e1 (aCv f3 (dM (Kt:=Kf) (xs:=([b]:List (List Int))) (cs:=[zS a4 b.length c5]) (vs:=[(0,zS a4 b.length c5)]) fX aBV rfl rfl e2 rfl (by kernel_rfl) rfl rfl rfl ⟨⟨a4,c5,rfl,h6⟩,trivial⟩ (fun f8 f9 (g0:aL G K (aN 38 Kf f8 1 ([b]:List (List Int))::aN 38 Kf r u p::L) f9)=>?_)))))
   obtain ⟨b6,g1,c⟩:=aI c
   exact aFX (i:=0) Kf fX Tryz.underlying74 aBV rfl rfl g0 rfl (zR _) (zR _) g1 rfl rfl rfl rfl (fun _ _ _ h=>El.one h) (fun b7 b8 g2 (g3:aL G K (aN 38 Kf b7 b8 b6::L) g2)=>(pM (v:=zS b7 b6.length b8) (aAf ⟨b6,b7,b8,c,rfl,g3⟩)))
  ·exact aM b5 rfl (aW (aA ⟨p,r,u,c,e1,e2⟩))
 obtain ⟨j0,g4,c⟩:=aI c
 refine cD g4 (fun (s:(List (List Int) × Bool × Int)) f w=>match s with|(d,e,j)=>∃ (k:Option Addr) (l:Nat),f 0=zS a1 rows.length c2∧f 1=zS a4 b.length c5∧f 5=zS k d.length l∧f 6=zB e∧f 7=i64 j∧aL G K (aN 38 Kf k l d::L) w) ?_ ?_
 ·exact ⟨a7,0,rfl,rfl,rfl,rfl,rfl,f2⟩
 ·rintro ⟨d,e,j⟩ b9 f j1 a g5 ⟨k,l,V,Z,c0,a0,a2,c1⟩
  replace a:qS rows b d e j=some b9:=a
  unfold qS at a
  refine aH (aAZ (aCv a2 (aCv V (aB (bQ (len:=rows.length) fX rfl) (aB (cJ rfl rfl) (aAf ?_))))))
  rcases aK a with ⟨c3,a⟩|⟨c3,a⟩
  ·refine aO c3 rfl (aW (aA (aH (cU (aAZ (aCv V (aCv a2 ?_)))))))
   obtain ⟨m,c4,a⟩:=aI a
   refine aB (cO fX rfl (h3.mono o) rfl rfl rfl c4) ?_
   obtain ⟨j2,e3,g6⟩:=bT.el (sz:=1) rfl h3 c4
   obtain ⟨a3,a5,rfl,e4⟩:=g6
   refine aB (bH (t:=0) mM c1 (e3.mono o) rfl rfl) (aCv Z ?_)
   obtain ⟨q,g7,a⟩:=aI a
   refine aU (vs:=[zS a3 m.length a5,zS a4 b.length c5]) Tryz.call198 rfl (aGo c1 (e4.mono o) (h6.mono o) g7) ?_
   rintro _ j3 ⟨rfl,e5⟩
   refine pM (v:=i64 q) (aAf (aBQ (fun f w=>∃ (J:List (List Int)) (a6:Bool) (a8:Option Addr) (a9:Nat),kY j m J a6=some b9∧f 0=zS a1 rows.length c2∧f 1=zS a4 b.length c5∧f 5=zS a8 J.length a9∧f 6=zB a6∧f 7=i64 j∧aL G K (aN 38 Kf a8 a9 J::L) w) ?_ ?_))
   ·rintro f j4 ⟨J,a6,a8,a9,a,e6,g8,g9,h0,e7,e8⟩
    unfold kY at a
    refine aC (aCv g9 (aCv e6 (aCv e7 (aB (cO fX rfl (h3.mono o) rfl rfl rfl c4) (aB (bH (t:=0) mM e8 (e3.mono o) rfl rfl) (dM (Kt:=Kf) (xs:=([m]:List (List Int))) (cs:=[zS a3 m.length a5]) (vs:=[(0,zS a3 m.length a5)]) fX aBV rfl rfl e8 rfl (by kernel_rfl) rfl rfl rfl ⟨⟨a3,a5,rfl,e4⟩,trivial⟩ (fun h1 h2 (h4:aL G K (aN 38 Kf h1 1 ([m]:List (List Int))::aN 38 Kf a8 a9 J::L) h2)=>?_)))))))
    obtain ⟨c6,h5,a⟩:=aI a
    exact aFX (i:=0) Kf fX Tryz.underlying74 aBV rfl rfl h4 rfl (zR _) (zR _) h5 rfl rfl rfl rfl (fun _ _ _ h=>El.one h) (fun c7 c8 h7 (h8:aL G K (aN 38 Kf c7 c8 c6::L) h7)=>(pM (v:=zS c7 c6.length c8) (aF (bG (aA (aC (aCv e7 (aB (cX rfl rfl) (pM (v:=i64 (wr (j+1))) (aAf ⟨(c6,a6,wr (j+1)),(zI a).symm,c7,c8,e6,g8,rfl,h0,rfl,h8⟩))))))))))
   refine aH (cS (fun f w=>∃ (c9:Bool),qR b d e j m q c9=some b9∧f 0=zS a1 rows.length c2∧f 1=zS a4 b.length c5∧f 5=zS k d.length l∧f 6=zB e∧f 7=i64 j∧f 8=i64 q∧f 27=zB c9∧aL G K (aN 38 Kf k l d::L) w) ?_ ?_)
   ·rintro f j5 ⟨c9,a,d0,b0,d1,h9,d2,i0,e9,d3⟩
    unfold qR at a
    refine aA ?_
    rcases aK a with ⟨d4,a⟩|⟨d4,a⟩
    ·refine aO d4 e9 (aAZ (pM (v:=zB true) (aAf (aAZ (aCv i0 (aB (mL rfl rfl) (aAf ?_)))))))
     rcases aK a with ⟨d5,a⟩|⟨d5,a⟩
     ·refine aO d5 rfl (aC (aCv d1 (aCv b0 (dM (Kt:=Kf) (xs:=([b]:List (List Int))) (cs:=[zS a4 b.length c5]) (vs:=[(0,zS a4 b.length c5)]) fX aBV rfl rfl d3 rfl (by kernel_rfl) rfl rfl rfl ⟨⟨a4,c5,rfl,h6⟩,trivial⟩ (fun i1 i2 (i3:aL G K (aN 38 Kf i1 1 ([b]:List (List Int))::aN 38 Kf k l d::L) i2)=>?_)))))
      obtain ⟨d6,i4,a⟩:=aI a
      exact aFX (i:=0) Kf fX Tryz.underlying74 aBV rfl rfl i3 rfl (zR _) (zR _) i4 rfl rfl rfl rfl (fun _ _ _ h=>El.one h) (fun d7 d8 i5 (i6:aL G K (aN 38 Kf d7 d8 d6::L) i5)=>(pM (v:=zS d7 d6.length d8) (aAf ⟨d6,true,d7,d8,a,d0,b0,rfl,rfl,d2,i6⟩)))
     ·exact aM d5 rfl (aW (aA ⟨d,true,k,l,a,d0,b0,d1,rfl,d2,d3⟩))
    ·exact aM d4 e9 (aW (aA ⟨d,e,k,l,a,d0,b0,d1,h9,d2,d3⟩))
   refine aC (aCv a0 (aB (dY rfl) (aBl (v:=zB (!e)) ?_)))
   rcases aK a with ⟨n,a⟩|⟨n,a⟩
   ·exact bE n rfl rfl (aBl (v:=i64 q) (bE n rfl rfl (aB (tT rfl rfl) (aB (bI (v:=zB (decide (0≤q))) n rfl rfl) (aAf ⟨decide (0≤q),a,V,Z,c0,a0,a2,rfl,rfl,e5⟩)))))
   ·exact aV n rfl rfl (aV n rfl rfl (aB (bJ (v:=zB false) n rfl rfl) (aAf ⟨false,a,V,Z,c0,a0,a2,rfl,rfl,e5⟩)))
  ·refine aM c3 rfl (cB (aY (aY ?_)))
   have i7:=g5 _ (zI a).symm
   subst i7
   have c:(uJ b d e)=some R:=c
   exact bO (aA ⟨d,e,k,l,c,Z,c0,a0,c1⟩)
theorem aCq {d:cA} {n:Nat} {o:dB} {a3:Nat} {r:(List (List Int))} {u:(List Edge)} {b8:Bool} {a4:Int} {R:(List Int)} (hs:aL G K (aN 38 Kf a26 c27 r::aN 63 K a28 c29 u::box b1 86 [bY a2 n,bY a17 a3,zS a26 r.length c27,zS a28 u.length c29,zB b8]::L) w) (d5:Hp.le Kf K) (x:fW K a2 n (zE d a5 c6 a8 c9 a11 c12 a14 c15)) (h7:bT K a5 c6 d.S.L) (f1:bT K a8 c9 d.S.E) (k5:bT K a11 c12 d.M) (k6:bT K a14 c15 d.C) (f2:fW K a17 a3 (zC o a20 c21 a23 c24)) (f3:bT K a20 c21 o.L) (f4:bT K a23 c24 o.E) (c:lM d o r u b8 a4=some R):
  Calls Tryz.prog 197 ([zP (some ⟨b1,0,none⟩),i64 a4]:List Value).toArray w (fV fun v w'=>∃ (d6:Option Addr) (d7:Nat),v=zS d6 R.length d7∧aL G K (aN 2 K d6 d7 R::aN 38 Kf a26 c27 r::aN 63 K a28 c29 u::box b1 86 [bY a2 n,bY a17 a3,zS a26 r.length c27,zS a28 u.length c29,zB b8]::L) w'):=by
 let y:=box b1 86 [bY a2 n,bY a17 a3,zS a26 r.length c27,zS a28 u.length c29,zB b8]
 let z:=aN 63 K a28 c29 u
 let a1:=aN 38 Kf a26 c27 r
 refine aT Tryz.func197 rfl (by kernel_rfl) (by show (2:Nat)≤76;decide) ?_
 unfold lM at c
 refine aAZ (pM (v:=zS none 0 0) (aAf (aAZ (dM (Kt:=K) (xs:=([]:List Int)) (cs:=[]) (vs:=[]) bW tU rfl rfl hs rfl (by kernel_rfl) rfl rfl rfl trivial (fun c4 f5 (f6:aL G K (aN 2 K c4 0 ([]:List Int)::a1::z::y::L) f5)=>(pM (v:=zS c4 ([]:List Int).length 0) (aAf (aH ?_))))))))
 obtain ⟨k7,a6,d8,f7,f8⟩:=aL.lendS (i:=1) f6 d5 rfl
 obtain ⟨f9,J,d9,e0,g0⟩:=aL.lendB (i:=2) f7 rfl
 refine eQ (C:=fun w'=>∃ L',aL G f9 L' w') [(0,0),(1,0),(2,0),(3,0),(4,0),(5,0),(6,0),(7,0),(8,0),(9,0),(10,0),(11,0),(12,0),(13,0),(14,0),(15,1),(16,0)] bK (by kernel_rfl) (fun _ hg=>⟨_,aL.mono e0 hg⟩) (fun k8 g1=>?_)
 have g:=aL.mono e0 g1
 refine bS rfl (fun _ _=>aD (v:=zP (some ⟨b1,0,none⟩)) rfl) (bS rfl (fun _ _=>dJ rfl) (bS rfl (fun _ _=>bB (t':=0) aEZ rfl rfl) (bS rfl (fun _ ⟨_,g⟩=>bH (t:=0) aKj g d9 rfl rfl) (bS rfl (fun _ _=>dG rfl (x.mono (zL a6 J))) (bS rfl (fun _ _=>cH (k':=n+0) iZ rfl (x.mono (zL a6 J)) rfl) (bS rfl (fun _ _=>aD (v:=zP (some ⟨b1,0,none⟩)) rfl) (bS rfl (fun _ _=>dJ rfl) (bS rfl (fun _ _=>bB (t':=2) pB rfl rfl) (bS rfl (fun _ ⟨_,g⟩=>bH (t:=2) qC g d9 rfl rfl) (bS rfl (fun _ _=>aD (v:=i64 a4) rfl) ?_))))))))))
 obtain ⟨g2,a7,c⟩:=aI c
 have e1:=aCB (d8.mono J) a7
 refine bS rfl (fun _ _=>dA fX rfl e1 rfl rfl rfl a7) ?_
 obtain ⟨k9,g3,g4⟩:=bT.el (sz:=1) rfl (d8.mono J) a7
 obtain ⟨l0,l1,rfl,e2⟩:=g4
 refine bS rfl (fun _ ⟨_,g⟩=>bH (t:=0) mM g g3 rfl rfl) ?_
 obtain ⟨g5,e3,c⟩:=aI c
 refine bS rfl (fun _ _=>cO bW rfl e2 rfl rfl rfl e3) ?_
 obtain ⟨l2,g6,g7⟩:=bT.el (sz:=1) rfl e2 e3
 cases g7
 refine bS rfl (fun _ ⟨_,g⟩=>bH (t:=0) cP g g6 rfl rfl) (lL rfl ?_)
 obtain ⟨e,g8,c⟩:=aI c
 refine aU (vs:=[bY a2 (n+0),i64 g5]) Tryz.call131 rfl (aFy g (fW.sub (t:=0) (m:=4) (x.mono (zL a6 J)) rfl) (h7.mono (zL a6 J)) (f1.mono (zL a6 J)) g8) ?_
 rintro _ l3 ⟨p,q,rfl,e4⟩
 refine aF (aA ⟨⟨_,e4⟩,?_⟩)
 refine bS rfl (fun _ _=>aG (v:=zS p e.length q) rfl) (kB ?_)
 have g9:=g0 _ _ e4
 have h0:=f8 _ _ g9
 refine aA (aH (aAZ (pM (v:=i64 0) (aAf (bD (fun f w=>∃ (a9:List Int) (b0:Option Addr) (b2:Nat),mD a9=some R∧f 5=zS b0 a9.length b2∧aL G K (aN 2 K b0 b2 a9::a1::y::z::L) w) ?_ ?_)))))
 ·rintro f l4 ⟨a9,b0,b2,c,h1,h2⟩
  unfold mD at c
  refine aA (aAZ (aCv h1 (pM (v:=zS b0 a9.length b2) (aAf ?_))))
  cases zI c
  exact bF (bC Tryz.results197 rfl ⟨b0,b2,rfl,(aL.arr 4 [0,1,3,2] h2 rfl)⟩)
 obtain ⟨l5,h5,c⟩:=aI c
 refine cD h5 (fun (s:(List Int × Int)) f w=>match s with|(j,k)=>∃ (V:Option Addr) (Z:Nat),f 0=zP (some ⟨b1,0,none⟩)∧f 1=i64 a4∧f 5=zS V j.length Z∧f 6=zS p e.length q∧f 7=i64 k∧aL G K (a1::y::aN 63 K p q e::aN 2 K V Z j::z::L) w) ?_ ?_
 ·exact ⟨c4,0,rfl,rfl,rfl,rfl,rfl,h0⟩
 ·rintro ⟨j,k⟩ e5 f l6 b h6 ⟨V,Z,b3,c5,c7,b4,b5,e6⟩
  replace b:fR d o g2 e j k=some e5:=b
  unfold fR at b
  refine aH (aAZ (aCv b5 (aCv b4 (aB (bQ (len:=e.length) cR rfl) (aB (cJ rfl rfl) (aAf ?_))))))
  rcases aK b with ⟨c8,b⟩|⟨c8,b⟩
  ·refine aO c8 rfl (aW (aA (aH (bD (fun f w=>∃ (b6:List Int) (b9:Option Addr) (c0:Nat),iI k b6=some e5∧f 0=zP (some ⟨b1,0,none⟩)∧f 1=i64 a4∧f 5=zS b9 b6.length c0∧f 6=zS p e.length q∧f 7=i64 k∧aL G K (aN 2 K b9 c0 b6::a1::y::aN 63 K p q e::z::L) w) ?_ ?_))))
   ·rintro f l7 ⟨b6,b9,c0,b,h8,h9,i0,i1,i2,i3⟩
    unfold iI at b
    exact aA (aC (aCv i2 (aB (cX rfl rfl) (pM (v:=i64 (wr (k+1))) (aAf ⟨(b6,wr (k+1)),(zI b).symm,b9,c0,h8,h9,i0,i1,rfl,(aL.arr 4 [1,2,3,0] i3 rfl)⟩)))))
   refine aH ?_
   obtain ⟨i4,l,i5,a,i6⟩:=aL.lendS (i:=0) e6 d5 rfl
   refine cT (C:=fun w'=>aL G i4 (y::aN 63 K p q e::aN 2 K V Z j::z::L) w') bK (by kernel_rfl) (aL.mono a (dE.drew _)) (aQ (fun _ a=>aD b3) (aQ (fun _ a=>dJ rfl) (aQ (fun _ a=>bB (t':=1) fa_86_1 rfl rfl) (aQ (fun _ a=>bR sc_52 a (i:=0) rfl rfl rfl) (aQ (fun _ a=>aD b3) (aQ (fun _ a=>dJ rfl) (aQ (fun _ a=>bB (t':=2) pB rfl rfl) (aQ (fun _ a=>bR qC a (i:=0) rfl rfl rfl) (aQ (fun _ a=>aD c5) (aQ (fun _ a=>dA fX rfl e1 rfl rfl rfl a7) ?_))))))))))
   obtain ⟨l8,i7,i8⟩:=bT.el (sz:=1) rfl i5 a7
   obtain ⟨l9,m0,rfl,e7⟩:=i8
   refine aQ (fun _ a=>bH (t:=0) mM a i7 rfl rfl) ?_
   obtain ⟨i9,e8,b⟩:=aI b
   refine aQ (fun _ a=>cO bW rfl e7 rfl rfl rfl e8) ?_
   obtain ⟨m1,j0,j1⟩:=bT.el (sz:=1) rfl e7 e8
   cases j1
   refine aQ (fun _ a=>bH (t:=0) cP a j0 rfl rfl) (aQ (fun _ a=>aD b3) (aQ (fun _ a=>dJ rfl) (aQ (fun _ a=>bB (t':=0) aEZ rfl rfl) (aQ (fun _ a=>bR aKj a (i:=0) rfl rfl rfl) (aQ (fun _ a=>dG rfl (x.mono l)) (aQ (fun _ a=>cH (k':=n+0) iZ rfl (x.mono l) rfl) (aQ (fun _ a=>cH (k':=n+2) gL rfl (x.mono l) rfl) (aQ (fun _ a=>bH (t:=2) jJ a (x.mono l) rfl rfl) (aQ (fun _ a=>aD b4) (aQ (fun _ a=>aD b5) ?_))))))))))
   obtain ⟨c1,b7,b⟩:=aI b
   have c2:=cG a (i:=1) rfl b7
   refine aQ (fun _ a=>dA cR rfl c2 rfl rfl rfl b7) (aQ (fun _ a=>aEx (k':=k.toNat * 3+1) fP c2 rfl rfl) (aQ (fun _ a=>kA (t:=1) cP a (i:=1) rfl b7 rfl rfl rfl) ?_))
   obtain ⟨j2,e9,b⟩:=aI b
   refine aQ (fun _ a=>cO cY rfl (h7.mono l) rfl rfl rfl e9) ?_
   obtain ⟨m2,j3,j4⟩:=bT.el (sz:=1) rfl h7 e9
   cases j4
   refine aQ (fun _ a=>bH (t:=0) pK a (j3.mono l) rfl rfl) ?_
   obtain ⟨a0,j5,b⟩:=aI b
   refine iR (vs:=[bY a17 a3,i64 i9,cL j2]) (v:=Value.tuple #[i64 a0.1,zB a0.2]) Tryz.call132 rfl (fun _ a=>(aGn a (f2.mono l) (f3.mono l) (f4.mono l) j5)) (aQ (fun _ a=>aD (v:=Value.tuple #[i64 a0.1,zB a0.2]) rfl) (aQ (fun _ a=>bV rfl rfl) (aQ (fun _ a=>bV rfl rfl) (aQ (fun _ a=>aG (v:=i64 a0.1) rfl) (aQ (fun _ a=>aG (v:=zB a0.2) rfl) (dC (fun m3 j6=>?_)))))))
   have d0:=i6 _ _ j6
   refine aA (aAZ (aBl (v:=zB a0.2) (aB (dY rfl) (aAf ?_))))
   rcases aK b with ⟨d1,b⟩|⟨d1,b⟩
   ·refine aO d1 rfl (aC (aCv c7 (aCv b4 (aCv b5 (aB (dA cR rfl c2 rfl rfl rfl b7) (aB (aEx (k':=k.toNat * 3+1) fP c2 rfl rfl) (aB (kA (t:=1) cP d0 (i:=2) rfl b7 rfl rfl rfl) (dM (Kt:=K) (xs:=([c1.B]:List Int)) (cs:=[i64 c1.B]) (vs:=[(0,i64 c1.B)]) bW tU rfl rfl d0 rfl (by kernel_rfl) rfl rfl rfl ⟨rfl,trivial⟩ (fun j7 j8 (j9:aL G K (aN 2 K j7 1 ([c1.B]:List Int)::a1::y::aN 63 K p q e::aN 2 K V Z j::z::L) j8)=>?_)))))))))
    obtain ⟨d2,k0,b⟩:=aI b
    exact iY (i:=3) bW Tryz.underlying38 tU rfl rfl j9 rfl (zR _) (zR _) k0 rfl rfl rfl rfl (fun _ h=>h) (fun d3 d4 k1 (k2:aL G K (a1::y::aN 63 K p q e::aN 2 K d3 d4 d2::z::L) k1)=>(pM (v:=zS d3 d2.length d4) (aF (bG (aA ⟨d2,d3,d4,b,b3,c5,rfl,b4,b5,(aL.arr 4 [3,0,1,2] k2 rfl)⟩)))))
   ·exact aM d1 rfl (aW (bG (aA ⟨j,V,Z,b,b3,c5,c7,b4,b5,(aL.arr 4 [3,0,1,2] d0 rfl)⟩)))
  ·refine aM c8 rfl (cB (aY (aY ?_)))
   have k4:=h6 _ (zI b).symm
   subst k4
   have c:(mD j)=some R:=c
   exact bO (aA ⟨j,V,Z,c,c7,(aL.arr 4 [3,0,1] e6 rfl)⟩)
theorem rJ {b:cA} {d:Nat} {e:dB} {k:Nat} {g:(List (List Int))} {h:(List Edge)} {l:Bool} {m:Int} {R:Bool} (a:aL G K (aN 38 Kf a26 c27 g::aN 63 K a28 c29 h::box b1 86 [bY a2 d,bY a17 k,zS a26 g.length c27,zS a28 h.length c29,zB l]::L) w) (a0:Hp.le Kf K) (j:fW K a2 d (zE b a5 c6 a8 c9 a11 c12 a14 c15)) (n:bT K a5 c6 b.S.L) (a1:bT K a8 c9 b.S.E) (a3:bT K a11 c12 b.M) (r:bT K a14 c15 b.C) (a4:fW K a17 k (zC e a20 c21 a23 c24)) (a6:bT K a20 c21 e.L) (a7:bT K a23 c24 e.E) (c:iJ b e g h l m=some R):
  Calls Tryz.prog 137 ([zP (some ⟨b1,0,none⟩),i64 m]:List Value).toArray w (fV fun v w'=>v=zB R∧aL G K (aN 38 Kf a26 c27 g::aN 63 K a28 c29 h::box b1 86 [bY a2 d,bY a17 k,zS a26 g.length c27,zS a28 h.length c29,zB l]::L) w'):=by
 refine aT Tryz.func137 rfl (by kernel_rfl) (by show (2:Nat)≤26;decide) ?_
 unfold iJ at c
 refine aAZ (pM (v:=zB false) (aAf (aH (cT (C:=fun w'=>aL G K (aN 38 Kf a26 c27 g::aN 63 K a28 c29 h::box b1 86 [bY a2 d,bY a17 k,zS a26 g.length c27,zS a28 h.length c29,zB l]::L) w') bK (by kernel_rfl) (aL.mono a (dE.drew _)) (aQ (fun _ a=>aD (v:=zP (some ⟨b1,0,none⟩)) rfl) (aQ (fun _ a=>dJ rfl) (aQ (fun _ a=>bB (t':=0) aEZ rfl rfl) (aQ (fun _ a=>bR aKj a (i:=2) rfl rfl rfl) (aQ (fun _ a=>dG rfl j) (aQ (fun _ a=>cH (k':=d+5) aBp rfl j rfl) (aQ (fun _ a=>bH (t:=5) jJ a j rfl rfl) (aQ (fun _ a=>aD (v:=zP (some ⟨b1,0,none⟩)) rfl) (aQ (fun _ a=>dJ rfl) (aQ (fun _ a=>bB (t':=0) aEZ rfl rfl) (aQ (fun _ a=>bR aKj a (i:=2) rfl rfl rfl) (aQ (fun _ a=>dG rfl j) (aQ (fun _ a=>cH (k':=d+0) iZ rfl j rfl) (aQ (fun _ a=>cH (k':=d+2) gL rfl j rfl) (aQ (fun _ a=>bH (t:=2) jJ a j rfl rfl) (aQ (fun _ a=>aD (v:=i64 m) rfl) ?_))))))))))))))))))))
 obtain ⟨u,o,c⟩:=aI c
 refine aQ (fun _ a=>cO cY rfl n rfl rfl rfl o) ?_
 obtain ⟨a9,x,y⟩:=bT.el (sz:=1) rfl n o
 cases y
 refine aQ (fun _ a=>bH (t:=0) pK a x rfl rfl) ?_
 obtain ⟨p,z,c⟩:=aI c
 refine iR (vs:=[cL u]) (v:=cL p) Tryz.call104 rfl (fun _ a=>(aFo a z)) ?_
 obtain ⟨q,J,c⟩:=aI c
 refine iR (vs:=[zS a14 b.C.length c15,cL p]) (v:=i64 q) Tryz.call105 rfl (fun _ a=>(zY a r J)) (aQ (fun _ a=>tT rfl rfl) (aQ (fun _ a=>aG (v:=zB (decide (0≤q))) rfl) (dC (fun b0 V=>(aA ?_)))))
 cases zI c
 exact bF (bC Tryz.results137 rfl ⟨rfl,V⟩)
theorem aCO {c:cA} {m:Nat} {g:dB} {n:Nat} {d:(List (List Int))} {e:(List Edge)} {j:Bool} {o R:Int} (hs:aL G K (aN 38 Kf a26 c27 d::aN 63 K a28 c29 e::box b1 86 [bY a2 m,bY a17 n,zS a26 d.length c27,zS a28 e.length c29,zB j]::L) w) (a0:Hp.le Kf K) (h4:fW K a2 m (zE c a5 c6 a8 c9 a11 c12 a14 c15)) (h7:bT K a5 c6 c.S.L) (a4:bT K a8 c9 c.S.E) (a6:bT K a11 c12 c.M) (a7:bT K a14 c15 c.C) (a9:fW K a17 n (zC g a20 c21 a23 c24)) (b0:bT K a20 c21 g.L) (b2:bT K a23 c24 g.E) (b:nH c g d e j o=some R):
  Calls Tryz.prog 135 ([zP (some ⟨b1,0,none⟩),i64 o]:List Value).toArray w (fV fun v w'=>v=i64 R∧aL G K (aN 38 Kf a26 c27 d::aN 63 K a28 c29 e::box b1 86 [bY a2 m,bY a17 n,zS a26 d.length c27,zS a28 e.length c29,zB j]::L) w'):=by
 let y:=box b1 86 [bY a2 m,bY a17 n,zS a26 d.length c27,zS a28 e.length c29,zB j]
 refine aT Tryz.func135 rfl (by kernel_rfl) (by show (2:Nat)≤27;decide) ?_
 unfold nH at b
 refine aAZ (pM (v:=i64 0) (aAf (aAZ (aBl (v:=zP (some ⟨b1,0,none⟩)) (aBl (v:=i64 o) ?_)))))
 obtain ⟨h,b7,b⟩:=aI b
 refine aU (vs:=[zP (some ⟨b1,0,none⟩),i64 o]) Tryz.call197 rfl (aCq (Kf:=Kf) hs a0 h4 h7 a4 a6 a7 a9 b0 b2 b7) ?_
 rintro _ d1 ⟨p,q,rfl,b8⟩
 refine pM (v:=zS p h.length q) (aAf (aH (aAZ (pM (v:=i64 0) (aAf (bD (fun f w=>nP=some R∧aL G K (aN 38 Kf a26 c27 d::aN 63 K a28 c29 e::y::L) w) ?_ ?_))))))
 ·rintro f d2 ⟨b,b9⟩
  unfold nP at b
  refine aA (aAZ (pM (v:=i64 (-1)) (aAf ?_)))
  cases zI b
  exact bF (bC Tryz.results135 rfl ⟨rfl,b9⟩)
 obtain ⟨d3,c1,b⟩:=aI b
 refine cD c1 (fun (k:Int) f w=>f 0=zP (some ⟨b1,0,none⟩)∧f 5=zS p h.length q∧f 6=i64 k∧aL G K (aN 2 K p q h::aN 38 Kf a26 c27 d::aN 63 K a28 c29 e::y::L) w) ?_ ?_
 ·exact ⟨rfl,rfl,rfl,b8⟩
 ·rintro k c2 f c3 a b3 ⟨b4,r,u,x⟩
  replace a:gP c g d e j h k=some c2:=a
  unfold gP at a
  refine aH (aAZ (aCv u (aCv r (aB (bQ (len:=h.length) bW rfl) (aB (cJ rfl rfl) (aAf ?_))))))
  rcases aK a with ⟨z,a⟩|⟨z,a⟩
  ·refine aO z rfl (aW (aA (aH (cU (aAZ (aCv b4 (aCv r (aCv u ?_))))))))
   obtain ⟨J,l,a⟩:=aI a
   have b5:=cG x (i:=0) rfl l
   refine aB (dA bW rfl b5 rfl rfl rfl l) (aB (kA (t:=0) cP x (i:=0) rfl l rfl rfl rfl) ?_)
   have c4:aL G K (aN 38 Kf a26 c27 d::aN 63 K a28 c29 e::y::aN 2 K p q h::L) c3:=(aL.arr 4 [1,2,3,0] x rfl)
   obtain ⟨d4,c5,a⟩:=aI a
   refine aU (vs:=[zP (some ⟨b1,0,none⟩),i64 J]) Tryz.call137 rfl (rJ (Kf:=Kf) c4 a0 h4 h7 a4 a6 a7 a9 b0 b2 c5) ?_
   rintro _ d5 ⟨rfl,V⟩
   refine aB (dY rfl) (aAf ?_)
   rcases aK a with ⟨Z,a⟩|⟨Z,a⟩
   ·refine aO Z rfl (aAZ (aCv r (aCv u (aB (dA bW rfl b5 rfl rfl rfl l) (aB (kA (t:=0) cP V (i:=3) rfl l rfl rfl rfl) (pM (v:=i64 J) (aAf (bF (bN (aS (aS ?_)))))))))))
    have c7:=b3 _ (zI a).symm
    subst c7
    have b:(some J)=some R:=b
    cases zI b
    exact bN (aS (aS (bC Tryz.results135 rfl ⟨rfl,(aL.arr 4 [0,1,2] V rfl)⟩)))
   ·exact aM Z rfl (aW (bG (aA (aC (aCv u (aB (cX rfl rfl) (pM (v:=i64 (wr (k+1))) (aAf ⟨wr (k+1),(zI a).symm,b4,r,rfl,(aL.arr 4 [3,0,1,2] V rfl)⟩))))))))
  ·refine aM z rfl (cB (aY (aY ?_)))
   have d0:=b3 _ (zI a).symm
   subst d0
   have b:(nP)=some R:=b
   exact bO (aA ⟨b,(aL.arr 1 [] x rfl)⟩)
theorem aGp {y:cA} {k3:Nat} {a4:dB} {f7:Nat} {J:(List (List Int))} {z:(List Edge)} {b3:Bool} {R:(List Bool)} (hs:aL G K (aN 38 Kf a26 c27 J::aN 63 K a28 c29 z::box b1 86 [bY a2 k3,bY a17 f7,zS a26 J.length c27,zS a28 z.length c29,zB b3]::L) w) (h3:Hp.le Kf K) (h4:fW K a2 k3 (zE y a5 c6 a8 c9 a11 c12 a14 c15)) (h7:bT K a5 c6 y.S.L) (l3:bT K a8 c9 y.S.E) (h5:bT K a11 c12 y.M) (l4:bT K a14 c15 y.C) (l5:fW K a17 f7 (zC a4 a20 c21 a23 c24)) (l6:bT K a20 c21 a4.L) (l7:bT K a23 c24 a4.E) (hm:zJ y a4 J z b3=some R):
  Calls Tryz.prog 58 ([zP (some ⟨b1,0,none⟩)]:List Value).toArray w (fV fun v w'=>∃ (l8:Option Addr) (l9:Nat),v=zS l8 R.length l9∧aL G K (aN 4 K l8 l9 R::aN 38 Kf a26 c27 J::aN 63 K a28 c29 z::box b1 86 [bY a2 k3,bY a17 f7,zS a26 J.length c27,zS a28 z.length c29,zB b3]::L) w'):=by
 let p:=box b1 86 [bY a2 k3,bY a17 f7,zS a26 J.length c27,zS a28 z.length c29,zB b3]
 let q:=aN 38 Kf a26 c27 J
 let r:=aN 63 K a28 c29 z
 refine aT Tryz.func58 rfl (by kernel_rfl) (by show (1:Nat)≤156;decide) ?_
 unfold zJ at hm
 refine aAZ (pM (v:=zS none 0 0) (aAf (aAZ (aBl (v:=zP (some ⟨b1,0,none⟩)) (aB (dJ rfl) (aB (bB (t':=2) pB rfl rfl) (aB (bR qC hs (i:=2) rfl rfl rfl) (aB (bQ (len:=J.length) fX rfl) ?_))))))))
 obtain ⟨r4,r5,hm⟩:=aI hm
 refine aU (vs:=[i64 (J.length:Int)]) Tryz.call134 rfl (aHF hs r5) ?_
 rintro _ w34 ⟨b9,c0,rfl,r6⟩
 refine pM (v:=zS b9 r4.length c0) (aAf (aH (aAZ (pM (v:=i64 0) (aAf (bD (fun f w=>∃ (f8:List Bool),qW y a4 J z b3 f8=some R∧f 0=zP (some ⟨b1,0,none⟩)∧f 3=zS b9 f8.length c0∧aL G K (aN 4 K b9 c0 f8::q::r::p::L) w) ?_ ?_))))))
 ·rintro f w39 ⟨f8,hm,r7,r8,r9⟩
  unfold qW at hm
  refine aA (cU ?_)
  obtain ⟨a65,s0,hm⟩:=aI hm
  refine cD s0 (fun (a:List Bool) f w=>∃ (b:Option Addr) (c:Nat),f 0=zP (some ⟨b1,0,none⟩)∧f 3=zS b a.length c∧aL G K (aN 4 K b c a::q::r::p::L) w) ?_ ?_
  ·exact ⟨b9,c0,r7,r8,r9⟩
  ·rintro a c3 f w57 l s1 ⟨b,c,s2,m0,s3⟩
   replace l:oC y a4 J z b3 a=some c3:=l
   unfold oC at l
   refine bD (fun f w=>∃ (e6:List Bool) (f9:Option Addr) (g0:Nat),aBd e6=some c3∧f 0=zP (some ⟨b1,0,none⟩)∧f 3=zS f9 e6.length g0∧aL G K (aN 4 K f9 g0 e6::q::r::p::L) w) ?_ ?_
   ·rintro f w74 ⟨e6,f9,g0,l,s4,s5,s6⟩
    unfold aBd at l
    exact aA ⟨e6,(zI l).symm,f9,g0,s4,s5,s6⟩
   refine aAZ (aCv m0 (aB (bQ (len:=a.length) fQ rfl) ?_))
   obtain ⟨j,s7,l⟩:=aI l
   refine aFt (e:=(false:Bool)) fQ ez_4 rfl rfl s3 rfl rfl rfl s7 rfl (fun k s8 (s9:aL G K (aN 4 K k j.length j::aN 4 K b c a::q::r::p::L) s8)=>(pM (v:=zS k j.length j.length) (aAf (aH (aAZ (pM (v:=i64 0) (aAf (bD (fun f w=>∃ (g1:List Bool),qU y a4 J z b3 a g1=some c3∧f 0=zP (some ⟨b1,0,none⟩)∧f 3=zS b a.length c∧f 5=zS k g1.length j.length∧aL G K (aN 4 K k j.length g1::aN 4 K b c a::q::r::p::L) w) ?_ ?_))))))))
   ·rintro f w85 ⟨g1,l,t0,t1,t2,t3⟩
    unfold qU at l
    refine aA (aH (aAZ (pM (v:=zB true) (aAf (bD (fun f w=>∃ (a0:List Bool),sH y a4 J z b3 a a0=some c3∧f 0=zP (some ⟨b1,0,none⟩)∧f 3=zS b a.length c∧f 5=zS k a0.length j.length∧aL G K (aN 4 K k j.length a0::aN 4 K b c a::q::r::p::L) w) ?_ ?_)))))
    ·rintro f w91 ⟨a0,l,t4,t5,m1,t6⟩
     unfold sH at l
     refine aA (aAZ (dM (Kt:=K) (xs:=([]:List Bool)) (cs:=[]) (vs:=[]) fQ ez_4 rfl rfl t6 rfl (by kernel_rfl) rfl rfl rfl trivial (fun m2 m3 (t7:aL G K (aN 4 K m2 0 ([]:List Bool)::aN 4 K k j.length a0::aN 4 K b c a::q::r::p::L) m3)=>(aCv m1 ?_))))
     obtain ⟨m4,t8,l⟩:=aI l
     have t9:aL G K (aN 4 K k j.length a0::aN 4 K m2 0 ([]:List Bool)::aN 4 K b c a::q::r::p::L) m3:=(aL.arr 2 [1,0] t7 rfl)
     refine WO_appK (i:=0) fQ Tryz.underlying87 ez_4 rfl rfl t9 rfl (zR _) (zR _) t8 rfl rfl rfl rfl (fun _ h=>h) (fun a1 a3 u0 (u1:aL G K (aN 4 K k j.length a0::aN 4 K a1 a3 m4::aN 4 K b c a::q::r::p::L) u0)=>(pM (v:=zS a1 m4.length a3) (aAf (aH (aAZ (pM (v:=i64 0) (aAf (bD (fun f w=>∃ (c8:List Bool),sG a c8=some c3∧f 0=zP (some ⟨b1,0,none⟩)∧f 3=zS b a.length c∧f 10=zS a1 c8.length a3∧aL G K (aN 4 K a1 a3 c8::aN 4 K b c a::q::r::p::L) w) ?_ ?_))))))))
     ·rintro f a71 ⟨c8,l,u2,m5,m6,u3⟩
      unfold sG at l
      refine aA (aH (aAZ (aCv m6 (aCv m5 ?_))))
      obtain ⟨a72,u4,u5,u6,u7⟩:=aL.lendS (i:=0) u3 (zR _) rfl
      obtain ⟨a73,u8,u9,v0,v1⟩:=aL.lendS (i:=0) u6 u4 rfl
      obtain ⟨a74,v2,l⟩:=aI l
      refine aU (vs:=[zS a1 c8.length a3,zS b a.length c]) Tryz.call138 rfl (aHG v0 (u5.mono u8) u9 v2) ?_
      rintro _ a75 ⟨rfl,v3⟩
      have v4:=v1 _ _ v3
      have m7:=u7 _ _ v4
      refine aAf ?_
      rcases aK l with ⟨h6,l⟩|⟨h6,l⟩
      ·refine aO h6 rfl (aAZ (aCv m5 (pM (v:=zS b a.length c) (aAf (bF (aS (bN (aS (aS ?_)))))))))
       have v5:=s1 _ (zI l).symm
       subst v5
       have hm:(some a)=some R:=hm
       cases zI hm
       exact bN (bC Tryz.results58 rfl ⟨b,c,rfl,(aL.arr 1 [] m7 rfl)⟩)
      ·exact aM h6 rfl (aW (aA (aC (aCv m6 (pM (v:=zS a1 c8.length a3) (aF (bG (aA ⟨c8,a1,a3,l,u2,rfl,(aL.arr 2 [0] m7 rfl)⟩))))))))
     obtain ⟨a76,v7,l⟩:=aI l
     refine cD v7 (fun (s:(List Bool × Int)) f w=>match s with|(b7,c1)=>f 0=zP (some ⟨b1,0,none⟩)∧f 3=zS b a.length c∧f 5=zS k a0.length j.length∧f 10=zS a1 b7.length a3∧f 11=i64 c1∧aL G K (aN 4 K k j.length a0::aN 4 K a1 a3 b7::aN 4 K b c a::q::r::p::L) w) ?_ ?_
     ·exact ⟨t4,t5,m1,rfl,rfl,u1⟩
     ·rintro ⟨b7,c1⟩ h8 f a77 o v8 ⟨d4,h9,i0,i1,g2,d5⟩
      replace o:nC y a4 J z b3 a0 b7 c1=some h8:=o
      unfold nC at o
      refine aH (aAZ (aCv g2 (aCv d4 (aB (dJ rfl) (aB (bB (t':=3) aBq rfl rfl) (aB (bR hX d5 (i:=5) rfl rfl rfl) (aB (bQ (len:=z.length) cR rfl) (aB (cJ rfl rfl) (aAf ?_)))))))))
      rcases aK o with ⟨i2,o⟩|⟨i2,o⟩
      ·refine aO i2 rfl (aW (aA (aH (bD (fun f w=>∃ (e7:List Bool),nA c1 e7=some h8∧f 0=zP (some ⟨b1,0,none⟩)∧f 3=zS b a.length c∧f 5=zS k a0.length j.length∧f 10=zS a1 e7.length a3∧f 11=i64 c1∧aL G K (aN 4 K k j.length a0::aN 4 K a1 a3 e7::aN 4 K b c a::q::r::p::L) w) ?_ ?_))))
       ·rintro f a79 ⟨e7,o,v9,w0,w1,w2,w3,w4⟩
        unfold nA at o
        exact aA (aC (aCv w3 (aB (cX rfl rfl) (pM (v:=i64 (wr (c1+1))) (aAf ⟨(e7,wr (c1+1)),(zI o).symm,v9,w0,w1,w2,rfl,w4⟩)))))
       refine aAZ (aCv d4 (aB (dJ rfl) (aB (bB (t':=3) aBq rfl rfl) (aB (bR hX d5 (i:=5) rfl rfl rfl) (aCv g2 ?_)))))
       obtain ⟨x,i3,o⟩:=aI o
       have w5:=cG d5 (i:=4) rfl i3
       refine aB (dA cR rfl w5 rfl rfl rfl i3) (aB (wX (t:=0) (vs:=[i64 x.F,i64 x.B,i64 x.To]) mB d5 (i:=4) rfl i3 rfl rfl rfl rfl) (cF (vs:=[i64 0,i64 0,i64 0]) Tryz.zeroValue63 d5 rfl (fun e8 a80 w6=>(cC (i:=0) (ns:=[i64 x.F,i64 x.B,i64 x.To]) (us:=[i64 x.F,i64 x.B,i64 x.To]) Tryz.sizeOf63 w6 rfl rfl rfl rfl rfl (dL rfl) rfl rfl (fun m8 (d6:aL G K (box e8 63 [i64 x.F,i64 x.B,i64 x.To]::aN 4 K k j.length a0::aN 4 K a1 a3 b7::aN 4 K b c a::q::r::p::L) m8)=>(aAf (aH (cS (fun f w=>∃ (i4:Bool),nB b7 c1 x i4=some h8∧f 0=zP (some ⟨b1,0,none⟩)∧f 3=zS b a.length c∧f 5=zS k a0.length j.length∧f 10=zS a1 b7.length a3∧f 11=i64 c1∧f 12=zP (some ⟨e8,0,none⟩)∧f 146=zB i4∧aL G K (box e8 63 [i64 x.F,i64 x.B,i64 x.To]::aN 4 K k j.length a0::aN 4 K a1 a3 b7::aN 4 K b c a::q::r::p::L) w) ?_ ?_))))))))
       ·rintro f a81 ⟨i4,o,m9,n0,n1,i5,n2,w7,n3,g3⟩
        unfold nB at o
        refine aA ?_
        rcases aK o with ⟨i6,o⟩|⟨i6,o⟩
        ·refine aO i6 n3 (aC (aCv i5 (aB (bB (t':=0) fY w7 rfl) (aB (bR cP g3 (i:=0) rfl rfl rfl) ?_))))
         obtain ⟨a82,i7,o⟩:=aI o
         have w8:=cG g3 (i:=2) rfl i7
         refine aB (dA fQ rfl w8 rfl rfl rfl i7) ?_
         obtain ⟨n4,n5,o⟩:=aI o
         exact kV (i:=2) (t:=0) (ns:=[zB false]) (e':=(false:Bool)) Tryz.sizeOf4 g3 rfl (zR _) rfl rfl rfl i7 n5 rfl rfl (dL rfl) rfl (fun cs h=>by cases h;rfl) (fun w9 (x0:aL G K (box e8 63 [i64 x.F,i64 x.B,i64 x.To]::aN 4 K k j.length a0::aN 4 K a1 a3 n4::aN 4 K b c a::q::r::p::L) w9)=>(aF (bG (aA ⟨n4,o,m9,n0,n1,(Eq.trans i5 (congrArg (fun n=>zS a1 n a3) (iN n5))),n2,(aL.arr 1 [] x0 rfl)⟩))))
        ·exact aM i6 n3 (aW (bG (aA ⟨b7,o,m9,n0,n1,i5,n2,(aL.arr 1 [] g3 rfl)⟩)))
       refine aC (aCv i0 (aB (bB (t':=2) iB rfl rfl) (aB (bR cP d6 (i:=0) rfl rfl rfl) ?_)))
       obtain ⟨x1,i8,o⟩:=aI o
       have x2:=cG d6 (i:=1) rfl i8
       refine aB (dA fQ rfl x2 rfl rfl rfl i8) (aB (kA (t:=0) yE d6 (i:=1) rfl i8 rfl rfl rfl) (aB (dY rfl) (aBl (v:=zB (!x1)) ?_)))
       rcases aK o with ⟨b4,o⟩|⟨b4,o⟩
       ·refine bE b4 rfl rfl (aCv d4 (bE b4 rfl rfl (aB (bB (t':=1) fP rfl rfl) (bE b4 rfl rfl (aB (bR cP d6 (i:=0) rfl rfl rfl) (bE b4 rfl rfl ?_))))))
        have x3:aL G K (q::r::p::box e8 63 [i64 x.F,i64 x.B,i64 x.To]::aN 4 K k j.length a0::aN 4 K a1 a3 b7::aN 4 K b c a::L) m8:=(aL.arr 7 [4,5,6,0,1,2,3] d6 rfl)
        obtain ⟨n6,x4,o⟩:=aI o
        refine aU (vs:=[zP (some ⟨b1,0,none⟩),i64 x.B]) Tryz.call137 rfl (rJ (Kf:=Kf) x3 h3 h4 h7 l3 h5 l4 l5 l6 l7 x4) ?_
        rintro _ a83 ⟨rfl,x5⟩
        exact bE b4 rfl rfl (aB (dY rfl) (aB (bI (v:=zB (!n6)) b4 rfl rfl) (aAf ⟨!n6,o,d4,h9,i0,i1,g2,rfl,rfl,(aL.arr 7 [3,4,5,6,0,1,2] x5 rfl)⟩)))
       ·exact aV b4 rfl rfl (aV b4 rfl rfl (aV b4 rfl rfl (aV b4 rfl rfl (aV b4 rfl rfl (aB (bJ (v:=zB false) b4 rfl rfl) (aAf ⟨false,o,d4,h9,i0,i1,g2,rfl,rfl,d6⟩))))))
      ·refine aM i2 rfl (cB (aY (aY ?_)))
       have x6:=v8 _ (zI o).symm
       subst x6
       have l:(sG a b7)=some c3:=l
       exact bO (aA ⟨b7,l,d4,h9,i1,(aL.arr 1 [] d5 rfl)⟩)
    obtain ⟨a84,x7,l⟩:=aI l
    refine cD x7 (fun (s:(List Bool × Bool)) f w=>match s with|(d7,i9)=>f 0=zP (some ⟨b1,0,none⟩)∧f 3=zS b a.length c∧f 5=zS k d7.length j.length∧f 7=zB i9∧aL G K (aN 4 K k j.length d7::aN 4 K b c a::q::r::p::L) w) ?_ ?_
    ·exact ⟨t0,t1,t2,rfl,t3⟩
    ·rintro ⟨d7,i9⟩ g4 f a85 Z x8 ⟨n7,n8,n9,x9,o0⟩
     replace Z:qT z a d7 i9=some g4:=Z
     unfold qT at Z
     refine aH (aAZ (aCv x9 (aAf ?_)))
     rcases aK Z with ⟨j0,Z⟩|⟨j0,Z⟩
     ·refine aO j0 rfl (aW (aA (bD (fun f w=>∃ (e9:List Bool) (g5:Bool),aBe e9 g5=some g4∧f 0=zP (some ⟨b1,0,none⟩)∧f 3=zS b a.length c∧f 5=zS k e9.length j.length∧f 7=zB g5∧aL G K (aN 4 K k j.length e9::aN 4 K b c a::q::r::p::L) w) ?_ ?_)))
      ·rintro f a86 ⟨e9,g5,Z,y0,y1,y2,y3,y4⟩
       unfold aBe at Z
       exact aA ⟨(e9,g5),(zI Z).symm,y0,y1,y2,y3,y4⟩
      refine aAZ (pM (v:=zB false) (aAf (aAZ (pM (v:=i64 0) (aAf (bD (fun f w=>∃ (f0:List Bool) (g6:Bool),wT f0 g6=some g4∧f 0=zP (some ⟨b1,0,none⟩)∧f 3=zS b a.length c∧f 5=zS k f0.length j.length∧f 7=zB g6∧aL G K (aN 4 K k j.length f0::aN 4 K b c a::q::r::p::L) w) ?_ ?_))))))
      ·rintro f a87 ⟨f0,g6,Z,y5,y6,y7,y8,y9⟩
       unfold wT at Z
       exact bG (aA ⟨f0,g6,Z,y5,y6,y7,y8,y9⟩)
      obtain ⟨a88,z0,Z⟩:=aI Z
      refine cD z0 (fun (s:(List Bool × Bool × Int)) f w=>match s with|(b8,c4,c2)=>f 0=zP (some ⟨b1,0,none⟩)∧f 3=zS b a.length c∧f 5=zS k b8.length j.length∧f 7=zB c4∧f 8=i64 c2∧aL G K (aN 4 K k j.length b8::aN 4 K b c a::q::r::p::L) w) ?_ ?_
      ·exact ⟨n7,n8,n9,rfl,rfl,o0⟩
      ·rintro ⟨b8,c4,c2⟩ j1 f a89 d z1 ⟨d0,d1,d2,f1,d8,d9⟩
       replace d:oB z a b8 c4 c2=some j1:=d
       unfold oB at d
       refine aH (aAZ (aCv d8 (aCv d0 (aB (dJ rfl) (aB (bB (t':=3) aBq rfl rfl) (aB (bR hX d9 (i:=4) rfl rfl rfl) (aB (bQ (len:=z.length) cR rfl) (aB (cJ rfl rfl) (aAf ?_)))))))))
       rcases aK d with ⟨j2,d⟩|⟨j2,d⟩
       ·refine aO j2 rfl (aW (aA (aH (bD (fun f w=>∃ (f2:List Bool) (g7:Bool),sI c2 f2 g7=some j1∧f 0=zP (some ⟨b1,0,none⟩)∧f 3=zS b a.length c∧f 5=zS k f2.length j.length∧f 7=zB g7∧f 8=i64 c2∧aL G K (aN 4 K k j.length f2::aN 4 K b c a::q::r::p::L) w) ?_ ?_))))
        ·rintro f a90 ⟨f2,g7,d,z2,z3,z4,z5,z6,z7⟩
         unfold sI at d
         exact aA (aC (aCv z6 (aB (cX rfl rfl) (pM (v:=i64 (wr (c2+1))) (aAf ⟨(f2,g7,wr (c2+1)),(zI d).symm,z2,z3,z4,z5,rfl,z7⟩)))))
        refine aAZ (aCv d0 (aB (dJ rfl) (aB (bB (t':=3) aBq rfl rfl) (aB (bR hX d9 (i:=4) rfl rfl rfl) (aCv d8 ?_)))))
        obtain ⟨V,j3,d⟩:=aI d
        have z8:=cG d9 (i:=3) rfl j3
        refine aB (dA cR rfl z8 rfl rfl rfl j3) (aB (wX (t:=0) (vs:=[i64 V.F,i64 V.B,i64 V.To]) mB d9 (i:=3) rfl j3 rfl rfl rfl rfl) (cF (vs:=[i64 0,i64 0,i64 0]) Tryz.zeroValue63 d9 rfl (fun g8 a91 z9=>(cC (i:=0) (ns:=[i64 V.F,i64 V.B,i64 V.To]) (us:=[i64 V.F,i64 V.B,i64 V.To]) Tryz.sizeOf63 z9 rfl rfl rfl rfl rfl (dL rfl) rfl rfl (fun a00 (b0:aL G K (box g8 63 [i64 V.F,i64 V.B,i64 V.To]::aN 4 K k j.length b8::aN 4 K b c a::q::r::p::L) a00)=>(aAf (aH (cS (fun f w=>∃ (j4:Bool),lR b8 c4 c2 V j4=some j1∧f 0=zP (some ⟨b1,0,none⟩)∧f 3=zS b a.length c∧f 5=zS k b8.length j.length∧f 7=zB c4∧f 8=i64 c2∧f 9=zP (some ⟨g8,0,none⟩)∧f 110=zB j4∧aL G K (box g8 63 [i64 V.F,i64 V.B,i64 V.To]::aN 4 K k j.length b8::aN 4 K b c a::q::r::p::L) w) ?_ ?_))))))))
        ·rintro f a92 ⟨j4,d,o1,o2,j5,a01,o3,a02,o4,g9⟩
         unfold lR at d
         refine aA ?_
         rcases aK d with ⟨j6,d⟩|⟨j6,d⟩
         ·refine aO j6 o4 (aAZ (aCv j5 (aB (bB (t':=0) fY a02 rfl) (aB (bR cP g9 (i:=0) rfl rfl rfl) ?_))))
          obtain ⟨a94,j7,d⟩:=aI d
          have a03:=cG g9 (i:=1) rfl j7
          refine aB (dA fQ rfl a03 rfl rfl rfl j7) ?_
          obtain ⟨o5,o6,d⟩:=aI d
          exact kV (i:=1) (t:=0) (ns:=[zB true]) (e':=(true:Bool)) Tryz.sizeOf4 g9 rfl (zR _) rfl rfl rfl j7 o6 rfl rfl (dL rfl) rfl (fun cs h=>by cases h;rfl) (fun a04 (a05:aL G K (box g8 63 [i64 V.F,i64 V.B,i64 V.To]::aN 4 K k j.length o5::aN 4 K b c a::q::r::p::L) a04)=>(aAf (aC (pM (v:=zB true) (aF (bG (aA ⟨o5,true,d,o1,o2,(Eq.trans j5 (congrArg (fun n=>zS k n j.length) (iN o6))),rfl,o3,(aL.arr 1 [] a05 rfl)⟩)))))))
         ·exact aM j6 o4 (aW (bG (aA ⟨b8,c4,d,o1,o2,j5,a01,o3,(aL.arr 1 [] g9 rfl)⟩)))
        refine aC (aCv d1 (aB (bB (t':=0) fY rfl rfl) (aB (bR cP b0 (i:=0) rfl rfl rfl) ?_)))
        obtain ⟨a06,j8,d⟩:=aI d
        have o7:=cG b0 (i:=2) rfl j8
        refine aB (dA fQ rfl o7 rfl rfl rfl j8) (aB (kA (t:=0) yE b0 (i:=2) rfl j8 rfl rfl rfl) (aBl (v:=zB a06) ?_))
        rcases aK d with ⟨b5,d⟩|⟨b5,d⟩
        ·refine bE b5 rfl rfl (aCv d1 (bE b5 rfl rfl (aB (bB (t':=2) iB rfl rfl) (bE b5 rfl rfl (aB (bR cP b0 (i:=0) rfl rfl rfl) (bE b5 rfl rfl ?_))))))
         obtain ⟨o8,o9,d⟩:=aI d
         refine aB (dA fQ rfl o7 rfl rfl rfl o9) (bE b5 rfl rfl (aB (kA (t:=0) yE b0 (i:=2) rfl o9 rfl rfl rfl) (aB (bI (v:=zB o8) b5 rfl rfl) (aBl (v:=zB o8) ?_))))
         rcases aK d with ⟨b6,d⟩|⟨b6,d⟩
         ·refine bE b6 rfl rfl (aCv d2 (bE b6 rfl rfl (aB (bB (t':=2) iB rfl rfl) (bE b6 rfl rfl (aB (bR cP b0 (i:=0) rfl rfl rfl) (bE b6 rfl rfl ?_))))))
          obtain ⟨p0,j9,d⟩:=aI d
          have p1:=cG b0 (i:=1) rfl j9
          refine aB (dA fQ rfl p1 rfl rfl rfl j9) (bE b6 rfl rfl (aB (kA (t:=0) yE b0 (i:=1) rfl j9 rfl rfl rfl) (aB (bI (v:=zB p0) b6 rfl rfl) (aBl (v:=zB p0) ?_))))
          rcases aK d with ⟨a9,d⟩|⟨a9,d⟩
          ·refine bE a9 rfl rfl (aCv d2 (bE a9 rfl rfl (aB (bB (t':=0) fY rfl rfl) (bE a9 rfl rfl (aB (bR cP b0 (i:=0) rfl rfl rfl) (bE a9 rfl rfl ?_))))))
           obtain ⟨p2,p3,d⟩:=aI d
           exact aB (dA fQ rfl p1 rfl rfl rfl p3) (bE a9 rfl rfl (aB (kA (t:=0) yE b0 (i:=1) rfl p3 rfl rfl rfl) (bE a9 rfl rfl (aB (dY rfl) (aB (bI (v:=zB (!p2)) a9 rfl rfl) (aAf ⟨!p2,d,d0,d1,d2,f1,d8,rfl,rfl,b0⟩))))))
          ·exact aV a9 rfl rfl (aV a9 rfl rfl (aV a9 rfl rfl (aV a9 rfl rfl (aV a9 rfl rfl (aV a9 rfl rfl (aB (bJ (v:=zB false) a9 rfl rfl) (aAf ⟨false,d,d0,d1,d2,f1,d8,rfl,rfl,b0⟩)))))))
         ·exact aV b6 rfl rfl (aV b6 rfl rfl (aV b6 rfl rfl (aV b6 rfl rfl (aV b6 rfl rfl (aB (bJ (v:=zB false) b6 rfl rfl) (aBl (v:=zB false) (aV (by decide:¬ false=true) rfl rfl (aV (by decide:¬ false=true) rfl rfl (aV (by decide:¬ false=true) rfl rfl (aV (by decide:¬ false=true) rfl rfl (aV (by decide:¬ false=true) rfl rfl (aV (by decide:¬ false=true) rfl rfl (aB (bJ (v:=zB false) (by decide:¬ false=true) rfl rfl) (aAf ⟨false,d,d0,d1,d2,f1,d8,rfl,rfl,b0⟩))))))))))))))
        ·exact aV b5 rfl rfl (aV b5 rfl rfl (aV b5 rfl rfl (aV b5 rfl rfl (aV b5 rfl rfl (aB (bJ (v:=zB false) b5 rfl rfl) (aBl (v:=zB false) (aV (by decide:¬ false=true) rfl rfl (aV (by decide:¬ false=true) rfl rfl (aV (by decide:¬ false=true) rfl rfl (aV (by decide:¬ false=true) rfl rfl (aV (by decide:¬ false=true) rfl rfl (aB (bJ (v:=zB false) (by decide:¬ false=true) rfl rfl) (aBl (v:=zB false) (aV (by decide:¬ false=true) rfl rfl (aV (by decide:¬ false=true) rfl rfl (aV (by decide:¬ false=true) rfl rfl (aV (by decide:¬ false=true) rfl rfl (aV (by decide:¬ false=true) rfl rfl (aV (by decide:¬ false=true) rfl rfl (aB (bJ (v:=zB false) (by decide:¬ false=true) rfl rfl) (aAf ⟨false,d,d0,d1,d2,f1,d8,rfl,rfl,b0⟩)))))))))))))))))))))
       ·refine aM j2 rfl (cB (aY (aY ?_)))
        have a07:=z1 _ (zI d).symm
        subst a07
        have Z:(wT b8 c4)=some g4:=Z
        exact bO (aA ⟨b8,c4,Z,d0,d1,d2,f1,d9⟩)
     ·refine aM j0 rfl (cB (aY (aY ?_)))
      have a08:=x8 _ (zI Z).symm
      subst a08
      have l:(sH y a4 J z b3 a d7)=some c3:=l
      exact bO (aA ⟨d7,l,n7,n8,n9,o0⟩)
   obtain ⟨a95,a09,l⟩:=aI l
   refine cD a09 (fun (s:(List Bool × Int)) f w=>match s with|(e0,d3)=>f 0=zP (some ⟨b1,0,none⟩)∧f 3=zS b a.length c∧f 5=zS k e0.length j.length∧f 6=i64 d3∧aL G K (aN 4 K k j.length e0::aN 4 K b c a::q::r::p::L) w) ?_ ?_
   ·exact ⟨s2,m0,rfl,rfl,s9⟩
   ·rintro ⟨e0,d3⟩ p4 f a96 u a10 ⟨f3,f4,h0,e1,p5⟩
    replace u:lS y J a e0 d3=some p4:=u
    unfold lS at u
    refine aH (aAZ (aCv e1 (aCv f4 (aB (bQ (len:=a.length) fQ rfl) (aB (cJ rfl rfl) (aAf ?_))))))
    rcases aK u with ⟨k0,u⟩|⟨k0,u⟩
    ·refine aO k0 rfl (aW (aA (aH (cU (cS (fun f w=>∃ (f5:List Bool),qV d3 f5=some p4∧f 0=zP (some ⟨b1,0,none⟩)∧f 3=zS b a.length c∧f 5=zS k f5.length j.length∧f 6=i64 d3∧aL G K (aN 4 K k j.length f5::aN 4 K b c a::q::r::p::L) w) ?_ ?_)))))
     ·rintro f a97 ⟨f5,u,a12,a13,a15,a16,a18⟩
      unfold qV at u
      exact bG (aA (aC (aCv a16 (aB (cX rfl rfl) (pM (v:=i64 (wr (d3+1))) (aAf ⟨(f5,wr (d3+1)),(zI u).symm,a12,a13,a15,rfl,a18⟩))))))
     obtain ⟨a99,f6,p6,a19,p7⟩:=aL.lendS (i:=1) p5 (zR _) rfl
     obtain ⟨b00,e2,p8,a21,p9⟩:=aL.lendS (i:=1) a19 (zL h3 f6) rfl
     obtain ⟨a22,c5,q0,q1,q2⟩:=aL.lendB (i:=2) a21 rfl
     refine eQ (C:=fun w'=>∃ L',aL G a22 L' w') [(0,0),(1,0),(2,0),(3,0),(4,0),(5,0),(6,0),(7,0),(8,0),(9,0),(10,0),(11,0),(12,0),(13,0),(14,0),(15,0),(16,0),(17,0),(18,0),(19,0),(20,0),(21,0),(22,0),(23,1),(24,0),(25,0),(26,2)] bK (by kernel_rfl) (fun _ hg=>⟨_,aL.mono q1 hg⟩) (fun b01 a24=>?_)
     have a6:=aL.mono q1 a24
     refine bS rfl (fun _ _=>aD h0) (bS rfl (fun _ _=>aD e1) (bS rfl (fun _ _=>aD f4) (bS rfl (fun _ _=>aD e1) ?_)))
     obtain ⟨a25,k1,u⟩:=aI u
     have a27:=aCB (p6.mono (zL e2 c5)) k1
     refine bS rfl (fun _ _=>dA fQ rfl a27 rfl rfl rfl k1) ?_
     obtain ⟨b02,a29,a30⟩:=bT.el (sz:=1) rfl (p6.mono (zL e2 c5)) k1
     cases a30
     refine bS rfl (fun _ ⟨_,a6⟩=>bH (t:=0) yE a6 a29 rfl rfl) (bS rfl (fun _ _=>aD (v:=zB a25) rfl) ?_)
     rcases aK u with ⟨m,u⟩|⟨m,u⟩
     ·refine nV rfl rfl rfl m (fun _ _=>aD f3) (nV rfl rfl rfl m (fun _ _=>dJ rfl) (nV rfl rfl rfl m (fun _ _=>bB (t':=0) aEZ rfl rfl) (nV rfl rfl rfl m (fun _ ⟨_,a6⟩=>bH (t:=0) aKj a6 q0 rfl rfl) (nV rfl rfl rfl m (fun _ _=>dG rfl (h4.mono (zL (zL f6 e2) c5))) (nV rfl rfl rfl m (fun _ _=>cH (k':=k3+4) aAr rfl (h4.mono (zL (zL f6 e2) c5)) rfl) (nV rfl rfl rfl m (fun _ ⟨_,a6⟩=>bH (t:=4) mM a6 (h4.mono (zL (zL f6 e2) c5)) rfl rfl) (nV rfl rfl rfl m (fun _ _=>aD f3) (nV rfl rfl rfl m (fun _ _=>dJ rfl) (nV rfl rfl rfl m (fun _ _=>bB (t':=2) pB rfl rfl) (nV rfl rfl rfl m (fun _ ⟨_,a6⟩=>bH (t:=2) qC a6 q0 rfl rfl) (nV rfl rfl rfl m (fun _ _=>aD e1) ?_)))))))))))
      obtain ⟨b03,k2,u⟩:=aI u
      have a31:=aCB (p8.mono c5) k2
      refine nV rfl rfl rfl m (fun _ _=>dA fX rfl a31 rfl rfl rfl k2) ?_
      obtain ⟨b04,a33,a34⟩:=bT.el (sz:=1) rfl (p8.mono c5) k2
      obtain ⟨b05,b06,rfl,q3⟩:=a34
      refine nV rfl rfl rfl m (fun _ ⟨_,a6⟩=>bH (t:=0) mM a6 a33 rfl rfl) ?_
      obtain ⟨a35,q4,u⟩:=aI u
      refine nV rfl rfl rfl m (fun _ _=>cO bW rfl q3 rfl rfl rfl q4) ?_
      obtain ⟨b07,a36,a37⟩:=bT.el (sz:=1) rfl q3 q4
      cases a37
      refine nV rfl rfl rfl m (fun _ ⟨_,a6⟩=>bH (t:=0) cP a6 a36 rfl rfl) (lL rfl (bE m rfl rfl ?_))
      obtain ⟨k4,a38,u⟩:=aI u
      refine aU (vs:=[zS a11 y.M.length c12,i64 a35]) Tryz.call136 rfl (aJK a6 (h5.mono (zL (zL f6 e2) c5)) a38) ?_
      rintro _ b08 ⟨rfl,k5⟩
      refine aF (aA ⟨⟨_,k5⟩,?_⟩)
      refine bS rfl (fun _ _=>bI (v:=zB k4) m rfl rfl) ?_
      obtain ⟨b09,k6,u⟩:=aI u
      have a39:=cG k5 (i:=0) rfl k6
      refine bS rfl (fun _ _=>dA fQ rfl a39 rfl rfl rfl k6) ?_
      have a40:=q2 _ _ k5
      have a41:=p9 _ _ a40
      have a42:=p7 _ _ a41
      refine aBn rfl ?_
      obtain ⟨q5,q6,u⟩:=aI u
      exact kV (i:=3) (t:=0) (ns:=[zB k4]) (e':=(k4:Bool)) Tryz.sizeOf4 a42 rfl (zR _) rfl rfl rfl k6 q6 rfl rfl (dL rfl) rfl (fun cs h=>by cases h;rfl) (fun a43 (a44:aL G K (aN 4 K b c a::q::p::aN 4 K k j.length q5::r::L) a43)=>(aAf (kB (aA ⟨q5,u,f3,f4,(Eq.trans h0 (congrArg (fun n=>zS k n j.length) (iN q6))),e1,(aL.arr 5 [3,0,1,4,2] a44 rfl)⟩))))
     ·refine jT rfl rfl rfl (bU m) (jT rfl rfl rfl (bU m) (jT rfl rfl rfl (bU m) (jT rfl rfl rfl (bU m) (jT rfl rfl rfl (bU m) (jT rfl rfl rfl (bU m) (jT rfl rfl rfl (bU m) (jT rfl rfl rfl (bU m) (jT rfl rfl rfl (bU m) (jT rfl rfl rfl (bU m) (jT rfl rfl rfl (bU m) (jT rfl rfl rfl (bU m) (jT rfl rfl rfl (bU m) (jT rfl rfl rfl (bU m) (jT rfl rfl rfl (bU m) (jT rfl rfl rfl (bU m) (lL rfl (aV (g:=47) m (by exact rfl) rfl (aF (aA ⟨⟨_,a6⟩,?_⟩)))))))))))))))))))
      refine bS rfl (fun _ _=>bJ (v:=zB false) m rfl rfl) ?_
      obtain ⟨b10,k7,u⟩:=aI u
      have a45:=cG a6 (i:=0) rfl k7
      refine bS rfl (fun _ _=>dA fQ rfl a45 rfl rfl rfl k7) ?_
      have a46:=q2 _ _ a6
      have a47:=p9 _ _ a46
      have a48:=p7 _ _ a47
      refine aBn rfl ?_
      obtain ⟨q7,q8,u⟩:=aI u
      exact kV (i:=3) (t:=0) (ns:=[zB false]) (e':=(false:Bool)) Tryz.sizeOf4 a48 rfl (zR _) rfl rfl rfl k7 q8 rfl rfl (dL rfl) rfl (fun cs h=>by cases h;rfl) (fun a49 (a50:aL G K (aN 4 K b c a::q::p::aN 4 K k j.length q7::r::L) a49)=>(aAf (kB (aA ⟨q7,u,f3,f4,(Eq.trans h0 (congrArg (fun n=>zS k n j.length) (iN q8))),e1,(aL.arr 5 [3,0,1,4,2] a50 rfl)⟩))))
    ·refine aM k0 rfl (cB (aY (aY ?_)))
     have a51:=a10 _ (zI u).symm
     subst a51
     have l:(qU y a4 J z b3 a e0)=some c3:=l
     exact bO (aA ⟨e0,l,f3,f4,h0,p5⟩)
 obtain ⟨b11,a52,hm⟩:=aI hm
 refine cD a52 (fun (s:(List Bool × Int)) f w=>match s with|(c7,e3)=>f 0=zP (some ⟨b1,0,none⟩)∧f 3=zS b9 c7.length c0∧f 4=i64 e3∧aL G K (aN 4 K b9 c0 c7::q::r::p::L) w) ?_ ?_
 ·exact ⟨rfl,rfl,rfl,r6⟩
 ·rintro ⟨c7,e3⟩ a54 f a55 b2 a56 ⟨k8,h1,h2,q9⟩
  replace b2:lT y a4 J z b3 c7 e3=some a54:=b2
  unfold lT at b2
  refine aH (aAZ (aCv h2 (aCv h1 (aB (bQ (len:=c7.length) fQ rfl) (aB (cJ rfl rfl) (aAf ?_))))))
  rcases aK b2 with ⟨k9,b2⟩|⟨k9,b2⟩
  ·refine aO k9 rfl (aW (aA (aH (cU (aC (aCv h1 (aCv h2 (aCv k8 (aCv h2 ?_)))))))))
   have a57:aL G K (q::r::p::aN 4 K b9 c0 c7::L) a55:=(aL.arr 4 [1,2,3,0] q9 rfl)
   obtain ⟨r0,a58,b2⟩:=aI b2
   refine aU (vs:=[zP (some ⟨b1,0,none⟩),i64 e3]) Tryz.call135 rfl (aCO (Kf:=Kf) a57 h3 h4 h7 l3 h5 l4 l5 l6 l7 a58) ?_
   rintro _ b12 ⟨rfl,r1⟩
   refine aB (cJ rfl rfl) ?_
   obtain ⟨b13,l0,b2⟩:=aI b2
   have a59:=cG r1 (i:=3) rfl l0
   refine aB (dA fQ rfl a59 rfl rfl rfl l0) ?_
   obtain ⟨r2,r3,b2⟩:=aI b2
   exact kV (i:=3) (t:=0) (ns:=[zB (decide (r0 < 0))]) (e':=(decide (r0 < 0):Bool)) Tryz.sizeOf4 r1 rfl (zR _) rfl rfl rfl l0 r3 rfl rfl (dL rfl) rfl (fun cs h=>by cases h;rfl) (fun a60 (a61:aL G K (q::r::p::aN 4 K b9 c0 r2::L) a60)=>(aF (bG (aA (aC (aCv h2 (aB (cX rfl rfl) (pM (v:=i64 (wr (e3+1))) (aAf ⟨(r2,wr (e3+1)),(zI b2).symm,k8,(Eq.trans h1 (congrArg (fun n=>zS b9 n c0) (iN r3))),rfl,(aL.arr 4 [3,0,1,2] a61 rfl)⟩)))))))))
  ·refine aM k9 rfl (cB (aY (aY ?_)))
   have a62:=a56 _ (zI b2).symm
   subst a62
   have hm:(qW y a4 J z b3 c7)=some R:=hm
   exact bO (aA ⟨c7,hm,k8,h1,q9⟩)
end Gv
