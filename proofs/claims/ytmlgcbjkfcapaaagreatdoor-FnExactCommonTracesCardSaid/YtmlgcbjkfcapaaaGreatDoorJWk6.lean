/- Walks, printed by program. -/
import Derived.Test.YtmlgcbjkfcapaaaGreatDoorJWk1
import Derived.Test.YtmlgcbjkfcapaaaGreatDoorJWk5
set_option linter.all false
namespace Gv
open Go.Value renaming slice→zS,bool→zB,pointer→zP,agg→zA,tuple→zT,map→zM
open Option.some renaming inj→zI
open Gv.Hp renaming le_trans→zL,le_refl→zR
open Go Go.Proofs
set_option maxRecDepth 20000
set_option maxHeartbeats 40000000
variable {G:Env} {K Kf:Hp} {L:List pH} {w:World} {a1 a4 a7 a2 a5 a6 a9 a11 a14 a17 a20 a10:Option Addr} {c2 c5 c8 b1 c3 c6 b4 b5 c7 c10 c18 c21 c11:Nat}
theorem lO {a:(List Int)} {b:Int} {R:Bool} (d:aK G K (L) w) (e:dB K a1 c2 a) (c:eK a b=some R):
  Calls Tryz.prog 183 ([zS a1 a.length c2,i64 b]:List Value).toArray w (iK fun v w'=>v=zB R∧aK G K (L) w'):=by
 refine aX Tryz.func183 rfl (by kernel_rfl) (by show (2:Nat)≤9;decide) ?_
 unfold eK at c
 refine aM (aH (v:=zB false) (aI (aM (aP (v:=zS a1 a.length c2) (aP (v:=i64 b) ?_)))))
 obtain ⟨g,h,c⟩:=aD c
 refine aU (vs:=[zS a1 a.length c2,i64 b]) Tryz.call83 rfl (vN d e h) ?_
 rintro _ k ⟨rfl,i⟩
 refine aF (tU rfl rfl) (aH (v:=zB (decide (0≤g))) (aI ?_))
 obtain rfl:=zI c
 exact bH (bF Tryz.results183 rfl ⟨rfl,i⟩)
theorem tQ {c R:(List Int)} (hs:aK G K (aN 2 K a1 c2 c::L) w) (d:dY c=some R):
  Calls Tryz.prog 191 ([zS a1 c.length c2]:List Value).toArray w (iK fun v w'=>∃ (b9:Option Addr) (c0:Nat),v=zS b9 R.length c0∧aK G K (aN 2 K b9 c0 R::L) w'):=by
 refine aX Tryz.func191 rfl (by kernel_rfl) (by show (1:Nat)≤61;decide) ?_
 unfold dY at d
 refine aM (aH (v:=zS none 0 0) (aI (aQ (aM (aP (v:=zS a1 c.length c2) (aF (bN (len:=c.length) bY rfl) (aF (cG rfl rfl) (aI ?_))))))))
 rcases aJ d with ⟨c3,d⟩|⟨c3,d⟩
 ·refine aO c3 rfl (aM (aP (v:=zS a1 c.length c2) (aH (v:=zS a1 c.length c2) (aI ?_))))
  obtain rfl:=zI d
  exact bH (aR (bF Tryz.results191 rfl ⟨a1,c2,rfl,hs⟩))
 ·refine aL c3 rfl (aY (aC (aQ (aM (aH (v:=i64 1) (aI (bE (fun f w=>gL c=some R∧f 0=zS a1 c.length c2∧aK G K (aN 2 K a1 c2 c::L) w) ?_ ?_)))))))
  ·rintro f w6 ⟨d,e5,e4⟩
   unfold gL at d
   refine aC (aM (aT e5 (aH (v:=zS a1 c.length c2) (aI ?_))))
   obtain rfl:=zI d
   exact bH (bF Tryz.results191 rfl ⟨a1,c2,rfl,e4⟩)
  obtain ⟨h1,e7,d⟩:=aD d
  refine cD e7 (fun (j:Int) f w=>f 0=zS a1 c.length c2∧f 3=i64 j∧aK G K (aN 2 K a1 c2 c::L) w) ?_ ?_
  ·exact ⟨rfl,rfl,hs⟩
  ·rintro j z f h2 a c1 ⟨m,p,e⟩
   replace a:eC c j=some z:=a
   unfold eC at a
   refine aQ (aM (aT p (aT m (aF (bN (len:=c.length) bY rfl) (aF (cG rfl rfl) (aI ?_))))))
   rcases aJ a with ⟨a7,a⟩|⟨a7,a⟩
   ·refine aO a7 rfl (aY (aC (aQ (bE (fun f w=>gM j=some z∧f 0=zS a1 c.length c2∧f 3=i64 j∧aK G K (aN 2 K a1 c2 c::L) w) ?_ ?_))))
    ·rintro f h3 ⟨a,e8,e9,f0⟩
     unfold gM at a
     exact aC (aS (aT e9 (aF (cQ rfl rfl) (aH (v:=i64 (wr (j+1))) (aI ⟨wr (j+1),(zI a).symm,e8,rfl,f0⟩)))))
    refine aQ (dR (C:=fun w'=>aK G K (aN 2 K a1 c2 c::L) w') bT (by kernel_rfl) (aK.mono e (dQ.drew _)) (aW (fun _ e=>aZ m) (aW (fun _ e=>aZ p) ?_)))
    obtain ⟨h4,a8,a⟩:=aD a
    have q:=cY e (i:=0) rfl a8
    refine aW (fun _ e=>dW bY rfl q rfl rfl rfl a8) (aW (fun _ e=>jL (t:=0) cV e (i:=0) rfl a8 rfl rfl rfl) (aW (fun _ e=>aZ m) (aW (fun _ e=>aZ p) (aW (fun _ e=>kL rfl rfl) ?_))))
    obtain ⟨h5,c4,a⟩:=aD a
    refine aW (fun _ e=>dW bY rfl q rfl rfl rfl c4) (aW (fun _ e=>jL (t:=0) cV e (i:=0) rfl c4 rfl rfl rfl) (aW (fun _ e=>oN rfl rfl) (eF (fun h6 a9=>(aC ?_)))))
    rcases aJ a with ⟨c45,a⟩|⟨c45,a⟩
    ·refine aO c45 rfl (aM (aT m (aT p ?_)))
     obtain ⟨x,J,a⟩:=aD a
     have V:=yP a9 (i:=0) rfl
     obtain ⟨b0,b1,Z⟩:=Cut.ex 1 a1 c2 j
     refine aF (aDs bY V Z rfl rfl rfl J) (aH (v:=zS b0 x.length b1) (aI (aQ (aM (aH (v:=i64 1) (aI (bE (fun f w=>∃ (a0:List Int) (a2:Int),fE a0 a2=some z∧f 0=zS a1 a0.length c2∧f 3=i64 a2∧aK G K (aN 2 K a1 c2 a0::L) w) ?_ ?_)))))))
     ·rintro f h7 ⟨a0,a2,a,c5,c6,c7⟩
      unfold fE at a
      refine aC (aM (aT c5 (aT c6 ?_)))
      obtain ⟨h8,f1,a⟩:=aD a
      have f2:=yP c7 (i:=0) rfl
      obtain ⟨h9,i0,c8⟩:=Cut.ex 1 a1 c2 a2
      refine aF (aDs bY f2 c8 rfl rfl rfl f1) ?_
      obtain ⟨c9,d0,a⟩:=aD a
      refine aFB bY lR rfl c7 (i:=0) rfl c8 rfl rfl d0 (fun d1 (d2:aK G K (aN 2 K a1 c2 c9::L) d1)=>(aI (aM (aT (v:=zS a1 c9.length c2) (Eq.trans c5 (congrArg (fun n=>zS a1 n c2) (aJr d0))) (aT c6 ?_)))))
      obtain ⟨b2,d3,a⟩:=aD a
      have f3:=yP d2 (i:=0) rfl
      obtain ⟨b3,b4,d4⟩:=Cut.ex 1 a1 c2 0
      refine aF (aJC bY f3 d4 rfl rfl rfl d3) (aH (v:=zS b3 b2.length b4) (aI (bH (bQ (aR (aR (aR ?_)))))))
      have f4:=c1 _ (zI a).symm
      subst f4
      have d:(some b2)=some R:=d
      have f5:aK G K (aN 2 K b3 b4 b2::L) d1:=aK.cutP d2 (i:=0) rfl d3 d4
      obtain rfl:=zI d
      exact bQ (aR (aR (bF Tryz.results191 rfl ⟨b3,b4,rfl,f5⟩)))
     obtain ⟨i1,f7,a⟩:=aD a
     refine cD f7 (fun (s:(List Int × Int × Int)) f w=>match s with|(k,l,o)=>f 0=zS a1 k.length c2∧f 3=i64 l∧f 4=zS b0 x.length b1∧f 5=i64 o∧aK G K (aN 2 K a1 c2 k::L) w) ?_ ?_
     ·exact ⟨m,p,rfl,rfl,a9⟩
     ·rintro ⟨k,l,o⟩ d5 f i2 b f8 ⟨a3,a4,r,u,g⟩
      replace b:eB j x k l o=some d5:=b
      unfold eB at b
      refine aQ (aM (aT u (aT r (aF (bN (len:=x.length) bY rfl) (aF (cG rfl rfl) (aI ?_))))))
      rcases aJ b with ⟨b5,b⟩|⟨b5,b⟩
      ·refine aO b5 rfl (aY (aC (aQ (bE (fun f w=>∃ (y:List Int) (a5:Int),fF o y a5=some d5∧f 0=zS a1 y.length c2∧f 3=i64 a5∧f 4=zS b0 x.length b1∧f 5=i64 o∧aK G K (aN 2 K a1 c2 y::L) w) ?_ ?_))))
       ·rintro f i3 ⟨y,a5,b,f9,g0,g1,g2,g3⟩
        unfold fF at b
        exact aC (aS (aT g2 (aF (cQ rfl rfl) (aH (v:=i64 (wr (o+1))) (aI ⟨(y,a5,wr (o+1)),(zI b).symm,f9,g0,g1,rfl,g3⟩)))))
       refine aQ (dR (C:=fun w'=>aK G K (aN 2 K a1 c2 k::L) w') bT (by kernel_rfl) (aK.mono g (dQ.drew _)) (aW (fun _ g=>aZ r) (aW (fun _ g=>aZ u) ?_)))
       obtain ⟨i4,d6,b⟩:=aD b
       obtain ⟨d7,d8,b⟩:=aD b
       refine aW (fun _ g=>aET bY q Z J V rfl rfl rfl d6 rfl) (aW (fun _ g=>jL (t:=0) cV g (i:=0) rfl d8 rfl rfl rfl) (aW (fun _ g=>aZ r) (aW (fun _ g=>aZ u) (aW (fun _ g=>kL rfl rfl) ?_))))
       obtain ⟨i5,g4,b⟩:=aD b
       obtain ⟨i6,g5,b⟩:=aD b
       refine aW (fun _ g=>aET bY q Z J V rfl rfl rfl g4 rfl) (aW (fun _ g=>jL (t:=0) cV g (i:=0) rfl g5 rfl rfl rfl) (aW (fun _ g=>oO rfl rfl) (eF (fun i7 b6=>(aC ?_)))))
       rcases aJ b with ⟨b7,b⟩|⟨b7,b⟩
       ·refine aO b7 rfl (aM (aT a3 (aT a4 (aT r (aT u (aF (aET bY q Z J V rfl rfl rfl d6 rfl) (aF (jL (t:=0) cV b6 (i:=0) rfl d8 rfl rfl rfl) ?_)))))))
        obtain ⟨i8,d9,b⟩:=aD b
        refine aF (dW bY rfl q rfl rfl rfl d9) ?_
        obtain ⟨e0,e1,b⟩:=aD b
        exact mW (i:=0) (t:=0) (ns:=[i64 d7]) (e':=(d7:Int)) Tryz.sizeOf2 b6 rfl (zR _) rfl rfl rfl d9 e1 rfl rfl (cX rfl) rfl (fun cs h=>by cases h;rfl) (fun g6 (g7:aK G K (aN 2 K a1 c2 e0::L) g6)=>(aI (aS (aT a4 (aF (cQ rfl rfl) (aH (v:=i64 (wr (l+1))) (bA (bG (aC ⟨e0,wr (l+1),b,(Eq.trans a3 (congrArg (fun n=>zS a1 n c2) (jP e1))),rfl,r,u,g7⟩)))))))))
       ·exact aL b7 rfl (aY (bG (aC ⟨k,l,b,a3,a4,r,u,b6⟩)))
      ·refine aL b5 rfl (cB (aV (aV ?_)))
       have g8:=f8 _ (zI b).symm
       subst g8
       have a:(fE k l)=some z:=a
       exact bJ (aC ⟨k,l,a,a3,a4,g⟩)
    ·exact aL c45 rfl (aY (bG (aC ⟨a,m,p,a9⟩)))
   ·refine aL a7 rfl (cB (aV (aV ?_)))
    have g9:=c1 _ (zI a).symm
    subst g9
    have d:(gL c)=some R:=d
    exact bJ (aC ⟨d,m,e⟩)
theorem rF {t:cN} {o:(List Int)} {p:bB} {R:(List Int)} (hs:aK G K (L) w) (h3:dB K a1 c2 t.L) (h6:dB K a4 c5 t.E) (h9:dB K a7 c8 o) (c:kN t o p=some R):
  Calls Tryz.prog 122 ([zA (zCa t a1 c2 a4 c5),zS a7 o.length c8,str p]:List Value).toArray w (iK fun v w'=>∃ (c1:Option Addr) (c3:Nat),v=zS c1 R.length c3∧aK G K (aN 2 K c1 c3 R::L) w'):=by
 let q:=(zC t a1 c2 a4 c5)
 refine aX Tryz.func122 rfl (by kernel_rfl) (by show (3:Nat)≤41;decide) ?_
 unfold kN at c
 refine aM (gP (v:=zA (zCa t a1 c2 a4 c5)) (vs:=q) hs rfl rfl (fun j i3 c4=>(aH (v:=zS none 0 0) (aI (aM (aH (v:=zS none 0 0) (aI (aQ (aM (aF (bL (t':=3) eR rfl rfl) (aF (cC lK c4 (i:=0) rfl rfl rfl) (aF (bN (len:=t.E.length) cK rfl) (aP (v:=i64 0) (aI (bE (fun f w=>∃ (y:List Int) (r:Option Addr) (u:Nat),nA y=some R∧f 7=zS r y.length u∧aK G K (aN 2 K r u y::L) w) ?_ ?_)))))))))))))))
 ·rintro f i4 ⟨y,r,u,c,c6,e4⟩
  unfold nA at c
  refine aC (aM (aT c6 ?_))
  obtain ⟨c7,e5,c⟩:=aD c
  refine aU (vs:=[zS r y.length u]) Tryz.call184 rfl (aGe e4 e5) ?_
  rintro _ i5 ⟨rfl,e6,e7⟩
  refine aI (aM (aT (v:=zS r c7.length u) (Eq.trans c6 (congrArg (fun n=>zS r n u) e6)) ?_))
  obtain ⟨e8,e9,c⟩:=aD c
  refine aU (vs:=[zS r c7.length u]) Tryz.call191 rfl (tQ e7 e9) ?_
  rintro _ i6 ⟨c9,d0,rfl,f0⟩
  refine aH (v:=zS c9 e8.length d0) (aI ?_)
  obtain rfl:=zI c
  exact bH (bF Tryz.results122 rfl ⟨c9,d0,rfl,f0⟩)
 have f2:=aK.nil (α:=Int) c4 2 K
 obtain ⟨i7,f3,c⟩:=aD c
 refine cD f3 (fun (s:(List Int × Int)) f w=>match s with|(d,k)=>∃ (l:Option Addr) (m:Nat),f 1=zS a7 o.length c8∧f 2=str p∧f 3=zP (some ⟨j,0,none⟩)∧f 7=zS l d.length m∧f 11=zS a4 t.E.length c5∧f 12=i64 (t.E.length:Int)∧f 13=i64 k∧aK G K (aN 2 K l m d::box j 29 q::L) w) ?_ ?_
 ·exact ⟨none,0,rfl,rfl,rfl,rfl,rfl,rfl,rfl,f2⟩
 ·rintro ⟨d,k⟩ a2 f i8 a f4 ⟨l,m,a3,a5,a6,a8,a9,b0,V,b1⟩
  replace a:jF t o p d k=some a2:=a
  unfold jF at a
  refine aM (aF (cG V b0) (aI (aQ ?_)))
  rcases aJ a with ⟨b2,a⟩|⟨b2,a⟩
  ·refine aO b2 rfl (aY (aC (aQ (bE (fun f w=>∃ (z:List Int) (Z:Option Addr) (a0:Nat),nB k z=some a2∧f 1=zS a7 o.length c8∧f 2=str p∧f 3=zP (some ⟨j,0,none⟩)∧f 7=zS Z z.length a0∧f 11=zS a4 t.E.length c5∧f 12=i64 (t.E.length:Int)∧f 13=i64 k∧aK G K (aN 2 K Z a0 z::box j 29 q::L) w) ?_ ?_))))
   ·rintro f i9 ⟨z,Z,a0,a,f5,f6,f7,f8,f9,g0,g1,g2⟩
    unfold nB at a
    exact aC (aS (aF (cQ g1 rfl) (aP (v:=i64 (wr (k+1))) (aI ⟨(z,wr (k+1)),(zI a).symm,Z,a0,f5,f6,f7,f8,f9,g0,rfl,g2⟩))))
   refine aM ?_
   obtain ⟨b,d1,a⟩:=aD a
   refine aF (dN cK rfl h6 a9 rfl V d1) ?_
   obtain ⟨j0,g3,g4⟩:=dB.el (sz:=3) rfl h6 d1
   cases g4
   refine aF (fZ (t:=0) (vs:=[i64 b.F,i64 b.B,i64 b.To]) lU b1 g3 rfl rfl rfl) (bS (vs:=[i64 0,i64 0,i64 0]) Tryz.zeroValue63 b1 rfl (fun J j1 g5=>(bR (i:=0) (ns:=[i64 b.F,i64 b.B,i64 b.To]) (us:=[i64 b.F,i64 b.B,i64 b.To]) Tryz.sizeOf63 g5 rfl rfl rfl rfl rfl (cX rfl) rfl rfl (fun g6 (x:aK G K (box J 63 [i64 b.F,i64 b.B,i64 b.To]::aN 2 K l m d::box j 29 q::L) g6)=>(aI (aQ (dF (fun f w=>∃ (b3:Bool),nC d k b b3=some a2∧f 1=zS a7 o.length c8∧f 2=str p∧f 3=zP (some ⟨j,0,none⟩)∧f 7=zS l d.length m∧f 9=zP (some ⟨J,0,none⟩)∧f 11=zS a4 t.E.length c5∧f 12=i64 (t.E.length:Int)∧f 13=i64 k∧f 30=zB b3∧aK G K (box J 63 [i64 b.F,i64 b.B,i64 b.To]::aN 2 K l m d::box j 29 q::L) w) ?_ ?_)))))))
   ·rintro f j2 ⟨b3,a,d2,d3,d4,d5,g7,d6,d7,d8,d9,b4⟩
    unfold nC at a
    refine aC ?_
    rcases aJ a with ⟨b5,a⟩|⟨b5,a⟩
    ·refine aO b5 d9 (aS (aT d5 (aF (bL (t':=2) gX g7 rfl) (aF (cC cV b4 (i:=0) rfl rfl rfl) (cT (Kt:=K) (xs:=([b.To]:List Int)) (cs:=[i64 b.To]) (vs:=[(0,i64 b.To)]) bY lR rfl rfl b4 rfl (by kernel_rfl) rfl rfl rfl ⟨rfl,trivial⟩ (fun g8 g9 (h0:aK G K (aN 2 K g8 1 ([b.To]:List Int)::box J 63 [i64 b.F,i64 b.B,i64 b.To]::aN 2 K l m d::box j 29 q::L) g9)=>?_))))))
     obtain ⟨b6,h1,a⟩:=aD a
     exact eI (i:=1) bY Tryz.underlying38 lR rfl rfl h0 rfl (zR _) (zR _) h1 rfl rfl rfl rfl (fun _ h=>h) (fun b7 b8 h2 (h4:aK G K (box J 63 [i64 b.F,i64 b.B,i64 b.To]::aN 2 K b7 b8 b6::box j 29 q::L) h2)=>(aH (v:=zS b7 b6.length b8) (bA (bG (aC ⟨b6,b7,b8,a,d2,d3,d4,rfl,d6,d7,d8,(aK.arr 1 [] h4 rfl)⟩)))))
    ·exact aL b5 d9 (aY (bG (aC ⟨d,l,m,a,d2,d3,d4,d5,d6,d7,d8,(aK.arr 1 [] b4 rfl)⟩)))
   refine aS (aF (bL (t':=2) eG a6 rfl) (aF (cC iT x (i:=2) rfl rfl rfl) (aF (bL (t':=1) iF rfl rfl) (aF (cC cV x (i:=0) rfl rfl rfl) ?_))))
   obtain ⟨h5,e0,a⟩:=aD a
   refine aF (dN cF rfl h3 rfl rfl rfl e0) ?_
   obtain ⟨j3,h7,h8⟩:=dB.el (sz:=1) rfl h3 e0
   cases h8
   refine aF (bK (t:=0) mV x h7 rfl rfl) (aT a5 (aF (wN rfl rfl) (aP (v:=zB (h5 == p)) ?_)))
   rcases aJ a with ⟨e,a⟩|⟨e,a⟩
   ·refine bU e rfl rfl (aT a3 (bU e rfl rfl (aF (bL (t':=0) kG rfl rfl) (bU e rfl rfl (aF (cC cV x (i:=0) rfl rfl rfl) (bU e rfl rfl ?_))))))
    obtain ⟨e1,i0,a⟩:=aD a
    refine aU (vs:=[zS a7 o.length c8,i64 b.F]) Tryz.call183 rfl (lO x h9 i0) ?_
    rintro _ j4 ⟨rfl,i1⟩
    exact aF (bO (v:=zB e1) e rfl rfl) (aI ⟨e1,a,a3,a5,a6,a8,rfl,a9,b0,V,rfl,i1⟩)
   ·exact bI e rfl rfl (bI e rfl rfl (bI e rfl rfl (bI e rfl rfl (aF (bV (v:=zB false) e rfl rfl) (aI ⟨false,a,a3,a5,a6,a8,rfl,a9,b0,V,rfl,x⟩)))))
  ·refine aL b2 rfl (cB (aV (aV ?_)))
   have i2:=f4 _ (zI a).symm
   subst i2
   have c:(nA d)=some R:=c
   exact bJ (aC ⟨d,l,m,c,a8,(aK.arr 2 [0] b1 rfl)⟩)
theorem vO {b R:(List Int)} (e:aK G K (L) w) (g:dB K a1 c2 b) (a:iU b=some R):
  Calls Tryz.prog 154 ([zS a1 b.length c2]:List Value).toArray w (iK fun v w'=>∃ (h:Option Addr) (j:Nat),v=zS h R.length j∧aK G K (aN 2 K h j R::L) w'):=by
 refine aX Tryz.func154 rfl (by kernel_rfl) (by show (1:Nat)≤8;decide) ?_
 unfold iU at a
 refine aM (aH (v:=zS none 0 0) (aI (aQ (aM (aP (v:=zS a1 b.length c2) (aF (R_isNil bY rfl rfl) (aI ?_)))))))
 rcases nil_cases g with ⟨l,m,n⟩|o
 ·subst l;subst m;subst n
  refine W_cond_t rfl ?_
  replace a:(some [])=some R:=a
  refine aM (aH (v:=zS none 0 0) (aI ?_))
  have p:=aK.nil (α:=Int) e 2 K
  obtain rfl:=zI a
  exact bH (aR (bF Tryz.results154 rfl ⟨none,0,rfl,p⟩))
 ·refine W_cond_f (Eq.trans rfl (congrArg zB o)) (aY (aC (aM (cT (Kt:=K) (xs:=([]:List Int)) (cs:=[]) (vs:=[]) bY lR rfl rfl e rfl (by kernel_rfl) rfl rfl rfl trivial (fun r t (u:aK G K (aN 2 K r 0 ([]:List Int)::L) t)=>(aP (v:=zS a1 b.length c2) ?_))))))
  obtain ⟨k,x,a⟩:=aD a
  refine aCJ (i:=0) bY Tryz.underlying38 lR rfl rfl u rfl (zR _) g x rfl rfl rfl rfl (fun c d y (z:aK G K (aN 2 K c d k::L) y)=>(aH (v:=zS c k.length d) (aI ?_)))
  obtain rfl:=zI a
  exact bH (bF Tryz.results154 rfl ⟨c,d,rfl,z⟩)
theorem aAu {t:cN} {z R:(List Int)} (hs:aK G K (L) w) (h3:dB K a1 c2 t.L) (h6:dB K a4 c5 t.E) (h9:dB K a7 c8 z) (c:kY t z=some R):
  Calls Tryz.prog 113 ([zA (zCa t a1 c2 a4 c5),zS a7 z.length c8]:List Value).toArray w (iK fun v w'=>∃ (d6:Option Addr) (d7:Nat),v=zS d6 R.length d7∧aK G K (aN 2 K d6 d7 R::L) w'):=by
 let j:=(zC t a1 c2 a4 c5)
 refine aX Tryz.func113 rfl (by kernel_rfl) (by show (2:Nat)≤41;decide) ?_
 unfold kY at c
 refine aM (gP (v:=zA (zCa t a1 c2 a4 c5)) (vs:=j) hs rfl rfl (fun d l8 f7=>(aH (v:=zS none 0 0) (aI (aM (aP (v:=zS a7 z.length c8) ?_))))))
 obtain ⟨f8,f9,c⟩:=aD c
 refine aU (vs:=[zS a7 z.length c8]) Tryz.call154 rfl (vO f7 h9 f9) ?_
 rintro _ l9 ⟨d8,d9,rfl,g0⟩
 refine aH (v:=zS d8 f8.length d9) (aI (aQ (aM (aH (v:=i64 0) (aI (bE (fun f w=>∃ (J:List Int) (l:Option Addr) (m:Nat),nL J=some R∧f 5=zS l J.length m∧aK G K (aN 2 K l m J::L) w) ?_ ?_))))))
 ·rintro f m0 ⟨J,l,m,c,e0,g1⟩
  unfold nL at c
  refine aC (aM (aT e0 ?_))
  obtain ⟨e1,g2,c⟩:=aD c
  refine aU (vs:=[zS l J.length m]) Tryz.call184 rfl (aGe g1 g2) ?_
  rintro _ m1 ⟨rfl,g3,g4⟩
  refine aI (aM (aT (v:=zS l e1.length m) (Eq.trans e0 (congrArg (fun n=>zS l n m) g3)) (aH (v:=zS l e1.length m) (aI ?_))))
  obtain rfl:=zI c
  exact bH (bF Tryz.results113 rfl ⟨l,m,rfl,g4⟩)
 obtain ⟨m2,g6,c⟩:=aD c
 refine cD g6 (fun (s:(List Int × Int)) f w=>match s with|(p,e)=>∃ (V:Option Addr) (c48:Nat),f 2=zP (some ⟨d,0,none⟩)∧f 5=zS V p.length c48∧f 6=i64 e∧aK G K (aN 2 K V c48 p::box d 29 j::L) w) ?_ ?_
 ·exact ⟨d8,d9,rfl,rfl,rfl,g0⟩
 ·rintro ⟨p,e⟩ a8 f m3 a g7 ⟨V,c48,e2,a9,b9,e3⟩
  replace a:lL t p e=some a8:=a
  unfold lL at a
  refine aQ (aM (aT b9 (aT a9 (aF (bN (len:=p.length) bY rfl) (aF (cG rfl rfl) (aI ?_))))))
  rcases aJ a with ⟨c0,a⟩|⟨c0,a⟩
  ·refine aO c0 rfl (aY (aC (aQ (bE (fun f w=>∃ (Z:List Int) (b0:Option Addr) (b1:Nat),rD e Z=some a8∧f 2=zP (some ⟨d,0,none⟩)∧f 5=zS b0 Z.length b1∧f 6=i64 e∧aK G K (aN 2 K b0 b1 Z::box d 29 j::L) w) ?_ ?_))))
   ·rintro f m4 ⟨Z,b0,b1,a,g8,g9,h0,h1⟩
    unfold rD at a
    exact aC (aS (aT h0 (aF (cQ rfl rfl) (aH (v:=i64 (wr (e+1))) (aI ⟨(Z,wr (e+1)),(zI a).symm,b0,b1,g8,g9,rfl,h1⟩)))))
   refine aQ ?_
   obtain ⟨m5,c1,e4,h2,h4⟩:=aK.lendS (i:=0) e3 (zR _) rfl
   obtain ⟨e5,a0,h5,e6,h7⟩:=aK.lendB (i:=0) h2 rfl
   refine gA (C:=fun w'=>∃ L',aK G e5 L' w') [(0,0),(1,0),(2,0),(3,0),(4,0),(8,0),(5,1),(6,1),(7,0)] bT (by kernel_rfl) (fun _ hg=>⟨_,aK.mono e6 hg⟩) (fun m6 h8=>?_)
   have a2:=aK.mono e6 h8
   refine bZ rfl (fun _ ⟨_,a2⟩=>fZ (t:=0) (vs:=j) dI a2 h5 e2 rfl rfl) (bZ rfl (fun _ _=>aZ a9) (bZ rfl (fun _ _=>aZ b9) ?_))
   obtain ⟨a3,c3,a⟩:=aD a
   have i0:=rd_lies (e4.mono a0) c3
   refine bZ rfl (fun _ _=>dW bY rfl i0 rfl rfl rfl c3) ?_
   obtain ⟨m7,i1,i2⟩:=dB.el (sz:=1) rfl (e4.mono a0) c3
   cases i2
   refine bZ rfl (fun _ ⟨_,a2⟩=>bK (t:=0) cV a2 i1 rfl rfl) (bZ rfl (fun _ _=>aZ (v:=i64 0) rfl) (kD rfl (cT (Kt:=K) (xs:=([a3]:List Int)) (cs:=[i64 a3]) (vs:=[(0,i64 a3)]) bY lR rfl rfl a2 rfl (by kernel_rfl) rfl rfl rfl ⟨rfl,trivial⟩ (fun e7 i3 (e8:aK G e5 (aN 2 K e7 1 ([a3]:List Int)::L) i3)=>(bA (aC ⟨⟨_,e8⟩,?_⟩))))))
   refine kD rfl ?_
   obtain ⟨m8,e9,i4,i5,i6⟩:=aK.lendS (i:=0) e8 (zL c1 a0) rfl
   obtain ⟨g,i7,a⟩:=aD a
   refine aU (vs:=[zA (zCa t a1 c2 a4 c5),zS e7 ([a3]:List Int).length 1,str ([116,97,117]:bB)]) Tryz.call122 rfl (rF i5 (h3.mono (zL (zL c1 a0) e9)) (h6.mono (zL (zL c1 a0) e9)) i4 i7) ?_
   rintro _ m9 ⟨x,y,rfl,i8⟩
   have f0:=i6 _ _ i8
   refine bA (aC ⟨⟨_,f0⟩,?_⟩)
   refine bZ rfl (fun _ _=>bN (len:=g.length) bY rfl) (lY ?_)
   have i9:=h7 _ _ f0
   have j0:=h4 _ _ i9
   refine aC (bE (fun f w=>∃ (a5:List Int) (b2:Option Addr) (b3:Nat),nM e a5=some a8∧f 2=zP (some ⟨d,0,none⟩)∧f 5=zS b2 a5.length b3∧f 6=i64 e∧aK G K (aN 2 K b2 b3 a5::box d 29 j::L) w) ?_ ?_)
   ·rintro f n0 ⟨a5,b2,b3,a,j1,j2,j3,j4⟩
    unfold nM at a
    exact bG (aC ⟨a5,b2,b3,a,j1,j2,j3,j4⟩)
   obtain ⟨n1,j5,a⟩:=aD a
   refine cD j5 (fun (s:(List Int × Int)) f w=>match s with|(k,q)=>∃ (r:Option Addr) (u:Nat),f 2=zP (some ⟨d,0,none⟩)∧f 5=zS r k.length u∧f 6=i64 e∧f 23=zS x g.length y∧f 24=i64 (g.length:Int)∧f 25=i64 q∧aK G K (aN 2 K r u k::box d 29 j::aN 2 K x y g::L) w) ?_ ?_
   ·exact ⟨V,c48,e2,a9,b9,rfl,rfl,rfl,(aK.arr 3 [0,1] j0 rfl)⟩
   ·rintro ⟨k,q⟩ f1 f n2 b j6 ⟨r,u,c4,b4,c6,c7,c9,b5,b6⟩
    replace b:jT g k q=some f1:=b
    unfold jT at b
    refine aM (aF (cG b5 c9) (aI (aQ ?_)))
    rcases aJ b with ⟨d0,b⟩|⟨d0,b⟩
    ·refine aO d0 rfl (aY (aC (aQ (bE (fun f w=>∃ (a6:List Int) (b7:Option Addr) (b8:Nat),nN q a6=some f1∧f 2=zP (some ⟨d,0,none⟩)∧f 5=zS b7 a6.length b8∧f 6=i64 e∧f 23=zS x g.length y∧f 24=i64 (g.length:Int)∧f 25=i64 q∧aK G K (aN 2 K b7 b8 a6::box d 29 j::aN 2 K x y g::L) w) ?_ ?_))))
     ·rintro f n3 ⟨a6,b7,b8,b,j7,j8,j9,k0,k1,k2,k3⟩
      unfold nN at b
      exact aC (aS (aF (cQ k2 rfl) (aP (v:=i64 (wr (q+1))) (aI ⟨(a6,wr (q+1)),(zI b).symm,b7,b8,j7,j8,j9,k0,k1,rfl,k3⟩))))
     refine aM ?_
     obtain ⟨o,d1,b⟩:=aD b
     have k4:=cY b6 (i:=2) rfl d1
     refine aF (dW bY rfl k4 c7 rfl b5 d1) (aF (jL (t:=0) cV b6 (i:=2) rfl d1 rfl rfl rfl) (aH (v:=i64 o) (aI (aM (aT b4 (aP (v:=i64 o) ?_))))))
     obtain ⟨n4,n5,k5,k6,k7⟩:=aK.lendS (i:=0) b6 (zR _) rfl
     obtain ⟨n6,k8,b⟩:=aD b
     refine aU (vs:=[zS r k.length u,i64 o]) Tryz.call183 rfl (lO k6 k5 k8) ?_
     rintro _ n7 ⟨rfl,k9⟩
     have f2:=k7 _ _ k9
     refine aF (fC rfl) (aI ?_)
     rcases aJ b with ⟨d2,b⟩|⟨d2,b⟩
     ·refine aO d2 rfl (aS (aT b4 (aP (v:=i64 o) (cT (Kt:=K) (xs:=([o]:List Int)) (cs:=[i64 o]) (vs:=[(0,i64 o)]) bY lR rfl rfl f2 rfl (by kernel_rfl) rfl rfl rfl ⟨rfl,trivial⟩ (fun l0 l1 (l2:aK G K (aN 2 K l0 1 ([o]:List Int)::aN 2 K r u k::box d 29 j::aN 2 K x y g::L) l1)=>?_)))))
      obtain ⟨d3,l3,b⟩:=aD b
      exact eI (i:=0) bY Tryz.underlying38 lR rfl rfl l2 rfl (zR _) (zR _) l3 rfl rfl rfl rfl (fun _ h=>h) (fun d4 d5 l4 (l5:aK G K (aN 2 K d4 d5 d3::box d 29 j::aN 2 K x y g::L) l4)=>(aH (v:=zS d4 d3.length d5) (bA (bG (aC ⟨d3,d4,d5,b,c4,rfl,c6,c7,c9,b5,l5⟩)))))
     ·exact aL d2 rfl (aY (bG (aC ⟨k,r,u,b,c4,b4,c6,c7,c9,b5,f2⟩)))
    ·refine aL d0 rfl (cB (aV (aV ?_)))
     have l6:=j6 _ (zI b).symm
     subst l6
     have a:(nM e k)=some a8:=a
     exact bJ (aC ⟨k,r,u,a,c4,b4,c6,(aK.arr 3 [0,1] b6 rfl)⟩)
  ·refine aL c0 rfl (cB (aV (aV ?_)))
   have l7:=g7 _ (zI a).symm
   subst l7
   have c:(nL p)=some R:=c
   exact bJ (aC ⟨p,V,c48,c,a9,(aK.arr 2 [0] e3 rfl)⟩)
theorem aBC {a:(List Int)} {R:bB} (c:aK G K (L) w) (d:G.lo=0) (e:dB K a1 c2 a) (b:kZ a=some R):
  Calls Tryz.prog 114 ([zS a1 a.length c2]:List Value).toArray w (iK fun v w'=>v=str R∧aK G K (L) w'):=by
 refine aX Tryz.func114 rfl (by kernel_rfl) (by show (1:Nat)≤5;decide) ?_
 unfold kZ at b
 refine aM (aH (v:=str ([]:bB)) (aI (aM (aP (v:=zS a1 a.length c2) ?_))))
 obtain ⟨g,h,b⟩:=aD b
 refine aU (vs:=[zS a1 a.length c2,str ([44]:bB)]) Tryz.call115 rfl (aEj c d e h) ?_
 rintro _ k ⟨rfl,i⟩
 refine aH (v:=str g) (aI ?_)
 obtain rfl:=zI b
 exact bH (bF Tryz.results114 rfl ⟨rfl,i⟩)
theorem aEB {t:cN} {c:(List Int)} {e:bB} {R:(List Int)} (x:aK G K (L) w) (h:dB K a1 c2 t.L) (j:dB K a4 c5 t.E) (y:dB K a7 c8 c) (a:uP t c e=some R):
  Calls Tryz.prog 117 ([zA (zCa t a1 c2 a4 c5),zS a7 c.length c8,str e]:List Value).toArray w (iK fun v w'=>∃ (k:Option Addr) (l:Nat),v=zS k R.length l∧aK G K (aN 2 K k l R::L) w'):=by
 let g:=(zC t a1 c2 a4 c5)
 refine aX Tryz.func117 rfl (by kernel_rfl) (by show (3:Nat)≤13;decide) ?_
 unfold uP at a
 refine aM (gP (v:=zA (zCa t a1 c2 a4 c5)) (vs:=g) x rfl rfl (fun b5 b6 z=>(aH (v:=zS none 0 0) (aI (aQ ?_)))))
 obtain ⟨J,b,m,n,V⟩:=aK.lendB (i:=0) z rfl
 refine gA (C:=fun w'=>∃ L',aK G J L' w') [(0,0),(1,0),(2,0),(3,0),(4,1),(5,1),(6,0)] bT (by kernel_rfl) (fun _ hg=>⟨_,aK.mono n hg⟩) (fun b7 Z=>?_)
 have d:=aK.mono n Z
 refine bZ rfl (fun _ ⟨_,d⟩=>fZ (t:=0) (vs:=g) dI d m rfl rfl rfl) (bZ rfl (fun _ ⟨_,d⟩=>fZ (t:=0) (vs:=g) dI d m rfl rfl rfl) (bZ rfl (fun _ _=>aZ (v:=zS a7 c.length c8) rfl) (bZ rfl (fun _ _=>aZ (v:=str e) rfl) (kD rfl ?_))))
 obtain ⟨a0,a2,a⟩:=aD a
 refine aU (vs:=[zA (zCa t a1 c2 a4 c5),zS a7 c.length c8,str e]) Tryz.call122 rfl (rF d (h.mono b) (j.mono b) (y.mono b) a2) ?_
 rintro _ b8 ⟨a3,a5,rfl,o⟩
 refine bA (aC ⟨⟨_,o⟩,?_⟩)
 refine kD rfl ?_
 obtain ⟨b9,p,a6,a8,a9⟩:=aK.lendS (i:=0) o b rfl
 obtain ⟨b0,b1,a⟩:=aD a
 refine aU (vs:=[zA (zCa t a1 c2 a4 c5),zS a3 a0.length a5]) Tryz.call113 rfl (aAu a8 (h.mono (zL b p)) (j.mono (zL b p)) a6 b1) ?_
 rintro _ c0 ⟨q,r,rfl,b2⟩
 have u:=a9 _ _ b2
 refine bA (aC ⟨⟨_,u⟩,?_⟩)
 refine bZ rfl (fun _ _=>dH (v:=zS q b0.length r) rfl) (lY ?_)
 have b3:=V _ _ u
 refine aC ?_
 obtain rfl:=zI a
 exact bH (bF Tryz.results117 rfl ⟨q,r,rfl,(aK.arr 2 [] b3 rfl)⟩)
theorem aGx {t:cN} {R:(List iC)} (hs:aK G K (L) w) (h3:dB K a1 c2 t.L) (h6:dB K a4 c5 t.E) (d:yH t=some R):
  Calls Tryz.prog 119 ([zA (zCa t a1 c2 a4 c5)]:List Value).toArray w (iK fun v w'=>∃ (a6:Option Addr) (a7:Nat),v=zS a6 R.length a7∧aK G K (aN 160 K a6 a7 R::L) w'):=by
 let r:=(zC t a1 c2 a4 c5)
 refine aX Tryz.func119 rfl (by kernel_rfl) (by show (1:Nat)≤29;decide) ?_
 unfold yH at d
 refine aM (gP (v:=zA (zCa t a1 c2 a4 c5)) (vs:=r) hs rfl rfl (fun u w8 a8=>(aH (v:=zS none 0 0) (aI (aM (aH (v:=zS none 0 0) (aI (aQ (aM (aF (bL (t':=3) eR rfl rfl) (aF (cC lK a8 (i:=0) rfl rfl rfl) (aF (bN (len:=t.E.length) cK rfl) (aP (v:=i64 0) (aI (bE (fun f w=>∃ (m:List iC) (n:Option Addr) (o:Nat),zD m=some R∧f 3=zS n m.length o∧aK G K (aN 160 K n o m::L) w) ?_ ?_)))))))))))))))
 ·rintro f f0 ⟨m,n,o,d,c0,c1⟩
  unfold zD at d
  refine aC (aM (aT c0 (aH (v:=zS n m.length o) (aI ?_))))
  obtain rfl:=zI d
  exact bH (bF Tryz.results119 rfl ⟨n,o,rfl,c1⟩)
 have c4:=aK.nil (α:=iC) a8 160 K
 obtain ⟨f1,c6,d⟩:=aD d
 refine cD c6 (fun (s:(List iC × Int)) f w=>match s with|(e,p)=>∃ (j:Option Addr) (k:Nat),f 1=zP (some ⟨u,0,none⟩)∧f 3=zS j e.length k∧f 7=zS a4 t.E.length c5∧f 8=i64 (t.E.length:Int)∧f 9=i64 p∧aK G K (aN 160 K j k e::box u 29 r::L) w) ?_ ?_
 ·exact ⟨none,0,rfl,rfl,rfl,rfl,rfl,c4⟩
 ·rintro ⟨e,p⟩ c7 f f2 b c8 ⟨j,k,a9,b0,b1,b2,x,y⟩
  replace b:qY t e p=some c7:=b
  unfold qY at b
  refine aM (aF (cG x b2) (aI (aQ ?_)))
  rcases aJ b with ⟨z,b⟩|⟨z,b⟩
  ·refine aO z rfl (aY (aC (aQ (cW (aM ?_)))))
   obtain ⟨a,b3,b⟩:=aD b
   refine aF (dN cK rfl h6 b1 rfl x b3) ?_
   obtain ⟨f3,c9,d0⟩:=dB.el (sz:=3) rfl h6 b3
   cases d0
   refine aF (fZ (t:=0) (vs:=[i64 a.F,i64 a.B,i64 a.To]) lU y c9 rfl rfl rfl) (bS (vs:=[i64 0,i64 0,i64 0]) Tryz.zeroValue63 y rfl (fun d1 f4 d2=>(bR (i:=0) (ns:=[i64 a.F,i64 a.B,i64 a.To]) (us:=[i64 a.F,i64 a.B,i64 a.To]) Tryz.sizeOf63 d2 rfl rfl rfl rfl rfl (cX rfl) rfl rfl (fun d3 (d4:aK G K (box d1 63 [i64 a.F,i64 a.B,i64 a.To]::aN 160 K j k e::box u 29 r::L) d3)=>(aI ?_)))))
   obtain ⟨f5,q,J,d5,d6⟩:=aK.lendB (i:=0) d4 rfl
   obtain ⟨V,g,d7,b4,d8⟩:=aK.lendB (i:=1) d5 rfl
   refine gA (C:=fun w'=>∃ L',aK G V L' w') [(0,0),(1,0),(2,0),(3,0),(4,0),(5,0),(6,0),(7,0),(8,0),(9,0),(10,0),(11,0),(12,1),(13,1),(14,0)] bT (by kernel_rfl) (fun _ hg=>⟨_,aK.mono b4 hg⟩) (fun f6 d9=>?_)
   have c:=aK.mono b4 d9
   refine bZ rfl (fun _ _=>aZ b0) (bZ rfl (fun _ _=>bL (t':=0) kG rfl rfl) (bZ rfl (fun _ ⟨_,c⟩=>bK (t:=0) cV c (J.mono g) rfl rfl) (bZ rfl (fun _ _=>bL (t':=2) eG a9 rfl) (bZ rfl (fun _ ⟨_,c⟩=>bK (t:=2) iT c d7 rfl rfl) (bZ rfl (fun _ _=>bL (t':=1) iF rfl rfl) (bZ rfl (fun _ ⟨_,c⟩=>bK (t:=1) cV c (J.mono g) rfl rfl) ?_))))))
   obtain ⟨l,b5,b⟩:=aD b
   refine bZ rfl (fun _ _=>dN cF rfl (h3.mono (zL q g)) rfl rfl rfl b5) ?_
   obtain ⟨f7,e0,e1⟩:=dB.el (sz:=1) rfl h3 b5
   cases e1
   refine bZ rfl (fun _ ⟨_,c⟩=>bK (t:=0) mV c (e0.mono (zL q g)) rfl rfl) (bZ rfl (fun _ _=>bL (t':=2) gX rfl rfl) (bZ rfl (fun _ ⟨_,c⟩=>bK (t:=2) cV c (J.mono g) rfl rfl) (bZ rfl (fun _ _=>fD (vs:=[(0,i64 a.F),(1,str l),(2,i64 a.To)]) (cs:=[i64 a.F,str l,i64 a.To]) aFD rfl (by kernel_rfl)) (kD rfl (cT (Kt:=K) (xs:=([⟨a.F,l,a.To⟩]:List iC)) (cs:=[i64 a.F,str l,i64 a.To]) (vs:=[(0,zA #[i64 a.F,str l,i64 a.To])]) oQ tM rfl rfl c rfl (by kernel_rfl) rfl rfl rfl ⟨rfl,trivial⟩ (fun e2 e3 (b6:aK G V (aN 160 K e2 1 ([⟨a.F,l,a.To⟩]:List iC)::aN 160 K j k e::L) e3)=>(bA (aC ⟨⟨_,b6⟩,?_⟩))))))))
   refine kD rfl ?_
   obtain ⟨Z,e4,b⟩:=aD b
   refine eI (i:=0) oQ Tryz.underlying145 tM rfl rfl b6 rfl (zL q g) (zL q g) e4 rfl rfl rfl rfl (fun _ h=>h) (fun a0 a2 e5 (b8:aK G V (aN 160 K a0 a2 Z::L) e5)=>(bA (aC ⟨⟨_,b8⟩,?_⟩)))
   refine bZ rfl (fun _ _=>dH (v:=zS a0 Z.length a2) rfl) (lY ?_)
   have e6:=d8 _ _ b8
   have e7:=d6 _ _ e6
   exact bG (aC (aS (aF (cQ x rfl) (aP (v:=i64 (wr (p+1))) (aI ⟨(Z,wr (p+1)),(zI b).symm,a0,a2,a9,rfl,b1,b2,rfl,(aK.arr 3 [2,1] e7 rfl)⟩)))))
  ·refine aL z rfl (cB (aV (aV ?_)))
   have e8:=c8 _ (zI b).symm
   subst e8
   have d:(zD e)=some R:=d
   exact bJ (aC ⟨e,j,k,d,b0,(aK.arr 2 [0] y rfl)⟩)
theorem kA {c:(List (List Int))} {g:(List (bB × Int))} {b:Nat} {j:(List iC)} {d:(List Int)} {R:(Int × (List (List Int)) × (List (bB × Int)))} (Z:aK G K (aN 38 Kf a2 c3 c::iD b g::aN 160 K a5 c6 j::box b1 210 [zS a2 c.length c3,zM (some b),zS a5 j.length c6,Value.func (.func 114) #[] #[]]::L) w) (hG:G.lo=0) (a8:Hp.le Kf K) (h9:dB Kf a7 c8 d) (a:eW c g j d=some R):
  Calls Tryz.prog 180 ([zP (some ⟨b1,0,none⟩),zS a7 d.length c8]:List Value).toArray w (iK fun v w'=>∃ (a1:Option Addr) (a3:Nat),v=i64 R.1∧aK G K (aN 38 Kf a1 a3 R.2.1::iD b R.2.2::aN 160 K a5 c6 j::box b1 210 [zS a1 R.2.1.length a3,zM (some b),zS a5 j.length c6,Value.func (.func 114) #[] #[]]::L) w'):=by
 let y:=[zS a2 c.length c3,zM (some b),zS a5 j.length c6,Value.func (.func 114) #[] #[]]
 let p:=aN 160 K a5 c6 j
 refine aX Tryz.func180 rfl (by kernel_rfl) (by show (2:Nat)≤47;decide) ?_
 unfold eW at a
 refine aM (aH (v:=i64 0) (aI (aM (aP (v:=zP (some ⟨b1,0,none⟩)) (aF (iM rfl) (aF (bL (t':=3) fa_210_3 rfl rfl) (aF (cC sc_140 Z (i:=3) rfl rfl rfl) (aP (v:=zS a7 d.length c8) ?_))))))))
 obtain ⟨e,a9,a⟩:=aD a
 refine oP (vs:=[zS a7 d.length c8]) (caps:=[]) (us:=[zS a7 d.length c8]) rfl Tryz.call114 rfl rfl (aBC Z hG (h9.mono a8) a9) ?_
 rintro _ c5 ⟨rfl,l⟩
 refine aH (v:=str e) (aI (aM (aP (v:=zP (some ⟨b1,0,none⟩)) (aF (iM rfl) (aF (bL (t':=1) aKJ rfl rfl) (aF (cC aJE l (i:=3) rfl rfl rfl) (aP (v:=str e) (aF (aJB (kv:=g) (k:=e) (z:=(0:Int)) Tryz.runUnderlying208 ko_9 Tryz.zeroValue2 l (i:=1) rfl rfl rfl) (aP (v:=zT #[i64 ((fS g e).getD 0),zB ((fS g e).isSome)]) (aF (bM rfl rfl) (aF (bM rfl rfl) (aH (v:=i64 ((fS g e).getD 0)) (aH (v:=zB ((fS g e).isSome)) (aI (aAo (fun f w=>∃ (r:Int) (t:List (List Int)) (J:(List (bB × Int))) (u:Option Addr) (x:Nat),iR r t J=some R∧f 6=i64 r∧aK G K (aN 38 Kf u x t::iD b J::p::box b1 210 [zS u t.length x,zM (some b),zS a5 j.length c6,Value.func (.func 114) #[] #[]]::L) w) ?_ ?_)))))))))))))))
 ·rintro f c7 ⟨r,t,J,u,x,a,b0,b2⟩
  unfold iR at a
  refine aM (aT b0 (aH (v:=i64 r) (aI ?_)))
  obtain rfl:=zI a
  exact bH (bF Tryz.results180 rfl ⟨u,x,rfl,b2⟩)
 refine aM (aP (v:=zB ((fS g e).isSome)) (aF (fC rfl) (aI ?_)))
 rcases aJ a with ⟨V,a⟩|⟨V,a⟩
 ·refine aO V rfl (aM (aP (v:=zP (some ⟨b1,0,none⟩)) (aF (iM rfl) (aF (bL (t':=0) zO rfl rfl) (aF (cC aHd l (i:=3) rfl rfl rfl) (aF (bN (len:=c.length) rC rfl) (aH (v:=i64 (c.length:Int)) (aI (aM (aP (v:=zP (some ⟨b1,0,none⟩)) (aF (iM rfl) (aF (bL (t':=1) aKJ rfl rfl) (aF (cC aJE l (i:=3) rfl rfl rfl) (aP (v:=str e) (aP (v:=i64 (c.length:Int)) ?_)))))))))))))))
  obtain ⟨q,b4,a⟩:=aD a
  refine aCg (i:=1) (k:=e) (v:=(c.length:Int)) Tryz.runUnderlying208 ko_9 l rfl rfl rfl rfl b4 (fun b5 (a4:aK G K (aN 38 Kf a2 c3 c::iD b q::p::box b1 210 y::L) b5)=>(aI (aS (aP (v:=zP (some ⟨b1,0,none⟩)) (aP (v:=zP (some ⟨b1,0,none⟩)) (aF (iM rfl) (aF (bL (t':=0) zO rfl rfl) (aF (cC aHd a4 (i:=3) rfl rfl rfl) (aP (v:=zS a7 d.length c8) (cT (Kt:=Kf) (xs:=([d]:List (List Int))) (cs:=[zS a7 d.length c8]) (vs:=[(0,zS a7 d.length c8)]) rC aHa rfl rfl a4 rfl (by kernel_rfl) rfl rfl rfl ⟨⟨a7,c8,rfl,h9⟩,trivial⟩ (fun b6 b7 (b8:aK G K (aN 38 Kf b6 1 ([d]:List (List Int))::aN 38 Kf a2 c3 c::iD b q::p::box b1 210 y::L) b7)=>?_)))))))))))
  obtain ⟨m,b9,a⟩:=aD a
  exact WO_appO (i:=0) Kf rC Tryz.underlying74 aHa rfl rfl b8 rfl (zR _) (zR _) b9 rfl rfl rfl rfl (fun _ _ _ h=>El.one h) (fun n o c0 (c1:aK G K (aN 38 Kf n o m::iD b q::p::box b1 210 y::L) c0)=>(aF (iM rfl) (aF (bL (t':=0) zO rfl rfl) (bR (i:=3) (ns:=[zS n m.length o]) (us:=[zS n m.length o,zM (some b),zS a5 j.length c6,Value.func (.func 114) #[] #[]]) Tryz.sizeOf74 c1 rfl rfl rfl rfl rfl (cX rfl) rfl rfl (fun c2 (c4:aK G K (aN 38 Kf n o m::iD b q::p::box b1 210 [zS n m.length o,zM (some b),zS a5 j.length c6,Value.func (.func 114) #[] #[]]::L) c2)=>(aI ⟨(c.length:Int),m,q,n,o,a,rfl,c4⟩))))))
 ·exact aL V rfl (aY (aC ⟨((fS g e).getD 0),c,g,a2,c3,a,rfl,l⟩))
theorem aAL {d:bB} {a3:(List Int)} {b8:(List (List Int))} {c4:(List (bB × Int))} {b:Nat} {m:(List iC)} {p:Int} {c5:Nat} {R:((List (List Int)) × (List (bB × Int)) × (List iC))} (hs:aK G K (aN 38 Kf a6 c7 b8::iD b c4::aN 160 K a9 c10 m::box b5 210 [zS a6 b8.length c7,zM (some b),zS a9 m.length c10,Value.func (.func 114) #[] #[]]::box b4 207 [zP (some ⟨b5,0,none⟩)]::L) w) (hG:G.lo=0) (c8:Hp.le Kf K) (h3:dB Kf a1 c2 a3) (e1:kR K a11 c5 [i64 p]) (g:jU d a3 b8 c4 m p=some R):
  Calls Tryz.prog 181 ([str d,zS a1 a3.length c2,zP (some ⟨b4,0,none⟩),dC a11 c5]:List Value).toArray w (iK fun v w'=>∃ (d0:Option Addr) (d1:Nat) (d2:Option Addr) (d3:Nat),v=zT #[]∧aK G K (aN 38 Kf d0 d1 R.1::iD b R.2.1::aN 160 K d2 d3 R.2.2::box b5 210 [zS d0 R.1.length d1,zM (some b),zS d2 R.2.2.length d3,Value.func (.func 114) #[] #[]]::box b4 207 [zP (some ⟨b5,0,none⟩)]::L) w'):=by
 let d4:=[zP (some ⟨b5,0,none⟩),zS a1 a3.length c2]
 refine aX Tryz.func181 rfl (by kernel_rfl) (by show (4:Nat)≤21;decide) ?_
 unfold jU at g
 refine dF (fun f w=>∃ (a4:List (List Int)) (b9:(List (bB × Int))) (a5:List iC) (a7:Option Addr) (a8:Nat) (b0:Option Addr) (b1:Nat),kH a4 b9 a5=some R∧aK G K (aN 160 K b0 b1 a5::aN 38 Kf a7 a8 a4::iD b b9::box b5 210 [zS a7 a4.length a8,zM (some b),zS b0 a5.length b1,Value.func (.func 114) #[] #[]]::box b4 207 [zP (some ⟨b5,0,none⟩)]::L) w) ?_ ?_
 ·rintro f g6 ⟨a4,b9,a5,a7,a8,b0,b1,g,e2⟩
  unfold kH at g
  obtain rfl:=zI g
  exact aEO Tryz.results181 ⟨a7,a8,b0,b1,rfl,(aK.arr 3 [1,2,0] e2 rfl)⟩
 obtain ⟨n,o,c0,e4,c1⟩:=aK.lendB (i:=4) hs rfl
 refine sM (C:=fun w'=>∃ L',aK G n L' w') [] bT (by kernel_rfl) (fun g7 e5=>?_)
 have c:=aK.mono e4 e5
 refine dP (i:=0) rfl (by kernel_rfl) ⟨_,c⟩ (fun _ ⟨_,c⟩=>bK (t:=0) aBa c c0 rfl rfl) (dP (i:=1) rfl (by kernel_rfl) ⟨_,c⟩ (fun _ ⟨_,c⟩=>bK (t:=0) aBa c c0 rfl rfl) (dP (i:=2) rfl (by kernel_rfl) ⟨_,c⟩ (fun _ _=>iM rfl) (dP (i:=3) rfl (by kernel_rfl) ⟨_,c⟩ (fun _ _=>bL (t':=2) aCh rfl rfl) (dP (i:=5) rfl (by kernel_rfl) ⟨_,c⟩ (fun _ ⟨_,c⟩=>bK (t:=0) sc_3 c (e1.mono o) rfl rfl) (dP (i:=6) rfl (by kernel_rfl) ⟨_,c⟩ (fun _ _=>aZ (v:=str d) rfl) (dP (i:=7) rfl (by kernel_rfl) ⟨_,c⟩ (fun _ ⟨_,c⟩=>bK (t:=0) aBa c c0 rfl rfl) (dP (i:=8) rfl (by kernel_rfl) ⟨_,c⟩ (fun _ _=>aZ (v:=zS a1 a3.length c2) rfl) (oJ (i:=4) (j:=9) (by kernel_rfl) rfl rfl ?_ ?_))))))))
 ·refine aF (cC aBX c (i:=3) rfl rfl rfl) (bA (aC ⟨fun _=>⟨_,c⟩,?_⟩))
  refine cL (i:=9) (by kernel_rfl) rfl ?_
  obtain ⟨e,e6,g⟩:=aD g
  refine aU (vs:=d4) Tryz.call180 rfl (kA (Kf:=Kf) c hG (zL c8 o) h3 e6) ?_
  rintro _ g8 ⟨q,r,rfl,c3⟩
  refine bA (aC ⟨fun _=>⟨_,c3⟩,?_⟩)
  refine dP (i:=10) rfl (by kernel_rfl) ⟨_,c3⟩ (fun _ _=>fD (vs:=[(0,i64 p),(1,str d),(2,i64 e.1)]) (cs:=[i64 p,str d,i64 e.1]) aFD rfl (by kernel_rfl)) (cL (i:=11) (by kernel_rfl) rfl (cT (Kt:=K) (xs:=([⟨p,d,e.1⟩]:List iC)) (cs:=[i64 p,str d,i64 e.1]) (vs:=[(0,zA #[i64 p,str d,i64 e.1])]) oQ tM rfl rfl c3 rfl (by kernel_rfl) rfl rfl rfl ⟨rfl,trivial⟩ (fun e7 e8 (d5:aK G n (aN 160 K e7 1 ([⟨p,d,e.1⟩]:List iC)::aN 38 Kf q r e.2.1::iD b e.2.2::aN 160 K a9 c10 m::box b5 210 [zS q e.2.1.length r,zM (some b),zS a9 m.length c10,Value.func (.func 114) #[] #[]]::L) e8)=>(bA (aC ⟨fun _=>⟨_,d5⟩,?_⟩)))))
  refine cL (i:=12) (by kernel_rfl) rfl ?_
  obtain ⟨u,e9,g⟩:=aD g
  refine eI (i:=2) oQ Tryz.underlying145 tM rfl rfl d5 rfl o o e9 rfl rfl rfl rfl (fun _ h=>h) (fun x c45 f0 (b2:aK G n (aN 38 Kf q r e.2.1::iD b e.2.2::aN 160 K x c45 u::box b5 210 [zS q e.2.1.length r,zM (some b),zS a9 m.length c10,Value.func (.func 114) #[] #[]]::L) f0)=>(bA (aC ⟨fun _=>⟨_,b2⟩,?_⟩)))
  refine dP (i:=13) rfl (by kernel_rfl) ⟨_,b2⟩ (fun _ _=>iM rfl) (dP (i:=14) rfl (by kernel_rfl) ⟨_,b2⟩ (fun _ _=>bL (t':=2) aCh rfl rfl) (cL (i:=15) (by kernel_rfl) rfl (bR (i:=3) (ns:=[zS x u.length c45]) (us:=[zS q e.2.1.length r,zM (some b),zS x u.length c45,Value.func (.func 114) #[] #[]]) Tryz.sizeOf145 b2 rfl rfl rfl rfl rfl (cX rfl) rfl rfl (fun f1 (d6:aK G n (aN 38 Kf q r e.2.1::iD b e.2.2::aN 160 K x c45 u::box b5 210 [zS q e.2.1.length r,zM (some b),zS x u.length c45,Value.func (.func 114) #[] #[]]::L) f1)=>(bA (aC ⟨fun _=>⟨_,d6⟩,?_⟩))))))
  refine iY (by kernel_rfl) ?_
  have f2:=c1 _ _ d6
  exact aC ⟨e.2.1,e.2.2,u,q,r,x,c45,g,(aK.arr 5 [3,1,2,4,0] f2 rfl)⟩
 ·obtain ⟨a,f3,g⟩:=aD g
  refine aU (vs:=d4) Tryz.call180 rfl (kA (Kf:=Kf) c hG (zL c8 o) h3 f3) ?_
  rintro _ g9 ⟨k,l,rfl,y⟩
  refine bA (aC ⟨fun _=>⟨_,y⟩,?_⟩)
  refine dP (i:=10) rfl (by kernel_rfl) ⟨_,y⟩ (fun _ _=>fD (vs:=[(0,i64 p),(1,str d),(2,i64 a.1)]) (cs:=[i64 p,str d,i64 a.1]) aFD rfl (by kernel_rfl)) (oJ (i:=4) (j:=11) (by kernel_rfl) rfl rfl ?_ ?_)
  ·refine aF (cC aBX y (i:=3) rfl rfl rfl) (bA (aC ⟨fun _=>⟨_,y⟩,?_⟩))
   refine cL (i:=11) (by kernel_rfl) rfl (cT (Kt:=K) (xs:=([⟨p,d,a.1⟩]:List iC)) (cs:=[i64 p,str d,i64 a.1]) (vs:=[(0,zA #[i64 p,str d,i64 a.1])]) oQ tM rfl rfl y rfl (by kernel_rfl) rfl rfl rfl ⟨rfl,trivial⟩ (fun f4 f5 (d7:aK G n (aN 160 K f4 1 ([⟨p,d,a.1⟩]:List iC)::aN 38 Kf k l a.2.1::iD b a.2.2::aN 160 K a9 c10 m::box b5 210 [zS k a.2.1.length l,zM (some b),zS a9 m.length c10,Value.func (.func 114) #[] #[]]::L) f5)=>(bA (aC ⟨fun _=>⟨_,d7⟩,?_⟩))))
   refine cL (i:=12) (by kernel_rfl) rfl ?_
   obtain ⟨z,f6,g⟩:=aD g
   refine eI (i:=2) oQ Tryz.underlying145 tM rfl rfl d7 rfl o o f6 rfl rfl rfl rfl (fun _ h=>h) (fun J V f7 (b3:aK G n (aN 38 Kf k l a.2.1::iD b a.2.2::aN 160 K J V z::box b5 210 [zS k a.2.1.length l,zM (some b),zS a9 m.length c10,Value.func (.func 114) #[] #[]]::L) f7)=>(bA (aC ⟨fun _=>⟨_,b3⟩,?_⟩)))
   refine dP (i:=13) rfl (by kernel_rfl) ⟨_,b3⟩ (fun _ _=>iM rfl) (dP (i:=14) rfl (by kernel_rfl) ⟨_,b3⟩ (fun _ _=>bL (t':=2) aCh rfl rfl) (cL (i:=15) (by kernel_rfl) rfl (bR (i:=3) (ns:=[zS J z.length V]) (us:=[zS k a.2.1.length l,zM (some b),zS J z.length V,Value.func (.func 114) #[] #[]]) Tryz.sizeOf145 b3 rfl rfl rfl rfl rfl (cX rfl) rfl rfl (fun f8 (d8:aK G n (aN 38 Kf k l a.2.1::iD b a.2.2::aN 160 K J V z::box b5 210 [zS k a.2.1.length l,zM (some b),zS J z.length V,Value.func (.func 114) #[] #[]]::L) f8)=>(bA (aC ⟨fun _=>⟨_,d8⟩,?_⟩))))))
   refine iY (by kernel_rfl) ?_
   have f9:=c1 _ _ d8
   exact aC ⟨a.2.1,a.2.2,z,k,l,J,V,g,(aK.arr 5 [3,1,2,4,0] f9 rfl)⟩
  ·refine cT (Kt:=K) (xs:=([⟨p,d,a.1⟩]:List iC)) (cs:=[i64 p,str d,i64 a.1]) (vs:=[(0,zA #[i64 p,str d,i64 a.1])]) oQ tM rfl rfl y rfl (by kernel_rfl) rfl rfl rfl ⟨rfl,trivial⟩ (fun g0 g1 (b6:aK G n (aN 160 K g0 1 ([⟨p,d,a.1⟩]:List iC)::aN 38 Kf k l a.2.1::iD b a.2.2::aN 160 K a9 c10 m::box b5 210 [zS k a.2.1.length l,zM (some b),zS a9 m.length c10,Value.func (.func 114) #[] #[]]::L) g1)=>(bA (aC ⟨fun _=>⟨_,b6⟩,?_⟩)))
   refine cL (i:=4) (by kernel_rfl) rfl (aF (cC aBX b6 (i:=4) rfl rfl rfl) (bA (aC ⟨fun _=>⟨_,b6⟩,?_⟩)))
   refine cL (i:=12) (by kernel_rfl) rfl ?_
   obtain ⟨Z,g2,g⟩:=aD g
   refine eI (i:=2) oQ Tryz.underlying145 tM rfl rfl b6 rfl o o g2 rfl rfl rfl rfl (fun _ h=>h) (fun a0 a2 g3 (b7:aK G n (aN 38 Kf k l a.2.1::iD b a.2.2::aN 160 K a0 a2 Z::box b5 210 [zS k a.2.1.length l,zM (some b),zS a9 m.length c10,Value.func (.func 114) #[] #[]]::L) g3)=>(bA (aC ⟨fun _=>⟨_,b7⟩,?_⟩)))
   refine dP (i:=13) rfl (by kernel_rfl) ⟨_,b7⟩ (fun _ _=>iM rfl) (dP (i:=14) rfl (by kernel_rfl) ⟨_,b7⟩ (fun _ _=>bL (t':=2) aCh rfl rfl) (cL (i:=15) (by kernel_rfl) rfl (bR (i:=3) (ns:=[zS a0 Z.length a2]) (us:=[zS k a.2.1.length l,zM (some b),zS a0 Z.length a2,Value.func (.func 114) #[] #[]]) Tryz.sizeOf145 b7 rfl rfl rfl rfl rfl (cX rfl) rfl rfl (fun g4 (d9:aK G n (aN 38 Kf k l a.2.1::iD b a.2.2::aN 160 K a0 a2 Z::box b5 210 [zS k a.2.1.length l,zM (some b),zS a0 Z.length a2,Value.func (.func 114) #[] #[]]::L) g4)=>(bA (aC ⟨fun _=>⟨_,d9⟩,?_⟩))))))
   refine iY (by kernel_rfl) ?_
   have g5:=c1 _ _ d9
   exact aC ⟨a.2.1,a.2.2,Z,k,l,a0,a2,g,(aK.arr 5 [3,1,2,4,0] g5 rfl)⟩
theorem aBD {q:(List Int)} {V:(List (List Int))} {c8:(List (bB × Int))} {b:Nat} {Z:(List iC)} {c9:Int} {u:Nat} {p:cN} {a0:Nat} {R:(Bool × (List (List Int)) × (List (bB × Int)) × (List iC))} (hs:aK G K (aN 38 Kf a6 c7 V::iD b c8::aN 160 K a9 c10 Z::box b5 210 [zS a6 V.length c7,zM (some b),zS a9 Z.length c10,Value.func (.func 114) #[] #[]]::box b4 207 [zP (some ⟨b5,0,none⟩)]::L) w) (hG:G.lo=0) (f9:Hp.le Kf K) (h3:dB K a1 c2 q) (g1:kR K a11 u [i64 c9]) (d0:kR K a14 a0 (zC p a17 c18 a20 c21)) (d1:dB K a17 c18 p.L) (g2:dB K a20 c21 p.E) (c:lA q V c8 Z c9 p=some R):
  Calls Tryz.prog 116 ([zS a1 q.length c2,Value.func (.func 181) #[] #[zP (some ⟨b4,0,none⟩),dC a11 u],dC a14 a0]:List Value).toArray w (iK fun v w'=>∃ (K':Hp) (e5:Option Addr) (e6:Nat) (e7:Option Addr) (e8:Nat),v=zB R.1∧Hp.le K K'∧aK G K' (aN 38 K' e5 e6 R.2.1::iD b R.2.2.1::aN 160 K e7 e8 R.2.2.2::box b5 210 [zS e5 R.2.1.length e6,zM (some b),zS e7 R.2.2.2.length e8,Value.func (.func 114) #[] #[]]::box b4 207 [zP (some ⟨b5,0,none⟩)]::L) w'):=by
 let x:=[zP (some ⟨b5,0,none⟩)]
 refine aX Tryz.func116 rfl (by kernel_rfl) (by show (3:Nat)≤29;decide) ?_
 unfold lA at c
 refine aM (aH (v:=zB false) (aI (aQ (aM (aF (cR (k':=a0+2) eG rfl d0 rfl) (aF (bK (t:=2) iT hs d0 rfl rfl) ?_))))))
 obtain ⟨y,e9,c⟩:=aD c
 obtain ⟨f0,f1,f2⟩:=Cut.ex 1 a17 c18 1
 have f3:=dB.cut' d1 e9 f2
 refine aF (aDs cF d1.room f2 rfl rfl rfl e9) (aF (bN (len:=y.length) cF rfl) (aP (v:=i64 0) (aI (bE (fun f w=>∃ (a2:Hp) (b1:List (List Int)) (d3:(List (bB × Int))) (b2:List iC) (b3:Option Addr) (b6:Nat) (b7:Option Addr) (b8:Nat),Hp.le K a2∧jM b1 d3 b2=some R∧aK G a2 (aN 160 K b7 b8 b2::aN 38 a2 b3 b6 b1::iD b d3::box b5 210 [zS b3 b1.length b6,zM (some b),zS b7 b2.length b8,Value.func (.func 114) #[] #[]]::box b4 207 x::L) w) ?_ ?_))))
 ·rintro f j0 ⟨a2,b1,d3,b2,b3,b6,b7,b8,g3,c,g4⟩
  unfold jM at c
  refine aC (aM (aH (v:=zB true) (aI ?_)))
  obtain rfl:=zI c
  exact bH (bF Tryz.results116 rfl ⟨a2,b3,b6,b7,b8,rfl,g3,(aK.arr 3 [1,2,0] g4 rfl)⟩)
 have g6:aK G K (aN 38 K a6 c7 V::iD b c8::aN 160 K a9 c10 Z::box b5 210 [zS a6 V.length c7,zM (some b),zS a9 Z.length c10,Value.func (.func 114) #[] #[]]::box b4 207 x::L) w:=aK.weak (i:=0) hs rfl (fun _ h=>aN.mono f9 h)
 obtain ⟨j1,g7,c⟩:=aD c
 refine cD g7 (fun (s:(List (List Int) × (List (bB × Int)) × List iC × Int)) f w=>match s with|(d,n,e,r)=>∃ (o:Hp) (j:Option Addr) (k:Nat) (l:Option Addr) (m:Nat),Hp.le K o∧f 0=zS a1 q.length c2∧f 1=Value.func (.func 181) #[] #[zP (some ⟨b4,0,none⟩),dC a11 u]∧f 2=dC a14 a0∧f 11=zS f0 y.length f1∧f 12=i64 (y.length:Int)∧f 13=i64 r∧aK G o (aN 38 o j k d::iD b n::aN 160 K l m e::box b5 210 [zS j d.length k,zM (some b),zS l e.length m,Value.func (.func 114) #[] #[]]::box b4 207 x::L) w) ?_ ?_
 ·exact ⟨K,a6,c7,a9,c10,(zR _),rfl,rfl,rfl,rfl,rfl,rfl,g6⟩
 ·rintro ⟨d,n,e,r⟩ f4 f j2 a g8 ⟨o,j,k,l,m,g,d4,d5,d6,d7,d8,b9,c0⟩
  replace a:gC q c9 p y d n e r=some f4:=a
  unfold gC at a
  refine aM (aF (cG b9 d8) (aI (aQ ?_)))
  rcases aJ a with ⟨d9,a⟩|⟨d9,a⟩
  ·refine aO d9 rfl (aY (aC (aQ (bE (fun f w=>∃ (a3:Hp) (a4:List (List Int)) (c1:(List (bB × Int))) (a5:List iC) (c3:Option Addr) (c4:Nat) (c5:Option Addr) (c6:Nat),Hp.le o a3∧iE r a4 c1 a5=some f4∧f 0=zS a1 q.length c2∧f 1=Value.func (.func 181) #[] #[zP (some ⟨b4,0,none⟩),dC a11 u]∧f 2=dC a14 a0∧f 11=zS f0 y.length f1∧f 12=i64 (y.length:Int)∧f 13=i64 r∧aK G a3 (aN 160 K c5 c6 a5::aN 38 a3 c3 c4 a4::iD b c1::box b5 210 [zS c3 a4.length c4,zM (some b),zS c5 a5.length c6,Value.func (.func 114) #[] #[]]::box b4 207 x::L) w) ?_ ?_))))
   ·rintro f j3 ⟨a3,a4,c1,a5,c3,c4,c5,c6,g9,a,h0,h1,h2,h4,h5,h6,h7⟩
    unfold iE at a
    exact aC (aS (aF (cQ h6 rfl) (aP (v:=i64 (wr (r+1))) (aI ⟨(a4,c1,a5,wr (r+1)),(zI a).symm,a3,c3,c4,c5,c6,(zL g g9),h0,h1,h2,h4,h5,rfl,(aK.arr 3 [1,2,0] h7 rfl)⟩))))
   refine aM ?_
   obtain ⟨z,f5,a⟩:=aD a
   refine aF (dN cF rfl (f3.mono g) d7 rfl b9 f5) ?_
   obtain ⟨j4,h8,h9⟩:=dB.el (sz:=1) rfl f3 f5
   cases h9
   refine aF (bK (t:=0) mV c0 (h8.mono g) rfl rfl) (aH (v:=str z) (aI (aM (aF (fZ (t:=0) (vs:=(zC p a17 c18 a20 c21)) dI c0 (d0.mono g) d6 rfl rfl) (aT d4 (aP (v:=str z) ?_))))))
   obtain ⟨J,i0,a⟩:=aD a
   refine aU (vs:=[zA (zCa p a17 c18 a20 c21),zS a1 q.length c2,str z]) Tryz.call117 rfl (aEB c0 (d1.mono g) (g2.mono g) (h3.mono g) i0) ?_
   rintro _ f6 ⟨a7,a8,rfl,f7⟩
   refine aH (v:=zS a7 J.length a8) (aI (aM (aP (v:=zS a7 J.length a8) (aF (bN (len:=J.length) bY rfl) (aF (oM rfl rfl) (aI ?_))))))
   rcases aJ a with ⟨e0,a⟩|⟨e0,a⟩
   ·refine aO e0 rfl (aS (aT d5 (aP (v:=str z) (aP (v:=zS a7 J.length a8) ?_))))
    obtain ⟨b0,e1,i1,e2⟩:=aK.giveS (i:=0) f7 g rfl
    replace e2:aK G b0 (aN 38 o j k d::iD b n::aN 160 K l m e::box b5 210 [zS j d.length k,zM (some b),zS l e.length m,Value.func (.func 114) #[] #[]]::box b4 207 x::L) f6:=e2
    have i2:aK G b0 (aN 38 b0 j k d::iD b n::aN 160 K l m e::box b5 210 [zS j d.length k,zM (some b),zS l e.length m,Value.func (.func 114) #[] #[]]::box b4 207 x::L) f6:=aK.weak (i:=0) e2 rfl (fun _ h=>aN.mono e1 h)
    obtain ⟨e3,i3,a⟩:=aD a
    refine oP (vs:=[str z,zS a7 J.length a8]) (caps:=[zP (some ⟨b4,0,none⟩),dC a11 u]) (us:=[str z,zS a7 J.length a8,zP (some ⟨b4,0,none⟩),dC a11 u]) rfl Tryz.call181 rfl rfl (aAL (Kf:=b0) i2 hG (zR _) i1 (g1.mono (zL g e1)) i3) ?_
    rintro _ j5 ⟨i4,i5,i6,i7,rfl,i8⟩
    exact bA (bG (aC ⟨b0,e3.1,e3.2.1,e3.2.2,i4,i5,i6,i7,e1,a,d4,d5,d6,d7,d8,b9,(aK.arr 3 [2,0,1] i8 rfl)⟩))
   ·exact aL e0 rfl (aY (bG (aC ⟨o,d,n,e,j,k,l,m,(zR _),a,d4,d5,d6,d7,d8,b9,(aK.arr 4 [3,1,2] f7 rfl)⟩)))
  ·refine aL d9 rfl (cB (aV (aV ?_)))
   have i9:=g8 _ (zI a).symm
   subst i9
   have c:(jM d n e)=some R:=c
   exact bJ (aC ⟨o,d,n,e,j,k,l,m,g,c,(aK.arr 3 [2,0,1] c0 rfl)⟩)
theorem aCa {e2:(List Int)} {d0:cN} {k5:Nat} {R:(cN × (List (List Int)) × Bool)} (hs:aK G K (L) w) (hG:G.lo=0) (h3:dB K a1 c2 e2) (h6:kR K a4 k5 (zC d0 a7 c8 a10 c11)) (h9:dB K a7 c8 d0.L) (n4:dB K a10 c11 d0.E) (c:lV e2 d0=some R):
  Calls Tryz.prog 112 ([zS a1 e2.length c2,Value.func (.func 114) #[] #[],Value.func (.func 116) #[] #[dC a4 k5]]:List Value).toArray w (iK fun v w'=>∃ (K':Hp) (j1:Option Addr) (j2:Nat) (j3:Option Addr) (j4:Nat) (j5:Option Addr) (j6:Nat),v=zT #[zA (zCa R.1 j1 j2 j3 j4),zS j5 R.2.1.length j6,zB R.2.2]∧Hp.le K K'∧aK G K' (aN 9 K j1 j2 R.1.L::aN 63 K j3 j4 R.1.E::aN 38 K' j5 j6 R.2.1::L) w'):=by
 let k:=zG
 refine aX Tryz.func112 rfl (by kernel_rfl) (by show (3:Nat)≤73;decide) ?_
 unfold lV at c
 refine aM (bS (vs:=k) Tryz.zeroValue29 hs rfl (fun m z9 n5=>(aH (v:=zS none 0 0) (aH (v:=zB false) (aI (aM (aES bB Int n5 ?_)))))))
 intro a n6 (n7:aK G K (iD a ([]:(List (bB × Int)))::box m 29 k::L) n6)
 refine aP (v:=Value.func (.func 114) #[] #[]) (aF (fD (vs:=[(1,zM (some a)),(3,Value.func (.func 114) #[] #[])]) (cs:=[zS none 0 0,zM (some a),zS none 0 0,Value.func (.func 114) #[] #[]]) bs_210 rfl (by kernel_rfl)) (gP (v:=zA #[zS none 0 0,zM (some a),zS none 0 0,Value.func (.func 114) #[] #[]]) (vs:=[zS none 0 0,zM (some a),zS none 0 0,Value.func (.func 114) #[] #[]]) n7 rfl rfl (fun b w20 n8=>(bS (vs:=[zP none]) Tryz.zeroValue207 n8 rfl (fun l w23 n9=>(bR (i:=0) (ns:=[zP (some ⟨b,0,none⟩)]) (us:=[zP (some ⟨b,0,none⟩)]) Tryz.sizeOf207 n9 rfl rfl rfl rfl rfl (cX rfl) rfl rfl ?_))))))
 intro j7 (j8:aK G K (box l 207 [zP (some ⟨b,0,none⟩)]::box b 210 [zS none 0 0,zM (some a),zS none 0 0,Value.func (.func 114) #[] #[]]::iD a ([]:(List (bB × Int)))::box m 29 k::L) j7)
 refine aI (aM (aF (cC aBa j8 (i:=0) rfl rfl rfl) (aP (v:=zS a1 e2.length c2) ?_)))
 have o0:=aK.nil (α:=(List Int)) j8 38 K
 have o1:=aK.nil (α:=iC) o0 160 K
 have o2:aK G K (aN 38 K none 0 ([]:List (List Int))::iD a ([]:(List (bB × Int)))::aN 160 K none 0 ([]:List iC)::box b 210 [zS none 0 0,zM (some a),zS none 0 0,Value.func (.func 114) #[] #[]]::box l 207 [zP (some ⟨b,0,none⟩)]::box m 29 k::L) j7:=(aK.arr 5 [1,4,0,3,2] o1 rfl)
 obtain ⟨g4,o3,c⟩:=aD c
 refine aU (vs:=[zP (some ⟨b,0,none⟩),zS a1 e2.length c2]) Tryz.call180 rfl (kA (Kf:=K) o2 hG (zR _) h3 o3) ?_
 rintro _ w34 ⟨g5,g6,rfl,o4⟩
 refine aI (aQ (aM (bS (vs:=[i64 0]) Tryz.zeroValue3 o4 rfl (fun j9 w37 o5=>(bR (i:=0) (ns:=[i64 0]) (us:=[i64 0]) Tryz.sizeOf3 o5 rfl rfl rfl rfl rfl (cX rfl) rfl rfl (fun o6 (o7:aK G K (box j9 3 [i64 0]::aN 38 K g5 g6 g4.2.1::iD a g4.2.2::aN 160 K none 0 ([]:List iC)::box b 210 [zS g5 g4.2.1.length g6,zM (some a),zS none 0 0,Value.func (.func 114) #[] #[]]::box l 207 [zP (some ⟨b,0,none⟩)]::box m 29 k::L) o6)=>(aI (bE (fun f w=>∃ (Z:Hp) (o:List (List Int)) (d1:(List (bB × Int))) (p:List iC) (a0:Option Addr) (c45:Nat) (x:Option Addr) (y:Nat),Hp.le K Z∧iS o d1 p=some R∧f 6=zP (some ⟨m,0,none⟩)∧f 9=zP (some ⟨l,0,none⟩)∧aK G Z (aN 160 K x y p::aN 38 Z a0 c45 o::iD a d1::box b 210 [zS a0 o.length c45,zM (some a),zS x p.length y,Value.func (.func 114) #[] #[]]::box l 207 [zP (some ⟨b,0,none⟩)]::box m 29 k::L) w) ?_ ?_))))))))
 ·rintro f w52 ⟨Z,o,d1,p,a0,c45,x,y,b6,c,g7,d9,o8⟩
  unfold iS at c
  refine aC (aQ (dF (fun f w=>∃ (b7:Int) (b8:Int) (a3:List bB) (a5:List Edge) (g8:Nat) (a6:Option Addr) (a8:Nat) (a9:Option Addr) (b0:Nat),mB o b7 b8 a3 a5=some R∧f 6=zP (some ⟨m,0,none⟩)∧f 9=zP (some ⟨l,0,none⟩)∧f 12=zP (some ⟨g8,0,none⟩)∧aK G Z (aN 63 K a9 b0 a5::aN 9 K a6 a8 a3::box g8 29 [i64 b7,i64 b8,zS a6 a3.length a8,zS a9 a5.length b0]::aN 160 K x y p::aN 38 Z a0 c45 o::iD a d1::box b 210 [zS a0 o.length c45,zM (some a),zS x p.length y,Value.func (.func 114) #[] #[]]::box l 207 [zP (some ⟨b,0,none⟩)]::box m 29 k::L) w) ?_ ?_))
  ·rintro f w66 ⟨b7,b8,a3,a5,g8,a6,a8,a9,b0,c,k0,o9,k1,p0⟩
   unfold mB at c
   refine aC (aQ ?_)
   obtain ⟨K68,k2,k3,p1,p2⟩:=aK.lendB (i:=2) p0 rfl
   obtain ⟨K73,f8,p3,p4,p5⟩:=aK.lendB (i:=5) p1 rfl
   obtain ⟨k4,e3,p6,k6,p7⟩:=aK.lendB (i:=5) p4 rfl
   refine gA (C:=fun w'=>∃ L',aK G k4 L' w') [(0,0),(1,0),(2,0),(3,0),(4,0),(5,1),(6,1),(7,1),(8,2),(9,2)] bT (by kernel_rfl) (fun _ hg=>⟨_,aK.mono k6 hg⟩) (fun w83 p8=>?_)
   have c3:=aK.mono k6 p8
   refine bZ rfl (fun _ ⟨_,c3⟩=>fZ (t:=0) (vs:=[i64 b7,i64 b8,zS a6 a3.length a8,zS a9 a5.length b0]) dI c3 (k3.mono (zL f8 e3)) k1 rfl rfl) (bZ rfl (fun _ ⟨_,c3⟩=>bK (t:=0) aBa c3 p6 o9 rfl) (bZ rfl (fun _ _=>iM rfl) (bZ rfl (fun _ _=>bL (t':=0) zO rfl rfl) (bZ rfl (fun _ ⟨_,c3⟩=>bK (t:=0) aHd c3 (p3.mono e3) rfl rfl) (kD rfl (aF (fZ (t:=0) (vs:=[i64 b7,i64 b8,zS a6 a3.length a8,zS a9 a5.length b0]) dI c3 (k3.mono (zL f8 e3)) k1 rfl rfl) (bA (aC ⟨⟨_,c3⟩,?_⟩))))))))
   refine kD rfl ?_
   obtain ⟨K87,p9,q0,q1,q2⟩:=aK.lendS (i:=1) c3 (zL (zL (zL b6 k2) f8) e3) rfl
   obtain ⟨K92,q3,q4,q5,q6⟩:=aK.lendS (i:=0) q1 (zL (zL (zL (zL b6 k2) f8) e3) p9) rfl
   obtain ⟨q7,q8,c⟩:=aD c
   refine aU (vs:=[zA #[i64 b7,i64 b8,zS a6 a3.length a8,zS a9 a5.length b0]]) Tryz.call31 rfl (nE (t:=⟨b7,b8,a3,a5⟩) q5 hG (q0.mono q3) q4 q8) ?_
   rintro _ w99 ⟨rfl,q9⟩
   have r0:=q6 _ _ q9
   have k7:=q2 _ _ r0
   refine bA (aC ⟨⟨_,k7⟩,?_⟩)
   refine kD rfl (bR (i:=5) (ns:=[i64 b7,i64 b8,zS a6 a3.length a8,zS a9 a5.length b0]) (us:=[i64 b7,i64 b8,zS a6 a3.length a8,zS a9 a5.length b0]) Tryz.sizeOf29 k7 rfl k0 rfl rfl rfl (cX rfl) rfl rfl (fun r1 (k8:aK G k4 (aN 9 K a6 a8 a3::aN 63 K a9 b0 a5::aN 160 K x y p::aN 38 Z a0 c45 o::iD a d1::box m 29 [i64 b7,i64 b8,zS a6 a3.length a8,zS a9 a5.length b0]::L) r1)=>(bA (aC ⟨⟨_,k8⟩,?_⟩))))
   have r2:=p7 _ _ k8
   have r3:=p5 _ _ r2
   have k9:=p2 _ _ r3
   refine aFy rfl (aH (v:=zS a0 o.length c45) (aI (aFy rfl (aH (v:=zB q7) (aI (lY (aC ?_)))))))
   obtain rfl:=zI c
   exact bH (yO Tryz.results112 (dZ (vs:=[i64 b7,i64 b8,zS a6 a3.length a8,zS a9 a5.length b0]) rfl dI k9 (i:=8) rfl k0 rfl) (gW rfl rfl) (gW rfl rfl) ⟨Z,a6,a8,a9,b0,a0,c45,rfl,b6,(aK.arr 9 [3,4,6] k9 rfl)⟩)
  obtain ⟨a13,d2,g9,r5,h0⟩:=aK.lendB (i:=3) o8 rfl
  obtain ⟨r6,b9,h1,r7,h2⟩:=aK.lendB (i:=3) r5 rfl
  refine sM (C:=fun w'=>∃ L',aK G r6 L' w') [16] bT (by kernel_rfl) (fun a14 r8=>?_)
  have e:=aK.mono r7 r8
  refine dP (i:=0) rfl (by kernel_rfl) ⟨_,e⟩ (fun _ ⟨_,e⟩=>bK (t:=0) aBa e h1 d9 rfl) (dP (i:=1) rfl (by kernel_rfl) ⟨_,e⟩ (fun _ _=>iM rfl) (dP (i:=2) rfl (by kernel_rfl) ⟨_,e⟩ (fun _ _=>bL (t':=0) zO rfl rfl) (dP (i:=3) rfl (by kernel_rfl) ⟨_,e⟩ (fun _ ⟨_,e⟩=>bK (t:=0) aHd e (g9.mono b9) rfl rfl) (dP (i:=4) rfl (by kernel_rfl) ⟨_,e⟩ (fun _ _=>bN (len:=o.length) rC rfl) (dP (i:=5) rfl (by kernel_rfl) ⟨_,e⟩ (fun _ ⟨_,e⟩=>bK (t:=0) aBa e h1 d9 rfl) (dP (i:=6) rfl (by kernel_rfl) ⟨_,e⟩ (fun _ _=>iM rfl) (dP (i:=7) rfl (by kernel_rfl) ⟨_,e⟩ (fun _ _=>bL (t':=2) aCh rfl rfl) (dP (i:=8) rfl (by kernel_rfl) ⟨_,e⟩ (fun _ ⟨_,e⟩=>bK (t:=2) aBX e (g9.mono b9) rfl rfl) (dP (i:=10) rfl (by kernel_rfl) ⟨_,e⟩ (fun _ ⟨_,e⟩=>bK (t:=0) aBa e h1 d9 rfl) (dP (i:=11) rfl (by kernel_rfl) ⟨_,e⟩ (fun _ _=>iM rfl) (dP (i:=12) rfl (by kernel_rfl) ⟨_,e⟩ (fun _ _=>bL (t':=2) aCh rfl rfl) (dP (i:=13) rfl (by kernel_rfl) ⟨_,e⟩ (fun _ ⟨_,e⟩=>bK (t:=2) aBX e (g9.mono b9) rfl rfl) (oJ (i:=9) (j:=15) (by kernel_rfl) rfl rfl ?_ ?_)))))))))))))
  ·obtain ⟨a15,a16,r9,s0,s1⟩:=aK.lendS (i:=0) e (zL (zL b6 d2) b9) rfl
   obtain ⟨f9,s2,c⟩:=aD c
   refine aU (vs:=[zS x p.length y]) Tryz.call182 rfl (vE s0 r9 s2) ?_
   rintro _ a17 ⟨g0,g1,rfl,s3⟩
   have h4:=s1 _ _ s3
   refine bA (aC ⟨fun _=>⟨_,h4⟩,?_⟩)
   refine oJ (i:=14) (j:=15) (by kernel_rfl) rfl rfl ?_ ?_
   ·obtain ⟨a18,s4,s5,s6,s7⟩:=aK.lendS (i:=1) h4 (zL (zL b6 d2) b9) rfl
    obtain ⟨a19,s8,s9,t0,t1⟩:=aK.lendS (i:=0) s6 (zL (zL (zL b6 d2) b9) s4) rfl
    obtain ⟨q,t2,c⟩:=aD c
    refine aU (vs:=[i64 (o.length:Int),i64 0,zS g0 f9.length g1,zS x p.length y]) Tryz.call118 rfl (sG t0 (s5.mono s8) s9 t2) ?_
    rintro _ a20 ⟨e4,e5,e6,e7,rfl,t3⟩
    have t4:=t1 _ _ t3
    have l0:=s7 _ _ t4
    refine bA (aC ⟨fun _=>⟨_,l0⟩,?_⟩)
    refine cL (i:=15) (by kernel_rfl) rfl (bS (vs:=k) Tryz.zeroValue29 l0 rfl (fun l1 a21 l2=>(bA (aC ⟨fun _=>⟨_,l2⟩,?_⟩))))
    refine cL (i:=16) (by kernel_rfl) rfl ?_
    have t5:=h2 _ _ l2
    have t6:=h0 _ _ t5
    refine bR (i:=2) (ns:=(zC q e4 e5 e6 e7)) (us:=(zC q e4 e5 e6 e7)) Tryz.sizeOf29 t6 rfl rfl rfl rfl rfl (cX rfl) rfl rfl (fun t7 (t8:aK G Z (box b 210 [zS a0 o.length c45,zM (some a),zS x p.length y,Value.func (.func 114) #[] #[]]::box l 207 [zP (some ⟨b,0,none⟩)]::box l1 29 (zC q e4 e5 e6 e7)::aN 9 K g0 g1 f9::aN 160 K x y p::aN 9 K e4 e5 q.L::aN 63 K e6 e7 q.E::aN 38 Z a0 c45 o::iD a d1::box m 29 k::L) t7)=>(bA (aC ⟨no_c rfl,?_⟩)))
    exact iY (by kernel_rfl) (aC ⟨q.N,q.I,q.L,q.E,l1,e4,e5,e6,e7,c,g7,d9,rfl,(aK.arr 9 [6,5,2,4,7,8,0,1] t8 rfl)⟩)
   ·refine bS (vs:=k) Tryz.zeroValue29 h4 rfl (fun l3 a22 l4=>(bA (aC ⟨fun _=>⟨_,l4⟩,?_⟩)))
    refine cL (i:=14) (by kernel_rfl) rfl ?_
    obtain ⟨a23,t9,u0,u1,u2⟩:=aK.lendS (i:=2) l4 (zL (zL b6 d2) b9) rfl
    obtain ⟨a24,u3,u4,u5,u6⟩:=aK.lendS (i:=1) u1 (zL (zL (zL b6 d2) b9) t9) rfl
    obtain ⟨r,u7,c⟩:=aD c
    refine aU (vs:=[i64 (o.length:Int),i64 0,zS g0 f9.length g1,zS x p.length y]) Tryz.call118 rfl (sG u5 (u0.mono u3) u4 u7) ?_
    rintro _ a25 ⟨e8,e9,f0,f1,rfl,u8⟩
    have u9:=u6 _ _ u8
    have l5:=u2 _ _ u9
    refine bA (aC ⟨fun _=>⟨_,l5⟩,?_⟩)
    refine cL (i:=16) (by kernel_rfl) rfl ?_
    have v0:=h2 _ _ l5
    have v1:=h0 _ _ v0
    refine bR (i:=6) (ns:=(zC r e8 e9 f0 f1)) (us:=(zC r e8 e9 f0 f1)) Tryz.sizeOf29 v1 rfl rfl rfl rfl rfl (cX rfl) rfl rfl (fun v2 (v3:aK G Z (box b 210 [zS a0 o.length c45,zM (some a),zS x p.length y,Value.func (.func 114) #[] #[]]::box l 207 [zP (some ⟨b,0,none⟩)]::aN 9 K g0 g1 f9::aN 160 K x y p::aN 9 K e8 e9 r.L::aN 63 K f0 f1 r.E::box l3 29 (zC r e8 e9 f0 f1)::aN 38 Z a0 c45 o::iD a d1::box m 29 k::L) v2)=>(bA (aC ⟨no_c rfl,?_⟩)))
    exact iY (by kernel_rfl) (aC ⟨r.N,r.I,r.L,r.E,l3,e8,e9,f0,f1,c,g7,d9,rfl,(aK.arr 9 [5,4,6,3,7,8,0,1] v3 rfl)⟩)
  ·refine bS (vs:=k) Tryz.zeroValue29 e rfl (fun l6 a26 l7=>(bA (aC ⟨fun _=>⟨_,l7⟩,?_⟩)))
   refine cL (i:=9) (by kernel_rfl) rfl ?_
   obtain ⟨a27,a28,v4,v5,v6⟩:=aK.lendS (i:=1) l7 (zL (zL b6 d2) b9) rfl
   obtain ⟨l8,v7,c⟩:=aD c
   refine aU (vs:=[zS x p.length y]) Tryz.call182 rfl (vE v5 v4 v7) ?_
   rintro _ a29 ⟨l9,m0,rfl,v8⟩
   have m1:=v6 _ _ v8
   refine bA (aC ⟨fun _=>⟨_,m1⟩,?_⟩)
   refine cL (i:=14) (by kernel_rfl) rfl ?_
   obtain ⟨a30,v9,w0,w1,w2⟩:=aK.lendS (i:=1) m1 (zL (zL b6 d2) b9) rfl
   obtain ⟨a31,w3,w4,w5,w6⟩:=aK.lendS (i:=0) w1 (zL (zL (zL b6 d2) b9) v9) rfl
   obtain ⟨u,w7,c⟩:=aD c
   refine aU (vs:=[i64 (o.length:Int),i64 0,zS l9 l8.length m0,zS x p.length y]) Tryz.call118 rfl (sG w5 (w0.mono w3) w4 w7) ?_
   rintro _ a33 ⟨f2,f3,f4,f5,rfl,w8⟩
   have w9:=w6 _ _ w8
   have m2:=w2 _ _ w9
   refine bA (aC ⟨fun _=>⟨_,m2⟩,?_⟩)
   refine cL (i:=16) (by kernel_rfl) rfl ?_
   have x0:=h2 _ _ m2
   have x1:=h0 _ _ x0
   refine bR (i:=6) (ns:=(zC u f2 f3 f4 f5)) (us:=(zC u f2 f3 f4 f5)) Tryz.sizeOf29 x1 rfl rfl rfl rfl rfl (cX rfl) rfl rfl (fun x2 (x3:aK G Z (box b 210 [zS a0 o.length c45,zM (some a),zS x p.length y,Value.func (.func 114) #[] #[]]::box l 207 [zP (some ⟨b,0,none⟩)]::aN 9 K l9 m0 l8::aN 160 K x y p::aN 9 K f2 f3 u.L::aN 63 K f4 f5 u.E::box l6 29 (zC u f2 f3 f4 f5)::aN 38 Z a0 c45 o::iD a d1::box m 29 k::L) x2)=>(bA (aC ⟨no_c rfl,?_⟩)))
   exact iY (by kernel_rfl) (aC ⟨u.N,u.I,u.L,u.E,l6,f2,f3,f4,f5,c,g7,d9,rfl,(aK.arr 9 [5,4,6,3,7,8,0,1] x3 rfl)⟩)
 have x4:=aK.nil (α:=iC) o7 160 K
 obtain ⟨a34,x5,c⟩:=aD c
 refine cD x5 (fun (s:(List (List Int) × (List (bB × Int)) × List iC × Int)) f w=>match s with|(J,c4,a2,b1)=>∃ (d3:Hp) (b2:Option Addr) (b3:Nat) (b4:Option Addr) (b5:Nat) (d4:Nat),Hp.le K d3∧f 2=Value.func (.func 116) #[] #[dC a4 k5]∧f 6=zP (some ⟨m,0,none⟩)∧f 9=zP (some ⟨l,0,none⟩)∧f 10=zP (some ⟨d4,0,none⟩)∧aK G d3 (aN 160 K b4 b5 a2::box d4 3 [i64 b1]::aN 38 d3 b2 b3 J::iD a c4::box b 210 [zS b2 J.length b3,zM (some a),zS b4 a2.length b5,Value.func (.func 114) #[] #[]]::box l 207 [zP (some ⟨b,0,none⟩)]::box m 29 k::L) w) ?_ ?_
 ·exact ⟨K,g5,g6,none,0,j9,(zR _),rfl,rfl,rfl,rfl,(aK.arr 5 [0,1,2,3] x4 rfl)⟩
 ·rintro ⟨J,c4,a2,b1⟩ m3 f a35 n m4 ⟨d3,b2,b3,b4,b5,d4,e0,h5,h7,d5,f6,c0⟩
  replace n:dM d0 J c4 a2 b1=some m3:=n
  unfold dM at n
  refine aQ (aQ (dR (C:=fun w'=>aK G d3 (aN 160 K b4 b5 a2::box d4 3 [i64 b1]::aN 38 d3 b2 b3 J::iD a c4::box b 210 [zS b2 J.length b3,zM (some a),zS b4 a2.length b5,Value.func (.func 114) #[] #[]]::box l 207 [zP (some ⟨b,0,none⟩)]::box m 29 k::L) w') bT (by kernel_rfl) (aK.mono c0 (dQ.drew _)) (aW (fun _ c0=>cC sc_3 c0 (i:=1) rfl f6 rfl) (aW (fun _ c0=>cC aBa c0 (i:=5) rfl d5 rfl) (aW (fun _ c0=>iM rfl) (aW (fun _ c0=>bL (t':=0) zO rfl rfl) (aW (fun _ c0=>cC aHd c0 (i:=4) rfl rfl rfl) (aW (fun _ c0=>bN (len:=J.length) rC rfl) (aW (fun _ c0=>cG rfl rfl) (eF (fun x6 m5=>(aC ?_))))))))))))
  rcases aJ n with ⟨h8,n⟩|⟨h8,n⟩
  ·refine aO h8 rfl (aY (aC (aQ (cW (aQ ?_)))))
   obtain ⟨d6,d7,i0,i1,_⟩:=aK.lendB (i:=1) m5 rfl
   replace i1:aK G d6 (aN 160 K b4 b5 a2::aN 38 d3 b2 b3 J::iD a c4::box b 210 [zS b2 J.length b3,zM (some a),zS b4 a2.length b5,Value.func (.func 114) #[] #[]]::box l 207 [zP (some ⟨b,0,none⟩)]::box m 29 k::L) x6:=i1
   refine sM (C:=fun w'=>∃ L',aK G d6 L' w') [] bT (by kernel_rfl) (fun m6 x7=>?_)
   have z:=aK.mono i1 x7
   refine dP (i:=0) rfl (by kernel_rfl) ⟨_,z⟩ (fun _ _=>aZ h5) (dP (i:=5) rfl (by kernel_rfl) ⟨_,z⟩ (fun _ ⟨_,z⟩=>bK (t:=0) sc_3 z i0 (elp_b f6) rfl) (dP (i:=8) rfl (by kernel_rfl) ⟨_,z⟩ (fun _ _=>vG (vs:=[zP (some ⟨l,0,none⟩),dC (some ⟨d4,0,none⟩) 0]) (lst2 d5 (elp_b f6))) (cL (i:=1) (by kernel_rfl) rfl (aF (cC aBa z (i:=4) rfl d5 rfl) (bA (aC ⟨fun _=>⟨_,z⟩,?_⟩))))))
   refine dP (i:=2) rfl (by kernel_rfl) ⟨_,z⟩ (fun _ _=>iM rfl) (dP (i:=3) rfl (by kernel_rfl) ⟨_,z⟩ (fun _ _=>bL (t':=0) zO rfl rfl) (cL (i:=4) (by kernel_rfl) rfl (aF (cC aHd z (i:=3) rfl rfl rfl) (bA (aC ⟨fun _=>⟨_,z⟩,?_⟩)))))
   obtain ⟨i2,i3,n⟩:=aD n
   have x8:=cY z (i:=1) rfl i3
   refine dP (i:=6) rfl (by kernel_rfl) ⟨_,z⟩ (fun _ _=>dW rC rfl x8 rfl rfl rfl i3) (cL (i:=7) (by kernel_rfl) rfl ?_)
   obtain ⟨a36,x9,y0⟩:=own_el (sz:=1) rfl z (i:=1) rfl i3
   obtain ⟨i4,i5,rfl,y1⟩:=y0
   refine aF (R_ldC (t:=0) (v:=zS i4 i2.length i5) zN x9 rfl rfl) (bA (aC ⟨fun _=>⟨_,z⟩,?_⟩))
   refine cL (i:=9) (by kernel_rfl) rfl ?_
   have y2:aK G d6 (aN 160 K b4 b5 a2::aN 38 d6 b2 b3 J::iD a c4::box b 210 [zS b2 J.length b3,zM (some a),zS b4 a2.length b5,Value.func (.func 114) #[] #[]]::box l 207 [zP (some ⟨b,0,none⟩)]::box m 29 k::L) m6:=aK.weak (i:=1) z rfl (fun _ h=>aN.mono d7 h)
   have y3:aK G d6 (aN 38 d6 b2 b3 J::iD a c4::aN 160 K b4 b5 a2::box b 210 [zS b2 J.length b3,zM (some a),zS b4 a2.length b5,Value.func (.func 114) #[] #[]]::box l 207 [zP (some ⟨b,0,none⟩)]::box m 29 k::L) m6:=(aK.arr 3 [1,2,0] y2 rfl)
   obtain ⟨d,y4,n⟩:=aD n
   refine oP (vs:=[zS i4 i2.length i5,Value.func (.func 181) #[] #[zP (some ⟨l,0,none⟩),dC (some ⟨d4,0,none⟩) 0]]) (caps:=[dC a4 k5]) (us:=[zS i4 i2.length i5,Value.func (.func 181) #[] #[zP (some ⟨l,0,none⟩),dC (some ⟨d4,0,none⟩) 0],dC a4 k5]) rfl Tryz.call116 rfl rfl (aBD (Kf:=d6) y3 hG (zR _) (y1.mono d7) i0 (h6.mono (zL e0 d7)) (h9.mono (zL e0 d7)) (n4.mono (zL e0 d7)) y4) ?_
   rintro _ a37 ⟨c1,c5,c6,c7,c9,rfl,f7,e1⟩
   refine bA (aC ⟨fun _=>⟨_,(aK.weakK e1 f7)⟩,?_⟩)
   refine dP (i:=10) rfl (by kernel_rfl) ⟨_,(aK.weakK e1 f7)⟩ (fun _ _=>dH (v:=zB d.1) rfl) (iY (by kernel_rfl) (aC (aQ (dF (fun f w=>∃ (i6:Bool),jV b1 d i6=some m3∧f 2=Value.func (.func 116) #[] #[dC a4 k5]∧f 6=zP (some ⟨m,0,none⟩)∧f 9=zP (some ⟨l,0,none⟩)∧f 10=dC (some ⟨d4,0,none⟩) 0∧f 48=zB i6∧aK G c1 (aN 38 c1 c5 c6 d.2.1::iD a d.2.2.1::aN 160 K c7 c9 d.2.2.2::box b 210 [zS c5 d.2.1.length c6,zM (some a),zS c7 d.2.2.2.length c9,Value.func (.func 114) #[] #[]]::box l 207 [zP (some ⟨b,0,none⟩)]::box m 29 k::L) w) ?_ ?_))))
   ·rintro f a38 ⟨i6,n,y5,i7,y6,y7,m7,i8⟩
    unfold jV at n
    refine aC ?_
    rcases aJ n with ⟨i9,n⟩|⟨i9,n⟩
    ·refine aO i9 m7 (aM (aF (fD (vs:=[]) (cs:=k) tI rfl (by kernel_rfl)) (bR (i:=5) (ns:=k) (us:=k) Tryz.sizeOf29 i8 rfl i7 rfl rfl rfl (cX rfl) rfl rfl (fun y8 (y9:aK G c1 (aN 38 c1 c5 c6 d.2.1::iD a d.2.2.1::aN 160 K c7 c9 d.2.2.2::box b 210 [zS c5 d.2.1.length c6,zM (some a),zS c7 d.2.2.2.length c9,Value.func (.func 114) #[] #[]]::box l 207 [zP (some ⟨b,0,none⟩)]::box m 29 k::L) y8)=>(aH (v:=zS none 0 0) (aH (v:=zB false) (aI (bH (bQ (aR (aR ?_)))))))))))
     have z0:=m4 _ (zI n).symm
     subst z0
     have c:(some (⟨0,0,[],[]⟩,[],false))=some R:=c
     have z1:=aK.nil (α:=bB) y9 9 K
     have z2:=aK.nil (α:=Edge) z1 63 K
     have m8:=aK.nil (α:=(List Int)) z2 38 c1
     obtain rfl:=zI c
     exact bQ (aR (aR (yO Tryz.results112 (dZ (vs:=k) rfl dI m8 (i:=8) rfl i7 rfl) (gW rfl rfl) (gW rfl rfl) ⟨c1,none,0,none,0,none,0,rfl,(zL (zL e0 d7) f7),(aK.arr 9 [2,1,0] m8 rfl)⟩)))
    ·exact aL i9 m7 (aY (bG (aC (aQ (aM (aF (bK (t:=0) sc_3 i8 (i0.mono f7) y7 rfl) (aI (aS (bS (vs:=[i64 0]) Tryz.zeroValue3 i8 rfl (fun j0 a39 z4=>(bR (i:=0) (ns:=[i64 b1]) (us:=[i64 b1]) Tryz.sizeOf3 z4 rfl rfl rfl rfl rfl (cX rfl) rfl rfl (fun z5 (m9:aK G c1 (box j0 3 [i64 b1]::aN 38 c1 c5 c6 d.2.1::iD a d.2.2.1::aN 160 K c7 c9 d.2.2.2::box b 210 [zS c5 d.2.1.length c6,zM (some a),zS c7 d.2.2.2.length c9,Value.func (.func 114) #[] #[]]::box l 207 [zP (some ⟨b,0,none⟩)]::box m 29 k::L) z5)=>(aI (aS (aF (cC sc_3 m9 (i:=0) rfl rfl rfl) (aF (cQ rfl rfl) (bR (i:=0) (ns:=[i64 (wr (b1+1))]) (us:=[i64 (wr (b1+1))]) Tryz.sizeOf3 m9 rfl rfl rfl rfl rfl (cX rfl) rfl rfl (fun z6 (z7:aK G c1 (box j0 3 [i64 (wr (b1+1))]::aN 38 c1 c5 c6 d.2.1::iD a d.2.2.1::aN 160 K c7 c9 d.2.2.2::box b 210 [zS c5 d.2.1.length c6,zM (some a),zS c7 d.2.2.2.length c9,Value.func (.func 114) #[] #[]]::box l 207 [zP (some ⟨b,0,none⟩)]::box m 29 k::L) z6)=>(aI ⟨(d.2.1,d.2.2.1,d.2.2.2,wr (b1+1)),(zI n).symm,c1,c5,c6,c7,c9,j0,(zL (zL e0 d7) f7),y5,i7,y6,rfl,(aK.arr 4 [3,0,1,2] z7 rfl)⟩)))))))))))))))))))
   refine aS (aP (v:=zB d.1) (aF (fC rfl) (aP (v:=zB (!d.1)) ?_)))
   rcases aJ n with ⟨V,n⟩|⟨V,n⟩
   ·exact bC V rfl rfl (bC V rfl rfl (bC V rfl rfl (bC V rfl rfl (bC V rfl rfl (bC V rfl rfl (aF (bO (v:=zB true) V rfl rfl) (aI ⟨true,n,h5,h7,d5,(elp_b f6),rfl,e1⟩)))))))
   ·exact bP V rfl rfl (aF (cC aBa e1 (i:=4) rfl d5 rfl) (bP V rfl rfl (aF (iM rfl) (bP V rfl rfl (aF (bL (t':=0) zO rfl rfl) (bP V rfl rfl (aF (cC aHd e1 (i:=3) rfl rfl rfl) (bP V rfl rfl (aF (bN (len:=d.2.1.length) rC rfl) (bP V rfl rfl (aF (oM rfl rfl) (aF (bV (v:=zB (decide (40 < (d.2.1.length:Int)))) V rfl rfl) (aI ⟨decide (40 < (d.2.1.length:Int)),n,h5,h7,d5,(elp_b f6),rfl,e1⟩)))))))))))))
  ·refine aL h8 rfl (cB (aV (aV ?_)))
   have z8:=m4 _ (zI n).symm
   subst z8
   have c:(iS J c4 a2)=some R:=c
   exact bJ (aC ⟨d3,J,c4,a2,b2,b3,b4,b5,e0,c,h7,d5,(aK.arr 2 [0] m5 rfl)⟩)
theorem pT {t:cN} {R:(cN × (List (List Int)) × Bool)} (hs:aK G K (L) w) (hG:G.lo=0) (h3:dB K a1 c2 t.L) (h6:dB K a4 c5 t.E) (c:jW t=some R):
  Calls Tryz.prog 49 ([zA (zCa t a1 c2 a4 c5)]:List Value).toArray w (iK fun v w'=>∃ (K':Hp) (b0:Option Addr) (b1:Nat) (b2:Option Addr) (b3:Nat) (b4:Option Addr) (b5:Nat),v=zT #[zA (zCa R.1 b0 b1 b2 b3),zS b4 R.2.1.length b5,zB R.2.2]∧Hp.le K K'∧aK G K' (aN 9 K b0 b1 R.1.L::aN 63 K b2 b3 R.1.E::aN 38 K' b4 b5 R.2.1::L) w'):=by
 let d:=zG
 let V:=(zC t a1 c2 a4 c5)
 refine aX Tryz.func49 rfl (by kernel_rfl) (by show (1:Nat)≤30;decide) ?_
 unfold jW at c
 refine aM (gP (v:=zA (zCa t a1 c2 a4 c5)) (vs:=V) hs rfl rfl (fun Z w8 d6=>(bS (vs:=d) Tryz.zeroValue29 d6 rfl (fun r i4 a3=>(aH (v:=zS none 0 0) (aH (v:=zB false) (aI (aM (aF (dX (us:=V) dI a3 (i:=1) rfl rfl rfl rfl) (aF (bL (t':=1) sN rfl rfl) (aF (cC cV a3 (i:=1) rfl rfl rfl) (cT (Kt:=K) (xs:=([t.I]:List Int)) (cs:=[i64 t.I]) (vs:=[(0,i64 t.I)]) bY lR rfl rfl a3 rfl (by kernel_rfl) rfl rfl rfl ⟨rfl,trivial⟩ (fun p d7 (d8:aK G K (aN 2 K p 1 ([t.I]:List Int)::box r 29 d::box Z 29 V::L) d7)=>?_)))))))))))))
 obtain ⟨i5,b6,d9,e0,e1⟩:=aK.lendS (i:=0) d8 (zR _) rfl
 obtain ⟨e2,e3,c⟩:=aD c
 refine aU (vs:=[zA (zCa t a1 c2 a4 c5),zS p ([t.I]:List Int).length 1]) Tryz.call113 rfl (aAu e0 (h3.mono b6) (h6.mono b6) d9 e3) ?_
 rintro _ b8 ⟨e4,e5,rfl,e6⟩
 have e7:=e1 _ _ e6
 refine aF (vG (vs:=[zP (some ⟨Z,0,none⟩)]) rfl) ?_
 obtain ⟨e8,l,e9,a5⟩:=aK.giveS (i:=1) e7 (zR _) rfl
 replace a5:aK G e8 (aN 2 K p 1 ([t.I]:List Int)::box r 29 d::box Z 29 V::L) b8:=a5
 obtain ⟨f0,k,a6,a7,_⟩:=aK.lendB (i:=2) a5 rfl
 replace a7:aK G f0 (aN 2 K p 1 ([t.I]:List Int)::box r 29 d::L) b8:=a7
 obtain ⟨a,f1,c⟩:=aD c
 refine aU (vs:=[zS e4 e2.length e5,Value.func (.func 114) #[] #[],Value.func (.func 116) #[] #[dC (some ⟨Z,0,none⟩) 0]]) Tryz.call112 rfl (aCa a7 hG (e9.mono k) a6 (h3.mono (zL l k)) (h6.mono (zL l k)) f1) ?_
 rintro _ i6 ⟨m,e,g,h,j,n,c45,rfl,o,f2⟩
 refine aP (v:=zT #[zA (zCa a.1 e g h j),zS n a.2.1.length c45,zB a.2.2]) (aF (bM rfl rfl) (aF (bM rfl rfl) (aF (bM rfl rfl) (bS (vs:=d) Tryz.zeroValue29 f2 rfl (fun b9 i7 f3=>(bR (i:=0) (ns:=(zC a.1 e g h j)) (us:=(zC a.1 e g h j)) Tryz.sizeOf29 f3 rfl rfl rfl rfl rfl (cX rfl) rfl rfl (fun f4 (c0:aK G m (box b9 29 (zC a.1 e g h j)::aN 9 K e g a.1.L::aN 63 K h j a.1.E::aN 38 m n c45 a.2.1::aN 2 K p 1 ([t.I]:List Int)::box r 29 d::L) f4)=>(aH (v:=zS n a.2.1.length c45) (aH (v:=zB a.2.2) (aI (aQ (aM (aP (v:=zB a.2.2) (aF (fC rfl) (aI ?_)))))))))))))))
 rcases aJ c with ⟨a8,c⟩|⟨a8,c⟩
 ·refine aO a8 rfl (aM (aF (fD (vs:=[]) (cs:=d) tI rfl (by kernel_rfl)) (bR (i:=5) (ns:=d) (us:=d) Tryz.sizeOf29 c0 rfl rfl rfl rfl rfl (cX rfl) rfl rfl (fun f5 (f6:aK G m (box b9 29 (zC a.1 e g h j)::aN 9 K e g a.1.L::aN 63 K h j a.1.E::aN 38 m n c45 a.2.1::aN 2 K p 1 ([t.I]:List Int)::box r 29 d::L) f5)=>(aH (v:=zS none 0 0) (aH (v:=zB false) (aI ?_)))))))
  have f7:=aK.nil (α:=bB) f6 9 K
  have f8:=aK.nil (α:=Edge) f7 63 K
  have c1:=aK.nil (α:=(List Int)) f8 38 m
  obtain rfl:=zI c
  exact bH (aR (yO Tryz.results49 (dZ (vs:=d) rfl dI c1 (i:=8) rfl rfl rfl) (gW rfl rfl) (gW rfl rfl) ⟨m,none,0,none,0,none,0,rfl,(zL (zL l k) o),(aK.arr 9 [2,1,0] c1 rfl)⟩))
 ·refine aL a8 rfl (aY (aC (aQ ?_)))
  obtain ⟨c3,u,c4,c6,g0⟩:=aK.lendB (i:=0) c0 rfl
  refine gA (C:=fun w'=>∃ L',aK G c3 L' w') [(0,0),(1,0),(2,0),(3,0),(4,0),(7,0),(5,1),(6,1),(8,1),(9,2),(10,2)] bT (by kernel_rfl) (fun _ hg=>⟨_,aK.mono c6 hg⟩) (fun i8 g1=>?_)
  have q:=aK.mono c6 g1
  refine bZ rfl (fun _ _=>bL (t':=0) iZ rfl rfl) (bZ rfl (fun _ ⟨_,q⟩=>bK (t:=0) cV q c4 rfl rfl) (bZ rfl (fun _ _=>cR (k':=0+2) eG (elp_b rfl) (a6.mono (zL o u)) rfl) (bZ rfl (fun _ ⟨_,q⟩=>bK (t:=2) iT q (a6.mono (zL o u)) rfl rfl) (bZ rfl (fun _ ⟨_,q⟩=>fZ (t:=0) (vs:=(zC a.1 e g h j)) dI q c4 rfl rfl rfl) (bZ rfl (fun _ _=>aZ (v:=zS n a.2.1.length c45) rfl) (kD rfl ?_))))))
  obtain ⟨i9,g2,g3,g4,g5⟩:=aK.lendS (i:=0) q (zL (zL (zL l k) o) u) rfl
  obtain ⟨j0,g6,g7,g8,g9⟩:=aK.lendS (i:=0) g4 (zL (zL (zL (zL l k) o) u) g2) rfl
  obtain ⟨c7,h0,c⟩:=aD c
  refine aU (vs:=[zA (zCa a.1 e g h j)]) Tryz.call119 rfl (aGx g8 (g3.mono g6) g7 h0) ?_
  rintro _ j1 ⟨c8,c9,rfl,h1⟩
  have h2:=g9 _ _ h1
  have d0:=g5 _ _ h2
  refine bA (aC ⟨⟨_,d0⟩,?_⟩)
  refine kD rfl ?_
  obtain ⟨j2,h4,h5,h7,h8⟩:=aK.lendS (i:=2) d0 (zL (zL (zL l k) o) u) rfl
  obtain ⟨b,h9,c⟩:=aD c
  refine aU (vs:=[i64 a.1.N,i64 0,zS a1 t.L.length c2,zS c8 c7.length c9]) Tryz.call118 rfl (sG h7 (h3.mono (zL (zL (zL (zL l k) o) u) h4)) h5 h9) ?_
  rintro _ j3 ⟨x,y,z,J,rfl,i0⟩
  have d1:=h8 _ _ i0
  refine bA (aC ⟨⟨_,d1⟩,?_⟩)
  refine kD rfl (bR (i:=7) (ns:=(zC b x y z J)) (us:=(zC b x y z J)) Tryz.sizeOf29 d1 rfl rfl rfl rfl rfl (cX rfl) rfl rfl (fun i1 (d2:aK G c3 (aN 160 K c8 c9 c7::aN 9 K x y b.L::aN 63 K z J b.E::aN 9 K e g a.1.L::aN 63 K h j a.1.E::aN 38 m n c45 a.2.1::aN 2 K p 1 ([t.I]:List Int)::box r 29 (zC b x y z J)::L) i1)=>(bA (aC ⟨⟨_,d2⟩,?_⟩))))
  have d3:=g0 _ _ d2
  refine aFy rfl (aH (v:=zS n a.2.1.length c45) (aI (aFy rfl (aH (v:=zB true) (aI (lY (aC ?_)))))))
  obtain rfl:=zI c
  exact bH (yO Tryz.results49 (dZ (vs:=(zC b x y z J)) rfl dI d3 (i:=8) rfl rfl rfl) (gW rfl rfl) (gW rfl rfl) ⟨m,x,y,z,J,n,c45,rfl,(zL (zL l k) o),(aK.arr 9 [2,3,6] d3 rfl)⟩)
theorem aHt {t:cN} {R:(cN × Int)} (x:aK G K (L) w) (y:G.lo=0) (g:Hp.le Kf K) (h:dB Kf a1 c2 t.L) (j:dB Kf a4 c5 t.E) (b:aDU t=some R):
  Calls Tryz.prog 50 ([zA (zCa t a1 c2 a4 c5)]:List Value).toArray w (iK fun v w'=>∃ (k:Option Addr) (l:Nat) (m:Option Addr) (n:Nat),v=zT #[zA (zCa R.1 k l m n),i64 R.2]∧dB Kf k l R.1.L∧dB Kf m n R.1.E∧aK G K (L) w'):=by
 let a:=(zC t a1 c2 a4 c5)
 let c:=zG
 refine aX Tryz.func50 rfl (by kernel_rfl) (by show (1:Nat)≤9;decide) ?_
 unfold aDU at b
 refine aM (gP (v:=zA (zCa t a1 c2 a4 c5)) (vs:=a) x rfl rfl (fun o w8 z=>(bS (vs:=c) Tryz.zeroValue29 z rfl (fun p a5 q=>(aH (v:=i64 0) (aI (aQ (aM (aF (dX (us:=a) dI q (i:=1) rfl rfl rfl rfl) ?_)))))))))
 obtain ⟨a6,J,b⟩:=aD b
 refine aU (vs:=[zA (zCa t a1 c2 a4 c5)]) Tryz.call31 rfl (nE q y (h.mono g) (j.mono g) J) ?_
 rintro _ a7 ⟨rfl,d⟩
 refine aF (fC rfl) (aI ?_)
 rcases aJ b with ⟨e,b⟩|⟨e,b⟩
 ·refine aO e rfl (aM (aF (fD (vs:=[]) (cs:=c) tI rfl (by kernel_rfl)) (bR (i:=0) (ns:=c) (us:=c) Tryz.sizeOf29 d rfl rfl rfl rfl rfl (cX rfl) rfl rfl (fun V (r:aK G K (box p 29 c::box o 29 a::L) V)=>(aH (v:=i64 5) (aI ?_))))))
  obtain rfl:=zI b
  exact bH (aR (mT Tryz.results50 (dZ (vs:=c) rfl dI r (i:=0) rfl rfl rfl) (gW rfl rfl) ⟨none,0,none,0,rfl,aGD _,aGD _,(aK.arr 2 [] r rfl)⟩))
 ·refine aL e rfl (aY (aC (aM (aF (dX (us:=a) dI d (i:=1) rfl rfl rfl rfl) (bR (i:=0) (ns:=a) (us:=a) Tryz.sizeOf29 d rfl rfl rfl rfl rfl (cX rfl) rfl rfl (fun a0 (u:aK G K (box p 29 a::box o 29 a::L) a0)=>(aH (v:=i64 0) (aI ?_))))))))
  obtain rfl:=zI b
  exact bH (mT Tryz.results50 (dZ (vs:=a) rfl dI u (i:=0) rfl rfl rfl) (gW rfl rfl) ⟨a1,c2,a4,c5,rfl,h,j,(aK.arr 2 [] u rfl)⟩)
theorem aBs {t:cN} {k:Int} {R:(List Edge)} (hs:aK G K (L) w) (h3:dB K a1 c2 t.L) (h6:dB K a4 c5 t.E) (c:pC t k=some R):
  Calls Tryz.prog 121 ([zA (zCa t a1 c2 a4 c5),i64 k]:List Value).toArray w (iK fun v w'=>∃ (a8:Option Addr) (a9:Nat),v=zS a8 R.length a9∧aK G K (aN 63 K a8 a9 R::L) w'):=by
 refine aX Tryz.func121 rfl (by kernel_rfl) (by show (2:Nat)≤25;decide) ?_
 unfold pC at c
 refine aM (gP (v:=zA (zCa t a1 c2 a4 c5)) (vs:=(zC t a1 c2 a4 c5)) hs rfl rfl (fun b7 w8 b0=>(aH (v:=zS none 0 0) (aI (aM (aH (v:=zS none 0 0) (aI (aQ (aM (aF (bL (t':=3) eR rfl rfl) (aF (cC lK b0 (i:=0) rfl rfl rfl) (aF (bN (len:=t.E.length) cK rfl) (aP (v:=i64 0) (aI (bE (fun f w=>∃ (l:List Edge) (m:Option Addr) (n:Nat),pR l=some R∧f 5=zS m l.length n∧aK G K (aN 63 K m n l::L) w) ?_ ?_)))))))))))))))
 ·rintro f e3 ⟨l,m,n,c,b4,b5⟩
  unfold pR at c
  refine aC (aM (aT b4 (aH (v:=zS m l.length n) (aI ?_))))
  obtain rfl:=zI c
  exact bH (bF Tryz.results121 rfl ⟨m,n,rfl,b5⟩)
 have b8:=aK.nil (α:=Edge) b0 63 K
 obtain ⟨e4,b9,c⟩:=aD c
 refine cD b9 (fun (s:(List Edge × Int)) f w=>match s with|(d,e)=>∃ (g:Option Addr) (j:Nat),f 1=i64 k∧f 5=zS g d.length j∧f 9=zS a4 t.E.length c5∧f 10=i64 (t.E.length:Int)∧f 11=i64 e∧aK G K (aN 63 K g j d::L) w) ?_ ?_
 ·exact ⟨none,0,rfl,rfl,rfl,rfl,rfl,(aK.arr 2 [0] b8 rfl)⟩
 ·rintro ⟨d,e⟩ b1 f e5 b c0 ⟨g,j,x,y,z,J,p,V⟩
  replace b:jG t k d e=some b1:=b
  unfold jG at b
  refine aM (aF (cG p J) (aI (aQ ?_)))
  rcases aJ b with ⟨Z,b⟩|⟨Z,b⟩
  ·refine aO Z rfl (aY (aC (aQ (bE (fun f w=>∃ (o:List Edge) (q:Option Addr) (r:Nat),pS e o=some b1∧f 1=i64 k∧f 5=zS q o.length r∧f 9=zS a4 t.E.length c5∧f 10=i64 (t.E.length:Int)∧f 11=i64 e∧aK G K (aN 63 K q r o::L) w) ?_ ?_))))
   ·rintro f e6 ⟨o,q,r,b,c1,c3,c4,c6,c7,c8⟩
    unfold pS at b
    exact aC (aS (aF (cQ c7 rfl) (aP (v:=i64 (wr (e+1))) (aI ⟨(o,wr (e+1)),(zI b).symm,q,r,c1,c3,c4,c6,rfl,c8⟩))))
   refine aM ?_
   obtain ⟨a,b2,b⟩:=aD b
   refine aF (dN cK rfl h6 z rfl p b2) ?_
   obtain ⟨e7,c9,d0⟩:=dB.el (sz:=3) rfl h6 b2
   cases d0
   refine aF (fZ (t:=0) (vs:=[i64 a.F,i64 a.B,i64 a.To]) lU V c9 rfl rfl rfl) (bS (vs:=[i64 0,i64 0,i64 0]) Tryz.zeroValue63 V rfl (fun a0 e8 d1=>(bR (i:=0) (ns:=[i64 a.F,i64 a.B,i64 a.To]) (us:=[i64 a.F,i64 a.B,i64 a.To]) Tryz.sizeOf63 d1 rfl rfl rfl rfl rfl (cX rfl) rfl rfl (fun d2 (u:aK G K (box a0 63 [i64 a.F,i64 a.B,i64 a.To]::aN 63 K g j d::L) d2)=>(aI (aM (aF (bL (t':=0) kG rfl rfl) (aF (cC cV u (i:=0) rfl rfl rfl) (aT x (aF (oN rfl rfl) (aI ?_)))))))))))
   rcases aJ b with ⟨a2,b⟩|⟨a2,b⟩
   ·refine aO a2 rfl (aS (aT y (aF (dX (us:=[i64 a.F,i64 a.B,i64 a.To]) lU u (i:=0) rfl rfl rfl rfl) (cT (Kt:=K) (xs:=([a]:List Edge)) (cs:=[i64 a.F,i64 a.B,i64 a.To]) (vs:=[(0,zA #[i64 a.F,i64 a.B,i64 a.To])]) cK mD rfl rfl u rfl (by kernel_rfl) rfl rfl rfl ⟨rfl,trivial⟩ (fun d3 d4 (d5:aK G K (aN 63 K d3 1 ([a]:List Edge)::box a0 63 [i64 a.F,i64 a.B,i64 a.To]::aN 63 K g j d::L) d4)=>?_)))))
    obtain ⟨a3,d6,b⟩:=aD b
    exact eI (i:=1) cK Tryz.underlying27 mD rfl rfl d5 rfl (zR _) (zR _) d6 rfl rfl rfl rfl (fun _ h=>h) (fun a5 a6 d7 (d8:aK G K (box a0 63 [i64 a.F,i64 a.B,i64 a.To]::aN 63 K a5 a6 a3::L) d7)=>(aH (v:=zS a5 a3.length a6) (bA (bG (aC ⟨a3,a5,a6,b,x,rfl,z,J,p,(aK.arr 1 [] d8 rfl)⟩)))))
   ·exact aL a2 rfl (aY (bG (aC ⟨d,g,j,b,x,y,z,J,p,(aK.arr 1 [] u rfl)⟩)))
  ·refine aL Z rfl (cB (aV (aV ?_)))
   have d9:=c0 _ (zI b).symm
   subst d9
   have c:(pR d)=some R:=c
   exact bJ (aC ⟨d,g,j,c,y,V⟩)
theorem xS {p:bB} {R:Bool} (b:aK G K (L) w) (a:lM p=some R):
  Calls Tryz.prog 52 ([str p]:List Value).toArray w (iK fun v w'=>v=zB R∧aK G K (L) w'):=by
 refine aX Tryz.func52 rfl (by kernel_rfl) (by show (1:Nat)≤3;decide) ?_
 unfold lM at a
 refine aM (aH (v:=zB false) (aI (aM (aH (v:=zB true) (aI ?_)))))
 obtain rfl:=zI a
 exact bH (bF Tryz.results52 rfl ⟨rfl,b⟩)
theorem aEm {g R:(List Int)} (hs:aK G K (L) w) (h3:dB K a1 c2 g) (j:aCu g=some R):
  Calls Tryz.prog 93 ([zS a1 g.length c2]:List Value).toArray w (iK fun v w'=>∃ (a6:Option Addr) (a7:Nat),v=zS a6 R.length a7∧aK G K (aN 2 K a6 a7 R::L) w'):=by
 refine aX Tryz.func93 rfl (by kernel_rfl) (by show (1:Nat)≤39;decide) ?_
 unfold aCu at j
 refine aM (aH (v:=zS none 0 0) (aI (aM (aES Int Int hs ?_))))
 intro o w5 (b8:aK G K (iD o ([]:(List (Int × Int)))::L) w5)
 refine aH (v:=zM (some o)) (aI (aM (aP (v:=zS a1 g.length c2) (aF (bN (len:=g.length) bY rfl) ?_))))
 obtain ⟨b,q8,j⟩:=aD j
 refine aDp (e:=(0:Int)) bY lR rfl rfl b8 rfl rfl rfl q8 rfl ?_
 intro d c0 (c1:aK G K (aN 2 K d b.length b::iD o ([]:(List (Int × Int)))::L) c0)
 refine aH (v:=zS d b.length b.length) (aI (aQ (aM (aP (v:=zS a1 g.length c2) (aF (bN (len:=g.length) bY rfl) (aP (v:=i64 0) (aI (bE (fun f w=>∃ (r:List Int),aBU r=some R∧f 4=zS d r.length b.length∧aK G K (aN 2 K d b.length r::L) w) ?_ ?_))))))))
 ·rintro f e3 ⟨r,j,c3,c4⟩
  unfold aBU at j
  refine aC (aM (aT c3 (aH (v:=zS d r.length b.length) (aI ?_))))
  obtain rfl:=zI j
  exact bH (bF Tryz.results93 rfl ⟨d,b.length,rfl,c4⟩)
 obtain ⟨e4,c6,j⟩:=aD j
 refine cD c6 (fun (s:((List (Int × Int)) × List Int × Int)) f w=>match s with|(c,m,p)=>f 3=zM (some o)∧f 4=zS d m.length b.length∧f 13=zS a1 g.length c2∧f 14=i64 (g.length:Int)∧f 15=i64 p∧aK G K (aN 2 K d b.length m::iD o c::L) w) ?_ ?_
 ·exact ⟨rfl,rfl,rfl,rfl,rfl,c1⟩
 ·rintro ⟨c,m,p⟩ a8 f e5 a c7 ⟨u,V,Z,a0,x,q⟩
  replace a:nO g c m p=some a8:=a
  unfold nO at a
  refine aM (aF (cG x a0) (aI (aQ ?_)))
  rcases aJ a with ⟨a2,a⟩|⟨a2,a⟩
  ·refine aO a2 rfl (aY (aC (aQ (cW (aM (aT x ?_))))))
   obtain ⟨l,b0,a⟩:=aD a
   refine aF (dN bY rfl h3 Z rfl x b0) ?_
   obtain ⟨e6,c8,c9⟩:=dB.el (sz:=1) rfl h3 b0
   cases c9
   refine aF (bK (t:=0) cV q c8 rfl rfl) (aH (v:=i64 p) (aH (v:=i64 l) (aI (aM (aT u (aP (v:=i64 l) (aF (aJB (kv:=c) (k:=l) (z:=(0:Int)) Tryz.runUnderlying200 ko_2 Tryz.zeroValue2 q (i:=1) rfl rfl rfl) (aP (v:=zT #[i64 ((fS c l).getD 0),zB ((fS c l).isSome)]) (aF (bM rfl rfl) (aF (bM rfl rfl) (aH (v:=i64 ((fS c l).getD 0)) (aH (v:=zB ((fS c l).isSome)) (aI (aAo (fun f w=>∃ (y:(List (Int × Int))) (J:Int),aAl m p y J=some a8∧f 3=zM (some o)∧f 4=zS d m.length b.length∧f 5=i64 p∧f 7=i64 J∧f 13=zS a1 g.length c2∧f 14=i64 (g.length:Int)∧f 15=i64 p∧aK G K (aN 2 K d b.length m::iD o y::L) w) ?_ ?_))))))))))))))
   ·rintro f e7 ⟨y,J,a,d0,b1,d1,d2,d3,d4,d5,b2⟩
    unfold aAl at a
    refine aS (aT b1 (aT d1 (aT d2 ?_)))
    obtain ⟨e8,a3,a⟩:=aD a
    have d6:=cY b2 (i:=0) rfl a3
    refine aF (dW bY rfl d6 rfl rfl rfl a3) ?_
    obtain ⟨b3,b4,a⟩:=aD a
    exact mW (i:=0) (t:=0) (ns:=[i64 J]) (e':=(J:Int)) Tryz.sizeOf2 b2 rfl (zR _) rfl rfl rfl a3 b4 rfl rfl (cX rfl) rfl (fun cs h=>by cases h;rfl) (fun d7 (d8:aK G K (aN 2 K d b.length b3::iD o y::L) d7)=>(bA (bG (aC (aS (aF (cQ d5 rfl) (aP (v:=i64 (wr (p+1))) (aI ⟨(y,b3,wr (p+1)),(zI a).symm,d0,(Eq.trans b1 (congrArg (fun n=>zS d n b.length) (jP b4))),d3,d4,rfl,d8⟩))))))))
   refine aM (aP (v:=zB ((fS c l).isSome)) (aF (fC rfl) (aI ?_)))
   rcases aJ a with ⟨a4,a⟩|⟨a4,a⟩
   ·refine aO a4 rfl (aM (aT u (aF (R_lenM Tryz.runUnderlying200 q (i:=1) rfl rfl) (aH (v:=i64 (c.length:Int)) (aI (aS (aT u (aP (v:=i64 l) (aP (v:=i64 (c.length:Int)) ?_)))))))))
    obtain ⟨b5,d9,a⟩:=aD a
    exact aCg (i:=1) (k:=l) (v:=(c.length:Int)) Tryz.runUnderlying200 ko_2 q rfl rfl rfl rfl d9 (fun e0 (e1:aK G K (aN 2 K d b.length m::iD o b5::L) e0)=>(aI ⟨b5,(c.length:Int),a,u,V,rfl,rfl,Z,a0,x,e1⟩))
   ·exact aL a4 rfl (aY (aC ⟨c,((fS c l).getD 0),a,u,V,rfl,rfl,Z,a0,x,q⟩))
  ·refine aL a2 rfl (cB (aV (aV ?_)))
   have e2:=c7 _ (zI a).symm
   subst e2
   have j:(aBU m)=some R:=j
   exact bJ (aC ⟨m,j,V,(aK.arr 2 [0] q rfl)⟩)
end Gv
