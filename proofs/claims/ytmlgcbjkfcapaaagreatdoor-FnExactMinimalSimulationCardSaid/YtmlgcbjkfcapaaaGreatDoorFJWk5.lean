/- Walks, printed by program. -/
import Derived.Test.YtmlgcbjkfcapaaaGreatDoorFJWk4
set_option linter.all false
namespace Gv
open Go.Value renaming slice→zS,bool→zB,pointer→zP,agg→zA
open Option.some renaming inj→zI
open Gv.Hp renaming le_trans→zL,le_refl→zR
open Go Go.Proofs
set_option maxRecDepth 20000
set_option maxHeartbeats 40000000
variable {G:Env} {K:Hp} {L:List oT} {w:World} {a1 a4 a7 a3 a6:Option Addr} {c2 c5 c8 c7:Nat}
theorem tI {t:cH} {a:(List Int)} {R:cH} (hs:aK G K (L) w) (h3:cL K a1 c2 t.L) (h6:cL K a4 c5 t.E) (h9:cL K a7 c8 a) (l:tN t a=some R):
  Calls Tryz.prog 32 ([zA (zCa t a1 c2 a4 c5),zS a7 a.length c8]:List Value).toArray w (gO fun v w'=>∃ (f8:Option Addr) (f9:Nat) (g0:Option Addr) (g1:Nat),v=zA (zCa R f8 f9 g0 g1)∧aK G K (aV 9 K f8 f9 R.L::aV 63 K g0 g1 R.E::L) w'):=by
 let p:=zG
 let c4:=(zC t a1 c2 a4 c5)
 let z:=[zS a7 a.length c8]
 let e0:=[zS a1 t.L.length c2]
 refine aS Tryz.func32 rfl (by kernel_rfl) (by show (2:Nat)≤58;decide) ?_
 unfold tN at l
 refine aI (eE (v:=zA (zCa t a1 c2 a4 c5)) (vs:=c4) hs rfl rfl (fun c6 q9 j3=>(eE (v:=zS a7 a.length c8) (vs:=z) j3 rfl rfl (fun m r0 j4=>(bW (vs:=p) Tryz.zeroValue29 j4 rfl (fun o r1 j5=>(aG (aI (aC (qD (vs:=[zP (some ⟨m,0,none⟩)]) rfl) (aF (v:=Value.func (.func 82) #[] #[zP (some ⟨m,0,none⟩)]) (aG (aN (cN (fun f w=>∃ (n:Int) (c:List bH) (q:Nat) (d:Option Addr) (e:Nat),wU t a n c=some R∧f 2=zP (some ⟨c6,0,none⟩)∧f 4=zP (some ⟨o,0,none⟩)∧f 5=Value.func (.func 82) #[] #[zP (some ⟨m,0,none⟩)]∧f 6=zP (some ⟨q,0,none⟩)∧aK G K (aV 9 K d e c::box q 29 [i64 (a.length:Int),i64 n,zS d c.length e,zS none 0 0]::box o 29 p::box m 38 z::box c6 29 c4::L) w) ?_ ?_)))))))))))))
 ·rintro f r2 ⟨n,c,q,d,e,l,j6,j7,j8,j9,g2⟩
  unfold wU at l
  refine aA (aN (aI (aC (bG (t':=3) cK j6 rfl) (aC (cF fS g2 (i:=4) rfl rfl rfl) (aC (bT (len:=t.E.length) bY rfl) (aM (v:=i64 0) (aG (bC (fun f w=>∃ (c7:List Edge) (x:Option Addr) (y:Nat),sL a n c c7=some R∧f 4=zP (some ⟨o,0,none⟩)∧f 6=zP (some ⟨q,0,none⟩)∧aK G K (aV 63 K x y c7::aV 9 K d e c::box q 29 [i64 (a.length:Int),i64 n,zS d c.length e,zS x c7.length y]::box o 29 p::L) w) ?_ ?_))))))))
  ·rintro f r3 ⟨c7,x,y,l,g3,g4,g5⟩
   unfold sL at l
   refine aA (aI (aC (bG (t':=3) cK g4 rfl) (aC (cF fS g5 (i:=2) rfl rfl rfl) ?_)))
   obtain ⟨a3,k0,l⟩:=aB l
   refine aU (vs:=[zS x c7.length y,Value.func (.func 81) #[] #[]]) Tryz.call85 rfl (lib_SortEdge g5 k0) ?_
   rintro _ k1 ⟨rfl,k2,k3⟩
   have g6:aK G K (aV 63 K x y a3::aV 9 K d e c::box q 29 [i64 (a.length:Int),i64 n,zS d c.length e,zS x a3.length y]::box o 29 p::L) k1:=by rw [←k2];exact k3
   refine aG (aI (aC (dF (us:=[i64 (a.length:Int),i64 n,zS d c.length e,zS x a3.length y]) eC g6 (i:=2) rfl g4 rfl rfl) (cD (i:=3) (ns:=[i64 (a.length:Int),i64 n,zS d c.length e,zS x a3.length y]) (us:=[i64 (a.length:Int),i64 n,zS d c.length e,zS x a3.length y]) Tryz.sizeOf29 g6 rfl g3 rfl rfl rfl (dK rfl) rfl rfl (fun k4 (g7:aK G K (aV 63 K x y a3::aV 9 K d e c::box q 29 [i64 (a.length:Int),i64 n,zS d c.length e,zS x a3.length y]::box o 29 [i64 (a.length:Int),i64 n,zS d c.length e,zS x a3.length y]::L) k4)=>(aG ?_)))))
   obtain rfl:=zI l
   exact bF (sX Tryz.results32 (kQ (vs:=[i64 (a.length:Int),i64 n,zS d c.length e,zS x a3.length y]) rfl eC g7 (i:=3) rfl g3 rfl) ⟨d,e,x,y,rfl,(aK.arr 4 [1,0] g7 rfl)⟩)
  have k6:=aK.nil (α:=Edge) g2 63 K
  obtain ⟨r4,k7,l⟩:=aB l
  refine cA k7 (fun (s:(List Edge × Int)) f w=>match s with|(r,a5)=>∃ (J:Option Addr) (V:Nat),f 4=zP (some ⟨o,0,none⟩)∧f 5=Value.func (.func 82) #[] #[zP (some ⟨m,0,none⟩)]∧f 6=zP (some ⟨q,0,none⟩)∧f 23=zS a4 t.E.length c5∧f 24=i64 (t.E.length:Int)∧f 25=i64 a5∧aK G K (aV 63 K J V r::aV 9 K d e c::box q 29 [i64 (a.length:Int),i64 n,zS d c.length e,zS J r.length V]::box o 29 p::box m 38 z::L) w) ?_ ?_
  ·exact ⟨none,0,j7,j8,j9,rfl,rfl,rfl,(aK.arr 6 [0,1,2,3,4] k6 rfl)⟩
  ·rintro ⟨r,a5⟩ e1 f r5 k k8 ⟨J,V,e2,d3,e3,e4,e5,d4,e6⟩
   replace k:nB t a r a5=some e1:=k
   unfold nB at k
   refine aI (aC (cJ d4 e5) (aG (aN ?_)))
   rcases aH k with ⟨e7,k⟩|⟨e7,k⟩
   ·refine aL e7 rfl (aY (aA (aN (bC (fun f w=>∃ (c9:List Edge) (d5:Option Addr) (d6:Nat),mZ a5 c9=some e1∧f 4=zP (some ⟨o,0,none⟩)∧f 5=Value.func (.func 82) #[] #[zP (some ⟨m,0,none⟩)]∧f 6=zP (some ⟨q,0,none⟩)∧f 23=zS a4 t.E.length c5∧f 24=i64 (t.E.length:Int)∧f 25=i64 a5∧aK G K (aV 63 K d5 d6 c9::aV 9 K d e c::box q 29 [i64 (a.length:Int),i64 n,zS d c.length e,zS d5 c9.length d6]::box o 29 p::box m 38 z::L) w) ?_ ?_))))
    ·rintro f r6 ⟨c9,d5,d6,k,k9,l0,l1,l2,l3,l4,l5⟩
     unfold mZ at k
     exact aA (aP (aC (cM l4 rfl) (aM (v:=i64 (wr (a5+1))) (aG ⟨(c9,wr (a5+1)),(zI k).symm,d5,d6,k9,l0,l1,l2,l3,rfl,l5⟩))))
    refine aI ?_
    obtain ⟨b,g8,k⟩:=aB k
    refine aC (cT bY rfl h6 e4 rfl d4 g8) ?_
    obtain ⟨r7,l6,l7⟩:=cL.el (sz:=3) rfl h6 g8
    cases l7
    refine aC (gG (t:=0) (vs:=[i64 b.F,i64 b.B,i64 b.To]) iJ e6 l6 rfl rfl rfl) (bW (vs:=[i64 0,i64 0,i64 0]) Tryz.zeroValue63 e6 rfl (fun b8 r8 l8=>(cD (i:=0) (ns:=[i64 b.F,i64 b.B,i64 b.To]) (us:=[i64 b.F,i64 b.B,i64 b.To]) Tryz.sizeOf63 l8 rfl rfl rfl rfl rfl (dK rfl) rfl rfl (fun l9 (m0:aK G K (box b8 63 [i64 b.F,i64 b.B,i64 b.To]::aV 63 K J V r::aV 9 K d e c::box q 29 [i64 (a.length:Int),i64 n,zS d c.length e,zS J r.length V]::box o 29 p::box m 38 z::L) l9)=>(aG (aN ?_))))))
    obtain ⟨m1,g9,h0,h1,m2⟩:=aK.lendB (i:=0) m0 rfl
    refine iB (C:=fun w'=>∃ L',aK G m1 L' w') [(0,0),(1,0),(2,0),(4,0),(5,0),(6,0),(3,1),(7,1),(8,0),(9,0)] bU (by kernel_rfl) (fun _ hg=>⟨_,aK.mono h1 hg⟩) (fun r9 m3=>?_)
    have d0:=aK.mono h1 m3
    refine bX rfl (fun _ _=>bD d3) (bX rfl (fun _ _=>bG (t':=0) fJ rfl rfl) (bX rfl (fun _ ⟨_,d0⟩=>bJ (t:=0) cE d0 h0 rfl rfl) (bX rfl (fun _ _=>bD d3) (bX rfl (fun _ _=>bG (t':=2) eM rfl rfl) (bX rfl (fun _ ⟨_,d0⟩=>bJ (t:=2) cE d0 h0 rfl rfl) (nD rfl ?_))))))
    obtain ⟨s0,m4,m5,m6,m7⟩:=aK.lendB (i:=4) d0 rfl
    obtain ⟨a2,m8,k⟩:=aB k
    refine jX (vs:=[i64 b.F]) (caps:=[bV (some ⟨m,0,none⟩) 0]) (us:=[i64 b.F,bV (some ⟨m,0,none⟩) 0]) rfl Tryz.call82 rfl rfl (oP m6 m5 (h9.mono (zL g9 m4)) m8) ?_
    rintro _ s1 ⟨rfl,m9⟩
    have h2:=m7 _ _ m9
    refine bK (aA ⟨⟨_,h2⟩,?_⟩)
    refine nD rfl ?_
    obtain ⟨s2,n0,n1,n2,n3⟩:=aK.lendB (i:=0) h2 rfl
    obtain ⟨Z,n4,k⟩:=aB k
    refine jX (vs:=[i64 b.To]) (caps:=[bV (some ⟨m,0,none⟩) 0]) (us:=[i64 b.To,bV (some ⟨m,0,none⟩) 0]) rfl Tryz.call82 rfl rfl (oP n2 n1 (h9.mono (zL g9 n0)) n4) ?_
    rintro _ s3 ⟨rfl,n5⟩
    have h4:=n3 _ _ n5
    refine bK (aA ⟨⟨_,h4⟩,?_⟩)
    refine bX rfl (fun _ _=>gF (v:=i64 a2) rfl) (bX rfl (fun _ _=>gF (v:=i64 Z) rfl) (mP ?_))
    have h5:=m2 _ _ h4
    refine aA (aN (cN (fun f w=>∃ (e8:Bool),nA r a5 b a2 Z e8=some e1∧f 4=zP (some ⟨o,0,none⟩)∧f 5=Value.func (.func 82) #[] #[zP (some ⟨m,0,none⟩)]∧f 6=zP (some ⟨q,0,none⟩)∧f 8=zP (some ⟨b8,0,none⟩)∧f 9=i64 a2∧f 10=i64 Z∧f 23=zS a4 t.E.length c5∧f 24=i64 (t.E.length:Int)∧f 25=i64 a5∧f 42=zB e8∧aK G K (box b8 63 [i64 b.F,i64 b.B,i64 b.To]::box m 38 z::aV 63 K J V r::aV 9 K d e c::box q 29 [i64 (a.length:Int),i64 n,zS d c.length e,zS J r.length V]::box o 29 p::L) w) ?_ ?_))
    ·rintro f s4 ⟨e8,k,h7,h8,d7,n6,n7,n8,i0,i1,i2,i3,d8⟩
     unfold nA at k
     refine aA ?_
     rcases aH k with ⟨e9,k⟩|⟨e9,k⟩
     ·refine aL e9 i3 (aP (aC (bG (t':=3) cK d7 rfl) (aC (cF fS d8 (i:=4) rfl rfl rfl) (aO n7 (aC (bG (t':=1) gB n6 rfl) (aC (cF cE d8 (i:=0) rfl rfl rfl) (aO n8 (aC (kA (vs:=[(0,i64 a2),(1,i64 b.B),(2,i64 Z)]) (cs:=[i64 a2,i64 b.B,i64 Z]) bs_63 rfl (by kernel_rfl)) (dJ (Kt:=K) (xs:=([⟨a2,b.B,Z⟩]:List Edge)) (cs:=[i64 a2,i64 b.B,i64 Z]) (vs:=[(0,zA #[i64 a2,i64 b.B,i64 Z])]) bY lD rfl rfl d8 rfl (by kernel_rfl) rfl rfl rfl ⟨rfl,trivial⟩ (fun n9 o0 (o1:aK G K (aV 63 K n9 1 ([⟨a2,b.B,Z⟩]:List Edge)::box b8 63 [i64 b.F,i64 b.B,i64 b.To]::box m 38 z::aV 63 K J V r::aV 9 K d e c::box q 29 [i64 (a.length:Int),i64 n,zS d c.length e,zS J r.length V]::box o 29 p::L) o0)=>?_))))))))))
      obtain ⟨b9,o2,k⟩:=aB k
      exact iA (i:=2) bY Tryz.underlying27 lD rfl rfl o1 rfl (zR _) (zR _) o2 rfl rfl rfl rfl (fun _ h=>h) (fun c0 c1 o3 (o4:aK G K (box b8 63 [i64 b.F,i64 b.B,i64 b.To]::box m 38 z::aV 63 K c0 c1 b9::aV 9 K d e c::box q 29 [i64 (a.length:Int),i64 n,zS d c.length e,zS J r.length V]::box o 29 p::L) o3)=>(aC (bG (t':=3) cK d7 rfl) (cD (i:=4) (ns:=[zS c0 b9.length c1]) (us:=[i64 (a.length:Int),i64 n,zS d c.length e,zS c0 b9.length c1]) Tryz.sizeOf27 o4 rfl rfl rfl rfl rfl (dK rfl) rfl rfl (fun o5 (o6:aK G K (box b8 63 [i64 b.F,i64 b.B,i64 b.To]::box m 38 z::aV 63 K c0 c1 b9::aV 9 K d e c::box q 29 [i64 (a.length:Int),i64 n,zS d c.length e,zS c0 b9.length c1]::box o 29 p::L) o5)=>(bK (bE (aA ⟨b9,c0,c1,k,h7,h8,d7,i0,i1,i2,(aK.arr 6 [2,3,4,5,1] o6 rfl)⟩)))))))
     ·exact aJ e9 i3 (aY (bE (aA ⟨r,J,V,k,h7,h8,d7,i0,i1,i2,(aK.arr 6 [2,3,4,5,1] d8 rfl)⟩)))
    refine aP (aM (v:=i64 a2) (aC (uI rfl rfl) (aM (v:=zB (decide (0≤a2))) ?_)))
    rcases aH k with ⟨a8,k⟩|⟨a8,k⟩
    ·exact bA a8 rfl rfl (aM (v:=i64 Z) (bA a8 rfl rfl (aC (uI rfl rfl) (aC (bI (v:=zB (decide (0≤Z))) a8 rfl rfl) (aG ⟨decide (0≤Z),k,e2,d3,e3,rfl,rfl,rfl,e4,e5,d4,rfl,h5⟩)))))
    ·exact aQ a8 rfl rfl (aQ a8 rfl rfl (aC (bL (v:=zB false) a8 rfl rfl) (aG ⟨false,k,e2,d3,e3,rfl,rfl,rfl,e4,e5,d4,rfl,h5⟩)))
   ·refine aJ e7 rfl (bZ (aW (aW ?_)))
    have o7:=k8 _ (zI k).symm
    subst o7
    have l:(sL a n c r)=some R:=l
    exact bO (aA ⟨r,J,V,l,e2,e3,(aK.arr 5 [0,1,2,3] e6 rfl)⟩)
 obtain ⟨s5,d1,f0,o8,f1⟩:=aK.lendB (i:=1) j5 rfl
 obtain ⟨o9,a6,i4,p0,f2⟩:=aK.lendB (i:=1) o8 rfl
 refine aCt (C:=fun w'=>∃ L',aK G o9 L' w') [11] bU (by kernel_rfl) (fun s6 p1=>?_)
 have u:=aK.mono p0 p1
 refine xR (i:=0) rfl (by kernel_rfl) ⟨_,u⟩ (fun _ ⟨_,u⟩=>bJ (t:=0) sc_38 u (f0.mono a6) rfl rfl) (xR (i:=1) rfl (by kernel_rfl) ⟨_,u⟩ (fun _ _=>bT (len:=a.length) cG rfl) (xR (i:=2) rfl (by kernel_rfl) ⟨_,u⟩ (fun _ _=>bD (v:=Value.func (.func 82) #[] #[zP (some ⟨m,0,none⟩)]) rfl) (xR (i:=3) rfl (by kernel_rfl) ⟨_,u⟩ (fun _ _=>bG (t':=1) nE rfl rfl) (xR (i:=4) rfl (by kernel_rfl) ⟨_,u⟩ (fun _ ⟨_,u⟩=>bJ (t:=1) cE u i4 rfl rfl) (xR (i:=6) rfl (by kernel_rfl) ⟨_,u⟩ (fun _ _=>bG (t':=2) gI rfl rfl) (xR (i:=7) rfl (by kernel_rfl) ⟨_,u⟩ (fun _ ⟨_,u⟩=>bJ (t:=2) mG u i4 rfl rfl) (yF (i:=5) (j:=10) (by kernel_rfl) rfl rfl ?_ ?_)))))))
 ·obtain ⟨a0,p2,l⟩:=aB l
  refine jX (vs:=[i64 t.I]) (caps:=[bV (some ⟨m,0,none⟩) 0]) (us:=[i64 t.I,bV (some ⟨m,0,none⟩) 0]) rfl Tryz.call82 rfl rfl (oP u (f0.mono a6) (h9.mono (zL d1 a6)) p2) ?_
  rintro _ s7 ⟨rfl,f3⟩
  refine bK (aA ⟨fun _=>⟨_,f3⟩,?_⟩)
  refine yF (i:=8) (j:=10) (by kernel_rfl) rfl rfl ?_ ?_
  ·obtain ⟨a9,p3,l⟩:=aB l
   refine aU (vs:=e0) Tryz.call84 rfl (cZ f3 (h3.mono (zL d1 a6)) p3) ?_
   rintro _ s8 ⟨b0,b1,rfl,f4⟩
   refine bK (aA ⟨fun _=>⟨_,f4⟩,?_⟩)
   refine xR (i:=9) rfl (by kernel_rfl) ⟨_,f4⟩ (fun _ _=>kA (vs:=[(0,i64 (a.length:Int)),(1,i64 a0),(2,zS b0 a9.length b1)]) (cs:=[i64 (a.length:Int),i64 a0,zS b0 a9.length b1,zS none 0 0]) aAX rfl (by kernel_rfl)) (fW (i:=10) (by kernel_rfl) rfl (bW (vs:=p) Tryz.zeroValue29 f4 rfl (fun i5 s9 i6=>(bK (aA ⟨fun _=>⟨_,i6⟩,?_⟩)))))
   refine fW (i:=11) (by kernel_rfl) rfl ?_
   have p4:=f2 _ _ i6
   have p5:=f1 _ _ p4
   refine cD (i:=2) (ns:=[i64 (a.length:Int),i64 a0,zS b0 a9.length b1,zS none 0 0]) (us:=[i64 (a.length:Int),i64 a0,zS b0 a9.length b1,zS none 0 0]) Tryz.sizeOf29 p5 rfl rfl rfl rfl rfl (dK rfl) rfl rfl (fun p6 (p7:aK G K (box m 38 z::box c6 29 c4::box i5 29 [i64 (a.length:Int),i64 a0,zS b0 a9.length b1,zS none 0 0]::aV 9 K b0 b1 a9::box o 29 p::L) p6)=>(bK (aA ⟨aEe rfl,?_⟩)))
   exact rB (by kernel_rfl) (aA ⟨a0,a9,i5,b0,b1,l,rfl,rfl,rfl,rfl,(aK.arr 5 [3,2,4,0,1] p7 rfl)⟩)
  ·refine bW (vs:=p) Tryz.zeroValue29 f3 rfl (fun i7 t0 i8=>(bK (aA ⟨fun _=>⟨_,i8⟩,?_⟩)))
   refine fW (i:=8) (by kernel_rfl) rfl ?_
   obtain ⟨b2,p8,l⟩:=aB l
   refine aU (vs:=e0) Tryz.call84 rfl (cZ i8 (h3.mono (zL d1 a6)) p8) ?_
   rintro _ t1 ⟨b3,b4,rfl,f5⟩
   refine bK (aA ⟨fun _=>⟨_,f5⟩,?_⟩)
   refine xR (i:=9) rfl (by kernel_rfl) ⟨_,f5⟩ (fun _ _=>kA (vs:=[(0,i64 (a.length:Int)),(1,i64 a0),(2,zS b3 b2.length b4)]) (cs:=[i64 (a.length:Int),i64 a0,zS b3 b2.length b4,zS none 0 0]) aAX rfl (by kernel_rfl)) (fW (i:=11) (by kernel_rfl) rfl ?_)
   have p9:=f2 _ _ f5
   have q0:=f1 _ _ p9
   refine cD (i:=3) (ns:=[i64 (a.length:Int),i64 a0,zS b3 b2.length b4,zS none 0 0]) (us:=[i64 (a.length:Int),i64 a0,zS b3 b2.length b4,zS none 0 0]) Tryz.sizeOf29 q0 rfl rfl rfl rfl rfl (dK rfl) rfl rfl (fun q1 (q2:aK G K (box m 38 z::box c6 29 c4::aV 9 K b3 b4 b2::box i7 29 [i64 (a.length:Int),i64 a0,zS b3 b2.length b4,zS none 0 0]::box o 29 p::L) q1)=>(bK (aA ⟨aEe rfl,?_⟩)))
   exact rB (by kernel_rfl) (aA ⟨a0,b2,i7,b3,b4,l,rfl,rfl,rfl,rfl,(aK.arr 5 [2,3,4,0,1] q2 rfl)⟩)
 ·refine bW (vs:=p) Tryz.zeroValue29 u rfl (fun i9 t2 j0=>(bK (aA ⟨fun _=>⟨_,j0⟩,?_⟩)))
  refine fW (i:=5) (by kernel_rfl) rfl ?_
  obtain ⟨c3,q3,l⟩:=aB l
  refine jX (vs:=[i64 t.I]) (caps:=[bV (some ⟨m,0,none⟩) 0]) (us:=[i64 t.I,bV (some ⟨m,0,none⟩) 0]) rfl Tryz.call82 rfl rfl (oP j0 (f0.mono a6) (h9.mono (zL d1 a6)) q3) ?_
  rintro _ t3 ⟨rfl,j1⟩
  refine bK (aA ⟨fun _=>⟨_,j1⟩,?_⟩)
  refine fW (i:=8) (by kernel_rfl) rfl ?_
  obtain ⟨b5,q4,l⟩:=aB l
  refine aU (vs:=e0) Tryz.call84 rfl (cZ j1 (h3.mono (zL d1 a6)) q4) ?_
  rintro _ t4 ⟨b6,b7,rfl,f6⟩
  refine bK (aA ⟨fun _=>⟨_,f6⟩,?_⟩)
  refine xR (i:=9) rfl (by kernel_rfl) ⟨_,f6⟩ (fun _ _=>kA (vs:=[(0,i64 (a.length:Int)),(1,i64 c3),(2,zS b6 b5.length b7)]) (cs:=[i64 (a.length:Int),i64 c3,zS b6 b5.length b7,zS none 0 0]) aAX rfl (by kernel_rfl)) (fW (i:=11) (by kernel_rfl) rfl ?_)
  have q5:=f2 _ _ f6
  have q6:=f1 _ _ q5
  refine cD (i:=3) (ns:=[i64 (a.length:Int),i64 c3,zS b6 b5.length b7,zS none 0 0]) (us:=[i64 (a.length:Int),i64 c3,zS b6 b5.length b7,zS none 0 0]) Tryz.sizeOf29 q6 rfl rfl rfl rfl rfl (dK rfl) rfl rfl (fun q7 (q8:aK G K (box m 38 z::box c6 29 c4::aV 9 K b6 b7 b5::box i9 29 [i64 (a.length:Int),i64 c3,zS b6 b5.length b7,zS none 0 0]::box o 29 p::L) q7)=>(bK (aA ⟨aEe rfl,?_⟩)))
  exact rB (by kernel_rfl) (aA ⟨c3,b5,i9,b6,b7,l,rfl,rfl,rfl,rfl,(aK.arr 5 [2,3,4,0,1] q8 rfl)⟩)
theorem sV {j:(List Int)} {m:Int} {R:(List Int)} (hs:aK G K (L) w) (h3:cL K a1 c2 j) (a:fT j m=some R):
  Calls Tryz.prog 166 ([zS a1 j.length c2,i64 m]:List Value).toArray w (gO fun v w'=>∃ (Z:Option Addr) (a0:Nat),v=zS Z R.length a0∧aK G K (aV 2 K Z a0 R::L) w'):=by
 refine aS Tryz.func166 rfl (by kernel_rfl) (by show (2:Nat)≤48;decide) ?_
 unfold fT at a
 refine aI (aF (v:=zS none 0 0) (aG (aAF (fun f w=>gN j m=some R∧f 0=zS a1 j.length c2∧f 1=i64 m∧aK G K (L) w) ?_ ?_)))
 ·rintro f w6 ⟨a,u,e5,b7⟩
  unfold gN at a
  refine aI (aO u (aC (bT (len:=j.length) cG rfl) (aC (aHb Tryz.runUnderlying194 rfl ⟨_,Tryz.runUnderlying3⟩) (aO e5 (aC (aHb Tryz.runUnderlying194 rfl ⟨_,Tryz.runUnderlying3⟩) ?_)))))
  obtain ⟨h,q9,a⟩:=aB a
  refine aU (vs:=[Value.int .u64 (aEc (j.length:Int)),Value.int .u64 (aEc m)]) Tryz.call202 rfl (lib_Mul b7 q9) ?_
  rintro _ e6 ⟨rfl,a2⟩
  refine aM (v:=Value.tuple #[Value.int .u64 h.1,Value.int .u64 h.2]) (aC (dE rfl rfl) (aC (dE rfl rfl) (aF (v:=Value.int .u64 h.1) (aF (v:=Value.int .u64 h.2) (aG (aAF (fun f w=>gM j h=some R∧f 0=zS a1 j.length c2∧f 6=Value.int .u64 h.2∧aK G K (L) w) ?_ ?_))))))
  ·rintro f e7 ⟨a,b9,c0,c1⟩
   unfold gM at a
   refine aI (aO c0 (aC (aIB Tryz.runUnderlying3 rfl ⟨_,Tryz.runUnderlying194⟩) ?_))
   obtain ⟨b,c3,a⟩:=aB a
   refine aDv (e:=(0:Int)) cG qE rfl rfl c1 rfl rfl rfl c3 rfl (fun c c4 (a3:aK G K (aV 2 K c b.length b::L) c4)=>(aF (v:=zS c b.length b.length) (aG (aI (aM (v:=zS c b.length b.length) (aO b9 ?_))))))
   obtain ⟨c5,a4,a⟩:=aB a
   refine aIP cG rfl a3 (i:=0) rfl Cut.whole rfl rfl rfl (aHg _ _ _) aFE (aIQ rfl a3 h3) a4 (fun c6 (c7:aK G K (aV 2 K c b.length c5::L) c6)=>(aF (v:=i64 ((Nat.min j.length b.length):Int)) (aG (aN (bC (fun f w=>∃ (p:List Int),gL p=some R∧f 7=zS c p.length b.length∧aK G K (aV 2 K c b.length p::L) w) ?_ ?_)))))
   ·rintro f e8 ⟨p,a,c8,c9⟩
    unfold gL at a
    refine aA (aI (aO c8 (aF (v:=zS c p.length b.length) (aG ?_))))
    obtain rfl:=zI a
    exact bF (bB Tryz.results166 rfl ⟨c,b.length,rfl,c9⟩)
   obtain ⟨e9,d1,a⟩:=aB a
   refine cA d1 (fun (s:(List Int × Int)) f w=>match s with|(k,o)=>f 7=zS c k.length b.length∧f 8=i64 o∧aK G K (aV 2 K c b.length k::L) w) ?_ ?_
   ·exact ⟨(Eq.trans rfl (congrArg (fun n=>zS c n b.length) (aCs a4))),rfl,c7⟩
   ·rintro ⟨k,o⟩ d2 f f0 d d3 ⟨q,r,x⟩
    replace d:eX k o=some d2:=d
    unfold eX at d
    refine aN (aI (aO r (aO q (aC (bT (len:=k.length) cG rfl) (aC (cJ rfl rfl) (aG ?_))))))
    rcases aH d with ⟨y,d⟩|⟨y,d⟩
    ·refine aL y rfl (aY (aA (cP (iB (C:=fun w'=>∃ L',aK G K L' w') [(0,0),(1,0),(2,0),(3,0),(4,0),(5,0),(6,0),(7,1),(8,0),(9,0)] bU (by kernel_rfl) (fun _ hg=>⟨_,aK.mono x hg⟩) (fun f1 d4=>?_)))))
     have t:=aK.mono x d4
     refine bX rfl (fun _ _=>bD r) (bX rfl (fun _ _=>bD q) (bX rfl (fun _ _=>bD r) ?_))
     obtain ⟨a5,d5,d⟩:=aB d
     have d6:=oE t (i:=0) rfl
     obtain ⟨f2,f3,a6⟩:=Cut.ex 1 c b.length o
     refine bX rfl (fun _ _=>aBs cG d6 a6 rfl rfl rfl d5) (bX rfl (fun _ _=>bD q) (bX rfl (fun _ _=>bD r) ?_))
     obtain ⟨a7,a8,d⟩:=aB d
     have d7:=oE t (i:=0) rfl
     obtain ⟨f4,f5,a9⟩:=Cut.ex 1 c b.length 0
     refine bX rfl (fun _ _=>aFF cG d7 a9 rfl rfl rfl a8) (nD rfl ?_)
     obtain ⟨b0,b1,d⟩:=aB d
     refine aIP cG rfl t (i:=0) rfl a6 rfl rfl rfl (aHg _ _ _) aFE (aJY rfl t (i:=0) rfl a8 a9) b1 (fun d8 (b2:aK G K (aV 2 K c b.length b0::L) d8)=>(bK (aA ⟨⟨_,b2⟩,?_⟩)))
     exact bX rfl (fun _ _=>cM rfl rfl) (bX rfl (fun _ _=>gF (v:=i64 (wr (o+((Nat.min a7.length a5.length):Int)))) rfl) (mP (bE (aA ⟨(b0,wr (o+((Nat.min a7.length a5.length):Int))),(zI d).symm,(Eq.trans q (congrArg (fun n=>zS c n b.length) (aCs b1))),rfl,b2⟩))))
    ·refine aJ y rfl (bZ (aW (aW ?_)))
     have d9:=d3 _ (zI d).symm
     subst d9
     have a:(gL k)=some R:=a
     exact bO (aA ⟨k,a,q,x⟩)
  refine aN (cN (fun f w=>∃ (z:Bool),eY j h z=some R∧f 0=zS a1 j.length c2∧f 6=Value.int .u64 h.2∧f 26=zB z∧aK G K (L) w) ?_ ?_)
  ·rintro f f6 ⟨z,a,e0,e1,b3,e2⟩
   unfold eY at a
   refine aA ?_
   rcases aH a with ⟨J,a⟩|⟨J,a⟩
   ·refine aL J b3 (aP ?_)
    cases a
   ·exact aJ J b3 (aY (aA ⟨a,e0,e1,e2⟩))
  refine aP (aM (v:=Value.int .u64 h.1) (aC (qC rfl rfl) (aM (v:=zB (decide (0 < h.1))) ?_)))
  rcases aH a with ⟨l,a⟩|⟨l,a⟩
  ·exact aZ l rfl rfl (aZ l rfl rfl (aC (bI (v:=zB true) l rfl rfl) (aG ⟨true,a,u,rfl,rfl,a2⟩)))
  ·exact bN l rfl rfl (aM (v:=Value.int .u64 h.2) (bN l rfl rfl (aC (qC rfl rfl) (aC (bL (v:=zB (decide (9223372036854775807 < h.2))) l rfl rfl) (aG ⟨decide (9223372036854775807 < h.2),a,u,rfl,rfl,a2⟩)))))
 refine aI (aM (v:=i64 m) (aC (cJ rfl rfl) (aG ?_)))
 rcases aH a with ⟨V,a⟩|⟨V,a⟩
 ·refine aL V rfl (aP ?_)
  cases a
 ·exact aJ V rfl (aY (aA ⟨a,rfl,rfl,hs⟩))
theorem lS {b R:(List Int)} (e:aK G K (L) w) (g:cL K a1 c2 b) (a:fX b=some R):
  Calls Tryz.prog 154 ([zS a1 b.length c2]:List Value).toArray w (gO fun v w'=>∃ (h:Option Addr) (j:Nat),v=zS h R.length j∧aK G K (aV 2 K h j R::L) w'):=by
 refine aS Tryz.func154 rfl (by kernel_rfl) (by show (1:Nat)≤8;decide) ?_
 unfold fX at a
 refine aI (aF (v:=zS none 0 0) (aG (aN (aI (aM (v:=zS a1 b.length c2) (aC (aHO cG rfl rfl) (aG ?_)))))))
 rcases aEi g with ⟨l,m,n⟩|o
 ·subst l;subst m;subst n
  refine aFs rfl ?_
  replace a:(some [])=some R:=a
  refine aI (aF (v:=zS none 0 0) (aG ?_))
  have p:=aK.nil (α:=Int) e 2 K
  obtain rfl:=zI a
  exact bF (aR (bB Tryz.results154 rfl ⟨none,0,rfl,p⟩))
 ·refine aFt (Eq.trans rfl (congrArg zB o)) (aY (aA (aI (dJ (Kt:=K) (xs:=([]:List Int)) (cs:=[]) (vs:=[]) cG qE rfl rfl e rfl (by kernel_rfl) rfl rfl rfl trivial (fun r t (u:aK G K (aV 2 K r 0 ([]:List Int)::L) t)=>(aM (v:=zS a1 b.length c2) ?_))))))
  obtain ⟨k,x,a⟩:=aB a
  refine aCS (i:=0) cG Tryz.underlying38 qE rfl rfl u rfl (zR _) g x rfl rfl rfl rfl (fun c d y (z:aK G K (aV 2 K c d k::L) y)=>(aF (v:=zS c k.length d) (aG ?_)))
  obtain rfl:=zI a
  exact bF (bB Tryz.results154 rfl ⟨c,d,rfl,z⟩)
theorem aCn {t:cH} {z:(List Int)} {o:Bool} {R:(List Int)} (hs:aK G K (L) w) (h3:cL K a1 c2 t.L) (h6:cL K a4 c5 t.E) (h9:cL K a7 c8 z) (k:oW t z o=some R):
  Calls Tryz.prog 86 ([zA (zCa t a1 c2 a4 c5),zS a7 z.length c8,zB o]:List Value).toArray w (gO fun v w'=>∃ (h0:Option Addr) (h1:Nat),v=zS h0 R.length h1∧aK G K (aV 2 K h0 h1 R::L) w'):=by
 let l:=(zC t a1 c2 a4 c5)
 refine aS Tryz.func86 rfl (by kernel_rfl) (by show (3:Nat)≤79;decide) ?_
 unfold oW at k
 refine aI (eE (v:=zA (zCa t a1 c2 a4 c5)) (vs:=l) hs rfl rfl (fun d s8 l6=>(aF (v:=zS none 0 0) (aG (aI (dJ (Kt:=K) (xs:=([(-1)]:List Int)) (cs:=[i64 (-1)]) (vs:=[(0,i64 (-1))]) cG qE rfl rfl l6 rfl (by kernel_rfl) rfl rfl rfl ⟨rfl,trivial⟩ (fun h2 l7 (h4:aK G K (aV 2 K h2 1 ([(-1)]:List Int)::box d 29 l::L) l7)=>(aC (bG (t':=0) iM rfl rfl) (aC (cF cE h4 (i:=1) rfl rfl rfl) ?_)))))))))
 obtain ⟨s9,t0,l8,l9,m0⟩:=aK.lendS (i:=0) h4 (zR _) rfl
 obtain ⟨m1,m2,k⟩:=aB k
 refine aU (vs:=[zS h2 ([(-1)]:List Int).length 1,i64 t.N]) Tryz.call166 rfl (sV l9 l8 m2) ?_
 rintro _ t1 ⟨b,c,rfl,m3⟩
 have m4:=m0 _ _ m3
 refine aF (v:=zS b m1.length c) (aG (aI (aM (v:=zS a7 z.length c8) ?_)))
 obtain ⟨a0,m5,k⟩:=aB k
 refine aU (vs:=[zS a7 z.length c8]) Tryz.call154 rfl (lS m4 h9 m5) ?_
 rintro _ t2 ⟨a2,a3,rfl,m6⟩
 refine aF (v:=zS a2 a0.length a3) (aG (aN (aI (aM (v:=zS a7 z.length c8) (aC (bT (len:=z.length) cG rfl) (aM (v:=i64 0) (aG (bC (fun f w=>∃ (b8:List Int),lQ t o a0 b8=some R∧f 2=zB o∧f 3=zP (some ⟨d,0,none⟩)∧f 7=zS b b8.length c∧f 8=zS a2 a0.length a3∧aK G K (aV 2 K a2 a3 a0::aV 2 K b c b8::box d 29 l::L) w) ?_ ?_))))))))
 ·rintro f t3 ⟨b8,k,m7,m8,m9,n0,n1⟩
  unfold lQ at k
  refine aA (aN (bC (fun f w=>∃ (a8:List Int),oL a8=some R∧f 7=zS b a8.length c∧aK G K (aV 2 K b c a8::L) w) ?_ ?_))
  ·rintro f t4 ⟨a8,k,n2,n3⟩
   unfold oL at k
   refine aA (aI (aO n2 (aF (v:=zS b a8.length c) (aG ?_))))
   obtain rfl:=zI k
   exact bF (bB Tryz.results86 rfl ⟨b,c,rfl,n3⟩)
  obtain ⟨t5,n5,k⟩:=aB k
  refine cA n5 (fun (s:(List Int × List Int)) f w=>match s with|(a5,a9)=>∃ (b9:Option Addr) (c0:Nat),f 2=zB o∧f 3=zP (some ⟨d,0,none⟩)∧f 7=zS b a5.length c∧f 8=zS b9 a9.length c0∧aK G K (aV 2 K b9 c0 a9::aV 2 K b c a5::box d 29 l::L) w) ?_ ?_
  ·exact ⟨a2,a3,m7,m8,m9,n0,n1⟩
  ·rintro ⟨a5,a9⟩ c1 f n6 j n7 ⟨b9,c0,n8,h5,h7,e1,b0⟩
   replace j:lP t o a5 a9=some c1:=j
   unfold lP at j
   refine aN (aI (aO e1 (aC (bT (len:=a9.length) cG rfl) (aC (qC rfl rfl) (aG ?_)))))
   rcases aH j with ⟨e2,j⟩|⟨e2,j⟩
   ·refine aL e2 rfl (aY (aA (bC (fun f w=>∃ (b1:List Int) (b2:List Int) (c3:Option Addr) (c4:Nat),tO b1 b2=some c1∧f 2=zB o∧f 3=zP (some ⟨d,0,none⟩)∧f 7=zS b b1.length c∧f 8=zS c3 b2.length c4∧aK G K (aV 2 K c3 c4 b2::aV 2 K b c b1::box d 29 l::L) w) ?_ ?_)))
    ·rintro f t6 ⟨b1,b2,c3,c4,j,n9,o0,o1,o2,o3⟩
     unfold tO at j
     exact aA ⟨(b1,b2),(zI j).symm,c3,c4,n9,o0,o1,o2,o3⟩
    refine aI (aO e1 ?_)
    obtain ⟨J,e3,j⟩:=aB j
    have o4:=dM b0 (i:=0) rfl e3
    refine aC (eB cG rfl o4 rfl rfl rfl e3) (aC (lX (t:=0) cE b0 (i:=0) rfl e3 rfl rfl rfl) (aF (v:=i64 J) (aG (aI (aO e1 ?_)))))
    obtain ⟨h8,i0,j⟩:=aB j
    have o5:=oE b0 (i:=0) rfl
    obtain ⟨e4,e5,i1⟩:=Cut.ex 1 b9 c0 1
    refine aC (aBs cG o5 i1 rfl rfl rfl i0) ?_
    have i2:aK G K (aV 2 K e4 e5 h8::aV 2 K b c a5::box d 29 l::L) n6:=aK.cutP b0 (i:=0) rfl i0 i1
    refine aF (v:=zS e4 h8.length e5) (aG (aI (aC (bG (t':=3) cK h5 rfl) (aC (cF fS i2 (i:=2) rfl rfl rfl) (aC (bT (len:=t.E.length) bY rfl) (aM (v:=i64 0) (aG (bC (fun f w=>∃ (b3:List Int) (b4:List Int) (c6:Option Addr) (c7:Nat),oM b3 b4=some c1∧f 2=zB o∧f 3=zP (some ⟨d,0,none⟩)∧f 7=zS b b3.length c∧f 8=zS c6 b4.length c7∧aK G K (aV 2 K c6 c7 b4::aV 2 K b c b3::box d 29 l::L) w) ?_ ?_))))))))
    ·rintro f t7 ⟨b3,b4,c6,c7,j,o6,o7,o8,o9,p0⟩
     unfold oM at j
     exact bE (aA ⟨b3,b4,c6,c7,j,o6,o7,o8,o9,p0⟩)
    obtain ⟨t8,p1,j⟩:=aB j
    refine cA p1 (fun (s:(List Int × List Int × Int)) f w=>match s with|(p,m,y)=>∃ (r:Option Addr) (u:Nat),f 2=zB o∧f 3=zP (some ⟨d,0,none⟩)∧f 7=zS b p.length c∧f 8=zS r m.length u∧f 11=i64 J∧f 41=zS a4 t.E.length c5∧f 42=i64 (t.E.length:Int)∧f 43=i64 y∧aK G K (aV 2 K r u m::aV 2 K b c p::box d 29 l::L) w) ?_ ?_
    ·exact ⟨e4,e5,n8,h5,h7,rfl,rfl,rfl,rfl,rfl,i2⟩
    ·rintro ⟨p,m,y⟩ c9 f t9 a p2 ⟨r,u,d0,e6,e7,e8,i3,e9,f0,d1,f1⟩
     replace a:jR t o J p m y=some c9:=a
     unfold jR at a
     refine aI (aC (cJ d1 f0) (aG (aN ?_)))
     rcases aH a with ⟨f2,a⟩|⟨f2,a⟩
     ·refine aL f2 rfl (aY (aA (aN (bC (fun f w=>∃ (b5:List Int) (b6:List Int) (d2:Option Addr) (d3:Nat),iP y b5 b6=some c9∧f 2=zB o∧f 3=zP (some ⟨d,0,none⟩)∧f 7=zS b b5.length c∧f 8=zS d2 b6.length d3∧f 11=i64 J∧f 41=zS a4 t.E.length c5∧f 42=i64 (t.E.length:Int)∧f 43=i64 y∧aK G K (aV 2 K d2 d3 b6::aV 2 K b c b5::box d 29 l::L) w) ?_ ?_))))
      ·rintro f u0 ⟨b5,b6,d2,d3,a,p3,p4,p5,p6,p7,p8,p9,q0,q1⟩
       unfold iP at a
       exact aA (aP (aC (cM q0 rfl) (aM (v:=i64 (wr (y+1))) (aG ⟨(b5,b6,wr (y+1)),(zI a).symm,d2,d3,p3,p4,p5,p6,p7,p8,p9,rfl,q1⟩))))
      refine aI ?_
      obtain ⟨e,i4,a⟩:=aB a
      refine aC (cT bY rfl h6 e9 rfl d1 i4) ?_
      obtain ⟨u1,q2,q3⟩:=cL.el (sz:=3) rfl h6 i4
      cases q3
      refine aC (gG (t:=0) (vs:=[i64 e.F,i64 e.B,i64 e.To]) iJ f1 q2 rfl rfl rfl) (bW (vs:=[i64 0,i64 0,i64 0]) Tryz.zeroValue63 f1 rfl (fun i5 u2 q4=>(cD (i:=0) (ns:=[i64 e.F,i64 e.B,i64 e.To]) (us:=[i64 e.F,i64 e.B,i64 e.To]) Tryz.sizeOf63 q4 rfl rfl rfl rfl rfl (dK rfl) rfl rfl (fun q5 (V:aK G K (box i5 63 [i64 e.F,i64 e.B,i64 e.To]::aV 2 K r u m::aV 2 K b c p::box d 29 l::L) q5)=>(aG (aN (eK (C:=fun w'=>aK G K (box i5 63 [i64 e.F,i64 e.B,i64 e.To]::aV 2 K r u m::aV 2 K b c p::box d 29 l::L) w') bU (by kernel_rfl) (aK.mono V (dQ.drew _)) (aX (fun _ V=>bG (t':=0) fJ rfl rfl) (aX (fun _ V=>cF cE V (i:=0) rfl rfl rfl) (aX (fun _ V=>bG (t':=2) eM rfl rfl) (aX (fun _ V=>cF cE V (i:=0) rfl rfl rfl) (aX (fun _ V=>gF (v:=i64 e.F) rfl) (aX (fun _ V=>gF (v:=i64 e.To) rfl) (eG (fun u3 i6=>(aA (aAF (fun f w=>∃ (d4:Int) (Z:Int),lO J p m y d4 Z=some c9∧f 2=zB o∧f 3=zP (some ⟨d,0,none⟩)∧f 7=zS b p.length c∧f 8=zS r m.length u∧f 11=i64 J∧f 14=i64 d4∧f 15=i64 Z∧f 41=zS a4 t.E.length c5∧f 42=i64 (t.E.length:Int)∧f 43=i64 y∧aK G K (aV 2 K r u m::aV 2 K b c p::box d 29 l::L) w) ?_ ?_)))))))))))))))))
      ·rintro f u4 ⟨d4,Z,a,i7,i8,f3,i9,f4,q6,f5,j0,j1,j2,d5⟩
       unfold lO at a
       refine aN (cN (fun f w=>∃ (f6:Bool),jQ J p m y Z f6=some c9∧f 2=zB o∧f 3=zP (some ⟨d,0,none⟩)∧f 7=zS b p.length c∧f 8=zS r m.length u∧f 11=i64 J∧f 15=i64 Z∧f 41=zS a4 t.E.length c5∧f 42=i64 (t.E.length:Int)∧f 43=i64 y∧f 64=zB f6∧aK G K (aV 2 K r u m::aV 2 K b c p::box d 29 l::L) w) ?_ ?_)
       ·rintro f u5 ⟨f6,a,j3,j4,d6,j5,f7,j6,j7,j8,j9,k0,d7⟩
        unfold jQ at a
        refine aA ?_
        rcases aH a with ⟨f8,a⟩|⟨f8,a⟩
        ·refine aL f8 k0 (aI (aO d6 (aO j6 (aO d6 (aO f7 ?_)))))
         obtain ⟨k1,f9,a⟩:=aB a
         have k2:=dM d7 (i:=1) rfl f9
         refine aC (eB cG rfl k2 rfl rfl rfl f9) (aC (lX (t:=0) cE d7 (i:=1) rfl f9 rfl rfl rfl) (aC (cM rfl rfl) ?_))
         obtain ⟨u6,k3,a⟩:=aB a
         refine aC (eB cG rfl k2 rfl rfl rfl k3) ?_
         obtain ⟨d8,k4,a⟩:=aB a
         refine jW (i:=1) (t:=0) (ns:=[i64 (wr (k1+1))]) (e':=(wr (k1+1):Int)) Tryz.sizeOf2 d7 rfl (zR _) rfl rfl rfl k3 k4 rfl rfl (dK rfl) rfl (fun cs h=>by cases h;rfl) (fun q7 (q8:aK G K (aV 2 K r u m::aV 2 K b c d8::box d 29 l::L) q7)=>(aG (aP (aO j5 (aO j6 (dJ (Kt:=K) (xs:=([Z]:List Int)) (cs:=[i64 Z]) (vs:=[(0,i64 Z)]) cG qE rfl rfl q8 rfl (by kernel_rfl) rfl rfl rfl ⟨rfl,trivial⟩ (fun q9 r0 (r1:aK G K (aV 2 K q9 1 ([Z]:List Int)::aV 2 K r u m::aV 2 K b c d8::box d 29 l::L) r0)=>?_)))))))
         obtain ⟨g0,r2,a⟩:=aB a
         exact iA (i:=0) cG Tryz.underlying38 qE rfl rfl r1 rfl (zR _) (zR _) r2 rfl rfl rfl rfl (fun _ h=>h) (fun g1 g2 r3 (r4:aK G K (aV 2 K g1 g2 g0::aV 2 K b c d8::box d 29 l::L) r3)=>(aF (v:=zS g1 g0.length g2) (bK (bE (aA ⟨d8,g0,g1,g2,a,j3,j4,(Eq.trans d6 (congrArg (fun n=>zS b n c) (iE k4))),rfl,f7,j7,j8,j9,r4⟩)))))
        ·exact aJ f8 k0 (aY (bE (aA ⟨p,m,r,u,a,j3,j4,d6,j5,f7,j7,j8,j9,d7⟩)))
       refine aP (aO q6 (aO f4 (aC (lC rfl rfl) (aM (v:=zB (d4 == J)) ?_))))
       rcases aH a with ⟨x,a⟩|⟨x,a⟩
       ·refine bA x rfl rfl (aO f3 (bA x rfl rfl (aO f5 (bA x rfl rfl ?_))))
        obtain ⟨k5,g3,a⟩:=aB a
        have r5:=dM d5 (i:=1) rfl g3
        exact aC (eB cG rfl r5 rfl rfl rfl g3) (bA x rfl rfl (aC (lX (t:=0) cE d5 (i:=1) rfl g3 rfl rfl rfl) (bA x rfl rfl (aC (cJ rfl rfl) (aC (bI (v:=zB (decide (k5 < 0))) x rfl rfl) (aG ⟨decide (k5 < 0),a,i7,i8,f3,i9,f4,f5,j0,j1,j2,rfl,d5⟩))))))
       ·exact aQ x rfl rfl (aQ x rfl rfl (aQ x rfl rfl (aQ x rfl rfl (aQ x rfl rfl (aC (bL (v:=zB false) x rfl rfl) (aG ⟨false,a,i7,i8,f3,i9,f4,f5,j0,j1,j2,rfl,d5⟩))))))
      refine aI (aO d0 (aC (fH rfl) (aG ?_)))
      rcases aH a with ⟨g4,a⟩|⟨g4,a⟩
      ·exact aL g4 rfl (aP (aM (v:=i64 e.To) (aM (v:=i64 e.F) (aF (v:=i64 e.To) (aF (v:=i64 e.F) (aG ⟨e.To,e.F,a,d0,e6,e7,e8,i3,rfl,rfl,e9,f0,d1,(aK.arr 1 [] i6 rfl)⟩))))))
      ·exact aJ g4 rfl (aY (aA ⟨e.F,e.To,a,d0,e6,e7,e8,i3,rfl,rfl,e9,f0,d1,(aK.arr 1 [] i6 rfl)⟩))
     ·refine aJ f2 rfl (bZ (aW (aW ?_)))
      have r6:=p2 _ (zI a).symm
      subst r6
      have j:(oM p m)=some c1:=j
      exact bO (aA ⟨p,m,r,u,j,d0,e6,e7,e8,f1⟩)
   ·refine aJ e2 rfl (bZ (aW (aW ?_)))
    have r7:=n7 _ (zI j).symm
    subst r7
    have k:(oL a5)=some R:=k
    exact bO (aA ⟨a5,k,h7,(aK.arr 3 [1] b0 rfl)⟩)
 obtain ⟨u7,r8,k⟩:=aB k
 refine cA r8 (fun (s:(List Int × Int)) f w=>match s with|(a6,b7)=>f 2=zB o∧f 3=zP (some ⟨d,0,none⟩)∧f 7=zS b a6.length c∧f 8=zS a2 a0.length a3∧f 22=zS a7 z.length c8∧f 23=i64 (z.length:Int)∧f 24=i64 b7∧aK G K (aV 2 K a2 a3 a0::aV 2 K b c a6::box d 29 l::L) w) ?_ ?_
 ·exact ⟨rfl,rfl,rfl,rfl,rfl,rfl,rfl,(aK.arr 2 [0] m6 rfl)⟩
 ·rintro ⟨a6,b7⟩ r9 f u8 q s0 ⟨k6,k7,g5,k8,k9,l0,g6,d9⟩
  replace q:kT z a6 b7=some r9:=q
  unfold kT at q
  refine aI (aC (cJ g6 l0) (aG (aN ?_)))
  rcases aH q with ⟨g7,q⟩|⟨g7,q⟩
  ·refine aL g7 rfl (aY (aA (aN (cP (aI ?_)))))
   obtain ⟨l1,l2,q⟩:=aB q
   refine aC (cT cG rfl h9 k9 rfl g6 l2) ?_
   obtain ⟨u9,s1,s2⟩:=cL.el (sz:=1) rfl h9 l2
   cases s2
   refine aC (bJ (t:=0) cE d9 s1 rfl rfl) (aF (v:=i64 l1) (aG (aP (aO g5 (aM (v:=i64 l1) ?_)))))
   obtain ⟨v0,g8,q⟩:=aB q
   have s3:=dM d9 (i:=1) rfl g8
   refine aC (eB cG rfl s3 rfl rfl rfl g8) ?_
   obtain ⟨l3,l4,q⟩:=aB q
   exact jW (i:=1) (t:=0) (ns:=[i64 0]) (e':=(0:Int)) Tryz.sizeOf2 d9 rfl (zR _) rfl rfl rfl g8 l4 rfl rfl (dK rfl) rfl (fun cs h=>by cases h;rfl) (fun s4 (s5:aK G K (aV 2 K a2 a3 a0::aV 2 K b c l3::box d 29 l::L) s4)=>(bK (bE (aA (aP (aC (cM g6 rfl) (aM (v:=i64 (wr (b7+1))) (aG ⟨(l3,wr (b7+1)),(zI q).symm,k6,k7,(Eq.trans g5 (congrArg (fun n=>zS b n c) (iE l4))),k8,k9,l0,rfl,s5⟩))))))))
  ·refine aJ g7 rfl (bZ (aW (aW ?_)))
   have s6:=s0 _ (zI q).symm
   subst s6
   have k:(lQ t o a0 a6)=some R:=k
   exact bO (aA ⟨a6,k,k6,k7,g5,k8,d9⟩)
theorem aEP {n:Int} {R:(List Int)} (J:aK G K (L) w) (c:aCg n=some R):
  Calls Tryz.prog 88 ([i64 n]:List Value).toArray w (gO fun v w'=>∃ (t:Option Addr) (u:Nat),v=zS t R.length u∧aK G K (aV 2 K t u R::L) w'):=by
 refine aS Tryz.func88 rfl (by kernel_rfl) (by show (1:Nat)≤15;decide) ?_
 unfold aCg at c
 refine aI (aF (v:=zS none 0 0) (aG (aI (aF (v:=zS none 0 0) (aG (aN (aI (aM (v:=i64 n) (aM (v:=i64 0) (aG (bC (fun f w=>∃ (e:List Int) (g:Option Addr) (j:Nat),aCx e=some R∧f 3=zS g e.length j∧aK G K (aV 2 K g j e::L) w) ?_ ?_)))))))))))
 ·rintro f w5 ⟨e,g,j,c,V,Z⟩
  unfold aCx at c
  refine aA (aI (aO V (aF (v:=zS g e.length j) (aG ?_))))
  obtain rfl:=zI c
  exact bF (bB Tryz.results88 rfl ⟨g,j,rfl,Z⟩)
 have a1:=aK.nil (α:=Int) J 2 K
 obtain ⟨b4,a3,c⟩:=aB c
 refine cA a3 (fun (s:(List Int × Int)) f w=>match s with|(d,a)=>∃ (k:Option Addr) (l:Nat),f 3=zS k d.length l∧f 5=i64 n∧f 6=i64 a∧aK G K (aV 2 K k l d::L) w) ?_ ?_
 ·exact ⟨none,0,rfl,rfl,rfl,a1⟩
 ·rintro ⟨d,a⟩ a4 f b5 b a5 ⟨k,l,x,y,m,z⟩
  replace b:rJ n d a=some a4:=b
  unfold rJ at b
  refine aI (aC (cJ m y) (aG (aN ?_)))
  rcases aH b with ⟨o,b⟩|⟨o,b⟩
  ·refine aL o rfl (aY (aA (aN (cP (aI (aO m (aF (v:=i64 a) (aG (aP (aO x (aM (v:=i64 a) (dJ (Kt:=K) (xs:=([a]:List Int)) (cs:=[i64 a]) (vs:=[(0,i64 a)]) cG qE rfl rfl z rfl (by kernel_rfl) rfl rfl rfl ⟨rfl,trivial⟩ (fun a6 a7 (a8:aK G K (aV 2 K a6 1 ([a]:List Int)::aV 2 K k l d::L) a7)=>?_)))))))))))))
   obtain ⟨p,a9,b⟩:=aB b
   exact iA (i:=0) cG Tryz.underlying38 qE rfl rfl a8 rfl (zR _) (zR _) a9 rfl rfl rfl rfl (fun _ h=>h) (fun q r b0 (b1:aK G K (aV 2 K q r p::L) b0)=>(aF (v:=zS q p.length r) (bK (bE (aA (aP (aC (cM m rfl) (aM (v:=i64 (wr (a+1))) (aG ⟨(p,wr (a+1)),(zI b).symm,q,r,rfl,y,rfl,b1⟩)))))))))
  ·refine aJ o rfl (bZ (aW (aW ?_)))
   have b2:=a5 _ (zI b).symm
   subst b2
   have c:(aCx d)=some R:=c
   exact bO (aA ⟨d,k,l,c,x,z⟩)
theorem uE {k:Int} {p:(List Int)} {c:Nat} {R:Bool} (b:aK G K (L) w) (g:fV K a1 c [zS a4 p.length c5]) (d:cL K a4 c5 p) (a:jS k p=some R):
  Calls Tryz.prog 89 ([i64 k,bV a1 c]:List Value).toArray w (gO fun v w'=>v=zB R∧aK G K (L) w'):=by
 refine aS Tryz.func89 rfl (by kernel_rfl) (by show (2:Nat)≤9;decide) ?_
 unfold jS at a
 refine aI (aF (v:=zB false) (aG (aI (aC (bJ (t:=0) sc_38 b g rfl rfl) (aM (v:=i64 k) ?_)))))
 obtain ⟨h,e,a⟩:=aB a
 refine aC (cT cG rfl d rfl rfl rfl e) ?_
 obtain ⟨m,i,j⟩:=cL.el (sz:=1) rfl d e
 cases j
 refine aC (bJ (t:=0) cE b i rfl rfl) (aC (cJ rfl rfl) (aF (v:=zB (decide (h < 0))) (aG ?_)))
 obtain rfl:=zI a
 exact bF (bB Tryz.results89 rfl ⟨rfl,b⟩)
theorem pE {d g:(List Int)} {e:Nat} {R:Int} (x:aK G K (L) w) (l:cL K a1 c2 d) (y:fV K a4 e [zS a7 g.length c8]) (z:cL K a7 c8 g) (b:eD d g=some R):
  Calls Tryz.prog 167 ([zS a1 d.length c2,Value.func (.func 89) #[] #[bV a4 e]]:List Value).toArray w (gO fun v w'=>v=i64 R∧aK G K (L) w'):=by
 refine aS Tryz.func167 rfl (by kernel_rfl) (by show (2:Nat)≤19;decide) ?_
 unfold eD at b
 refine aI (aF (v:=i64 0) (aG (aN (aI (aM (v:=zS a1 d.length c2) (aC (bT (len:=d.length) cG rfl) (aM (v:=i64 0) (aG (bC (fun f w=>eZ=some R∧aK G K (L) w) ?_ ?_)))))))))
 ·rintro f b0 ⟨b,J⟩
  unfold eZ at b
  refine aA (aI (aF (v:=i64 (-1)) (aG ?_)))
  obtain rfl:=zI b
  exact bF (bB Tryz.results167 rfl ⟨rfl,J⟩)
 obtain ⟨b1,Z,b⟩:=aB b
 refine cA Z (fun (c:Int) f w=>f 0=zS a1 d.length c2∧f 1=Value.func (.func 89) #[] #[bV a4 e]∧f 7=i64 (d.length:Int)∧f 8=i64 c∧aK G K (L) w) ?_ ?_
 ·exact ⟨rfl,rfl,rfl,rfl,x⟩
 ·rintro c a0 f b2 a m ⟨n,o,p,h,i⟩
  replace a:dB d g c=some a0:=a
  unfold dB at a
  refine aI (aC (cJ h p) (aG (aN ?_)))
  rcases aH a with ⟨j,a⟩|⟨j,a⟩
  ·refine aL j rfl (aY (aA (aN (cP (aI (aO h (aF (v:=i64 c) (aG (aI (aO o (aO n (aM (v:=i64 c) ?_))))))))))))
   obtain ⟨q,r,a⟩:=aB a
   refine aC (cT cG rfl l rfl rfl rfl r) ?_
   obtain ⟨b3,a2,a3⟩:=cL.el (sz:=1) rfl l r
   cases a3
   refine aC (bJ (t:=0) cE i a2 rfl rfl) ?_
   obtain ⟨b4,a5,a⟩:=aB a
   refine jX (vs:=[i64 q]) (caps:=[bV a4 e]) (us:=[i64 q,bV a4 e]) rfl Tryz.call89 rfl rfl (uE i y z a5) ?_
   rintro _ b5 ⟨rfl,u⟩
   refine aG ?_
   rcases aH a with ⟨k,a⟩|⟨k,a⟩
   ·refine aL k rfl (aI (aM (v:=i64 c) (aF (v:=i64 c) (aG (bF (bQ (aR (aR ?_))))))))
    have a6:=m _ (zI a).symm
    subst a6
    have b:(some c)=some R:=b
    obtain rfl:=zI b
    exact bQ (aR (aR (bB Tryz.results167 rfl ⟨rfl,u⟩)))
   ·exact aJ k rfl (aY (bE (aA (aP (aC (cM h rfl) (aM (v:=i64 (wr (c+1))) (aG ⟨wr (c+1),(zI a).symm,n,o,p,rfl,u⟩)))))))
  ·refine aJ j rfl (bZ (aW (aW ?_)))
   have a9:=m _ (zI a).symm
   subst a9
   have b:(eZ)=some R:=b
   exact bO (aA ⟨b,i⟩)
theorem qA {g o:(List Int)} {c:Nat} {R:(List Int)} (hs:aK G K (aV 2 K a1 c2 g::L) w) (h5:fV K a3 c [zS a6 o.length c7]) (h8:cL K a6 c7 o) (b:eO g o=some R):
  Calls Tryz.prog 87 ([zS a1 g.length c2,Value.func (.func 89) #[] #[bV a3 c]]:List Value).toArray w (gO fun v w'=>∃ (a9:Option Addr) (b0:Nat),v=zS a9 R.length b0∧aK G K (aV 2 K a9 b0 R::L) w'):=by
 refine aS Tryz.func87 rfl (by kernel_rfl) (by show (2:Nat)≤42;decide) ?_
 unfold eO at b
 refine aI (aF (v:=zS none 0 0) (aG (aI (aM (v:=zS a1 g.length c2) (aM (v:=Value.func (.func 89) #[] #[bV a3 c]) ?_)))))
 obtain ⟨K9,b1,d3,d4,d5⟩:=aK.lendS (i:=0) hs (zR _) rfl
 obtain ⟨p,d6,b⟩:=aB b
 refine aU (vs:=[zS a1 g.length c2,Value.func (.func 89) #[] #[bV a3 c]]) Tryz.call167 rfl (pE d4 d3 (h5.mono b1) (h8.mono b1) d6) ?_
 rintro _ f6 ⟨rfl,d7⟩
 have b2:=d5 _ _ d7
 refine aF (v:=i64 p) (aG (aN (aI (aM (v:=i64 p) (aC (lC rfl rfl) (aG ?_))))))
 rcases aH b with ⟨J,b⟩|⟨J,b⟩
 ·refine aL J rfl (aI (aM (v:=zS a1 g.length c2) (aF (v:=zS a1 g.length c2) (aG ?_))))
  obtain rfl:=zI b
  exact bF (aR (bB Tryz.results87 rfl ⟨a1,c2,rfl,b2⟩))
 ·refine aJ J rfl (aY (aA (aN (aI (aM (v:=i64 p) (aC (cM rfl rfl) (aF (v:=i64 (wr (p+1))) (aG (bC (fun f w=>∃ (q:List Int) (r:Int),dW q r=some R∧f 0=zS a1 q.length c2∧f 5=i64 r∧aK G K (aV 2 K a1 c2 q::L) w) ?_ ?_)))))))))
  ·rintro f f7 ⟨q,r,b,b3,b4,b5⟩
   unfold dW at b
   refine aA (aI (aO b3 (aO b4 ?_)))
   obtain ⟨f8,d9,b⟩:=aB b
   have e0:=oE b5 (i:=0) rfl
   obtain ⟨f9,g0,b6⟩:=Cut.ex 1 a1 c2 r
   refine aC (aBs cG e0 b6 rfl rfl rfl d9) ?_
   obtain ⟨b7,b8,b⟩:=aB b
   refine aCu cG qE rfl b5 (i:=0) rfl b6 rfl rfl b8 (fun b9 (c0:aK G K (aV 2 K a1 c2 b7::L) b9)=>(aG (aI (aO (v:=zS a1 b7.length c2) (Eq.trans b3 (congrArg (fun n=>zS a1 n c2) (aCs b8))) (aO b4 ?_)))))
   obtain ⟨c1,c3,b⟩:=aB b
   have e1:=oE c0 (i:=0) rfl
   obtain ⟨V,Z,c4⟩:=Cut.ex 1 a1 c2 0
   refine aC (aFF cG e1 c4 rfl rfl rfl c3) (aF (v:=zS V c1.length Z) (aG ?_))
   have e2:aK G K (aV 2 K V Z c1::L) b9:=aK.cutP c0 (i:=0) rfl c3 c4
   obtain rfl:=zI b
   exact bF (bB Tryz.results87 rfl ⟨V,Z,rfl,e2⟩)
  obtain ⟨g1,e4,b⟩:=aB b
  refine cA e4 (fun (s:(List Int × Int × Int)) f w=>match s with|(d,e,j)=>f 0=zS a1 d.length c2∧f 1=Value.func (.func 89) #[] #[bV a3 c]∧f 5=i64 e∧f 6=i64 j∧aK G K (aV 2 K a1 c2 d::L) w) ?_ ?_
  ·exact ⟨rfl,rfl,rfl,rfl,b2⟩
  ·rintro ⟨d,e,j⟩ c5 f g2 a e5 ⟨l,a0,u,x,y⟩
   replace a:cU o d e j=some c5:=a
   unfold cU at a
   refine aN (aI (aO x (aO l (aC (bT (len:=d.length) cG rfl) (aC (cJ rfl rfl) (aG ?_))))))
   rcases aH a with ⟨a2,a⟩|⟨a2,a⟩
   ·refine aL a2 rfl (aY (aA (aN (bC (fun f w=>∃ (m:List Int) (z:Int),dX j m z=some c5∧f 0=zS a1 m.length c2∧f 1=Value.func (.func 89) #[] #[bV a3 c]∧f 5=i64 z∧f 6=i64 j∧aK G K (aV 2 K a1 c2 m::L) w) ?_ ?_))))
    ·rintro f g3 ⟨m,z,a,e6,e7,e8,e9,f0⟩
     unfold dX at a
     exact aA (aP (aO e9 (aC (cM rfl rfl) (aF (v:=i64 (wr (j+1))) (aG ⟨(m,z,wr (j+1)),(zI a).symm,e6,e7,e8,rfl,f0⟩)))))
    refine aI (aO l (aO x ?_))
    obtain ⟨k,a4,a⟩:=aB a
    have c6:=dM y (i:=0) rfl a4
    refine aC (eB cG rfl c6 rfl rfl rfl a4) (aC (lX (t:=0) cE y (i:=0) rfl a4 rfl rfl rfl) (aF (v:=i64 k) (aG (aI (aO a0 (aM (v:=i64 k) ?_))))))
    obtain ⟨g4,f1,a⟩:=aB a
    refine jX (vs:=[i64 k]) (caps:=[bV a3 c]) (us:=[i64 k,bV a3 c]) rfl Tryz.call89 rfl rfl (uE y h5 h8 f1) ?_
    rintro _ g5 ⟨rfl,c8⟩
    refine aC (fH rfl) (aG ?_)
    rcases aH a with ⟨a5,a⟩|⟨a5,a⟩
    ·refine aL a5 rfl (aI (aO l (aO u (aM (v:=i64 k) ?_))))
     obtain ⟨g6,c9,a⟩:=aB a
     refine aC (eB cG rfl c6 rfl rfl rfl c9) ?_
     obtain ⟨d0,d1,a⟩:=aB a
     exact jW (i:=0) (t:=0) (ns:=[i64 k]) (e':=(k:Int)) Tryz.sizeOf2 c8 rfl (zR _) rfl rfl rfl c9 d1 rfl rfl (dK rfl) rfl (fun cs h=>by cases h;rfl) (fun f2 (f3:aK G K (aV 2 K a1 c2 d0::L) f2)=>(aG (aP (aO u (aC (cM rfl rfl) (aF (v:=i64 (wr (e+1))) (bK (bE (aA ⟨d0,wr (e+1),a,(Eq.trans l (congrArg (fun n=>zS a1 n c2) (iE d1))),a0,rfl,x,f3⟩)))))))))
    ·exact aJ a5 rfl (aY (bE (aA ⟨d,e,a,l,a0,u,x,c8⟩)))
   ·refine aJ a2 rfl (bZ (aW (aW ?_)))
    have f4:=e5 _ (zI a).symm
    subst f4
    have b:(dW d e)=some R:=b
    exact bO (aA ⟨d,e,b,l,u,y⟩)
theorem qV {t:cH} {R:(List Int)} (r:aK G K (L) w) (u:cL K a1 c2 t.L) (x:cL K a4 c5 t.E) (a:kM t=some R):
  Calls Tryz.prog 33 ([zA (zCa t a1 c2 a4 c5)]:List Value).toArray w (gO fun v w'=>∃ (k:Option Addr) (l:Nat),v=zS k R.length l∧aK G K (aV 2 K k l R::L) w'):=by
 let b:=(zC t a1 c2 a4 c5)
 refine aS Tryz.func33 rfl (by kernel_rfl) (by show (1:Nat)≤14;decide) ?_
 unfold kM at a
 refine aI (eE (v:=zA (zCa t a1 c2 a4 c5)) (vs:=b) r rfl rfl (fun m w8 g=>(aF (v:=zS none 0 0) (aG (aI (aC (dF (us:=b) eC g (i:=0) rfl rfl rfl rfl) (aC (bG (t':=1) nE rfl rfl) (aC (cF cE g (i:=0) rfl rfl rfl) (dJ (Kt:=K) (xs:=([t.I]:List Int)) (cs:=[i64 t.I]) (vs:=[(0,i64 t.I)]) cG qE rfl rfl g rfl (by kernel_rfl) rfl rfl rfl ⟨rfl,trivial⟩ (fun h y (z:aK G K (aV 2 K h 1 ([t.I]:List Int)::box m 29 b::L) y)=>?_))))))))))
 obtain ⟨c9,n,J,V,Z⟩:=aK.lendS (i:=0) z (zR _) rfl
 obtain ⟨c,a0,a⟩:=aB a
 refine aU (vs:=[zA (zCa t a1 c2 a4 c5),zS h ([t.I]:List Int).length 1,zB true]) Tryz.call86 rfl (aCn V (u.mono n) (x.mono n) J a0) ?_
 rintro _ d0 ⟨d,e,rfl,a2⟩
 have a3:=Z _ _ a2
 refine bW (vs:=[zS none 0 0]) Tryz.zeroValue38 a3 rfl (fun j d1 a5=>(cD (i:=0) (ns:=[zS d c.length e]) (us:=[zS d c.length e]) Tryz.sizeOf38 a5 rfl rfl rfl rfl rfl (dK rfl) rfl rfl (fun a6 (o:aK G K (box j 38 [zS d c.length e]::aV 2 K h 1 ([t.I]:List Int)::aV 2 K d e c::box m 29 b::L) a6)=>(aG (aI (aC (bG (t':=0) iM rfl rfl) (aC (cF cE o (i:=3) rfl rfl rfl) ?_)))))))
 obtain ⟨a7,a8,a⟩:=aB a
 refine aU (vs:=[i64 t.N]) Tryz.call88 rfl (aEP o a8) ?_
 rintro _ d2 ⟨a9,b0,rfl,b1⟩
 refine aC (qD (vs:=[zP (some ⟨j,0,none⟩)]) rfl) ?_
 obtain ⟨d3,d4,b2,b3,b4⟩:=aK.lendS (i:=3) b1 (zR _) rfl
 obtain ⟨d5,b5,b6,b8,b9⟩:=aK.lendB (i:=1) b3 rfl
 obtain ⟨c0,c1,a⟩:=aB a
 refine aU (vs:=[zS a9 a7.length b0,Value.func (.func 89) #[] #[bV (some ⟨j,0,none⟩) 0]]) Tryz.call87 rfl (qA b8 b6 (b2.mono b5) c1) ?_
 rintro _ d6 ⟨p,q,rfl,c3⟩
 have c4:=b9 _ _ c3
 have c6:=b4 _ _ c4
 refine aF (v:=zS p c0.length q) (aG ?_)
 obtain rfl:=zI a
 exact bF (bB Tryz.results33 rfl ⟨p,q,rfl,(aK.arr 5 [2] c6 rfl)⟩)
theorem vJ {b:(List Int)} {R:Int} (x:aK G K (L) w) (g:cL K a1 c2 b) (a:iX b=some R):
  Calls Tryz.prog 168 ([zS a1 b.length c2]:List Value).toArray w (gO fun v w'=>v=i64 R∧aK G K (L) w'):=by
 refine aS Tryz.func168 rfl (by kernel_rfl) (by show (1:Nat)≤25;decide) ?_
 unfold iX at a
 refine aI (aF (v:=i64 0) (aG (aAF (fun f w=>iD b=some R∧f 0=zS a1 b.length c2∧aK G K (L) w) ?_ ?_)))
 ·rintro f w5 ⟨a,n,o⟩
  unfold iD at a
  refine aI (aO n ?_)
  obtain ⟨y,p,a⟩:=aB a
  refine aC (cT cG rfl g rfl rfl rfl p) ?_
  obtain ⟨a9,z,J⟩:=cL.el (sz:=1) rfl g p
  cases J
  refine aC (bJ (t:=0) cE o z rfl rfl) (aF (v:=i64 y) (aG (aN (aI (aF (v:=i64 1) (aG (bC (fun f w=>∃ (h:Int),fU h=some R∧f 3=i64 h∧aK G K (L) w) ?_ ?_)))))))
  ·rintro f b0 ⟨h,a,V,Z⟩
   unfold fU at a
   refine aA (aI (aO V (aF (v:=i64 h) (aG ?_))))
   obtain rfl:=zI a
   exact bF (bB Tryz.results168 rfl ⟨rfl,Z⟩)
  obtain ⟨b1,a2,a⟩:=aB a
  refine cA a2 (fun (s:(Int × Int)) f w=>match s with|(d,e)=>f 0=zS a1 b.length c2∧f 3=i64 d∧f 4=i64 e∧aK G K (L) w) ?_ ?_
  ·exact ⟨n,rfl,rfl,o⟩
  ·rintro ⟨d,e⟩ a3 f b2 c a4 ⟨i,q,j,k⟩
   replace c:dN b d e=some a3:=c
   unfold dN at c
   refine aN (aI (aO j (aO i (aC (bT (len:=b.length) cG rfl) (aC (cJ rfl rfl) (aG ?_))))))
   rcases aH c with ⟨l,c⟩|⟨l,c⟩
   ·refine aL l rfl (aY (aA (aN (cP (aP (aO q (aO i (aO j ?_))))))))
    obtain ⟨r,u,c⟩:=aB c
    refine aC (cT cG rfl g rfl rfl rfl u) ?_
    obtain ⟨b3,a5,a6⟩:=cL.el (sz:=1) rfl g u
    cases a6
    exact aC (bJ (t:=0) cE k a5 rfl rfl) (aC (R_max rfl rfl) (aF (v:=i64 (mxI d r)) (bK (bE (aA (aP (aO j (aC (cM rfl rfl) (aF (v:=i64 (wr (e+1))) (aG ⟨(mxI d r,wr (e+1)),(zI c).symm,i,rfl,rfl,k⟩))))))))))
   ·refine aJ l rfl (bZ (aW (aW ?_)))
    have a7:=a4 _ (zI c).symm
    subst a7
    have a:(fU d)=some R:=a
    exact bO (aA ⟨d,a,q,k⟩)
 refine aI (aM (v:=zS a1 b.length c2) (aC (bT (len:=b.length) cG rfl) (aC (cJ rfl rfl) (aG ?_))))
 rcases aH a with ⟨m,a⟩|⟨m,a⟩
 ·refine aL m rfl (aP ?_)
  cases a
 ·exact aJ m rfl (aY (aA ⟨a,rfl,x⟩))
theorem aAB {p:(List Int)} {R:Int} (b:aK G K (L) w) (c:cL K a1 c2 p) (a:rK p=some R):
  Calls Tryz.prog 90 ([zS a1 p.length c2]:List Value).toArray w (gO fun v w'=>v=i64 R∧aK G K (L) w'):=by
 refine aS Tryz.func90 rfl (by kernel_rfl) (by show (1:Nat)≤6;decide) ?_
 unfold rK at a
 refine aI (aF (v:=i64 0) (aG (aI (aM (v:=zS a1 p.length c2) ?_))))
 obtain ⟨d,e,a⟩:=aB a
 refine aU (vs:=[zS a1 p.length c2]) Tryz.call168 rfl (vJ b c e) ?_
 rintro _ i ⟨rfl,g⟩
 refine aC (cM rfl rfl) (aF (v:=i64 (wr (d+1))) (aG ?_))
 obtain rfl:=zI a
 exact bF (bB Tryz.results90 rfl ⟨rfl,g⟩)
theorem nY {c R:(List Edge)} (hs:aK G K (aV 63 K a1 c2 c::L) w) (d:dR c=some R):
  Calls Tryz.prog 169 ([zS a1 c.length c2]:List Value).toArray w (gO fun v w'=>∃ (c7:Option Addr) (c8:Nat),v=zS c7 R.length c8∧aK G K (aV 63 K c7 c8 R::L) w'):=by
 refine aS Tryz.func169 rfl (by kernel_rfl) (by show (1:Nat)≤61;decide) ?_
 unfold dR at d
 refine aI (aF (v:=zS none 0 0) (aG (aN (aI (aM (v:=zS a1 c.length c2) (aC (bT (len:=c.length) bY rfl) (aC (cJ rfl rfl) (aG ?_))))))))
 rcases aH d with ⟨c3,d⟩|⟨c3,d⟩
 ·refine aL c3 rfl (aI (aM (v:=zS a1 c.length c2) (aF (v:=zS a1 c.length c2) (aG ?_))))
  obtain rfl:=zI d
  exact bF (aR (bB Tryz.results169 rfl ⟨a1,c2,rfl,hs⟩))
 ·refine aJ c3 rfl (aY (aA (aN (aI (aF (v:=i64 1) (aG (bC (fun f w=>eH c=some R∧f 0=zS a1 c.length c2∧aK G K (aV 63 K a1 c2 c::L) w) ?_ ?_)))))))
  ·rintro f w6 ⟨d,e5,f0⟩
   unfold eH at d
   refine aA (aI (aO e5 (aF (v:=zS a1 c.length c2) (aG ?_))))
   obtain rfl:=zI d
   exact bF (bB Tryz.results169 rfl ⟨a1,c2,rfl,f0⟩)
  obtain ⟨h6,f2,d⟩:=aB d
  refine cA f2 (fun (k:Int) f w=>f 0=zS a1 c.length c2∧f 3=i64 k∧aK G K (aV 63 K a1 c2 c::L) w) ?_ ?_
  ·exact ⟨rfl,rfl,hs⟩
  ·rintro k Z f h7 a c9 ⟨o,q,e⟩
   replace a:cW c k=some Z:=a
   unfold cW at a
   refine aN (aI (aO q (aO o (aC (bT (len:=c.length) bY rfl) (aC (cJ rfl rfl) (aG ?_))))))
   rcases aH a with ⟨b3,a⟩|⟨b3,a⟩
   ·refine aL b3 rfl (aY (aA (aN (bC (fun f w=>eI k=some Z∧f 0=zS a1 c.length c2∧f 3=i64 k∧aK G K (aV 63 K a1 c2 c::L) w) ?_ ?_))))
    ·rintro f h8 ⟨a,f3,f4,f5⟩
     unfold eI at a
     exact aA (aP (aO f4 (aC (cM rfl rfl) (aF (v:=i64 (wr (k+1))) (aG ⟨wr (k+1),(zI a).symm,f3,rfl,f5⟩)))))
    refine aN (eK (C:=fun w'=>aK G K (aV 63 K a1 c2 c::L) w') bU (by kernel_rfl) (aK.mono e (dQ.drew _)) (aX (fun _ e=>bD o) (aX (fun _ e=>bD q) ?_)))
    obtain ⟨a0,b4,a⟩:=aB a
    have r:=dM e (i:=0) rfl b4
    refine aX (fun _ e=>eB bY rfl r rfl rfl rfl b4) (aX (fun _ e=>aAH (t:=0) (vs:=[i64 a0.F,i64 a0.B,i64 a0.To]) iJ e (i:=0) rfl b4 rfl rfl rfl rfl) (aX (fun _ e=>bD o) (aX (fun _ e=>bD q) (aX (fun _ e=>kO rfl rfl) ?_))))
    obtain ⟨a2,d0,a⟩:=aB a
    refine aX (fun _ e=>eB bY rfl r rfl rfl rfl d0) (aX (fun _ e=>aAH (t:=0) (vs:=[i64 a2.F,i64 a2.B,i64 a2.To]) iJ e (i:=0) rfl d0 rfl rfl rfl rfl) (aX (fun _ e=>R_eqlG (eq_63 (x:=a0) (y:=a2)) rfl rfl) (eG (fun h9 b5=>(aA ?_)))))
    rcases aH a with ⟨c45,a⟩|⟨c45,a⟩
    ·refine aL c45 rfl (aI (aO o (aO q ?_)))
     obtain ⟨J,a3,a⟩:=aB a
     have a4:=oE b5 (i:=0) rfl
     obtain ⟨b6,b7,a5⟩:=Cut.ex 3 a1 c2 k
     refine aC (aBs bY a4 a5 rfl rfl rfl a3) (aF (v:=zS b6 J.length b7) (aG (aN (aI (aF (v:=i64 1) (aG (bC (fun f w=>∃ (a6:List Edge) (a7:Int),dG a6 a7=some Z∧f 0=zS a1 a6.length c2∧f 3=i64 a7∧aK G K (aV 63 K a1 c2 a6::L) w) ?_ ?_)))))))
     ·rintro f i0 ⟨a6,a7,a,d1,d2,d3⟩
      unfold dG at a
      refine aA (aI (aO d1 (aO d2 ?_)))
      obtain ⟨i1,f6,a⟩:=aB a
      have f7:=oE d3 (i:=0) rfl
      obtain ⟨i2,i3,d4⟩:=Cut.ex 3 a1 c2 a7
      refine aC (aBs bY f7 d4 rfl rfl rfl f6) ?_
      obtain ⟨d5,d6,a⟩:=aB a
      refine aCu bY lD rfl d3 (i:=0) rfl d4 rfl rfl d6 (fun d7 (d8:aK G K (aV 63 K a1 c2 d5::L) d7)=>(aG (aI (aO (v:=zS a1 d5.length c2) (Eq.trans d1 (congrArg (fun n=>zS a1 n c2) (aCs d6))) (aO d2 ?_)))))
      obtain ⟨b8,d9,a⟩:=aB a
      have f8:=oE d8 (i:=0) rfl
      obtain ⟨b9,c0,e0⟩:=Cut.ex 3 a1 c2 0
      refine aC (aFF bY f8 e0 rfl rfl rfl d9) (aF (v:=zS b9 b8.length c0) (aG (bF (bQ (aR (aR (aR ?_)))))))
      have f9:=c9 _ (zI a).symm
      subst f9
      have d:(some b8)=some R:=d
      have g0:aK G K (aV 63 K b9 c0 b8::L) d7:=aK.cutP d8 (i:=0) rfl d9 e0
      obtain rfl:=zI d
      exact bQ (aR (aR (bB Tryz.results169 rfl ⟨b9,c0,rfl,g0⟩)))
     obtain ⟨i4,g2,a⟩:=aB a
     refine cA g2 (fun (s:(List Edge × Int × Int)) f w=>match s with|(l,m,p)=>f 0=zS a1 l.length c2∧f 3=i64 m∧f 4=zS b6 J.length b7∧f 5=i64 p∧aK G K (aV 63 K a1 c2 l::L) w) ?_ ?_
     ·exact ⟨o,q,rfl,rfl,b5⟩
     ·rintro ⟨l,m,p⟩ e1 f i5 b g3 ⟨a8,a9,u,z,g⟩
      replace b:cV k J l m p=some e1:=b
      unfold cV at b
      refine aN (aI (aO z (aO u (aC (bT (len:=J.length) bY rfl) (aC (cJ rfl rfl) (aG ?_))))))
      rcases aH b with ⟨c1,b⟩|⟨c1,b⟩
      ·refine aL c1 rfl (aY (aA (aN (bC (fun f w=>∃ (V:List Edge) (b0:Int),dH p V b0=some e1∧f 0=zS a1 V.length c2∧f 3=i64 b0∧f 4=zS b6 J.length b7∧f 5=i64 p∧aK G K (aV 63 K a1 c2 V::L) w) ?_ ?_))))
       ·rintro f i6 ⟨V,b0,b,g4,g5,g6,g7,g8⟩
        unfold dH at b
        exact aA (aP (aO g7 (aC (cM rfl rfl) (aF (v:=i64 (wr (p+1))) (aG ⟨(V,b0,wr (p+1)),(zI b).symm,g4,g5,g6,rfl,g8⟩)))))
       refine aN (eK (C:=fun w'=>aK G K (aV 63 K a1 c2 l::L) w') bU (by kernel_rfl) (aK.mono g (dQ.drew _)) (aX (fun _ g=>bD u) (aX (fun _ g=>bD z) ?_)))
       obtain ⟨i7,e2,b⟩:=aB b
       obtain ⟨j,e3,b⟩:=aB b
       refine aX (fun _ g=>aDy bY r a5 a3 a4 rfl rfl rfl e2 rfl) (aX (fun _ g=>aAH (t:=0) (vs:=[i64 j.F,i64 j.B,i64 j.To]) iJ g (i:=0) rfl e3 rfl rfl rfl rfl) (aX (fun _ g=>bD u) (aX (fun _ g=>bD z) (aX (fun _ g=>kO rfl rfl) ?_))))
       obtain ⟨i8,g9,b⟩:=aB b
       obtain ⟨b1,h0,b⟩:=aB b
       refine aX (fun _ g=>aDy bY r a5 a3 a4 rfl rfl rfl g9 rfl) (aX (fun _ g=>aAH (t:=0) (vs:=[i64 b1.F,i64 b1.B,i64 b1.To]) iJ g (i:=0) rfl h0 rfl rfl rfl rfl) (aX (fun _ g=>R_neqG (eq_63 (x:=j) (y:=b1)) rfl rfl) (eG (fun i9 c4=>(aA ?_)))))
       rcases aH b with ⟨c5,b⟩|⟨c5,b⟩
       ·refine aL c5 rfl (aI (aO a8 (aO a9 (aO u (aO z (aC (aDy bY r a5 a3 a4 rfl rfl rfl e2 rfl) (aC (aAH (t:=0) (vs:=[i64 j.F,i64 j.B,i64 j.To]) iJ c4 (i:=0) rfl e3 rfl rfl rfl rfl) ?_)))))))
        obtain ⟨j0,e4,b⟩:=aB b
        refine aC (eB bY rfl r rfl rfl rfl e4) ?_
        obtain ⟨e6,e7,b⟩:=aB b
        exact jW (i:=0) (t:=0) (ns:=[i64 j.F,i64 j.B,i64 j.To]) (e':=(⟨j.F,j.B,j.To⟩:Edge)) Tryz.sizeOf63 c4 rfl (zR _) rfl rfl rfl e4 e7 rfl rfl (dK rfl) rfl (fun cs h=>by cases h;rfl) (fun h1 (h2:aK G K (aV 63 K a1 c2 e6::L) h1)=>(aG (aP (aO a9 (aC (cM rfl rfl) (aF (v:=i64 (wr (m+1))) (bK (bE (aA ⟨e6,wr (m+1),b,(Eq.trans a8 (congrArg (fun n=>zS a1 n c2) (iE e7))),rfl,u,z,h2⟩)))))))))
       ·exact aJ c5 rfl (aY (bE (aA ⟨l,m,b,a8,a9,u,z,c4⟩)))
      ·refine aJ c1 rfl (bZ (aW (aW ?_)))
       have h3:=g3 _ (zI b).symm
       subst h3
       have a:(dG l m)=some Z:=a
       exact bO (aA ⟨l,m,a,a8,a9,g⟩)
    ·exact aJ c45 rfl (aY (bE (aA ⟨a,o,q,b5⟩)))
   ·refine aJ b3 rfl (bZ (aW (aW ?_)))
    have h4:=c9 _ (zI a).symm
    subst h4
    have d:(eH c)=some R:=d
    exact bO (aA ⟨d,o,e⟩)
theorem aAk {t:cH} {k:Int} {R:(List Edge)} (hs:aK G K (L) w) (h3:cL K a1 c2 t.L) (h6:cL K a4 c5 t.E) (c:vW t k=some R):
  Calls Tryz.prog 121 ([zA (zCa t a1 c2 a4 c5),i64 k]:List Value).toArray w (gO fun v w'=>∃ (a8:Option Addr) (a9:Nat),v=zS a8 R.length a9∧aK G K (aV 63 K a8 a9 R::L) w'):=by
 refine aS Tryz.func121 rfl (by kernel_rfl) (by show (2:Nat)≤25;decide) ?_
 unfold vW at c
 refine aI (eE (v:=zA (zCa t a1 c2 a4 c5)) (vs:=(zC t a1 c2 a4 c5)) hs rfl rfl (fun b7 w8 b0=>(aF (v:=zS none 0 0) (aG (aI (aF (v:=zS none 0 0) (aG (aN (aI (aC (bG (t':=3) cK rfl rfl) (aC (cF fS b0 (i:=0) rfl rfl rfl) (aC (bT (len:=t.E.length) bY rfl) (aM (v:=i64 0) (aG (bC (fun f w=>∃ (l:List Edge) (m:Option Addr) (n:Nat),vB l=some R∧f 5=zS m l.length n∧aK G K (aV 63 K m n l::L) w) ?_ ?_)))))))))))))))
 ·rintro f e3 ⟨l,m,n,c,b4,b5⟩
  unfold vB at c
  refine aA (aI (aO b4 (aF (v:=zS m l.length n) (aG ?_))))
  obtain rfl:=zI c
  exact bF (bB Tryz.results121 rfl ⟨m,n,rfl,b5⟩)
 have b8:=aK.nil (α:=Edge) b0 63 K
 obtain ⟨e4,b9,c⟩:=aB c
 refine cA b9 (fun (s:(List Edge × Int)) f w=>match s with|(d,e)=>∃ (g:Option Addr) (j:Nat),f 1=i64 k∧f 5=zS g d.length j∧f 9=zS a4 t.E.length c5∧f 10=i64 (t.E.length:Int)∧f 11=i64 e∧aK G K (aV 63 K g j d::L) w) ?_ ?_
 ·exact ⟨none,0,rfl,rfl,rfl,rfl,rfl,(aK.arr 2 [0] b8 rfl)⟩
 ·rintro ⟨d,e⟩ b1 f e5 b c0 ⟨g,j,x,y,z,J,p,V⟩
  replace b:rL t k d e=some b1:=b
  unfold rL at b
  refine aI (aC (cJ p J) (aG (aN ?_)))
  rcases aH b with ⟨Z,b⟩|⟨Z,b⟩
  ·refine aL Z rfl (aY (aA (aN (bC (fun f w=>∃ (o:List Edge) (q:Option Addr) (r:Nat),vC e o=some b1∧f 1=i64 k∧f 5=zS q o.length r∧f 9=zS a4 t.E.length c5∧f 10=i64 (t.E.length:Int)∧f 11=i64 e∧aK G K (aV 63 K q r o::L) w) ?_ ?_))))
   ·rintro f e6 ⟨o,q,r,b,c1,c3,c4,c6,c7,c8⟩
    unfold vC at b
    exact aA (aP (aC (cM c7 rfl) (aM (v:=i64 (wr (e+1))) (aG ⟨(o,wr (e+1)),(zI b).symm,q,r,c1,c3,c4,c6,rfl,c8⟩))))
   refine aI ?_
   obtain ⟨a,b2,b⟩:=aB b
   refine aC (cT bY rfl h6 z rfl p b2) ?_
   obtain ⟨e7,c9,d0⟩:=cL.el (sz:=3) rfl h6 b2
   cases d0
   refine aC (gG (t:=0) (vs:=[i64 a.F,i64 a.B,i64 a.To]) iJ V c9 rfl rfl rfl) (bW (vs:=[i64 0,i64 0,i64 0]) Tryz.zeroValue63 V rfl (fun a0 e8 d1=>(cD (i:=0) (ns:=[i64 a.F,i64 a.B,i64 a.To]) (us:=[i64 a.F,i64 a.B,i64 a.To]) Tryz.sizeOf63 d1 rfl rfl rfl rfl rfl (dK rfl) rfl rfl (fun d2 (u:aK G K (box a0 63 [i64 a.F,i64 a.B,i64 a.To]::aV 63 K g j d::L) d2)=>(aG (aI (aC (bG (t':=0) fJ rfl rfl) (aC (cF cE u (i:=0) rfl rfl rfl) (aO x (aC (lC rfl rfl) (aG ?_)))))))))))
   rcases aH b with ⟨a2,b⟩|⟨a2,b⟩
   ·refine aL a2 rfl (aP (aO y (aC (dF (us:=[i64 a.F,i64 a.B,i64 a.To]) iJ u (i:=0) rfl rfl rfl rfl) (dJ (Kt:=K) (xs:=([a]:List Edge)) (cs:=[i64 a.F,i64 a.B,i64 a.To]) (vs:=[(0,zA #[i64 a.F,i64 a.B,i64 a.To])]) bY lD rfl rfl u rfl (by kernel_rfl) rfl rfl rfl ⟨rfl,trivial⟩ (fun d3 d4 (d5:aK G K (aV 63 K d3 1 ([a]:List Edge)::box a0 63 [i64 a.F,i64 a.B,i64 a.To]::aV 63 K g j d::L) d4)=>?_)))))
    obtain ⟨a3,d6,b⟩:=aB b
    exact iA (i:=1) bY Tryz.underlying27 lD rfl rfl d5 rfl (zR _) (zR _) d6 rfl rfl rfl rfl (fun _ h=>h) (fun a5 a6 d7 (d8:aK G K (box a0 63 [i64 a.F,i64 a.B,i64 a.To]::aV 63 K a5 a6 a3::L) d7)=>(aF (v:=zS a5 a3.length a6) (bK (bE (aA ⟨a3,a5,a6,b,x,rfl,z,J,p,(aK.arr 1 [] d8 rfl)⟩)))))
   ·exact aJ a2 rfl (aY (bE (aA ⟨d,g,j,b,x,y,z,J,p,(aK.arr 1 [] u rfl)⟩)))
  ·refine aJ Z rfl (bZ (aW (aW ?_)))
   have d9:=c0 _ (zI b).symm
   subst d9
   have c:(vB d)=some R:=c
   exact bO (aA ⟨d,g,j,c,y,V⟩)
theorem qW {c R:(List bH)} (hs:aK G K (aV 9 K a1 c2 c::L) w) (d:iY c=some R):
  Calls Tryz.prog 189 ([zS a1 c.length c2]:List Value).toArray w (gO fun v w'=>∃ (b9:Option Addr) (c0:Nat),v=zS b9 R.length c0∧aK G K (aV 9 K b9 c0 R::L) w'):=by
 refine aS Tryz.func189 rfl (by kernel_rfl) (by show (1:Nat)≤61;decide) ?_
 unfold iY at d
 refine aI (aF (v:=zS none 0 0) (aG (aN (aI (aM (v:=zS a1 c.length c2) (aC (bT (len:=c.length) cO rfl) (aC (cJ rfl rfl) (aG ?_))))))))
 rcases aH d with ⟨c3,d⟩|⟨c3,d⟩
 ·refine aL c3 rfl (aI (aM (v:=zS a1 c.length c2) (aF (v:=zS a1 c.length c2) (aG ?_))))
  obtain rfl:=zI d
  exact bF (aR (bB Tryz.results189 rfl ⟨a1,c2,rfl,hs⟩))
 ·refine aJ c3 rfl (aY (aA (aN (aI (aF (v:=i64 1) (aG (bC (fun f w=>fM c=some R∧f 0=zS a1 c.length c2∧aK G K (aV 9 K a1 c2 c::L) w) ?_ ?_)))))))
  ·rintro f w6 ⟨d,e5,e4⟩
   unfold fM at d
   refine aA (aI (aO e5 (aF (v:=zS a1 c.length c2) (aG ?_))))
   obtain rfl:=zI d
   exact bF (bB Tryz.results189 rfl ⟨a1,c2,rfl,e4⟩)
  obtain ⟨h1,e7,d⟩:=aB d
  refine cA e7 (fun (j:Int) f w=>f 0=zS a1 c.length c2∧f 3=i64 j∧aK G K (aV 9 K a1 c2 c::L) w) ?_ ?_
  ·exact ⟨rfl,rfl,hs⟩
  ·rintro j z f h2 a c1 ⟨m,p,e⟩
   replace a:iH c j=some z:=a
   unfold iH at a
   refine aN (aI (aO p (aO m (aC (bT (len:=c.length) cO rfl) (aC (cJ rfl rfl) (aG ?_))))))
   rcases aH a with ⟨a7,a⟩|⟨a7,a⟩
   ·refine aL a7 rfl (aY (aA (aN (bC (fun f w=>iF j=some z∧f 0=zS a1 c.length c2∧f 3=i64 j∧aK G K (aV 9 K a1 c2 c::L) w) ?_ ?_))))
    ·rintro f h3 ⟨a,e8,e9,f0⟩
     unfold iF at a
     exact aA (aP (aO e9 (aC (cM rfl rfl) (aF (v:=i64 (wr (j+1))) (aG ⟨wr (j+1),(zI a).symm,e8,rfl,f0⟩)))))
    refine aN (eK (C:=fun w'=>aK G K (aV 9 K a1 c2 c::L) w') bU (by kernel_rfl) (aK.mono e (dQ.drew _)) (aX (fun _ e=>bD m) (aX (fun _ e=>bD p) ?_)))
    obtain ⟨h4,a8,a⟩:=aB a
    have q:=dM e (i:=0) rfl a8
    refine aX (fun _ e=>eB cO rfl q rfl rfl rfl a8) (aX (fun _ e=>lX (t:=0) pU e (i:=0) rfl a8 rfl rfl rfl) (aX (fun _ e=>bD m) (aX (fun _ e=>bD p) (aX (fun _ e=>kO rfl rfl) ?_))))
    obtain ⟨h5,c4,a⟩:=aB a
    refine aX (fun _ e=>eB cO rfl q rfl rfl rfl c4) (aX (fun _ e=>lX (t:=0) pU e (i:=0) rfl c4 rfl rfl rfl) (aX (fun _ e=>vR rfl rfl) (eG (fun h6 a9=>(aA ?_)))))
    rcases aH a with ⟨c45,a⟩|⟨c45,a⟩
    ·refine aL c45 rfl (aI (aO m (aO p ?_)))
     obtain ⟨x,J,a⟩:=aB a
     have V:=oE a9 (i:=0) rfl
     obtain ⟨b0,b1,Z⟩:=Cut.ex 1 a1 c2 j
     refine aC (aBs cO V Z rfl rfl rfl J) (aF (v:=zS b0 x.length b1) (aG (aN (aI (aF (v:=i64 1) (aG (bC (fun f w=>∃ (a0:List bH) (a2:Int),fN a0 a2=some z∧f 0=zS a1 a0.length c2∧f 3=i64 a2∧aK G K (aV 9 K a1 c2 a0::L) w) ?_ ?_)))))))
     ·rintro f h7 ⟨a0,a2,a,c5,c6,c7⟩
      unfold fN at a
      refine aA (aI (aO c5 (aO c6 ?_)))
      obtain ⟨h8,f1,a⟩:=aB a
      have f2:=oE c7 (i:=0) rfl
      obtain ⟨h9,i0,c8⟩:=Cut.ex 1 a1 c2 a2
      refine aC (aBs cO f2 c8 rfl rfl rfl f1) ?_
      obtain ⟨c9,d0,a⟩:=aB a
      refine aCu cO aAo rfl c7 (i:=0) rfl c8 rfl rfl d0 (fun d1 (d2:aK G K (aV 9 K a1 c2 c9::L) d1)=>(aG (aI (aO (v:=zS a1 c9.length c2) (Eq.trans c5 (congrArg (fun n=>zS a1 n c2) (aCs d0))) (aO c6 ?_)))))
      obtain ⟨b2,d3,a⟩:=aB a
      have f3:=oE d2 (i:=0) rfl
      obtain ⟨b3,b4,d4⟩:=Cut.ex 1 a1 c2 0
      refine aC (aFF cO f3 d4 rfl rfl rfl d3) (aF (v:=zS b3 b2.length b4) (aG (bF (bQ (aR (aR (aR ?_)))))))
      have f4:=c1 _ (zI a).symm
      subst f4
      have d:(some b2)=some R:=d
      have f5:aK G K (aV 9 K b3 b4 b2::L) d1:=aK.cutP d2 (i:=0) rfl d3 d4
      obtain rfl:=zI d
      exact bQ (aR (aR (bB Tryz.results189 rfl ⟨b3,b4,rfl,f5⟩)))
     obtain ⟨i1,f7,a⟩:=aB a
     refine cA f7 (fun (s:(List bH × Int × Int)) f w=>match s with|(k,l,o)=>f 0=zS a1 k.length c2∧f 3=i64 l∧f 4=zS b0 x.length b1∧f 5=i64 o∧aK G K (aV 9 K a1 c2 k::L) w) ?_ ?_
     ·exact ⟨m,p,rfl,rfl,a9⟩
     ·rintro ⟨k,l,o⟩ d5 f i2 b f8 ⟨a3,a4,r,u,g⟩
      replace b:iG j x k l o=some d5:=b
      unfold iG at b
      refine aN (aI (aO u (aO r (aC (bT (len:=x.length) cO rfl) (aC (cJ rfl rfl) (aG ?_))))))
      rcases aH b with ⟨b5,b⟩|⟨b5,b⟩
      ·refine aL b5 rfl (aY (aA (aN (bC (fun f w=>∃ (y:List bH) (a5:Int),fO o y a5=some d5∧f 0=zS a1 y.length c2∧f 3=i64 a5∧f 4=zS b0 x.length b1∧f 5=i64 o∧aK G K (aV 9 K a1 c2 y::L) w) ?_ ?_))))
       ·rintro f i3 ⟨y,a5,b,f9,g0,g1,g2,g3⟩
        unfold fO at b
        exact aA (aP (aO g2 (aC (cM rfl rfl) (aF (v:=i64 (wr (o+1))) (aG ⟨(y,a5,wr (o+1)),(zI b).symm,f9,g0,g1,rfl,g3⟩)))))
       refine aN (eK (C:=fun w'=>aK G K (aV 9 K a1 c2 k::L) w') bU (by kernel_rfl) (aK.mono g (dQ.drew _)) (aX (fun _ g=>bD r) (aX (fun _ g=>bD u) ?_)))
       obtain ⟨i4,d6,b⟩:=aB b
       obtain ⟨d7,d8,b⟩:=aB b
       refine aX (fun _ g=>aDy cO q Z J V rfl rfl rfl d6 rfl) (aX (fun _ g=>lX (t:=0) pU g (i:=0) rfl d8 rfl rfl rfl) (aX (fun _ g=>bD r) (aX (fun _ g=>bD u) (aX (fun _ g=>kO rfl rfl) ?_))))
       obtain ⟨i5,g4,b⟩:=aB b
       obtain ⟨i6,g5,b⟩:=aB b
       refine aX (fun _ g=>aDy cO q Z J V rfl rfl rfl g4 rfl) (aX (fun _ g=>lX (t:=0) pU g (i:=0) rfl g5 rfl rfl rfl) (aX (fun _ g=>aAG rfl rfl) (eG (fun i7 b6=>(aA ?_)))))
       rcases aH b with ⟨b7,b⟩|⟨b7,b⟩
       ·refine aL b7 rfl (aI (aO a3 (aO a4 (aO r (aO u (aC (aDy cO q Z J V rfl rfl rfl d6 rfl) (aC (lX (t:=0) pU b6 (i:=0) rfl d8 rfl rfl rfl) ?_)))))))
        obtain ⟨i8,d9,b⟩:=aB b
        refine aC (eB cO rfl q rfl rfl rfl d9) ?_
        obtain ⟨e0,e1,b⟩:=aB b
        exact jW (i:=0) (t:=0) (ns:=[str d7]) (e':=(d7:bH)) Tryz.sizeOf9 b6 rfl (zR _) rfl rfl rfl d9 e1 rfl rfl (dK rfl) rfl (fun cs h=>by cases h;rfl) (fun g6 (g7:aK G K (aV 9 K a1 c2 e0::L) g6)=>(aG (aP (aO a4 (aC (cM rfl rfl) (aF (v:=i64 (wr (l+1))) (bK (bE (aA ⟨e0,wr (l+1),b,(Eq.trans a3 (congrArg (fun n=>zS a1 n c2) (iE e1))),rfl,r,u,g7⟩)))))))))
       ·exact aJ b7 rfl (aY (bE (aA ⟨k,l,b,a3,a4,r,u,b6⟩)))
      ·refine aJ b5 rfl (bZ (aW (aW ?_)))
       have g8:=f8 _ (zI b).symm
       subst g8
       have a:(fN k l)=some z:=a
       exact bO (aA ⟨k,l,a,a3,a4,g⟩)
    ·exact aJ c45 rfl (aY (bE (aA ⟨a,m,p,a9⟩)))
   ·refine aJ a7 rfl (bZ (aW (aW ?_)))
    have g9:=c1 _ (zI a).symm
    subst g9
    have d:(fM c)=some R:=d
    exact bO (aA ⟨d,m,e⟩)
theorem lB {t:cH} {k:Int} {R:(List bH)} (hs:aK G K (L) w) (V:cL K a1 c2 t.L) (h6:cL K a4 c5 t.E) (b:kB t k=some R):
  Calls Tryz.prog 233 ([zA (zCa t a1 c2 a4 c5),i64 k]:List Value).toArray w (gO fun v w'=>∃ (a8:Option Addr) (a9:Nat),v=zS a8 R.length a9∧aK G K (aV 9 K a8 a9 R::L) w'):=by
 let l:=(zC t a1 c2 a4 c5)
 refine aS Tryz.func233 rfl (by kernel_rfl) (by show (2:Nat)≤30;decide) ?_
 unfold kB at b
 refine aI (eE (v:=zA (zCa t a1 c2 a4 c5)) (vs:=l) hs rfl rfl (fun p w8 b0=>(aF (v:=zS none 0 0) (aG (aI (aF (v:=zS none 0 0) (aG (aN (aI (aC (dF (us:=l) eC b0 (i:=0) rfl rfl rfl rfl) (aM (v:=i64 k) ?_)))))))))))
 obtain ⟨d,c4,b⟩:=aB b
 refine aU (vs:=[zA (zCa t a1 c2 a4 c5),i64 k]) Tryz.call121 rfl (aAk b0 V h6 c4) ?_
 rintro _ f2 ⟨q,r,rfl,c6⟩
 refine aC (bT (len:=d.length) bY rfl) (aM (v:=i64 0) (aG (bC (fun f w=>∃ (u:List bH) (g:Option Addr) (j:Nat),mI u=some R∧f 5=zS g u.length j∧aK G K (aV 9 K g j u::L) w) ?_ ?_)))
 ·rintro f f3 ⟨u,g,j,b,b1,c7⟩
  unfold mI at b
  refine aA (aI (aO b1 ?_))
  obtain ⟨b2,c8,b⟩:=aB b
  refine aU (vs:=[zS g u.length j,Value.func (.func 188) #[] #[]]) Tryz.call187 rfl (lib_SortStr c7 c8) ?_
  rintro _ f4 ⟨rfl,c9,d0⟩
  refine aG (aI (aO (v:=zS g b2.length j) (Eq.trans b1 (congrArg (fun n=>zS g n j) c9)) ?_))
  obtain ⟨d1,d2,b⟩:=aB b
  refine aU (vs:=[zS g b2.length j]) Tryz.call189 rfl (qW d0 d2) ?_
  rintro _ f5 ⟨b3,b4,rfl,d3⟩
  refine aF (v:=zS b3 d1.length b4) (aG ?_)
  obtain rfl:=zI b
  exact bF (bB Tryz.results233 rfl ⟨b3,b4,rfl,d3⟩)
 have d5:=aK.nil (α:=bH) c6 9 K
 obtain ⟨f6,d6,b⟩:=aB b
 refine cA d6 (fun (s:(List bH × Int)) f w=>match s with|(e,x)=>∃ (m:Option Addr) (o:Nat),f 2=zP (some ⟨p,0,none⟩)∧f 5=zS m e.length o∧f 10=zS q d.length r∧f 11=i64 (d.length:Int)∧f 12=i64 x∧aK G K (aV 9 K m o e::aV 63 K q r d::box p 29 l::L) w) ?_ ?_
 ·exact ⟨none,0,rfl,rfl,rfl,rfl,rfl,d5⟩
 ·rintro ⟨e,x⟩ d7 f f7 c d8 ⟨m,o,b5,b6,b8,b9,Z,y⟩
  replace c:qP t d e x=some d7:=c
  unfold qP at c
  refine aI (aC (cJ Z b9) (aG (aN ?_)))
  rcases aH c with ⟨a0,c⟩|⟨a0,c⟩
  ·refine aL a0 rfl (aY (aA (aN (cP (aI ?_)))))
   obtain ⟨a,a2,c⟩:=aB c
   have d9:=dM y (i:=1) rfl a2
   refine aC (eB bY rfl d9 b8 rfl Z a2) (aC (aAH (t:=0) (vs:=[i64 a.F,i64 a.B,i64 a.To]) iJ y (i:=1) rfl a2 rfl rfl rfl rfl) (bW (vs:=[i64 0,i64 0,i64 0]) Tryz.zeroValue63 y rfl (fun a3 f8 e0=>(cD (i:=0) (ns:=[i64 a.F,i64 a.B,i64 a.To]) (us:=[i64 a.F,i64 a.B,i64 a.To]) Tryz.sizeOf63 e0 rfl rfl rfl rfl rfl (dK rfl) rfl rfl (fun e1 (z:aK G K (box a3 63 [i64 a.F,i64 a.B,i64 a.To]::aV 9 K m o e::aV 63 K q r d::box p 29 l::L) e1)=>(aG (aP (aO b6 (aC (bG (t':=2) gI b5 rfl) (aC (cF mG z (i:=3) rfl rfl rfl) (aC (bG (t':=1) gB rfl rfl) (aC (cF cE z (i:=0) rfl rfl rfl) ?_))))))))))))
   obtain ⟨J,c0,c⟩:=aB c
   refine aC (cT cO rfl V rfl rfl rfl c0) ?_
   obtain ⟨f9,e2,e3⟩:=cL.el (sz:=1) rfl V c0
   cases e3
   refine aC (bJ (t:=0) pU z e2 rfl rfl) (dJ (Kt:=K) (xs:=([J]:List bH)) (cs:=[str J]) (vs:=[(0,str J)]) cO aAo rfl rfl z rfl (by kernel_rfl) rfl rfl rfl ⟨rfl,trivial⟩ (fun e4 e5 (e6:aK G K (aV 9 K e4 1 ([J]:List bH)::box a3 63 [i64 a.F,i64 a.B,i64 a.To]::aV 9 K m o e::aV 63 K q r d::box p 29 l::L) e5)=>?_))
   obtain ⟨a5,e7,c⟩:=aB c
   exact iA (i:=1) cO Tryz.underlying22 aAo rfl rfl e6 rfl (zR _) (zR _) e7 rfl rfl rfl rfl (fun _ h=>h) (fun a6 a7 e8 (e9:aK G K (box a3 63 [i64 a.F,i64 a.B,i64 a.To]::aV 9 K a6 a7 a5::aV 63 K q r d::box p 29 l::L) e8)=>(aF (v:=zS a6 a5.length a7) (bK (bE (aA (aP (aC (cM Z rfl) (aM (v:=i64 (wr (x+1))) (aG ⟨(a5,wr (x+1)),(zI c).symm,a6,a7,b5,rfl,b8,b9,rfl,(aK.arr 1 [] e9 rfl)⟩)))))))))
  ·refine aJ a0 rfl (bZ (aW (aW ?_)))
   have f0:=d8 _ (zI c).symm
   subst f0
   have b:(mI e)=some R:=b
   exact bO (aA ⟨e,m,o,b,b6,(aK.arr 3 [0] y rfl)⟩)
theorem kE {a:(List Int)} {b:Int} {R:Bool} (d:aK G K (L) w) (e:cL K a1 c2 a) (c:dY a b=some R):
  Calls Tryz.prog 183 ([zS a1 a.length c2,i64 b]:List Value).toArray w (gO fun v w'=>v=zB R∧aK G K (L) w'):=by
 refine aS Tryz.func183 rfl (by kernel_rfl) (by show (2:Nat)≤9;decide) ?_
 unfold dY at c
 refine aI (aF (v:=zB false) (aG (aI (aM (v:=zS a1 a.length c2) (aM (v:=i64 b) ?_)))))
 obtain ⟨g,h,c⟩:=aB c
 refine aU (vs:=[zS a1 a.length c2,i64 b]) Tryz.call83 rfl (lR d e h) ?_
 rintro _ k ⟨rfl,i⟩
 refine aC (uI rfl rfl) (aF (v:=zB (decide (0≤g))) (aG ?_))
 obtain rfl:=zI c
 exact bF (bB Tryz.results183 rfl ⟨rfl,i⟩)
theorem rU {c R:(List Int)} (hs:aK G K (aV 2 K a1 c2 c::L) w) (d:fG c=some R):
  Calls Tryz.prog 191 ([zS a1 c.length c2]:List Value).toArray w (gO fun v w'=>∃ (b9:Option Addr) (c0:Nat),v=zS b9 R.length c0∧aK G K (aV 2 K b9 c0 R::L) w'):=by
 refine aS Tryz.func191 rfl (by kernel_rfl) (by show (1:Nat)≤61;decide) ?_
 unfold fG at d
 refine aI (aF (v:=zS none 0 0) (aG (aN (aI (aM (v:=zS a1 c.length c2) (aC (bT (len:=c.length) cG rfl) (aC (cJ rfl rfl) (aG ?_))))))))
 rcases aH d with ⟨c3,d⟩|⟨c3,d⟩
 ·refine aL c3 rfl (aI (aM (v:=zS a1 c.length c2) (aF (v:=zS a1 c.length c2) (aG ?_))))
  obtain rfl:=zI d
  exact bF (aR (bB Tryz.results191 rfl ⟨a1,c2,rfl,hs⟩))
 ·refine aJ c3 rfl (aY (aA (aN (aI (aF (v:=i64 1) (aG (bC (fun f w=>gC c=some R∧f 0=zS a1 c.length c2∧aK G K (aV 2 K a1 c2 c::L) w) ?_ ?_)))))))
  ·rintro f w6 ⟨d,e5,e4⟩
   unfold gC at d
   refine aA (aI (aO e5 (aF (v:=zS a1 c.length c2) (aG ?_))))
   obtain rfl:=zI d
   exact bF (bB Tryz.results191 rfl ⟨a1,c2,rfl,e4⟩)
  obtain ⟨h1,e7,d⟩:=aB d
  refine cA e7 (fun (j:Int) f w=>f 0=zS a1 c.length c2∧f 3=i64 j∧aK G K (aV 2 K a1 c2 c::L) w) ?_ ?_
  ·exact ⟨rfl,rfl,hs⟩
  ·rintro j z f h2 a c1 ⟨m,p,e⟩
   replace a:dP c j=some z:=a
   unfold dP at a
   refine aN (aI (aO p (aO m (aC (bT (len:=c.length) cG rfl) (aC (cJ rfl rfl) (aG ?_))))))
   rcases aH a with ⟨a7,a⟩|⟨a7,a⟩
   ·refine aL a7 rfl (aY (aA (aN (bC (fun f w=>gD j=some z∧f 0=zS a1 c.length c2∧f 3=i64 j∧aK G K (aV 2 K a1 c2 c::L) w) ?_ ?_))))
    ·rintro f h3 ⟨a,e8,e9,f0⟩
     unfold gD at a
     exact aA (aP (aO e9 (aC (cM rfl rfl) (aF (v:=i64 (wr (j+1))) (aG ⟨wr (j+1),(zI a).symm,e8,rfl,f0⟩)))))
    refine aN (eK (C:=fun w'=>aK G K (aV 2 K a1 c2 c::L) w') bU (by kernel_rfl) (aK.mono e (dQ.drew _)) (aX (fun _ e=>bD m) (aX (fun _ e=>bD p) ?_)))
    obtain ⟨h4,a8,a⟩:=aB a
    have q:=dM e (i:=0) rfl a8
    refine aX (fun _ e=>eB cG rfl q rfl rfl rfl a8) (aX (fun _ e=>lX (t:=0) cE e (i:=0) rfl a8 rfl rfl rfl) (aX (fun _ e=>bD m) (aX (fun _ e=>bD p) (aX (fun _ e=>kO rfl rfl) ?_))))
    obtain ⟨h5,c4,a⟩:=aB a
    refine aX (fun _ e=>eB cG rfl q rfl rfl rfl c4) (aX (fun _ e=>lX (t:=0) cE e (i:=0) rfl c4 rfl rfl rfl) (aX (fun _ e=>lC rfl rfl) (eG (fun h6 a9=>(aA ?_)))))
    rcases aH a with ⟨c45,a⟩|⟨c45,a⟩
    ·refine aL c45 rfl (aI (aO m (aO p ?_)))
     obtain ⟨x,J,a⟩:=aB a
     have V:=oE a9 (i:=0) rfl
     obtain ⟨b0,b1,Z⟩:=Cut.ex 1 a1 c2 j
     refine aC (aBs cG V Z rfl rfl rfl J) (aF (v:=zS b0 x.length b1) (aG (aN (aI (aF (v:=i64 1) (aG (bC (fun f w=>∃ (a0:List Int) (a2:Int),eP a0 a2=some z∧f 0=zS a1 a0.length c2∧f 3=i64 a2∧aK G K (aV 2 K a1 c2 a0::L) w) ?_ ?_)))))))
     ·rintro f h7 ⟨a0,a2,a,c5,c6,c7⟩
      unfold eP at a
      refine aA (aI (aO c5 (aO c6 ?_)))
      obtain ⟨h8,f1,a⟩:=aB a
      have f2:=oE c7 (i:=0) rfl
      obtain ⟨h9,i0,c8⟩:=Cut.ex 1 a1 c2 a2
      refine aC (aBs cG f2 c8 rfl rfl rfl f1) ?_
      obtain ⟨c9,d0,a⟩:=aB a
      refine aCu cG qE rfl c7 (i:=0) rfl c8 rfl rfl d0 (fun d1 (d2:aK G K (aV 2 K a1 c2 c9::L) d1)=>(aG (aI (aO (v:=zS a1 c9.length c2) (Eq.trans c5 (congrArg (fun n=>zS a1 n c2) (aCs d0))) (aO c6 ?_)))))
      obtain ⟨b2,d3,a⟩:=aB a
      have f3:=oE d2 (i:=0) rfl
      obtain ⟨b3,b4,d4⟩:=Cut.ex 1 a1 c2 0
      refine aC (aFF cG f3 d4 rfl rfl rfl d3) (aF (v:=zS b3 b2.length b4) (aG (bF (bQ (aR (aR (aR ?_)))))))
      have f4:=c1 _ (zI a).symm
      subst f4
      have d:(some b2)=some R:=d
      have f5:aK G K (aV 2 K b3 b4 b2::L) d1:=aK.cutP d2 (i:=0) rfl d3 d4
      obtain rfl:=zI d
      exact bQ (aR (aR (bB Tryz.results191 rfl ⟨b3,b4,rfl,f5⟩)))
     obtain ⟨i1,f7,a⟩:=aB a
     refine cA f7 (fun (s:(List Int × Int × Int)) f w=>match s with|(k,l,o)=>f 0=zS a1 k.length c2∧f 3=i64 l∧f 4=zS b0 x.length b1∧f 5=i64 o∧aK G K (aV 2 K a1 c2 k::L) w) ?_ ?_
     ·exact ⟨m,p,rfl,rfl,a9⟩
     ·rintro ⟨k,l,o⟩ d5 f i2 b f8 ⟨a3,a4,r,u,g⟩
      replace b:dO j x k l o=some d5:=b
      unfold dO at b
      refine aN (aI (aO u (aO r (aC (bT (len:=x.length) cG rfl) (aC (cJ rfl rfl) (aG ?_))))))
      rcases aH b with ⟨b5,b⟩|⟨b5,b⟩
      ·refine aL b5 rfl (aY (aA (aN (bC (fun f w=>∃ (y:List Int) (a5:Int),eQ o y a5=some d5∧f 0=zS a1 y.length c2∧f 3=i64 a5∧f 4=zS b0 x.length b1∧f 5=i64 o∧aK G K (aV 2 K a1 c2 y::L) w) ?_ ?_))))
       ·rintro f i3 ⟨y,a5,b,f9,g0,g1,g2,g3⟩
        unfold eQ at b
        exact aA (aP (aO g2 (aC (cM rfl rfl) (aF (v:=i64 (wr (o+1))) (aG ⟨(y,a5,wr (o+1)),(zI b).symm,f9,g0,g1,rfl,g3⟩)))))
       refine aN (eK (C:=fun w'=>aK G K (aV 2 K a1 c2 k::L) w') bU (by kernel_rfl) (aK.mono g (dQ.drew _)) (aX (fun _ g=>bD r) (aX (fun _ g=>bD u) ?_)))
       obtain ⟨i4,d6,b⟩:=aB b
       obtain ⟨d7,d8,b⟩:=aB b
       refine aX (fun _ g=>aDy cG q Z J V rfl rfl rfl d6 rfl) (aX (fun _ g=>lX (t:=0) cE g (i:=0) rfl d8 rfl rfl rfl) (aX (fun _ g=>bD r) (aX (fun _ g=>bD u) (aX (fun _ g=>kO rfl rfl) ?_))))
       obtain ⟨i5,g4,b⟩:=aB b
       obtain ⟨i6,g5,b⟩:=aB b
       refine aX (fun _ g=>aDy cG q Z J V rfl rfl rfl g4 rfl) (aX (fun _ g=>lX (t:=0) cE g (i:=0) rfl g5 rfl rfl rfl) (aX (fun _ g=>oC rfl rfl) (eG (fun i7 b6=>(aA ?_)))))
       rcases aH b with ⟨b7,b⟩|⟨b7,b⟩
       ·refine aL b7 rfl (aI (aO a3 (aO a4 (aO r (aO u (aC (aDy cG q Z J V rfl rfl rfl d6 rfl) (aC (lX (t:=0) cE b6 (i:=0) rfl d8 rfl rfl rfl) ?_)))))))
        obtain ⟨i8,d9,b⟩:=aB b
        refine aC (eB cG rfl q rfl rfl rfl d9) ?_
        obtain ⟨e0,e1,b⟩:=aB b
        exact jW (i:=0) (t:=0) (ns:=[i64 d7]) (e':=(d7:Int)) Tryz.sizeOf2 b6 rfl (zR _) rfl rfl rfl d9 e1 rfl rfl (dK rfl) rfl (fun cs h=>by cases h;rfl) (fun g6 (g7:aK G K (aV 2 K a1 c2 e0::L) g6)=>(aG (aP (aO a4 (aC (cM rfl rfl) (aF (v:=i64 (wr (l+1))) (bK (bE (aA ⟨e0,wr (l+1),b,(Eq.trans a3 (congrArg (fun n=>zS a1 n c2) (iE e1))),rfl,r,u,g7⟩)))))))))
       ·exact aJ b7 rfl (aY (bE (aA ⟨k,l,b,a3,a4,r,u,b6⟩)))
      ·refine aJ b5 rfl (bZ (aW (aW ?_)))
       have g8:=f8 _ (zI b).symm
       subst g8
       have a:(eP k l)=some z:=a
       exact bO (aA ⟨k,l,a,a3,a4,g⟩)
    ·exact aJ c45 rfl (aY (bE (aA ⟨a,m,p,a9⟩)))
   ·refine aJ a7 rfl (bZ (aW (aW ?_)))
    have g9:=c1 _ (zI a).symm
    subst g9
    have d:(gC c)=some R:=d
    exact bO (aA ⟨d,m,e⟩)
end Gv
