/- Walks, printed by program. -/
import Derived.Test.YtcoeckcjdpbbkaaGreatDoorJWk7
set_option linter.all false
namespace Gv
open Go.Value renaming slice→zS,bool→zB,pointer→zP,agg→zA,map→zM
open Option.some renaming inj→zI
open Gv.Hp renaming le_trans→zL,le_refl→zR
open Go Go.Proofs Go.Proofs.Tryz
set_option maxRecDepth 20000
set_option maxHeartbeats 40000000
variable {G:Env} {K Kf:Hp} {L:List gV} {w:World} {a1 a4 a7 a10 a3 a6 a2 a5 a8 a11 a14 a17 a20 a23 a26 a29 a32 a35 a40 a13 a16 a19 a22 a27 a30 a34 a37 a43 a46 a49 a52 a55 a58 a61 a64 a67 a72 a25 a28 a31:Option Addr} {c2 c5 c8 c11 c7 b1 c9 c18 c21 c24 c27 c30 c33 c36 c41 c14 c17 c20 c23 c28 c31 b33 c50 c53 c56 c59 c62 c65 c68 c73 c3 c6 c12 c15 c26 c32:Nat}
theorem aKz {a R:aH} (hm:aFn a=some R) (b:aD G K (L) w) (c:G.lo=0):
  Calls prog 108 ([str a]:List Value).toArray w (dS fun v w'=>v=str R/\aD G K (L) w'):=by
 exact aJ
theorem aBc {p:aO} {a:aH} {R:Bool} (hm:lY p a=some R) (b:aD G K (L) w) (c:G.lo=0) (d:aN K a1 c2 p.S.L) (e:aN K a4 c5 p.S.E) (g:aN K a7 c8 p.M) (h:aN K a10 c11 p.C):
  Calls prog 57 ([zA (zEa p a1 c2 a4 c5 a7 c8 a10 c11),str a]:List Value).toArray w (dS fun v w'=>v=zB R/\aD G K (L) w'):=by
 exact aJ
theorem pV {k:Int} {p:(List Int)} {a:Nat} {R:Int} (hm:vY k p=some R) (b:aD G K (L) w) (c:bZ K a1 a [zS a4 p.length c5]) (d:aN K a4 c5 p):
  Calls prog 66 ([i64 k,bR a1 a]:List Value).toArray w (dS fun v w'=>v=i64 R/\aD G K (L) w'):=by
 exact aJ
theorem aHp {t:aP} {a:(List Int)} {R:aP} (hm:aEE t a=some R) (hs:aD G K (L) w) (h3:aN K a1 c2 t.L) (h6:aN K a4 c5 t.E) (y:aN K a7 c8 a):
  Calls prog 23 ([zA (zCa t a1 c2 a4 c5),zS a7 a.length c8]:List Value).toArray w (dS fun v w'=>∃ b3 b4 b5 b6,v=zA (zCa R b3 b4 b5 b6)/\aD G K (aF 9 K b3 b4 R.L::aF 90 K b5 b6 R.E::L) w'):=by
 let m:=zG
 let z:=[zS a7 a.length c8]
 refine cH func23 ?_;unfold aEE at hm
 refine aC ?_;refine oZ fun e3 j0 j1=>?_
 refine oZ fun c j2 j3=>?_;refine kK fun n j4 e4=>?_
 iterate 4 refine cO ?_
 refine aL (kI (vs:=[zP (some ⟨c,0,none⟩)]) rfl) (aC ?_);refine aW [2,4,5] (fun f w=>∃ g b h d e,aCJ t a g b=some R/\f 6=zP (some ⟨h,0,none⟩)/\aD G K (aF 9 K d e b::box h 27 [i64 (a.length:Int),i64 g,zS d b.length e,zS none 0 0]::box n 27 m::box c 28 z::box e3 27 (zC t a1 c2 a4 c5)::L) w) ?_ ?_
 ·rintro f j5 ⟨g,b,h,d,e,hm,j6,e5⟩
  unfold aCJ at hm
  refine aC ?_;refine aK [4,6] (fun f w=>∃ J p q,aCI a g b J=some R/\aD G K (aF 90 K p q J::aF 9 K d e b::box h 27 [i64 (a.length:Int),i64 g,zS d b.length e,zS p J.length q]::box n 27 m::L) w) ?_ ?_
  ·rintro f j7 ⟨J,p,q,hm,e6⟩
   unfold aCI at hm
   refine aC ?_;obtain ⟨b7,e7,hm⟩:=aB hm
   refine cG call68 (lib_SortEdge e6 e7) ?_
   rintro _ e8 ⟨rfl,e9,f0⟩
   have j8:aD G K (aF 90 K p q b7::aF 9 K d e b::box h 27 [i64 (a.length:Int),i64 g,zS d b.length e,zS p b7.length q]::box n 27 m::L) e8:=by rw [←e9];exact f0
   exact aJ
  have j9:=aD.nil (α:=Edge) e5 90 K
  obtain ⟨k0,f1,ho⟩:=aB hm
  refine bQ [4,5,6,23,24] f1 (fun o V f w=>∃ r u,f 25=i64 V/\aD G K (aF 90 K r u o::aF 9 K d e b::box h 27 [i64 (a.length:Int),i64 g,zS d b.length e,zS r o.length u]::box n 27 m::box c 28 z::L) w) aJ ?_
  ·rintro o V b8 f k1 hm hr ⟨r,u,k2,k3⟩
   unfold wA at hm
   refine aC ?_
   rcases aI hm with ⟨f2,hm⟩|⟨f2,hm⟩
   ·refine aC ?_;refine aK [4,5,6,23,24,25] (fun f w=>∃ Z a0 a2,sI V Z=some b8/\aD G K (aF 90 K a0 a2 Z::aF 9 K d e b::box h 27 [i64 (a.length:Int),i64 g,zS d b.length e,zS a0 Z.length a2]::box n 27 m::box c 28 z::L) w) ?_ ?_
    ·rintro f k4 ⟨Z,a0,a2,hm,f3⟩
     unfold sI at hm
     refine aC ?_;exact ⟨_,(zI hm).symm,aR,a0,a2,rfl,f3⟩
    refine aC ?_;obtain ⟨k,f4,hm⟩:=aB hm
    refine aC ?_;obtain ⟨k5,k6,f5⟩:=aN.el (sz:=3) rfl h6 f4
    cases f5
    refine aC ?_;refine kK fun f6 k7 k8=>?_
    refine kZ fun k9 f7=>?_;refine aC ?_
    obtain ⟨l0,b9,l1,l2,f8⟩:=aD.lendBp f7 .head
    refine wW [(0,0),(1,0),(2,0),(4,0),(5,0),(6,0),(3,1),(7,1),(8,0),(9,0)] fun l3 f9=>?_;refine aC ?_
    refine fF rfl ?_;obtain ⟨l4,g0,g1,g2,g3⟩:=aD.lendBp f9 zt4
    obtain ⟨g4,g5,hm⟩:=aB hm
    refine eR (vs:=[i64 k.F]) (caps:=[bR (some ⟨c,0,none⟩) 0]) (us:=[i64 k.F,bR (some ⟨c,0,none⟩) 0]) rfl call66 rfl rfl (pV g5 g2 g1 (y.mono (zL b9 g0))) ?_
    rintro _ l5 ⟨rfl,g6⟩
    have c0:=g3 _ _ g6
    refine aM (aG ⟨⟨_,c0⟩,?_⟩)
    refine fF rfl ?_;obtain ⟨l6,g7,g8,g9,h0⟩:=aD.lendBp c0 .head
    obtain ⟨h1,h2,hm⟩:=aB hm
    refine eR (vs:=[i64 k.To]) (caps:=[bR (some ⟨c,0,none⟩) 0]) (us:=[i64 k.To,bR (some ⟨c,0,none⟩) 0]) rfl call66 rfl rfl (pV h2 g9 g8 (y.mono (zL b9 g7))) ?_
    rintro _ l7 ⟨rfl,h4⟩
    have c1:=h0 _ _ h4
    refine aM (aG ⟨⟨_,c1⟩,?_⟩)
    refine aC ?_;refine jE ?_
    have l8:=f8 _ _ c1
    iterate 2 refine cO ?_
    exact aW [4,5,6,8,9,10,23,24,25] (fun f w=>∃ c3,vZ o V k g4 h1 c3=some b8/\f 42=zB c3/\aD G K (box f6 90 [i64 k.F,i64 k.B,i64 k.To]::box c 28 z::aF 90 K r u o::aF 9 K d e b::box h 27 [i64 (a.length:Int),i64 g,zS d b.length e,zS r o.length u]::box n 27 m::L) w) aJ aJ
   ·exact aJ
 obtain ⟨l9,x,a8,h5,a9⟩:=aD.lendBp e4 zt1
 obtain ⟨h7,l,m0,h8,b0⟩:=aD.lendBp h5 zt1
 refine aDR (C:=fun w'=>∃ L',aD G h7 L' w') [11] Tryz_mixed (by kernel_rfl) (fun m1 i0=>?_)
 have a3:=aD.mono h8 i0
 refine wE (i:=0) rfl (by kernel_rfl) ⟨_,a3⟩ (fun _ ⟨_,a3⟩=>dQ (t:=0) aCe a3 (a8.mono l) rfl rfl) (aEW 1 ?_);refine aEW 2 ?_
 refine aEW 3 ?_;refine aEW 4 ?_
 refine aEW 6 ?_;refine aEW 7 ?_
 refine aBn (i:=5) (j:=10) (by kernel_rfl) rfl rfl ?_ ?_
 ·obtain ⟨a5,i1,hm⟩:=aB hm
  refine eR (vs:=[i64 t.I]) (caps:=[bR (some ⟨c,0,none⟩) 0]) (us:=[i64 t.I,bR (some ⟨c,0,none⟩) 0]) rfl call66 rfl rfl (pV i1 a3 (a8.mono l) (y.mono (zL x l))) ?_
  rintro _ m2 ⟨rfl,c4⟩
  refine aM (aG ⟨fun _=>⟨_,c4⟩,?_⟩)
  refine aBn (i:=8) (j:=10) (by kernel_rfl) rfl rfl ?_ ?_
  ·obtain ⟨c6,i2,hm⟩:=aB hm
   refine cG call30 (aZ i2 c4 (h3.mono (zL x l))) ?_
   rintro _ m3 ⟨c7,c9,rfl,d0⟩
   refine aM (aG ⟨fun _=>⟨_,d0⟩,?_⟩)
   refine wE (i:=9) rfl (by kernel_rfl) ⟨_,d0⟩ (fun _ _=>jZ (vs:=[(0,i64 (a.length:Int)),(1,i64 a5),(2,zS c7 c6.length c9)]) (cs:=[i64 (a.length:Int),i64 a5,zS c7 c6.length c9,zS none 0 0]) aJH rfl (by kernel_rfl)) (cA (i:=10) (by kernel_rfl) rfl (kK fun m4 m5 d1=>?_));refine aM (aG ⟨fun _=>⟨_,d1⟩,?_⟩)
   refine cA (i:=11) (by kernel_rfl) rfl ?_
   have i3:=b0 _ _ d1
   have m6:=a9 _ _ i3
   refine kZ fun m7 m8=>?_;refine aM (aG ⟨no_c rfl,?_⟩)
   exact pZ (by kernel_rfl) aJ
  ·refine kK fun m9 n0 d2=>?_;refine aM (aG ⟨fun _=>⟨_,d2⟩,?_⟩)
   refine cA (i:=8) (by kernel_rfl) rfl ?_;obtain ⟨d3,i4,hm⟩:=aB hm
   refine cG call30 (aZ i4 d2 (h3.mono (zL x l))) ?_
   rintro _ n1 ⟨d4,d5,rfl,b1⟩
   refine aM (aG ⟨fun _=>⟨_,b1⟩,?_⟩)
   refine wE (i:=9) rfl (by kernel_rfl) ⟨_,b1⟩ (fun _ _=>jZ (vs:=[(0,i64 (a.length:Int)),(1,i64 a5),(2,zS d4 d3.length d5)]) (cs:=[i64 (a.length:Int),i64 a5,zS d4 d3.length d5,zS none 0 0]) aJH rfl (by kernel_rfl)) (cA (i:=11) (by kernel_rfl) rfl ?_)
   have i5:=b0 _ _ b1
   have n2:=a9 _ _ i5
   refine kZ fun n3 n4=>?_;refine aM (aG ⟨no_c rfl,?_⟩)
   exact pZ (by kernel_rfl) aJ
 ·refine kK fun n5 n6 d6=>?_;refine aM (aG ⟨fun _=>⟨_,d6⟩,?_⟩)
  refine cA (i:=5) (by kernel_rfl) rfl ?_;obtain ⟨d7,i6,hm⟩:=aB hm
  refine eR (vs:=[i64 t.I]) (caps:=[bR (some ⟨c,0,none⟩) 0]) (us:=[i64 t.I,bR (some ⟨c,0,none⟩) 0]) rfl call66 rfl rfl (pV i6 d6 (a8.mono l) (y.mono (zL x l))) ?_
  rintro _ n7 ⟨rfl,d8⟩
  refine aM (aG ⟨fun _=>⟨_,d8⟩,?_⟩)
  refine cA (i:=8) (by kernel_rfl) rfl ?_;obtain ⟨d9,i7,hm⟩:=aB hm
  refine cG call30 (aZ i7 d8 (h3.mono (zL x l))) ?_
  rintro _ n8 ⟨e0,e1,rfl,b2⟩
  refine aM (aG ⟨fun _=>⟨_,b2⟩,?_⟩)
  refine wE (i:=9) rfl (by kernel_rfl) ⟨_,b2⟩ (fun _ _=>jZ (vs:=[(0,i64 (a.length:Int)),(1,i64 d7),(2,zS e0 d9.length e1)]) (cs:=[i64 (a.length:Int),i64 d7,zS e0 d9.length e1,zS none 0 0]) aJH rfl (by kernel_rfl)) (cA (i:=11) (by kernel_rfl) rfl ?_)
  have i8:=b0 _ _ b2
  have n9:=a9 _ _ i8
  refine kZ fun o0 o1=>?_;refine aM (aG ⟨no_c rfl,?_⟩)
  exact pZ (by kernel_rfl) aJ
theorem oY {d:(List Int)} {l:Int} {R:(List Int)} (hm:fB d l=some R) (hs:aD G K (L) w) (h3:aN K a1 c2 d):
  Calls prog 83 ([zS a1 d.length c2,i64 l]:List Value).toArray w (dS fun v w'=>∃ u x,v=zS u R.length x/\aD G K (aF 2 K u x R::L) w'):=by
 refine cH func83 ?_;unfold fB at hm
 iterate 5 refine cO ?_
 refine sV [0,1] (fun f w=>gA d l=some R/\aD G K (L) w) ?_ ?_
 ·rintro f w4 ⟨hm,a8⟩
  unfold gA at hm
  refine bS (aU (v:=zS a1 d.length c2) (aL (mV (len:=d.length) eN rfl) (aL (aFQ runUnderlying131 rfl ⟨_,runUnderlying3⟩) (aU (v:=i64 l) (aL (aFQ runUnderlying131 rfl ⟨_,runUnderlying3⟩) ?_)))));obtain ⟨c,q7,hm⟩:=aB hm
  refine cG call79 (aPM a8 q7) ?_
  rintro _ w8 ⟨rfl,y⟩
  refine aU (v:=Value.tuple #[Value.int .u64 c.1,Value.int .u64 c.2]) (aL (cN rfl rfl) (aL (cN rfl rfl) (bH (v:=Value.int .u64 c.1) (bH (v:=Value.int .u64 c.2) (bF (sV [0,6] (fun f w=>fZ d c=some R/\aD G K (L) w) ?_ ?_))))))
  ·rintro f d3 ⟨hm,b0⟩
   unfold fZ at hm
   refine bS (aU (v:=Value.int .u64 c.2) (aL (aJw runUnderlying3 rfl ⟨_,runUnderlying131⟩) ?_));obtain ⟨a,b1,hm⟩:=aB hm
   refine aKR (e:=(0:Int)) eN aHr rfl rfl b0 rfl rfl rfl b1 rfl (fun b b2 (z:aD G K (aF 2 K b a.length a::L) b2)=>(bH (v:=zS b a.length a.length) (bF (bS (aU (v:=zS b a.length a.length) (aU (v:=zS a1 d.length c2) ?_))))));obtain ⟨b3,J,hm⟩:=aB hm
   refine aJE eN rfl z (i:=0) rfl Cut.whole rfl rfl rfl (aIk _ _ _) aHE (aMr rfl z h3) J (fun b4 (b5:aD G K (aF 2 K b a.length b3::L) b4)=>(bH (v:=i64 ((Nat.min d.length a.length):Int)) (bF (bI (aK [] (fun f w=>∃ j,fX j=some R/\f 7=zS b j.length a.length/\aD G K (aF 2 K b a.length j::L) w) ?_ ?_)))))
   ·rintro f d4 ⟨j,hm,b6,b7⟩
    unfold fX at hm
    refine aG (bS (gN b6 (bH (v:=zS b j.length a.length) (bF ?_))));obtain rfl:=zI hm
    exact st_E results83 ⟨b,a.length,rfl,b7⟩
   obtain ⟨d5,b9,ho⟩:=aB hm
   refine bQ [] b9 (fun k m f w=>f 7=zS b k.length a.length/\f 8=i64 m/\aD G K (aF 2 K b a.length k::L) w) ?_ ?_
   ·exact ⟨(Eq.trans rfl (congrArg (fun n=>zS b n a.length) (aDF J))),rfl,b5⟩
   ·rintro k m d6 f d7 hm hr ⟨o,p,d8⟩
    unfold fY at hm
    refine bI (bS (gN p (gN o (aL (mV (len:=k.length) eN rfl) (aL (wZ rfl rfl) (bF ?_))))))
    rcases aI hm with ⟨r,hm⟩|⟨r,hm⟩
    ·refine cP r rfl (dD (aG (cR (wW [(0,0),(1,0),(2,0),(3,0),(4,0),(5,0),(6,0),(7,1),(8,0),(9,0)] fun d9 q=>?_))));refine bN rfl (fun _ _=>cC p) (bN rfl (fun _ _=>cC o) (bN rfl (fun _ _=>cC p) ?_))
     obtain ⟨c0,c1,hm⟩:=aB hm
     have c3:=iW q (i:=0) rfl
     obtain ⟨e0,e1,V⟩:=Cut.ex 1 b a.length m
     refine bN rfl (fun _ _=>aAD eN c3 V rfl rfl rfl c1) (bN rfl (fun _ _=>cC o) (bN rfl (fun _ _=>cC p) ?_));obtain ⟨c4,Z,hm⟩:=aB hm
     have c5:=iW q (i:=0) rfl
     obtain ⟨e2,e3,a0⟩:=Cut.ex 1 b a.length 0
     refine bN rfl (fun _ _=>aFy eN c5 a0 rfl rfl rfl Z) (fF rfl ?_);obtain ⟨c6,a2,hm⟩:=aB hm
     refine aJE eN rfl q (i:=0) rfl V rfl rfl rfl (aIk _ _ _) aHE (aMs rfl q (i:=0) rfl Z a0) a2 (fun c7 (a3:aD G K (aF 2 K b a.length c6::L) c7)=>(aM (aG ⟨⟨_,a3⟩,?_⟩)))
     exact bN rfl (fun _ _=>uW rfl rfl) (bN rfl (fun _ _=>sW (v:=i64 (wr (m+((Nat.min c4.length c0.length):Int)))) rfl) (jE (iP (aG ⟨_,(zI hm).symm,aR,(Eq.trans o (congrArg (fun n=>zS b n a.length) (aDF a2))),rfl,a3⟩))))
    ·refine bM r rfl (wD (fH (fH ?_)))
     have c8:=hr _ (zI hm).symm
     subst c8
     have hm:(fX k)=some R:=ho
     exact aJ
  refine bI (aW [0,6] (fun f w=>∃ t,eE d c t=some R/\f 26=zB t/\aD G K (L) w) ?_ ?_)
  ·rintro f e4 ⟨t,hm,c9,d0⟩
   unfold eE at hm
   refine aG ?_
   rcases aI hm with ⟨a4,hm⟩|⟨a4,hm⟩
   ·exact aJ
   ·exact bM a4 c9 (dD (aG ⟨aR,hm,d0⟩))
  refine cK (aU (v:=Value.int .u64 c.1) (aL (aOs rfl rfl) (aU (v:=zB (decide (0 < c.1))) ?_)))
  rcases aI hm with ⟨h,hm⟩|⟨h,hm⟩
  ·exact jM h rfl rfl (jM h rfl rfl (aL (aCM (v:=zB true) h rfl rfl) (bF ⟨aR,true,hm,rfl,y⟩)))
  ·exact kG h rfl rfl (aU (v:=Value.int .u64 c.2) (kG h rfl rfl (aL (aOs rfl rfl) (aL (aEc (v:=zB (decide (9223372036854775807 < c.2))) h rfl rfl) (bF ⟨aR,decide (9223372036854775807 < c.2),hm,rfl,y⟩)))))
 refine aC ?_
 rcases aI hm with ⟨a5,hm⟩|⟨a5,hm⟩
 ·exact aJ
 ·exact bM a5 rfl (dD (aG ⟨aR,hm,hs⟩))
theorem xX {t:aP} {a3:(List Int)} {a5:Bool} {R:(List Int)} (hm:lA t a3 a5=some R) (hs:aD G K (L) w) (h3:aN K a1 c2 t.L) (h6:aN K a4 c5 t.E) (h9:aN K a7 c8 a3):
  Calls prog 34 ([zA (zCa t a1 c2 a4 c5),zS a7 a3.length c8,zB a5]:List Value).toArray w (dS fun v w'=>∃ c0 c1,v=zS c0 R.length c1/\aD G K (aF 2 K c0 c1 R::L) w'):=by
 let c:=(zC t a1 c2 a4 c5)
 refine cH func34 ?_;unfold lA at hm
 refine aC ?_;refine oZ fun d j0 j1=>?_
 refine aC ?_;refine nW ([(-1)]:List Int) fun j2 j3 e3=>?_
 refine aC ?_;obtain ⟨j4,j5,e4,e5,e6⟩:=aD.lendSp e3 (zR _) .head
 obtain ⟨j6,e7,hm⟩:=aB hm
 refine cG call83 (oY e7 e5 e4) ?_
 rintro _ j7 ⟨a,b,rfl,e8⟩
 have e9:=e6 _ _ e8
 refine aC ?_;obtain ⟨o,f0,hm⟩:=aB hm
 refine cG call61 (fQ f0 e9 h9) ?_
 rintro _ j8 ⟨a6,a8,rfl,j9⟩
 refine aC ?_;refine aK [2,3,8] (fun f w=>∃ p,pP t a5 o p=some R/\f 7=zS a p.length b/\aD G K (aF 2 K a6 a8 o::aF 2 K a b p::box d 27 c::L) w) ?_ ?_
 ·rintro f k0 ⟨p,hm,k1,k2⟩
  unfold pP at hm
  refine aC ?_;refine aK [] (fun f w=>∃ a9,aEF a9=some R/\f 7=zS a a9.length b/\aD G K (aF 2 K a b a9::L) w) aJ ?_
  obtain ⟨k3,f1,ho⟩:=aB hm
  refine bQ [2,3] f1 (fun q b0 f w=>∃ r u,f 7=zS a q.length b/\f 8=zS r b0.length u/\aD G K (aF 2 K r u b0::aF 2 K a b q::box d 27 c::L) w) aJ ?_
  ·rintro q b0 c3 f f2 hm hr ⟨r,u,k4,k5,b1⟩
   unfold mA at hm
   refine aC ?_
   rcases aI hm with ⟨f3,hm⟩|⟨f3,hm⟩
   ·refine aC ?_;refine aK [2,3] (fun f w=>∃ x y z J,aAL x y=some c3/\f 7=zS a x.length b/\f 8=zS z y.length J/\aD G K (aF 2 K z J y::aF 2 K a b x::box d 27 c::L) w) ?_ ?_
    ·rintro f k6 ⟨x,y,z,J,hm,f4,f5,f6⟩
     unfold aAL at hm
     refine aC ?_;exact ⟨_,(zI hm).symm,aR,z,J,f4,f5,f6⟩
    refine aC ?_;obtain ⟨c4,c6,hm⟩:=aB hm
    have f7:=bC b1 (i:=0) rfl c6
    refine aL (bV eN rfl f7 rfl rfl rfl c6) (aC ?_);obtain ⟨f8,c7,hm⟩:=aB hm
    have f9:=iW b1 (i:=0) rfl
    obtain ⟨g0,g1,c9⟩:=Cut.ex 1 r u 1
    refine aL (aAD eN f9 c9 rfl rfl rfl c7) ?_
    have k7:aD G K (aF 2 K g0 g1 f8::aF 2 K a b q::box d 27 c::L) f2:=aD.cutP b1 (i:=0) rfl c7 c9
    refine aC ?_;refine aK [2,3] (fun f w=>∃ b2 b3 d0 d1,aEG b2 b3=some c3/\f 7=zS a b2.length b/\f 8=zS d0 b3.length d1/\aD G K (aF 2 K d0 d1 b3::aF 2 K a b b2::box d 27 c::L) w) aJ ?_
    obtain ⟨k8,g2,ho⟩:=aB hm
    refine mW [2,3,11,41,42] g2 (fun g e l f w=>∃ j k,f 7=zS a g.length b/\f 8=zS j e.length k/\f 43=i64 l/\aD G K (aF 2 K j k e::aF 2 K a b g::box d 27 c::L) w) aJ ?_
    ·rintro g e l b4 f k9 hm hr ⟨j,k,g3,l0,l1,l2⟩
     unfold iB at hm
     refine aC ?_
     rcases aI hm with ⟨g4,hm⟩|⟨g4,hm⟩
     ·refine aC ?_;refine aK [2,3,11,41,42,43] (fun f w=>∃ V Z a0 a2,eP l V Z=some b4/\f 7=zS a V.length b/\f 8=zS a0 Z.length a2/\aD G K (aF 2 K a0 a2 Z::aF 2 K a b V::box d 27 c::L) w) ?_ ?_
      ·rintro f l3 ⟨V,Z,a0,a2,hm,g5,g6,g7⟩
       unfold eP at hm
       refine aC ?_;exact ⟨_,(zI hm).symm,aR,a0,a2,g5,g6,rfl,g7⟩
      refine aC ?_;obtain ⟨l4,g8,hm⟩:=aB hm
      refine aC ?_;obtain ⟨l5,l6,g9⟩:=aN.el (sz:=3) rfl h6 g8
      cases g9
      refine aC ?_;refine kK fun l7 l8 l9=>?_
      refine kZ fun m0 m1=>?_;refine aC ?_
      refine aEi ?_;refine aC ?_
      refine oS (fun m2 m3=>?_)
      iterate 1 refine cO ?_
      refine sV [2,3,7,8,11,41,42,43] (fun f w=>∃ b5 m,lZ c4 g e l b5 m=some b4/\f 14=i64 b5/\f 15=i64 m/\aD G K (aF 2 K j k e::aF 2 K a b g::box d 27 c::L) w) ?_ ?_
      ·rintro f m4 ⟨b5,m,hm,m5,m6,m7⟩
       unfold lZ at hm
       iterate 1 refine cO ?_
       refine aW [2,3,7,8,11,15,41,42,43] (fun f w=>∃ b6,iA c4 g e l m b6=some b4/\f 64=zB b6/\aD G K (aF 2 K j k e::aF 2 K a b g::box d 27 c::L) w) ?_ ?_
       ·rintro f m8 ⟨b6,hm,m9,d2⟩
        unfold iA at hm
        refine aC ?_
        rcases aI hm with ⟨h0,hm⟩|⟨h0,hm⟩
        ·refine aC ?_;obtain ⟨d3,d4,hm⟩:=aB hm
         have d5:=bC d2 (i:=1) rfl d4
         refine aL (bV eN rfl d5 rfl rfl rfl d4) (aC ?_);obtain ⟨n0,d6,hm⟩:=aB hm
         refine aL (bV eN rfl d5 rfl rfl rfl d6) ?_;obtain ⟨d7,d8,hm⟩:=aB hm
         refine nU (i:=1) (t:=0) (ns:=[i64 (wr (d3+1))]) (e':=(wr (d3+1):Int)) sizeOf2 d2 rfl (zR _) rfl rfl rfl d6 d8 rfl rfl (lS rfl) rfl (fun cs h=>by cases h;rfl) (fun h1 (n1:aD G K (aF 2 K j k e::aF 2 K a b d7::box d 27 c::L) h1)=>(aC ?_));refine nW ([m]:List Int) fun n2 n3 n4=>?_
         obtain ⟨h2,n5,hm⟩:=aB hm
         refine aIw fun h4 h5 n6 h7=>?_;refine aC ?_
         exact ⟨aR,d7,h2,h4,h5,hm,(Eq.trans g3 (congrArg (fun n=>zS a n b) (lD d8))),rfl,h7⟩
        ·exact aJ
       exact aJ
      exact aJ
     ·exact aJ
   ·exact aJ
 obtain ⟨n7,h8,ho⟩:=aB hm
 refine bQ [2,3,8,22,23] h8 (fun b7 d9 f w=>f 7=zS a b7.length b/\f 24=i64 d9/\aD G K (aF 2 K a6 a8 o::aF 2 K a b b7::box d 27 c::L) w) aJ ?_
 ·rintro b7 d9 n8 f n9 hm hr ⟨i0,o0,e0⟩
  unfold gG at hm
  refine aC ?_
  rcases aI hm with ⟨i1,hm⟩|⟨i1,hm⟩
  ·refine aC ?_;refine cR (aC ?_)
   obtain ⟨o1,i2,hm⟩:=aB hm
   refine aC ?_;obtain ⟨o2,o3,i3⟩:=aN.el (sz:=1) rfl h9 i2
   cases i3
   refine aC ?_;obtain ⟨o4,b8,hm⟩:=aB hm
   have i4:=bC e0 (i:=1) rfl b8
   refine aL (bV eN rfl i4 rfl rfl rfl b8) ?_;obtain ⟨i5,e1,hm⟩:=aB hm
   refine nU (i:=1) (t:=0) (ns:=[i64 0]) (e':=(0:Int)) sizeOf2 e0 rfl (zR _) rfl rfl rfl b8 e1 rfl rfl (lS rfl) rfl (fun cs h=>by cases h;rfl) (fun i6 (i7:aD G K (aF 2 K a6 a8 o::aF 2 K a b i5::box d 27 c::L) i6)=>(aC ?_));exact ⟨_,(zI hm).symm,aR,(Eq.trans i0 (congrArg (fun n=>zS a n b) (lD e1))),rfl,i7⟩
  ·exact aJ
theorem aLg {n:Int} {R:(List Int)} (hm:aMA n=some R) (j:aD G K (L) w):
  Calls prog 70 ([i64 n]:List Value).toArray w (dS fun v w'=>∃ b c,v=zS b R.length c/\aD G K (aF 2 K b c R::L) w'):=by
 refine cH func70 ?_;unfold aMA at hm
 refine aC ?_;refine aK [] (fun f w=>∃ a d e,aOI a=some R/\f 3=zS d a.length e/\aD G K (aF 2 K d e a::L) w) aJ ?_
 have m:=aD.nil (α:=Int) j 2 K
 obtain ⟨o,k,ho⟩:=aB hm
 exact bQ [5] k (fun g l f w=>∃ h i,f 3=zS h g.length i/\f 6=i64 l/\aD G K (aF 2 K h i g::L) w) aJ aJ
theorem tY {k:Int} {p:(List Int)} {a:Nat} {R:Bool} (hm:pQ k p=some R) (b:aD G K (L) w) (c:bZ K a1 a [zS a4 p.length c5]) (d:aN K a4 c5 p):
  Calls prog 71 ([i64 k,bR a1 a]:List Value).toArray w (dS fun v w'=>v=zB R/\aD G K (L) w'):=by
 exact aJ
theorem lB {b c:(List Int)} {a:Nat} {R:Int} (hm:dJ b c=some R) (p:aD G K (L) w) (g:aN K a1 c2 b) (h:bZ K a4 a [zS a7 c.length c8]) (i:aN K a7 c8 c):
  Calls prog 84 ([zS a1 b.length c2,Value.func (.func 71) #[] #[bR a4 a]]:List Value).toArray w (dS fun v w'=>v=i64 R/\aD G K (L) w'):=by
 refine cH func84 ?_;unfold dJ at hm
 refine aC ?_;refine aK [] (fun f w=>mH=some R/\aD G K (L) w) aJ ?_
 obtain ⟨q,j,ho⟩:=aB hm
 refine bY [0,1,7] j (fun d f w=>f 8=i64 d/\aD G K (L) w) aJ ?_
 ·rintro d r f t hm hr ⟨u,k⟩
  unfold cU at hm
  refine aC ?_
  rcases aI hm with ⟨l,hm⟩|⟨l,hm⟩
  ·refine aC ?_;refine cR (aC ?_)
   obtain ⟨e,m,hm⟩:=aB hm
   refine aC ?_;obtain ⟨x,y,n⟩:=aN.el (sz:=1) rfl g m
   cases n
   refine aC ?_;obtain ⟨z,o,hm⟩:=aB hm
   exact eR (vs:=[i64 e]) (caps:=[bR a4 a]) (us:=[i64 e,bR a4 a]) rfl call71 rfl rfl (tY o k h i) aJ
  ·exact aJ
theorem mM {g j:(List Int)} {a:Nat} {R:(List Int)} (hm:dY g j=some R) (hs:aD G K (aF 2 K a1 c2 g::L) w) (p:bZ K a3 a [zS a6 j.length c7]) (q:aN K a6 c7 j):
  Calls prog 35 ([zS a1 g.length c2,Value.func (.func 71) #[] #[bR a3 a]]:List Value).toArray w (dS fun v w'=>∃ r u,v=zS r R.length u/\aD G K (aF 2 K r u R::L) w'):=by
 refine cH func35 ?_;unfold dY at hm
 refine aC ?_;obtain ⟨K9,x,b3,b4,b5⟩:=aD.lendSp hs (zR _) .head
 obtain ⟨e1,b6,hm⟩:=aB hm
 refine cG call84 (lB b6 b4 b3 (p.mono x) (q.mono x)) ?_
 rintro _ e2 ⟨rfl,b7⟩
 have e3:=b5 _ _ b7
 refine aC ?_
 rcases aI hm with ⟨b8,hm⟩|⟨b8,hm⟩
 ·exact aJ
 ·refine aC ?_;refine aK [] (fun f w=>∃ b c,eQ b c=some R/\f 0=zS a1 b.length c2/\f 5=i64 c/\aD G K (aF 2 K a1 c2 b::L) w) ?_ ?_
  ·rintro f e4 ⟨b,c,hm,b9,e5,y⟩
   unfold eQ at hm
   refine aC ?_;obtain ⟨e6,c0,hm⟩:=aB hm
   have c1:=iW y (i:=0) rfl
   obtain ⟨e7,e8,z⟩:=Cut.ex 1 a1 c2 c
   refine aL (aAD eN c1 z rfl rfl rfl c0) ?_;obtain ⟨J,V,hm⟩:=aB hm
   refine aFT eN aHr rfl y (i:=0) rfl z rfl rfl V (fun Z (a0:aD G K (aF 2 K a1 c2 J::L) Z)=>?_)
   iterate 4 refine cO ?_
   refine gN (v:=zS a1 J.length c2) (Eq.trans b9 (congrArg (fun n=>zS a1 n c2) (aDF V))) (aC ?_);obtain ⟨c3,a2,hm⟩:=aB hm
   have c4:=iW a0 (i:=0) rfl
   obtain ⟨c5,c6,a4⟩:=Cut.ex 1 a1 c2 0
   refine aL (aFy eN c4 a4 rfl rfl rfl a2) (aC ?_)
   have e9:aD G K (aF 2 K c5 c6 c3::L) Z:=aD.cutP a0 (i:=0) rfl a2 a4
   exact aJ
  obtain ⟨f0,c8,ho⟩:=aB hm
  refine mW [1] c8 (fun k l m f w=>f 0=zS a1 k.length c2/\f 5=i64 l/\f 6=i64 m/\aD G K (aF 2 K a1 c2 k::L) w) aJ ?_
  ·rintro k l m c9 f f1 hm hr ⟨d0,f2,f3,a5⟩
   unfold cJ at hm
   refine aC ?_
   rcases aI hm with ⟨d1,hm⟩|⟨d1,hm⟩
   ·refine aC ?_;refine aK [1,6] (fun f w=>∃ d o,dB m d o=some c9/\f 0=zS a1 d.length c2/\f 5=i64 o/\aD G K (aF 2 K a1 c2 d::L) w) ?_ ?_
    ·rintro f f4 ⟨d,o,hm,d2,d3,d4⟩
     unfold dB at hm
     refine aC ?_;exact ⟨_,(zI hm).symm,aR,d2,d3,rfl,d4⟩
    refine aC ?_;obtain ⟨e,a7,hm⟩:=aB hm
    have a8:=bC a5 (i:=0) rfl a7
    refine aL (bV eN rfl a8 rfl rfl rfl a7) (aC ?_);obtain ⟨f5,d5,hm⟩:=aB hm
    refine eR (vs:=[i64 e]) (caps:=[bR a3 a]) (us:=[i64 e,bR a3 a]) rfl call71 rfl rfl (tY d5 a5 p q) ?_
    rintro _ f6 ⟨rfl,d6⟩
    refine aC ?_
    rcases aI hm with ⟨d7,hm⟩|⟨d7,hm⟩
    ·refine aC ?_;obtain ⟨f7,a9,hm⟩:=aB hm
     refine aL (bV eN rfl a8 rfl rfl rfl a9) ?_;obtain ⟨b0,b1,hm⟩:=aB hm
     refine nU (i:=0) (t:=0) (ns:=[i64 e]) (e':=(e:Int)) sizeOf2 d6 rfl (zR _) rfl rfl rfl a9 b1 rfl rfl (lS rfl) rfl (fun cs h=>by cases h;rfl) (fun d8 (d9:aD G K (aF 2 K a1 c2 b0::L) d8)=>(aC ?_));exact ⟨aR,b0,wr (l+1),hm,(Eq.trans d0 (congrArg (fun n=>zS a1 n c2) (lD b1))),rfl,d9⟩
    ·exact aJ
   ·exact aJ
theorem xY {t:aP} {R:(List Int)} (hm:qN t=some R) (J:aD G K (L) w) (d:aN K a1 c2 t.L) (e:aN K a4 c5 t.E):
  Calls prog 24 ([zA (zCa t a1 c2 a4 c5)]:List Value).toArray w (dS fun v w'=>∃ a b,v=zS a R.length b/\aD G K (aF 2 K a b R::L) w'):=by
 refine cH func24 ?_;unfold qN at hm
 refine aC ?_;refine oZ fun V Z a0=>?_
 refine aC ?_;refine nW ([t.I]:List Int) fun a2 a3 g=>?_
 obtain ⟨a5,c,h,i,j⟩:=aD.lendSp g (zR _) .head
 obtain ⟨a6,k,hm⟩:=aB hm
 refine cG call34 (xX k i (d.mono c) (e.mono c) h) ?_
 rintro _ a7 ⟨a8,a9,rfl,l⟩
 have b0:=j _ _ l
 refine kK fun m b1 b2=>?_;refine kZ fun b3 n=>?_
 refine aC ?_;obtain ⟨b4,o,hm⟩:=aB hm
 refine cG call70 (aLg o n) ?_
 rintro _ b5 ⟨b6,b8,rfl,p⟩
 refine aL (kI (vs:=[zP (some ⟨m,0,none⟩)]) rfl) ?_;obtain ⟨b9,c0,q,r,c1⟩:=aD.lendSp p (zR _) zt3
 obtain ⟨c3,u,x,y,c4⟩:=aD.lendBp r zt1
 obtain ⟨c6,z,hm⟩:=aB hm
 exact cG call35 (mM z y x (q.mono u)) aJ
theorem tZ {a:aH} {to_:Int} {p:(List Bool)} {b:Nat} {R:Bool} (hm:qE a to_ p=some R) (c:aD G K (L) w) (d:bZ K a1 b [zS a4 p.length c5]) (e:aN K a4 c5 p):
  Calls prog 106 ([str a,i64 to_,bR a1 b]:List Value).toArray w (dS fun v w'=>v=zB R/\aD G K (L) w'):=by
 exact aJ
theorem aAn {e:aH} {to_:(Int × Int)} {p:Bool} {y:Nat} {j:(List Bool)} {i J l:Nat} {V Z:Int} {m:(List aH)} {n:(List Edge)} {o:(List Int)} {q:(List aH)} {a0 a1:Int} {r:(List aH)} {u:(List Edge)} {p10_:(List (List Int))} {h:(List ((Int × Int) × Int))} {a3:Nat} {p12_:(List (List aH))} {R:Bool} (hm:sQ e to_ p j V Z m n o q a0 a1 r u p10_ h p12_=some R) (hs:aD G K (box b1 4 [zB p]::L) w) (h4:bZ K a2 y [Value.func (.func 106) #[] #[bR a5 i]]) (h7:bZ K a5 i [zS a8 j.length c9]) (b2:aN K a8 c9 j) (b3:bZ K a11 J [bR a14 l]) (x:bZ K a14 l [i64 V,i64 Z,zS a17 m.length c18,zS a20 n.length c21,zS a23 o.length c24,zS a26 q.length c27,i64 a0,i64 a1,zS a29 r.length c30,zS a32 u.length c33,zS a35 p10_.length c36,zM (some a3),zS a40 p12_.length c41]) (c0:aN K a17 c18 m) (c1:aN K a20 c21 n) (c2:aN K a23 c24 o) (c3:aN K a26 c27 q) (c4:aN K a29 c30 r) (c5:aN K a32 c33 u) (c6:aN K a35 c36 p10_) (b4:rdM K a3 h) (c7:aN K a40 c41 p12_):
  Calls prog 110 ([str e,zA #[i64 to_.1,i64 to_.2],zP (some ⟨b1,0,none⟩),bR a2 y,bR a11 J]:List Value).toArray w (dS fun v w'=>v=Value.tuple #[]/\aD G K (box b1 4 [zB R]::L) w'):=by
 refine cH func110 ?_;unfold sQ at hm
 refine aC ?_;refine oZ fun c8 d0 b5=>?_
 refine aC ?_;refine aW [] (fun f w=>∃ a4,oU a4=some R/\aD G K (box b1 4 [zB a4]::L) w) aJ ?_
 obtain ⟨d1,d,b6,b7,d2⟩:=aD.lendBp b5 .head
 obtain ⟨d3,c,d4,d5,a6⟩:=aD.lendBp b7 .head
 refine wW [(0,0),(1,0),(2,0),(3,0),(4,0),(5,0),(6,0),(7,0),(8,0),(9,0),(10,1),(11,0),(12,2)] fun d6 b=>?_;refine aC ?_
 rcases aI hm with ⟨a,hm⟩|⟨a,hm⟩
 ·refine eO rfl rfl rfl (xA a) (eO rfl rfl rfl (xA a) (eO rfl rfl rfl (xA a) (eO rfl rfl rfl (xA a) (eO rfl rfl rfl (xA a) (eO rfl rfl rfl (xA a) (eO rfl rfl rfl (xA a) (eO rfl rfl rfl (xA a) (fF rfl ?_))))))))
  iterate 1 refine cO ?_
  refine aM (aG ⟨⟨_,b⟩,?_⟩)
  refine aC ?_
  have d7:=a6 _ _ b
  exact aJ
 ·refine jF rfl rfl rfl (oT a) (fun _ ⟨_,b⟩=>dQ (t:=0) sc_109 b (h4.mono (zL d c)) rfl rfl) (jF rfl rfl rfl (oT a) (fun _ _=>cC (v:=str e) rfl) (jF rfl rfl rfl (oT a) (fun _ ⟨_,b⟩=>dQ (t:=0) aJJ b (b3.mono (zL d c)) rfl rfl) (jF rfl rfl rfl (oT a) (fun _ _=>aGy rfl (x.mono (zL d c))) (jF rfl rfl rfl (oT a) (fun _ _=>aDf (k':=l+11) aPI rfl (x.mono (zL d c)) rfl) (jF rfl rfl rfl (oT a) (fun _ ⟨_,b⟩=>dQ (t:=11) sc_74 b (x.mono (zL d c)) rfl rfl) (jF rfl rfl rfl (oT a) (fun _ ⟨_,b⟩=>sX (t:=0) (vs:=[i64 to_.1,i64 to_.2]) aKp b (b6.mono c) rfl rfl rfl) (jF rfl rfl rfl (oT a) (fun _ ⟨_,b⟩=>aMp (kv:=h) (k:=to_) (z:=(0:Int)) runUnderlying74 aEj zeroValue2 b (b4.mono (zL d c)) rfl rfl) (fF rfl (aC ?_)))))))))
  obtain ⟨d8,b8,hm⟩:=aB hm
  refine eR (vs:=[str e,i64 ((mU h to_).getD 0)]) (caps:=[bR a5 i]) (us:=[str e,i64 ((mU h to_).getD 0),bR a5 i]) rfl call106 rfl rfl (tZ b8 b (h7.mono (zL d c)) (b2.mono (zL d c))) ?_
  rintro _ d9 ⟨rfl,a7⟩
  refine aM (aG ⟨⟨_,a7⟩,?_⟩)
  refine aC ?_
  have e0:=a6 _ _ a7
  exact aJ
theorem aBd {k2:Nat} {m n:Int} {e:(List aH)} {g:(List Edge)} {o:(List Int)} {p:(List aH)} {h j:Int} {c:(List aH)} {d:(List Edge)} {q:(List (List Int))} {b3:(List ((Int × Int) × Int))} {r25:Nat} {r:(List (List aH))} {pair:(List Int)} {b4:Bool} {k:Nat} {u:(List Bool)} {b5 l b6:Nat} {b7 b8:Int} {x:(List aH)} {y:(List Edge)} {z:(List Int)} {J:(List aH)} {b9 c0:Int} {V:(List aH)} {Z:(List Edge)} {a0:(List (List Int))} {c1:(List ((Int × Int) × Int))} {c2:Nat} {a2:(List (List aH))} {R:Bool} (hm:uO m n e g o p h j c d q b3 r pair b4 u b7 b8 x y z J b9 c0 V Z a0 c1 a2=some R) (hs:aD G K (box b33 4 [zB b4]::L) w) (h3:bZ K a1 k2 [i64 m,i64 n,zS a4 e.length c5,zS a7 g.length c8,zS a10 o.length c11,zS a13 p.length c14,i64 h,i64 j,zS a16 c.length c17,zS a19 d.length c20,zS a22 q.length c23,zM (some r25),zS a27 r.length c28]) (h6:aN K a4 c5 e) (h9:aN K a7 c8 g) (h2:aN K a10 c11 o) (h4:aN K a13 c14 p) (d1:aN K a16 c17 c) (d2:aN K a19 c20 d) (h5:aN K a22 c23 q) (h7:rdM K r25 b3) (h8:aN K a27 c28 r) (c4:aN K a30 c31 pair) (d3:bZ K a34 k [Value.func (.func 106) #[] #[bR a37 b5]]) (d4:bZ K a37 b5 [zS a40 u.length c41]) (d5:aN K a40 c41 u) (d6:bZ K a43 l [bR a46 b6]) (d7:bZ K a46 b6 [i64 b7,i64 b8,zS a49 x.length c50,zS a52 y.length c53,zS a55 z.length c56,zS a58 J.length c59,i64 b9,i64 c0,zS a61 V.length c62,zS a64 Z.length c65,zS a67 a0.length c68,zM (some c2),zS a72 a2.length c73]) (d8:aN K a49 c50 x) (d9:aN K a52 c53 y) (e0:aN K a55 c56 z) (e1:aN K a58 c59 J) (e2:aN K a61 c62 V) (e3:aN K a64 c65 Z) (e4:aN K a67 c68 a0) (e5:rdM K c2 c1) (e6:aN K a72 c73 a2):
  Calls prog 52 ([bR a1 k2,zS a30 pair.length c31,Value.func (.func 110) #[] #[zP (some ⟨b33,0,none⟩),bR a34 k,bR a43 l]]:List Value).toArray w (dS fun v w'=>v=Value.tuple #[]/\aD G K (box b33 4 [zB R]::L) w'):=by
 refine cH func52 ?_;unfold uO at hm
 refine aC ?_;refine wW [(0,0),(1,0),(2,0),(3,0),(4,0),(5,0),(6,0),(7,0),(10,0),(8,1),(9,0)] fun i0 e7=>?_
 refine aC ?_;obtain ⟨i1,e8,hm⟩:=aB hm
 refine aC ?_;obtain ⟨i2,i3,e9⟩:=aN.el (sz:=1) rfl c4 e8
 cases e9
 refine aC ?_;refine fF rfl ?_
 obtain ⟨a3,f0,hm⟩:=aB hm
 refine cG call75 (jH (t:=⟨m,n,e,g⟩) f0 e7 h6 h9) ?_
 rintro _ i4 ⟨a5,a6,rfl,f1⟩
 refine aM (aG ⟨⟨_,f1⟩,?_⟩)
 refine aC ?_;refine jE (aC ?_)
 refine aK [] (fun f w=>∃ c6,aCg c6=some R/\aD G K (box b33 4 [zB c6]::L) w) aJ ?_;obtain ⟨i5,f2,ho⟩:=aB hm
 refine bQ [0,1,2,19,20] f2 (fun a8 a9 f w=>f 21=i64 a9/\aD G K (aF 90 K a5 a6 a3::box b33 4 [zB a8]::L) w) aJ ?_
 ·rintro a8 a9 f3 f i6 hm hr ⟨f4,f5⟩
  unfold lK at hm
  refine aC ?_
  rcases aI hm with ⟨f6,hm⟩|⟨f6,hm⟩
  ·refine aC ?_;refine aK [0,1,2,19,20,21] (fun f w=>∃ b0,jA a9 b0=some f3/\aD G K (aF 90 K a5 a6 a3::box b33 4 [zB b0]::L) w) ?_ ?_
   ·rintro f i7 ⟨b0,hm,f7⟩
    unfold jA at hm
    refine aC ?_;exact ⟨_,(zI hm).symm,aR,rfl,f7⟩
   refine aC ?_;obtain ⟨a,c7,hm⟩:=aB hm
   have f8:=bC f5 (i:=0) rfl c7
   refine aL (bV eU rfl f8 rfl rfl f4 c7) (aC ?_);refine kK fun f9 i8 i9=>?_
   refine kZ fun j0 j1=>?_;refine aC ?_
   refine aEi ?_;refine aC ?_
   obtain ⟨b1,g0,hm⟩:=aB hm
   refine aC ?_;obtain ⟨j2,j3,g1⟩:=aN.el (sz:=1) rfl h6 g0
   cases g1
   refine aC ?_;refine oS (fun j4 c9=>(aC ?_))
   refine aEi ?_;refine aC ?_
   obtain ⟨g2,g3,hm⟩:=aB hm
   refine aC ?_;obtain ⟨j5,j6,g4⟩:=aN.el (sz:=1) rfl c4 g3
   cases g4
   refine aC ?_;obtain ⟨b,g5,hm⟩:=aB hm
   refine aDG (vs:=[zA #[i64 h,i64 j,zS a16 c.length c17,zS a19 d.length c20],i64 g2,str b1]) (v:=Value.tuple #[i64 b.1,zB b.2]) call76 rfl (fun _ c9=>(mE (t:=⟨h,j,c,d⟩) g5 c9 d1 d2)) (aC ?_);refine oS (fun g6 j7=>(aC ?_))
   rcases aI hm with ⟨g7,hm⟩|⟨g7,hm⟩
   ·refine aC ?_;refine aL (uZ (vs:=[(0,i64 a.To),(1,i64 b.1)]) (cs:=[i64 a.To,i64 b.1]) aBo aFz rfl (by kernel_rfl)) ?_
    have g8:aD G K (box b33 4 [zB a8]::box f9 90 [i64 a.F,i64 a.B,i64 a.To]::aF 90 K a5 a6 a3::L) g6:=lI
    obtain ⟨j8,g9,hm⟩:=aB hm
    exact eR (vs:=[str b1,zA #[i64 a.To,i64 b.1]]) (caps:=[zP (some ⟨b33,0,none⟩),bR a34 k,bR a43 l]) (us:=[str b1,zA #[i64 a.To,i64 b.1],zP (some ⟨b33,0,none⟩),bR a34 k,bR a43 l]) rfl call110 rfl rfl (aAn (to_:=⟨a.To,b.1⟩) g9 g8 d3 d4 d5 d6 d7 d8 d9 e0 e1 e2 e3 e4 e5 e6) aJ
   ·exact aJ
  ·exact aJ
theorem aCj {q r:Int} {j:(List aH)} {k:(List Edge)} {l:(List Int)} {m:(List aH)} {t u:Int} {n:(List aH)} {o:(List Edge)} {h:(List (List Int))} {x:(List ((Int × Int) × Int))} {p:Nat} {i:(List (List aH))} {pair:(List Int)} {y:(List Bool)} {z:Nat} {R:Bool} (hm:tO q r j k l m t u n o h x i pair y=some R) (hs:aD G K (aF 28 Kf a20 c21 h::cZ p x::aF 24 Kf a23 c24 i::box b1 77 [i64 q,i64 r,zS a2 j.length c3,zS a5 k.length c6,zS a8 l.length c9,zS a11 m.length c12,i64 t,i64 u,zS a14 n.length c15,zS a17 o.length c18,zS a20 h.length c21,zM (some p),zS a23 i.length c24]::L) w) (J:Hp.le Kf K) (V:aN K a2 c3 j) (Z:aN K a5 c6 k) (a0:aN K a8 c9 l) (a1:aN K a11 c12 m) (a3:aN K a14 c15 n) (a4:aN K a17 c18 o) (b2:aN K a25 c26 pair) (b3:bZ K a28 z [zS a31 y.length c32]) (b4:aN K a31 c32 y):
  Calls prog 59 ([zP (some ⟨b1,0,none⟩),zS a25 pair.length c26,Value.func (.func 106) #[] #[bR a28 z]]:List Value).toArray w (dS fun v w'=>v=zB R/\aD G K (aF 28 Kf a20 c21 h::cZ p x::aF 24 Kf a23 c24 i::box b1 77 [i64 q,i64 r,zS a2 j.length c3,zS a5 k.length c6,zS a8 l.length c9,zS a11 m.length c12,i64 t,i64 u,zS a14 n.length c15,zS a17 o.length c18,zS a20 h.length c21,zM (some p),zS a23 i.length c24]::L) w'):=by
 refine cH func59 ?_;unfold tO at hm
 refine aC ?_;refine oZ fun b5 e4 e5=>?_
 refine oZ fun b6 e6 e7=>?_;refine aC ?_
 refine kK fun b7 e8 e9=>?_;refine kZ fun f0 b8=>?_
 iterate 6 refine cO ?_
 refine aL (kI (vs:=[zP (some ⟨b7,0,none⟩),zP (some ⟨b6,0,none⟩),zP (some ⟨b5,0,none⟩)]) rfl) ?_;obtain ⟨f1,g,a6,b9,c0⟩:=aD.lendSp b8 J zt3
 obtain ⟨f2,e,a7,c1,c2⟩:=aD.lendMp b9 zt3
 obtain ⟨f3,d,a9,c4,c5⟩:=aD.lendSp c1 (zL (zL J g) e) zt3
 obtain ⟨f4,c,b0,c7,c8⟩:=aD.lendBp c4 zt3
 obtain ⟨f5,b,d0,d1,d2⟩:=aD.lendBp c7 zt1
 obtain ⟨f6,a,d3,d4,d5⟩:=aD.lendBp d1 zt1
 obtain ⟨f7,d6,hm⟩:=aB hm
 refine cG call52 (aBd d6 d4 (b0.mono (zL b a)) (V.mono (zL (zL (zL (zL (zL g e) d) c) b) a)) (Z.mono (zL (zL (zL (zL (zL g e) d) c) b) a)) (a0.mono (zL (zL (zL (zL (zL g e) d) c) b) a)) (a1.mono (zL (zL (zL (zL (zL g e) d) c) b) a)) (a3.mono (zL (zL (zL (zL (zL g e) d) c) b) a)) (a4.mono (zL (zL (zL (zL (zL g e) d) c) b) a)) (a6.mono (zL (zL (zL (zL e d) c) b) a)) (a7.mono (zL (zL (zL d c) b) a)) (a9.mono (zL (zL c b) a)) (b2.mono (zL (zL (zL (zL (zL g e) d) c) b) a)) (d0.mono a) (b3.mono (zL (zL (zL (zL (zL g e) d) c) b) a)) (b4.mono (zL (zL (zL (zL (zL g e) d) c) b) a)) (show bZ _ _ _ [bR (some ⟨b1,0,none⟩) 0] from d3) (b0.mono (zL b a)) (V.mono (zL (zL (zL (zL (zL g e) d) c) b) a)) (Z.mono (zL (zL (zL (zL (zL g e) d) c) b) a)) (a0.mono (zL (zL (zL (zL (zL g e) d) c) b) a)) (a1.mono (zL (zL (zL (zL (zL g e) d) c) b) a)) (a3.mono (zL (zL (zL (zL (zL g e) d) c) b) a)) (a4.mono (zL (zL (zL (zL (zL g e) d) c) b) a)) (a6.mono (zL (zL (zL (zL e d) c) b) a)) (a7.mono (zL (zL (zL d c) b) a)) (a9.mono (zL (zL c b) a))) ?_
 rintro _ f8 ⟨rfl,d7⟩
 have d8:=d5 _ _ d7
 have d9:=d2 _ _ d8
 have e0:=c8 _ _ d9
 have e1:=c5 _ _ e0
 have e2:=c2 _ _ e1
 have f9:=c0 _ _ e2
 exact aJ
theorem uA {a0 a1:Int} {y:(List aH)} {z:(List Edge)} {J:(List Int)} {V:(List aH)} {a6 a7:Int} {a3:(List aH)} {a4:(List Edge)} {r:(List (List Int))} {d:(List ((Int × Int) × Int))} {c:Nat} {u:(List (List aH))} {b4 R:(List Bool)} (hm:iQ a0 a1 y z J V a6 a7 a3 a4 r d u b4=some R) (hs:aD G K (aF 28 Kf a20 c21 r::cZ c d::aF 24 Kf a23 c24 u::box b1 77 [i64 a0,i64 a1,zS a2 y.length c3,zS a5 z.length c6,zS a8 J.length c9,zS a11 V.length c12,i64 a6,i64 a7,zS a14 a3.length c15,zS a17 a4.length c18,zS a20 r.length c21,zM (some c),zS a23 u.length c24]::L) w) (d0:Hp.le Kf K) (h4:aN K a2 c3 y) (h7:aN K a5 c6 z) (d3:aN K a8 c9 J) (d4:aN K a11 c12 V) (e9:aN K a14 c15 a3) (f0:aN K a17 c18 a4) (i6:aN K a25 c26 b4):
  Calls prog 54 ([zP (some ⟨b1,0,none⟩),zS a25 b4.length c26]:List Value).toArray w (dS fun v w'=>∃ d5 d6,v=zS d5 R.length d6/\aD G K (aF 4 K d5 d6 R::aF 28 Kf a20 c21 r::cZ c d::aF 24 Kf a23 c24 u::box b1 77 [i64 a0,i64 a1,zS a2 y.length c3,zS a5 z.length c6,zS a8 J.length c9,zS a11 V.length c12,i64 a6,i64 a7,zS a14 a3.length c15,zS a17 a4.length c18,zS a20 r.length c21,zM (some c),zS a23 u.length c24]::L) w'):=by
 let j:=[i64 a0,i64 a1,zS a2 y.length c3,zS a5 z.length c6,zS a8 J.length c9,zS a11 V.length c12,i64 a6,i64 a7,zS a14 a3.length c15,zS a17 a4.length c18,zS a20 r.length c21,zM (some c),zS a23 u.length c24]
 let k:=aF 28 Kf a20 c21 r
 let l:=aF 24 Kf a23 c24 u
 refine cH func54 ?_;unfold iQ at hm
 refine aC ?_;obtain ⟨a,f1,hm⟩:=aB hm
 refine aKR (e:=(false:Bool)) nG ez_4 rfl rfl hs rfl rfl rfl f1 rfl (fun b f2 (i7:aD G K (aF 4 K b a.length a::k::cZ c d::l::box b1 77 j::L) f2)=>(kK fun m i8 i9=>?_));refine kZ fun j0 j1=>?_
 refine aC ?_;refine aK [5] (fun f w=>∃ b5,vG b5=some R/\aD G K (box m 57 [zS b b5.length a.length]::aF 4 K b a.length b5::k::cZ c d::l::box b1 77 j::L) w) aJ ?_
 obtain ⟨j2,f3,ho⟩:=aB hm
 refine bQ [0,1,5] f3 (fun b6 d7 f w=>f 6=zB d7/\aD G K (box m 57 [zS b b6.length a.length]::aF 4 K b a.length b6::k::cZ c d::l::box b1 77 j::L) w) aJ ?_
 ·rintro b6 d7 d8 f j3 hm hr ⟨j4,j5⟩
  unfold oD at hm
  refine aC ?_
  rcases aI hm with ⟨f4,hm⟩|⟨f4,hm⟩
  ·refine aC ?_;refine aK [0,1,5] (fun f w=>∃ b0 b7,oC b0 b7=some d8/\f 6=zB b7/\aD G K (box m 57 [zS b b0.length a.length]::aF 4 K b a.length b0::k::cZ c d::l::box b1 77 j::L) w) ?_ ?_
   ·rintro f j6 ⟨b0,b7,hm,f5,f6⟩
    unfold oC at hm
    refine aC ?_;exact ⟨_,(zI hm).symm,aR,f5,f6⟩
   refine aC ?_;refine aK [0,1,5] (fun f w=>∃ b8 d9,vH b8 d9=some d8/\f 6=zB d9/\aD G K (box m 57 [zS b b8.length a.length]::aF 4 K b a.length b8::k::cZ c d::l::box b1 77 j::L) w) aJ ?_
   obtain ⟨j7,f7,ho⟩:=aB hm
   refine mW [0,1,5,19,20] f7 (fun n b2 a9 f w=>f 6=zB b2/\f 21=i64 a9/\aD G K (box m 57 [zS b n.length a.length]::aF 4 K b a.length n::k::cZ c d::l::box b1 77 j::L) w) aJ ?_
   ·rintro n b2 a9 b9 f j8 hm hr ⟨j9,f8,e0⟩
    unfold fU at hm
    refine aC ?_
    rcases aI hm with ⟨f9,hm⟩|⟨f9,hm⟩
    ·refine aC ?_;refine aK [0,1,5,19,20,21] (fun f w=>∃ b3 c0,eM a9 b3 c0=some b9/\f 6=zB c0/\aD G K (box m 57 [zS b b3.length a.length]::aF 4 K b a.length b3::k::cZ c d::l::box b1 77 j::L) w) ?_ ?_
     ·rintro f k0 ⟨b3,c0,hm,g0,g1⟩
      unfold eM at hm
      refine aC ?_;exact ⟨_,(zI hm).symm,aR,g0,rfl,g1⟩
     refine aC ?_;obtain ⟨c1,c2,hm⟩:=aB hm
     have g2:=bC e0 (i:=2) rfl c2
     refine aL (bV jO rfl g2 rfl rfl f8 c2) ?_;obtain ⟨k1,g3,g4⟩:=aDh (sz:=1) rfl e0 (i:=2) rfl c2
     obtain ⟨e1,e2,rfl,e3⟩:=g4
     refine aL (aHf (t:=0) (v:=zS e1 c1.length e2) aCe g3 rfl rfl) ?_
     iterate 6 refine cO ?_
     refine aW [0,1,5,6,7,8,19,20,21] (fun f w=>∃ c4,fT a0 a1 y z J V a6 a7 a3 a4 r d u n b2 a9 c1 c4=some b9/\f 36=zB c4/\aD G K (box m 57 [zS b n.length a.length]::aF 4 K b a.length n::k::cZ c d::l::box b1 77 j::L) w) ?_ ?_
     ·rintro f k2 ⟨c4,hm,k3,g5⟩
      unfold fT at hm
      refine aC ?_
      rcases aI hm with ⟨g6,hm⟩|⟨g6,hm⟩
      ·exact aJ
      ·refine aC ?_;refine aW [0,1,5,6,7,19,20,21] (fun f w=>∃ c5,fS n b2 a9 c5=some b9/\f 50=zB c5/\aD G K (box m 57 [zS b n.length a.length]::aF 4 K b a.length n::k::cZ c d::l::box b1 77 j::L) w) ?_ ?_
       ·rintro f k4 ⟨c5,hm,k5,e4⟩
        unfold fS at hm
        refine aC ?_
        rcases aI hm with ⟨g7,hm⟩|⟨g7,hm⟩
        ·refine aC ?_;obtain ⟨k6,c7,hm⟩:=aB hm
         have g8:=bC e4 (i:=1) rfl c7
         refine aL (bV nG rfl g8 rfl rfl rfl c7) ?_;obtain ⟨c8,e5,hm⟩:=aB hm
         refine nU (i:=1) (t:=0) (ns:=[zB true]) (e':=(true:Bool)) sizeOf4 e4 rfl (zR _) rfl rfl rfl c7 e5 rfl rfl (lS rfl) rfl (fun cs h=>by cases h;rfl) (fun e6 (g9:aD G K (box m 57 [zS b n.length a.length]::aF 4 K b a.length c8::k::cZ c d::l::box b1 77 j::L) e6)=>?_)
         have k7:aD G K (box m 57 [zS b c8.length a.length]::aF 4 K b a.length c8::k::cZ c d::l::box b1 77 j::L) e6:=by rw [←(lD e5)];exact g9
         exact aJ
        ·exact aJ
       refine aDR (C:=fun w'=>∃ L',aD G K L' w') [] Tryz_mixed (by kernel_rfl) (fun k8 h0=>?_)
       have e7:=aD.mono g5 h0
       refine aEW 0 ?_;refine aEW 1 ?_
       refine aEW 2 ?_;refine aEW 4 ?_
       obtain ⟨k9,h1,hm⟩:=aB hm
       refine aEW 5 ?_;obtain ⟨l0,l1,h2⟩:=aN.el (sz:=1) rfl e3 h1
       cases h2
       refine aEW 6 ?_;refine cA (i:=3) (by kernel_rfl) rfl ?_
       iterate 1 refine cO ?_
       refine aM (aG ⟨fun _=>⟨_,e7⟩,?_⟩)
       refine cA (i:=7) (by kernel_rfl) rfl ?_;obtain ⟨l2,h3,hm⟩:=aB hm
       refine cG call27 (sT (p:=⟨⟨a0,a1,y,z⟩,J,V⟩) h3 e7 h4 h7 d3 d4) ?_
       rintro _ l3 ⟨rfl,o⟩
       refine aM (aG ⟨fun _=>⟨_,o⟩,?_⟩)
       refine aEW 8 ?_
       rcases aI hm with ⟨Z,hm⟩|⟨Z,hm⟩
       ·refine WA_off (i:=9) (g:=45) rfl (by kernel_rfl) ⟨_,o⟩ (by kernel_rfl) rfl (xA Z) (WA_off (i:=10) (g:=45) rfl (by kernel_rfl) ⟨_,o⟩ (by kernel_rfl) rfl (xA Z) (WA_off (i:=11) (g:=45) rfl (by kernel_rfl) ⟨_,o⟩ (by kernel_rfl) rfl (xA Z) (cA (i:=12) (by kernel_rfl) rfl ?_)))
        iterate 1 refine cO ?_
        refine aM (aG ⟨fun _=>⟨_,o⟩,?_⟩)
        refine aEW 13 ?_;exact pZ (by kernel_rfl) aJ
       ·refine WA_vg (i:=9) (g:=45) rfl (by kernel_rfl) ⟨_,o⟩ (by kernel_rfl) rfl (oT Z) (fun _ _=>cC (v:=zP (some ⟨b1,0,none⟩)) rfl) (WA_vg (i:=10) (g:=45) rfl (by kernel_rfl) ⟨_,o⟩ (by kernel_rfl) rfl (oT Z) (fun _ _=>cC (v:=zS e1 c1.length e2) rfl) (WA_vg (i:=11) (g:=45) rfl (by kernel_rfl) ⟨_,o⟩ (by kernel_rfl) rfl (oT Z) (fun _ _=>kI (vs:=[zP (some ⟨m,0,none⟩)]) rfl) (cA (i:=12) (by kernel_rfl) rfl (aC ?_))))
        obtain ⟨l4,x,h5,h6,h8⟩:=aD.lendSp o (zR _) zt1
        obtain ⟨l5,q,h9,i0,i1⟩:=aD.lendBp h6 .head
        obtain ⟨l6,i2,hm⟩:=aB hm
        refine cG call59 (aCj (Kf:=Kf) i2 i0 (zL (zL d0 x) q) (h4.mono (zL x q)) (h7.mono (zL x q)) (d3.mono (zL x q)) (d4.mono (zL x q)) (e9.mono (zL x q)) (f0.mono (zL x q)) (e3.mono (zL (zL d0 x) q)) h9 (h5.mono q)) ?_
        rintro _ l7 ⟨rfl,i3⟩
        have i4:=i1 _ _ i3
        have i5:=h8 _ _ i4
        refine aM (aG ⟨fun _=>⟨_,i5⟩,?_⟩)
        refine aEW 13 ?_;exact pZ (by kernel_rfl) aJ
     exact aJ
    ·exact aJ
  ·exact aJ
theorem rT {a R:(List Bool)} (hm:kA a=some R) (t:aD G K (L) w) (b:aN K a1 c2 a):
  Calls prog 55 ([zS a1 a.length c2]:List Value).toArray w (dS fun v w'=>∃ c d,v=zS c R.length d/\aD G K (aF 4 K c d R::L) w'):=by
 refine cH func55 ?_;unfold kA at hm
 iterate 9 refine cO ?_
 refine aL (aLK nG rfl rfl) (aC ?_)
 rcases aKo b with ⟨h,j,k⟩|l
 ·subst h;subst j;subst k
  refine aMa rfl ?_
  replace hm:(some [])=some R:=hm
  exact aJ
 ·refine aMb (Eq.trans rfl (congrArg zB l)) (aC ?_);refine nW ([]:List Bool) fun u x m=>?_
  refine aC ?_;obtain ⟨n,o,hm⟩:=aB hm
  refine aGA (i:=0) nG underlying57 ez_4 rfl rfl m rfl (zR _) b o rfl rfl rfl rfl (fun e g p (q:aD G K (aF 4 K e g n::L) p)=>(aC ?_));obtain rfl:=zI hm
  exact st_E results55 ⟨e,g,rfl,q⟩
end Gv
namespace Gv
open Go.Value renaming slice→zS,bool→zB,pointer→zP,agg→zA,tuple→zT,map→zM
open Option.some renaming inj→zI
open Gv.Hp renaming le_trans→zL,le_refl→zR
open Go Go.Proofs Go.Proofs.Tryz
set_option maxRecDepth 20000
set_option maxHeartbeats 40000000
variable {G:Env} {K Kf:Hp} {L:List gV} {w:World} {b1 c3 c6 c9 c12 c15 c18 c21 c24 c26 c8 c11 c14 c17 c20 c23 c31 c37 c27 c30 c35 c41 c50 c53 c56 c59 c62 c65 c68 c73 c5 c28 b33 c44 c47 c67 c82 c85 c88 c91 c94 c97 c100 c105 c40 c43 c46 c49 c52 c55 c58 c63 c69 c2:Nat} {a2 a5 a8 a11 a14 a17 a20 a23 a25 a1 a4 a7 a10 a13 a16 a19 a22 a30 a33 a36 a26 a29 a34 a37 a40 a43 a46 a49 a52 a55 a58 a61 a64 a67 a72 a27 a66 a69 a75 a78 a81 a84 a87 a90 a93 a96 a99 a104 a39 a42 a45 a48 a51 a54 a57 a62 a65 a68:Option Addr}
theorem vK {h i:Int} {d:(List aH)} {e:(List Edge)} {j:(List Int)} {k:(List aH)} {n o:Int} {l:(List aH)} {m:(List Edge)} {a:(List (List Int))} {g:(List ((Int × Int) × Int))} {c:Nat} {b:(List (List aH))} {pair:(List Int)} {R:(List aH)} (hm:jV h i d e j k n o l m a g b pair=some R) (hs:aD G K (aF 28 Kf a20 c21 a::cZ c g::aF 24 Kf a23 c24 b::box b1 77 [i64 h,i64 i,zS a2 d.length c3,zS a5 e.length c6,zS a8 j.length c9,zS a11 k.length c12,i64 n,i64 o,zS a14 l.length c15,zS a17 m.length c18,zS a20 a.length c21,zM (some c),zS a23 b.length c24]::L) w) (c8:Hp.le Kf K) (h4:aN K a2 c3 d) (h7:aN K a5 c6 e) (d0:aN K a8 c9 j) (d1:aN K a11 c12 k) (d2:aN K a14 c15 l) (d3:aN K a17 c18 m) (b4:aN K a25 c26 pair):
  Calls prog 109 ([zP (some ⟨b1,0,none⟩),zS a25 pair.length c26]:List Value).toArray w (dS fun v w'=>∃ Z a0,v=zS Z R.length a0/\aD G K (aF 9 K Z a0 R::aF 28 Kf a20 c21 a::cZ c g::aF 24 Kf a23 c24 b::box b1 77 [i64 h,i64 i,zS a2 d.length c3,zS a5 e.length c6,zS a8 j.length c9,zS a11 k.length c12,i64 n,i64 o,zS a14 l.length c15,zS a17 m.length c18,zS a20 a.length c21,zM (some c),zS a23 b.length c24]::L) w'):=by
 let u:=[i64 h,i64 i,zS a2 d.length c3,zS a5 e.length c6,zS a8 j.length c9,zS a11 k.length c12,i64 n,i64 o,zS a14 l.length c15,zS a17 m.length c18,zS a20 a.length c21,zM (some c),zS a23 b.length c24]
 refine cH func109 ?_;unfold jV at hm
 refine aC ?_;obtain ⟨d4,a1,d5,d6,b5⟩:=aD.lendBp hs zt3
 refine wW [(0,0),(1,0),(2,0),(3,0),(4,0),(5,0),(6,0),(7,0),(10,0),(8,1),(9,0)] fun d7 b6=>?_;refine aC ?_
 obtain ⟨d8,b7,hm⟩:=aB hm
 refine aC ?_;obtain ⟨d9,e0,b8⟩:=aN.el (sz:=1) rfl b4 b7
 cases b8
 refine aC ?_;refine fF rfl ?_
 obtain ⟨a3,b9,hm⟩:=aB hm
 refine cG call75 (jH (t:=⟨h,i,d,e⟩) b9 b6 (h4.mono a1) (h7.mono a1)) ?_
 rintro _ e1 ⟨a4,c45,rfl,a6⟩
 refine aM (aG ⟨⟨_,a6⟩,?_⟩)
 refine aC ?_;refine jE ?_
 have c0:=b5 _ _ a6
 refine aC ?_;refine aK [] (fun f w=>∃ x a7 a9,xT x=some R/\f 5=zS a7 x.length a9/\aD G K (aF 9 K a7 a9 x::box b1 77 u::aF 28 Kf a20 c21 a::cZ c g::aF 24 Kf a23 c24 b::L) w) aJ ?_
 have e2:=aD.nil (α:=aH) c0 9 K
 obtain ⟨e3,c1,ho⟩:=aB hm
 refine bQ [0,1,19,20] c1 (fun y z f w=>∃ J V,f 5=zS J y.length V/\f 21=i64 z/\aD G K (aF 9 K J V y::box b1 77 u::aF 90 K a4 c45 a3::aF 28 Kf a20 c21 a::cZ c g::aF 24 Kf a23 c24 b::L) w) aJ ?_
 ·rintro y z c2 f e4 hm hr ⟨J,V,e5,e6,e7⟩
  unfold fD at hm
  refine aC ?_
  rcases aI hm with ⟨c4,hm⟩|⟨c4,hm⟩
  ·refine aC ?_;refine aK [0,1,19,20,21] (fun f w=>∃ p q r,fC z p=some c2/\f 5=zS q p.length r/\aD G K (aF 9 K q r p::box b1 77 u::aF 90 K a4 c45 a3::aF 28 Kf a20 c21 a::cZ c g::aF 24 Kf a23 c24 b::L) w) ?_ ?_
   ·rintro f e8 ⟨p,q,r,hm,c5,c7⟩
    unfold fC at hm
    refine aC ?_;exact ⟨_,(zI hm).symm,aR,q,r,c5,rfl,c7⟩
   exact aJ
  ·exact aJ
theorem aAo {l m:Int} {d:(List aH)} {e:(List Edge)} {g:(List Int)} {h:(List aH)} {n o:Int} {i:(List aH)} {j:(List Edge)} {a:(List (List Int))} {k:(List ((Int × Int) × Int))} {c:Nat} {b:(List (List aH))} {pair:(List Int)} {R:aH} (hm:oL l m d e g h n o i j a k b pair=some R) (q:aD G K (aF 28 Kf a20 c21 a::cZ c k::aF 24 Kf a23 c24 b::box b1 77 [i64 l,i64 m,zS a2 d.length c3,zS a5 e.length c6,zS a8 g.length c9,zS a11 h.length c12,i64 n,i64 o,zS a14 i.length c15,zS a17 j.length c18,zS a20 a.length c21,zM (some c),zS a23 b.length c24]::L) w) (hG:G.lo=0) (r:Hp.le Kf K) (t:aN K a2 c3 d) (u:aN K a5 c6 e) (x:aN K a8 c9 g) (y:aN K a11 c12 h) (z:aN K a14 c15 i) (J:aN K a17 c18 j) (V:aN K a25 c26 pair):
  Calls prog 58 ([zP (some ⟨b1,0,none⟩),zS a25 pair.length c26]:List Value).toArray w (dS fun v w'=>v=str R/\aD G K (aF 28 Kf a20 c21 a::cZ c k::aF 24 Kf a23 c24 b::box b1 77 [i64 l,i64 m,zS a2 d.length c3,zS a5 e.length c6,zS a8 g.length c9,zS a11 h.length c12,i64 n,i64 o,zS a14 i.length c15,zS a17 j.length c18,zS a20 a.length c21,zM (some c),zS a23 b.length c24]::L) w'):=by
 let p:=[i64 l,i64 m,zS a2 d.length c3,zS a5 e.length c6,zS a8 g.length c9,zS a11 h.length c12,i64 n,i64 o,zS a14 i.length c15,zS a17 j.length c18,zS a20 a.length c21,zM (some c),zS a23 b.length c24]
 refine cH func58 ?_;unfold oL at hm
 refine aC ?_;obtain ⟨Z,a0,hm⟩:=aB hm
 refine cG call109 (vK (Kf:=Kf) a0 q r t u x y z J V) ?_
 rintro _ a9 ⟨a1,a3,rfl,b0⟩
 refine aC ?_;refine aK [] (fun f w=>aBR=some R/\aD G K (aF 28 Kf a20 c21 a::cZ c k::aF 24 Kf a23 c24 b::box b1 77 p::L) w) aJ ?_
 obtain ⟨b2,a4,ho⟩:=aB hm
 exact bY [0,9,10] a4 (fun a6 f w=>f 11=i64 a6/\aD G K (aF 9 K a1 a3 Z::aF 28 Kf a20 c21 a::cZ c k::aF 24 Kf a23 c24 b::box b1 77 p::L) w) aJ aJ
theorem aBe {h:aH} {to_:Int} {i j:Nat} {k l:Int} {a:(List aH)} {b:(List Edge)} {c:(List Int)} {d:(List aH)} {m n:Int} {e:(List aH)} {g:(List Edge)} {p10_:(List (List Int))} {o:(List ((Int × Int) × Int))} {q:Nat} {p12_:(List (List aH))} {p:(List Bool)} {r:Nat} {R:Bool} (hm:uP h to_ k l a b c d m n e g p10_ o p12_ p=some R) (u:aD G K (L) w) (x:G.lo=0) (y:bZ K a1 i [bR a4 j]) (z:bZ K a4 j [i64 k,i64 l,zS a7 a.length c8,zS a10 b.length c11,zS a13 c.length c14,zS a16 d.length c17,i64 m,i64 n,zS a19 e.length c20,zS a22 g.length c23,zS a25 p10_.length c26,zM (some q),zS a30 p12_.length c31]) (J:aN K a7 c8 a) (V:aN K a10 c11 b) (Z:aN K a13 c14 c) (a0:aN K a16 c17 d) (a2:aN K a19 c20 e) (a3:aN K a22 c23 g) (a5:aN K a25 c26 p10_) (a6:rdM K q o) (a8:aN K a30 c31 p12_) (a9:bZ K a33 r [zS a36 p.length c37]) (b0:aN K a36 c37 p):
  Calls prog 56 ([str h,i64 to_,bR a1 i,bR a33 r]:List Value).toArray w (dS fun v w'=>v=zB R/\aD G K (L) w'):=by
 refine cH func56 ?_;unfold uP at hm
 iterate 6 refine cO ?_
 exact aW [] (fun f w=>∃ t,qA t=some R/\f 6=zB t/\aD G K (L) w) aJ aJ
theorem wU {e:aH} {to_:(Int × Int)} {p:Bool} {k3 i k9:Nat} {b0 b2:Int} {l:(List aH)} {m:(List Edge)} {n:(List Int)} {o:(List aH)} {b3 b4:Int} {q:(List aH)} {r:(List Edge)} {u:(List (List Int))} {b5:(List ((Int × Int) × Int))} {b6:Nat} {x:(List (List aH))} {y:(List Bool)} {j b7 J:Nat} {b8 b9:Int} {V:(List aH)} {Z:(List Edge)} {a0:(List Int)} {a1:(List aH)} {c0 c1:Int} {a3:(List aH)} {a4:(List Edge)} {p10_:(List (List Int))} {h:(List ((Int × Int) × Int))} {c2:Nat} {p12_:(List (List aH))} {R:Bool} (hm:oV e to_ p b0 b2 l m n o b3 b4 q r u b5 x y b8 b9 V Z a0 a1 c0 c1 a3 a4 p10_ h p12_=some R) (hs:aD G K (box b1 4 [zB p]::L) w) (hG:G.lo=0) (h4:bZ K a2 k3 [Value.func (.func 56) #[] #[bR a5 i,bR a37 j]]) (h7:bZ K a5 i [bR a8 k9]) (c9:bZ K a8 k9 [i64 b0,i64 b2,zS a11 l.length c12,zS a14 m.length c15,zS a17 n.length c18,zS a20 o.length c21,i64 b3,i64 b4,zS a23 q.length c24,zS a26 r.length c27,zS a29 u.length c30,zM (some b6),zS a34 x.length c35]) (d0:aN K a11 c12 l) (d1:aN K a14 c15 m) (d2:aN K a17 c18 n) (d3:aN K a20 c21 o) (d4:aN K a23 c24 q) (d5:aN K a26 c27 r) (d6:aN K a29 c30 u) (d7:rdM K b6 b5) (d8:aN K a34 c35 x) (d9:bZ K a37 j [zS a40 y.length c41]) (e0:aN K a40 c41 y) (e1:bZ K a43 b7 [bR a46 J]) (a6:bZ K a46 J [i64 b8,i64 b9,zS a49 V.length c50,zS a52 Z.length c53,zS a55 a0.length c56,zS a58 a1.length c59,i64 c0,i64 c1,zS a61 a3.length c62,zS a64 a4.length c65,zS a67 p10_.length c68,zM (some c2),zS a72 p12_.length c73]) (e8:aN K a49 c50 V) (e9:aN K a52 c53 Z) (f0:aN K a55 c56 a0) (f1:aN K a58 c59 a1) (f2:aN K a61 c62 a3) (f3:aN K a64 c65 a4) (f4:aN K a67 c68 p10_) (e2:rdM K c2 h) (f5:aN K a72 c73 p12_):
  Calls prog 110 ([str e,zA #[i64 to_.1,i64 to_.2],zP (some ⟨b1,0,none⟩),bR a2 k3,bR a43 b7]:List Value).toArray w (dS fun v w'=>v=zT #[]/\aD G K (box b1 4 [zB R]::L) w'):=by
 refine cH func110 ?_;unfold oV at hm
 refine aC ?_;refine oZ fun f6 f7 e3=>?_
 refine aC ?_;refine aW [] (fun f w=>∃ c3,lF c3=some R/\aD G K (box b1 4 [zB c3]::L) w) aJ ?_
 obtain ⟨f8,b,e4,e5,f9⟩:=aD.lendBp e3 .head
 obtain ⟨g0,a,g1,g2,c4⟩:=aD.lendBp e5 .head
 refine wW [(0,0),(1,0),(2,0),(3,0),(4,0),(5,0),(6,0),(7,0),(8,0),(9,0),(10,1),(11,0),(12,2)] fun g3 d=>?_;refine aC ?_
 rcases aI hm with ⟨c,hm⟩|⟨c,hm⟩
 ·refine eO rfl rfl rfl (xA c) (eO rfl rfl rfl (xA c) (eO rfl rfl rfl (xA c) (eO rfl rfl rfl (xA c) (eO rfl rfl rfl (xA c) (eO rfl rfl rfl (xA c) (eO rfl rfl rfl (xA c) (eO rfl rfl rfl (xA c) (fF rfl ?_))))))))
  iterate 1 refine cO ?_
  refine aM (aG ⟨⟨_,d⟩,?_⟩)
  refine aC ?_
  have g4:=c4 _ _ d
  exact aJ
 ·refine jF rfl rfl rfl (oT c) (fun _ ⟨_,d⟩=>dQ (t:=0) sc_109 d (h4.mono (zL b a)) rfl rfl) (jF rfl rfl rfl (oT c) (fun _ _=>cC (v:=str e) rfl) (jF rfl rfl rfl (oT c) (fun _ ⟨_,d⟩=>dQ (t:=0) aJJ d (e1.mono (zL b a)) rfl rfl) (jF rfl rfl rfl (oT c) (fun _ _=>aGy rfl (a6.mono (zL b a))) (jF rfl rfl rfl (oT c) (fun _ _=>aDf (k':=J+11) aPI rfl (a6.mono (zL b a)) rfl) (jF rfl rfl rfl (oT c) (fun _ ⟨_,d⟩=>dQ (t:=11) sc_74 d (a6.mono (zL b a)) rfl rfl) (jF rfl rfl rfl (oT c) (fun _ ⟨_,d⟩=>sX (t:=0) (vs:=[i64 to_.1,i64 to_.2]) aKp d (e4.mono a) rfl rfl rfl) (jF rfl rfl rfl (oT c) (fun _ ⟨_,d⟩=>aMp (kv:=h) (k:=to_) (z:=(0:Int)) runUnderlying74 aEj zeroValue2 d (e2.mono (zL b a)) rfl rfl) (fF rfl (aC ?_)))))))))
  obtain ⟨g5,e6,hm⟩:=aB hm
  refine eR (vs:=[str e,i64 ((mU h to_).getD 0)]) (caps:=[bR a5 i,bR a37 j]) (us:=[str e,i64 ((mU h to_).getD 0),bR a5 i,bR a37 j]) rfl call56 rfl rfl (aBe e6 d hG (h7.mono (zL b a)) (c9.mono (zL b a)) (d0.mono (zL b a)) (d1.mono (zL b a)) (d2.mono (zL b a)) (d3.mono (zL b a)) (d4.mono (zL b a)) (d5.mono (zL b a)) (d6.mono (zL b a)) (d7.mono (zL b a)) (d8.mono (zL b a)) (d9.mono (zL b a)) (e0.mono (zL b a))) ?_
  rintro _ g6 ⟨rfl,c5⟩
  refine aM (aG ⟨⟨_,c5⟩,?_⟩)
  refine aC ?_
  have g7:=c4 _ _ c5
  exact aJ
theorem aBf {k2:Nat} {m n:Int} {e:(List aH)} {g:(List Edge)} {o:(List Int)} {p:(List aH)} {h j:Int} {c:(List aH)} {d:(List Edge)} {q:(List (List Int))} {c1:(List ((Int × Int) × Int))} {r25:Nat} {r:(List (List aH))} {pair:(List Int)} {c2:Bool} {k c3 c4:Nat} {c6 c7:Int} {u:(List aH)} {x:(List Edge)} {y:(List Int)} {z:(List aH)} {c9 d0:Int} {J:(List aH)} {V:(List Edge)} {Z:(List (List Int))} {d1:(List ((Int × Int) × Int))} {d2:Nat} {a0:(List (List aH))} {a2:(List Bool)} {d3 l d4:Nat} {d5 d6:Int} {a3:(List aH)} {a5:(List Edge)} {a6:(List Int)} {a8:(List aH)} {d7 d8:Int} {a9:(List aH)} {b0:(List Edge)} {b1:(List (List Int))} {d9:(List ((Int × Int) × Int))} {e0:Nat} {b2:(List (List aH))} {R:Bool} (hm:uQ m n e g o p h j c d q c1 r pair c2 c6 c7 u x y z c9 d0 J V Z d1 a0 a2 d5 d6 a3 a5 a6 a8 d7 d8 a9 b0 b1 d9 b2=some R) (hs:aD G K (box b33 4 [zB c2]::L) w) (hG:G.lo=0) (h3:bZ K a1 k2 [i64 m,i64 n,zS a4 e.length c5,zS a7 g.length c8,zS a10 o.length c11,zS a13 p.length c14,i64 h,i64 j,zS a16 c.length c17,zS a19 d.length c20,zS a22 q.length c23,zM (some r25),zS a27 r.length c28]) (h6:aN K a4 c5 e) (h9:aN K a7 c8 g) (k4:aN K a10 c11 o) (k5:aN K a13 c14 p) (e8:aN K a16 c17 c) (e9:aN K a19 c20 d) (k6:aN K a22 c23 q) (k7:rdM K r25 c1) (k8:aN K a27 c28 r) (e2:aN K a30 c31 pair) (f0:bZ K a34 k [Value.func (.func 56) #[] #[bR a37 c3,bR a69 d3]]) (f1:bZ K a37 c3 [bR a40 c4]) (f2:bZ K a40 c4 [i64 c6,i64 c7,zS a43 u.length c44,zS a46 x.length c47,zS a49 y.length c50,zS a52 z.length c53,i64 c9,i64 d0,zS a55 J.length c56,zS a58 V.length c59,zS a61 Z.length c62,zM (some d2),zS a66 a0.length c67]) (f3:aN K a43 c44 u) (f4:aN K a46 c47 x) (f5:aN K a49 c50 y) (f6:aN K a52 c53 z) (f7:aN K a55 c56 J) (f8:aN K a58 c59 V) (f9:aN K a61 c62 Z) (g0:rdM K d2 d1) (g1:aN K a66 c67 a0) (g2:bZ K a69 d3 [zS a72 a2.length c73]) (g3:aN K a72 c73 a2) (g4:bZ K a75 l [bR a78 d4]) (g5:bZ K a78 d4 [i64 d5,i64 d6,zS a81 a3.length c82,zS a84 a5.length c85,zS a87 a6.length c88,zS a90 a8.length c91,i64 d7,i64 d8,zS a93 a9.length c94,zS a96 b0.length c97,zS a99 b1.length c100,zM (some e0),zS a104 b2.length c105]) (g6:aN K a81 c82 a3) (g7:aN K a84 c85 a5) (g8:aN K a87 c88 a6) (g9:aN K a90 c91 a8) (h0:aN K a93 c94 a9) (h1:aN K a96 c97 b0) (h2:aN K a99 c100 b1) (h4:rdM K e0 d9) (h5:aN K a104 c105 b2):
  Calls prog 52 ([bR a1 k2,zS a30 pair.length c31,Value.func (.func 110) #[] #[zP (some ⟨b33,0,none⟩),bR a34 k,bR a75 l]]:List Value).toArray w (dS fun v w'=>v=zT #[]/\aD G K (box b33 4 [zB R]::L) w'):=by
 refine cH func52 ?_;unfold uQ at hm
 refine aC ?_;refine wW [(0,0),(1,0),(2,0),(3,0),(4,0),(5,0),(6,0),(7,0),(10,0),(8,1),(9,0)] fun k9 h7=>?_
 refine aC ?_;obtain ⟨l0,h8,hm⟩:=aB hm
 refine aC ?_;obtain ⟨l1,l2,i0⟩:=aN.el (sz:=1) rfl e2 h8
 cases i0
 refine aC ?_;refine fF rfl ?_
 obtain ⟨b3,i1,hm⟩:=aB hm
 refine cG call75 (jH (t:=⟨m,n,e,g⟩) i1 h7 h6 h9) ?_
 rintro _ l3 ⟨b4,b5,rfl,i2⟩
 refine aM (aG ⟨⟨_,i2⟩,?_⟩)
 refine aC ?_;refine jE (aC ?_)
 refine aK [] (fun f w=>∃ e3,aCh e3=some R/\aD G K (box b33 4 [zB e3]::L) w) aJ ?_;obtain ⟨l4,i3,ho⟩:=aB hm
 refine bQ [0,1,2,19,20] i3 (fun b6 b7 f w=>f 21=i64 b7/\aD G K (aF 90 K b4 b5 b3::box b33 4 [zB b6]::L) w) aJ ?_
 ·rintro b6 b7 i4 f l5 hm hr ⟨i5,i6⟩
  unfold lL at hm
  refine aC ?_
  rcases aI hm with ⟨i7,hm⟩|⟨i7,hm⟩
  ·refine aC ?_;refine aK [0,1,2,19,20,21] (fun f w=>∃ b8,jB b7 b8=some i4/\aD G K (aF 90 K b4 b5 b3::box b33 4 [zB b8]::L) w) ?_ ?_
   ·rintro f l6 ⟨b8,hm,i8⟩
    unfold jB at hm
    refine aC ?_;exact ⟨_,(zI hm).symm,aR,rfl,i8⟩
   refine aC ?_;obtain ⟨a,e4,hm⟩:=aB hm
   have i9:=bC i6 (i:=0) rfl e4
   refine aL (bV eU rfl i9 rfl rfl i5 e4) (aC ?_);refine kK fun j0 l7 l8=>?_
   refine kZ fun l9 m0=>?_;refine aC ?_
   refine aEi ?_;refine aC ?_
   obtain ⟨b9,j1,hm⟩:=aB hm
   refine aC ?_;obtain ⟨m1,m2,j2⟩:=aN.el (sz:=1) rfl h6 j1
   cases j2
   refine aC ?_;refine oS (fun m3 e5=>(aC ?_))
   refine aEi ?_;refine aC ?_
   obtain ⟨j3,j4,hm⟩:=aB hm
   refine aC ?_;obtain ⟨m4,m5,j5⟩:=aN.el (sz:=1) rfl e2 j4
   cases j5
   refine aC ?_;obtain ⟨b,j6,hm⟩:=aB hm
   refine aDG (vs:=[zA #[i64 h,i64 j,zS a16 c.length c17,zS a19 d.length c20],i64 j3,str b9]) (v:=zT #[i64 b.1,zB b.2]) call76 rfl (fun _ e5=>(mE (t:=⟨h,j,c,d⟩) j6 e5 e8 e9)) (aC ?_);refine oS (fun j7 m6=>(aC ?_))
   rcases aI hm with ⟨j8,hm⟩|⟨j8,hm⟩
   ·refine aC ?_;refine aL (uZ (vs:=[(0,i64 a.To),(1,i64 b.1)]) (cs:=[i64 a.To,i64 b.1]) aBo aFz rfl (by kernel_rfl)) ?_
    have j9:aD G K (box b33 4 [zB b6]::box j0 90 [i64 a.F,i64 a.B,i64 a.To]::aF 90 K b4 b5 b3::L) j7:=lI
    obtain ⟨m7,k0,hm⟩:=aB hm
    exact eR (vs:=[str b9,zA #[i64 a.To,i64 b.1]]) (caps:=[zP (some ⟨b33,0,none⟩),bR a34 k,bR a75 l]) (us:=[str b9,zA #[i64 a.To,i64 b.1],zP (some ⟨b33,0,none⟩),bR a34 k,bR a75 l]) rfl call110 rfl rfl (wU (to_:=⟨a.To,b.1⟩) k0 j9 hG f0 f1 f2 f3 f4 f5 f6 f7 f8 f9 g0 g1 g2 g3 g4 g5 g6 g7 g8 g9 h0 h1 h2 h4 h5) aJ
   ·exact aJ
  ·exact aJ
theorem aAp {x:Nat} {y z:Int} {c:(List aH)} {d:(List Edge)} {e:(List Int)} {g:(List aH)} {J V:Int} {h:(List aH)} {i:(List Edge)} {j:(List (List Int))} {Z:(List ((Int × Int) × Int))} {r25:Nat} {k:(List (List aH))} {pair:(List Int)} {a0 a2:Nat} {a3 a5:Int} {l:(List aH)} {m:(List Edge)} {n:(List Int)} {o:(List aH)} {a6 a8:Int} {p:(List aH)} {q:(List Edge)} {r:(List (List Int))} {a9:(List ((Int × Int) × Int))} {b0:Nat} {t:(List (List aH))} {u:(List Bool)} {b1:Nat} {R:Bool} (hm:oM y z c d e g J V h i j Z k pair a3 a5 l m n o a6 a8 p q r a9 t u=some R) (hs:aD G K (L) w) (hG:G.lo=0) (h3:bZ K a1 x [i64 y,i64 z,zS a4 c.length c5,zS a7 d.length c8,zS a10 e.length c11,zS a13 g.length c14,i64 J,i64 V,zS a16 h.length c17,zS a19 i.length c20,zS a22 j.length c23,zM (some r25),zS a27 k.length c28]) (h6:aN K a4 c5 c) (h9:aN K a7 c8 d) (b5:aN K a10 c11 e) (b6:aN K a13 c14 g) (b7:aN K a16 c17 h) (b8:aN K a19 c20 i) (b9:aN K a22 c23 j) (c0:rdM K r25 Z) (c1:aN K a27 c28 k) (c3:aN K a30 c31 pair) (c4:bZ K a33 a0 [bR a36 a2]) (c6:bZ K a36 a2 [i64 a3,i64 a5,zS a39 l.length c40,zS a42 m.length c43,zS a45 n.length c46,zS a48 o.length c49,i64 a6,i64 a8,zS a51 p.length c52,zS a54 q.length c55,zS a57 r.length c58,zM (some b0),zS a62 t.length c63]) (c7:aN K a39 c40 l) (c9:aN K a42 c43 m) (d0:aN K a45 c46 n) (d1:aN K a48 c49 o) (d2:aN K a51 c52 p) (d3:aN K a54 c55 q) (d4:aN K a57 c58 r) (d5:rdM K b0 a9) (d6:aN K a62 c63 t) (d7:bZ K a65 b1 [zS a68 u.length c69]) (d8:aN K a68 c69 u):
  Calls prog 59 ([bR a1 x,zS a30 pair.length c31,Value.func (.func 56) #[] #[bR a33 a0,bR a65 b1]]:List Value).toArray w (dS fun v w'=>v=zB R/\aD G K (L) w'):=by
 refine cH func59 ?_;unfold oM at hm
 refine aC ?_;refine oZ fun d9 e9 f0=>?_
 refine oZ fun e0 f1 f2=>?_;refine aC ?_
 refine kK fun e1 f3 f4=>?_;refine kZ fun f5 e2=>?_
 iterate 6 refine cO ?_
 refine aL (kI (vs:=[zP (some ⟨e1,0,none⟩),zP (some ⟨e0,0,none⟩),zP (some ⟨d9,0,none⟩)]) rfl) ?_;obtain ⟨f6,b,e3,e4,f7⟩:=aD.lendBp e2 zt1
 obtain ⟨f8,a,e5,e6,f9⟩:=aD.lendBp e4 zt1
 obtain ⟨g0,e7,hm⟩:=aB hm
 exact cG call52 (aBf e7 e6 hG (h3.mono (zL b a)) (h6.mono (zL b a)) (h9.mono (zL b a)) (b5.mono (zL b a)) (b6.mono (zL b a)) (b7.mono (zL b a)) (b8.mono (zL b a)) (b9.mono (zL b a)) (c0.mono (zL b a)) (c1.mono (zL b a)) (c3.mono (zL b a)) (e3.mono a) (c4.mono (zL b a)) (c6.mono (zL b a)) (c7.mono (zL b a)) (c9.mono (zL b a)) (d0.mono (zL b a)) (d1.mono (zL b a)) (d2.mono (zL b a)) (d3.mono (zL b a)) (d4.mono (zL b a)) (d5.mono (zL b a)) (d6.mono (zL b a)) (d7.mono (zL b a)) (d8.mono (zL b a)) e5 (h3.mono (zL b a)) (h6.mono (zL b a)) (h9.mono (zL b a)) (b5.mono (zL b a)) (b6.mono (zL b a)) (b7.mono (zL b a)) (b8.mono (zL b a)) (b9.mono (zL b a)) (c0.mono (zL b a)) (c1.mono (zL b a))) aJ
theorem rU {a b:(List Bool)} {R:Bool} (hm:gL a b=some R) (g:aD G K (L) w) (h:aN K a1 c2 a) (i:aN K a4 c5 b):
  Calls prog 60 ([zS a1 a.length c2,zS a4 b.length c5]:List Value).toArray w (dS fun v w'=>v=zB R/\aD G K (L) w'):=by
 refine cH func60 ?_;unfold gL at hm
 refine aC ?_
 rcases aI hm with ⟨c,hm⟩|⟨c,hm⟩
 ·exact aJ
 ·refine aC ?_;refine aK [] (fun f w=>tP=some R/\aD G K (L) w) aJ ?_
  obtain ⟨j,d,ho⟩:=aB hm
  exact bY [0,1,12] d (fun e f w=>f 13=i64 e/\aD G K (L) w) aJ aJ
theorem aBg {c4 c5:Int} {b7:(List aH)} {b8:(List Edge)} {b9:(List Int)} {c0:(List aH)} {c7 c8:Int} {c1:(List aH)} {c2:(List Edge)} {a3:(List (List Int))} {r:(List ((Int × Int) × Int))} {m:Nat} {a9:(List (List aH))} {R:(List Bool)} (hm:pR c4 c5 b7 b8 b9 c0 c7 c8 c1 c2 a3 r a9=some R) (hs:aD G K (aF 28 Kf a20 c21 a3::cZ m r::aF 24 Kf a23 c24 a9::box b1 77 [i64 c4,i64 c5,zS a2 b7.length c3,zS a5 b8.length c6,zS a8 b9.length c9,zS a11 c0.length c12,i64 c7,i64 c8,zS a14 c1.length c15,zS a17 c2.length c18,zS a20 a3.length c21,zM (some m),zS a23 a9.length c24]::L) w) (hG:G.lo=0) (b6:Hp.le Kf K) (h4:aN K a2 c3 b7) (h7:aN K a5 c6 b8) (d2:aN K a8 c9 b9) (d3:aN K a11 c12 c0) (d4:aN K a14 c15 c1) (d5:aN K a17 c18 c2):
  Calls prog 21 ([zP (some ⟨b1,0,none⟩)]:List Value).toArray w (dS fun v w'=>∃ g1 g2,v=zS g1 R.length g2/\aD G K (aF 4 K g1 g2 R::aF 28 Kf a20 c21 a3::cZ m r::aF 24 Kf a23 c24 a9::box b1 77 [i64 c4,i64 c5,zS a2 b7.length c3,zS a5 b8.length c6,zS a8 b9.length c9,zS a11 c0.length c12,i64 c7,i64 c8,zS a14 c1.length c15,zS a17 c2.length c18,zS a20 a3.length c21,zM (some m),zS a23 a9.length c24]::L) w'):=by
 let J:=[i64 c4,i64 c5,zS a2 b7.length c3,zS a5 b8.length c6,zS a8 b9.length c9,zS a11 c0.length c12,i64 c7,i64 c8,zS a14 c1.length c15,zS a17 c2.length c18,zS a20 a3.length c21,zM (some m),zS a23 a9.length c24]
 let z:=[zP (some ⟨b1,0,none⟩)]
 let V:=aF 28 Kf a20 c21 a3
 let Z:=aF 24 Kf a23 c24 a9
 refine cH func21 ?_;unfold pR at hm
 refine aC ?_;refine aEd (v:=zP (some ⟨b1,0,none⟩)) (vs:=z) hs rfl rfl (fun u q4 i3=>(bH (v:=zS none 0 0) (bF (bS (iG (Kt:=K) (xs:=([true]:List Bool)) (cs:=[zB true]) (vs:=[(0,zB true)]) nG ez_4 rfl rfl i3 rfl (by kernel_rfl) rfl rfl rfl ⟨rfl,trivial⟩ (fun g3 i4 (e7:aD G K (aF 4 K g3 1 ([true]:List Bool)::box u 55 z::V::cZ m r::Z::box b1 77 J::L) i4)=>(aL (hY aJJ e7 (i:=1) rfl rfl rfl) (aL (qD rfl) (aL (cE (t':=10) aJK rfl rfl) (aL (hY aFX e7 (i:=5) rfl rfl rfl) (aL (mV (len:=a3.length) jO rfl) ?_)))))))))))
 obtain ⟨q5,q6,i5,i6,i7⟩:=aD.lendSp e7 (zR _) .head
 obtain ⟨d6,i8,hm⟩:=aB hm
 refine cG call29 (kE i8 i6 i5) ?_
 rintro _ q7 ⟨d7,d8,rfl,i9⟩
 have j0:=i7 _ _ i9
 refine fG (vs:=[zS none 0 0]) zeroValue57 j0 rfl (fun y q8 j1=>(iS (i:=0) (ns:=[zS d7 d6.length d8]) (us:=[zS d7 d6.length d8]) sizeOf57 j1 rfl rfl rfl rfl rfl (lS rfl) rfl rfl (fun j2 (q9:aD G K (box y 57 [zS d7 d6.length d8]::aF 4 K g3 1 ([true]:List Bool)::aF 4 K d7 d8 d6::box u 55 z::V::cZ m r::Z::box b1 77 J::L) j2)=>(bF (cR ?_)))));obtain ⟨r0,j3,ho⟩:=aB hm
 refine bY [1,3] j3 (fun d f w=>∃ j k,aD G K (box y 57 [zS j d.length k]::aF 4 K j k d::box u 55 z::V::cZ m r::Z::box b1 77 J::L) w) aJ ?_
 ·rintro d e8 f j4 hm hr ⟨j,k,e9⟩
  unfold lO at hm
  refine aK [1,3] (fun f w=>∃ d9 e0 e1,wF d9=some e8/\aD G K (aF 4 K e0 e1 d9::box y 57 [zS e0 d9.length e1]::box u 55 z::V::cZ m r::Z::box b1 77 J::L) w) ?_ ?_
  ·rintro f r1 ⟨d9,e0,e1,hm,j5⟩
   unfold wF at hm
   exact aG ⟨_,(zI hm).symm,aR,e0,e1,(aD.arr 2 [1,0] j5 rfl)⟩
  refine bS (aL (hY aJJ e9 (i:=2) rfl rfl rfl) (aL (hY sc_57 e9 (i:=0) rfl rfl rfl) ?_));obtain ⟨j6,b0,j7,j8,j9⟩:=aD.lendSp e9 (zR _) zt1
  have k0:aD G j6 (V::cZ m r::Z::box b1 77 J::box y 57 [zS j d.length k]::box u 55 z::L) j4:=(aD.arr 6 [2,3,4,5,0,1] j8 rfl)
  obtain ⟨b2,k1,hm⟩:=aB hm
  refine cG call54 (uA (Kf:=Kf) k1 k0 (zL b6 b0) (h4.mono b0) (h7.mono b0) (d2.mono b0) (d3.mono b0) (d4.mono b0) (d5.mono b0) j7) ?_
  rintro _ r2 ⟨b3,b4,rfl,k2⟩
  have g4:=j9 _ _ k2
  refine bH (v:=zS b3 b2.length b4) (bF (bS (aL (hY sc_57 g4 (i:=6) rfl rfl rfl) ?_)));obtain ⟨r3,r4,k3,k4,k5⟩:=aD.lendSp g4 (zR _) .head
  obtain ⟨k6,k7,hm⟩:=aB hm
  refine cG call55 (rT k7 k4 k3) ?_
  rintro _ r5 ⟨p,q,rfl,k8⟩
  have g5:=k5 _ _ k8
  refine bH (v:=zS p k6.length q) (bF (bI (bS (aL (hY aJJ g5 (i:=8) rfl rfl rfl) (aL (qD rfl) (aL (cE (t':=10) aJK rfl rfl) (aL (hY aFX g5 (i:=6) rfl rfl rfl) (aL (mV (len:=a3.length) jO rfl) (aU (v:=i64 0) (bF (aK [1,3] (fun f w=>∃ a4,lM d a4=some e8/\f 5=zS p a4.length q/\aD G K (aF 4 K j k d::aF 4 K p q a4::V::cZ m r::Z::box b1 77 J::box y 57 [zS j d.length k]::box u 55 z::L) w) ?_ ?_)))))))))))
  ·rintro f r6 ⟨a4,hm,g6,g7⟩
   unfold lM at hm
   refine aG (bI (bS (gN g6 (aL (hY sc_57 g7 (i:=6) rfl rfl rfl) ?_))));obtain ⟨r7,k9,l0,l1,l2⟩:=aD.lendSp g7 (zR _) zt1
   obtain ⟨r8,l3,l4,l5,l6⟩:=aD.lendSp l1 k9 .head
   obtain ⟨r9,l7,hm⟩:=aB hm
   refine cG call60 (rU l7 l5 (l0.mono l3) l4) ?_
   rintro _ s0 ⟨rfl,l8⟩
   have l9:=l6 _ _ l8
   have g8:=l2 _ _ l9
   refine bF ?_
   rcases aI hm with ⟨f0,hm⟩|⟨f0,hm⟩
   ·refine cP f0 rfl (bS (aL (hY sc_57 g8 (i:=6) rfl rfl rfl) (bH (v:=zS j d.length k) (bF (aFP (sO (aHv (sO (sO ?_)))))))))
    have m0:=hr _ (zI hm).symm
    subst m0
    have hm:(some d)=some R:=ho
    exact aJ
   ·exact bM f0 rfl (dD (aG (cK (gN g6 (iS (i:=6) (ns:=[zS p a4.length q]) (us:=[zS p a4.length q]) sizeOf57 g8 rfl rfl rfl rfl rfl (lS rfl) rfl rfl (fun m1 (m2:aD G K (aF 4 K p q a4::aF 4 K j k d::V::cZ m r::Z::box b1 77 J::box y 57 [zS p a4.length q]::box u 55 z::L) m1)=>(aM (iP (aG ⟨aR,a4,p,q,hm,(aD.arr 8 [0,6,7,2,3,4,5] m2 rfl)⟩)))))))))
  obtain ⟨s1,m3,ho⟩:=aB hm
  refine bQ [1,3,4,24,25] m3 (fun a6 a7 f w=>f 5=zS p a6.length q/\f 26=i64 a7/\aD G K (aF 4 K j k d::aF 4 K p q a6::aF 4 K b3 b4 b2::V::cZ m r::Z::box b1 77 J::box y 57 [zS j d.length k]::box u 55 z::L) w) aJ ?_
  ·rintro a6 a7 g9 f m4 hm hr ⟨f1,e2,b5⟩
   unfold jD at hm
   refine bS (aL (wZ e2 rfl) (bF (bI ?_)))
   rcases aI hm with ⟨f2,hm⟩|⟨f2,hm⟩
   ·refine cP f2 rfl (dD (aG (bI (aK [1,3,4,24,25,26] (fun f w=>∃ e3,lN a7 e3=some g9/\f 5=zS p e3.length q/\aD G K (aF 4 K j k d::aF 4 K p q e3::aF 4 K b3 b4 b2::V::cZ m r::Z::box b1 77 J::box y 57 [zS j d.length k]::box u 55 z::L) w) ?_ ?_))))
    ·rintro f s2 ⟨e3,hm,m5,m6⟩
     unfold lN at hm
     exact aG (cK (aL (uW e2 rfl) (aU (v:=i64 (wr (a7+1))) (bF ⟨_,(zI hm).symm,aR,m5,rfl,m6⟩))))
    refine bS (gN e2 ?_);obtain ⟨e4,f3,hm⟩:=aB hm
    have m7:=bC b5 (i:=3) rfl f3
    refine aL (bV jO rfl m7 rfl rfl e2 f3) ?_;obtain ⟨s3,m8,m9⟩:=aDh (sz:=1) rfl b5 (i:=3) rfl f3
    obtain ⟨e5,e6,rfl,h0⟩:=m9
    refine aL (aHf (t:=0) (v:=zS e5 e4.length e6) aCe m8 rfl rfl) (bH (v:=i64 a7) (bH (v:=zS e5 e4.length e6) (bF (bS (aL (kI (vs:=[zP (some ⟨u,0,none⟩),zP (some ⟨y,0,none⟩)]) rfl) (bH (v:=Value.func (.func 56) #[] #[zP (some ⟨u,0,none⟩),zP (some ⟨y,0,none⟩)]) (bF (bI (aW [1,3,4,5,6,24,25,26] (fun f w=>∃ f4,jC a6 a7 f4=some g9/\f 48=zB f4/\aD G K (aF 4 K j k d::aF 4 K p q a6::aF 4 K b3 b4 b2::V::cZ m r::Z::box b1 77 J::box y 57 [zS j d.length k]::box u 55 z::L) w) ?_ ?_)))))))))
    ·rintro f s4 ⟨f4,hm,h1,f5⟩
     unfold jC at hm
     refine aG ?_
     rcases aI hm with ⟨f6,hm⟩|⟨f6,hm⟩
     ·refine cP f6 h1 (cK (gN f1 (aU (v:=i64 a7) ?_)));obtain ⟨s5,f7,hm⟩:=aB hm
      have n0:=bC f5 (i:=1) rfl f7
      refine aL (bV nG rfl n0 rfl rfl rfl f7) ?_;obtain ⟨h2,h3,hm⟩:=aB hm
      exact nU (i:=1) (t:=0) (ns:=[zB false]) (e':=(false:Bool)) sizeOf4 f5 rfl (zR _) rfl rfl rfl f7 h3 rfl rfl (lS rfl) rfl (fun cs h=>by cases h;rfl) (fun n1 (n2:aD G K (aF 4 K j k d::aF 4 K p q h2::aF 4 K b3 b4 b2::V::cZ m r::Z::box b1 77 J::box y 57 [zS j d.length k]::box u 55 z::L) n1)=>(aM (iP (aG ⟨aR,h2,hm,(Eq.trans f1 (congrArg (fun n=>zS p n q) (lD h3))),n2⟩))))
     ·exact bM f6 h1 (dD (iP (aG ⟨aR,a6,hm,f1,f5⟩)))
    refine cK (aU (v:=zS b3 b2.length b4) (aU (v:=i64 a7) ?_));obtain ⟨n3,f8,hm⟩:=aB hm
    have n4:=bC b5 (i:=2) rfl f8
    refine aL (bV nG rfl n4 rfl rfl rfl f8) (aL (aCN (t:=0) sc_4 b5 (i:=2) rfl f8 rfl rfl rfl) (aL (aHw rfl) (aU (v:=zB (!n3)) ?_)))
    rcases aI hm with ⟨a0,hm⟩|⟨a0,hm⟩
    ·exact jM a0 rfl rfl (jM a0 rfl rfl (jM a0 rfl rfl (jM a0 rfl rfl (aL (aCM (v:=zB true) a0 rfl rfl) (aU (v:=zB true) (jM (rfl:true=true) rfl rfl (jM (rfl:true=true) rfl rfl (jM (rfl:true=true) rfl rfl (jM (rfl:true=true) rfl rfl (aL (aCM (v:=zB true) (rfl:true=true) rfl rfl) (bF ⟨aR,true,hm,rfl,b5⟩)))))))))))
    ·refine kG a0 rfl rfl (aL (hY aJJ b5 (i:=8) rfl rfl rfl) (kG a0 rfl rfl (aU (v:=zS e5 e4.length e6) (kG a0 rfl rfl ?_))))
     have n5:aD G K (V::cZ m r::Z::box b1 77 J::aF 4 K j k d::aF 4 K p q a6::aF 4 K b3 b4 b2::box y 57 [zS j d.length k]::box u 55 z::L) m4:=(aD.arr 7 [3,4,5,6,0,1,2] b5 rfl)
     obtain ⟨h5,n6,hm⟩:=aB hm
     refine cG call58 (aAo (Kf:=Kf) n6 n5 hG b6 h4 h7 d2 d3 d4 d5 (h0.mono b6)) ?_
     rintro _ s6 ⟨rfl,f9⟩
     refine kG a0 rfl rfl (aL (R_neqS rfl rfl) (aL (aEc (v:=zB (!(h5 == ([]:aH)))) a0 rfl rfl) (aU (v:=zB (!(h5 == ([]:aH)))) ?_)))
     rcases aI hm with ⟨a1,hm⟩|⟨a1,hm⟩
     ·exact jM a1 rfl rfl (jM a1 rfl rfl (jM a1 rfl rfl (jM a1 rfl rfl (aL (aCM (v:=zB true) a1 rfl rfl) (bF ⟨aR,true,hm,rfl,(aD.arr 7 [4,5,6,0,1,2,3] f9 rfl)⟩)))))
     ·refine kG a1 rfl rfl (aL (hY aJJ f9 (i:=8) rfl rfl rfl) (kG a1 rfl rfl (aU (v:=zS e5 e4.length e6) (kG a1 rfl rfl (aU (v:=Value.func (.func 56) #[] #[zP (some ⟨u,0,none⟩),zP (some ⟨y,0,none⟩)]) (kG a1 rfl rfl ?_))))));obtain ⟨s7,x,h6,n7,n8⟩:=aD.lendSp f9 b6 .head
      obtain ⟨s8,o,h8,n9,o0⟩:=aD.lendMp n7 .head
      obtain ⟨s9,l,h9,o1,o2⟩:=aD.lendSp n9 (zL (zL b6 x) o) .head
      obtain ⟨t0,e,i0,o3,o4⟩:=aD.lendBp o1 .head
      obtain ⟨t1,b,o5,o6,o7⟩:=aD.lendBp o3 zt4
      obtain ⟨t2,c,o8,o9,p0⟩:=aD.lendSp o6 (zL (zL (zL (zL x o) l) e) b) .head
      obtain ⟨t3,a,p1,p2,p3⟩:=aD.lendBp o9 zt2
      obtain ⟨i1,p4,hm⟩:=aB hm
      refine cG call59 (aAp p4 p2 hG (i0.mono (zL (zL b c) a)) (h4.mono (zL (zL (zL (zL (zL (zL x o) l) e) b) c) a)) (h7.mono (zL (zL (zL (zL (zL (zL x o) l) e) b) c) a)) (d2.mono (zL (zL (zL (zL (zL (zL x o) l) e) b) c) a)) (d3.mono (zL (zL (zL (zL (zL (zL x o) l) e) b) c) a)) (d4.mono (zL (zL (zL (zL (zL (zL x o) l) e) b) c) a)) (d5.mono (zL (zL (zL (zL (zL (zL x o) l) e) b) c) a)) (h6.mono (zL (zL (zL (zL (zL o l) e) b) c) a)) (h8.mono (zL (zL (zL (zL l e) b) c) a)) (h9.mono (zL (zL (zL e b) c) a)) (h0.mono (zL (zL (zL (zL (zL (zL (zL b6 x) o) l) e) b) c) a)) (show bZ _ _ _ [bR (some ⟨b1,0,none⟩) 0] from (o5.mono (zL c a))) (i0.mono (zL (zL b c) a)) (h4.mono (zL (zL (zL (zL (zL (zL x o) l) e) b) c) a)) (h7.mono (zL (zL (zL (zL (zL (zL x o) l) e) b) c) a)) (d2.mono (zL (zL (zL (zL (zL (zL x o) l) e) b) c) a)) (d3.mono (zL (zL (zL (zL (zL (zL x o) l) e) b) c) a)) (d4.mono (zL (zL (zL (zL (zL (zL x o) l) e) b) c) a)) (d5.mono (zL (zL (zL (zL (zL (zL x o) l) e) b) c) a)) (h6.mono (zL (zL (zL (zL (zL o l) e) b) c) a)) (h8.mono (zL (zL (zL (zL l e) b) c) a)) (h9.mono (zL (zL (zL e b) c) a)) p1 (o8.mono a)) ?_
      rintro _ t4 ⟨rfl,p5⟩
      have p6:=p3 _ _ p5
      have p7:=p0 _ _ p6
      have p8:=o7 _ _ p7
      have p9:=o4 _ _ p8
      have q0:=o2 _ _ p9
      have q1:=o0 _ _ q0
      have q2:=n8 _ _ q1
      exact aL (aEc (v:=zB i1) a1 rfl rfl) (bF ⟨aR,i1,hm,rfl,(aD.arr 9 [5,7,8,0,1,2,3,6,4] q2 rfl)⟩)
   ·refine bM f2 rfl (wD (fH (fH ?_)))
    have q3:=hr _ (zI hm).symm
    subst q3
    have hm:(lM d a6)=some e8:=ho
    exact aJ
theorem aDA {p:aO} {r_:aP} {R:(aP × Int)} (hm:pS p r_=some R) (hs:aD G K (L) w) (hG:G.lo=0) (h3:aN K a1 c2 p.S.L) (h6:aN K a4 c5 p.S.E) (h9:aN K a7 c8 p.M) (b9:aN K a10 c11 p.C) (c0:aN K a13 c14 r_.L) (c1:aN K a16 c17 r_.E):
  Calls prog 6 ([zA (zEa p a1 c2 a4 c5 a7 c8 a10 c11),zA (zCa r_ a13 c14 a16 c17)]:List Value).toArray w (dS fun v w'=>∃ e0 e1 e2 e3,v=zT #[zA (zCa R.1 e0 e1 e2 e3),i64 R.2]/\aD G K (aF 9 K e0 e1 R.1.L::aF 90 K e2 e3 R.1.E::L) w'):=by
 let c9:=(zE p a1 c2 a4 c5 a7 c8 a10 c11)
 let m:=zG
 let d0:=(zC r_ a13 c14 a16 c17)
 refine cH func6 ?_;unfold pS at hm
 refine aC ?_;refine oZ fun d1 l0 l1=>?_
 refine oZ fun d2 l2 l3=>?_;refine kK fun d3 l4 f3=>?_
 refine aC ?_;obtain ⟨b,f4,hm⟩:=aB hm
 refine cG call8 (sU f4 f3 hG h3 h6 h9 b9 c0 c1) ?_
 rintro _ l5 ⟨o,q,r,u,x,y,z,J,d4,d5,V,rfl,l6,l7⟩
 refine aC ?_;refine kK fun d6 l8 l9=>?_
 refine kZ fun m0 f5=>?_;refine aC ?_
 rcases aI hm with ⟨f6,hm⟩|⟨f6,hm⟩
 ·exact aJ
 ·refine aC ?_;obtain ⟨e,f7,hm⟩:=aB hm
  refine cG call20 (aCa f7 f5 h3 h6 h9 b9 c0 c1) ?_
  rintro _ m1 ⟨g,Z,a0,a2,a3,a5,a6,rfl,c,f8⟩
  refine bH (v:=zP (some ⟨a6,0,none⟩)) (bF (bS (aU (v:=zP (some ⟨a6,0,none⟩)) ?_)));obtain ⟨a8,f9,hm⟩:=aB hm
  refine cG call21 (aBg (Kf:=g) f9 f8 hG (zR _) (h3.mono c) (h6.mono c) (h9.mono c) (b9.mono c) (c0.mono c) (c1.mono c)) ?_
  rintro _ m2 ⟨a9,b0,rfl,c3⟩
  refine bH (v:=zS a9 a8.length b0) (bF (bI (bS (aU (v:=zS a9 a8.length b0) ?_))));obtain ⟨m3,d7,hm⟩:=aB hm
  have g0:=bC c3 (i:=0) rfl d7
  refine aL (bV nG rfl g0 rfl rfl rfl d7) (aL (aCN (t:=0) sc_4 c3 (i:=0) rfl d7 rfl rfl rfl) (aL (aHw rfl) (bF ?_)))
  rcases aI hm with ⟨d8,hm⟩|⟨d8,hm⟩
  ·refine cP d8 rfl (bS (aL (jZ (vs:=[]) (cs:=m) aJH rfl (by kernel_rfl)) (iS (i:=12) (ns:=m) (us:=m) sizeOf27 c3 rfl rfl rfl rfl rfl (lS rfl) rfl rfl (fun g1 (g2:aD G g (aF 4 K a9 b0 a8::aF 28 g Z a0 e.1::cZ a2 e.2.1::aF 24 g a3 a5 e.2.2::box a6 77 [i64 p.S.N,i64 p.S.I,zS a1 p.S.L.length c2,zS a4 p.S.E.length c5,zS a7 p.M.length c8,zS a10 p.C.length c11,i64 r_.N,i64 r_.I,zS a13 r_.L.length c14,zS a16 r_.E.length c17,zS Z e.1.length a0,zM (some a2),zS a3 e.2.2.length a5]::box d6 30 (zE b.1 o q r u x y z J)::aF 9 K o q b.1.S.L::aF 90 K r u b.1.S.E::aF 2 K x y b.1.M::aF 9 K z J b.1.C::aF 28 K d4 d5 (aY V b.2.1)::rows [2] V b.2.1::box d3 27 m::box d2 27 d0::box d1 30 c9::L) g1)=>(bH (v:=i64 3) (bF ?_))))))
   have g3:=aD.nil (α:=aH) g2 9 K
   have e4:=aD.nil (α:=Edge) g3 90 K
   obtain rfl:=zI hm
   exact aFP (sO (aPu results6 (aBm (vs:=m) rfl sM e4 (i:=14) rfl rfl rfl) (aGB rfl rfl) ⟨none,0,none,0,rfl,(aD.weakK (aD.arr 17 [1,0] e4 rfl) c)⟩))
  ·refine bM d8 rfl (dD (aG (bS (aU (v:=zP (some ⟨a6,0,none⟩)) (aU (v:=zS a9 a8.length b0) ?_)))));obtain ⟨m4,n,g5,g6,g7⟩:=aD.lendSp c3 c .head
   obtain ⟨a,g8,hm⟩:=aB hm
   refine cG call22 (qF (Kf:=g) g8 g6 n (h3.mono (zL c n)) (h6.mono (zL c n)) (h9.mono (zL c n)) (b9.mono (zL c n)) (c0.mono (zL c n)) (c1.mono (zL c n)) g5) ?_
   rintro _ m5 ⟨h,j,k,l,c4,c6,c7,rfl,m6,g9⟩
   have h0:=g7 _ _ g9
   refine aU (v:=zT #[zA (zCa a.1 h j k l),zS c4 a.2.length c6]) (aL (cN rfl rfl) (aL (cN rfl rfl) (fG (vs:=m) zeroValue27 h0 rfl (fun e5 m7 h1=>(iS (i:=0) (ns:=(zC a.1 h j k l)) (us:=(zC a.1 h j k l)) sizeOf27 h1 rfl rfl rfl rfl rfl (lS rfl) rfl rfl (fun h2 (h4:aD G g (box e5 27 (zC a.1 h j k l)::aF 4 K a9 b0 a8::aF 9 K h j a.1.L::aF 90 K k l a.1.E::aF 28 K c4 c6 (aY c7 a.2)::rows [2] c7 a.2::aF 28 g Z a0 e.1::cZ a2 e.2.1::aF 24 g a3 a5 e.2.2::box a6 77 [i64 p.S.N,i64 p.S.I,zS a1 p.S.L.length c2,zS a4 p.S.E.length c5,zS a7 p.M.length c8,zS a10 p.C.length c11,i64 r_.N,i64 r_.I,zS a13 r_.L.length c14,zS a16 r_.E.length c17,zS Z e.1.length a0,zM (some a2),zS a3 e.2.2.length a5]::box d6 30 (zE b.1 o q r u x y z J)::aF 9 K o q b.1.S.L::aF 90 K r u b.1.S.E::aF 2 K x y b.1.M::aF 9 K z J b.1.C::aF 28 K d4 d5 (aY V b.2.1)::rows [2] V b.2.1::box d3 27 m::box d2 27 d0::box d1 30 c9::L) h2)=>(bH (v:=zS c4 a.2.length c6) (bF (bI ?_)))))))))
   obtain ⟨m8,e6,e7,m9,h5⟩:=aD.lendBp h4 .head
   refine wW [(0,0),(1,1),(2,1),(3,2),(4,2),(5,2)] fun n0 b5=>?_;refine bN rfl (fun _ ⟨_,b5⟩=>sX (t:=0) (vs:=(zC a.1 h j k l)) sM b5 e7 rfl rfl rfl) (fF rfl (aL (sX (t:=0) (vs:=(zC a.1 h j k l)) sM b5 e7 rfl rfl rfl) (aM (aG ⟨⟨_,b5⟩,?_⟩))))
   refine fF rfl ?_;obtain ⟨n1,h7,h8,i0,i1⟩:=aD.lendSp b5 (zL c e6) zt1
   obtain ⟨n2,i2,i3,i4,i5⟩:=aD.lendSp i0 (zL (zL c e6) h7) zt1
   obtain ⟨i6,i7,hm⟩:=aB hm
   refine cG call24 (xY i7 i4 (h8.mono i2) i3) ?_
   rintro _ n3 ⟨i8,i9,rfl,j0⟩
   have j1:=i5 _ _ j0
   have e8:=i1 _ _ j1
   refine aM (aG ⟨⟨_,e8⟩,?_⟩)
   have j2:=h5 _ _ e8
   refine aFR rfl ?_;obtain ⟨n4,e9,j3,j4,j5⟩:=aD.lendSp j2 c zt1
   obtain ⟨n5,f0,j6,j7,j8⟩:=aD.lendSp j4 (zL c e9) zt1
   obtain ⟨n6,f1,j9,k0,k1⟩:=aD.lendSp j7 (zL (zL c e9) f0) zt1
   obtain ⟨d,k2,hm⟩:=aB hm
   refine cG call23 (aHp k2 k0 (j3.mono (zL f0 f1)) (j6.mono f1) j9) ?_
   rintro _ n7 ⟨b1,b2,b3,b4,rfl,k3⟩
   have k4:=k1 _ _ k3
   have k5:=j8 _ _ k4
   have k6:=j5 _ _ k5
   refine bF (aFR rfl (iS (i:=20) (ns:=(zC d b1 b2 b3 b4)) (us:=(zC d b1 b2 b3 b4)) sizeOf27 k6 rfl rfl rfl rfl rfl (lS rfl) rfl rfl (fun k7 (f2:aD G g (aF 9 K h j a.1.L::aF 90 K k l a.1.E::aF 2 K i8 i9 i6::aF 9 K b1 b2 d.L::aF 90 K b3 b4 d.E::box e5 27 (zC a.1 h j k l)::aF 4 K a9 b0 a8::aF 28 K c4 c6 (aY c7 a.2)::rows [2] c7 a.2::aF 28 g Z a0 e.1::cZ a2 e.2.1::aF 24 g a3 a5 e.2.2::box a6 77 [i64 p.S.N,i64 p.S.I,zS a1 p.S.L.length c2,zS a4 p.S.E.length c5,zS a7 p.M.length c8,zS a10 p.C.length c11,i64 r_.N,i64 r_.I,zS a13 r_.L.length c14,zS a16 r_.E.length c17,zS Z e.1.length a0,zM (some a2),zS a3 e.2.2.length a5]::box d6 30 (zE b.1 o q r u x y z J)::aF 9 K o q b.1.S.L::aF 90 K r u b.1.S.E::aF 2 K x y b.1.M::aF 9 K z J b.1.C::aF 28 K d4 d5 (aY V b.2.1)::rows [2] V b.2.1::box d3 27 (zC d b1 b2 b3 b4)::box d2 27 d0::box d1 30 c9::L) k7)=>(bF (aFR rfl (bH (v:=i64 0) (bF (jE (aG ?_)))))))))
   obtain rfl:=zI hm
   exact aFP (aPu results6 (aBm (vs:=(zC d b1 b2 b3 b4)) rfl sM f2 (i:=20) rfl rfl rfl) (aGB rfl rfl) ⟨b1,b2,b3,b4,rfl,(aD.weakK (aD.arr 23 [3,4] f2 rfl) c)⟩)
theorem uR {d:(List (Int × Int × Int))} {o:(List ((Int × Int × Int) × Int))} {b:Nat} {a:(List (List Int))} {c:List (Dp.Hd (List Int))} {t:(Int × Int × Int)} {R:(Int × (List (Int × Int × Int)) × (List ((Int × Int × Int) × Int)) × (List (List Int)))} (hm:kU d o a t=some R) (hs:aD G K (aF 71 K a2 c3 d::cZ b o::aF 70 K a5 c6 (aY c a)::rows [3] c a::box b1 68 [zS a2 d.length c3,zM (some b),zS a5 a.length c6]::L) w) (y:List.length c=List.length a):
  Calls prog 74 ([zP (some ⟨b1,0,none⟩),zA #[i64 t.1,i64 t.2.1,i64 t.2.2]]:List Value).toArray w (dS fun v w'=>∃ J V Z a0 p,v=i64 R.1/\List.length p=List.length R.2.2.2/\aD G K (aF 71 K J V R.2.1::cZ b R.2.2.1::aF 70 K Z a0 (aY p R.2.2.2)::rows [3] p R.2.2.2::box b1 68 [zS J R.2.1.length V,zM (some b),zS Z R.2.2.2.length a0]::L) w'):=by
 let j:=[i64 t.1,i64 t.2.1,i64 t.2.2]
 refine cH func74 ?_;unfold kU at hm
 refine aC ?_;refine oZ fun n e7 a1=>?_
 refine aC ?_;refine aEi ?_
 refine aC ?_;refine jN (fun _ a1=>R_look (kv:=o) (k:=t) (z:=(0:Int)) runUnderlying64 ko_71 zeroValue3 a1 (i:=2) rfl rfl rfl) (aC ?_)
 refine oS (fun e8 b6=>?_)
 iterate 1 refine cO ?_
 refine sV [] (fun f w=>∃ (a3:Int) (q:List (Int × Int × Int)) (a4:(List ((Int × Int × Int) × Int))) (l:List (List Int)) (a6:Option Addr) (a7:Nat) (a8:Option Addr) (a9:Nat) (r:List (Dp.Hd (List Int))),rE a3 q a4 l=some R/\f 5=i64 a3/\List.length r=List.length l/\aD G K (aF 70 K a8 a9 (aY r l)::rows [3] r l::aF 71 K a6 a7 q::cZ b a4::box b1 68 [zS a6 q.length a7,zM (some b),zS a8 l.length a9]::L) w) aJ (aC ?_)
 rcases aI hm with ⟨b7,hm⟩|⟨b7,hm⟩
 ·refine aC ?_;obtain ⟨e9,f0,b8,c0,c1⟩:=aD.lendBp b6 .head
  obtain ⟨f1,c2,f2,f3,c4⟩:=aD.lendBp c0 zt4
  refine wW [(0,0),(1,0),(2,0),(3,0),(4,0),(5,0),(6,2)] fun f4 u=>?_;refine aC ?_
  refine bN rfl (fun _ ⟨_,u⟩=>sX (t:=0) (vs:=j) ag_71 u (b8.mono c2) rfl rfl rfl) (bN rfl (fun _ _=>cC (v:=i64 (d.length:Int)) rfl) ?_)
  have c5:=c4 _ _ u
  have c7:=c1 _ _ c5
  refine aFR rfl ?_;obtain ⟨m,c8,hm⟩:=aB hm
  refine aHD (i:=3) (k:=t) (v:=(d.length:Int)) runUnderlying64 ko_71 c7 rfl rfl rfl rfl c8 (fun c9 (d0:aD G K (box n 71 j::box b1 68 [zS a2 d.length c3,zM (some b),zS a5 a.length c6]::aF 71 K a2 c3 d::cZ b m::aF 70 K a5 c6 (aY c a)::rows [3] c a::L) c9)=>(aC ?_));refine jE (aC ?_)
  obtain ⟨f5,f6,d1,d2,d3⟩:=aD.lendBp d0 .head
  obtain ⟨f7,d4,f8,f9,d5⟩:=aD.lendBp d2 .head
  refine wW [(0,0),(1,0),(2,0),(3,0),(4,0),(5,1),(6,1),(7,1),(8,2),(9,2),(10,2)] fun g0 b0=>?_;refine aC ?_
  refine fF rfl (aL (sX (t:=0) (vs:=j) ag_71 b0 (d1.mono d4) rfl rfl rfl) (aM (aG ⟨⟨_,b0⟩,?_⟩)))
  refine fF rfl (nW ([t]:List (Int × Int × Int)) fun g1 g2 d6=>?_);refine aM (aG ⟨⟨_,d6⟩,?_⟩)
  refine fF rfl ?_;obtain ⟨e,g3,hm⟩:=aB hm
  refine aIw fun g h g4 b2=>?_;refine aM (aG ⟨⟨_,b2⟩,?_⟩)
  have d7:=d5 _ _ b2
  have g5:=d3 _ _ d7
  refine aFR rfl (aC ?_);refine aFR rfl (aC ?_)
  refine aFR rfl (kZ fun d8 d9=>?_);refine aC ?_
  refine jE (aC ?_)
  have e0:=aD.nil (α:=Int) d9 3 K
  have e1:aD G K (rows [3] ([(none,0)]:List (Dp.Hd (List Int))) [([]:List Int)]::box n 71 j::box b1 68 [zS g e.length h,zM (some b),zS a5 a.length c6]::aF 71 K g h e::cZ b m::aF 70 K a5 c6 (aY c a)::rows [3] c a::L) d8:=aD.rowsOne e0
  refine iG (Kt:=K) (xs:=aY ([(none,0)]:List (Dp.Hd (List Int))) ([([]:List Int)]:List (List Int))) (cs:=[zS none ([]:List Int).length 0]) (vs:=[(0,zS none ([]:List Int).length 0)]) aMw ez_70 rfl rfl e1 rfl (by kernel_rfl) rfl rfl rfl ⟨rfl,trivial⟩ ?_
  intro e2 e3 (e4:aD G K (aF 70 K e2 1 (aY ([(none,0)]:List (Dp.Hd (List Int))) ([([]:List Int)]:List (List Int)))::rows [3] ([(none,0)]:List (Dp.Hd (List Int))) ([([]:List Int)]:List (List Int))::box n 71 j::box b1 68 [zS g e.length h,zM (some b),zS a5 a.length c6]::aF 71 K g h e::cZ b m::aF 70 K a5 c6 (aY c a)::rows [3] c a::L) e3)
  obtain ⟨x,b3,hm⟩:=aB hm
  refine WO_appD (i:=4) (tys:=[3]) (hds:=c) (hds2:=([(none,0)]:List (Dp.Hd (List Int)))) aMw underlying66 ez_70 rfl rfl e4 y rfl rfl rfl b3 rfl rfl rfl rfl ?_
  intro b4 b5 e5 (g6:aD G K (aF 70 K b4 b5 (aY (c++([(none,0)]:List (Dp.Hd (List Int)))) x)::rows [3] (c++([(none,0)]:List (Dp.Hd (List Int)))) x::box n 71 j::box b1 68 [zS g e.length h,zM (some b),zS a5 a.length c6]::aF 71 K g h e::cZ b m::L) e5)
  refine aC ?_;refine kZ fun g7 g8=>?_
  refine aC ?_;exact ⟨aR,(d.length:Int),e,m,x,g,h,b4,b5,(c++([(none,0)]:List (Dp.Hd (List Int)))),hm,rfl,(aPy y rfl b3),lI⟩
 ·exact aJ
end Gv
