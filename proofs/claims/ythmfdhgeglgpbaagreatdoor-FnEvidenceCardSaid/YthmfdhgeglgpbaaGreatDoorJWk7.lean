/- Walks, printed by program. -/
import Derived.Test.YthmfdhgeglgpbaaGreatDoorJWk5
set_option linter.all false
namespace Gv
open Gv.Hp renaming le_refl→zR
open Go.Value renaming slice→zS,bool→zB,pointer→zP
open Option.some renaming inj→zI
open Gv.Hp renaming le_trans→zL
open Go Go.Proofs Go.Proofs.Tryz
set_option maxRecDepth 20000
set_option maxHeartbeats 40000000
variable {G:rT} {K:Hp} {L:List fM} {w:World} {a1 a4 a7 a10 a13 a16 a19 a22 a25 a28:Option Addr} {c2 c5 c8 c11 c14 c20 c23 c26 c17:Nat}
theorem aHg {g:(List aO)} {R:((List (List Int)) × (List Bool))} (hm:aDV g=some R) (hs:aF G K (L) w) (h3:bI K a1 c2 g):
  Calls prog 124 ([zS a1 g.length c2]:List Value).toArray w (dL fun v w'=>∃ f1 f2 d5 f3 f4 f5,v=zP (some ⟨f5,0,none⟩)/\List.length d5=List.length R.1/\aF G K (own 88 K f1 f2 (cA d5 R.1)::rows [2] d5 R.1::own 4 K f3 f4 R.2::box f5 217 [zS a1 g.length c2,zS f1 R.1.length f2,zS f3 R.2.length f4]::L) w'):=by
 refine aBM func124 ?_;unfold aDV at hm
 refine aAW ?_;refine bD [0] (fun f w=>∃ x5 a m b c c8 d e,aBH g x5 a=some R/\f 3=zP (some ⟨m,0,none⟩)/\List.length c8=List.length x5/\aF G K (own 4 K d e a::own 88 K b c (cA c8 x5)::rows [2] c8 x5::box m 217 [zS a1 g.length c2,zS b x5.length c,zS d a.length e]::L) w) ?_ ?_
 ·rintro f m4 ⟨x5,a,m,b,c,c8,d,e,hm,m5,m6,m7⟩
  unfold aBH at hm
  refine aAW ?_;refine aS [3] (fun f w=>∃ b3 d6,aJi a b3=some R/\List.length d6=List.length b3/\aF G K (own 4 K d e a::own 88 K b c (cA d6 b3)::rows [2] d6 b3::box m 217 [zS a1 g.length c2,zS b b3.length c,zS d a.length e]::L) w) aN ?_
  obtain ⟨m8,i0,ho⟩:=aB hm
  refine bN [3,18,19] i0 (fun b5 r f w=>∃ c9,f 20=i64 r/\List.length c9=List.length b5/\aF G K (own 4 K d e a::own 88 K b c (cA c9 b5)::rows [2] c9 b5::box m 217 [zS a1 g.length c2,zS b b5.length c,zS d a.length e]::L) w) aN ?_
  ·rintro b5 r f6 f m9 hm hr ⟨c9,n0,n1,n2⟩
   unfold oG at hm
   refine aAW ?_
   rcases aM hm with ⟨i1,hm⟩|⟨i1,hm⟩
   ·refine aAW ?_;refine aS [3,18,19,20] (fun f w=>∃ a2 b6,aBF r a2=some f6/\List.length b6=List.length a2/\aF G K (own 4 K d e a::own 88 K b c (cA b6 a2)::rows [2] b6 a2::box m 217 [zS a1 g.length c2,zS b a2.length c,zS d a.length e]::L) w) ?_ ?_
    ·rintro f n3 ⟨a2,b6,hm,i2,i3⟩
     unfold aBF at hm
     refine aAW ?_;exact ⟨_,(zI hm).symm,bG,b6,rfl,i2,i3⟩
    refine aAW ?_;obtain ⟨n4,i4,hm⟩:=aB hm
    refine aAW ?_;obtain ⟨n5,n6,i5⟩:=bI.el (sz:=3) rfl h3 i4
    obtain ⟨n7,n8,rfl,i6⟩:=i5
    refine aAW ?_;refine aEx fun n9 o0 o1=>?_
    refine aAW ?_;refine aFy fun o2 o3=>?_
    refine aAW ?_;refine aS [3,18,19,20] (fun f w=>∃ b7 d7,aFs r b7=some f6/\List.length d7=List.length b7/\aF G K (own 4 K d e a::own 88 K b c (cA d7 b7)::rows [2] d7 b7::box m 217 [zS a1 g.length c2,zS b b7.length c,zS d a.length e]::L) w) aN ?_
    obtain ⟨o4,i7,ho⟩:=aB hm
    refine bN [3,4,18,19,20,26,27] i7 (fun l d8 f w=>∃ h,f 28=i64 d8/\List.length h=List.length l/\aF G K (own 4 K d e a::own 88 K b c (cA h l)::rows [2] h l::box m 217 [zS a1 g.length c2,zS b l.length c,zS d a.length e]::L) w) aN ?_
    ·rintro l d8 i8 f o5 hm hr ⟨h,o6,u,i9⟩
     unfold oF at hm
     refine aAW ?_
     rcases aM hm with ⟨j0,hm⟩|⟨j0,hm⟩
     ·refine aAW ?_;refine bZ (aAW ?_)
      obtain ⟨k,j1,hm⟩:=aB hm
      refine aAW ?_;obtain ⟨o7,o8,j2⟩:=bI.el (sz:=1) rfl i6 j1
      cases j2
      refine aAW ?_;refine bD [3,4,18,19,20,26,27,28] (fun f w=>∃ a3 b8,aBG d8 a3=some i8/\List.length b8=List.length a3/\aF G K (own 4 K d e a::own 88 K b c (cA b8 a3)::rows [2] b8 a3::box m 217 [zS a1 g.length c2,zS b a3.length c,zS d a.length e]::L) w) ?_ ?_
      ·rintro f o9 ⟨a3,b8,hm,j3,j4⟩
       unfold aBG at hm
       refine aAW ?_;exact ⟨_,(zI hm).symm,bG,b8,rfl,j3,j4⟩
      obtain ⟨b9,p0,p1,j5,f7⟩:=aF.lendBp i9 zt3
      refine aBj (C:=fun w'=>∃ L',aF G b9 L' w') [16] Tryz_mixed (by kernel_rfl) (fun p2 j6=>?_)
      have d0:=aF.mono j5 j6
      refine aDz 0 ?_;refine aDz 1 ?_
      refine aDz 2 ?_;refine aDz 3 ?_
      refine aDz 4 ?_;refine aDz 5 ?_
      refine aDz 6 ?_;refine aDz 7 ?_
      refine aDz 8 ?_;refine aDz 9 ?_
      obtain ⟨d1,q,hm⟩:=aB hm
      obtain ⟨⟨d2,d3⟩,Z⟩:=get_hd u q
      have d9:=bM d0 (i:=1) rfl (aKe u q Z)
      refine iY (i:=10) rfl (by kernel_rfl) ⟨_,d0⟩ (fun _ _=>cB qD rfl d9 rfl rfl rfl q) (aDz 12 ?_);refine aED (i:=11) (j:=13) (by kernel_rfl) rfl rfl ?_ ?_
      ·refine aD (lH (t:=0) oZ d0 (i:=1) rfl (aKe u q Z) rfl rfl rfl) (aY (aC ⟨fun _=>⟨_,d0⟩,?_⟩))
       refine fK (i:=13) (by kernel_rfl) rfl (aCp ([r]:List Int) fun f8 f9 g0=>?_);refine aY (aC ⟨fun _=>⟨_,g0⟩,?_⟩)
       refine fK (i:=14) (by kernel_rfl) rfl ?_
       have p3:aF G b9 (own 88 K b c (cA h l)::rows [2] ((h).eraseIdx k.toNat) ((l).eraseIdx k.toNat)::own 2 K d2 d3 d1::own 2 K f8 1 ([r]:List Int)::own 4 K d e a::L) f9:=aF.focusR (i:=2) g0 rfl rfl Z q
       obtain ⟨g1,p4,hm⟩:=aB hm
       have p5:aF G b9 (own 2 K f8 1 ([r]:List Int)::own 88 K b c (cA h l)::rows [2] ((h).eraseIdx k.toNat) ((l).eraseIdx k.toNat)::own 2 K d2 d3 d1::own 4 K d e a::L) f9:=aCN
       refine aNS fun x y j7 e0=>?_;refine aY (aC ⟨fun _=>⟨_,e0⟩,?_⟩)
       refine iY (i:=15) rfl (by kernel_rfl) ⟨_,e0⟩ (fun _ _=>cB qD rfl d9 rfl rfl rfl q) (fK (i:=16) (by kernel_rfl) rfl ?_)
       have p6:=f7 _ _ e0
       have j8:aF G K (own 2 K x y g1::box m 217 [zS a1 g.length c2,zS b l.length c,zS d a.length e]::own 88 K b c (cA h l)::rows [2] ((h).eraseIdx k.toNat) ((l).eraseIdx k.toNat)::own 4 K d e a::L) j7:=aCN
       obtain ⟨a4,e1,hm⟩:=aB hm
       refine WO_stH (i:=1) (tys:=[2]) (hd':=(x,y)) (e':=g1) (hds:=h) sizeOf88 j8 u rfl rfl rfl rfl rfl q Z e1 rfl ?_
       intro g2 (j9:aF G K (own 88 K b c (cA (List.set h k.toNat (x,y)) a4)::rows [2] (List.set h k.toNat (x,y)) a4::box m 217 [zS a1 g.length c2,zS b l.length c,zS d a.length e]::own 4 K d e a::L) g2)
       have p7:aF G K (own 88 K b c (cA (List.set h k.toNat (x,y)) a4)::rows [2] (List.set h k.toNat (x,y)) a4::box m 217 [zS a1 g.length c2,zS b a4.length c,zS d a.length e]::own 4 K d e a::L) g2:=by rw [←(dH e1)];exact j9
       refine aY (aC ⟨no_c rfl,?_⟩)
       refine sX (by kernel_rfl) (aAW ?_);exact ⟨bG,a4,(List.set h k.toNat (x,y)),hm,(set_len (hd:=((x,y):Dp.Hd (List Int))) u e1),aCN⟩
      ·refine aCp ([r]:List Int) fun g3 g4 d4=>?_;refine aY (aC ⟨fun _=>⟨_,d4⟩,?_⟩)
       refine fK (i:=11) (by kernel_rfl) rfl (aD (lH (t:=0) oZ d4 (i:=2) rfl (aKe u q Z) rfl rfl rfl) (aY (aC ⟨fun _=>⟨_,d4⟩,?_⟩)))
       refine fK (i:=14) (by kernel_rfl) rfl ?_
       have p8:aF G b9 (own 88 K b c (cA h l)::rows [2] ((h).eraseIdx k.toNat) ((l).eraseIdx k.toNat)::own 2 K d2 d3 d1::own 2 K g3 1 ([r]:List Int)::own 4 K d e a::L) g4:=aF.focusR (i:=2) d4 rfl rfl Z q
       obtain ⟨g5,p9,hm⟩:=aB hm
       have q0:aF G b9 (own 2 K g3 1 ([r]:List Int)::own 88 K b c (cA h l)::rows [2] ((h).eraseIdx k.toNat) ((l).eraseIdx k.toNat)::own 2 K d2 d3 d1::own 4 K d e a::L) g4:=aCN
       refine aNS fun z J k0 e2=>?_;refine aY (aC ⟨fun _=>⟨_,e2⟩,?_⟩)
       refine iY (i:=15) rfl (by kernel_rfl) ⟨_,e2⟩ (fun _ _=>cB qD rfl d9 rfl rfl rfl q) (fK (i:=16) (by kernel_rfl) rfl ?_)
       have q1:=f7 _ _ e2
       have k1:aF G K (own 2 K z J g5::box m 217 [zS a1 g.length c2,zS b l.length c,zS d a.length e]::own 88 K b c (cA h l)::rows [2] ((h).eraseIdx k.toNat) ((l).eraseIdx k.toNat)::own 4 K d e a::L) k0:=aCN
       obtain ⟨a5,e3,hm⟩:=aB hm
       refine WO_stH (i:=1) (tys:=[2]) (hd':=(z,J)) (e':=g5) (hds:=h) sizeOf88 k1 u rfl rfl rfl rfl rfl q Z e3 rfl ?_
       intro g6 (k2:aF G K (own 88 K b c (cA (List.set h k.toNat (z,J)) a5)::rows [2] (List.set h k.toNat (z,J)) a5::box m 217 [zS a1 g.length c2,zS b l.length c,zS d a.length e]::own 4 K d e a::L) g6)
       have q2:aF G K (own 88 K b c (cA (List.set h k.toNat (z,J)) a5)::rows [2] (List.set h k.toNat (z,J)) a5::box m 217 [zS a1 g.length c2,zS b a5.length c,zS d a.length e]::own 4 K d e a::L) g6:=by rw [←(dH e3)];exact k2
       refine aY (aC ⟨no_c rfl,?_⟩)
       refine sX (by kernel_rfl) (aAW ?_);exact ⟨bG,a5,(List.set h k.toNat (z,J)),hm,(set_len (hd:=((z,J):Dp.Hd (List Int))) u e3),aCN⟩
     ·exact aN
   ·exact aN
 refine aBj (C:=fun w'=>∃ L',aF G K L' w') [] Tryz_mixed (by kernel_rfl) (fun q3 k3=>?_)
 have k4:=aF.mono hs k3
 refine aDz 0 ?_;refine aDz 1 ?_
 refine aDz 2 ?_;refine aDz 5 ?_
 refine aDz 6 ?_;refine aED (i:=3) (j:=4) (by kernel_rfl) rfl rfl ?_ ?_
 ·obtain ⟨n,g7,hm⟩:=aB hm
  refine WO_mkD (tys:=[2]) (hd:=((none,0):Dp.Hd (List Int))) qD aHI rfl rfl k4 rfl rfl rfl g7 rfl (aPs _) ?_
  intro a7 k5 (k6:aF G K (own 88 K a7 n.length (cA (List.replicate (g.length:Int).toNat ((none,0):Dp.Hd (List Int))) n)::rows [2] (List.replicate (g.length:Int).toNat ((none,0):Dp.Hd (List Int))) n::L) k5)
  refine aY (aC ⟨fun _=>⟨_,k6⟩,?_⟩)
  refine fK (i:=4) (by kernel_rfl) rfl (aCp ([true]:List Bool) fun q4 q5 g8=>?_);refine aY (aC ⟨fun _=>⟨_,g8⟩,?_⟩)
  refine fK (i:=7) (by kernel_rfl) rfl ?_;obtain ⟨q6,q7,k7,k8,k9⟩:=aF.lendSp g8 (zR _) .head
  obtain ⟨c0,l0,hm⟩:=aB hm
  refine aAZ call183 (gM l0 k8 k7) ?_
  rintro _ q8 ⟨c1,c3,rfl,l1⟩
  have e4:=k9 _ _ l1
  refine aY (aC ⟨fun _=>⟨_,e4⟩,?_⟩)
  refine iY (i:=8) rfl (by kernel_rfl) ⟨_,e4⟩ (fun _ _=>cO (vs:=[(0,zS a1 g.length c2),(1,zS a7 n.length n.length),(2,zS c1 c0.length c3)]) (cs:=[zS a1 g.length c2,zS a7 n.length n.length,zS c1 c0.length c3]) aMV rfl (by kernel_rfl)) (fK (i:=9) (by kernel_rfl) rfl (fZ (v:=Value.agg #[zS a1 g.length c2,zS a7 n.length n.length,zS c1 c0.length c3]) (vs:=[zS a1 g.length c2,zS a7 n.length n.length,zS c1 c0.length c3]) e4 rfl rfl (fun g9 q9 e5=>(aY (aC ⟨fun _=>⟨_,e5⟩,?_⟩)))))
  exact iY (i:=10) rfl (by kernel_rfl) ⟨_,e5⟩ (fun _ _=>cY (v:=zP (some ⟨g9,0,none⟩)) rfl) (sX (by kernel_rfl) (aC ⟨bG,n,c0,g9,a7,n.length,(List.replicate (g.length:Int).toNat ((none,0):Dp.Hd (List Int))),c1,c3,hm,rfl,(aIC (hd:=((none,0):Dp.Hd (List Int))) g7).2.1,(aF.arr 5 [2,3,4,0] e5 rfl)⟩))
 ·refine aCp ([true]:List Bool) fun h0 r0 e6=>?_;refine aY (aC ⟨fun _=>⟨_,e6⟩,?_⟩)
  refine aED (i:=3) (j:=7) (by kernel_rfl) rfl rfl ?_ ?_
  ·obtain ⟨o,h1,hm⟩:=aB hm
   refine WO_mkD (tys:=[2]) (hd:=((none,0):Dp.Hd (List Int))) qD aHI rfl rfl e6 rfl rfl rfl h1 rfl (aPs _) ?_
   intro a8 l2 (h2:aF G K (own 88 K a8 o.length (cA (List.replicate (g.length:Int).toNat ((none,0):Dp.Hd (List Int))) o)::rows [2] (List.replicate (g.length:Int).toNat ((none,0):Dp.Hd (List Int))) o::own 4 K h0 1 ([true]:List Bool)::L) l2)
   refine aY (aC ⟨fun _=>⟨_,h2⟩,?_⟩)
   refine fK (i:=7) (by kernel_rfl) rfl ?_;obtain ⟨r1,r2,l3,l4,l5⟩:=aF.lendSp h2 (zR _) zt2
   obtain ⟨c4,l6,hm⟩:=aB hm
   refine aAZ call183 (gM l6 l4 l3) ?_
   rintro _ r3 ⟨c5,c6,rfl,l7⟩
   have e7:=l5 _ _ l7
   refine aY (aC ⟨fun _=>⟨_,e7⟩,?_⟩)
   refine iY (i:=8) rfl (by kernel_rfl) ⟨_,e7⟩ (fun _ _=>cO (vs:=[(0,zS a1 g.length c2),(1,zS a8 o.length o.length),(2,zS c5 c4.length c6)]) (cs:=[zS a1 g.length c2,zS a8 o.length o.length,zS c5 c4.length c6]) aMV rfl (by kernel_rfl)) (fK (i:=9) (by kernel_rfl) rfl (fZ (v:=Value.agg #[zS a1 g.length c2,zS a8 o.length o.length,zS c5 c4.length c6]) (vs:=[zS a1 g.length c2,zS a8 o.length o.length,zS c5 c4.length c6]) e7 rfl rfl (fun h4 r4 e8=>(aY (aC ⟨fun _=>⟨_,e8⟩,?_⟩)))))
   exact iY (i:=10) rfl (by kernel_rfl) ⟨_,e8⟩ (fun _ _=>cY (v:=zP (some ⟨h4,0,none⟩)) rfl) (sX (by kernel_rfl) (aC ⟨bG,o,c4,h4,a8,o.length,(List.replicate (g.length:Int).toNat ((none,0):Dp.Hd (List Int))),c5,c6,hm,rfl,(aIC (hd:=((none,0):Dp.Hd (List Int))) h1).2.1,(aF.arr 5 [2,3,4,0] e8 rfl)⟩))
  ·replace hm:=ob_swap hm
   obtain ⟨r5,r6,l8,l9,m0⟩:=aF.lendSp e6 (zR _) .head
   obtain ⟨a9,m1,hm⟩:=aB hm
   refine aAZ call183 (gM m1 l9 l8) ?_
   rintro _ r7 ⟨b0,b1,rfl,m2⟩
   have h5:=m0 _ _ m2
   refine aY (aC ⟨fun _=>⟨_,h5⟩,?_⟩)
   refine fK (i:=3) (by kernel_rfl) rfl ?_;obtain ⟨p,h6,hm⟩:=aB hm
   refine WO_mkD (tys:=[2]) (hd:=((none,0):Dp.Hd (List Int))) qD aHI rfl rfl h5 rfl rfl rfl h6 rfl (aPs _) ?_
   intro b2 m3 (e9:aF G K (own 88 K b2 p.length (cA (List.replicate (g.length:Int).toNat ((none,0):Dp.Hd (List Int))) p)::rows [2] (List.replicate (g.length:Int).toNat ((none,0):Dp.Hd (List Int))) p::own 4 K h0 1 ([true]:List Bool)::own 4 K b0 b1 a9::L) m3)
   refine aY (aC ⟨fun _=>⟨_,e9⟩,?_⟩)
   refine iY (i:=8) rfl (by kernel_rfl) ⟨_,e9⟩ (fun _ _=>cO (vs:=[(0,zS a1 g.length c2),(1,zS b2 p.length p.length),(2,zS b0 a9.length b1)]) (cs:=[zS a1 g.length c2,zS b2 p.length p.length,zS b0 a9.length b1]) aMV rfl (by kernel_rfl)) (fK (i:=9) (by kernel_rfl) rfl (fZ (v:=Value.agg #[zS a1 g.length c2,zS b2 p.length p.length,zS b0 a9.length b1]) (vs:=[zS a1 g.length c2,zS b2 p.length p.length,zS b0 a9.length b1]) e9 rfl rfl (fun h7 r8 f0=>(aY (aC ⟨fun _=>⟨_,f0⟩,?_⟩)))))
   exact iY (i:=10) rfl (by kernel_rfl) ⟨_,f0⟩ (fun _ _=>cY (v:=zP (some ⟨h7,0,none⟩)) rfl) (sX (by kernel_rfl) (aC ⟨bG,p,a9,h7,b2,p.length,(List.replicate (g.length:Int).toNat ((none,0):Dp.Hd (List Int))),b0,b1,hm,rfl,(aIC (hd:=((none,0):Dp.Hd (List Int))) h6).2.1,(aF.arr 5 [4,1,2,0] f0 rfl)⟩))
theorem aFx {d:(List Bool)} {R:(List Int)} (hm:aFQ d=some R) (o:aF G K (L) w) (x:bI K a1 c2 d):
  Calls prog 185 ([zS a1 d.length c2]:List Value).toArray w (dL fun v w'=>∃ k l,v=zS k R.length l/\aF G K (own 2 K k l R::L) w'):=by
 refine aBM func185 ?_;unfold aFQ at hm
 refine aAW ?_;refine aS [] (fun f w=>∃ e m n,aLK e=some R/\f 3=zS m e.length n/\aF G K (own 2 K m n e::L) w) aN ?_
 have y:=aF.nil (α:=Int) o 2 K
 obtain ⟨z,p,ho⟩:=aB hm
 refine bN [6,7] p (fun g h f w=>∃ i j,f 3=zS i g.length j/\f 8=i64 h/\aF G K (own 2 K i j g::L) w) aN ?_
 ·rintro g h q f J hm hr ⟨i,j,Z,a0,a2⟩
  unfold vP at hm
  refine aAW ?_
  rcases aM hm with ⟨r,hm⟩|⟨r,hm⟩
  ·refine aAW ?_;refine aS [6,7,8] (fun f w=>∃ a b c,aBW h a=some q/\f 3=zS b a.length c/\aF G K (own 2 K b c a::L) w) ?_ ?_
   ·rintro f a3 ⟨a,b,c,hm,t,u⟩
    unfold aBW at hm
    refine aAW ?_;exact ⟨_,(zI hm).symm,bG,b,c,t,rfl,u⟩
   exact aN
  ·exact aN
theorem aEp {x_:fS} {c:Nat} {k R:Int} (hm:xR x_ k=some R) (q:aF G K (L) w) (r:dR K a1 c [zS a4 x_.g.length c5,zS a7 x_.back.length c8,zS a10 x_.in_.length c11]) (h:bI K a4 c5 x_.g) (t:bI K a7 c8 x_.back) (u:bI K a10 c11 x_.in_):
  Calls prog 186 ([cE a1 c,i64 k]:List Value).toArray w (dL fun v w'=>v=i64 R/\aF G K (L) w'):=by
 refine aBM func186 ?_;unfold xR at hm
 refine aAW ?_;obtain ⟨x,i,hm⟩:=aB hm
 refine aAW ?_;obtain ⟨y,z,j⟩:=bI.el (sz:=3) rfl h i
 obtain ⟨J,Z,rfl,a0⟩:=j
 refine aAW ?_;refine aS [] (fun f w=>∃ d,aFR d=some R/\f 5=i64 d/\aF G K (L) w) aN ?_
 obtain ⟨a2,l,ho⟩:=aB hm
 refine bN [0,15,16] l (fun e a f w=>f 5=i64 e/\f 17=i64 a/\aF G K (L) w) aN ?_
 ·rintro e a m f a3 hm hr ⟨a5,a6,a8⟩
  unfold jZ at hm
  refine aAW ?_
  rcases aM hm with ⟨n,hm⟩|⟨n,hm⟩
  ·refine aAW ?_;refine aS [0,15,16,17] (fun f w=>∃ b,sE a b=some m/\f 5=i64 b/\aF G K (L) w) ?_ ?_
   ·rintro f a9 ⟨b,hm,o,p⟩
    unfold sE at hm
    refine aAW ?_;exact ⟨_,(zI hm).symm,bG,o,rfl,p⟩
   exact aN
  ·exact aN
theorem lA {a R:(List Bool)} (hm:fE a=some R) (t:aF G K (L) w) (b:bI K a1 c2 a):
  Calls prog 184 ([zS a1 a.length c2]:List Value).toArray w (dL fun v w'=>∃ c d,v=zS c R.length d/\aF G K (own 4 K c d R::L) w'):=by
 refine aBM func184 ?_;unfold fE at hm
 iterate 9 refine aBh ?_
 refine aD (aIF cQ rfl rfl) (aAW ?_)
 rcases aFD b with ⟨h,j,k⟩|l
 ·subst h;subst j;subst k
  refine aHt rfl ?_
  replace hm:(some [])=some R:=hm
  exact aN
 ·refine aHu (Eq.trans rfl (congrArg zB l)) (aAW ?_);refine aCp ([]:List Bool) fun u x m=>?_
  refine aAW ?_;obtain ⟨n,o,hm⟩:=aB hm
  refine aFg (i:=0) cQ underlying64 aEy rfl rfl m rfl (zR _) b o rfl rfl rfl rfl (fun e g p (q:aF G K (own 4 K e g n::L) p)=>(aAW ?_));obtain rfl:=zI hm
  exact aOM results184 ⟨e,g,rfl,q⟩
theorem nA {x_:fS} {p:Nat} {J:Int} {q R:(List Bool)} (hm:lK x_ J q=some R) (hs:aF G K (L) w) (r:dR K a1 p [zS a4 x_.g.length c5,zS a7 x_.back.length c8,zS a10 x_.in_.length c11]) (h6:bI K a4 c5 x_.g) (h9:bI K a7 c8 x_.back) (g8:bI K a10 c11 x_.in_) (d6:bI K a13 c14 q):
  Calls prog 128 ([cE a1 p,i64 J,zS a13 q.length c14]:List Value).toArray w (dL fun v w'=>∃ d7 d8,v=zS d7 R.length d8/\aF G K (own 4 K d7 d8 R::L) w'):=by
 refine aP func128 rfl (by kernel_rfl) (by show (3:Nat)<=94;decide) ?_;unfold lK at hm
 refine aL (aH (v:=zS none 0 0) (aI (aL (aG (v:=zS a13 q.length c14) ?_))));obtain ⟨d9,g9,hm⟩:=aB hm
 refine aQ (vs:=[zS a13 q.length c14]) call184 rfl (lA g9 hs d6) ?_
 rintro _ m0 ⟨b,c,rfl,h0⟩
 refine aH (v:=zS b d9.length c) (aI (aL (aQq Int Int h0 ?_)))
 intro d h1 (h2:aF G K (mpo d ([]:(List (Int × Int)))::own 4 K b c d9::L) h1)
 refine aH (v:=Value.map (some d)) (aI (aL (aG (v:=zS a13 q.length c14) ?_)));obtain ⟨h4,h5,hm⟩:=aB hm
 refine aQ (vs:=[zS a13 q.length c14]) call185 rfl (aFx h5 h2 d6) ?_
 rintro _ m1 ⟨h7,h8,rfl,m2⟩
 refine aH (v:=zS h7 h4.length h8) (aI (aK (aS [] (fun f w=>∃ c0,yW c0=some R/\f 7=zS b c0.length c/\aF G K (own 4 K b c c0::L) w) aN ?_)));obtain ⟨m3,i0,ho⟩:=aB hm
 refine lR [0,1,8] i0 (fun Z c1 a0 f w=>∃ a2 a3,f 7=zS b Z.length c/\f 9=zS a2 a0.length a3/\aF G K (own 2 K a2 a3 a0::mpo d c1::own 4 K b c Z::L) w) aN ?_
 ·rintro Z c1 a0 e0 f i1 hm hr ⟨a2,a3,m4,c2,a5⟩
  unfold iL at hm
  refine aK (aL (bA c2 (aD (bC (len:=a0.length) bF rfl) (aD (zU rfl rfl) (aI ?_)))))
  rcases aM hm with ⟨e1,hm⟩|⟨e1,hm⟩
  ·refine aR e1 rfl (aW (aC (aS [0,1,8] (fun f w=>∃ a6 c3 a8 a9 b0,yX a6 c3 a8=some e0/\f 7=zS b a6.length c/\f 9=zS a9 a8.length b0/\aF G K (own 2 K a9 b0 a8::mpo d c3::own 4 K b c a6::L) w) ?_ ?_)))
   ·rintro f m5 ⟨a6,c3,a8,a9,b0,hm,i2,i3,i4⟩
    unfold yX at hm
    exact aC ⟨_,(zI hm).symm,bG,a9,b0,i2,i3,i4⟩
   refine aL (bA c2 ?_);obtain ⟨e2,c4,hm⟩:=aB hm
   have i5:=bM a5 (i:=0) rfl c4
   refine aD (cB bF rfl i5 rfl rfl rfl c4) (aD (lH (t:=0) dJ a5 (i:=0) rfl c4 rfl rfl rfl) (aH (v:=i64 e2) (aI (aL (bA c2 ?_)))));obtain ⟨e3,e4,hm⟩:=aB hm
   have i6:=qA a5 (i:=0) rfl
   obtain ⟨e5,e6,e7⟩:=Cut.ex 1 a2 a3 1
   refine aD (aHE bF i6 e7 rfl rfl rfl e4) ?_
   have e8:aF G K (own 2 K e5 e6 e3::mpo d c1::own 4 K b c Z::L) i1:=aF.cutP a5 (i:=0) rfl e4 e7
   refine aH (v:=zS e5 e3.length e6) (aI (aL (aG (v:=cE a1 p) (aD (fI rfl r) (aD (cV (k':=p+1) aHJ rfl r rfl) (aD (bE (t:=1) aKl e8 r rfl rfl) (aG (v:=i64 e2) ?_)))))));obtain ⟨i7,e9,hm⟩:=aB hm
   refine aD (cU qD rfl h9 rfl rfl rfl e9) ?_;obtain ⟨m6,i8,i9⟩:=bI.el (sz:=1) rfl h9 e9
   obtain ⟨m7,m8,rfl,f0⟩:=i9
   refine aD (bE (t:=0) oZ e8 i8 rfl rfl) (aD (bC (len:=i7.length) bF rfl) (aG (v:=i64 0) (aI (aS [0,1,8] (fun f w=>∃ c6 f1 c7 f2 f3,aDW c6 f1 c7=some e0/\f 7=zS b c6.length c/\f 9=zS f2 c7.length f3/\aF G K (own 2 K f2 f3 c7::mpo d f1::own 4 K b c c6::L) w) aN ?_))));obtain ⟨m9,j0,ho⟩:=aB hm
   refine aFB [0,1,8,34,35] j0 (fun j l e u f w=>∃ m o,f 7=zS b j.length c/\f 9=zS m e.length o/\f 36=i64 u/\aF G K (own 2 K m o e::mpo d l::own 4 K b c j::L) w) aN ?_
   ·rintro j l e u b1 f n0 hm hr ⟨m,o,f4,j1,c9,j2⟩
    unfold iK at hm
    refine aL (aD (cH c9 rfl) (aI (aK ?_)))
    rcases aM hm with ⟨f5,hm⟩|⟨f5,hm⟩
    ·refine aR f5 rfl (aW (aC (aK (aS [0,1,8,34,35,36] (fun f w=>∃ b2 d0 b3 b4 b5,jS u b2 d0 b3=some b1/\f 7=zS b b2.length c/\f 9=zS b4 b3.length b5/\aF G K (own 2 K b4 b5 b3::mpo d d0::own 4 K b c b2::L) w) ?_ ?_))))
     ·rintro f n1 ⟨b2,d0,b3,b4,b5,hm,j3,j4,j5⟩
      unfold jS at hm
      exact aC (aU (aD (cJ c9 rfl) (aG (v:=i64 (wr (u+1))) (aI ⟨_,(zI hm).symm,bG,b4,b5,j3,j4,rfl,j5⟩))))
     refine aL ?_;obtain ⟨a,f6,hm⟩:=aB hm
     refine aD (cU bF rfl f0 rfl rfl c9 f6) ?_;obtain ⟨n2,j6,j7⟩:=bI.el (sz:=1) rfl f0 f6
     cases j7
     refine aD (bE (t:=0) dJ j2 j6 rfl rfl) (aH (v:=i64 a) (aI (aK (aK (bD [0,1,7,8,9,12,34,35,36] (fun f w=>∃ d1,mA x_ J j l e u a d1=some b1/\f 53=zB d1/\aF G K (own 2 K m o e::mpo d l::own 4 K b c j::L) w) ?_ ?_)))))
     ·rintro f n3 ⟨d1,hm,j8,b6⟩
      unfold mA at hm
      refine aC ?_
      rcases aM hm with ⟨f7,hm⟩|⟨f7,hm⟩
      ·exact aN
      ·refine aX f7 j8 (aW (aC (gQ [0,1,7,8,9,12,34,35,36] (fun f w=>∃ x,lY j e u a x=some b1/\aF G K (own 2 K m o e::mpo d x::own 4 K b c j::L) w) ?_ ?_)))
       ·rintro f n4 ⟨x,hm,f8⟩
        unfold lY at hm
        refine aL (bA f4 (aG (v:=i64 a) ?_));obtain ⟨n5,d2,hm⟩:=aB hm
        have j9:=bM f8 (i:=2) rfl d2
        refine aD (cB cQ rfl j9 rfl rfl rfl d2) ?_;obtain ⟨b7,f9,hm⟩:=aB hm
        refine eC (i:=2) (t:=0) (ns:=[zB true]) (e':=(true:Bool)) sizeOf4 f8 rfl (zR _) rfl rfl rfl d2 f9 rfl rfl (eB rfl) rfl (fun cs h=>by cases h;rfl) (fun k0 (k1:aF G K (own 2 K m o e::mpo d x::own 4 K b c b7::L) k0)=>(aI (aU (bA j1 (aG (v:=i64 a) (bO (Kt:=K) (xs:=([a]:List Int)) (cs:=[i64 a]) (vs:=[(0,i64 a)]) bF jV rfl rfl k1 rfl (by kernel_rfl) rfl rfl rfl ⟨rfl,trivial⟩ (fun k3 k4 (k5:aF G K (own 2 K k3 1 ([a]:List Int)::own 2 K m o e::mpo d x::own 4 K b c b7::L) k4)=>?_)))))))
        obtain ⟨d3,k6,hm⟩:=aB hm
        exact iR (i:=0) bF underlying88 jV rfl rfl k5 rfl (zR _) (zR _) k6 rfl rfl rfl rfl (fun _ h=>h) (fun d4 d5 k7 (k8:aF G K (own 2 K d4 d5 d3::mpo d x::own 4 K b c b7::L) k7)=>(aH (v:=zS d4 d3.length d5) (aY (bW (aC ⟨bG,b7,x,d3,d4,d5,hm,(Eq.trans f4 (congrArg (fun n=>zS b n c) (dH f9))),rfl,k8⟩)))))
       refine aL (aG (v:=cE a1 p) (aD (fI rfl r) (aD (cV (k':=p+0) tS rfl r rfl) (aD (bE (t:=0) aCB b6 r rfl rfl) (aG (v:=i64 a) ?_)))));obtain ⟨n6,g0,hm⟩:=aB hm
       refine aD (cU eL rfl h6 rfl rfl rfl g0) ?_;obtain ⟨n7,g1,k9⟩:=bI.el (sz:=3) rfl h6 g0
       obtain ⟨n8,n9,rfl,o0⟩:=k9
       refine aD (cV (k':=a.toNat * 3+0) aAo rfl g1 rfl) (aD (bE (t:=0) dJ b6 g1 rfl rfl) (aG (v:=i64 J) (aD (aFA rfl rfl) (aI ?_))))
       rcases aM hm with ⟨g2,hm⟩|⟨g2,hm⟩
       ·refine aR g2 rfl (gQ [0,1,7,8,9,12,34,35,36] (fun f w=>∃ y,lZ j e u a y=some b1/\aF G K (own 2 K m o e::mpo d y::own 4 K b c j::L) w) ?_ ?_)
        ·rintro f o1 ⟨y,hm,g3⟩
         unfold lZ at hm
         refine aL (aG (v:=Value.map (some d)) (aG (v:=i64 a) (aD (aPt (kv:=y) (k:=a) (z:=(0:Int)) runUnderlying219 ko_2 zeroValue3 g3 (i:=1) rfl rfl rfl) (aD (oX rfl rfl) ?_))));obtain ⟨g4,l0,hm⟩:=aB hm
         refine aMN (i:=1) (k:=a) (v:=wr (((mF y a).getD 0) - 1)) runUnderlying219 ko_2 g3 rfl rfl rfl rfl l0 (fun l1 (l2:aF G K (own 2 K m o e::mpo d g4::own 4 K b c j::L) l1)=>(aI (aL (aG (v:=Value.map (some d)) (aG (v:=i64 a) (aD (aPt (kv:=g4) (k:=a) (z:=(0:Int)) runUnderlying219 ko_2 zeroValue3 l2 (i:=1) rfl rfl rfl) (aD (zU rfl rfl) (aI ?_))))))))
         rcases aM hm with ⟨l3,hm⟩|⟨l3,hm⟩
         ·exact aN
         ·exact aN
        refine aL (aG (v:=Value.map (some d)) (aG (v:=i64 a) (aD (R_look (kv:=l) (k:=a) (z:=(0:Int)) runUnderlying219 ko_2 zeroValue3 b6 (i:=1) rfl rfl rfl) (aG (v:=Value.tuple #[i64 ((mF l a).getD 0),zB ((mF l a).isSome)]) (aD (bY rfl rfl) (aD (bY rfl rfl) (aH (v:=i64 ((mF l a).getD 0)) (aH (v:=zB ((mF l a).isSome)) (aI (aL (aG (v:=zB ((mF l a).isSome)) (aD (vC rfl) (aI ?_)))))))))))))
        rcases aM hm with ⟨g5,hm⟩|⟨g5,hm⟩
        ·refine aR g5 rfl (aU (aG (v:=Value.map (some d)) (aG (v:=i64 a) (aG (v:=cE a1 p) (aG (v:=i64 a) ?_)))));obtain ⟨l4,l5,hm⟩:=aB hm
         refine aQ (vs:=[cE a1 p,i64 a]) call186 rfl (aEp l5 b6 r h6 h9 g8) ?_
         rintro _ o2 ⟨rfl,l6⟩
         obtain ⟨g6,l7,hm⟩:=aB hm
         exact aMN (i:=1) (k:=a) (v:=l4) runUnderlying219 ko_2 l6 rfl rfl rfl rfl l7 (fun l8 (l9:aF G K (own 2 K m o e::mpo d g6::own 4 K b c j::L) l8)=>(aI ⟨bG,g6,hm,l9⟩))
        ·exact aN
       ·exact aN
     exact aN
    ·exact aN
  ·exact aN
theorem nB {x_:fS} {u:Nat} {l R:(List Bool)} (hm:lL x_ l=some R) (hs:aF G K (L) w) (h3:dR K a1 u [zS a4 x_.g.length c5,zS a7 x_.back.length c8,zS a10 x_.in_.length c11]) (h6:bI K a4 c5 x_.g) (h9:bI K a7 c8 x_.back) (b0:bI K a10 c11 x_.in_) (b1:bI K a13 c14 l):
  Calls prog 129 ([cE a1 u,zS a13 l.length c14]:List Value).toArray w (dL fun v w'=>∃ x y z,v=zP (some ⟨z,0,none⟩)/\aF G K (own 4 K x y R::box z 217 [zS a4 x_.g.length c5,zS a7 x_.back.length c8,zS x R.length y]::L) w'):=by
 refine aBM func129 ?_;unfold lL at hm
 refine aAW ?_;refine aGG [(0,0),(1,0),(2,0),(3,0),(4,0),(5,0),(6,0),(7,0),(8,0),(9,0),(10,0),(11,0),(12,1),(13,0),(14,1),(15,0)] fun d8 b2=>?_
 refine aAW ?_;refine fR rfl ?_
 obtain ⟨J,b3,hm⟩:=aB hm
 refine aAZ call184 (lA b3 b2 b0) ?_
 rintro _ d9 ⟨a,b,rfl,b4⟩
 refine aY (aC ⟨⟨_,b4⟩,?_⟩)
 refine aZ rfl (fun _ _=>cO (vs:=[(0,zS a4 x_.g.length c5),(1,zS a7 x_.back.length c8),(2,zS a J.length b)]) (cs:=[zS a4 x_.g.length c5,zS a7 x_.back.length c8,zS a J.length b]) aMV rfl (by kernel_rfl)) (fR rfl (aGg fun c e0 b5=>?_));refine aY (aC ⟨⟨_,b5⟩,?_⟩)
 refine aAW ?_;refine lV (aAW ?_)
 refine aS [5] (fun f w=>∃ m,aDX m=some R/\aF G K (box c 217 [zS a4 x_.g.length c5,zS a7 x_.back.length c8,zS a m.length b]::own 4 K a b m::L) w) aN ?_;obtain ⟨e1,b6,ho⟩:=aB hm
 refine bN [5,23,24] b6 (fun e n f w=>f 25=i64 n/\aF G K (box c 217 [zS a4 x_.g.length c5,zS a7 x_.back.length c8,zS a e.length b]::own 4 K a b e::L) w) aN ?_
 ·rintro e n b7 f e2 hm hr ⟨e3,b8⟩
  unfold jT at hm
  refine aAW ?_
  rcases aM hm with ⟨b9,hm⟩|⟨b9,hm⟩
  ·refine aAW ?_;refine bZ (aAW ?_)
   obtain ⟨o,c0,hm⟩:=aB hm
   refine aAW ?_;obtain ⟨e4,e5,c1⟩:=bI.el (sz:=1) rfl b1 c0
   cases c1
   refine aAW ?_;refine bD [5,23,24,25] (fun f w=>∃ k,pI n k=some b7/\aF G K (box c 217 [zS a4 x_.g.length c5,zS a7 x_.back.length c8,zS a k.length b]::own 4 K a b k::L) w) ?_ ?_
   ·rintro f e6 ⟨k,hm,c2⟩
    unfold pI at hm
    refine aAW ?_;exact ⟨_,(zI hm).symm,bG,rfl,c2⟩
   obtain ⟨e7,c3,e8,c4,Z⟩:=aF.lendBp b8 .head
   obtain ⟨e9,f0,a0,f1,a2⟩:=aF.lendSp c4 c3 .head
   refine aGG [(0,0),(1,0),(2,0),(3,0),(4,0),(5,0),(6,0),(7,0),(8,0),(9,0),(10,0),(11,0),(12,0),(13,0),(14,0),(15,0),(16,0),(17,2)] fun f2 a3=>?_;refine aAW ?_
   obtain ⟨f3,d,hm⟩:=aB hm
   have p:=wF a0 d
   refine aZ rfl (fun _ _=>cB cQ rfl p rfl rfl rfl d) ?_;obtain ⟨f4,f5,c6⟩:=bI.el (sz:=1) rfl a0 d
   cases c6
   refine aAW ?_
   rcases aM hm with ⟨j,hm⟩|⟨j,hm⟩
   ·refine WE_vg rfl rfl rfl j (fun _ _=>aV (v:=zB o) rfl) (WE_vg rfl rfl rfl j (fun _ _=>vC rfl) ?_)
    iterate 1 refine aBh ?_
    refine aZ rfl (fun _ _=>cB cQ rfl p rfl rfl rfl d) ?_
    have c7:=a2 _ _ a3
    have c9:=Z _ _ c7
    refine aHm rfl ?_;obtain ⟨q,a5,hm⟩:=aB hm
    refine eC (i:=1) (t:=0) (ns:=[zB (!o)]) (e':=(!o:Bool)) sizeOf4 c9 rfl (zR _) rfl rfl rfl d a5 rfl rfl (eB rfl) rfl (fun cs h=>by cases h;rfl) (fun a6 (d0:aF G K (box c 217 [zS a4 x_.g.length c5,zS a7 x_.back.length c8,zS a e.length b]::own 4 K a b q::L) a6)=>?_)
    have f6:aF G K (box c 217 [zS a4 x_.g.length c5,zS a7 x_.back.length c8,zS a q.length b]::own 4 K a b q::L) a6:=by rw [←(dH a5)];exact d0
    exact aN
   ·refine aPo rfl rfl rfl (off_f j) (aPo rfl rfl rfl (off_f j) ?_)
    iterate 1 refine aBh ?_
    refine aZ rfl (fun _ _=>cB cQ rfl p rfl rfl rfl d) ?_
    have d1:=a2 _ _ a3
    have d2:=Z _ _ d1
    refine aHm rfl ?_;obtain ⟨r,a8,hm⟩:=aB hm
    refine eC (i:=1) (t:=0) (ns:=[zB false]) (e':=(false:Bool)) sizeOf4 d2 rfl (zR _) rfl rfl rfl d a8 rfl rfl (eB rfl) rfl (fun cs h=>by cases h;rfl) (fun a9 (d3:aF G K (box c 217 [zS a4 x_.g.length c5,zS a7 x_.back.length c8,zS a e.length b]::own 4 K a b r::L) a9)=>?_)
    have f7:aF G K (box c 217 [zS a4 x_.g.length c5,zS a7 x_.back.length c8,zS a r.length b]::own 4 K a b r::L) a9:=by rw [←(dH a8)];exact d3
    exact aN
  ·exact aN
theorem aCI {k:Int} {a:Nat} {p:fS} {b:Nat} {c:Int} {d:Nat} {R:Bool} (hm:aDY k p c=some R) (e:aF G K (L) w) (h:dR K a1 a [cE a4 b]) (i:dR K a4 b [zS a7 p.g.length c8,zS a10 p.back.length c11,zS a13 p.in_.length c14]) (j:bI K a7 c8 p.g) (l:bI K a10 c11 p.back) (m:bI K a13 c14 p.in_) (n:dR K a16 d [i64 c]):
  Calls prog 187 ([i64 k,cE a1 a,cE a16 d]:List Value).toArray w (dL fun v w'=>v=zB R/\aF G K (L) w'):=by
 exact aN
theorem aCJ {x_:fS} {u j:Nat} {c:fS} {x:Nat} {y:Int} {k:Nat} {R:(List Bool)} (hm:vQ x_ c y=some R) (hs:aF G K (L) w) (h3:dR K a1 u [zS a4 x_.g.length c5,zS a7 x_.back.length c8,zS a10 x_.in_.length c11]) (h6:bI K a4 c5 x_.g) (h9:bI K a7 c8 x_.back) (b0:bI K a10 c11 x_.in_) (b1:dR K a13 j [cE a16 x]) (b2:dR K a16 x [zS a19 c.g.length c20,zS a22 c.back.length c23,zS a25 c.in_.length c26]) (b3:bI K a19 c20 c.g) (b4:bI K a22 c23 c.back) (b5:bI K a25 c26 c.in_) (b6:dR K a28 k [i64 y]):
  Calls prog 126 ([cE a1 u,Value.func (.func 187) #[] #[cE a13 j,cE a28 k]]:List Value).toArray w (dL fun v w'=>∃ z J,v=zS z R.length J/\aF G K (own 4 K z J R::L) w'):=by
 refine aBM func126 ?_;unfold vQ at hm
 refine aAW ?_;obtain ⟨a,b7,hm⟩:=aB hm
 refine aBb (e:=(false:Bool)) cQ aEy rfl rfl hs rfl rfl rfl b7 rfl (fun b b8 (d9:aF G K (own 4 K b a.length a::L) b8)=>(aAW ?_));refine aS [] (fun f w=>∃ m,aEQ m=some R/\f 5=zS b m.length a.length/\aF G K (own 4 K b a.length m::L) w) aN ?_
 obtain ⟨e0,b9,ho⟩:=aB hm
 refine bN [1,17,18] b9 (fun o d f w=>f 5=zS b o.length a.length/\f 19=i64 d/\aF G K (own 4 K b a.length o::L) w) aN ?_
 ·rintro o d c0 f e1 hm hr ⟨Z,e2,p⟩
  unfold kS at hm
  refine aAW ?_
  rcases aM hm with ⟨c1,hm⟩|⟨c1,hm⟩
  ·refine aAW ?_;refine bZ (aAW ?_)
   obtain ⟨e3,c2,hm⟩:=aB hm
   refine aAW ?_;obtain ⟨e4,e5,c3⟩:=bI.el (sz:=1) rfl b0 c2
   cases c3
   iterate 5 refine aBh ?_
   refine bD [1,17,18,19] (fun f w=>∃ l,qN d l=some c0/\f 5=zS b l.length a.length/\aF G K (own 4 K b a.length l::L) w) ?_ ?_
   ·rintro f e6 ⟨l,hm,c4,c6⟩
    unfold qN at hm
    refine aAW ?_;exact ⟨_,(zI hm).symm,bG,c4,rfl,c6⟩
   refine aAW ?_
   rcases aM hm with ⟨c7,hm⟩|⟨c7,hm⟩
   ·refine aAW ?_;obtain ⟨a0,c9,hm⟩:=aB hm
    refine nT (vs:=[i64 d]) (caps:=[cE a13 j,cE a28 k]) (us:=[i64 d,cE a13 j,cE a28 k]) rfl call187 rfl rfl (aCI c9 p b1 b2 b3 b4 b5 b6) ?_
    rintro _ e7 ⟨rfl,a2⟩
    refine aAW ?_;obtain ⟨e8,q,hm⟩:=aB hm
    have d0:=bM a2 (i:=0) rfl q
    refine aD (cB cQ rfl d0 rfl rfl rfl q) ?_;obtain ⟨a3,a5,hm⟩:=aB hm
    refine eC (i:=0) (t:=0) (ns:=[zB a0]) (e':=(a0:Bool)) sizeOf4 a2 rfl (zR _) rfl rfl rfl q a5 rfl rfl (eB rfl) rfl (fun cs h=>by cases h;rfl) (fun d1 (d2:aF G K (own 4 K b a.length a3::L) d1)=>(aAW ?_));exact ⟨bG,a3,hm,(Eq.trans Z (congrArg (fun n=>zS b n a.length) (dH a5))),d2⟩
   ·refine aAW ?_;obtain ⟨e9,r,hm⟩:=aB hm
    have d3:=bM p (i:=0) rfl r
    refine aD (cB cQ rfl d3 rfl rfl rfl r) ?_;obtain ⟨a6,a8,hm⟩:=aB hm
    refine eC (i:=0) (t:=0) (ns:=[zB false]) (e':=(false:Bool)) sizeOf4 p rfl (zR _) rfl rfl rfl r a8 rfl rfl (eB rfl) rfl (fun cs h=>by cases h;rfl) (fun d4 (d5:aF G K (own 4 K b a.length a6::L) d4)=>(aAW ?_));exact ⟨bG,a6,hm,(Eq.trans Z (congrArg (fun n=>zS b n a.length) (dH a8))),d5⟩
  ·exact aN
theorem aCK {k:Int} {p:(List Bool)} {a:Nat} {b:Int} {c:Nat} {R:Bool} (hm:aDZ k p b=some R) (d:aF G K (L) w) (e:dR K a1 a [zS a4 p.length c5]) (g:bI K a4 c5 p) (h:dR K a7 c [i64 b]):
  Calls prog 188 ([i64 k,cE a1 a,cE a7 c]:List Value).toArray w (dL fun v w'=>v=zB R/\aF G K (L) w'):=by
 exact aN
theorem aAM {x_:fS} {u:Nat} {l:(List Bool)} {d:Nat} {x:Int} {j:Nat} {R:(List Bool)} (hm:qO x_ l x=some R) (hs:aF G K (L) w) (h3:dR K a1 u [zS a4 x_.g.length c5,zS a7 x_.back.length c8,zS a10 x_.in_.length c11]) (h6:bI K a4 c5 x_.g) (h9:bI K a7 c8 x_.back) (a9:bI K a10 c11 x_.in_) (b0:dR K a13 d [zS a16 l.length c17]) (b1:bI K a16 c17 l) (b2:dR K a19 j [i64 x]):
  Calls prog 126 ([cE a1 u,Value.func (.func 188) #[] #[cE a13 d,cE a19 j]]:List Value).toArray w (dL fun v w'=>∃ y z,v=zS y R.length z/\aF G K (own 4 K y z R::L) w'):=by
 refine aBM func126 ?_;unfold qO at hm
 refine aAW ?_;obtain ⟨a,b3,hm⟩:=aB hm
 refine aBb (e:=(false:Bool)) cQ aEy rfl rfl hs rfl rfl rfl b3 rfl (fun b b4 (d5:aF G K (own 4 K b a.length a::L) b4)=>(aAW ?_));refine aS [] (fun f w=>∃ m,aBX m=some R/\f 5=zS b m.length a.length/\aF G K (own 4 K b a.length m::L) w) aN ?_
 obtain ⟨d6,b5,ho⟩:=aB hm
 refine bN [1,17,18] b5 (fun o c f w=>f 5=zS b o.length a.length/\f 19=i64 c/\aF G K (own 4 K b a.length o::L) w) aN ?_
 ·rintro o c b6 f d7 hm hr ⟨J,d8,p⟩
  unfold iM at hm
  refine aAW ?_
  rcases aM hm with ⟨b7,hm⟩|⟨b7,hm⟩
  ·refine aAW ?_;refine bZ (aAW ?_)
   obtain ⟨d9,b8,hm⟩:=aB hm
   refine aAW ?_;obtain ⟨e0,e1,b9⟩:=bI.el (sz:=1) rfl a9 b8
   cases b9
   iterate 5 refine aBh ?_
   refine bD [1,17,18,19] (fun f w=>∃ k,mT c k=some b6/\f 5=zS b k.length a.length/\aF G K (own 4 K b a.length k::L) w) ?_ ?_
   ·rintro f e2 ⟨k,hm,c0,c1⟩
    unfold mT at hm
    refine aAW ?_;exact ⟨_,(zI hm).symm,bG,c0,rfl,c1⟩
   refine aAW ?_
   rcases aM hm with ⟨c2,hm⟩|⟨c2,hm⟩
   ·refine aAW ?_;obtain ⟨Z,c3,hm⟩:=aB hm
    refine nT (vs:=[i64 c]) (caps:=[cE a13 d,cE a19 j]) (us:=[i64 c,cE a13 d,cE a19 j]) rfl call188 rfl rfl (aCK c3 p b0 b1 b2) ?_
    rintro _ e3 ⟨rfl,a0⟩
    refine aAW ?_;obtain ⟨e4,q,hm⟩:=aB hm
    have c4:=bM a0 (i:=0) rfl q
    refine aD (cB cQ rfl c4 rfl rfl rfl q) ?_;obtain ⟨a2,a3,hm⟩:=aB hm
    refine eC (i:=0) (t:=0) (ns:=[zB Z]) (e':=(Z:Bool)) sizeOf4 a0 rfl (zR _) rfl rfl rfl q a3 rfl rfl (eB rfl) rfl (fun cs h=>by cases h;rfl) (fun c6 (c7:aF G K (own 4 K b a.length a2::L) c6)=>(aAW ?_));exact ⟨bG,a2,hm,(Eq.trans J (congrArg (fun n=>zS b n a.length) (dH a3))),c7⟩
   ·refine aAW ?_;obtain ⟨e5,r,hm⟩:=aB hm
    have c9:=bM p (i:=0) rfl r
    refine aD (cB cQ rfl c9 rfl rfl rfl r) ?_;obtain ⟨a5,a6,hm⟩:=aB hm
    refine eC (i:=0) (t:=0) (ns:=[zB false]) (e':=(false:Bool)) sizeOf4 p rfl (zR _) rfl rfl rfl r a6 rfl rfl (eB rfl) rfl (fun cs h=>by cases h;rfl) (fun d0 (d1:aF G K (own 4 K b a.length a5::L) d0)=>(aAW ?_));exact ⟨bG,a5,hm,(Eq.trans J (congrArg (fun n=>zS b n a.length) (dH a6))),d1⟩
  ·exact aN
theorem aAN {a:(List Bool)} {b:Bool} {R:Int} (hm:gV a b=some R) (e:aF G K (L) w) (g:bI K a1 c2 a):
  Calls prog 217 ([zS a1 a.length c2,zB b]:List Value).toArray w (dL fun v w'=>v=i64 R/\aF G K (L) w'):=by
 refine aBM func217 ?_;unfold gV at hm
 refine aAW ?_;refine aS [] (fun f w=>sF=some R/\aF G K (L) w) aN ?_
 obtain ⟨h,c,ho⟩:=aB hm
 exact eK [0,1,7] c (fun d f w=>f 8=i64 d/\aF G K (L) w) aN aN
theorem oL {a:(List Bool)} {b R:Bool} (hm:iU a b=some R) (c:aF G K (L) w) (d:bI K a1 c2 a):
  Calls prog 189 ([zS a1 a.length c2,zB b]:List Value).toArray w (dL fun v w'=>v=zB R/\aF G K (L) w'):=by
 exact aN
theorem aCL {p a:Int} {b:Nat} {R:Bool} (hm:aEa p a=some R) (c:aF G K (L) w) (d:dR K a1 b [i64 a]):
  Calls prog 190 ([i64 p,cE a1 b]:List Value).toArray w (dL fun v w'=>v=zB R/\aF G K (L) w'):=by
 exact aN
theorem aAO {x_:fS} {q:Nat} {r:Int} {d:Nat} {R:(List Bool)} (hm:qP x_ r=some R) (hs:aF G K (L) w) (h3:dR K a1 q [zS a4 x_.g.length c5,zS a7 x_.back.length c8,zS a10 x_.in_.length c11]) (h6:bI K a4 c5 x_.g) (h9:bI K a7 c8 x_.back) (a6:bI K a10 c11 x_.in_) (a8:dR K a13 d [i64 r]):
  Calls prog 126 ([cE a1 q,Value.func (.func 190) #[] #[cE a13 d]]:List Value).toArray w (dL fun v w'=>∃ u x,v=zS u R.length x/\aF G K (own 4 K u x R::L) w'):=by
 refine aBM func126 ?_;unfold qP at hm
 refine aAW ?_;obtain ⟨a,a9,hm⟩:=aB hm
 refine aBb (e:=(false:Bool)) cQ aEy rfl rfl hs rfl rfl rfl a9 rfl (fun b b0 (d0:aF G K (own 4 K b a.length a::L) b0)=>(aAW ?_));refine aS [] (fun f w=>∃ k,aBY k=some R/\f 5=zS b k.length a.length/\aF G K (own 4 K b a.length k::L) w) aN ?_
 obtain ⟨d1,b1,ho⟩:=aB hm
 refine bN [1,17,18] b1 (fun l c f w=>f 5=zS b l.length a.length/\f 19=i64 c/\aF G K (own 4 K b a.length l::L) w) aN ?_
 ·rintro l c b2 f d2 hm hr ⟨y,d3,m⟩
  unfold iN at hm
  refine aAW ?_
  rcases aM hm with ⟨c48,hm⟩|⟨c48,hm⟩
  ·refine aAW ?_;refine bZ (aAW ?_)
   obtain ⟨d4,b3,hm⟩:=aB hm
   refine aAW ?_;obtain ⟨d5,d6,b4⟩:=bI.el (sz:=1) rfl a6 b3
   cases b4
   iterate 5 refine aBh ?_
   refine bD [1,17,18,19] (fun f w=>∃ j,mU c j=some b2/\f 5=zS b j.length a.length/\aF G K (own 4 K b a.length j::L) w) ?_ ?_
   ·rintro f d7 ⟨j,hm,b5,b6⟩
    unfold mU at hm
    refine aAW ?_;exact ⟨_,(zI hm).symm,bG,b5,rfl,b6⟩
   refine aAW ?_
   rcases aM hm with ⟨b7,hm⟩|⟨b7,hm⟩
   ·refine aAW ?_;obtain ⟨z,b8,hm⟩:=aB hm
    refine nT (vs:=[i64 c]) (caps:=[cE a13 d]) (us:=[i64 c,cE a13 d]) rfl call190 rfl rfl (aCL b8 m a8) ?_
    rintro _ d8 ⟨rfl,J⟩
    refine aAW ?_;obtain ⟨d9,o,hm⟩:=aB hm
    have b9:=bM J (i:=0) rfl o
    refine aD (cB cQ rfl b9 rfl rfl rfl o) ?_;obtain ⟨Z,a0,hm⟩:=aB hm
    refine eC (i:=0) (t:=0) (ns:=[zB z]) (e':=(z:Bool)) sizeOf4 J rfl (zR _) rfl rfl rfl o a0 rfl rfl (eB rfl) rfl (fun cs h=>by cases h;rfl) (fun c0 (c1:aF G K (own 4 K b a.length Z::L) c0)=>(aAW ?_));exact ⟨bG,Z,hm,(Eq.trans y (congrArg (fun n=>zS b n a.length) (dH a0))),c1⟩
   ·refine aAW ?_;obtain ⟨e0,p,hm⟩:=aB hm
    have c2:=bM m (i:=0) rfl p
    refine aD (cB cQ rfl c2 rfl rfl rfl p) ?_;obtain ⟨a2,a3,hm⟩:=aB hm
    refine eC (i:=0) (t:=0) (ns:=[zB false]) (e':=(false:Bool)) sizeOf4 m rfl (zR _) rfl rfl rfl p a3 rfl rfl (eB rfl) rfl (fun cs h=>by cases h;rfl) (fun c3 (c4:aF G K (own 4 K b a.length a2::L) c3)=>(aAW ?_));exact ⟨bG,a2,hm,(Eq.trans y (congrArg (fun n=>zS b n a.length) (dH a3))),c4⟩
  ·exact aN
theorem aCM {k:Int} {p:(List Bool)} {h:Nat} {i:Int} {j:Nat} {d:(List Bool)} {l:Nat} {R:Bool} (hm:vR k p i d=some R) (b:aF G K (L) w) (J:dR K a1 h [zS a4 p.length c5]) (n:bI K a4 c5 p) (Z:dR K a7 j [i64 i]) (o:dR K a10 l [zS a13 d.length c14]) (q:bI K a13 c14 d):
  Calls prog 191 ([i64 k,cE a1 h,cE a7 j,cE a10 l]:List Value).toArray w (dL fun v w'=>v=zB R/\aF G K (L) w'):=by
 refine aBM func191 ?_;unfold vR at hm
 iterate 6 refine aBh ?_
 refine bD [] (fun f w=>∃ m,qQ m=some R/\f 5=zB m/\aF G K (L) w) aN (aAW ?_);obtain ⟨a0,r,hm⟩:=aB hm
 refine aAW ?_;obtain ⟨a2,a3,u⟩:=bI.el (sz:=1) rfl n r
 cases u
 refine aAW ?_
 rcases aM hm with ⟨a,hm⟩|⟨a,hm⟩
 ·refine aAW ?_
  rcases aM hm with ⟨e,hm⟩|⟨e,hm⟩
  ·exact aN
  ·refine aAW ?_;exact bK (pY a) rfl rfl (bK (pY a) rfl rfl (bK (pY a) rfl rfl (bK (pY a) rfl rfl (cR e rfl rfl (aD (eJ (v:=zB false) (pY a) rfl rfl) (aD (eJ (v:=zB false) e rfl rfl) (aH (v:=zB false) (aI ⟨bG,false,hm,rfl,b⟩))))))))
 ·refine aAW ?_;refine bP (lC a) rfl rfl (aD (bE (t:=0) aDG b o rfl rfl) (bP (lC a) rfl rfl (aG (v:=i64 k) (bP (lC a) rfl rfl ?_))))
  obtain ⟨c,x,hm⟩:=aB hm
  refine aAW ?_;obtain ⟨a5,y,z⟩:=bI.el (sz:=1) rfl q x
  cases z
  exact bP (lC a) rfl rfl (aD (bE (t:=0) wX b y rfl rfl) (cR (by decide:¬ false=true) rfl rfl (aD (fN (v:=zB c) (lC a) rfl rfl) (aD (eJ (v:=zB c) (by decide:¬ false=true) rfl rfl) (aH (v:=zB c) (aI ⟨bG,c,hm,rfl,b⟩))))))
theorem aAP {x_:fS} {y:Nat} {m:(List Bool)} {d:Nat} {z:Int} {j:Nat} {o:(List Bool)} {k:Nat} {R:(List Bool)} (hm:qR x_ m z o=some R) (hs:aF G K (L) w) (h3:dR K a1 y [zS a4 x_.g.length c5,zS a7 x_.back.length c8,zS a10 x_.in_.length c11]) (h6:bI K a4 c5 x_.g) (h9:bI K a7 c8 x_.back) (b1:bI K a10 c11 x_.in_) (b2:dR K a13 d [zS a16 m.length c17]) (b3:bI K a16 c17 m) (b4:dR K a19 j [i64 z]) (b5:dR K a22 k [zS a25 o.length c26]) (b6:bI K a25 c26 o):
  Calls prog 126 ([cE a1 y,Value.func (.func 191) #[] #[cE a13 d,cE a19 j,cE a22 k]]:List Value).toArray w (dL fun v w'=>∃ J Z,v=zS J R.length Z/\aF G K (own 4 K J Z R::L) w'):=by
 refine aBM func126 ?_;unfold qR at hm
 refine aAW ?_;obtain ⟨a,b7,hm⟩:=aB hm
 refine aBb (e:=(false:Bool)) cQ aEy rfl rfl hs rfl rfl rfl b7 rfl (fun b b8 (d9:aF G K (own 4 K b a.length a::L) b8)=>(aAW ?_));refine aS [] (fun f w=>∃ p,aBZ p=some R/\f 5=zS b p.length a.length/\aF G K (own 4 K b a.length p::L) w) aN ?_
 obtain ⟨e0,b9,ho⟩:=aB hm
 refine bN [1,17,18] b9 (fun q c f w=>f 5=zS b q.length a.length/\f 19=i64 c/\aF G K (own 4 K b a.length q::L) w) aN ?_
 ·rintro q c c0 f e1 hm hr ⟨a0,e2,r⟩
  unfold iO at hm
  refine aAW ?_
  rcases aM hm with ⟨c1,hm⟩|⟨c1,hm⟩
  ·refine aAW ?_;refine bZ (aAW ?_)
   obtain ⟨e3,c2,hm⟩:=aB hm
   refine aAW ?_;obtain ⟨e4,e5,c3⟩:=bI.el (sz:=1) rfl b1 c2
   cases c3
   iterate 5 refine aBh ?_
   refine bD [1,17,18,19] (fun f w=>∃ l,mV c l=some c0/\f 5=zS b l.length a.length/\aF G K (own 4 K b a.length l::L) w) ?_ ?_
   ·rintro f e6 ⟨l,hm,c4,c6⟩
    unfold mV at hm
    refine aAW ?_;exact ⟨_,(zI hm).symm,bG,c4,rfl,c6⟩
   refine aAW ?_
   rcases aM hm with ⟨c7,hm⟩|⟨c7,hm⟩
   ·refine aAW ?_;obtain ⟨a2,c9,hm⟩:=aB hm
    refine nT (vs:=[i64 c]) (caps:=[cE a13 d,cE a19 j,cE a22 k]) (us:=[i64 c,cE a13 d,cE a19 j,cE a22 k]) rfl call191 rfl rfl (aCM c9 r b2 b3 b4 b5 b6) ?_
    rintro _ e7 ⟨rfl,a3⟩
    refine aAW ?_;obtain ⟨e8,u,hm⟩:=aB hm
    have d0:=bM a3 (i:=0) rfl u
    refine aD (cB cQ rfl d0 rfl rfl rfl u) ?_;obtain ⟨a5,a6,hm⟩:=aB hm
    refine eC (i:=0) (t:=0) (ns:=[zB a2]) (e':=(a2:Bool)) sizeOf4 a3 rfl (zR _) rfl rfl rfl u a6 rfl rfl (eB rfl) rfl (fun cs h=>by cases h;rfl) (fun d1 (d2:aF G K (own 4 K b a.length a5::L) d1)=>(aAW ?_));exact ⟨bG,a5,hm,(Eq.trans a0 (congrArg (fun n=>zS b n a.length) (dH a6))),d2⟩
   ·refine aAW ?_;obtain ⟨e9,x,hm⟩:=aB hm
    have d3:=bM r (i:=0) rfl x
    refine aD (cB cQ rfl d3 rfl rfl rfl x) ?_;obtain ⟨a8,a9,hm⟩:=aB hm
    refine eC (i:=0) (t:=0) (ns:=[zB false]) (e':=(false:Bool)) sizeOf4 r rfl (zR _) rfl rfl rfl x a9 rfl rfl (eB rfl) rfl (fun cs h=>by cases h;rfl) (fun d4 (d5:aF G K (own 4 K b a.length a8::L) d4)=>(aAW ?_));exact ⟨bG,a8,hm,(Eq.trans a0 (congrArg (fun n=>zS b n a.length) (dH a9))),d5⟩
  ·exact aN
theorem aEq {rec_:fS->Option (List Bool)} (ih:∀ {G:rT} {K:Hp} {L:List fM} {w:World} {x_:fS} {a1:Option Addr} {h:Nat} {a4:Option Addr} {c5:Nat} {a7:Option Addr} {c8:Nat} {a10:Option Addr} {c11:Nat} {R:(List Bool)} (hm:rec_ x_=some R) (hs:aF G K (L) w) (j:dR K a1 h [zS a4 x_.g.length c5,zS a7 x_.back.length c8,zS a10 x_.in_.length c11]) (b:bI K a4 c5 x_.g) (k:bI K a7 c8 x_.back) (m:bI K a10 c11 x_.in_),
  Calls prog 130 ([cE a1 h]:List Value).toArray w (dL fun v w'=>∃ a0 a2,v=zS a0 R.length a2/\aF G K (own 4 K a0 a2 R::L) w'))
  {G:rT} {K:Hp} {L:List fM} {w:World} {x_:fS} {a1:Option Addr} {h:Nat} {a4:Option Addr} {c5:Nat} {a7:Option Addr} {c8:Nat} {a10:Option Addr} {c11:Nat} {R:(List Bool)} (hm:xS rec_ x_=some R) (hs:aF G K (L) w) (j:dR K a1 h [zS a4 x_.g.length c5,zS a7 x_.back.length c8,zS a10 x_.in_.length c11]) (b:bI K a4 c5 x_.g) (k:bI K a7 c8 x_.back) (m:bI K a10 c11 x_.in_):
  Calls prog 130 ([cE a1 h]:List Value).toArray w (dL fun v w'=>∃ a0 a2,v=zS a0 R.length a2/\aF G K (own 4 K a0 a2 R::L) w'):=by
 refine aBM func130 ?_;unfold xS at hm
 refine aAW ?_;refine aGg fun p u9 g2=>?_
 refine aAW ?_;obtain ⟨b6,g3,hm⟩:=aB hm
 refine aAZ call185 (aFx g3 g2 m) ?_
 rintro _ v0 ⟨b7,b8,rfl,d2⟩
 refine aAW ?_
 rcases aM hm with ⟨g4,hm⟩|⟨g4,hm⟩
 ·refine aAW ?_;obtain ⟨b9,g5,hm⟩:=aB hm
  refine aBb (e:=(false:Bool)) cQ aEy rfl rfl d2 rfl rfl rfl g5 rfl (fun d3 g6 (v1:aF G K (own 4 K d3 b9.length b9::own 2 K b7 b8 b6::box p 161 [cE a1 h]::L) g6)=>(aAW ?_));obtain rfl:=zI hm
  exact nD (kJ (oW results130 rfl ⟨d3,b9.length,rfl,aCN⟩))
 ·refine aAW ?_;obtain ⟨v2,v3,d4,g8,g9⟩:=aF.lendSp d2 (zR _) .head
  obtain ⟨v4,d5,v5,v6,h0⟩:=aF.lendBp g8 .head
  refine aGG [(0,0),(1,0),(2,0),(3,0),(4,0),(5,0),(6,0),(7,0),(8,0),(9,0),(10,1),(11,2)] fun v7 v8=>?_;refine aAW ?_
  obtain ⟨v9,c0,hm⟩:=aB hm
  have d6:=wF (d4.mono d5) c0
  refine aZ rfl (fun _ _=>cB bF rfl d6 rfl rfl rfl c0) ?_;obtain ⟨w0,w1,h1⟩:=bI.el (sz:=1) rfl (d4.mono d5) c0
  cases h1
  refine aAW ?_;obtain ⟨w2,h2,hm⟩:=aB hm
  refine aAW ?_;obtain ⟨w3,w4,h4⟩:=bI.el (sz:=3) rfl b h2
  obtain ⟨w5,w6,rfl,w7⟩:=h4
  refine aAW ?_;refine fR rfl (aEx fun y w8 d7=>?_)
  refine aY (aC ⟨⟨_,d7⟩,?_⟩)
  have h5:=h0 _ _ d7
  have w9:=g9 _ _ h5
  refine aHm rfl (aFy fun x0 h7=>?_);refine aAW ?_
  refine lV (aAW ?_);refine aS [1,4] (fun f w=>∃ a3,vS rec_ x_ a3=some R/\aF G K (box p 161 [cE a1 h]::box y 2 [i64 a3]::L) w) ?_ ?_
  ·rintro f x1 ⟨a3,hm,x2⟩
   unfold vS at hm
   refine aAW ?_;obtain ⟨d8,h8,hm⟩:=aB hm
   refine aD (aME rfl rfl h8) (aEx fun a5 x3 x4=>?_);refine aFy fun x5 i0=>?_
   refine aAW ?_;obtain ⟨x6,d,i1,i2,i3⟩:=aF.lendBp i0 .head
   obtain ⟨x7,c,d9,x8,i4⟩:=aF.lendBp i2 .head
   refine aGG [(0,0),(1,0),(2,0),(3,0),(4,1),(5,1),(6,0)] fun x9 a6=>?_;refine aAW ?_
   refine aZ rfl (fun _ ⟨_,a6⟩=>bE (t:=0) dJ a6 (i1.mono c) rfl rfl) (aZ rfl (fun _ ⟨_,a6⟩=>bE (t:=0) wY a6 d9 rfl rfl) (aZ rfl (fun _ _=>oY (vs:=[zP (some ⟨p,0,none⟩),zP (some ⟨y,0,none⟩)]) rfl) (fR rfl ?_)));obtain ⟨y0,n,i5,i6,i7⟩:=aF.lendBp a6 .head
   obtain ⟨e0,i8,hm⟩:=aB hm
   refine aAZ call126 (aCJ i8 i6 (j.mono (zL (zL d c) n)) (b.mono (zL (zL d c) n)) (k.mono (zL (zL d c) n)) (m.mono (zL (zL d c) n)) (d9.mono n) (j.mono (zL (zL d c) n)) (b.mono (zL (zL d c) n)) (k.mono (zL (zL d c) n)) (m.mono (zL (zL d c) n)) i5) ?_
   rintro _ y1 ⟨e1,e2,rfl,i9⟩
   have e3:=i7 _ _ i9
   refine aY (aC ⟨⟨_,e3⟩,?_⟩)
   refine fR rfl ?_;obtain ⟨y2,b0,j0,j1,j2⟩:=aF.lendSp e3 (zL d c) zt1
   obtain ⟨y3,j3,hm⟩:=aB hm
   refine aAZ call128 (nA j3 j1 (j.mono (zL (zL d c) b0)) (b.mono (zL (zL d c) b0)) (k.mono (zL (zL d c) b0)) (m.mono (zL (zL d c) b0)) j0) ?_
   rintro _ j4 ⟨y4,y5,rfl,j5⟩
   have e4:=j2 _ _ j5
   refine aY (aC ⟨⟨_,e4⟩,?_⟩)
   refine aAW ?_;refine lV ?_
   have j6:=i4 _ _ e4
   have j7:=i3 _ _ j6
   refine aAW ?_;obtain ⟨j8,a,j9,c1⟩:=aF.giveSp j7 (zR _) zt3
   replace c1:aF G j8 (box a5 2 [i64 d8]::box p 161 [cE a1 h]::own 4 K e1 e2 e0::box y 2 [i64 a3]::L) j4:=c1
   obtain ⟨b1,k0,hm⟩:=aB hm
   refine aAZ call129 (nB k0 c1 (j.mono a) (b.mono a) (k.mono a) (m.mono a) j9) ?_
   rintro _ y6 ⟨e5,e6,k1,rfl,k3⟩
   refine aAW ?_;obtain ⟨y7,e7,k4,k5,k6⟩:=aF.lendSp k3 a .head
   obtain ⟨y8,c2,k7,k8,k9⟩:=aF.lendBp k5 .head
   obtain ⟨e8,l0,hm⟩:=aB hm
   refine aAZ call130 (ih (x_:=⟨x_.g,x_.back,b1⟩) l0 k8 k7 (b.mono (zL (zL a e7) c2)) (k.mono (zL (zL a e7) c2)) (k4.mono c2)) ?_
   rintro _ y9 ⟨e9,f0,rfl,l1⟩
   have l2:=k9 _ _ l1
   have z0:=k6 _ _ l2
   refine aEx fun c3 z1 z2=>?_;refine aFy fun z3 l3=>?_
   iterate 5 refine aBh ?_
   refine aD (oY (vs:=[zP (some ⟨c3,0,none⟩),zP (some ⟨a5,0,none⟩)]) rfl) ?_;obtain ⟨z4,c4,l4,l5,l6⟩:=aF.lendSp l3 a zt1
   obtain ⟨z5,b2,l7,l8,l9⟩:=aF.lendBp l5 zt1
   obtain ⟨z6,b3,m0,m1,m2⟩:=aF.lendSp l8 (zL (zL a c4) b2) zt1
   obtain ⟨z7,a8,m3,m4,m5⟩:=aF.lendBp m1 .head
   obtain ⟨z8,z,m6,m7,m8⟩:=aF.lendBp m4 .head
   obtain ⟨m9,n0,hm⟩:=aB hm
   refine aAZ call126 (aAM (x_:=⟨x_.g,x_.back,b1⟩) n0 m7 (l7.mono (zL (zL b3 a8) z)) (b.mono (zL (zL (zL (zL (zL a c4) b2) b3) a8) z)) (k.mono (zL (zL (zL (zL (zL a c4) b2) b3) a8) z)) (l4.mono (zL (zL (zL b2 b3) a8) z)) (m3.mono z) (m0.mono (zL a8 z)) m6) ?_
   rintro _ z9 ⟨n1,n2,rfl,n3⟩
   have n4:=m8 _ _ n3
   have n5:=m5 _ _ n4
   have n6:=m2 _ _ n5
   have n7:=l9 _ _ n6
   have n8:=l6 _ _ n7
   refine aAW ?_;obtain ⟨a00,a01,n9,o0,o1⟩:=aF.lendSp n8 a zt5
   obtain ⟨a02,o2,hm⟩:=aB hm
   refine aAZ call189 (oL o2 o0 n9) ?_
   rintro _ a03 ⟨rfl,o3⟩
   have f1:=o1 _ _ o3
   refine aAW ?_
   rcases aM hm with ⟨o4,hm⟩|⟨o4,hm⟩
   ·iterate 4 refine aBh ?_
    refine aD (oY (vs:=[zP (some ⟨a5,0,none⟩)]) rfl) ?_;obtain ⟨a04,b4,o5,o6,o7⟩:=aF.lendBp f1 zt5
    obtain ⟨a05,o8,hm⟩:=aB hm
    refine aAZ call126 (aAO o8 o6 (j.mono (zL a b4)) (b.mono (zL a b4)) (k.mono (zL a b4)) (m.mono (zL a b4)) o5) ?_
    rintro _ a06 ⟨o9,p0,rfl,p1⟩
    have a07:=o7 _ _ p1
    refine aAW ?_;obtain rfl:=zI hm
    exact nD (kJ (oW results130 rfl ⟨o9,p0,rfl,aCN⟩))
   ·refine aAW ?_;obtain ⟨a08,b5,p3,p4,p5⟩:=aF.lendSp f1 a .head
    obtain ⟨p6,p7,hm⟩:=aB hm
    refine aAZ call128 (nA p7 p4 (j.mono (zL a b5)) (b.mono (zL a b5)) (k.mono (zL a b5)) (m.mono (zL a b5)) p3) ?_
    rintro _ a09 ⟨p8,p9,rfl,q0⟩
    have a11:=p5 _ _ q0
    refine aEx fun f2 a12 a13=>?_;refine aFy fun q1 q2=>?_
    refine aAW ?_;obtain ⟨q3,l,f3,c6⟩:=aF.giveSp q2 a zt2
    replace c6:aF G q3 (box f2 64 [zS p8 p6.length p9]::own 4 K n1 n2 m9::own 4 K e5 e6 b1::box k1 217 [zS a4 x_.g.length c5,zS a7 x_.back.length c8,zS e5 b1.length e6]::own 4 K e9 f0 e8::box c3 64 [zS e9 e8.length f0]::box a5 2 [i64 d8]::box p 161 [cE a1 h]::own 4 K e1 e2 e0::box y 2 [i64 a3]::L) q1:=c6
    obtain ⟨q4,q5,hm⟩:=aB hm
    refine aAZ call129 (nB q5 c6 (j.mono (zL a l)) (b.mono (zL a l)) (k.mono (zL a l)) (m.mono (zL a l)) f3) ?_
    rintro _ a14 ⟨a15,a16,a17,rfl,q6⟩
    obtain ⟨a19,f4,q7,q8,q9⟩:=aF.lendSp q6 (zL a l) .head
    obtain ⟨a20,c7,r0,r1,r2⟩:=aF.lendBp q8 .head
    obtain ⟨a21,r3,hm⟩:=aB hm
    refine aAZ call130 (ih (x_:=⟨x_.g,x_.back,q4⟩) r3 r1 r0 (b.mono (zL (zL (zL a l) f4) c7)) (k.mono (zL (zL (zL a l) f4) c7)) (q7.mono c7)) ?_
    rintro _ a22 ⟨a23,a24,rfl,r4⟩
    have r5:=r2 _ _ r4
    have a26:=q9 _ _ r5
    refine aFy fun a27 f5=>?_;refine aAW ?_
    refine aD (eZ wY f5 (i:=10) rfl rfl rfl) (aD (oY (vs:=[zP (some ⟨f2,0,none⟩),zP (some ⟨a5,0,none⟩),zP (some ⟨c3,0,none⟩)]) rfl) ?_);obtain ⟨a28,J,r6,r7,r8⟩:=aF.lendBp f5 zt3
    obtain ⟨a29,q,r9,s0,s1⟩:=aF.lendBp r7 zt8
    obtain ⟨a30,r,s2,s3,s4⟩:=aF.lendSp s0 (zL (zL (zL a l) J) q) zt2
    obtain ⟨a31,o,s5,s6,s7⟩:=aF.lendBp s3 zt6
    obtain ⟨a32,s8,hm⟩:=aB hm
    refine aAZ call126 (aAP s8 s6 (j.mono (zL (zL (zL (zL (zL a l) J) q) r) o)) (b.mono (zL (zL (zL (zL (zL a l) J) q) r) o)) (k.mono (zL (zL (zL (zL (zL a l) J) q) r) o)) (m.mono (zL (zL (zL (zL (zL a l) J) q) r) o)) (r6.mono (zL (zL q r) o)) (f3.mono (zL (zL (zL J q) r) o)) (r9.mono (zL r o)) s5 (s2.mono o)) ?_
    rintro _ a33 ⟨s9,t0,rfl,t1⟩
    have t2:=s7 _ _ t1
    have t3:=s4 _ _ t2
    have t4:=s1 _ _ t3
    have a34:=r8 _ _ t4
    refine aAW ?_;obtain rfl:=zI hm
    exact aOM results130 ⟨s9,t0,rfl,aCN⟩
  obtain ⟨a35,t6,ho⟩:=aB hm
  refine bN [1,4,37,38] t6 (fun u c9 f w=>f 39=i64 c9/\aF G K (own 2 K b7 b8 b6::box p 161 [cE a1 h]::box y 2 [i64 u]::L) w) ?_ ?_
  ·exact ⟨rfl,h7⟩
  ·rintro u c9 a36 f a37 hm hr ⟨f6,f7⟩
   unfold kT at hm
   refine aAW ?_
   rcases aM hm with ⟨f8,hm⟩|⟨f8,hm⟩
   ·refine aAW ?_;refine bZ (aAW ?_)
    obtain ⟨f9,t7,hm⟩:=aB hm
    refine aD (cB bF rfl d6 rfl rfl f6 t7) (aAW ?_);obtain ⟨a38,a9,t8,t9,u0⟩:=aF.lendBp f7 zt1
    obtain ⟨a39,Z,a40,a41,u1⟩:=aF.lendBp t9 zt1
    refine aGG [(0,0),(1,0),(2,0),(3,0),(4,0),(5,0),(6,0),(7,0),(8,0),(9,0),(10,2)] fun a42 x=>?_;refine aAW ?_
    refine aZ rfl (fun _ ⟨_,x⟩=>bE (t:=0) wY x (t8.mono Z) rfl rfl) (aZ rfl (fun _ _=>fI rfl (j.mono (zL a9 Z))) (aZ rfl (fun _ _=>cV (k':=h+0) tS rfl (j.mono (zL a9 Z)) rfl) (aZ rfl (fun _ ⟨_,x⟩=>bE (t:=0) aCB x (j.mono (zL a9 Z)) rfl rfl) (aZ rfl (fun _ _=>aV (v:=i64 f9) rfl) ?_))));obtain ⟨d0,u2,hm⟩:=aB hm
    iterate 1 refine aBh ?_
    obtain ⟨a43,g0,u3⟩:=bI.el (sz:=3) rfl b u2
    obtain ⟨a44,a45,rfl,a46⟩:=u3
    refine aZ rfl (fun _ _=>cV (k':=f9.toNat * 3+1) aFG rfl (g0.mono (zL a9 Z)) rfl) (aZ rfl (fun _ ⟨_,x⟩=>bE (t:=1) dJ x (g0.mono (zL a9 Z)) rfl rfl) (aZ rfl (fun _ _=>R_min rfl rfl) ?_))
    have u4:=u1 _ _ x
    have u5:=u0 _ _ u4
    exact aHm rfl (dP (i:=1) (ns:=[i64 (mnI u d0.Priority)]) (us:=[i64 (mnI u d0.Priority)]) sizeOf2 u5 rfl rfl rfl rfl rfl (eB rfl) rfl rfl (fun u6 (u7:aF G K (box p 161 [cE a1 h]::box y 2 [i64 (mnI u d0.Priority)]::own 2 K b7 b8 b6::L) u6)=>(aI (lV (bW (aC (aU (aD (cJ f6 rfl) (aG (v:=i64 (wr (c9+1))) (aI ⟨_,(zI hm).symm,bG,rfl,(aF.arr 3 [2,0,1] u7 rfl)⟩))))))))))
   ·refine aX f8 rfl (yO (gZ (gZ ?_)))
    have u8:=hr _ (zI hm).symm
    subst u8
    have hm:(vS rec_ x_ u)=some R:=ho
    clear hr ho
    exact vB (aC ⟨bG,u,hm,(aF.arr 1 [] f7 rfl)⟩)
theorem aEr (n:Nat):∀ {G:rT} {K:Hp} {L:List fM} {w:World} {x_:fS} {a1:Option Addr} {h:Nat} {a4:Option Addr} {c5:Nat} {a7:Option Addr} {c8:Nat} {a10:Option Addr} {c11:Nat} {R:(List Bool)} (hm:rC n x_=some R) (a:aF G K (L) w) (b:dR K a1 h [zS a4 x_.g.length c5,zS a7 x_.back.length c8,zS a10 x_.in_.length c11]) (c:bI K a4 c5 x_.g) (d:bI K a7 c8 x_.back) (e:bI K a10 c11 x_.in_),
  Calls prog 130 ([cE a1 h]:List Value).toArray w (dL fun v w'=>∃ i j,v=zS i R.length j/\aF G K (own 4 K i j R::L) w'):=by
 induction n with
 |zero=>
  intro G K L w x_ a1 h a4 c5 a7 c8 a10 c11 R hm a b c d e
  unfold rC at hm
  cases hm
 |succ n ih=>
  intro G K L w x_ a1 h a4 c5 a7 c8 a10 c11 R hm a b c d e
  exact aEq (rec_:=rC n) (fun hm a b c d e=>ih hm a b c d e) hm a b c d e
theorem aGb {x_:fS} {k2:Nat} {R:(List Bool)} (hm:aHT x_=some R) (hs:aF G K (L) w) (h3:dR K a1 k2 [zS a4 x_.g.length c5,zS a7 x_.back.length c8,zS a10 x_.in_.length c11]) (h6:bI K a4 c5 x_.g) (h9:bI K a7 c8 x_.back) (h12:bI K a10 c11 x_.in_):
  Calls prog 130 ([cE a1 k2]:List Value).toArray w (dL fun v w'=>∃ ra0 rc0,v=zS ra0 R.length rc0/\aF G K (own 4 K ra0 rc0 R::L) w'):=aEr 100000 hm hs h3 h6 h9 h12
theorem aCl {k:Int} {p:(List aO)} {a:Nat} {b:Int} {c:Nat} {R:Bool} (hm:tY k p b=some R) (e:aF G K (L) w) (g:dR K a1 a [zS a4 p.length c5]) (h:bI K a4 c5 p) (i:dR K a7 c [i64 b]):
  Calls prog 127 ([i64 k,cE a1 a,cE a7 c]:List Value).toArray w (dL fun v w'=>v=zB R/\aF G K (L) w'):=by
 refine aBM func127 ?_;unfold tY at hm
 refine aAW ?_;exact bD [] (fun f w=>∃ d,tJ d=some R/\f 4=zB d/\aF G K (L) w) aN aN
end Gv
namespace Gv
open Gv.Hp renaming le_refl→zR
open Go.Value renaming slice→zS,bool→zB,pointer→zP
open Option.some renaming inj→zI
open Gv.Hp renaming le_trans→zL
open Go Go.Proofs Go.Proofs.Tryz
set_option maxRecDepth 20000
set_option maxHeartbeats 40000000
variable {G:rT} {K:Hp} {L:List fM} {w:World} {a1 a4 a7 a10 a13 a16 a19 a3 a6 a9 a12:Option Addr} {c5 c8 c11 c17 c14 c20 c2 c7 c13:Nat}
theorem aAQ {x_:fS} {u:Nat} {l:(List aO)} {d:Nat} {x:Int} {j:Nat} {R:(List Bool)} (hm:kU x_ l x=some R) (hs:aF G K (L) w) (h3:dR K a1 u [zS a4 x_.g.length c5,zS a7 x_.back.length c8,zS a10 x_.in_.length c11]) (h6:bI K a4 c5 x_.g) (h9:bI K a7 c8 x_.back) (a9:bI K a10 c11 x_.in_) (b0:dR K a13 d [zS a16 l.length c17]) (b1:bI K a16 c17 l) (b2:dR K a19 j [i64 x]):
  Calls prog 126 ([cE a1 u,Value.func (.func 127) #[] #[cE a13 d,cE a19 j]]:List Value).toArray w (dL fun v w'=>∃ y z,v=zS y R.length z/\aF G K (own 4 K y z R::L) w'):=by
 refine aBM func126 ?_;unfold kU at hm
 refine aAW ?_;obtain ⟨a,b3,hm⟩:=aB hm
 refine aBb (e:=(false:Bool)) cQ aEy rfl rfl hs rfl rfl rfl b3 rfl (fun b b4 (d5:aF G K (own 4 K b a.length a::L) b4)=>(aAW ?_));refine aS [] (fun f w=>∃ m,aCa m=some R/\f 5=zS b m.length a.length/\aF G K (own 4 K b a.length m::L) w) aN ?_
 obtain ⟨d6,b5,ho⟩:=aB hm
 refine bN [1,17,18] b5 (fun o c f w=>f 5=zS b o.length a.length/\f 19=i64 c/\aF G K (own 4 K b a.length o::L) w) aN ?_
 ·rintro o c b6 f d7 hm hr ⟨J,d8,p⟩
  unfold iP at hm
  refine aAW ?_
  rcases aM hm with ⟨b7,hm⟩|⟨b7,hm⟩
  ·refine aAW ?_;refine bZ (aAW ?_)
   obtain ⟨d9,b8,hm⟩:=aB hm
   refine aAW ?_;obtain ⟨e0,e1,b9⟩:=bI.el (sz:=1) rfl a9 b8
   cases b9
   iterate 5 refine aBh ?_
   refine bD [1,17,18,19] (fun f w=>∃ k,mW c k=some b6/\f 5=zS b k.length a.length/\aF G K (own 4 K b a.length k::L) w) ?_ ?_
   ·rintro f e2 ⟨k,hm,c0,c1⟩
    unfold mW at hm
    refine aAW ?_;exact ⟨_,(zI hm).symm,bG,c0,rfl,c1⟩
   refine aAW ?_
   rcases aM hm with ⟨c2,hm⟩|⟨c2,hm⟩
   ·refine aAW ?_;obtain ⟨Z,c3,hm⟩:=aB hm
    refine nT (vs:=[i64 c]) (caps:=[cE a13 d,cE a19 j]) (us:=[i64 c,cE a13 d,cE a19 j]) rfl call127 rfl rfl (aCl c3 p b0 b1 b2) ?_
    rintro _ e3 ⟨rfl,a0⟩
    refine aAW ?_;obtain ⟨e4,q,hm⟩:=aB hm
    have c4:=bM a0 (i:=0) rfl q
    refine aD (cB cQ rfl c4 rfl rfl rfl q) ?_;obtain ⟨a2,a3,hm⟩:=aB hm
    refine eC (i:=0) (t:=0) (ns:=[zB Z]) (e':=(Z:Bool)) sizeOf4 a0 rfl (zR _) rfl rfl rfl q a3 rfl rfl (eB rfl) rfl (fun cs h=>by cases h;rfl) (fun c6 (c7:aF G K (own 4 K b a.length a2::L) c6)=>(aAW ?_));exact ⟨bG,a2,hm,(Eq.trans J (congrArg (fun n=>zS b n a.length) (dH a3))),c7⟩
   ·refine aAW ?_;obtain ⟨e5,r,hm⟩:=aB hm
    have c9:=bM p (i:=0) rfl r
    refine aD (cB cQ rfl c9 rfl rfl rfl r) ?_;obtain ⟨a5,a6,hm⟩:=aB hm
    refine eC (i:=0) (t:=0) (ns:=[zB false]) (e':=(false:Bool)) sizeOf4 p rfl (zR _) rfl rfl rfl r a6 rfl rfl (eB rfl) rfl (fun cs h=>by cases h;rfl) (fun d0 (d1:aF G K (own 4 K b a.length a5::L) d0)=>(aAW ?_));exact ⟨bG,a5,hm,(Eq.trans J (congrArg (fun n=>zS b n a.length) (dH a6))),d1⟩
  ·exact aN
theorem aAR {d:Int} {e:Nat} {p:fS} {h:Nat} {b:(List aO)} {c:Nat} {R:(List Bool)} (hm:aAD d p b=some R) (z:aF G K (L) w) (J:dR K a1 e [cE a4 h]) (k:dR K a4 h [zS a7 p.g.length c8,zS a10 p.back.length c11,zS a13 p.in_.length c14]) (l:bI K a7 c8 p.g) (m:bI K a10 c11 p.back) (n:bI K a13 c14 p.in_) (o:dR K a16 c [zS a19 b.length c20]) (q:bI K a19 c20 b):
  Calls prog 125 ([i64 d,cE a1 e,cE a16 c]:List Value).toArray w (dL fun v w'=>∃ i j,v=zS i R.length j/\aF G K (own 4 K i j R::L) w'):=by
 refine aBM func125 ?_;unfold aAD at hm
 refine aAW ?_;refine aGg fun r Z t=>?_
 iterate 6 refine aBh ?_
 refine aD (oY (vs:=[cE a16 c,zP (some ⟨r,0,none⟩)]) rfl) ?_;obtain ⟨a0,a,u,x,a2⟩:=aF.lendBp t .head
 obtain ⟨a3,y,hm⟩:=aB hm
 exact aAZ call126 (aAQ y x (k.mono a) (l.mono a) (m.mono a) (n.mono a) (o.mono a) (q.mono a) u) aN
theorem vW {g:(List aO)} {R:(List Int)} (hm:sG g=some R) (hs:aF G K (L) w) (J:bI K a1 c2 g):
  Calls prog 73 ([zS a1 g.length c2]:List Value).toArray w (dL fun v w'=>∃ h1 h2,v=zS h1 R.length h2/\aF G K (own 2 K h1 h2 R::L) w'):=by
 refine aP func73 rfl (by kernel_rfl) (by show (1:Nat)<=58;decide) ?_;unfold sG at hm
 refine aL (fZ (v:=zS a1 g.length c2) (vs:=[zS a1 g.length c2]) hs rfl rfl (fun j w5 h4=>(aH (v:=zS none 0 0) (aI (aL (aD (eZ aCB h4 (i:=0) rfl rfl rfl) ?_))))));obtain ⟨a,q8,hm⟩:=aB hm
 refine aQ (vs:=[zS a1 g.length c2]) call124 rfl (aHg q8 h4 J) ?_
 rintro _ y6 ⟨a9,c1,h5,c7,c8,b,rfl,c9,k8⟩
 refine cF (vs:=[zP none]) zeroValue161 k8 rfl (fun k y7 k9=>(dP (i:=0) (ns:=[zP (some ⟨b,0,none⟩)]) (us:=[zP (some ⟨b,0,none⟩)]) sizeOf161 k9 rfl rfl rfl rfl rfl (eB rfl) rfl rfl (fun l0 (l1:aF G K (box k 161 [zP (some ⟨b,0,none⟩)]::own 88 K a9 c1 (cA h5 a.1)::rows [2] h5 a.1::own 4 K c7 c8 a.2::box b 217 [zS a1 g.length c2,zS a9 a.1.length c1,zS c7 a.2.length c8]::box j 94 [zS a1 g.length c2]::L) l0)=>(aI (aL (aD (oY (vs:=[zP (some ⟨k,0,none⟩),zP (some ⟨j,0,none⟩)]) rfl) (aH (v:=Value.func (.func 125) #[] #[zP (some ⟨k,0,none⟩),zP (some ⟨j,0,none⟩)]) (aI (aK ?_)))))))))
 obtain ⟨l2,c3,h6,h7,l3⟩:=aF.lendBp l1 .head
 refine cI (C:=fun w'=>∃ L',aF G l2 L' w') [(0,0),(1,0),(2,1),(3,1),(4,0)] Tryz_mixed (by kernel_rfl) (fun _ hg=>⟨_,aF.mono h7 hg⟩) (fun y8 l4=>?_)
 have e5:=aF.mono h7 l4
 refine aZ rfl (fun _ ⟨_,e5⟩=>bE (t:=0) wY e5 h6 rfl rfl) (aZ rfl (fun _ _=>aV (v:=Value.func (.func 125) #[] #[zP (some ⟨k,0,none⟩),zP (some ⟨j,0,none⟩)]) rfl) (fR rfl ?_));obtain ⟨y9,d5,l5,z0,l6,l7⟩:=aF.lendD' (i:=0) e5 c9 rfl rfl
 obtain ⟨z1,d6,l8,l9,m0⟩:=aF.lendSp l6 (zL c3 d5) .head
 obtain ⟨z2,d0,m1,m2,m3⟩:=aF.lendBp l9 .head
 obtain ⟨z3,c4,m4,m5,m6⟩:=aF.lendBp m2 .head
 obtain ⟨a3,m7,hm⟩:=aB hm
 refine nT (vs:=[i64 0]) (caps:=[cE (some ⟨k,0,none⟩) 0,cE (some ⟨j,0,none⟩) 0]) (us:=[i64 0,cE (some ⟨k,0,none⟩) 0,cE (some ⟨j,0,none⟩) 0]) rfl call125 rfl rfl (aAR (p:=⟨g,a.1,a.2⟩) m7 m5 (show dR _ _ _ [cE (some ⟨b,0,none⟩) 0] from (h6.mono (zL (zL (zL d5 d6) d0) c4))) (m1.mono c4) (J.mono (zL (zL (zL (zL c3 d5) d6) d0) c4)) (l5.mono (zL (zL d6 d0) c4)) (l8.mono (zL d0 c4)) m4 (J.mono (zL (zL (zL (zL c3 d5) d6) d0) c4))) ?_
 rintro _ z4 ⟨a4,a5,rfl,m8⟩
 have m9:=m6 _ _ m8
 have n0:=m3 _ _ m9
 have n1:=m0 _ _ n0
 have h8:=l7 _ _ n1
 refine aY (aC ⟨⟨_,h8⟩,?_⟩)
 refine fR rfl ?_;obtain ⟨z5,e6,n2,z6,n3,n4⟩:=aF.lendD' (i:=0) h8 c9 rfl rfl
 obtain ⟨z7,e7,n5,n6,n7⟩:=aF.lendSp n3 (zL c3 e6) .head
 obtain ⟨z8,d7,n8,n9,o0⟩:=aF.lendBp n6 .head
 obtain ⟨z9,d8,o1,o2,o3⟩:=aF.lendSp n9 (zL (zL (zL c3 e6) e7) d7) zt1
 obtain ⟨b7,o4,hm⟩:=aB hm
 refine aQ (vs:=[cE (some ⟨b,0,none⟩) 0,i64 1,zS a4 a3.length a5]) call128 rfl (nA (x_:=⟨g,a.1,a.2⟩) o4 o2 (n8.mono d8) (J.mono (zL (zL (zL (zL c3 e6) e7) d7) d8)) (n2.mono (zL (zL e7 d7) d8)) (n5.mono (zL d7 d8)) o1) ?_
 rintro _ w88 ⟨b8,b9,rfl,o5⟩
 have o6:=o3 _ _ o5
 have o7:=o0 _ _ o6
 have o8:=n7 _ _ o7
 have h9:=n4 _ _ o8
 refine aY (aC ⟨⟨_,h9⟩,?_⟩)
 refine aZ rfl (fun _ _=>cY (v:=zS b8 b7.length b9) rfl) (lV ?_)
 have o9:=l3 _ _ h9
 refine aC (aK ?_);obtain ⟨p0,c5,i0,i1,p1⟩:=aF.lendBp o9 .head
 refine cI (C:=fun w'=>∃ L',aF G p0 L' w') [(0,0),(1,0),(2,1),(3,1),(4,0)] Tryz_mixed (by kernel_rfl) (fun _ hg=>⟨_,aF.mono i1 hg⟩) (fun a01 p2=>?_)
 have e8:=aF.mono i1 p2
 refine aZ rfl (fun _ ⟨_,e8⟩=>bE (t:=0) wY e8 i0 rfl rfl) (aZ rfl (fun _ _=>aV (v:=Value.func (.func 125) #[] #[zP (some ⟨k,0,none⟩),zP (some ⟨j,0,none⟩)]) rfl) (fR rfl ?_));obtain ⟨a02,d9,p3,a03,p4,p5⟩:=aF.lendD' (i:=0) e8 c9 rfl rfl
 obtain ⟨a04,e0,p6,p7,p8⟩:=aF.lendSp p4 (zL c5 d9) .head
 obtain ⟨a05,d1,p9,q0,q1⟩:=aF.lendBp p7 .head
 obtain ⟨a06,c6,q2,q3,q4⟩:=aF.lendBp q0 zt2
 obtain ⟨a6,q5,hm⟩:=aB hm
 refine nT (vs:=[i64 1]) (caps:=[cE (some ⟨k,0,none⟩) 0,cE (some ⟨j,0,none⟩) 0]) (us:=[i64 1,cE (some ⟨k,0,none⟩) 0,cE (some ⟨j,0,none⟩) 0]) rfl call125 rfl rfl (aAR (p:=⟨g,a.1,a.2⟩) q5 q3 (show dR _ _ _ [cE (some ⟨b,0,none⟩) 0] from (i0.mono (zL (zL (zL d9 e0) d1) c6))) (p9.mono c6) (J.mono (zL (zL (zL (zL c5 d9) e0) d1) c6)) (p3.mono (zL (zL e0 d1) c6)) (p6.mono (zL d1 c6)) q2 (J.mono (zL (zL (zL (zL c5 d9) e0) d1) c6))) ?_
 rintro _ a07 ⟨a7,a8,rfl,q6⟩
 have q7:=q4 _ _ q6
 have q9:=q1 _ _ q7
 have r0:=p8 _ _ q9
 have i2:=p5 _ _ r0
 refine aY (aC ⟨⟨_,i2⟩,?_⟩)
 refine fR rfl ?_;obtain ⟨a08,e9,r1,a09,r2,r3⟩:=aF.lendD' (i:=0) i2 c9 rfl rfl
 obtain ⟨a10,f0,r4,r5,r6⟩:=aF.lendSp r2 (zL c5 e9) .head
 obtain ⟨a11,e1,r8,r9,s0⟩:=aF.lendBp r5 .head
 obtain ⟨a12,e2,s1,s2,s3⟩:=aF.lendSp r9 (zL (zL (zL c5 e9) f0) e1) zt1
 obtain ⟨Z,s4,hm⟩:=aB hm
 refine aQ (vs:=[cE (some ⟨b,0,none⟩) 0,i64 0,zS a7 a6.length a8]) call128 rfl (nA (x_:=⟨g,a.1,a.2⟩) s4 s2 (r8.mono e2) (J.mono (zL (zL (zL (zL c5 e9) f0) e1) e2)) (r1.mono (zL (zL f0 e1) e2)) (r4.mono (zL e1 e2)) s1) ?_
 rintro _ e3 ⟨a0,a2,rfl,s5⟩
 have s6:=s3 _ _ s5
 have s7:=s0 _ _ s6
 have s8:=r6 _ _ s7
 have i3:=r3 _ _ s8
 refine aY (aC ⟨⟨_,i3⟩,?_⟩)
 refine aZ rfl (fun _ _=>cY (v:=zS a0 Z.length a2) rfl) (lV ?_)
 have i4:=p1 _ _ i3
 refine aC (aL (aD (eZ wY i4 (i:=0) rfl rfl rfl) (aG (v:=zS b8 b7.length b9) ?_)));obtain ⟨s9,x,f1,_,f2,_⟩:=aF.lendD' (i:=1) i4 c9 rfl rfl
 replace f2:aF G s9 (box k 161 [zP (some ⟨b,0,none⟩)]::own 4 K c7 c8 a.2::box b 217 [zS a1 g.length c2,zS a9 a.1.length c1,zS c7 a.2.length c8]::own 4 K a7 a8 a6::own 4 K a0 a2 Z::box j 94 [zS a1 g.length c2]::own 4 K a4 a5 a3::own 4 K b8 b9 b7::L) e3:=f2
 obtain ⟨t0,q,t1,f3⟩:=aF.giveSp f2 x zt1
 replace f3:aF G t0 (box k 161 [zP (some ⟨b,0,none⟩)]::box b 217 [zS a1 g.length c2,zS a9 a.1.length c1,zS c7 a.2.length c8]::own 4 K a7 a8 a6::own 4 K a0 a2 Z::box j 94 [zS a1 g.length c2]::own 4 K a4 a5 a3::own 4 K b8 b9 b7::L) e3:=f3
 obtain ⟨t2,m,t3,f4,_⟩:=aF.lendBp f3 zt1
 replace f4:aF G t2 (box k 161 [zP (some ⟨b,0,none⟩)]::own 4 K a7 a8 a6::own 4 K a0 a2 Z::box j 94 [zS a1 g.length c2]::own 4 K a4 a5 a3::own 4 K b8 b9 b7::L) e3:=f4
 obtain ⟨t4,o,f5,f6⟩:=aF.giveSp f4 (zL (zL x q) m) zt5
 replace f6:aF G t4 (box k 161 [cE (some ⟨b,0,none⟩) 0]::own 4 K a7 a8 a6::own 4 K a0 a2 Z::box j 94 [zS a1 g.length c2]::own 4 K a4 a5 a3::L) e3:=f6
 obtain ⟨i5,t5,hm⟩:=aB hm
 refine aQ (vs:=[cE (some ⟨b,0,none⟩) 0,zS b8 b7.length b9]) call129 (lst2 (aLC rfl) rfl) (nB (x_:=⟨g,a.1,a.2⟩) t5 f6 (t3.mono o) (J.mono (zL (zL (zL x q) m) o)) (f1.mono (zL (zL q m) o)) (t1.mono (zL m o)) f5) ?_
 rintro _ f7 ⟨t6,t7,i6,rfl,t8⟩
 refine aG (v:=zS a0 Z.length a2) ?_;obtain ⟨t9,y,u0,f8⟩:=aF.giveSp t8 (zL (zL (zL x q) m) o) .head
 replace f8:aF G t9 (box i6 217 [zS a1 g.length c2,zS a9 a.1.length c1,zS t6 i5.length t7]::box k 161 [cE (some ⟨b,0,none⟩) 0]::own 4 K a7 a8 a6::own 4 K a0 a2 Z::box j 94 [zS a1 g.length c2]::own 4 K a4 a5 a3::L) f7:=f8
 obtain ⟨u1,r,u2,f9,_⟩:=aF.lendBp f8 .head
 replace f9:aF G u1 (box k 161 [cE (some ⟨b,0,none⟩) 0]::own 4 K a7 a8 a6::own 4 K a0 a2 Z::box j 94 [zS a1 g.length c2]::own 4 K a4 a5 a3::L) f7:=f9
 obtain ⟨b1,u,g0,g1⟩:=aF.giveSp f9 (zL (zL (zL (zL (zL x q) m) o) y) r) zt2
 replace g1:aF G b1 (box k 161 [cE (some ⟨b,0,none⟩) 0]::own 4 K a7 a8 a6::box j 94 [zS a1 g.length c2]::own 4 K a4 a5 a3::L) f7:=g1
 obtain ⟨g2,u3,hm⟩:=aB hm
 refine aQ (vs:=[cE (some ⟨i6,0,none⟩) 0,zS a0 Z.length a2]) call129 (lst2 (aLC rfl) rfl) (nB (x_:=⟨g,a.1,i5⟩) u3 g1 (u2.mono u) (J.mono (zL (zL (zL (zL (zL (zL x q) m) o) y) r) u)) (f1.mono (zL (zL (zL (zL (zL q m) o) y) r) u)) (u0.mono (zL r u)) g0) ?_
 rintro _ a14 ⟨i7,i8,i9,rfl,u4⟩
 obtain ⟨a15,j0,u5,u6,u7⟩:=aF.lendSp u4 (zL (zL (zL (zL (zL (zL x q) m) o) y) r) u) .head
 obtain ⟨a16,g3,u8,u9,v0⟩:=aF.lendBp u6 .head
 obtain ⟨b2,v1,hm⟩:=aB hm
 refine aQ (vs:=[cE (some ⟨i9,0,none⟩) 0]) call130 rfl (aGb (x_:=⟨g,a.1,g2⟩) v1 u9 u8 (J.mono (zL (zL (zL (zL (zL (zL (zL (zL x q) m) o) y) r) u) j0) g3)) (f1.mono (zL (zL (zL (zL (zL (zL (zL q m) o) y) r) u) j0) g3)) (u5.mono g3)) ?_
 rintro _ a17 ⟨b3,b5,rfl,v2⟩
 have v3:=v0 _ _ v2
 have j1:=u7 _ _ v3
 refine aH (v:=zS b3 b2.length b5) (aI (aL (aD (eZ aCB j1 (i:=5) rfl rfl rfl) (aD (bC (len:=g.length) eL rfl) ?_))));obtain ⟨d,v4,hm⟩:=aB hm
 refine aBb (e:=(0:Int)) bF jV rfl rfl j1 rfl rfl rfl v4 rfl (fun l v5 (v6:aF G b1 (own 2 K l d.length d::own 4 K i7 i8 g2::box i9 217 [zS a1 g.length c2,zS a9 a.1.length c1,zS i7 g2.length i8]::own 4 K b3 b5 b2::box k 161 [cE (some ⟨b,0,none⟩) 0]::own 4 K a7 a8 a6::box j 94 [zS a1 g.length c2]::own 4 K a4 a5 a3::L) v5)=>(aH (v:=zS l d.length d.length) (aI (aK (aL (aD (eZ aCB v6 (i:=6) rfl rfl rfl) (aD (bC (len:=g.length) eL rfl) (aG (v:=i64 0) (aI (aS [] (fun f w=>∃ d2,aCW d2=some R/\f 8=zS l d2.length d.length/\aF G b1 (own 2 K l d.length d2::L) w) ?_ ?_))))))))))
 ·rintro f a18 ⟨d2,hm,v7,v8⟩
  unfold aCW at hm
  refine aC (aL (bA v7 (aH (v:=zS l d2.length d.length) (aI ?_))));obtain rfl:=zI hm
  exact nD (oW results73 rfl ⟨l,d.length,rfl,(aF.weakK v8 (zL (zL (zL (zL (zL (zL x q) m) o) y) r) u))⟩)
 obtain ⟨a19,w0,ho⟩:=aB hm
 refine bN [5,6,7,31] w0 (fun d3 b0 f w=>f 8=zS l d3.length d.length/\f 32=i64 b0/\aF G b1 (own 2 K l d.length d3::own 4 K b3 b5 b2::L) w) aN ?_
 ·rintro d3 b0 w1 f a20 hm hr ⟨d4,g4,b6⟩
  unfold qS at hm
  refine aL (aD (cH g4 rfl) (aI (aK ?_)))
  rcases aM hm with ⟨g5,hm⟩|⟨g5,hm⟩
  ·refine aR g5 rfl (aW (aC (aK (bZ (aL (bA g4 (aH (v:=i64 b0) (aI (bD [5,6,7,31,32] (fun f w=>∃ e4,wQ b0 e4=some w1/\f 8=zS l e4.length d.length/\aF G b1 (own 2 K l d.length e4::own 4 K b3 b5 b2::L) w) ?_ ?_)))))))))
   ·rintro f a21 ⟨e4,hm,w2,w3⟩
    unfold wQ at hm
    exact bW (aC (aU (aD (cJ g4 rfl) (aG (v:=i64 (wr (b0+1))) (aI ⟨_,(zI hm).symm,bG,w2,rfl,w3⟩)))))
   refine aU (bA d4 (aG (v:=i64 b0) (aG (v:=zS b8 b7.length b9) (aG (v:=i64 b0) ?_))));obtain ⟨w4,j2,hm⟩:=aB hm
   refine aD (cU cQ rfl (f5.mono (zL (zL y r) u)) rfl rfl rfl j2) ?_;obtain ⟨a22,w6,w7⟩:=bI.el (sz:=1) rfl f5 j2
   cases w7
   refine aD (bE (t:=0) wX b6 (w6.mono (zL (zL y r) u)) rfl rfl) (aG (v:=zB w4) ?_)
   rcases aM hm with ⟨c,hm⟩|⟨c,hm⟩
   ·refine eG c rfl rfl (eG c rfl rfl (eG c rfl rfl (eG c rfl rfl (eG c rfl rfl (eG c rfl rfl (xF (g:=47) rfl rfl (xF (g:=47) rfl rfl (xF (g:=47) rfl rfl (xF (g:=47) rfl rfl (eG c rfl rfl (aD (fN (v:=zB true) c rfl rfl) ?_)))))))))));obtain ⟨j3,w8,hm⟩:=aB hm
    refine aQ (vs:=[zB true]) call88 rfl (mM w8 b6) ?_
    rintro _ a23 ⟨rfl,j4⟩
    obtain ⟨a24,g6,hm⟩:=aB hm
    have w9:=bM j4 (i:=0) rfl g6
    refine aD (cB bF rfl w9 rfl rfl rfl g6) ?_;obtain ⟨j5,j6,hm⟩:=aB hm
    exact eC (i:=0) (t:=0) (ns:=[i64 j3]) (e':=(j3:Int)) sizeOf2 j4 rfl (zL (zL (zL (zL (zL (zL x q) m) o) y) r) u) rfl rfl rfl g6 j6 rfl rfl (eB rfl) rfl (fun cs h=>by cases h;rfl) (fun x0 (x1:aF G b1 (own 2 K l d.length j5::own 4 K b3 b5 b2::L) x0)=>(aI ⟨bG,j5,hm,(Eq.trans d4 (congrArg (fun n=>zS l n d.length) (dH j6))),x1⟩))
   ·refine cR c rfl rfl (aG (v:=zS a0 Z.length a2) (cR c rfl rfl (aG (v:=i64 b0) (cR c rfl rfl ?_))));obtain ⟨x2,j7,hm⟩:=aB hm
    refine aD (cU cQ rfl g0 rfl rfl rfl j7) ?_;obtain ⟨a25,x3,x4⟩:=bI.el (sz:=1) rfl g0 j7
    cases x4
    refine cR c rfl rfl (aD (bE (t:=0) wX b6 x3 rfl rfl) (cR c rfl rfl (aD (vC rfl) (cR c rfl rfl (aG (v:=zB (!x2)) ?_)))))
    rcases aM hm with ⟨z,hm⟩|⟨z,hm⟩
    ·refine bP z rfl rfl (aG (v:=zS b3 b2.length b5) (bP z rfl rfl (aG (v:=i64 b0) (bP z rfl rfl ?_))));obtain ⟨g7,g8,hm⟩:=aB hm
     have x5:=bM b6 (i:=1) rfl g8
     refine aD (cB cQ rfl x5 rfl rfl rfl g8) (bP z rfl rfl (aD (lH (t:=0) wX b6 (i:=1) rfl g8 rfl rfl rfl) (cR c rfl rfl (aD (fN (v:=zB g7) z rfl rfl) (aD (eJ (v:=zB g7) c rfl rfl) ?_)))));obtain ⟨j8,x6,hm⟩:=aB hm
     refine aQ (vs:=[zB g7]) call88 rfl (mM x6 b6) ?_
     rintro _ a26 ⟨rfl,j9⟩
     obtain ⟨a27,g9,hm⟩:=aB hm
     have x7:=bM j9 (i:=0) rfl g9
     refine aD (cB bF rfl x7 rfl rfl rfl g9) ?_;obtain ⟨k0,k1,hm⟩:=aB hm
     exact eC (i:=0) (t:=0) (ns:=[i64 j8]) (e':=(j8:Int)) sizeOf2 j9 rfl (zL (zL (zL (zL (zL (zL x q) m) o) y) r) u) rfl rfl rfl g9 k1 rfl rfl (eB rfl) rfl (fun cs h=>by cases h;rfl) (fun x8 (x9:aF G b1 (own 2 K l d.length k0::own 4 K b3 b5 b2::L) x8)=>(aI ⟨bG,k0,hm,(Eq.trans d4 (congrArg (fun n=>zS l n d.length) (dH k1))),x9⟩))
    ·refine bK z rfl rfl (bK z rfl rfl (bK z rfl rfl (bK z rfl rfl (cR c rfl rfl (aD (eJ (v:=zB false) z rfl rfl) (aD (eJ (v:=zB false) c rfl rfl) ?_))))));obtain ⟨k2,y0,hm⟩:=aB hm
     refine aQ (vs:=[zB false]) call88 rfl (mM y0 b6) ?_
     rintro _ a28 ⟨rfl,k3⟩
     obtain ⟨a29,h0,hm⟩:=aB hm
     have y1:=bM k3 (i:=0) rfl h0
     refine aD (cB bF rfl y1 rfl rfl rfl h0) ?_;obtain ⟨k4,k5,hm⟩:=aB hm
     exact eC (i:=0) (t:=0) (ns:=[i64 k2]) (e':=(k2:Int)) sizeOf2 k3 rfl (zL (zL (zL (zL (zL (zL x q) m) o) y) r) u) rfl rfl rfl h0 k5 rfl rfl (eB rfl) rfl (fun cs h=>by cases h;rfl) (fun y2 (y3:aF G b1 (own 2 K l d.length k4::own 4 K b3 b5 b2::L) y2)=>(aI ⟨bG,k4,hm,(Eq.trans d4 (congrArg (fun n=>zS l n d.length) (dH k5))),y3⟩))
  ·refine aX g5 rfl (yO (gZ (gZ ?_)))
   have y4:=hr _ (zI hm).symm
   subst y4
   have hm:(aCW d3)=some R:=ho
   clear hr ho
   exact vB (aC ⟨bG,d3,hm,d4,(aF.arr 2 [0] b6 rfl)⟩)
theorem aGF {e:(List bB)} {R:(List Bool)} (hm:aIK e=some R) (k:aF G K (L) w) (l:bI K a1 c2 e):
  Calls prog 47 ([zS a1 e.length c2]:List Value).toArray w (dL fun v w'=>∃ b c,v=zS b R.length c/\aF G K (own 4 K b c R::L) w'):=by
 refine aBM func47 ?_;unfold aIK at hm
 refine aAW ?_;obtain ⟨r4,m,hm⟩:=aB hm
 refine aAZ call45 (aIn m k l) ?_
 rintro _ a2 ⟨d,a8,c9,rfl,a5,n⟩
 obtain ⟨a6,a7,o,p,q⟩:=aF.lendSp n (zR _) .head
 obtain ⟨r,t,hm⟩:=aB hm
 refine aAZ call73 (vW t p o) ?_
 rintro _ a9 ⟨u,x,rfl,y⟩
 have z:=q _ _ y
 refine aAW ?_;refine aS [] (fun f w=>∃ a g h,aMZ a=some R/\f 3=zS g a.length h/\aF G d (own 4 K g h a::L) w) aN ?_
 have b0:=aF.nil (α:=Bool) z 4 K
 obtain ⟨b1,J,ho⟩:=aB hm
 exact bN [8,9] J (fun i Z f w=>∃ j c45,f 3=zS j i.length c45/\f 10=i64 Z/\aF G d (own 4 K j c45 i::own 2 K u x r::L) w) aN aN
theorem jJ {a R:(List aO)} (hm:dE a=some R) (j:aF G K (L) w) (c:bI K a1 c2 a):
  Calls prog 148 ([zS a1 a.length c2]:List Value).toArray w (dL fun v w'=>∃ b d e,v=zS d R.length e/\Hp.le K b/\aF G b (own 123 b d e R::L) w'):=by
 refine aBM func148 ?_;unfold dE at hm
 iterate 9 refine aBh ?_
 refine aD (aIF eL rfl rfl) (aAW ?_)
 rcases aFD c with ⟨k,l,m⟩|n
 ·subst k;subst l;subst m
  refine aHt rfl ?_
  replace hm:(some [])=some R:=hm
  exact aN
 ·refine aHu (Eq.trans rfl (congrArg zB n)) (aAW ?_);refine bO (Kt:=K) (xs:=([]:List aO)) (cs:=[]) (vs:=[]) eL aBk rfl rfl j rfl (by kernel_rfl) rfl rfl rfl trivial (fun o p (q:aF G K (own 123 K o 0 ([]:List aO)::L) p)=>(aAW ?_))
  obtain ⟨r,t,hm⟩:=aB hm
  refine aFg (i:=0) eL underlying94 aBk rfl rfl q rfl (zR _) c t rfl rfl rfl rfl (fun g h u (x:aF G K (own 123 K g h r::L) u)=>(aAW ?_));obtain rfl:=zI hm
  exact aOM results148 ⟨K,g,h,rfl,(zR _),x⟩
theorem aGc {g R:(List aO)} (hm:aCb g=some R) (hs:aF G K (L) w) (h3:bI K a1 c2 g):
  Calls prog 91 ([zS a1 g.length c2]:List Value).toArray w (dL fun v w'=>∃ o u x,v=zS u R.length x/\Hp.le K o/\aF G o (own 123 o u x R::L) w'):=by
 refine aBM func91 ?_;unfold aCb at hm
 refine aAW ?_;obtain ⟨r4,q5,hm⟩:=aB hm
 refine aAZ call148 (jJ q5 hs h3) ?_
 rintro _ d1 ⟨y,a,b,rfl,z,d2⟩
 refine aAW ?_;refine aS [] (fun f w=>∃ c h,Hp.le y c/\aEb h=some R/\f 3=zS a h.length b/\aF G c (own 123 c a b h::L) w) ?_ ?_
 ·rintro f d3 ⟨c,h,a9,hm,d4,b0⟩
  unfold aEb at hm
  refine aAW ?_;obtain rfl:=zI hm
  exact aOM results91 ⟨c,a,b,rfl,(zL z a9),b0⟩
 obtain ⟨d5,b2,ho⟩:=aB hm
 refine bN [8] b2 (fun j k f w=>∃ d,Hp.le y d/\f 3=zS a j.length b/\f 9=i64 k/\aF G d (own 123 d a b j::L) w) aN ?_
 ·rintro j k d6 f d7 hm hr ⟨d,J,b3,d8,p⟩
  unfold mX at hm
  refine aAW ?_
  rcases aM hm with ⟨b4,hm⟩|⟨b4,hm⟩
  ·refine aAW ?_;refine bZ (aAW ?_)
   obtain ⟨q,e,hm⟩:=aB hm
   have l:=bM p (i:=0) rfl e
   refine aD (cB eL rfl l rfl rfl rfl e) (aD (aBi (k':=k.toNat * 3+2) lS l rfl rfl) ?_);obtain ⟨d9,b5,b6⟩:=aMJ (sz:=3) rfl p (i:=0) rfl e
   obtain ⟨b7,b8,rfl,b9⟩:=b6
   refine aD (R_ldC (t:=2) (v:=zS b7 q.Next.length b8) oZ b5 rfl rfl) ?_;obtain ⟨Z,c0,hm⟩:=aB hm
   refine aAZ call52 (dK c0 p b9) ?_
   rintro _ c1 ⟨a0,a2,rfl,c3⟩
   refine aD (cB eL rfl l rfl rfl rfl e) (aD (aBi (k':=k.toNat * 3+2) lS l rfl rfl) ?_);obtain ⟨m,a3,c4,r⟩:=aF.giveSp c3 (zL z J) .head
   replace r:aF G m (own 123 d a b j::L) c1:=r
   obtain ⟨c5,a4,hm⟩:=aB hm
   refine eC (i:=0) (t:=2) (ns:=[zS a0 Z.length a2]) (e':=(⟨q.Owner,q.Priority,Z⟩:aO)) sizeOf88 r rfl a3 rfl rfl rfl e a4 rfl rfl (eB rfl) rfl (fun _ c6=>by obtain ⟨e0,e1,rfl,e2⟩:=c6;exact ⟨a0,a2,rfl,c4⟩) (fun c7 (c8:aF G m (own 123 m a b c5::L) c7)=>(aAW ?_));exact ⟨_,(zI hm).symm,bG,m,(zL J a3),(Eq.trans b3 (congrArg (fun n=>zS a n b) (dH a4))),rfl,c8⟩
  ·exact aN
theorem oM {x_:(List Int)} {k:Int} {R:(List Int)} (hm:fO x_ k=some R) (hs:aF G K (L) w) (h3:bI K a1 c2 x_):
  Calls prog 92 ([zS a1 x_.length c2,i64 k]:List Value).toArray w (dL fun v w'=>∃ t u,v=zS t R.length u/\aF G K (own 2 K t u R::L) w'):=by
 refine aBM func92 ?_;unfold fO at hm
 iterate 5 refine aBh ?_
 refine gQ [0,1] (fun f w=>gL x_ k=some R/\aF G K (L) w) ?_ ?_
 ·rintro f w4 ⟨hm,a8⟩
  unfold gL at hm
  refine aL (aG (v:=zS a1 x_.length c2) (aD (bC (len:=x_.length) bF rfl) (aD (aFC runUnderlying147 rfl ⟨_,runUnderlying3⟩) (aG (v:=i64 k) (aD (aFC runUnderlying147 rfl ⟨_,runUnderlying3⟩) ?_)))));obtain ⟨c,q7,hm⟩:=aB hm
  refine aAZ call149 (aPE a8 q7) ?_
  rintro _ w8 ⟨rfl,x⟩
  refine aG (v:=Value.tuple #[Value.int .u64 c.1,Value.int .u64 c.2]) (aD (bY rfl rfl) (aD (bY rfl rfl) (aH (v:=Value.int .u64 c.1) (aH (v:=Value.int .u64 c.2) (aI (gQ [0,6] (fun f w=>gK x_ c=some R/\aF G K (L) w) ?_ ?_))))))
  ·rintro f d3 ⟨hm,b0⟩
   unfold gK at hm
   refine aL (aG (v:=Value.int .u64 c.2) (aD (aKb runUnderlying3 rfl ⟨_,runUnderlying147⟩) ?_));obtain ⟨a,b1,hm⟩:=aB hm
   refine aBb (e:=(0:Int)) bF jV rfl rfl b0 rfl rfl rfl b1 rfl (fun b b2 (y:aF G K (own 2 K b a.length a::L) b2)=>(aH (v:=zS b a.length a.length) (aI (aL (aG (v:=zS b a.length a.length) (aG (v:=zS a1 x_.length c2) ?_))))));obtain ⟨b3,z,hm⟩:=aB hm
   refine aKg bF rfl y (i:=0) rfl Cut.whole rfl rfl rfl (aIE _ _ _) aHD (aMP rfl y h3) z (fun b4 (b5:aF G K (own 2 K b a.length b3::L) b4)=>(aH (v:=i64 ((Nat.min x_.length a.length):Int)) (aI (aK (aS [] (fun f w=>∃ h,gI h=some R/\f 7=zS b h.length a.length/\aF G K (own 2 K b a.length h::L) w) ?_ ?_)))))
   ·rintro f d4 ⟨h,hm,b6,b7⟩
    unfold gI at hm
    refine aC (aL (bA b6 (aH (v:=zS b h.length a.length) (aI ?_))));obtain rfl:=zI hm
    exact aOM results92 ⟨b,a.length,rfl,b7⟩
   obtain ⟨d5,b9,ho⟩:=aB hm
   refine bN [] b9 (fun j l f w=>f 7=zS b j.length a.length/\f 8=i64 l/\aF G K (own 2 K b a.length j::L) w) ?_ ?_
   ·exact ⟨(Eq.trans rfl (congrArg (fun n=>zS b n a.length) (aGi z))),rfl,b5⟩
   ·rintro j l d6 f d7 hm hr ⟨m,o,d8⟩
    unfold gJ at hm
    refine aK (aL (bA o (bA m (aD (bC (len:=j.length) bF rfl) (aD (cH rfl rfl) (aI ?_))))))
    rcases aM hm with ⟨q,hm⟩|⟨q,hm⟩
    ·refine aR q rfl (aW (aC (bZ (aGG [(0,0),(1,0),(2,0),(3,0),(4,0),(5,0),(6,0),(7,1),(8,0),(9,0)] fun d9 p=>?_))));refine aZ rfl (fun _ _=>aV o) (aZ rfl (fun _ _=>aV m) (aZ rfl (fun _ _=>aV o) ?_))
     obtain ⟨c0,c1,hm⟩:=aB hm
     have c3:=qA p (i:=0) rfl
     obtain ⟨e0,e1,J⟩:=Cut.ex 1 b a.length l
     refine aZ rfl (fun _ _=>aHE bF c3 J rfl rfl rfl c1) (aZ rfl (fun _ _=>aV m) (aZ rfl (fun _ _=>aV o) ?_));obtain ⟨c4,Z,hm⟩:=aB hm
     have c5:=qA p (i:=0) rfl
     obtain ⟨e2,e3,a0⟩:=Cut.ex 1 b a.length 0
     refine aZ rfl (fun _ _=>aKV bF c5 a0 rfl rfl rfl Z) (fR rfl ?_);obtain ⟨c6,a2,hm⟩:=aB hm
     refine aKg bF rfl p (i:=0) rfl J rfl rfl rfl (aIE _ _ _) aHD (aJx rfl p (i:=0) rfl Z a0) a2 (fun c7 (a3:aF G K (own 2 K b a.length c6::L) c7)=>(aY (aC ⟨⟨_,a3⟩,?_⟩)))
     exact aZ rfl (fun _ _=>cJ rfl rfl) (aZ rfl (fun _ _=>cY (v:=i64 (wr (l+((Nat.min c4.length c0.length):Int)))) rfl) (lV (bW (aC ⟨_,(zI hm).symm,bG,(Eq.trans m (congrArg (fun n=>zS b n a.length) (aGi a2))),rfl,a3⟩))))
    ·refine aX q rfl (yO (gZ (gZ ?_)))
     have c8:=hr _ (zI hm).symm
     subst c8
     have hm:(gI j)=some R:=ho
     exact aN
  refine aK (bD [0,6] (fun f w=>∃ r,eX x_ c r=some R/\f 26=zB r/\aF G K (L) w) ?_ ?_)
  ·rintro f e4 ⟨r,hm,c9,d0⟩
   unfold eX at hm
   refine aC ?_
   rcases aM hm with ⟨a4,hm⟩|⟨a4,hm⟩
   ·exact aN
   ·exact aX a4 c9 (aW (aC ⟨bG,hm,d0⟩))
  refine aU (aG (v:=Value.int .u64 c.1) (aD (zU rfl rfl) (aG (v:=zB (decide (0 < c.1))) ?_)))
  rcases aM hm with ⟨d,hm⟩|⟨d,hm⟩
  ·exact eG d rfl rfl (eG d rfl rfl (aD (fN (v:=zB true) d rfl rfl) (aI ⟨bG,true,hm,rfl,x⟩)))
  ·exact cR d rfl rfl (aG (v:=Value.int .u64 c.2) (cR d rfl rfl (aD (zU rfl rfl) (aD (eJ (v:=zB (decide (9223372036854775807 < c.2))) d rfl rfl) (aI ⟨bG,decide (9223372036854775807 < c.2),hm,rfl,x⟩)))))
 refine aAW ?_
 rcases aM hm with ⟨a5,hm⟩|⟨a5,hm⟩
 ·exact aN
 ·exact aX a5 rfl (aW (aC ⟨bG,hm,hs⟩))
theorem zJ {n:Int} {p:(List Int)} {b:Nat} {a:aO} {c:Nat} {R:Bool} (hm:xT n p a=some R) (d:aF G K (L) w) (e:dR K a1 b [zS a4 p.length c5]) (g:bI K a4 c5 p) (h:dR K a7 c [i64 a.Owner,i64 a.Priority,zS a10 a.Next.length c11]) (i:bI K a10 c11 a.Next):
  Calls prog 94 ([i64 n,cE a1 b,cE a7 c]:List Value).toArray w (dL fun v w'=>v=zB R/\aF G K (L) w'):=by
 exact aN
theorem lN {d e:(List Int)} {b:Nat} {a:aO} {c:Nat} {R:Int} (hm:dX d e a=some R) (u:aF G K (L) w) (i:bI K a1 c2 d) (j:dR K a4 b [zS a7 e.length c8]) (k:bI K a7 c8 e) (l:dR K a10 c [i64 a.Owner,i64 a.Priority,zS a13 a.Next.length c14]) (m:bI K a13 c14 a.Next):
  Calls prog 150 ([zS a1 d.length c2,Value.func (.func 94) #[] #[cE a4 b,cE a10 c]]:List Value).toArray w (dL fun v w'=>v=i64 R/\aF G K (L) w'):=by
 refine aBM func150 ?_;unfold dX at hm
 refine aAW ?_;refine aS [] (fun f w=>mD=some R/\aF G K (L) w) aN ?_
 obtain ⟨x,n,ho⟩:=aB hm
 refine eK [0,1,7] n (fun g f w=>f 8=i64 g/\aF G K (L) w) aN ?_
 ·rintro g y f z hm hr ⟨J,o⟩
  unfold dM at hm
  refine aAW ?_
  rcases aM hm with ⟨p,hm⟩|⟨p,hm⟩
  ·refine aAW ?_;refine bZ (aAW ?_)
   obtain ⟨h,q,hm⟩:=aB hm
   refine aAW ?_;obtain ⟨Z,a0,r⟩:=bI.el (sz:=1) rfl i q
   cases r
   refine aAW ?_;obtain ⟨a2,t,hm⟩:=aB hm
   exact nT (vs:=[i64 h]) (caps:=[cE a4 b,cE a10 c]) (us:=[i64 h,cE a4 b,cE a10 c]) rfl call94 rfl rfl (zJ t o j k l m) aN
  ·exact aN
theorem mE {l m:(List Int)} {b:Nat} {a:aO} {c:Nat} {R:(List Int)} (hm:eP l m a=some R) (hs:aF G K (own 2 K a1 c2 l::L) w) (u:dR K a3 b [zS a6 m.length c7]) (x:bI K a6 c7 m) (y:dR K a9 c [i64 a.Owner,i64 a.Priority,zS a12 a.Next.length c13]) (z:bI K a12 c13 a.Next):
  Calls prog 93 ([zS a1 l.length c2,Value.func (.func 94) #[] #[cE a3 b,cE a9 c]]:List Value).toArray w (dL fun v w'=>∃ J Z,v=zS J R.length Z/\aF G K (own 2 K J Z R::L) w'):=by
 refine aBM func93 ?_;unfold eP at hm
 refine aAW ?_;obtain ⟨e6,d,b9,c0,c1⟩:=aF.lendSp hs (zR _) .head
 obtain ⟨e7,c3,hm⟩:=aB hm
 refine aAZ call150 (lN c3 c0 b9 (u.mono d) (x.mono d) (y.mono d) (z.mono d)) ?_
 rintro _ e8 ⟨rfl,c4⟩
 have e9:=c1 _ _ c4
 refine aAW ?_
 rcases aM hm with ⟨c5,hm⟩|⟨c5,hm⟩
 ·exact aN
 ·refine aAW ?_;refine aS [] (fun f w=>∃ e g,iV e g=some R/\f 0=zS a1 e.length c2/\f 5=i64 g/\aF G K (own 2 K a1 c2 e::L) w) ?_ ?_
  ·rintro f f0 ⟨e,g,hm,c6,f1,a0⟩
   unfold iV at hm
   refine aAW ?_;obtain ⟨f2,c8,hm⟩:=aB hm
   have c9:=qA a0 (i:=0) rfl
   obtain ⟨f3,f4,a2⟩:=Cut.ex 1 a1 c2 g
   refine aD (aHE bF c9 a2 rfl rfl rfl c8) ?_;obtain ⟨a4,a5,hm⟩:=aB hm
   refine aID bF jV rfl a0 (i:=0) rfl a2 rfl rfl a5 (fun a7 (a8:aF G K (own 2 K a1 c2 a4::L) a7)=>?_)
   iterate 4 refine aBh ?_
   refine bA (v:=zS a1 a4.length c2) (Eq.trans c6 (congrArg (fun n=>zS a1 n c2) (aGi a5))) (aAW ?_);obtain ⟨d0,b0,hm⟩:=aB hm
   have d1:=qA a8 (i:=0) rfl
   obtain ⟨d2,d3,b1⟩:=Cut.ex 1 a1 c2 0
   refine aD (aKV bF d1 b1 rfl rfl rfl b0) (aAW ?_)
   have f5:aF G K (own 2 K d2 d3 d0::L) a7:=aF.cutP a8 (i:=0) rfl b0 b1
   exact aN
  obtain ⟨f6,d4,ho⟩:=aB hm
  refine lR [1] d4 (fun o p q f w=>f 0=zS a1 o.length c2/\f 5=i64 p/\f 6=i64 q/\aF G K (own 2 K a1 c2 o::L) w) aN ?_
  ·rintro o p q d5 f f7 hm hr ⟨d6,f8,f9,b2⟩
   unfold dU at hm
   refine aAW ?_
   rcases aM hm with ⟨d7,hm⟩|⟨d7,hm⟩
   ·refine aAW ?_;refine aS [1,6] (fun f w=>∃ j r,dT q j r=some d5/\f 0=zS a1 j.length c2/\f 5=i64 r/\aF G K (own 2 K a1 c2 j::L) w) ?_ ?_
    ·rintro f g0 ⟨j,r,hm,d8,d9,e0⟩
     unfold dT at hm
     refine aAW ?_;exact ⟨_,(zI hm).symm,bG,d8,d9,rfl,e0⟩
    refine aAW ?_;obtain ⟨k,b3,hm⟩:=aB hm
    have b4:=bM b2 (i:=0) rfl b3
    refine aD (cB bF rfl b4 rfl rfl rfl b3) (aAW ?_);obtain ⟨g1,e1,hm⟩:=aB hm
    refine nT (vs:=[i64 k]) (caps:=[cE a3 b,cE a9 c]) (us:=[i64 k,cE a3 b,cE a9 c]) rfl call94 rfl rfl (zJ e1 b2 u x y z) ?_
    rintro _ g2 ⟨rfl,e2⟩
    refine aAW ?_
    rcases aM hm with ⟨e3,hm⟩|⟨e3,hm⟩
    ·refine aAW ?_;obtain ⟨g3,b5,hm⟩:=aB hm
     refine aD (cB bF rfl b4 rfl rfl rfl b5) ?_;obtain ⟨b6,b7,hm⟩:=aB hm
     refine eC (i:=0) (t:=0) (ns:=[i64 k]) (e':=(k:Int)) sizeOf2 e2 rfl (zR _) rfl rfl rfl b5 b7 rfl rfl (eB rfl) rfl (fun cs h=>by cases h;rfl) (fun e4 (e5:aF G K (own 2 K a1 c2 b6::L) e4)=>(aAW ?_));exact ⟨bG,b6,wr (p+1),hm,(Eq.trans d6 (congrArg (fun n=>zS a1 n c2) (dH b7))),rfl,e5⟩
    ·exact aN
   ·exact aN
theorem pK {a b:(List Int)} {R:Bool} (hm:fV a b=some R) (g:aF G K (L) w) (h:bI K a1 c2 a) (i:bI K a4 c5 b):
  Calls prog 95 ([zS a1 a.length c2,zS a4 b.length c5]:List Value).toArray w (dL fun v w'=>v=zB R/\aF G K (L) w'):=by
 refine aBM func95 ?_;unfold fV at hm
 refine aAW ?_
 rcases aM hm with ⟨c,hm⟩|⟨c,hm⟩
 ·exact aN
 ·refine aAW ?_;refine aS [] (fun f w=>qT=some R/\aF G K (L) w) aN ?_
  obtain ⟨j,d,ho⟩:=aB hm
  exact eK [0,1,12] d (fun e f w=>f 13=i64 e/\aF G K (L) w) aN aN
theorem aHh {g:(List aO)} {R:(List Int)} (hm:yY g=some R) (hs:aF G K (L) w) (h3:bI K a1 c2 g):
  Calls prog 48 ([zS a1 g.length c2]:List Value).toArray w (dL fun v w'=>∃ f0 f1,v=zS f0 R.length f1/\aF G K (own 2 K f0 f1 R::L) w'):=by
 refine aBM func48 ?_;unfold yY at hm
 refine aAW ?_;obtain ⟨a,q5,hm⟩:=aB hm
 refine aAZ call73 (vW q5 hs h3) ?_
 rintro _ w8 ⟨b,c,rfl,o6⟩
 refine aEx fun o o7 o8=>?_;refine aFy fun o9 g9=>?_
 refine aAW ?_;obtain ⟨f2,h0,hm⟩:=aB hm
 refine aAZ call91 (aGc h0 g9 h3) ?_
 rintro _ p0 ⟨b2,d,e,rfl,y,h1⟩
 refine aH (v:=zS d f2.length e) (aI (aL (bO (Kt:=K) (xs:=([(-1)]:List Int)) (cs:=[i64 (-1)]) (vs:=[(0,i64 (-1))]) bF jV rfl rfl h1 rfl (by kernel_rfl) rfl rfl rfl ⟨rfl,trivial⟩ (fun h2 h4 (h5:aF G b2 (own 2 K h2 1 ([(-1)]:List Int)::own 123 b2 d e f2::box o 88 [zS b a.length c]::own 2 K b c a::L) h4)=>(aG (v:=zS a1 g.length c2) (aD (bC (len:=g.length) eL rfl) ?_))))));obtain ⟨p1,p2,h6,h7,h8⟩:=aF.lendSp h5 y .head
 obtain ⟨h9,i0,hm⟩:=aB hm
 refine aAZ call92 (oM i0 h7 h6) ?_
 rintro _ p3 ⟨j,k,rfl,i1⟩
 have i2:=h8 _ _ i1
 refine aH (v:=zS j h9.length k) (aI (aK (aL (aG (v:=zS a1 g.length c2) (aD (bC (len:=g.length) eL rfl) (aG (v:=i64 0) (aI (aS [] (fun f w=>∃ c6 b3,Hp.le b2 c6/\aBI b3=some R/\f 5=zS j b3.length k/\aF G c6 (own 2 K j k b3::L) w) ?_ ?_))))))))
 ·rintro f p4 ⟨c6,b3,i3,hm,i4,i5⟩
  unfold aBI at hm
  refine aC (aL (bA i4 (aH (v:=zS j b3.length k) (aI ?_))));obtain rfl:=zI hm
  exact aOM results48 ⟨j,k,rfl,(aF.weakK i5 (zL y i3))⟩
 obtain ⟨p5,i7,ho⟩:=aB hm
 refine lR [3,19,20] i7 (fun a7 m p f w=>∃ q,Hp.le b2 q/\f 4=zS d a7.length e/\f 5=zS j m.length k/\f 21=i64 p/\aF G q (own 2 K j k m::own 123 q d e a7::box o 88 [zS b a.length c]::own 2 K b c a::L) w) ?_ ?_
 ·exact ⟨b2,(zR _),rfl,rfl,rfl,(aF.arr 1 [] i2 rfl)⟩
 ·rintro a7 m p b8 f p6 hm hr ⟨q,J,f3,c8,b9,f4⟩
  unfold oH at hm
  refine aL (aD (cH b9 rfl) (aI (aK ?_)))
  rcases aM hm with ⟨c9,hm⟩|⟨c9,hm⟩
  ·refine aR c9 rfl (aW (aC (aK (aS [3,19,20,21] (fun f w=>∃ b4 c0 c1,Hp.le q b4/\uL p c0 c1=some b8/\f 4=zS d c0.length e/\f 5=zS j c1.length k/\aF G b4 (own 2 K j k c1::own 123 b4 d e c0::box o 88 [zS b a.length c]::own 2 K b c a::L) w) ?_ ?_))))
   ·rintro f p7 ⟨b4,c0,c1,i8,hm,i9,j0,j1⟩
    unfold uL at hm
    exact aC (aU (aD (cJ b9 rfl) (aG (v:=i64 (wr (p+1))) (aI ⟨_,(zI hm).symm,bG,b4,(zL J i8),i9,j0,rfl,j1⟩))))
   refine aL (bA b9 ?_);obtain ⟨l,f5,hm⟩:=aB hm
   refine aD (cU eL rfl (h3.mono (zL y J)) rfl rfl b9 f5) ?_;obtain ⟨p8,j2,j3⟩:=bI.el (sz:=3) rfl h3 f5
   obtain ⟨b5,b6,rfl,f6⟩:=j3
   refine aD (jQ (t:=0) (vs:=[i64 l.Owner,i64 l.Priority,zS b5 l.Next.length b6]) aKY f4 (j2.mono (zL y J)) rfl rfl rfl) (cF (vs:=[i64 0,i64 0,zS none 0 0]) zeroValue123 f4 rfl (fun d0 p9 j4=>(aH (v:=i64 p) (dP (i:=0) (ns:=[i64 l.Owner,i64 l.Priority,zS b5 l.Next.length b6]) (us:=[i64 l.Owner,i64 l.Priority,zS b5 l.Next.length b6]) sizeOf123 j4 rfl rfl rfl rfl rfl (eB rfl) rfl rfl (fun j5 (r:aF G q (box d0 123 [i64 l.Owner,i64 l.Priority,zS b5 l.Next.length b6]::own 2 K j k m::own 123 q d e a7::box o 88 [zS b a.length c]::own 2 K b c a::L) j5)=>(aI (aK (aK (nE (C:=fun w'=>aF G q (box d0 123 [i64 l.Owner,i64 l.Priority,zS b5 l.Next.length b6]::own 2 K j k m::own 123 q d e a7::box o 88 [zS b a.length c]::own 2 K b c a::L) w') Tryz_mixed (by kernel_rfl) (aF.mono r (eF.drew _)) (cW (fun _ r=>bU (t':=0) aAo rfl rfl) (cW (fun _ r=>eZ dJ r (i:=0) rfl rfl rfl) (cW (fun _ r=>eZ oZ r (i:=3) rfl rfl rfl) (cW (fun _ r=>aV (v:=i64 p) rfl) ?_)))))))))))))
   obtain ⟨q0,d1,hm⟩:=aB hm
   have j6:=bM r (i:=4) rfl d1
   refine cW (fun _ r=>cB bF rfl j6 rfl rfl rfl d1) (cW (fun _ r=>lH (t:=0) dJ r (i:=4) rfl d1 rfl rfl rfl) (cW (fun _ r=>aFA rfl rfl) (aAm (fun q1 d2=>(aC ?_)))))
   rcases aM hm with ⟨d3,hm⟩|⟨d3,hm⟩
   ·exact aR d3 rfl (yO (gZ (vB (aC ⟨bG,q,a7,m,(zR _),hm,f3,c8,(aF.arr 1 [] d2 rfl)⟩))))
   ·refine aX d3 rfl (aW (aC (aL (aD (bU (t':=2) lS rfl rfl) (aD (eZ oZ d2 (i:=0) rfl rfl rfl) ?_)))));obtain ⟨q2,j7,hm⟩:=aB hm
    refine aAZ call52 (dK j7 d2 (f6.mono (zL y J))) ?_
    rintro _ q3 ⟨q4,q6,rfl,j8⟩
    refine aD (oY (vs:=[zP (some ⟨o,0,none⟩),zP (some ⟨d0,0,none⟩)]) rfl) ?_;obtain ⟨q7,j9,k0,k1,k2⟩:=aF.lendSp j8 (zL y J) zt5
    obtain ⟨q8,f7,k3,k4,k5⟩:=aF.lendBp k1 zt4
    obtain ⟨q9,d4,k6,k7,k8⟩:=aF.lendBp k4 zt1
    obtain ⟨u,k9,hm⟩:=aB hm
    refine aAZ call93 (mE k9 k7 (k3.mono d4) (k0.mono (zL f7 d4)) k6 (f6.mono (zL (zL (zL (zL y J) j9) f7) d4))) ?_
    rintro _ r0 ⟨Z,a0,rfl,l0⟩
    have l1:=k8 _ _ l0
    have l2:=k5 _ _ l1
    have l3:=k2 _ _ l2
    refine aH (v:=zS Z u.length a0) (aI (aL (aG (v:=zS Z u.length a0) (aD (bC (len:=u.length) bF rfl) (aG (v:=i64 0) (aI (aS [3,19,20,21] (fun f w=>∃ d5 d6 d7,Hp.le q d5/\xU p d6 d7=some b8/\f 4=zS d d6.length e/\f 5=zS j d7.length k/\aF G d5 (own 2 K b c a::box o 88 [zS b a.length c]::own 2 K j k d7::own 123 d5 d e d6::L) w) aN ?_)))))));obtain ⟨r1,l4,ho⟩:=aB hm
    refine bN [3,5,6,8,19,20,21,38,39] l4 (fun a8 a3 f w=>∃ a4,Hp.le q a4/\f 4=zS d a8.length e/\f 40=i64 a3/\aF G a4 (own 2 K b c a::box o 88 [zS b a.length c]::own 2 K Z a0 u::own 2 K j k m::own 123 a4 d e a8::L) w) ?_ ?_
    ·exact ⟨q,(zR _),f3,rfl,(aF.arr 3 [0,1] l3 rfl)⟩
    ·rintro a8 a3 l5 f r2 hm hr ⟨a4,a9,c3,c4,d8⟩
     unfold rE at hm
     refine aL (aD (cH c4 rfl) (aI (aK ?_)))
     rcases aM hm with ⟨d9,hm⟩|⟨d9,hm⟩
     ·refine aR d9 rfl (aW (aC (aK (bZ (aL (bA c4 ?_))))));obtain ⟨x,e0,hm⟩:=aB hm
      have l6:=bM d8 (i:=2) rfl e0
      refine aD (cB bF rfl l6 rfl rfl c4 e0) (aD (lH (t:=0) dJ d8 (i:=2) rfl e0 rfl rfl rfl) (aH (v:=i64 a3) (aH (v:=i64 x) (aI (aL (bA c3 (aG (v:=i64 p) (aG (v:=i64 x) (bO (Kt:=K) (xs:=([x]:List Int)) (cs:=[i64 x]) (vs:=[(0,i64 x)]) bF jV rfl rfl d8 rfl (by kernel_rfl) rfl rfl rfl ⟨rfl,trivial⟩ (fun e1 f8 (f9:aF G a4 (own 2 K e1 1 ([x]:List Int)::own 2 K b c a::box o 88 [zS b a.length c]::own 2 K Z a0 u::own 2 K j k m::own 123 a4 d e a8::L) f8)=>?_))))))))))
      obtain ⟨g0,e2,hm⟩:=aB hm
      have g1:=bM f9 (i:=5) rfl e2
      refine aD (cB eL rfl g1 rfl rfl rfl e2) (aD (aBi (k':=p.toNat * 3+2) lS g1 rfl rfl) ?_);obtain ⟨a2,b0,l7,e3⟩:=aF.giveSp f9 (zL (zL y J) a9) .head
      replace e3:aF G a2 (own 2 K b c a::box o 88 [zS b a.length c]::own 2 K Z a0 u::own 2 K j k m::own 123 a4 d e a8::L) f8:=e3
      obtain ⟨a5,c5,hm⟩:=aB hm
      refine eC (i:=4) (t:=2) (ns:=[zS e1 ([x]:List Int).length 1]) (e':=(⟨g0.Owner,g0.Priority,([x]:List Int)⟩:aO)) sizeOf88 e3 rfl b0 rfl rfl rfl e2 c5 rfl rfl (eB rfl) rfl (fun _ l8=>by obtain ⟨r3,r5,rfl,r6⟩:=l8;exact ⟨e1,1,rfl,l7⟩) (fun l9 (m0:aF G a2 (own 2 K b c a::box o 88 [zS b a.length c]::own 2 K Z a0 u::own 2 K j k m::own 123 a2 d e a5::L) l9)=>(aI (aK (bD [3,4,5,6,8,10,19,20,21,38,39,40] (fun f w=>∃ e4,rD m p a3 x a5 e4=some l5/\f 61=zB e4/\aF G a2 (own 2 K b c a::box o 88 [zS b a.length c]::own 2 K Z a0 u::own 2 K j k m::own 123 a2 d e a5::L) w) ?_ ?_))))
      ·rintro f r7 ⟨e4,hm,g2,e5⟩
       unfold rD at hm
       refine aC ?_
       rcases aM hm with ⟨e6,hm⟩|⟨e6,hm⟩
       ·refine aR e6 g2 (aL (bA c8 (aG (v:=i64 p) (aG (v:=i64 x) ?_))));obtain ⟨r8,e7,hm⟩:=aB hm
        have m1:=bM e5 (i:=3) rfl e7
        refine aD (cB bF rfl m1 rfl rfl rfl e7) ?_;obtain ⟨e8,g3,hm⟩:=aB hm
        refine eC (i:=3) (t:=0) (ns:=[i64 x]) (e':=(x:Int)) sizeOf2 e5 rfl (zL (zL (zL y J) a9) b0) rfl rfl rfl e7 g3 rfl rfl (eB rfl) rfl (fun cs h=>by cases h;rfl) (fun m2 (m3:aF G a2 (own 2 K b c a::box o 88 [zS b a.length c]::own 2 K Z a0 u::own 2 K j k e8::own 123 a2 d e a5::L) m2)=>(aI (yO (aOr rfl (gZ (gZ ?_))))))
        have m4:=hr _ (zI hm).symm
        subst m4
        have hm:(xU p a5 e8)=some b8:=ho
        clear hr ho
        exact vB (aC ⟨bG,a2,a5,e8,(zL a9 b0),hm,(Eq.trans c3 (congrArg (fun n=>zS d n e) (dH c5))),(Eq.trans c8 (congrArg (fun n=>zS j n k) (dH g3))),(aF.arr 3 [0,1] m3 rfl)⟩)
       ·exact aX e6 g2 (aW (bW (aC (aU (aD (cJ c4 rfl) (aG (v:=i64 (wr (a3+1))) (aI ⟨_,(zI hm).symm,bG,a2,(zL a9 b0),(Eq.trans c3 (congrArg (fun n=>zS d n e) (dH c5))),rfl,e5⟩)))))))
      obtain ⟨r9,e9,m5,s0,g4⟩:=aF.lendBp m0 zt1
      refine aGG [(0,0),(1,0),(2,0),(3,0),(4,0),(5,0),(6,0),(8,0),(7,1),(9,1),(10,0)] fun s1 b1=>?_;refine aZ rfl (fun _ _=>aV (v:=i64 a3) rfl) (aZ rfl (fun _ _=>aV (v:=zS Z u.length a0) rfl) (aZ rfl (fun _ _=>bC (len:=u.length) bF rfl) (aZ rfl (fun _ _=>oX rfl rfl) (aZ rfl (fun _ _=>kK rfl rfl) (aZ rfl (fun _ _=>aV (v:=zB (a3 == (wr ((u.length:Int) - 1)))) rfl) ?_)))))
      rcases aM hm with ⟨z,hm⟩|⟨z,hm⟩
      ·refine aPo rfl rfl rfl (off_t z) (aPo rfl rfl rfl (off_t z) (fR rfl (eG (g:=56) z (by exact rfl) rfl (aY (aC ⟨⟨_,b1⟩,?_⟩)))))
       refine fR rfl (eG (g:=56) z (by exact rfl) rfl (aY (aC ⟨⟨_,b1⟩,?_⟩)))
       refine aZ rfl (fun _ _=>fN (v:=zB true) z rfl rfl) (lV ?_)
       have s2:=g4 _ _ b1
       exact aN
      ·refine WE_vg rfl rfl rfl (aHz z) (fun _ _=>aV (v:=zS d a5.length e) (Eq.trans c3 (congrArg (fun n=>zS d n e) (dH c5)))) (WE_vg rfl rfl rfl (aHz z) (fun _ ⟨_,b1⟩=>bE (t:=0) oZ b1 m5 rfl rfl) (fR rfl (cR z rfl rfl ?_)));obtain ⟨s3,s4,m6,m7,m8⟩:=aF.lendSp b1 e9 zt3
       obtain ⟨s5,m9,hm⟩:=aB hm
       refine aAZ call73 (vW m9 m7 m6) ?_
       rintro _ s6 ⟨s7,s8,rfl,n0⟩
       have g5:=m8 _ _ n0
       refine aY (aC ⟨⟨_,g5⟩,?_⟩)
       refine fR rfl (cR z rfl rfl ?_);obtain ⟨s9,n1,n2,n3,n4⟩:=aF.lendSp g5 (zL (zL (zL (zL y J) a9) b0) e9) zt1
       obtain ⟨t0,n5,n6,n7,n8⟩:=aF.lendSp n3 (zL (zL (zL (zL (zL y J) a9) b0) e9) n1) zt1
       obtain ⟨n9,o0,hm⟩:=aB hm
       refine aAZ call95 (pK o0 n7 (n2.mono n5) n6) ?_
       rintro _ t1 ⟨rfl,o1⟩
       have o2:=n8 _ _ o1
       have g6:=n4 _ _ o2
       refine aY (aC ⟨⟨_,g6⟩,?_⟩)
       refine aZ rfl (fun _ _=>eJ (v:=zB n9) z rfl rfl) (lV ?_)
       have t2:=g4 _ _ g6
       exact aN
     ·refine aX d9 rfl (yO (gZ (gZ ?_)))
      have o3:=hr _ (zI hm).symm
      subst o3
      have hm:(xU p a8 m)=some b8:=ho
      exact aN
  ·refine aX c9 rfl (yO (gZ (gZ ?_)))
   have o4:=hr _ (zI hm).symm
   subst o4
   have hm:(aBI m)=some R:=ho
   exact aN
theorem rI {x_:gY} {a:Nat} {b:Bool} {k:Int} {R:Bool} (hm:nX x_ b k=some R) (c:aF G K (L) w) (d:dR K a1 a [zS a4 x_.f.length c5,i64 x_.t.N,i64 x_.t.I,zS a7 x_.t.L.length c8,zS a10 x_.t.E.length c11,zS a13 x_.equations.length c14,zS a16 x_.list.length c17,zS a19 x_.game.length c20,i64 x_.start]) (e:bI K a4 c5 x_.f) (g:bI K a7 c8 x_.t.L) (h:bI K a10 c11 x_.t.E) (i:bI K a13 c14 x_.equations) (j:bI K a16 c17 x_.list) (l:bI K a19 c20 x_.game):
  Calls prog 49 ([cE a1 a,zB b,i64 k]:List Value).toArray w (dL fun v w'=>v=zB R/\aF G K (L) w'):=by
 exact aN
theorem wV {a:(List Int)} {b:Int} {R:Bool} (hm:gX a b=some R) (c:aF G K (L) w) (d:bI K a1 c2 a):
  Calls prog 50 ([zS a1 a.length c2,i64 b]:List Value).toArray w (dL fun v w'=>v=zB R/\aF G K (L) w'):=by
 exact aN
theorem tN {x_:gY} {k2:Nat} {R:aFF} (hm:jG x_=some R) (hs:aF G K (L) w) (h3:dR K a1 k2 [zS a4 x_.f.length c5,i64 x_.t.N,i64 x_.t.I,zS a7 x_.t.L.length c8,zS a10 x_.t.E.length c11,zS a13 x_.equations.length c14,zS a16 x_.list.length c17,zS a19 x_.game.length c20,i64 x_.start]) (h6:bI K a4 c5 x_.f) (h9:bI K a7 c8 x_.t.L) (e9:bI K a10 c11 x_.t.E) (a3:bI K a13 c14 x_.equations) (b1:bI K a16 c17 x_.list) (c7:bI K a19 c20 x_.game):
  Calls prog 17 ([cE a1 k2]:List Value).toArray w (dL fun v w'=>∃ f0 f1 c9,v=Value.agg #[zB R.Verdict,zS f0 R.Rows.length f1]/\List.length c9=List.length R.Rows/\aF G K (own 88 K f0 f1 (cA c9 R.Rows)::rows [2] c9 R.Rows::L) w'):=by
 let d:=[zB false,zS none 0 0]
 refine aBM func17 ?_;unfold jG at hm
 refine aAW ?_;refine aEx fun e p9 h7=>?_
 refine aAW ?_;refine bD [0,2] (fun f w=>∃ a c,pN x_ a=some R/\f 3=zP (some ⟨c,0,none⟩)/\aF G K (box c 52 [zB a,zS none 0 0]::box e 52 d::L) w) ?_ ?_
 ·rintro f q0 ⟨a,c,hm,q1,h8⟩
  unfold pN at hm
  refine aAW ?_;obtain ⟨k,i0,hm⟩:=aB hm
  refine aAZ call48 (aHh i0 h8 c7) ?_
  rintro _ q2 ⟨l,m,rfl,i1⟩
  refine aAW ?_;refine aD (bE (t:=8) sc_3 i1 h3 rfl rfl) (aCp ([x_.start]:List Int) fun q3 q4 q5=>?_)
  refine aAW ?_;refine aS [0,2,3,4] (fun f w=>∃ z b2 q r,Hp.le K z/\qU x_ a k b2=some R/\f 5=zS q b2.length r/\aF G z (own 2 K q r b2::own 2 K l m k::box c 52 [zB a,zS none 0 0]::box e 52 d::L) w) ?_ ?_
  ·rintro f q6 ⟨z,b2,q,r,y,hm,i2,i3⟩
   unfold qU at hm
   refine aAW ?_;obtain ⟨a0,i4,hm⟩:=aB hm
   refine aAZ call51 (aIa i3 i4) ?_
   rintro _ i5 ⟨rfl,i6,i7⟩
   iterate 5 refine aBh ?_
   refine bA (v:=zS q a0.length r) (Eq.trans i2 (congrArg (fun n=>zS q n r) i6)) (aAW ?_);refine aS [2,3] (fun f w=>∃ a5 f2 f3 d0,aCc a a5=some R/\List.length d0=List.length a5/\aF G z (own 88 K f2 f3 (cA d0 a5)::rows [2] d0 a5::box c 52 [zB a,zS f2 a5.length f3]::box e 52 d::L) w) aN ?_
   have i8:aF G z (own 88 K none 0 (cA ([]:List (Dp.Hd (List Int))) ([]:List (List Int)))::rows [2] ([]:List (Dp.Hd (List Int))) ([]:List (List Int))::own 2 K q r a0::own 2 K l m k::box c 52 [zB a,zS none 0 0]::box e 52 d::L) i5:=aF.nil (α:=aOv _) (aF.rowsNil (α:=(List Int)) (tys:=[2]) i7) 88 K
   obtain ⟨q7,i9,ho⟩:=aB hm
   refine bN [0,2,3,4,85,86] i9 (fun b d1 f w=>∃ u x g,f 87=i64 d1/\List.length g=List.length b/\aF G z (own 88 K u x (cA g b)::rows [2] g b::own 2 K q r a0::own 2 K l m k::box c 52 [zB a,zS u b.length x]::box e 52 d::L) w) ?_ ?_
   ·exact ⟨none,0,[],rfl,rfl,i8⟩
   ·rintro b d1 j0 f q8 hm hr ⟨u,x,g,j1,f4,f5⟩
    unfold fW at hm
    refine aAW ?_
    rcases aM hm with ⟨j2,hm⟩|⟨j2,hm⟩
    ·refine aAW ?_;refine bZ (aAW ?_)
     obtain ⟨q9,f6,hm⟩:=aB hm
     have j3:=bM f5 (i:=2) rfl f6
     refine aD (cB bF rfl j3 rfl rfl j1 f6) (aAW ?_);obtain ⟨r0,j4,hm⟩:=aB hm
     refine aAW ?_;obtain ⟨r1,r2,j5⟩:=bI.el (sz:=1) rfl b1 j4
     obtain ⟨r3,r4,rfl,j6⟩:=j5
     refine aAW ?_;obtain ⟨r5,j7,hm⟩:=aB hm
     refine aAZ call52 (dK j7 f5 (j6.mono y)) ?_
     rintro _ r6 ⟨r7,r8,rfl,j8⟩
     iterate 3 refine aBh ?_
     refine gQ [0,2,3,4,85,86,87] (fun f w=>∃ J o p,mY b d1 J=some j0/\f 12=zS o J.length p/\aF G z (own 2 K o p J::own 88 K u x (cA g b)::rows [2] g b::own 2 K q r a0::own 2 K l m k::box c 52 [zB a,zS u b.length x]::box e 52 d::L) w) ?_ ?_
     ·rintro f j9 ⟨J,o,p,hm,r9,k0⟩
      unfold mY at hm
      refine aAW ?_
      have k1:aF G z (rows [2] ([(o,p)]:List (Dp.Hd (List Int))) [J]::own 88 K u x (cA g b)::rows [2] g b::own 2 K q r a0::own 2 K l m k::box c 52 [zB a,zS u b.length x]::box e 52 d::L) j9:=aF.rowsOne k0
      refine bO (Kt:=K) (xs:=cA ([(o,p)]:List (Dp.Hd (List Int))) ([J]:List (List Int))) (cs:=[zS o J.length p]) (vs:=[(0,zS o J.length p)]) qD aHI rfl rfl k1 rfl (by kernel_rfl) rfl rfl rfl ⟨rfl,trivial⟩ ?_
      intro k3 k4 (k5:aF G z (own 88 K k3 1 (cA ([(o,p)]:List (Dp.Hd (List Int))) ([J]:List (List Int)))::rows [2] ([(o,p)]:List (Dp.Hd (List Int))) ([J]:List (List Int))::own 88 K u x (cA g b)::rows [2] g b::own 2 K q r a0::own 2 K l m k::box c 52 [zB a,zS u b.length x]::box e 52 d::L) k4)
      obtain ⟨f7,f8,hm⟩:=aB hm
      refine WO_appD (i:=0) (tys:=[2]) (hds:=g) (hds2:=([(o,p)]:List (Dp.Hd (List Int)))) qD underlying50 aHI rfl rfl k5 f4 rfl rfl rfl f8 rfl rfl rfl rfl ?_
      intro f9 g0 k6 (s0:aF G z (own 88 K f9 g0 (cA (g++([(o,p)]:List (Dp.Hd (List Int)))) f7)::rows [2] (g++([(o,p)]:List (Dp.Hd (List Int)))) f7::own 2 K q r a0::own 2 K l m k::box c 52 [zB a,zS u b.length x]::box e 52 d::L) k6)
      refine aAW ?_;refine aFy fun s1 k7=>?_
      refine aAW ?_;exact ⟨_,(zI hm).symm,bG,f9,g0,(g++([(o,p)]:List (Dp.Hd (List Int)))),rfl,(app_len f4 rfl f8),k7⟩
     refine aAW ?_;obtain ⟨s2,k8,hm⟩:=aB hm
     refine aAZ call49 (rI k8 j8 (h3.mono y) (h6.mono y) (h9.mono y) (e9.mono y) (a3.mono y) (b1.mono y) (c7.mono y)) ?_
     rintro _ s3 ⟨rfl,k9⟩
     refine aAW ?_
     rcases aM hm with ⟨l0,hm⟩|⟨l0,hm⟩
     ·refine aAW ?_;obtain ⟨l1,g1,g2,s4,l2⟩:=aF.lendSp k9 y zt4
      refine aGG [(0,0),(1,0),(2,0),(3,0),(4,0),(5,0),(6,0),(7,0),(8,0),(9,0),(10,0),(11,1),(12,0)] fun s5 l3=>?_;refine aAW ?_
      obtain ⟨s6,d2,hm⟩:=aB hm
      have l4:=wF g2 d2
      refine aZ rfl (fun _ _=>cB bF rfl l4 rfl rfl rfl d2) ?_;obtain ⟨s7,s8,l5⟩:=bI.el (sz:=1) rfl g2 d2
      cases l5
      refine aAW ?_;obtain ⟨s9,l6,hm⟩:=aB hm
      refine aAW ?_;obtain ⟨t0,t1,l7⟩:=bI.el (sz:=1) rfl b1 l6
      obtain ⟨t2,t3,rfl,l8⟩:=l7
      refine aAW ?_;refine fR rfl ?_
      obtain ⟨l9,m0,hm⟩:=aB hm
      refine aFg (Ke:=K) (i:=0) bF underlying88 jV rfl rfl l3 rfl (zL y g1) (l8.mono (zL y g1)) m0 rfl rfl rfl rfl (fun m1 m2 m3 (g3:aF G l1 (own 2 K m1 m2 l9::own 88 K u x (cA g b)::rows [2] g b::own 2 K q r a0::box c 52 [zB a,zS u b.length x]::box e 52 d::L) m3)=>(aY (aC ⟨⟨_,g3⟩,?_⟩)))
      refine aAW ?_;refine lV ?_
      have t4:=l2 _ _ g3
      exact aN
     ·exact aN
    ·exact aN
  obtain ⟨t5,m4,ho⟩:=aB hm
  refine bN [0,2,3,4] m4 (fun a6 a8 f w=>∃ a9 b3 b4,Hp.le K a9/\f 5=zS b3 a6.length b4/\f 6=i64 a8/\aF G a9 (own 2 K b3 b4 a6::own 2 K l m k::box c 52 [zB a,zS none 0 0]::box e 52 d::L) w) aN ?_
  ·rintro a6 a8 d3 f t6 hm hr ⟨a9,b3,b4,Z,t7,t8,g4⟩
   unfold fJ at hm
   refine aAW ?_
   rcases aM hm with ⟨m5,hm⟩|⟨m5,hm⟩
   ·refine aAW ?_;refine aS [0,2,3,4,6] (fun f w=>∃ b5 b6 b7 b8,Hp.le a9 b5/\qV a8 b6=some d3/\f 5=zS b7 b6.length b8/\aF G b5 (own 2 K b7 b8 b6::own 2 K l m k::box c 52 [zB a,zS none 0 0]::box e 52 d::L) w) ?_ ?_
    ·rintro f t9 ⟨b5,b6,b7,b8,m6,hm,m7,m8⟩
     unfold qV at hm
     refine aAW ?_;exact ⟨_,(zI hm).symm,bG,b5,b7,b8,(zL Z m6),m7,rfl,m8⟩
    refine aAW ?_;refine aOY ?_
    refine aAW ?_;obtain ⟨m9,b9,hm⟩:=aB hm
    have d4:=bM g4 (i:=0) rfl b9
    refine cW (fun _ g4=>cB bF rfl d4 rfl rfl rfl b9) (aAW ?_);obtain ⟨u0,n0,hm⟩:=aB hm
    refine aAW ?_;obtain ⟨u1,u2,n1⟩:=bI.el (sz:=3) rfl a3 n0
    obtain ⟨u3,u4,rfl,u5⟩:=n1
    refine aAW ?_;refine aAm (fun u6 d5=>?_)
    iterate 1 refine aBh ?_
    refine gQ [0,2,3,4,5,6] (fun f w=>∃ a2 c0 d6 d7,Hp.le a9 a2/\kA a6 a8 c0=some d3/\f 7=zS d6 c0.length d7/\bI a2 d6 d7 c0/\aF G a2 (own 2 K b3 b4 a6::own 2 K l m k::box c 52 [zB a,zS none 0 0]::box e 52 d::L) w) ?_ ?_
    ·rintro f u7 ⟨a2,c0,d6,d7,u8,hm,u9,v0,v1⟩
     unfold kA at hm
     refine aAW ?_;refine aS [0,2,3,4,6] (fun f w=>∃ d8 g5 g6,vT a8 d8=some d3/\f 5=zS g5 d8.length g6/\aF G a2 (own 2 K g5 g6 d8::own 2 K l m k::box c 52 [zB a,zS none 0 0]::box e 52 d::L) w) aN ?_
     obtain ⟨v2,n2,ho⟩:=aB hm
     refine bN [0,2,3,4,6,68,69] n2 (fun d9 e0 f w=>∃ e1 e2,f 5=zS e1 d9.length e2/\f 70=i64 e0/\aF G a2 (own 2 K e1 e2 d9::own 2 K l m k::box c 52 [zB a,zS none 0 0]::box e 52 d::L) w) aN ?_
     ·rintro d9 e0 n3 f v3 hm hr ⟨e1,e2,v4,v5,v6⟩
      unfold fX at hm
      refine aAW ?_
      rcases aM hm with ⟨n4,hm⟩|⟨n4,hm⟩
      ·refine aAW ?_;refine aS [0,2,3,4,6,68,69,70] (fun f w=>∃ c1 c2 c3,mZ e0 c1=some n3/\f 5=zS c2 c1.length c3/\aF G a2 (own 2 K c2 c3 c1::own 2 K l m k::box c 52 [zB a,zS none 0 0]::box e 52 d::L) w) ?_ ?_
       ·rintro f v7 ⟨c1,c2,c3,hm,n5,n6⟩
        unfold mZ at hm
        refine aAW ?_;exact ⟨_,(zI hm).symm,bG,c2,c3,n5,rfl,n6⟩
       exact aN
      ·exact aN
    refine aAW ?_;refine aOY ?_
    iterate 5 refine aBh ?_
    refine cW (fun _ d5=>cB bF rfl d4 rfl rfl rfl b9) (aAW ?_);obtain ⟨n7,n8,hm⟩:=aB hm
    refine aPm (vs:=[cE a1 k2,zB a,i64 m9]) (v:=zB n7) call49 rfl (fun _ d5=>(rI n8 d5 (h3.mono Z) (h6.mono Z) (h9.mono Z) (e9.mono Z) (a3.mono Z) (b1.mono Z) (c7.mono Z))) (aAm (fun v8 n9=>(aAW ?_)))
    rcases aM hm with ⟨o0,hm⟩|⟨o0,hm⟩
    ·iterate 5 refine aBh ?_
     refine aD (cB bF rfl d4 rfl rfl rfl b9) (aAW ?_);obtain ⟨o1,g7,hm⟩:=aB hm
     have o2:=bM n9 (i:=1) rfl g7
     refine aD (cB bF rfl o2 rfl rfl rfl g7) (aAW ?_);refine aCp ([o1]:List Int) fun v9 w0 o3=>?_
     obtain ⟨w1,w2,w3,w4⟩:=aF.giveSp o3 Z .head
     exact aN
    ·exact aN
   ·exact aN
 refine aBj (C:=fun w'=>∃ L',aF G K L' w') [] Tryz_mixed (by kernel_rfl) (fun w5 o4=>?_)
 have c4:=aF.mono h7 o4
 refine aDz 0 ?_;refine aDz 1 ?_
 refine aDz 2 ?_;refine aDz 3 ?_
 refine aDz 5 ?_;refine aDz 6 ?_
 refine aDz 7 ?_;refine iY (i:=8) rfl (by kernel_rfl) ⟨_,c4⟩ (fun _ ⟨_,c4⟩=>bE (t:=8) sc_3 c4 h3 rfl rfl) (aED (i:=4) (j:=12) (by kernel_rfl) rfl rfl ?_ ?_)
 ·obtain ⟨w6,o5,hm⟩:=aB hm
  refine aAZ call47 (aGF o5 c4 a3) ?_
  rintro _ w7 ⟨w8,w9,rfl,g8⟩
  refine aY (aC ⟨fun _=>⟨_,g8⟩,?_⟩)
  obtain ⟨o6,o7,g9,e3,x0⟩:=aF.lendSp g8 (zR _) .head
  refine aOC (C':=fun w'=>∃ L',aF G o6 L' w') (fun _ ⟨_,h⟩=>⟨_,aF.weakK h o7⟩) ⟨_,e3⟩ ?_;obtain ⟨h0,e4,hm⟩:=aB hm
  have o8:=wF g9 e4
  refine iY (i:=9) rfl (by kernel_rfl) ⟨_,e3⟩ (fun _ _=>cB cQ rfl o8 rfl rfl rfl e4) ?_;obtain ⟨x1,x2,o9⟩:=bI.el (sz:=1) rfl g9 e4
  cases o9
  refine aDz 10 ?_;refine iY (i:=11) rfl (by kernel_rfl) ⟨_,e3⟩ (fun _ _=>cO (vs:=[(0,zB h0)]) (cs:=[zB h0,zS none 0 0]) bs_52 rfl (by kernel_rfl)) (fK (i:=12) (by kernel_rfl) rfl (aEx fun x3 x4 p0=>?_))
  refine aY (aC ⟨fun _=>⟨_,p0⟩,?_⟩)
  refine fK (i:=13) (by kernel_rfl) rfl (aFy fun x5 p1=>?_);refine aY (aC ⟨fun _=>⟨_,p1⟩,?_⟩)
  exact sX (by kernel_rfl) aN
 ·refine aEx fun x6 x7 h1=>?_;refine aY (aC ⟨fun _=>⟨_,h1⟩,?_⟩)
  refine fK (i:=4) (by kernel_rfl) rfl ?_;obtain ⟨x8,p2,hm⟩:=aB hm
  refine aAZ call47 (aGF p2 h1 a3) ?_
  rintro _ x9 ⟨y0,y1,rfl,h2⟩
  refine aY (aC ⟨fun _=>⟨_,h2⟩,?_⟩)
  obtain ⟨p3,p4,h4,e5,y2⟩:=aF.lendSp h2 (zR _) .head
  refine aOC (C':=fun w'=>∃ L',aF G p3 L' w') (fun _ ⟨_,h⟩=>⟨_,aF.weakK h p4⟩) ⟨_,e5⟩ ?_;obtain ⟨h5,e6,hm⟩:=aB hm
  have p5:=wF h4 e6
  refine iY (i:=9) rfl (by kernel_rfl) ⟨_,e5⟩ (fun _ _=>cB cQ rfl p5 rfl rfl rfl e6) ?_;obtain ⟨y3,y4,p6⟩:=bI.el (sz:=1) rfl h4 e6
  cases p6
  refine aDz 10 ?_;refine iY (i:=11) rfl (by kernel_rfl) ⟨_,e5⟩ (fun _ _=>cO (vs:=[(0,zB h5)]) (cs:=[zB h5,zS none 0 0]) bs_52 rfl (by kernel_rfl)) (fK (i:=13) (by kernel_rfl) rfl (aFy fun y5 p7=>?_))
  refine aY (aC ⟨fun _=>⟨_,p7⟩,?_⟩)
  exact sX (by kernel_rfl) aN
theorem lB {a R:(List Edge)} (hm:cP a=some R) (t:aF G K (L) w) (b:bI K a1 c2 a):
  Calls prog 27 ([zS a1 a.length c2]:List Value).toArray w (dL fun v w'=>∃ c d,v=zS c R.length d/\aF G K (own 68 K c d R::L) w'):=by
 refine aBM func27 ?_;unfold cP at hm
 iterate 9 refine aBh ?_
 refine aD (aIF eW rfl rfl) (aAW ?_)
 rcases aFD b with ⟨h,j,k⟩|l
 ·subst h;subst j;subst k
  refine aHt rfl ?_
  replace hm:(some [])=some R:=hm
  exact aN
 ·refine aHu (Eq.trans rfl (congrArg zB l)) (aAW ?_);refine aCp ([]:List Edge) fun u x m=>?_
  refine aAW ?_;obtain ⟨n,o,hm⟩:=aB hm
  refine aFg (i:=0) eW underlying26 aEE rfl rfl m rfl (zR _) b o rfl rfl rfl rfl (fun e g p (q:aF G K (own 68 K e g n::L) p)=>(aAW ?_));obtain rfl:=zI hm
  exact aOM results27 ⟨e,g,rfl,q⟩
theorem xD {a R:(List aJ)} (hm:iC a=some R) (t:aF G K (L) w) (b:bI K a1 c2 a):
  Calls prog 53 ([zS a1 a.length c2]:List Value).toArray w (dL fun v w'=>∃ c d,v=zS c R.length d/\aF G K (own 9 K c d R::L) w'):=by
 refine aBM func53 ?_;unfold iC at hm
 iterate 9 refine aBh ?_
 refine aD (aIF lI rfl rfl) (aAW ?_)
 rcases aFD b with ⟨h,j,k⟩|l
 ·subst h;subst j;subst k
  refine aHt rfl ?_
  replace hm:(some [])=some R:=hm
  exact aN
 ·refine aHu (Eq.trans rfl (congrArg zB l)) (aAW ?_);refine aCp ([]:List aJ) fun u x m=>?_
  refine aAW ?_;obtain ⟨n,o,hm⟩:=aB hm
  refine aFg (i:=0) lI underlying25 aIY rfl rfl m rfl (zR _) b o rfl rfl rfl rfl (fun e g p (q:aF G K (own 9 K e g n::L) p)=>(aAW ?_));obtain rfl:=zI hm
  exact aOM results53 ⟨e,g,rfl,q⟩
theorem vX {t:cN} {edges:(List Edge)} {R:cN} (hm:nO t edges=some R) (g:aF G K (L) w) (h:bI K a1 c2 t.L) (i:bI K a4 c5 t.E) (j:bI K a7 c8 edges):
  Calls prog 18 ([Value.agg (zCa t a1 c2 a4 c5),zS a7 edges.length c8]:List Value).toArray w (dL fun v w'=>∃ a b c d,v=Value.agg (zCa R a b c d)/\aF G K (own 9 K a b R.L::own 68 K c d R.E::L) w'):=by
 refine aBM func18 ?_;unfold nO at hm
 refine aAW ?_;refine aGg fun k l m=>?_
 refine aEx fun n o e=>?_;refine aAW ?_
 obtain ⟨p,q,r,u,x⟩:=aF.lendBp e zt1
 refine aGG [(0,0),(1,0),(2,0),(3,0),(4,0),(5,0),(7,0),(6,1),(8,1),(9,0),(10,2)] fun y z=>?_;exact aN
end Gv
