/- Walks, printed by program. -/
import Derived.Test.YtffnhnhfedmjcaaGreatDoorJWk9
set_option linter.all false
namespace Gv
open Gv.Hp renaming le_refl→zR
open Go.Value renaming slice→zS,bool→zB,agg→zA,tuple→zT
open Option.some renaming inj→zI
open Gv.Hp renaming le_trans→zL
open Go Go.Proofs Go.Proofs.Tryz
set_option maxRecDepth 20000
set_option maxHeartbeats 40000000
variable {G:yU} {K:Hp} {L:List jN} {w:World} {a1 a4 a7 a10:Option Addr} {c2 c5 c8 c11:Nat}
theorem aEY {t:bA} {p R:(List Int)} (hm:zW t p=some R) (hs:aD G K (L) w) (h3:bE K a1 c2 t.L) (h6:bE K a4 c5 t.E) (h9:bE K a7 c8 p):
  Calls prog 68 ([zA (zCa t a1 c2 a4 c5),zS a7 p.length c8]:List Value).toArray w (eQ fun v w'=>∃ g8 g9,v=zS g8 R.length g9/\aD G K (aG 2 K g8 g9 R::L) w'):=by
 let J:=(zC t a1 c2 a4 c5)
 refine aFe func68 ?_;unfold zW at hm
 refine aCk ?_;refine aKb fun V r8 k4=>?_
 refine aCk ?_;obtain ⟨a,h0,hm⟩:=aB hm
 refine WO_mkD (tys:=[2]) (hd:=((none,0):Dp.Hd (List Int))) iG aAb rfl rfl k4 rfl rfl rfl h0 rfl (pcs_nil _) ?_
 intro b k5 (k6:aD G K (aG 29 K b a.length (aT (List.replicate t.N.toNat ((none,0):Dp.Hd (List Int))) a)::rows [2] (List.replicate t.N.toNat ((none,0):Dp.Hd (List Int))) a::box V 35 J::L) k5)
 refine aCk ?_;refine aU [1,2] (fun f w=>∃ d h,aAQ t p d=some R/\f 5=zS b d.length a.length/\List.length h=List.length d/\aD G K (aG 29 K b a.length (aT h d)::rows [2] h d::box V 35 J::L) w) ?_ ?_
 ·rintro f r9 ⟨d,h,hm,s0,s1,k7⟩
  unfold aAQ at hm
  refine aCk ?_;obtain ⟨e,h1,hm⟩:=aB hm
  refine WO_mkD (tys:=[2]) (hd:=((none,0):Dp.Hd (List Int))) iG aAb rfl rfl k7 rfl rfl rfl h1 rfl (pcs_nil _) ?_
  intro k k8 (k9:aD G K (aG 29 K k e.length (aT (List.replicate t.N.toNat ((none,0):Dp.Hd (List Int))) e)::rows [2] (List.replicate t.N.toNat ((none,0):Dp.Hd (List Int))) e::aG 29 K b a.length (aT h d)::rows [2] h d::box V 35 J::L) k8)
  refine aCk ?_;refine aU [5] (fun f w=>∃ l m,aAO d l=some R/\f 8=zS k l.length e.length/\List.length m=List.length l/\aD G K (aG 29 K k e.length (aT m l)::rows [2] m l::aG 29 K b a.length (aT h d)::rows [2] h d::L) w) ?_ ?_
  ·rintro f s2 ⟨l,m,hm,s3,d3,s4⟩
   unfold aAO at hm
   refine aCk ?_;refine aU [] (fun f w=>∃ b1 d4,aAM b1=some R/\f 5=zS b b1.length a.length/\List.length d4=List.length b1/\aD G K (aG 29 K b a.length (aT d4 b1)::rows [2] d4 b1::L) w) ?_ ?_
   ·rintro f s5 ⟨b1,d4,hm,s6,l0,l1⟩
    unfold aAM at hm
    refine aCk ?_;obtain ⟨s7,s8,l2,s9,l3,l4⟩:=aD.lendD' (i:=0) l1 l0 rfl rfl
    obtain ⟨t0,l5,hm⟩:=aB hm
    refine aED call120 (aBV l5 l3 l2) ?_
    rintro _ t1 ⟨l6,l7,rfl,l8⟩
    have l9:=l4 _ _ l8
    refine aCk ?_;obtain rfl:=zI hm
    exact aMD results68 ⟨l6,l7,rfl,(aD.arr 2 [] l9 rfl)⟩
   obtain ⟨t2,m1,ho⟩:=aB hm
   refine vX [62,63] m1 (fun x d5 r f w=>∃ o,f 5=zS b x.length a.length/\f 64=i64 r/\List.length o=List.length x/\aD G K (aG 29 K k e.length (aT m l)::rows [2] (List.drop d5 m) (List.drop d5 l)::aG 29 K b a.length (aT o x)::rows [2] o x::L) w) aP ?_
   ·rintro x d5 r m2 f m3 hm hr ⟨o,h2,m4,a3,e9⟩
    unfold mZ at hm
    refine aCk ?_
    rcases aS hm with ⟨m5,hm⟩|⟨m5,hm⟩
    ·refine aCk ?_;refine dE (aCk ?_)
     obtain ⟨m6,c4,hm⟩:=aB hm
     obtain ⟨⟨f0,f1⟩,f2⟩:=aFX d3 c4
     have m7:=dJ e9 (i:=0) rfl (lT d3 c4 f2)
     refine aF (fI iG rfl m7 rfl rfl m4 c4) (aF (qD (t:=0) tV e9 (i:=0) rfl (lT d3 c4 f2) rfl rfl rfl) ?_);obtain ⟨u,m8,hm⟩:=aB hm
     have m9:aD G K (aG 2 K f0 f1 m6::aG 29 K k e.length (aT m l)::rows [2] (List.drop u m) (List.drop u l)::aG 29 K b a.length (aT o x)::rows [2] o x::L) m3:=aD.eatR (i:=0) (g:=d5) e9 rfl rfl d3 f2 c4 m8
     refine aCk ?_;obtain ⟨n0,n1,hm⟩:=aB hm
     refine aED call100 (aBj m9 n1) ?_
     rintro _ t3 ⟨rfl,n2,n3⟩
     refine aCk ?_;refine cI [62,63,64] (fun f w=>∃ b2 c6,aAN r u b2=some m2/\f 5=zS b b2.length a.length/\List.length c6=List.length b2/\aD G K (aG 29 K k e.length (aT m l)::rows [2] (List.drop u m) (List.drop u l)::aG 29 K b a.length (aT c6 b2)::rows [2] c6 b2::L) w) ?_ ?_
     ·rintro f t4 ⟨b2,c6,hm,n4,n5,n6⟩
      unfold aAN at hm
      refine aCk ?_;exact ⟨_,(zI hm).symm,cE,c6,n4,rfl,n5,n6⟩
     refine pY (C:=fun w'=>∃ L',aD G K L' w') [10] Tryz_mixed (by kernel_rfl) (fun t5 n7=>?_)
     have a8:=aD.mono n3 n7
     refine aGy 0 ?_;refine aGy 1 ?_
     refine aGy 2 ?_;refine aGy 3 ?_
     obtain ⟨d6,a0,hm⟩:=aB hm
     obtain ⟨⟨d7,d8⟩,a9⟩:=aFX a3 a0
     have f3:=dJ a8 (i:=3) rfl (lT a3 a0 a9)
     refine dH (i:=4) rfl (by kernel_rfl) ⟨_,a8⟩ (fun _ _=>fI iG rfl f3 rfl rfl rfl a0) (dH (i:=6) rfl (by kernel_rfl) ⟨_,a8⟩ (fun _ _=>aY (v:=zS f0 n0.length f1) (Eq.trans rfl (congrArg (fun n=>zS f0 n f1) n2))) (oT (i:=5) (j:=7) (by kernel_rfl) rfl rfl ?_ ?_))
     ·refine aF (qD (t:=0) tV a8 (i:=3) rfl (lT a3 a0 a9) rfl rfl rfl) (aR (aC ⟨fun _=>⟨_,a8⟩,?_⟩))
      refine bI (i:=7) (by kernel_rfl) rfl ?_;obtain ⟨h4,n8,hm⟩:=aB hm
      refine aED call101 (eC n8 a8) ?_
      rintro _ h5 ⟨h7,h8,rfl,i0⟩
      refine aR (aC ⟨fun _=>⟨_,i0⟩,?_⟩)
      refine bI (i:=8) (by kernel_rfl) rfl ?_
      have t6:aD G K (aG 29 K b a.length (aT o x)::rows [2] ((o).eraseIdx r.toNat) ((x).eraseIdx r.toNat)::aG 2 K d7 d8 d6::aG 2 K h7 h8 h4::aG 29 K k e.length (aT m l)::rows [2] (List.drop u m) (List.drop u l)::L) h5:=aD.focusR (i:=3) i0 rfl rfl a9 a0
      obtain ⟨i1,t7,hm⟩:=aB hm
      have t8:aD G K (aG 2 K h7 h8 h4::aG 29 K b a.length (aT o x)::rows [2] ((o).eraseIdx r.toNat) ((x).eraseIdx r.toNat)::aG 2 K d7 d8 d6::aG 29 K k e.length (aT m l)::rows [2] (List.drop u m) (List.drop u l)::L) h5:=aKa
      refine aMq fun b3 b4 n9 i2=>?_;refine aR (aC ⟨fun _=>⟨_,i2⟩,?_⟩)
      refine dH (i:=9) rfl (by kernel_rfl) ⟨_,i2⟩ (fun _ _=>fI iG rfl f3 rfl rfl rfl a0) (bI (i:=10) (by kernel_rfl) rfl ?_)
      have o0:aD G K (aG 2 K b3 b4 i1::aG 29 K b a.length (aT o x)::rows [2] ((o).eraseIdx r.toNat) ((x).eraseIdx r.toNat)::aG 29 K k e.length (aT m l)::rows [2] (List.drop u m) (List.drop u l)::L) n9:=aKa
      obtain ⟨f4,f5,hm⟩:=aB hm
      refine aNV (i:=0) (tys:=[2]) (hd':=(b3,b4)) (e':=i1) (hds:=o) sizeOf29 o0 a3 rfl rfl rfl rfl rfl a0 a9 f5 rfl ?_
      intro o1 (t9:aD G K (aG 29 K b a.length (aT (List.set o r.toNat (b3,b4)) f4)::rows [2] (List.set o r.toNat (b3,b4)) f4::aG 29 K k e.length (aT m l)::rows [2] (List.drop u m) (List.drop u l)::L) o1)
      refine aR (aC ⟨aCe rfl,?_⟩)
      refine iC (by kernel_rfl) (aCk ?_);exact ⟨cE,f4,(List.set o r.toNat (b3,b4)),hm,(Eq.trans h2 (congrArg (fun n=>zS b n a.length) (iS f5))),(aHx (hd:=((b3,b4):Dp.Hd (List Int))) a3 f5),aKa⟩
     ·obtain ⟨i3,o2,hm⟩:=aB hm
      refine aED call101 (eC o2 a8) ?_
      rintro _ i4 ⟨i5,i6,rfl,d9⟩
      refine aR (aC ⟨fun _=>⟨_,d9⟩,?_⟩)
      refine bI (i:=5) (by kernel_rfl) rfl (aF (qD (t:=0) tV d9 (i:=3) rfl (lT a3 a0 a9) rfl rfl rfl) (aR (aC ⟨fun _=>⟨_,d9⟩,?_⟩)))
      refine bI (i:=8) (by kernel_rfl) rfl ?_
      have u0:aD G K (aG 29 K b a.length (aT o x)::rows [2] ((o).eraseIdx r.toNat) ((x).eraseIdx r.toNat)::aG 2 K d7 d8 d6::aG 2 K i5 i6 i3::aG 29 K k e.length (aT m l)::rows [2] (List.drop u m) (List.drop u l)::L) i4:=aD.focusR (i:=3) d9 rfl rfl a9 a0
      obtain ⟨i7,u1,hm⟩:=aB hm
      have u2:aD G K (aG 2 K i5 i6 i3::aG 29 K b a.length (aT o x)::rows [2] ((o).eraseIdx r.toNat) ((x).eraseIdx r.toNat)::aG 2 K d7 d8 d6::aG 29 K k e.length (aT m l)::rows [2] (List.drop u m) (List.drop u l)::L) i4:=aKa
      refine aMq fun b5 b6 o3 i8=>?_;refine aR (aC ⟨fun _=>⟨_,i8⟩,?_⟩)
      refine dH (i:=9) rfl (by kernel_rfl) ⟨_,i8⟩ (fun _ _=>fI iG rfl f3 rfl rfl rfl a0) (bI (i:=10) (by kernel_rfl) rfl ?_)
      have o4:aD G K (aG 2 K b5 b6 i7::aG 29 K b a.length (aT o x)::rows [2] ((o).eraseIdx r.toNat) ((x).eraseIdx r.toNat)::aG 29 K k e.length (aT m l)::rows [2] (List.drop u m) (List.drop u l)::L) o3:=aKa
      obtain ⟨f6,f7,hm⟩:=aB hm
      refine aNV (i:=0) (tys:=[2]) (hd':=(b5,b6)) (e':=i7) (hds:=o) sizeOf29 o4 a3 rfl rfl rfl rfl rfl a0 a9 f7 rfl ?_
      intro o5 (u3:aD G K (aG 29 K b a.length (aT (List.set o r.toNat (b5,b6)) f6)::rows [2] (List.set o r.toNat (b5,b6)) f6::aG 29 K k e.length (aT m l)::rows [2] (List.drop u m) (List.drop u l)::L) o5)
      refine aR (aC ⟨aCe rfl,?_⟩)
      refine iC (by kernel_rfl) (aCk ?_);exact ⟨cE,f6,(List.set o r.toNat (b5,b6)),hm,(Eq.trans h2 (congrArg (fun n=>zS b n a.length) (iS f7))),(aHx (hd:=((b5,b6):Dp.Hd (List Int))) a3 f7),aKa⟩
    ·exact aP
  obtain ⟨u4,o6,ho⟩:=aB hm
  refine cQ [1,2,5,33,34] o6 (fun y f8 f w=>∃ q,f 8=zS k y.length e.length/\f 35=i64 f8/\List.length q=List.length y/\aD G K (aG 29 K k e.length (aT q y)::rows [2] q y::aG 29 K b a.length (aT h d)::rows [2] h d::box V 35 J::L) w) ?_ ?_
  ·exact ⟨(List.replicate t.N.toNat ((none,0):Dp.Hd (List Int))),rfl,rfl,(aJD (hd:=((none,0):Dp.Hd (List Int))) h1).2.1,k9⟩
  ·rintro y f8 o7 f u5 hm hr ⟨q,i9,u6,a5,u7⟩
   unfold nA at hm
   refine aCk ?_
   rcases aS hm with ⟨o8,hm⟩|⟨o8,hm⟩
   ·refine aCk ?_;refine dE (aCk ?_)
    obtain ⟨c,o9,hm⟩:=aB hm
    refine aCk ?_;obtain ⟨u8,u9,p0⟩:=bE.el (sz:=3) rfl h6 o9
    cases p0
    refine aCk ?_;refine aFm fun e0 v0 v1=>?_
    refine aJz fun v2 p1=>?_;refine aCk ?_
    refine cI [1,2,5,33,34,35] (fun f w=>∃ b7 c7,aAP f8 b7=some o7/\f 8=zS k b7.length e.length/\List.length c7=List.length b7/\aD G K (aG 29 K k e.length (aT c7 b7)::rows [2] c7 b7::aG 29 K b a.length (aT h d)::rows [2] h d::box V 35 J::L) w) ?_ ?_
    ·rintro f v3 ⟨b7,c7,hm,p2,p3,p4⟩
     unfold aAP at hm
     refine aCk ?_;exact ⟨_,(zI hm).symm,cE,c7,p2,rfl,p3,p4⟩
    obtain ⟨v4,v5,e1,p5,j0⟩:=aD.lendBp p1 .head
    obtain ⟨c9,e2,v6,p6,j1⟩:=aD.lendBp p5 zt4
    refine pY (C:=fun w'=>∃ L',aD G c9 L' w') [22] Tryz_mixed (by kernel_rfl) (fun v7 p7=>?_)
    have z:=aD.mono p6 p7
    refine aGy 0 ?_;refine aGy 1 ?_
    refine dH (i:=2) rfl (by kernel_rfl) ⟨_,z⟩ (fun _ ⟨_,z⟩=>bG (t:=0) eG z (e1.mono e2) rfl rfl) (aGy 3 ?_);refine aGy 4 ?_
    refine dH (i:=5) rfl (by kernel_rfl) ⟨_,z⟩ (fun _ ⟨_,z⟩=>bG (t:=0) eG z (e1.mono e2) rfl rfl) ?_;obtain ⟨e3,a2,hm⟩:=aB hm
    obtain ⟨⟨e4,e5⟩,b0⟩:=aFX a5 a2
    have f9:=dJ z (i:=0) rfl (lT a5 a2 b0)
    refine dH (i:=6) rfl (by kernel_rfl) ⟨_,z⟩ (fun _ _=>fI iG rfl f9 rfl rfl rfl a2) (aGy 8 ?_);refine dH (i:=9) rfl (by kernel_rfl) ⟨_,z⟩ (fun _ ⟨_,z⟩=>bG (t:=1) eG z (e1.mono e2) rfl rfl) (aGy 10 ?_)
    refine aGy 11 ?_;refine aGy 12 ?_
    refine aGy 13 ?_;refine aGy 14 ?_
    refine dH (i:=15) rfl (by kernel_rfl) ⟨_,z⟩ (fun _ ⟨_,z⟩=>bG (t:=2) eG z (e1.mono e2) rfl rfl) ?_;obtain ⟨b8,p8,hm⟩:=aB hm
    refine aGy 16 ?_;obtain ⟨v8,v9,p9⟩:=bE.el (sz:=1) rfl h9 p8
    cases p9
    refine aGy 17 ?_;refine aGy 18 ?_
    refine oT (i:=7) (j:=19) (by kernel_rfl) rfl rfl ?_ ?_
    ·refine aF (qD (t:=0) tV z (i:=0) rfl (lT a5 a2 b0) rfl rfl rfl) (aR (aC ⟨fun _=>⟨_,z⟩,?_⟩))
     refine bI (i:=19) (by kernel_rfl) rfl (aKc ([wr ((wr (c.B * t.N))+b8)]:List Int) fun j2 j3 j4=>?_);refine aR (aC ⟨fun _=>⟨_,j4⟩,?_⟩)
     refine bI (i:=20) (by kernel_rfl) rfl ?_
     have w0:aD G c9 (aG 29 K k e.length (aT q y)::rows [2] ((q).eraseIdx c.F.toNat) ((y).eraseIdx c.F.toNat)::aG 2 K e4 e5 e3::aG 2 K j2 1 ([wr ((wr (c.B * t.N))+b8)]:List Int)::aG 29 K b a.length (aT h d)::rows [2] h d::L) j3:=aD.focusR (i:=1) j4 rfl rfl b0 a2
     obtain ⟨j5,w1,hm⟩:=aB hm
     have w2:aD G c9 (aG 2 K j2 1 ([wr ((wr (c.B * t.N))+b8)]:List Int)::aG 29 K k e.length (aT q y)::rows [2] ((q).eraseIdx c.F.toNat) ((y).eraseIdx c.F.toNat)::aG 2 K e4 e5 e3::aG 29 K b a.length (aT h d)::rows [2] h d::L) j3:=aKa
     refine aMq fun b9 c0 q0 g0=>?_;refine aR (aC ⟨fun _=>⟨_,g0⟩,?_⟩)
     refine dH (i:=21) rfl (by kernel_rfl) ⟨_,g0⟩ (fun _ _=>fI iG rfl f9 rfl rfl rfl a2) (bI (i:=22) (by kernel_rfl) rfl ?_)
     have q1:=j1 _ _ g0
     have w3:=j0 _ _ q1
     have q2:aD G K (aG 2 K b9 c0 j5::box e0 72 [i64 c.F,i64 c.B,i64 c.To]::box V 35 J::aG 29 K k e.length (aT q y)::rows [2] ((q).eraseIdx c.F.toNat) ((y).eraseIdx c.F.toNat)::aG 29 K b a.length (aT h d)::rows [2] h d::L) q0:=aKa
     obtain ⟨g1,g2,hm⟩:=aB hm
     refine aNV (i:=2) (tys:=[2]) (hd':=(b9,c0)) (e':=j5) (hds:=q) sizeOf29 q2 a5 rfl rfl rfl rfl rfl a2 b0 g2 rfl ?_
     intro q3 (w4:aD G K (aG 29 K k e.length (aT (List.set q c.F.toNat (b9,c0)) g1)::rows [2] (List.set q c.F.toNat (b9,c0)) g1::box e0 72 [i64 c.F,i64 c.B,i64 c.To]::box V 35 J::aG 29 K b a.length (aT h d)::rows [2] h d::L) q3)
     refine aR (aC ⟨aCe rfl,?_⟩)
     refine iC (by kernel_rfl) (aCk ?_);exact ⟨cE,g1,(List.set q c.F.toNat (b9,c0)),hm,(Eq.trans i9 (congrArg (fun n=>zS k n e.length) (iS g2))),(aHx (hd:=((b9,c0):Dp.Hd (List Int))) a5 g2),aKa⟩
    ·refine aKc ([wr ((wr (c.B * t.N))+b8)]:List Int) fun j6 j7 e6=>?_;refine aR (aC ⟨fun _=>⟨_,e6⟩,?_⟩)
     refine bI (i:=7) (by kernel_rfl) rfl (aF (qD (t:=0) tV e6 (i:=1) rfl (lT a5 a2 b0) rfl rfl rfl) (aR (aC ⟨fun _=>⟨_,e6⟩,?_⟩)))
     refine bI (i:=20) (by kernel_rfl) rfl ?_
     have w5:aD G c9 (aG 29 K k e.length (aT q y)::rows [2] ((q).eraseIdx c.F.toNat) ((y).eraseIdx c.F.toNat)::aG 2 K e4 e5 e3::aG 2 K j6 1 ([wr ((wr (c.B * t.N))+b8)]:List Int)::aG 29 K b a.length (aT h d)::rows [2] h d::L) j7:=aD.focusR (i:=1) e6 rfl rfl b0 a2
     obtain ⟨j8,w6,hm⟩:=aB hm
     have w7:aD G c9 (aG 2 K j6 1 ([wr ((wr (c.B * t.N))+b8)]:List Int)::aG 29 K k e.length (aT q y)::rows [2] ((q).eraseIdx c.F.toNat) ((y).eraseIdx c.F.toNat)::aG 2 K e4 e5 e3::aG 29 K b a.length (aT h d)::rows [2] h d::L) j7:=aKa
     refine aMq fun c1 c3 q4 g3=>?_;refine aR (aC ⟨fun _=>⟨_,g3⟩,?_⟩)
     refine dH (i:=21) rfl (by kernel_rfl) ⟨_,g3⟩ (fun _ _=>fI iG rfl f9 rfl rfl rfl a2) (bI (i:=22) (by kernel_rfl) rfl ?_)
     have q5:=j1 _ _ g3
     have w8:=j0 _ _ q5
     have q6:aD G K (aG 2 K c1 c3 j8::box e0 72 [i64 c.F,i64 c.B,i64 c.To]::box V 35 J::aG 29 K k e.length (aT q y)::rows [2] ((q).eraseIdx c.F.toNat) ((y).eraseIdx c.F.toNat)::aG 29 K b a.length (aT h d)::rows [2] h d::L) q4:=aKa
     obtain ⟨g4,g5,hm⟩:=aB hm
     refine aNV (i:=2) (tys:=[2]) (hd':=(c1,c3)) (e':=j8) (hds:=q) sizeOf29 q6 a5 rfl rfl rfl rfl rfl a2 b0 g5 rfl ?_
     intro q7 (w9:aD G K (aG 29 K k e.length (aT (List.set q c.F.toNat (c1,c3)) g4)::rows [2] (List.set q c.F.toNat (c1,c3)) g4::box e0 72 [i64 c.F,i64 c.B,i64 c.To]::box V 35 J::aG 29 K b a.length (aT h d)::rows [2] h d::L) q7)
     refine aR (aC ⟨aCe rfl,?_⟩)
     refine iC (by kernel_rfl) (aCk ?_);exact ⟨cE,g4,(List.set q c.F.toNat (c1,c3)),hm,(Eq.trans i9 (congrArg (fun n=>zS k n e.length) (iS g5))),(aHx (hd:=((c1,c3):Dp.Hd (List Int))) a5 g5),aKa⟩
   ·exact aP
 obtain ⟨x0,q8,ho⟩:=aB hm
 refine cQ [1,2,16,17] q8 (fun d0 d1 f w=>∃ a6,f 5=zS b d0.length a.length/\f 18=i64 d1/\List.length a6=List.length d0/\aD G K (aG 29 K b a.length (aT a6 d0)::rows [2] a6 d0::box V 35 J::L) w) ?_ ?_
 ·exact ⟨(List.replicate t.N.toNat ((none,0):Dp.Hd (List Int))),rfl,rfl,(aJD (hd:=((none,0):Dp.Hd (List Int))) h0).2.1,k6⟩
 ·rintro d0 d1 x1 f x2 hm hr ⟨a6,q9,x3,e7,x4⟩
  unfold nB at hm
  refine aCk ?_
  rcases aS hm with ⟨r0,hm⟩|⟨r0,hm⟩
  ·refine aCk ?_;refine dE (aCk ?_)
   obtain ⟨j9,r1,hm⟩:=aB hm
   refine aCk ?_;obtain ⟨x5,x6,r2⟩:=bE.el (sz:=1) rfl h9 r1
   cases r2
   refine aCk ?_;refine aKc ([j9]:List Int) fun d2 x7 k0=>?_
   obtain ⟨x8,e8,hm⟩:=aB hm
   obtain ⟨⟨x9,y0⟩,k1⟩:=aFX e7 e8
   have r3:=dJ k0 (i:=1) rfl (lT e7 e8 k1)
   refine aF (fI iG rfl r3 rfl rfl rfl e8) ?_;obtain ⟨k2,g6,hm⟩:=aB hm
   refine WO_stD (i:=0) (tys:=[2]) (hd':=(d2,1)) (e':=([j9]:List Int)) (hds:=a6) sizeOf29 k0 e7 rfl rfl rfl rfl rfl e8 k1 g6 rfl ?_
   intro r4 (r5:aD G K (aG 29 K b a.length (aT (List.set a6 d1.toNat (d2,1)) k2)::rows [2] (List.set a6 d1.toNat (d2,1)) k2::box V 35 J::L) r4)
   refine aCk ?_;exact ⟨_,(zI hm).symm,cE,(List.set a6 d1.toNat (d2,1)),(Eq.trans q9 (congrArg (fun n=>zS b n a.length) (iS g6))),rfl,(aHx (hd:=((d2,1):Dp.Hd (List Int))) e7 g6),r5⟩
  ·exact aP
theorem aIf {n:Int} {a:bA} {R:(List (List Int))} (hm:aJg n a=some R) (hs:aD G K (L) w) (h3:bE K a1 c2 a.L) (h6:bE K a4 c5 a.E):
  Calls prog 67 ([i64 n,Value.func (.func 68) #[zA (zCa a a1 c2 a4 c5)] #[]]:List Value).toArray w (eQ fun v w'=>∃ J V y,v=zS J R.length V/\List.length y=List.length R/\aD G K (aG 29 K J V (aT y R)::rows [2] y R::L) w'):=by
 refine aFe func67 ?_;unfold aJg at hm
 refine aCk ?_;obtain ⟨o,q8,hm⟩:=aB hm
 refine aED call119 (aFj q8 hs) ?_
 rintro _ b5 ⟨h,j,rfl,b6⟩
 have b7:aD G K (rows [2] ([(h,j)]:List (Dp.Hd (List Int))) [o]::L) b5:=aD.rowsOne b6
 refine cZ (Kt:=K) (xs:=aT ([(h,j)]:List (Dp.Hd (List Int))) ([o]:List (List Int))) (cs:=[zS h o.length j]) (vs:=[(0,zS h o.length j)]) iG aAb rfl rfl b7 rfl (by kernel_rfl) rfl rfl rfl ⟨rfl,trivial⟩ ?_
 intro a0 b8 (b9:aD G K (aG 29 K a0 1 (aT ([(h,j)]:List (Dp.Hd (List Int))) ([o]:List (List Int)))::rows [2] ([(h,j)]:List (Dp.Hd (List Int))) ([o]:List (List Int))::L) b8)
 refine aCk ?_;refine dE ?_
 obtain ⟨f1,c0,ho⟩:=aB hm
 refine gI [1] c0 (fun c f w=>∃ k l b,f 5=zS k c.length l/\List.length b=List.length c/\aD G K (aG 29 K k l (aT b c)::rows [2] b c::L) w) ?_ ?_
 ·exact ⟨a0,1,([(h,j)]:List (Dp.Hd (List Int))),rfl,rfl,b9⟩
 ·rintro c f2 f f3 hm hr ⟨k,l,b,f4,g,z⟩
  unfold aEU at hm
  refine dE (aCk ?_);obtain ⟨q,p,hm⟩:=aB hm
  obtain ⟨⟨r,u⟩,x⟩:=aFX g p
  have c1:=dJ z (i:=0) rfl (lT g p x)
  refine aF (fI iG rfl c1 rfl rfl rfl p) (aF (qD (t:=0) tV z (i:=0) rfl (lT g p x) rfl rfl rfl) (aM (v:=zS r q.length u) (aI (aK (aJ (v:=Value.func (.func 68) #[zA (zCa a a1 c2 a4 c5)] #[]) (aJ (v:=zS r q.length u) ?_))))));obtain ⟨f5,a2,f6,c3,c4,c6⟩:=aD.lendD' (i:=0) z g rfl rfl
  obtain ⟨m,c7,hm⟩:=aB hm
  refine aNh (bs:=[zA (zCa a a1 c2 a4 c5)]) (vs:=[zS r q.length u]) (caps:=[]) (us:=[zA (zCa a a1 c2 a4 c5),zS r q.length u]) rfl call68 rfl rfl (aEY c7 c4 (h3.mono a2) (h6.mono a2) (aIo (c3 _ _ _ x (aIX p)))) ?_
  rintro _ f7 ⟨d,e,rfl,c8⟩
  have c9:=c6 _ _ c8
  refine aCk ?_;obtain ⟨f8,d0,f9,d1,d2,d3⟩:=aD.lendD' (i:=0) c9 g rfl rfl
  obtain ⟨g0,d4,d5,d6,d7⟩:=aD.lendSp d2 d0 .head
  obtain ⟨g1,d8,hm⟩:=aB hm
  refine aED call53 (lR d8 d6 ((aIo (d1 _ _ _ x (aIX p))).mono d4) d5) ?_
  rintro _ a3 ⟨rfl,d9⟩
  have e0:=d7 _ _ d9
  have a5:=d3 _ _ e0
  refine aCk ?_
  rcases aS hm with ⟨e1,hm⟩|⟨e1,hm⟩
  ·refine aCk ?_;refine nY (nE (aAm (nE ?_)))
   have e2:=hr _ (zI hm).symm
   subst e2
   have hm:(some c)=some R:=ho
   clear hr ho
   obtain rfl:=zI hm
   exact aAm (oH results67 rfl ⟨k,l,b,rfl,g,(aD.arr 3 [0,1] a5 rfl)⟩)
  ·refine aCk ?_
   have e4:aD G K (aG 2 K d e m::aG 29 K k l (aT b c)::rows [2] b c::L) a3:=(aD.arr 3 [2,0,1] a5 rfl)
   have e5:aD G K (rows [2] ([(d,e)]:List (Dp.Hd (List Int))) [m]::aG 29 K k l (aT b c)::rows [2] b c::L) a3:=aD.rowsOne e4
   refine cZ (Kt:=K) (xs:=aT ([(d,e)]:List (Dp.Hd (List Int))) ([m]:List (List Int))) (cs:=[zS d m.length e]) (vs:=[(0,zS d m.length e)]) iG aAb rfl rfl e5 rfl (by kernel_rfl) rfl rfl rfl ⟨rfl,trivial⟩ ?_
   intro e6 e7 (e8:aD G K (aG 29 K e6 1 (aT ([(d,e)]:List (Dp.Hd (List Int))) ([m]:List (List Int)))::rows [2] ([(d,e)]:List (Dp.Hd (List Int))) ([m]:List (List Int))::aG 29 K k l (aT b c)::rows [2] b c::L) e7)
   obtain ⟨a6,a7,hm⟩:=aB hm
   refine aEH (i:=0) (tys:=[2]) (hds:=b) (hds2:=([(d,e)]:List (Dp.Hd (List Int)))) iG underlying36 aAb rfl rfl e8 g rfl rfl rfl a7 rfl rfl rfl rfl ?_
   intro a8 b0 e9 (f0:aD G K (aG 29 K a8 b0 (aT (b++([(d,e)]:List (Dp.Hd (List Int)))) a6)::rows [2] (b++([(d,e)]:List (Dp.Hd (List Int)))) a6::L) e9)
   refine aCk ?_;exact ⟨_,(zI hm).symm,cE,a8,b0,(b++([(d,e)]:List (Dp.Hd (List Int)))),rfl,(aDC g rfl a7),f0⟩
theorem aEZ {t:bA} {R:(List Int)} (hm:zX t=some R) (l:aD G K (L) w) (d:bE K a1 c2 t.L) (e:bE K a4 c5 t.E):
  Calls prog 25 ([zA (zCa t a1 c2 a4 c5)]:List Value).toArray w (eQ fun v w'=>∃ a b c,v=zS b R.length c/\Hp.le K a/\bE a b c R/\aD G a (L) w'):=by
 refine aFe func25 ?_;unfold zX at hm
 refine aCk ?_;refine aKb fun m n g=>?_
 refine aCk ?_;refine aF (aKk (bs:=[zA (zCa t a1 c2 a4 c5)]) (vs:=[]) rfl rfl) ?_
 obtain ⟨o,h,hm⟩:=aB hm
 refine aED call67 (aIf h g d e) ?_
 rintro _ p ⟨q,r,u,rfl,j,k⟩
 obtain ⟨x,y,z,_,J,_⟩:=aD.lendD' (i:=0) k j rfl rfl
 exact aP
theorem aLJ {a b:bA} {R:(List Int)} (hm:aHG a b=some R) (hs:aD G K (L) w) (y:bE K a1 c2 a.L) (z:bE K a4 c5 a.E) (J:bE K a7 c8 b.L) (V:bE K a10 c11 b.E):
  Calls prog 63 ([zA (zCa a a1 c2 a4 c5),zA (zCa b a7 c8 a10 c11),Value.func (.func 25) #[] #[]]:List Value).toArray w (eQ fun v w'=>∃ d j k,v=zS j R.length k/\Hp.le K d/\bE d j k R/\aD G d (L) w'):=by
 let l:=(zC b a7 c8 a10 c11)
 let m:=(zC a a1 c2 a4 c5)
 refine aFe func63 ?_;unfold aHG at hm
 refine aCk ?_;refine aKb fun n b8 b9=>?_
 refine aKb fun o c0 a0=>?_;refine aCk ?_
 obtain ⟨c,a2,hm⟩:=aB hm
 refine aED call116 (aGk a2 a0 y z J V) ?_
 rintro _ p ⟨q,r,e,g,rfl,a3⟩
 obtain ⟨a5,u,a6,h⟩:=aD.giveSp a3 (Hp.le_refl _) .head
 replace h:aD G a5 (aG 72 K e g c.E::box o 35 l::box n 35 m::L) p:=h
 obtain ⟨a8,x,a9,i⟩:=aD.giveSp h u .head
 replace i:aD G a8 (box o 35 l::box n 35 m::L) p:=i
 obtain ⟨c1,b0,hm⟩:=aB hm
 refine eE (vs:=[zA (zCa c q r e g)]) (caps:=[]) (us:=[zA (zCa c q r e g)]) rfl call25 rfl rfl (aEZ (t:=⟨c.N,c.I,c.L,c.E⟩) b0 i (a6.mono x) a9) ?_
 rintro _ c3 ⟨b1,b2,b3,rfl,b4,b5,c4⟩
 refine aCk ?_;obtain rfl:=zI hm
 exact aMD results63 ⟨b1,b2,b3,rfl,(zL (zL u x) b4),b5,aKa⟩
theorem aIA {a b:bA} {R:(Bool × Int)} (hm:aCF a b=some R) (x:aD G K (L) w) (y:G.lo=0) (z:bE K a1 c2 a.L) (J:bE K a4 c5 a.E) (V:bE K a7 c8 b.L) (a0:bE K a10 c11 b.E):
  Calls prog 23 ([zA (zCa a a1 c2 a4 c5),zA (zCa b a7 c8 a10 c11),Value.func (.func 25) #[] #[]]:List Value).toArray w (eQ fun v w'=>v=zT #[zB R.1,i64 R.2]/\aD G K (L) w'):=by
 let d:=(zC b a7 c8 a10 c11)
 let e:=(zC a a1 c2 a4 c5)
 refine aFe func23 ?_;unfold aCF at hm
 refine aCk ?_;refine aKb fun i a2 a3=>?_
 refine aKb fun n a5 a6=>?_
 iterate 6 refine aFl ?_
 refine cI [2,3,4] (fun f w=>∃ g,uG a b g=some R/\f 15=zB g/\aD G K (box n 35 d::box i 35 e::L) w) ?_ ?_
 ·rintro f j ⟨g,hm,a8,o⟩
  unfold uG at hm
  refine aCk ?_
  rcases aS hm with ⟨p,hm⟩|⟨p,hm⟩
  ·exact aP
  ·refine aCk ?_;obtain ⟨q,a9,k,h,_⟩:=aD.lendBp o .head
   replace h:aD G q (box i 35 e::L) j:=h
   obtain ⟨r,l,u,m,_⟩:=aD.lendBp h .head
   replace m:aD G r (L) j:=m
   refine aKg [(0,0),(1,0),(2,0),(3,0),(4,0),(5,1),(6,1),(7,0),(8,0)] fun b0 c=>?_;refine aCk ?_
   exact bB rfl (fun _ ⟨_,c⟩=>eD (t:=0) (vs:=d) eW c (k.mono l) (aCK rfl) rfl rfl) (bB rfl (fun _ ⟨_,c⟩=>eD (t:=0) (vs:=e) eW c u (aCK rfl) rfl rfl) (bB rfl (fun _ ⟨_,c⟩=>eD (t:=0) (vs:=d) eW c (k.mono l) (aCK rfl) rfl rfl) (bB rfl (fun _ _=>aY (v:=Value.func (.func 25) #[] #[]) rfl) (jZ rfl aP))))
 exact aP
theorem aDz {a b:bA} {R:(Bool × Int)} (hm:yE a b=some R) (c:aD G K (L) w) (d:G.lo=0) (e:bE K a1 c2 a.L) (g:bE K a4 c5 a.E) (h:bE K a7 c8 b.L) (i:bE K a10 c11 b.E):
  Calls prog 10 ([zA (zCa a a1 c2 a4 c5),zA (zCa b a7 c8 a10 c11)]:List Value).toArray w (eQ fun v w'=>v=zT #[zB R.1,i64 R.2]/\aD G K (L) w'):=by
 exact aP
theorem aIg {n:Int} {R:(List (List Int))} (hm:aHc n=some R) (hs:aD G K (L) w):
  Calls prog 26 ([i64 n]:List Value).toArray w (eQ fun v w'=>∃ d5 d6 c0,v=zS d5 R.length d6/\List.length c0=List.length R/\aD G K (aG 29 K d5 d6 (aT c0 R)::rows [2] c0 R::L) w'):=by
 refine aN func26 rfl (by kernel_rfl) (by show (1:Nat)<=39;decide) ?_;unfold aHc at hm
 refine aK (aM (v:=zS none 0 0) (aI (aK ?_)))
 have f4:=aD.nil (α:=Int) hs 2 K
 have f5:aD G K (rows [2] ([(none,0)]:List (Dp.Hd (List Int))) [([]:List Int)]::L) w:=aD.rowsOne f4
 refine cZ (Kt:=K) (xs:=aT ([(none,0)]:List (Dp.Hd (List Int))) ([([]:List Int)]:List (List Int))) (cs:=[zS none ([]:List Int).length 0]) (vs:=[(0,zS none ([]:List Int).length 0)]) iG aAb rfl rfl f5 rfl (by kernel_rfl) rfl rfl rfl ⟨rfl,trivial⟩ ?_
 intro a3 w4 (f7:aD G K (aG 29 K a3 1 (aT ([(none,0)]:List (Dp.Hd (List Int))) ([([]:List Int)]:List (List Int)))::rows [2] ([(none,0)]:List (Dp.Hd (List Int))) ([([]:List Int)]:List (List Int))::L) w4)
 refine aM (v:=zS a3 ([([]:List Int)]:List (List Int)).length 1) (aI (aL (aK (aJ (v:=i64 n) (aJ (v:=i64 0) (aI (aU [] (fun f w=>∃ y a7 c8 c2,aKq y=some R/\f 3=zS a7 y.length c8/\List.length c2=List.length y/\aD G K (aG 29 K a7 c8 (aT c2 y)::rows [2] c2 y::L) w) aP ?_)))))));obtain ⟨k3,f8,ho⟩:=aB hm
 refine cQ [0,9] f8 (fun a z f w=>∃ e g b,f 3=zS e a.length g/\f 10=i64 z/\List.length b=List.length a/\aD G K (aG 29 K e g (aT b a)::rows [2] b a::L) w) ?_ ?_
 ·exact ⟨a3,1,([(none,0)]:List (Dp.Hd (List Int))),rfl,rfl,rfl,f7⟩
 ·rintro a z d9 f f9 hm hr ⟨e,g,b,g0,e0,J,g1⟩
  unfold uU at hm
  refine aK (aF (dQ e0 rfl) (aI (aL ?_)))
  rcases aS hm with ⟨e1,hm⟩|⟨e1,hm⟩
  ·refine aZ e1 rfl (bD (aC (aL (aU [0,9,10] (fun f w=>∃ q b1 b2 V,aEV z q=some d9/\f 3=zS b1 q.length b2/\List.length V=List.length q/\aD G K (aG 29 K b1 b2 (aT V q)::rows [2] V q::L) w) ?_ ?_))))
   ·rintro f k4 ⟨q,b1,b2,V,hm,g2,g3,g4⟩
    unfold aEV at hm
    exact aC (aW (aF (eP e0 rfl) (aJ (v:=i64 (wr (z+1))) (aI ⟨_,(zI hm).symm,cE,b1,b2,V,g2,rfl,g3,g4⟩))))
   refine aK (aM (v:=zS none 0 0) (aI (aL (aK (bH g0 (aF (bF (len:=a.length) iG rfl) (aJ (v:=i64 0) (aI (aU [0,9,10] (fun f w=>∃ a0 e2 e3 c3,aHa z a0=some d9/\f 4=zS e2 a0.length e3/\List.length c3=List.length a0/\aD G K (aG 29 K e2 e3 (aT c3 a0)::rows [2] c3 a0::L) w) aP ?_)))))))))
   have g5:aD G K (aG 29 K none 0 (aT ([]:List (Dp.Hd (List Int))) ([]:List (List Int)))::rows [2] ([]:List (Dp.Hd (List Int))) ([]:List (List Int))::aG 29 K e g (aT b a)::rows [2] b a::L) f9:=aD.nil (α:=Cells _) (aD.rowsNil (α:=(List Int)) (tys:=[2]) g1) 29 K
   obtain ⟨k5,g6,ho⟩:=aB hm
   refine cQ [0,9,10,12,13] g6 (fun a1 a2 f w=>∃ c4 c5 b3,f 4=zS c4 a1.length c5/\f 14=i64 a2/\List.length b3=List.length a1/\aD G K (aG 29 K c4 c5 (aT b3 a1)::rows [2] b3 a1::aG 29 K e g (aT b a)::rows [2] b a::L) w) ?_ ?_
   ·exact ⟨none,0,[],rfl,rfl,rfl,g5⟩
   ·rintro a1 a2 e4 f k6 hm hr ⟨c4,c5,b3,k7,c6,k8,e5⟩
    unfold sM at hm
    refine aK (aF (dQ c6 rfl) (aI (aL ?_)))
    rcases aS hm with ⟨e6,hm⟩|⟨e6,hm⟩
    ·refine aZ e6 rfl (bD (aC (aL (aU [0,9,10,12,13,14] (fun f w=>∃ r b4 b5 a4,aEW a2 r=some e4/\f 4=zS b4 r.length b5/\List.length a4=List.length r/\aD G K (aG 29 K b4 b5 (aT a4 r)::rows [2] a4 r::aG 29 K e g (aT b a)::rows [2] b a::L) w) ?_ ?_))))
     ·rintro f k9 ⟨r,b4,b5,a4,hm,g7,g8,g9⟩
      unfold aEW at hm
      exact aC (aW (aF (eP c6 rfl) (aJ (v:=i64 (wr (a2+1))) (aI ⟨_,(zI hm).symm,cE,b4,b5,a4,g7,rfl,g8,g9⟩))))
     refine aK ?_;obtain ⟨a5,u,hm⟩:=aB hm
     obtain ⟨⟨a6,a8⟩,b6⟩:=aFX J u
     have h0:=dJ e5 (i:=2) rfl (lT J u b6)
     refine aF (fI iG rfl h0 rfl rfl c6 u) (aF (qD (t:=0) tV e5 (i:=2) rfl (lT J u b6) rfl rfl rfl) (aM (v:=zS a6 a5.length a8) (aI (aK (aJ (v:=i64 n) (aJ (v:=i64 0) (aI (aU [0,9,10,12,13,14] (fun f w=>∃ a9 e7 e8 c7,aHb a2 a9=some e4/\f 4=zS e7 a9.length e8/\List.length c7=List.length a9/\aD G K (aG 29 K e7 e8 (aT c7 a9)::rows [2] c7 a9::aG 29 K e g (aT b a)::rows [2] b a::L) w) aP ?_))))))));obtain ⟨l0,h1,ho⟩:=aB hm
     refine cQ [0,6,9,10,12,13,14,18] h1 (fun d j f w=>∃ m o c,f 4=zS m d.length o/\f 19=i64 j/\List.length c=List.length d/\aD G K (aG 29 K m o (aT c d)::rows [2] c d::aG 29 K e g (aT b a)::rows [2] b a::L) w) aP ?_
     ·rintro d j h2 f l1 hm hr ⟨m,o,c,e9,c9,d0,h3⟩
      unfold oJ at hm
      refine aK (aF (dQ c9 rfl) (aI (aL ?_)))
      rcases aS hm with ⟨f0,hm⟩|⟨f0,hm⟩
      ·refine aZ f0 rfl (bD (aC (aL (aU [0,6,9,10,12,13,14,18,19] (fun f w=>∃ x b7 b8 b0,aBi j x=some h2/\f 4=zS b7 x.length b8/\List.length b0=List.length x/\aD G K (aG 29 K b7 b8 (aT b0 x)::rows [2] b0 x::aG 29 K e g (aT b a)::rows [2] b a::L) w) ?_ ?_))))
       ·rintro f l2 ⟨x,b7,b8,b0,hm,h4,h5,h6⟩
        unfold aBi at hm
        exact aC (aW (aF (eP c9 rfl) (aJ (v:=i64 (wr (j+1))) (aI ⟨_,(zI hm).symm,cE,b7,b8,b0,h4,rfl,h5,h6⟩))))
       refine aK (bH c9 (aM (v:=i64 j) (aI (aK (aJ (v:=zS a6 a5.length a8) (aJ (v:=i64 j) ?_))))));obtain ⟨l3,l4,l5,h7,h8,h9⟩:=aD.lendD' (i:=2) h3 J rfl rfl
       obtain ⟨l6,i0,hm⟩:=aB hm
       refine aQ (vs:=[zS a6 a5.length a8,i64 j]) call69 rfl (kU i0 h8 (aIo (h7 _ _ _ b6 (aIX u)))) ?_
       rintro _ l7 ⟨rfl,i1⟩
       have f1:=h9 _ _ i1
       refine aF (aEd rfl) (aI ?_)
       rcases aS hm with ⟨d1,hm⟩|⟨d1,hm⟩
       ·refine aZ d1 rfl (aW (bH e9 (aJ (v:=zS a6 a5.length a8) ?_)));obtain ⟨l8,l9,m0,i2,i3,i4⟩:=aD.lendD' (i:=0) f1 J rfl rfl
        obtain ⟨i5,i6,hm⟩:=aB hm
        refine aQ (vs:=[zS a6 a5.length a8]) call70 rfl (eK i6 i3 (aIo (i2 _ _ _ b6 (aIX u)))) ?_
        rintro _ m1 ⟨i7,i8,rfl,i9⟩
        have j0:=i4 _ _ i9
        refine aJ (v:=i64 j) (cZ (Kt:=K) (xs:=([j]:List Int)) (cs:=[i64 j]) (vs:=[(0,i64 j)]) bR yY rfl rfl j0 rfl (by kernel_rfl) rfl rfl rfl ⟨rfl,trivial⟩ (fun j1 j2 (j3:aD G K (aG 2 K j1 1 ([j]:List Int)::aG 29 K e g (aT b a)::rows [2] b a::aG 2 K i7 i8 i5::aG 29 K m o (aT c d)::rows [2] c d::L) j2)=>?_));obtain ⟨p,j4,hm⟩:=aB hm
        refine mF (i:=2) bR underlying29 yY rfl rfl j3 rfl (Hp.le_refl _) (Hp.le_refl _) j4 rfl rfl rfl rfl (fun _ h=>h) (fun k l d2 (j5:aD G K (aG 29 K e g (aT b a)::rows [2] b a::aG 2 K k l p::aG 29 K m o (aT c d)::rows [2] c d::L) d2)=>?_)
        have j6:aD G K (aG 2 K k l p::aG 29 K e g (aT b a)::rows [2] b a::aG 29 K m o (aT c d)::rows [2] c d::L) d2:=(aD.arr 3 [2,0,1] j5 rfl)
        have j7:aD G K (rows [2] ([(k,l)]:List (Dp.Hd (List Int))) [p]::aG 29 K e g (aT b a)::rows [2] b a::aG 29 K m o (aT c d)::rows [2] c d::L) d2:=aD.rowsOne j6
        refine cZ (Kt:=K) (xs:=aT ([(k,l)]:List (Dp.Hd (List Int))) ([p]:List (List Int))) (cs:=[zS k p.length l]) (vs:=[(0,zS k p.length l)]) iG aAb rfl rfl j7 rfl (by kernel_rfl) rfl rfl rfl ⟨rfl,trivial⟩ ?_
        intro j8 j9 (k0:aD G K (aG 29 K j8 1 (aT ([(k,l)]:List (Dp.Hd (List Int))) ([p]:List (List Int)))::rows [2] ([(k,l)]:List (Dp.Hd (List Int))) ([p]:List (List Int))::aG 29 K e g (aT b a)::rows [2] b a::aG 29 K m o (aT c d)::rows [2] c d::L) j9)
        obtain ⟨b9,f2,hm⟩:=aB hm
        refine aEH (i:=2) (tys:=[2]) (hds:=c) (hds2:=([(k,l)]:List (Dp.Hd (List Int)))) iG underlying36 aAb rfl rfl k0 d0 rfl rfl rfl f2 rfl rfl rfl rfl ?_
        intro d3 d4 k1 (k2:aD G K (aG 29 K d3 d4 (aT (c++([(k,l)]:List (Dp.Hd (List Int)))) b9)::rows [2] (c++([(k,l)]:List (Dp.Hd (List Int)))) b9::aG 29 K e g (aT b a)::rows [2] b a::L) k1)
        exact aM (v:=zS d3 b9.length d4) (aR (dI (aC ⟨cE,b9,d3,d4,(c++([(k,l)]:List (Dp.Hd (List Int)))),hm,rfl,(aDC d0 rfl f2),k2⟩)))
       ·exact bJ d1 rfl (bD (dI (aC ⟨cE,d,m,o,c,hm,e9,d0,(aD.arr 4 [2,3,0,1] f1 rfl)⟩)))
      ·exact aP
    ·exact aP
  ·exact aP
theorem aFJ {n:aO} {kind:Int} {R:((List Int) × Int × Int)} (hm:aCT n kind=some R) (hs:aD G K (L) w) (t:G.lo=0) (u:bE K a1 c2 n.Parts) (x:bE K a4 c5 n.Meetings) (y:bE K a7 c8 n.Allowed) (z:bE K a10 c11 n.Hidden):
  Calls prog 11 ([zA #[zS a1 n.Parts.length c2,zS a4 n.Meetings.length c5,zS a7 n.Allowed.length c8,zS a10 n.Hidden.length c11],i64 kind]:List Value).toArray w (eQ fun v w'=>∃ l J V,v=zT #[zS J R.1.length V,i64 R.2.1,i64 R.2.2]/\Hp.le K l/\bE l J V R.1/\aD G l (L) w'):=by
 let c:=[zS a1 n.Parts.length c2,zS a4 n.Meetings.length c5,zS a7 n.Allowed.length c8,zS a10 n.Hidden.length c11]
 refine aFe func11 ?_;unfold aCT at hm
 refine aCk ?_;refine aKb fun d e5 a9=>?_
 refine aCk ?_;refine dE (aCk ?_)
 obtain ⟨e6,b0,hm⟩:=aB hm
 refine aED call17 (tQ b0 a9 t u x y z) ?_
 rintro _ e7 ⟨rfl,b1⟩
 refine aCk ?_
 rcases aS hm with ⟨b2,hm⟩|⟨b2,hm⟩
 ·exact aP
 ·refine aCk ?_;obtain ⟨e8,b3,hm⟩:=aB hm
  refine aED call21 (aEu b3 b1) ?_
  rintro _ e9 ⟨rfl,b4⟩
  refine aCk ?_
  rcases aS hm with ⟨b5,hm⟩|⟨b5,hm⟩
  ·exact aP
  ·refine aCk ?_;obtain ⟨f0,b6,hm⟩:=aB hm
   refine aED call26 (aIg b6 b4) ?_
   rintro _ b7 ⟨f1,f2,f3,rfl,b8,b9⟩
   obtain ⟨a,b,c0,_,a0,_⟩:=aD.lendD' (i:=0) b9 b8 rfl rfl
   replace a0:aD G a (box d 28 c::L) b7:=a0
   refine aCk ?_;refine aU [] (fun f w=>∃ m a2 a3 a5,aEp m a2=some R/\f 7=zS a3 m.length a5/\f 8=i64 a2/\bE a a3 a5 m/\aD G a (L) w) aP ?_
   obtain ⟨f4,c1,ho⟩:=aB hm
   refine vX [1,2,26,27] c1 (fun e o g f w=>∃ p q,f 7=zS p e.length q/\f 8=i64 o/\f 28=i64 g/\bE a p q e/\aD G a (box d 28 c::L) w) aP ?_
   ·rintro e o g a6 f f5 hm hr ⟨p,q,f6,f7,f8,f9,c3⟩
    unfold jD at hm
    refine aCk ?_
    rcases aS hm with ⟨c4,hm⟩|⟨c4,hm⟩
    ·refine aCk ?_;refine aU [1,2,26,27,28] (fun f w=>∃ h r j k,qX g h r=some a6/\f 7=zS j h.length k/\f 8=i64 r/\bE a j k h/\aD G a (box d 28 c::L) w) ?_ ?_
     ·rintro f g0 ⟨h,r,j,k,hm,c6,c7,c9,d0⟩
      unfold qX at hm
      refine aCk ?_;exact ⟨_,(zI hm).symm,cE,j,k,c6,c7,rfl,c9,d0⟩
     refine aCk ?_;obtain ⟨d1,d2,hm⟩:=aB hm
     refine aCk ?_;obtain ⟨g1,g2,d3⟩:=bE.el (sz:=1) rfl c0 d2
     obtain ⟨g3,g4,rfl,d4⟩:=d3
     refine aCk ?_;obtain ⟨g5,d5,hm⟩:=aB hm
     refine aED call22 (uX d5 c3 t (u.mono b) (x.mono b) (y.mono b) (z.mono b) d4) ?_
     rintro _ g6 ⟨g7,g8,g9,h0,h1,h2,rfl,h4⟩
     refine aCk ?_;refine aFm fun h5 h7 h8=>?_
     refine aJz fun i0 i1=>?_;refine aCk ?_
     rcases aS hm with ⟨d6,hm⟩|⟨d6,hm⟩
     ·exact aP
     ·refine aCk ?_;refine aKc ([0]:List Int) fun i2 i3 i4=>?_
      obtain ⟨i5,i6,hm⟩:=aB hm
      refine aMq fun i7 i8 i9 d7=>?_;obtain ⟨j0,j1,d8,d9,e0⟩:=aD.lendSp d7 b zt3
      obtain ⟨e1,e2,hm⟩:=aB hm
      refine aED call27 (sS e2 d9 d8) ?_
      rintro _ j2 ⟨rfl,e3⟩
      have j3:=e0 _ _ e3
      iterate 4 refine aFl ?_
      exact cI [1,2,7,8,10,14,26,27,28] (fun f w=>∃ a8,oK e o g d1 e1 a8=some a6/\f 52=zB a8/\aD G a (box d 28 c::L) w) aP aP
    ·exact aP
theorem aBX {a3 a5:(List UInt8)} {R:Bool} (hm:xO a3 a5=some R) (hs:aD G K (L) w) (hG:G.lo=0) (h3:bE K a1 c2 a3) (h6:bE K a4 c5 a5):
  Calls prog 3 ([zS a1 a3.length c2,zS a4 a5.length c5]:List Value).toArray w (eQ fun v w'=>v=zB R/\aD G K (L) w'):=by
 refine aN func3 rfl (by kernel_rfl) (by show (2:Nat)<=132;decide) ?_;unfold xO at hm
 refine aK (aM (v:=zB false) (aI (aL (aK (aJ (v:=zS a1 a3.length c2) (aJ (v:=zS a4 a5.length c5) ?_))))));obtain ⟨r7,q8,hm⟩:=aB hm
 refine aQ (vs:=[zS a1 a3.length c2,zS a4 a5.length c5]) call4 rfl (aIe q8 hs h3 h6) ?_
 rintro _ w9 ⟨rfl,f3⟩
 refine aI ?_
 rcases aS hm with ⟨d9,hm⟩|⟨d9,hm⟩
 ·exact aP
 ·refine bJ d9 rfl (bD (aC (aK (aJ (v:=zS a1 a3.length c2) ?_))));obtain ⟨a,f4,hm⟩:=aB hm
  refine aQ (vs:=[zS a1 a3.length c2]) call5 rfl (aFG f4 f3 h3) ?_
  rintro _ l5 ⟨f5,d,e,g,h,j,k,l,m,a9,b0,rfl,z,b6,b7,b8,b9,f6,f7⟩
  refine aJ (v:=zT #[zA #[zS d a.1.Parts.length e,zS g a.1.Meetings.length h,zS j a.1.Allowed.length k,zS l a.1.Hidden.length m],zS a9 a.2.length b0]) (aF (bM rfl rfl) (aF (bM rfl rfl) (aX (vs:=[zS none 0 0,zS none 0 0,zS none 0 0,zS none 0 0]) zeroValue28 f7 rfl (fun a2 l6 f8=>(bN (i:=0) (ns:=[zS d a.1.Parts.length e,zS g a.1.Meetings.length h,zS j a.1.Allowed.length k,zS l a.1.Hidden.length m]) (us:=[zS d a.1.Parts.length e,zS g a.1.Meetings.length h,zS j a.1.Allowed.length k,zS l a.1.Hidden.length m]) sizeOf28 f8 rfl rfl rfl rfl rfl (dM rfl) rfl rfl (fun f9 (g0:aD G f5 (box a2 28 [zS d a.1.Parts.length e,zS g a.1.Meetings.length h,zS j a.1.Allowed.length k,zS l a.1.Hidden.length m]::L) f9)=>(aM (v:=zS a9 a.2.length b0) (aI (aK (aJ (v:=zS a4 a5.length c5) ?_))))))))))
  obtain ⟨y,g1,hm⟩:=aB hm
  refine aQ (vs:=[zS a4 a5.length c5,i64 0,i64 3]) call6 rfl (aKt g1 g0 (h6.mono z)) ?_
  rintro _ l7 ⟨rfl,e0⟩
  refine aM (v:=i64 y) (aI (aK (aF (eO (us:=[zS d a.1.Parts.length e,zS g a.1.Meetings.length h,zS j a.1.Allowed.length k,zS l a.1.Hidden.length m]) uR e0 (i:=0) rfl rfl rfl rfl) ?_)));obtain ⟨c,g2,hm⟩:=aB hm
  refine aQ (vs:=[zA #[zS d a.1.Parts.length e,zS g a.1.Meetings.length h,zS j a.1.Allowed.length k,zS l a.1.Hidden.length m]]) call7 rfl (aCi g2 e0 hG b6 b7 b8 b9) ?_
  rintro _ l8 ⟨J,n,c48,o,p,b1,b2,rfl,q,g3⟩
  refine aJ (v:=zT #[zA (zCa c.1 n c48 o p),zS b1 c.2.1.length b2,i64 c.2.2]) (aF (bM rfl rfl) (aF (bM rfl rfl) (aF (bM rfl rfl) (aX (vs:=zG) zeroValue35 g3 rfl (fun a8 l9 g4=>(bN (i:=0) (ns:=(zC c.1 n c48 o p)) (us:=(zC c.1 n c48 o p)) sizeOf35 g4 rfl rfl rfl rfl rfl (dM rfl) rfl rfl (fun g5 (e1:aD G J (box a8 35 (zC c.1 n c48 o p)::aG 9 K n c48 c.1.L::aG 72 K o p c.1.E::aG 29 J b1 b2 c.2.1::box a2 28 [zS d a.1.Parts.length e,zS g a.1.Meetings.length h,zS j a.1.Allowed.length k,zS l a.1.Hidden.length m]::L) g5)=>(aM (v:=zS b1 c.2.1.length b2) (aM (v:=i64 c.2.2) (aI (aK (aF (eO (us:=[zS d a.1.Parts.length e,zS g a.1.Meetings.length h,zS j a.1.Allowed.length k,zS l a.1.Hidden.length m]) uR e1 (i:=4) rfl rfl rfl rfl) (aJ (v:=zS a9 a.2.length b0) (aJ (v:=i64 y) ?_))))))))))))))
  obtain ⟨b,g6,hm⟩:=aB hm
  refine aQ (vs:=[zA #[zS d a.1.Parts.length e,zS g a.1.Meetings.length h,zS j a.1.Allowed.length k,zS l a.1.Hidden.length m],zS a9 a.2.length b0,i64 y]) call8 rfl (aCj g6 e1 hG (b6.mono q) (b7.mono q) (b8.mono q) (b9.mono q) (f6.mono q)) ?_
  rintro _ m0 ⟨r,t,u,x,V,a0,rfl,g7⟩
  refine aJ (v:=zT #[zA (zCa b.1 r t u x),zS V b.2.1.length a0,i64 b.2.2]) (aF (bM rfl rfl) (aF (bM rfl rfl) (aF (bM rfl rfl) (aX (vs:=zG) zeroValue35 g7 rfl (fun b3 m1 g8=>(bN (i:=0) (ns:=(zC b.1 r t u x)) (us:=(zC b.1 r t u x)) sizeOf35 g8 rfl rfl rfl rfl rfl (dM rfl) rfl rfl (fun g9 (m2:aD G J (box b3 35 (zC b.1 r t u x)::aG 9 K r t b.1.L::aG 72 K u x b.1.E::aG 2 K V a0 b.2.1::box a8 35 (zC c.1 n c48 o p)::aG 9 K n c48 c.1.L::aG 72 K o p c.1.E::aG 29 J b1 b2 c.2.1::box a2 28 [zS d a.1.Parts.length e,zS g a.1.Meetings.length h,zS j a.1.Allowed.length k,zS l a.1.Hidden.length m]::L) g9)=>(aM (v:=zS V b.2.1.length a0) (aM (v:=i64 b.2.2) (aI (aL (aL (cI [5,6,7,8,10,11,12,13] (fun f w=>∃ c0,kM a y c b c0=some R/\f 52=zB c0/\aD G J (box b3 35 (zC b.1 r t u x)::aG 9 K r t b.1.L::aG 72 K u x b.1.E::aG 2 K V a0 b.2.1::box a8 35 (zC c.1 n c48 o p)::aG 9 K n c48 c.1.L::aG 72 K o p c.1.E::box a2 28 [zS d a.1.Parts.length e,zS g a.1.Meetings.length h,zS j a.1.Allowed.length k,zS l a.1.Hidden.length m]::L) w) ?_ ?_)))))))))))))
  ·rintro f m3 ⟨c0,hm,h0,m4⟩
   unfold kM at hm
   refine aC ?_
   rcases aS hm with ⟨e2,hm⟩|⟨e2,hm⟩
   ·exact aP
   ·refine bJ e2 h0 (bD (aC (aL (aL (cI [5,6,7,8,11,12] (fun f w=>∃ c1,mD a y c b c1=some R/\f 66=zB c1/\aD G J (box b3 35 (zC b.1 r t u x)::aG 9 K r t b.1.L::aG 72 K u x b.1.E::aG 2 K V a0 b.2.1::box a8 35 (zC c.1 n c48 o p)::aG 9 K n c48 c.1.L::aG 72 K o p c.1.E::box a2 28 [zS d a.1.Parts.length e,zS g a.1.Meetings.length h,zS j a.1.Allowed.length k,zS l a.1.Hidden.length m]::L) w) ?_ ?_)))))
    ·rintro f m5 ⟨c1,hm,h1,c3⟩
     unfold mD at hm
     refine aC ?_
     rcases aS hm with ⟨e3,hm⟩|⟨e3,hm⟩
     ·exact aP
     ·refine bJ e3 h1 (bD (aC (aK (aF (eO (us:=(zC c.1 n c48 o p)) eW c3 (i:=4) rfl rfl rfl rfl) (aF (eO (us:=(zC b.1 r t u x)) eW c3 (i:=0) rfl rfl rfl rfl) (aJ (v:=i64 y) (aF (aLl rfl rfl) ?_)))))));obtain ⟨m6,c4,h2,h4,h5⟩:=aD.lendSp c3 (zL z q) zt5
      obtain ⟨m7,c6,h7,h8,h9⟩:=aD.lendSp h4 (zL (zL z q) c4) zt5
      obtain ⟨m8,c7,i0,i1,i2⟩:=aD.lendSp h8 (zL (zL (zL z q) c4) c6) zt1
      obtain ⟨m9,c8,i3,i4,i5⟩:=aD.lendSp i1 (zL (zL (zL (zL z q) c4) c6) c7) zt1
      obtain ⟨b4,i6,hm⟩:=aB hm
      refine aQ (vs:=[zA (zCa c.1 n c48 o p),zA (zCa b.1 r t u x),zB (y == 2)]) call9 rfl (aDy i6 i4 hG (h2.mono (zL (zL c6 c7) c8)) (h7.mono (zL c7 c8)) (i0.mono c8) i3) ?_
      rintro _ n0 ⟨rfl,i7⟩
      have i8:=i5 _ _ i7
      have i9:=i2 _ _ i8
      have j0:=h9 _ _ i9
      have n1:=h5 _ _ j0
      refine aJ (v:=zT #[zB b4.1,i64 b4.2]) (aF (bM rfl rfl) (aF (bM rfl rfl) (aM (v:=zB b4.1) (aM (v:=i64 b4.2) (aI (aL (aL (cI [5,6,7,8,11,12] (fun f w=>∃ c9,oL a y c b c9=some R/\f 80=zB c9/\aD G J (aG 9 K n c48 c.1.L::aG 72 K o p c.1.E::aG 9 K r t b.1.L::aG 72 K u x b.1.E::box b3 35 (zC b.1 r t u x)::aG 2 K V a0 b.2.1::box a8 35 (zC c.1 n c48 o p)::box a2 28 [zS d a.1.Parts.length e,zS g a.1.Meetings.length h,zS j a.1.Allowed.length k,zS l a.1.Hidden.length m]::L) w) ?_ ?_))))))))
      ·rintro f n2 ⟨c9,hm,j1,d0⟩
       unfold oL at hm
       refine aC ?_
       rcases aS hm with ⟨e4,hm⟩|⟨e4,hm⟩
       ·exact aP
       ·refine bJ e4 j1 (bD (aC (tS [5,6,7,12] (fun f w=>mC a y b=some R/\aD G J (aG 2 K V a0 b.2.1::box a2 28 [zS d a.1.Parts.length e,zS g a.1.Meetings.length h,zS j a.1.Allowed.length k,zS l a.1.Hidden.length m]::L) w) ?_ ?_)))
        ·rintro f n3 ⟨hm,e5⟩
         unfold mC at hm
         refine aK (aF (eO (us:=[zS d a.1.Parts.length e,zS g a.1.Meetings.length h,zS j a.1.Allowed.length k,zS l a.1.Hidden.length m]) uR e5 (i:=1) rfl rfl rfl rfl) (aJ (v:=i64 y) ?_));obtain ⟨a6,j2,hm⟩:=aB hm
         refine aQ (vs:=[zA #[zS d a.1.Parts.length e,zS g a.1.Meetings.length h,zS j a.1.Allowed.length k,zS l a.1.Hidden.length m],i64 y]) call11 rfl (aFJ j2 e5 hG (b6.mono q) (b7.mono q) (b8.mono q) (b9.mono q)) ?_
         rintro _ n4 ⟨d1,e6,e7,rfl,n5,n6,n7⟩
         refine aJ (v:=zT #[zS e6 a6.1.length e7,i64 a6.2.1,i64 a6.2.2]) (aF (bM rfl rfl) (aF (bM rfl rfl) (aF (bM rfl rfl) (aM (v:=zS e6 a6.1.length e7) (aM (v:=i64 a6.2.1) (aM (v:=i64 a6.2.2) (aI (aK (aM (v:=i64 0) (aI (aL (aK (aM (v:=i64 0) (aI (aU [6,18,19,20] (fun f w=>∃ d2,sO a a6 d2=some R/\f 21=i64 d2/\aD G d1 (L) w) ?_ ?_)))))))))))))))
         ·rintro f n8 ⟨d2,hm,n9,o0⟩
          unfold sO at hm
          exact aC (aL (cI [] (fun f w=>∃ e8,mB e8=some R/\f 4=zB e8/\aD G d1 (L) w) aP aP))
         obtain ⟨o1,j3,ho⟩:=aB hm
         exact cQ [6,12,18,19,20] j3 (fun j4 j5 f w=>f 21=i64 j4/\f 22=i64 j5/\aD G d1 (aG 2 K V a0 b.2.1::L) w) aP aP
        refine aK (aJ (v:=i64 y) (aF (aLl rfl rfl) (aI ?_)))
        rcases aS hm with ⟨e9,hm⟩|⟨e9,hm⟩
        ·refine aZ e9 rfl (aK (aF (eO (us:=(zC c.1 n c48 o p)) eW d0 (i:=6) rfl rfl rfl rfl) (aF (eO (us:=(zC b.1 r t u x)) eW d0 (i:=4) rfl rfl rfl rfl) ?_)));obtain ⟨o2,d3,j6,j7,j8⟩:=aD.lendSp d0 (zL z q) .head
         obtain ⟨o3,d4,j9,k0,k1⟩:=aD.lendSp j7 (zL (zL z q) d3) .head
         obtain ⟨o4,d5,k2,k3,k4⟩:=aD.lendSp k0 (zL (zL (zL z q) d3) d4) .head
         obtain ⟨o5,d6,k5,k6,k7⟩:=aD.lendSp k3 (zL (zL (zL (zL z q) d3) d4) d5) .head
         obtain ⟨b5,k8,hm⟩:=aB hm
         refine aQ (vs:=[zA (zCa c.1 n c48 o p),zA (zCa b.1 r t u x)]) call10 rfl (aDz k8 k6 hG (j6.mono (zL (zL d4 d5) d6)) (j9.mono (zL d5 d6)) (k2.mono d6) k5) ?_
         rintro _ o6 ⟨rfl,k9⟩
         have l0:=k7 _ _ k9
         have l1:=k4 _ _ l0
         have l2:=k1 _ _ l1
         have o7:=j8 _ _ l2
         exact aJ (v:=zT #[zB b5.1,i64 b5.2]) (aF (bM rfl rfl) (aF (bM rfl rfl) (aM (v:=zB b5.1) (aM (v:=i64 b5.2) (aI (aL (cI [5,6,7,12] (fun f w=>∃ f0,sP a y b f0=some R/\f 94=zB f0/\aD G J (aG 2 K V a0 b.2.1::box a2 28 [zS d a.1.Parts.length e,zS g a.1.Meetings.length h,zS j a.1.Allowed.length k,zS l a.1.Hidden.length m]::L) w) aP aP)))))))
        ·exact aP
      exact aP
    exact aP
  exact aP
end Gv
