/- Walks, printed by program. -/
import Derived.Test.YtffnhnhfedmjcaaGreatDoorJWk7
set_option linter.all false
namespace Gv
open Gv.Hp renaming le_refl→zR
open Go.Value renaming slice→zS,bool→zB,pointer→zP,agg→zA,tuple→zT,map→zM
open Option.some renaming inj→zI
open Gv.Hp renaming le_trans→zL
open Go Go.Proofs Go.Proofs.Tryz
set_option maxRecDepth 20000
set_option maxHeartbeats 40000000
variable {G:yU} {K Kf:Hp} {L:List jN} {w:World} {a1 a4 a7 a10 a13 a16 a19 a24 a27 a29 a6 a9 a11 a14 a17 a20 a23 a26:Option Addr} {c2 c5 c8 c11 c14 b22 b23 c25 c28 b4 b5 c7 c10 c18 c21 c24 c27 c17:Nat}
theorem aBs {n:aO} {h2:(List Int)} {d8 d9:Nat} {e6:(List (List Int))} {l1:(List (aH × Int))} {c:Nat} {e7:(List cO)} {o6:Int} {o7:Nat} {R:((List (List Int)) × (List (aH × Int)) × (List cO))} (hm:qW n h2 e6 l1 e7 o6=some R) (hs:aD G K (aG 29 Kf a24 c25 e6::kV c l1::aG 129 K a27 c28 e7::box b23 127 [zS a24 e6.length c25,zM (some c),zS a27 e7.length c28,Value.func (.func 41) #[] #[]]::box b22 123 [zP (some ⟨b23,0,none⟩)]::L) w) (hG:G.lo=0) (t0:Hp.le Kf K) (h3:bE K a1 c2 n.Parts) (h6:bE K a4 c5 n.Meetings) (h9:bE K a7 c8 n.Allowed) (t3:bE K a10 c11 n.Hidden) (h4:bE K a13 c14 h2) (o8:fK K a16 d8 [Value.func (.func 112) #[] #[]]) (o9:fK K a19 d9 [Value.func (.func 84) #[] #[zP (some ⟨b22,0,none⟩),cX a29 o7]]) (p0:fK K a29 o7 [i64 o6]):
  Calls prog 44 ([zA #[zS a1 n.Parts.length c2,zS a4 n.Meetings.length c5,zS a7 n.Allowed.length c8,zS a10 n.Hidden.length c11],zS a13 h2.length c14,Value.func (.func 45) #[] #[cX a16 d8,cX a19 d9]]:List Value).toArray w (eQ fun v w'=>∃ K' p1 p2 p3 p4,v=zT #[]/\Hp.le K K'/\aD G K' (aG 29 K' p1 p2 R.1::kV c R.2.1::aG 129 K p3 p4 R.2.2::box b23 127 [zS p1 R.1.length p2,zM (some c),zS p3 R.2.2.length p4,Value.func (.func 41) #[] #[]]::box b22 123 [zP (some ⟨b23,0,none⟩)]::L) w'):=by
 let m:=[zS a1 n.Parts.length c2,zS a4 n.Meetings.length c5,zS a7 n.Allowed.length c8,zS a10 n.Hidden.length c11]
 let o:=[zP (some ⟨b23,0,none⟩)]
 let p:=[zS a13 h2.length c14]
 refine aFe func44 ?_;unfold qW at hm
 refine aCk ?_;refine aKb fun q w33 a33=>?_
 refine aKb fun e t4 t5=>?_
 iterate 4 refine aFl ?_
 refine aF (eV (vs:=[zP (some ⟨e,0,none⟩)]) rfl) (aCk ?_);refine aU [] (fun f w=>∃ l5 l6 p5 l7 p6 p7 p8 p9,Hp.le K l5/\xB l6 p5 l7=some R/\aD G l5 (aG 129 K p8 p9 l7::aG 29 l5 p6 p7 l6::kV c p5::box b23 127 [zS p6 l6.length p7,zM (some c),zS p8 l7.length p9,Value.func (.func 41) #[] #[]]::box b22 123 o::L) w) aP ?_
 have a34:aD G K (box e 29 p::box q 28 m::aG 29 K a24 c25 e6::kV c l1::aG 129 K a27 c28 e7::box b23 127 [zS a24 e6.length c25,zM (some c),zS a27 e7.length c28,Value.func (.func 41) #[] #[]]::box b22 123 o::L) t4:=aD.weak (i:=2) t5 rfl (fun _ h=>aG.mono t0 h)
 obtain ⟨a35,t6,ho⟩:=aB hm
 refine rZ [2,3,4,6,20,21] t6 (fun c1 e8 h5 e9 f w=>∃ c7 f0 f1 f2 f3,Hp.le K c7/\f 22=i64 c1/\aD G c7 (box e 29 p::box q 28 m::aG 29 c7 f0 f1 e8::kV c h5::aG 129 K f2 f3 e9::box b23 127 [zS f0 e8.length f1,zM (some c),zS f2 e9.length f3,Value.func (.func 41) #[] #[]]::box b22 123 o::L) w) aP ?_
 ·rintro c1 e8 h5 e9 l8 f w77 hm hr ⟨c7,f0,f1,f2,f3,g,e76,t7⟩
  unfold gM at hm
  refine aCk ?_
  rcases aS hm with ⟨q0,hm⟩|⟨q0,hm⟩
  ·refine aCk ?_;refine aU [2,3,4,6,20,21,22] (fun f w=>∃ f4 h7 l9 h8 i0 i1 i2 i3,Hp.le c7 f4/\rI c1 h7 l9 h8=some l8/\aD G f4 (aG 129 K i2 i3 h8::aG 29 f4 i0 i1 h7::box e 29 p::box q 28 m::kV c l9::box b23 127 [zS i0 h7.length i1,zM (some c),zS i2 h8.length i3,Value.func (.func 41) #[] #[]]::box b22 123 o::L) w) ?_ ?_
   ·rintro f a38 ⟨f4,h7,l9,h8,i0,i1,i2,i3,t8,hm,a39⟩
    unfold rI at hm
    refine aCk ?_;exact ⟨_,(zI hm).symm,cE,f4,i0,i1,i2,i3,(zL g t8),rfl,aKa⟩
   refine aCk ?_;obtain ⟨a,t9,hm⟩:=aB hm
   refine aCk ?_;obtain ⟨a40,a42,u0⟩:=bE.el (sz:=4) rfl h3 t9
   obtain ⟨u,x,y,z,rfl,m0,u1⟩:=u0
   refine aCk ?_;refine aFm fun J a43 a44=>?_
   refine aCk ?_;refine aJz fun a46 u2=>?_
   refine aCk ?_;obtain ⟨a47,q1,u3,u4,u5⟩:=aD.lendBp u2 .head
   obtain ⟨a48,m1,u6,a49,u7⟩:=aD.lendBp u4 .head
   refine aKg [(0,0),(1,0),(2,0),(3,0),(4,0),(7,0),(5,1),(6,0)] fun a50 f5=>?_;refine bB rfl (fun _ ⟨_,f5⟩=>eD (t:=0) (vs:=(zC a u x y z)) eW f5 (u3.mono m1) rfl rfl rfl) (bB rfl (fun _ ⟨_,f5⟩=>bG (t:=0) tV f5 u6 rfl rfl) (bB rfl (fun _ _=>aY (v:=i64 c1) rfl) ?_))
   obtain ⟨a51,u8,hm⟩:=aB hm
   refine aCk ?_;obtain ⟨a52,a53,u9⟩:=bE.el (sz:=1) rfl h4 u8
   cases u9
   refine aCk ?_;refine jZ rfl ?_
   obtain ⟨V,v0,hm⟩:=aB hm
   refine aED call90 (uJ v0 f5 (m0.mono (zL (zL g q1) m1)) (u1.mono (zL (zL g q1) m1))) ?_
   rintro _ a54 ⟨a0,a2,rfl,q2⟩
   refine aR (aC ⟨⟨_,q2⟩,?_⟩)
   refine aCk ?_;refine qE ?_
   have v1:=u7 _ _ q2
   have v2:=u5 _ _ v1
   refine aCk ?_;refine aU [2,3,4,6,20,21,22] (fun f w=>∃ m2 m3 q3 m4 q4 q5 q6 q7,Hp.le c7 m2/\rJ c1 m3 q3 m4=some l8/\aD G m2 (aG 129 K q6 q7 m4::aG 29 m2 q4 q5 m3::box e 29 p::box q 28 m::kV c q3::box b23 127 [zS q4 m3.length q5,zM (some c),zS q6 m4.length q7,Value.func (.func 41) #[] #[]]::box b22 123 o::L) w) aP ?_
   obtain ⟨a55,v3,ho⟩:=aB hm
   refine rZ [2,3,4,6,7,8,20,21,22,32,33] v3 (fun f6 b4 d4 b5 f w=>∃ c3 b6 b7 b8 b9,Hp.le c7 c3/\f 34=i64 f6/\aD G c3 (box J 35 (zC a u x y z)::box e 29 p::aG 72 K a0 a2 V::box q 28 m::aG 29 c3 b6 b7 b4::kV c d4::aG 129 K b8 b9 b5::box b23 127 [zS b6 b4.length b7,zM (some c),zS b8 b5.length b9,Value.func (.func 41) #[] #[]]::box b22 123 o::L) w) ?_ ?_
   ·exact ⟨c7,f0,f1,f2,f3,(zR _),rfl,v2⟩
   ·rintro f6 b4 d4 b5 m5 f a56 hm hr ⟨c3,b6,b7,b8,b9,k,v4,q8⟩
    unfold gL at hm
    refine aCk ?_
    rcases aS hm with ⟨q9,hm⟩|⟨q9,hm⟩
    ·refine aCk ?_;refine aU [2,3,4,6,7,8,20,21,22,32,33,34] (fun f w=>∃ f7 i4 m6 i5 i6 i7 i8 i9,Hp.le c3 f7/\rK f6 i4 m6 i5=some m5/\aD G f7 (aG 129 K i8 i9 i5::aG 29 f7 i6 i7 i4::box J 35 (zC a u x y z)::box e 29 p::aG 72 K a0 a2 V::box q 28 m::kV c m6::box b23 127 [zS i6 i4.length i7,zM (some c),zS i8 i5.length i9,Value.func (.func 41) #[] #[]]::box b22 123 o::L) w) ?_ ?_
     ·rintro f a57 ⟨f7,i4,m6,i5,i6,i7,i8,i9,v5,hm,a58⟩
      unfold rK at hm
      refine aCk ?_;exact ⟨_,(zI hm).symm,cE,f7,i6,i7,i8,i9,(zL k v5),rfl,aKa⟩
     refine aCk ?_;obtain ⟨b,r0,hm⟩:=aB hm
     have v6:=dJ q8 (i:=2) rfl r0
     refine aF (fI eI rfl v6 rfl rfl v4 r0) (aCk ?_);refine aFm fun a9 a59 a60=>?_
     refine aJz fun v7 v8=>?_;refine aCk ?_
     have r1:aD G c3 (box a9 72 [i64 b.F,i64 b.B,i64 b.To]::box J 35 (zC a u x y z)::box e 29 p::aG 72 K a0 a2 V::box q 28 m::aG 29 c3 b6 b7 b4::kV c d4::aG 129 K b8 b9 b5::box b23 127 [zS b6 b4.length b7,zM (some c),zS b8 b5.length b9,Value.func (.func 41) #[] #[]]::box b22 123 o::L) v7:=v8
     refine dG (C:=fun w'=>∃ L',aD G c3 (box a9 72 [i64 b.F,i64 b.B,i64 b.To]::box J 35 (zC a u x y z)::L') w') [(0,0),(1,0),(2,0),(3,0),(4,0),(5,0),(6,0),(7,0),(8,0),(9,0),(10,0),(11,1),(12,1)] Tryz_mixed (by kernel_rfl) (fun _ hg=>⟨_,aD.mono r1 hg⟩) (fun a61 v9=>?_)
     have w0:=aD.mono r1 v9
     refine aCk ?_;obtain ⟨m7,r2,hm⟩:=aB hm
     refine aCk ?_;obtain ⟨a62,w1,w2⟩:=bE.el (sz:=1) rfl m0 r2
     cases w2
     refine aCk ?_;refine jZ rfl ?_
     obtain ⟨a63,w3,w4,w5,w6⟩:=aD.lendBp w0 zt2
     obtain ⟨r3,w7,hm⟩:=aB hm
     refine eE (vs:=[i64 c1,i64 b.To]) (caps:=[cX (some ⟨e,0,none⟩) 0]) (us:=[i64 c1,i64 b.To,cX (some ⟨e,0,none⟩) 0]) rfl call89 rfl rfl (mE w7 w5 w4 (h4.mono (zL (zL g k) w3))) ?_
     rintro _ m8 ⟨r4,r5,rfl,w8⟩
     have w9:=w6 _ _ w8
     refine aR (aC ⟨⟨_,aKa⟩,?_⟩)
     refine jZ rfl ?_;obtain ⟨d5,l,x0,m9⟩:=aD.giveSp w9 (zL g k) zt1
     replace m9:aD G d5 (box e 29 p::box a9 72 [i64 b.F,i64 b.B,i64 b.To]::box J 35 (zC a u x y z)::aG 72 K a0 a2 V::box q 28 m::aG 29 c3 b6 b7 b4::kV c d4::aG 129 K b8 b9 b5::box b23 127 [zS b6 b4.length b7,zM (some c),zS b8 b5.length b9,Value.func (.func 41) #[] #[]]::box b22 123 o::L) m8:=m9
     have a64:aD G d5 (box e 29 p::box a9 72 [i64 b.F,i64 b.B,i64 b.To]::box J 35 (zC a u x y z)::aG 72 K a0 a2 V::box q 28 m::aG 29 d5 b6 b7 b4::kV c d4::aG 129 K b8 b9 b5::box b23 127 [zS b6 b4.length b7,zM (some c),zS b8 b5.length b9,Value.func (.func 41) #[] #[]]::box b22 123 o::L) m8:=aD.weak (i:=5) m9 rfl (fun _ h=>aG.mono l h)
     have x1:aD G d5 (aG 29 d5 b6 b7 b4::kV c d4::aG 129 K b8 b9 b5::box b23 127 [zS b6 b4.length b7,zM (some c),zS b8 b5.length b9,Value.func (.func 41) #[] #[]]::box b22 123 o::box e 29 p::box a9 72 [i64 b.F,i64 b.B,i64 b.To]::box J 35 (zC a u x y z)::aG 72 K a0 a2 V::box q 28 m::L) m8:=aKa
     obtain ⟨a65,x2,hm⟩:=aB hm
     refine eE (vs:=[str m7,zS r4 r3.length r5]) (caps:=[cX a16 d8,cX a19 d9]) (us:=[str m7,zS r4 r3.length r5,cX a16 d8,cX a19 d9]) rfl call45 rfl rfl (mU (Kf:=d5) x2 x1 hG (zR _) x0 (o8.mono (zL (zL g k) l)) (o9.mono (zL (zL g k) l)) (p0.mono (zL (zL g k) l))) ?_
     rintro _ a66 ⟨a67,a68,a69,a71,rfl,a72⟩
     refine aR (aC ⟨⟨_,aKa⟩,?_⟩)
     refine qE (aCk ?_);refine aU [2,3,4,6,7,8,20,21,22,32,33,34] (fun f w=>∃ f8 f9 j0 g0 j1 j2 j3 j4,Hp.le d5 f8/\nL f6 f9 j0 g0=some m5/\aD G f8 (aG 129 K j3 j4 g0::aG 29 f8 j1 j2 f9::kV c j0::box b23 127 [zS j1 f9.length j2,zM (some c),zS j3 g0.length j4,Value.func (.func 41) #[] #[]]::box b22 123 o::box e 29 p::box J 35 (zC a u x y z)::aG 72 K a0 a2 V::box q 28 m::L) w) ?_ ?_
     ·rintro f a73 ⟨f8,f9,j0,g0,j1,j2,j3,j4,x3,hm,a75⟩
      unfold nL at hm
      refine aCk ?_;exact ⟨cE,f8,f9,j0,g0,j1,j2,j3,j4,(zL l x3),hm,aKa⟩
     obtain ⟨a76,x4,ho⟩:=aB hm
     refine rZ [2,3,4,6,7,8,10,20,21,22,32,33,34] x4 (fun g1 g2 j5 g3 f w=>∃ c9 g4 g5 g6 g7,Hp.le d5 c9/\f 11=i64 g1/\aD G c9 (aG 29 c9 g4 g5 g2::kV c j5::aG 129 K g6 g7 g3::box b23 127 [zS g4 g2.length g5,zM (some c),zS g6 g3.length g7,Value.func (.func 41) #[] #[]]::box b22 123 o::box e 29 p::box a9 72 [i64 b.F,i64 b.B,i64 b.To]::box J 35 (zC a u x y z)::aG 72 K a0 a2 V::box q 28 m::L) w) aP ?_
     ·rintro g1 g2 j5 g3 n0 f a77 hm hr ⟨c9,g4,g5,g6,g7,r,r6,r7⟩
      unfold gK at hm
      refine aCk ?_
      rcases aS hm with ⟨r8,hm⟩|⟨r8,hm⟩
      ·refine aCk ?_;refine aU [2,3,4,6,7,8,10,11,20,21,22,32,33,34] (fun f w=>∃ g8 j6 n1 j7 j8 j9 k0 k1,Hp.le c9 g8/\rL g1 j6 n1 j7=some n0/\aD G g8 (aG 129 K k0 k1 j7::aG 29 g8 j8 j9 j6::kV c n1::box b23 127 [zS j8 j6.length j9,zM (some c),zS k0 j7.length k1,Value.func (.func 41) #[] #[]]::box b22 123 o::box e 29 p::box a9 72 [i64 b.F,i64 b.B,i64 b.To]::box J 35 (zC a u x y z)::aG 72 K a0 a2 V::box q 28 m::L) w) ?_ ?_
       ·rintro f a78 ⟨g8,j6,n1,j7,j8,j9,k0,k1,x5,hm,a79⟩
        unfold rL at hm
        refine aCk ?_;exact ⟨_,(zI hm).symm,cE,g8,j8,j9,k0,k1,(zL r x5),rfl,aKa⟩
       refine aCk ?_;obtain ⟨d,x6,hm⟩:=aB hm
       refine aCk ?_;obtain ⟨a80,x7,x8⟩:=bE.el (sz:=4) rfl h3 x6
       obtain ⟨d0,d1,d2,d3,rfl,n2,x9⟩:=x8
       refine aF (eD (t:=0) (vs:=(zC d d0 d1 d2 d3)) eW r7 (x7.mono (zL (zL (zL g k) l) r)) rfl rfl rfl) (aFm fun e0 a81 a82=>?_);refine aJz fun a83 y0=>?_
       refine aCk ?_;obtain ⟨a84,n3,y1,y2,y3⟩:=aD.lendBp y0 .head
       obtain ⟨a85,k2,y4,a86,y5⟩:=aD.lendBp y2 zt5
       refine aKg [(0,0),(1,0),(2,0),(3,0),(4,0),(7,0),(5,1),(6,0)] fun a87 e1=>?_;refine bB rfl (fun _ ⟨_,e1⟩=>eD (t:=0) (vs:=(zC d d0 d1 d2 d3)) eW e1 (y1.mono k2) rfl rfl rfl) (bB rfl (fun _ ⟨_,e1⟩=>bG (t:=0) tV e1 y4 rfl rfl) (bB rfl (fun _ _=>aY r6) ?_))
       obtain ⟨a88,y6,hm⟩:=aB hm
       refine aCk ?_;obtain ⟨a89,y7,y8⟩:=bE.el (sz:=1) rfl h4 y6
       cases y8
       refine bB rfl (fun _ ⟨_,e1⟩=>bG (t:=0) eG e1 (y7.mono (zL (zL (zL (zL (zL g k) l) r) n3) k2)) rfl rfl) (bB rfl (fun _ _=>aY (v:=i64 0) rfl) (jZ rfl ?_));obtain ⟨e2,y9,hm⟩:=aB hm
       refine aED call90 (uJ y9 e1 (n2.mono (zL (zL (zL (zL (zL g k) l) r) n3) k2)) (x9.mono (zL (zL (zL (zL (zL g k) l) r) n3) k2))) ?_
       rintro _ a90 ⟨e3,e4,rfl,r9⟩
       refine aR (aC ⟨⟨_,r9⟩,?_⟩)
       refine aCk ?_;refine qE ?_
       have z0:=y5 _ _ r9
       have z1:=y3 _ _ z0
       refine aCk ?_;refine aU [2,3,4,6,7,8,10,11,20,21,22,32,33,34] (fun f w=>∃ n4 n5 s0 n6 s1 s2 s3 s4,Hp.le c9 n4/\rM g1 n5 s0 n6=some n0/\aD G n4 (aG 129 K s3 s4 n6::aG 29 n4 s1 s2 n5::box e 29 p::kV c s0::box b23 127 [zS s1 n5.length s2,zM (some c),zS s3 n6.length s4,Value.func (.func 41) #[] #[]]::box b22 123 o::box a9 72 [i64 b.F,i64 b.B,i64 b.To]::box J 35 (zC a u x y z)::aG 72 K a0 a2 V::box q 28 m::L) w) aP ?_
       obtain ⟨a91,z2,ho⟩:=aB hm
       refine rZ [2,3,4,6,7,8,10,11,12,20,21,22,32,33,34,70,71] z2 (fun n7 a5 c4 a6 f w=>∃ c0 b0 b1 b2 b3,Hp.le c9 c0/\f 72=i64 n7/\aD G c0 (box e0 35 (zC d d0 d1 d2 d3)::box e 29 p::aG 72 K e3 e4 e2::aG 29 c0 b0 b1 a5::kV c c4::aG 129 K b2 b3 a6::box b23 127 [zS b0 a5.length b1,zM (some c),zS b2 a6.length b3,Value.func (.func 41) #[] #[]]::box b22 123 o::box a9 72 [i64 b.F,i64 b.B,i64 b.To]::box J 35 (zC a u x y z)::aG 72 K a0 a2 V::box q 28 m::L) w) ?_ ?_
       ·exact ⟨c9,g4,g5,g6,g7,(zR _),rfl,z1⟩
       ·rintro n7 a5 c4 a6 z3 f a92 hm hr ⟨c0,b0,b1,b2,b3,a8,z4,s5⟩
        unfold hJ at hm
        refine aCk ?_
        rcases aS hm with ⟨s6,hm⟩|⟨s6,hm⟩
        ·refine aCk ?_;refine aU [2,3,4,6,7,8,10,11,12,20,21,22,32,33,34,70,71,72] (fun f w=>∃ g9 k3 n8 k4 k5 k6 k7 k8,Hp.le c0 g9/\lG n7 k3 n8 k4=some z3/\aD G g9 (aG 129 K k7 k8 k4::aG 29 g9 k5 k6 k3::box e0 35 (zC d d0 d1 d2 d3)::box e 29 p::aG 72 K e3 e4 e2::kV c n8::box b23 127 [zS k5 k3.length k6,zM (some c),zS k7 k4.length k8,Value.func (.func 41) #[] #[]]::box b22 123 o::box a9 72 [i64 b.F,i64 b.B,i64 b.To]::box J 35 (zC a u x y z)::aG 72 K a0 a2 V::box q 28 m::L) w) ?_ ?_
         ·rintro f a93 ⟨g9,k3,n8,k4,k5,k6,k7,k8,z5,hm,a94⟩
          unfold lG at hm
          refine aCk ?_;exact ⟨_,(zI hm).symm,cE,g9,k5,k6,k7,k8,(zL a8 z5),rfl,aKa⟩
         refine aCk ?_;obtain ⟨a3,s7,hm⟩:=aB hm
         have z6:=dJ s5 (i:=2) rfl s7
         refine aF (fI eI rfl z6 rfl rfl z4 s7) (aCk ?_);refine aFm fun h0 a95 a96=>?_
         refine aJz fun a98 j=>?_;refine aCk ?_
         refine aME ?_;refine cJ (fun _ j=>eO (us:=m) uR j (i:=12) rfl rfl rfl rfl) (cJ (fun _ j=>aV (t':=2) mL rfl rfl) (cJ (fun _ j=>bT uQ j (i:=10) rfl rfl rfl) (cJ (fun _ j=>aV (t':=1) rA rfl rfl) (cJ (fun _ j=>bT eG j (i:=9) rfl rfl rfl) (cJ (fun _ j=>eH fJ rfl (m0.mono (zL (zL (zL (zL g k) l) r) a8)) rfl rfl rfl r2) (cJ (fun _ j=>bG (t:=0) yX j (w1.mono (zL (zL (zL (zL g k) l) r) a8)) rfl rfl) (cJ (fun _ j=>aV (t':=2) mL rfl rfl) (cJ (fun _ j=>bT uQ j (i:=1) rfl rfl rfl) (cJ (fun _ j=>aV (t':=1) rA rfl rfl) (cJ (fun _ j=>bT eG j (i:=0) rfl rfl rfl) ?_))))))))))
         obtain ⟨z7,s8,hm⟩:=aB hm
         refine cJ (fun _ j=>eH fJ rfl (n2.mono (zL (zL (zL (zL g k) l) r) a8)) rfl rfl rfl s8) ?_;obtain ⟨a99,z8,z9⟩:=bE.el (sz:=1) rfl n2 s8
         cases z9
         refine cJ (fun _ j=>bG (t:=0) yX j (z8.mono (zL (zL (zL (zL g k) l) r) a8)) rfl rfl) ?_;obtain ⟨c6,a00,hm⟩:=aB hm
         refine aKI (vs:=[zA #[zS a1 n.Parts.length c2,zS a4 n.Meetings.length c5,zS a7 n.Allowed.length c8,zS a10 n.Hidden.length c11],str m7,str z7]) (v:=zT #[str c6.1,zB c6.2]) call91 rfl (fun _ j=>(rT a00 j hG (h3.mono (zL (zL (zL (zL g k) l) r) a8)) (h6.mono (zL (zL (zL (zL g k) l) r) a8)) (h9.mono (zL (zL (zL (zL g k) l) r) a8)) (t3.mono (zL (zL (zL (zL g k) l) r) a8)))) (cJ (fun _ j=>aY (v:=zT #[str c6.1,zB c6.2]) rfl) (cJ (fun _ j=>bM rfl rfl) (cJ (fun _ j=>bM rfl rfl) (cJ (fun _ j=>dT (v:=str c6.1) rfl) (cJ (fun _ j=>dT (v:=zB c6.2) rfl) (aAf (fun b00 n9=>(aC (aK (aJ (v:=zB c6.2) (aI ?_)))))))))))
         rcases aS hm with ⟨o0,hm⟩|⟨o0,hm⟩
         ·refine aZ o0 rfl (aK (aJ (v:=Value.func (.func 89) #[] #[zP (some ⟨e,0,none⟩)]) (aJ (v:=i64 c1) (aF (aV (t':=2) tJ rfl rfl) (aF (bT eG n9 (i:=9) rfl rfl rfl) ?_)))));obtain ⟨b01,a01,a02,a03,a04⟩:=aD.lendBp n9 zt2
          obtain ⟨o1,a05,hm⟩:=aB hm
          refine eE (vs:=[i64 c1,i64 b.To]) (caps:=[cX (some ⟨e,0,none⟩) 0]) (us:=[i64 c1,i64 b.To,cX (some ⟨e,0,none⟩) 0]) rfl call89 rfl rfl (mE a05 a03 a02 (h4.mono (zL (zL (zL (zL (zL g k) l) r) a8) a01))) ?_
          rintro _ a06 ⟨d6,d7,rfl,a07⟩
          have o2:=a04 _ _ a07
          refine aM (v:=zS d6 o1.length d7) (aI (aK (aJ (v:=zS d6 o1.length d7) (bH r6 (aF (aV (t':=2) tJ rfl rfl) (aF (bT eG o2 (i:=2) rfl rfl rfl) ?_))))));obtain ⟨b02,o3,hm⟩:=aB hm
          have a08:=dJ o2 (i:=1) rfl o3
          refine aF (fI bR rfl a08 rfl rfl rfl o3) ?_;obtain ⟨k9,s9,hm⟩:=aB hm
          have a09:aD G c0 (box e 29 p::aG 2 K d6 d7 o1::box h0 72 [i64 a3.F,i64 a3.B,i64 a3.To]::box e0 35 (zC d d0 d1 d2 d3)::aG 72 K e3 e4 e2::aG 29 c0 b0 b1 a5::kV c c4::aG 129 K b2 b3 a6::box b23 127 [zS b0 a5.length b1,zM (some c),zS b2 a6.length b3,Value.func (.func 41) #[] #[]]::box b22 123 o::box a9 72 [i64 b.F,i64 b.B,i64 b.To]::box J 35 (zC a u x y z)::aG 72 K a0 a2 V::box q 28 m::L) a06:=o2
          refine pO (i:=1) (t:=0) (ns:=[i64 a3.To]) (e':=(a3.To:Int)) sizeOf2 a09 rfl (zL (zL (zL (zL g k) l) r) a8) rfl rfl rfl o3 s9 rfl rfl (dM rfl) rfl (fun cs h=>by cases h;rfl) (fun l0 (a11:aD G c0 (box e 29 p::aG 2 K d6 d7 k9::box h0 72 [i64 a3.F,i64 a3.B,i64 a3.To]::box e0 35 (zC d d0 d1 d2 d3)::aG 72 K e3 e4 e2::aG 29 c0 b0 b1 a5::kV c c4::aG 129 K b2 b3 a6::box b23 127 [zS b0 a5.length b1,zM (some c),zS b2 a6.length b3,Value.func (.func 41) #[] #[]]::box b22 123 o::box a9 72 [i64 b.F,i64 b.B,i64 b.To]::box J 35 (zC a u x y z)::aG 72 K a0 a2 V::box q 28 m::L) l0)=>(aI (aW (aJ (v:=Value.func (.func 45) #[] #[cX a16 d8,cX a19 d9]) (aJ (v:=str c6.1) (bH (v:=zS d6 k9.length d7) (Eq.trans rfl (congrArg (fun n=>zS d6 n d7) (iS s9))) ?_))))))
          obtain ⟨e5,h1,a12,o4⟩:=aD.giveSp a11 (zL (zL (zL (zL g k) l) r) a8) zt1
          replace o4:aD G e5 (box e 29 p::box h0 72 [i64 a3.F,i64 a3.B,i64 a3.To]::box e0 35 (zC d d0 d1 d2 d3)::aG 72 K e3 e4 e2::aG 29 c0 b0 b1 a5::kV c c4::aG 129 K b2 b3 a6::box b23 127 [zS b0 a5.length b1,zM (some c),zS b2 a6.length b3,Value.func (.func 41) #[] #[]]::box b22 123 o::box a9 72 [i64 b.F,i64 b.B,i64 b.To]::box J 35 (zC a u x y z)::aG 72 K a0 a2 V::box q 28 m::L) l0:=o4
          have a14:aD G e5 (box e 29 p::box h0 72 [i64 a3.F,i64 a3.B,i64 a3.To]::box e0 35 (zC d d0 d1 d2 d3)::aG 72 K e3 e4 e2::aG 29 e5 b0 b1 a5::kV c c4::aG 129 K b2 b3 a6::box b23 127 [zS b0 a5.length b1,zM (some c),zS b2 a6.length b3,Value.func (.func 41) #[] #[]]::box b22 123 o::box a9 72 [i64 b.F,i64 b.B,i64 b.To]::box J 35 (zC a u x y z)::aG 72 K a0 a2 V::box q 28 m::L) l0:=aD.weak (i:=4) o4 rfl (fun _ h=>aG.mono h1 h)
          have a15:aD G e5 (aG 29 e5 b0 b1 a5::kV c c4::aG 129 K b2 b3 a6::box b23 127 [zS b0 a5.length b1,zM (some c),zS b2 a6.length b3,Value.func (.func 41) #[] #[]]::box b22 123 o::box e 29 p::box h0 72 [i64 a3.F,i64 a3.B,i64 a3.To]::box e0 35 (zC d d0 d1 d2 d3)::aG 72 K e3 e4 e2::box a9 72 [i64 b.F,i64 b.B,i64 b.To]::box J 35 (zC a u x y z)::aG 72 K a0 a2 V::box q 28 m::L) l0:=(aD.arr 9 [4,5,6,7,8,0,1,2,3] a14 rfl)
          obtain ⟨o5,a17,hm⟩:=aB hm
          refine eE (vs:=[str c6.1,zS d6 k9.length d7]) (caps:=[cX a16 d8,cX a19 d9]) (us:=[str c6.1,zS d6 k9.length d7,cX a16 d8,cX a19 d9]) rfl call45 rfl rfl (mU (Kf:=e5) a17 a15 hG (zR _) a12 (o8.mono (zL (zL (zL (zL (zL g k) l) r) a8) h1)) (o9.mono (zL (zL (zL (zL (zL g k) l) r) a8) h1)) (p0.mono (zL (zL (zL (zL (zL g k) l) r) a8) h1))) ?_
          rintro _ b03 ⟨a18,a20,a21,a22,rfl,a23⟩
          exact aR (dI (aC ⟨cE,e5,o5.1,o5.2.1,o5.2.2,a18,a20,a21,a22,h1,hm,(aD.arr 9 [2,0,7,5,8,1,3,4] a23 rfl)⟩))
         ·exact bJ o0 rfl (bD (dI (aC ⟨cE,c0,a5,c4,a6,b0,b1,b2,b3,(zR _),hm,(aD.arr 7 [6,4,1,2,3,5] n9 rfl)⟩)))
        ·refine bJ s6 rfl (aBx (kP (kP ?_)))
         have a25:=hr _ (zI hm).symm
         subst a25
         have hm:(rM g1 a5 c4 a6)=some n0:=ho
         clear hr ho
         exact vV (aC ⟨cE,c0,a5,c4,a6,b0,b1,b2,b3,a8,hm,(aD.arr 6 [5,3,1,4] s5 rfl)⟩)
      ·refine bJ r8 rfl (aBx (kP (kP ?_)))
       have a26:=hr _ (zI hm).symm
       subst a26
       have hm:(nL f6 g2 j5 g3)=some m5:=ho
       clear hr ho
       exact vV (aC ⟨cE,c9,g2,j5,g3,g4,g5,g6,g7,r,hm,(aD.arr 7 [2,0,1,3,4,5] r7 rfl)⟩)
    ·refine bJ q9 rfl (aBx (kP (kP ?_)))
     have a28:=hr _ (zI hm).symm
     subst a28
     have hm:(rJ c1 b4 d4 b5)=some l8:=ho
     clear hr ho
     exact vV (aC ⟨cE,c3,b4,d4,b5,b6,b7,b8,b9,k,hm,(aD.arr 7 [6,4,1,3,5] q8 rfl)⟩)
  ·refine bJ q0 rfl (aBx (kP (kP ?_)))
   have a30:=hr _ (zI hm).symm
   subst a30
   have hm:(xB e8 h5 e9)=some R:=ho
   clear hr ho
   exact vV (aC ⟨cE,c7,e8,h5,e9,f0,f1,f2,f3,g,hm,(aD.arr 5 [4,2,3] t7 rfl)⟩)
theorem uW {s_:(List Int)} {c:(List (List Int))} {e:(List (aH × Int))} {b:Nat} {d:(List cO)} {m:Int} {n:Nat} {p:aO} {o j:Nat} {R:(Bool × (List (List Int)) × (List (aH × Int)) × (List cO))} (hm:oD s_ c e d m p=some R) (hs:aD G K (aG 29 Kf a6 c7 c::kV b e::aG 129 K a9 c10 d::box b5 127 [zS a6 c.length c7,zM (some b),zS a9 d.length c10,Value.func (.func 41) #[] #[]]::box b4 123 [zP (some ⟨b5,0,none⟩)]::L) w) (z:G.lo=0) (J:Hp.le Kf K) (V:bE K a1 c2 s_) (a0:fK K a11 n [i64 m]) (c5:fK K a14 o [zS a17 p.Parts.length c18,zS a20 p.Meetings.length c21,zS a23 p.Allowed.length c24,zS a26 p.Hidden.length c27]) (a2:bE K a17 c18 p.Parts) (a3:bE K a20 c21 p.Meetings) (a4:bE K a23 c24 p.Allowed) (a5:bE K a26 c27 p.Hidden) (a7:fK K a29 j [Value.func (.func 112) #[] #[]]):
  Calls prog 43 ([zS a1 s_.length c2,Value.func (.func 84) #[] #[zP (some ⟨b4,0,none⟩),cX a11 n],cX a14 o,cX a29 j]:List Value).toArray w (eQ fun v w'=>∃ k q r t u,v=zB R.1/\Hp.le K k/\aD G k (aG 29 k q r R.2.1::kV b R.2.2.1::aG 129 K t u R.2.2.2::box b5 127 [zS q R.2.1.length r,zM (some b),zS t R.2.2.2.length u,Value.func (.func 41) #[] #[]]::box b4 123 [zP (some ⟨b5,0,none⟩)]::L) w'):=by
 let x:=[zS a6 c.length c7,zM (some b),zS a9 d.length c10,Value.func (.func 41) #[] #[]]
 refine aFe func43 ?_;unfold oD at hm
 refine aCk ?_;refine aKb fun a8 y b0=>?_
 iterate 7 refine aFl ?_
 refine aF (eV (vs:=[cX a29 j,zP (some ⟨a8,0,none⟩)]) rfl) ?_;obtain ⟨g,a,b1,l,_⟩:=aD.lendBp b0 .head
 replace l:aD G g (aG 29 Kf a6 c7 c::kV b e::aG 129 K a9 c10 d::box b5 127 x::box b4 123 [zP (some ⟨b5,0,none⟩)]::L) y:=l
 have b2:aD G g (aG 29 g a6 c7 c::kV b e::aG 129 K a9 c10 d::box b5 127 x::box b4 123 [zP (some ⟨b5,0,none⟩)]::L) y:=aD.weak (i:=0) l rfl (fun _ h=>aG.mono (zL J a) h)
 obtain ⟨c6,b3,hm⟩:=aB hm
 refine aED call44 (aBs (Kf:=g) b3 b2 z (zR _) (a2.mono a) (a3.mono a) (a4.mono a) (a5.mono a) (V.mono a) (a7.mono a) b1 (a0.mono a)) ?_
 rintro _ c8 ⟨b6,b7,b8,b9,c48,rfl,c0,c1⟩
 refine aCk ?_;obtain rfl:=zI hm
 exact aMD results43 ⟨b6,b7,b8,b9,c48,rfl,(zL a c0),c1⟩
theorem xP {d0:(List Int)} {k:aO} {k5 c6:Nat} {R:(bA × (List (List Int)) × Bool)} (hm:mS d0 k=some R) (hs:aD G K (L) w) (hG:G.lo=0) (h3:bE K a1 c2 d0) (h6:fK K a4 k5 [zS a7 k.Parts.length c8,zS a10 k.Meetings.length c11,zS a13 k.Allowed.length c14,zS a16 k.Hidden.length c17]) (h9:bE K a7 c8 k.Parts) (h0:bE K a10 c11 k.Meetings) (h1:bE K a13 c14 k.Allowed) (h2:bE K a16 c17 k.Hidden) (h4:fK K a19 c6 [Value.func (.func 112) #[] #[]]):
  Calls prog 40 ([zS a1 d0.length c2,Value.func (.func 41) #[] #[],Value.func (.func 43) #[] #[cX a4 k5,cX a19 c6]]:List Value).toArray w (eQ fun v w'=>∃ K' e9 f0 f1 f2 f3 f4,v=zT #[zA (zCa R.1 e9 f0 f1 f2),zS f3 R.2.1.length f4,zB R.2.2]/\Hp.le K K'/\aD G K' (aG 9 K e9 f0 R.1.L::aG 72 K f1 f2 R.1.E::aG 29 K' f3 f4 R.2.1::L) w'):=by
 let l:=zG
 refine aFe func40 ?_;unfold mS at hm
 refine aCk ?_;refine aFm fun m r2 h5=>?_
 refine aCk ?_;refine aLu aH Int h5 ?_
 intro a h7 (r3:aD G K (kV a ([]:(List (aH × Int)))::box m 35 l::L) h7)
 iterate 1 refine aFl ?_
 refine aF (jU (vs:=[(1,zM (some a)),(3,Value.func (.func 41) #[] #[])]) (cs:=[zS none 0 0,zM (some a),zS none 0 0,Value.func (.func 41) #[] #[]]) bs_127 rfl (by kernel_rfl)) (aKb fun b r4 r5=>?_);refine aFm fun c r6 r7=>?_
 refine aJz fun h8 i0=>?_;refine aCk ?_
 have i1:=aD.nil (α:=(List Int)) i0 29 K
 have r8:=aD.nil (α:=cO) i1 129 K
 have i2:aD G K (aG 29 K none 0 ([]:List (List Int))::kV a ([]:(List (aH × Int)))::aG 129 K none 0 ([]:List cO)::box b 127 [zS none 0 0,zM (some a),zS none 0 0,Value.func (.func 41) #[] #[]]::box c 123 [zP (some ⟨b,0,none⟩)]::box m 35 l::L) h8:=aKa
 obtain ⟨r9,i3,hm⟩:=aB hm
 refine aED call83 (gO (Kf:=K) i3 i2 hG (zR _) h3) ?_
 rintro _ s0 ⟨s1,s2,rfl,s3⟩
 refine aCk ?_;refine aFm fun s4 s5 s6=>?_
 refine aJz fun s7 i4=>?_;refine aCk ?_
 refine aU [6,9] (fun f w=>∃ a6 V c7 a8 b3 b4 b5 b6,Hp.le K a6/\kW V c7 a8=some R/\aD G a6 (aG 129 K b5 b6 a8::aG 29 a6 b3 b4 V::kV a c7::box b 127 [zS b3 V.length b4,zM (some a),zS b5 a8.length b6,Value.func (.func 41) #[] #[]]::box c 123 [zP (some ⟨b,0,none⟩)]::box m 35 l::L) w) ?_ ?_
 ·rintro f s8 ⟨a6,V,c7,a8,b3,b4,b5,b6,e,hm,i5⟩
  unfold kW at hm
  refine aCk ?_;refine cI [6,9] (fun f w=>∃ a9 b0 a0 a2 d3 b7 b8 b9 c0,nG V a9 b0 a0 a2=some R/\f 12=zP (some ⟨d3,0,none⟩)/\aD G a6 (aG 72 K b9 c0 a2::aG 9 K b7 b8 a0::box d3 35 [i64 a9,i64 b0,zS b7 a0.length b8,zS b9 a2.length c0]::aG 129 K b5 b6 a8::aG 29 a6 b3 b4 V::kV a c7::box b 127 [zS b3 V.length b4,zM (some a),zS b5 a8.length b6,Value.func (.func 41) #[] #[]]::box c 123 [zP (some ⟨b,0,none⟩)]::box m 35 l::L) w) ?_ ?_
  ·rintro f s9 ⟨a9,b0,a0,a2,d3,b7,b8,b9,c0,hm,f5,i6⟩
   unfold nG at hm
   refine aCk ?_;obtain ⟨t0,f6,f7,i7,t1⟩:=aD.lendBp i6 zt2
   obtain ⟨t2,c9,i8,i9,t3⟩:=aD.lendBp i7 zt5
   obtain ⟨t4,c1,j0,t5,t6⟩:=aD.lendBp i9 zt5
   refine aKg [(0,0),(1,0),(2,0),(3,0),(4,0),(5,1),(6,1),(7,1),(8,2),(9,2)] fun t7 n=>?_;refine bB rfl (fun _ ⟨_,n⟩=>eD (t:=0) (vs:=[i64 a9,i64 b0,zS b7 a0.length b8,zS b9 a2.length c0]) eW n (f7.mono (zL c9 c1)) f5 rfl rfl) (bB rfl (fun _ ⟨_,n⟩=>bG (t:=0) wX n j0 rfl rfl) (bB rfl (fun _ _=>pB rfl) (bB rfl (fun _ _=>aV (t':=0) vZ rfl rfl) (bB rfl (fun _ ⟨_,n⟩=>bG (t:=0) aFu n (i8.mono c1) rfl rfl) (jZ rfl (aF (eD (t:=0) (vs:=[i64 a9,i64 b0,zS b7 a0.length b8,zS b9 a2.length c0]) eW n (f7.mono (zL c9 c1)) f5 rfl rfl) (aR (aC ⟨⟨_,n⟩,?_⟩))))))))
   refine jZ rfl ?_;obtain ⟨t8,j1,j2,j3,j4⟩:=aD.lendSp n (zL (zL (zL e f6) c9) c1) zt1
   obtain ⟨t9,j5,j6,j7,j8⟩:=aD.lendSp j3 (zL (zL (zL (zL e f6) c9) c1) j1) .head
   obtain ⟨u0,j9,hm⟩:=aB hm
   refine aED call37 (aDn (t:=⟨a9,b0,a0,a2⟩) j9 j7 hG (j2.mono j5) j6) ?_
   rintro _ u1 ⟨rfl,k0⟩
   have k1:=j8 _ _ k0
   have u2:=j4 _ _ k1
   exact aP
  obtain ⟨u3,z,d4,k2,d5⟩:=aD.lendBp i5 zt3
  obtain ⟨k3,d,u4,k4,d6⟩:=aD.lendBp k2 zt3
  refine pY (C:=fun w'=>∃ L',aD G k3 L' w') [16] Tryz_mixed (by kernel_rfl) (fun u5 k6=>?_)
  have g:=aD.mono k4 k6
  refine aGy 0 ?_;refine aGy 1 ?_
  refine aGy 2 ?_;refine dH (i:=3) rfl (by kernel_rfl) ⟨_,g⟩ (fun _ ⟨_,g⟩=>bG (t:=0) aFu g (d4.mono d) rfl rfl) (aGy 4 ?_)
  refine aGy 5 ?_;refine aGy 6 ?_
  refine aGy 7 ?_;refine dH (i:=8) rfl (by kernel_rfl) ⟨_,g⟩ (fun _ ⟨_,g⟩=>bG (t:=2) aGR g (d4.mono d) rfl rfl) (aGy 10 ?_)
  refine aGy 11 ?_;refine aGy 12 ?_
  refine dH (i:=13) rfl (by kernel_rfl) ⟨_,g⟩ (fun _ ⟨_,g⟩=>bG (t:=2) aGR g (d4.mono d) rfl rfl) (oT (i:=9) (j:=15) (by kernel_rfl) rfl rfl ?_ ?_)
  ·obtain ⟨u6,u7,k7,k8,k9⟩:=aD.lendSp g (zL (zL e z) d) .head
   obtain ⟨u8,l0,hm⟩:=aB hm
   refine aED call86 (wH l0 k8 k7) ?_
   rintro _ u9 ⟨v0,v1,rfl,l1⟩
   have f8:=k9 _ _ l1
   refine aR (aC ⟨fun _=>⟨_,f8⟩,?_⟩)
   refine oT (i:=14) (j:=15) (by kernel_rfl) rfl rfl ?_ ?_
   ·obtain ⟨v2,l2,l3,l4,l5⟩:=aD.lendSp f8 (zL (zL e z) d) zt1
    obtain ⟨v3,l6,l7,l8,l9⟩:=aD.lendSp l4 (zL (zL (zL e z) d) l2) .head
    obtain ⟨v4,m0,hm⟩:=aB hm
    refine aED call85 (aAX m0 l8 (l3.mono l6) l7) ?_
    rintro _ v5 ⟨v6,v7,v8,v9,rfl,m1⟩
    have m2:=l9 _ _ m1
    have m3:=l5 _ _ m2
    refine aR (aC ⟨fun _=>⟨_,m3⟩,?_⟩)
    refine bI (i:=15) (by kernel_rfl) rfl (aFm fun w0 w1 f9=>?_);refine aR (aC ⟨fun _=>⟨_,f9⟩,?_⟩)
    refine bI (i:=16) (by kernel_rfl) rfl ?_
    have m4:=d6 _ _ f9
    have w2:=d5 _ _ m4
    refine aJz fun w3 w4=>?_;refine aR (aC ⟨aCe rfl,?_⟩)
    exact iC (by kernel_rfl) aP
   ·refine aFm fun w5 w6 g0=>?_;refine aR (aC ⟨fun _=>⟨_,g0⟩,?_⟩)
    refine bI (i:=14) (by kernel_rfl) rfl ?_;obtain ⟨w7,m5,m6,m7,m8⟩:=aD.lendSp g0 (zL (zL e z) d) zt2
    obtain ⟨w8,m9,n0,n1,n2⟩:=aD.lendSp m7 (zL (zL (zL e z) d) m5) zt1
    obtain ⟨w9,n3,hm⟩:=aB hm
    refine aED call85 (aAX n3 n1 (m6.mono m9) n0) ?_
    rintro _ x0 ⟨x1,x2,x3,x4,rfl,n4⟩
    have n5:=n2 _ _ n4
    have g1:=m8 _ _ n5
    refine aR (aC ⟨fun _=>⟨_,g1⟩,?_⟩)
    refine bI (i:=16) (by kernel_rfl) rfl ?_
    have n6:=d6 _ _ g1
    have x5:=d5 _ _ n6
    refine aJz fun x6 x7=>?_;refine aR (aC ⟨aCe rfl,?_⟩)
    exact iC (by kernel_rfl) aP
  ·refine aFm fun x8 x9 g2=>?_;refine aR (aC ⟨fun _=>⟨_,g2⟩,?_⟩)
   refine bI (i:=9) (by kernel_rfl) rfl ?_;obtain ⟨y0,y1,n7,n8,n9⟩:=aD.lendSp g2 (zL (zL e z) d) zt1
   obtain ⟨y2,o0,hm⟩:=aB hm
   refine aED call86 (wH o0 n8 n7) ?_
   rintro _ y3 ⟨y4,y5,rfl,o1⟩
   have g3:=n9 _ _ o1
   refine aR (aC ⟨fun _=>⟨_,g3⟩,?_⟩)
   refine bI (i:=14) (by kernel_rfl) rfl ?_;obtain ⟨y6,o2,o3,o4,o5⟩:=aD.lendSp g3 (zL (zL e z) d) zt1
   obtain ⟨y7,o6,o7,o8,o9⟩:=aD.lendSp o4 (zL (zL (zL e z) d) o2) .head
   obtain ⟨y8,p0,hm⟩:=aB hm
   refine aED call85 (aAX p0 o8 (o3.mono o6) o7) ?_
   rintro _ y9 ⟨z0,z1,z2,z3,rfl,p1⟩
   have p2:=o9 _ _ p1
   have g4:=o5 _ _ p2
   refine aR (aC ⟨fun _=>⟨_,g4⟩,?_⟩)
   refine bI (i:=16) (by kernel_rfl) rfl ?_
   have p3:=d6 _ _ g4
   have z4:=d5 _ _ p3
   refine aJz fun z5 z6=>?_;refine aR (aC ⟨aCe rfl,?_⟩)
   exact iC (by kernel_rfl) aP
 have z7:=aD.nil (α:=cO) i4 129 K
 obtain ⟨z8,p4,ho⟩:=aB hm
 refine rZ [2,6,9] p4 (fun o c3 p d7 f w=>∃ c4 q r u x b1,Hp.le K c4/\f 10=zP (some ⟨b1,0,none⟩)/\aD G c4 (aG 129 K u x p::box b1 3 [i64 d7]::aG 29 c4 q r o::kV a c3::box b 127 [zS q o.length r,zM (some a),zS u p.length x,Value.func (.func 41) #[] #[]]::box c 123 [zP (some ⟨b,0,none⟩)]::box m 35 l::L) w) aP ?_
 ·rintro o c3 p d7 p5 f z9 hm hr ⟨c4,q,r,u,x,b1,a3,p6,a00⟩
  unfold dD at hm
  refine aCk ?_;refine aME ?_
  refine aCk ?_;refine aAf (fun p7 p8=>(aCk ?_))
  rcases aS hm with ⟨p9,hm⟩|⟨p9,hm⟩
  ·refine aCk ?_;refine dE (aCk ?_)
   obtain ⟨a5,y,q0,d8,_⟩:=aD.lendBp p8 zt1
   replace d8:aD G a5 (aG 129 K u x p::aG 29 c4 q r o::kV a c3::box b 127 [zS q o.length r,zM (some a),zS u p.length x,Value.func (.func 41) #[] #[]]::box c 123 [zP (some ⟨b,0,none⟩)]::box m 35 l::L) p7:=d8
   refine pY (C:=fun w'=>∃ L',aD G a5 L' w') [] Tryz_mixed (by kernel_rfl) (fun g5 q1=>?_)
   have J:=aD.mono d8 q1
   refine aGy 0 ?_;refine aGy 5 ?_
   refine dH (i:=8) rfl (by kernel_rfl) ⟨_,J⟩ (fun _ _=>eV (vs:=[zP (some ⟨c,0,none⟩),cX (some ⟨b1,0,none⟩) 0]) (lst2 rfl (aCK p6))) (bI (i:=1) (by kernel_rfl) rfl ?_)
   iterate 1 refine aFl ?_
   refine aR (aC ⟨fun _=>⟨_,J⟩,?_⟩)
   refine aGy 2 ?_;refine aGy 3 ?_
   refine bI (i:=4) (by kernel_rfl) rfl ?_
   iterate 1 refine aFl ?_
   refine aR (aC ⟨fun _=>⟨_,J⟩,?_⟩)
   obtain ⟨d9,e0,hm⟩:=aB hm
   have q2:=dJ J (i:=1) rfl e0
   refine dH (i:=6) rfl (by kernel_rfl) ⟨_,J⟩ (fun _ _=>fI iG rfl q2 rfl rfl rfl e0) (bI (i:=7) (by kernel_rfl) rfl ?_);obtain ⟨a01,q3,q4⟩:=aNT (sz:=1) rfl J (i:=1) rfl e0
   obtain ⟨e1,e2,rfl,q5⟩:=q4
   refine aF (R_ldC (t:=0) (v:=zS e1 d9.length e2) tV q3 rfl rfl) (aR (aC ⟨fun _=>⟨_,J⟩,?_⟩))
   refine bI (i:=9) (by kernel_rfl) rfl ?_
   have a02:aD G a5 (aG 129 K u x p::aG 29 a5 q r o::kV a c3::box b 127 [zS q o.length r,zM (some a),zS u p.length x,Value.func (.func 41) #[] #[]]::box c 123 [zP (some ⟨b,0,none⟩)]::box m 35 l::L) g5:=aD.weak (i:=1) J rfl (fun _ h=>aG.mono y h)
   have q6:aD G a5 (aG 29 a5 q r o::kV a c3::aG 129 K u x p::box b 127 [zS q o.length r,zM (some a),zS u p.length x,Value.func (.func 41) #[] #[]]::box c 123 [zP (some ⟨b,0,none⟩)]::box m 35 l::L) g5:=aKa
   obtain ⟨b2,q7,hm⟩:=aB hm
   refine eE (vs:=[zS e1 d9.length e2,Value.func (.func 84) #[] #[zP (some ⟨c,0,none⟩),cX (some ⟨b1,0,none⟩) 0]]) (caps:=[cX a4 k5,cX a19 c6]) (us:=[zS e1 d9.length e2,Value.func (.func 84) #[] #[zP (some ⟨c,0,none⟩),cX (some ⟨b1,0,none⟩) 0],cX a4 k5,cX a19 c6]) rfl call43 rfl rfl (uW (Kf:=a5) q7 q6 hG (zR _) (q5.mono y) q0 (h6.mono (zL a3 y)) (h9.mono (zL a3 y)) (h0.mono (zL a3 y)) (h1.mono (zL a3 y)) (h2.mono (zL a3 y)) (h4.mono (zL a3 y))) ?_
   rintro _ a03 ⟨e3,e4,e5,e6,e7,rfl,g6,q8⟩
   refine aR (aC ⟨fun _=>⟨_,(aD.weakK q8 g6)⟩,?_⟩)
   refine aGy 10 ?_;refine iC (by kernel_rfl) ?_
   iterate 2 refine aFl ?_
   refine cI [2,6,9,10] (fun f w=>∃ e8,kX d7 b2 e8=some p5/\f 48=zB e8/\aD G e3 (aG 29 e3 e4 e5 b2.2.1::kV a b2.2.2.1::aG 129 K e6 e7 b2.2.2.2::box b 127 [zS e4 b2.2.1.length e5,zM (some a),zS e6 b2.2.2.2.length e7,Value.func (.func 41) #[] #[]]::box c 123 [zP (some ⟨b,0,none⟩)]::box m 35 l::L) w) ?_ ?_
   ·rintro f a04 ⟨e8,hm,a05,a06⟩
    unfold kX at hm
    refine aCk ?_
    rcases aS hm with ⟨q9,hm⟩|⟨q9,hm⟩
    ·exact aP
    ·refine aCk ?_;refine aFm fun r0 a07 a08=>?_
     refine aJz fun a09 a11=>?_;refine aCk ?_
     refine aJz fun a12 a14=>?_;refine aCk ?_
     exact ⟨_,(zI hm).symm,cE,e3,e4,e5,e6,e7,r0,(zL (zL a3 y) g6),rfl,aKa⟩
   exact aP
  ·exact aP
theorem yP {n:aO} {R:(bA × (List (List Int)) × Bool)} (hm:nM n=some R) (hs:aD G K (L) w) (hG:G.lo=0) (h3:bE K a1 c2 n.Parts) (h6:bE K a4 c5 n.Meetings) (h9:bE K a7 c8 n.Allowed) (f3:bE K a10 c11 n.Hidden):
  Calls prog 18 ([zA #[zS a1 n.Parts.length c2,zS a4 n.Meetings.length c5,zS a7 n.Allowed.length c8,zS a10 n.Hidden.length c11],Value.func (.func 112) #[] #[]]:List Value).toArray w (eQ fun v w'=>∃ K' c7 c9 d0 d1 d2 d3,v=zT #[zA (zCa R.1 c7 c9 d0 d1),zS d2 R.2.1.length d3,zB R.2.2]/\Hp.le K K'/\aD G K' (aG 9 K c7 c9 R.1.L::aG 72 K d0 d1 R.1.E::aG 29 K' d2 d3 R.2.1::L) w'):=by
 let d:=zG
 let b7:=[zS a1 n.Parts.length c2,zS a4 n.Meetings.length c5,zS a7 n.Allowed.length c8,zS a10 n.Hidden.length c11]
 let z:=[Value.func (.func 112) #[] #[]]
 refine aFe func18 ?_;unfold nM at hm
 refine aCk ?_;refine aKb fun J l5 l6=>?_
 refine aKb fun x l7 l8=>?_;refine aFm fun e l9 f4=>?_
 refine aCk ?_;refine aU [2,3,4] (fun f w=>∃ V b8 b9,oF n V=some R/\f 7=zS b8 V.length b9/\aD G K (aG 2 K b8 b9 V::box e 35 d::box x 55 z::box J 28 b7::L) w) ?_ ?_
 ·rintro f c0 ⟨V,b8,b9,hm,m0,f5⟩
  unfold oF at hm
  iterate 4 refine aFl ?_
  refine aF (eV (vs:=[zP (some ⟨J,0,none⟩),zP (some ⟨x,0,none⟩)]) rfl) ?_;obtain ⟨f6,j,f7,c1⟩:=aD.giveSp f5 (zR _) .head
  replace c1:aD G f6 (box e 35 d::box x 55 z::box J 28 b7::L) c0:=c1
  obtain ⟨f8,g,f9,c3,_⟩:=aD.lendBp c1 zt2
  replace c3:aD G f8 (box e 35 d::box x 55 z::L) c0:=c3
  obtain ⟨g0,c,g1,c4,_⟩:=aD.lendBp c3 zt1
  replace c4:aD G g0 (box e 35 d::L) c0:=c4
  obtain ⟨a,g2,hm⟩:=aB hm
  refine aED call40 (xP g2 c4 hG (f7.mono (zL g c)) (f9.mono c) (h3.mono (zL (zL j g) c)) (h6.mono (zL (zL j g) c)) (h9.mono (zL (zL j g) c)) (f3.mono (zL (zL j g) c)) g1) ?_
  rintro _ m1 ⟨b,k,c45,l,m,r,u,rfl,a0,m2⟩
  refine aCk ?_;refine aFm fun a2 m3 m4=>?_
  refine aFm fun a3 m5 m6=>?_;refine aJz fun m7 m8=>?_
  refine aJz fun m9 g3=>?_;refine aCk ?_
  rcases aS hm with ⟨g4,hm⟩|⟨g4,hm⟩
  ·exact aP
  ·refine aCk ?_;obtain ⟨n0,g5,hm⟩:=aB hm
   refine aED call46 (aCW g5 g3) ?_
   rintro _ n1 ⟨o,p,rfl,g6⟩
   iterate 6 refine aFl ?_
   refine aF (eV (vs:=[zP (some ⟨a3,0,none⟩)]) rfl) ?_;obtain ⟨n2,n3,g7,g8,g9⟩:=aD.lendSp g6 (zR _) zt5
   obtain ⟨n4,h0,h1,h2,h4⟩:=aD.lendBp g8 zt1
   obtain ⟨q,h5,hm⟩:=aB hm
   refine aED call47 (lib_SortIdx h2 h1 (g7.mono h0) h5) ?_
   rintro _ n5 ⟨rfl,d4,h7⟩
   have h8:=h4 _ _ h7
   have i0:=g9 _ _ h8
   iterate 10 refine aFl ?_
   refine bH (v:=zS o q.length p) (Eq.trans rfl (congrArg (fun n=>zS o n p) d4)) (aCk ?_);refine aU [4,10,13] (fun f w=>∃ a5 a6 a8,oE a q a5=some R/\f 14=zS a6 a5.length a8/\aD G b (aG 29 b a6 a8 a5::aG 2 K o p q::box a2 35 (zC a.1 k c45 l m)::aG 9 K k c45 a.1.L::aG 72 K l m a.1.E::box e 35 d::L) w) ?_ ?_
   ·rintro f n6 ⟨a5,a6,a8,hm,n7,i1⟩
    unfold oE at hm
    iterate 4 refine aFl ?_
    refine bH (v:=zS o q.length p) (Eq.trans rfl (congrArg (fun n=>zS o n p) d4)) ?_;obtain ⟨n8,d5,i2,i3,i4⟩:=aD.lendSp i1 (zL (zL (zL j g) c) a0) zt3
    obtain ⟨n9,d6,i5,i6,i7⟩:=aD.lendSp i3 (zL (zL (zL (zL j g) c) a0) d5) zt3
    obtain ⟨o0,d7,i8,i9,j0⟩:=aD.lendSp i6 (zL (zL (zL (zL (zL j g) c) a0) d5) d6) zt1
    obtain ⟨a9,j1,hm⟩:=aB hm
    refine aED call50 (rW j1 i9 (i2.mono (zL d6 d7)) (i5.mono d7) i8) ?_
    rintro _ o1 ⟨d8,d9,e0,e1,rfl,j2⟩
    have j3:=j0 _ _ j2
    have j4:=i7 _ _ j3
    have o2:=i4 _ _ j4
    refine aCk ?_;refine aJz fun o3 j5=>?_
    refine aCk ?_;obtain rfl:=zI hm
    exact nY (aKK results18 (aCJ (vs:=(zC a9 d8 d9 e0 e1)) rfl eW j5 (i:=7) rfl rfl rfl) (aFg rfl rfl) (aFg rfl rfl) ⟨b,d8,d9,e0,e1,a6,a8,rfl,(zL (zL (zL j g) c) a0),aKa⟩)
   have o4:=aD.nil (α:=(List Int)) i0 29 b
   obtain ⟨o5,j7,ho⟩:=aB hm
   refine cQ [4,10,11,13,46,47] j7 (fun b0 e2 f w=>∃ b1 b2,f 14=zS b1 b0.length b2/\f 48=i64 e2/\aD G b (aG 29 b b1 b2 b0::aG 29 b r u a.2.1::box a3 36 [zS r a.2.1.length u]::aG 2 K o p q::box a2 35 (zC a.1 k c45 l m)::aG 9 K k c45 a.1.L::aG 72 K l m a.1.E::box e 35 d::L) w) aP ?_
   ·rintro b0 e2 o6 f o7 hm hr ⟨b1,b2,o8,j8,b3⟩
    unfold jM at hm
    refine aCk ?_
    rcases aS hm with ⟨j9,hm⟩|⟨j9,hm⟩
    ·refine aCk ?_;refine dE (aCk ?_)
     obtain ⟨o9,e3,hm⟩:=aB hm
     have k0:=dJ b3 (i:=3) rfl e3
     refine aF (fI bR rfl k0 rfl rfl j8 e3) (aCk ?_);obtain ⟨y,c6,hm⟩:=aB hm
     have k1:=dJ b3 (i:=1) rfl c6
     refine aF (fI iG rfl k1 rfl rfl rfl c6) ?_;obtain ⟨p0,k2,k3⟩:=aNT (sz:=1) rfl b3 (i:=1) rfl c6
     obtain ⟨b4,b5,rfl,k4⟩:=k3
     refine aF (R_ldC (t:=0) (v:=zS b4 y.length b5) tV k2 rfl rfl) (cZ (Kt:=b) (xs:=([y]:List (List Int))) (cs:=[zS b4 y.length b5]) (vs:=[(0,zS b4 y.length b5)]) iG aAb rfl rfl b3 rfl (by kernel_rfl) rfl rfl rfl ⟨⟨b4,b5,rfl,k4⟩,trivial⟩ (fun k5 k6 (k7:aD G b (aG 29 b k5 1 ([y]:List (List Int))::aG 29 b b1 b2 b0::aG 29 b r u a.2.1::box a3 36 [zS r a.2.1.length u]::aG 2 K o p q::box a2 35 (zC a.1 k c45 l m)::aG 9 K k c45 a.1.L::aG 72 K l m a.1.E::box e 35 d::L) k6)=>?_))
     obtain ⟨k8,k9,hm⟩:=aB hm
     refine aIQ (i:=0) b iG underlying36 aAb rfl rfl k7 rfl (zR _) (zR _) k9 rfl rfl rfl rfl (fun _ _ _ h=>El.one h) (fun e4 e5 l0 (l1:aD G b (aG 29 b e4 e5 k8::aG 29 b r u a.2.1::box a3 36 [zS r a.2.1.length u]::aG 2 K o p q::box a2 35 (zC a.1 k c45 l m)::aG 9 K k c45 a.1.L::aG 72 K l m a.1.E::box e 35 d::L) l0)=>(aCk ?_));exact ⟨_,(zI hm).symm,cE,e4,e5,rfl,rfl,l1⟩
    ·exact aP
 have p1:=aD.nil (α:=Int) f4 2 K
 obtain ⟨p2,l2,ho⟩:=aB hm
 exact cQ [2,3,4,18,19] l2 (fun e6 l3 f w=>∃ e7 e8,f 7=zS e7 e6.length e8/\f 20=i64 l3/\aD G K (aG 2 K e7 e8 e6::box e 35 d::box x 55 z::box J 28 b7::L) w) aP aP
theorem yQ {n R:aO} (hm:nN n=some R) (hs:aD G K (L) w) (h3:bE K a1 c2 n.Parts) (h6:bE K a4 c5 n.Meetings) (h9:bE K a7 c8 n.Allowed) (e5:bE K a10 c11 n.Hidden):
  Calls prog 102 ([zA #[zS a1 n.Parts.length c2,zS a4 n.Meetings.length c5,zS a7 n.Allowed.length c8,zS a10 n.Hidden.length c11],Value.func (.func 113) #[] #[]]:List Value).toArray w (eQ fun v w'=>∃ a2 a3 J a5 a6 a8 a9 b0 b1,v=zA #[zS a2 R.Parts.length a3,zS a5 R.Meetings.length a6,zS a8 R.Allowed.length a9,zS b0 R.Hidden.length b1]/\List.length J=List.length R.Parts/\aD G K (aG 35 K a2 a3 (aT J R.Parts)::rows [9,72] J R.Parts::aG 69 K a5 a6 R.Meetings::aG 9 K a8 a9 R.Allowed::aG 9 K b0 b1 R.Hidden::L) w'):=by
 let k:=[zS a1 n.Parts.length c2,zS a4 n.Meetings.length c5,zS a7 n.Allowed.length c8,zS a10 n.Hidden.length c11]
 let l:=[zS none 0 0,zS none 0 0,zS none 0 0,zS none 0 0]
 refine aFe func102 ?_;unfold nN at hm
 refine aCk ?_;refine aKb fun m e6 e7=>?_
 refine aFm fun o c1 c3=>?_;refine aCk ?_
 refine aU [2,4] (fun f w=>∃ p b2 b3 V,tC n p=some R/\f 5=zS b2 p.length b3/\List.length V=List.length p/\aD G K (aG 35 K b2 b3 (aT V p)::rows [9,72] V p::box o 28 l::box m 28 k::L) w) aP ?_
 have c4:aD G K (aG 35 K none 0 (aT ([]:List (Dp.Hd bA)) ([]:List bA))::rows [9,72] ([]:List (Dp.Hd bA)) ([]:List bA)::box o 28 l::box m 28 k::L) c1:=aD.nil (α:=Cells _) (aD.rowsNil (α:=bA) (tys:=[9,72]) c3) 35 K
 obtain ⟨e8,c6,ho⟩:=aB hm
 refine cQ [1,2,4,9,10] c6 (fun j b4 f w=>∃ q r c,f 5=zS q j.length r/\f 11=i64 b4/\List.length c=List.length j/\aD G K (aG 35 K q r (aT c j)::rows [9,72] c j::box o 28 l::box m 28 k::L) w) ?_ ?_
 ·exact ⟨none,0,[],rfl,rfl,rfl,c4⟩
 ·rintro j b4 e9 f f0 hm hr ⟨q,r,c,f1,f2,b5,f3⟩
  unfold lN at hm
  refine aCk ?_
  rcases aS hm with ⟨c7,hm⟩|⟨c7,hm⟩
  ·refine aCk ?_;refine dE (aCk ?_)
   obtain ⟨a,c9,hm⟩:=aB hm
   refine aCk ?_;obtain ⟨f4,f5,d0⟩:=bE.el (sz:=4) rfl h3 c9
   obtain ⟨t,u,y,z,rfl,d1,d2⟩:=d0
   refine aCk ?_;refine aFm fun a0 f6 f7=>?_
   refine aJz fun f8 d3=>?_;refine aCk ?_
   obtain ⟨b,d4,hm⟩:=aB hm
   refine eE (vs:=[zA (zCa a t u y z)]) (caps:=[]) (us:=[zA (zCa a t u y z)]) rfl call113 rfl rfl (aFH d4 d3 d1 d2) ?_
   rintro _ d5 ⟨d,e,g,h,rfl,d6⟩
   have d7:aD G K (rows [9,72] ([((d,e),(g,h))]:List (Dp.Hd bA)) ([b]:List bA)::box a0 35 (zC a t u y z)::aG 35 K q r (aT c j)::rows [9,72] c j::box o 28 l::box m 28 k::L) d5:=aD.rowsOneS (tys:=[9,72]) (hd:=(((d,e),(g,h)):Dp.Hd bA)) (x:=(b:bA)) d6
   refine cZ (Kt:=K) (xs:=aT ([((d,e),(g,h))]:List (Dp.Hd bA)) ([b]:List bA)) (cs:=(zC b d e g h)) (vs:=[(0,zA (zCa b d e g h))]) lU aEL rfl rfl d7 rfl (by kernel_rfl) rfl rfl rfl ⟨rfl,trivial⟩ ?_
   intro d8 d9 (e0:aD G K (aG 35 K d8 1 (aT ([((d,e),(g,h))]:List (Dp.Hd bA)) ([b]:List bA))::rows [9,72] ([((d,e),(g,h))]:List (Dp.Hd bA)) ([b]:List bA)::box a0 35 (zC a t u y z)::aG 35 K q r (aT c j)::rows [9,72] c j::box o 28 l::box m 28 k::L) d9)
   obtain ⟨b6,b7,hm⟩:=aB hm
   refine aEH (i:=1) (tys:=[9,72]) (hds:=c) (hds2:=([((d,e),(g,h))]:List (Dp.Hd bA))) lU underlying24 aEL rfl rfl e0 b5 rfl rfl rfl b7 rfl rfl rfl rfl ?_
   intro b8 b9 e1 (f9:aD G K (aG 35 K b8 b9 (aT (c++([((d,e),(g,h))]:List (Dp.Hd bA))) b6)::rows [9,72] (c++([((d,e),(g,h))]:List (Dp.Hd bA))) b6::box a0 35 (zC a t u y z)::box o 28 l::box m 28 k::L) e1)
   refine aCk ?_;exact ⟨_,(zI hm).symm,cE,b8,b9,(c++([((d,e),(g,h))]:List (Dp.Hd bA))),rfl,rfl,(aDC b5 rfl b7),aKa⟩
  ·exact aP
end Gv
namespace Gv
open Gv.Hp renaming le_refl→zR
open Go.Value renaming slice→zS,bool→zB,agg→zA,tuple→zT
open Option.some renaming inj→zI
open Gv.Hp renaming le_trans→zL
open Go Go.Proofs Go.Proofs.Tryz
set_option maxRecDepth 20000
set_option maxHeartbeats 40000000
variable {G:yU} {K:Hp} {L:List jN} {w:World} {a1 a4 a7 a10 a13:Option Addr} {c2 c5 c8 c11 c14:Nat}
theorem yR {n:aO} {i k:Int} {R:(aO × Bool)} (hm:hY n i k=some R) (hs:aD G K (L) w) (hG:G.lo=0) (h3:bE K a1 c2 n.Parts) (h6:bE K a4 c5 n.Meetings) (h9:bE K a7 c8 n.Allowed) (d9:bE K a10 c11 n.Hidden):
  Calls prog 58 ([zA #[zS a1 n.Parts.length c2,zS a4 n.Meetings.length c5,zS a7 n.Allowed.length c8,zS a10 n.Hidden.length c11],i64 i,i64 k]:List Value).toArray w (eQ fun v w'=>∃ f5 f6 e7 f7 f8 f9 g0 g1 g2,v=zT #[zA #[zS f5 R.1.Parts.length f6,zS f7 R.1.Meetings.length f8,zS f9 R.1.Allowed.length g0,zS g1 R.1.Hidden.length g2],zB R.2]/\List.length e7=List.length R.1.Parts/\aD G K (aG 35 K f5 f6 (aT e7 R.1.Parts)::rows [9,72] e7 R.1.Parts::aG 69 K f7 f8 R.1.Meetings::aG 9 K f9 g0 R.1.Allowed::aG 9 K g1 g2 R.1.Hidden::L) w'):=by
 let e:=[zS none 0 0,zS none 0 0,zS none 0 0,zS none 0 0]
 let a6:=[zS a1 n.Parts.length c2,zS a4 n.Meetings.length c5,zS a7 n.Allowed.length c8,zS a10 n.Hidden.length c11]
 refine aFe func58 ?_;unfold hY at hm
 refine aCk ?_;refine aKb fun a8 n5 n6=>?_
 refine aFm fun u n7 i4=>?_;refine aCk ?_
 refine cI [1,2,3,6] (fun f w=>∃ q m h g a2 a3 a5 x y r t o p,oG n i k q m h g=some R/\f 8=Value.pointer (some ⟨a2,0,none⟩)/\aD G K (aG 9 K o p g::aG 9 K r t h::aG 69 K x y m::aG 35 K a3 a5 q::box a2 28 [zS a3 q.length a5,zS x m.length y,zS r h.length t,zS o g.length p]::box u 28 e::box a8 28 a6::L) w) ?_ ?_
 ·rintro f e0 ⟨q,m,h,g,a2,a3,a5,x,y,r,t,o,p,hm,n8,i5⟩
  unfold oG at hm
  refine aCk ?_;obtain ⟨i6,a9,i7,e8⟩:=aD.giveSp i5 (Hp.le_refl _) zt3
  replace e8:aD G i6 (aG 9 K o p g::aG 9 K r t h::aG 69 K x y m::box a2 28 [zS a3 q.length a5,zS x m.length y,zS r h.length t,zS o g.length p]::box u 28 e::box a8 28 a6::L) e0:=e8
  obtain ⟨i8,b0,i9,e9⟩:=aD.giveSp e8 a9 zt2
  replace e9:aD G i8 (aG 9 K o p g::aG 9 K r t h::box a2 28 [zS a3 q.length a5,zS x m.length y,zS r h.length t,zS o g.length p]::box u 28 e::box a8 28 a6::L) e0:=e9
  obtain ⟨j0,b1,j1,f0⟩:=aD.giveSp e9 (zL a9 b0) zt1
  replace f0:aD G j0 (aG 9 K o p g::box a2 28 [zS a3 q.length a5,zS x m.length y,zS r h.length t,zS o g.length p]::box u 28 e::box a8 28 a6::L) e0:=f0
  obtain ⟨j2,b2,j3,f1⟩:=aD.giveSp f0 (zL (zL a9 b0) b1) .head
  replace f1:aD G j2 (box a2 28 [zS a3 q.length a5,zS x m.length y,zS r h.length t,zS o g.length p]::box u 28 e::box a8 28 a6::L) e0:=f1
  obtain ⟨a,j4,hm⟩:=aB hm
  refine aED call18 (yP (n:=⟨q,m,h,g⟩) j4 f1 hG (i7.mono (zL (zL b0 b1) b2)) (i9.mono (zL b1 b2)) (j1.mono b2) j3) ?_
  rintro _ n9 ⟨b3,z,J,V,a0,e1,e2,rfl,c3,o0⟩
  refine aCk ?_;refine aFm fun e3 o1 o2=>?_
  refine aJz fun o3 j5=>?_;refine aCk ?_
  rcases aS hm with ⟨j6,hm⟩|⟨j6,hm⟩
  ·iterate 3 refine aFl ?_
   refine aF (jU (vs:=[]) (cs:=e) bs_28 rfl (by kernel_rfl)) (aJz fun j7 j8=>?_);refine aCk ?_
   have j9:aD G b3 (aG 35 K none 0 (aT ([]:List (Dp.Hd bA)) ([]:List bA))::rows [9,72] ([]:List (Dp.Hd bA)) ([]:List bA)::box e3 35 (zC a.1 z J V a0)::aG 9 K z J a.1.L::aG 72 K V a0 a.1.E::aG 29 b3 e1 e2 a.2.1::box a2 28 [zS a3 q.length a5,zS x m.length y,zS r h.length t,zS o g.length p]::box u 28 e::box a8 28 a6::L) j7:=aD.nil (α:=Cells _) (aD.rowsNil (α:=bA) (tys:=[9,72]) j8) 35 K
   have k0:=aD.nil (α:=bK) j9 69 K
   have k1:=aD.nil (α:=aH) k0 9 K
   have g3:=aD.nil (α:=aH) k1 9 K
   obtain rfl:=zI hm
   exact nY (nE (aKJ results58 (aCJ (vs:=e) rfl uR g3 (i:=10) rfl rfl rfl) (aFg rfl rfl) ⟨none,0,([]:List (Dp.Hd bA)),none,0,none,0,none,0,rfl,rfl,(aD.weakK (aD.arr 12 [3,4,2,1,0] g3 rfl) (zL (zL (zL (zL a9 b0) b1) b2) c3))⟩))
  ·refine aCk ?_;obtain ⟨b,k3,hm⟩:=aB hm
   refine aED call102 (yQ k3 j5 (h3.mono (zL (zL (zL (zL a9 b0) b1) b2) c3)) (h6.mono (zL (zL (zL (zL a9 b0) b1) b2) c3)) (h9.mono (zL (zL (zL (zL a9 b0) b1) b2) c3)) (d9.mono (zL (zL (zL (zL a9 b0) b1) b2) c3))) ?_
   rintro _ o4 ⟨c4,c6,c0,b4,b5,b6,b7,b8,b9,rfl,e4,o5⟩
   refine aFm fun f2 o6 o7=>?_;refine aJz fun k4 k5=>?_
   iterate 8 refine aFl ?_
   refine aF (R_min rfl rfl) (aCk ?_);obtain ⟨o8,e5,hm⟩:=aB hm
   obtain ⟨⟨⟨o9,p0⟩,⟨p1,p2⟩⟩,g4⟩:=aFX e4 e5
   have k6:=dJ k5 (i:=1) rfl (lT e4 e5 g4)
   refine aF (fI lU rfl k6 rfl rfl rfl e5) ?_
   have k7:aD G b3 (aG 9 K z J a.1.L::aG 72 K V a0 a.1.E::box f2 28 [zS c4 b.Parts.length c6,zS b4 b.Meetings.length b5,zS b6 b.Allowed.length b7,zS b8 b.Hidden.length b9]::aG 35 K c4 c6 (aT c0 b.Parts)::rows [9,72] c0 b.Parts::aG 69 K b4 b5 b.Meetings::aG 9 K b6 b7 b.Allowed::aG 9 K b8 b9 b.Hidden::box e3 35 (zC a.1 z J V a0)::aG 29 b3 e1 e2 a.2.1::box a2 28 [zS a3 q.length a5,zS x m.length y,zS r h.length t,zS o g.length p]::box u 28 e::box a8 28 a6::L) k4:=aKa
   obtain ⟨d6,f3,hm⟩:=aB hm
   refine WO_stD (i:=1) (tys:=[9,72]) (hd':=(((z,J),(V,a0)):Dp.Hd bA)) (e':=(a.1:bA)) (hds:=c0) sizeOf35 k7 e4 rfl rfl rfl rfl rfl e5 g4 f3 rfl ?_
   intro g5 (k8:aD G b3 (aG 35 K c4 c6 (aT (List.set c0 (mnI i k).toNat ((z,J),(V,a0))) d6)::rows [9,72] (List.set c0 (mnI i k).toNat ((z,J),(V,a0))) d6::box f2 28 [zS c4 b.Parts.length c6,zS b4 b.Meetings.length b5,zS b6 b.Allowed.length b7,zS b8 b.Hidden.length b9]::aG 69 K b4 b5 b.Meetings::aG 9 K b6 b7 b.Allowed::aG 9 K b8 b9 b.Hidden::box e3 35 (zC a.1 z J V a0)::aG 29 b3 e1 e2 a.2.1::box a2 28 [zS a3 q.length a5,zS x m.length y,zS r h.length t,zS o g.length p]::box u 28 e::box a8 28 a6::L) g5)
   have k9:aD G b3 (aG 35 K c4 c6 (aT (List.set c0 (mnI i k).toNat ((z,J),(V,a0))) d6)::rows [9,72] (List.set c0 (mnI i k).toNat ((z,J),(V,a0))) d6::box f2 28 [zS c4 d6.length c6,zS b4 b.Meetings.length b5,zS b6 b.Allowed.length b7,zS b8 b.Hidden.length b9]::aG 69 K b4 b5 b.Meetings::aG 9 K b6 b7 b.Allowed::aG 9 K b8 b9 b.Hidden::box e3 35 (zC a.1 z J V a0)::aG 29 b3 e1 e2 a.2.1::box a2 28 [zS a3 q.length a5,zS x m.length y,zS r h.length t,zS o g.length p]::box u 28 e::box a8 28 a6::L) g5:=by rw [←(iS f3)];exact k8
   iterate 8 refine aFl ?_
   refine aF (R_max rfl rfl) ?_
   iterate 2 refine aFl ?_
   refine aF (R_max rfl rfl) (aCk ?_);obtain ⟨l0,l1,hm⟩:=aB hm
   refine aED call114 (lib_DelLts k9 (aHx (hd:=(((z,J),(V,a0)):Dp.Hd bA)) e4 f3) l1) ?_
   rintro _ p3 ⟨g6,g7,l2,rfl,l3,p4⟩
   refine aCk ?_;refine aJz fun p5 p6=>?_
   refine aCk ?_;refine aJz fun p7 g8=>?_
   refine aCk ?_;obtain rfl:=zI hm
   exact nY (aKJ results58 (aCJ (vs:=[zS g6 l0.length g7,zS b4 b.Meetings.length b5,zS b6 b.Allowed.length b7,zS b8 b.Hidden.length b9]) rfl uR g8 (i:=9) rfl rfl rfl) (aFg rfl rfl) ⟨g6,g7,l2,b4,b5,b6,b7,b8,b9,rfl,l3,(aD.weakK (aD.arr 11 [0,1,3,4,5] g8 rfl) (zL (zL (zL (zL a9 b0) b1) b2) c3))⟩)
 obtain ⟨e6,l,p8,l5,f4⟩:=aD.lendBp i4 zt1
 refine pY (C:=fun w'=>∃ L',aD G e6 L' w') [14] Tryz_mixed (by kernel_rfl) (fun p9 l6=>?_)
 have l7:=aD.mono l5 l6
 refine aGy 0 ?_;refine aGy 1 ?_
 refine aGy 2 ?_;refine aGy 3 ?_
 obtain ⟨c,l8,hm⟩:=aB hm
 refine aGy 4 ?_;obtain ⟨q0,q1,l9⟩:=bE.el (sz:=4) rfl h3 l8
 obtain ⟨c7,c9,d0,d1,rfl,g9,h0⟩:=l9
 refine aGy 5 ?_;refine aGy 6 ?_
 refine aGy 7 ?_;refine aGy 8 ?_
 obtain ⟨d,m0,hm⟩:=aB hm
 refine aGy 9 ?_;obtain ⟨q2,q3,m1⟩:=bE.el (sz:=4) rfl h3 m0
 obtain ⟨d2,d3,d4,d5,rfl,h1,h2⟩:=m1
 refine aGy 10 ?_;refine oT (i:=11) (j:=13) (by kernel_rfl) rfl rfl ?_ ?_
 ·refine cZ (Kt:=K) (xs:=([c,d]:List bA)) (cs:=[i64 c.N,i64 c.I,zS c7 c.L.length c9,zS d0 c.E.length d1,i64 d.N,i64 d.I,zS d2 d.L.length d3,zS d4 d.E.length d5]) (vs:=[(0,zA (zCa c c7 c9 d0 d1)),(1,zA (zCa d d2 d3 d4 d5))]) lU aEL rfl rfl l7 rfl (by kernel_rfl) rfl rfl rfl ⟨⟨c7,c9,d0,d1,rfl,g9,h0⟩,⟨d2,d3,d4,d5,rfl,h1,h2⟩,trivial⟩ (fun h4 m2 (h5:aD G e6 (aG 35 K h4 2 ([c,d]:List bA)::box u 28 e::L) m2)=>(aR (aC ⟨fun _=>⟨_,h5⟩,?_⟩)))
  refine oT (i:=12) (j:=13) (by kernel_rfl) rfl rfl ?_ ?_
  ·obtain ⟨q4,m3,hm⟩:=aB hm
   refine aED call111 (pT (Kf:=K) m3 h5 l (h3.mono l) (h6.mono l) (h9.mono l) (d9.mono l)) ?_
   rintro _ q5 ⟨q6,q7,q8,q9,r0,r1,r2,r3,rfl,m4⟩
   refine aR (aC ⟨fun _=>⟨_,m4⟩,?_⟩)
   refine bI (i:=13) (by kernel_rfl) rfl (aFm fun r4 r5 h7=>?_);refine aR (aC ⟨fun _=>⟨_,h7⟩,?_⟩)
   refine bI (i:=14) (by kernel_rfl) rfl ?_
   have r6:=f4 _ _ h7
   refine aJz fun r7 r8=>?_;refine aR (aC ⟨aCe rfl,?_⟩)
   exact iC (by kernel_rfl) aP
  ·refine aFm fun m5 m6 m7=>?_;refine aR (aC ⟨fun _=>⟨_,m7⟩,?_⟩)
   refine bI (i:=12) (by kernel_rfl) rfl ?_
   have m8:aD G e6 (aG 35 K h4 2 ([c,d]:List bA)::box m5 28 e::box u 28 e::L) m6:=aKa
   obtain ⟨r9,m9,hm⟩:=aB hm
   refine aED call111 (pT (Kf:=K) m9 m8 l (h3.mono l) (h6.mono l) (h9.mono l) (d9.mono l)) ?_
   rintro _ s0 ⟨s1,s2,s3,s4,s5,s6,s7,s8,rfl,h8⟩
   refine aR (aC ⟨fun _=>⟨_,h8⟩,?_⟩)
   refine bI (i:=14) (by kernel_rfl) rfl ?_
   have s9:=f4 _ _ h8
   refine aJz fun t0 t1=>?_;refine aR (aC ⟨aCe rfl,?_⟩)
   exact iC (by kernel_rfl) aP
 ·refine aFm fun n0 t2 i0=>?_;refine aR (aC ⟨fun _=>⟨_,i0⟩,?_⟩)
  refine bI (i:=11) (by kernel_rfl) rfl (cZ (Kt:=K) (xs:=([c,d]:List bA)) (cs:=[i64 c.N,i64 c.I,zS c7 c.L.length c9,zS d0 c.E.length d1,i64 d.N,i64 d.I,zS d2 d.L.length d3,zS d4 d.E.length d5]) (vs:=[(0,zA (zCa c c7 c9 d0 d1)),(1,zA (zCa d d2 d3 d4 d5))]) lU aEL rfl rfl i0 rfl (by kernel_rfl) rfl rfl rfl ⟨⟨c7,c9,d0,d1,rfl,g9,h0⟩,⟨d2,d3,d4,d5,rfl,h1,h2⟩,trivial⟩ (fun n1 n2 (i1:aD G e6 (aG 35 K n1 2 ([c,d]:List bA)::box n0 28 e::box u 28 e::L) n2)=>(aR (aC ⟨fun _=>⟨_,i1⟩,?_⟩))))
  refine bI (i:=12) (by kernel_rfl) rfl ?_;obtain ⟨t3,n3,hm⟩:=aB hm
  refine aED call111 (pT (Kf:=K) n3 i1 l (h3.mono l) (h6.mono l) (h9.mono l) (d9.mono l)) ?_
  rintro _ t4 ⟨t5,t6,t7,t8,t9,u0,u1,u2,rfl,i2⟩
  refine aR (aC ⟨fun _=>⟨_,i2⟩,?_⟩)
  refine bI (i:=14) (by kernel_rfl) rfl ?_
  have u3:=f4 _ _ i2
  refine aJz fun u4 u5=>?_;refine aR (aC ⟨aCe rfl,?_⟩)
  exact iC (by kernel_rfl) aP
theorem aHk {n:aO} {R:(bA × Int)} (hm:aDm n=some R) (e:aD G K (L) w) (g:G.lo=0) (h:bE K a1 c2 n.Parts) (i:bE K a4 c5 n.Meetings) (j:bE K a7 c8 n.Allowed) (k:bE K a10 c11 n.Hidden):
  Calls prog 60 ([zA #[zS a1 n.Parts.length c2,zS a4 n.Meetings.length c5,zS a7 n.Allowed.length c8,zS a10 n.Hidden.length c11]]:List Value).toArray w (eQ fun v w'=>∃ a b c d,v=zT #[zA (zCa R.1 a b c d),i64 R.2]/\aD G K (aG 9 K a b R.1.L::aG 72 K c d R.1.E::L) w'):=by
 exact aP
theorem uX {n:aO} {e9:(List Int)} {kind:Int} {R:(bA × (List Int) × Int)} (hm:dS n e9 kind=some R) (hs:aD G K (L) w) (hG:G.lo=0) (h3:bE K a1 c2 n.Parts) (h6:bE K a4 c5 n.Meetings) (h9:bE K a7 c8 n.Allowed) (w4:bE K a10 c11 n.Hidden) (f2:bE K a13 c14 e9):
  Calls prog 22 ([zA #[zS a1 n.Parts.length c2,zS a4 n.Meetings.length c5,zS a7 n.Allowed.length c8,zS a10 n.Hidden.length c11],zS a13 e9.length c14,i64 kind]:List Value).toArray w (eQ fun v w'=>∃ j1 j2 j3 j4 j5 j6,v=zT #[zA (zCa R.1 j1 j2 j3 j4),zS j5 R.2.1.length j6,i64 R.2.2]/\aD G K (aG 9 K j1 j2 R.1.L::aG 72 K j3 j4 R.1.E::aG 2 K j5 j6 R.2.1::L) w'):=by
 let m:=zG
 refine aN func22 rfl (by kernel_rfl) (by show (3:Nat)<=94;decide) ?_;unfold dS at hm
 refine aK (cC (v:=zA #[zS a1 n.Parts.length c2,zS a4 n.Meetings.length c5,zS a7 n.Allowed.length c8,zS a10 n.Hidden.length c11]) (vs:=[zS a1 n.Parts.length c2,zS a4 n.Meetings.length c5,zS a7 n.Allowed.length c8,zS a10 n.Hidden.length c11]) hs rfl rfl (fun a6 w5 m9=>(aX (vs:=m) zeroValue35 m9 rfl (fun a8 w6 j7=>(aM (v:=zS none 0 0) (aM (v:=i64 0) (aI (aK (aM (v:=zS none 0 0) (aI (aK (aF (aV (t':=0) kR rfl rfl) (aF (bT xJ j7 (i:=1) rfl rfl rfl) (aF (bF (len:=n.Parts.length) lU rfl) ?_))))))))))))))
 obtain ⟨n0,n1,hm⟩:=aB hm
 refine aQ (vs:=[i64 (n.Parts.length:Int)]) call46 rfl (aCW n1 j7) ?_
 rintro _ w7 ⟨n2,n3,rfl,j8⟩
 refine aM (v:=zS n2 n0.length n3) (aI (aK (aJ (v:=zS a13 e9.length c14) ?_)));obtain ⟨e6,j9,hm⟩:=aB hm
 refine aF (eH bR rfl f2 rfl rfl rfl j9) ?_;obtain ⟨w8,n4,n5⟩:=bE.el (sz:=1) rfl f2 j9
 cases n5
 refine aF (bG (t:=0) eG j8 n4 rfl rfl) (aM (v:=i64 e6) (aI (aL (aK (aJ (v:=zS a13 e9.length c14) ?_)))));obtain ⟨n6,k0,hm⟩:=aB hm
 obtain ⟨w9,x0,k1⟩:=Cut.ex 1 a13 c14 1
 have k2:=bE.cut' f2 k0 k1
 refine aF (aEf bR f2.room k1 rfl rfl rfl k0) (aF (bF (len:=n6.length) bR rfl) (aJ (v:=i64 0) (aI (aU [2,3,6] (fun f w=>∃ e7 f8 f9 g0 g1 g2 k3 k4 k5 k6 k7 k8 k9 l0 l1 l2,Hp.le K e7/\jY kind f8 f9 g0 g1 g2=some R/\f 9=zS l1 g2.length l2/\bE e7 k3 k4 f8/\bE e7 k5 k6 f9/\bE e7 k7 k8 g0/\bE e7 k9 l0 g1/\aD G e7 (aG 2 K l1 l2 g2::box a8 35 m::box a6 28 [zS k3 f8.length k4,zS k5 f9.length k6,zS k7 g0.length k8,zS k9 g1.length l0]::L) w) aP ?_))))
 have x1:=aD.nil (α:=Int) j8 2 K
 obtain ⟨x2,n7,ho⟩:=aB hm
 refine W_loop7K [2,3,6,11,28,29] n7 (fun J V a0 a2 z a9 g3 f w=>∃ e3 b0 b1 b2 b3 b4 b5 b6 b7 a3 a5 r u,Hp.le K e3/\f 9=zS a3 z.length a5/\f 10=zS r a9.length u/\f 30=i64 g3/\bE e3 b0 b1 J/\bE e3 b2 b3 V/\bE e3 b4 b5 a0/\bE e3 b6 b7 a2/\aD G e3 (aG 2 K a3 a5 z::aG 2 K r u a9::box a8 35 m::box a6 28 [zS b0 J.length b1,zS b2 V.length b3,zS b4 a0.length b5,zS b6 a2.length b7]::L) w) aP ?_
 ·rintro J V a0 a2 z a9 g3 x3 f x4 hm hr ⟨e3,b0,b1,b2,b3,b4,b5,b6,b7,a3,a5,r,u,o,l3,f3,g4,l4,l5,l6,l7,g5⟩
  unfold cH at hm
  refine aK (aF (dQ g4 rfl) (aI (aL ?_)))
  rcases aS hm with ⟨g6,hm⟩|⟨g6,hm⟩
  ·refine aZ g6 rfl (bD (aC (aL (dE (aK ?_)))));obtain ⟨g7,l8,hm⟩:=aB hm
   refine aF (eH bR rfl (k2.mono o) rfl rfl g4 l8) ?_;obtain ⟨x5,n8,n9⟩:=bE.el (sz:=1) rfl k2 l8
   cases n9
   refine aF (bG (t:=0) eG g5 (n8.mono o) rfl rfl) (aM (v:=i64 g7) (aI (aK (bH f3 (aJ (v:=i64 e6) ?_)))));obtain ⟨x6,x7,o0,o1,o2⟩:=aD.lendSp g5 o zt1
   obtain ⟨e1,o3,hm⟩:=aB hm
   refine aQ (vs:=[zS r a9.length u,i64 e6]) call55 rfl (lS o3 o1 o0) ?_
   rintro _ x8 ⟨rfl,o4⟩
   have o5:=o2 _ _ o4
   refine bH f3 (aJ (v:=i64 g7) ?_);obtain ⟨x9,y0,o6,o7,o8⟩:=aD.lendSp o5 o .head
   obtain ⟨e2,o9,hm⟩:=aB hm
   refine aQ (vs:=[zS r a9.length u,i64 g7]) call55 rfl (lS o9 o7 o6) ?_
   rintro _ y1 ⟨rfl,p0⟩
   have l9:=o8 _ _ p0
   refine aM (v:=i64 e1) (aM (v:=i64 e2) (aI (aK (aF (eO (us:=[zS b0 J.length b1,zS b2 V.length b3,zS b4 a0.length b5,zS b6 a2.length b7]) uR l9 (i:=3) rfl rfl rfl rfl) ?_))));obtain ⟨b,p1,hm⟩:=aB hm
   refine aQ (vs:=[zA #[zS b0 J.length b1,zS b2 V.length b3,zS b4 a0.length b5,zS b6 a2.length b7]]) call56 rfl (aAd (n:=⟨J,V,a0,a2⟩) p1 l9 hG l4 l5 l6 l7) ?_
   rintro _ y2 ⟨b8,b9,d,c0,c1,c3,c4,c6,c7,rfl,p2,p3⟩
   refine aJ (v:=i64 kind) ?_;obtain ⟨y3,g8,p4,y4,p5,p6⟩:=aD.lendD' (i:=0) p3 p2 rfl rfl
   obtain ⟨y5,g9,p7,p8,p9⟩:=aD.lendSp p5 (zL o g8) .head
   obtain ⟨y6,h0,q0,q1,q2⟩:=aD.lendSp p8 (zL (zL o g8) g9) .head
   obtain ⟨y7,h1,q3,q4,q5⟩:=aD.lendSp q1 (zL (zL (zL o g8) g9) h0) .head
   obtain ⟨c,q6,hm⟩:=aB hm
   refine aQ (vs:=[zA #[zS b8 b.Parts.length b9,zS c0 b.Meetings.length c1,zS c3 b.Allowed.length c4,zS c6 b.Hidden.length c7],i64 kind]) call57 rfl (wL q6 q4 (p4.mono (zL (zL g9 h0) h1)) (p7.mono (zL h0 h1)) (q0.mono h1) q3) ?_
   rintro _ y8 ⟨c9,d0,e,d1,d2,d3,d4,d5,d6,rfl,q7,q8⟩
   have q9:=q5 _ _ q8
   have r0:=q2 _ _ q9
   have r1:=p9 _ _ r0
   have r2:=p6 _ _ r1
   refine aJ (v:=i64 e1) (aJ (v:=i64 e2) ?_);obtain ⟨y9,h2,r3,z0,r4,r5⟩:=aD.lendD' (i:=5) r2 q7 rfl rfl
   obtain ⟨z1,h4,r6,r7,r8⟩:=aD.lendSp r4 (zL o h2) zt5
   obtain ⟨z2,h5,r9,s0,s1⟩:=aD.lendSp r7 (zL (zL o h2) h4) zt5
   obtain ⟨z3,h7,s2,s3,s4⟩:=aD.lendSp s0 (zL (zL (zL o h2) h4) h5) zt5
   obtain ⟨a,s5,hm⟩:=aB hm
   refine aQ (vs:=[zA #[zS c9 c.Parts.length d0,zS d1 c.Meetings.length d2,zS d3 c.Allowed.length d4,zS d5 c.Hidden.length d6],i64 e1,i64 e2]) call58 rfl (yR s5 s3 hG (r3.mono (zL (zL h4 h5) h7)) (r6.mono (zL h5 h7)) (r9.mono h7) s2) ?_
   rintro _ z4 ⟨x,y,m0,p,q,k,l,g,j,rfl,s6,s7⟩
   have s8:=s4 _ _ s7
   have s9:=s1 _ _ s8
   have t0:=r8 _ _ s9
   have t1:=r5 _ _ t0
   refine aJ (v:=zT #[zA #[zS x a.1.Parts.length y,zS p a.1.Meetings.length q,zS k a.1.Allowed.length l,zS g a.1.Hidden.length j],zB a.2]) (aF (bM rfl rfl) (aF (bM rfl rfl) (aX (vs:=[zS none 0 0,zS none 0 0,zS none 0 0,zS none 0 0]) zeroValue28 t1 rfl (fun f0 z5 t2=>(bN (i:=0) (ns:=[zS x a.1.Parts.length y,zS p a.1.Meetings.length q,zS k a.1.Allowed.length l,zS g a.1.Hidden.length j]) (us:=[zS x a.1.Parts.length y,zS p a.1.Meetings.length q,zS k a.1.Allowed.length l,zS g a.1.Hidden.length j]) sizeOf28 t2 rfl rfl rfl rfl rfl (dM rfl) rfl rfl (fun e8 (t3:aD G e3 (box f0 28 [zS x a.1.Parts.length y,zS p a.1.Meetings.length q,zS k a.1.Allowed.length l,zS g a.1.Hidden.length j]::aG 35 K c9 d0 (aT e c.Parts)::rows [9,72] e c.Parts::aG 69 K d1 d2 c.Meetings::aG 9 K d3 d4 c.Allowed::aG 9 K d5 d6 c.Hidden::aG 35 K x y (aT m0 a.1.Parts)::rows [9,72] m0 a.1.Parts::aG 69 K p q a.1.Meetings::aG 9 K k l a.1.Allowed::aG 9 K g j a.1.Hidden::aG 35 K b8 b9 (aT d b.Parts)::rows [9,72] d b.Parts::aG 69 K c0 c1 b.Meetings::aG 9 K c3 c4 b.Allowed::aG 9 K c6 c7 b.Hidden::aG 2 K r u a9::aG 2 K a3 a5 z::box a8 35 m::box a6 28 [zS b0 J.length b1,zS b2 V.length b3,zS b4 a0.length b5,zS b6 a2.length b7]::L) e8)=>?_))))))
   obtain ⟨t4,e4,h8,_,i0,_⟩:=aD.lendD' (i:=6) t3 s6 rfl rfl
   replace i0:aD G t4 (box f0 28 [zS x a.1.Parts.length y,zS p a.1.Meetings.length q,zS k a.1.Allowed.length l,zS g a.1.Hidden.length j]::aG 35 K c9 d0 (aT e c.Parts)::rows [9,72] e c.Parts::aG 69 K d1 d2 c.Meetings::aG 9 K d3 d4 c.Allowed::aG 9 K d5 d6 c.Hidden::aG 69 K p q a.1.Meetings::aG 9 K k l a.1.Allowed::aG 9 K g j a.1.Hidden::aG 35 K b8 b9 (aT d b.Parts)::rows [9,72] d b.Parts::aG 69 K c0 c1 b.Meetings::aG 9 K c3 c4 b.Allowed::aG 9 K c6 c7 b.Hidden::aG 2 K r u a9::aG 2 K a3 a5 z::box a8 35 m::box a6 28 [zS b0 J.length b1,zS b2 V.length b3,zS b4 a0.length b5,zS b6 a2.length b7]::L) e8:=i0
   obtain ⟨t5,d8,t6,i1⟩:=aD.giveSp i0 (zL o e4) zt6
   replace i1:aD G t5 (box f0 28 [zS x a.1.Parts.length y,zS p a.1.Meetings.length q,zS k a.1.Allowed.length l,zS g a.1.Hidden.length j]::aG 35 K c9 d0 (aT e c.Parts)::rows [9,72] e c.Parts::aG 69 K d1 d2 c.Meetings::aG 9 K d3 d4 c.Allowed::aG 9 K d5 d6 c.Hidden::aG 9 K k l a.1.Allowed::aG 9 K g j a.1.Hidden::aG 35 K b8 b9 (aT d b.Parts)::rows [9,72] d b.Parts::aG 69 K c0 c1 b.Meetings::aG 9 K c3 c4 b.Allowed::aG 9 K c6 c7 b.Hidden::aG 2 K r u a9::aG 2 K a3 a5 z::box a8 35 m::box a6 28 [zS b0 J.length b1,zS b2 V.length b3,zS b4 a0.length b5,zS b6 a2.length b7]::L) e8:=i1
   obtain ⟨t7,d9,t8,i2⟩:=aD.giveSp i1 (zL (zL o e4) d8) zt6
   replace i2:aD G t7 (box f0 28 [zS x a.1.Parts.length y,zS p a.1.Meetings.length q,zS k a.1.Allowed.length l,zS g a.1.Hidden.length j]::aG 35 K c9 d0 (aT e c.Parts)::rows [9,72] e c.Parts::aG 69 K d1 d2 c.Meetings::aG 9 K d3 d4 c.Allowed::aG 9 K d5 d6 c.Hidden::aG 9 K g j a.1.Hidden::aG 35 K b8 b9 (aT d b.Parts)::rows [9,72] d b.Parts::aG 69 K c0 c1 b.Meetings::aG 9 K c3 c4 b.Allowed::aG 9 K c6 c7 b.Hidden::aG 2 K r u a9::aG 2 K a3 a5 z::box a8 35 m::box a6 28 [zS b0 J.length b1,zS b2 V.length b3,zS b4 a0.length b5,zS b6 a2.length b7]::L) e8:=i2
   obtain ⟨t9,e0,u0,i3⟩:=aD.giveSp i2 (zL (zL (zL o e4) d8) d9) zt6
   replace i3:aD G t9 (box f0 28 [zS x a.1.Parts.length y,zS p a.1.Meetings.length q,zS k a.1.Allowed.length l,zS g a.1.Hidden.length j]::aG 35 K c9 d0 (aT e c.Parts)::rows [9,72] e c.Parts::aG 69 K d1 d2 c.Meetings::aG 9 K d3 d4 c.Allowed::aG 9 K d5 d6 c.Hidden::aG 35 K b8 b9 (aT d b.Parts)::rows [9,72] d b.Parts::aG 69 K c0 c1 b.Meetings::aG 9 K c3 c4 b.Allowed::aG 9 K c6 c7 b.Hidden::aG 2 K r u a9::aG 2 K a3 a5 z::box a8 35 m::box a6 28 [zS b0 J.length b1,zS b2 V.length b3,zS b4 a0.length b5,zS b6 a2.length b7]::L) e8:=i3
   obtain ⟨e5,d7,u1,f1,_⟩:=aD.lendBp i3 .head
   replace f1:aD G e5 (aG 35 K c9 d0 (aT e c.Parts)::rows [9,72] e c.Parts::aG 69 K d1 d2 c.Meetings::aG 9 K d3 d4 c.Allowed::aG 9 K d5 d6 c.Hidden::aG 35 K b8 b9 (aT d b.Parts)::rows [9,72] d b.Parts::aG 69 K c0 c1 b.Meetings::aG 9 K c3 c4 b.Allowed::aG 9 K c6 c7 b.Hidden::aG 2 K r u a9::aG 2 K a3 a5 z::box a8 35 m::box a6 28 [zS b0 J.length b1,zS b2 V.length b3,zS b4 a0.length b5,zS b6 a2.length b7]::L) e8:=f1
   refine aM (v:=zB a.2) (aI (aL (aK (aJ (v:=zB a.2) (aF (aEd rfl) (aI ?_))))))
   rcases aS hm with ⟨i4,hm⟩|⟨i4,hm⟩
   ·refine aZ i4 rfl (aK (aF (jU (vs:=[]) (cs:=m) aEJ rfl (by kernel_rfl)) (bN (i:=12) (ns:=m) (us:=m) sizeOf35 f1 rfl rfl rfl rfl rfl (dM rfl) rfl rfl (fun u2 (u3:aD G e5 (aG 35 K c9 d0 (aT e c.Parts)::rows [9,72] e c.Parts::aG 69 K d1 d2 c.Meetings::aG 9 K d3 d4 c.Allowed::aG 9 K d5 d6 c.Hidden::aG 35 K b8 b9 (aT d b.Parts)::rows [9,72] d b.Parts::aG 69 K c0 c1 b.Meetings::aG 9 K c3 c4 b.Allowed::aG 9 K c6 c7 b.Hidden::aG 2 K r u a9::aG 2 K a3 a5 z::box a8 35 m::box a6 28 [zS b0 J.length b1,zS b2 V.length b3,zS b4 a0.length b5,zS b6 a2.length b7]::L) u2)=>(aM (v:=zS none 0 0) (aM (v:=i64 5) (aI (nY (nE (aAm (nE (nE ?_))))))))))))
    have u4:=hr _ (zI hm).symm
    subst u4
    have hm:(some (⟨0,0,[],[]⟩,[],5))=some R:=ho
    clear hr ho
    have u5:=aD.nil (α:=aH) u3 9 K
    have u6:=aD.nil (α:=Edge) u5 72 K
    have m1:=aD.nil (α:=Int) u6 2 K
    obtain rfl:=zI hm
    exact aAm (nE (nE (aKK results22 (aCJ (vs:=m) rfl eW m1 (i:=15) rfl rfl rfl) (aFg rfl rfl) (aFg rfl rfl) ⟨none,0,none,0,none,0,rfl,(aD.weakK (aD.arr 17 [2,1,0] m1 rfl) (zL (zL (zL (zL (zL o e4) d8) d9) e0) d7))⟩)))
   ·refine bJ i4 rfl (bD (aC (aK (aF (eD (t:=0) (vs:=[zS x a.1.Parts.length y,zS p a.1.Meetings.length q,zS k a.1.Allowed.length l,zS g a.1.Hidden.length j]) uR f1 u1 (aCK rfl) rfl rfl) (bN (i:=13) (ns:=[zS x a.1.Parts.length y,zS p a.1.Meetings.length q,zS k a.1.Allowed.length l,zS g a.1.Hidden.length j]) (us:=[zS x a.1.Parts.length y,zS p a.1.Meetings.length q,zS k a.1.Allowed.length l,zS g a.1.Hidden.length j]) sizeOf28 f1 rfl rfl rfl rfl rfl (dM rfl) rfl rfl (fun u8 (m2:aD G e5 (aG 35 K c9 d0 (aT e c.Parts)::rows [9,72] e c.Parts::aG 69 K d1 d2 c.Meetings::aG 9 K d3 d4 c.Allowed::aG 9 K d5 d6 c.Hidden::aG 35 K b8 b9 (aT d b.Parts)::rows [9,72] d b.Parts::aG 69 K c0 c1 b.Meetings::aG 9 K c3 c4 b.Allowed::aG 9 K c6 c7 b.Hidden::aG 2 K r u a9::aG 2 K a3 a5 z::box a8 35 m::box a6 28 [zS x a.1.Parts.length y,zS p a.1.Meetings.length q,zS k a.1.Allowed.length l,zS g a.1.Hidden.length j]::L) u8)=>(aI (aK (bH f3 (aJ (v:=i64 e1) (aJ (v:=i64 e2) (aF (R_min rfl rfl) (aJ (v:=i64 e6) ?_)))))))))))))
    obtain ⟨z6,i5,hm⟩:=aB hm
    have u9:=dJ m2 (i:=10) rfl i5
    refine aF (fI bR rfl u9 rfl rfl rfl i5) ?_;obtain ⟨f4,m3,hm⟩:=aB hm
    refine pO (i:=10) (t:=0) (ns:=[i64 e6]) (e':=(e6:Int)) sizeOf2 m2 rfl (zL (zL (zL (zL (zL o e4) d8) d9) e0) d7) rfl rfl rfl i5 m3 rfl rfl (dM rfl) rfl (fun cs h=>by cases h;rfl) (fun m4 (v0:aD G e5 (aG 35 K c9 d0 (aT e c.Parts)::rows [9,72] e c.Parts::aG 69 K d1 d2 c.Meetings::aG 9 K d3 d4 c.Allowed::aG 9 K d5 d6 c.Hidden::aG 35 K b8 b9 (aT d b.Parts)::rows [9,72] d b.Parts::aG 69 K c0 c1 b.Meetings::aG 9 K c3 c4 b.Allowed::aG 9 K c6 c7 b.Hidden::aG 2 K r u f4::aG 2 K a3 a5 z::box a8 35 m::box a6 28 [zS x a.1.Parts.length y,zS p a.1.Meetings.length q,zS k a.1.Allowed.length l,zS g a.1.Hidden.length j]::L) m4)=>(aI (aK (bH (v:=zS r f4.length u) (Eq.trans f3 (congrArg (fun n=>zS r n u) (iS m3))) (aJ (v:=i64 e1) (aJ (v:=i64 e2) (aF (R_max rfl rfl) (aJ (v:=i64 e1) (aJ (v:=i64 e2) (aF (R_max rfl rfl) (aF (eP rfl rfl) ?_)))))))))))
    have v1:aD G e5 (aG 2 K r u f4::aG 35 K c9 d0 (aT e c.Parts)::rows [9,72] e c.Parts::aG 69 K d1 d2 c.Meetings::aG 9 K d3 d4 c.Allowed::aG 9 K d5 d6 c.Hidden::aG 35 K b8 b9 (aT d b.Parts)::rows [9,72] d b.Parts::aG 69 K c0 c1 b.Meetings::aG 9 K c3 c4 b.Allowed::aG 9 K c6 c7 b.Hidden::aG 2 K a3 a5 z::box a8 35 m::box a6 28 [zS x a.1.Parts.length y,zS p a.1.Meetings.length q,zS k a.1.Allowed.length l,zS g a.1.Hidden.length j]::L) m4:=(aD.arr 11 [10,0,1,2,3,4,5,6,7,8,9] v0 rfl)
    obtain ⟨i6,v2,hm⟩:=aB hm
    refine aQ (vs:=[zS r f4.length u,i64 (mxI e1 e2),i64 (wr ((mxI e1 e2)+1))]) call59 rfl (lib_DelInt v1 v2) ?_
    rintro _ z7 ⟨f5,f6,rfl,i7⟩
    refine aM (v:=zS f5 i6.length f6) (aI (aW (bH l3 (aF (aV (t':=0) kR rfl rfl) (aF (bT xJ i7 (i:=13) rfl rfl rfl) (aJ (v:=i64 e1) (aJ (v:=i64 e2) (aF (R_min rfl rfl) ?_))))))));obtain ⟨f7,m5,hm⟩:=aB hm
    refine aF (eH lU rfl (h8.mono (zL (zL (zL d8 d9) e0) d7)) rfl rfl rfl m5) ?_;obtain ⟨z8,m6,v3⟩:=bE.el (sz:=4) rfl h8 m5
    obtain ⟨z9,a00,a01,a02,rfl,a03,a04⟩:=v3
    refine aF (aJA (k':=(mnI e1 e2).toNat * 4+0) kQ rfl (m6.mono (zL (zL (zL d8 d9) e0) d7)) rfl) (aF (bG (t:=0) eG i7 (m6.mono (zL (zL (zL d8 d9) e0) d7)) rfl rfl) (cZ (Kt:=K) (xs:=([f7.N]:List Int)) (cs:=[i64 f7.N]) (vs:=[(0,i64 f7.N)]) bR yY rfl rfl i7 rfl (by kernel_rfl) rfl rfl rfl ⟨rfl,trivial⟩ (fun v4 v5 (v6:aD G e5 (aG 2 K v4 1 ([f7.N]:List Int)::aG 2 K f5 f6 i6::aG 35 K c9 d0 (aT e c.Parts)::rows [9,72] e c.Parts::aG 69 K d1 d2 c.Meetings::aG 9 K d3 d4 c.Allowed::aG 9 K d5 d6 c.Hidden::aG 35 K b8 b9 (aT d b.Parts)::rows [9,72] d b.Parts::aG 69 K c0 c1 b.Meetings::aG 9 K c3 c4 b.Allowed::aG 9 K c6 c7 b.Hidden::aG 2 K a3 a5 z::box a8 35 m::box a6 28 [zS x a.1.Parts.length y,zS p a.1.Meetings.length q,zS k a.1.Allowed.length l,zS g a.1.Hidden.length j]::L) v5)=>?_)))
    obtain ⟨m7,v7,hm⟩:=aB hm
    exact mF (i:=11) bR underlying29 yY rfl rfl v6 rfl (zL (zL (zL (zL (zL o e4) d8) d9) e0) d7) (zL (zL (zL (zL (zL o e4) d8) d9) e0) d7) v7 rfl rfl rfl rfl (fun _ h=>h) (fun i8 i9 v8 (v9:aD G e5 (aG 2 K f5 f6 i6::aG 35 K c9 d0 (aT e c.Parts)::rows [9,72] e c.Parts::aG 69 K d1 d2 c.Meetings::aG 9 K d3 d4 c.Allowed::aG 9 K d5 d6 c.Hidden::aG 35 K b8 b9 (aT d b.Parts)::rows [9,72] d b.Parts::aG 69 K c0 c1 b.Meetings::aG 9 K c3 c4 b.Allowed::aG 9 K c6 c7 b.Hidden::aG 2 K i8 i9 m7::box a8 35 m::box a6 28 [zS x a.1.Parts.length y,zS p a.1.Meetings.length q,zS k a.1.Allowed.length l,zS g a.1.Hidden.length j]::L) v8)=>(aM (v:=zS i8 m7.length i9) (aR (dI (aC (aW (aF (eP g4 rfl) (aJ (v:=i64 (wr (g3+1))) (aI ⟨_,(zI hm).symm,cE,e5,x,y,p,q,k,l,g,j,i8,i9,f5,f6,(zL (zL (zL (zL (zL o e4) d8) d9) e0) d7),rfl,rfl,rfl,(h8.mono (zL (zL (zL d8 d9) e0) d7)),(t6.mono (zL (zL d9 e0) d7)),(t8.mono (zL e0 d7)),(u0.mono d7),(aD.arr 12 [11,0] v9 rfl)⟩)))))))))
  ·refine bJ g6 rfl (aBx (kP (kP ?_)))
   have w0:=hr _ (zI hm).symm
   subst w0
   have hm:(jY kind J V a0 a2 z)=some R:=ho
   clear hr ho
   exact vV (aC ⟨cE,e3,J,V,a0,a2,z,b0,b1,b2,b3,b4,b5,b6,b7,a3,a5,o,hm,l3,l4,l5,l6,l7,(aD.arr 2 [0] g5 rfl)⟩)
theorem aCj {n:aO} {a:(List Int)} {kind:Int} {R:(bA × (List Int) × Int)} (hm:uE n a kind=some R) (x:aD G K (L) w) (j:G.lo=0) (k:bE K a1 c2 n.Parts) (l:bE K a4 c5 n.Meetings) (m:bE K a7 c8 n.Allowed) (o:bE K a10 c11 n.Hidden) (y:bE K a13 c14 a):
  Calls prog 8 ([zA #[zS a1 n.Parts.length c2,zS a4 n.Meetings.length c5,zS a7 n.Allowed.length c8,zS a10 n.Hidden.length c11],zS a13 a.length c14,i64 kind]:List Value).toArray w (eQ fun v w'=>∃ b c d e g h,v=zT #[zA (zCa R.1 b c d e),zS g R.2.1.length h,i64 R.2.2]/\aD G K (aG 9 K b c R.1.L::aG 72 K d e R.1.E::aG 2 K g h R.2.1::L) w'):=by
 refine aFe func8 ?_;unfold uE at hm
 refine aCk ?_;refine aKb fun p z J=>?_
 refine aFm fun q V r=>?_;refine aCk ?_
 refine dE (aCk ?_);obtain ⟨a0,t,hm⟩:=aB hm
 refine aED call17 (tQ t r j k l m o) ?_
 rintro _ a2 ⟨rfl,a3⟩
 refine aCk ?_
 rcases aS hm with ⟨u,hm⟩|⟨u,hm⟩
 ·exact aP
 ·iterate 2 refine aFl ?_
  exact cI [1,2,3,6] (fun f w=>∃ i,tP n a kind i=some R/\f 14=zB i/\aD G K (box q 35 zG::box p 28 [zS a1 n.Parts.length c2,zS a4 n.Meetings.length c5,zS a7 n.Allowed.length c8,zS a10 n.Hidden.length c11]::L) w) aP aP
theorem aGj {a b:bA} {p:(List Int)} {R:Bool} (hm:sL a b p=some R) (c:aD G K (L) w) (d:bE K a1 c2 a.L) (e:bE K a4 c5 a.E) (g:bE K a7 c8 b.L) (h:bE K a10 c11 b.E) (i:bE K a13 c14 p):
  Calls prog 62 ([zA (zCa a a1 c2 a4 c5),zA (zCa b a7 c8 a10 c11),zS a13 p.length c14]:List Value).toArray w (eQ fun v w'=>v=zB R/\aD G K (L) w'):=by
 exact aP
theorem zZ {a:(List (List aH))} {R:(List aH)} (hm:gN a=some R) (J:aD G K (L) w) (V:bE K a1 c2 a):
  Calls prog 159 ([zS a1 a.length c2]:List Value).toArray w (eQ fun v w'=>∃ g h,v=zS g R.length h/\aD G K (aG 9 K g h R::L) w'):=by
 refine aFe func159 ?_;unfold gN at hm
 refine aCk ?_;refine aU [0] (fun f w=>∃ b,iP a b=some R/\f 3=i64 b/\aD G K (L) w) ?_ ?_
 ·rintro f w6 ⟨b,hm,e5,o⟩
  unfold iP at hm
  refine aCk ?_;obtain ⟨r8,p,hm⟩:=aB hm
  refine aED call208 (lib_GrowStr o (aDB (α:=aH) _) p) ?_
  rintro _ a4 ⟨a5,a6,rfl,a7⟩
  refine aCk ?_;refine aU [] (fun f w=>∃ c i j,pW c=some R/\f 6=zS i c.length j/\aD G K (aG 9 K i j c::L) w) aP ?_
  obtain ⟨a8,q,ho⟩:=aB hm
  exact cQ [25,26] q (fun k r f w=>∃ l m,f 6=zS l k.length m/\f 27=i64 r/\aD G K (aG 9 K l m k::L) w) aP aP
 obtain ⟨a9,t,ho⟩:=aB hm
 refine cQ [0,9,10] t (fun n d f w=>f 3=i64 n/\f 11=i64 d/\aD G K (L) w) aP ?_
 ·rintro n d u f b0 hm hr ⟨b1,b2,b3⟩
  unfold bL at hm
  refine aCk ?_
  rcases aS hm with ⟨x,hm⟩|⟨x,hm⟩
  ·refine aCk ?_;refine aU [0,9,10,11] (fun f w=>∃ e,fQ d e=some u/\f 3=i64 e/\aD G K (L) w) ?_ ?_
   ·rintro f b4 ⟨e,hm,y,z⟩
    unfold fQ at hm
    refine aCk ?_;exact ⟨_,(zI hm).symm,cE,y,rfl,z⟩
   exact aP
  ·exact aP
theorem aGk {a b R:bA} (hm:aHF a b=some R) (hs:aD G K (L) w) (k:bE K a1 c2 a.L) (h6:bE K a4 c5 a.E) (l:bE K a7 c8 b.L) (a5:bE K a10 c11 b.E):
  Calls prog 116 ([zA (zCa a a1 c2 a4 c5),zA (zCa b a7 c8 a10 c11)]:List Value).toArray w (eQ fun v w'=>∃ m n o p,v=zA (zCa R m n o p)/\aD G K (aG 9 K m n R.L::aG 72 K o p R.E::L) w'):=by
 let q:=(zC b a7 c8 a10 c11)
 let r:=(zC a a1 c2 a4 c5)
 let h:=zG
 refine aFe func116 ?_;unfold aHF at hm
 refine aCk ?_;refine aKb fun u c6 c7=>?_
 refine aKb fun x c9 d0=>?_;refine aFm fun i d1 a6=>?_
 refine aCk ?_;obtain ⟨d2,a8,hm⟩:=aB hm
 refine aED call154 (wI a8 a6 k h6) ?_
 rintro _ d3 ⟨d4,d5,rfl,a9⟩
 refine aCk ?_;obtain ⟨b0,b1,hm⟩:=aB hm
 refine aED call154 (wI b1 a9 l a5) ?_
 rintro _ d6 ⟨b2,b3,rfl,d7⟩
 refine aCk ?_;refine aU [2,3,4] (fun f w=>∃ d e g,aGf a b d=some R/\f 5=zS e d.length g/\aD G K (aG 129 K e g d::box i 35 h::box x 35 q::box u 35 r::L) w) ?_ ?_
 ·rintro f d8 ⟨d,e,g,hm,b4,b5⟩
  unfold aGf at hm
  refine aCk ?_;obtain ⟨d9,b6,y,b7,e0⟩:=aD.lendBp b5 zt2
  obtain ⟨b8,j,z,e1,e2⟩:=aD.lendBp b7 zt2
  refine aKg [(0,0),(1,0),(2,0),(3,0),(4,0),(5,0),(6,0),(7,0),(8,0),(9,0),(10,0),(13,0),(11,1),(12,1),(14,1),(15,2)] fun e3 c=>?_;refine aCk ?_
  refine bB rfl (fun _ ⟨_,c⟩=>bG (t:=0) eG c (y.mono j) rfl rfl) (bB rfl (fun _ _=>eP rfl rfl) (bB rfl (fun _ _=>aV (t':=1) aEK rfl rfl) (bB rfl (fun _ ⟨_,c⟩=>bG (t:=1) eG c z rfl rfl) (bB rfl (fun _ _=>aV (t':=2) mL rfl rfl) (bB rfl (fun _ ⟨_,c⟩=>bG (t:=2) uQ c z rfl rfl) (bB rfl (fun _ _=>aV (t':=2) mL rfl rfl) (bB rfl (fun _ ⟨_,c⟩=>bG (t:=2) uQ c (y.mono j) rfl rfl) (bB rfl (fun _ _=>aY b4) (jZ rfl (cZ (Kt:=K) (xs:=([a.L,b.L]:List (List aH))) (cs:=[zS a1 a.L.length c2,zS a7 b.L.length c8]) (vs:=[(0,zS a1 a.L.length c2),(1,zS a7 b.L.length c8)]) aOc ez_26 rfl rfl c rfl (by kernel_rfl) rfl rfl rfl ⟨⟨a1,c2,rfl,k⟩,⟨a7,c8,rfl,l⟩,trivial⟩ (fun b9 c0 (J:aD G b8 (aG 26 K b9 2 ([a.L,b.L]:List (List aH))::aG 129 K e g d::box i 35 h::L) c0)=>(aR (aC ⟨⟨_,J⟩,?_⟩)))))))))))))
  refine jZ rfl ?_;obtain ⟨e4,e5,e6,e7,e8⟩:=aD.lendSp J (zL b6 j) .head
  exact aP
 obtain ⟨e9,c1,ho⟩:=aB hm
 exact cQ [2,3,4,11,12] c1 (fun V c3 f w=>∃ a0 a2,f 5=zS a0 V.length a2/\f 13=i64 c3/\aD G K (aG 129 K b2 b3 b0::aG 129 K a0 a2 V::box i 35 h::box x 35 q::box u 35 r::L) w) aP aP
theorem aBt {a:Bool} {R:Unit} (hm:aAW a=some R) (c:aD G K (L) w):
  Calls prog 24 ([zB a]:List Value).toArray w (eQ fun v w'=>∃ b,v=Value.func (.func 64) #[] #[Value.pointer (some ⟨b,0,none⟩)]/\aD G K (box b 4 [zB a]::L) w'):=by
 exact aP
theorem yS {t:bA} {p:Bool} {b:Nat} {R:(List Int)} (hm:xC t p=some R) (e:aD G K (L) w) (g:bE K a1 c2 t.L) (h:bE K a4 c5 t.E) (i:fK K a7 b [zB p]):
  Calls prog 64 ([zA (zCa t a1 c2 a4 c5),cX a7 b]:List Value).toArray w (eQ fun v w'=>∃ a c d,v=zS c R.length d/\Hp.le K a/\bE a c d R/\aD G a (L) w'):=by
 exact aP
theorem aPN {a b:bA} {m:Bool} {d:Nat} {R:(List Int)} (hm:aOg a b m=some R) (hs:aD G K (L) w) (J:bE K a1 c2 a.L) (V:bE K a4 c5 a.E) (h9:bE K a7 c8 b.L) (a2:bE K a10 c11 b.E) (a3:fK K a13 d [zB m]):
  Calls prog 63 ([zA (zCa a a1 c2 a4 c5),zA (zCa b a7 c8 a10 c11),Value.func (.func 64) #[] #[cX a13 d]]:List Value).toArray w (eQ fun v w'=>∃ e n o,v=zS n R.length o/\Hp.le K e/\bE e n o R/\aD G e (L) w'):=by
 let p:=(zC b a7 c8 a10 c11)
 let q:=(zC a a1 c2 a4 c5)
 refine aFe func63 ?_;unfold aOg at hm
 refine aCk ?_;refine aKb fun r c1 c3=>?_
 refine aKb fun u c4 a5=>?_;refine aCk ?_
 obtain ⟨c,a6,hm⟩:=aB hm
 refine aED call116 (aGk a6 a5 J V h9 a2) ?_
 rintro _ x ⟨y,z,g,h,rfl,a8⟩
 obtain ⟨a9,i,b0,j⟩:=aD.giveSp a8 (Hp.le_refl _) .head
 replace j:aD G a9 (aG 72 K g h c.E::box u 35 p::box r 35 q::L) x:=j
 obtain ⟨b1,k,b2,l⟩:=aD.giveSp j i .head
 replace l:aD G b1 (box u 35 p::box r 35 q::L) x:=l
 obtain ⟨c6,b3,hm⟩:=aB hm
 refine eE (vs:=[zA (zCa c y z g h)]) (caps:=[cX a13 d]) (us:=[zA (zCa c y z g h),cX a13 d]) rfl call64 rfl rfl (yS (t:=⟨c.N,c.I,c.L,c.E⟩) b3 l (b0.mono k) b2 (a3.mono (zL i k))) ?_
 rintro _ c7 ⟨b4,b5,b6,rfl,b7,b8,c9⟩
 refine aCk ?_;obtain rfl:=zI hm
 exact aMD results63 ⟨b4,b5,b6,rfl,(zL (zL i k) b7),b8,aKa⟩
theorem aGx {a b:bA} {d:Bool} {e:Nat} {R:(Bool × Int)} (hm:aGg a b d=some R) (z:aD G K (L) w) (J:G.lo=0) (V:bE K a1 c2 a.L) (h6:bE K a4 c5 a.E) (h9:bE K a7 c8 b.L) (a3:bE K a10 c11 b.E) (a5:fK K a13 e [zB d]):
  Calls prog 23 ([zA (zCa a a1 c2 a4 c5),zA (zCa b a7 c8 a10 c11),Value.func (.func 64) #[] #[cX a13 e]]:List Value).toArray w (eQ fun v w'=>v=zT #[zB R.1,i64 R.2]/\aD G K (L) w'):=by
 let g:=(zC b a7 c8 a10 c11)
 let h:=(zC a a1 c2 a4 c5)
 refine aFe func23 ?_;unfold aGg at hm
 refine aCk ?_;refine aKb fun k a6 a8=>?_
 refine aKb fun p a9 b0=>?_
 iterate 6 refine aFl ?_
 refine cI [2,3,4] (fun f w=>∃ i,aAB a b d i=some R/\f 15=zB i/\aD G K (box p 35 g::box k 35 h::L) w) ?_ ?_
 ·rintro f l ⟨i,hm,b1,q⟩
  unfold aAB at hm
  refine aCk ?_
  rcases aS hm with ⟨r,hm⟩|⟨r,hm⟩
  ·exact aP
  ·refine aCk ?_;obtain ⟨u,b2,m,j,_⟩:=aD.lendBp q .head
   replace j:aD G u (box k 35 h::L) l:=j
   obtain ⟨x,n,y,o,_⟩:=aD.lendBp j .head
   replace o:aD G x (L) l:=o
   refine aKg [(0,0),(1,0),(2,0),(3,0),(4,0),(5,1),(6,1),(7,0),(8,0)] fun b3 c=>?_;refine aCk ?_
   exact bB rfl (fun _ ⟨_,c⟩=>eD (t:=0) (vs:=g) eW c (m.mono n) (aCK rfl) rfl rfl) (bB rfl (fun _ ⟨_,c⟩=>eD (t:=0) (vs:=h) eW c y (aCK rfl) rfl rfl) (bB rfl (fun _ ⟨_,c⟩=>eD (t:=0) (vs:=g) eW c (m.mono n) (aCK rfl) rfl rfl) (bB rfl (fun _ _=>aY (v:=Value.func (.func 64) #[] #[cX a13 e]) rfl) (jZ rfl aP))))
 exact aP
theorem aDy {a b:bA} {g:Bool} {R:(Bool × Int)} (hm:uF a b g=some R) (z:aD G K (L) w) (j:G.lo=0) (k:bE K a1 c2 a.L) (l:bE K a4 c5 a.E) (m:bE K a7 c8 b.L) (n:bE K a10 c11 b.E):
  Calls prog 9 ([zA (zCa a a1 c2 a4 c5),zA (zCa b a7 c8 a10 c11),zB g]:List Value).toArray w (eQ fun v w'=>v=zT #[zB R.1,i64 R.2]/\aD G K (L) w'):=by
 refine aFe func9 ?_;unfold uF at hm
 refine aCk ?_;refine aKb fun J V a0=>?_
 refine aKb fun a2 a3 o=>?_;refine aCk ?_
 obtain ⟨a5,d,p,q,a6⟩:=aD.lendBp o .head
 obtain ⟨a8,c,a9,b0,b1⟩:=aD.lendBp q .head
 refine aKg [(0,0),(1,0),(2,0),(3,1),(4,1),(5,0),(6,0),(7,0),(8,0)] fun b2 h=>?_;refine aCk ?_
 refine bB rfl (fun _ ⟨_,h⟩=>eD (t:=0) (vs:=(zC b a7 c8 a10 c11)) eW h (p.mono c) rfl rfl rfl) (bB rfl (fun _ _=>aY (v:=zB g) rfl) (jZ rfl ?_));obtain ⟨b3,r,hm⟩:=aB hm
 refine aED call24 (aBt r h) ?_
 rintro _ b4 ⟨b5,rfl,i⟩
 refine aR (aC ⟨⟨_,i⟩,?_⟩)
 refine jZ rfl ?_;obtain ⟨b6,e,u,x,b7⟩:=aD.lendBp i .head
 obtain ⟨b8,y,hm⟩:=aB hm
 exact aED call23 (aGx y x j (k.mono (zL (zL d c) e)) (l.mono (zL (zL d c) e)) (m.mono (zL (zL d c) e)) (n.mono (zL (zL d c) e)) u) aP
end Gv
