/- Walks, printed by program. -/
import Derived.Test.YtffnhnhfedmjcaaGreatDoorJWk3
set_option linter.all false
namespace Gv
open Gv.Hp renaming le_refl→zR
open Go.Value renaming slice→zS,bool→zB,pointer→zP,agg→zA,tuple→zT,map→zM
open Option.some renaming inj→zI
open Gv.Hp renaming le_trans→zL
open Go Go.Proofs Go.Proofs.Tryz
set_option maxRecDepth 20000
set_option maxHeartbeats 40000000
variable {G:yU} {K Kf:Hp} {L:List jN} {w:World} {a1 a4 a7 a10 a13 a16 a19 a22 a25 a28 a31 a36 a39 a41 a6 a9 a11 a14 a17 a20 a23 a26 a29 a32 a35 a38:Option Addr} {c2 c5 c8 c11 c14 c20 c23 c26 c29 b34 b35 c37 c40 b4 b5 c7 c10 c18 c21 c24 c27 c33 c36 c39 c42 c17 c32:Nat}
theorem aCY {n:aO} {h4:(List Int)} {e0:Nat} {c7:aO} {e1:Nat} {e8:(List (List Int))} {l2:(List (aH × Int))} {c:Nat} {e9:(List cO)} {o7:Int} {o8:Nat} {R:((List (List Int)) × (List (aH × Int)) × (List cO))} (hm:wB n h4 c7 e8 l2 e9 o7=some R) (hs:aD G K (aG 29 Kf a36 c37 e8::kV c l2::aG 129 K a39 c40 e9::box b35 127 [zS a36 e8.length c37,zM (some c),zS a39 e9.length c40,Value.func (.func 41) #[] #[]]::box b34 123 [zP (some ⟨b35,0,none⟩)]::L) w) (hG:G.lo=0) (t5:Hp.le Kf K) (h3:bE K a1 c2 n.Parts) (h6:bE K a4 c5 n.Meetings) (h9:bE K a7 c8 n.Allowed) (t8:bE K a10 c11 n.Hidden) (h5:bE K a13 c14 h4) (o9:fK K a16 e0 [Value.func (.func 19) #[zA #[zS a19 c7.Parts.length c20,zS a22 c7.Meetings.length c23,zS a25 c7.Allowed.length c26,zS a28 c7.Hidden.length c29]] #[]]) (p0:bE K a19 c20 c7.Parts) (p1:bE K a22 c23 c7.Meetings) (p2:bE K a25 c26 c7.Allowed) (p3:bE K a28 c29 c7.Hidden) (p4:fK K a31 e1 [Value.func (.func 84) #[] #[zP (some ⟨b34,0,none⟩),cX a41 o8]]) (p5:fK K a41 o8 [i64 o7]):
  Calls prog 44 ([zA #[zS a1 n.Parts.length c2,zS a4 n.Meetings.length c5,zS a7 n.Allowed.length c8,zS a10 n.Hidden.length c11],zS a13 h4.length c14,Value.func (.func 45) #[] #[cX a16 e0,cX a31 e1]]:List Value).toArray w (eQ fun v w'=>∃ K' p6 p7 p8 p9,v=zT #[]/\Hp.le K K'/\aD G K' (aG 29 K' p6 p7 R.1::kV c R.2.1::aG 129 K p8 p9 R.2.2::box b35 127 [zS p6 R.1.length p7,zM (some c),zS p8 R.2.2.length p9,Value.func (.func 41) #[] #[]]::box b34 123 [zP (some ⟨b35,0,none⟩)]::L) w'):=by
 let o:=[zS a1 n.Parts.length c2,zS a4 n.Meetings.length c5,zS a7 n.Allowed.length c8,zS a10 n.Hidden.length c11]
 let p:=[zP (some ⟨b35,0,none⟩)]
 let q:=[zS a13 h4.length c14]
 refine aFe func44 ?_;unfold wB at hm
 refine aCk ?_;refine aKb fun r w45 a42=>?_
 refine aKb fun k t9 u0=>?_
 iterate 4 refine aFl ?_
 refine aF (eV (vs:=[zP (some ⟨k,0,none⟩)]) rfl) (aCk ?_);refine aU [] (fun f w=>∃ l6 l7 q0 l8 q1 q2 q3 q4,Hp.le K l6/\aAT l7 q0 l8=some R/\aD G l6 (aG 129 K q3 q4 l8::aG 29 l6 q1 q2 l7::kV c q0::box b35 127 [zS q1 l7.length q2,zM (some c),zS q3 l8.length q4,Value.func (.func 41) #[] #[]]::box b34 123 p::L) w) aP ?_
 have a43:aD G K (box k 29 q::box r 28 o::aG 29 K a36 c37 e8::kV c l2::aG 129 K a39 c40 e9::box b35 127 [zS a36 e8.length c37,zM (some c),zS a39 e9.length c40,Value.func (.func 41) #[] #[]]::box b34 123 p::L) t9:=aD.weak (i:=2) u0 rfl (fun _ h=>aG.mono t5 h)
 obtain ⟨a44,u1,ho⟩:=aB hm
 refine rZ [2,3,4,6,20,21] u1 (fun c1 f0 h7 f1 f w=>∃ c9 f2 f3 f4 f5,Hp.le K c9/\f 22=i64 c1/\aD G c9 (box k 29 q::box r 28 o::aG 29 c9 f2 f3 f0::kV c h7::aG 129 K f4 f5 f1::box b35 127 [zS f2 f0.length f3,zM (some c),zS f4 f1.length f5,Value.func (.func 41) #[] #[]]::box b34 123 p::L) w) aP ?_
 ·rintro c1 f0 h7 f1 l9 f w89 hm hr ⟨c9,f2,f3,f4,f5,e,e88,u2⟩
  unfold jR at hm
  refine aCk ?_
  rcases aS hm with ⟨q5,hm⟩|⟨q5,hm⟩
  ·refine aCk ?_;refine aU [2,3,4,6,20,21,22] (fun f w=>∃ f6 h8 m0 i0 i1 i2 i3 i4,Hp.le c9 f6/\vG c1 h8 m0 i0=some l9/\aD G f6 (aG 129 K i3 i4 i0::aG 29 f6 i1 i2 h8::box k 29 q::box r 28 o::kV c m0::box b35 127 [zS i1 h8.length i2,zM (some c),zS i3 i0.length i4,Value.func (.func 41) #[] #[]]::box b34 123 p::L) w) ?_ ?_
   ·rintro f a47 ⟨f6,h8,m0,i0,i1,i2,i3,i4,u3,hm,a48⟩
    unfold vG at hm
    refine aCk ?_;exact ⟨_,(zI hm).symm,cE,f6,i1,i2,i3,i4,(zL e u3),rfl,aKa⟩
   refine aCk ?_;obtain ⟨a,u4,hm⟩:=aB hm
   refine aCk ?_;obtain ⟨a49,a50,u5⟩:=bE.el (sz:=4) rfl h3 u4
   obtain ⟨x,y,z,J,rfl,m1,u6⟩:=u5
   refine aCk ?_;refine aFm fun V a51 a52=>?_
   refine aCk ?_;refine aJz fun a54 u7=>?_
   refine aCk ?_;obtain ⟨a55,q6,u8,u9,v0⟩:=aD.lendBp u7 .head
   obtain ⟨a56,m2,v1,a58,v2⟩:=aD.lendBp u9 .head
   refine aKg [(0,0),(1,0),(2,0),(3,0),(4,0),(7,0),(5,1),(6,0)] fun a59 f7=>?_;refine bB rfl (fun _ ⟨_,f7⟩=>eD (t:=0) (vs:=(zC a x y z J)) eW f7 (u8.mono m2) rfl rfl rfl) (bB rfl (fun _ ⟨_,f7⟩=>bG (t:=0) tV f7 v1 rfl rfl) (bB rfl (fun _ _=>aY (v:=i64 c1) rfl) ?_))
   obtain ⟨a60,v3,hm⟩:=aB hm
   refine aCk ?_;obtain ⟨a61,a62,v4⟩:=bE.el (sz:=1) rfl h5 v3
   cases v4
   refine aCk ?_;refine jZ rfl ?_
   obtain ⟨a0,v5,hm⟩:=aB hm
   refine aED call90 (uJ v5 f7 (m1.mono (zL (zL e q6) m2)) (u6.mono (zL (zL e q6) m2))) ?_
   rintro _ a63 ⟨a2,a3,rfl,q7⟩
   refine aR (aC ⟨⟨_,q7⟩,?_⟩)
   refine aCk ?_;refine qE ?_
   have v6:=v2 _ _ q7
   have v7:=v0 _ _ v6
   refine aCk ?_;refine aU [2,3,4,6,20,21,22] (fun f w=>∃ m3 m4 q8 m5 q9 r0 r1 r2,Hp.le c9 m3/\vH c1 m4 q8 m5=some l9/\aD G m3 (aG 129 K r1 r2 m5::aG 29 m3 q9 r0 m4::box k 29 q::box r 28 o::kV c q8::box b35 127 [zS q9 m4.length r0,zM (some c),zS r1 m5.length r2,Value.func (.func 41) #[] #[]]::box b34 123 p::L) w) aP ?_
   obtain ⟨a64,v8,ho⟩:=aB hm
   refine rZ [2,3,4,6,7,8,20,21,22,32,33] v8 (fun f8 b4 d6 b5 f w=>∃ c3 b6 b7 b8 b9,Hp.le c9 c3/\f 34=i64 f8/\aD G c3 (box V 35 (zC a x y z J)::box k 29 q::aG 72 K a2 a3 a0::box r 28 o::aG 29 c3 b6 b7 b4::kV c d6::aG 129 K b8 b9 b5::box b35 127 [zS b6 b4.length b7,zM (some c),zS b8 b5.length b9,Value.func (.func 41) #[] #[]]::box b34 123 p::L) w) ?_ ?_
   ·exact ⟨c9,f2,f3,f4,f5,(zR _),rfl,v7⟩
   ·rintro f8 b4 d6 b5 m6 f a65 hm hr ⟨c3,b6,b7,b8,b9,g,v9,r3⟩
    unfold jQ at hm
    refine aCk ?_
    rcases aS hm with ⟨r4,hm⟩|⟨r4,hm⟩
    ·refine aCk ?_;refine aU [2,3,4,6,7,8,20,21,22,32,33,34] (fun f w=>∃ f9 i5 m7 i6 i7 i8 i9 j0,Hp.le c3 f9/\vI f8 i5 m7 i6=some m6/\aD G f9 (aG 129 K i9 j0 i6::aG 29 f9 i7 i8 i5::box V 35 (zC a x y z J)::box k 29 q::aG 72 K a2 a3 a0::box r 28 o::kV c m7::box b35 127 [zS i7 i5.length i8,zM (some c),zS i9 i6.length j0,Value.func (.func 41) #[] #[]]::box b34 123 p::L) w) ?_ ?_
     ·rintro f a66 ⟨f9,i5,m7,i6,i7,i8,i9,j0,w0,hm,a67⟩
      unfold vI at hm
      refine aCk ?_;exact ⟨_,(zI hm).symm,cE,f9,i7,i8,i9,j0,(zL g w0),rfl,aKa⟩
     refine aCk ?_;obtain ⟨b,r5,hm⟩:=aB hm
     have w1:=dJ r3 (i:=2) rfl r5
     refine aF (fI eI rfl w1 rfl rfl v9 r5) (aCk ?_);refine aFm fun a9 a68 a69=>?_
     refine aJz fun w2 w3=>?_;refine aCk ?_
     have r6:aD G c3 (box a9 72 [i64 b.F,i64 b.B,i64 b.To]::box V 35 (zC a x y z J)::box k 29 q::aG 72 K a2 a3 a0::box r 28 o::aG 29 c3 b6 b7 b4::kV c d6::aG 129 K b8 b9 b5::box b35 127 [zS b6 b4.length b7,zM (some c),zS b8 b5.length b9,Value.func (.func 41) #[] #[]]::box b34 123 p::L) w2:=w3
     refine dG (C:=fun w'=>∃ L',aD G c3 (box a9 72 [i64 b.F,i64 b.B,i64 b.To]::box V 35 (zC a x y z J)::L') w') [(0,0),(1,0),(2,0),(3,0),(4,0),(5,0),(6,0),(7,0),(8,0),(9,0),(10,0),(11,1),(12,1)] Tryz_mixed (by kernel_rfl) (fun _ hg=>⟨_,aD.mono r6 hg⟩) (fun a70 w4=>?_)
     have w5:=aD.mono r6 w4
     refine aCk ?_;obtain ⟨m8,r7,hm⟩:=aB hm
     refine aCk ?_;obtain ⟨a71,w6,w7⟩:=bE.el (sz:=1) rfl m1 r7
     cases w7
     refine aCk ?_;refine jZ rfl ?_
     obtain ⟨a72,w8,w9,x0,x1⟩:=aD.lendBp w5 zt2
     obtain ⟨r8,x2,hm⟩:=aB hm
     refine eE (vs:=[i64 c1,i64 b.To]) (caps:=[cX (some ⟨k,0,none⟩) 0]) (us:=[i64 c1,i64 b.To,cX (some ⟨k,0,none⟩) 0]) rfl call89 rfl rfl (mE x2 x0 w9 (h5.mono (zL (zL e g) w8))) ?_
     rintro _ m9 ⟨r9,s0,rfl,x3⟩
     have x4:=x1 _ _ x3
     refine aR (aC ⟨⟨_,aKa⟩,?_⟩)
     refine jZ rfl ?_;obtain ⟨d7,j,x5,n0⟩:=aD.giveSp x4 (zL e g) zt1
     replace n0:aD G d7 (box k 29 q::box a9 72 [i64 b.F,i64 b.B,i64 b.To]::box V 35 (zC a x y z J)::aG 72 K a2 a3 a0::box r 28 o::aG 29 c3 b6 b7 b4::kV c d6::aG 129 K b8 b9 b5::box b35 127 [zS b6 b4.length b7,zM (some c),zS b8 b5.length b9,Value.func (.func 41) #[] #[]]::box b34 123 p::L) m9:=n0
     have a73:aD G d7 (box k 29 q::box a9 72 [i64 b.F,i64 b.B,i64 b.To]::box V 35 (zC a x y z J)::aG 72 K a2 a3 a0::box r 28 o::aG 29 d7 b6 b7 b4::kV c d6::aG 129 K b8 b9 b5::box b35 127 [zS b6 b4.length b7,zM (some c),zS b8 b5.length b9,Value.func (.func 41) #[] #[]]::box b34 123 p::L) m9:=aD.weak (i:=5) n0 rfl (fun _ h=>aG.mono j h)
     have x6:aD G d7 (aG 29 d7 b6 b7 b4::kV c d6::aG 129 K b8 b9 b5::box b35 127 [zS b6 b4.length b7,zM (some c),zS b8 b5.length b9,Value.func (.func 41) #[] #[]]::box b34 123 p::box k 29 q::box a9 72 [i64 b.F,i64 b.B,i64 b.To]::box V 35 (zC a x y z J)::aG 72 K a2 a3 a0::box r 28 o::L) m9:=aKa
     obtain ⟨a74,x7,hm⟩:=aB hm
     refine eE (vs:=[str m8,zS r9 r8.length s0]) (caps:=[cX a16 e0,cX a31 e1]) (us:=[str m8,zS r9 r8.length s0,cX a16 e0,cX a31 e1]) rfl call45 rfl rfl (oN (Kf:=d7) x7 x6 hG (zR _) x5 (o9.mono (zL (zL e g) j)) (p0.mono (zL (zL e g) j)) (p1.mono (zL (zL e g) j)) (p2.mono (zL (zL e g) j)) (p3.mono (zL (zL e g) j)) (p4.mono (zL (zL e g) j)) (p5.mono (zL (zL e g) j))) ?_
     rintro _ a75 ⟨a76,a77,a78,a79,rfl,a80⟩
     refine aR (aC ⟨⟨_,aKa⟩,?_⟩)
     refine qE (aCk ?_);refine aU [2,3,4,6,7,8,20,21,22,32,33,34] (fun f w=>∃ g0 g1 j1 g2 j2 j3 j4 j5,Hp.le d7 g0/\qI f8 g1 j1 g2=some m6/\aD G g0 (aG 129 K j4 j5 g2::aG 29 g0 j2 j3 g1::kV c j1::box b35 127 [zS j2 g1.length j3,zM (some c),zS j4 g2.length j5,Value.func (.func 41) #[] #[]]::box b34 123 p::box k 29 q::box V 35 (zC a x y z J)::aG 72 K a2 a3 a0::box r 28 o::L) w) ?_ ?_
     ·rintro f a81 ⟨g0,g1,j1,g2,j2,j3,j4,j5,x8,hm,a83⟩
      unfold qI at hm
      refine aCk ?_;exact ⟨cE,g0,g1,j1,g2,j2,j3,j4,j5,(zL j x8),hm,aKa⟩
     obtain ⟨a84,x9,ho⟩:=aB hm
     refine rZ [2,3,4,6,7,8,10,20,21,22,32,33,34] x9 (fun g3 g4 j6 g5 f w=>∃ d0 g6 g7 g8 g9,Hp.le d7 d0/\f 11=i64 g3/\aD G d0 (aG 29 d0 g6 g7 g4::kV c j6::aG 129 K g8 g9 g5::box b35 127 [zS g6 g4.length g7,zM (some c),zS g8 g5.length g9,Value.func (.func 41) #[] #[]]::box b34 123 p::box k 29 q::box a9 72 [i64 b.F,i64 b.B,i64 b.To]::box V 35 (zC a x y z J)::aG 72 K a2 a3 a0::box r 28 o::L) w) aP ?_
     ·rintro g3 g4 j6 g5 n1 f a85 hm hr ⟨d0,g6,g7,g8,g9,m,s1,s2⟩
      unfold jP at hm
      refine aCk ?_
      rcases aS hm with ⟨s3,hm⟩|⟨s3,hm⟩
      ·refine aCk ?_;refine aU [2,3,4,6,7,8,10,11,20,21,22,32,33,34] (fun f w=>∃ h0 j7 n2 j8 j9 k0 k1 k2,Hp.le d0 h0/\vJ g3 j7 n2 j8=some n1/\aD G h0 (aG 129 K k1 k2 j8::aG 29 h0 j9 k0 j7::kV c n2::box b35 127 [zS j9 j7.length k0,zM (some c),zS k1 j8.length k2,Value.func (.func 41) #[] #[]]::box b34 123 p::box k 29 q::box a9 72 [i64 b.F,i64 b.B,i64 b.To]::box V 35 (zC a x y z J)::aG 72 K a2 a3 a0::box r 28 o::L) w) ?_ ?_
       ·rintro f a87 ⟨h0,j7,n2,j8,j9,k0,k1,k2,y0,hm,a88⟩
        unfold vJ at hm
        refine aCk ?_;exact ⟨_,(zI hm).symm,cE,h0,j9,k0,k1,k2,(zL m y0),rfl,aKa⟩
       refine aCk ?_;obtain ⟨d,y1,hm⟩:=aB hm
       refine aCk ?_;obtain ⟨a89,y2,y3⟩:=bE.el (sz:=4) rfl h3 y1
       obtain ⟨d1,d2,d3,d4,rfl,n3,y4⟩:=y3
       refine aF (eD (t:=0) (vs:=(zC d d1 d2 d3 d4)) eW s2 (y2.mono (zL (zL (zL e g) j) m)) rfl rfl rfl) (aFm fun e2 a90 a91=>?_);refine aJz fun a92 y5=>?_
       refine aCk ?_;obtain ⟨a93,n4,y6,y7,y8⟩:=aD.lendBp y5 .head
       obtain ⟨a94,k3,y9,a95,z0⟩:=aD.lendBp y7 zt5
       refine aKg [(0,0),(1,0),(2,0),(3,0),(4,0),(7,0),(5,1),(6,0)] fun a96 e3=>?_;refine bB rfl (fun _ ⟨_,e3⟩=>eD (t:=0) (vs:=(zC d d1 d2 d3 d4)) eW e3 (y6.mono k3) rfl rfl rfl) (bB rfl (fun _ ⟨_,e3⟩=>bG (t:=0) tV e3 y9 rfl rfl) (bB rfl (fun _ _=>aY s1) ?_))
       obtain ⟨a97,z1,hm⟩:=aB hm
       refine aCk ?_;obtain ⟨a98,z2,z3⟩:=bE.el (sz:=1) rfl h5 z1
       cases z3
       refine bB rfl (fun _ ⟨_,e3⟩=>bG (t:=0) eG e3 (z2.mono (zL (zL (zL (zL (zL e g) j) m) n4) k3)) rfl rfl) (bB rfl (fun _ _=>aY (v:=i64 0) rfl) (jZ rfl ?_));obtain ⟨e4,z4,hm⟩:=aB hm
       refine aED call90 (uJ z4 e3 (n3.mono (zL (zL (zL (zL (zL e g) j) m) n4) k3)) (y4.mono (zL (zL (zL (zL (zL e g) j) m) n4) k3))) ?_
       rintro _ a99 ⟨e5,e6,rfl,s4⟩
       refine aR (aC ⟨⟨_,s4⟩,?_⟩)
       refine aCk ?_;refine qE ?_
       have z5:=z0 _ _ s4
       have z6:=y8 _ _ z5
       refine aCk ?_;refine aU [2,3,4,6,7,8,10,11,20,21,22,32,33,34] (fun f w=>∃ n5 n6 s5 n7 s6 s7 s8 s9,Hp.le d0 n5/\vK g3 n6 s5 n7=some n1/\aD G n5 (aG 129 K s8 s9 n7::aG 29 n5 s6 s7 n6::box k 29 q::kV c s5::box b35 127 [zS s6 n6.length s7,zM (some c),zS s8 n7.length s9,Value.func (.func 41) #[] #[]]::box b34 123 p::box a9 72 [i64 b.F,i64 b.B,i64 b.To]::box V 35 (zC a x y z J)::aG 72 K a2 a3 a0::box r 28 o::L) w) aP ?_
       obtain ⟨b00,z7,ho⟩:=aB hm
       refine rZ [2,3,4,6,7,8,10,11,12,20,21,22,32,33,34,70,71] z7 (fun n8 a6 c4 a8 f w=>∃ c0 b0 b1 b2 b3,Hp.le d0 c0/\f 72=i64 n8/\aD G c0 (box e2 35 (zC d d1 d2 d3 d4)::box k 29 q::aG 72 K e5 e6 e4::aG 29 c0 b0 b1 a6::kV c c4::aG 129 K b2 b3 a8::box b35 127 [zS b0 a6.length b1,zM (some c),zS b2 a8.length b3,Value.func (.func 41) #[] #[]]::box b34 123 p::box a9 72 [i64 b.F,i64 b.B,i64 b.To]::box V 35 (zC a x y z J)::aG 72 K a2 a3 a0::box r 28 o::L) w) ?_ ?_
       ·exact ⟨d0,g6,g7,g8,g9,(zR _),rfl,z6⟩
       ·rintro n8 a6 c4 a8 z8 f b01 hm hr ⟨c0,b0,b1,b2,b3,u,z9,t0⟩
        unfold kH at hm
        refine aCk ?_
        rcases aS hm with ⟨t1,hm⟩|⟨t1,hm⟩
        ·refine aCk ?_;refine aU [2,3,4,6,7,8,10,11,12,20,21,22,32,33,34,70,71,72] (fun f w=>∃ h1 k4 n9 k5 k6 k7 k8 k9,Hp.le c0 h1/\nT n8 k4 n9 k5=some z8/\aD G h1 (aG 129 K k8 k9 k5::aG 29 h1 k6 k7 k4::box e2 35 (zC d d1 d2 d3 d4)::box k 29 q::aG 72 K e5 e6 e4::kV c n9::box b35 127 [zS k6 k4.length k7,zM (some c),zS k8 k5.length k9,Value.func (.func 41) #[] #[]]::box b34 123 p::box a9 72 [i64 b.F,i64 b.B,i64 b.To]::box V 35 (zC a x y z J)::aG 72 K a2 a3 a0::box r 28 o::L) w) ?_ ?_
         ·rintro f b02 ⟨h1,k4,n9,k5,k6,k7,k8,k9,a00,hm,b03⟩
          unfold nT at hm
          refine aCk ?_;exact ⟨_,(zI hm).symm,cE,h1,k6,k7,k8,k9,(zL u a00),rfl,aKa⟩
         refine aCk ?_;obtain ⟨a5,t2,hm⟩:=aB hm
         have a01:=dJ t0 (i:=2) rfl t2
         refine aF (fI eI rfl a01 rfl rfl z9 t2) (aCk ?_);refine aFm fun h2 b04 b05=>?_
         refine aJz fun b06 l=>?_;refine aCk ?_
         refine aME ?_;refine cJ (fun _ l=>eO (us:=o) uR l (i:=12) rfl rfl rfl rfl) (cJ (fun _ l=>aV (t':=2) mL rfl rfl) (cJ (fun _ l=>bT uQ l (i:=10) rfl rfl rfl) (cJ (fun _ l=>aV (t':=1) rA rfl rfl) (cJ (fun _ l=>bT eG l (i:=9) rfl rfl rfl) (cJ (fun _ l=>eH fJ rfl (m1.mono (zL (zL (zL (zL e g) j) m) u)) rfl rfl rfl r7) (cJ (fun _ l=>bG (t:=0) yX l (w6.mono (zL (zL (zL (zL e g) j) m) u)) rfl rfl) (cJ (fun _ l=>aV (t':=2) mL rfl rfl) (cJ (fun _ l=>bT uQ l (i:=1) rfl rfl rfl) (cJ (fun _ l=>aV (t':=1) rA rfl rfl) (cJ (fun _ l=>bT eG l (i:=0) rfl rfl rfl) ?_))))))))))
         obtain ⟨a02,t3,hm⟩:=aB hm
         refine cJ (fun _ l=>eH fJ rfl (n3.mono (zL (zL (zL (zL e g) j) m) u)) rfl rfl rfl t3) ?_;obtain ⟨b07,a03,a04⟩:=bE.el (sz:=1) rfl n3 t3
         cases a04
         refine cJ (fun _ l=>bG (t:=0) yX l (a03.mono (zL (zL (zL (zL e g) j) m) u)) rfl rfl) ?_;obtain ⟨c6,a05,hm⟩:=aB hm
         refine aKI (vs:=[zA #[zS a1 n.Parts.length c2,zS a4 n.Meetings.length c5,zS a7 n.Allowed.length c8,zS a10 n.Hidden.length c11],str m8,str a02]) (v:=zT #[str c6.1,zB c6.2]) call91 rfl (fun _ l=>(rT a05 l hG (h3.mono (zL (zL (zL (zL e g) j) m) u)) (h6.mono (zL (zL (zL (zL e g) j) m) u)) (h9.mono (zL (zL (zL (zL e g) j) m) u)) (t8.mono (zL (zL (zL (zL e g) j) m) u)))) (cJ (fun _ l=>aY (v:=zT #[str c6.1,zB c6.2]) rfl) (cJ (fun _ l=>bM rfl rfl) (cJ (fun _ l=>bM rfl rfl) (cJ (fun _ l=>dT (v:=str c6.1) rfl) (cJ (fun _ l=>dT (v:=zB c6.2) rfl) (aAf (fun b08 o0=>(aC (aK (aJ (v:=zB c6.2) (aI ?_)))))))))))
         rcases aS hm with ⟨o1,hm⟩|⟨o1,hm⟩
         ·refine aZ o1 rfl (aK (aJ (v:=Value.func (.func 89) #[] #[zP (some ⟨k,0,none⟩)]) (aJ (v:=i64 c1) (aF (aV (t':=2) tJ rfl rfl) (aF (bT eG o0 (i:=9) rfl rfl rfl) ?_)))));obtain ⟨b09,a06,a07,a08,a09⟩:=aD.lendBp o0 zt2
          obtain ⟨o2,a11,hm⟩:=aB hm
          refine eE (vs:=[i64 c1,i64 b.To]) (caps:=[cX (some ⟨k,0,none⟩) 0]) (us:=[i64 c1,i64 b.To,cX (some ⟨k,0,none⟩) 0]) rfl call89 rfl rfl (mE a11 a08 a07 (h5.mono (zL (zL (zL (zL (zL e g) j) m) u) a06))) ?_
          rintro _ a12 ⟨d8,d9,rfl,a14⟩
          have o3:=a09 _ _ a14
          refine aM (v:=zS d8 o2.length d9) (aI (aK (aJ (v:=zS d8 o2.length d9) (bH s1 (aF (aV (t':=2) tJ rfl rfl) (aF (bT eG o3 (i:=2) rfl rfl rfl) ?_))))));obtain ⟨b10,o4,hm⟩:=aB hm
          have a15:=dJ o3 (i:=1) rfl o4
          refine aF (fI bR rfl a15 rfl rfl rfl o4) ?_;obtain ⟨l0,t4,hm⟩:=aB hm
          have a17:aD G c0 (box k 29 q::aG 2 K d8 d9 o2::box h2 72 [i64 a5.F,i64 a5.B,i64 a5.To]::box e2 35 (zC d d1 d2 d3 d4)::aG 72 K e5 e6 e4::aG 29 c0 b0 b1 a6::kV c c4::aG 129 K b2 b3 a8::box b35 127 [zS b0 a6.length b1,zM (some c),zS b2 a8.length b3,Value.func (.func 41) #[] #[]]::box b34 123 p::box a9 72 [i64 b.F,i64 b.B,i64 b.To]::box V 35 (zC a x y z J)::aG 72 K a2 a3 a0::box r 28 o::L) a12:=o3
          refine pO (i:=1) (t:=0) (ns:=[i64 a5.To]) (e':=(a5.To:Int)) sizeOf2 a17 rfl (zL (zL (zL (zL e g) j) m) u) rfl rfl rfl o4 t4 rfl rfl (dM rfl) rfl (fun cs h=>by cases h;rfl) (fun l1 (a18:aD G c0 (box k 29 q::aG 2 K d8 d9 l0::box h2 72 [i64 a5.F,i64 a5.B,i64 a5.To]::box e2 35 (zC d d1 d2 d3 d4)::aG 72 K e5 e6 e4::aG 29 c0 b0 b1 a6::kV c c4::aG 129 K b2 b3 a8::box b35 127 [zS b0 a6.length b1,zM (some c),zS b2 a8.length b3,Value.func (.func 41) #[] #[]]::box b34 123 p::box a9 72 [i64 b.F,i64 b.B,i64 b.To]::box V 35 (zC a x y z J)::aG 72 K a2 a3 a0::box r 28 o::L) l1)=>(aI (aW (aJ (v:=Value.func (.func 45) #[] #[cX a16 e0,cX a31 e1]) (aJ (v:=str c6.1) (bH (v:=zS d8 l0.length d9) (Eq.trans rfl (congrArg (fun n=>zS d8 n d9) (iS t4))) ?_))))))
          obtain ⟨e7,d5,a20,o5⟩:=aD.giveSp a18 (zL (zL (zL (zL e g) j) m) u) zt1
          replace o5:aD G e7 (box k 29 q::box h2 72 [i64 a5.F,i64 a5.B,i64 a5.To]::box e2 35 (zC d d1 d2 d3 d4)::aG 72 K e5 e6 e4::aG 29 c0 b0 b1 a6::kV c c4::aG 129 K b2 b3 a8::box b35 127 [zS b0 a6.length b1,zM (some c),zS b2 a8.length b3,Value.func (.func 41) #[] #[]]::box b34 123 p::box a9 72 [i64 b.F,i64 b.B,i64 b.To]::box V 35 (zC a x y z J)::aG 72 K a2 a3 a0::box r 28 o::L) l1:=o5
          have a21:aD G e7 (box k 29 q::box h2 72 [i64 a5.F,i64 a5.B,i64 a5.To]::box e2 35 (zC d d1 d2 d3 d4)::aG 72 K e5 e6 e4::aG 29 e7 b0 b1 a6::kV c c4::aG 129 K b2 b3 a8::box b35 127 [zS b0 a6.length b1,zM (some c),zS b2 a8.length b3,Value.func (.func 41) #[] #[]]::box b34 123 p::box a9 72 [i64 b.F,i64 b.B,i64 b.To]::box V 35 (zC a x y z J)::aG 72 K a2 a3 a0::box r 28 o::L) l1:=aD.weak (i:=4) o5 rfl (fun _ h=>aG.mono d5 h)
          have a23:aD G e7 (aG 29 e7 b0 b1 a6::kV c c4::aG 129 K b2 b3 a8::box b35 127 [zS b0 a6.length b1,zM (some c),zS b2 a8.length b3,Value.func (.func 41) #[] #[]]::box b34 123 p::box k 29 q::box h2 72 [i64 a5.F,i64 a5.B,i64 a5.To]::box e2 35 (zC d d1 d2 d3 d4)::aG 72 K e5 e6 e4::box a9 72 [i64 b.F,i64 b.B,i64 b.To]::box V 35 (zC a x y z J)::aG 72 K a2 a3 a0::box r 28 o::L) l1:=(aD.arr 9 [4,5,6,7,8,0,1,2,3] a21 rfl)
          obtain ⟨o6,a24,hm⟩:=aB hm
          refine eE (vs:=[str c6.1,zS d8 l0.length d9]) (caps:=[cX a16 e0,cX a31 e1]) (us:=[str c6.1,zS d8 l0.length d9,cX a16 e0,cX a31 e1]) rfl call45 rfl rfl (oN (Kf:=e7) a24 a23 hG (zR _) a20 (o9.mono (zL (zL (zL (zL (zL e g) j) m) u) d5)) (p0.mono (zL (zL (zL (zL (zL e g) j) m) u) d5)) (p1.mono (zL (zL (zL (zL (zL e g) j) m) u) d5)) (p2.mono (zL (zL (zL (zL (zL e g) j) m) u) d5)) (p3.mono (zL (zL (zL (zL (zL e g) j) m) u) d5)) (p4.mono (zL (zL (zL (zL (zL e g) j) m) u) d5)) (p5.mono (zL (zL (zL (zL (zL e g) j) m) u) d5))) ?_
          rintro _ b11 ⟨a26,a27,a29,a30,rfl,a32⟩
          exact aR (dI (aC ⟨cE,e7,o6.1,o6.2.1,o6.2.2,a26,a27,a29,a30,d5,hm,(aD.arr 9 [2,0,7,5,8,1,3,4] a32 rfl)⟩))
         ·exact bJ o1 rfl (bD (dI (aC ⟨cE,c0,a6,c4,a8,b0,b1,b2,b3,(zR _),hm,(aD.arr 7 [6,4,1,2,3,5] o0 rfl)⟩)))
        ·refine bJ t1 rfl (aBx (kP (kP ?_)))
         have a33:=hr _ (zI hm).symm
         subst a33
         have hm:(vK g3 a6 c4 a8)=some n1:=ho
         clear hr ho
         exact vV (aC ⟨cE,c0,a6,c4,a8,b0,b1,b2,b3,u,hm,(aD.arr 6 [5,3,1,4] t0 rfl)⟩)
      ·refine bJ s3 rfl (aBx (kP (kP ?_)))
       have a34:=hr _ (zI hm).symm
       subst a34
       have hm:(qI f8 g4 j6 g5)=some m6:=ho
       clear hr ho
       exact vV (aC ⟨cE,d0,g4,j6,g5,g6,g7,g8,g9,m,hm,(aD.arr 7 [2,0,1,3,4,5] s2 rfl)⟩)
    ·refine bJ r4 rfl (aBx (kP (kP ?_)))
     have a35:=hr _ (zI hm).symm
     subst a35
     have hm:(vH c1 b4 d6 b5)=some l9:=ho
     clear hr ho
     exact vV (aC ⟨cE,c3,b4,d6,b5,b6,b7,b8,b9,g,hm,(aD.arr 7 [6,4,1,3,5] r3 rfl)⟩)
  ·refine bJ q5 rfl (aBx (kP (kP ?_)))
   have a37:=hr _ (zI hm).symm
   subst a37
   have hm:(aAT f0 h7 f1)=some R:=ho
   clear hr ho
   exact vV (aC ⟨cE,c9,f0,h7,f1,f2,f3,f4,f5,e,hm,(aD.arr 5 [4,2,3] u2 rfl)⟩)
theorem yK {s_:(List Int)} {d:(List (List Int))} {g:(List (aH × Int))} {c:Nat} {e:(List cO)} {n:Int} {o:Nat} {p:aO} {q k:Nat} {b:aO} {R:(Bool × (List (List Int)) × (List (aH × Int)) × (List cO))} (hm:rD s_ d g e n p b=some R) (hs:aD G K (aG 29 Kf a6 c7 d::kV c g::aG 129 K a9 c10 e::box b5 127 [zS a6 d.length c7,zM (some c),zS a9 e.length c10,Value.func (.func 41) #[] #[]]::box b4 123 [zP (some ⟨b5,0,none⟩)]::L) w) (J:G.lo=0) (V:Hp.le Kf K) (h3:bE K a1 c2 s_) (a2:fK K a11 o [i64 n]) (d2:fK K a14 q [zS a17 p.Parts.length c18,zS a20 p.Meetings.length c21,zS a23 p.Allowed.length c24,zS a26 p.Hidden.length c27]) (a3:bE K a17 c18 p.Parts) (a4:bE K a20 c21 p.Meetings) (a5:bE K a23 c24 p.Allowed) (a7:bE K a26 c27 p.Hidden) (a8:fK K a29 k [Value.func (.func 19) #[zA #[zS a32 b.Parts.length c33,zS a35 b.Meetings.length c36,zS a38 b.Allowed.length c39,zS a41 b.Hidden.length c42]] #[]]) (b0:bE K a32 c33 b.Parts) (b1:bE K a35 c36 b.Meetings) (b2:bE K a38 c39 b.Allowed) (b3:bE K a41 c42 b.Hidden):
  Calls prog 43 ([zS a1 s_.length c2,Value.func (.func 84) #[] #[zP (some ⟨b4,0,none⟩),cX a11 o],cX a14 q,cX a29 k]:List Value).toArray w (eQ fun v w'=>∃ l r t u x,v=zB R.1/\Hp.le K l/\aD G l (aG 29 l r t R.2.1::kV c R.2.2.1::aG 129 K u x R.2.2.2::box b5 127 [zS r R.2.1.length t,zM (some c),zS u R.2.2.2.length x,Value.func (.func 41) #[] #[]]::box b4 123 [zP (some ⟨b5,0,none⟩)]::L) w'):=by
 let y:=[zS a6 d.length c7,zM (some c),zS a9 e.length c10,Value.func (.func 41) #[] #[]]
 refine aFe func43 ?_;unfold rD at hm
 refine aCk ?_;refine aKb fun b6 z b7=>?_
 iterate 7 refine aFl ?_
 refine aF (eV (vs:=[cX a29 k,zP (some ⟨b6,0,none⟩)]) rfl) ?_;obtain ⟨j,a,b8,m,_⟩:=aD.lendBp b7 .head
 replace m:aD G j (aG 29 Kf a6 c7 d::kV c g::aG 129 K a9 c10 e::box b5 127 y::box b4 123 [zP (some ⟨b5,0,none⟩)]::L) z:=m
 have b9:aD G j (aG 29 j a6 c7 d::kV c g::aG 129 K a9 c10 e::box b5 127 y::box b4 123 [zP (some ⟨b5,0,none⟩)]::L) z:=aD.weak (i:=0) m rfl (fun _ h=>aG.mono (zL V a) h)
 obtain ⟨d3,c0,hm⟩:=aB hm
 refine aED call44 (aCY (Kf:=j) c0 b9 J (zR _) (a3.mono a) (a4.mono a) (a5.mono a) (a7.mono a) (h3.mono a) (a8.mono a) (b0.mono a) (b1.mono a) (b2.mono a) (b3.mono a) b8 (a2.mono a)) ?_
 rintro _ d4 ⟨c1,c3,c4,c5,c6,rfl,c8,c9⟩
 refine aCk ?_;obtain rfl:=zI hm
 exact aMD results43 ⟨c1,c3,c4,c5,c6,rfl,(zL a c8),c9⟩
theorem aAE {d1:(List Int)} {m:aO} {k5 c7:Nat} {n:aO} {R:(bA × (List (List Int)) × Bool)} (hm:pM d1 m n=some R) (hs:aD G K (L) w) (hG:G.lo=0) (h3:bE K a1 c2 d1) (h6:fK K a4 k5 [zS a7 m.Parts.length c8,zS a10 m.Meetings.length c11,zS a13 m.Allowed.length c14,zS a16 m.Hidden.length c17]) (h9:bE K a7 c8 m.Parts) (h1:bE K a10 c11 m.Meetings) (h2:bE K a13 c14 m.Allowed) (h4:bE K a16 c17 m.Hidden) (h5:fK K a19 c7 [Value.func (.func 19) #[zA #[zS a22 n.Parts.length c23,zS a25 n.Meetings.length c26,zS a28 n.Allowed.length c29,zS a31 n.Hidden.length c32]] #[]]) (h7:bE K a22 c23 n.Parts) (h8:bE K a25 c26 n.Meetings) (i0:bE K a28 c29 n.Allowed) (i1:bE K a31 c32 n.Hidden):
  Calls prog 40 ([zS a1 d1.length c2,Value.func (.func 41) #[] #[],Value.func (.func 43) #[] #[cX a4 k5,cX a19 c7]]:List Value).toArray w (eQ fun v w'=>∃ K' f0 f1 f2 f3 f4 f5,v=zT #[zA (zCa R.1 f0 f1 f2 f3),zS f4 R.2.1.length f5,zB R.2.2]/\Hp.le K K'/\aD G K' (aG 9 K f0 f1 R.1.L::aG 72 K f2 f3 R.1.E::aG 29 K' f4 f5 R.2.1::L) w'):=by
 let o:=zG
 refine aFe func40 ?_;unfold pM at hm
 refine aCk ?_;refine aFm fun p r7 i2=>?_
 refine aCk ?_;refine aLu aH Int i2 ?_
 intro a i3 (r8:aD G K (kV a ([]:(List (aH × Int)))::box p 35 o::L) i3)
 iterate 1 refine aFl ?_
 refine aF (jU (vs:=[(1,zM (some a)),(3,Value.func (.func 41) #[] #[])]) (cs:=[zS none 0 0,zM (some a),zS none 0 0,Value.func (.func 41) #[] #[]]) bs_127 rfl (by kernel_rfl)) (aKb fun b r9 s0=>?_);refine aFm fun d s1 s2=>?_
 refine aJz fun i4 i5=>?_;refine aCk ?_
 have i6:=aD.nil (α:=(List Int)) i5 29 K
 have s3:=aD.nil (α:=cO) i6 129 K
 have i7:aD G K (aG 29 K none 0 ([]:List (List Int))::kV a ([]:(List (aH × Int)))::aG 129 K none 0 ([]:List cO)::box b 127 [zS none 0 0,zM (some a),zS none 0 0,Value.func (.func 41) #[] #[]]::box d 123 [zP (some ⟨b,0,none⟩)]::box p 35 o::L) i4:=aKa
 obtain ⟨s4,i8,hm⟩:=aB hm
 refine aED call83 (gO (Kf:=K) i8 i7 hG (zR _) h3) ?_
 rintro _ s5 ⟨s6,s7,rfl,s8⟩
 refine aCk ?_;refine aFm fun s9 t0 t1=>?_
 refine aJz fun t2 i9=>?_;refine aCk ?_
 refine aU [6,9] (fun f w=>∃ a8 a2 c9 a9 b4 b5 b6 b7,Hp.le K a8/\mP a2 c9 a9=some R/\aD G a8 (aG 129 K b6 b7 a9::aG 29 a8 b4 b5 a2::kV a c9::box b 127 [zS b4 a2.length b5,zM (some a),zS b6 a9.length b7,Value.func (.func 41) #[] #[]]::box d 123 [zP (some ⟨b,0,none⟩)]::box p 35 o::L) w) ?_ ?_
 ·rintro f t3 ⟨a8,a2,c9,a9,b4,b5,b6,b7,k,hm,j0⟩
  unfold mP at hm
  refine aCk ?_;refine cI [6,9] (fun f w=>∃ b0 b1 a3 a5 d4 b8 b9 c0 c1,pQ a2 b0 b1 a3 a5=some R/\f 12=zP (some ⟨d4,0,none⟩)/\aD G a8 (aG 72 K c0 c1 a5::aG 9 K b8 b9 a3::box d4 35 [i64 b0,i64 b1,zS b8 a3.length b9,zS c0 a5.length c1]::aG 129 K b6 b7 a9::aG 29 a8 b4 b5 a2::kV a c9::box b 127 [zS b4 a2.length b5,zM (some a),zS b6 a9.length b7,Value.func (.func 41) #[] #[]]::box d 123 [zP (some ⟨b,0,none⟩)]::box p 35 o::L) w) ?_ ?_
  ·rintro f t4 ⟨b0,b1,a3,a5,d4,b8,b9,c0,c1,hm,f6,j1⟩
   unfold pQ at hm
   refine aCk ?_;obtain ⟨t5,f7,f8,j2,t6⟩:=aD.lendBp j1 zt2
   obtain ⟨t7,d0,j3,j4,t8⟩:=aD.lendBp j2 zt5
   obtain ⟨t9,c3,j5,u0,u1⟩:=aD.lendBp j4 zt5
   refine aKg [(0,0),(1,0),(2,0),(3,0),(4,0),(5,1),(6,1),(7,1),(8,2),(9,2)] fun u2 q=>?_;refine bB rfl (fun _ ⟨_,q⟩=>eD (t:=0) (vs:=[i64 b0,i64 b1,zS b8 a3.length b9,zS c0 a5.length c1]) eW q (f8.mono (zL d0 c3)) f6 rfl rfl) (bB rfl (fun _ ⟨_,q⟩=>bG (t:=0) wX q j5 rfl rfl) (bB rfl (fun _ _=>pB rfl) (bB rfl (fun _ _=>aV (t':=0) vZ rfl rfl) (bB rfl (fun _ ⟨_,q⟩=>bG (t:=0) aFu q (j3.mono c3) rfl rfl) (jZ rfl (aF (eD (t:=0) (vs:=[i64 b0,i64 b1,zS b8 a3.length b9,zS c0 a5.length c1]) eW q (f8.mono (zL d0 c3)) f6 rfl rfl) (aR (aC ⟨⟨_,q⟩,?_⟩))))))))
   refine jZ rfl ?_;obtain ⟨u3,j6,j7,j8,j9⟩:=aD.lendSp q (zL (zL (zL k f7) d0) c3) zt1
   obtain ⟨u4,k0,k1,k2,k3⟩:=aD.lendSp j8 (zL (zL (zL (zL k f7) d0) c3) j6) .head
   obtain ⟨u5,k4,hm⟩:=aB hm
   refine aED call37 (aDn (t:=⟨b0,b1,a3,a5⟩) k4 k2 hG (j7.mono k0) k1) ?_
   rintro _ u6 ⟨rfl,k6⟩
   have k7:=k3 _ _ k6
   have u7:=j9 _ _ k7
   exact aP
  obtain ⟨u8,V,d5,k8,d6⟩:=aD.lendBp j0 zt3
  obtain ⟨k9,e,u9,l0,d7⟩:=aD.lendBp k8 zt3
  refine pY (C:=fun w'=>∃ L',aD G k9 L' w') [16] Tryz_mixed (by kernel_rfl) (fun v0 l1=>?_)
  have l:=aD.mono l0 l1
  refine aGy 0 ?_;refine aGy 1 ?_
  refine aGy 2 ?_;refine dH (i:=3) rfl (by kernel_rfl) ⟨_,l⟩ (fun _ ⟨_,l⟩=>bG (t:=0) aFu l (d5.mono e) rfl rfl) (aGy 4 ?_)
  refine aGy 5 ?_;refine aGy 6 ?_
  refine aGy 7 ?_;refine dH (i:=8) rfl (by kernel_rfl) ⟨_,l⟩ (fun _ ⟨_,l⟩=>bG (t:=2) aGR l (d5.mono e) rfl rfl) (aGy 10 ?_)
  refine aGy 11 ?_;refine aGy 12 ?_
  refine dH (i:=13) rfl (by kernel_rfl) ⟨_,l⟩ (fun _ ⟨_,l⟩=>bG (t:=2) aGR l (d5.mono e) rfl rfl) (oT (i:=9) (j:=15) (by kernel_rfl) rfl rfl ?_ ?_)
  ·obtain ⟨v1,v2,l2,l3,l4⟩:=aD.lendSp l (zL (zL k V) e) .head
   obtain ⟨v3,l5,hm⟩:=aB hm
   refine aED call86 (wH l5 l3 l2) ?_
   rintro _ v4 ⟨v5,v6,rfl,l6⟩
   have f9:=l4 _ _ l6
   refine aR (aC ⟨fun _=>⟨_,f9⟩,?_⟩)
   refine oT (i:=14) (j:=15) (by kernel_rfl) rfl rfl ?_ ?_
   ·obtain ⟨v7,l7,l8,l9,m0⟩:=aD.lendSp f9 (zL (zL k V) e) zt1
    obtain ⟨v8,m1,m2,m3,m4⟩:=aD.lendSp l9 (zL (zL (zL k V) e) l7) .head
    obtain ⟨v9,m5,hm⟩:=aB hm
    refine aED call85 (aAX m5 m3 (l8.mono m1) m2) ?_
    rintro _ w0 ⟨w1,w2,w3,w4,rfl,m6⟩
    have m7:=m4 _ _ m6
    have m8:=m0 _ _ m7
    refine aR (aC ⟨fun _=>⟨_,m8⟩,?_⟩)
    refine bI (i:=15) (by kernel_rfl) rfl (aFm fun w5 w6 g0=>?_);refine aR (aC ⟨fun _=>⟨_,g0⟩,?_⟩)
    refine bI (i:=16) (by kernel_rfl) rfl ?_
    have m9:=d7 _ _ g0
    have w7:=d6 _ _ m9
    refine aJz fun w8 w9=>?_;refine aR (aC ⟨aCe rfl,?_⟩)
    exact iC (by kernel_rfl) aP
   ·refine aFm fun x0 x1 g1=>?_;refine aR (aC ⟨fun _=>⟨_,g1⟩,?_⟩)
    refine bI (i:=14) (by kernel_rfl) rfl ?_;obtain ⟨x2,n0,n1,n2,n3⟩:=aD.lendSp g1 (zL (zL k V) e) zt2
    obtain ⟨x3,n4,n5,n6,n7⟩:=aD.lendSp n2 (zL (zL (zL k V) e) n0) zt1
    obtain ⟨x4,n8,hm⟩:=aB hm
    refine aED call85 (aAX n8 n6 (n1.mono n4) n5) ?_
    rintro _ x5 ⟨x6,x7,x8,x9,rfl,n9⟩
    have o0:=n7 _ _ n9
    have g2:=n3 _ _ o0
    refine aR (aC ⟨fun _=>⟨_,g2⟩,?_⟩)
    refine bI (i:=16) (by kernel_rfl) rfl ?_
    have o1:=d7 _ _ g2
    have y0:=d6 _ _ o1
    refine aJz fun y1 y2=>?_;refine aR (aC ⟨aCe rfl,?_⟩)
    exact iC (by kernel_rfl) aP
  ·refine aFm fun y3 y4 g3=>?_;refine aR (aC ⟨fun _=>⟨_,g3⟩,?_⟩)
   refine bI (i:=9) (by kernel_rfl) rfl ?_;obtain ⟨y5,y6,o2,o3,o4⟩:=aD.lendSp g3 (zL (zL k V) e) zt1
   obtain ⟨y7,o5,hm⟩:=aB hm
   refine aED call86 (wH o5 o3 o2) ?_
   rintro _ y8 ⟨y9,z0,rfl,o6⟩
   have g4:=o4 _ _ o6
   refine aR (aC ⟨fun _=>⟨_,g4⟩,?_⟩)
   refine bI (i:=14) (by kernel_rfl) rfl ?_;obtain ⟨z1,o7,o8,o9,p0⟩:=aD.lendSp g4 (zL (zL k V) e) zt1
   obtain ⟨z2,p1,p2,p3,p4⟩:=aD.lendSp o9 (zL (zL (zL k V) e) o7) .head
   obtain ⟨z3,p5,hm⟩:=aB hm
   refine aED call85 (aAX p5 p3 (o8.mono p1) p2) ?_
   rintro _ z4 ⟨z5,z6,z7,z8,rfl,p6⟩
   have p7:=p4 _ _ p6
   have g5:=p0 _ _ p7
   refine aR (aC ⟨fun _=>⟨_,g5⟩,?_⟩)
   refine bI (i:=16) (by kernel_rfl) rfl ?_
   have p8:=d7 _ _ g5
   have z9:=d6 _ _ p8
   refine aJz fun a00 a01=>?_;refine aR (aC ⟨aCe rfl,?_⟩)
   exact iC (by kernel_rfl) aP
 have a02:=aD.nil (α:=cO) i9 129 K
 obtain ⟨a03,p9,ho⟩:=aB hm
 refine rZ [2,6,9] p9 (fun r c4 u d8 f w=>∃ c5 x y z J b2,Hp.le K c5/\f 10=zP (some ⟨b2,0,none⟩)/\aD G c5 (aG 129 K z J u::box b2 3 [i64 d8]::aG 29 c5 x y r::kV a c4::box b 127 [zS x r.length y,zM (some a),zS z u.length J,Value.func (.func 41) #[] #[]]::box d 123 [zP (some ⟨b,0,none⟩)]::box p 35 o::L) w) aP ?_
 ·rintro r c4 u d8 q0 f a04 hm hr ⟨c5,x,y,z,J,b2,g,q1,a05⟩
  unfold dY at hm
  refine aCk ?_;refine aME ?_
  refine aCk ?_;refine aAf (fun q2 q3=>(aCk ?_))
  rcases aS hm with ⟨q4,hm⟩|⟨q4,hm⟩
  ·refine aCk ?_;refine dE (aCk ?_)
   obtain ⟨a6,c,q5,d9,_⟩:=aD.lendBp q3 zt1
   replace d9:aD G a6 (aG 129 K z J u::aG 29 c5 x y r::kV a c4::box b 127 [zS x r.length y,zM (some a),zS z u.length J,Value.func (.func 41) #[] #[]]::box d 123 [zP (some ⟨b,0,none⟩)]::box p 35 o::L) q2:=d9
   refine pY (C:=fun w'=>∃ L',aD G a6 L' w') [] Tryz_mixed (by kernel_rfl) (fun g6 q6=>?_)
   have a0:=aD.mono d9 q6
   refine aGy 0 ?_;refine aGy 5 ?_
   refine dH (i:=8) rfl (by kernel_rfl) ⟨_,a0⟩ (fun _ _=>eV (vs:=[zP (some ⟨d,0,none⟩),cX (some ⟨b2,0,none⟩) 0]) (lst2 rfl (aCK q1))) (bI (i:=1) (by kernel_rfl) rfl ?_)
   iterate 1 refine aFl ?_
   refine aR (aC ⟨fun _=>⟨_,a0⟩,?_⟩)
   refine aGy 2 ?_;refine aGy 3 ?_
   refine bI (i:=4) (by kernel_rfl) rfl ?_
   iterate 1 refine aFl ?_
   refine aR (aC ⟨fun _=>⟨_,a0⟩,?_⟩)
   obtain ⟨e0,e1,hm⟩:=aB hm
   have q7:=dJ a0 (i:=1) rfl e1
   refine dH (i:=6) rfl (by kernel_rfl) ⟨_,a0⟩ (fun _ _=>fI iG rfl q7 rfl rfl rfl e1) (bI (i:=7) (by kernel_rfl) rfl ?_);obtain ⟨a06,q8,q9⟩:=aNT (sz:=1) rfl a0 (i:=1) rfl e1
   obtain ⟨e2,e3,rfl,r0⟩:=q9
   refine aF (R_ldC (t:=0) (v:=zS e2 e0.length e3) tV q8 rfl rfl) (aR (aC ⟨fun _=>⟨_,a0⟩,?_⟩))
   refine bI (i:=9) (by kernel_rfl) rfl ?_
   have a07:aD G a6 (aG 129 K z J u::aG 29 a6 x y r::kV a c4::box b 127 [zS x r.length y,zM (some a),zS z u.length J,Value.func (.func 41) #[] #[]]::box d 123 [zP (some ⟨b,0,none⟩)]::box p 35 o::L) g6:=aD.weak (i:=1) a0 rfl (fun _ h=>aG.mono c h)
   have r1:aD G a6 (aG 29 a6 x y r::kV a c4::aG 129 K z J u::box b 127 [zS x r.length y,zM (some a),zS z u.length J,Value.func (.func 41) #[] #[]]::box d 123 [zP (some ⟨b,0,none⟩)]::box p 35 o::L) g6:=aKa
   obtain ⟨b3,r2,hm⟩:=aB hm
   refine eE (vs:=[zS e2 e0.length e3,Value.func (.func 84) #[] #[zP (some ⟨d,0,none⟩),cX (some ⟨b2,0,none⟩) 0]]) (caps:=[cX a4 k5,cX a19 c7]) (us:=[zS e2 e0.length e3,Value.func (.func 84) #[] #[zP (some ⟨d,0,none⟩),cX (some ⟨b2,0,none⟩) 0],cX a4 k5,cX a19 c7]) rfl call43 rfl rfl (yK (Kf:=a6) r2 r1 hG (zR _) (r0.mono c) q5 (h6.mono (zL g c)) (h9.mono (zL g c)) (h1.mono (zL g c)) (h2.mono (zL g c)) (h4.mono (zL g c)) (h5.mono (zL g c)) (h7.mono (zL g c)) (h8.mono (zL g c)) (i0.mono (zL g c)) (i1.mono (zL g c))) ?_
   rintro _ a08 ⟨e4,e5,e6,e7,e8,rfl,g7,r3⟩
   refine aR (aC ⟨fun _=>⟨_,(aD.weakK r3 g7)⟩,?_⟩)
   refine aGy 10 ?_;refine iC (by kernel_rfl) ?_
   iterate 2 refine aFl ?_
   refine cI [2,6,9,10] (fun f w=>∃ e9,mQ d8 b3 e9=some q0/\f 48=zB e9/\aD G e4 (aG 29 e4 e5 e6 b3.2.1::kV a b3.2.2.1::aG 129 K e7 e8 b3.2.2.2::box b 127 [zS e5 b3.2.1.length e6,zM (some a),zS e7 b3.2.2.2.length e8,Value.func (.func 41) #[] #[]]::box d 123 [zP (some ⟨b,0,none⟩)]::box p 35 o::L) w) ?_ ?_
   ·rintro f a09 ⟨e9,hm,a11,a12⟩
    unfold mQ at hm
    refine aCk ?_
    rcases aS hm with ⟨r4,hm⟩|⟨r4,hm⟩
    ·exact aP
    ·refine aCk ?_;refine aFm fun r5 a14 a15=>?_
     refine aJz fun a17 a18=>?_;refine aCk ?_
     refine aJz fun a20 a21=>?_;refine aCk ?_
     exact ⟨_,(zI hm).symm,cE,e4,e5,e6,e7,e8,r5,(zL (zL g c) g7),rfl,aKa⟩
   exact aP
  ·exact aP
theorem aBl {n c:aO} {R:(bA × (List (List Int)) × Bool)} (hm:qJ n c=some R) (hs:aD G K (L) w) (hG:G.lo=0) (h3:bE K a1 c2 n.Parts) (h6:bE K a4 c5 n.Meetings) (h9:bE K a7 c8 n.Allowed) (f5:bE K a10 c11 n.Hidden) (f6:bE K a13 c14 c.Parts) (f7:bE K a16 c17 c.Meetings) (f8:bE K a19 c20 c.Allowed) (f9:bE K a22 c23 c.Hidden):
  Calls prog 18 ([zA #[zS a1 n.Parts.length c2,zS a4 n.Meetings.length c5,zS a7 n.Allowed.length c8,zS a10 n.Hidden.length c11],Value.func (.func 19) #[zA #[zS a13 c.Parts.length c14,zS a16 c.Meetings.length c17,zS a19 c.Allowed.length c20,zS a22 c.Hidden.length c23]] #[]]:List Value).toArray w (eQ fun v w'=>∃ K' d0 d1 d2 d3 d4 d5,v=zT #[zA (zCa R.1 d0 d1 d2 d3),zS d4 R.2.1.length d5,zB R.2.2]/\Hp.le K K'/\aD G K' (aG 9 K d0 d1 R.1.L::aG 72 K d2 d3 R.1.E::aG 29 K' d4 d5 R.2.1::L) w'):=by
 let V:=[Value.func (.func 19) #[zA #[zS a13 c.Parts.length c14,zS a16 c.Meetings.length c17,zS a19 c.Allowed.length c20,zS a22 c.Hidden.length c23]] #[]]
 let j:=zG
 let b9:=[zS a1 n.Parts.length c2,zS a4 n.Meetings.length c5,zS a7 n.Allowed.length c8,zS a10 n.Hidden.length c11]
 refine aFe func18 ?_;unfold qJ at hm
 refine aCk ?_;refine aKb fun a0 m1 m2=>?_
 refine aKb fun z m3 m4=>?_;refine aFm fun k m5 g0=>?_
 refine aCk ?_;refine aU [2,3,4] (fun f w=>∃ a2 c0 c1,rF n c a2=some R/\f 7=zS c0 a2.length c1/\aD G K (aG 2 K c0 c1 a2::box k 35 j::box z 55 V::box a0 28 b9::L) w) ?_ ?_
 ·rintro f c3 ⟨a2,c0,c1,hm,m6,g1⟩
  unfold rF at hm
  iterate 4 refine aFl ?_
  refine aF (eV (vs:=[zP (some ⟨a0,0,none⟩),zP (some ⟨z,0,none⟩)]) rfl) ?_;obtain ⟨g2,g,g3,c4⟩:=aD.giveSp g1 (zR _) .head
  replace c4:aD G g2 (box k 35 j::box z 55 V::box a0 28 b9::L) c3:=c4
  obtain ⟨g4,e,g5,c6,_⟩:=aD.lendBp c4 zt2
  replace c6:aD G g4 (box k 35 j::box z 55 V::L) c3:=c6
  obtain ⟨g6,d,g7,c7,_⟩:=aD.lendBp c6 zt1
  replace c7:aD G g6 (box k 35 j::L) c3:=c7
  obtain ⟨a,g8,hm⟩:=aB hm
  refine aED call40 (aAE g8 c7 hG (g3.mono (zL e d)) (g5.mono d) (h3.mono (zL (zL g e) d)) (h6.mono (zL (zL g e) d)) (h9.mono (zL (zL g e) d)) (f5.mono (zL (zL g e) d)) g7 (f6.mono (zL (zL g e) d)) (f7.mono (zL (zL g e) d)) (f8.mono (zL (zL g e) d)) (f9.mono (zL (zL g e) d))) ?_
  rintro _ m7 ⟨b,l,m,o,p,x,y,rfl,a3,m8⟩
  refine aCk ?_;refine aFm fun a5 m9 n0=>?_
  refine aFm fun a6 n1 n2=>?_;refine aJz fun n3 n4=>?_
  refine aJz fun n5 g9=>?_;refine aCk ?_
  rcases aS hm with ⟨h0,hm⟩|⟨h0,hm⟩
  ·exact aP
  ·refine aCk ?_;obtain ⟨n6,h1,hm⟩:=aB hm
   refine aED call46 (aCW h1 g9) ?_
   rintro _ n7 ⟨q,r,rfl,h2⟩
   iterate 6 refine aFl ?_
   refine aF (eV (vs:=[zP (some ⟨a6,0,none⟩)]) rfl) ?_;obtain ⟨n8,n9,h4,h5,h7⟩:=aD.lendSp h2 (zR _) zt5
   obtain ⟨o0,h8,i0,i1,i2⟩:=aD.lendBp h5 zt1
   obtain ⟨u,i3,hm⟩:=aB hm
   refine aED call47 (lib_SortIdx i1 i0 (h4.mono h8) i3) ?_
   rintro _ o1 ⟨rfl,d6,i4⟩
   have i5:=i2 _ _ i4
   have i6:=h7 _ _ i5
   iterate 10 refine aFl ?_
   refine bH (v:=zS q u.length r) (Eq.trans rfl (congrArg (fun n=>zS q n r) d6)) (aCk ?_);refine aU [4,10,13] (fun f w=>∃ a8 a9 b0,rE a u a8=some R/\f 14=zS a9 a8.length b0/\aD G b (aG 29 b a9 b0 a8::aG 2 K q r u::box a5 35 (zC a.1 l m o p)::aG 9 K l m a.1.L::aG 72 K o p a.1.E::box k 35 j::L) w) ?_ ?_
   ·rintro f o2 ⟨a8,a9,b0,hm,o3,i7⟩
    unfold rE at hm
    iterate 4 refine aFl ?_
    refine bH (v:=zS q u.length r) (Eq.trans rfl (congrArg (fun n=>zS q n r) d6)) ?_;obtain ⟨o4,d7,i8,i9,j0⟩:=aD.lendSp i7 (zL (zL (zL g e) d) a3) zt3
    obtain ⟨o5,d8,j1,j2,j3⟩:=aD.lendSp i9 (zL (zL (zL (zL g e) d) a3) d7) zt3
    obtain ⟨o6,d9,j4,j5,j6⟩:=aD.lendSp j2 (zL (zL (zL (zL (zL g e) d) a3) d7) d8) zt1
    obtain ⟨b1,j7,hm⟩:=aB hm
    refine aED call50 (rW j7 j5 (i8.mono (zL d8 d9)) (j1.mono d9) j4) ?_
    rintro _ o7 ⟨e0,e1,e2,e3,rfl,j8⟩
    have j9:=j6 _ _ j8
    have k0:=j3 _ _ j9
    have o8:=j0 _ _ k0
    refine aCk ?_;refine aJz fun o9 k1=>?_
    refine aCk ?_;obtain rfl:=zI hm
    exact nY (aKK results18 (aCJ (vs:=(zC b1 e0 e1 e2 e3)) rfl eW k1 (i:=7) rfl rfl rfl) (aFg rfl rfl) (aFg rfl rfl) ⟨b,e0,e1,e2,e3,a9,b0,rfl,(zL (zL (zL g e) d) a3),aKa⟩)
   have p0:=aD.nil (α:=(List Int)) i6 29 b
   obtain ⟨p1,k3,ho⟩:=aB hm
   refine cQ [4,10,11,13,46,47] k3 (fun b2 e4 f w=>∃ b3 b4,f 14=zS b3 b2.length b4/\f 48=i64 e4/\aD G b (aG 29 b b3 b4 b2::aG 29 b x y a.2.1::box a6 36 [zS x a.2.1.length y]::aG 2 K q r u::box a5 35 (zC a.1 l m o p)::aG 9 K l m a.1.L::aG 72 K o p a.1.E::box k 35 j::L) w) aP ?_
   ·rintro b2 e4 p2 f p3 hm hr ⟨b3,b4,p4,k4,b5⟩
    unfold lE at hm
    refine aCk ?_
    rcases aS hm with ⟨k5,hm⟩|⟨k5,hm⟩
    ·refine aCk ?_;refine dE (aCk ?_)
     obtain ⟨p5,e5,hm⟩:=aB hm
     have k6:=dJ b5 (i:=3) rfl e5
     refine aF (fI bR rfl k6 rfl rfl k4 e5) (aCk ?_);obtain ⟨J,c9,hm⟩:=aB hm
     have k7:=dJ b5 (i:=1) rfl c9
     refine aF (fI iG rfl k7 rfl rfl rfl c9) ?_;obtain ⟨p6,k8,k9⟩:=aNT (sz:=1) rfl b5 (i:=1) rfl c9
     obtain ⟨b6,b7,rfl,l0⟩:=k9
     refine aF (R_ldC (t:=0) (v:=zS b6 J.length b7) tV k8 rfl rfl) (cZ (Kt:=b) (xs:=([J]:List (List Int))) (cs:=[zS b6 J.length b7]) (vs:=[(0,zS b6 J.length b7)]) iG aAb rfl rfl b5 rfl (by kernel_rfl) rfl rfl rfl ⟨⟨b6,b7,rfl,l0⟩,trivial⟩ (fun l1 l2 (l3:aD G b (aG 29 b l1 1 ([J]:List (List Int))::aG 29 b b3 b4 b2::aG 29 b x y a.2.1::box a6 36 [zS x a.2.1.length y]::aG 2 K q r u::box a5 35 (zC a.1 l m o p)::aG 9 K l m a.1.L::aG 72 K o p a.1.E::box k 35 j::L) l2)=>?_))
     obtain ⟨l4,l5,hm⟩:=aB hm
     refine aIQ (i:=0) b iG underlying36 aAb rfl rfl l3 rfl (zR _) (zR _) l5 rfl rfl rfl rfl (fun _ _ _ h=>El.one h) (fun e6 e7 l6 (l7:aD G b (aG 29 b e6 e7 l4::aG 29 b x y a.2.1::box a6 36 [zS x a.2.1.length y]::aG 2 K q r u::box a5 35 (zC a.1 l m o p)::aG 9 K l m a.1.L::aG 72 K o p a.1.E::box k 35 j::L) l6)=>(aCk ?_));exact ⟨_,(zI hm).symm,cE,e6,e7,rfl,rfl,l7⟩
    ·exact aP
 have p7:=aD.nil (α:=Int) g0 2 K
 obtain ⟨p8,l8,ho⟩:=aB hm
 exact cQ [2,3,4,18,19] l8 (fun e8 l9 f w=>∃ e9 f0,f 7=zS e9 e8.length f0/\f 20=i64 l9/\aD G K (aG 2 K e9 f0 e8::box k 35 j::box z 55 V::box a0 28 b9::L) w) aP aP
theorem aCi {n:aO} {R:(bA × (List (List Int)) × Int)} (hm:qB n=some R) (u:aD G K (L) w) (g:G.lo=0) (a:bE K a1 c2 n.Parts) (b:bE K a4 c5 n.Meetings) (c:bE K a7 c8 n.Allowed) (d:bE K a10 c11 n.Hidden):
  Calls prog 7 ([zA #[zS a1 n.Parts.length c2,zS a4 n.Meetings.length c5,zS a7 n.Allowed.length c8,zS a10 n.Hidden.length c11]]:List Value).toArray w (eQ fun v w'=>∃ e h i j k l m,v=zT #[zA (zCa R.1 h i j k),zS l R.2.1.length m,i64 R.2.2]/\Hp.le K e/\aD G e (aG 9 K h i R.1.L::aG 72 K j k R.1.E::aG 29 e l m R.2.1::L) w'):=by
 refine aFe func7 ?_;unfold qB at hm
 refine aCk ?_;refine aKb fun x y z=>?_
 refine aFm fun J V o=>?_;refine aCk ?_
 obtain ⟨a0,p,hm⟩:=aB hm
 refine aED call17 (tQ p o g a b c d) ?_
 rintro _ a2 ⟨rfl,q⟩
 refine aCk ?_
 rcases aS hm with ⟨r,hm⟩|⟨r,hm⟩
 ·exact aP
 ·refine aCk ?_;refine aF (aKk (bs:=[zA #[zS a1 n.Parts.length c2,zS a4 n.Meetings.length c5,zS a7 n.Allowed.length c8,zS a10 n.Hidden.length c11]]) (vs:=[]) rfl rfl) ?_
  obtain ⟨a3,t,hm⟩:=aB hm
  exact aED call18 (aBl t q g a b c d a b c d) aP
theorem eC {s_ R:(List Int)} (hm:dK s_=some R) (hs:aD G K (aG 2 K a1 c2 s_::L) w):
  Calls prog 101 ([zS a1 s_.length c2]:List Value).toArray w (eQ fun v w'=>∃ r u,v=zS r R.length u/\aD G K (aG 2 K r u R::L) w'):=by
 refine aFe func101 ?_;unfold dK at hm
 refine aCk ?_
 rcases aS hm with ⟨c3,hm⟩|⟨c3,hm⟩
 ·exact aP
 ·refine aCk ?_;refine aU [0] (fun f w=>qK s_=some R/\aD G K (aG 2 K a1 c2 s_::L) w) aP ?_
  obtain ⟨e3,b5,ho⟩:=aB hm
  refine gI [0] b5 (fun b f w=>f 3=i64 b/\aD G K (aG 2 K a1 c2 s_::L) w) aP ?_
  ·rintro b x f e4 hm hr ⟨e5,l⟩
   unfold fW at hm
   refine aCk ?_
   rcases aS hm with ⟨b6,hm⟩|⟨b6,hm⟩
   ·refine aCk ?_;refine aU [0] (fun f w=>iW b=some x/\f 3=i64 b/\aD G K (aG 2 K a1 c2 s_::L) w) ?_ ?_
    ·rintro f e6 ⟨hm,e7,b7⟩
     unfold iW at hm
     refine aCk ?_;exact ⟨_,(zI hm).symm,cE,rfl,b7⟩
    refine aCk ?_;refine aME ?_
    refine aCk ?_;obtain ⟨e8,y,hm⟩:=aB hm
    have a:=dJ l (i:=0) rfl y
    refine cJ (fun _ l=>fI bR rfl a rfl rfl rfl y) (aCk ?_);obtain ⟨e9,b8,hm⟩:=aB hm
    refine cJ (fun _ l=>fI bR rfl a rfl rfl rfl b8) (aCk ?_);refine aAf (fun f0 b9=>(aCk ?_))
    rcases aS hm with ⟨c0,hm⟩|⟨c0,hm⟩
    ·refine aCk ?_;obtain ⟨f1,c,hm⟩:=aB hm
     have d:=oU b9 (i:=0) rfl
     obtain ⟨f2,f3,e⟩:=Cut.ex 1 a1 c2 b
     refine aF (aEf bR d e rfl rfl rfl c) (aCk ?_);refine aU [] (fun f w=>∃ g j,iX g j=some x/\f 0=zS a1 g.length c2/\f 3=i64 j/\aD G K (aG 2 K a1 c2 g::L) w) ?_ ?_
     ·rintro f f4 ⟨g,j,hm,c1,f5,z⟩
      unfold iX at hm
      refine aCk ?_;obtain ⟨f6,c4,hm⟩:=aB hm
      have c5:=oU z (i:=0) rfl
      obtain ⟨f7,f8,J⟩:=Cut.ex 1 a1 c2 j
      refine aF (aEf bR c5 J rfl rfl rfl c4) ?_;obtain ⟨V,a0,hm⟩:=aB hm
      refine aDU bR yY rfl z (i:=0) rfl J rfl rfl a0 (fun a2 (a3:aD G K (aG 2 K a1 c2 V::L) a2)=>?_)
      iterate 4 refine aFl ?_
      refine bH (v:=zS a1 V.length c2) (Eq.trans c1 (congrArg (fun n=>zS a1 n c2) (aEE a0))) (aCk ?_);obtain ⟨a4,a5,hm⟩:=aB hm
      have c6:=oU a3 (i:=0) rfl
      obtain ⟨c7,c8,a6⟩:=Cut.ex 1 a1 c2 0
      refine aF (aGP bR c6 a6 rfl rfl rfl a5) (aCk ?_);refine nY (aAm (nE (nE (nE ?_))))
      have c9:=hr _ (zI hm).symm
      subst c9
      have hm:(some a4)=some R:=ho
      clear hr ho
      have f9:aD G K (aG 2 K c7 c8 a4::L) a2:=aD.cutP a3 (i:=0) rfl a5 a6
      exact aP
     obtain ⟨g0,d0,ho⟩:=aB hm
     refine vX [4] d0 (fun m o p f w=>f 0=zS a1 m.length c2/\f 3=i64 o/\f 5=i64 p/\aD G K (aG 2 K a1 c2 m::L) w) aP ?_
     ·rintro m o p d1 f g1 hm hr ⟨d2,g2,g3,a7⟩
      unfold fV at hm
      refine aCk ?_
      rcases aS hm with ⟨d3,hm⟩|⟨d3,hm⟩
      ·refine aCk ?_;refine aU [4,5] (fun f w=>∃ k q,fU p k q=some d1/\f 0=zS a1 k.length c2/\f 3=i64 q/\aD G K (aG 2 K a1 c2 k::L) w) ?_ ?_
       ·rintro f g4 ⟨k,q,hm,d4,d5,d6⟩
        unfold fU at hm
        refine aCk ?_;exact ⟨_,(zI hm).symm,cE,d4,d5,rfl,d6⟩
       refine aCk ?_;refine aME ?_
       refine aCk ?_;obtain ⟨g5,a8,hm⟩:=aB hm
       obtain ⟨a9,d7,hm⟩:=aB hm
       refine cJ (fun _ a7=>aIY bR a e c d rfl rfl rfl a8 rfl) (aCk ?_);obtain ⟨g6,d8,hm⟩:=aB hm
       obtain ⟨g7,g8,hm⟩:=aB hm
       refine cJ (fun _ a7=>aIY bR a e c d rfl rfl rfl d8 rfl) (aCk ?_);refine aAf (fun g9 b0=>(aCk ?_))
       rcases aS hm with ⟨d9,hm⟩|⟨d9,hm⟩
       ·refine aCk ?_;refine aF (aIY bR a e c d rfl rfl rfl a8 rfl) (aF (qD (t:=0) eG b0 (i:=0) rfl d7 rfl rfl rfl) ?_)
        obtain ⟨h0,b1,hm⟩:=aB hm
        refine aF (fI bR rfl a rfl rfl rfl b1) ?_;obtain ⟨b2,b3,hm⟩:=aB hm
        refine pO (i:=0) (t:=0) (ns:=[i64 a9]) (e':=(a9:Int)) sizeOf2 b0 rfl (zR _) rfl rfl rfl b1 b3 rfl rfl (dM rfl) rfl (fun cs h=>by cases h;rfl) (fun e0 (e1:aD G K (aG 2 K a1 c2 b2::L) e0)=>(aCk ?_));exact ⟨cE,b2,wr (o+1),hm,(Eq.trans d2 (congrArg (fun n=>zS a1 n c2) (iS b3))),rfl,e1⟩
       ·exact aP
      ·exact aP
    ·exact aP
   ·exact aP
theorem aJL {a R:(List Int)} (hm:aES a=some R) (g:aD G K (L) w) (h:bE K a1 c2 a):
  Calls prog 54 ([zS a1 a.length c2]:List Value).toArray w (eQ fun v w'=>∃ b c,v=zS b R.length c/\aD G K (aG 2 K b c R::L) w'):=by
 refine aFe func54 ?_;unfold aES at hm
 refine aCk ?_;obtain ⟨q,i,hm⟩:=aB hm
 refine aED call70 (eK i g h) ?_
 rintro _ r ⟨d,e,rfl,j⟩
 refine aCk ?_;obtain ⟨k,l,hm⟩:=aB hm
 refine aED call100 (aBj j l) ?_
 rintro _ t ⟨rfl,m,o⟩
 iterate 4 refine aFl ?_
 refine bH (v:=zS d k.length e) (Eq.trans rfl (congrArg (fun n=>zS d n e) m)) ?_;obtain ⟨u,p,hm⟩:=aB hm
 exact aED call101 (eC p o) aP
end Gv
namespace Gv
open Gv.Hp renaming le_refl→zR
open Go.Value renaming slice→zS,bool→zB,pointer→zP,agg→zA
open Option.some renaming inj→zI
open Go Go.Proofs Go.Proofs.Tryz
set_option maxRecDepth 20000
set_option maxHeartbeats 40000000
variable {G:yU} {K Kf:Hp} {L:List jN} {w:World} {a1 a4 a7 a10 a13 a16 a19 a22 a25 a28:Option Addr} {c2 c5 c8 c11 c14 c17 c20 c23 c26 c29:Nat}
theorem aLI {a:(List Int)} {n:Int} {R:Bool} (hm:aFD a n=some R) (c:aD G K (L) w) (d:bE K a1 c2 a):
  Calls prog 20 ([zS a1 a.length c2,i64 n]:List Value).toArray w (eQ fun v w'=>v=zB R/\aD G K (L) w'):=by
 refine aFe func20 ?_;unfold aFD at hm
 iterate 6 refine aFl ?_
 exact cI [] (fun f w=>∃ b,aDN b=some R/\f 4=zB b/\aD G K (L) w) aP aP
theorem aEu {kind:Int} {R:Bool} (hm:sZ kind=some R) (a:aD G K (L) w):
  Calls prog 21 ([i64 kind]:List Value).toArray w (eQ fun v w'=>v=zB R/\aD G K (L) w'):=by
 exact aP
theorem gF {s_ R:(List bK)} (hm:cY s_=some R) (r:aD G K (L) w) (a:bE K a1 c2 s_):
  Calls prog 155 ([zS a1 s_.length c2]:List Value).toArray w (eQ fun v w'=>∃ b c,v=zS b R.length c/\aD G K (aG 69 K b c R::L) w'):=by
 refine aFe func155 ?_;unfold cY at hm
 iterate 9 refine aFl ?_
 refine aF (aJa aFt rfl rfl) (aCk ?_)
 rcases aHz a with ⟨g,h,j⟩|k
 ·subst g;subst h;subst j
  refine aIL rfl ?_
  replace hm:(some [])=some R:=hm
  exact aP
 ·refine aIM (Eq.trans rfl (congrArg zB k)) (aCk ?_);refine aKc ([]:List bK) fun t u l=>?_
  refine aCk ?_;obtain ⟨m,n,hm⟩:=aB hm
  refine aIl (i:=0) aFt underlying25 ez_69 rfl rfl l rfl (zR _) a n rfl rfl rfl rfl (fun d e o (p:aD G K (aG 69 K d e m::L) o)=>(aCk ?_));obtain rfl:=zI hm
  exact aMD results155 ⟨d,e,rfl,p⟩
theorem aHS {n:aO} {a:(List bA)} {b:List (Dp.Hd bA)} {R:aO} (hm:qL n a=some R) (y:aD G K (aG 35 K a13 c14 (aT b a)::rows [9,72] b a::L) w) (z:bE K a1 c2 n.Parts) (p:bE K a4 c5 n.Meetings) (q:bE K a7 c8 n.Allowed) (J:bE K a10 c11 n.Hidden) (V:List.length b=List.length a):
  Calls prog 111 ([zA #[zS a1 n.Parts.length c2,zS a4 n.Meetings.length c5,zS a7 n.Allowed.length c8,zS a10 n.Hidden.length c11],zS a13 a.length c14]:List Value).toArray w (eQ fun v w'=>∃ d e c g h i j k l,v=zA #[zS d R.Parts.length e,zS g R.Meetings.length h,zS i R.Allowed.length j,zS k R.Hidden.length l]/\List.length c=List.length R.Parts/\aD G K (aG 35 K d e (aT c R.Parts)::rows [9,72] c R.Parts::aG 69 K g h R.Meetings::aG 9 K i j R.Allowed::aG 9 K k l R.Hidden::L) w'):=by
 refine aFe func111 ?_;unfold qL at hm
 refine aCk ?_;refine aKb fun a0 a2 a3=>?_
 refine aFm fun a5 a6 r=>?_;refine aCk ?_
 obtain ⟨a8,m,a9,b0,b1⟩:=aD.lendBp r zt1
 refine aKg [(0,0),(1,0),(2,0),(4,0),(5,0),(7,0),(8,0),(3,1),(6,1),(9,1),(10,0),(11,2)] fun b2 t=>?_;refine aCk ?_
 refine jZ rfl ?_;obtain ⟨b3,u,hm⟩:=aB hm
 refine aED call155 (gF u t (p.mono m)) ?_
 rintro _ b4 ⟨b5,b6,rfl,o⟩
 refine aR (aC ⟨⟨_,o⟩,?_⟩)
 refine jZ rfl ?_;obtain ⟨b7,x,hm⟩:=aB hm
 exact aED call96 (cD x o (q.mono m)) aP
theorem aBm {m:bK} {p:aH} {a:Nat} {R:Bool} (hm:vL m p=some R) (c:aD G K (L) w) (d:fK K a1 a [str p]):
  Calls prog 153 ([zA #[str m.Left,str m.Right,str m.Result],cX a1 a]:List Value).toArray w (eQ fun v w'=>v=zB R/\aD G K (L) w'):=by
 refine aFe func153 ?_;unfold vL at hm
 refine aCk ?_;refine aKb fun e g h=>?_
 iterate 4 refine aFl ?_
 exact cI [] (fun f w=>∃ b,rG b=some R/\f 3=zB b/\aD G K (L) w) aP aP
theorem oR {s_:(List bK)} {c:aH} {b:Nat} {R:Int} (hm:dZ s_ c=some R) (n:aD G K (L) w) (e:bE K a1 c2 s_) (g:fK K a4 b [str c]):
  Calls prog 125 ([zS a1 s_.length c2,Value.func (.func 153) #[] #[cX a4 b]]:List Value).toArray w (eQ fun v w'=>v=i64 R/\aD G K (L) w'):=by
 refine aFe func125 ?_;unfold dZ at hm
 refine aCk ?_;refine aU [] (fun f w=>fC=some R/\aD G K (L) w) aP ?_
 obtain ⟨o,h,ho⟩:=aB hm
 refine gI [0,1,7] h (fun d f w=>f 8=i64 d/\aD G K (L) w) aP ?_
 ·rintro d p f q hm hr ⟨r,i⟩
  unfold cM at hm
  refine aCk ?_
  rcases aS hm with ⟨j,hm⟩|⟨j,hm⟩
  ·refine aCk ?_;refine dE (aCk ?_)
   obtain ⟨a,k,hm⟩:=aB hm
   refine aCk ?_;obtain ⟨t,u,l⟩:=bE.el (sz:=3) rfl e k
   cases l
   refine aCk ?_;obtain ⟨x,m,hm⟩:=aB hm
   exact eE (vs:=[zA #[str a.Left,str a.Right,str a.Result]]) (caps:=[cX a4 b]) (us:=[zA #[str a.Left,str a.Right,str a.Result],cX a4 b]) rfl call153 rfl rfl (aBm m i g) aP
  ·exact aP
theorem iN {s_:(List bK)} {a:aH} {b:Nat} {R:Bool} (hm:fD s_ a=some R) (c:aD G K (L) w) (d:bE K a1 c2 s_) (e:fK K a4 b [str a]):
  Calls prog 81 ([zS a1 s_.length c2,Value.func (.func 153) #[] #[cX a4 b]]:List Value).toArray w (eQ fun v w'=>v=zB R/\aD G K (L) w'):=by
 exact aP
theorem aHi {n:aO} {a:aH} {R:Bool} (hm:rU n a=some R) (j:aD G K (L) w) (k:bE K a1 c2 n.Parts) (b:bE K a4 c5 n.Meetings) (l:bE K a7 c8 n.Allowed) (m:bE K a10 c11 n.Hidden):
  Calls prog 106 ([zA #[zS a1 n.Parts.length c2,zS a4 n.Meetings.length c5,zS a7 n.Allowed.length c8,zS a10 n.Hidden.length c11],str a]:List Value).toArray w (eQ fun v w'=>v=zB R/\aD G K (L) w'):=by
 refine aFe func106 ?_;unfold rU at hm
 refine aCk ?_;refine aKb fun o p q=>?_
 refine aKb fun c r d=>?_
 iterate 7 refine aFl ?_
 refine aF (eV (vs:=[zP (some ⟨c,0,none⟩)]) rfl) ?_;obtain ⟨t,e,g,h,u⟩:=aD.lendBp d .head
 obtain ⟨x,i,hm⟩:=aB hm
 exact aED call81 (iN i h (b.mono e) g) aP
theorem wI {t:bA} {R:(List cO)} (hm:yC t=some R) (hs:aD G K (L) w) (q:bE K a1 c2 t.L) (r:bE K a4 c5 t.E):
  Calls prog 154 ([zA (zCa t a1 c2 a4 c5)]:List Value).toArray w (eQ fun v w'=>∃ k l,v=zS k R.length l/\aD G K (aG 129 K k l R::L) w'):=by
 refine aFe func154 ?_;unfold yC at hm
 refine aCk ?_;refine aKb fun u w8 x=>?_
 refine aCk ?_;refine aU [] (fun f w=>∃ c m n,aIc c=some R/\f 3=zS m c.length n/\aD G K (aG 129 K m n c::L) w) aP ?_
 have b1:=aD.nil (α:=cO) x 129 K
 obtain ⟨b2,y,ho⟩:=aB hm
 refine cQ [1,7,8] y (fun d o f w=>∃ e g,f 3=zS e d.length g/\f 9=i64 o/\aD G K (aG 129 K e g d::box u 35 (zC t a1 c2 a4 c5)::L) w) aP ?_
 ·rintro d o b3 f b4 hm hr ⟨e,g,b5,b6,b8⟩
  unfold aAx at hm
  refine aCk ?_
  rcases aS hm with ⟨z,hm⟩|⟨z,hm⟩
  ·refine aCk ?_;refine dE (aCk ?_)
   obtain ⟨b,J,hm⟩:=aB hm
   refine aCk ?_;obtain ⟨b9,c0,V⟩:=bE.el (sz:=3) rfl r J
   cases V
   refine aCk ?_;refine aFm fun c1 c3 c4=>?_
   refine aJz fun c6 a0=>?_;refine aCk ?_
   obtain ⟨c7,c8,h,a2,c9⟩:=aD.lendBp a0 .head
   obtain ⟨d0,i,a3,d1,a5⟩:=aD.lendBp a2 zt1
   refine aKg [(0,0),(1,0),(2,0),(3,0),(4,0),(5,0),(6,0),(7,0),(8,0),(9,0),(10,0),(11,0),(12,1),(13,1),(14,0)] fun d2 a=>?_;refine aCk ?_
   refine bB rfl (fun _ ⟨_,a⟩=>bG (t:=0) eG a (h.mono i) rfl rfl) (bB rfl (fun _ _=>aV (t':=2) mL rfl rfl) (bB rfl (fun _ ⟨_,a⟩=>bG (t:=2) uQ a a3 rfl rfl) (bB rfl (fun _ _=>aV (t':=1) rA rfl rfl) (bB rfl (fun _ ⟨_,a⟩=>bG (t:=1) eG a (h.mono i) rfl rfl) ?_))));obtain ⟨j,a6,hm⟩:=aB hm
   refine aCk ?_;obtain ⟨d3,d4,a7⟩:=bE.el (sz:=1) rfl q a6
   cases a7
   refine aCk ?_;refine bB rfl (fun _ ⟨_,a⟩=>bG (t:=2) eG a (h.mono i) rfl rfl) (bB rfl (fun _ _=>jU (vs:=[(0,i64 b.F),(1,str j),(2,i64 b.To)]) (cs:=[i64 b.F,str j,i64 b.To]) aOb rfl (by kernel_rfl)) (jZ rfl (aKc ([⟨b.F,j,b.To⟩]:List cO) fun d5 d6 a8=>?_)))
   refine aR (aC ⟨⟨_,a8⟩,?_⟩)
   refine jZ rfl ?_;obtain ⟨d7,d8,hm⟩:=aB hm
   refine aMq fun d9 e0 e1 p=>?_;refine aR (aC ⟨⟨_,p⟩,?_⟩)
   refine aCk ?_;refine qE ?_
   have e2:=a5 _ _ p
   exact aP
  ·exact aP
theorem aGC {t R:bA} (hm:zQ t=some R) (m:aD G K (L) w) (e:bE K a1 c2 t.L) (g:bE K a4 c5 t.E):
  Calls prog 109 ([zA (zCa t a1 c2 a4 c5)]:List Value).toArray w (eQ fun v w'=>∃ a b c d,v=zA (zCa R a b c d)/\aD G K (aG 9 K a b R.L::aG 72 K c d R.E::L) w'):=by
 refine aFe func109 ?_;unfold zQ at hm
 refine aCk ?_;refine aKb fun n o p=>?_
 refine aFm fun q r h=>?_;refine aCk ?_
 obtain ⟨u,i,hm⟩:=aB hm
 refine aED call154 (wI i h e g) ?_
 rintro _ x ⟨y,z,rfl,j⟩
 refine aCk ?_;obtain ⟨J,k,V,a0,a2⟩:=aD.lendBp j zt2
 refine aKg [(0,0),(1,0),(2,0),(3,0),(4,0),(6,0),(5,1),(7,1),(8,2)] fun a3 l=>?_;refine aCk ?_
 refine jZ rfl ?_;obtain ⟨a5,a6,a7,a8,a9⟩:=aD.lendSp l k .head
 exact aP
theorem tF {e:Edge} {p:bA} {b:Nat} {a:aO} {c:Nat} {R:Bool} (hm:kI e p a=some R) (m:aD G K (L) w) (g:G.lo=0) (n:fK K a1 b (zC p a4 c5 a7 c8)) (h:bE K a4 c5 p.L) (o:bE K a7 c8 p.E) (q:fK K a10 c [zS a13 a.Parts.length c14,zS a16 a.Meetings.length c17,zS a19 a.Allowed.length c20,zS a22 a.Hidden.length c23]) (r:bE K a13 c14 a.Parts) (t:bE K a16 c17 a.Meetings) (u:bE K a19 c20 a.Allowed) (x:bE K a22 c23 a.Hidden):
  Calls prog 105 ([zA #[i64 e.F,i64 e.B,i64 e.To],cX a1 b,cX a10 c]:List Value).toArray w (eQ fun v w'=>v=zB R/\aD G K (L) w'):=by
 refine aFe func105 ?_;unfold kI at hm
 refine aCk ?_;refine aKb fun y z i=>?_
 refine aCk ?_;obtain ⟨J,j,hm⟩:=aB hm
 refine aCk ?_;obtain ⟨V,a0,k⟩:=bE.el (sz:=1) rfl h j
 cases k
 refine aCk ?_;obtain ⟨a2,l,hm⟩:=aB hm
 refine aED call51 (aCv l i g) ?_
 rintro _ a3 ⟨rfl,a5⟩
 iterate 4 refine aFl ?_
 exact cI [] (fun f w=>∃ d,iQ d=some R/\f 4=zB d/\aD G K (L) w) aP aP
theorem aEv {t b:bA} {d:Nat} {a:aO} {e:Nat} {R:bA} (hm:aAy t b a=some R) (hs:aD G K (L) w) (V:G.lo=0) (c3:Hp.le Kf K) (h3:bE Kf a1 c2 t.L) (h6:bE K a4 c5 t.E) (h9:fK K a7 d (zC b a10 c11 a13 c14)) (a3:bE K a10 c11 b.L) (a5:bE K a13 c14 b.E) (a6:fK K a16 e [zS a19 a.Parts.length c20,zS a22 a.Meetings.length c23,zS a25 a.Allowed.length c26,zS a28 a.Hidden.length c29]) (a8:bE K a19 c20 a.Parts) (a9:bE K a22 c23 a.Meetings) (b0:bE K a25 c26 a.Allowed) (b1:bE K a28 c29 a.Hidden):
  Calls prog 104 ([zA (zCa t a1 c2 a4 c5),Value.func (.func 105) #[] #[cX a7 d,cX a16 e]]:List Value).toArray w (eQ fun v w'=>∃ r u x y,v=zA (zCa R r u x y)/\bE Kf r u R.L/\aD G K (aG 72 K x y R.E::L) w'):=by
 let j:=zG
 refine aFe func104 ?_;unfold aAy at hm
 refine aCk ?_;refine aKb fun c6 c7 c8=>?_
 refine aFm fun k c9 d0=>?_
 iterate 10 refine aFl ?_
 refine aF (jU (vs:=[(0,i64 t.N),(1,i64 t.I),(2,zS a1 t.L.length c2)]) (cs:=[i64 t.N,i64 t.I,zS a1 t.L.length c2,zS none 0 0]) aEJ rfl (by kernel_rfl)) (aFm fun l d1 d2=>?_);refine aJz fun d3 b2=>?_
 refine aCk ?_;refine aU [4,5] (fun f w=>∃ m z J,aCs t m=some R/\aD G K (aG 72 K z J m::box l 35 [i64 t.N,i64 t.I,zS a1 t.L.length c2,zS z m.length J]::box k 35 j::L) w) aP ?_
 have d4:=aD.nil (α:=Edge) b2 72 K
 obtain ⟨d5,b3,ho⟩:=aB hm
 refine cQ [1,4,5,16,17] b3 (fun n o f w=>∃ p q,f 18=i64 o/\aD G K (aG 72 K p q n::box l 35 [i64 t.N,i64 t.I,zS a1 t.L.length c2,zS p n.length q]::box k 35 j::L) w) aP ?_
 ·rintro n o b4 f d6 hm hr ⟨p,q,d7,d8⟩
  unfold qC at hm
  refine aCk ?_
  rcases aS hm with ⟨b5,hm⟩|⟨b5,hm⟩
  ·refine aCk ?_;refine aU [1,4,5,16,17,18] (fun f w=>∃ g h i,uC o g=some b4/\aD G K (aG 72 K h i g::box l 35 [i64 t.N,i64 t.I,zS a1 t.L.length c2,zS h g.length i]::box k 35 j::L) w) ?_ ?_
   ·rintro f d9 ⟨g,h,i,hm,b6⟩
    unfold uC at hm
    refine aCk ?_;exact ⟨_,(zI hm).symm,cE,h,i,rfl,b6⟩
   refine aCk ?_;obtain ⟨c,b7,hm⟩:=aB hm
   refine aCk ?_;obtain ⟨e0,e1,b8⟩:=bE.el (sz:=3) rfl h6 b7
   cases b8
   refine aCk ?_;refine aFm fun e2 e3 e4=>?_
   refine aJz fun e5 b9=>?_;refine aCk ?_
   obtain ⟨e6,c0,hm⟩:=aB hm
   exact eE (vs:=[zA #[i64 c.F,i64 c.B,i64 c.To]]) (caps:=[cX a7 d,cX a16 e]) (us:=[zA #[i64 c.F,i64 c.B,i64 c.To],cX a7 d,cX a16 e]) rfl call105 rfl rfl (tF c0 b9 V h9 a3 a5 a6 a8 a9 b0 b1) aP
  ·exact aP
theorem nD {s_:aH} {p:aO} {a:Nat} {R:aH} (hm:iH s_ p=some R) (c:aD G K (L) w) (d:G.lo=0) (g:fK K a1 a [zS a4 p.Parts.length c5,zS a7 p.Meetings.length c8,zS a10 p.Allowed.length c11,zS a13 p.Hidden.length c14]) (h:bE K a4 c5 p.Parts) (i:bE K a7 c8 p.Meetings) (j:bE K a10 c11 p.Allowed) (k:bE K a13 c14 p.Hidden):
  Calls prog 108 ([str s_,cX a1 a]:List Value).toArray w (eQ fun v w'=>v=str R/\aD G K (L) w'):=by
 refine aFe func108 ?_;unfold iH at hm
 refine aCk ?_;obtain ⟨l,e,hm⟩:=aB hm
 refine aED call51 (aCv e c d) ?_
 rintro _ m ⟨rfl,n⟩
 iterate 5 refine aFl ?_
 exact cI [0] (fun f w=>∃ b,iR s_ b=some R/\f 22=zB b/\aD G K (L) w) aP aP
theorem aIy {t:bA} {a:aO} {g:Nat} {R:bA} (hm:aCE t a=some R) (hs:aD G K (L) w) (hG:G.lo=0) (h3:bE K a1 c2 t.L) (h6:bE K a4 c5 t.E) (h9:fK K a7 g [zS a10 a.Parts.length c11,zS a13 a.Meetings.length c14,zS a16 a.Allowed.length c17,zS a19 a.Hidden.length c20]) (a6:bE K a10 c11 a.Parts) (a8:bE K a13 c14 a.Meetings) (a9:bE K a16 c17 a.Allowed) (b0:bE K a19 c20 a.Hidden):
  Calls prog 107 ([zA (zCa t a1 c2 a4 c5),Value.func (.func 108) #[] #[cX a7 g]]:List Value).toArray w (eQ fun v w'=>∃ b1 b2 b3 b4,v=zA (zCa R b1 b2 b3 b4)/\aD G K (aG 9 K b1 b2 R.L::aG 72 K b3 b4 R.E::L) w'):=by
 let l:=(zC t a1 c2 a4 c5)
 let m:=zG
 refine aFe func107 ?_;unfold aCE at hm
 refine aCk ?_;refine aKb fun o e3 e4=>?_
 refine aFm fun p e5 c0=>?_;refine aCk ?_
 refine aU [1,2,4] (fun f w=>∃ b j k,zU t a b=some R/\f 5=zS j b.length k/\aD G K (aG 9 K j k b::box p 35 m::box o 35 l::L) w) ?_ ?_
 ·rintro f e6 ⟨b,j,k,hm,e7,c1⟩
  unfold zU at hm
  refine aCk ?_;obtain ⟨e8,c3,hm⟩:=aB hm
  refine aED call154 (wI c3 c1 h3 h6) ?_
  rintro _ e9 ⟨c,d,rfl,f0⟩
  refine aCk ?_;refine aU [2,4,5] (fun f w=>∃ u,aCt t b u=some R/\f 8=zS c u.length d/\aD G K (aG 129 K c d u::aG 9 K j k b::box p 35 m::box o 35 l::L) w) aP ?_
  obtain ⟨f1,c4,ho⟩:=aB hm
  refine cQ [1,2,4,5,28] c4 (fun q x f w=>f 8=zS c q.length d/\f 27=zS c q.length d/\f 29=i64 x/\aD G K (aG 129 K c d q::aG 9 K j k b::box p 35 m::box o 35 l::L) w) aP ?_
  ·rintro q x f2 f f3 hm hr ⟨c6,b5,c7,c8⟩
   unfold lY at hm
   refine aCk ?_
   rcases aS hm with ⟨c9,hm⟩|⟨c9,hm⟩
   ·refine aCk ?_;refine dE (aCk ?_)
    obtain ⟨e,r,hm⟩:=aB hm
    have y:=dJ c8 (i:=0) rfl r
    refine aF (fI aAg rfl y b5 rfl c7 r) (aCk ?_);refine aFm fun d0 f4 f5=>?_
    refine aCk ?_;refine aJz fun f6 d1=>?_
    refine aCk ?_;obtain ⟨b6,d2,hm⟩:=aB hm
    refine eE (vs:=[str e.label]) (caps:=[cX a7 g]) (us:=[str e.label,cX a7 g]) rfl call108 rfl rfl (nD d2 d1 hG h9 a6 a8 a9 b0) ?_
    rintro _ f7 ⟨rfl,d3⟩
    refine aF (fI aAg rfl y rfl rfl rfl r) (aF (R_fldA (k':=x.toNat * 3+1) aJb y rfl rfl) ?_);obtain ⟨d4,z,hm⟩:=aB hm
    refine pO (i:=1) (t:=1) (ns:=[str b6]) (e':=(⟨e.from_,b6,e.to_⟩:cO)) sizeOf9 d3 rfl (zR _) rfl rfl rfl r z rfl rfl (dM rfl) rfl (fun cs h=>by cases h;rfl) (fun d5 (f8:aD G K (box d0 129 [i64 e.from_,str e.label,i64 e.to_]::aG 129 K c d d4::aG 9 K j k b::box p 35 m::box o 35 l::L) d5)=>(aCk ?_));exact ⟨_,(zI hm).symm,cE,(Eq.trans c6 (congrArg (fun n=>zS c n d) (iS z))),(Eq.trans b5 (congrArg (fun n=>zS c n d) (iS z))),rfl,aKa⟩
   ·exact aP
 have f9:=aD.nil (α:=aH) c0 9 K
 obtain ⟨g0,d6,ho⟩:=aB hm
 refine cQ [1,2,4,12,13] d6 (fun J b7 f w=>∃ V a0,f 5=zS V J.length a0/\f 14=i64 b7/\aD G K (aG 9 K V a0 J::box p 35 m::box o 35 l::L) w) aP ?_
 ·rintro J b7 g1 f g2 hm hr ⟨V,a0,g3,g4,d7⟩
  unfold uD at hm
  refine aCk ?_
  rcases aS hm with ⟨d8,hm⟩|⟨d8,hm⟩
  ·refine aCk ?_;refine dE (aCk ?_)
   obtain ⟨b8,d9,hm⟩:=aB hm
   refine aCk ?_;obtain ⟨g5,g6,e0⟩:=bE.el (sz:=1) rfl h3 d9
   cases e0
   refine aCk ?_;obtain ⟨g7,e1,hm⟩:=aB hm
   exact eE (vs:=[str b8]) (caps:=[cX a7 g]) (us:=[str b8,cX a7 g]) rfl call108 rfl rfl (nD e1 d7 hG h9 a6 a8 a9 b0) aP
  ·exact aP
theorem wJ {t:bA} {p:aO} {b:Nat} {R:bA} (hm:lZ t p=some R) (hs:aD G K (L) w) (j:G.lo=0) (c:bE K a1 c2 t.L) (d:bE K a4 c5 t.E) (k:fK K a7 b [zS a10 p.Parts.length c11,zS a13 p.Meetings.length c14,zS a16 p.Allowed.length c17,zS a19 p.Hidden.length c20]) (l:bE K a10 c11 p.Parts) (m:bE K a13 c14 p.Meetings) (n:bE K a16 c17 p.Allowed) (o:bE K a19 c20 p.Hidden):
  Calls prog 103 ([zA (zCa t a1 c2 a4 c5),cX a7 b]:List Value).toArray w (eQ fun v w'=>∃ e g h i,v=zA (zCa R e g h i)/\aD G K (aG 9 K e g R.L::aG 72 K h i R.E::L) w'):=by
 refine aFe func103 ?_;unfold lZ at hm
 refine aCk ?_;refine aKb fun q a2 a3=>?_
 refine aFm fun a5 a6 r=>?_
 iterate 5 refine aFl ?_
 refine aF (eV (vs:=[zP (some ⟨q,0,none⟩),cX a7 b]) rfl) ?_;obtain ⟨a8,a,u,x,y⟩:=aD.lendBp r zt1
 obtain ⟨a9,z,hm⟩:=aB hm
 refine aED call104 (aEv (Kf:=K) z x j a c (d.mono a) u (c.mono a) (d.mono a) (k.mono a) (l.mono a) (m.mono a) (n.mono a) (o.mono a)) ?_
 rintro _ b0 ⟨b1,b2,b3,b4,rfl,b5,J⟩
 have b6:=y _ _ J
 refine aFm fun b7 b8 b9=>?_;refine aJz fun c0 V=>?_
 iterate 5 refine aFl ?_
 refine aF (eV (vs:=[cX a7 b]) rfl) ?_;obtain ⟨c1,c3,c4,c6,c7⟩:=aD.lendSp V (zR _) zt2
 exact aP
theorem aBn {n j:aO} {V:Nat} {R:aO} (hm:vM n j=some R) (hs:aD G K (L) w) (hG:G.lo=0) (h3:bE K a1 c2 n.Parts) (h6:bE K a4 c5 n.Meetings) (h9:bE K a7 c8 n.Allowed) (f3:bE K a10 c11 n.Hidden) (c6:fK K a13 V [zS a16 j.Parts.length c17,zS a19 j.Meetings.length c20,zS a22 j.Allowed.length c23,zS a25 j.Hidden.length c26]) (c7:bE K a16 c17 j.Parts) (c9:bE K a19 c20 j.Meetings) (d0:bE K a22 c23 j.Allowed) (d1:bE K a25 c26 j.Hidden):
  Calls prog 102 ([zA #[zS a1 n.Parts.length c2,zS a4 n.Meetings.length c5,zS a7 n.Allowed.length c8,zS a10 n.Hidden.length c11],Value.func (.func 103) #[] #[cX a13 V]]:List Value).toArray w (eQ fun v w'=>∃ a5 a6 a0 a8 a9 b0 b1 b2 b3,v=zA #[zS a5 R.Parts.length a6,zS a8 R.Meetings.length a9,zS b0 R.Allowed.length b1,zS b2 R.Hidden.length b3]/\List.length a0=List.length R.Parts/\aD G K (aG 35 K a5 a6 (aT a0 R.Parts)::rows [9,72] a0 R.Parts::aG 69 K a8 a9 R.Meetings::aG 9 K b0 b1 R.Allowed::aG 9 K b2 b3 R.Hidden::L) w'):=by
 let l:=[zS a1 n.Parts.length c2,zS a4 n.Meetings.length c5,zS a7 n.Allowed.length c8,zS a10 n.Hidden.length c11]
 let m:=[zS none 0 0,zS none 0 0,zS none 0 0,zS none 0 0]
 refine aFe func102 ?_;unfold vM at hm
 refine aCk ?_;refine aKb fun o f4 f5=>?_
 refine aFm fun p d2 d3=>?_;refine aCk ?_
 refine aU [2,4] (fun f w=>∃ q b4 b5 a2,wY n q=some R/\f 5=zS b4 q.length b5/\List.length a2=List.length q/\aD G K (aG 35 K b4 b5 (aT a2 q)::rows [9,72] a2 q::box p 28 m::box o 28 l::L) w) aP ?_
 have d4:aD G K (aG 35 K none 0 (aT ([]:List (Dp.Hd bA)) ([]:List bA))::rows [9,72] ([]:List (Dp.Hd bA)) ([]:List bA)::box p 28 m::box o 28 l::L) d2:=aD.nil (α:=Cells _) (aD.rowsNil (α:=bA) (tys:=[9,72]) d3) 35 K
 obtain ⟨f6,d5,ho⟩:=aB hm
 refine cQ [1,2,4,9,10] d5 (fun k b6 f w=>∃ r t c,f 5=zS r k.length t/\f 11=i64 b6/\List.length c=List.length k/\aD G K (aG 35 K r t (aT c k)::rows [9,72] c k::box p 28 m::box o 28 l::L) w) ?_ ?_
 ·exact ⟨none,0,[],rfl,rfl,rfl,d4⟩
 ·rintro k b6 f7 f f8 hm hr ⟨r,t,c,f9,g0,b7,g1⟩
  unfold gZ at hm
  refine aCk ?_
  rcases aS hm with ⟨d6,hm⟩|⟨d6,hm⟩
  ·refine aCk ?_;refine dE (aCk ?_)
   obtain ⟨a,d7,hm⟩:=aB hm
   refine aCk ?_;obtain ⟨g2,g3,d8⟩:=bE.el (sz:=4) rfl h3 d7
   obtain ⟨u,y,z,J,rfl,d9,e0⟩:=d8
   refine aCk ?_;refine aFm fun a3 g4 g5=>?_
   refine aJz fun g6 e1=>?_;refine aCk ?_
   obtain ⟨b,e2,hm⟩:=aB hm
   refine eE (vs:=[zA (zCa a u y z J)]) (caps:=[cX a13 V]) (us:=[zA (zCa a u y z J),cX a13 V]) rfl call103 rfl rfl (wJ e2 e1 hG d9 e0 c6 c7 c9 d0 d1) ?_
   rintro _ e3 ⟨d,e,g,h,rfl,e4⟩
   have e5:aD G K (rows [9,72] ([((d,e),(g,h))]:List (Dp.Hd bA)) ([b]:List bA)::box a3 35 (zC a u y z J)::aG 35 K r t (aT c k)::rows [9,72] c k::box p 28 m::box o 28 l::L) e3:=aD.rowsOneS (tys:=[9,72]) (hd:=(((d,e),(g,h)):Dp.Hd bA)) (x:=(b:bA)) e4
   refine cZ (Kt:=K) (xs:=aT ([((d,e),(g,h))]:List (Dp.Hd bA)) ([b]:List bA)) (cs:=(zC b d e g h)) (vs:=[(0,zA (zCa b d e g h))]) lU aEL rfl rfl e5 rfl (by kernel_rfl) rfl rfl rfl ⟨rfl,trivial⟩ ?_
   intro e6 e7 (e8:aD G K (aG 35 K e6 1 (aT ([((d,e),(g,h))]:List (Dp.Hd bA)) ([b]:List bA))::rows [9,72] ([((d,e),(g,h))]:List (Dp.Hd bA)) ([b]:List bA)::box a3 35 (zC a u y z J)::aG 35 K r t (aT c k)::rows [9,72] c k::box p 28 m::box o 28 l::L) e7)
   obtain ⟨b8,b9,hm⟩:=aB hm
   refine aEH (i:=1) (tys:=[9,72]) (hds:=c) (hds2:=([((d,e),(g,h))]:List (Dp.Hd bA))) lU underlying24 aEL rfl rfl e8 b7 rfl rfl rfl b9 rfl rfl rfl rfl ?_
   intro c0 c1 e9 (g7:aD G K (aG 35 K c0 c1 (aT (c++([((d,e),(g,h))]:List (Dp.Hd bA))) b8)::rows [9,72] (c++([((d,e),(g,h))]:List (Dp.Hd bA))) b8::box a3 35 (zC a u y z J)::box p 28 m::box o 28 l::L) e9)
   refine aCk ?_;exact ⟨_,(zI hm).symm,cE,c0,c1,(c++([((d,e),(g,h))]:List (Dp.Hd bA))),rfl,rfl,(aDC b7 rfl b9),aKa⟩
  ·exact aP
theorem aAd {n R:aO} (hm:kJ n=some R) (z:aD G K (L) w) (q:G.lo=0) (c:bE K a1 c2 n.Parts) (d:bE K a4 c5 n.Meetings) (e:bE K a7 c8 n.Allowed) (g:bE K a10 c11 n.Hidden):
  Calls prog 56 ([zA #[zS a1 n.Parts.length c2,zS a4 n.Meetings.length c5,zS a7 n.Allowed.length c8,zS a10 n.Hidden.length c11]]:List Value).toArray w (eQ fun v w'=>∃ h i b j k l m o p,v=zA #[zS h R.Parts.length i,zS j R.Meetings.length k,zS l R.Allowed.length m,zS o R.Hidden.length p]/\List.length b=List.length R.Parts/\aD G K (aG 35 K h i (aT b R.Parts)::rows [9,72] b R.Parts::aG 69 K j k R.Meetings::aG 9 K l m R.Allowed::aG 9 K o p R.Hidden::L) w'):=by
 refine aFe func56 ?_;unfold kJ at hm
 refine aCk ?_;refine aKb fun r J V=>?_
 refine aFm fun a0 a2 t=>?_
 iterate 5 refine aFl ?_
 refine aF (eV (vs:=[zP (some ⟨r,0,none⟩)]) rfl) ?_;obtain ⟨a3,a,u,x,a5⟩:=aD.lendBp t zt1
 obtain ⟨a6,y,hm⟩:=aB hm
 exact aED call102 (aBn y x q (c.mono a) (d.mono a) (e.mono a) (g.mono a) u (c.mono a) (d.mono a) (e.mono a) (g.mono a)) aP
theorem vR {s_ R:(List Edge)} (hm:gU s_=some R) (r:aD G K (L) w) (a:bE K a1 c2 s_):
  Calls prog 156 ([zS a1 s_.length c2]:List Value).toArray w (eQ fun v w'=>∃ b c,v=zS b R.length c/\aD G K (aG 72 K b c R::L) w'):=by
 refine aFe func156 ?_;unfold gU at hm
 iterate 9 refine aFl ?_
 refine aF (aJa eI rfl rfl) (aCk ?_)
 rcases aHz a with ⟨g,h,j⟩|k
 ·subst g;subst h;subst j
  refine aIL rfl ?_
  replace hm:(some [])=some R:=hm
  exact aP
 ·refine aIM (Eq.trans rfl (congrArg zB k)) (aCk ?_);refine aKc ([]:List Edge) fun t u l=>?_
  refine aCk ?_;obtain ⟨m,n,hm⟩:=aB hm
  refine aIl (i:=0) eI underlying33 aBd rfl rfl l rfl (zR _) a n rfl rfl rfl rfl (fun d e o (p:aD G K (aG 72 K d e m::L) o)=>(aCk ?_));obtain rfl:=zI hm
  exact aMD results156 ⟨d,e,rfl,p⟩
theorem aFH {t R:bA} (hm:aBh t=some R) (g:aD G K (L) w) (h:bE K a1 c2 t.L) (i:bE K a4 c5 t.E):
  Calls prog 113 ([zA (zCa t a1 c2 a4 c5)]:List Value).toArray w (eQ fun v w'=>∃ a b c d,v=zA (zCa R a b c d)/\aD G K (aG 9 K a b R.L::aG 72 K c d R.E::L) w'):=by
 refine aFe func113 ?_;unfold aBh at hm
 refine aCk ?_;refine aKb fun j k l=>?_
 refine aFm fun m n e=>?_;refine aCk ?_
 obtain ⟨o,p,q,r,u⟩:=aD.lendBp e zt1
 refine aKg [(0,0),(1,0),(2,0),(3,0),(4,0),(5,0),(7,0),(8,0),(6,1),(9,1),(10,0),(11,2)] fun x y=>?_;exact aP
theorem aHj {a:(List (List Int))} {R:(List Int)} (hm:pD a=some R) (d:aD G K (L) w) (e:Hp.le Kf K) (g:bE Kf a1 c2 a):
  Calls prog 66 ([zS a1 a.length c2]:List Value).toArray w (eQ fun v w'=>∃ b c,v=zS b R.length c/\bE Kf b c R/\aD G K (L) w'):=by
 exact aP
theorem aFj {n:Int} {R:(List Int)} (hm:aFE n=some R) (g:aD G K (L) w):
  Calls prog 119 ([i64 n]:List Value).toArray w (eQ fun v w'=>∃ b c,v=zS b R.length c/\aD G K (aG 2 K b c R::L) w'):=by
 refine aFe func119 ?_;unfold aFE at hm
 refine aCk ?_;obtain ⟨a,h,hm⟩:=aB hm
 refine aNb (e:=(0:Int)) bR yY rfl rfl g rfl rfl rfl h rfl (fun d i (j:aD G K (aG 2 K d a.length a::L) i)=>(aCk ?_));obtain rfl:=zI hm
 exact aMD results119 ⟨d,a.length,rfl,j⟩
theorem aMQ {m R:(List Int)} (hm:aGZ m=some R) (hs:aD G K (L) w) (h3:bE K a1 c2 m):
  Calls prog 166 ([zS a1 m.length c2]:List Value).toArray w (eQ fun v w'=>∃ u x,v=zS u R.length x/\aD G K (aG 2 K u x R::L) w'):=by
 refine aFe func166 ?_;unfold aGZ at hm
 refine aCk ?_;refine aLu Int Int hs ?_
 intro c w5 (a5:aD G K (kV c ([]:(List (Int × Int)))::L) w5)
 refine aCk ?_;obtain ⟨a,q8,hm⟩:=aB hm
 refine aNb (e:=(0:Int)) bR yY rfl rfl a5 rfl rfl rfl q8 rfl ?_
 intro b a7 (c4:aD G K (aG 2 K b a.length a::kV c ([]:(List (Int × Int)))::L) a7)
 refine aCk ?_;refine aU [] (fun f w=>∃ o,aKp o=some R/\f 4=zS b o.length a.length/\aD G K (aG 2 K b a.length o::L) w) aP ?_
 obtain ⟨c5,a8,ho⟩:=aB hm
 refine vX [3,13,14] a8 (fun g d p f w=>f 4=zS b d.length a.length/\f 15=i64 p/\aD G K (aG 2 K b a.length d::kV c g::L) w) aP ?_
 ·rintro g d p b0 f c6 hm hr ⟨b1,c7,q⟩
  unfold uT at hm
  refine aCk ?_
  rcases aS hm with ⟨b2,hm⟩|⟨b2,hm⟩
  ·refine aCk ?_;refine dE (aCk ?_)
   obtain ⟨y,b3,hm⟩:=aB hm
   refine aCk ?_;obtain ⟨c8,c9,b4⟩:=bE.el (sz:=1) rfl h3 b3
   cases b4
   refine aCk ?_;refine aF (R_look (kv:=g) (k:=y) (z:=(0:Int)) runUnderlying236 ko_2 zeroValue2 q (i:=1) rfl rfl rfl) ?_
   iterate 7 refine aFl ?_
   refine tS [3,4,5,13,14,15] (fun f w=>∃ l j,aCS d p l j=some b0/\f 7=i64 j/\aD G K (aG 2 K b a.length d::kV c l::L) w) ?_ ?_
   ·rintro f d0 ⟨l,j,hm,d1,J⟩
    unfold aCS at hm
    refine aCk ?_;obtain ⟨d2,r,hm⟩:=aB hm
    have b5:=dJ J (i:=0) rfl r
    refine aF (fI bR rfl b5 rfl rfl rfl r) ?_;obtain ⟨b6,V,hm⟩:=aB hm
    refine pO (i:=0) (t:=0) (ns:=[i64 j]) (e':=(j:Int)) sizeOf2 J rfl (zR _) rfl rfl rfl r V rfl rfl (dM rfl) rfl (fun cs h=>by cases h;rfl) (fun b7 (b8:aD G K (aG 2 K b a.length b6::kV c l::L) b7)=>(aCk ?_));exact ⟨_,(zI hm).symm,cE,(Eq.trans b1 (congrArg (fun n=>zS b n a.length) (iS V))),rfl,b8⟩
   refine aCk ?_
   rcases aS hm with ⟨b9,hm⟩|⟨b9,hm⟩
   ·refine aCk ?_;refine aF (R_lenM runUnderlying236 q (i:=1) rfl rfl) (aCk ?_)
    obtain ⟨a0,c0,hm⟩:=aB hm
    refine aPx (i:=1) (k:=y) (v:=(g.length:Int)) runUnderlying236 ko_2 q rfl rfl rfl rfl c0 (fun c1 (c3:aD G K (aG 2 K b a.length d::kV c a0::L) c1)=>(aCk ?_));exact ⟨cE,a0,(g.length:Int),hm,rfl,c3⟩
   ·exact aP
  ·exact aP
theorem aCZ {k p:(List Int)} {a:Nat} {R:Bool} (hm:aDk k p=some R) (b:aD G K (L) w) (c:bE K a1 c2 k) (d:fK K a4 a [zS a7 p.length c8]) (e:bE K a7 c8 p):
  Calls prog 165 ([zS a1 k.length c2,cX a4 a]:List Value).toArray w (eQ fun v w'=>v=zB R/\aD G K (L) w'):=by
 exact aP
theorem mT {s_:(List (List Int))} {b:(List Int)} {a:Nat} {R:Int} (hm:eR s_ b=some R) (r:aD G K (L) w) (h:bE K a1 c2 s_) (i:fK K a4 a [zS a7 b.length c8]) (j:bE K a7 c8 b):
  Calls prog 164 ([zS a1 s_.length c2,Value.func (.func 165) #[] #[cX a4 a]]:List Value).toArray w (eQ fun v w'=>v=i64 R/\aD G K (L) w'):=by
 refine aFe func164 ?_;unfold eR at hm
 refine aCk ?_;refine aU [] (fun f w=>nJ=some R/\aD G K (L) w) aP ?_
 obtain ⟨t,k,ho⟩:=aB hm
 refine gI [0,1,7] k (fun c f w=>f 8=i64 c/\aD G K (L) w) aP ?_
 ·rintro c u f x hm hr ⟨y,l⟩
  unfold cP at hm
  refine aCk ?_
  rcases aS hm with ⟨m,hm⟩|⟨m,hm⟩
  ·refine aCk ?_;refine dE (aCk ?_)
   obtain ⟨d,n,hm⟩:=aB hm
   refine aCk ?_;obtain ⟨z,J,o⟩:=bE.el (sz:=1) rfl h n
   obtain ⟨e,g,rfl,p⟩:=o
   refine aCk ?_;obtain ⟨V,q,hm⟩:=aB hm
   exact eE (vs:=[zS e d.length g]) (caps:=[cX a4 a]) (us:=[zS e d.length g,cX a4 a]) rfl call165 rfl rfl (aCZ q l p i j) aP
  ·exact aP
theorem aBV {d:(List (List Int))} {R:(List Int)} (hm:zV d=some R) (q:aD G K (L) w) (e:bE K a1 c2 d):
  Calls prog 120 ([zS a1 d.length c2]:List Value).toArray w (eQ fun v w'=>∃ i j,v=zS i R.length j/\aD G K (aG 2 K i j R::L) w'):=by
 refine aFe func120 ?_;unfold zV at hm
 refine aCk ?_;refine aU [] (fun f w=>∃ g k l,aDl g=some R/\f 3=zS k g.length l/\aD G K (aG 2 K k l g::L) w) aP ?_
 have a8:=aD.nil (α:=Int) q 2 K
 obtain ⟨a9,r,ho⟩:=aB hm
 refine cQ [0,7,8] r (fun a h f w=>∃ b c,f 3=zS b a.length c/\f 9=i64 h/\aD G K (aG 2 K b c a::L) w) aP ?_
 ·rintro a h t f b0 hm hr ⟨b,c,b1,b2,b3⟩
  unfold mX at hm
  refine aCk ?_
  rcases aS hm with ⟨u,hm⟩|⟨u,hm⟩
  ·refine aCk ?_;refine dE (aCk ?_)
   obtain ⟨b4,x,hm⟩:=aB hm
   refine aCk ?_;obtain ⟨b5,b6,y⟩:=bE.el (sz:=1) rfl e x
   obtain ⟨b7,b8,rfl,z⟩:=y
   refine aCk ?_;refine aFm fun J b9 c0=>?_
   refine aCk ?_;refine aJz fun c1 V=>?_
   refine aCk ?_;obtain ⟨c3,m,hm⟩:=aB hm
   obtain ⟨c4,c5,n⟩:=Cut.ex 1 a1 c2 0
   have a0:=bE.cut' e m n
   refine aF (aGP iG e.room n rfl rfl rfl m) (aF (eV (vs:=[zP (some ⟨J,0,none⟩)]) rfl) ?_);obtain ⟨c7,o,a2,a3,a4⟩:=aD.lendBp V .head
   obtain ⟨c8,a6,hm⟩:=aB hm
   refine aED call164 (mT a6 a3 (a0.mono o) a2 (z.mono o)) ?_
   rintro _ c9 ⟨rfl,a7⟩
   have d0:=a4 _ _ a7
   iterate 3 refine aFl ?_
   exact tS [0,3,7,8,9] (fun f w=>∃ p,aAJ a h p=some t/\f 6=i64 p/\aD G K (aG 2 K b c a::L) w) aP aP
  ·exact aP
theorem aBo {e:Edge} {p:(List Int)} {a:Nat} {R:Bool} (hm:qM e p=some R) (c:aD G K (L) w) (d:fK K a1 a [zS a4 p.length c5]) (g:bE K a4 c5 p):
  Calls prog 209 ([zA #[i64 e.F,i64 e.B,i64 e.To],cX a1 a]:List Value).toArray w (eQ fun v w'=>v=zB R/\aD G K (L) w'):=by
 refine aFe func209 ?_;unfold qM at hm
 refine aCk ?_;refine aKb fun h i j=>?_
 refine aCk ?_;exact cI [] (fun f w=>∃ b,wZ b=some R/\f 3=zB b/\aD G K (L) w) aP aP
theorem aGw {t:bA} {g:(List Int)} {b:Nat} {R:bA} (hm:aGe t g=some R) (hs:aD G K (L) w) (b3:Hp.le Kf K) (h3:bE Kf a1 c2 t.L) (z:bE K a4 c5 t.E) (J:fK K a7 b [zS a10 g.length c11]) (V:bE K a10 c11 g):
  Calls prog 104 ([zA (zCa t a1 c2 a4 c5),Value.func (.func 209) #[] #[cX a7 b]]:List Value).toArray w (eQ fun v w'=>∃ p q r u,v=zA (zCa R p q r u)/\bE Kf p q R.L/\aD G K (aG 72 K r u R.E::L) w'):=by
 let h:=zG
 refine aFe func104 ?_;unfold aGe at hm
 refine aCk ?_;refine aKb fun b5 b6 b7=>?_
 refine aFm fun i b8 b9=>?_
 iterate 10 refine aFl ?_
 refine aF (jU (vs:=[(0,i64 t.N),(1,i64 t.I),(2,zS a1 t.L.length c2)]) (cs:=[i64 t.N,i64 t.I,zS a1 t.L.length c2,zS none 0 0]) aEJ rfl (by kernel_rfl)) (aFm fun j c0 c1=>?_);refine aJz fun c3 a0=>?_
 refine aCk ?_;refine aU [4,5] (fun f w=>∃ k x y,aId t k=some R/\aD G K (aG 72 K x y k::box j 35 [i64 t.N,i64 t.I,zS a1 t.L.length c2,zS x k.length y]::box i 35 h::L) w) aP ?_
 have c4:=aD.nil (α:=Edge) a0 72 K
 obtain ⟨c6,a2,ho⟩:=aB hm
 refine cQ [1,4,5,16,17] a2 (fun l m f w=>∃ n o,f 18=i64 m/\aD G K (aG 72 K n o l::box j 35 [i64 t.N,i64 t.I,zS a1 t.L.length c2,zS n l.length o]::box i 35 h::L) w) aP ?_
 ·rintro l m a3 f c7 hm hr ⟨n,o,c8,c9⟩
  unfold wR at hm
  refine aCk ?_
  rcases aS hm with ⟨a5,hm⟩|⟨a5,hm⟩
  ·refine aCk ?_;refine aU [1,4,5,16,17,18] (fun f w=>∃ c d e,aAz m c=some a3/\aD G K (aG 72 K d e c::box j 35 [i64 t.N,i64 t.I,zS a1 t.L.length c2,zS d c.length e]::box i 35 h::L) w) ?_ ?_
   ·rintro f d0 ⟨c,d,e,hm,a6⟩
    unfold aAz at hm
    refine aCk ?_;exact ⟨_,(zI hm).symm,cE,d,e,rfl,a6⟩
   refine aCk ?_;obtain ⟨a,a8,hm⟩:=aB hm
   refine aCk ?_;obtain ⟨d1,d2,a9⟩:=bE.el (sz:=3) rfl z a8
   cases a9
   refine aCk ?_;refine aFm fun d3 d4 d5=>?_
   refine aJz fun d6 b0=>?_;refine aCk ?_
   obtain ⟨d7,b1,hm⟩:=aB hm
   exact eE (vs:=[zA #[i64 a.F,i64 a.B,i64 a.To]]) (caps:=[cX a7 b]) (us:=[zA #[i64 a.F,i64 a.B,i64 a.To],cX a7 b]) rfl call209 rfl rfl (aBo b1 b0 J V) aP
  ·exact aP
theorem yL {t:bA} {p:(List Int)} {R:bA} (hm:rV t p=some R) (x:aD G K (L) w) (h:bE K a1 c2 t.L) (i:bE K a4 c5 t.E) (j:bE K a7 c8 p):
  Calls prog 160 ([zA (zCa t a1 c2 a4 c5),zS a7 p.length c8]:List Value).toArray w (eQ fun v w'=>∃ a c d e g,v=zA (zCa R c d e g)/\Hp.le K a/\bE a c d R.L/\bE a e g R.E/\aD G a (L) w'):=by
 refine aFe func160 ?_;unfold rV at hm
 refine aCk ?_;refine aKb fun y z J=>?_
 refine aKb fun k V a0=>?_;refine aFm fun a2 a3 l=>?_
 iterate 5 refine aFl ?_
 refine aF (eV (vs:=[zP (some ⟨k,0,none⟩)]) rfl) ?_;obtain ⟨a5,b,m,n,o⟩:=aD.lendBp l zt1
 obtain ⟨a6,q,hm⟩:=aB hm
 refine aED call104 (aGw (Kf:=K) q n b h (i.mono b) m (j.mono b)) ?_
 rintro _ a8 ⟨a9,b0,b1,b2,rfl,b3,r⟩
 have b4:=o _ _ r
 refine aJz fun b5 u=>?_;refine aCk ?_
 obtain ⟨b6,b7,b8,b9⟩:=aD.giveSp u (zR _) zt1
 exact aP
end Gv
