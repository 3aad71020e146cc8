/- Walks, printed by program. -/
import Derived.Test.YtigicpgpkmjdpaaGreatDoorJWk7
set_option linter.all false
namespace Gv
open Go.Value renaming slice→zS,bool→zB,pointer→zP,agg→zA,tuple→zT,map→zM
open Option.some renaming inj→zI
open Gv.Hp renaming le_trans→zL,le_refl→zR
open Go Go.Proofs Go.Proofs.Tryz
set_option maxRecDepth 20000
set_option maxHeartbeats 40000000
variable {G:zZ} {K Kf:Hp} {L:List jM} {w:World} {a1 a4 a7 a10 a13 a16 a19 a22 a25 a28 a31 a36 a39 a41 a6 a9 a11 a14 a17 a20 a23 a26 a29 a32 a35 a38:Option Addr} {c2 c5 c8 c11 c14 c20 c23 c26 c29 b34 b35 c37 c40 b4 b5 c7 c10 c18 c21 c24 c27 c33 c36 c39 c42 c17 c32:Nat}
theorem aCe {n:aX} {g6:(List Int)} {e2:Nat} {d6:aX} {e3:Nat} {g7:(List (List Int))} {m4:(List (aI × Int))} {d:Nat} {g8:(List fX)} {q4:Int} {q5:Nat} {R:((List (List Int)) × (List (aI × Int)) × (List fX))} (hm:tZ n g6 d6 g7 m4 g8 q4=some R) (hs:aF G K (aL 29 Kf a36 c37 g7::rL d m4::aL 132 K a39 c40 g8::box b35 130 [zS a36 g7.length c37,zM (some d),zS a39 g8.length c40,Value.func (.func 46) #[] #[]]::box b34 126 [zP (some ⟨b35,0,none⟩)]::L) w) (hG:G.lo=0) (v1:Hp.le Kf K) (h3:bG K a1 c2 n.Parts) (h6:bG K a4 c5 n.Meetings) (h9:bG K a7 c8 n.Allowed) (v4:bG K a10 c11 n.Hidden) (g3:bG K a13 c14 g6) (q6:fV K a16 e2 [Value.func (.func 23) #[zA #[zS a19 d6.Parts.length c20,zS a22 d6.Meetings.length c23,zS a25 d6.Allowed.length c26,zS a28 d6.Hidden.length c29]] #[]]) (q7:bG K a19 c20 d6.Parts) (q8:bG K a22 c23 d6.Meetings) (q9:bG K a25 c26 d6.Allowed) (r0:bG K a28 c29 d6.Hidden) (r1:fV K a31 e3 [Value.func (.func 85) #[] #[zP (some ⟨b34,0,none⟩),cR a41 q5]]) (r2:fV K a41 q5 [i64 q4]):
  Calls prog 49 ([zA #[zS a1 n.Parts.length c2,zS a4 n.Meetings.length c5,zS a7 n.Allowed.length c8,zS a10 n.Hidden.length c11],zS a13 g6.length c14,Value.func (.func 50) #[] #[cR a16 e2,cR a31 e3]]:List Value).toArray w (eZ fun v w'=>∃ K' r3 r4 r5 r6,v=zT #[]/\Hp.le K K'/\aF G K' (aL 29 K' r3 r4 R.1::rL d R.2.1::aL 132 K r5 r6 R.2.2::box b35 130 [zS r3 R.1.length r4,zM (some d),zS r5 R.2.2.length r6,Value.func (.func 46) #[] #[]]::box b34 126 [zP (some ⟨b35,0,none⟩)]::L) w'):=by
 let m:=[zS a1 n.Parts.length c2,zS a4 n.Meetings.length c5,zS a7 n.Allowed.length c8,zS a10 n.Hidden.length c11]
 let x:=[zP (some ⟨b35,0,none⟩)]
 let y:=[zS a13 g6.length c14]
 refine aO func49 rfl (by kernel_rfl) (by show (3:Nat)<=111;decide) ?_;unfold tZ at hm
 refine aK (dJ (v:=zA #[zS a1 n.Parts.length c2,zS a4 n.Meetings.length c5,zS a7 n.Allowed.length c8,zS a10 n.Hidden.length c11]) (vs:=m) hs rfl rfl (fun z w45 v5=>(dJ (v:=zS a13 g6.length c14) (vs:=y) v5 rfl rfl (fun j v6 r7=>(aH (aK (aD (jZ (vs:=[zP (some ⟨j,0,none⟩)]) rfl) (aJ (v:=Value.func (.func 90) #[] #[zP (some ⟨j,0,none⟩)]) (aH (aK (aD (aV (t':=0) mS rfl rfl) (aD (cJ aBH r7 (i:=1) rfl rfl rfl) (aD (bH (len:=n.Parts.length) rI rfl) (aG (v:=i64 0) (aH (aQ [] (fun f w=>∃ m7 m8 r8 m9 r9 s0 s1 s2,Hp.le K m7/\zO m8 r8 m9=some R/\aF G m7 (aL 132 K s1 s2 m9::aL 29 m7 r9 s0 m8::rL d r8::box b35 130 [zS r9 m8.length s0,zM (some d),zS s1 m9.length s2,Value.func (.func 46) #[] #[]]::box b34 126 x::L) w) aP ?_))))))))))))))))
 have a70:aF G K (box j 29 y::box z 28 m::aL 29 K a36 c37 g7::rL d m4::aL 132 K a39 c40 g8::box b35 130 [zS a36 g7.length c37,zM (some d),zS a39 g8.length c40,Value.func (.func 46) #[] #[]]::box b34 126 x::L) v6:=aF.weak (i:=2) r7 rfl (fun _ h=>aL.mono v1 h)
 obtain ⟨a71,v7,ho⟩:=aB hm
 refine vM [2,3,4,6,20,21] v7 (fun b4 e7 h0 e8 f w=>∃ d1 e9 f0 f1 f2,Hp.le K d1/\f 22=i64 b4/\aF G d1 (box j 29 y::box z 28 m::aL 29 d1 e9 f0 e7::rL d h0::aL 132 K f1 f2 e8::box b35 130 [zS e9 e7.length f0,zM (some d),zS f1 e8.length f2,Value.func (.func 46) #[] #[]]::box b34 126 x::L) w) aP ?_
 ·rintro b4 e7 h0 e8 n0 f w89 hm hr ⟨d1,e9,f0,f1,f2,e,i6,n1⟩
  unfold iQ at hm
  refine aK (aD (cU i6 rfl) (aH (aM ?_)))
  rcases aN hm with ⟨n2,hm⟩|⟨n2,hm⟩
  ·refine aS n2 rfl (aY (aC (aM (aQ [2,3,4,6,20,21,22] (fun f w=>∃ h1 i7 n3 i8 i9 j0 j1 j2,Hp.le d1 h1/\tJ b4 i7 n3 i8=some n0/\aF G h1 (aL 132 K j1 j2 i8::aL 29 h1 i9 j0 i7::box j 29 y::box z 28 m::rL d n3::box b35 130 [zS i9 i7.length j0,zM (some d),zS j1 i8.length j2,Value.func (.func 46) #[] #[]]::box b34 126 x::L) w) ?_ ?_))))
   ·rintro f a73 ⟨h1,i7,n3,i8,i9,j0,j1,j2,v8,hm,v9⟩
    unfold tJ at hm
    exact aC (aU (aD (dT i6 rfl) (aG (v:=i64 (wr (b4+1))) (aH ⟨_,(zI hm).symm,bL,h1,i9,j0,j1,j2,(zL e v8),rfl,(aF.arr 5 [2,3,1,4,0] v9 rfl)⟩))))
   refine aK (bC i6 ?_);obtain ⟨a,s3,hm⟩:=aB hm
   refine aD (dP rI rfl (h3.mono e) rfl rfl i6 s3) ?_;obtain ⟨a74,w0,w1⟩:=bG.el (sz:=4) rfl h3 s3
   obtain ⟨o,p,q,r,rfl,j3,w2⟩:=w1
   refine aD (fP (t:=0) (vs:=(zC a o p q r)) kJ n1 (w0.mono e) rfl rfl rfl) (aZ (vs:=zG) zeroValue35 n1 rfl (fun V a75 w3=>(aJ (v:=i64 b4) (bS (i:=0) (ns:=(zC a o p q r)) (us:=(zC a o p q r)) sizeOf35 w3 rfl rfl rfl rfl rfl (dQ rfl) rfl rfl (fun w4 (w5:aF G d1 (box V 35 (zC a o p q r)::box j 29 y::box z 28 m::aL 29 d1 e9 f0 e7::rL d h0::aL 132 K f1 f2 e8::box b35 130 [zS e9 e7.length f0,zM (some d),zS f1 e8.length f2,Value.func (.func 46) #[] #[]]::box b34 126 x::L) w4)=>(aH (aM ?_)))))))
   obtain ⟨a76,j4,w6,w7,w8⟩:=aF.lendBp w5 .head
   obtain ⟨w9,h2,x0,s4,x1⟩:=aF.lendBp w7 .head
   refine cW (C:=fun w'=>∃ L',aF G w9 L' w') [(0,0),(1,0),(2,0),(3,0),(4,0),(7,0),(5,1),(6,0)] Tryz_mixed (by kernel_rfl) (fun _ hg=>⟨_,aF.mono s4 hg⟩) (fun a77 x2=>?_)
   have f3:=aF.mono s4 x2
   refine bA rfl (fun _ ⟨_,f3⟩=>fP (t:=0) (vs:=(zC a o p q r)) kJ f3 (w6.mono h2) rfl rfl rfl) (bA rfl (fun _ ⟨_,f3⟩=>bD (t:=0) aAs f3 x0 rfl rfl) (bA rfl (fun _ _=>aW (v:=i64 b4) rfl) ?_));obtain ⟨x3,s5,hm⟩:=aB hm
   refine bA rfl (fun _ _=>dP bJ rfl (g3.mono (zL (zL e j4) h2)) rfl rfl rfl s5) ?_;obtain ⟨a78,x4,x5⟩:=bG.el (sz:=1) rfl g3 s5
   cases x5
   refine bA rfl (fun _ ⟨_,f3⟩=>bD (t:=0) dC f3 (x4.mono (zL (zL e j4) h2)) rfl rfl) (bA rfl (fun _ _=>aW (v:=i64 0) rfl) (jN rfl ?_));obtain ⟨a0,x6,hm⟩:=aB hm
   refine aR (vs:=[zA (zCa a o p q r),i64 x3]) call92 rfl (aAS x6 f3 (j3.mono (zL (zL e j4) h2)) (w2.mono (zL (zL e j4) h2))) ?_
   rintro _ a79 ⟨a2,a3,rfl,s6⟩
   refine aT (aC ⟨⟨_,s6⟩,?_⟩)
   refine bA rfl (fun _ _=>bH (len:=a0.length) cS rfl) (oS ?_)
   have x7:=x1 _ _ s6
   have x8:=w8 _ _ x7
   refine aC (aQ [2,3,4,6,20,21,22] (fun f w=>∃ n4 n5 s7 n6 s8 s9 t0 t1,Hp.le d1 n4/\tK b4 n5 s7 n6=some n0/\aF G n4 (aL 132 K t0 t1 n6::aL 29 n4 s8 s9 n5::box j 29 y::box z 28 m::rL d s7::box b35 130 [zS s8 n5.length s9,zM (some d),zS t0 n6.length t1,Value.func (.func 46) #[] #[]]::box b34 126 x::L) w) aP ?_);obtain ⟨a80,x9,ho⟩:=aB hm
   refine vM [2,3,4,6,7,8,20,21,22,32,33] x9 (fun g4 b6 d7 b7 f w=>∃ c9 c3 c4 c6 c7,Hp.le d1 c9/\f 34=i64 g4/\aF G c9 (box V 35 (zC a o p q r)::box j 29 y::aL 70 K a2 a3 a0::box z 28 m::aL 29 c9 c3 c4 b6::rL d d7::aL 132 K c6 c7 b7::box b35 130 [zS c3 b6.length c4,zM (some d),zS c6 b7.length c7,Value.func (.func 46) #[] #[]]::box b34 126 x::L) w) ?_ ?_
   ·exact ⟨d1,e9,f0,f1,f2,(zR _),rfl,x8⟩
   ·rintro g4 b6 d7 b7 n7 f a81 hm hr ⟨c9,c3,c4,c6,c7,g,n8,j5⟩
    unfold iP at hm
    refine aK (aD (cU n8 rfl) (aH (aM ?_)))
    rcases aN hm with ⟨n9,hm⟩|⟨n9,hm⟩
    ·refine aS n9 rfl (aY (aC (aM (aQ [2,3,4,6,7,8,20,21,22,32,33,34] (fun f w=>∃ h4 j6 o0 j7 j8 j9 k0 k1,Hp.le c9 h4/\tL g4 j6 o0 j7=some n7/\aF G h4 (aL 132 K k0 k1 j7::aL 29 h4 j8 j9 j6::box V 35 (zC a o p q r)::box j 29 y::aL 70 K a2 a3 a0::box z 28 m::rL d o0::box b35 130 [zS j8 j6.length j9,zM (some d),zS k0 j7.length k1,Value.func (.func 46) #[] #[]]::box b34 126 x::L) w) ?_ ?_))))
     ·rintro f a83 ⟨h4,j6,o0,j7,j8,j9,k0,k1,y0,hm,y1⟩
      unfold tL at hm
      exact aC (aU (aD (dT n8 rfl) (aG (v:=i64 (wr (g4+1))) (aH ⟨_,(zI hm).symm,bL,h4,j8,j9,k0,k1,(zL g y0),rfl,(aF.arr 7 [2,3,4,5,1,6,0] y1 rfl)⟩))))
     refine aK ?_;obtain ⟨b,o1,hm⟩:=aB hm
     have y2:=dU j5 (i:=2) rfl o1
     refine aD (fL cS rfl y2 rfl rfl n8 o1) (aD (aEo (t:=0) (vs:=[i64 b.F,i64 b.B,i64 b.To]) qA j5 (i:=2) rfl o1 rfl rfl rfl rfl) (aZ (vs:=[i64 0,i64 0,i64 0]) zeroValue70 j5 rfl (fun a9 a84 y3=>(bS (i:=0) (ns:=[i64 b.F,i64 b.B,i64 b.To]) (us:=[i64 b.F,i64 b.B,i64 b.To]) sizeOf70 y3 rfl rfl rfl rfl rfl (dQ rfl) rfl rfl (fun t2 (y4:aF G c9 (box a9 70 [i64 b.F,i64 b.B,i64 b.To]::box V 35 (zC a o p q r)::box j 29 y::aL 70 K a2 a3 a0::box z 28 m::aL 29 c9 c3 c4 b6::rL d d7::aL 132 K c6 c7 b7::box b35 130 [zS c3 b6.length c4,zM (some d),zS c6 b7.length c7,Value.func (.func 46) #[] #[]]::box b34 126 x::L) t2)=>(aH (aM ?_)))))))
     have t3:aF G c9 (box a9 70 [i64 b.F,i64 b.B,i64 b.To]::box V 35 (zC a o p q r)::box j 29 y::aL 70 K a2 a3 a0::box z 28 m::aL 29 c9 c3 c4 b6::rL d d7::aL 132 K c6 c7 b7::box b35 130 [zS c3 b6.length c4,zM (some d),zS c6 b7.length c7,Value.func (.func 46) #[] #[]]::box b34 126 x::L) t2:=y4
     refine cW (C:=fun w'=>∃ L',aF G c9 (box a9 70 [i64 b.F,i64 b.B,i64 b.To]::box V 35 (zC a o p q r)::L') w') [(0,0),(1,0),(2,0),(3,0),(4,0),(5,0),(6,0),(7,0),(8,0),(9,0),(10,0),(11,1),(12,1)] Tryz_mixed (by kernel_rfl) (fun _ hg=>⟨_,aF.mono t3 hg⟩) (fun a85 y5=>?_)
     have d8:=aF.mono t3 y5
     refine bA rfl (fun _ _=>aW (v:=Value.func (.func 50) #[] #[cR a16 e2,cR a31 e3]) rfl) (bA rfl (fun _ _=>aV (t':=2) oE rfl rfl) (bA rfl (fun _ ⟨_,d8⟩=>cJ xV d8 (i:=1) rfl rfl rfl) (bA rfl (fun _ _=>aV (t':=1) wO rfl rfl) (bA rfl (fun _ ⟨_,d8⟩=>cJ dC d8 (i:=0) rfl rfl rfl) ?_))));obtain ⟨o2,o3,hm⟩:=aB hm
     refine bA rfl (fun _ _=>dP eG rfl (j3.mono (zL e g)) rfl rfl rfl o3) ?_;obtain ⟨a87,t4,y6⟩:=bG.el (sz:=1) rfl j3 o3
     cases y6
     refine bA rfl (fun _ ⟨_,d8⟩=>bD (t:=0) aAq d8 (t4.mono (zL e g)) rfl rfl) (bA rfl (fun _ _=>aW (v:=Value.func (.func 90) #[] #[zP (some ⟨j,0,none⟩)]) rfl) (bA rfl (fun _ _=>aW (v:=i64 b4) rfl) (bA rfl (fun _ _=>aV (t':=2) pQ rfl rfl) (bA rfl (fun _ ⟨_,d8⟩=>cJ dC d8 (i:=0) rfl rfl rfl) (jN rfl ?_)))));obtain ⟨a88,y7,y8,y9,z0⟩:=aF.lendBp d8 zt2
     obtain ⟨t5,z1,hm⟩:=aB hm
     refine iS (vs:=[i64 b4,i64 b.To]) (caps:=[cR (some ⟨j,0,none⟩) 0]) (us:=[i64 b4,i64 b.To,cR (some ⟨j,0,none⟩) 0]) rfl call90 rfl rfl (sK z1 y9 y8 (g3.mono (zL (zL e g) y7))) ?_
     rintro _ o4 ⟨t6,t7,rfl,z2⟩
     have t8:=z0 _ _ z2
     refine aT (aC ⟨⟨_,(aF.arr 4 [2,3,0,1] t8 rfl)⟩,?_⟩)
     refine jN rfl ?_;obtain ⟨e4,k,z3,o5⟩:=aF.giveSp t8 (zL e g) zt1
     replace o5:aF G e4 (box j 29 y::box a9 70 [i64 b.F,i64 b.B,i64 b.To]::box V 35 (zC a o p q r)::aL 70 K a2 a3 a0::box z 28 m::aL 29 c9 c3 c4 b6::rL d d7::aL 132 K c6 c7 b7::box b35 130 [zS c3 b6.length c4,zM (some d),zS c6 b7.length c7,Value.func (.func 46) #[] #[]]::box b34 126 x::L) o4:=o5
     have z4:aF G e4 (box j 29 y::box a9 70 [i64 b.F,i64 b.B,i64 b.To]::box V 35 (zC a o p q r)::aL 70 K a2 a3 a0::box z 28 m::aL 29 e4 c3 c4 b6::rL d d7::aL 132 K c6 c7 b7::box b35 130 [zS c3 b6.length c4,zM (some d),zS c6 b7.length c7,Value.func (.func 46) #[] #[]]::box b34 126 x::L) o4:=aF.weak (i:=5) o5 rfl (fun _ h=>aL.mono k h)
     have z5:aF G e4 (aL 29 e4 c3 c4 b6::rL d d7::aL 132 K c6 c7 b7::box b35 130 [zS c3 b6.length c4,zM (some d),zS c6 b7.length c7,Value.func (.func 46) #[] #[]]::box b34 126 x::box j 29 y::box a9 70 [i64 b.F,i64 b.B,i64 b.To]::box V 35 (zC a o p q r)::aL 70 K a2 a3 a0::box z 28 m::L) o4:=(aF.arr 10 [5,6,7,8,9,0,1,2,3,4] z4 rfl)
     obtain ⟨a89,z6,hm⟩:=aB hm
     refine iS (vs:=[str o2,zS t6 t5.length t7]) (caps:=[cR a16 e2,cR a31 e3]) (us:=[str o2,zS t6 t5.length t7,cR a16 e2,cR a31 e3]) rfl call50 rfl rfl (nB (Kf:=e4) z6 z5 hG (zR _) z3 (q6.mono (zL (zL e g) k)) (q7.mono (zL (zL e g) k)) (q8.mono (zL (zL e g) k)) (q9.mono (zL (zL e g) k)) (r0.mono (zL (zL e g) k)) (r1.mono (zL (zL e g) k)) (r2.mono (zL (zL e g) k))) ?_
     rintro _ a90 ⟨a91,a92,a93,a94,rfl,z7⟩
     refine aT (aC ⟨⟨_,(aF.weakK (aF.arr 8 [6,7,0,1,2,3,4,5] z7 rfl) k)⟩,?_⟩)
     refine oS (aC (aK (aG (v:=i64 b4) (aD (dT rfl rfl) (aJ (v:=i64 (wr (b4+1))) (aH (aQ [2,3,4,6,7,8,20,21,22,32,33,34] (fun f w=>∃ h5 h7 k2 h8 k3 k4 k5 k6,Hp.le e4 h5/\pK g4 h7 k2 h8=some n7/\aF G h5 (aL 132 K k5 k6 h8::aL 29 h5 k3 k4 h7::rL d k2::box b35 130 [zS k3 h7.length k4,zM (some d),zS k5 h8.length k6,Value.func (.func 46) #[] #[]]::box b34 126 x::box j 29 y::box V 35 (zC a o p q r)::aL 70 K a2 a3 a0::box z 28 m::L) w) ?_ ?_)))))))
     ·rintro f a95 ⟨h5,h7,k2,h8,k3,k4,k5,k6,z8,hm,z9⟩
      unfold pK at hm
      exact dB (aC ⟨bL,h5,h7,k2,h8,k3,k4,k5,k6,(zL k z8),hm,(aF.arr 9 [0,1,6,5,7,8,2,3,4] z9 rfl)⟩)
     obtain ⟨a96,a00,ho⟩:=aB hm
     refine vM [2,3,4,6,7,8,10,20,21,22,32,33,34] a00 (fun g5 f4 i0 f5 f w=>∃ d2 f6 f7 f8 f9,Hp.le e4 d2/\f 11=i64 g5/\aF G d2 (aL 29 d2 f6 f7 f4::rL d i0::aL 132 K f8 f9 f5::box b35 130 [zS f6 f4.length f7,zM (some d),zS f8 f5.length f9,Value.func (.func 46) #[] #[]]::box b34 126 x::box j 29 y::box a9 70 [i64 b.F,i64 b.B,i64 b.To]::box V 35 (zC a o p q r)::aL 70 K a2 a3 a0::box z 28 m::L) w) aP ?_
     ·rintro g5 f4 i0 f5 o6 f a97 hm hr ⟨d2,f6,f7,f8,f9,J,i1,i2⟩
      unfold iO at hm
      refine aM (aK (bC i1 (aD (aV (t':=0) mS rfl rfl) (aD (cJ aBH i2 (i:=9) rfl rfl rfl) (aD (bH (len:=n.Parts.length) rI rfl) (aD (cU rfl rfl) (aH ?_)))))))
      rcases aN hm with ⟨o7,hm⟩|⟨o7,hm⟩
      ·refine aS o7 rfl (aY (aC (aM (aQ [2,3,4,6,7,8,10,11,20,21,22,32,33,34] (fun f w=>∃ i3 k7 o8 k8 k9 l0 l1 l2,Hp.le d2 i3/\tM g5 k7 o8 k8=some o6/\aF G i3 (aL 132 K l1 l2 k8::aL 29 i3 k9 l0 k7::rL d o8::box b35 130 [zS k9 k7.length l0,zM (some d),zS l1 k8.length l2,Value.func (.func 46) #[] #[]]::box b34 126 x::box j 29 y::box a9 70 [i64 b.F,i64 b.B,i64 b.To]::box V 35 (zC a o p q r)::aL 70 K a2 a3 a0::box z 28 m::L) w) ?_ ?_))))
       ·rintro f a98 ⟨i3,k7,o8,k8,k9,l0,l1,l2,a01,hm,a02⟩
        unfold tM at hm
        exact aC (aU (bC i1 (aD (dT rfl rfl) (aJ (v:=i64 (wr (g5+1))) (aH ⟨_,(zI hm).symm,bL,i3,k9,l0,l1,l2,(zL J a01),rfl,(aF.arr 3 [1,2,0] a02 rfl)⟩)))))
       refine aK (aD (aV (t':=0) mS rfl rfl) (aD (cJ aBH i2 (i:=9) rfl rfl rfl) (bC i1 ?_)));obtain ⟨c,t9,hm⟩:=aB hm
       refine aD (dP rI rfl (h3.mono (zL (zL (zL e g) k) J)) rfl rfl rfl t9) ?_;obtain ⟨a99,a03,a04⟩:=bG.el (sz:=4) rfl h3 t9
       obtain ⟨b8,b9,c0,c1,rfl,o9,a05⟩:=a04
       refine aD (fP (t:=0) (vs:=(zC c b8 b9 c0 c1)) kJ i2 (a03.mono (zL (zL (zL e g) k) J)) rfl rfl rfl) (aZ (vs:=zG) zeroValue35 i2 rfl (fun d3 b00 a06=>(bS (i:=0) (ns:=(zC c b8 b9 c0 c1)) (us:=(zC c b8 b9 c0 c1)) sizeOf35 a06 rfl rfl rfl rfl rfl (dQ rfl) rfl rfl (fun a07 (a08:aF G d2 (box d3 35 (zC c b8 b9 c0 c1)::aL 29 d2 f6 f7 f4::rL d i0::aL 132 K f8 f9 f5::box b35 130 [zS f6 f4.length f7,zM (some d),zS f8 f5.length f9,Value.func (.func 46) #[] #[]]::box b34 126 x::box j 29 y::box a9 70 [i64 b.F,i64 b.B,i64 b.To]::box V 35 (zC a o p q r)::aL 70 K a2 a3 a0::box z 28 m::L) a07)=>(aH (aM ?_))))))
       obtain ⟨b01,l3,a09,a11,a12⟩:=aF.lendBp a08 .head
       obtain ⟨a14,i4,a15,u0,a17⟩:=aF.lendBp a11 zt5
       refine cW (C:=fun w'=>∃ L',aF G a14 L' w') [(0,0),(1,0),(2,0),(3,0),(4,0),(7,0),(5,1),(6,0)] Tryz_mixed (by kernel_rfl) (fun _ hg=>⟨_,aF.mono u0 hg⟩) (fun b02 a18=>?_)
       have g0:=aF.mono u0 a18
       refine bA rfl (fun _ ⟨_,g0⟩=>fP (t:=0) (vs:=(zC c b8 b9 c0 c1)) kJ g0 (a09.mono i4) rfl rfl rfl) (bA rfl (fun _ ⟨_,g0⟩=>bD (t:=0) aAs g0 a15 rfl rfl) (bA rfl (fun _ _=>aW i1) ?_));obtain ⟨a20,u1,hm⟩:=aB hm
       refine bA rfl (fun _ _=>dP bJ rfl (g3.mono (zL (zL (zL (zL (zL e g) k) J) l3) i4)) rfl rfl rfl u1) ?_;obtain ⟨b03,a21,a23⟩:=bG.el (sz:=1) rfl g3 u1
       cases a23
       refine bA rfl (fun _ ⟨_,g0⟩=>bD (t:=0) dC g0 (a21.mono (zL (zL (zL (zL (zL e g) k) J) l3) i4)) rfl rfl) (bA rfl (fun _ _=>aW (v:=i64 0) rfl) (jN rfl ?_));obtain ⟨d4,a24,hm⟩:=aB hm
       refine aR (vs:=[zA (zCa c b8 b9 c0 c1),i64 a20]) call92 rfl (aAS a24 g0 (o9.mono (zL (zL (zL (zL (zL e g) k) J) l3) i4)) (a05.mono (zL (zL (zL (zL (zL e g) k) J) l3) i4))) ?_
       rintro _ b04 ⟨d9,e0,rfl,u2⟩
       refine aT (aC ⟨⟨_,u2⟩,?_⟩)
       refine bA rfl (fun _ _=>bH (len:=d4.length) cS rfl) (oS ?_)
       have a26:=a17 _ _ u2
       have a27:=a12 _ _ a26
       refine aC (aQ [2,3,4,6,7,8,10,11,20,21,22,32,33,34] (fun f w=>∃ p0 p1 u3 p2 u4 u5 u6 u7,Hp.le d2 p0/\tN g5 p1 u3 p2=some o6/\aF G p0 (aL 132 K u6 u7 p2::aL 29 p0 u4 u5 p1::box j 29 y::rL d u3::box b35 130 [zS u4 p1.length u5,zM (some d),zS u6 p2.length u7,Value.func (.func 46) #[] #[]]::box b34 126 x::box a9 70 [i64 b.F,i64 b.B,i64 b.To]::box V 35 (zC a o p q r)::aL 70 K a2 a3 a0::box z 28 m::L) w) aP ?_)
       obtain ⟨b05,a29,ho⟩:=aB hm
       refine vM [2,3,4,6,7,8,10,11,12,20,21,22,32,33,34,70,71] a29 (fun l4 a5 d0 a6 f w=>∃ b5 b0 b1 b2 b3,Hp.le d2 b5/\f 72=i64 l4/\aF G b5 (box d3 35 (zC c b8 b9 c0 c1)::box j 29 y::aL 70 K d9 e0 d4::aL 29 b5 b0 b1 a5::rL d d0::aL 132 K b2 b3 a6::box b35 130 [zS b0 a5.length b1,zM (some d),zS b2 a6.length b3,Value.func (.func 46) #[] #[]]::box b34 126 x::box a9 70 [i64 b.F,i64 b.B,i64 b.To]::box V 35 (zC a o p q r)::aL 70 K a2 a3 a0::box z 28 m::L) w) ?_ ?_
       ·exact ⟨d2,f6,f7,f8,f9,(zR _),rfl,a27⟩
       ·rintro l4 a5 d0 a6 a30 f b06 hm hr ⟨b5,b0,b1,b2,b3,a8,p3,l5⟩
        unfold jK at hm
        refine aK (aD (cU p3 rfl) (aH (aM ?_)))
        rcases aN hm with ⟨p4,hm⟩|⟨p4,hm⟩
        ·refine aS p4 rfl (aY (aC (aM (aQ [2,3,4,6,7,8,10,11,12,20,21,22,32,33,34,70,71,72] (fun f w=>∃ i5 l6 p5 l7 l8 l9 m0 m1,Hp.le b5 i5/\mN l4 l6 p5 l7=some a30/\aF G i5 (aL 132 K m0 m1 l7::aL 29 i5 l8 l9 l6::box d3 35 (zC c b8 b9 c0 c1)::box j 29 y::aL 70 K d9 e0 d4::rL d p5::box b35 130 [zS l8 l6.length l9,zM (some d),zS m0 l7.length m1,Value.func (.func 46) #[] #[]]::box b34 126 x::box a9 70 [i64 b.F,i64 b.B,i64 b.To]::box V 35 (zC a o p q r)::aL 70 K a2 a3 a0::box z 28 m::L) w) ?_ ?_))))
         ·rintro f b07 ⟨i5,l6,p5,l7,l8,l9,m0,m1,a32,hm,a33⟩
          unfold mN at hm
          exact aC (aU (aD (dT p3 rfl) (aG (v:=i64 (wr (l4+1))) (aH ⟨_,(zI hm).symm,bL,i5,l8,l9,m0,m1,(zL a8 a32),rfl,(aF.arr 6 [2,3,4,1,5,0] a33 rfl)⟩))))
         refine aK ?_;obtain ⟨l,p6,hm⟩:=aB hm
         have a34:=dU l5 (i:=2) rfl p6
         refine aD (fL cS rfl a34 rfl rfl p3 p6) (aD (aEo (t:=0) (vs:=[i64 l.F,i64 l.B,i64 l.To]) qA l5 (i:=2) rfl p6 rfl rfl rfl rfl) (aZ (vs:=[i64 0,i64 0,i64 0]) zeroValue70 l5 rfl (fun g1 b08 a35=>(bS (i:=0) (ns:=[i64 l.F,i64 l.B,i64 l.To]) (us:=[i64 l.F,i64 l.B,i64 l.To]) sizeOf70 a35 rfl rfl rfl rfl rfl (dQ rfl) rfl rfl (fun a37 (u:aF G b5 (box g1 70 [i64 l.F,i64 l.B,i64 l.To]::box d3 35 (zC c b8 b9 c0 c1)::box j 29 y::aL 70 K d9 e0 d4::aL 29 b5 b0 b1 a5::rL d d0::aL 132 K b2 b3 a6::box b35 130 [zS b0 a5.length b1,zM (some d),zS b2 a6.length b3,Value.func (.func 46) #[] #[]]::box b34 126 x::box a9 70 [i64 b.F,i64 b.B,i64 b.To]::box V 35 (zC a o p q r)::aL 70 K a2 a3 a0::box z 28 m::L) a37)=>(aH (aM (mC (C:=fun w'=>aF G b5 (box g1 70 [i64 l.F,i64 l.B,i64 l.To]::box d3 35 (zC c b8 b9 c0 c1)::box j 29 y::aL 70 K d9 e0 d4::aL 29 b5 b0 b1 a5::rL d d0::aL 132 K b2 b3 a6::box b35 130 [zS b0 a5.length b1,zM (some d),zS b2 a6.length b3,Value.func (.func 46) #[] #[]]::box b34 126 x::box a9 70 [i64 b.F,i64 b.B,i64 b.To]::box V 35 (zC a o p q r)::aL 70 K a2 a3 a0::box z 28 m::L) w') Tryz_mixed (by kernel_rfl) (aF.mono u (fJ.drew _)) (bX (fun _ u=>jH (us:=m) aBI u (i:=12) rfl rfl rfl rfl) (bX (fun _ u=>aV (t':=2) oE rfl rfl) (bX (fun _ u=>cJ xV u (i:=10) rfl rfl rfl) (bX (fun _ u=>aV (t':=1) wO rfl rfl) (bX (fun _ u=>cJ dC u (i:=9) rfl rfl rfl) (bX (fun _ u=>dP eG rfl (j3.mono (zL (zL (zL (zL e g) k) J) a8)) rfl rfl rfl o3) (bX (fun _ u=>bD (t:=0) aAq u (t4.mono (zL (zL (zL (zL e g) k) J) a8)) rfl rfl) (bX (fun _ u=>aV (t':=2) oE rfl rfl) (bX (fun _ u=>cJ xV u (i:=1) rfl rfl rfl) (bX (fun _ u=>aV (t':=1) wO rfl rfl) (bX (fun _ u=>cJ dC u (i:=0) rfl rfl rfl) ?_)))))))))))))))))))
         obtain ⟨a38,u8,hm⟩:=aB hm
         refine bX (fun _ u=>dP eG rfl (o9.mono (zL (zL (zL (zL e g) k) J) a8)) rfl rfl rfl u8) ?_;obtain ⟨b09,a40,a42⟩:=bG.el (sz:=1) rfl o9 u8
         cases a42
         refine bX (fun _ u=>bD (t:=0) aAq u (a40.mono (zL (zL (zL (zL e g) k) J) a8)) rfl rfl) ?_;obtain ⟨d5,a43,hm⟩:=aB hm
         refine aIg (vs:=[zA #[zS a1 n.Parts.length c2,zS a4 n.Meetings.length c5,zS a7 n.Allowed.length c8,zS a10 n.Hidden.length c11],str o2,str a38]) (v:=zT #[str d5.1,zB d5.2]) call93 rfl (fun _ u=>(xM a43 u hG (h3.mono (zL (zL (zL (zL e g) k) J) a8)) (h6.mono (zL (zL (zL (zL e g) k) J) a8)) (h9.mono (zL (zL (zL (zL e g) k) J) a8)) (v4.mono (zL (zL (zL (zL e g) k) J) a8)))) (bX (fun _ u=>aW (v:=zT #[str d5.1,zB d5.2]) rfl) (bX (fun _ u=>bV rfl rfl) (bX (fun _ u=>bV rfl rfl) (bX (fun _ u=>fW (v:=str d5.1) rfl) (bX (fun _ u=>fW (v:=zB d5.2) rfl) (vN (fun b10 p7=>(aC (aK (aG (v:=zB d5.2) (aH ?_)))))))))))
         rcases aN hm with ⟨p8,hm⟩|⟨p8,hm⟩
         ·refine aS p8 rfl (aK (aG (v:=Value.func (.func 90) #[] #[zP (some ⟨j,0,none⟩)]) (aG (v:=i64 b4) (aD (aV (t':=2) pQ rfl rfl) (aD (cJ dC p7 (i:=9) rfl rfl rfl) ?_)))));obtain ⟨b11,a44,a45,a46,a47⟩:=aF.lendBp p7 zt2
          obtain ⟨p9,a48,hm⟩:=aB hm
          refine iS (vs:=[i64 b4,i64 b.To]) (caps:=[cR (some ⟨j,0,none⟩) 0]) (us:=[i64 b4,i64 b.To,cR (some ⟨j,0,none⟩) 0]) rfl call90 rfl rfl (sK a48 a46 a45 (g3.mono (zL (zL (zL (zL (zL e g) k) J) a8) a44))) ?_
          rintro _ a49 ⟨e5,e6,rfl,a50⟩
          have q0:=a47 _ _ a50
          refine aJ (v:=zS e5 p9.length e6) (aH (aK (aG (v:=zS e5 p9.length e6) (bC i1 (aD (aV (t':=2) pQ rfl rfl) (aD (cJ dC q0 (i:=2) rfl rfl rfl) ?_))))));obtain ⟨b12,q1,hm⟩:=aB hm
          have a51:=dU q0 (i:=1) rfl q1
          refine aD (fL bJ rfl a51 rfl rfl rfl q1) ?_;obtain ⟨m2,u9,hm⟩:=aB hm
          have a52:aF G b5 (box j 29 y::aL 2 K e5 e6 p9::box g1 70 [i64 l.F,i64 l.B,i64 l.To]::box d3 35 (zC c b8 b9 c0 c1)::aL 70 K d9 e0 d4::aL 29 b5 b0 b1 a5::rL d d0::aL 132 K b2 b3 a6::box b35 130 [zS b0 a5.length b1,zM (some d),zS b2 a6.length b3,Value.func (.func 46) #[] #[]]::box b34 126 x::box a9 70 [i64 b.F,i64 b.B,i64 b.To]::box V 35 (zC a o p q r)::aL 70 K a2 a3 a0::box z 28 m::L) a49:=q0
          refine nO (i:=1) (t:=0) (ns:=[i64 l.To]) (e':=(l.To:Int)) sizeOf2 a52 rfl (zL (zL (zL (zL e g) k) J) a8) rfl rfl rfl q1 u9 rfl rfl (dQ rfl) rfl (fun cs h=>by cases h;rfl) (fun m3 (a54:aF G b5 (box j 29 y::aL 2 K e5 e6 m2::box g1 70 [i64 l.F,i64 l.B,i64 l.To]::box d3 35 (zC c b8 b9 c0 c1)::aL 70 K d9 e0 d4::aL 29 b5 b0 b1 a5::rL d d0::aL 132 K b2 b3 a6::box b35 130 [zS b0 a5.length b1,zM (some d),zS b2 a6.length b3,Value.func (.func 46) #[] #[]]::box b34 126 x::box a9 70 [i64 b.F,i64 b.B,i64 b.To]::box V 35 (zC a o p q r)::aL 70 K a2 a3 a0::box z 28 m::L) m3)=>(aH (aU (aG (v:=Value.func (.func 50) #[] #[cR a16 e2,cR a31 e3]) (aG (v:=str d5.1) (bC (v:=zS e5 m2.length e6) (Eq.trans rfl (congrArg (fun n=>zS e5 n e6) (jG u9))) ?_))))))
          obtain ⟨g2,e1,a55,q2⟩:=aF.giveSp a54 (zL (zL (zL (zL e g) k) J) a8) zt1
          replace q2:aF G g2 (box j 29 y::box g1 70 [i64 l.F,i64 l.B,i64 l.To]::box d3 35 (zC c b8 b9 c0 c1)::aL 70 K d9 e0 d4::aL 29 b5 b0 b1 a5::rL d d0::aL 132 K b2 b3 a6::box b35 130 [zS b0 a5.length b1,zM (some d),zS b2 a6.length b3,Value.func (.func 46) #[] #[]]::box b34 126 x::box a9 70 [i64 b.F,i64 b.B,i64 b.To]::box V 35 (zC a o p q r)::aL 70 K a2 a3 a0::box z 28 m::L) m3:=q2
          have a56:aF G g2 (box j 29 y::box g1 70 [i64 l.F,i64 l.B,i64 l.To]::box d3 35 (zC c b8 b9 c0 c1)::aL 70 K d9 e0 d4::aL 29 g2 b0 b1 a5::rL d d0::aL 132 K b2 b3 a6::box b35 130 [zS b0 a5.length b1,zM (some d),zS b2 a6.length b3,Value.func (.func 46) #[] #[]]::box b34 126 x::box a9 70 [i64 b.F,i64 b.B,i64 b.To]::box V 35 (zC a o p q r)::aL 70 K a2 a3 a0::box z 28 m::L) m3:=aF.weak (i:=4) q2 rfl (fun _ h=>aL.mono e1 h)
          have a58:aF G g2 (aL 29 g2 b0 b1 a5::rL d d0::aL 132 K b2 b3 a6::box b35 130 [zS b0 a5.length b1,zM (some d),zS b2 a6.length b3,Value.func (.func 46) #[] #[]]::box b34 126 x::box j 29 y::box g1 70 [i64 l.F,i64 l.B,i64 l.To]::box d3 35 (zC c b8 b9 c0 c1)::aL 70 K d9 e0 d4::box a9 70 [i64 b.F,i64 b.B,i64 b.To]::box V 35 (zC a o p q r)::aL 70 K a2 a3 a0::box z 28 m::L) m3:=(aF.arr 9 [4,5,6,7,8,0,1,2,3] a56 rfl)
          obtain ⟨q3,a59,hm⟩:=aB hm
          refine iS (vs:=[str d5.1,zS e5 m2.length e6]) (caps:=[cR a16 e2,cR a31 e3]) (us:=[str d5.1,zS e5 m2.length e6,cR a16 e2,cR a31 e3]) rfl call50 rfl rfl (nB (Kf:=g2) a59 a58 hG (zR _) a55 (q6.mono (zL (zL (zL (zL (zL e g) k) J) a8) e1)) (q7.mono (zL (zL (zL (zL (zL e g) k) J) a8) e1)) (q8.mono (zL (zL (zL (zL (zL e g) k) J) a8) e1)) (q9.mono (zL (zL (zL (zL (zL e g) k) J) a8) e1)) (r0.mono (zL (zL (zL (zL (zL e g) k) J) a8) e1)) (r1.mono (zL (zL (zL (zL (zL e g) k) J) a8) e1)) (r2.mono (zL (zL (zL (zL (zL e g) k) J) a8) e1))) ?_
          rintro _ b13 ⟨a60,a61,a62,a63,rfl,a64⟩
          exact aT (dB (aC ⟨bL,g2,q3.1,q3.2.1,q3.2.2,a60,a61,a62,a63,e1,hm,(aF.arr 9 [2,0,7,5,8,1,3,4] a64 rfl)⟩))
         ·exact bE p8 rfl (aY (dB (aC ⟨bL,b5,a5,d0,a6,b0,b1,b2,b3,(zR _),hm,(aF.arr 7 [6,4,1,2,3,5] p7 rfl)⟩)))
        ·refine bE p4 rfl (aBe (kO (kO ?_)))
         have a65:=hr _ (zI hm).symm
         subst a65
         have hm:(tN g5 a5 d0 a6)=some o6:=ho
         clear hr ho
         exact vL (aC ⟨bL,b5,a5,d0,a6,b0,b1,b2,b3,a8,hm,(aF.arr 6 [5,3,1,4] l5 rfl)⟩)
      ·refine bE o7 rfl (aBe (kO (kO ?_)))
       have a66:=hr _ (zI hm).symm
       subst a66
       have hm:(pK g4 f4 i0 f5)=some n7:=ho
       clear hr ho
       exact vL (aC ⟨bL,d2,f4,i0,f5,f6,f7,f8,f9,J,hm,(aF.arr 7 [2,0,1,3,4,5] i2 rfl)⟩)
    ·refine bE n9 rfl (aBe (kO (kO ?_)))
     have a67:=hr _ (zI hm).symm
     subst a67
     have hm:(tK b4 b6 d7 b7)=some n0:=ho
     clear hr ho
     exact vL (aC ⟨bL,c9,b6,d7,b7,c3,c4,c6,c7,g,hm,(aF.arr 7 [6,4,1,3,5] j5 rfl)⟩)
  ·refine bE n2 rfl (aBe (kO (kO ?_)))
   have a68:=hr _ (zI hm).symm
   subst a68
   have hm:(zO e7 h0 e8)=some R:=ho
   clear hr ho
   exact vL (aC ⟨bL,d1,e7,h0,e8,e9,f0,f1,f2,e,hm,(aF.arr 5 [4,2,3] n1 rfl)⟩)
theorem wK {s_:(List Int)} {d:(List (List Int))} {g:(List (aI × Int))} {c:Nat} {e:(List fX)} {o:Int} {j:Nat} {p:aX} {q k:Nat} {b:aX} {R:(Bool × (List (List Int)) × (List (aI × Int)) × (List fX))} (hm:pU s_ d g e o p b=some R) (hs:aF G K (aL 29 Kf a6 c7 d::rL c g::aL 132 K a9 c10 e::box b5 130 [zS a6 d.length c7,zM (some c),zS a9 e.length c10,Value.func (.func 46) #[] #[]]::box b4 126 [zP (some ⟨b5,0,none⟩)]::L) w) (hG:G.lo=0) (a4:Hp.le Kf K) (h3:bG K a1 c2 s_) (a7:fV K a11 j [i64 o]) (a8:fV K a14 q [zS a17 p.Parts.length c18,zS a20 p.Meetings.length c21,zS a23 p.Allowed.length c24,zS a26 p.Hidden.length c27]) (b0:bG K a17 c18 p.Parts) (b1:bG K a20 c21 p.Meetings) (b2:bG K a23 c24 p.Allowed) (b3:bG K a26 c27 p.Hidden) (b6:fV K a29 k [Value.func (.func 23) #[zA #[zS a32 b.Parts.length c33,zS a35 b.Meetings.length c36,zS a38 b.Allowed.length c39,zS a41 b.Hidden.length c42]] #[]]) (b7:bG K a32 c33 b.Parts) (b8:bG K a35 c36 b.Meetings) (b9:bG K a38 c39 b.Allowed) (c0:bG K a41 c42 b.Hidden):
  Calls prog 48 ([zS a1 s_.length c2,Value.func (.func 85) #[] #[zP (some ⟨b4,0,none⟩),cR a11 j],cR a14 q,cR a29 k]:List Value).toArray w (eZ fun v w'=>∃ m r u x y,v=zB R.1/\Hp.le K m/\aF G m (aL 29 m r u R.2.1::rL c R.2.2.1::aL 132 K x y R.2.2.2::box b5 130 [zS r R.2.1.length u,zM (some c),zS x R.2.2.2.length y,Value.func (.func 46) #[] #[]]::box b4 126 [zP (some ⟨b5,0,none⟩)]::L) w'):=by
 let z:=[zS a6 d.length c7,zM (some c),zS a9 e.length c10,Value.func (.func 46) #[] #[]]
 refine aO func48 rfl (by kernel_rfl) (by show (4:Nat)<=11;decide) ?_;unfold pU at hm
 refine aK (dJ (v:=Value.func (.func 85) #[] #[zP (some ⟨b4,0,none⟩),cR a11 j]) (vs:=[Value.func (.func 85) #[] #[zP (some ⟨b4,0,none⟩),cR a11 j]]) hs rfl rfl (fun J V a0=>(aJ (v:=zB false) (aH (aK (aD (fP (t:=0) (vs:=[zS a17 p.Parts.length c18,zS a20 p.Meetings.length c21,zS a23 p.Allowed.length c24,zS a26 p.Hidden.length c27]) aBI a0 a8 rfl rfl rfl) (aG (v:=zS a1 s_.length c2) (aD (jZ (vs:=[cR a29 k,zP (some ⟨J,0,none⟩)]) rfl) ?_))))))))
 obtain ⟨l,a,c1,n,_⟩:=aF.lendBp a0 .head
 replace n:aF G l (aL 29 Kf a6 c7 d::rL c g::aL 132 K a9 c10 e::box b5 130 z::box b4 126 [zP (some ⟨b5,0,none⟩)]::L) V:=n
 have c3:aF G l (aL 29 l a6 c7 d::rL c g::aL 132 K a9 c10 e::box b5 130 z::box b4 126 [zP (some ⟨b5,0,none⟩)]::L) V:=aF.weak (i:=0) n rfl (fun _ h=>aL.mono (zL a4 a) h)
 obtain ⟨d4,c4,hm⟩:=aB hm
 refine aR (vs:=[zA #[zS a17 p.Parts.length c18,zS a20 p.Meetings.length c21,zS a23 p.Allowed.length c24,zS a26 p.Hidden.length c27],zS a1 s_.length c2,Value.func (.func 50) #[] #[cR a29 k,cR (some ⟨J,0,none⟩) 0]]) call49 rfl (aCe (Kf:=l) c4 c3 hG (zR _) (b0.mono a) (b1.mono a) (b2.mono a) (b3.mono a) (h3.mono a) (b6.mono a) (b7.mono a) (b8.mono a) (b9.mono a) (c0.mono a) c1 (a7.mono a)) ?_
 rintro _ d5 ⟨c5,c6,c8,c9,d0,rfl,d1,d2⟩
 refine aH (aK (aJ (v:=zB true) (aH ?_)));obtain rfl:=zI hm
 exact fU (eE results48 rfl ⟨c5,c6,c8,c9,d0,rfl,(zL a d1),d2⟩)
theorem yL {d7:(List Int)} {b3:aX} {k5 d9:Nat} {b4:aX} {R:(bB × (List (List Int)) × Bool)} (hm:oB d7 b3 b4=some R) (hs:aF G K (L) w) (hG:G.lo=0) (h3:bG K a1 c2 d7) (h6:fV K a4 k5 [zS a7 b3.Parts.length c8,zS a10 b3.Meetings.length c11,zS a13 b3.Allowed.length c14,zS a16 b3.Hidden.length c17]) (h9:bG K a7 c8 b3.Parts) (l4:bG K a10 c11 b3.Meetings) (l5:bG K a13 c14 b3.Allowed) (l6:bG K a16 c17 b3.Hidden) (l7:fV K a19 d9 [Value.func (.func 23) #[zA #[zS a22 b4.Parts.length c23,zS a25 b4.Meetings.length c26,zS a28 b4.Allowed.length c29,zS a31 b4.Hidden.length c32]] #[]]) (l8:bG K a22 c23 b4.Parts) (l9:bG K a25 c26 b4.Meetings) (m0:bG K a28 c29 b4.Allowed) (m1:bG K a31 c32 b4.Hidden):
  Calls prog 45 ([zS a1 d7.length c2,Value.func (.func 46) #[] #[],Value.func (.func 48) #[] #[cR a4 k5,cR a19 d9]]:List Value).toArray w (eZ fun v w'=>∃ K' h8 i0 i1 i2 i3 i4,v=zT #[zA (zCa R.1 h8 i0 i1 i2),zS i3 R.2.1.length i4,zB R.2.2]/\Hp.le K K'/\aF G K' (aL 9 K h8 i0 R.1.L::aL 70 K i1 i2 R.1.E::aL 29 K' i3 i4 R.2.1::L) w'):=by
 let d:=zG
 refine aO func45 rfl (by kernel_rfl) (by show (3:Nat)<=73;decide) ?_;unfold oB at hm
 refine aK (aZ (vs:=d) zeroValue35 hs rfl (fun g x1 m2=>(aJ (v:=zS none 0 0) (aJ (v:=zB false) (aH (aK (aOd aI Int m2 ?_)))))))
 intro a m3 (m4:aF G K (rL a ([]:(List (aI × Int)))::box g 35 d::L) m3)
 refine aG (v:=Value.func (.func 46) #[] #[]) (aD (iR (vs:=[(1,zM (some a)),(3,Value.func (.func 46) #[] #[])]) (cs:=[zS none 0 0,zM (some a),zS none 0 0,Value.func (.func 46) #[] #[]]) bs_130 rfl (by kernel_rfl)) (dJ (v:=zA #[zS none 0 0,zM (some a),zS none 0 0,Value.func (.func 46) #[] #[]]) (vs:=[zS none 0 0,zM (some a),zS none 0 0,Value.func (.func 46) #[] #[]]) m4 rfl rfl (fun b x2 m5=>(aZ (vs:=[zP none]) zeroValue126 m5 rfl (fun e x3 m6=>(bS (i:=0) (ns:=[zP (some ⟨b,0,none⟩)]) (us:=[zP (some ⟨b,0,none⟩)]) sizeOf126 m6 rfl rfl rfl rfl rfl (dQ rfl) rfl rfl ?_))))))
 intro i5 (i6:aF G K (box e 126 [zP (some ⟨b,0,none⟩)]::box b 130 [zS none 0 0,zM (some a),zS none 0 0,Value.func (.func 46) #[] #[]]::rL a ([]:(List (aI × Int)))::box g 35 d::L) i5)
 refine aH (aK (aD (cJ aDl i6 (i:=0) rfl rfl rfl) (aG (v:=zS a1 d7.length c2) ?_)))
 have m7:=aF.nil (α:=(List Int)) i6 29 K
 have m8:=aF.nil (α:=fX) m7 132 K
 have m9:aF G K (aL 29 K none 0 ([]:List (List Int))::rL a ([]:(List (aI × Int)))::aL 132 K none 0 ([]:List fX)::box b 130 [zS none 0 0,zM (some a),zS none 0 0,Value.func (.func 46) #[] #[]]::box e 126 [zP (some ⟨b,0,none⟩)]::box g 35 d::L) i5:=(aF.arr 5 [1,4,0,3,2] m8 rfl)
 obtain ⟨g1,n0,hm⟩:=aB hm
 refine aR (vs:=[zP (some ⟨b,0,none⟩),zS a1 d7.length c2]) call84 rfl (iZ (Kf:=K) n0 m9 hG (zR _) h3) ?_
 rintro _ x4 ⟨i7,i8,rfl,n1⟩
 refine aH (aM (aK (aZ (vs:=[i64 0]) zeroValue3 n1 rfl (fun n2 x5 n3=>(bS (i:=0) (ns:=[i64 0]) (us:=[i64 0]) sizeOf3 n3 rfl rfl rfl rfl rfl (dQ rfl) rfl rfl (fun n4 (n5:aF G K (box n2 3 [i64 0]::aL 29 K i7 i8 g1.2.1::rL a g1.2.2::aL 132 K none 0 ([]:List fX)::box b 130 [zS i7 g1.2.1.length i8,zM (some a),zS none 0 0,Value.func (.func 46) #[] #[]]::box e 126 [zP (some ⟨b,0,none⟩)]::box g 35 d::L) n4)=>(aH (aQ [6,9] (fun f w=>∃ y k b9 l J V n o,Hp.le K y/\lI k b9 l=some R/\aF G y (aL 132 K n o l::aL 29 y J V k::rL a b9::box b 130 [zS J k.length V,zM (some a),zS n l.length o,Value.func (.func 46) #[] #[]]::box e 126 [zP (some ⟨b,0,none⟩)]::box g 35 d::L) w) ?_ ?_))))))))
 ·rintro f x6 ⟨y,k,b9,l,J,V,n,o,b1,hm,n6⟩
  unfold lI at hm
  refine aC (aM (cH [6,9] (fun f w=>∃ c0 c1 b6 b7 g2 d2 d3 d4 d5,oH k c0 c1 b6 b7=some R/\f 12=zP (some ⟨g2,0,none⟩)/\aF G y (aL 70 K d4 d5 b7::aL 9 K d2 d3 b6::box g2 35 [i64 c0,i64 c1,zS d2 b6.length d3,zS d4 b7.length d5]::aL 132 K n o l::aL 29 y J V k::rL a b9::box b 130 [zS J k.length V,zM (some a),zS n l.length o,Value.func (.func 46) #[] #[]]::box e 126 [zP (some ⟨b,0,none⟩)]::box g 35 d::L) w) ?_ ?_))
  ·rintro f x7 ⟨c0,c1,b6,b7,g2,d2,d3,d4,d5,hm,i9,n7⟩
   unfold oH at hm
   refine aC (aM ?_);obtain ⟨x8,j0,j1,n8,x9⟩:=aF.lendBp n7 zt2
   obtain ⟨y0,e1,n9,o0,y1⟩:=aF.lendBp n8 zt5
   obtain ⟨o1,e0,o2,j2,y2⟩:=aF.lendBp o0 zt5
   refine cW (C:=fun w'=>∃ L',aF G o1 L' w') [(0,0),(1,0),(2,0),(3,0),(4,0),(5,1),(6,1),(7,1),(8,2),(9,2)] Tryz_mixed (by kernel_rfl) (fun _ hg=>⟨_,aF.mono j2 hg⟩) (fun y3 o3=>?_)
   have b5:=aF.mono j2 o3
   refine bA rfl (fun _ ⟨_,b5⟩=>fP (t:=0) (vs:=[i64 c0,i64 c1,zS d2 b6.length d3,zS d4 b7.length d5]) kJ b5 (j1.mono (zL e1 e0)) i9 rfl rfl) (bA rfl (fun _ ⟨_,b5⟩=>bD (t:=0) aDl b5 o2 rfl rfl) (bA rfl (fun _ _=>sW rfl) (bA rfl (fun _ _=>aV (t':=0) aBJ rfl rfl) (bA rfl (fun _ ⟨_,b5⟩=>bD (t:=0) aHj b5 (n9.mono e0) rfl rfl) (jN rfl (aD (fP (t:=0) (vs:=[i64 c0,i64 c1,zS d2 b6.length d3,zS d4 b7.length d5]) kJ b5 (j1.mono (zL e1 e0)) i9 rfl rfl) (aT (aC ⟨⟨_,b5⟩,?_⟩))))))))
   refine jN rfl ?_;obtain ⟨y4,o4,o5,o6,o7⟩:=aF.lendSp b5 (zL (zL (zL b1 j0) e1) e0) zt1
   obtain ⟨y5,o8,o9,p0,p1⟩:=aF.lendSp o6 (zL (zL (zL (zL b1 j0) e1) e0) o4) .head
   obtain ⟨y6,p2,hm⟩:=aB hm
   refine aR (vs:=[zA #[i64 c0,i64 c1,zS d2 b6.length d3,zS d4 b7.length d5]]) call39 rfl (aFH (t:=⟨c0,c1,b6,b7⟩) p2 p0 hG (o5.mono o8) o9) ?_
   rintro _ y7 ⟨rfl,p3⟩
   have p4:=p1 _ _ p3
   have y8:=o7 _ _ p4
   exact aP
  obtain ⟨y9,b8,g3,p5,g4⟩:=aF.lendBp n6 zt3
  obtain ⟨p6,a0,g5,p7,g6⟩:=aF.lendBp p5 zt3
  refine aAb (C:=fun w'=>∃ L',aF G p6 L' w') [16] Tryz_mixed (by kernel_rfl) (fun z0 p8=>?_)
  have c:=aF.mono p7 p8
  refine jB (i:=0) rfl (by kernel_rfl) ⟨_,c⟩ (fun _ ⟨_,c⟩=>bD (t:=0) aDl c g5 rfl rfl) (jB (i:=1) rfl (by kernel_rfl) ⟨_,c⟩ (fun _ _=>sW rfl) (jB (i:=2) rfl (by kernel_rfl) ⟨_,c⟩ (fun _ _=>aV (t':=0) aBJ rfl rfl) (jB (i:=3) rfl (by kernel_rfl) ⟨_,c⟩ (fun _ ⟨_,c⟩=>bD (t:=0) aHj c (g3.mono a0) rfl rfl) (jB (i:=4) rfl (by kernel_rfl) ⟨_,c⟩ (fun _ _=>bH (len:=k.length) nW rfl) (jB (i:=5) rfl (by kernel_rfl) ⟨_,c⟩ (fun _ ⟨_,c⟩=>bD (t:=0) aDl c g5 rfl rfl) (jB (i:=6) rfl (by kernel_rfl) ⟨_,c⟩ (fun _ _=>sW rfl) (jB (i:=7) rfl (by kernel_rfl) ⟨_,c⟩ (fun _ _=>aV (t':=2) aDm rfl rfl) (jB (i:=8) rfl (by kernel_rfl) ⟨_,c⟩ (fun _ ⟨_,c⟩=>bD (t:=2) aIZ c (g3.mono a0) rfl rfl) (jB (i:=10) rfl (by kernel_rfl) ⟨_,c⟩ (fun _ ⟨_,c⟩=>bD (t:=0) aDl c g5 rfl rfl) (jB (i:=11) rfl (by kernel_rfl) ⟨_,c⟩ (fun _ _=>sW rfl) (jB (i:=12) rfl (by kernel_rfl) ⟨_,c⟩ (fun _ _=>aV (t':=2) aDm rfl rfl) (jB (i:=13) rfl (by kernel_rfl) ⟨_,c⟩ (fun _ ⟨_,c⟩=>bD (t:=2) aIZ c (g3.mono a0) rfl rfl) (uX (i:=9) (j:=15) (by kernel_rfl) rfl rfl ?_ ?_)))))))))))))
  ·obtain ⟨z1,z2,p9,q0,q1⟩:=aF.lendSp c (zL (zL b1 b8) a0) .head
   obtain ⟨e2,q2,hm⟩:=aB hm
   refine aR (vs:=[zS n l.length o]) call87 rfl (aCp q2 q0 p9) ?_
   rintro _ z3 ⟨e3,e4,rfl,q3⟩
   have g7:=q1 _ _ q3
   refine aT (aC ⟨fun _=>⟨_,g7⟩,?_⟩)
   refine uX (i:=14) (j:=15) (by kernel_rfl) rfl rfl ?_ ?_
   ·obtain ⟨z4,q4,q5,q6,q7⟩:=aF.lendSp g7 (zL (zL b1 b8) a0) zt1
    obtain ⟨z5,q8,q9,r0,r1⟩:=aF.lendSp q6 (zL (zL (zL b1 b8) a0) q4) .head
    obtain ⟨q,r2,hm⟩:=aB hm
    refine aR (vs:=[i64 (k.length:Int),i64 0,zS e3 e2.length e4,zS n l.length o]) call86 rfl (aFq r2 r0 (q5.mono q8) q9) ?_
    rintro _ z6 ⟨e5,e6,e7,e8,rfl,r3⟩
    have r4:=r1 _ _ r3
    have j3:=q7 _ _ r4
    refine aT (aC ⟨fun _=>⟨_,j3⟩,?_⟩)
    refine cN (i:=15) (by kernel_rfl) rfl (aZ (vs:=d) zeroValue35 j3 rfl (fun r5 z7 j4=>(aT (aC ⟨fun _=>⟨_,j4⟩,?_⟩))))
    refine cN (i:=16) (by kernel_rfl) rfl ?_
    have r6:=g6 _ _ j4
    have r7:=g4 _ _ r6
    refine bS (i:=2) (ns:=(zC q e5 e6 e7 e8)) (us:=(zC q e5 e6 e7 e8)) sizeOf35 r7 rfl rfl rfl rfl rfl (dQ rfl) rfl rfl (fun r8 (z8:aF G y (box b 130 [zS J k.length V,zM (some a),zS n l.length o,Value.func (.func 46) #[] #[]]::box e 126 [zP (some ⟨b,0,none⟩)]::box r5 35 (zC q e5 e6 e7 e8)::aL 9 K e3 e4 e2::aL 132 K n o l::aL 9 K e5 e6 q.L::aL 70 K e7 e8 q.E::aL 29 y J V k::rL a b9::box g 35 d::L) r8)=>(aT (aC ⟨aFM rfl,?_⟩)))
    exact lW (by kernel_rfl) aP
   ·refine aZ (vs:=d) zeroValue35 g7 rfl (fun r9 z9 j5=>(aT (aC ⟨fun _=>⟨_,j5⟩,?_⟩)))
    refine cN (i:=14) (by kernel_rfl) rfl ?_;obtain ⟨a00,s0,s1,s2,s3⟩:=aF.lendSp j5 (zL (zL b1 b8) a0) zt2
    obtain ⟨a01,s4,s5,s6,s7⟩:=aF.lendSp s2 (zL (zL (zL b1 b8) a0) s0) zt1
    obtain ⟨r,s8,hm⟩:=aB hm
    refine aR (vs:=[i64 (k.length:Int),i64 0,zS e3 e2.length e4,zS n l.length o]) call86 rfl (aFq s8 s6 (s1.mono s4) s5) ?_
    rintro _ a02 ⟨e9,f0,f1,f2,rfl,s9⟩
    have t0:=s7 _ _ s9
    have j6:=s3 _ _ t0
    refine aT (aC ⟨fun _=>⟨_,j6⟩,?_⟩)
    refine cN (i:=16) (by kernel_rfl) rfl ?_
    have t1:=g6 _ _ j6
    have t2:=g4 _ _ t1
    refine bS (i:=6) (ns:=(zC r e9 f0 f1 f2)) (us:=(zC r e9 f0 f1 f2)) sizeOf35 t2 rfl rfl rfl rfl rfl (dQ rfl) rfl rfl (fun t3 (a03:aF G y (box b 130 [zS J k.length V,zM (some a),zS n l.length o,Value.func (.func 46) #[] #[]]::box e 126 [zP (some ⟨b,0,none⟩)]::aL 9 K e3 e4 e2::aL 132 K n o l::aL 9 K e9 f0 r.L::aL 70 K f1 f2 r.E::box r9 35 (zC r e9 f0 f1 f2)::aL 29 y J V k::rL a b9::box g 35 d::L) t3)=>(aT (aC ⟨aFM rfl,?_⟩)))
    exact lW (by kernel_rfl) aP
  ·refine aZ (vs:=d) zeroValue35 c rfl (fun t4 a04 j7=>(aT (aC ⟨fun _=>⟨_,j7⟩,?_⟩)))
   refine cN (i:=9) (by kernel_rfl) rfl ?_;obtain ⟨a05,a06,t5,t6,t7⟩:=aF.lendSp j7 (zL (zL b1 b8) a0) zt1
   obtain ⟨j8,t8,hm⟩:=aB hm
   refine aR (vs:=[zS n l.length o]) call87 rfl (aCp t8 t6 t5) ?_
   rintro _ a07 ⟨j9,k0,rfl,t9⟩
   have k1:=t7 _ _ t9
   refine aT (aC ⟨fun _=>⟨_,k1⟩,?_⟩)
   refine cN (i:=14) (by kernel_rfl) rfl ?_;obtain ⟨a08,u0,u1,u2,u3⟩:=aF.lendSp k1 (zL (zL b1 b8) a0) zt1
   obtain ⟨a09,u4,u5,u6,u7⟩:=aF.lendSp u2 (zL (zL (zL b1 b8) a0) u0) .head
   obtain ⟨u,u8,hm⟩:=aB hm
   refine aR (vs:=[i64 (k.length:Int),i64 0,zS j9 j8.length k0,zS n l.length o]) call86 rfl (aFq u8 u6 (u1.mono u4) u5) ?_
   rintro _ a11 ⟨f3,f4,f5,f6,rfl,u9⟩
   have v0:=u7 _ _ u9
   have k2:=u3 _ _ v0
   refine aT (aC ⟨fun _=>⟨_,k2⟩,?_⟩)
   refine cN (i:=16) (by kernel_rfl) rfl ?_
   have v1:=g6 _ _ k2
   have v2:=g4 _ _ v1
   refine bS (i:=6) (ns:=(zC u f3 f4 f5 f6)) (us:=(zC u f3 f4 f5 f6)) sizeOf35 v2 rfl rfl rfl rfl rfl (dQ rfl) rfl rfl (fun v3 (a12:aF G y (box b 130 [zS J k.length V,zM (some a),zS n l.length o,Value.func (.func 46) #[] #[]]::box e 126 [zP (some ⟨b,0,none⟩)]::aL 9 K j9 k0 j8::aL 132 K n o l::aL 9 K f3 f4 u.L::aL 70 K f5 f6 u.E::box t4 35 (zC u f3 f4 f5 f6)::aL 29 y J V k::rL a b9::box g 35 d::L) v3)=>(aT (aC ⟨aFM rfl,?_⟩)))
   exact lW (by kernel_rfl) aP
 have a14:=aF.nil (α:=fX) n5 132 K
 obtain ⟨a15,v4,ho⟩:=aB hm
 refine vM [2,6,9] v4 (fun z d6 a2 b2 f w=>∃ c3 a3 a5 a6 a8 c4,Hp.le K c3/\f 10=zP (some ⟨c4,0,none⟩)/\aF G c3 (aL 132 K a6 a8 a2::box c4 3 [i64 b2]::aL 29 c3 a3 a5 z::rL a d6::box b 130 [zS a3 z.length a5,zM (some a),zS a6 a2.length a8,Value.func (.func 46) #[] #[]]::box e 126 [zP (some ⟨b,0,none⟩)]::box g 35 d::L) w) aP ?_
 ·rintro z d6 a2 b2 v5 f a17 hm hr ⟨c3,a3,a5,a6,a8,c4,a9,f7,b0⟩
  unfold dH at hm
  refine aM (aM (mC (C:=fun w'=>aF G c3 (aL 132 K a6 a8 a2::box c4 3 [i64 b2]::aL 29 c3 a3 a5 z::rL a d6::box b 130 [zS a3 z.length a5,zM (some a),zS a6 a2.length a8,Value.func (.func 46) #[] #[]]::box e 126 [zP (some ⟨b,0,none⟩)]::box g 35 d::L) w') Tryz_mixed (by kernel_rfl) (aF.mono b0 (fJ.drew _)) (bX (fun _ b0=>cJ sc_3 b0 (i:=1) rfl f7 rfl) (bX (fun _ b0=>cJ aDl b0 (i:=5) rfl rfl rfl) (bX (fun _ b0=>sW rfl) (bX (fun _ b0=>aV (t':=0) aBJ rfl rfl) (bX (fun _ b0=>cJ aHj b0 (i:=4) rfl rfl rfl) (bX (fun _ b0=>bH (len:=z.length) nW rfl) (bX (fun _ b0=>cU rfl rfl) (vN (fun v6 v7=>(aC ?_))))))))))))
  rcases aN hm with ⟨k3,hm⟩|⟨k3,hm⟩
  ·refine aS k3 rfl (aY (aC (aM (cV (aM ?_)))));obtain ⟨c5,x,g8,g9,_⟩:=aF.lendBp v7 zt1
   replace g9:aF G c5 (aL 132 K a6 a8 a2::aL 29 c3 a3 a5 z::rL a d6::box b 130 [zS a3 z.length a5,zM (some a),zS a6 a2.length a8,Value.func (.func 46) #[] #[]]::box e 126 [zP (some ⟨b,0,none⟩)]::box g 35 d::L) v6:=g9
   refine aAb (C:=fun w'=>∃ L',aF G c5 L' w') [] Tryz_mixed (by kernel_rfl) (fun k4 v8=>?_)
   have p:=aF.mono g9 v8
   refine jB (i:=0) rfl (by kernel_rfl) ⟨_,p⟩ (fun _ _=>aW (v:=Value.func (.func 48) #[] #[cR a4 k5,cR a19 d9]) rfl) (jB (i:=5) rfl (by kernel_rfl) ⟨_,p⟩ (fun _ ⟨_,p⟩=>bD (t:=0) sc_3 p g8 (aIn f7) rfl) (jB (i:=8) rfl (by kernel_rfl) ⟨_,p⟩ (fun _ _=>jZ (vs:=[zP (some ⟨e,0,none⟩),cR (some ⟨c4,0,none⟩) 0]) (lst2 rfl (aIn f7))) (cN (i:=1) (by kernel_rfl) rfl (aD (cJ aDl p (i:=4) rfl rfl rfl) (aT (aC ⟨fun _=>⟨_,p⟩,?_⟩))))))
   refine jB (i:=2) rfl (by kernel_rfl) ⟨_,p⟩ (fun _ _=>sW rfl) (jB (i:=3) rfl (by kernel_rfl) ⟨_,p⟩ (fun _ _=>aV (t':=0) aBJ rfl rfl) (cN (i:=4) (by kernel_rfl) rfl (aD (cJ aHj p (i:=3) rfl rfl rfl) (aT (aC ⟨fun _=>⟨_,p⟩,?_⟩)))))
   obtain ⟨h0,h1,hm⟩:=aB hm
   have v9:=dU p (i:=1) rfl h1
   refine jB (i:=6) rfl (by kernel_rfl) ⟨_,p⟩ (fun _ _=>fL nW rfl v9 rfl rfl rfl h1) (cN (i:=7) (by kernel_rfl) rfl ?_);obtain ⟨a18,w0,w1⟩:=own_el (sz:=1) rfl p (i:=1) rfl h1
   obtain ⟨h2,h4,rfl,w2⟩:=w1
   refine aD (R_ldC (t:=0) (v:=zS h2 h0.length h4) aAs w0 rfl rfl) (aT (aC ⟨fun _=>⟨_,p⟩,?_⟩))
   refine cN (i:=9) (by kernel_rfl) rfl ?_
   have w3:aF G c5 (aL 132 K a6 a8 a2::aL 29 c5 a3 a5 z::rL a d6::box b 130 [zS a3 z.length a5,zM (some a),zS a6 a2.length a8,Value.func (.func 46) #[] #[]]::box e 126 [zP (some ⟨b,0,none⟩)]::box g 35 d::L) k4:=aF.weak (i:=1) p rfl (fun _ h=>aL.mono x h)
   have w4:aF G c5 (aL 29 c5 a3 a5 z::rL a d6::aL 132 K a6 a8 a2::box b 130 [zS a3 z.length a5,zM (some a),zS a6 a2.length a8,Value.func (.func 46) #[] #[]]::box e 126 [zP (some ⟨b,0,none⟩)]::box g 35 d::L) k4:=(aF.arr 3 [1,2,0] w3 rfl)
   obtain ⟨m,w5,hm⟩:=aB hm
   refine iS (vs:=[zS h2 h0.length h4,Value.func (.func 85) #[] #[zP (some ⟨e,0,none⟩),cR (some ⟨c4,0,none⟩) 0]]) (caps:=[cR a4 k5,cR a19 d9]) (us:=[zS h2 h0.length h4,Value.func (.func 85) #[] #[zP (some ⟨e,0,none⟩),cR (some ⟨c4,0,none⟩) 0],cR a4 k5,cR a19 d9]) rfl call48 rfl rfl (wK (Kf:=c5) w5 w4 hG (zR _) (w2.mono x) g8 (h6.mono (zL a9 x)) (h9.mono (zL a9 x)) (l4.mono (zL a9 x)) (l5.mono (zL a9 x)) (l6.mono (zL a9 x)) (l7.mono (zL a9 x)) (l8.mono (zL a9 x)) (l9.mono (zL a9 x)) (m0.mono (zL a9 x)) (m1.mono (zL a9 x))) ?_
   rintro _ a20 ⟨c6,c7,c9,d0,d1,rfl,f8,k6⟩
   refine aT (aC ⟨fun _=>⟨_,(aF.weakK k6 f8)⟩,?_⟩)
   refine jB (i:=10) rfl (by kernel_rfl) ⟨_,(aF.weakK k6 f8)⟩ (fun _ _=>fW (v:=zB m.1) rfl) (lW (by kernel_rfl) (aC (aM (cH [2,6,9,10] (fun f w=>∃ h5,lJ b2 m h5=some v5/\f 48=zB h5/\aF G c6 (aL 29 c6 c7 c9 m.2.1::rL a m.2.2.1::aL 132 K d0 d1 m.2.2.2::box b 130 [zS c7 m.2.1.length c9,zM (some a),zS d0 m.2.2.2.length d1,Value.func (.func 46) #[] #[]]::box e 126 [zP (some ⟨b,0,none⟩)]::box g 35 d::L) w) ?_ ?_))))
   ·rintro f a21 ⟨h5,hm,w6,k7⟩
    unfold lJ at hm
    refine aC ?_
    rcases aN hm with ⟨k8,hm⟩|⟨k8,hm⟩
    ·exact aP
    ·exact bE k8 w6 (aY (dB (aC (aM (aK (aD (bD (t:=0) sc_3 k7 (g8.mono f8) (aIn f7) rfl) (aH (aU (aZ (vs:=[i64 0]) zeroValue3 k7 rfl (fun h7 a23 w7=>(bS (i:=0) (ns:=[i64 b2]) (us:=[i64 b2]) sizeOf3 w7 rfl rfl rfl rfl rfl (dQ rfl) rfl rfl (fun w8 (k9:aF G c6 (box h7 3 [i64 b2]::aL 29 c6 c7 c9 m.2.1::rL a m.2.2.1::aL 132 K d0 d1 m.2.2.2::box b 130 [zS c7 m.2.1.length c9,zM (some a),zS d0 m.2.2.2.length d1,Value.func (.func 46) #[] #[]]::box e 126 [zP (some ⟨b,0,none⟩)]::box g 35 d::L) w8)=>(aH (aU (aD (cJ sc_3 k9 (i:=0) rfl rfl rfl) (aD (dT rfl rfl) (bS (i:=0) (ns:=[i64 (wr (b2+1))]) (us:=[i64 (wr (b2+1))]) sizeOf3 k9 rfl rfl rfl rfl rfl (dQ rfl) rfl rfl (fun w9 (x0:aF G c6 (box h7 3 [i64 (wr (b2+1))]::aL 29 c6 c7 c9 m.2.1::rL a m.2.2.1::aL 132 K d0 d1 m.2.2.2::box b 130 [zS c7 m.2.1.length c9,zM (some a),zS d0 m.2.2.2.length d1,Value.func (.func 46) #[] #[]]::box e 126 [zP (some ⟨b,0,none⟩)]::box g 35 d::L) w9)=>(aH ⟨_,(zI hm).symm,bL,c6,c7,c9,d0,d1,h7,(zL (zL a9 x) f8),rfl,(aF.arr 4 [3,0,1,2] x0 rfl)⟩)))))))))))))))))))
   exact aP
  ·exact aP
theorem aAm {n j:aX} {R:(bB × (List (List Int)) × Bool)} (hm:pL n j=some R) (hs:aF G K (L) w) (hG:G.lo=0) (h3:bG K a1 c2 n.Parts) (h6:bG K a4 c5 n.Meetings) (h9:bG K a7 c8 n.Allowed) (g6:bG K a10 c11 n.Hidden) (g7:bG K a13 c14 j.Parts) (g8:bG K a16 c17 j.Meetings) (g9:bG K a19 c20 j.Allowed) (h0:bG K a22 c23 j.Hidden):
  Calls prog 22 ([zA #[zS a1 n.Parts.length c2,zS a4 n.Meetings.length c5,zS a7 n.Allowed.length c8,zS a10 n.Hidden.length c11],Value.func (.func 23) #[zA #[zS a13 j.Parts.length c14,zS a16 j.Meetings.length c17,zS a19 j.Allowed.length c20,zS a22 j.Hidden.length c23]] #[]]:List Value).toArray w (eZ fun v w'=>∃ K' e0 e1 e2 e3 e4 e5,v=zT #[zA (zCa R.1 e0 e1 e2 e3),zS e4 R.2.1.length e5,zB R.2.2]/\Hp.le K K'/\aF G K' (aL 9 K e0 e1 R.1.L::aL 70 K e2 e3 R.1.E::aL 29 K' e4 e5 R.2.1::L) w'):=by
 let b2:=[Value.func (.func 23) #[zA #[zS a13 j.Parts.length c14,zS a16 j.Meetings.length c17,zS a19 j.Allowed.length c20,zS a22 j.Hidden.length c23]] #[]]
 let m:=zG
 let b6:=[zS a1 n.Parts.length c2,zS a4 n.Meetings.length c5,zS a7 n.Allowed.length c8,zS a10 n.Hidden.length c11]
 refine aO func22 rfl (by kernel_rfl) (by show (2:Nat)<=64;decide) ?_;unfold pL at hm
 refine aK (dJ (v:=zA #[zS a1 n.Parts.length c2,zS a4 n.Meetings.length c5,zS a7 n.Allowed.length c8,zS a10 n.Hidden.length c11]) (vs:=b6) hs rfl rfl (fun b3 n6 h1=>(dJ (v:=Value.func (.func 23) #[zA #[zS a13 j.Parts.length c14,zS a16 j.Meetings.length c17,zS a19 j.Allowed.length c20,zS a22 j.Hidden.length c23]] #[]) (vs:=b2) h1 rfl rfl (fun a0 n7 h2=>(aZ (vs:=m) zeroValue35 h2 rfl (fun r n8 e6=>(aJ (v:=zS none 0 0) (aJ (v:=zB false) (aH (aK (aJ (v:=zS none 0 0) (aH (aM (aK (aD (aV (t':=0) mS rfl rfl) (aD (cJ aBH e6 (i:=2) rfl rfl rfl) (aD (bH (len:=n.Parts.length) rI rfl) (aG (v:=i64 0) (aH (aQ [2,3,4] (fun f w=>∃ b4 b7 b8,pW n j b4=some R/\f 7=zS b7 b4.length b8/\aF G K (aL 2 K b7 b8 b4::box r 35 m::box a0 58 b2::box b3 28 b6::L) w) ?_ ?_))))))))))))))))))))
 ·rintro f c9 ⟨b4,b7,b8,hm,h4,h5⟩
  unfold pW at hm
  refine aC (aK (bC h4 (aD (jZ (vs:=[zP (some ⟨b3,0,none⟩),zP (some ⟨a0,0,none⟩)]) rfl) ?_)));obtain ⟨h7,u,h8,d0⟩:=aF.giveSp h5 (zR _) .head
  replace d0:aF G h7 (box r 35 m::box a0 58 b2::box b3 28 b6::L) c9:=d0
  obtain ⟨i0,o,i1,d1,_⟩:=aF.lendBp d0 zt2
  replace d1:aF G i0 (box r 35 m::box a0 58 b2::L) c9:=d1
  obtain ⟨i2,l,i3,d2,_⟩:=aF.lendBp d1 zt1
  replace d2:aF G i2 (box r 35 m::L) c9:=d2
  obtain ⟨a,i4,hm⟩:=aB hm
  refine aR (vs:=[zS b7 b4.length b8,Value.func (.func 46) #[] #[],Value.func (.func 48) #[] #[cR (some ⟨b3,0,none⟩) 0,cR (some ⟨a0,0,none⟩) 0]]) call45 rfl (yL i4 d2 hG (h8.mono (zL o l)) (i1.mono l) (h3.mono (zL (zL u o) l)) (h6.mono (zL (zL u o) l)) (h9.mono (zL (zL u o) l)) (g6.mono (zL (zL u o) l)) i3 (g7.mono (zL (zL u o) l)) (g8.mono (zL (zL u o) l)) (g9.mono (zL (zL u o) l)) (h0.mono (zL (zL u o) l))) ?_
  rintro _ n9 ⟨b,c,d,e,g,x,y,rfl,b9,i5⟩
  refine aG (v:=zT #[zA (zCa a.1 c d e g),zS x a.2.1.length y,zB a.2.2]) (aD (bV rfl rfl) (aD (bV rfl rfl) (aD (bV rfl rfl) (aZ (vs:=m) zeroValue35 i5 rfl (fun J o0 i6=>(aZ (vs:=[zS none 0 0]) zeroValue39 i6 rfl (fun V o1 i7=>(bS (i:=1) (ns:=(zC a.1 c d e g)) (us:=(zC a.1 c d e g)) sizeOf35 i7 rfl rfl rfl rfl rfl (dQ rfl) rfl rfl (fun i8 (i9:aF G b (box V 39 [zS none 0 0]::box J 35 (zC a.1 c d e g)::aL 9 K c d a.1.L::aL 70 K e g a.1.E::aL 29 b x y a.2.1::box r 35 m::L) i8)=>(bS (i:=0) (ns:=[zS x a.2.1.length y]) (us:=[zS x a.2.1.length y]) sizeOf39 i9 rfl rfl rfl rfl rfl (dQ rfl) rfl rfl (fun j0 (e7:aF G b (box V 39 [zS x a.2.1.length y]::box J 35 (zC a.1 c d e g)::aL 9 K c d a.1.L::aL 70 K e g a.1.E::aL 29 b x y a.2.1::box r 35 m::L) j0)=>(aJ (v:=zB a.2.2) (aH (aM (aK (aG (v:=zB a.2.2) (aD (aFA rfl) (aH ?_))))))))))))))))))
  rcases aN hm with ⟨e8,hm⟩|⟨e8,hm⟩
  ·exact aP
  ·refine bE e8 rfl (aY (aC (aK (aD (aV (t':=0) gT rfl rfl) (aD (cJ dC e7 (i:=1) rfl rfl rfl) ?_)))));obtain ⟨d3,j1,hm⟩:=aB hm
   refine aR (vs:=[i64 a.1.N]) call51 rfl (aGD j1 e7) ?_
   rintro _ o2 ⟨p,q,rfl,j2⟩
   refine aJ (v:=zS p d3.length q) (aH (aK (aG (v:=zS p d3.length q) (aD (jZ (vs:=[zP (some ⟨V,0,none⟩)]) rfl) ?_))));obtain ⟨o3,o4,j3,j4,j5⟩:=aF.lendSp j2 (zR _) zt5
   obtain ⟨o5,j6,j7,j8,j9⟩:=aF.lendBp j4 zt1
   obtain ⟨z,k0,hm⟩:=aB hm
   refine aR (vs:=[zS p d3.length q,Value.func (.func 53) #[] #[cR (some ⟨V,0,none⟩) 0]]) call52 rfl (lib_SortIdx j8 j7 (j3.mono j6) k0) ?_
   rintro _ o6 ⟨rfl,e9,k1⟩
   have k2:=j9 _ _ k1
   have k3:=j5 _ _ k2
   refine aH (aK (aJ (v:=zS none 0 0) (aH (aM (aK (bC (v:=zS p z.length q) (Eq.trans rfl (congrArg (fun n=>zS p n q) e9)) (aD (bH (len:=z.length) bJ rfl) (aG (v:=i64 0) (aH (aQ [4,10,13] (fun f w=>∃ a2 a3 a5,pV a z a2=some R/\f 14=zS a3 a2.length a5/\aF G b (aL 29 b a3 a5 a2::aL 2 K p q z::box J 35 (zC a.1 c d e g)::aL 9 K c d a.1.L::aL 70 K e g a.1.E::box r 35 m::L) w) ?_ ?_))))))))))
   ·rintro f o7 ⟨a2,a3,a5,hm,k4,f0⟩
    unfold pV at hm
    refine aC (aK (aD (jH (us:=(zC a.1 c d e g)) kJ f0 (i:=2) rfl rfl rfl rfl) (bC (v:=zS p z.length q) (Eq.trans rfl (congrArg (fun n=>zS p n q) e9)) ?_)));obtain ⟨o8,f1,k5,k6,k7⟩:=aF.lendSp f0 (zL (zL (zL u o) l) b9) zt3
    obtain ⟨o9,f2,k8,k9,l0⟩:=aF.lendSp k6 (zL (zL (zL (zL u o) l) b9) f1) zt3
    obtain ⟨p0,f3,l1,l2,l3⟩:=aF.lendSp k9 (zL (zL (zL (zL (zL u o) l) b9) f1) f2) zt1
    obtain ⟨k,l4,hm⟩:=aB hm
    refine aR (vs:=[zA (zCa a.1 c d e g),zS p z.length q]) call55 rfl (uC l4 l2 (k5.mono (zL f2 f3)) (k8.mono f3) l1) ?_
    rintro _ p1 ⟨a6,a8,a9,b0,rfl,l5⟩
    have l6:=l3 _ _ l5
    have l7:=l0 _ _ l6
    have l8:=k7 _ _ l7
    refine bC k4 (bS (i:=7) (ns:=(zC k a6 a8 a9 b0)) (us:=(zC k a6 a8 a9 b0)) sizeOf35 l8 rfl rfl rfl rfl rfl (dQ rfl) rfl rfl (fun l9 (f4:aF G b (aL 9 K c d a.1.L::aL 70 K e g a.1.E::aL 2 K p q z::aL 9 K a6 a8 k.L::aL 70 K a9 b0 k.E::aL 29 b a3 a5 a2::box J 35 (zC a.1 c d e g)::box r 35 (zC k a6 a8 a9 b0)::L) l9)=>(aJ (v:=zS a3 a2.length a5) (aJ (v:=zB true) (aH ?_)))));obtain rfl:=zI hm
    exact fU (retQ_m3 results22 (aDg (vs:=(zC k a6 a8 a9 b0)) rfl kJ f4 (i:=7) rfl rfl rfl) (aMQ rfl rfl) (aMQ rfl rfl) ⟨b,a6,a8,a9,b0,a3,a5,rfl,(zL (zL (zL u o) l) b9),(aF.arr 8 [3,4,5] f4 rfl)⟩)
   have p2:=aF.nil (α:=(List Int)) k3 29 b
   obtain ⟨p3,m1,ho⟩:=aB hm
   refine cC [4,10,11,13,46,47] m1 (fun c0 d4 f w=>∃ c1 c3,f 14=zS c1 c0.length c3/\f 48=i64 d4/\aF G b (aL 29 b c1 c3 c0::aL 29 b x y a.2.1::box V 39 [zS x a.2.1.length y]::aL 2 K p q z::box J 35 (zC a.1 c d e g)::aL 9 K c d a.1.L::aL 70 K e g a.1.E::box r 35 m::L) w) aP ?_
   ·rintro c0 d4 p4 f p5 hm hr ⟨c1,c3,m2,d5,b1⟩
    unfold kG at hm
    refine aK (aD (cU d5 rfl) (aH (aM ?_)))
    rcases aN hm with ⟨f5,hm⟩|⟨f5,hm⟩
    ·refine aS f5 rfl (aY (aC (aM (cV (aK ?_)))));obtain ⟨f6,d6,hm⟩:=aB hm
     have m3:=dU b1 (i:=3) rfl d6
     refine aD (fL bJ rfl m3 rfl rfl d5 d6) (aD (rH (t:=0) dC b1 (i:=3) rfl d6 rfl rfl rfl) (aJ (v:=i64 f6) (aH (aU (bC m2 (aD (cJ aHj b1 (i:=2) rfl rfl rfl) (aG (v:=i64 f6) ?_)))))));obtain ⟨b5,d7,hm⟩:=aB hm
     have m4:=dU b1 (i:=1) rfl d7
     refine aD (fL nW rfl m4 rfl rfl rfl d7) ?_;obtain ⟨p6,m5,m6⟩:=own_el (sz:=1) rfl b1 (i:=1) rfl d7
     obtain ⟨c4,c6,rfl,m7⟩:=m6
     refine aD (R_ldC (t:=0) (v:=zS c4 b5.length c6) aAs m5 rfl rfl) (cK (Kt:=b) (xs:=([b5]:List (List Int))) (cs:=[zS c4 b5.length c6]) (vs:=[(0,zS c4 b5.length c6)]) nW aDk rfl rfl b1 rfl (by kernel_rfl) rfl rfl rfl ⟨⟨c4,c6,rfl,m7⟩,trivial⟩ (fun m8 m9 (n0:aF G b (aL 29 b m8 1 ([b5]:List (List Int))::aL 29 b c1 c3 c0::aL 29 b x y a.2.1::box V 39 [zS x a.2.1.length y]::aL 2 K p q z::box J 35 (zC a.1 c d e g)::aL 9 K c d a.1.L::aL 70 K e g a.1.E::box r 35 m::L) m9)=>?_))
     obtain ⟨f7,n1,hm⟩:=aB hm
     exact aFe (i:=0) b nW underlying39 aDk rfl rfl n0 rfl (zR _) (zR _) n1 rfl rfl rfl rfl (fun _ _ _ h=>El.one h) (fun d8 d9 n2 (n3:aF G b (aL 29 b d8 d9 f7::aL 29 b x y a.2.1::box V 39 [zS x a.2.1.length y]::aL 2 K p q z::box J 35 (zC a.1 c d e g)::aL 9 K c d a.1.L::aL 70 K e g a.1.E::box r 35 m::L) n2)=>(aJ (v:=zS d8 f7.length d9) (aT (dB (aC (aU (aD (dT d5 rfl) (aG (v:=i64 (wr (d4+1))) (aH ⟨_,(zI hm).symm,bL,d8,d9,rfl,rfl,n3⟩)))))))))
    ·exact aP
 have p7:=aF.nil (α:=Int) e6 2 K
 obtain ⟨p8,n4,ho⟩:=aB hm
 exact cC [2,3,4,18,19] n4 (fun f8 n5 f w=>∃ f9 g0,f 7=zS f9 f8.length g0/\f 20=i64 n5/\aF G K (aL 2 K f9 g0 f8::box r 35 m::box a0 58 b2::box b3 28 b6::L) w) aP aP
theorem pY {n:aX} {R:(bB × (List (List Int)) × Int)} (hm:mO n=some R) (x:aF G K (L) w) (j:G.lo=0) (b:bG K a1 c2 n.Parts) (c:bG K a4 c5 n.Meetings) (d:bG K a7 c8 n.Allowed) (e:bG K a10 c11 n.Hidden):
  Calls prog 9 ([zA #[zS a1 n.Parts.length c2,zS a4 n.Meetings.length c5,zS a7 n.Allowed.length c8,zS a10 n.Hidden.length c11]]:List Value).toArray w (eZ fun v w'=>∃ g k l m o p q,v=zT #[zA (zCa R.1 k l m o),zS p R.2.1.length q,i64 R.2.2]/\Hp.le K g/\aF G g (aL 9 K k l R.1.L::aL 70 K m o R.1.E::aL 29 g p q R.2.1::L) w'):=by
 let a:=[zS a1 n.Parts.length c2,zS a4 n.Meetings.length c5,zS a7 n.Allowed.length c8,zS a10 n.Hidden.length c11]
 let r:=[zA #[zS a1 n.Parts.length c2,zS a4 n.Meetings.length c5,zS a7 n.Allowed.length c8,zS a10 n.Hidden.length c11]]
 refine aO func9 rfl (by kernel_rfl) (by show (1:Nat)<=25;decide) ?_;unfold mO at hm
 refine aK (dJ (v:=zA #[zS a1 n.Parts.length c2,zS a4 n.Meetings.length c5,zS a7 n.Allowed.length c8,zS a10 n.Hidden.length c11]) (vs:=a) x rfl rfl (fun V a0 y=>(aZ (vs:=zG) zeroValue35 y rfl (fun a2 a3 t=>(aJ (v:=zS none 0 0) (aJ (v:=i64 0) (aH (aM (aK (aD (jH (us:=a) aBI t (i:=1) rfl rfl rfl rfl) ?_))))))))));obtain ⟨a5,z,hm⟩:=aB hm
 refine aR (vs:=r) call19 rfl (aCz z t j b c d e) ?_
 rintro _ a6 ⟨rfl,h⟩
 refine aD (aFA rfl) (aH ?_)
 rcases aN hm with ⟨u,hm⟩|⟨u,hm⟩
 ·exact aP
 ·refine bE u rfl (aY (aC (aK (aD (jH (us:=a) aBI h (i:=1) rfl rfl rfl rfl) (aD (jH (us:=a) aBI h (i:=1) rfl rfl rfl rfl) (aD (aOh (bs:=r) (vs:=[]) rfl rfl) ?_))))));obtain ⟨a8,J,hm⟩:=aB hm
  exact aR (vs:=[zA #[zS a1 n.Parts.length c2,zS a4 n.Meetings.length c5,zS a7 n.Allowed.length c8,zS a10 n.Hidden.length c11],Value.func (.func 23) #[zA #[zS a1 n.Parts.length c2,zS a4 n.Meetings.length c5,zS a7 n.Allowed.length c8,zS a10 n.Hidden.length c11]] #[]]) call22 rfl (aAm J h j b c d e b c d e) aP
theorem aFr {a b:bB} {p:(List Int)} {R:Bool} (hm:vD a b p=some R) (c:aF G K (L) w) (d:bG K a1 c2 a.L) (e:bG K a4 c5 a.E) (g:bG K a7 c8 b.L) (h:bG K a10 c11 b.E) (i:bG K a13 c14 p):
  Calls prog 58 ([zA (zCa a a1 c2 a4 c5),zA (zCa b a7 c8 a10 c11),zS a13 p.length c14]:List Value).toArray w (eZ fun v w'=>v=zB R/\aF G K (L) w'):=by
 exact aP
theorem aCq {t:bB} {R:(List fX)} (hm:aBq t=some R) (hs:aF G K (L) w) (p:bG K a1 c2 t.L) (q:bG K a4 c5 t.E):
  Calls prog 146 ([zA (zCa t a1 c2 a4 c5)]:List Value).toArray w (eZ fun v w'=>∃ r u,v=zS r R.length u/\aF G K (aL 132 K r u R::L) w'):=by
 let l:=(zC t a1 c2 a4 c5)
 refine aO func146 rfl (by kernel_rfl) (by show (1:Nat)<=29;decide) ?_;unfold aBq at hm
 refine aK (dJ (v:=zA (zCa t a1 c2 a4 c5)) (vs:=l) hs rfl rfl (fun x w8 y=>(aJ (v:=zS none 0 0) (aH (aK (aJ (v:=zS none 0 0) (aH (aM (aK (aD (aV (t':=3) fY rfl rfl) (aD (cJ oJ y (i:=0) rfl rfl rfl) (aD (bH (len:=t.E.length) cS rfl) (aG (v:=i64 0) (aH (aQ [] (fun f w=>∃ m z J,aHt m=some R/\f 3=zS z m.length J/\aF G K (aL 132 K z J m::L) w) aP ?_)))))))))))))))
 have d6:=aF.nil (α:=fX) y 132 K
 obtain ⟨d7,b4,ho⟩:=aB hm
 refine cC [1,7,8] b4 (fun e V f w=>∃ g j,f 3=zS g e.length j/\f 9=i64 V/\aF G K (aL 132 K g j e::box x 35 l::L) w) aP ?_
 ·rintro e V d8 f d9 hm hr ⟨g,j,b5,a0,a2⟩
  unfold yI at hm
  refine aK (aD (cU a0 rfl) (aH (aM ?_)))
  rcases aN hm with ⟨a3,hm⟩|⟨a3,hm⟩
  ·refine aS a3 rfl (aY (aC (aM (cV (aK ?_)))));obtain ⟨a,a5,hm⟩:=aB hm
   refine aD (dP cS rfl q rfl rfl a0 a5) ?_;obtain ⟨e0,b6,b8⟩:=bG.el (sz:=3) rfl q a5
   cases b8
   refine aD (fP (t:=0) (vs:=[i64 a.F,i64 a.B,i64 a.To]) qA a2 b6 rfl rfl rfl) (aZ (vs:=[i64 0,i64 0,i64 0]) zeroValue70 a2 rfl (fun b9 e1 c0=>(bS (i:=0) (ns:=[i64 a.F,i64 a.B,i64 a.To]) (us:=[i64 a.F,i64 a.B,i64 a.To]) sizeOf70 c0 rfl rfl rfl rfl rfl (dQ rfl) rfl rfl (fun c1 (c3:aF G K (box b9 70 [i64 a.F,i64 a.B,i64 a.To]::aL 132 K g j e::box x 35 l::L) c1)=>(aH ?_)))));obtain ⟨e2,k,n,c4,e3⟩:=aF.lendBp c3 .head
   obtain ⟨o,c,c6,a6,c7⟩:=aF.lendBp c4 zt1
   refine cW (C:=fun w'=>∃ L',aF G o L' w') [(0,0),(1,0),(2,0),(3,0),(4,0),(5,0),(6,0),(7,0),(8,0),(9,0),(10,0),(11,0),(12,1),(13,1),(14,0)] Tryz_mixed (by kernel_rfl) (fun _ hg=>⟨_,aF.mono a6 hg⟩) (fun e4 c8=>?_)
   have b:=aF.mono a6 c8
   refine bA rfl (fun _ _=>aW b5) (bA rfl (fun _ _=>aV (t':=0) uY rfl rfl) (bA rfl (fun _ ⟨_,b⟩=>bD (t:=0) dC b (n.mono c) rfl rfl) (bA rfl (fun _ _=>aV (t':=2) oE rfl rfl) (bA rfl (fun _ ⟨_,b⟩=>bD (t:=2) xV b c6 rfl rfl) (bA rfl (fun _ _=>aV (t':=1) wO rfl rfl) (bA rfl (fun _ ⟨_,b⟩=>bD (t:=1) dC b (n.mono c) rfl rfl) ?_))))));obtain ⟨d,a7,hm⟩:=aB hm
   refine bA rfl (fun _ _=>dP eG rfl (p.mono (zL k c)) rfl rfl rfl a7) ?_;obtain ⟨e5,c9,d0⟩:=bG.el (sz:=1) rfl p a7
   cases d0
   refine bA rfl (fun _ ⟨_,b⟩=>bD (t:=0) aAq b (c9.mono (zL k c)) rfl rfl) (bA rfl (fun _ _=>aV (t':=2) pQ rfl rfl) (bA rfl (fun _ ⟨_,b⟩=>bD (t:=2) dC b (n.mono c) rfl rfl) (bA rfl (fun _ _=>iR (vs:=[(0,i64 a.F),(1,str d),(2,i64 a.To)]) (cs:=[i64 a.F,str d,i64 a.To]) aNb rfl (by kernel_rfl)) (jN rfl (cK (Kt:=K) (xs:=([⟨a.F,d,a.To⟩]:List fX)) (cs:=[i64 a.F,str d,i64 a.To]) (vs:=[(0,zA #[i64 a.F,str d,i64 a.To])]) aBj aFh rfl rfl b rfl (by kernel_rfl) rfl rfl rfl ⟨rfl,trivial⟩ (fun d1 d2 (a8:aF G o (aL 132 K d1 1 ([⟨a.F,d,a.To⟩]:List fX)::aL 132 K g j e::L) d2)=>(aT (aC ⟨⟨_,a8⟩,?_⟩))))))))
   refine jN rfl ?_;obtain ⟨a9,d3,hm⟩:=aB hm
   refine nE (i:=0) aBj underlying128 aFh rfl rfl a8 rfl (zL k c) (zL k c) d3 rfl rfl rfl rfl (fun _ h=>h) (fun b0 b1 d4 (b2:aF G o (aL 132 K b0 b1 a9::L) d4)=>(aT (aC ⟨⟨_,b2⟩,?_⟩)))
   refine bA rfl (fun _ _=>fW (v:=zS b0 a9.length b1) rfl) (oS ?_)
   have e6:=c7 _ _ b2
   exact aP
  ·exact aP
end Gv
namespace Gv
open Go.Value renaming slice→zS,bool→zB,agg→zA,tuple→zT
open Option.some renaming inj→zI
open Gv.Hp renaming le_trans→zL,le_refl→zR
open Go Go.Proofs Go.Proofs.Tryz
set_option maxRecDepth 20000
set_option maxHeartbeats 40000000
variable {G:zZ} {K:Hp} {L:List jM} {w:World} {a1 a4 a7 a10 a13:Option Addr} {c2 c5 c8 c11:Nat}
theorem xF {a:(List (List aI))} {R:(List aI)} (hm:fZ a=some R) (hs:aF G K (L) w) (h3:bG K a1 c2 a):
  Calls prog 147 ([zS a1 a.length c2]:List Value).toArray w (eZ fun v w'=>∃ g h,v=zS g R.length h/\aF G K (aL 9 K g h R::L) w'):=by
 refine aO func147 rfl (by kernel_rfl) (by show (1:Nat)<=36;decide) ?_;unfold fZ at hm
 refine aK (aJ (v:=zS none 0 0) (aH (aK (aJ (v:=i64 0) (aH (aM (aK (aG (v:=zS a1 a.length c2) (aD (bH (len:=a.length) aNc rfl) (aG (v:=i64 0) (aH (aQ [0] (fun f w=>∃ b,gQ a b=some R/\f 3=i64 b/\aF G K (L) w) ?_ ?_))))))))))))
 ·rintro f w6 ⟨b,hm,q,r⟩
  unfold gQ at hm
  refine aC (aK (bC q ?_));obtain ⟨t,u,hm⟩:=aB hm
  refine aR (vs:=[zS none 0 0,i64 b]) call191 rfl (lib_GrowStr r (aCF (α:=aI) _) u) ?_
  rintro _ a7 ⟨x,y,rfl,a8⟩
  refine aJ (v:=zS x t.length y) (aH (aM (aK (aG (v:=zS a1 a.length c2) (aD (bH (len:=a.length) aNc rfl) (aG (v:=i64 0) (aH (aQ [] (fun f w=>∃ d i j,oL d=some R/\f 6=zS i d.length j/\aF G K (aL 9 K i j d::L) w) aP ?_))))))));obtain ⟨a9,z,ho⟩:=aB hm
  exact cC [25,26] z (fun k J f w=>∃ l m,f 6=zS l k.length m/\f 27=i64 J/\aF G K (aL 9 K l m k::L) w) aP aP
 obtain ⟨b0,V,ho⟩:=aB hm
 refine cC [0,9,10] V (fun n c f w=>f 3=i64 n/\f 11=i64 c/\aF G K (L) w) aP ?_
 ·rintro n c a0 f b1 hm hr ⟨b2,o,b3⟩
  unfold bI at hm
  refine aK (aD (cU o rfl) (aH (aM ?_)))
  rcases aN hm with ⟨p,hm⟩|⟨p,hm⟩
  ·refine aS p rfl (aY (aC (aM (aQ [0,9,10,11] (fun f w=>∃ e,eW c e=some a0/\f 3=i64 e/\aF G K (L) w) ?_ ?_))))
   ·rintro f b4 ⟨e,hm,a2,a3⟩
    unfold eW at hm
    exact aC (aU (aD (dT o rfl) (aG (v:=i64 (wr (c+1))) (aH ⟨_,(zI hm).symm,bL,a2,rfl,a3⟩))))
   exact aP
  ·exact aP
theorem aIE {a b R:bB} (hm:aIC a b=some R) (hs:aF G K (L) w) (o:bG K a1 c2 a.L) (h6:bG K a4 c5 a.E) (p:bG K a7 c8 b.L) (b3:bG K a10 c11 b.E):
  Calls prog 103 ([zA (zCa a a1 c2 a4 c5),zA (zCa b a7 c8 a10 c11)]:List Value).toArray w (eZ fun v w'=>∃ q r u x,v=zA (zCa R q r u x)/\aF G K (aL 9 K q r R.L::aL 70 K u x R.E::L) w'):=by
 let e:=(zC b a7 c8 a10 c11)
 let g:=(zC a a1 c2 a4 c5)
 let h:=zG
 refine aO func103 rfl (by kernel_rfl) (by show (2:Nat)<=49;decide) ?_;unfold aIC at hm
 refine aK (dJ (v:=zA (zCa a a1 c2 a4 c5)) (vs:=g) hs rfl rfl (fun y d5 b4=>(dJ (v:=zA (zCa b a7 c8 a10 c11)) (vs:=e) b4 rfl rfl (fun z d6 b5=>(aZ (vs:=h) zeroValue35 b5 rfl (fun l d7 J=>(aH (aK (aD (jH (us:=g) kJ J (i:=2) rfl rfl rfl rfl) ?_)))))))));obtain ⟨b6,b7,hm⟩:=aB hm
 refine aR (vs:=[zA (zCa a a1 c2 a4 c5)]) call146 rfl (aCq b7 J o h6) ?_
 rintro _ d8 ⟨b8,b9,rfl,V⟩
 refine aJ (v:=zS b8 b6.length b9) (aH (aM (aK (aD (jH (us:=e) kJ V (i:=2) rfl rfl rfl rfl) ?_))));obtain ⟨a0,c0,hm⟩:=aB hm
 refine aR (vs:=[zA (zCa b a7 c8 a10 c11)]) call146 rfl (aCq c0 V p b3) ?_
 rintro _ d9 ⟨c1,c3,rfl,e0⟩
 refine aD (bH (len:=a0.length) aBj rfl) (aG (v:=i64 0) (aH (aQ [2,3,4] (fun f w=>∃ d j k,aFm a b d=some R/\f 5=zS j d.length k/\aF G K (aL 132 K j k d::box l 35 h::box z 35 e::box y 35 g::L) w) ?_ ?_)))
 ·rintro f e1 ⟨d,j,k,hm,c4,c6⟩
  unfold aFm at hm
  refine aC (aM ?_);obtain ⟨e2,c7,a2,c9,e3⟩:=aF.lendBp c6 zt2
  obtain ⟨a3,m,n,a5,e4⟩:=aF.lendBp c9 zt2
  refine cW (C:=fun w'=>∃ L',aF G a3 L' w') [(0,0),(1,0),(2,0),(3,0),(4,0),(5,0),(6,0),(7,0),(8,0),(9,0),(10,0),(13,0),(11,1),(12,1),(14,1),(15,2)] Tryz_mixed (by kernel_rfl) (fun _ hg=>⟨_,aF.mono a5 hg⟩) (fun e5 d0=>?_)
  have c:=aF.mono a5 d0
  refine bA rfl (fun _ _=>aV (t':=0) gT rfl rfl) (bA rfl (fun _ ⟨_,c⟩=>bD (t:=0) dC c n rfl rfl) (bA rfl (fun _ _=>aV (t':=0) gT rfl rfl) (bA rfl (fun _ ⟨_,c⟩=>bD (t:=0) dC c (a2.mono m) rfl rfl) (bA rfl (fun _ _=>dT rfl rfl) (bA rfl (fun _ _=>aV (t':=1) aDX rfl rfl) (bA rfl (fun _ ⟨_,c⟩=>bD (t:=1) dC c n rfl rfl) (bA rfl (fun _ _=>aV (t':=2) oE rfl rfl) (bA rfl (fun _ ⟨_,c⟩=>bD (t:=2) xV c n rfl rfl) (bA rfl (fun _ _=>aV (t':=2) oE rfl rfl) (bA rfl (fun _ ⟨_,c⟩=>bD (t:=2) xV c (a2.mono m) rfl rfl) (bA rfl (fun _ _=>aW c4) (jN rfl (cK (Kt:=K) (xs:=([a.L,b.L]:List (List aI))) (cs:=[zS a1 a.L.length c2,zS a7 b.L.length c8]) (vs:=[(0,zS a1 a.L.length c2),(1,zS a7 b.L.length c8)]) aNc ez_26 rfl rfl c rfl (by kernel_rfl) rfl rfl rfl ⟨⟨a1,c2,rfl,o⟩,⟨a7,c8,rfl,p⟩,trivial⟩ (fun d1 d2 (a6:aF G a3 (aL 26 K d1 2 ([a.L,b.L]:List (List aI))::aL 132 K j k d::box l 35 h::L) d2)=>(aT (aC ⟨⟨_,a6⟩,?_⟩))))))))))))))))
  refine jN rfl ?_;obtain ⟨e6,e7,e8,e9,f0⟩:=aF.lendSp a6 (zL c7 m) .head
  exact aP
 obtain ⟨f1,d3,ho⟩:=aB hm
 exact cC [2,3,4,11,12] d3 (fun a8 d4 f w=>∃ a9 b0,f 5=zS a9 a8.length b0/\f 13=i64 d4/\aF G K (aL 132 K c1 c3 a0::aL 132 K a9 b0 a8::box l 35 h::box z 35 e::box y 35 g::L) w) aP aP
theorem aAn {a:Bool} {R:Unit} (hm:zQ a=some R) (c:aF G K (L) w):
  Calls prog 25 ([zB a]:List Value).toArray w (eZ fun v w'=>∃ b,v=Value.func (.func 60) #[] #[Value.pointer (some ⟨b,0,none⟩)]/\aF G K (box b 4 [zB a]::L) w'):=by
 exact aP
theorem wL {t:bB} {p:Bool} {b:Nat} {R:(List Int)} (hm:uR t p=some R) (e:aF G K (L) w) (g:bG K a1 c2 t.L) (h:bG K a4 c5 t.E) (i:fV K a7 b [zB p]):
  Calls prog 60 ([zA (zCa t a1 c2 a4 c5),cR a7 b]:List Value).toArray w (eZ fun v w'=>∃ a c d,v=zS c R.length d/\Hp.le K a/\bG a c d R/\aF G a (L) w'):=by
 exact aP
theorem aOs {a b:bB} {q:Bool} {d:Nat} {R:(List Int)} (hm:aNg a b q=some R) (hs:aF G K (L) w) (h3:bG K a1 c2 a.L) (h6:bG K a4 c5 a.E) (h9:bG K a7 c8 b.L) (a9:bG K a10 c11 b.E) (b0:fV K a13 d [zB q]):
  Calls prog 59 ([zA (zCa a a1 c2 a4 c5),zA (zCa b a7 c8 a10 c11),Value.func (.func 60) #[] #[cR a13 d]]:List Value).toArray w (eZ fun v w'=>∃ h r u,v=zS r R.length u/\Hp.le K h/\bG h r u R/\aF G h (L) w'):=by
 let e:=(zC b a7 c8 a10 c11)
 let g:=(zC a a1 c2 a4 c5)
 refine aO func59 rfl (by kernel_rfl) (by show (3:Nat)<=12;decide) ?_;unfold aNg at hm
 refine aK (dJ (v:=zA (zCa a a1 c2 a4 c5)) (vs:=g) hs rfl rfl (fun x c7 b1=>(dJ (v:=zA (zCa b a7 c8 a10 c11)) (vs:=e) b1 rfl rfl (fun y c9 j=>(aJ (v:=zS none 0 0) (aH (aK (aG (v:=Value.func (.func 60) #[] #[cR a13 d]) (aD (jH (us:=g) kJ j (i:=1) rfl rfl rfl rfl) (aD (jH (us:=e) kJ j (i:=0) rfl rfl rfl rfl) ?_))))))))));obtain ⟨c,b2,hm⟩:=aB hm
 refine aR (vs:=[zA (zCa a a1 c2 a4 c5),zA (zCa b a7 c8 a10 c11)]) call103 rfl (aIE b2 j h3 h6 h9 a9) ?_
 rintro _ z ⟨J,V,k,l,rfl,b3⟩
 obtain ⟨b4,m,b5,n⟩:=aF.giveSp b3 (zR _) .head
 replace n:aF G b4 (aL 70 K k l c.E::box y 35 e::box x 35 g::L) z:=n
 obtain ⟨b6,o,b7,p⟩:=aF.giveSp n m .head
 replace p:aF G b6 (box y 35 e::box x 35 g::L) z:=p
 obtain ⟨b8,b9,hm⟩:=aB hm
 refine iS (vs:=[zA (zCa c J V k l)]) (caps:=[cR a13 d]) (us:=[zA (zCa c J V k l),cR a13 d]) rfl call60 rfl rfl (wL (t:=⟨c.N,c.I,c.L,c.E⟩) b9 p (b5.mono o) b7 (b0.mono (zL m o))) ?_
 rintro _ d0 ⟨c0,a0,a2,rfl,c1,c3,c4⟩
 refine aJ (v:=zS a0 b8.length a2) (aH ?_);obtain rfl:=zI hm
 exact fU (eE results59 rfl ⟨c0,a0,a2,rfl,(zL (zL m o) c1),c3,(aF.arr 2 [] c4 rfl)⟩)
theorem aFJ {a b:bB} {h:Bool} {i:Nat} {R:(Bool × Int)} (hm:aFn a b h=some R) (u:aF G K (L) w) (hG:G.lo=0) (h3:bG K a1 c2 a.L) (h6:bG K a4 c5 a.E) (h9:bG K a7 c8 b.L) (a8:bG K a10 c11 b.E) (a9:fV K a13 i [zB h]):
  Calls prog 24 ([zA (zCa a a1 c2 a4 c5),zA (zCa b a7 c8 a10 c11),Value.func (.func 60) #[] #[cR a13 i]]:List Value).toArray w (eZ fun v w'=>v=zT #[zB R.1,i64 R.2]/\aF G K (L) w'):=by
 let d:=(zC a a1 c2 a4 c5)
 let e:=(zC b a7 c8 a10 c11)
 refine aO func24 rfl (by kernel_rfl) (by show (3:Nat)<=23;decide) ?_;unfold aFn at hm
 refine aK (dJ (v:=zA (zCa a a1 c2 a4 c5)) (vs:=d) u rfl rfl (fun l b0 x=>(dJ (v:=zA (zCa b a7 c8 a10 c11)) (vs:=e) x rfl rfl (fun y b1 b2=>(aJ (v:=zB false) (aJ (v:=i64 0) (aH (aM (aM (cH [2,3,4] (fun f w=>∃ j,yJ a b h j=some R/\f 15=zB j/\aF G K (box y 35 e::box l 35 d::L) w) ?_ ?_))))))))))
 ·rintro f m ⟨j,hm,z,J⟩
  unfold yJ at hm
  refine aC ?_
  rcases aN hm with ⟨n,hm⟩|⟨n,hm⟩
  ·exact aP
  ·refine bE n z (aY (aC (aM ?_)));obtain ⟨V,b3,o,k,_⟩:=aF.lendBp J .head
   replace k:aF G V (box l 35 d::L) m:=k
   obtain ⟨p,q,r,g,_⟩:=aF.lendBp k .head
   replace g:aF G p (L) m:=g
   refine cW (C:=fun w'=>∃ L',aF G p L' w') [(0,0),(1,0),(2,0),(3,0),(4,0),(5,1),(6,1),(7,0),(8,0)] Tryz_mixed (by kernel_rfl) (fun _ hg=>⟨_,aF.mono g hg⟩) (fun b4 a0=>?_)
   have c:=aF.mono g a0
   exact bA rfl (fun _ ⟨_,c⟩=>fP (t:=0) (vs:=d) kJ c r (aIn rfl) rfl rfl) (bA rfl (fun _ ⟨_,c⟩=>fP (t:=0) (vs:=e) kJ c (o.mono q) (aIn rfl) rfl rfl) (bA rfl (fun _ ⟨_,c⟩=>fP (t:=0) (vs:=d) kJ c r (aIn rfl) rfl rfl) (bA rfl (fun _ ⟨_,c⟩=>fP (t:=0) (vs:=e) kJ c (o.mono q) (aIn rfl) rfl rfl) (bA rfl (fun _ _=>aW (v:=Value.func (.func 60) #[] #[cR a13 i]) rfl) (jN rfl aP)))))
 exact aP
theorem xR {a b:bB} {e:Bool} {R:(Bool × Int)} (hm:lK a b e=some R) (m:aF G K (L) w) (n:G.lo=0) (o:bG K a1 c2 a.L) (p:bG K a4 c5 a.E) (q:bG K a7 c8 b.L) (r:bG K a10 c11 b.E):
  Calls prog 10 ([zA (zCa a a1 c2 a4 c5),zA (zCa b a7 c8 a10 c11),zB e]:List Value).toArray w (eZ fun v w'=>v=zT #[zB R.1,i64 R.2]/\aF G K (L) w'):=by
 let i:=(zC b a7 c8 a10 c11)
 let j:=(zC a a1 c2 a4 c5)
 refine aO func10 rfl (by kernel_rfl) (by show (3:Nat)<=15;decide) ?_;unfold lK at hm
 refine aK (dJ (v:=zA (zCa a a1 c2 a4 c5)) (vs:=j) m rfl rfl (fun a9 b0 u=>(dJ (v:=zA (zCa b a7 c8 a10 c11)) (vs:=i) u rfl rfl (fun b1 b2 x=>(aJ (v:=zB false) (aJ (v:=i64 0) (aH (aM ?_))))))));obtain ⟨b3,g,y,z,b4⟩:=aF.lendBp x .head
 obtain ⟨J,c,V,k,b5⟩:=aF.lendBp z .head
 refine cW (C:=fun w'=>∃ L',aF G J L' w') [(0,0),(1,0),(2,0),(3,1),(4,1),(5,0),(6,0),(7,0),(8,0)] Tryz_mixed (by kernel_rfl) (fun _ hg=>⟨_,aF.mono k hg⟩) (fun b6 a0=>?_)
 have d:=aF.mono k a0
 refine bA rfl (fun _ ⟨_,d⟩=>fP (t:=0) (vs:=j) kJ d V rfl rfl rfl) (bA rfl (fun _ ⟨_,d⟩=>fP (t:=0) (vs:=i) kJ d (y.mono c) rfl rfl rfl) (bA rfl (fun _ _=>aW (v:=zB e) rfl) (jN rfl ?_)));obtain ⟨b7,a2,hm⟩:=aB hm
 refine aR (vs:=[zB e]) call25 rfl (aAn a2 d) ?_
 rintro _ b8 ⟨a3,rfl,l⟩
 refine aT (aC ⟨⟨_,l⟩,?_⟩)
 refine jN rfl ?_;obtain ⟨b9,h,a5,a6,c0⟩:=aF.lendBp l .head
 obtain ⟨c1,a8,hm⟩:=aB hm
 exact aR (vs:=[zA (zCa a a1 c2 a4 c5),zA (zCa b a7 c8 a10 c11),Value.func (.func 60) #[] #[cR (some ⟨a3,0,none⟩) 0]]) call24 rfl (aFJ a8 a6 n (o.mono (zL (zL g c) h)) (p.mono (zL (zL g c) h)) (q.mono (zL (zL g c) h)) (r.mono (zL (zL g c) h)) a5) aP
theorem aCD {e1 more:(List UInt8)} {R:Bool} (hm:aAP e1 more=some R) (hs:aF G K (L) w) (hG:G.lo=0) (h3:bG K a1 c2 e1) (h6:bG K a4 c5 more):
  Calls prog 3 ([zS a1 e1.length c2,zS a4 more.length c5]:List Value).toArray w (eZ fun v w'=>v=zB R/\aF G K (L) w'):=by
 let j3:=[zS none 0 0,zS none 0 0,zS none 0 0,zS none 0 0]
 let j4:=zG
 refine aO func3 rfl (by kernel_rfl) (by show (2:Nat)<=152;decide) ?_;unfold aAP at hm
 refine aK (aJ (v:=zB false) (aH (aM (aK (aG (v:=zS a1 e1.length c2) (aG (v:=zS a4 more.length c5) ?_))))));obtain ⟨r7,q8,hm⟩:=aB hm
 refine aR (vs:=[zS a1 e1.length c2,zS a4 more.length c5]) call4 rfl (aHu q8 hs h3 h6) ?_
 rintro _ w9 ⟨rfl,p3⟩
 refine aH ?_
 rcases aN hm with ⟨m4,hm⟩|⟨m4,hm⟩
 ·exact aP
 ·refine bE m4 rfl (aY (aC (aK (aG (v:=zS a1 e1.length c2) ?_))));obtain ⟨a,p4,hm⟩:=aB hm
  refine aR (vs:=[zS a1 e1.length c2]) call5 rfl (aEP p4 p3 h3) ?_
  rintro _ w32 ⟨f3,q,r,d,e,j,k,l,m,m5,m6,rfl,b1,f4,j5,j6,j7,h31,p5⟩
  refine aG (v:=zT #[zA #[zS q a.1.Parts.length r,zS d a.1.Meetings.length e,zS j a.1.Allowed.length k,zS l a.1.Hidden.length m],zS m5 a.2.length m6]) (aD (bV rfl rfl) (aD (bV rfl rfl) (aZ (vs:=j3) zeroValue28 p5 rfl (fun y w35 p6=>(bS (i:=0) (ns:=[zS q a.1.Parts.length r,zS d a.1.Meetings.length e,zS j a.1.Allowed.length k,zS l a.1.Hidden.length m]) (us:=[zS q a.1.Parts.length r,zS d a.1.Meetings.length e,zS j a.1.Allowed.length k,zS l a.1.Hidden.length m]) sizeOf28 p6 rfl rfl rfl rfl rfl (dQ rfl) rfl rfl (fun p7 (m7:aF G f3 (box y 28 [zS q a.1.Parts.length r,zS d a.1.Meetings.length e,zS j a.1.Allowed.length k,zS l a.1.Hidden.length m]::L) p7)=>(aJ (v:=zS m5 a.2.length m6) (aH (aK (aG (v:=zS a4 more.length c5) (aD (aV (t':=0) mS rfl rfl) (aD (cJ aBH m7 (i:=0) rfl rfl rfl) (aD (bH (len:=a.1.Parts.length) rI rfl) ?_)))))))))))))
  obtain ⟨m8,p8,hm⟩:=aB hm
  refine aR (vs:=[zS a4 more.length c5,i64 60,i64 (a.1.Parts.length:Int)]) call6 rfl (aJI p8 m7 (h6.mono b1)) ?_
  rintro _ w41 ⟨rfl,h4⟩
  refine aJ (v:=i64 m8) (aH (aK (aD (aV (t':=1) aIs rfl rfl) (aD (cJ aMf h4 (i:=0) rfl rfl rfl) (aD (aV (t':=2) aMY rfl rfl) (aD (cJ xV h4 (i:=0) rfl rfl rfl) (aD (aV (t':=3) aMZ rfl rfl) (aD (cJ xV h4 (i:=0) rfl rfl rfl) (aD (iR (vs:=[(1,zS d a.1.Meetings.length e),(2,zS j a.1.Allowed.length k),(3,zS l a.1.Hidden.length m)]) (cs:=[zS none 0 0,zS d a.1.Meetings.length e,zS j a.1.Allowed.length k,zS l a.1.Hidden.length m]) bs_28 rfl (by kernel_rfl)) (aZ (vs:=j3) zeroValue28 h4 rfl (fun V w44 p9=>(bS (i:=0) (ns:=[zS none 0 0,zS d a.1.Meetings.length e,zS j a.1.Allowed.length k,zS l a.1.Hidden.length m]) (us:=[zS none 0 0,zS d a.1.Meetings.length e,zS j a.1.Allowed.length k,zS l a.1.Hidden.length m]) sizeOf28 p9 rfl rfl rfl rfl rfl (dQ rfl) rfl rfl (fun q0 (q1:aF G f3 (box V 28 [zS none 0 0,zS d a.1.Meetings.length e,zS j a.1.Allowed.length k,zS l a.1.Hidden.length m]::box y 28 [zS q a.1.Parts.length r,zS d a.1.Meetings.length e,zS j a.1.Allowed.length k,zS l a.1.Hidden.length m]::L) q0)=>(aH (aM (aK (aJ (v:=i64 0) (aH (aQ [5,8] (fun f w=>∃ f5 b2 b6 b7,Hp.le f3 f5/\qU a b2=some R/\aF G f5 (aL 35 f5 b6 b7 b2::box V 28 [zS b6 b2.length b7,zS d a.1.Meetings.length e,zS j a.1.Allowed.length k,zS l a.1.Hidden.length m]::box y 28 [zS q a.1.Parts.length r,zS d a.1.Meetings.length e,zS j a.1.Allowed.length k,zS l a.1.Hidden.length m]::L) w) ?_ ?_)))))))))))))))))))
  ·rintro f w53 ⟨f5,b2,b6,b7,u,hm,m9⟩
   unfold qU at hm
   refine aC (aK (aD (jH (us:=[zS q a.1.Parts.length r,zS d a.1.Meetings.length e,zS j a.1.Allowed.length k,zS l a.1.Hidden.length m]) aBI m9 (i:=2) rfl rfl rfl rfl) ?_));obtain ⟨o,q2,hm⟩:=aB hm
   refine aR (vs:=[zA #[zS q a.1.Parts.length r,zS d a.1.Meetings.length e,zS j a.1.Allowed.length k,zS l a.1.Hidden.length m],i64 2]) call8 rfl (aCc q2 m9 hG (f4.mono u) (j5.mono u) (j6.mono u) (j7.mono u)) ?_
   rintro _ w71 ⟨q3,c4,c6,c7,c8,c9,d0,d1,d2,rfl,z,q4,q5,q6,q7,q9⟩
   refine aG (v:=zT #[zA #[zS c4 o.1.Parts.length c6,zS c7 o.1.Meetings.length c8,zS c9 o.1.Allowed.length d0,zS d1 o.1.Hidden.length d2],i64 o.2]) (aD (bV rfl rfl) (aD (bV rfl rfl) (aZ (vs:=j3) zeroValue28 q9 rfl (fun g4 w74 r0=>(bS (i:=0) (ns:=[zS c4 o.1.Parts.length c6,zS c7 o.1.Meetings.length c8,zS c9 o.1.Allowed.length d0,zS d1 o.1.Hidden.length d2]) (us:=[zS c4 o.1.Parts.length c6,zS c7 o.1.Meetings.length c8,zS c9 o.1.Allowed.length d0,zS d1 o.1.Hidden.length d2]) sizeOf28 r0 rfl rfl rfl rfl rfl (dQ rfl) rfl rfl (fun r1 (n0:aF G q3 (box g4 28 [zS c4 o.1.Parts.length c6,zS c7 o.1.Meetings.length c8,zS c9 o.1.Allowed.length d0,zS d1 o.1.Hidden.length d2]::aL 35 f5 b6 b7 b2::box V 28 [zS b6 b2.length b7,zS d a.1.Meetings.length e,zS j a.1.Allowed.length k,zS l a.1.Hidden.length m]::box y 28 [zS q a.1.Parts.length r,zS d a.1.Meetings.length e,zS j a.1.Allowed.length k,zS l a.1.Hidden.length m]::L) r1)=>(aJ (v:=i64 o.2) (aH (aK (aD (jH (us:=[zS q a.1.Parts.length r,zS d a.1.Meetings.length e,zS j a.1.Allowed.length k,zS l a.1.Hidden.length m]) aBI n0 (i:=3) rfl rfl rfl rfl) ?_))))))))))
   obtain ⟨b,r2,hm⟩:=aB hm
   refine aR (vs:=[zA #[zS q a.1.Parts.length r,zS d a.1.Meetings.length e,zS j a.1.Allowed.length k,zS l a.1.Hidden.length m]]) call9 rfl (pY r2 n0 hG (f4.mono (zL u z)) (j5.mono (zL u z)) (j6.mono (zL u z)) (j7.mono (zL u z))) ?_
   rintro _ w88 ⟨g5,a0,a2,a3,a5,f6,f7,rfl,J,r3⟩
   refine aG (v:=zT #[zA (zCa b.1 a0 a2 a3 a5),zS f6 b.2.1.length f7,i64 b.2.2]) (aD (bV rfl rfl) (aD (bV rfl rfl) (aD (bV rfl rfl) (aZ (vs:=j4) zeroValue35 r3 rfl (fun g6 w91 r4=>(bS (i:=0) (ns:=(zC b.1 a0 a2 a3 a5)) (us:=(zC b.1 a0 a2 a3 a5)) sizeOf35 r4 rfl rfl rfl rfl rfl (dQ rfl) rfl rfl (fun n1 (n2:aF G g5 (box g6 35 (zC b.1 a0 a2 a3 a5)::aL 9 K a0 a2 b.1.L::aL 70 K a3 a5 b.1.E::aL 29 g5 f6 f7 b.2.1::box g4 28 [zS c4 o.1.Parts.length c6,zS c7 o.1.Meetings.length c8,zS c9 o.1.Allowed.length d0,zS d1 o.1.Hidden.length d2]::aL 35 f5 b6 b7 b2::box V 28 [zS b6 b2.length b7,zS d a.1.Meetings.length e,zS j a.1.Allowed.length k,zS l a.1.Hidden.length m]::box y 28 [zS q a.1.Parts.length r,zS d a.1.Meetings.length e,zS j a.1.Allowed.length k,zS l a.1.Hidden.length m]::L) n1)=>(aJ (v:=zS f6 b.2.1.length f7) (aJ (v:=i64 b.2.2) (aH (aK (aD (jH (us:=[zS b6 b2.length b7,zS d a.1.Meetings.length e,zS j a.1.Allowed.length k,zS l a.1.Hidden.length m]) aBI n2 (i:=6) rfl rfl rfl rfl) ?_))))))))))))
   obtain ⟨r5,a6,r6,j8⟩:=aF.giveSp n2 (zL z J) zt5
   replace j8:aF G r5 (box g6 35 (zC b.1 a0 a2 a3 a5)::aL 9 K a0 a2 b.1.L::aL 70 K a3 a5 b.1.E::aL 29 g5 f6 f7 b.2.1::box g4 28 [zS c4 o.1.Parts.length c6,zS c7 o.1.Meetings.length c8,zS c9 o.1.Allowed.length d0,zS d1 o.1.Hidden.length d2]::box V 28 [zS b6 b2.length b7,zS d a.1.Meetings.length e,zS j a.1.Allowed.length k,zS l a.1.Hidden.length m]::box y 28 [zS q a.1.Parts.length r,zS d a.1.Meetings.length e,zS j a.1.Allowed.length k,zS l a.1.Hidden.length m]::L) n1:=j8
   obtain ⟨c,r8,hm⟩:=aB hm
   refine aR (vs:=[zA #[zS b6 b2.length b7,zS d a.1.Meetings.length e,zS j a.1.Allowed.length k,zS l a.1.Hidden.length m]]) call9 rfl (pY (n:=⟨b2,a.1.Meetings,a.1.Allowed,a.1.Hidden⟩) r8 j8 hG r6 (j5.mono (zL (zL (zL u z) J) a6)) (j6.mono (zL (zL (zL u z) J) a6)) (j7.mono (zL (zL (zL u z) J) a6))) ?_
   rintro _ a18 ⟨j9,b8,b9,c0,c1,h5,h7,rfl,b3,r9⟩
   refine aG (v:=zT #[zA (zCa c.1 b8 b9 c0 c1),zS h5 c.2.1.length h7,i64 c.2.2]) (aD (bV rfl rfl) (aD (bV rfl rfl) (aD (bV rfl rfl) (aZ (vs:=j4) zeroValue35 r9 rfl (fun k0 a19 s0=>(bS (i:=0) (ns:=(zC c.1 b8 b9 c0 c1)) (us:=(zC c.1 b8 b9 c0 c1)) sizeOf35 s0 rfl rfl rfl rfl rfl (dQ rfl) rfl rfl (fun s1 (n3:aF G j9 (box k0 35 (zC c.1 b8 b9 c0 c1)::aL 9 K b8 b9 c.1.L::aL 70 K c0 c1 c.1.E::aL 29 j9 h5 h7 c.2.1::box g6 35 (zC b.1 a0 a2 a3 a5)::aL 9 K a0 a2 b.1.L::aL 70 K a3 a5 b.1.E::aL 29 g5 f6 f7 b.2.1::box g4 28 [zS c4 o.1.Parts.length c6,zS c7 o.1.Meetings.length c8,zS c9 o.1.Allowed.length d0,zS d1 o.1.Hidden.length d2]::box V 28 [zS b6 b2.length b7,zS d a.1.Meetings.length e,zS j a.1.Allowed.length k,zS l a.1.Hidden.length m]::box y 28 [zS q a.1.Parts.length r,zS d a.1.Meetings.length e,zS j a.1.Allowed.length k,zS l a.1.Hidden.length m]::L) s1)=>(aJ (v:=zS h5 c.2.1.length h7) (aJ (v:=i64 c.2.2) (aH (aK (aD (jH (us:=[zS c4 o.1.Parts.length c6,zS c7 o.1.Meetings.length c8,zS c9 o.1.Allowed.length d0,zS d1 o.1.Hidden.length d2]) aBI n3 (i:=8) rfl rfl rfl rfl) ?_))))))))))))
   obtain ⟨p,s2,hm⟩:=aB hm
   refine aR (vs:=[zA #[zS c4 o.1.Parts.length c6,zS c7 o.1.Meetings.length c8,zS c9 o.1.Allowed.length d0,zS d1 o.1.Hidden.length d2]]) call9 rfl (pY s2 n3 hG (q4.mono (zL (zL J a6) b3)) (q5.mono (zL (zL J a6) b3)) (q6.mono (zL (zL J a6) b3)) (q7.mono (zL (zL J a6) b3))) ?_
   rintro _ a21 ⟨h8,d6,d7,d8,d9,k1,k2,rfl,d3,s3⟩
   refine aG (v:=zT #[zA (zCa p.1 d6 d7 d8 d9),zS k1 p.2.1.length k2,i64 p.2.2]) (aD (bV rfl rfl) (aD (bV rfl rfl) (aD (bV rfl rfl) (aZ (vs:=j4) zeroValue35 s3 rfl (fun n4 a22 s4=>(bS (i:=0) (ns:=(zC p.1 d6 d7 d8 d9)) (us:=(zC p.1 d6 d7 d8 d9)) sizeOf35 s4 rfl rfl rfl rfl rfl (dQ rfl) rfl rfl (fun s5 (h9:aF G h8 (box n4 35 (zC p.1 d6 d7 d8 d9)::aL 9 K d6 d7 p.1.L::aL 70 K d8 d9 p.1.E::aL 29 h8 k1 k2 p.2.1::box k0 35 (zC c.1 b8 b9 c0 c1)::aL 9 K b8 b9 c.1.L::aL 70 K c0 c1 c.1.E::aL 29 j9 h5 h7 c.2.1::box g6 35 (zC b.1 a0 a2 a3 a5)::aL 9 K a0 a2 b.1.L::aL 70 K a3 a5 b.1.E::aL 29 g5 f6 f7 b.2.1::box g4 28 [zS c4 o.1.Parts.length c6,zS c7 o.1.Meetings.length c8,zS c9 o.1.Allowed.length d0,zS d1 o.1.Hidden.length d2]::box V 28 [zS b6 b2.length b7,zS d a.1.Meetings.length e,zS j a.1.Allowed.length k,zS l a.1.Hidden.length m]::box y 28 [zS q a.1.Parts.length r,zS d a.1.Meetings.length e,zS j a.1.Allowed.length k,zS l a.1.Hidden.length m]::L) s5)=>(aJ (v:=zS k1 p.2.1.length k2) (aJ (v:=i64 p.2.2) (aH (aM (aM (cH [11,12,14,15,17,18,20] (fun f w=>∃ k3,iX o b c p k3=some R/\f 113=zB k3/\aF G h8 (box n4 35 (zC p.1 d6 d7 d8 d9)::aL 9 K d6 d7 p.1.L::aL 70 K d8 d9 p.1.E::box k0 35 (zC c.1 b8 b9 c0 c1)::aL 9 K b8 b9 c.1.L::aL 70 K c0 c1 c.1.E::box g6 35 (zC b.1 a0 a2 a3 a5)::aL 9 K a0 a2 b.1.L::aL 70 K a3 a5 b.1.E::L) w) ?_ ?_)))))))))))))
   ·rintro f a24 ⟨k3,hm,n5,i0⟩
    unfold iX at hm
    refine aC ?_
    rcases aN hm with ⟨k4,hm⟩|⟨k4,hm⟩
    ·refine aS k4 n5 (aK (aG (v:=i64 o.2) (aD (aCs rfl rfl) (aJ (v:=zB (o.2 == 0)) (aH ?_)))));obtain rfl:=zI hm
     exact fU (cT (eE results3 rfl ⟨rfl,(aF.weakK (aF.arr 9 [] i0 rfl) (zL (zL (zL (zL (zL (zL b1 u) z) J) a6) b3) d3))⟩))
    ·refine bE k4 n5 (aY (aC (aK (aD (jH (us:=(zC b.1 a0 a2 a3 a5)) kJ i0 (i:=6) rfl rfl rfl rfl) (aD (jH (us:=(zC c.1 b8 b9 c0 c1)) kJ i0 (i:=3) rfl rfl rfl rfl) ?_)))));obtain ⟨a25,k5,s7,s8,s9⟩:=aF.lendSp i0 (zL (zL (zL (zL (zL (zL b1 u) z) J) a6) b3) d3) zt7
     obtain ⟨a27,k6,t0,t1,t2⟩:=aF.lendSp s8 (zL (zL (zL (zL (zL (zL (zL b1 u) z) J) a6) b3) d3) k5) zt7
     obtain ⟨a28,k7,t3,t4,t5⟩:=aF.lendSp t1 (zL (zL (zL (zL (zL (zL (zL (zL b1 u) z) J) a6) b3) d3) k5) k6) zt4
     obtain ⟨a30,k8,t6,t7,t8⟩:=aF.lendSp t4 (zL (zL (zL (zL (zL (zL (zL (zL (zL b1 u) z) J) a6) b3) d3) k5) k6) k7) zt4
     obtain ⟨d4,t9,hm⟩:=aB hm
     refine aR (vs:=[zA (zCa b.1 a0 a2 a3 a5),zA (zCa c.1 b8 b9 c0 c1),zB true]) call10 rfl (xR t9 t7 hG (s7.mono (zL (zL k6 k7) k8)) (t0.mono (zL k7 k8)) (t3.mono k8) t6) ?_
     rintro _ a31 ⟨rfl,u0⟩
     have u1:=t8 _ _ u0
     have u2:=t5 _ _ u1
     have u3:=t2 _ _ u2
     have k9:=s9 _ _ u3
     refine aG (v:=zT #[zB d4.1,i64 d4.2]) (aD (bV rfl rfl) (aD (bV rfl rfl) (aJ (v:=zB d4.1) (aJ (v:=i64 d4.2) (aH (aK (aD (jH (us:=(zC b.1 a0 a2 a3 a5)) kJ k9 (i:=8) rfl rfl rfl rfl) (aD (jH (us:=(zC p.1 d6 d7 d8 d9)) kJ k9 (i:=4) rfl rfl rfl rfl) ?_))))))));obtain ⟨a32,l0,u4,u5,u6⟩:=aF.lendSp k9 (zL (zL (zL (zL (zL (zL b1 u) z) J) a6) b3) d3) .head
     obtain ⟨a33,l1,u7,u8,u9⟩:=aF.lendSp u5 (zL (zL (zL (zL (zL (zL (zL b1 u) z) J) a6) b3) d3) l0) .head
     obtain ⟨a34,l2,v0,v1,v2⟩:=aF.lendSp u8 (zL (zL (zL (zL (zL (zL (zL (zL b1 u) z) J) a6) b3) d3) l0) l1) zt3
     obtain ⟨a35,l3,v3,v4,v5⟩:=aF.lendSp v1 (zL (zL (zL (zL (zL (zL (zL (zL (zL b1 u) z) J) a6) b3) d3) l0) l1) l2) zt3
     obtain ⟨c3,v6,hm⟩:=aB hm
     refine aR (vs:=[zA (zCa b.1 a0 a2 a3 a5),zA (zCa p.1 d6 d7 d8 d9),zB true]) call10 rfl (xR v6 v4 hG (u4.mono (zL (zL l1 l2) l3)) (u7.mono (zL l2 l3)) (v0.mono l3) v3) ?_
     rintro _ a36 ⟨rfl,v7⟩
     have v8:=v5 _ _ v7
     have v9:=v2 _ _ v8
     have w0:=u9 _ _ v9
     have e2:=u6 _ _ w0
     refine aG (v:=zT #[zB c3.1,i64 c3.2]) (aD (bV rfl rfl) (aD (bV rfl rfl) (aJ (v:=zB c3.1) (aJ (v:=i64 c3.2) (aH (aM (cH [] (fun f w=>∃ l4,iW l4=some R/\f 4=zB l4/\aF G h8 (L) w) ?_ ?_)))))))
     ·rintro f a37 ⟨l4,hm,w1,w2⟩
      unfold iW at hm
      refine aC ?_;obtain rfl:=zI hm
      exact fU (eE results3 rfl ⟨w1,(aF.weakK w2 (zL (zL (zL (zL (zL (zL b1 u) z) J) a6) b3) d3))⟩)
     refine aU (aG (v:=i64 b.2.2) (aD (aCs rfl rfl) (aG (v:=zB (b.2.2 == 0)) ?_)))
     rcases aN hm with ⟨e3,hm⟩|⟨e3,hm⟩
     ·refine eQ e3 rfl rfl (aG (v:=i64 c.2.2) (eQ e3 rfl rfl (aD (aCs rfl rfl) (aD (gR (v:=zB (c.2.2 == 0)) e3 rfl rfl) (aG (v:=zB (c.2.2 == 0)) ?_)))))
      rcases aN hm with ⟨e4,hm⟩|⟨e4,hm⟩
      ·refine eQ e4 rfl rfl (aG (v:=i64 p.2.2) (eQ e4 rfl rfl (aD (aCs rfl rfl) (aD (gR (v:=zB (p.2.2 == 0)) e4 rfl rfl) (aG (v:=zB (p.2.2 == 0)) ?_)))))
       rcases aN hm with ⟨e5,hm⟩|⟨e5,hm⟩
       ·refine eQ e5 rfl rfl (aG (v:=i64 d4.2) (eQ e5 rfl rfl (aD (aCs rfl rfl) (aD (gR (v:=zB (d4.2 == 0)) e5 rfl rfl) (aG (v:=zB (d4.2 == 0)) ?_)))))
        rcases aN hm with ⟨e6,hm⟩|⟨e6,hm⟩
        ·refine eQ e6 rfl rfl (aG (v:=i64 c3.2) (eQ e6 rfl rfl (aD (aCs rfl rfl) (aD (gR (v:=zB (c3.2 == 0)) e6 rfl rfl) (aG (v:=zB (c3.2 == 0)) ?_)))))
         rcases aN hm with ⟨g7,hm⟩|⟨g7,hm⟩
         ·refine eQ g7 rfl rfl (aG (v:=zB d4.1) (aD (gR (v:=zB d4.1) g7 rfl rfl) (aG (v:=zB d4.1) ?_)))
          rcases aN hm with ⟨g8,hm⟩|⟨g8,hm⟩
          ·exact eQ g8 rfl rfl (aG (v:=zB c3.1) (aD (gR (v:=zB c3.1) g8 rfl rfl) (aJ (v:=zB c3.1) (aH ⟨bL,c3.1,hm,rfl,(aF.arr 9 [] e2 rfl)⟩))))
          ·exact dL g8 rfl rfl (aD (dO (v:=zB false) g8 rfl rfl) (aJ (v:=zB false) (aH ⟨bL,false,hm,rfl,(aF.arr 9 [] e2 rfl)⟩)))
         ·exact dL g7 rfl rfl (aD (dO (v:=zB false) g7 rfl rfl) (aG (v:=zB false) (dL (by decide:¬ false=true) rfl rfl (aD (dO (v:=zB false) (by decide:¬ false=true) rfl rfl) (aJ (v:=zB false) (aH ⟨bL,false,hm,rfl,(aF.arr 9 [] e2 rfl)⟩))))))
        ·exact dL e6 rfl rfl (dL e6 rfl rfl (aD (dO (v:=zB false) e6 rfl rfl) (aG (v:=zB false) (dL (by decide:¬ false=true) rfl rfl (aD (dO (v:=zB false) (by decide:¬ false=true) rfl rfl) (aG (v:=zB false) (dL (by decide:¬ false=true) rfl rfl (aD (dO (v:=zB false) (by decide:¬ false=true) rfl rfl) (aJ (v:=zB false) (aH ⟨bL,false,hm,rfl,(aF.arr 9 [] e2 rfl)⟩))))))))))
       ·exact dL e5 rfl rfl (dL e5 rfl rfl (aD (dO (v:=zB false) e5 rfl rfl) (aG (v:=zB false) (dL (by decide:¬ false=true) rfl rfl (dL (by decide:¬ false=true) rfl rfl (aD (dO (v:=zB false) (by decide:¬ false=true) rfl rfl) (aG (v:=zB false) (dL (by decide:¬ false=true) rfl rfl (aD (dO (v:=zB false) (by decide:¬ false=true) rfl rfl) (aG (v:=zB false) (dL (by decide:¬ false=true) rfl rfl (aD (dO (v:=zB false) (by decide:¬ false=true) rfl rfl) (aJ (v:=zB false) (aH ⟨bL,false,hm,rfl,(aF.arr 9 [] e2 rfl)⟩))))))))))))))
      ·exact dL e4 rfl rfl (dL e4 rfl rfl (aD (dO (v:=zB false) e4 rfl rfl) (aG (v:=zB false) (dL (by decide:¬ false=true) rfl rfl (dL (by decide:¬ false=true) rfl rfl (aD (dO (v:=zB false) (by decide:¬ false=true) rfl rfl) (aG (v:=zB false) (dL (by decide:¬ false=true) rfl rfl (dL (by decide:¬ false=true) rfl rfl (aD (dO (v:=zB false) (by decide:¬ false=true) rfl rfl) (aG (v:=zB false) (dL (by decide:¬ false=true) rfl rfl (aD (dO (v:=zB false) (by decide:¬ false=true) rfl rfl) (aG (v:=zB false) (dL (by decide:¬ false=true) rfl rfl (aD (dO (v:=zB false) (by decide:¬ false=true) rfl rfl) (aJ (v:=zB false) (aH ⟨bL,false,hm,rfl,(aF.arr 9 [] e2 rfl)⟩))))))))))))))))))
     ·exact dL e3 rfl rfl (dL e3 rfl rfl (aD (dO (v:=zB false) e3 rfl rfl) (aG (v:=zB false) (dL (by decide:¬ false=true) rfl rfl (dL (by decide:¬ false=true) rfl rfl (aD (dO (v:=zB false) (by decide:¬ false=true) rfl rfl) (aG (v:=zB false) (dL (by decide:¬ false=true) rfl rfl (dL (by decide:¬ false=true) rfl rfl (aD (dO (v:=zB false) (by decide:¬ false=true) rfl rfl) (aG (v:=zB false) (dL (by decide:¬ false=true) rfl rfl (dL (by decide:¬ false=true) rfl rfl (aD (dO (v:=zB false) (by decide:¬ false=true) rfl rfl) (aG (v:=zB false) (dL (by decide:¬ false=true) rfl rfl (aD (dO (v:=zB false) (by decide:¬ false=true) rfl rfl) (aG (v:=zB false) (dL (by decide:¬ false=true) rfl rfl (aD (dO (v:=zB false) (by decide:¬ false=true) rfl rfl) (aJ (v:=zB false) (aH ⟨bL,false,hm,rfl,(aF.arr 9 [] e2 rfl)⟩))))))))))))))))))))))
   refine aU (aG (v:=i64 o.2) (aD (aFQ rfl rfl) (aG (v:=zB (o.2 != 0)) ?_)))
   rcases aN hm with ⟨e7,hm⟩|⟨e7,hm⟩
   ·exact mV e7 rfl rfl (mV e7 rfl rfl (aD (gR (v:=zB true) e7 rfl rfl) (aG (v:=zB true) (mV (rfl:true=true) rfl rfl (mV (rfl:true=true) rfl rfl (aD (gR (v:=zB true) (rfl:true=true) rfl rfl) (aG (v:=zB true) (mV (rfl:true=true) rfl rfl (mV (rfl:true=true) rfl rfl (aD (gR (v:=zB true) (rfl:true=true) rfl rfl) (aH ⟨bL,true,hm,rfl,(aF.arr 15 [0,1,2,4,5,6,8,9,10] h9 rfl)⟩)))))))))))
   ·refine kX e7 rfl rfl (aG (v:=i64 b.2.2) (kX e7 rfl rfl (aD (aCs rfl rfl) (aD (dO (v:=zB (b.2.2 == 5)) e7 rfl rfl) (aG (v:=zB (b.2.2 == 5)) ?_)))))
    rcases aN hm with ⟨e8,hm⟩|⟨e8,hm⟩
    ·exact mV e8 rfl rfl (mV e8 rfl rfl (aD (gR (v:=zB true) e8 rfl rfl) (aG (v:=zB true) (mV (rfl:true=true) rfl rfl (mV (rfl:true=true) rfl rfl (aD (gR (v:=zB true) (rfl:true=true) rfl rfl) (aH ⟨bL,true,hm,rfl,(aF.arr 15 [0,1,2,4,5,6,8,9,10] h9 rfl)⟩)))))))
    ·refine kX e8 rfl rfl (aG (v:=i64 c.2.2) (kX e8 rfl rfl (aD (aCs rfl rfl) (aD (dO (v:=zB (c.2.2 == 5)) e8 rfl rfl) (aG (v:=zB (c.2.2 == 5)) ?_)))))
     rcases aN hm with ⟨e9,hm⟩|⟨e9,hm⟩
     ·exact mV e9 rfl rfl (mV e9 rfl rfl (aD (gR (v:=zB true) e9 rfl rfl) (aH ⟨bL,true,hm,rfl,(aF.arr 15 [0,1,2,4,5,6,8,9,10] h9 rfl)⟩)))
     ·exact kX e9 rfl rfl (aG (v:=i64 p.2.2) (kX e9 rfl rfl (aD (aCs rfl rfl) (aD (dO (v:=zB (p.2.2 == 5)) e9 rfl rfl) (aH ⟨bL,p.2.2 == 5,hm,rfl,(aF.arr 15 [0,1,2,4,5,6,8,9,10] h9 rfl)⟩)))))
  have w4:=aF.nil (α:=bB) q1 35 f3
  obtain ⟨a38,w5,ho⟩:=aB hm
  refine cC [1,5,7,8] w5 (fun a8 i1 f w=>∃ x a9 b0,Hp.le f3 x/\f 9=i64 i1/\aF G x (aL 35 x a9 b0 a8::box V 28 [zS a9 a8.length b0,zS d a.1.Meetings.length e,zS j a.1.Allowed.length k,zS l a.1.Hidden.length m]::box y 28 [zS q a.1.Parts.length r,zS d a.1.Meetings.length e,zS j a.1.Allowed.length k,zS l a.1.Hidden.length m]::L) w) ?_ ?_
  ·exact ⟨f3,none,0,(zR _),rfl,w4⟩
  ·rintro a8 i1 w6 f w7 hm hr ⟨x,a9,b0,b5,g9,i2⟩
   unfold iY at hm
   refine aM (aK (bC g9 (aD (aV (t':=0) mS rfl rfl) (aD (cJ aBH i2 (i:=2) rfl rfl rfl) (aD (bH (len:=a.1.Parts.length) rI rfl) (aD (cU rfl rfl) (aH ?_)))))))
   rcases aN hm with ⟨l5,hm⟩|⟨l5,hm⟩
   ·refine aS l5 rfl (aY (aC (aM (aQ [1,5,7,8,9] (fun f w=>∃ h0 i3 i4 i5,Hp.le x h0/\qV i1 i3=some w6/\aF G h0 (aL 35 h0 i4 i5 i3::box V 28 [zS i4 i3.length i5,zS d a.1.Meetings.length e,zS j a.1.Allowed.length k,zS l a.1.Hidden.length m]::box y 28 [zS q a.1.Parts.length r,zS d a.1.Meetings.length e,zS j a.1.Allowed.length k,zS l a.1.Hidden.length m]::L) w) ?_ ?_))))
    ·rintro f a39 ⟨h0,i3,i4,i5,w8,hm,x0⟩
     unfold qV at hm
     exact aC (aU (bC g9 (aD (dT rfl rfl) (aJ (v:=i64 (wr (i1+1))) (aH ⟨_,(zI hm).symm,bL,h0,i4,i5,(zL b5 w8),rfl,x0⟩)))))
    refine aK (bC g9 (aG (v:=i64 m8) (aD (aCs rfl rfl) (aH ?_))))
    rcases aN hm with ⟨l6,hm⟩|⟨l6,hm⟩
    ·refine aS l6 rfl ?_
     have n6:aF G x (box V 28 [zS a9 a8.length b0,zS d a.1.Meetings.length e,zS j a.1.Allowed.length k,zS l a.1.Hidden.length m]::box y 28 [zS q a.1.Parts.length r,zS d a.1.Meetings.length e,zS j a.1.Allowed.length k,zS l a.1.Hidden.length m]::aL 35 x a9 b0 a8::L) w7:=(aF.arr 3 [1,2,0] i2 rfl)
     refine cW (C:=fun w'=>∃ L',aF G x (box V 28 [zS a9 a8.length b0,zS d a.1.Meetings.length e,zS j a.1.Allowed.length k,zS l a.1.Hidden.length m]::box y 28 [zS q a.1.Parts.length r,zS d a.1.Meetings.length e,zS j a.1.Allowed.length k,zS l a.1.Hidden.length m]::L') w') [(0,0),(1,0),(2,0),(3,0),(4,0),(5,0),(6,0),(7,0),(8,1),(9,1),(10,1),(11,0),(12,2)] Tryz_mixed (by kernel_rfl) (fun _ hg=>⟨_,aF.mono n6 hg⟩) (fun a40 x1=>?_)
     have f0:=aF.mono n6 x1
     refine bA rfl (fun _ _=>aV (t':=0) mS rfl rfl) (bA rfl (fun _ ⟨_,f0⟩=>cJ aBH f0 (i:=0) rfl rfl rfl) (bA rfl (fun _ _=>aW (v:=zS a4 more.length c5) rfl) (bA rfl (fun _ _=>aV (t':=0) mS rfl rfl) (bA rfl (fun _ ⟨_,f0⟩=>cJ aBH f0 (i:=1) rfl rfl rfl) (bA rfl (fun _ _=>aW g9) ?_)))));obtain ⟨e0,n7,hm⟩:=aB hm
     refine bA rfl (fun _ _=>dP rI rfl (f4.mono b5) rfl rfl rfl n7) ?_;obtain ⟨a41,x2,x3⟩:=bG.el (sz:=4) rfl f4 n7
     obtain ⟨n8,n9,o0,o1,rfl,x4,x5⟩:=x3
     refine bA rfl (fun _ ⟨_,f0⟩=>fP (t:=0) (vs:=(zC e0 n8 n9 o0 o1)) kJ f0 (x2.mono b5) rfl rfl rfl) (jN rfl ?_);obtain ⟨a7,x6,hm⟩:=aB hm
     refine aR (vs:=[zS a4 more.length c5,zA (zCa e0 n8 n9 o0 o1)]) call7 rfl (aHw x6 f0 (h6.mono (zL b1 b5)) (x4.mono b5) (x5.mono b5)) ?_
     rintro _ o2 ⟨l7,l8,i6,i7,rfl,o3⟩
     refine aT (aC ⟨⟨_,(aF.arr 4 [2,3,0,1] o3 rfl)⟩,?_⟩)
     refine jN rfl ?_;obtain ⟨x7,h1,x8,l9⟩:=aF.giveSp o3 (zL b1 b5) .head
     replace l9:aF G x7 (aL 70 K i6 i7 a7.E::box V 28 [zS a9 a8.length b0,zS d a.1.Meetings.length e,zS j a.1.Allowed.length k,zS l a.1.Hidden.length m]::box y 28 [zS q a.1.Parts.length r,zS d a.1.Meetings.length e,zS j a.1.Allowed.length k,zS l a.1.Hidden.length m]::aL 35 x a9 b0 a8::L) o2:=l9
     obtain ⟨d5,h2,x9,m0⟩:=aF.giveSp l9 (zL (zL b1 b5) h1) .head
     replace m0:aF G d5 (box V 28 [zS a9 a8.length b0,zS d a.1.Meetings.length e,zS j a.1.Allowed.length k,zS l a.1.Hidden.length m]::box y 28 [zS q a.1.Parts.length r,zS d a.1.Meetings.length e,zS j a.1.Allowed.length k,zS l a.1.Hidden.length m]::aL 35 x a9 b0 a8::L) o2:=m0
     refine cK (Kt:=d5) (xs:=([⟨a7.N,a7.I,a7.L,a7.E⟩]:List bB)) (cs:=(zC a7 l7 l8 i6 i7)) (vs:=[(0,zA (zCa a7 l7 l8 i6 i7))]) rI aFC rfl rfl m0 rfl (by kernel_rfl) rfl rfl rfl ⟨⟨l7,l8,i6,i7,rfl,(x8.mono h2),x9⟩,trivial⟩ (fun y0 y1 (o4:aF G d5 (aL 35 d5 y0 1 ([⟨a7.N,a7.I,a7.L,a7.E⟩]:List bB)::box V 28 [zS a9 a8.length b0,zS d a.1.Meetings.length e,zS j a.1.Allowed.length k,zS l a.1.Hidden.length m]::box y 28 [zS q a.1.Parts.length r,zS d a.1.Meetings.length e,zS j a.1.Allowed.length k,zS l a.1.Hidden.length m]::aL 35 x a9 b0 a8::L) y1)=>(aT (aC ⟨⟨_,(aF.weakK (aF.arr 3 [1,2,0] o4 rfl) (zL h1 h2))⟩,?_⟩)))
     refine jN rfl ?_;obtain ⟨f8,y2,hm⟩:=aB hm
     refine aFe (i:=2) d5 rI underlying24 aFC rfl rfl o4 rfl (zL h1 h2) (zR _) y2 rfl rfl rfl rfl (fun _ _ _ h=>El.one h) (fun f9 g0 y3 (o5:aF G d5 (box V 28 [zS a9 a8.length b0,zS d a.1.Meetings.length e,zS j a.1.Allowed.length k,zS l a.1.Hidden.length m]::box y 28 [zS q a.1.Parts.length r,zS d a.1.Meetings.length e,zS j a.1.Allowed.length k,zS l a.1.Hidden.length m]::aL 35 d5 f9 g0 f8::L) y3)=>(aT (aC ⟨⟨_,(aF.weakK o5 (zL h1 h2))⟩,?_⟩)))
     exact bA rfl (fun _ _=>aV (t':=0) mS rfl rfl) (WE_s rfl (bS (i:=0) (ns:=[zS f9 f8.length g0]) (us:=[zS f9 f8.length g0,zS d a.1.Meetings.length e,zS j a.1.Allowed.length k,zS l a.1.Hidden.length m]) sizeOf24 o5 rfl rfl rfl rfl rfl (dQ rfl) rfl rfl (fun y4 (y5:aF G d5 (box V 28 [zS f9 f8.length g0,zS d a.1.Meetings.length e,zS j a.1.Allowed.length k,zS l a.1.Hidden.length m]::box y 28 [zS q a.1.Parts.length r,zS d a.1.Meetings.length e,zS j a.1.Allowed.length k,zS l a.1.Hidden.length m]::aL 35 d5 f9 g0 f8::L) y4)=>(aH (oS (dB (aC ⟨bL,d5,f8,f9,g0,(zL h1 h2),hm,(aF.arr 3 [2,0,1] y5 rfl)⟩)))))))
    ·refine bE l6 rfl ?_;obtain ⟨a42,o6,y6,y7,y8⟩:=aF.lendBp i2 zt1
     obtain ⟨m1,m2,y9,o7,z0⟩:=aF.lendBp y7 zt1
     refine cW (C:=fun w'=>∃ L',aF G m1 L' w') [(0,0),(1,0),(2,0),(3,0),(4,0),(5,0),(6,0),(7,1),(8,1),(9,0),(10,2)] Tryz_mixed (by kernel_rfl) (fun _ hg=>⟨_,aF.mono o7 hg⟩) (fun a43 z1=>?_)
     have f1:=aF.mono o7 z1
     refine bA rfl (fun _ _=>aV (t':=0) mS rfl rfl) (bA rfl (fun _ ⟨_,f1⟩=>bD (t:=0) aBH f1 (y6.mono m2) rfl rfl) (bA rfl (fun _ _=>aV (t':=0) mS rfl rfl) (bA rfl (fun _ ⟨_,f1⟩=>bD (t:=0) aBH f1 y9 rfl rfl) (bA rfl (fun _ _=>aW g9) ?_))));obtain ⟨b4,o8,hm⟩:=aB hm
     refine bA rfl (fun _ _=>dP rI rfl (f4.mono (zL (zL b5 o6) m2)) rfl rfl rfl o8) ?_;obtain ⟨a44,z2,z3⟩:=bG.el (sz:=4) rfl f4 o8
     obtain ⟨i8,i9,j0,j1,rfl,z4,z5⟩:=z3
     refine bA rfl (fun _ ⟨_,f1⟩=>fP (t:=0) (vs:=(zC b4 i8 i9 j0 j1)) kJ f1 (z2.mono (zL (zL b5 o6) m2)) rfl rfl rfl) (jN rfl (cK (Kt:=x) (xs:=([b4]:List bB)) (cs:=(zC b4 i8 i9 j0 j1)) (vs:=[(0,zA (zCa b4 i8 i9 j0 j1))]) rI aFC rfl rfl f1 rfl (by kernel_rfl) rfl rfl rfl ⟨⟨i8,i9,j0,j1,rfl,(z4.mono b5),(z5.mono b5)⟩,trivial⟩ (fun z6 z7 (o9:aF G m1 (aL 35 x z6 1 ([b4]:List bB)::aL 35 x a9 b0 a8::L) z7)=>(aT (aC ⟨⟨_,o9⟩,?_⟩)))))
     refine jN rfl ?_;obtain ⟨g1,z8,hm⟩:=aB hm
     refine aFe (i:=0) x rI underlying24 aFC rfl rfl o9 rfl (zR _) (zR _) z8 rfl rfl rfl rfl (fun _ _ _ h=>El.one h) (fun g2 g3 z9 (p0:aF G m1 (aL 35 x g2 g3 g1::L) z9)=>(aT (aC ⟨⟨_,p0⟩,?_⟩)))
     refine bA rfl (fun _ _=>aV (t':=0) mS rfl rfl) ?_
     have a00:=z0 _ _ p0
     have a01:=y8 _ _ a00
     exact WE_s rfl (bS (i:=0) (ns:=[zS g2 g1.length g3]) (us:=[zS g2 g1.length g3,zS d a.1.Meetings.length e,zS j a.1.Allowed.length k,zS l a.1.Hidden.length m]) sizeOf24 a01 rfl rfl rfl rfl rfl (dQ rfl) rfl rfl (fun a02 (a03:aF G x (box V 28 [zS g2 g1.length g3,zS d a.1.Meetings.length e,zS j a.1.Allowed.length k,zS l a.1.Hidden.length m]::box y 28 [zS q a.1.Parts.length r,zS d a.1.Meetings.length e,zS j a.1.Allowed.length k,zS l a.1.Hidden.length m]::aL 35 x g2 g3 g1::L) a02)=>(aH (oS (dB (aC ⟨bL,x,g1,g2,g3,(zR _),hm,(aF.arr 3 [2,0,1] a03 rfl)⟩))))))
   ·refine bE l5 rfl (aBe (kO (kO ?_)))
    have a04:=hr _ (zI hm).symm
    subst a04
    have hm:(qU a a8)=some R:=ho
    clear hr ho
    exact vL (aC ⟨bL,x,a8,a9,b0,b5,hm,i2⟩)
end Gv
