/- Walks, printed by program. -/
import Derived.Test.YtgpmcacjpjongaaGreatDoorJWk7
set_option linter.all false
namespace Gv
open Go.Value renaming slice→zS,bool→zB,pointer→zP,agg→zA,tuple→zT
open Option.some renaming inj→zI
open Gv.Hp renaming le_trans→zL,le_refl→zR
open Go Go.Proofs Go.Proofs.Tryz
set_option maxRecDepth 20000
set_option maxHeartbeats 40000000
variable {G:wY} {K:Hp} {L:List iN} {w:World} {a1 a4 a7 a10 a13:Option Addr} {c2 c5 c8 c11 c14:Nat}
theorem aBx {spec made:bF} {j5:(List aF)} {R:(Bool × (List aF) × aF × Int)} (hm:kU spec made j5=some R) (hs:aD G K (L) w) (hG:G.lo=0) (h3:bS K a1 c2 spec.L) (h6:bS K a4 c5 spec.E) (h9:bS K a7 c8 made.L) (i2:bS K a10 c11 made.E) (e3:bS K a13 c14 j5):
  Calls prog 6 ([zA (zCa spec a1 c2 a4 c5),zA (zCa made a7 c8 a10 c11),zS a13 j5.length c14]:List Value).toArray w (eR fun v w'=>∃ K' u7 u8,v=zT #[zB R.1,zS u7 R.2.1.length u8,str R.2.2.1,i64 R.2.2.2]/\Hp.le K K'/\bS K' u7 u8 R.2.1/\aD G K' (L) w'):=by
 let d9:=(zC made a7 c8 a10 c11)
 let e0:=(zC spec a1 c2 a4 c5)
 let i3:=[zA (zCa made a7 c8 a10 c11),zS a13 j5.length c14]
 let b8:=zG
 let c6:=[zS a13 j5.length c14]
 let k7:=[zA (zCa spec a1 c2 a4 c5),zS a13 j5.length c14]
 refine aR func6 rfl (by kernel_rfl) (by show (3:Nat)<=78;decide) ?_;unfold kU at hm
 refine aO (fL (v:=zA (zCa spec a1 c2 a4 c5)) (vs:=e0) hs rfl rfl (fun e9 w17 a09=>(fL (v:=zA (zCa made a7 c8 a10 c11)) (vs:=d9) a09 rfl rfl (fun f0 w20 a11=>(fL (v:=zS a13 j5.length c14) (vs:=c6) a11 rfl rfl (fun c3 w23 b77=>(aI (v:=zB false) (aI (v:=zS none 0 0) (aI (v:=str ([]:aF)) (aI (v:=i64 0) (aK (aM (aM (bR [3,4,5] (fun f w=>∃ q6,rU spec made j5 q6=some R/\f 29=zB q6/\aD G K (box c3 24 c6::box f0 27 d9::box e9 27 e0::L) w) ?_ ?_))))))))))))))
 ·rintro f w27 ⟨q6,hm,u9,q1⟩
  unfold rU at hm
  refine aB ?_
  rcases aN hm with ⟨q7,hm⟩|⟨q7,hm⟩
  ·refine aT q7 u9 (aO (aI (v:=zB false) (aI (v:=zS none 0 0) (aI (v:=str ([]:aF)) (aI (v:=i64 1) (aK ?_))))));obtain rfl:=zI hm
   exact kX (cC (aHc results6 rfl rfl rfl rfl ⟨K,none,0,rfl,(zR _),uG _,(aD.arr 3 [] q1 rfl)⟩))
  ·refine aW q7 u9 (bB (aB (aO (aH (gE (us:=e0) cW q1 (i:=2) rfl rfl rfl rfl) (aH (fP gY q1 (i:=0) rfl rfl rfl) ?_)))));obtain ⟨c,q32,hm⟩:=aC hm
   refine aQ (vs:=k7) call16 rfl (kA q32 q1 hG h3 h6 e3) ?_
   rintro _ w41 ⟨a9,p,q,n,o,g,h,rfl,z,a15⟩
   refine aL (v:=zT #[zA (zCa c.1 p q n o),zS g c.2.1.length h,i64 c.2.2]) (aH (bD rfl rfl) (aH (bD rfl rfl) (aH (bD rfl rfl) (aX (vs:=b8) zeroValue27 a15 rfl (fun a5 w44 a16=>(aX (vs:=[zS none 0 0]) zeroValue48 a16 rfl (fun a6 w47 a17=>(bH (i:=1) (ns:=(zC c.1 p q n o)) (us:=(zC c.1 p q n o)) sizeOf27 a17 rfl rfl rfl rfl rfl (cK rfl) rfl rfl (fun w49 (a19:aD G a9 (box a6 48 [zS none 0 0]::box a5 27 (zC c.1 p q n o)::aG 9 K p q c.1.L::aG 46 K n o c.1.E::aG 55 a9 g h c.2.1::box c3 24 c6::box f0 27 d9::box e9 27 e0::L) w49)=>(bH (i:=0) (ns:=[zS g c.2.1.length h]) (us:=[zS g c.2.1.length h]) sizeOf48 a19 rfl rfl rfl rfl rfl (cK rfl) rfl rfl (fun w51 (q8:aD G a9 (box a6 48 [zS g c.2.1.length h]::box a5 27 (zC c.1 p q n o)::aG 9 K p q c.1.L::aG 46 K n o c.1.E::aG 55 a9 g h c.2.1::box c3 24 c6::box f0 27 d9::box e9 27 e0::L) w51)=>(aI (v:=i64 c.2.2) (aK (aO (aH (gE (us:=d9) cW q8 (i:=6) rfl rfl rfl rfl) (aH (fP gY q8 (i:=5) rfl rfl rfl) ?_))))))))))))))))
   obtain ⟨d,q54,hm⟩:=aC hm
   refine aQ (vs:=i3) call16 rfl (kA q54 q8 hG (h9.mono z) (i2.mono z) (e3.mono z)) ?_
   rintro _ w63 ⟨Z,x,y,r,u,l,m,rfl,V,a22⟩
   refine aL (v:=zT #[zA (zCa d.1 x y r u),zS l d.2.1.length m,i64 d.2.2]) (aH (bD rfl rfl) (aH (bD rfl rfl) (aH (bD rfl rfl) (aX (vs:=b8) zeroValue27 a22 rfl (fun b0 w66 a23=>(aX (vs:=[zS none 0 0]) zeroValue48 a23 rfl (fun a8 w69 a24=>(bH (i:=1) (ns:=(zC d.1 x y r u)) (us:=(zC d.1 x y r u)) sizeOf27 a24 rfl rfl rfl rfl rfl (cK rfl) rfl rfl (fun w71 (a26:aD G Z (box a8 48 [zS none 0 0]::box b0 27 (zC d.1 x y r u)::aG 9 K x y d.1.L::aG 46 K r u d.1.E::aG 55 Z l m d.2.1::box a6 48 [zS g c.2.1.length h]::box a5 27 (zC c.1 p q n o)::aG 9 K p q c.1.L::aG 46 K n o c.1.E::aG 55 a9 g h c.2.1::box c3 24 c6::box f0 27 d9::box e9 27 e0::L) w71)=>(bH (i:=0) (ns:=[zS l d.2.1.length m]) (us:=[zS l d.2.1.length m]) sizeOf48 a26 rfl rfl rfl rfl rfl (cK rfl) rfl rfl (fun w73 (b86:aD G Z (box a8 48 [zS l d.2.1.length m]::box b0 27 (zC d.1 x y r u)::aG 9 K x y d.1.L::aG 46 K r u d.1.E::aG 55 Z l m d.2.1::box a6 48 [zS g c.2.1.length h]::box a5 27 (zC c.1 p q n o)::aG 9 K p q c.1.L::aG 46 K n o c.1.E::aG 55 a9 g h c.2.1::box c3 24 c6::box f0 27 d9::box e9 27 e0::L) w73)=>(aI (v:=i64 d.2.2) (aK (aM (aM (bR [3,4,5,10,11,13,14] (fun f w=>∃ q9,wD spec made j5 c d q9=some R/\f 49=zB q9/\aD G Z (box a8 48 [zS l d.2.1.length m]::box b0 27 (zC d.1 x y r u)::aG 9 K x y d.1.L::aG 46 K r u d.1.E::aG 55 Z l m d.2.1::box a6 48 [zS g c.2.1.length h]::box a5 27 (zC c.1 p q n o)::aG 9 K p q c.1.L::aG 46 K n o c.1.E::aG 55 a9 g h c.2.1::box c3 24 c6::box f0 27 d9::box e9 27 e0::L) w) ?_ ?_))))))))))))))))
   ·rintro f w77 ⟨q9,hm,v0,v1⟩
    unfold wD at hm
    refine aB ?_
    rcases aN hm with ⟨r0,hm⟩|⟨r0,hm⟩
    ·refine aT r0 v0 (aO (aI (v:=zB false) (aI (v:=zS none 0 0) (aI (v:=str ([]:aF)) (aI (v:=i64 5) (aK ?_))))));obtain rfl:=zI hm
     exact kX (cC (aHc results6 rfl rfl rfl rfl ⟨Z,none,0,rfl,(zL z V),uG _,(aD.arr 13 [] v1 rfl)⟩))
    ·refine aW r0 v0 (bB (aB (aM (bR [5,10,11,13,14] (fun f w=>∃ f7 f8 e1 d7 e7 e8 d0 c9 j6 f4 f5 f1 f2 h8 d5 d6 d2 d3,aAM j5 c d f7 f8 e1 d7 e7 e8 d0 c9=some R/\f 16=zP (some ⟨j6,0,none⟩)/\f 17=zP (some ⟨h8,0,none⟩)/\aD G Z (aG 46 K d2 d3 c9::aG 9 K d5 d6 d0::box h8 27 [i64 e7,i64 e8,zS d5 d0.length d6,zS d2 c9.length d3]::aG 46 K f1 f2 d7::aG 9 K f4 f5 e1::box j6 27 [i64 f7,i64 f8,zS f4 e1.length f5,zS f1 d7.length f2]::box a8 48 [zS l d.2.1.length m]::box b0 27 (zC d.1 x y r u)::aG 9 K x y d.1.L::aG 46 K r u d.1.E::aG 55 Z l m d.2.1::box a6 48 [zS g c.2.1.length h]::box a5 27 (zC c.1 p q n o)::aG 9 K p q c.1.L::aG 46 K n o c.1.E::aG 55 a9 g h c.2.1::box c3 24 c6::L) w) ?_ ?_))))
     ·rintro f g9 ⟨f7,f8,e1,d7,e7,e8,d0,c9,j6,f4,f5,f1,f2,h8,d5,d6,d2,d3,hm,r1,r2,r3⟩
      unfold aAM at hm
      refine aB (aO (aH (gE (us:=(zC c.1 p q n o)) cW r3 (i:=12) rfl rfl rfl rfl) (aH (gE (us:=(zC d.1 x y r u)) cW r3 (i:=7) rfl rfl rfl rfl) (aH (oM (vs:=[zP (some ⟨j6,0,none⟩),zP (some ⟨h8,0,none⟩),zP (some ⟨c3,0,none⟩),zP (some ⟨a6,0,none⟩),zP (some ⟨a8,0,none⟩)]) (lst5 r1 r2 rfl rfl rfl)) ?_))));obtain ⟨a29,h0,a30,r4⟩:=aD.giveSp r3 (zL z V) (.tail zt12)
      replace r4:aD G a29 (aG 46 K d2 d3 c9::aG 9 K d5 d6 d0::box h8 27 [i64 e7,i64 e8,zS d5 d0.length d6,zS d2 c9.length d3]::aG 46 K f1 f2 d7::aG 9 K f4 f5 e1::box j6 27 [i64 f7,i64 f8,zS f4 e1.length f5,zS f1 d7.length f2]::box a8 48 [zS l d.2.1.length m]::box b0 27 (zC d.1 x y r u)::aG 9 K x y d.1.L::aG 46 K r u d.1.E::aG 55 Z l m d.2.1::box a6 48 [zS g c.2.1.length h]::box a5 27 (zC c.1 p q n o)::aG 46 K n o c.1.E::aG 55 a9 g h c.2.1::box c3 24 c6::L) g9:=r4
      obtain ⟨a31,h1,a32,r5⟩:=aD.giveSp r4 (zL (zL z V) h0) (.tail zt12)
      replace r5:aD G a31 (aG 46 K d2 d3 c9::aG 9 K d5 d6 d0::box h8 27 [i64 e7,i64 e8,zS d5 d0.length d6,zS d2 c9.length d3]::aG 46 K f1 f2 d7::aG 9 K f4 f5 e1::box j6 27 [i64 f7,i64 f8,zS f4 e1.length f5,zS f1 d7.length f2]::box a8 48 [zS l d.2.1.length m]::box b0 27 (zC d.1 x y r u)::aG 9 K x y d.1.L::aG 46 K r u d.1.E::aG 55 Z l m d.2.1::box a6 48 [zS g c.2.1.length h]::box a5 27 (zC c.1 p q n o)::aG 55 a9 g h c.2.1::box c3 24 c6::L) g9:=r5
      obtain ⟨a33,h2,a34,r6⟩:=aD.giveSp r5 (zL (zL (zL z V) h0) h1) zt8
      replace r6:aD G a33 (aG 46 K d2 d3 c9::aG 9 K d5 d6 d0::box h8 27 [i64 e7,i64 e8,zS d5 d0.length d6,zS d2 c9.length d3]::aG 46 K f1 f2 d7::aG 9 K f4 f5 e1::box j6 27 [i64 f7,i64 f8,zS f4 e1.length f5,zS f1 d7.length f2]::box a8 48 [zS l d.2.1.length m]::box b0 27 (zC d.1 x y r u)::aG 46 K r u d.1.E::aG 55 Z l m d.2.1::box a6 48 [zS g c.2.1.length h]::box a5 27 (zC c.1 p q n o)::aG 55 a9 g h c.2.1::box c3 24 c6::L) g9:=r6
      obtain ⟨a36,h4,a38,r7⟩:=aD.giveSp r6 (zL (zL (zL (zL z V) h0) h1) h2) zt8
      replace r7:aD G a36 (aG 46 K d2 d3 c9::aG 9 K d5 d6 d0::box h8 27 [i64 e7,i64 e8,zS d5 d0.length d6,zS d2 c9.length d3]::aG 46 K f1 f2 d7::aG 9 K f4 f5 e1::box j6 27 [i64 f7,i64 f8,zS f4 e1.length f5,zS f1 d7.length f2]::box a8 48 [zS l d.2.1.length m]::box b0 27 (zC d.1 x y r u)::aG 55 Z l m d.2.1::box a6 48 [zS g c.2.1.length h]::box a5 27 (zC c.1 p q n o)::aG 55 a9 g h c.2.1::box c3 24 c6::L) g9:=r7
      obtain ⟨a40,h5,r8,r9⟩:=aD.giveSp r7 (zL (zL (zL (zL (zL z V) h0) h1) h2) h4) zt4
      replace r9:aD G a40 (aG 46 K d2 d3 c9::aG 9 K d5 d6 d0::box h8 27 [i64 e7,i64 e8,zS d5 d0.length d6,zS d2 c9.length d3]::aG 46 K f1 f2 d7::box j6 27 [i64 f7,i64 f8,zS f4 e1.length f5,zS f1 d7.length f2]::box a8 48 [zS l d.2.1.length m]::box b0 27 (zC d.1 x y r u)::aG 55 Z l m d.2.1::box a6 48 [zS g c.2.1.length h]::box a5 27 (zC c.1 p q n o)::aG 55 a9 g h c.2.1::box c3 24 c6::L) g9:=r9
      obtain ⟨a41,f6,s0,s1⟩:=aD.giveSp r9 (zL (zL (zL (zL (zL (zL z V) h0) h1) h2) h4) h5) zt3
      replace s1:aD G a41 (aG 46 K d2 d3 c9::aG 9 K d5 d6 d0::box h8 27 [i64 e7,i64 e8,zS d5 d0.length d6,zS d2 c9.length d3]::box j6 27 [i64 f7,i64 f8,zS f4 e1.length f5,zS f1 d7.length f2]::box a8 48 [zS l d.2.1.length m]::box b0 27 (zC d.1 x y r u)::aG 55 Z l m d.2.1::box a6 48 [zS g c.2.1.length h]::box a5 27 (zC c.1 p q n o)::aG 55 a9 g h c.2.1::box c3 24 c6::L) g9:=s1
      obtain ⟨a42,e4,s2,s3,_⟩:=aD.lendBp s1 zt3
      replace s3:aD G a42 (aG 46 K d2 d3 c9::aG 9 K d5 d6 d0::box h8 27 [i64 e7,i64 e8,zS d5 d0.length d6,zS d2 c9.length d3]::box a8 48 [zS l d.2.1.length m]::box b0 27 (zC d.1 x y r u)::aG 55 Z l m d.2.1::box a6 48 [zS g c.2.1.length h]::box a5 27 (zC c.1 p q n o)::aG 55 a9 g h c.2.1::box c3 24 c6::L) g9:=s3
      obtain ⟨a43,d8,s4,s5⟩:=aD.giveSp s3 (zL (zL (zL (zL (zL (zL (zL (zL z V) h0) h1) h2) h4) h5) f6) e4) zt1
      replace s5:aD G a43 (aG 46 K d2 d3 c9::box h8 27 [i64 e7,i64 e8,zS d5 d0.length d6,zS d2 c9.length d3]::box a8 48 [zS l d.2.1.length m]::box b0 27 (zC d.1 x y r u)::aG 55 Z l m d.2.1::box a6 48 [zS g c.2.1.length h]::box a5 27 (zC c.1 p q n o)::aG 55 a9 g h c.2.1::box c3 24 c6::L) g9:=s5
      obtain ⟨a44,d4,s6,s7⟩:=aD.giveSp s5 (zL (zL (zL (zL (zL (zL (zL (zL (zL z V) h0) h1) h2) h4) h5) f6) e4) d8) .head
      replace s7:aD G a44 (box h8 27 [i64 e7,i64 e8,zS d5 d0.length d6,zS d2 c9.length d3]::box a8 48 [zS l d.2.1.length m]::box b0 27 (zC d.1 x y r u)::aG 55 Z l m d.2.1::box a6 48 [zS g c.2.1.length h]::box a5 27 (zC c.1 p q n o)::aG 55 a9 g h c.2.1::box c3 24 c6::L) g9:=s7
      obtain ⟨a45,d1,s8,s9,_⟩:=aD.lendBp s7 .head
      replace s9:aD G a45 (box a8 48 [zS l d.2.1.length m]::box b0 27 (zC d.1 x y r u)::aG 55 Z l m d.2.1::box a6 48 [zS g c.2.1.length h]::box a5 27 (zC c.1 p q n o)::aG 55 a9 g h c.2.1::box c3 24 c6::L) g9:=s9
      obtain ⟨a46,c7,v2,t0,_⟩:=aD.lendBp s9 zt6
      replace t0:aD G a46 (box a8 48 [zS l d.2.1.length m]::box b0 27 (zC d.1 x y r u)::aG 55 Z l m d.2.1::box a6 48 [zS g c.2.1.length h]::box a5 27 (zC c.1 p q n o)::aG 55 a9 g h c.2.1::L) g9:=t0
      obtain ⟨a47,c4,a48,t1⟩:=aD.giveSp t0 (zL (zL (zL (zL (zL (zL (zL (zL (zL (zL (zL V h0) h1) h2) h4) h5) f6) e4) d8) d4) d1) c7) zt5
      replace t1:aD G a47 (box a8 48 [zS l d.2.1.length m]::box b0 27 (zC d.1 x y r u)::aG 55 Z l m d.2.1::box a6 48 [zS g c.2.1.length h]::box a5 27 (zC c.1 p q n o)::L) g9:=t1
      obtain ⟨a49,b9,a50,t2,_⟩:=aD.lendBp t1 zt3
      replace t2:aD G a49 (box a8 48 [zS l d.2.1.length m]::box b0 27 (zC d.1 x y r u)::aG 55 Z l m d.2.1::box a5 27 (zC c.1 p q n o)::L) g9:=t2
      obtain ⟨a51,c0,a52,t3⟩:=aD.giveSp t2 (zL (zL (zL (zL (zL (zL (zL (zL (zL (zL (zL (zL h0 h1) h2) h4) h5) f6) e4) d8) d4) d1) c7) c4) b9) zt2
      replace t3:aD G a51 (box a8 48 [zS l d.2.1.length m]::box b0 27 (zC d.1 x y r u)::box a5 27 (zC c.1 p q n o)::L) g9:=t3
      obtain ⟨a53,b7,a54,t4,_⟩:=aD.lendBp t3 .head
      replace t4:aD G a53 (box b0 27 (zC d.1 x y r u)::box a5 27 (zC c.1 p q n o)::L) g9:=t4
      obtain ⟨j7,a55,hm⟩:=aC hm
      refine aQ (vs:=[zA (zCa c.1 p q n o),zA (zCa d.1 x y r u),Value.func (.func 19) #[] #[cP (some ⟨j6,0,none⟩) 0,cP (some ⟨h8,0,none⟩) 0,cP (some ⟨c3,0,none⟩) 0,cP (some ⟨a6,0,none⟩) 0,cP (some ⟨a8,0,none⟩) 0]]) call18 rfl (aDO (a:=⟨c.1.N,c.1.I,c.1.L,c.1.E⟩) (b:=⟨d.1.N,d.1.I,d.1.L,d.1.E⟩) (found_c0_:=⟨f7,f8,e1,d7⟩) (found_c1_:=⟨e7,e8,d0,c9⟩) a55 t4 hG (a30.mono (zL (zL (zL (zL (zL (zL (zL (zL (zL (zL (zL (zL (zL h1 h2) h4) h5) f6) e4) d8) d4) d1) c7) c4) b9) c0) b7)) (a32.mono (zL (zL (zL (zL (zL (zL (zL (zL (zL (zL (zL (zL h2 h4) h5) f6) e4) d8) d4) d1) c7) c4) b9) c0) b7)) (a34.mono (zL (zL (zL (zL (zL (zL (zL (zL (zL (zL (zL h4 h5) f6) e4) d8) d4) d1) c7) c4) b9) c0) b7)) (a38.mono (zL (zL (zL (zL (zL (zL (zL (zL (zL (zL h5 f6) e4) d8) d4) d1) c7) c4) b9) c0) b7)) (s2.mono (zL (zL (zL (zL (zL (zL (zL d8 d4) d1) c7) c4) b9) c0) b7)) (r8.mono (zL (zL (zL (zL (zL (zL (zL (zL (zL f6 e4) d8) d4) d1) c7) c4) b9) c0) b7)) (s0.mono (zL (zL (zL (zL (zL (zL (zL (zL e4 d8) d4) d1) c7) c4) b9) c0) b7)) (s8.mono (zL (zL (zL (zL c7 c4) b9) c0) b7)) (s4.mono (zL (zL (zL (zL (zL (zL d4 d1) c7) c4) b9) c0) b7)) (s6.mono (zL (zL (zL (zL (zL d1 c7) c4) b9) c0) b7)) (v2.mono (zL (zL (zL c4 b9) c0) b7)) (e3.mono (zL (zL (zL (zL (zL (zL (zL (zL (zL (zL (zL (zL (zL (zL (zL (zL z V) h0) h1) h2) h4) h5) f6) e4) d8) d4) d1) c7) c4) b9) c0) b7)) (a50.mono (zL c0 b7)) (a48.mono (zL (zL b9 c0) b7)) a54 (a52.mono b7)) ?_
      rintro _ b88 ⟨t5,k3,k4,rfl,f3,t6,t7⟩
      refine aL (v:=zT #[zS k3 j7.1.length k4,zB j7.2]) (aH (bD rfl rfl) (aH (bD rfl rfl) (aI (v:=zS k3 j7.1.length k4) (aI (v:=zB j7.2) (aK (aM (aO (aL (v:=zB j7.2) (aH (rA rfl) (aK ?_))))))))))
      rcases aN hm with ⟨t8,hm⟩|⟨t8,hm⟩
      ·refine aT t8 rfl (aO (aI (v:=zB true) (aI (v:=zS none 0 0) (aI (v:=str ([]:aF)) (aI (v:=i64 0) (aK ?_))))));obtain rfl:=zI hm
       exact kX (cC (aHc results6 rfl rfl rfl rfl ⟨t5,none,0,rfl,(zL (zL (zL (zL (zL (zL (zL (zL (zL (zL (zL (zL (zL (zL (zL (zL (zL z V) h0) h1) h2) h4) h5) f6) e4) d8) d4) d1) c7) c4) b9) c0) b7) f3),uG _,(aD.arr 2 [] t7 rfl)⟩))
      ·refine aW t8 rfl (bB (aB (aM (dX (C:=fun w'=>∃ L',aD G t5 L' w') [(0,0),(1,0),(2,0),(3,0),(4,0),(5,0),(7,0),(8,0),(6,1),(9,1),(10,1),(11,0),(13,0),(14,0),(12,1),(15,0),(16,0)] Tryz_mixed (by kernel_rfl) (fun _ hg=>⟨_,aD.mono t7 hg⟩) (fun b89 a58=>?_)))))
       have j8:=aD.mono t7 a58
       refine bZ rfl (fun _ _=>bJ (v:=zS k3 j7.1.length k4) rfl) (bZ rfl (fun _ ⟨_,j8⟩=>eJ (t:=0) (vs:=[i64 f7,i64 f8,zS f4 e1.length f5,zS f1 d7.length f2]) cW j8 (s2.mono (zL (zL (zL (zL (zL (zL (zL (zL d8 d4) d1) c7) c4) b9) c0) b7) f3)) (eY r1) rfl rfl) (bZ rfl (fun _ ⟨_,j8⟩=>eJ (t:=0) (vs:=[i64 e7,i64 e8,zS d5 d0.length d6,zS d2 c9.length d3]) cW j8 (s8.mono (zL (zL (zL (zL (zL c7 c4) b9) c0) b7) f3)) (eY r2) rfl rfl) (bZ rfl (fun _ ⟨_,j8⟩=>bG (t:=0) gY j8 (v2.mono (zL (zL (zL (zL c4 b9) c0) b7) f3)) (eY rfl) rfl) (bZ rfl (fun _ ⟨_,j8⟩=>eJ (t:=0) (vs:=[i64 f7,i64 f8,zS f4 e1.length f5,zS f1 d7.length f2]) cW j8 (s2.mono (zL (zL (zL (zL (zL (zL (zL (zL d8 d4) d1) c7) c4) b9) c0) b7) f3)) (eY r1) rfl rfl) (bZ rfl (fun _ _=>bJ (v:=zS k3 j7.1.length k4) rfl) (bZ rfl (fun _ ⟨_,j8⟩=>eJ (t:=0) (vs:=[i64 e7,i64 e8,zS d5 d0.length d6,zS d2 c9.length d3]) cW j8 (s8.mono (zL (zL (zL (zL (zL c7 c4) b9) c0) b7) f3)) (eY r2) rfl rfl) (bZ rfl (fun _ _=>bJ (v:=zS k3 j7.1.length k4) rfl) (gP rfl ?_))))))))
       obtain ⟨a60,a62,hm⟩:=aC hm
       refine aQ (vs:=[zA #[i64 f7,i64 f8,zS f4 e1.length f5,zS f1 d7.length f2],zS k3 j7.1.length k4]) call21 rfl (mU (t:=⟨f7,f8,e1,d7⟩) a62 j8 (r8.mono (zL (zL (zL (zL (zL (zL (zL (zL (zL (zL f6 e4) d8) d4) d1) c7) c4) b9) c0) b7) f3)) (s0.mono (zL (zL (zL (zL (zL (zL (zL (zL (zL e4 d8) d4) d1) c7) c4) b9) c0) b7) f3)) t6) ?_
       rintro _ b91 ⟨a63,a64,rfl,v3⟩
       refine aJ (aB ⟨⟨_,v3⟩,?_⟩)
       refine gP rfl ?_;obtain ⟨a65,a66,hm⟩:=aC hm
       refine aQ (vs:=[zA #[i64 e7,i64 e8,zS d5 d0.length d6,zS d2 c9.length d3],zS k3 j7.1.length k4]) call21 rfl (mU (t:=⟨e7,e8,d0,c9⟩) a66 v3 (s4.mono (zL (zL (zL (zL (zL (zL (zL d4 d1) c7) c4) b9) c0) b7) f3)) (s6.mono (zL (zL (zL (zL (zL (zL d1 c7) c4) b9) c0) b7) f3)) t6) ?_
       rintro _ b92 ⟨a67,a68,rfl,v4⟩
       refine aJ (aB ⟨⟨_,v4⟩,?_⟩)
       refine gP rfl ?_;obtain ⟨b93,k8,a69,a70,a71⟩:=aD.lendSp v4 (zL (zL (zL (zL (zL (zL (zL (zL (zL (zL (zL (zL (zL (zL (zL (zL (zL z V) h0) h1) h2) h4) h5) f6) e4) d8) d4) d1) c7) c4) b9) c0) b7) f3) zt1
       obtain ⟨b94,k9,a72,a73,a74⟩:=aD.lendSp a70 (zL (zL (zL (zL (zL (zL (zL (zL (zL (zL (zL (zL (zL (zL (zL (zL (zL (zL z V) h0) h1) h2) h4) h5) f6) e4) d8) d4) d1) c7) c4) b9) c0) b7) f3) k8) .head
       obtain ⟨b95,a75,hm⟩:=aC hm
       refine aQ (vs:=[zA #[i64 f7,i64 f8,zS f4 e1.length f5,zS f1 d7.length f2],zA #[i64 e7,i64 e8,zS d5 d0.length d6,zS d2 c9.length d3],zS a13 j5.length c14,zS a63 a60.length a64,zS a67 a65.length a68]) call20 rfl (sW (spec:=⟨f7,f8,e1,d7⟩) (made:=⟨e7,e8,d0,c9⟩) a75 a73 hG (r8.mono (zL (zL (zL (zL (zL (zL (zL (zL (zL (zL (zL (zL f6 e4) d8) d4) d1) c7) c4) b9) c0) b7) f3) k8) k9)) (s0.mono (zL (zL (zL (zL (zL (zL (zL (zL (zL (zL (zL e4 d8) d4) d1) c7) c4) b9) c0) b7) f3) k8) k9)) (s4.mono (zL (zL (zL (zL (zL (zL (zL (zL (zL d4 d1) c7) c4) b9) c0) b7) f3) k8) k9)) (s6.mono (zL (zL (zL (zL (zL (zL (zL (zL d1 c7) c4) b9) c0) b7) f3) k8) k9)) (e3.mono (zL (zL (zL (zL (zL (zL (zL (zL (zL (zL (zL (zL (zL (zL (zL (zL (zL (zL (zL z V) h0) h1) h2) h4) h5) f6) e4) d8) d4) d1) c7) c4) b9) c0) b7) f3) k8) k9)) (a69.mono k9) a72) ?_
       rintro _ b96 ⟨b97,b98,rfl,a76⟩
       have a77:=a74 _ _ a76
       have m0:=a71 _ _ a77
       refine aJ (aB ⟨⟨_,m0⟩,?_⟩)
       obtain ⟨a78,t9,hm⟩:=aC hm
       have a79:=dM m0 (i:=2) rfl t9
       refine bZ rfl (fun _ _=>fQ bE rfl a79 rfl rfl rfl t9) (bZ rfl (fun _ _=>cU (v:=zB false) rfl) (bZ rfl (fun _ _=>cU (v:=zS k3 j7.1.length k4) rfl) (gP rfl (aH (rB (t:=0) xB m0 (i:=2) rfl t9 rfl rfl rfl) (aJ (aB ⟨⟨_,m0⟩,?_⟩))))))
       refine bZ rfl (fun _ _=>cU (v:=str a78) rfl) (bZ rfl (fun _ _=>cU (v:=i64 0) rfl) (aCv (aB ?_)));obtain rfl:=zI hm
       exact kX (aHc results6 rfl rfl rfl rfl ⟨t5,k3,k4,rfl,(zL (zL (zL (zL (zL (zL (zL (zL (zL (zL (zL (zL (zL (zL (zL (zL (zL z V) h0) h1) h2) h4) h5) f6) e4) d8) d4) d1) c7) c4) b9) c0) b7) f3),t6,(aD.arr 5 [] m0 rfl)⟩)
     obtain ⟨b99,a3,v5,a81,i4⟩:=aD.lendBp v1 zt10
     obtain ⟨c00,a2,a82,a83,i5⟩:=aD.lendBp a81 zt10
     obtain ⟨i0,a0,a84,a86,i6⟩:=aD.lendBp a83 zt10
     refine mM (C:=fun w'=>∃ L',aD G i0 L' w') [9] Tryz_mixed (by kernel_rfl) (fun c01 a87=>?_)
     have h7:=aD.mono a86 a87
     refine cI (i:=0) rfl (by kernel_rfl) ⟨_,h7⟩ (fun _ ⟨_,h7⟩=>eJ (t:=0) (vs:=e0) cW h7 a84 rfl rfl rfl) (cI (i:=1) rfl (by kernel_rfl) ⟨_,h7⟩ (fun _ ⟨_,h7⟩=>bG (t:=0) gY h7 (v5.mono (zL a2 a0)) rfl rfl) (cI (i:=3) rfl (by kernel_rfl) ⟨_,h7⟩ (fun _ ⟨_,h7⟩=>eJ (t:=0) (vs:=d9) cW h7 (a82.mono a0) rfl rfl rfl) (cI (i:=4) rfl (by kernel_rfl) ⟨_,h7⟩ (fun _ ⟨_,h7⟩=>bG (t:=0) gY h7 (v5.mono (zL a2 a0)) rfl rfl) (aJt (i:=2) (j:=6) (k:=7) (by kernel_rfl) rfl rfl rfl ?_ ?_ ?_))))
     ·obtain ⟨e,a89,hm⟩:=aC hm
      refine aQ (vs:=k7) call17 rfl (aY a89 h7 hG (h3.mono (zL (zL (zL (zL z V) a3) a2) a0)) (h6.mono (zL (zL (zL (zL z V) a3) a2) a0)) (e3.mono (zL (zL (zL (zL z V) a3) a2) a0))) ?_
      rintro _ c02 ⟨b3,b4,b5,b6,rfl,q2⟩
      refine aJ (aB ⟨fun _=>⟨_,q2⟩,?_⟩)
      refine aJt (i:=5) (j:=6) (k:=7) (by kernel_rfl) rfl rfl rfl ?_ ?_ ?_
      ·obtain ⟨c1,a90,hm⟩:=aC hm
       refine aQ (vs:=i3) call17 rfl (aY a90 q2 hG (h9.mono (zL (zL (zL (zL z V) a3) a2) a0)) (i2.mono (zL (zL (zL (zL z V) a3) a2) a0)) (e3.mono (zL (zL (zL (zL z V) a3) a2) a0))) ?_
       rintro _ c03 ⟨j9,k0,k1,k2,rfl,u0⟩
       refine aJ (aB ⟨fun _=>⟨_,u0⟩,?_⟩)
       refine fR (i:=6) (j:=7) (by kernel_rfl) rfl rfl ?_ ?_
       ·refine aX (vs:=b8) zeroValue27 u0 rfl (fun v6 c04 v7=>(aJ (aB ⟨fun _=>⟨_,v7⟩,?_⟩)))
        refine aU (i:=7) (by kernel_rfl) rfl (aX (vs:=b8) zeroValue27 v7 rfl (fun v8 c05 v9=>(aJ (aB ⟨fun _=>⟨_,v9⟩,?_⟩))))
        refine aU (i:=8) (by kernel_rfl) rfl (bH (i:=1) (ns:=(zC e b3 b4 b5 b6)) (us:=(zC e b3 b4 b5 b6)) sizeOf27 v9 rfl rfl rfl rfl rfl (cK rfl) rfl rfl (fun a91 (w0:aD G i0 (box v8 27 b8::box v6 27 (zC e b3 b4 b5 b6)::aG 9 K j9 k0 c1.L::aG 46 K k1 k2 c1.E::aG 9 K b3 b4 e.L::aG 46 K b5 b6 e.E::box a8 48 [zS l d.2.1.length m]::box b0 27 (zC d.1 x y r u)::aG 9 K x y d.1.L::aG 46 K r u d.1.E::aG 55 Z l m d.2.1::box a6 48 [zS g c.2.1.length h]::box a5 27 (zC c.1 p q n o)::aG 9 K p q c.1.L::aG 46 K n o c.1.E::aG 55 a9 g h c.2.1::L) a91)=>(aJ (aB ⟨fun _=>⟨_,w0⟩,?_⟩))))
        refine aU (i:=9) (by kernel_rfl) rfl ?_
        have a92:=i6 _ _ w0
        have a93:=i5 _ _ a92
        have a95:=i4 _ _ a93
        refine bH (i:=3) (ns:=(zC c1 j9 k0 k1 k2)) (us:=(zC c1 j9 k0 k1 k2)) sizeOf27 a95 rfl rfl rfl rfl rfl (cK rfl) rfl rfl (fun a96 (c06:aD G Z (box c3 24 c6::box f0 27 d9::box e9 27 e0::box v8 27 (zC c1 j9 k0 k1 k2)::box v6 27 (zC e b3 b4 b5 b6)::aG 9 K j9 k0 c1.L::aG 46 K k1 k2 c1.E::aG 9 K b3 b4 e.L::aG 46 K b5 b6 e.E::box a8 48 [zS l d.2.1.length m]::box b0 27 (zC d.1 x y r u)::aG 9 K x y d.1.L::aG 46 K r u d.1.E::aG 55 Z l m d.2.1::box a6 48 [zS g c.2.1.length h]::box a5 27 (zC c.1 p q n o)::aG 9 K p q c.1.L::aG 46 K n o c.1.E::aG 55 a9 g h c.2.1::L) a96)=>(aJ (aB ⟨tD rfl,?_⟩)))
        exact cO (by kernel_rfl) aP
       ·refine aX (vs:=b8) zeroValue27 u0 rfl (fun w1 c07 w2=>(aJ (aB ⟨fun _=>⟨_,w2⟩,?_⟩)))
        refine aU (i:=6) (by kernel_rfl) rfl (aX (vs:=b8) zeroValue27 w2 rfl (fun w3 c08 w4=>(aJ (aB ⟨fun _=>⟨_,w4⟩,?_⟩))))
        refine aU (i:=8) (by kernel_rfl) rfl (bH (i:=0) (ns:=(zC e b3 b4 b5 b6)) (us:=(zC e b3 b4 b5 b6)) sizeOf27 w4 rfl rfl rfl rfl rfl (cK rfl) rfl rfl (fun a98 (w5:aD G i0 (box w3 27 (zC e b3 b4 b5 b6)::box w1 27 b8::aG 9 K j9 k0 c1.L::aG 46 K k1 k2 c1.E::aG 9 K b3 b4 e.L::aG 46 K b5 b6 e.E::box a8 48 [zS l d.2.1.length m]::box b0 27 (zC d.1 x y r u)::aG 9 K x y d.1.L::aG 46 K r u d.1.E::aG 55 Z l m d.2.1::box a6 48 [zS g c.2.1.length h]::box a5 27 (zC c.1 p q n o)::aG 9 K p q c.1.L::aG 46 K n o c.1.E::aG 55 a9 g h c.2.1::L) a98)=>(aJ (aB ⟨fun _=>⟨_,w5⟩,?_⟩))))
        refine aU (i:=9) (by kernel_rfl) rfl ?_
        have a99:=i6 _ _ w5
        have b00:=i5 _ _ a99
        have b01:=i4 _ _ b00
        refine bH (i:=4) (ns:=(zC c1 j9 k0 k1 k2)) (us:=(zC c1 j9 k0 k1 k2)) sizeOf27 b01 rfl rfl rfl rfl rfl (cK rfl) rfl rfl (fun b02 (c09:aD G Z (box c3 24 c6::box f0 27 d9::box e9 27 e0::box w3 27 (zC e b3 b4 b5 b6)::box w1 27 (zC c1 j9 k0 k1 k2)::aG 9 K j9 k0 c1.L::aG 46 K k1 k2 c1.E::aG 9 K b3 b4 e.L::aG 46 K b5 b6 e.E::box a8 48 [zS l d.2.1.length m]::box b0 27 (zC d.1 x y r u)::aG 9 K x y d.1.L::aG 46 K r u d.1.E::aG 55 Z l m d.2.1::box a6 48 [zS g c.2.1.length h]::box a5 27 (zC c.1 p q n o)::aG 9 K p q c.1.L::aG 46 K n o c.1.E::aG 55 a9 g h c.2.1::L) b02)=>(aJ (aB ⟨tD rfl,?_⟩)))
        exact cO (by kernel_rfl) aP
      ·refine aX (vs:=b8) zeroValue27 q2 rfl (fun q3 c10 u1=>(aJ (aB ⟨fun _=>⟨_,u1⟩,?_⟩)))
       refine fR (i:=5) (j:=7) (by kernel_rfl) rfl rfl ?_ ?_
       ·obtain ⟨f9,b03,hm⟩:=aC hm
        refine aQ (vs:=i3) call17 rfl (aY b03 u1 hG (h9.mono (zL (zL (zL (zL z V) a3) a2) a0)) (i2.mono (zL (zL (zL (zL z V) a3) a2) a0)) (e3.mono (zL (zL (zL (zL z V) a3) a2) a0))) ?_
        rintro _ c12 ⟨m1,m2,m3,m4,rfl,w6⟩
        refine aJ (aB ⟨fun _=>⟨_,w6⟩,?_⟩)
        refine aU (i:=7) (by kernel_rfl) rfl (aX (vs:=b8) zeroValue27 w6 rfl (fun w7 c13 w8=>(aJ (aB ⟨fun _=>⟨_,w8⟩,?_⟩))))
        refine aU (i:=8) (by kernel_rfl) rfl (bH (i:=3) (ns:=(zC e b3 b4 b5 b6)) (us:=(zC e b3 b4 b5 b6)) sizeOf27 w8 rfl rfl rfl rfl rfl (cK rfl) rfl rfl (fun b04 (w9:aD G i0 (box w7 27 b8::aG 9 K m1 m2 f9.L::aG 46 K m3 m4 f9.E::box q3 27 (zC e b3 b4 b5 b6)::aG 9 K b3 b4 e.L::aG 46 K b5 b6 e.E::box a8 48 [zS l d.2.1.length m]::box b0 27 (zC d.1 x y r u)::aG 9 K x y d.1.L::aG 46 K r u d.1.E::aG 55 Z l m d.2.1::box a6 48 [zS g c.2.1.length h]::box a5 27 (zC c.1 p q n o)::aG 9 K p q c.1.L::aG 46 K n o c.1.E::aG 55 a9 g h c.2.1::L) b04)=>(aJ (aB ⟨fun _=>⟨_,w9⟩,?_⟩))))
        refine aU (i:=9) (by kernel_rfl) rfl ?_
        have b05:=i6 _ _ w9
        have b06:=i5 _ _ b05
        have b07:=i4 _ _ b06
        refine bH (i:=3) (ns:=(zC f9 m1 m2 m3 m4)) (us:=(zC f9 m1 m2 m3 m4)) sizeOf27 b07 rfl rfl rfl rfl rfl (cK rfl) rfl rfl (fun b08 (c15:aD G Z (box c3 24 c6::box f0 27 d9::box e9 27 e0::box w7 27 (zC f9 m1 m2 m3 m4)::aG 9 K m1 m2 f9.L::aG 46 K m3 m4 f9.E::box q3 27 (zC e b3 b4 b5 b6)::aG 9 K b3 b4 e.L::aG 46 K b5 b6 e.E::box a8 48 [zS l d.2.1.length m]::box b0 27 (zC d.1 x y r u)::aG 9 K x y d.1.L::aG 46 K r u d.1.E::aG 55 Z l m d.2.1::box a6 48 [zS g c.2.1.length h]::box a5 27 (zC c.1 p q n o)::aG 9 K p q c.1.L::aG 46 K n o c.1.E::aG 55 a9 g h c.2.1::L) b08)=>(aJ (aB ⟨tD rfl,?_⟩)))
        exact cO (by kernel_rfl) aP
       ·refine aX (vs:=b8) zeroValue27 u1 rfl (fun x0 c16 x1=>(aJ (aB ⟨fun _=>⟨_,x1⟩,?_⟩)))
        refine aU (i:=5) (by kernel_rfl) rfl ?_;obtain ⟨g0,b09,hm⟩:=aC hm
        refine aQ (vs:=i3) call17 rfl (aY b09 x1 hG (h9.mono (zL (zL (zL (zL z V) a3) a2) a0)) (i2.mono (zL (zL (zL (zL z V) a3) a2) a0)) (e3.mono (zL (zL (zL (zL z V) a3) a2) a0))) ?_
        rintro _ c17 ⟨m5,m6,m7,m8,rfl,x2⟩
        refine aJ (aB ⟨fun _=>⟨_,x2⟩,?_⟩)
        refine aU (i:=8) (by kernel_rfl) rfl (bH (i:=3) (ns:=(zC e b3 b4 b5 b6)) (us:=(zC e b3 b4 b5 b6)) sizeOf27 x2 rfl rfl rfl rfl rfl (cK rfl) rfl rfl (fun b10 (x3:aD G i0 (aG 9 K m5 m6 g0.L::aG 46 K m7 m8 g0.E::box x0 27 b8::box q3 27 (zC e b3 b4 b5 b6)::aG 9 K b3 b4 e.L::aG 46 K b5 b6 e.E::box a8 48 [zS l d.2.1.length m]::box b0 27 (zC d.1 x y r u)::aG 9 K x y d.1.L::aG 46 K r u d.1.E::aG 55 Z l m d.2.1::box a6 48 [zS g c.2.1.length h]::box a5 27 (zC c.1 p q n o)::aG 9 K p q c.1.L::aG 46 K n o c.1.E::aG 55 a9 g h c.2.1::L) b10)=>(aJ (aB ⟨fun _=>⟨_,x3⟩,?_⟩))))
        refine aU (i:=9) (by kernel_rfl) rfl ?_
        have b11:=i6 _ _ x3
        have b12:=i5 _ _ b11
        have b13:=i4 _ _ b12
        refine bH (i:=5) (ns:=(zC g0 m5 m6 m7 m8)) (us:=(zC g0 m5 m6 m7 m8)) sizeOf27 b13 rfl rfl rfl rfl rfl (cK rfl) rfl rfl (fun b14 (c18:aD G Z (box c3 24 c6::box f0 27 d9::box e9 27 e0::aG 9 K m5 m6 g0.L::aG 46 K m7 m8 g0.E::box x0 27 (zC g0 m5 m6 m7 m8)::box q3 27 (zC e b3 b4 b5 b6)::aG 9 K b3 b4 e.L::aG 46 K b5 b6 e.E::box a8 48 [zS l d.2.1.length m]::box b0 27 (zC d.1 x y r u)::aG 9 K x y d.1.L::aG 46 K r u d.1.E::aG 55 Z l m d.2.1::box a6 48 [zS g c.2.1.length h]::box a5 27 (zC c.1 p q n o)::aG 9 K p q c.1.L::aG 46 K n o c.1.E::aG 55 a9 g h c.2.1::L) b14)=>(aJ (aB ⟨tD rfl,?_⟩)))
        exact cO (by kernel_rfl) aP
      ·refine aX (vs:=b8) zeroValue27 q2 rfl (fun q4 c19 u2=>(aJ (aB ⟨fun _=>⟨_,u2⟩,?_⟩)))
       refine fR (i:=5) (j:=6) (by kernel_rfl) rfl rfl ?_ ?_
       ·obtain ⟨g1,b15,hm⟩:=aC hm
        refine aQ (vs:=i3) call17 rfl (aY b15 u2 hG (h9.mono (zL (zL (zL (zL z V) a3) a2) a0)) (i2.mono (zL (zL (zL (zL z V) a3) a2) a0)) (e3.mono (zL (zL (zL (zL z V) a3) a2) a0))) ?_
        rintro _ c20 ⟨m9,n0,n1,n2,rfl,x4⟩
        refine aJ (aB ⟨fun _=>⟨_,x4⟩,?_⟩)
        refine aU (i:=6) (by kernel_rfl) rfl (aX (vs:=b8) zeroValue27 x4 rfl (fun x5 c21 x6=>(aJ (aB ⟨fun _=>⟨_,x6⟩,?_⟩))))
        refine aU (i:=8) (by kernel_rfl) rfl (bH (i:=0) (ns:=(zC e b3 b4 b5 b6)) (us:=(zC e b3 b4 b5 b6)) sizeOf27 x6 rfl rfl rfl rfl rfl (cK rfl) rfl rfl (fun b17 (x7:aD G i0 (box x5 27 (zC e b3 b4 b5 b6)::aG 9 K m9 n0 g1.L::aG 46 K n1 n2 g1.E::box q4 27 b8::aG 9 K b3 b4 e.L::aG 46 K b5 b6 e.E::box a8 48 [zS l d.2.1.length m]::box b0 27 (zC d.1 x y r u)::aG 9 K x y d.1.L::aG 46 K r u d.1.E::aG 55 Z l m d.2.1::box a6 48 [zS g c.2.1.length h]::box a5 27 (zC c.1 p q n o)::aG 9 K p q c.1.L::aG 46 K n o c.1.E::aG 55 a9 g h c.2.1::L) b17)=>(aJ (aB ⟨fun _=>⟨_,x7⟩,?_⟩))))
        refine aU (i:=9) (by kernel_rfl) rfl ?_
        have b18:=i6 _ _ x7
        have b20:=i5 _ _ b18
        have b21:=i4 _ _ b20
        refine bH (i:=6) (ns:=(zC g1 m9 n0 n1 n2)) (us:=(zC g1 m9 n0 n1 n2)) sizeOf27 b21 rfl rfl rfl rfl rfl (cK rfl) rfl rfl (fun b23 (c22:aD G Z (box c3 24 c6::box f0 27 d9::box e9 27 e0::box x5 27 (zC e b3 b4 b5 b6)::aG 9 K m9 n0 g1.L::aG 46 K n1 n2 g1.E::box q4 27 (zC g1 m9 n0 n1 n2)::aG 9 K b3 b4 e.L::aG 46 K b5 b6 e.E::box a8 48 [zS l d.2.1.length m]::box b0 27 (zC d.1 x y r u)::aG 9 K x y d.1.L::aG 46 K r u d.1.E::aG 55 Z l m d.2.1::box a6 48 [zS g c.2.1.length h]::box a5 27 (zC c.1 p q n o)::aG 9 K p q c.1.L::aG 46 K n o c.1.E::aG 55 a9 g h c.2.1::L) b23)=>(aJ (aB ⟨tD rfl,?_⟩)))
        exact cO (by kernel_rfl) aP
       ·refine aX (vs:=b8) zeroValue27 u2 rfl (fun x8 c23 x9=>(aJ (aB ⟨fun _=>⟨_,x9⟩,?_⟩)))
        refine aU (i:=5) (by kernel_rfl) rfl ?_;obtain ⟨g2,b24,hm⟩:=aC hm
        refine aQ (vs:=i3) call17 rfl (aY b24 x9 hG (h9.mono (zL (zL (zL (zL z V) a3) a2) a0)) (i2.mono (zL (zL (zL (zL z V) a3) a2) a0)) (e3.mono (zL (zL (zL (zL z V) a3) a2) a0))) ?_
        rintro _ c24 ⟨n3,n4,n5,n6,rfl,y0⟩
        refine aJ (aB ⟨fun _=>⟨_,y0⟩,?_⟩)
        refine aU (i:=8) (by kernel_rfl) rfl (bH (i:=2) (ns:=(zC e b3 b4 b5 b6)) (us:=(zC e b3 b4 b5 b6)) sizeOf27 y0 rfl rfl rfl rfl rfl (cK rfl) rfl rfl (fun b25 (y1:aD G i0 (aG 9 K n3 n4 g2.L::aG 46 K n5 n6 g2.E::box x8 27 (zC e b3 b4 b5 b6)::box q4 27 b8::aG 9 K b3 b4 e.L::aG 46 K b5 b6 e.E::box a8 48 [zS l d.2.1.length m]::box b0 27 (zC d.1 x y r u)::aG 9 K x y d.1.L::aG 46 K r u d.1.E::aG 55 Z l m d.2.1::box a6 48 [zS g c.2.1.length h]::box a5 27 (zC c.1 p q n o)::aG 9 K p q c.1.L::aG 46 K n o c.1.E::aG 55 a9 g h c.2.1::L) b25)=>(aJ (aB ⟨fun _=>⟨_,y1⟩,?_⟩))))
        refine aU (i:=9) (by kernel_rfl) rfl ?_
        have b26:=i6 _ _ y1
        have b27:=i5 _ _ b26
        have b28:=i4 _ _ b27
        refine bH (i:=6) (ns:=(zC g2 n3 n4 n5 n6)) (us:=(zC g2 n3 n4 n5 n6)) sizeOf27 b28 rfl rfl rfl rfl rfl (cK rfl) rfl rfl (fun b29 (c25:aD G Z (box c3 24 c6::box f0 27 d9::box e9 27 e0::aG 9 K n3 n4 g2.L::aG 46 K n5 n6 g2.E::box x8 27 (zC e b3 b4 b5 b6)::box q4 27 (zC g2 n3 n4 n5 n6)::aG 9 K b3 b4 e.L::aG 46 K b5 b6 e.E::box a8 48 [zS l d.2.1.length m]::box b0 27 (zC d.1 x y r u)::aG 9 K x y d.1.L::aG 46 K r u d.1.E::aG 55 Z l m d.2.1::box a6 48 [zS g c.2.1.length h]::box a5 27 (zC c.1 p q n o)::aG 9 K p q c.1.L::aG 46 K n o c.1.E::aG 55 a9 g h c.2.1::L) b29)=>(aJ (aB ⟨tD rfl,?_⟩)))
        exact cO (by kernel_rfl) aP
     ·refine aX (vs:=b8) zeroValue27 h7 rfl (fun l0 c26 u3=>(aJ (aB ⟨fun _=>⟨_,u3⟩,?_⟩)))
      refine fR (i:=2) (j:=7) (by kernel_rfl) rfl rfl ?_ ?_
      ·obtain ⟨b1,b30,hm⟩:=aC hm
       refine aQ (vs:=k7) call17 rfl (aY b30 u3 hG (h3.mono (zL (zL (zL (zL z V) a3) a2) a0)) (h6.mono (zL (zL (zL (zL z V) a3) a2) a0)) (e3.mono (zL (zL (zL (zL z V) a3) a2) a0))) ?_
       rintro _ c27 ⟨i7,i8,i9,j0,rfl,u4⟩
       refine aJ (aB ⟨fun _=>⟨_,u4⟩,?_⟩)
       refine fR (i:=5) (j:=7) (by kernel_rfl) rfl rfl ?_ ?_
       ·obtain ⟨g3,b31,hm⟩:=aC hm
        refine aQ (vs:=i3) call17 rfl (aY b31 u4 hG (h9.mono (zL (zL (zL (zL z V) a3) a2) a0)) (i2.mono (zL (zL (zL (zL z V) a3) a2) a0)) (e3.mono (zL (zL (zL (zL z V) a3) a2) a0))) ?_
        rintro _ c28 ⟨n7,n8,n9,o0,rfl,y2⟩
        refine aJ (aB ⟨fun _=>⟨_,y2⟩,?_⟩)
        refine aU (i:=7) (by kernel_rfl) rfl (aX (vs:=b8) zeroValue27 y2 rfl (fun y3 c30 y4=>(aJ (aB ⟨fun _=>⟨_,y4⟩,?_⟩))))
        refine aU (i:=8) (by kernel_rfl) rfl (bH (i:=5) (ns:=(zC b1 i7 i8 i9 j0)) (us:=(zC b1 i7 i8 i9 j0)) sizeOf27 y4 rfl rfl rfl rfl rfl (cK rfl) rfl rfl (fun b32 (y5:aD G i0 (box y3 27 b8::aG 9 K n7 n8 g3.L::aG 46 K n9 o0 g3.E::aG 9 K i7 i8 b1.L::aG 46 K i9 j0 b1.E::box l0 27 (zC b1 i7 i8 i9 j0)::box a8 48 [zS l d.2.1.length m]::box b0 27 (zC d.1 x y r u)::aG 9 K x y d.1.L::aG 46 K r u d.1.E::aG 55 Z l m d.2.1::box a6 48 [zS g c.2.1.length h]::box a5 27 (zC c.1 p q n o)::aG 9 K p q c.1.L::aG 46 K n o c.1.E::aG 55 a9 g h c.2.1::L) b32)=>(aJ (aB ⟨fun _=>⟨_,y5⟩,?_⟩))))
        refine aU (i:=9) (by kernel_rfl) rfl ?_
        have b33:=i6 _ _ y5
        have b34:=i5 _ _ b33
        have b35:=i4 _ _ b34
        refine bH (i:=3) (ns:=(zC g3 n7 n8 n9 o0)) (us:=(zC g3 n7 n8 n9 o0)) sizeOf27 b35 rfl rfl rfl rfl rfl (cK rfl) rfl rfl (fun b36 (c31:aD G Z (box c3 24 c6::box f0 27 d9::box e9 27 e0::box y3 27 (zC g3 n7 n8 n9 o0)::aG 9 K n7 n8 g3.L::aG 46 K n9 o0 g3.E::aG 9 K i7 i8 b1.L::aG 46 K i9 j0 b1.E::box l0 27 (zC b1 i7 i8 i9 j0)::box a8 48 [zS l d.2.1.length m]::box b0 27 (zC d.1 x y r u)::aG 9 K x y d.1.L::aG 46 K r u d.1.E::aG 55 Z l m d.2.1::box a6 48 [zS g c.2.1.length h]::box a5 27 (zC c.1 p q n o)::aG 9 K p q c.1.L::aG 46 K n o c.1.E::aG 55 a9 g h c.2.1::L) b36)=>(aJ (aB ⟨tD rfl,?_⟩)))
        exact cO (by kernel_rfl) aP
       ·refine aX (vs:=b8) zeroValue27 u4 rfl (fun y6 c32 y7=>(aJ (aB ⟨fun _=>⟨_,y7⟩,?_⟩)))
        refine aU (i:=5) (by kernel_rfl) rfl ?_;obtain ⟨g4,b37,hm⟩:=aC hm
        refine aQ (vs:=i3) call17 rfl (aY b37 y7 hG (h9.mono (zL (zL (zL (zL z V) a3) a2) a0)) (i2.mono (zL (zL (zL (zL z V) a3) a2) a0)) (e3.mono (zL (zL (zL (zL z V) a3) a2) a0))) ?_
        rintro _ c33 ⟨o1,o2,o3,o4,rfl,y8⟩
        refine aJ (aB ⟨fun _=>⟨_,y8⟩,?_⟩)
        refine aU (i:=8) (by kernel_rfl) rfl (bH (i:=5) (ns:=(zC b1 i7 i8 i9 j0)) (us:=(zC b1 i7 i8 i9 j0)) sizeOf27 y8 rfl rfl rfl rfl rfl (cK rfl) rfl rfl (fun b38 (y9:aD G i0 (aG 9 K o1 o2 g4.L::aG 46 K o3 o4 g4.E::box y6 27 b8::aG 9 K i7 i8 b1.L::aG 46 K i9 j0 b1.E::box l0 27 (zC b1 i7 i8 i9 j0)::box a8 48 [zS l d.2.1.length m]::box b0 27 (zC d.1 x y r u)::aG 9 K x y d.1.L::aG 46 K r u d.1.E::aG 55 Z l m d.2.1::box a6 48 [zS g c.2.1.length h]::box a5 27 (zC c.1 p q n o)::aG 9 K p q c.1.L::aG 46 K n o c.1.E::aG 55 a9 g h c.2.1::L) b38)=>(aJ (aB ⟨fun _=>⟨_,y9⟩,?_⟩))))
        refine aU (i:=9) (by kernel_rfl) rfl ?_
        have b39:=i6 _ _ y9
        have b40:=i5 _ _ b39
        have b41:=i4 _ _ b40
        refine bH (i:=5) (ns:=(zC g4 o1 o2 o3 o4)) (us:=(zC g4 o1 o2 o3 o4)) sizeOf27 b41 rfl rfl rfl rfl rfl (cK rfl) rfl rfl (fun b42 (c34:aD G Z (box c3 24 c6::box f0 27 d9::box e9 27 e0::aG 9 K o1 o2 g4.L::aG 46 K o3 o4 g4.E::box y6 27 (zC g4 o1 o2 o3 o4)::aG 9 K i7 i8 b1.L::aG 46 K i9 j0 b1.E::box l0 27 (zC b1 i7 i8 i9 j0)::box a8 48 [zS l d.2.1.length m]::box b0 27 (zC d.1 x y r u)::aG 9 K x y d.1.L::aG 46 K r u d.1.E::aG 55 Z l m d.2.1::box a6 48 [zS g c.2.1.length h]::box a5 27 (zC c.1 p q n o)::aG 9 K p q c.1.L::aG 46 K n o c.1.E::aG 55 a9 g h c.2.1::L) b42)=>(aJ (aB ⟨tD rfl,?_⟩)))
        exact cO (by kernel_rfl) aP
      ·refine aX (vs:=b8) zeroValue27 u3 rfl (fun z0 c35 z1=>(aJ (aB ⟨fun _=>⟨_,z1⟩,?_⟩)))
       refine aU (i:=2) (by kernel_rfl) rfl ?_;obtain ⟨e5,b44,hm⟩:=aC hm
       refine aQ (vs:=k7) call17 rfl (aY b44 z1 hG (h3.mono (zL (zL (zL (zL z V) a3) a2) a0)) (h6.mono (zL (zL (zL (zL z V) a3) a2) a0)) (e3.mono (zL (zL (zL (zL z V) a3) a2) a0))) ?_
       rintro _ c37 ⟨l1,l2,l3,l4,rfl,z2⟩
       refine aJ (aB ⟨fun _=>⟨_,z2⟩,?_⟩)
       refine aU (i:=5) (by kernel_rfl) rfl ?_;obtain ⟨g5,b45,hm⟩:=aC hm
       refine aQ (vs:=i3) call17 rfl (aY b45 z2 hG (h9.mono (zL (zL (zL (zL z V) a3) a2) a0)) (i2.mono (zL (zL (zL (zL z V) a3) a2) a0)) (e3.mono (zL (zL (zL (zL z V) a3) a2) a0))) ?_
       rintro _ c39 ⟨o5,o6,o7,o8,rfl,z3⟩
       refine aJ (aB ⟨fun _=>⟨_,z3⟩,?_⟩)
       refine aU (i:=8) (by kernel_rfl) rfl (bH (i:=5) (ns:=(zC e5 l1 l2 l3 l4)) (us:=(zC e5 l1 l2 l3 l4)) sizeOf27 z3 rfl rfl rfl rfl rfl (cK rfl) rfl rfl (fun b47 (z4:aD G i0 (aG 9 K o5 o6 g5.L::aG 46 K o7 o8 g5.E::aG 9 K l1 l2 e5.L::aG 46 K l3 l4 e5.E::box z0 27 b8::box l0 27 (zC e5 l1 l2 l3 l4)::box a8 48 [zS l d.2.1.length m]::box b0 27 (zC d.1 x y r u)::aG 9 K x y d.1.L::aG 46 K r u d.1.E::aG 55 Z l m d.2.1::box a6 48 [zS g c.2.1.length h]::box a5 27 (zC c.1 p q n o)::aG 9 K p q c.1.L::aG 46 K n o c.1.E::aG 55 a9 g h c.2.1::L) b47)=>(aJ (aB ⟨fun _=>⟨_,z4⟩,?_⟩))))
       refine aU (i:=9) (by kernel_rfl) rfl ?_
       have b48:=i6 _ _ z4
       have b49:=i5 _ _ b48
       have b50:=i4 _ _ b49
       refine bH (i:=7) (ns:=(zC g5 o5 o6 o7 o8)) (us:=(zC g5 o5 o6 o7 o8)) sizeOf27 b50 rfl rfl rfl rfl rfl (cK rfl) rfl rfl (fun b51 (c41:aD G Z (box c3 24 c6::box f0 27 d9::box e9 27 e0::aG 9 K o5 o6 g5.L::aG 46 K o7 o8 g5.E::aG 9 K l1 l2 e5.L::aG 46 K l3 l4 e5.E::box z0 27 (zC g5 o5 o6 o7 o8)::box l0 27 (zC e5 l1 l2 l3 l4)::box a8 48 [zS l d.2.1.length m]::box b0 27 (zC d.1 x y r u)::aG 9 K x y d.1.L::aG 46 K r u d.1.E::aG 55 Z l m d.2.1::box a6 48 [zS g c.2.1.length h]::box a5 27 (zC c.1 p q n o)::aG 9 K p q c.1.L::aG 46 K n o c.1.E::aG 55 a9 g h c.2.1::L) b51)=>(aJ (aB ⟨tD rfl,?_⟩)))
       exact cO (by kernel_rfl) aP
     ·refine aX (vs:=b8) zeroValue27 h7 rfl (fun l5 c42 u5=>(aJ (aB ⟨fun _=>⟨_,u5⟩,?_⟩)))
      refine fR (i:=2) (j:=6) (by kernel_rfl) rfl rfl ?_ ?_
      ·obtain ⟨b2,b52,hm⟩:=aC hm
       refine aQ (vs:=k7) call17 rfl (aY b52 u5 hG (h3.mono (zL (zL (zL (zL z V) a3) a2) a0)) (h6.mono (zL (zL (zL (zL z V) a3) a2) a0)) (e3.mono (zL (zL (zL (zL z V) a3) a2) a0))) ?_
       rintro _ c43 ⟨j1,j2,j3,j4,rfl,u6⟩
       refine aJ (aB ⟨fun _=>⟨_,u6⟩,?_⟩)
       refine fR (i:=5) (j:=6) (by kernel_rfl) rfl rfl ?_ ?_
       ·obtain ⟨g6,b53,hm⟩:=aC hm
        refine aQ (vs:=i3) call17 rfl (aY b53 u6 hG (h9.mono (zL (zL (zL (zL z V) a3) a2) a0)) (i2.mono (zL (zL (zL (zL z V) a3) a2) a0)) (e3.mono (zL (zL (zL (zL z V) a3) a2) a0))) ?_
        rintro _ c44 ⟨o9,p0,p1,p2,rfl,z5⟩
        refine aJ (aB ⟨fun _=>⟨_,z5⟩,?_⟩)
        refine aU (i:=6) (by kernel_rfl) rfl (aX (vs:=b8) zeroValue27 z5 rfl (fun z6 c45 z7=>(aJ (aB ⟨fun _=>⟨_,z7⟩,?_⟩))))
        refine aU (i:=8) (by kernel_rfl) rfl (bH (i:=0) (ns:=(zC b2 j1 j2 j3 j4)) (us:=(zC b2 j1 j2 j3 j4)) sizeOf27 z7 rfl rfl rfl rfl rfl (cK rfl) rfl rfl (fun b54 (z8:aD G i0 (box z6 27 (zC b2 j1 j2 j3 j4)::aG 9 K o9 p0 g6.L::aG 46 K p1 p2 g6.E::aG 9 K j1 j2 b2.L::aG 46 K j3 j4 b2.E::box l5 27 b8::box a8 48 [zS l d.2.1.length m]::box b0 27 (zC d.1 x y r u)::aG 9 K x y d.1.L::aG 46 K r u d.1.E::aG 55 Z l m d.2.1::box a6 48 [zS g c.2.1.length h]::box a5 27 (zC c.1 p q n o)::aG 9 K p q c.1.L::aG 46 K n o c.1.E::aG 55 a9 g h c.2.1::L) b54)=>(aJ (aB ⟨fun _=>⟨_,z8⟩,?_⟩))))
        refine aU (i:=9) (by kernel_rfl) rfl ?_
        have b55:=i6 _ _ z8
        have b56:=i5 _ _ b55
        have b57:=i4 _ _ b56
        refine bH (i:=8) (ns:=(zC g6 o9 p0 p1 p2)) (us:=(zC g6 o9 p0 p1 p2)) sizeOf27 b57 rfl rfl rfl rfl rfl (cK rfl) rfl rfl (fun b58 (c46:aD G Z (box c3 24 c6::box f0 27 d9::box e9 27 e0::box z6 27 (zC b2 j1 j2 j3 j4)::aG 9 K o9 p0 g6.L::aG 46 K p1 p2 g6.E::aG 9 K j1 j2 b2.L::aG 46 K j3 j4 b2.E::box l5 27 (zC g6 o9 p0 p1 p2)::box a8 48 [zS l d.2.1.length m]::box b0 27 (zC d.1 x y r u)::aG 9 K x y d.1.L::aG 46 K r u d.1.E::aG 55 Z l m d.2.1::box a6 48 [zS g c.2.1.length h]::box a5 27 (zC c.1 p q n o)::aG 9 K p q c.1.L::aG 46 K n o c.1.E::aG 55 a9 g h c.2.1::L) b58)=>(aJ (aB ⟨tD rfl,?_⟩)))
        exact cO (by kernel_rfl) aP
       ·refine aX (vs:=b8) zeroValue27 u6 rfl (fun z9 c47 a00=>(aJ (aB ⟨fun _=>⟨_,a00⟩,?_⟩)))
        refine aU (i:=5) (by kernel_rfl) rfl ?_;obtain ⟨g7,b59,hm⟩:=aC hm
        refine aQ (vs:=i3) call17 rfl (aY b59 a00 hG (h9.mono (zL (zL (zL (zL z V) a3) a2) a0)) (i2.mono (zL (zL (zL (zL z V) a3) a2) a0)) (e3.mono (zL (zL (zL (zL z V) a3) a2) a0))) ?_
        rintro _ c48 ⟨p3,p4,p5,p6,rfl,a01⟩
        refine aJ (aB ⟨fun _=>⟨_,a01⟩,?_⟩)
        refine aU (i:=8) (by kernel_rfl) rfl (bH (i:=2) (ns:=(zC b2 j1 j2 j3 j4)) (us:=(zC b2 j1 j2 j3 j4)) sizeOf27 a01 rfl rfl rfl rfl rfl (cK rfl) rfl rfl (fun b60 (a02:aD G i0 (aG 9 K p3 p4 g7.L::aG 46 K p5 p6 g7.E::box z9 27 (zC b2 j1 j2 j3 j4)::aG 9 K j1 j2 b2.L::aG 46 K j3 j4 b2.E::box l5 27 b8::box a8 48 [zS l d.2.1.length m]::box b0 27 (zC d.1 x y r u)::aG 9 K x y d.1.L::aG 46 K r u d.1.E::aG 55 Z l m d.2.1::box a6 48 [zS g c.2.1.length h]::box a5 27 (zC c.1 p q n o)::aG 9 K p q c.1.L::aG 46 K n o c.1.E::aG 55 a9 g h c.2.1::L) b60)=>(aJ (aB ⟨fun _=>⟨_,a02⟩,?_⟩))))
        refine aU (i:=9) (by kernel_rfl) rfl ?_
        have b61:=i6 _ _ a02
        have b62:=i5 _ _ b61
        have b63:=i4 _ _ b62
        refine bH (i:=8) (ns:=(zC g7 p3 p4 p5 p6)) (us:=(zC g7 p3 p4 p5 p6)) sizeOf27 b63 rfl rfl rfl rfl rfl (cK rfl) rfl rfl (fun b64 (c49:aD G Z (box c3 24 c6::box f0 27 d9::box e9 27 e0::aG 9 K p3 p4 g7.L::aG 46 K p5 p6 g7.E::box z9 27 (zC b2 j1 j2 j3 j4)::aG 9 K j1 j2 b2.L::aG 46 K j3 j4 b2.E::box l5 27 (zC g7 p3 p4 p5 p6)::box a8 48 [zS l d.2.1.length m]::box b0 27 (zC d.1 x y r u)::aG 9 K x y d.1.L::aG 46 K r u d.1.E::aG 55 Z l m d.2.1::box a6 48 [zS g c.2.1.length h]::box a5 27 (zC c.1 p q n o)::aG 9 K p q c.1.L::aG 46 K n o c.1.E::aG 55 a9 g h c.2.1::L) b64)=>(aJ (aB ⟨tD rfl,?_⟩)))
        exact cO (by kernel_rfl) aP
      ·refine aX (vs:=b8) zeroValue27 u5 rfl (fun a03 c50 a04=>(aJ (aB ⟨fun _=>⟨_,a04⟩,?_⟩)))
       refine aU (i:=2) (by kernel_rfl) rfl ?_;obtain ⟨e6,b66,hm⟩:=aC hm
       refine aQ (vs:=k7) call17 rfl (aY b66 a04 hG (h3.mono (zL (zL (zL (zL z V) a3) a2) a0)) (h6.mono (zL (zL (zL (zL z V) a3) a2) a0)) (e3.mono (zL (zL (zL (zL z V) a3) a2) a0))) ?_
       rintro _ c51 ⟨l6,l7,l8,l9,rfl,a05⟩
       refine aJ (aB ⟨fun _=>⟨_,a05⟩,?_⟩)
       refine aU (i:=5) (by kernel_rfl) rfl ?_;obtain ⟨g8,b67,hm⟩:=aC hm
       refine aQ (vs:=i3) call17 rfl (aY b67 a05 hG (h9.mono (zL (zL (zL (zL z V) a3) a2) a0)) (i2.mono (zL (zL (zL (zL z V) a3) a2) a0)) (e3.mono (zL (zL (zL (zL z V) a3) a2) a0))) ?_
       rintro _ c52 ⟨p7,p8,p9,q0,rfl,a06⟩
       refine aJ (aB ⟨fun _=>⟨_,a06⟩,?_⟩)
       refine aU (i:=8) (by kernel_rfl) rfl (bH (i:=4) (ns:=(zC e6 l6 l7 l8 l9)) (us:=(zC e6 l6 l7 l8 l9)) sizeOf27 a06 rfl rfl rfl rfl rfl (cK rfl) rfl rfl (fun b69 (a07:aD G i0 (aG 9 K p7 p8 g8.L::aG 46 K p9 q0 g8.E::aG 9 K l6 l7 e6.L::aG 46 K l8 l9 e6.E::box a03 27 (zC e6 l6 l7 l8 l9)::box l5 27 b8::box a8 48 [zS l d.2.1.length m]::box b0 27 (zC d.1 x y r u)::aG 9 K x y d.1.L::aG 46 K r u d.1.E::aG 55 Z l m d.2.1::box a6 48 [zS g c.2.1.length h]::box a5 27 (zC c.1 p q n o)::aG 9 K p q c.1.L::aG 46 K n o c.1.E::aG 55 a9 g h c.2.1::L) b69)=>(aJ (aB ⟨fun _=>⟨_,a07⟩,?_⟩))))
       refine aU (i:=9) (by kernel_rfl) rfl ?_
       have b70:=i6 _ _ a07
       have b71:=i5 _ _ b70
       have b72:=i4 _ _ b71
       refine bH (i:=8) (ns:=(zC g8 p7 p8 p9 q0)) (us:=(zC g8 p7 p8 p9 q0)) sizeOf27 b72 rfl rfl rfl rfl rfl (cK rfl) rfl rfl (fun b73 (c53:aD G Z (box c3 24 c6::box f0 27 d9::box e9 27 e0::aG 9 K p7 p8 g8.L::aG 46 K p9 q0 g8.E::aG 9 K l6 l7 e6.L::aG 46 K l8 l9 e6.E::box a03 27 (zC e6 l6 l7 l8 l9)::box l5 27 (zC g8 p7 p8 p9 q0)::box a8 48 [zS l d.2.1.length m]::box b0 27 (zC d.1 x y r u)::aG 9 K x y d.1.L::aG 46 K r u d.1.E::aG 55 Z l m d.2.1::box a6 48 [zS g c.2.1.length h]::box a5 27 (zC c.1 p q n o)::aG 9 K p q c.1.L::aG 46 K n o c.1.E::aG 55 a9 g h c.2.1::L) b73)=>(aJ (aB ⟨tD rfl,?_⟩)))
       exact cO (by kernel_rfl) aP
   exact aP
 exact aP
theorem aEw {b:aF} {a:(List aF)} {R:Bool} (hm:xZ b a=some R) (d:aD G K (L) w) (e:bS K a1 c2 a):
  Calls prog 141 ([str b,zS a1 a.length c2]:List Value).toArray w (eR fun v w'=>v=zB R/\aD G K (L) w'):=by
 refine aR func141 rfl (by kernel_rfl) (by show (2:Nat)<=14;decide) ?_;unfold xZ at hm
 exact aO (aI (v:=zB false) (aK (aM (bR [] (fun f w=>∃ c,zO c=some R/\f 4=zB c/\aD G K (L) w) aP aP))))
theorem aJm {t:bF} {b:Nat} {e:(List aF)} {h:Int} {R:Bool} (hm:aCX t e h=some R) (z:aD G K (L) w) (c:fD K a1 b (zC t a4 c5 a7 c8)) (V:bS K a4 c5 t.L) (j:bS K a7 c8 t.E) (Z:bS K a10 c11 e):
  Calls prog 107 ([cP a1 b,zS a10 e.length c11,i64 h]:List Value).toArray w (eR fun v w'=>v=zB R/\aD G K (L) w'):=by
 refine aR func107 rfl (by kernel_rfl) (by show (3:Nat)<=46;decide) ?_;unfold aCX at hm
 refine aO (aI (v:=zB false) (aK (aM (aO (aI (v:=i64 0) (aK (aV [] (fun f w=>aGP=some R/\aD G K (L) w) aP ?_)))))));obtain ⟨a0,o,ho⟩:=aC hm
 refine cY [0,1,2] o (fun g f w=>f 7=i64 g/\aD G K (L) w) aP ?_
 ·rintro g p f a2 hm hr ⟨k,d⟩
  unfold wF at hm
  refine aM (aO (bC k (aL (v:=cP a1 b) (aH (mW rfl c) (aH (cH (k':=b+3) dF rfl c rfl) (aH (bG (t:=3) iT d c rfl rfl) (aH (bI (len:=t.E.length) cM rfl) (aH (cQ rfl rfl) (aK ?_)))))))))
  rcases aN hm with ⟨l,hm⟩|⟨l,hm⟩
  ·refine aT l rfl (bB (aB (aM (cS (aO (aL (v:=cP a1 b) (aH (mW rfl c) (aH (cH (k':=b+3) dF rfl c rfl) (aH (bG (t:=3) iT d c rfl rfl) (bC k ?_))))))))));obtain ⟨a,m,hm⟩:=aC hm
   refine aH (jF cM rfl j rfl rfl rfl m) ?_;obtain ⟨a3,q,r⟩:=bS.el (sz:=3) rfl j m
   cases r
   exact aH (eJ (t:=0) (vs:=[i64 a.F,i64 a.B,i64 a.To]) tE d q rfl rfl rfl) (aX (vs:=[i64 0,i64 0,i64 0]) zeroValue46 d rfl (fun u a5 x=>(bH (i:=0) (ns:=[i64 a.F,i64 a.B,i64 a.To]) (us:=[i64 a.F,i64 a.B,i64 a.To]) sizeOf46 x rfl rfl rfl rfl rfl (cK rfl) rfl rfl (fun y (a6:aD G K (box u 46 [i64 a.F,i64 a.B,i64 a.To]::L) y)=>(aK (aM (bR [0,1,2,7] (fun f w=>∃ n,wE g n=some p/\f 45=zB n/\aD G K (L) w) aP aP)))))))
  ·exact aP
theorem aDP {t:bF} {k:Nat} {b9:(List aF)} {R:(bF × Bool)} (hm:uT t b9=some R) (hs:aD G K (L) w) (b:fD K a1 k (zC t a4 c5 a7 c8)) (h6:bS K a4 c5 t.L) (h9:bS K a7 c8 t.E) (l6:bS K a10 c11 b9):
  Calls prog 56 ([cP a1 k,zS a10 b9.length c11]:List Value).toArray w (eR fun v w'=>∃ c4 c6 c7 c9,v=zT #[zA (zCa R.1 c4 c6 c7 c9),zB R.2]/\aD G K (aG 9 K c4 c6 R.1.L::aG 46 K c7 c9 R.1.E::L) w'):=by
 let c:=zG
 refine aR func56 rfl (by kernel_rfl) (by show (2:Nat)<=59;decide) ?_;unfold uT at hm
 refine aO (aX (vs:=c) zeroValue27 hs rfl (fun l l7 f0=>(aI (v:=zB false) (aK (aO (bL (Kt:=K) (xs:=([]:List aF)) (cs:=[]) (vs:=[]) bE iW rfl rfl f0 rfl (by kernel_rfl) rfl rfl rfl trivial (fun f1 f2 (d0:aD G K (aG 9 K f1 0 ([]:List aF)::box l 27 c::L) f2)=>(aL (v:=cP a1 k) (aH (mW rfl b) (aH (cH (k':=k+2) fT rfl b rfl) (aH (bG (t:=2) gY d0 b rfl rfl) ?_)))))))))));obtain ⟨y,f3,hm⟩:=aC hm
 refine aGY (i:=0) bE underlying24 iW rfl rfl d0 rfl (zR _) h6 f3 rfl rfl rfl rfl (fun z V f4 (f5:aD G K (aG 9 K z V y::box l 27 c::L) f4)=>(aI (v:=zS z y.length V) (aK (aO (aL (v:=zS z y.length V) (bL (Kt:=K) (xs:=([([100,101,108,116,97]:aF)]:List aF)) (cs:=[str ([100,101,108,116,97]:aF)]) (vs:=[(0,str ([100,101,108,116,97]:aF))]) bE iW rfl rfl f5 rfl (by kernel_rfl) rfl rfl rfl ⟨rfl,trivial⟩ (fun f6 f7 (f8:aD G K (aG 9 K f6 1 ([([100,101,108,116,97]:aF)]:List aF)::aG 9 K z V y::box l 27 c::L) f7)=>?_)))))))
 obtain ⟨g,f9,hm⟩:=aC hm
 refine eX (i:=0) bE underlying24 iW rfl rfl f8 rfl (zR _) (zR _) f9 rfl rfl rfl rfl (fun _ h=>h) (fun m n g0 (g1:aD G K (aG 9 K m n g::box l 27 c::L) g0)=>(aI (v:=zS m g.length n) (aK (aO (bL (Kt:=K) (xs:=([]:List Edge)) (cs:=[]) (vs:=[]) cM qA rfl rfl g1 rfl (by kernel_rfl) rfl rfl rfl trivial (fun g2 g3 (d1:aD G K (aG 46 K g2 0 ([]:List Edge)::aG 9 K m n g::box l 27 c::L) g3)=>(aL (v:=cP a1 k) (aH (mW rfl b) (aH (cH (k':=k+3) dF rfl b rfl) (aH (bG (t:=3) iT d1 b rfl rfl) ?_))))))))))
 obtain ⟨d2,g4,hm⟩:=aC hm
 refine aGY (i:=0) cM underlying25 qA rfl rfl d1 rfl (zR _) h9 g4 rfl rfl rfl rfl (fun d3 d4 g5 (l8:aD G K (aG 46 K d3 d4 d2::aG 9 K m n g::box l 27 c::L) g5)=>(aI (v:=zS d3 d2.length d4) (aK (aM (aO (aI (v:=i64 0) (aK (aV [0,4,6] (fun f w=>∃ o p c45,wS t g o=some R/\f 7=zS p o.length c45/\aD G K (aG 46 K p c45 o::aG 9 K m n g::box l 27 c::L) w) ?_ ?_))))))))
 ·rintro f l9 ⟨o,p,c45,hm,g6,g7⟩
  unfold wS at hm
  refine aB (aM (bR [4] (fun f w=>∃ u x q r Z a0 a2 a3 a5,wR u x q r=some R/\f 9=zP (some ⟨Z,0,none⟩)/\aD G K (aG 46 K a3 a5 r::aG 9 K a0 a2 q::box Z 27 [i64 u,i64 x,zS a0 q.length a2,zS a3 r.length a5]::box l 27 c::L) w) ?_ ?_))
  ·rintro f m0 ⟨u,x,q,r,Z,a0,a2,a3,a5,hm,d5,g8⟩
   unfold wR at hm
   refine aB (aM ?_);obtain ⟨g9,d6,d7,d8,m1⟩:=aD.lendBp g8 zt2
   refine dX (C:=fun w'=>∃ L',aD G g9 L' w') [(0,0),(1,1),(2,2),(3,2)] Tryz_mixed (by kernel_rfl) (fun _ hg=>⟨_,aD.mono d8 hg⟩) (fun m2 h0=>?_)
   have c0:=aD.mono d8 h0
   refine bZ rfl (fun _ ⟨_,c0⟩=>eJ (t:=0) (vs:=[i64 u,i64 x,zS a0 q.length a2,zS a3 r.length a5]) cW c0 d7 d5 rfl rfl) (gP rfl ?_);obtain ⟨m3,d9,h1,h2,h4⟩:=aD.lendSp c0 d6 zt1
   obtain ⟨m4,e0,h5,h7,h8⟩:=aD.lendSp h2 (zL d6 d9) .head
   obtain ⟨m5,i0,hm⟩:=aC hm
   refine aQ (vs:=[cP (some ⟨Z,0,none⟩) 0]) call33 (lst1 d5) (aEZ (t:=⟨u,x,q,r⟩) i0 h7 (d7.mono (zL d9 e0)) (h1.mono e0) h5) ?_
   rintro _ m6 ⟨rfl,i1⟩
   have i2:=h8 _ _ i1
   have m7:=h4 _ _ i2
   exact aP
  refine mM (C:=fun w'=>∃ L',aD G K L' w') [12] Tryz_mixed (by kernel_rfl) (fun m8 i3=>?_)
  have a:=aD.mono g7 i3
  refine cI (i:=0) rfl (by kernel_rfl) ⟨_,a⟩ (fun _ _=>bJ (v:=cP a1 k) rfl) (cI (i:=1) rfl (by kernel_rfl) ⟨_,a⟩ (fun _ _=>mW rfl b) (cI (i:=2) rfl (by kernel_rfl) ⟨_,a⟩ (fun _ _=>cH (k':=k+0) lB rfl b rfl) (cI (i:=3) rfl (by kernel_rfl) ⟨_,a⟩ (fun _ ⟨_,a⟩=>bG (t:=0) fK a b rfl rfl) (cI (i:=4) rfl (by kernel_rfl) ⟨_,a⟩ (fun _ _=>bJ (v:=cP a1 k) rfl) (cI (i:=5) rfl (by kernel_rfl) ⟨_,a⟩ (fun _ _=>mW rfl b) (cI (i:=6) rfl (by kernel_rfl) ⟨_,a⟩ (fun _ _=>cH (k':=k+1) yK rfl b rfl) (cI (i:=7) rfl (by kernel_rfl) ⟨_,a⟩ (fun _ ⟨_,a⟩=>bG (t:=1) fK a b rfl rfl) (cI (i:=8) rfl (by kernel_rfl) ⟨_,a⟩ (fun _ _=>bJ (v:=zS m g.length n) rfl) (cI (i:=9) rfl (by kernel_rfl) ⟨_,a⟩ (fun _ _=>bJ g6) (fR (i:=10) (j:=11) (by kernel_rfl) rfl rfl ?_ ?_))))))))))
  ·obtain ⟨m9,i4,i5,i6,i7⟩:=aD.lendSp a (zR _) zt1
   obtain ⟨n0,i8,i9,j0,j1⟩:=aD.lendSp i6 i4 .head
   obtain ⟨d,j2,hm⟩:=aC hm
   refine aQ (vs:=[i64 t.N,i64 t.I,zS m g.length n,zS p o.length c45]) call108 rfl (aDd j2 j0 (i5.mono i8) i9) ?_
   rintro _ n1 ⟨a6,a8,a9,b0,rfl,j3⟩
   have j4:=j1 _ _ j3
   have e1:=i7 _ _ j4
   refine aJ (aB ⟨fun _=>⟨_,e1⟩,?_⟩)
   refine aU (i:=11) (by kernel_rfl) rfl (aX (vs:=c) zeroValue27 e1 rfl (fun j5 n2 e2=>(aJ (aB ⟨fun _=>⟨_,e2⟩,?_⟩))))
   refine aU (i:=12) (by kernel_rfl) rfl (bH (i:=0) (ns:=(zC d a6 a8 a9 b0)) (us:=(zC d a6 a8 a9 b0)) sizeOf27 e2 rfl rfl rfl rfl rfl (cK rfl) rfl rfl (fun j6 (n3:aD G K (box j5 27 (zC d a6 a8 a9 b0)::aG 9 K m n g::aG 46 K p c45 o::aG 9 K a6 a8 d.L::aG 46 K a9 b0 d.E::box l 27 c::L) j6)=>(aJ (aB ⟨tD rfl,?_⟩))))
   exact cO (by kernel_rfl) aP
  ·refine aX (vs:=c) zeroValue27 a rfl (fun j7 n4 e3=>(aJ (aB ⟨fun _=>⟨_,e3⟩,?_⟩)))
   refine aU (i:=10) (by kernel_rfl) rfl ?_;obtain ⟨n5,j8,j9,k0,k1⟩:=aD.lendSp e3 (zR _) zt2
   obtain ⟨n6,k3,k4,k5,k6⟩:=aD.lendSp k0 j8 zt1
   obtain ⟨e,k7,hm⟩:=aC hm
   refine aQ (vs:=[i64 t.N,i64 t.I,zS m g.length n,zS p o.length c45]) call108 rfl (aDd k7 k5 (j9.mono k3) k4) ?_
   rintro _ n7 ⟨b1,b2,b3,b4,rfl,k8⟩
   have k9:=k6 _ _ k8
   have e4:=k1 _ _ k9
   refine aJ (aB ⟨fun _=>⟨_,e4⟩,?_⟩)
   refine aU (i:=12) (by kernel_rfl) rfl (bH (i:=4) (ns:=(zC e b1 b2 b3 b4)) (us:=(zC e b1 b2 b3 b4)) sizeOf27 e4 rfl rfl rfl rfl rfl (cK rfl) rfl rfl (fun l0 (n8:aD G K (aG 9 K m n g::aG 46 K p c45 o::aG 9 K b1 b2 e.L::aG 46 K b3 b4 e.E::box j7 27 (zC e b1 b2 b3 b4)::box l 27 c::L) l0)=>(aJ (aB ⟨tD rfl,?_⟩))))
   exact cO (by kernel_rfl) aP
 obtain ⟨n9,l1,ho⟩:=aC hm
 refine cZ [0,1,4,6] l1 (fun c1 b5 f w=>∃ c2 c3,f 7=zS c2 c1.length c3/\f 8=i64 b5/\aD G K (aG 46 K c2 c3 c1::aG 9 K m n g::box l 27 c::L) w) aP ?_
 ·rintro c1 b5 l2 f o0 hm hr ⟨c2,c3,o1,e5,l3⟩
  unfold nT at hm
  refine aM (aO (bC e5 (aL (v:=cP a1 k) (aH (mW rfl b) (aH (cH (k':=k+0) lB rfl b rfl) (aH (bG (t:=0) fK l3 b rfl rfl) (aH (cQ rfl rfl) (aK ?_))))))))
  rcases aN hm with ⟨e6,hm⟩|⟨e6,hm⟩
  ·refine aT e6 rfl (bB (aB (aM (aV [0,1,4,6,8] (fun f w=>∃ b6 b7 b8,rI b5 b6=some l2/\f 7=zS b7 b6.length b8/\aD G K (aG 46 K b7 b8 b6::aG 9 K m n g::box l 27 c::L) w) ?_ ?_))))
   ·rintro f o2 ⟨b6,b7,b8,hm,l4,l5⟩
    unfold rI at hm
    exact aB (aZ (bC e5 (aH (eP rfl rfl) (aI (v:=i64 (wr (b5+1))) (aK ⟨_,(zI hm).symm,bW,b7,b8,l4,rfl,l5⟩)))))
   exact aP
  ·exact aP
theorem aFu {t:bF} {d:Nat} {c:(List Int)} {R:(List Bool)} (hm:aCY t c=some R) (q:aD G K (L) w) (g:fD K a1 d (zC t a4 c5 a7 c8)) (h6:bS K a4 c5 t.L) (h9:bS K a7 c8 t.E) (r:bS K a10 c11 c):
  Calls prog 142 ([cP a1 d,zS a10 c.length c11]:List Value).toArray w (eR fun v w'=>∃ u x,v=zS u R.length x/\aD G K (aG 4 K u x R::L) w'):=by
 refine aR func142 rfl (by kernel_rfl) (by show (2:Nat)<=25;decide) ?_;unfold aCY at hm
 refine aO (aI (v:=zS none 0 0) (aK (aO (aL (v:=cP a1 d) (aH (mW rfl g) (aH (cH (k':=d+0) lB rfl g rfl) (aH (bG (t:=0) fK q g rfl rfl) ?_)))))));obtain ⟨a,Z,hm⟩:=aC hm
 refine WO_mk (e:=(false:Bool)) aHe ez_4 rfl rfl q rfl rfl rfl Z rfl (fun b a0 (b3:aD G K (aG 4 K b a.length a::L) a0)=>(aI (v:=zS b a.length a.length) (aK (aM (aO (aI (v:=i64 0) (aK (aV [] (fun f w=>∃ j,aGQ j=some R/\f 5=zS b j.length a.length/\aD G K (aG 4 K b a.length j::L) w) aP ?_))))))));obtain ⟨b4,a2,ho⟩:=aC hm
 refine cZ [1] a2 (fun k l f w=>f 5=zS b k.length a.length/\f 6=i64 l/\aD G K (aG 4 K b a.length k::L) w) aP ?_
 ·rintro k l b5 f b6 hm hr ⟨y,m,o⟩
  unfold aAN at hm
  refine aM (aO (bC m (aL (v:=zS a10 c.length c11) (aH (bI (len:=c.length) dA rfl) (aH (cQ rfl rfl) (aK ?_))))))
  rcases aN hm with ⟨c45,hm⟩|⟨c45,hm⟩
  ·refine aT c45 rfl (bB (aB (aM (cS (aZ (bC y (aL (v:=zS a10 c.length c11) (bC m ?_))))))));obtain ⟨b7,z,hm⟩:=aC hm
   refine aH (jF dA rfl r rfl rfl rfl z) ?_;obtain ⟨b8,a3,a5⟩:=bS.el (sz:=1) rfl r z
   cases a5
   refine aH (bG (t:=0) fK o a3 rfl rfl) ?_;obtain ⟨b9,p,hm⟩:=aC hm
   have a6:=dM o (i:=0) rfl p
   refine aH (fQ aHe rfl a6 rfl rfl rfl p) ?_;obtain ⟨a8,V,hm⟩:=aC hm
   exact pD (i:=0) (t:=0) (ns:=[zB true]) (e':=(true:Bool)) sizeOf4 o rfl (zR _) rfl rfl rfl p V rfl rfl (cK rfl) rfl (fun cs h=>by cases h;rfl) (fun a9 (b0:aD G K (aG 4 K b a.length a8::L) a9)=>(aJ (cT (aB (aZ (bC m (aH (eP rfl rfl) (aI (v:=i64 (wr (l+1))) (aK ⟨_,(zI hm).symm,bW,(Eq.trans y (congrArg (fun n=>zS b n a.length) (mV V))),rfl,b0⟩)))))))))
  ·exact aP
end Gv
namespace Gv
open Go.Value renaming slice→zS,bool→zB,agg→zA,tuple→zT
open Option.some renaming inj→zI
open Gv.Hp renaming le_trans→zL,le_refl→zR
open Go Go.Proofs Go.Proofs.Tryz
set_option maxRecDepth 20000
set_option maxHeartbeats 40000000
variable {G:wY} {K:Hp} {L:List iN} {w:World} {a1 a4 a7 a10 a13 a16 a19:Option Addr} {c5 c8 c11 c2 c14 c17 c20:Nat}
theorem aBy {t:bF} {d:Nat} {b R:(List Bool)} (hm:xK t b=some R) (hs:aD G K (aG 4 K a10 c11 b::L) w) (e:fD K a1 d (zC t a4 c5 a7 c8)) (h6:bS K a4 c5 t.L) (h9:bS K a7 c8 t.E):
  Calls prog 143 ([cP a1 d,zS a10 b.length c11]:List Value).toArray w (eR fun v w'=>v=zT #[]/\b.length=R.length/\aD G K (aG 4 K a10 c11 R::L) w'):=by
 refine aR func143 rfl (by kernel_rfl) (by show (2:Nat)<=46;decide) ?_;unfold xK at hm
 refine aO (aI (v:=zB true) (aK (aV [] (fun f w=>∃ p,aGR p=some R/\b.length=p.length/\aD G K (aG 4 K a10 c11 p::L) w) aP ?_)));obtain ⟨d9,b5,ho⟩:=aC hm
 refine cZ [0] b5 (fun l a3 f w=>f 1=zS a10 l.length c11/\f 4=zB a3/\b.length=l.length/\aD G K (aG 4 K a10 c11 l::L) w) aP ?_
 ·rintro l a3 a5 f e0 hm hr ⟨e1,b6,e2,e3⟩
  unfold rW at hm
  refine aM (aO (bC b6 (aK ?_)))
  rcases aN hm with ⟨a6,hm⟩|⟨a6,hm⟩
  ·refine aT a6 rfl (bB (aB (aV [0] (fun f w=>∃ g q,aAO g q=some a5/\f 1=zS a10 g.length c11/\f 4=zB q/\b.length=g.length/\aD G K (aG 4 K a10 c11 g::L) w) ?_ ?_)))
   ·rintro f e4 ⟨g,q,hm,b7,b8,b9,c0⟩
    unfold aAO at hm
    exact aB ⟨_,(zI hm).symm,bW,b7,b8,b9,c0⟩
   refine aO (aI (v:=zB false) (aK (aO (aI (v:=i64 0) (aK (aV [0] (fun f w=>∃ m a8,aDY m a8=some a5/\f 1=zS a10 m.length c11/\f 4=zB a8/\b.length=m.length/\aD G K (aG 4 K a10 c11 m::L) w) aP ?_))))));obtain ⟨e5,c1,ho⟩:=aC hm
   refine tB [0] c1 (fun c r j f w=>f 1=zS a10 c.length c11/\f 4=zB r/\f 5=i64 j/\b.length=c.length/\aD G K (aG 4 K a10 c11 c::L) w) aP ?_
   ·rintro c r j a9 f e6 hm hr ⟨b0,e7,u,e8,o⟩
    unfold wH at hm
    refine aM (aO (bC u (aL (v:=cP a1 d) (aH (mW rfl e) (aH (cH (k':=d+3) dF rfl e rfl) (aH (bG (t:=3) iT o e rfl rfl) (aH (bI (len:=t.E.length) cM rfl) (aH (cQ rfl rfl) (aK ?_)))))))))
    rcases aN hm with ⟨b1,hm⟩|⟨b1,hm⟩
    ·refine aT b1 rfl (bB (aB (aM (aV [0,5] (fun f w=>∃ k x,wG j k x=some a9/\f 1=zS a10 k.length c11/\f 4=zB x/\b.length=k.length/\aD G K (aG 4 K a10 c11 k::L) w) ?_ ?_))))
     ·rintro f e9 ⟨k,x,hm,c2,c3,c4,c6⟩
      unfold wG at hm
      exact aB (aZ (bC u (aH (eP rfl rfl) (aI (v:=i64 (wr (j+1))) (aK ⟨_,(zI hm).symm,bW,c2,c3,rfl,c4,c6⟩)))))
     refine aO (aL (v:=cP a1 d) (aH (mW rfl e) (aH (cH (k':=d+3) dF rfl e rfl) (aH (bG (t:=3) iT o e rfl rfl) (bC u ?_)))));obtain ⟨a,b2,hm⟩:=aC hm
     refine aH (jF cM rfl h9 rfl rfl rfl b2) ?_;obtain ⟨f0,c7,c9⟩:=bS.el (sz:=3) rfl h9 b2
     cases c9
     refine aH (eJ (t:=0) (vs:=[i64 a.F,i64 a.B,i64 a.To]) tE o c7 rfl rfl rfl) (aX (vs:=[i64 0,i64 0,i64 0]) zeroValue46 o rfl (fun y f1 d0=>(bH (i:=0) (ns:=[i64 a.F,i64 a.B,i64 a.To]) (us:=[i64 a.F,i64 a.B,i64 a.To]) sizeOf46 d0 rfl rfl rfl rfl rfl (cK rfl) rfl rfl (fun d1 (f2:aD G K (box y 46 [i64 a.F,i64 a.B,i64 a.To]::aG 4 K a10 c11 c::L) d1)=>(aK (aM (bR [0,1,4,5,6] (fun f w=>∃ z,rV c r j a z=some a9/\f 41=zB z/\b.length=c.length/\aD G K (box y 46 [i64 a.F,i64 a.B,i64 a.To]::aG 4 K a10 c11 c::L) w) ?_ ?_)))))))
     ·rintro f f3 ⟨z,hm,d2,d3,V⟩
      unfold rV at hm
      refine aB ?_
      rcases aN hm with ⟨b3,hm⟩|⟨b3,hm⟩
      ·refine aT b3 d2 (aO (bC b0 (aH (bP (t':=2) aBM rfl rfl) (aH (fP fK V (i:=0) rfl rfl rfl) ?_))));obtain ⟨f4,Z,hm⟩:=aC hm
       have d4:=dM V (i:=1) rfl Z
       refine aH (fQ aHe rfl d4 rfl rfl rfl Z) ?_;obtain ⟨b4,a0,hm⟩:=aC hm
       exact pD (i:=1) (t:=0) (ns:=[zB true]) (e':=(true:Bool)) sizeOf4 V rfl (zR _) rfl rfl rfl Z a0 rfl rfl (cK rfl) rfl (fun cs h=>by cases h;rfl) (fun d5 (d6:aD G K (box y 46 [i64 a.F,i64 a.B,i64 a.To]::aG 4 K a10 c11 b4::L) d5)=>(aK (aZ (aI (v:=zB true) (aJ (cT (aB ⟨bW,b4,true,hm,(Eq.trans b0 (congrArg (fun n=>zS a10 n c11) (mV a0))),rfl,(d3.trans (mV a0)),(aD.arr 1 [] d6 rfl)⟩)))))))
      ·exact aP
     exact aP
    ·exact aP
  ·exact aP
theorem aKn {a:(List Bool)} {R:(List Int)} (hm:aAB a=some R) (r:aD G K (L) w) (V:bS K a1 c2 a):
  Calls prog 144 ([zS a1 a.length c2]:List Value).toArray w (eR fun v w'=>∃ k l,v=zS k R.length l/\aD G K (aG 2 K k l R::L) w'):=by
 refine aR func144 rfl (by kernel_rfl) (by show (1:Nat)<=21;decide) ?_;unfold aAB at hm
 refine aO (aI (v:=zS none 0 0) (aK (aO (bL (Kt:=K) (xs:=([]:List Int)) (cs:=[]) (vs:=[]) dA rZ rfl rfl r rfl (by kernel_rfl) rfl rfl rfl trivial (fun m t (Z:aD G K (aG 2 K m 0 ([]:List Int)::L) t)=>(aI (v:=zS m ([]:List Int).length 0) (aK (aM (aO (aI (v:=i64 0) (aK (aV [] (fun f w=>∃ g n o,aHN g=some R/\f 3=zS n g.length o/\aD G K (aG 2 K n o g::L) w) aP ?_))))))))))));obtain ⟨a0,u,ho⟩:=aC hm
 refine cZ [0] u (fun h b f w=>∃ i j,f 3=zS i h.length j/\f 4=i64 b/\aD G K (aG 2 K i j h::L) w) aP ?_
 ·rintro h b x f a2 hm hr ⟨i,j,a3,p,a5⟩
  unfold zU at hm
  refine aM (aO (bC p (aL (v:=zS a1 a.length c2) (aH (bI (len:=a.length) aHe rfl) (aH (cQ rfl rfl) (aK ?_))))))
  rcases aN hm with ⟨q,hm⟩|⟨q,hm⟩
  ·refine aT q rfl (bB (aB (aM (aV [0,4] (fun f w=>∃ c d e,zQ b c=some x/\f 3=zS d c.length e/\aD G K (aG 2 K d e c::L) w) ?_ ?_))))
   ·rintro f a6 ⟨c,d,e,hm,y,z⟩
    unfold zQ at hm
    exact aB (aZ (bC p (aH (eP rfl rfl) (aI (v:=i64 (wr (b+1))) (aK ⟨_,(zI hm).symm,bW,d,e,y,rfl,z⟩)))))
   exact aP
  ·exact aP
theorem aFv {t:bF} {a:Nat} {R:(List Int)} (hm:tX t=some R) (i:aD G K (L) w) (d:fD K a1 a (zC t a4 c5 a7 c8)) (j:bS K a4 c5 t.L) (k:bS K a7 c8 t.E):
  Calls prog 109 ([cP a1 a]:List Value).toArray w (eR fun v w'=>∃ l m,v=zS l R.length m/\aD G K (aG 2 K l m R::L) w'):=by
 refine aR func109 rfl (by kernel_rfl) (by show (1:Nat)<=16;decide) ?_;unfold tX at hm
 refine aO (aI (v:=zS none 0 0) (aK (aO (aL (v:=cP a1 a) (aL (v:=cP a1 a) (aH (mW rfl d) (aH (cH (k':=a+1) yK rfl d rfl) (aH (bG (t:=1) fK i d rfl rfl) (bL (Kt:=K) (xs:=([t.I]:List Int)) (cs:=[i64 t.I]) (vs:=[(0,i64 t.I)]) dA rZ rfl rfl i rfl (by kernel_rfl) rfl rfl rfl ⟨rfl,trivial⟩ (fun g o (p:aD G K (aG 2 K g 1 ([t.I]:List Int)::L) o)=>?_))))))))));obtain ⟨a6,h,q,r,u⟩:=aD.lendSp p (zR _) .head
 obtain ⟨e,x,hm⟩:=aC hm
 refine aQ (vs:=[cP a1 a,zS g ([t.I]:List Int).length 1]) call142 rfl (aFu x r (d.mono h) (j.mono h) (k.mono h) q) ?_
 rintro _ y ⟨b,c,rfl,z⟩
 have V:=u _ _ z
 refine aI (v:=zS b e.length c) (aK (aO (aL (v:=cP a1 a) (aL (v:=zS b e.length c) ?_))))
 have Z:aD G K (aG 4 K b c e::aG 2 K g 1 ([t.I]:List Int)::L) y:=(aD.arr 2 [1,0] V rfl)
 obtain ⟨a0,a2,hm⟩:=aC hm
 refine aQ (vs:=[cP a1 a,zS b e.length c]) call143 rfl (aBy a2 Z d j k) ?_
 rintro _ a8 ⟨rfl,a3,a5⟩
 refine aK (aO (bC (v:=zS b a0.length c) (Eq.trans rfl (congrArg (fun n=>zS b n c) a3)) ?_));obtain ⟨a9,b0,b1,b2,b3⟩:=aD.lendSp a5 (zR _) .head
 exact aP
theorem aLp {a:(List Int)} {n:Int} {R:Bool} (hm:aEp a n=some R) (d:aD G K (L) w) (e:bS K a1 c2 a):
  Calls prog 145 ([zS a1 a.length c2,i64 n]:List Value).toArray w (eR fun v w'=>v=zB R/\aD G K (L) w'):=by
 refine aR func145 rfl (by kernel_rfl) (by show (2:Nat)<=18;decide) ?_;unfold aEp at hm
 refine aO (aI (v:=zB false) (aK (aM (aO (aI (v:=i64 0) (aK (aV [] (fun f w=>aIR=some R/\aD G K (L) w) aP ?_)))))));obtain ⟨g,b,ho⟩:=aC hm
 exact cY [0,1] b (fun c f w=>f 5=i64 c/\aD G K (L) w) aP aP
theorem aGb {t:bF} {c:Nat} {o:(List Int)} {x:Int} {R:(List Int)} (hm:yA t o x=some R) (y:aD G K (L) w) (d:fD K a1 c (zC t a4 c5 a7 c8)) (h6:bS K a4 c5 t.L) (p:bS K a7 c8 t.E) (d0:bS K a10 c11 o):
  Calls prog 110 ([cP a1 c,zS a10 o.length c11,i64 x]:List Value).toArray w (eR fun v w'=>∃ z V,v=zS z R.length V/\aD G K (aG 2 K z V R::L) w'):=by
 refine aR func110 rfl (by kernel_rfl) (by show (3:Nat)<=60;decide) ?_;unfold yA at hm
 refine aO (aI (v:=zS none 0 0) (aK (aO (aL (v:=cP a1 c) (aH (mW rfl d) (aH (cH (k':=c+0) lB rfl d rfl) (aH (bG (t:=0) fK y d rfl rfl) ?_)))))));obtain ⟨a,b2,hm⟩:=aC hm
 refine WO_mk (e:=(false:Bool)) aHe ez_4 rfl rfl y rfl rfl rfl b2 rfl (fun b b3 (d1:aD G K (aG 4 K b a.length a::L) b3)=>(aI (v:=zS b a.length a.length) (aK (aM (aO (aI (v:=i64 0) (aK (aV [0] (fun f w=>∃ j,aBT t j=some R/\f 7=zS b j.length a.length/\aD G K (aG 4 K b a.length j::L) w) ?_ ?_))))))))
 ·rintro f d2 ⟨j,hm,Z,b4⟩
  unfold aBT at hm
  refine aB (aO (aL (v:=cP a1 c) (bC Z ?_)));obtain ⟨b5,b6,hm⟩:=aC hm
  refine aQ (vs:=[cP a1 c,zS b j.length a.length]) call143 rfl (aBy b6 b4 d h6 p) ?_
  rintro _ d3 ⟨rfl,b7,b8⟩
  refine aK (aO (bC (v:=zS b b5.length a.length) (Eq.trans Z (congrArg (fun n=>zS b n a.length) b7)) ?_));obtain ⟨d4,d5,d6,d7,d8⟩:=aD.lendSp b8 (zR _) .head
  exact aP
 obtain ⟨d9,b9,ho⟩:=aC hm
 refine cZ [0,1,2] b9 (fun k g f w=>f 7=zS b k.length a.length/\f 8=i64 g/\aD G K (aG 4 K b a.length k::L) w) aP ?_
 ·rintro k g a0 f e0 hm hr ⟨a2,q,c0⟩
  unfold uU at hm
  refine aM (aO (bC q (aL (v:=cP a1 c) (aH (mW rfl d) (aH (cH (k':=c+3) dF rfl d rfl) (aH (bG (t:=3) iT c0 d rfl rfl) (aH (bI (len:=t.E.length) cM rfl) (aH (cQ rfl rfl) (aK ?_)))))))))
  rcases aN hm with ⟨a3,hm⟩|⟨a3,hm⟩
  ·refine aT a3 rfl (bB (aB (aM (aV [0,1,2,8] (fun f w=>∃ l,zV g l=some a0/\f 7=zS b l.length a.length/\aD G K (aG 4 K b a.length l::L) w) ?_ ?_))))
   ·rintro f e1 ⟨l,hm,c1,c2⟩
    unfold zV at hm
    exact aB (aZ (bC q (aH (eP rfl rfl) (aI (v:=i64 (wr (g+1))) (aK ⟨_,(zI hm).symm,bW,c1,rfl,c2⟩)))))
   refine aM (bR [0,1,2,7,8] (fun f w=>∃ r,zW t k g r=some a0/\f 44=zB r/\aD G K (aG 4 K b a.length k::L) w) ?_ ?_)
   ·rintro f e2 ⟨r,hm,c3,m⟩
    unfold zW at hm
    refine aB ?_
    rcases aN hm with ⟨a5,hm⟩|⟨a5,hm⟩
    ·refine aT a5 c3 (aZ (bC a2 (aL (v:=cP a1 c) (aH (mW rfl d) (aH (cH (k':=c+3) dF rfl d rfl) (aH (bG (t:=3) iT m d rfl rfl) (bC q ?_)))))));obtain ⟨e3,a6,hm⟩:=aC hm
     refine aH (jF cM rfl p rfl rfl rfl a6) ?_;obtain ⟨e4,a8,c4⟩:=bS.el (sz:=3) rfl p a6
     cases c4
     refine aH (cH (k':=g.toNat * 3+2) aBM rfl a8 rfl) (aH (bG (t:=2) fK m a8 rfl rfl) ?_);obtain ⟨e5,u,hm⟩:=aC hm
     have c6:=dM m (i:=0) rfl u
     refine aH (fQ aHe rfl c6 rfl rfl rfl u) ?_;obtain ⟨a9,b0,hm⟩:=aC hm
     exact pD (i:=0) (t:=0) (ns:=[zB true]) (e':=(true:Bool)) sizeOf4 m rfl (zR _) rfl rfl rfl u b0 rfl rfl (cK rfl) rfl (fun cs h=>by cases h;rfl) (fun c7 (c9:aD G K (aG 4 K b a.length a9::L) c7)=>(aJ (cT (aB ⟨bW,a9,hm,(Eq.trans a2 (congrArg (fun n=>zS b n a.length) (mV b0))),c9⟩))))
    ·exact aP
   exact aP
  ·exact aP
theorem aGc {a b:(List Int)} {R:Bool} (hm:aEq a b=some R) (g:aD G K (L) w) (h:bS K a1 c2 a) (i:bS K a4 c5 b):
  Calls prog 111 ([zS a1 a.length c2,zS a4 b.length c5]:List Value).toArray w (eR fun v w'=>v=zB R/\aD G K (L) w'):=by
 refine aR func111 rfl (by kernel_rfl) (by show (2:Nat)<=26;decide) ?_;unfold aEq at hm
 refine aO (aI (v:=zB false) (aK (aM (aO (aL (v:=zS a1 a.length c2) (aH (bI (len:=a.length) dA rfl) (aL (v:=zS a4 b.length c5) (aH (bI (len:=b.length) dA rfl) (aH (aFE rfl rfl) (aK ?_))))))))))
 rcases aN hm with ⟨c,hm⟩|⟨c,hm⟩
 ·exact aP
 ·refine aW c rfl (bB (aB (aM (aO (aI (v:=i64 0) (aK (aV [] (fun f w=>aHO=some R/\aD G K (L) w) aP ?_)))))));obtain ⟨j,d,ho⟩:=aC hm
  exact cY [0,1] d (fun e f w=>f 5=i64 e/\aD G K (L) w) aP aP
theorem aGd {t:bF} {y:Nat} {R:(bF × (List (List Int)) × Bool)} (hm:aEr t=some R) (hs:aD G K (L) w) (h3:fD K a1 y (zC t a4 c5 a7 c8)) (h6:bS K a4 c5 t.L) (h9:bS K a7 c8 t.E):
  Calls prog 57 ([cP a1 y]:List Value).toArray w (eR fun v w'=>∃ g4 g5 g6 g7 g8 g9 e1,v=zT #[zA (zCa R.1 g4 g5 g6 g7),zS g8 R.2.1.length g9,zB R.2.2]/\List.length e1=List.length R.2.1/\aD G K (aG 9 K g4 g5 R.1.L::aG 46 K g6 g7 R.1.E::aG 55 K g8 g9 (cL e1 R.2.1)::rows [2] e1 R.2.1::L) w'):=by
 let a:=zG
 let h0:=aG 55 K none 0 (cL ([]:List (Dp.Hd (List Int))) ([]:List (List Int)))
 refine aR func57 rfl (by kernel_rfl) (by show (1:Nat)<=88;decide) ?_;unfold aEr at hm
 refine aO (aX (vs:=a) zeroValue27 hs rfl (fun d r2 j9=>(aI (v:=zS none 0 0) (aI (v:=zB false) (aK (aO (aL (v:=cP a1 y) ?_)))))));obtain ⟨q,k0,hm⟩:=aC hm
 refine aQ (vs:=[cP a1 y]) call109 rfl (aFv k0 j9 h3 h6 h9) ?_
 rintro _ k1 ⟨r,u,rfl,k3⟩
 have k4:aD G K (rows [2] ([(r,u)]:List (Dp.Hd (List Int))) [q]::box d 27 a::L) k1:=aD.rowsOne k3
 refine bL (Kt:=K) (xs:=cL ([(r,u)]:List (Dp.Hd (List Int))) ([q]:List (List Int))) (cs:=[zS r q.length u]) (vs:=[(0,zS r q.length u)]) aAq aLE rfl rfl k4 rfl (by kernel_rfl) rfl rfl rfl ⟨rfl,trivial⟩ ?_
 intro c0 k5 (k6:aD G K (aG 55 K c0 1 (cL ([(r,u)]:List (Dp.Hd (List Int))) ([q]:List (List Int)))::rows [2] ([(r,u)]:List (Dp.Hd (List Int))) ([q]:List (List Int))::box d 27 a::L) k5)
 refine aI (v:=zS c0 ([q]:List (List Int)).length 1) (aK (aO (bL (Kt:=K) (xs:=([]:List Edge)) (cs:=[]) (vs:=[]) cM qA rfl rfl k6 rfl (by kernel_rfl) rfl rfl rfl trivial ?_)))
 intro e2 k7 (k8:aD G K (aG 46 K e2 0 ([]:List Edge)::aG 55 K c0 1 (cL ([(r,u)]:List (Dp.Hd (List Int))) ([q]:List (List Int)))::rows [2] ([(r,u)]:List (Dp.Hd (List Int))) ([q]:List (List Int))::box d 27 a::L) k7)
 refine aI (v:=zS e2 ([]:List Edge).length 0) (aK (aM (aO (aI (v:=i64 0) (aK (aV [0,2] (fun f w=>∃ a8 e3 h1 h2 e4 h4 h5,zX t a8 e3=some R/\f 5=zS h1 a8.length h2/\f 6=zS h4 e3.length h5/\List.length e4=List.length a8/\aD G K (aG 46 K h4 h5 e3::aG 55 K h1 h2 (cL e4 a8)::rows [2] e4 a8::box d 27 a::L) w) aP ?_))))));obtain ⟨r3,k9,ho⟩:=aC hm
 refine tB [0,2] k9 (fun z a9 x f w=>∃ c1 c2 b0 c3 c4,f 5=zS c1 z.length c2/\f 6=zS c3 a9.length c4/\f 7=i64 x/\List.length b0=List.length z/\aD G K (aG 46 K c3 c4 a9::aG 55 K c1 c2 (cL b0 z)::rows [2] b0 z::box d 27 a::L) w) ?_ ?_
 ·exact ⟨c0,1,([(r,u)]:List (Dp.Hd (List Int))),e2,0,rfl,rfl,rfl,rfl,k8⟩
 ·rintro z a9 x b1 f r4 hm hr ⟨c1,c2,b0,c3,c4,h7,l0,e5,l1,l2⟩
  unfold iX at hm
  refine aM (aO (bC e5 (bC h7 (aH (bI (len:=z.length) aAq rfl) (aH (cQ rfl rfl) (aK ?_))))))
  rcases aN hm with ⟨e6,hm⟩|⟨e6,hm⟩
  ·refine aT e6 rfl (bB (aB (aM (aV [0,2,7] (fun f w=>∃ a2 c6 c7 c9 b2 d0 d1,aBV x a2 c6=some b1/\f 5=zS c7 a2.length c9/\f 6=zS d0 c6.length d1/\List.length b2=List.length a2/\aD G K (aG 46 K d0 d1 c6::aG 55 K c7 c9 (cL b2 a2)::rows [2] b2 a2::box d 27 a::L) w) ?_ ?_))))
   ·rintro f r5 ⟨a2,c6,c7,c9,b2,d0,d1,hm,l3,l4,l5,l6⟩
    unfold aBV at hm
    exact aB (aZ (bC e5 (aH (eP rfl rfl) (aI (v:=i64 (wr (x+1))) (aK ⟨_,(zI hm).symm,bW,c7,c9,b2,d0,d1,l3,l4,rfl,l5,l6⟩)))))
   refine aO (aI (v:=i64 1) (aK (aV [0,2,7] (fun f w=>∃ b3 e7 h8 i0 e8 i1 i2,aBW x b3 e7=some b1/\f 5=zS h8 b3.length i0/\f 6=zS i1 e7.length i2/\List.length e8=List.length b3/\aD G K (aG 46 K i1 i2 e7::aG 55 K h8 i0 (cL e8 b3)::rows [2] e8 b3::box d 27 a::L) w) aP ?_)));obtain ⟨r6,l7,ho⟩:=aC hm
   refine tB [0,2,7] l7 (fun b e V f w=>∃ m n c k l,f 5=zS m b.length n/\f 6=zS k e.length l/\f 8=i64 V/\List.length c=List.length b/\aD G K (aG 46 K k l e::aG 55 K m n (cL c b)::rows [2] c b::box d 27 a::L) w) aP ?_
   ·rintro b e V d2 f r7 hm hr ⟨m,n,c,k,l,a0,i3,e9,o,b4⟩
    unfold qQ at hm
    refine aM (aO (bC e9 (aL (v:=cP a1 y) (aH (mW rfl h3) (aH (cH (k':=y+2) fT rfl h3 rfl) (aH (bG (t:=2) gY b4 h3 rfl rfl) (aH (bI (len:=t.L.length) bE rfl) (aH (cQ rfl rfl) (aK ?_)))))))))
    rcases aN hm with ⟨f0,hm⟩|⟨f0,hm⟩
    ·refine aT f0 rfl (bB (aB (aM (aV [0,2,7,8] (fun f w=>∃ a3 d3 d4 d5 b5 d6 d7,uV V a3 d3=some d2/\f 5=zS d4 a3.length d5/\f 6=zS d6 d3.length d7/\List.length b5=List.length a3/\aD G K (aG 46 K d6 d7 d3::aG 55 K d4 d5 (cL b5 a3)::rows [2] b5 a3::box d 27 a::L) w) ?_ ?_))))
     ·rintro f r8 ⟨a3,d3,d4,d5,b5,d6,d7,hm,l8,l9,m0,m1⟩
      unfold uV at hm
      exact aB (aZ (bC e9 (aH (eP rfl rfl) (aI (v:=i64 (wr (V+1))) (aK ⟨_,(zI hm).symm,bW,d4,d5,b5,d6,d7,l8,l9,rfl,m0,m1⟩)))))
     refine aO (aL (v:=cP a1 y) (bC a0 (bC e5 ?_)));obtain ⟨m2,b6,hm⟩:=aC hm
     obtain ⟨⟨m3,m4⟩,f1⟩:=get_hd o b6
     have i4:=dM b4 (i:=1) rfl (aJO o b6 f1)
     refine aH (fQ aAq rfl i4 rfl rfl rfl b6) (aH (rB (t:=0) aLF b4 (i:=1) rfl (aJO o b6 f1) rfl rfl rfl) (bC e9 ?_));obtain ⟨r9,f2,s0,m5,m6,m7⟩:=aD.lendD' (i:=1) b4 o rfl rfl
     obtain ⟨j,m8,hm⟩:=aC hm
     refine aQ (vs:=[cP a1 y,zS m3 m2.length m4,i64 V]) call110 rfl (aGb m8 m6 (h3.mono f2) (h6.mono f2) (h9.mono f2) (rd_row (m5 _ _ _ f1 (ix_at b6)))) ?_
     rintro _ s1 ⟨g,h,rfl,m9⟩
     have s2:=m7 _ _ m9
     refine aI (v:=zS g j.length h) (aK (aM (aO (aL (v:=zS g j.length h) (aH (bI (len:=j.length) dA rfl) (aH (nW rfl rfl) (aK ?_)))))))
     rcases aN hm with ⟨i5,hm⟩|⟨i5,hm⟩
     ·exact aP
     ·refine aW i5 rfl (bB (aB (aO (aI (v:=i64 (-1)) (aK (aM (aO (aI (v:=i64 0) (aK (aV [0,2,5,6,7,8,9] (fun f w=>∃ f3,qO x b e V j f3=some d2/\f 10=i64 f3/\aD G K (aG 55 K m n (cL c b)::rows [2] c b::aG 2 K g h j::aG 46 K k l e::box d 27 a::L) w) ?_ ?_))))))))))
      ·rintro f i6 ⟨f3,hm,n0,i7⟩
       unfold qO at hm
       refine aB (qE [0,2,6,7,8] (fun f w=>∃ p f4 b7 b8 Z,zY x e V p f4=some d2/\f 5=zS b7 p.length b8/\f 10=i64 f4/\List.length Z=List.length p/\aD G K (aG 55 K b7 b8 (cL Z p)::rows [2] Z p::aG 46 K k l e::box d 27 a::L) w) ?_ ?_)
       ·rintro f s3 ⟨p,f4,b7,b8,Z,hm,s4,s5,s6,n1⟩
        unfold zY at hm
        refine aM (aO (bC i3 (aH (bI (len:=e.length) cM rfl) (aH (nW rfl rfl) (aK ?_)))))
        rcases aN hm with ⟨i8,hm⟩|⟨i8,hm⟩
        ·refine aT i8 rfl (aO (aH (fF (vs:=[]) (cs:=a) aJX rfl (by kernel_rfl)) (bH (i:=3) (ns:=a) (us:=a) sizeOf27 n1 rfl rfl rfl rfl rfl (cK rfl) rfl rfl (fun i9 (n2:aD G K (aG 55 K b7 b8 (cL Z p)::rows [2] Z p::aG 46 K k l e::box d 27 a::L) i9)=>(aI (v:=zS none 0 0) (aI (v:=zB false) (aK (kX (cC (gO (cC (cC (cC ?_)))))))))))))
         have n3:=hr _ (zI hm).symm
         subst n3
         have hm:(some (.inr (.inr (⟨0,0,[],[]⟩,[],false))))=some b1:=ho
         clear hr ho
         refine gO (cC (gO (cC (cC (cC ?_)))))
         have n4:=hr _ (zI hm).symm
         subst n4
         have hm:(some (⟨0,0,[],[]⟩,[],false))=some R:=ho
         clear hr ho
         have n5:=aD.nil (α:=aF) n2 9 K
         have n6:=aD.nil (α:=Edge) n5 46 K
         have j0:aD G K (h0::rows [2] ([]:List (Dp.Hd (List Int))) ([]:List (List Int))::aG 46 K none 0 ([]:List Edge)::aG 9 K none 0 ([]:List aF)::aG 55 K b7 b8 (cL Z p)::rows [2] Z p::aG 46 K k l e::box d 27 a::L) i9:=aD.nil (α:=Cells _) (aD.rowsNil (α:=(List Int)) (tys:=[2]) n6) 55 K
         obtain rfl:=zI hm
         exact gO (cC (cC (aDw results57 (tC (vs:=a) rfl cW j0 (i:=7) rfl rfl rfl) (yJ rfl rfl) (yJ rfl rfl) ⟨none,0,none,0,none,0,([]:List (Dp.Hd (List Int))),rfl,rfl,(aD.arr 8 [3,2,0,1] j0 rfl)⟩)))
        ·exact aP
       refine aO (bC n0 (aH (cQ rfl rfl) (aK ?_)))
       rcases aN hm with ⟨j1,hm⟩|⟨j1,hm⟩
       ·refine aT j1 rfl (aM (aO (bC a0 (aH (bI (len:=b.length) aAq rfl) (aH (nW rfl rfl) (aK ?_))))))
        rcases aN hm with ⟨f5,hm⟩|⟨f5,hm⟩
        ·refine aT f5 rfl (aO (aH (fF (vs:=[]) (cs:=a) aJX rfl (by kernel_rfl)) (bH (i:=4) (ns:=a) (us:=a) sizeOf27 i7 rfl rfl rfl rfl rfl (cK rfl) rfl rfl (fun j2 (n8:aD G K (aG 55 K m n (cL c b)::rows [2] c b::aG 2 K g h j::aG 46 K k l e::box d 27 a::L) j2)=>(aI (v:=zS none 0 0) (aI (v:=zB false) (aK (kX (cC (cC (gO (cC (cC (cC ?_))))))))))))))
         have n9:=hr _ (zI hm).symm
         subst n9
         have hm:(some (.inr (.inr (⟨0,0,[],[]⟩,[],false))))=some b1:=ho
         clear hr ho
         refine gO (cC (gO (cC (cC (cC ?_)))))
         have o0:=hr _ (zI hm).symm
         subst o0
         have hm:(some (⟨0,0,[],[]⟩,[],false))=some R:=ho
         clear hr ho
         have o1:=aD.nil (α:=aF) n8 9 K
         have o2:=aD.nil (α:=Edge) o1 46 K
         have j3:aD G K (h0::rows [2] ([]:List (Dp.Hd (List Int))) ([]:List (List Int))::aG 46 K none 0 ([]:List Edge)::aG 9 K none 0 ([]:List aF)::aG 55 K m n (cL c b)::rows [2] c b::aG 2 K g h j::aG 46 K k l e::box d 27 a::L) j2:=aD.nil (α:=Cells _) (aD.rowsNil (α:=(List Int)) (tys:=[2]) o2) 55 K
         obtain rfl:=zI hm
         exact gO (cC (cC (aDw results57 (tC (vs:=a) rfl cW j3 (i:=8) rfl rfl rfl) (yJ rfl rfl) (yJ rfl rfl) ⟨none,0,none,0,none,0,([]:List (Dp.Hd (List Int))),rfl,rfl,(aD.arr 9 [3,2,0,1] j3 rfl)⟩)))
        ·refine aW f5 rfl (bB (aB (aO (bC a0 (aH (bI (len:=b.length) aAq rfl) (aI (v:=i64 (b.length:Int)) (aK (aZ (bC a0 (aL (v:=zS g j.length h) ?_))))))))))
         have o4:aD G K (aG 2 K g h j::aG 55 K m n (cL c b)::rows [2] c b::aG 46 K k l e::box d 27 a::L) i6:=(aD.arr 3 [2,0,1] i7 rfl)
         have o5:aD G K (rows [2] ([(g,h)]:List (Dp.Hd (List Int))) [j]::aG 55 K m n (cL c b)::rows [2] c b::aG 46 K k l e::box d 27 a::L) i6:=aD.rowsOne o4
         refine bL (Kt:=K) (xs:=cL ([(g,h)]:List (Dp.Hd (List Int))) ([j]:List (List Int))) (cs:=[zS g j.length h]) (vs:=[(0,zS g j.length h)]) aAq aLE rfl rfl o5 rfl (by kernel_rfl) rfl rfl rfl ⟨rfl,trivial⟩ ?_
         intro o6 o7 (o8:aD G K (aG 55 K o6 1 (cL ([(g,h)]:List (Dp.Hd (List Int))) ([j]:List (List Int)))::rows [2] ([(g,h)]:List (Dp.Hd (List Int))) ([j]:List (List Int))::aG 55 K m n (cL c b)::rows [2] c b::aG 46 K k l e::box d 27 a::L) o7)
         obtain ⟨d8,j4,hm⟩:=aC hm
         refine aJs (i:=0) (tys:=[2]) (hds:=c) (hds2:=([(g,h)]:List (Dp.Hd (List Int)))) aAq underlying48 aLE rfl rfl o8 o rfl rfl rfl j4 rfl rfl rfl rfl ?_
         intro f6 f7 o9 (p0:aD G K (aG 55 K f6 f7 (cL (c++([(g,h)]:List (Dp.Hd (List Int)))) d8)::rows [2] (c++([(g,h)]:List (Dp.Hd (List Int)))) d8::aG 46 K k l e::box d 27 a::L) o9)
         exact aI (v:=zS f6 d8.length f7) (aK ⟨bW,d8,(b.length:Int),f6,f7,(c++([(g,h)]:List (Dp.Hd (List Int)))),hm,rfl,rfl,(aHC o rfl j4),p0⟩)
       ·exact aP
      obtain ⟨s7,p1,ho⟩:=aC hm
      refine cZ [0,2,5,6,7,8,9] p1 (fun b9 a5 f w=>f 10=i64 b9/\f 11=i64 a5/\aD G K (aG 55 K m n (cL c b)::rows [2] c b::aG 2 K g h j::aG 46 K k l e::box d 27 a::L) w) aP ?_
      ·rintro b9 a5 p2 f s8 hm hr ⟨j5,d9,f8⟩
       unfold qP at hm
       refine aM (aO (bC d9 (bC a0 (aH (bI (len:=b.length) aAq rfl) (aH (cQ rfl rfl) (aK ?_))))))
       rcases aN hm with ⟨f9,hm⟩|⟨f9,hm⟩
       ·refine aT f9 rfl (bB (aB (aM (aV [0,2,5,6,7,8,9,11] (fun f w=>∃ g0,zZ a5 g0=some p2/\f 10=i64 g0/\aD G K (aG 55 K m n (cL c b)::rows [2] c b::aG 2 K g h j::aG 46 K k l e::box d 27 a::L) w) ?_ ?_))))
        ·rintro f s9 ⟨g0,hm,p3,p4⟩
         unfold zZ at hm
         exact aB (aZ (bC d9 (aH (eP rfl rfl) (aI (v:=i64 (wr (a5+1))) (aK ⟨_,(zI hm).symm,bW,p3,rfl,p4⟩)))))
        refine aO (bC a0 (bC d9 ?_));obtain ⟨p5,e0,hm⟩:=aC hm
        refine aH (fQ aAq rfl i4 rfl rfl rfl e0) ?_;obtain ⟨⟨p6,p7⟩,j6⟩:=get_hd o e0
        refine aH (rB (t:=0) aLF f8 (i:=0) rfl (aJO o e0 j6) rfl rfl rfl) (aL (v:=zS g j.length h) ?_);obtain ⟨t0,p8,t1,p9,q0,q1⟩:=aD.lendD' (i:=0) f8 o rfl rfl
        obtain ⟨t2,q2,q3,q4,q5⟩:=aD.lendSp q0 p8 .head
        obtain ⟨t3,q6,hm⟩:=aC hm
        refine aQ (vs:=[zS p6 p5.length p7,zS g j.length h]) call111 rfl (aGc q6 q4 ((rd_row (p9 _ _ _ j6 (ix_at e0))).mono q2) q3) ?_
        rintro _ t4 ⟨rfl,q7⟩
        have q8:=q5 _ _ q7
        have j7:=q1 _ _ q8
        refine aK ?_
        rcases aN hm with ⟨g1,hm⟩|⟨g1,hm⟩
        ·exact aT g1 rfl (aZ (bC d9 (aI (v:=i64 a5) (aJ (cT (aB ⟨bW,a5,hm,rfl,j7⟩))))))
        ·exact aW g1 rfl (bB (cT (aB ⟨bW,b9,hm,j5,j7⟩)))
       ·refine aW f9 rfl (yH (iP (iP ?_)))
        have q9:=hr _ (zI hm).symm
        subst q9
        have hm:(qO x b e V j b9)=some d2:=ho
        clear hr ho
        exact pC (aB ⟨bW,b9,hm,j5,f8⟩)
    ·refine aW f0 rfl (yH (iP (iP ?_)))
     have r0:=hr _ (zI hm).symm
     subst r0
     have hm:(aBW x b e)=some b1:=ho
     clear hr ho
     exact pC (aB ⟨bW,b,e,m,n,c,k,l,hm,a0,i3,o,b4⟩)
  ·refine aW e6 rfl (yH (iP (iP ?_)))
   have r1:=hr _ (zI hm).symm
   subst r1
   have hm:(zX t z a9)=some R:=ho
   clear hr ho
   exact pC (aB ⟨bW,z,a9,c1,c2,b0,c3,c4,hm,h7,l0,l1,l2⟩)
theorem aDl {t:bF} {j:Nat} {h:(List aF)} {R:(bF × (List (List Int)) × Bool)} (hm:aCh t h=some R) (hs:aD G K (L) w) (h3:fD K a1 j (zC t a4 c5 a7 c8)) (h6:bS K a4 c5 t.L) (h9:bS K a7 c8 t.E) (a6:bS K a10 c11 h):
  Calls prog 22 ([cP a1 j,zS a10 h.length c11]:List Value).toArray w (eR fun v w'=>∃ o p q r u x l,v=zT #[zA (zCa R.1 o p q r),zS u R.2.1.length x,zB R.2.2]/\List.length l=List.length R.2.1/\aD G K (aG 9 K o p R.1.L::aG 46 K q r R.1.E::aG 55 K u x (cL l R.2.1)::rows [2] l R.2.1::L) w'):=by
 let b:=zG
 refine aR func22 rfl (by kernel_rfl) (by show (2:Nat)<=22;decide) ?_;unfold aCh at hm
 refine aO (aX (vs:=b) zeroValue27 hs rfl (fun m c7 a8=>(aI (v:=zS none 0 0) (aI (v:=zB false) (aK (aO (aL (v:=cP a1 j) (aL (v:=zS a10 h.length c11) ?_))))))));obtain ⟨a,a9,hm⟩:=aC hm
 refine aQ (vs:=[cP a1 j,zS a10 h.length c11]) call56 rfl (aDP a9 a8 h3 h6 h9 a6) ?_
 rintro _ c9 ⟨c,d,e,g,rfl,b0⟩
 refine aL (v:=zT #[zA (zCa a.1 c d e g),zB a.2]) (aH (bD rfl rfl) (aH (bD rfl rfl) (aX (vs:=b) zeroValue27 b0 rfl (fun k d0 b1=>(bH (i:=0) (ns:=(zC a.1 c d e g)) (us:=(zC a.1 c d e g)) sizeOf27 b1 rfl rfl rfl rfl rfl (cK rfl) rfl rfl (fun b2 (y:aD G K (box k 27 (zC a.1 c d e g)::aG 9 K c d a.1.L::aG 46 K e g a.1.E::box m 27 b::L) b2)=>(aI (v:=zB a.2) (aK (aM (aO (aL (v:=zB a.2) (aH (rA rfl) (aK ?_)))))))))))))
 rcases aN hm with ⟨n,hm⟩|⟨n,hm⟩
 ·refine aT n rfl (aO (aH (fF (vs:=[]) (cs:=b) aJX rfl (by kernel_rfl)) (bH (i:=3) (ns:=b) (us:=b) sizeOf27 y rfl rfl rfl rfl rfl (cK rfl) rfl rfl (fun z (b3:aD G K (box k 27 (zC a.1 c d e g)::aG 9 K c d a.1.L::aG 46 K e g a.1.E::box m 27 b::L) z)=>(aI (v:=zS none 0 0) (aI (v:=zB false) (aK ?_)))))))
  have b4:=aD.nil (α:=aF) b3 9 K
  have b5:=aD.nil (α:=Edge) b4 46 K
  have V:aD G K (aG 55 K none 0 (cL ([]:List (Dp.Hd (List Int))) ([]:List (List Int)))::rows [2] ([]:List (Dp.Hd (List Int))) ([]:List (List Int))::aG 46 K none 0 ([]:List Edge)::aG 9 K none 0 ([]:List aF)::box k 27 (zC a.1 c d e g)::aG 9 K c d a.1.L::aG 46 K e g a.1.E::box m 27 b::L) z:=aD.nil (α:=Cells _) (aD.rowsNil (α:=(List Int)) (tys:=[2]) b5) 55 K
  obtain rfl:=zI hm
  exact kX (cC (aDw results22 (tC (vs:=b) rfl cW V (i:=7) rfl rfl rfl) (yJ rfl rfl) (yJ rfl rfl) ⟨none,0,none,0,none,0,([]:List (Dp.Hd (List Int))),rfl,rfl,(aD.arr 8 [3,2,0,1] V rfl)⟩))
 ·refine aW n rfl (bB (aB (aO ?_)));obtain ⟨d1,b7,b8,b9,d2⟩:=aD.lendSp y (zR _) zt1
  obtain ⟨d3,c0,c1,c2,d4⟩:=aD.lendSp b9 b7 zt1
  obtain ⟨d5,Z,c3,c4,d6⟩:=aD.lendBp c2 .head
  obtain ⟨d7,c6,hm⟩:=aC hm
  exact aQ (vs:=[cP (some ⟨k,0,none⟩) 0]) call57 rfl (aGd c6 c4 c3 (b8.mono (zL c0 Z)) (c1.mono Z)) aP
theorem aJn {made spec:(List aF)} {R:aF} (hm:aKc made spec=some R) (c:aD G K (L) w) (d:bS K a1 c2 made) (e:bS K a4 c5 spec):
  Calls prog 59 ([zS a1 made.length c2,zS a4 spec.length c5]:List Value).toArray w (eR fun v w'=>v=str R/\aD G K (L) w'):=by
 refine aR func59 rfl (by kernel_rfl) (by show (2:Nat)<=23;decide) ?_;unfold aKc at hm
 refine aO (aI (v:=str ([]:aF)) (aK (aM (aO (aI (v:=i64 0) (aK (aV [] (fun f w=>aGS=some R/\aD G K (L) w) aP ?_)))))));obtain ⟨g,a,ho⟩:=aC hm
 exact cY [0,1] a (fun b f w=>f 5=i64 b/\aD G K (L) w) aP aP
theorem aHT {t:bF} {b:Nat} {j:(List aF)} {q:(List Int)} {R:(List aF)} (hm:aEW t j q=some R) (hs:aD G K (L) w) (a:fD K a1 b (zC t a4 c5 a7 c8)) (r:bS K a4 c5 t.L) (h9:bS K a7 c8 t.E) (c0:bS K a10 c11 j) (e1:bS K a13 c14 q):
  Calls prog 113 ([cP a1 b,zS a10 j.length c11,zS a13 q.length c14]:List Value).toArray w (eR fun v w'=>∃ a0 a2,v=zS a0 R.length a2/\aD G K (aG 9 K a0 a2 R::L) w'):=by
 refine aR func113 rfl (by kernel_rfl) (by show (3:Nat)<=72;decide) ?_;unfold aEW at hm
 refine aO (aI (v:=zS none 0 0) (aK (aO (bL (Kt:=K) (xs:=([]:List aF)) (cs:=[]) (vs:=[]) bE iW rfl rfl hs rfl (by kernel_rfl) rfl rfl rfl trivial (fun a3 c1 (e2:aD G K (aG 9 K a3 0 ([]:List aF)::L) c1)=>(aI (v:=zS a3 ([]:List aF).length 0) (aK (aM (aO (aI (v:=i64 1) (aK (aV [] (fun f w=>∃ u a5 a6,aFo u=some R/\f 7=zS a5 u.length a6/\aD G K (aG 9 K a5 a6 u::L) w) aP ?_))))))))))));obtain ⟨e3,c2,ho⟩:=aC hm
 refine cZ [0,1,2] c2 (fun c k f w=>∃ d e,f 7=zS d c.length e/\f 8=i64 k/\aD G K (aG 9 K d e c::L) w) aP ?_
 ·rintro c k a8 f e4 hm hr ⟨d,e,e5,l,m⟩
  unfold aFr at hm
  refine aM (aO (bC l (aL (v:=cP a1 b) (aH (mW rfl a) (aH (cH (k':=b+2) fT rfl a rfl) (aH (bG (t:=2) gY m a rfl rfl) (aH (bI (len:=t.L.length) bE rfl) (aH (cQ rfl rfl) (aK ?_)))))))))
  rcases aN hm with ⟨a9,hm⟩|⟨a9,hm⟩
  ·refine aT a9 rfl (bB (aB (aM (aV [0,1,2,8] (fun f w=>∃ n o p,wT k n=some a8/\f 7=zS o n.length p/\aD G K (aG 9 K o p n::L) w) ?_ ?_))))
   ·rintro f e6 ⟨n,o,p,hm,c3,c4⟩
    unfold wT at hm
    exact aB (aZ (bC l (aH (eP rfl rfl) (aI (v:=i64 (wr (k+1))) (aK ⟨_,(zI hm).symm,bW,o,p,c3,rfl,c4⟩)))))
   refine aM (aO (aL (v:=cP a1 b) (aH (mW rfl a) (aH (cH (k':=b+2) fT rfl a rfl) (aH (bG (t:=2) gY m a rfl rfl) (bC l ?_))))));obtain ⟨g,x,hm⟩:=aC hm
   refine aH (jF bE rfl r rfl rfl rfl x) ?_;obtain ⟨e7,b0,c6⟩:=bS.el (sz:=1) rfl r x
   cases c6
   refine aH (bG (t:=0) xB m b0 rfl rfl) (aL (v:=zS a10 j.length c11) ?_);obtain ⟨e8,c7,hm⟩:=aC hm
   refine aQ (vs:=[str g,zS a10 j.length c11]) call141 rfl (aEw c7 m c0) ?_
   rintro _ e9 ⟨rfl,f0⟩
   refine aH (rA rfl) (aK ?_)
   rcases aN hm with ⟨b1,hm⟩|⟨b1,hm⟩
   ·exact aP
   ·refine aW b1 rfl (bB (aB (aO (aI (v:=i64 0) (aK (aV [0,1,2,8] (fun f w=>∃ y b2 b3,aFp k y=some a8/\f 7=zS b2 y.length b3/\aD G K (aG 9 K b2 b3 y::L) w) aP ?_))))));obtain ⟨f1,c9,ho⟩:=aC hm
    refine cY [0,1,2,8] c9 (fun z f w=>f 7=zS d c.length e/\f 9=i64 z/\aD G K (aG 9 K d e c::L) w) aP ?_
    ·rintro z d0 f f2 hm hr ⟨d1,d2,d3⟩
     unfold aFq at hm
     refine aM (aO (bC d2 (aL (v:=cP a1 b) (aH (mW rfl a) (aH (cH (k':=b+3) dF rfl a rfl) (aH (bG (t:=3) iT d3 a rfl rfl) (aH (bI (len:=t.E.length) cM rfl) (aH (cQ rfl rfl) (aK ?_)))))))))
     rcases aN hm with ⟨b4,hm⟩|⟨b4,hm⟩
     ·refine aT b4 rfl (bB (aB (aM (cS (aM (bR [0,1,2,7,8,9] (fun f w=>∃ V,wU c g z V=some d0/\f 60=zB V/\aD G K (aG 9 K d e c::L) w) ?_ ?_))))))
      ·rintro f f3 ⟨V,hm,d4,Z⟩
       unfold wU at hm
       refine aB ?_
       rcases aN hm with ⟨b5,hm⟩|⟨b5,hm⟩
       ·refine aT b5 d4 (aO (bC d1 (aL (v:=cP a1 b) (aH (mW rfl a) (aH (cH (k':=b+2) fT rfl a rfl) (aH (bG (t:=2) gY Z a rfl rfl) (bC l (aH (jF bE rfl r rfl rfl rfl x) (aH (bG (t:=0) xB Z b0 rfl rfl) (bL (Kt:=K) (xs:=([g]:List aF)) (cs:=[str g]) (vs:=[(0,str g)]) bE iW rfl rfl Z rfl (by kernel_rfl) rfl rfl rfl ⟨rfl,trivial⟩ (fun d5 d6 (d7:aD G K (aG 9 K d5 1 ([g]:List aF)::aG 9 K d e c::L) d6)=>?_)))))))))))
        obtain ⟨b6,d8,hm⟩:=aC hm
        refine eX (i:=0) bE underlying24 iW rfl rfl d7 rfl (zR _) (zR _) d8 rfl rfl rfl rfl (fun _ h=>h) (fun b7 b8 d9 (f4:aD G K (aG 9 K b7 b8 b6::L) d9)=>(aI (v:=zS b7 b6.length b8) (aK (yH (aLw rfl (iP (iP ?_)))))))
        have f5:=hr _ (zI hm).symm
        exact aP
       ·exact aP
      exact aP
     ·exact aP
  ·exact aP
theorem aIy {d:bF} {c:Nat} {b:(List aF)} {a:Int} {R:(List aF)} (hm:aIS d b a=some R) (h:aD G K (L) w) (l:fD K a1 c (zC d a4 c5 a7 c8)) (m:bS K a4 c5 d.L) (n:bS K a7 c8 d.E) (o:bS K a10 c11 b):
  Calls prog 60 ([cP a1 c,zS a10 b.length c11,i64 a]:List Value).toArray w (eR fun v w'=>∃ e g,v=zS e R.length g/\aD G K (aG 9 K e g R::L) w'):=by
 refine aR func60 rfl (by kernel_rfl) (by show (3:Nat)<=12;decide) ?_;unfold aIS at hm
 refine aO (aI (v:=zS none 0 0) (aK (aO (aL (v:=cP a1 c) (aL (v:=zS a10 b.length c11) (aL (v:=i64 a) (bL (Kt:=K) (xs:=([a]:List Int)) (cs:=[i64 a]) (vs:=[(0,i64 a)]) dA rZ rfl rfl h rfl (by kernel_rfl) rfl rfl rfl ⟨rfl,trivial⟩ (fun i j (k:aD G K (aG 2 K i 1 ([a]:List Int)::L) j)=>?_))))))));obtain ⟨p,q,r,t,u⟩:=aD.lendSp k (zR _) .head
 exact aP
theorem aMC {d:bF} {g:Nat} {b:Int} {c:aF} {R:Int} (hm:s_l12Go d b c=some R) (m:aD G K (L) w) (n:fD K a1 g (zC d a4 c5 a7 c8)) (o:bS K a4 c5 d.L) (p:bS K a7 c8 d.E):
  Calls prog 61 ([cP a1 g,i64 b,str c]:List Value).toArray w (eR fun v w'=>v=i64 R/\aD G K (L) w'):=by
 refine aR func61 rfl (by kernel_rfl) (by show (3:Nat)<=57;decide) ?_;unfold s_l12Go at hm
 refine aO (aI (v:=i64 0) (aK (aM (aO (aI (v:=i64 0) (aK (aV [] (fun f w=>aKd=some R/\aD G K (L) w) aP ?_)))))));obtain ⟨q,k,ho⟩:=aC hm
 refine cY [0,1,2] k (fun a f w=>f 7=i64 a/\aD G K (L) w) aP ?_
 ·rintro a h f r hm hr ⟨t,u⟩
  unfold aKe at hm
  refine aM (aM (bR [0,1,2,7] (fun f w=>∃ e,aEX d b c a e=some h/\f 18=zB e/\aD G K (L) w) ?_ ?_))
  ·rintro f x ⟨e,hm,l,y⟩
   unfold aEX at hm
   refine aB ?_
   rcases aN hm with ⟨i,hm⟩|⟨i,hm⟩
   ·exact aT i l (bB (aB (aM (cS (aM (bR [0,1,2,7] (fun f w=>∃ j,aHg d a j=some h/\f 48=zB j/\aD G K (L) w) aP aP))))))
   ·exact aP
  exact aP
theorem aEx {a:bF} {c:Nat} {y:bF} {d:Nat} {b:(List aF)} {R:((List aF) × aF)} (hm:aIT a y b=some R) (h:aD G K (L) w) (i:fD K a1 c (zC a a4 c5 a7 c8)) (j:bS K a4 c5 a.L) (k:bS K a7 c8 a.E) (l:fD K a10 d (zC y a13 c14 a16 c17)) (m:bS K a13 c14 y.L) (n:bS K a16 c17 y.E) (o:bS K a19 c20 b):
  Calls prog 23 ([cP a1 c,cP a10 d,zS a19 b.length c20]:List Value).toArray w (eR fun v w'=>∃ e g,v=zT #[zS e R.1.length g,str R.2]/\aD G K (aG 9 K e g R.1::L) w'):=by
 exact aP
theorem aJo {spec made:bF} {c:(List aF)} {R:(Bool × (List aF) × aF × Int)} (hm:aCZ spec made c=some R) (hs:aD G K (L) w) (h3:bS K a1 c2 spec.L) (h6:bS K a4 c5 spec.E) (h9:bS K a7 c8 made.L) (c7:bS K a10 c11 made.E) (q:bS K a13 c14 c):
  Calls prog 7 ([zA (zCa spec a1 c2 a4 c5),zA (zCa made a7 c8 a10 c11),zS a13 c.length c14]:List Value).toArray w (eR fun v w'=>∃ c9 d0,v=zT #[zB R.1,zS c9 R.2.1.length d0,str R.2.2.1,i64 R.2.2.2]/\aD G K (aG 9 K c9 d0 R.2.1::L) w'):=by
 let Z:=(zC made a7 c8 a10 c11)
 let a0:=(zC spec a1 c2 a4 c5)
 refine aR func7 rfl (by kernel_rfl) (by show (3:Nat)<=53;decide) ?_;unfold aCZ at hm
 refine aO (fL (v:=zA (zCa spec a1 c2 a4 c5)) (vs:=a0) hs rfl rfl (fun r k2 d7=>(fL (v:=zA (zCa made a7 c8 a10 c11)) (vs:=Z) d7 rfl rfl (fun t k3 d8=>(aI (v:=zB false) (aI (v:=zS none 0 0) (aI (v:=str ([]:aF)) (aI (v:=i64 0) (aK (aM (aM (bR [2,3,4] (fun f w=>∃ b0,wI spec made c b0=some R/\f 25=zB b0/\aD G K (box t 27 Z::box r 27 a0::L) w) ?_ ?_))))))))))))
 ·rintro f k4 ⟨b0,hm,d1,d2⟩
  unfold wI at hm
  refine aB ?_
  rcases aN hm with ⟨b1,hm⟩|⟨b1,hm⟩
  ·refine aT b1 d1 (aO (aI (v:=zB false) (aI (v:=zS none 0 0) (aI (v:=str ([]:aF)) (aI (v:=i64 1) (aK ?_))))))
   have d9:=aD.nil (α:=aF) d2 9 K
   obtain rfl:=zI hm
   exact kX (cC (aHc results7 rfl rfl rfl rfl ⟨none,0,rfl,(aD.arr 3 [0] d9 rfl)⟩))
  ·refine aW b1 d1 (bB (aB (aO (aL (v:=zS a13 c.length c14) ?_))));obtain ⟨k5,b2,e1,e2,e3⟩:=aD.lendBp d2 zt1
   obtain ⟨a,e4,hm⟩:=aC hm
   refine aQ (vs:=[cP (some ⟨r,0,none⟩) 0,zS a13 c.length c14]) call22 rfl (aDl e4 e2 e1 (h3.mono b2) (h6.mono b2) (q.mono b2)) ?_
   rintro _ k6 ⟨e,h,j,k,a2,a3,a5,rfl,k7,e5⟩
   have e6:=e3 _ _ e5
   refine aL (v:=zT #[zA (zCa a.1 e h j k),zS a2 a.2.1.length a3,zB a.2.2]) (aH (bD rfl rfl) (aH (bD rfl rfl) (aH (bD rfl rfl) (aX (vs:=zG) zeroValue27 e6 rfl (fun a6 k8 e7=>(bH (i:=0) (ns:=(zC a.1 e h j k)) (us:=(zC a.1 e h j k)) sizeOf27 e7 rfl rfl rfl rfl rfl (cK rfl) rfl rfl (fun e8 (e9:aD G K (box a6 27 (zC a.1 e h j k)::box r 27 a0::aG 9 K e h a.1.L::aG 46 K j k a.1.E::aG 55 K a2 a3 (cL a5 a.2.1)::rows [2] a5 a.2.1::box t 27 Z::L) e8)=>(aI (v:=zS a2 a.2.1.length a3) (aI (v:=zB a.2.2) (aK (aO (aL (v:=zS a13 c.length c14) ?_))))))))))))
   obtain ⟨k9,b3,f0,f1,f2⟩:=aD.lendBp e9 zt6
   obtain ⟨b,f3,hm⟩:=aC hm
   refine aQ (vs:=[cP (some ⟨t,0,none⟩) 0,zS a13 c.length c14]) call22 rfl (aDl f3 f1 f0 (h9.mono b3) (c7.mono b3) (q.mono b3)) ?_
   rintro _ l0 ⟨l,m,n,o,b4,b5,d3,rfl,l1,f4⟩
   have f5:=f2 _ _ f4
   refine aL (v:=zT #[zA (zCa b.1 l m n o),zS b4 b.2.1.length b5,zB b.2.2]) (aH (bD rfl rfl) (aH (bD rfl rfl) (aH (bD rfl rfl) (aX (vs:=zG) zeroValue27 f5 rfl (fun b6 l2 f6=>(bH (i:=0) (ns:=(zC b.1 l m n o)) (us:=(zC b.1 l m n o)) sizeOf27 f6 rfl rfl rfl rfl rfl (cK rfl) rfl rfl (fun f7 (l3:aD G K (box b6 27 (zC b.1 l m n o)::box t 27 Z::aG 9 K l m b.1.L::aG 46 K n o b.1.E::aG 55 K b4 b5 (cL d3 b.2.1)::rows [2] d3 b.2.1::box a6 27 (zC a.1 e h j k)::box r 27 a0::aG 9 K e h a.1.L::aG 46 K j k a.1.E::aG 55 K a2 a3 (cL a5 a.2.1)::rows [2] a5 a.2.1::L) f7)=>(aI (v:=zS b4 b.2.1.length b5) (aI (v:=zB b.2.2) (aK (aM (aM (bR [2,10,13] (fun f w=>∃ b7,aAP c a b b7=some R/\f 43=zB b7/\aD G K (box b6 27 (zC b.1 l m n o)::aG 9 K l m b.1.L::aG 46 K n o b.1.E::box a6 27 (zC a.1 e h j k)::aG 9 K e h a.1.L::aG 46 K j k a.1.E::L) w) ?_ ?_)))))))))))))
   ·rintro f l4 ⟨b7,hm,d4,d5⟩
    unfold aAP at hm
    refine aB ?_
    rcases aN hm with ⟨b8,hm⟩|⟨b8,hm⟩
    ·refine aT b8 d4 (aO (aI (v:=zB false) (aI (v:=zS none 0 0) (aI (v:=str ([]:aF)) (aI (v:=i64 5) (aK ?_))))))
     have f8:=aD.nil (α:=aF) d5 9 K
     obtain rfl:=zI hm
     exact kX (cC (aHc results7 rfl rfl rfl rfl ⟨none,0,rfl,(aD.arr 7 [0] f8 rfl)⟩))
    ·refine aW b8 d4 (bB (aB (aO (aL (v:=zS a13 c.length c14) ?_))));obtain ⟨l5,a8,g0,g1,g2⟩:=aD.lendSp d5 (zR _) zt4
     obtain ⟨l6,a9,g3,g4,g5⟩:=aD.lendSp g1 a8 zt4
     obtain ⟨l7,u,g6,g7,g8⟩:=aD.lendBp g4 zt3
     obtain ⟨l8,x,g9,h0,h1⟩:=aD.lendSp g7 (zL (zL a8 a9) u) zt1
     obtain ⟨l9,y,h2,h4,h5⟩:=aD.lendSp h0 (zL (zL (zL a8 a9) u) x) zt1
     obtain ⟨m0,p,h7,h8,i0⟩:=aD.lendBp h4 .head
     obtain ⟨d,i1,hm⟩:=aC hm
     refine aQ (vs:=[cP (some ⟨a6,0,none⟩) 0,cP (some ⟨b6,0,none⟩) 0,zS a13 c.length c14]) call23 rfl (aEx i1 h8 (g6.mono (zL (zL x y) p)) (g0.mono (zL (zL (zL (zL a9 u) x) y) p)) (g3.mono (zL (zL (zL u x) y) p)) h7 (g9.mono (zL y p)) (h2.mono p) (q.mono (zL (zL (zL (zL (zL a8 a9) u) x) y) p))) ?_
     rintro _ m1 ⟨z,V,rfl,i2⟩
     have i3:=i0 _ _ i2
     have i4:=h5 _ _ i3
     have i5:=h1 _ _ i4
     have i6:=g8 _ _ i5
     have i7:=g5 _ _ i6
     have i8:=g2 _ _ i7
     refine aL (v:=zT #[zS z d.1.length V,str d.2]) (aH (bD rfl rfl) (aH (bD rfl rfl) (aI (v:=zS z d.1.length V) (aI (v:=str d.2) (aK (aO (aL (v:=str d.2) (aH (aMk rfl rfl) (aL (v:=zS z d.1.length V) (aL (v:=str d.2) (aI (v:=zB (d.2 == ([]:aF))) (aI (v:=zS z d.1.length V) (aI (v:=str d.2) (aI (v:=i64 0) (aK ?_)))))))))))))));obtain rfl:=zI hm
     exact kX (aHc results7 rfl rfl rfl rfl ⟨z,V,rfl,(aD.arr 6 [] i8 rfl)⟩)
   exact aP
 refine aZ (aL (v:=zS a13 c.length c14) ?_);obtain ⟨m2,b9,j0,j1,j2⟩:=aD.lendBp d8 zt1
 obtain ⟨j3,j4,hm⟩:=aC hm
 refine aQ (vs:=[cP (some ⟨r,0,none⟩) 0,zS a13 c.length c14]) call14 rfl (aAi j4 j1 j0 (h3.mono b9) (h6.mono b9) (q.mono b9)) ?_
 rintro _ m3 ⟨rfl,j5⟩
 have j6:=j2 _ _ j5
 refine aH (rA rfl) (aL (v:=zB (!j3)) ?_)
 rcases aN hm with ⟨c0,hm⟩|⟨c0,hm⟩
 ·exact aP
 ·refine eB c0 rfl rfl (aL (v:=zS a13 c.length c14) (eB c0 rfl rfl ?_));obtain ⟨m4,c1,j7,j8,j9⟩:=aD.lendBp j6 zt1
  obtain ⟨m5,k0,hm⟩:=aC hm
  refine aQ (vs:=[cP (some ⟨t,0,none⟩) 0,zS a13 c.length c14]) call14 rfl (aAi k0 j8 j7 (h9.mono c1) (c7.mono c1) (q.mono c1)) ?_
  rintro _ m6 ⟨rfl,k1⟩
  have m7:=j9 _ _ k1
  exact aP
end Gv
