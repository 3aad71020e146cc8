/- Walks, printed by program. -/
import Derived.Test.YtcoeckcjdpbbkaaGreatDoorJWk9
set_option linter.all false
namespace Gv
open Go.Value renaming slice→zS,bool→zB,pointer→zP,agg→zA,map→zM
open Option.some renaming inj→zI
open Gv.Hp renaming le_trans→zL,le_refl→zR
open Go Go.Proofs Go.Proofs.Tryz
set_option maxRecDepth 20000
set_option maxHeartbeats 40000000
variable {G:Env} {K:Hp} {L:List gV} {w:World} {b1 c3 c6 c10 c13 c16 c19 c22 c25 c28 c31 c2 c5 c8 c11 c14 c17 c20 c23 c7:Nat} {a2 a5 a9 a12 a15 a18 a21 a24 a27 a30 a1 a4 a7 a10 a13 a16 a19 a22 a3 a6:Option Addr}
theorem aGn {d6:(List (Int × Int × Int))} {g9:(List ((Int × Int × Int) × Int))} {d:Nat} {b6:(List (List Int))} {d7:List (Dp.Hd (List Int))} {p:aO} {q r_:aP} {R:(Bool × (List (Int × Int × Int)) × (List ((Int × Int × Int) × Int)) × (List (List Int)))} (hm:pT d6 g9 b6 p q r_=some R) (hs:aD G K (aF 71 K a2 c3 d6::cZ d g9::aF 70 K a5 c6 (aY d7 b6)::rows [3] d7 b6::box b1 68 [zS a2 d6.length c3,zM (some d),zS a5 b6.length c6]::L) w) (hG:G.lo=0) (m7:List.length d7=List.length b6) (f0:aN K a9 c10 p.S.L) (j6:aN K a12 c13 p.S.E) (m8:aN K a15 c16 p.M) (m9:aN K a18 c19 p.C) (n0:aN K a21 c22 q.L) (n1:aN K a24 c25 q.E) (n2:aN K a27 c28 r_.L) (n3:aN K a30 c31 r_.E):
  Calls prog 26 ([zP (some ⟨b1,0,none⟩),zA (zEa p a9 c10 a12 c13 a15 c16 a18 c19),zA (zCa q a21 c22 a24 c25),zA (zCa r_ a27 c28 a30 c31)]:List Value).toArray w (dS fun v w'=>∃ j7 j8 j9 k0 h0,v=zB R.1/\List.length h0=List.length R.2.2.2/\aD G K (aF 71 K j7 j8 R.2.1::cZ d R.2.2.1::aF 70 K j9 k0 (aY h0 R.2.2.2)::rows [3] h0 R.2.2.2::box b1 68 [zS j7 R.2.1.length j8,zM (some d),zS j9 R.2.2.2.length k0]::L) w'):=by
 let g:=(zE p a9 c10 a12 c13 a15 c16 a18 c19)
 let k:=(zC q a21 c22 a24 c25)
 let l:=(zC r_ a27 c28 a30 c31)
 refine nT func26 rfl (by kernel_rfl) (by show (4:Nat)<=109;decide) ?_;unfold pT at hm
 refine bS (aEd (v:=zA (zEa p a9 c10 a12 c13 a15 c16 a18 c19)) (vs:=g) hs rfl rfl (fun m r9 n4=>(aEd (v:=zA (zCa q a21 c22 a24 c25)) (vs:=k) n4 rfl rfl (fun n s0 n5=>(aEd (v:=zA (zCa r_ a27 c28 a30 c31)) (vs:=l) n5 rfl rfl (fun o n6 f1=>(bH (v:=zB false) (bF (bS (aU (v:=zP (some ⟨b1,0,none⟩)) (aL (cE (t':=0) aCA rfl rfl) (aL (cE (t':=1) aFd rfl rfl) (aL (hY oG f1 (i:=2) rfl rfl rfl) (aL (cE (t':=1) aFd rfl rfl) (aL (hY oG f1 (i:=1) rfl rfl rfl) (aL (cE (t':=1) aFd rfl rfl) (aL (hY oG f1 (i:=0) rfl rfl rfl) (aL (uZ (vs:=[(0,i64 p.S.I),(1,i64 q.I),(2,i64 r_.I)]) (cs:=[i64 p.S.I,i64 q.I,i64 r_.I]) aOG bz_71 rfl (by kernel_rfl)) ?_))))))))))))))))))
 have n7:aD G K (aF 71 K a2 c3 d6::cZ d g9::aF 70 K a5 c6 (aY d7 b6)::rows [3] d7 b6::box b1 68 [zS a2 d6.length c3,zM (some d),zS a5 b6.length c6]::box o 27 l::box n 27 k::box m 30 g::L) n6:=(aD.arr 8 [3,4,5,6,7,0,1,2] f1 rfl)
 obtain ⟨s1,n8,hm⟩:=aB hm
 refine cI (vs:=[zP (some ⟨b1,0,none⟩),zA #[i64 p.S.I,i64 q.I,i64 r_.I]]) call74 rfl (uR (t:=⟨p.S.I,q.I,r_.I⟩) n8 n7 m7) ?_
 rintro _ s2 ⟨s3,s4,s5,c48,s6,rfl,s7,s8⟩
 refine bF (bI (bS (bH (v:=i64 0) (bF (aK [] (fun f w=>∃ (h1:List (Int × Int × Int)) (k1:(List ((Int × Int × Int) × Int))) (d8:List (List Int)) (k2:Option Addr) (k3:Nat) (k4:Option Addr) (k5:Nat) (h2:List (Dp.Hd (List Int))),aCi h1 k1 d8=some R/\List.length h2=List.length d8/\aD G K (aF 70 K k4 k5 (aY h2 d8)::rows [3] h2 d8::aF 71 K k2 k3 h1::cZ d k1::box b1 68 [zS k2 h1.length k3,zM (some d),zS k4 d8.length k5]::L) w) aJ ?_)))))
 obtain ⟨s9,n9,ho⟩:=aB hm
 refine uX [0,5,6,7] n9 (fun c9 h3 b7 a1 f w=>∃ d9 e0 e1 e2 d0,f 9=i64 a1/\List.length d0=List.length b7/\aD G K (aF 71 K d9 e0 c9::cZ d h3::aF 70 K e1 e2 (aY d0 b7)::rows [3] d0 b7::box b1 68 [zS d9 c9.length e0,zM (some d),zS e1 b7.length e2]::box o 27 l::box n 27 k::box m 30 g::L) w) aJ ?_
 ·rintro c9 h3 b7 a1 k6 f t0 hm hr ⟨d9,e0,e1,e2,d0,f2,t1,e3⟩
  unfold lQ at hm
  refine bI (bS (gN f2 (aU (v:=zP (some ⟨b1,0,none⟩)) (aL (qD rfl) (aL (cE (t':=0) aPJ rfl rfl) (aL (hY sc_65 e3 (i:=4) rfl rfl rfl) (aL (mV (len:=c9.length) sl_65 rfl) (aL (wZ rfl rfl) (bF ?_)))))))))
  rcases aI hm with ⟨k7,hm⟩|⟨k7,hm⟩
  ·refine cP k7 rfl (dD (aG (bI (aK [0,5,6,7,9] (fun f w=>∃ (f3:List (Int × Int × Int)) (h4:(List ((Int × Int × Int) × Int))) (d1:List (List Int)) (f4:Option Addr) (f5:Nat) (f6:Option Addr) (f7:Nat) (e4:List (Dp.Hd (List Int))),qB a1 f3 h4 d1=some k6/\List.length e4=List.length d1/\aD G K (aF 70 K f6 f7 (aY e4 d1)::rows [3] e4 d1::aF 71 K f4 f5 f3::cZ d h4::box b1 68 [zS f4 f3.length f5,zM (some d),zS f6 d1.length f7]::box o 27 l::box n 27 k::box m 30 g::L) w) ?_ ?_))))
   ·rintro f t2 ⟨f3,h4,d1,f4,f5,f6,f7,e4,hm,o0,o1⟩
    unfold qB at hm
    exact aG (cK (gN f2 (aL (uW rfl rfl) (bH (v:=i64 (wr (a1+1))) (bF ⟨_,(zI hm).symm,aR,f4,f5,f6,f7,e4,rfl,o0,(aD.arr 4 [2,3,0,1] o1 rfl)⟩)))))
   refine bS (aU (v:=zP (some ⟨b1,0,none⟩)) (aL (qD rfl) (aL (cE (t':=0) aPJ rfl rfl) (aL (hY sc_65 e3 (i:=4) rfl rfl rfl) (gN f2 ?_)))));obtain ⟨b,h5,hm⟩:=aB hm
   have o2:=bC e3 (i:=0) rfl h5
   refine aL (bV sl_65 rfl o2 rfl rfl rfl h5) (aL (aPr (t:=0) (vs:=[i64 b.1,i64 b.2.1,i64 b.2.2]) ag_71 e3 (i:=0) rfl h5 rfl rfl rfl rfl) (fG (vs:=[i64 0,i64 0,i64 0]) zeroValue71 e3 rfl (fun J t3 o3=>(iS (i:=0) (ns:=[i64 b.1,i64 b.2.1,i64 b.2.2]) (us:=[i64 b.1,i64 b.2.1,i64 b.2.2]) sizeOf71 o3 rfl rfl rfl rfl rfl (lS rfl) rfl rfl (fun o4 (h6:aD G K (box J 71 [i64 b.1,i64 b.2.1,i64 b.2.2]::aF 71 K d9 e0 c9::cZ d h3::aF 70 K e1 e2 (aY d0 b7)::rows [3] d0 b7::box b1 68 [zS d9 c9.length e0,zM (some d),zS e1 b7.length e2]::box o 27 l::box n 27 k::box m 30 g::L) o4)=>(bF (bS (aL (cE (t':=0) aCA rfl rfl) (aL (kH (us:=(zC p.S a9 c10 a12 c13)) sM h6 (i:=8) rfl rfl rfl rfl) (aL (aKV (t':=0) (j:=0) aOG rfl rfl (by decide) (by decide) rfl) (aL (hY oG h6 (i:=0) rfl rfl rfl) ?_)))))))))))
   obtain ⟨V,o5,hm⟩:=aB hm
   refine cI (vs:=[zA (zCa p.S a9 c10 a12 c13),i64 b.1]) call75 rfl (jH o5 h6 f0 j6) ?_
   rintro _ t4 ⟨Z,a0,rfl,t5⟩
   refine aL (mV (len:=V.length) eU rfl) (aU (v:=i64 0) (bF (aK [0,5,6,7,9] (fun f w=>∃ (h7:List (Int × Int × Int)) (k8:(List ((Int × Int × Int) × Int))) (e5:List (List Int)) (k9:Option Addr) (l0:Nat) (l1:Option Addr) (l2:Nat) (h8:List (Dp.Hd (List Int))),wG a1 h7 k8 e5=some k6/\List.length h8=List.length e5/\aD G K (aF 70 K l1 l2 (aY h8 e5)::rows [3] h8 e5::aF 71 K k9 l0 h7::cZ d k8::box b1 68 [zS k9 h7.length l0,zM (some d),zS l1 e5.length l2]::box o 27 l::box n 27 k::box m 30 g::L) w) aJ ?_)))
   obtain ⟨t6,o6,ho⟩:=aB hm
   refine uX [0,5,6,7,9,10,48,49] o6 (fun c0 f8 a4 e6 f w=>∃ c1 c2 c4 c5 b8,f 50=i64 e6/\List.length b8=List.length a4/\aD G K (aF 90 K Z a0 V::box J 71 [i64 b.1,i64 b.2.1,i64 b.2.2]::aF 71 K c1 c2 c0::cZ d f8::aF 70 K c4 c5 (aY b8 a4)::rows [3] b8 a4::box b1 68 [zS c1 c0.length c2,zM (some d),zS c4 a4.length c5]::box o 27 l::box n 27 k::box m 30 g::L) w) aJ ?_
   ·rintro c0 f8 a4 e6 l3 f t7 hm hr ⟨c1,c2,c4,c5,b8,h9,o7,i0⟩
    unfold gI at hm
    refine bS (aL (wZ h9 rfl) (bF (bI ?_)))
    rcases aI hm with ⟨l4,hm⟩|⟨l4,hm⟩
    ·refine cP l4 rfl (dD (aG (bI (aK [0,5,6,7,9,10,48,49,50] (fun f w=>∃ (f9:List (Int × Int × Int)) (i1:(List ((Int × Int × Int) × Int))) (d2:List (List Int)) (g0:Option Addr) (g1:Nat) (g2:Option Addr) (g3:Nat) (e7:List (Dp.Hd (List Int))),lP e6 f9 i1 d2=some l3/\List.length e7=List.length d2/\aD G K (aF 90 K Z a0 V::box J 71 [i64 b.1,i64 b.2.1,i64 b.2.2]::aF 71 K g0 g1 f9::cZ d i1::aF 70 K g2 g3 (aY e7 d2)::rows [3] e7 d2::box b1 68 [zS g0 f9.length g1,zM (some d),zS g2 d2.length g3]::box o 27 l::box n 27 k::box m 30 g::L) w) ?_ ?_))))
     ·rintro f t8 ⟨f9,i1,d2,g0,g1,g2,g3,e7,hm,o8,o9⟩
      unfold lP at hm
      exact aG (cK (aL (uW h9 rfl) (aU (v:=i64 (wr (e6+1))) (bF ⟨_,(zI hm).symm,aR,g0,g1,g2,g3,e7,rfl,o8,o9⟩))))
     refine bS ?_;obtain ⟨c,i2,hm⟩:=aB hm
     have p0:=bC i0 (i:=0) rfl i2
     refine aL (bV eU rfl p0 rfl rfl h9 i2) (aL (aPr (t:=0) (vs:=[i64 c.F,i64 c.B,i64 c.To]) ag_90 i0 (i:=0) rfl i2 rfl rfl rfl rfl) (fG (vs:=[i64 0,i64 0,i64 0]) zeroValue90 i0 rfl (fun a3 t9 p1=>(iS (i:=0) (ns:=[i64 c.F,i64 c.B,i64 c.To]) (us:=[i64 c.F,i64 c.B,i64 c.To]) sizeOf90 p1 rfl rfl rfl rfl rfl (lS rfl) rfl rfl (fun p2 (d3:aD G K (box a3 90 [i64 c.F,i64 c.B,i64 c.To]::aF 90 K Z a0 V::box J 71 [i64 b.1,i64 b.2.1,i64 b.2.2]::aF 71 K c1 c2 c0::cZ d f8::aF 70 K c4 c5 (aY b8 a4)::rows [3] b8 a4::box b1 68 [zS c1 c0.length c2,zM (some d),zS c4 a4.length c5]::box o 27 l::box n 27 k::box m 30 g::L) p2)=>(bF (bS (aL (cE (t':=0) aCA rfl rfl) (aL (cE (t':=2) aGG rfl rfl) (aL (hY aHg d3 (i:=10) rfl rfl rfl) (aL (cE (t':=1) aGE rfl rfl) (aL (hY oG d3 (i:=0) rfl rfl rfl) ?_))))))))))))
     obtain ⟨c7,l5,hm⟩:=aB hm
     refine aL (aHe qX rfl f0 rfl rfl rfl l5) ?_;obtain ⟨u0,p3,p4⟩:=aN.el (sz:=1) rfl f0 l5
     cases p4
     refine aL (dQ (t:=0) sc_9 d3 p3 rfl rfl) (bH (v:=str c7) (bF (bS (aL (kH (us:=k) sM d3 (i:=9) rfl rfl rfl rfl) (aL (aKV (t':=1) (j:=1) aOG rfl rfl (by decide) (by decide) rfl) (aL (hY oG d3 (i:=2) rfl rfl rfl) (aU (v:=str c7) ?_)))))));obtain ⟨a7,p5,hm⟩:=aB hm
     refine cI (vs:=[zA (zCa q a21 c22 a24 c25),i64 b.2.1,str c7]) call76 rfl (mE p5 d3 n0 n1) ?_
     rintro _ u1 ⟨rfl,e8⟩
     refine aU (v:=Value.tuple #[i64 a7.1,zB a7.2]) (aL (cN rfl rfl) (aL (cN rfl rfl) (bH (v:=i64 a7.1) (bH (v:=zB a7.2) (bF (bI (bS (aU (v:=zB a7.2) (aL (aHw rfl) (bF ?_))))))))))
     rcases aI hm with ⟨i3,hm⟩|⟨i3,hm⟩
     ·refine cP i3 rfl (bI (bS (aL (kH (us:=g) aCP e8 (i:=10) rfl rfl rfl rfl) (aU (v:=str c7) ?_))));obtain ⟨u2,p6,hm⟩:=aB hm
      exact cI (vs:=[zA (zEa p a9 c10 a12 c13 a15 c16 a18 c19),str c7]) call57 rfl (aBc p6 e8 hG f0 j6 m8 m9) aJ
     ·refine bM i3 rfl (dD (aG (bS (aL (kH (us:=l) sM e8 (i:=8) rfl rfl rfl rfl) (aL (aKV (t':=2) (j:=2) aOG rfl rfl (by decide) (by decide) rfl) (aL (hY oG e8 (i:=2) rfl rfl rfl) (aU (v:=str c7) ?_)))))));obtain ⟨a8,p7,hm⟩:=aB hm
      refine cI (vs:=[zA (zCa r_ a27 c28 a30 c31),i64 b.2.2,str c7]) call76 rfl (mE p7 e8 n2 n3) ?_
      rintro _ p8 ⟨rfl,l6⟩
      refine aU (v:=Value.tuple #[i64 a8.1,zB a8.2]) (aL (cN rfl rfl) (aL (cN rfl rfl) (bH (v:=i64 a8.1) (bH (v:=zB a8.2) (bF (bI (bS (aU (v:=zB a8.2) (aL (aHw rfl) (bF ?_))))))))))
      rcases aI hm with ⟨l7,hm⟩|⟨l7,hm⟩
      ·exact aJ
      ·refine bM l7 rfl (dD (aG (bS (aU (v:=zP (some ⟨b1,0,none⟩)) (aL (cE (t':=2) aGF rfl rfl) (aL (hY oG l6 (i:=0) rfl rfl rfl) (aU (v:=i64 a7.1) (aU (v:=i64 a8.1) (aL (uZ (vs:=[(0,i64 c.To),(1,i64 a7.1),(2,i64 a8.1)]) (cs:=[i64 c.To,i64 a7.1,i64 a8.1]) aOG bz_71 rfl (by kernel_rfl)) ?_)))))))))
       have p9:aD G K (aF 71 K c1 c2 c0::cZ d f8::aF 70 K c4 c5 (aY b8 a4)::rows [3] b8 a4::box b1 68 [zS c1 c0.length c2,zM (some d),zS c4 a4.length c5]::box a3 90 [i64 c.F,i64 c.B,i64 c.To]::aF 90 K Z a0 V::box J 71 [i64 b.1,i64 b.2.1,i64 b.2.2]::box o 27 l::box n 27 k::box m 30 g::L) p8:=(aD.arr 8 [3,4,5,6,7,0,1,2] l6 rfl)
       obtain ⟨a,q0,hm⟩:=aB hm
       refine cI (vs:=[zP (some ⟨b1,0,none⟩),zA #[i64 c.To,i64 a7.1,i64 a8.1]]) call74 rfl (uR (t:=⟨c.To,a7.1,a8.1⟩) q0 p9 o7) ?_
       rintro _ u3 ⟨r,u,x,y,e,rfl,b9,q1⟩
       refine bH (v:=i64 a.1) (bF (aW [0,5,6,7,9,10,48,49,50] (fun f w=>∃ e9 i4,wH e6 a e9=some l3/\List.length i4=List.length e9/\aD G K (aF 71 K r u a.2.1::cZ d a.2.2.1::aF 70 K x y (aY i4 e9)::rows [3] i4 e9::box b1 68 [zS r a.2.1.length u,zM (some d),zS x e9.length y]::aF 90 K Z a0 V::box J 71 [i64 b.1,i64 b.2.1,i64 b.2.2]::box o 27 l::box n 27 k::box m 30 g::L) w) aJ ?_));obtain ⟨b0,g4,l8,q2,l9⟩:=aD.lendBp q1 zt4
       refine aDR (C:=fun w'=>∃ L',aD G b0 L' w') [16] Tryz_mixed (by kernel_rfl) (fun u4 q3=>?_)
       have z:=aD.mono q2 q3
       refine wE (i:=0) rfl (by kernel_rfl) ⟨_,z⟩ (fun _ _=>cC (v:=zP (some ⟨b1,0,none⟩)) rfl) (wE (i:=1) rfl (by kernel_rfl) ⟨_,z⟩ (fun _ _=>qD rfl) (wE (i:=2) rfl (by kernel_rfl) ⟨_,z⟩ (fun _ _=>cE (t':=2) aPK rfl rfl) (wE (i:=3) rfl (by kernel_rfl) ⟨_,z⟩ (fun _ ⟨_,z⟩=>dQ (t:=2) sc_66 z l8 rfl rfl) (wE (i:=4) rfl (by kernel_rfl) ⟨_,z⟩ (fun _ _=>cC (v:=i64 a.1) rfl) (wE (i:=5) rfl (by kernel_rfl) ⟨_,z⟩ (fun _ _=>cC (v:=zP (some ⟨b1,0,none⟩)) rfl) (wE (i:=6) rfl (by kernel_rfl) ⟨_,z⟩ (fun _ _=>qD rfl) (wE (i:=7) rfl (by kernel_rfl) ⟨_,z⟩ (fun _ _=>cE (t':=2) aPK rfl rfl) (wE (i:=8) rfl (by kernel_rfl) ⟨_,z⟩ (fun _ ⟨_,z⟩=>dQ (t:=2) sc_66 z l8 rfl rfl) (wE (i:=9) rfl (by kernel_rfl) ⟨_,z⟩ (fun _ _=>cC (v:=i64 a.1) rfl) ?_)))))))))
       obtain ⟨g5,a6,hm⟩:=aB hm
       obtain ⟨⟨g6,g7⟩,c8⟩:=aMm b9 a6
       have i5:=bC z (i:=2) rfl (uY b9 a6 c8)
       refine wE (i:=10) rfl (by kernel_rfl) ⟨_,z⟩ (fun _ _=>bV aMw rfl i5 rfl rfl rfl a6) (wE (i:=12) rfl (by kernel_rfl) ⟨_,z⟩ (fun _ _=>cC f2) (aBn (i:=11) (j:=13) (by kernel_rfl) rfl rfl ?_ ?_))
       ·refine aL (aCN (t:=0) sc_70 z (i:=2) rfl (uY b9 a6 c8) rfl rfl rfl) (aM (aG ⟨fun _=>⟨_,z⟩,?_⟩))
        refine cA (i:=13) (by kernel_rfl) rfl (iG (Kt:=K) (xs:=([a1]:List Int)) (cs:=[i64 a1]) (vs:=[(0,i64 a1)]) aHG ez_3 rfl rfl z rfl (by kernel_rfl) rfl rfl rfl ⟨rfl,trivial⟩ (fun i6 i7 (m0:aD G b0 (aF 3 K i6 1 ([a1]:List Int)::aF 71 K r u a.2.1::cZ d a.2.2.1::aF 70 K x y (aY e a.2.2.2)::rows [3] e a.2.2.2::box a3 90 [i64 c.F,i64 c.B,i64 c.To]::aF 90 K Z a0 V::box J 71 [i64 b.1,i64 b.2.1,i64 b.2.2]::box o 27 l::box n 27 k::box m 30 g::L) i7)=>(aM (aG ⟨fun _=>⟨_,m0⟩,?_⟩))))
        refine cA (i:=14) (by kernel_rfl) rfl ?_
        have q4:aD G b0 (aF 70 K x y (aY e a.2.2.2)::rows [3] ((e).eraseIdx a.1.toNat) ((a.2.2.2).eraseIdx a.1.toNat)::aF 3 K g6 g7 g5::aF 3 K i6 1 ([a1]:List Int)::aF 71 K r u a.2.1::cZ d a.2.2.1::box a3 90 [i64 c.F,i64 c.B,i64 c.To]::aF 90 K Z a0 V::box J 71 [i64 b.1,i64 b.2.1,i64 b.2.2]::box o 27 l::box n 27 k::box m 30 g::L) i7:=aD.focusR (i:=3) m0 rfl rfl c8 a6
        obtain ⟨i8,q5,hm⟩:=aB hm
        have q6:aD G b0 (aF 3 K i6 1 ([a1]:List Int)::aF 70 K x y (aY e a.2.2.2)::rows [3] ((e).eraseIdx a.1.toNat) ((a.2.2.2).eraseIdx a.1.toNat)::aF 3 K g6 g7 g5::aF 71 K r u a.2.1::cZ d a.2.2.1::box a3 90 [i64 c.F,i64 c.B,i64 c.To]::aF 90 K Z a0 V::box J 71 [i64 b.1,i64 b.2.1,i64 b.2.2]::box o 27 l::box n 27 k::box m 30 g::L) i7:=(aD.arr 4 [3,0,1,2] q4 rfl)
        refine aBl (i:=2) aHG underlying70 ez_3 rfl rfl q6 rfl g4 g4 q5 rfl rfl rfl rfl (fun _ h=>h) (fun b2 b3 m1 (i9:aD G b0 (aF 70 K x y (aY e a.2.2.2)::rows [3] ((e).eraseIdx a.1.toNat) ((a.2.2.2).eraseIdx a.1.toNat)::aF 3 K b2 b3 i8::aF 71 K r u a.2.1::cZ d a.2.2.1::box a3 90 [i64 c.F,i64 c.B,i64 c.To]::aF 90 K Z a0 V::box J 71 [i64 b.1,i64 b.2.1,i64 b.2.2]::box o 27 l::box n 27 k::box m 30 g::L) m1)=>(aM (aG ⟨fun _=>⟨_,i9⟩,?_⟩)))
        refine wE (i:=15) rfl (by kernel_rfl) ⟨_,i9⟩ (fun _ _=>bV aMw rfl i5 rfl rfl rfl a6) (cA (i:=16) (by kernel_rfl) rfl ?_)
        have q7:=l9 _ _ i9
        have q8:aD G K (aF 3 K b2 b3 i8::box b1 68 [zS r a.2.1.length u,zM (some d),zS x a.2.2.2.length y]::aF 70 K x y (aY e a.2.2.2)::rows [3] ((e).eraseIdx a.1.toNat) ((a.2.2.2).eraseIdx a.1.toNat)::aF 71 K r u a.2.1::cZ d a.2.2.1::box a3 90 [i64 c.F,i64 c.B,i64 c.To]::aF 90 K Z a0 V::box J 71 [i64 b.1,i64 b.2.1,i64 b.2.2]::box o 27 l::box n 27 k::box m 30 g::L) m1:=(aD.arr 4 [3,0,1,2] q7 rfl)
        obtain ⟨d4,j0,hm⟩:=aB hm
        refine WO_stH (i:=1) (tys:=[3]) (hd':=(b2,b3)) (e':=i8) (hds:=e) sizeOf70 q8 b9 rfl rfl rfl rfl rfl a6 c8 j0 rfl ?_
        intro m2 (q9:aD G K (aF 70 K x y (aY (List.set e a.1.toNat (b2,b3)) d4)::rows [3] (List.set e a.1.toNat (b2,b3)) d4::box b1 68 [zS r a.2.1.length u,zM (some d),zS x a.2.2.2.length y]::aF 71 K r u a.2.1::cZ d a.2.2.1::box a3 90 [i64 c.F,i64 c.B,i64 c.To]::aF 90 K Z a0 V::box J 71 [i64 b.1,i64 b.2.1,i64 b.2.2]::box o 27 l::box n 27 k::box m 30 g::L) m2)
        have r0:aD G K (aF 70 K x y (aY (List.set e a.1.toNat (b2,b3)) d4)::rows [3] (List.set e a.1.toNat (b2,b3)) d4::box b1 68 [zS r a.2.1.length u,zM (some d),zS x d4.length y]::aF 71 K r u a.2.1::cZ d a.2.2.1::box a3 90 [i64 c.F,i64 c.B,i64 c.To]::aF 90 K Z a0 V::box J 71 [i64 b.1,i64 b.2.1,i64 b.2.2]::box o 27 l::box n 27 k::box m 30 g::L) m2:=by rw [←(lD j0)];exact q9
        refine aM (aG ⟨no_c rfl,?_⟩)
        exact pZ (by kernel_rfl) (aG ⟨aR,d4,(List.set e a.1.toNat (b2,b3)),hm,(set_len (hd:=((b2,b3):Dp.Hd (List Int))) b9 j0),(aD.arr 6 [3,4,0,1,2] r0 rfl)⟩)
       ·refine iG (Kt:=K) (xs:=([a1]:List Int)) (cs:=[i64 a1]) (vs:=[(0,i64 a1)]) aHG ez_3 rfl rfl z rfl (by kernel_rfl) rfl rfl rfl ⟨rfl,trivial⟩ (fun j1 j2 (g8:aD G b0 (aF 3 K j1 1 ([a1]:List Int)::aF 71 K r u a.2.1::cZ d a.2.2.1::aF 70 K x y (aY e a.2.2.2)::rows [3] e a.2.2.2::box a3 90 [i64 c.F,i64 c.B,i64 c.To]::aF 90 K Z a0 V::box J 71 [i64 b.1,i64 b.2.1,i64 b.2.2]::box o 27 l::box n 27 k::box m 30 g::L) j2)=>(aM (aG ⟨fun _=>⟨_,g8⟩,?_⟩)))
        refine cA (i:=11) (by kernel_rfl) rfl (aL (aCN (t:=0) sc_70 g8 (i:=3) rfl (uY b9 a6 c8) rfl rfl rfl) (aM (aG ⟨fun _=>⟨_,g8⟩,?_⟩)))
        refine cA (i:=14) (by kernel_rfl) rfl ?_
        have r1:aD G b0 (aF 70 K x y (aY e a.2.2.2)::rows [3] ((e).eraseIdx a.1.toNat) ((a.2.2.2).eraseIdx a.1.toNat)::aF 3 K g6 g7 g5::aF 3 K j1 1 ([a1]:List Int)::aF 71 K r u a.2.1::cZ d a.2.2.1::box a3 90 [i64 c.F,i64 c.B,i64 c.To]::aF 90 K Z a0 V::box J 71 [i64 b.1,i64 b.2.1,i64 b.2.2]::box o 27 l::box n 27 k::box m 30 g::L) j2:=aD.focusR (i:=3) g8 rfl rfl c8 a6
        obtain ⟨j3,r2,hm⟩:=aB hm
        have r3:aD G b0 (aF 3 K j1 1 ([a1]:List Int)::aF 70 K x y (aY e a.2.2.2)::rows [3] ((e).eraseIdx a.1.toNat) ((a.2.2.2).eraseIdx a.1.toNat)::aF 3 K g6 g7 g5::aF 71 K r u a.2.1::cZ d a.2.2.1::box a3 90 [i64 c.F,i64 c.B,i64 c.To]::aF 90 K Z a0 V::box J 71 [i64 b.1,i64 b.2.1,i64 b.2.2]::box o 27 l::box n 27 k::box m 30 g::L) j2:=(aD.arr 4 [3,0,1,2] r1 rfl)
        refine aBl (i:=2) aHG underlying70 ez_3 rfl rfl r3 rfl g4 g4 r2 rfl rfl rfl rfl (fun _ h=>h) (fun b4 b5 m3 (j4:aD G b0 (aF 70 K x y (aY e a.2.2.2)::rows [3] ((e).eraseIdx a.1.toNat) ((a.2.2.2).eraseIdx a.1.toNat)::aF 3 K b4 b5 j3::aF 71 K r u a.2.1::cZ d a.2.2.1::box a3 90 [i64 c.F,i64 c.B,i64 c.To]::aF 90 K Z a0 V::box J 71 [i64 b.1,i64 b.2.1,i64 b.2.2]::box o 27 l::box n 27 k::box m 30 g::L) m3)=>(aM (aG ⟨fun _=>⟨_,j4⟩,?_⟩)))
        refine wE (i:=15) rfl (by kernel_rfl) ⟨_,j4⟩ (fun _ _=>bV aMw rfl i5 rfl rfl rfl a6) (cA (i:=16) (by kernel_rfl) rfl ?_)
        have r5:=l9 _ _ j4
        have r6:aD G K (aF 3 K b4 b5 j3::box b1 68 [zS r a.2.1.length u,zM (some d),zS x a.2.2.2.length y]::aF 70 K x y (aY e a.2.2.2)::rows [3] ((e).eraseIdx a.1.toNat) ((a.2.2.2).eraseIdx a.1.toNat)::aF 71 K r u a.2.1::cZ d a.2.2.1::box a3 90 [i64 c.F,i64 c.B,i64 c.To]::aF 90 K Z a0 V::box J 71 [i64 b.1,i64 b.2.1,i64 b.2.2]::box o 27 l::box n 27 k::box m 30 g::L) m3:=(aD.arr 4 [3,0,1,2] r5 rfl)
        obtain ⟨d5,j5,hm⟩:=aB hm
        refine WO_stH (i:=1) (tys:=[3]) (hd':=(b4,b5)) (e':=j3) (hds:=e) sizeOf70 r6 b9 rfl rfl rfl rfl rfl a6 c8 j5 rfl ?_
        intro m4 (r7:aD G K (aF 70 K x y (aY (List.set e a.1.toNat (b4,b5)) d5)::rows [3] (List.set e a.1.toNat (b4,b5)) d5::box b1 68 [zS r a.2.1.length u,zM (some d),zS x a.2.2.2.length y]::aF 71 K r u a.2.1::cZ d a.2.2.1::box a3 90 [i64 c.F,i64 c.B,i64 c.To]::aF 90 K Z a0 V::box J 71 [i64 b.1,i64 b.2.1,i64 b.2.2]::box o 27 l::box n 27 k::box m 30 g::L) m4)
        have r8:aD G K (aF 70 K x y (aY (List.set e a.1.toNat (b4,b5)) d5)::rows [3] (List.set e a.1.toNat (b4,b5)) d5::box b1 68 [zS r a.2.1.length u,zM (some d),zS x d5.length y]::aF 71 K r u a.2.1::cZ d a.2.2.1::box a3 90 [i64 c.F,i64 c.B,i64 c.To]::aF 90 K Z a0 V::box J 71 [i64 b.1,i64 b.2.1,i64 b.2.2]::box o 27 l::box n 27 k::box m 30 g::L) m4:=by rw [←(lD j5)];exact r7
        refine aM (aG ⟨no_c rfl,?_⟩)
        exact pZ (by kernel_rfl) (aG ⟨aR,d5,(List.set e a.1.toNat (b4,b5)),hm,(set_len (hd:=((b4,b5):Dp.Hd (List Int))) b9 j5),(aD.arr 6 [3,4,0,1,2] r8 rfl)⟩)
    ·exact aJ
  ·exact aJ
theorem aCb {a:(List Bool)} {b:Bool} {R:Int} (hm:kB a b=some R) (e:aD G K (L) w) (g:aN K a1 c2 a):
  Calls prog 78 ([zS a1 a.length c2,zB b]:List Value).toArray w (dS fun v w'=>v=i64 R/\aD G K (L) w'):=by
 refine cH func78 ?_;unfold kB at hm
 refine aC ?_;refine aK [] (fun f w=>tQ=some R/\aD G K (L) w) aJ ?_
 obtain ⟨h,c,ho⟩:=aB hm
 exact bY [0,1,7] c (fun d f w=>f 8=i64 d/\aD G K (L) w) aJ aJ
theorem aAq {a:(List Bool)} {b R:Bool} (hm:iM a b=some R) (c:aD G K (L) w) (d:aN K a1 c2 a):
  Calls prog 28 ([zS a1 a.length c2,zB b]:List Value).toArray w (dS fun v w'=>v=zB R/\aD G K (L) w'):=by
 exact aJ
theorem yX {p:aO} {r_ r:aP} {R:Bool} (hm:tR p r_ r=some R) (hs:aD G K (L) w) (hG:G.lo=0) (h3:aN K a1 c2 p.S.L) (h6:aN K a4 c5 p.S.E) (h9:aN K a7 c8 p.M) (f6:aN K a10 c11 p.C) (h8:aN K a13 c14 r_.L) (i0:aN K a16 c17 r_.E) (i1:aN K a19 c20 r.L) (i2:aN K a22 c23 r.E):
  Calls prog 7 ([zA (zEa p a1 c2 a4 c5 a7 c8 a10 c11),zA (zCa r_ a13 c14 a16 c17),zA (zCa r a19 c20 a22 c23)]:List Value).toArray w (dS fun v w'=>v=zB R/\aD G K (L) w'):=by
 let y:=(zE p a1 c2 a4 c5 a7 c8 a10 c11)
 let V:=(zC r a19 c20 a22 c23)
 let Z:=(zC r_ a13 c14 a16 c17)
 let f7:=aF 70 K none 0 (aY ([]:List (Dp.Hd (List Int))) ([]:List (List Int)))
 refine cH func7 ?_;unfold tR at hm
 refine aC ?_;refine oZ fun z o8 o9=>?_
 refine oZ fun a0 p0 p1=>?_;refine oZ fun a2 p2 i3=>?_
 refine aC ?_;refine aHB (Int × Int × Int) Int i3 ?_
 intro b i4 (p3:aD G K (cZ b ([]:(List ((Int × Int × Int) × Int)))::box a2 27 V::box a0 27 Z::box z 30 y::L) i4)
 refine aL (jZ (vs:=[(1,zM (some b))]) (cs:=[zS none 0 0,zM (some b),zS none 0 0]) bs_68 rfl (by kernel_rfl)) (oZ fun u p4 i5=>?_)
 iterate 5 refine cO ?_
 refine aW [3,7] (fun f w=>∃ (c:List (Int × Int × Int)) (x:(List ((Int × Int × Int) × Int))) (a:List (List Int)) (d6:Bool) (g:Option Addr) (k:Nat) (l:Option Addr) (m:Nat) (d:List (Dp.Hd (List Int))),mB p c x a d6=some R/\f 31=zB d6/\List.length d=List.length a/\aD G K (aF 70 K l m (aY d a)::rows [3] d a::aF 71 K g k c::box u 68 [zS g c.length k,zM (some b),zS l a.length m]::cZ b x::box z 30 y::L) w) ?_ ?_
 ·rintro f p5 ⟨c,x,a,d6,g,k,l,m,d,hm,p6,d7,i6⟩
  unfold mB at hm
  refine aC ?_
  rcases aI hm with ⟨i7,hm⟩|⟨i7,hm⟩
  ·exact aJ
  ·refine aC ?_;obtain ⟨o,i8,hm⟩:=aB hm
   refine aKR (e:=(false:Bool)) nG ez_4 rfl rfl i6 rfl rfl rfl i8 rfl (fun q i9 (j0:aD G K (aF 4 K q o.length o::aF 70 K l m (aY d a)::rows [3] d a::aF 71 K g k c::box u 68 [zS g c.length k,zM (some b),zS l a.length m]::cZ b x::box z 30 y::L) i9)=>(aC ?_));refine aK [7] (fun f w=>∃ a3 a5 d8 d9,wO a a3 a5=some R/\f 8=zS q a3.length o.length/\f 9=zS d8 a5.length d9/\aD G K (aF 3 K d8 d9 a5::aF 4 K q o.length a3::aF 70 K l m (aY d a)::rows [3] d a::aF 71 K g k c::box u 68 [zS g c.length k,zM (some b),zS l a.length m]::cZ b x::L) w) ?_ ?_
   ·rintro f p7 ⟨a3,a5,d8,d9,hm,p8,p9,q0⟩
    unfold wO at hm
    refine aC ?_;refine aK [] (fun f w=>∃ e0,aBS e0=some R/\f 8=zS q e0.length o.length/\aD G K (aF 4 K q o.length e0::L) w) aJ ?_
    obtain ⟨q1,j1,ho⟩:=aB hm
    refine bQ [7] j1 (fun a6 e1 f w=>∃ a8 a9,f 8=zS q a6.length o.length/\f 9=zS a8 e1.length a9/\aD G K (aF 3 K a8 a9 e1::aF 4 K q o.length a6::aF 70 K l m (aY d a)::rows [3] d a::aF 71 K g k c::box u 68 [zS g c.length k,zM (some b),zS l a.length m]::cZ b x::L) w) aJ ?_
    ·rintro a6 e1 f8 f j2 hm hr ⟨a8,a9,q2,q3,e2⟩
     unfold rI at hm
     refine aC ?_
     rcases aI hm with ⟨j3,hm⟩|⟨j3,hm⟩
     ·refine aC ?_;refine aK [7] (fun f w=>∃ b0 b1 b2 b3,wN b0 b1=some f8/\f 8=zS q b0.length o.length/\f 9=zS b2 b1.length b3/\aD G K (aF 3 K b2 b3 b1::aF 4 K q o.length b0::aF 70 K l m (aY d a)::rows [3] d a::aF 71 K g k c::box u 68 [zS g c.length k,zM (some b),zS l a.length m]::cZ b x::L) w) ?_ ?_
      ·rintro f q4 ⟨b0,b1,b2,b3,hm,j4,j5,j6⟩
       unfold wN at hm
       refine aC ?_;exact ⟨_,(zI hm).symm,aR,b2,b3,j4,j5,j6⟩
      refine aC ?_;obtain ⟨q5,f9,hm⟩:=aB hm
      have j7:=bC e2 (i:=0) rfl f9
      refine aL (bV aHG rfl j7 rfl rfl rfl f9) (aC ?_);obtain ⟨j8,g0,hm⟩:=aB hm
      have j9:=iW e2 (i:=0) rfl
      obtain ⟨k0,k1,g1⟩:=Cut.ex 1 a8 a9 1
      refine aL (aAD aHG j9 g1 rfl rfl rfl g0) ?_
      have g2:aD G K (aF 3 K k0 k1 j8::aF 4 K q o.length a6::aF 70 K l m (aY d a)::rows [3] d a::aF 71 K g k c::box u 68 [zS g c.length k,zM (some b),zS l a.length m]::cZ b x::L) j2:=aD.cutP e2 (i:=0) rfl g0 g1
      refine aC ?_;obtain ⟨k2,J,hm⟩:=aB hm
      obtain ⟨⟨q6,q7⟩,b4⟩:=aMm d7 J
      have k3:=bC g2 (i:=2) rfl (uY d7 J b4)
      refine aL (bV aMw rfl k3 rfl rfl rfl J) (aL (aCN (t:=0) sc_70 g2 (i:=2) rfl (uY d7 J b4) rfl rfl rfl) (aL (mV (len:=k2.length) aHG rfl) (aU (v:=i64 0) (bF (aK [7] (fun f w=>∃ e3 e4 g3 g4,aBT e3 e4=some f8/\f 8=zS q e3.length o.length/\f 9=zS g3 e4.length g4/\aD G K (aF 3 K g3 g4 e4::aF 4 K q o.length e3::aF 70 K l m (aY d a)::rows [3] d a::aF 71 K g k c::box u 68 [zS g c.length k,zM (some b),zS l a.length m]::cZ b x::L) w) aJ ?_)))))
      obtain ⟨q8,k4,ho⟩:=aB hm
      refine mW [7,74,75] k4 (fun e5 b5 e6 f w=>∃ b6 b7,f 8=zS q e5.length o.length/\f 9=zS b6 b5.length b7/\f 76=i64 e6/\aD G K (aF 3 K b6 b7 b5::aF 4 K q o.length e5::aF 70 K l m (aY d a)::rows [3] d a::aF 71 K g k c::box u 68 [zS g c.length k,zM (some b),zS l a.length m]::cZ b x::L) w) aJ ?_
      ·rintro e5 b5 e6 k5 f q9 hm hr ⟨b6,b7,g5,r0,k6,b8⟩
       unfold nP at hm
       refine aC ?_
       rcases aI hm with ⟨k7,hm⟩|⟨k7,hm⟩
       ·refine aC ?_;refine aK [7,74,75,76] (fun f w=>∃ b9 c0 c1 c3,rH e6 b9 c0=some k5/\f 8=zS q b9.length o.length/\f 9=zS c1 c0.length c3/\aD G K (aF 3 K c1 c3 c0::aF 4 K q o.length b9::aF 70 K l m (aY d a)::rows [3] d a::aF 71 K g k c::box u 68 [zS g c.length k,zM (some b),zS l a.length m]::cZ b x::L) w) ?_ ?_
        ·rintro f r1 ⟨b9,c0,c1,c3,hm,k8,k9,l0⟩
         unfold rH at hm
         refine aC ?_;exact ⟨_,(zI hm).symm,aR,c1,c3,k8,k9,rfl,l0⟩
        refine aC ?_;obtain ⟨e7,e8,hm⟩:=aB hm
        have l1:=bC (aD.rowOut (i:=3) b8 rfl b4 (aJB J)) (i:=0) rfl e8
        refine aL (bV aHG rfl l1 rfl rfl k6 e8) (aL (aCN (t:=0) sc_3 (aD.rowOut (i:=3) b8 rfl b4 (aJB J)) (i:=0) rfl e8 rfl rfl rfl) (bH (v:=i64 e7) (bF (bS (gN g5 (aU (v:=i64 e7) ?_))))));obtain ⟨r2,c4,hm⟩:=aB hm
        have g6:=bC b8 (i:=1) rfl c4
        refine aL (bV nG rfl g6 rfl rfl rfl c4) (aC ?_)
        rcases aI hm with ⟨l2,hm⟩|⟨l2,hm⟩
        ·iterate 5 refine cO ?_
         refine aL (bV nG rfl g6 rfl rfl rfl c4) ?_;obtain ⟨g7,g8,hm⟩:=aB hm
         refine nU (i:=1) (t:=0) (ns:=[zB true]) (e':=(true:Bool)) sizeOf4 b8 rfl (zR _) rfl rfl rfl c4 g8 rfl rfl (lS rfl) rfl (fun cs h=>by cases h;rfl) (fun l3 (r3:aD G K (aF 3 K b6 b7 b5::aF 4 K q o.length g7::aF 70 K l m (aY d a)::rows [3] d a::aF 71 K g k c::box u 68 [zS g c.length k,zM (some b),zS l a.length m]::cZ b x::L) l3)=>(aC ?_));refine nW ([e7]:List Int) fun r4 r5 r6=>?_
         obtain ⟨l4,r7,hm⟩:=aB hm
         refine aIw fun l5 l6 r8 l7=>?_;refine aC ?_
         exact ⟨aR,g7,l4,l5,l6,hm,(Eq.trans g5 (congrArg (fun n=>zS q n o.length) (lD g8))),rfl,l7⟩
        ·exact aJ
       ·exact aJ
     ·exact aJ
   have r9:=aD.nil (α:=Int) j0 3 K
   obtain ⟨s0,l8,ho⟩:=aB hm
   refine mW [3,7,41,42] l8 (fun e9 c6 c7 f w=>∃ c9 d0,f 8=zS q e9.length o.length/\f 9=zS c9 c6.length d0/\f 43=i64 c7/\aD G K (aF 3 K c9 d0 c6::aF 4 K q o.length e9::aF 70 K l m (aY d a)::rows [3] d a::aF 71 K g k c::box u 68 [zS g c.length k,zM (some b),zS l a.length m]::cZ b x::box z 30 y::L) w) aJ ?_
   ·rintro e9 c6 c7 l9 f s1 hm hr ⟨c9,d0,m0,s2,m1,m2⟩
    unfold nR at hm
    refine aC ?_
    rcases aI hm with ⟨m3,hm⟩|⟨m3,hm⟩
    ·refine aC ?_;refine aK [3,7,41,42,43] (fun f w=>∃ d1 d2 d3 d4,rJ c7 d1 d2=some l9/\f 8=zS q d1.length o.length/\f 9=zS d3 d2.length d4/\aD G K (aF 3 K d3 d4 d2::aF 4 K q o.length d1::aF 70 K l m (aY d a)::rows [3] d a::aF 71 K g k c::box u 68 [zS g c.length k,zM (some b),zS l a.length m]::cZ b x::box z 30 y::L) w) ?_ ?_
     ·rintro f s3 ⟨d1,d2,d3,d4,hm,m4,m5,m6⟩
      unfold rJ at hm
      refine aC ?_;exact ⟨_,(zI hm).symm,aR,d3,d4,m4,m5,rfl,m6⟩
     refine aC ?_;obtain ⟨f0,g9,hm⟩:=aB hm
     have m7:=bC m2 (i:=4) rfl g9
     refine aL (bV sl_65 rfl m7 rfl rfl m1 g9) (aC ?_);refine kK fun m8 s4 s5=>?_
     refine aC ?_;refine kZ fun s6 m9=>?_
     refine aC ?_;refine aL (aKV (t':=0) (j:=0) aOG rfl rfl (by decide) (by decide) rfl) (aC ?_)
     obtain ⟨s7,n0,hm⟩:=aB hm
     refine cG call27 (sT n0 m9 h3 h6 h9 f6) ?_
     rintro _ s8 ⟨rfl,h0⟩
     refine aC ?_
     rcases aI hm with ⟨n1,hm⟩|⟨n1,hm⟩
     ·refine aC ?_;obtain ⟨s9,f1,hm⟩:=aB hm
      have n2:=bC h0 (i:=2) rfl f1
      refine aL (bV nG rfl n2 rfl rfl rfl f1) ?_;obtain ⟨h1,h2,hm⟩:=aB hm
      refine nU (i:=2) (t:=0) (ns:=[zB true]) (e':=(true:Bool)) sizeOf4 h0 rfl (zR _) rfl rfl rfl f1 h2 rfl rfl (lS rfl) rfl (fun cs h=>by cases h;rfl) (fun n3 (t0:aD G K (box m8 71 [i64 f0.1,i64 f0.2.1,i64 f0.2.2]::aF 3 K c9 d0 c6::aF 4 K q o.length h1::aF 70 K l m (aY d a)::rows [3] d a::aF 71 K g k c::box u 68 [zS g c.length k,zM (some b),zS l a.length m]::cZ b x::box z 30 y::L) n3)=>(aC ?_));refine nW ([c7]:List Int) fun t1 t2 t3=>?_
      obtain ⟨n4,t4,hm⟩:=aB hm
      refine aIw fun n5 n6 t5 t6=>?_;refine aC ?_
      exact ⟨aR,h1,n4,n5,n6,hm,(Eq.trans m0 (congrArg (fun n=>zS q n o.length) (lD h2))),rfl,lI⟩
     ·exact aJ
    ·exact aJ
 refine aC ?_;refine iG (Kt:=K) (xs:=([r_,r]:List aP)) (cs:=[i64 r_.N,i64 r_.I,zS a13 r_.L.length c14,zS a16 r_.E.length c17,i64 r.N,i64 r.I,zS a19 r.L.length c20,zS a22 r.E.length c23]) (vs:=[(0,zA (zCa r_ a13 c14 a16 c17)),(1,zA (zCa r a19 c20 a22 c23))]) sl_124 ez_27 rfl rfl i5 rfl (by kernel_rfl) rfl rfl rfl ⟨⟨a13,c14,a16,c17,rfl,h8,i0⟩,⟨a19,c20,a22,c23,rfl,i1,i2⟩,trivial⟩ ?_
 intro f2 n7 (n8:aD G K (aF 27 K f2 2 ([r_,r]:List aP)::box u 68 [zS none 0 0,zM (some b),zS none 0 0]::cZ b ([]:(List ((Int × Int × Int) × Int)))::box a2 27 V::box a0 27 Z::box z 30 y::L) n7)
 obtain ⟨t7,d5,n9,o0,o1⟩:=aD.lendSp n8 (zR _) .head
 obtain ⟨t8,o2,hm⟩:=aB hm
 refine cG call25 (aCt o2 o0 hG (h3.mono d5) (h6.mono d5) (h9.mono d5) (f6.mono d5) n9) ?_
 rintro _ h4 ⟨rfl,o3⟩
 have h5:=o1 _ _ o3
 refine aC ?_
 rcases aI hm with ⟨o4,hm⟩|⟨o4,hm⟩
 ·iterate 7 refine cO ?_
  have o5:=aD.nil (α:=(Int × Int × Int)) h5 71 K
  have t9:aD G K (f7::rows [3] ([]:List (Dp.Hd (List Int))) ([]:List (List Int))::aF 71 K none 0 ([]:List (Int × Int × Int))::aF 27 K f2 2 ([r_,r]:List aP)::box u 68 [zS none 0 0,zM (some b),zS none 0 0]::cZ b ([]:(List ((Int × Int × Int) × Int)))::box a2 27 V::box a0 27 Z::box z 30 y::L) h4:=aD.nil (α:=aJA _) (aD.rowsNil (α:=(List Int)) (tys:=[3]) o5) 70 K
  refine aC ?_;exact ⟨aR,[],([]:(List ((Int × Int × Int) × Int))),[],true,none,0,none,0,[],hm,rfl,rfl,lI⟩
 ·refine aC ?_
  have o6:=aD.nil (α:=(Int × Int × Int)) h5 71 K
  have u0:aD G K (f7::rows [3] ([]:List (Dp.Hd (List Int))) ([]:List (List Int))::aF 71 K none 0 ([]:List (Int × Int × Int))::aF 27 K f2 2 ([r_,r]:List aP)::box u 68 [zS none 0 0,zM (some b),zS none 0 0]::cZ b ([]:(List ((Int × Int × Int) × Int)))::box a2 27 V::box a0 27 Z::box z 30 y::L) h4:=aD.nil (α:=aJA _) (aD.rowsNil (α:=(List Int)) (tys:=[3]) o6) 70 K
  exact aJ
theorem sJ {k:Int} {p:(List Int)} {a:Nat} {R:Bool} (hm:oN k p=some R) (b:aD G K (L) w) (c:bZ K a1 a [zS a4 p.length c5]) (d:aN K a4 c5 p):
  Calls prog 36 ([i64 k,bR a1 a]:List Value).toArray w (dS fun v w'=>v=zB R/\aD G K (L) w'):=by
 exact aJ
theorem lC {b c:(List Int)} {a:Nat} {R:Int} (hm:dK b c=some R) (p:aD G K (L) w) (g:aN K a1 c2 b) (h:bZ K a4 a [zS a7 c.length c8]) (i:aN K a7 c8 c):
  Calls prog 84 ([zS a1 b.length c2,Value.func (.func 36) #[] #[bR a4 a]]:List Value).toArray w (dS fun v w'=>v=i64 R/\aD G K (L) w'):=by
 refine cH func84 ?_;unfold dK at hm
 refine aC ?_;refine aK [] (fun f w=>mI=some R/\aD G K (L) w) aJ ?_
 obtain ⟨q,j,ho⟩:=aB hm
 refine bY [0,1,7] j (fun d f w=>f 8=i64 d/\aD G K (L) w) aJ ?_
 ·rintro d r f t hm hr ⟨u,k⟩
  unfold cV at hm
  refine aC ?_
  rcases aI hm with ⟨l,hm⟩|⟨l,hm⟩
  ·refine aC ?_;refine cR (aC ?_)
   obtain ⟨e,m,hm⟩:=aB hm
   refine aC ?_;obtain ⟨x,y,n⟩:=aN.el (sz:=1) rfl g m
   cases n
   refine aC ?_;obtain ⟨z,o,hm⟩:=aB hm
   exact eR (vs:=[i64 e]) (caps:=[bR a4 a]) (us:=[i64 e,bR a4 a]) rfl call36 rfl rfl (sJ o k h i) aJ
  ·exact aJ
theorem kW {g j:(List Int)} {a:Nat} {R:(List Int)} (hm:dC g j=some R) (hs:aD G K (aF 2 K a1 c2 g::L) w) (p:bZ K a3 a [zS a6 j.length c7]) (q:aN K a6 c7 j):
  Calls prog 35 ([zS a1 g.length c2,Value.func (.func 36) #[] #[bR a3 a]]:List Value).toArray w (dS fun v w'=>∃ r u,v=zS r R.length u/\aD G K (aF 2 K r u R::L) w'):=by
 refine cH func35 ?_;unfold dC at hm
 refine aC ?_;obtain ⟨K9,x,b3,b4,b5⟩:=aD.lendSp hs (zR _) .head
 obtain ⟨e1,b6,hm⟩:=aB hm
 refine cG call84 (lC b6 b4 b3 (p.mono x) (q.mono x)) ?_
 rintro _ e2 ⟨rfl,b7⟩
 have e3:=b5 _ _ b7
 refine aC ?_
 rcases aI hm with ⟨b8,hm⟩|⟨b8,hm⟩
 ·exact aJ
 ·refine aC ?_;refine aK [] (fun f w=>∃ b c,eA b c=some R/\f 0=zS a1 b.length c2/\f 5=i64 c/\aD G K (aF 2 K a1 c2 b::L) w) ?_ ?_
  ·rintro f e4 ⟨b,c,hm,b9,e5,y⟩
   unfold eA at hm
   refine aC ?_;obtain ⟨e6,c0,hm⟩:=aB hm
   have c1:=iW y (i:=0) rfl
   obtain ⟨e7,e8,z⟩:=Cut.ex 1 a1 c2 c
   refine aL (aAD eN c1 z rfl rfl rfl c0) ?_;obtain ⟨J,V,hm⟩:=aB hm
   refine aFT eN aHr rfl y (i:=0) rfl z rfl rfl V (fun Z (a0:aD G K (aF 2 K a1 c2 J::L) Z)=>?_)
   iterate 4 refine cO ?_
   refine gN (v:=zS a1 J.length c2) (Eq.trans b9 (congrArg (fun n=>zS a1 n c2) (aDF V))) (aC ?_);obtain ⟨c3,a2,hm⟩:=aB hm
   have c4:=iW a0 (i:=0) rfl
   obtain ⟨c5,c6,a4⟩:=Cut.ex 1 a1 c2 0
   refine aL (aFy eN c4 a4 rfl rfl rfl a2) (aC ?_)
   have e9:aD G K (aF 2 K c5 c6 c3::L) Z:=aD.cutP a0 (i:=0) rfl a2 a4
   exact aJ
  obtain ⟨f0,c8,ho⟩:=aB hm
  refine mW [1] c8 (fun k l m f w=>f 0=zS a1 k.length c2/\f 5=i64 l/\f 6=i64 m/\aD G K (aF 2 K a1 c2 k::L) w) aJ ?_
  ·rintro k l m c9 f f1 hm hr ⟨d0,f2,f3,a5⟩
   unfold cB at hm
   refine aC ?_
   rcases aI hm with ⟨d1,hm⟩|⟨d1,hm⟩
   ·refine aC ?_;refine aK [1,6] (fun f w=>∃ d o,cS m d o=some c9/\f 0=zS a1 d.length c2/\f 5=i64 o/\aD G K (aF 2 K a1 c2 d::L) w) ?_ ?_
    ·rintro f f4 ⟨d,o,hm,d2,d3,d4⟩
     unfold cS at hm
     refine aC ?_;exact ⟨_,(zI hm).symm,aR,d2,d3,rfl,d4⟩
    refine aC ?_;obtain ⟨e,a7,hm⟩:=aB hm
    have a8:=bC a5 (i:=0) rfl a7
    refine aL (bV eN rfl a8 rfl rfl rfl a7) (aC ?_);obtain ⟨f5,d5,hm⟩:=aB hm
    refine eR (vs:=[i64 e]) (caps:=[bR a3 a]) (us:=[i64 e,bR a3 a]) rfl call36 rfl rfl (sJ d5 a5 p q) ?_
    rintro _ f6 ⟨rfl,d6⟩
    refine aC ?_
    rcases aI hm with ⟨d7,hm⟩|⟨d7,hm⟩
    ·refine aC ?_;obtain ⟨f7,a9,hm⟩:=aB hm
     refine aL (bV eN rfl a8 rfl rfl rfl a9) ?_;obtain ⟨b0,b1,hm⟩:=aB hm
     refine nU (i:=0) (t:=0) (ns:=[i64 e]) (e':=(e:Int)) sizeOf2 d6 rfl (zR _) rfl rfl rfl a9 b1 rfl rfl (lS rfl) rfl (fun cs h=>by cases h;rfl) (fun d8 (d9:aD G K (aF 2 K a1 c2 b0::L) d8)=>(aC ?_));exact ⟨aR,b0,wr (l+1),hm,(Eq.trans d0 (congrArg (fun n=>zS a1 n c2) (lD b1))),rfl,d9⟩
    ·exact aJ
   ·exact aJ
theorem aCk {p:aO} {R:((List Int) × Int)} (hm:tS p=some R) (V:aD G K (L) w) (g:G.lo=0) (a:aN K a1 c2 p.S.L) (b:aN K a4 c5 p.S.E) (c:aN K a7 c8 p.M) (h:aN K a10 c11 p.C):
  Calls prog 10 ([zA (zEa p a1 c2 a4 c5 a7 c8 a10 c11)]:List Value).toArray w (dS fun v w'=>∃ d e,v=Value.tuple #[zS d R.1.length e,i64 R.2]/\aD G K (aF 2 K d e R.1::L) w'):=by
 refine cH func10 ?_;unfold tS at hm
 refine aC ?_;refine oZ fun Z a0 i=>?_
 refine aC ?_;obtain ⟨a2,j,hm⟩:=aB hm
 refine cG call9 (wT j i g a b c h) ?_
 rintro _ a3 ⟨rfl,k⟩
 refine aC ?_
 rcases aI hm with ⟨l,hm⟩|⟨l,hm⟩
 ·exact aJ
 ·refine aC ?_;obtain ⟨a5,m,hm⟩:=aB hm
  refine cG call34 (xX m k a b c) ?_
  rintro _ a6 ⟨a8,a9,rfl,b0⟩
  refine kK fun n b1 b2=>?_;refine kZ fun b3 o=>?_
  refine aC ?_;obtain ⟨b4,q,hm⟩:=aB hm
  refine cG call24 (xY q o a b) ?_
  rintro _ b5 ⟨b6,b7,rfl,r⟩
  refine aL (kI (vs:=[zP (some ⟨n,0,none⟩)]) rfl) ?_;obtain ⟨b8,b9,t,u,c0⟩:=aD.lendSp r (zR _) zt2
  obtain ⟨c1,x,y,z,c3⟩:=aD.lendBp u zt1
  obtain ⟨c4,J,hm⟩:=aB hm
  exact cG call35 (kW J z y (t.mono x)) aJ
theorem aOf {kind:Int} {R:Bool} (hm:aMB kind=some R) (a:aD G K (L) w):
  Calls prog 85 ([i64 kind]:List Value).toArray w (dS fun v w'=>v=zB R/\aD G K (L) w'):=by
 exact aJ
theorem aHs {a b:aP} {kind R:Int} (hm:tT a b kind=some R) (d:aD G K (L) w) (e:G.lo=0) (g:aN K a1 c2 a.L) (h:aN K a4 c5 a.E) (i:aN K a7 c8 b.L) (j:aN K a10 c11 b.E):
  Calls prog 37 ([zA (zCa a a1 c2 a4 c5),zA (zCa b a7 c8 a10 c11),i64 kind]:List Value).toArray w (dS fun v w'=>v=i64 R/\aD G K (L) w'):=by
 refine cH func37 ?_;unfold tT at hm
 refine aC ?_;refine oZ fun k l m=>?_
 refine oZ fun n o p=>?_;refine aC ?_
 refine cR ?_
 iterate 1 refine cO ?_
 exact aW [2] (fun f w=>∃ c,sS kind c=some R/\f 7=zB c/\aD G K (L) w) aJ aJ
theorem kX {t:aP} {k:Int} {R:(List aH)} (hm:iY t k=some R) (hs:aD G K (L) w) (j:aN K a1 c2 t.L) (l:aN K a4 c5 t.E):
  Calls prog 130 ([zA (zCa t a1 c2 a4 c5),i64 k]:List Value).toArray w (dS fun v w'=>∃ d e,v=zS d R.length e/\aD G K (aF 9 K d e R::L) w'):=by
 refine cH func130 ?_;unfold iY at hm
 refine aC ?_;refine oZ fun m w8 o=>?_
 refine aC ?_;obtain ⟨p,q,hm⟩:=aB hm
 refine cG call75 (jH q o j l) ?_
 rintro _ a8 ⟨r,u,rfl,x⟩
 refine aC ?_;refine aK [] (fun f w=>∃ c a b,rK c=some R/\f 5=zS a c.length b/\aD G K (aF 9 K a b c::L) w) ?_ ?_
 ·rintro f a9 ⟨c,a,b,hm,y,z⟩
  unfold rK at hm
  refine aC ?_;obtain ⟨J,V,hm⟩:=aB hm
  refine cG call114 (lib_SortStr z V) ?_
  rintro _ b0 ⟨rfl,Z,a0⟩
  iterate 4 refine cO ?_
  refine gN (v:=zS a J.length b) (Eq.trans y (congrArg (fun n=>zS a n b) Z)) ?_;obtain ⟨b1,a2,hm⟩:=aB hm
  exact cG call116 (iE a2 a0) aJ
 have b2:=aD.nil (α:=aH) x 9 K
 obtain ⟨b3,a3,ho⟩:=aB hm
 exact bQ [2,10,11] a3 (fun g a5 f w=>∃ h i,f 5=zS h g.length i/\f 12=i64 a5/\aD G K (aF 9 K h i g::aF 90 K r u p::box m 27 (zC t a1 c2 a4 c5)::L) w) aJ aJ
theorem aIz {t:aP} {p R:(List Int)} (hm:tU t p=some R) (hs:aD G K (L) w) (h3:aN K a1 c2 t.L) (h6:aN K a4 c5 t.E) (h9:aN K a7 c8 p):
  Calls prog 216 ([zA (zCa t a1 c2 a4 c5),zS a7 p.length c8]:List Value).toArray w (dS fun v w'=>∃ a2 a3,v=zS a2 R.length a3/\aD G K (aF 2 K a2 a3 R::L) w'):=by
 let c:=(zC t a1 c2 a4 c5)
 refine cH func216 ?_;unfold tU at hm
 refine aC ?_;refine oZ fun d f4 b9=>?_
 refine aC ?_;obtain ⟨f5,c0,hm⟩:=aB hm
 refine cG call61 (fQ c0 b9 h9) ?_
 rintro _ f6 ⟨f7,f8,rfl,f9⟩
 refine aC ?_;refine aK [] (fun f w=>∃ g a b,wP g=some R/\f 5=zS a g.length b/\aD G K (aF 2 K a b g::L) w) ?_ ?_
 ·rintro f g0 ⟨g,a,b,hm,c1,c3⟩
  unfold wP at hm
  refine aC ?_;obtain ⟨c4,c6,hm⟩:=aB hm
  refine cG call194 (aHT c3 c6) ?_
  rintro _ g1 ⟨rfl,c7,c9⟩
  iterate 4 refine cO ?_
  refine gN (v:=zS a c4.length b) (Eq.trans c1 (congrArg (fun n=>zS a n b) c7)) (aC ?_);obtain rfl:=zI hm
  exact st_E results216 ⟨a,b,rfl,c9⟩
 obtain ⟨g2,d1,ho⟩:=aB hm
 refine bQ [2] d1 (fun q h f w=>∃ r u,f 5=zS r q.length u/\f 6=i64 h/\aD G K (aF 2 K r u q::box d 27 c::L) w) aJ ?_
 ·rintro q h a5 f g3 hm hr ⟨r,u,g4,g5,d2⟩
  unfold rO at hm
  refine aC ?_
  rcases aI hm with ⟨d3,hm⟩|⟨d3,hm⟩
  ·refine aC ?_;refine aK [2,6] (fun f w=>∃ i j k,wQ h i=some a5/\f 5=zS j i.length k/\aD G K (aF 2 K j k i::box d 27 c::L) w) ?_ ?_
   ·rintro f g6 ⟨i,j,k,hm,d4,d5⟩
    unfold wQ at hm
    refine aC ?_;exact ⟨_,(zI hm).symm,aR,j,k,d4,rfl,d5⟩
   refine aC ?_;obtain ⟨g7,x,a6,d6,d7⟩:=aD.lendSp d2 (zR _) .head
   obtain ⟨g8,e,g9,h0,d8⟩:=aD.lendBp d6 .head
   refine wW [(0,0),(1,0),(2,0),(3,0),(4,0),(8,0),(5,1),(6,1),(7,0)] fun h1 h2=>?_;refine aC ?_
   obtain ⟨d9,y,hm⟩:=aB hm
   have e0:=aCz (a6.mono e) y
   refine bN rfl (fun _ _=>bV eN rfl e0 rfl rfl rfl y) ?_;obtain ⟨h4,h5,e1⟩:=aN.el (sz:=1) rfl (a6.mono e) y
   cases e1
   refine aC ?_;refine fF rfl (nW ([d9]:List Int) fun h7 h8 a8=>?_)
   refine aM (aG ⟨⟨_,a8⟩,?_⟩)
   refine fF rfl ?_;obtain ⟨i0,a9,e2,e3,e4⟩:=aD.lendSp a8 (zL x e) .head
   obtain ⟨b0,e5,hm⟩:=aB hm
   refine cG call164 (aBZ e5 e3 (h3.mono (zL (zL x e) a9)) (h6.mono (zL (zL x e) a9)) e2) ?_
   rintro _ i1 ⟨b1,b2,rfl,e6⟩
   have b3:=e4 _ _ e6
   refine aM (aG ⟨⟨_,b3⟩,?_⟩)
   refine aC ?_;refine jE ?_
   have e7:=d8 _ _ b3
   have i2:=d7 _ _ e7
   refine aC ?_;refine aK [2,6] (fun f w=>∃ z b4 b5,aBU h z=some a5/\f 5=zS b4 z.length b5/\aD G K (aF 2 K b4 b5 z::box d 27 c::L) w) aJ ?_
   obtain ⟨i3,e8,ho⟩:=aB hm
   refine bQ [2,6,23,24] e8 (fun J V f w=>∃ Z a0,f 5=zS Z J.length a0/\f 25=i64 V/\aD G K (aF 2 K Z a0 J::box d 27 c::aF 2 K b1 b2 b0::L) w) aJ ?_
   ·rintro J V e9 f i4 hm hr ⟨Z,a0,i5,i6,i7⟩
    unfold nS at hm
    refine aC ?_
    rcases aI hm with ⟨f0,hm⟩|⟨f0,hm⟩
    ·refine aC ?_;refine aK [2,6,23,24,25] (fun f w=>∃ l m o,rM V l=some e9/\f 5=zS m l.length o/\aD G K (aF 2 K m o l::box d 27 c::aF 2 K b1 b2 b0::L) w) ?_ ?_
     ·rintro f i8 ⟨l,m,o,hm,f1,f2⟩
      unfold rM at hm
      refine aC ?_;exact ⟨_,(zI hm).symm,aR,m,o,f1,rfl,f2⟩
     exact aJ
    ·exact aJ
  ·exact aJ
theorem aJi {t:aP} {a:(List Int)} {b:aH} {R:(List Int)} (hm:aAj t a b=some R) (g:aD G K (L) w) (h:aN K a1 c2 t.L) (i:aN K a4 c5 t.E) (j:aN K a7 c8 a):
  Calls prog 217 ([zA (zCa t a1 c2 a4 c5),zS a7 a.length c8,str b]:List Value).toArray w (dS fun v w'=>∃ c d,v=zS c R.length d/\aD G K (aF 2 K c d R::L) w'):=by
 refine cH func217 ?_;unfold aAj at hm
 refine aC ?_;refine oZ fun k l e=>?_
 refine aC ?_;obtain ⟨m,n,o,p,q⟩:=aD.lendBp e .head
 refine wW [(0,0),(1,0),(2,0),(3,0),(4,1),(5,1),(6,0)] fun r u=>?_;exact aJ
theorem aFr {t:aP} {k:Int} {a:aH} {R:(List Int)} (hm:aBV t k a=some R) (e:aD G K (L) w) (g:aN K a1 c2 t.L) (h:aN K a4 c5 t.E):
  Calls prog 197 ([zA (zCa t a1 c2 a4 c5),i64 k,str a]:List Value).toArray w (dS fun v w'=>∃ b c,v=zS b R.length c/\aD G K (aF 2 K b c R::L) w'):=by
 refine cH func197 ?_;unfold aBV at hm
 refine aC ?_;refine oZ fun i j l=>?_
 refine aC ?_;refine nW ([k]:List Int) fun m n d=>?_
 obtain ⟨o,p,q,r,u⟩:=aD.lendSp d (zR _) .head
 exact aJ
theorem iV {a b:(List aH)} {R:Bool} (hm:dM a b=some R) (g:aD G K (L) w) (h:aN K a1 c2 a) (i:aN K a4 c5 b):
  Calls prog 129 ([zS a1 a.length c2,zS a4 b.length c5]:List Value).toArray w (dS fun v w'=>v=zB R/\aD G K (L) w'):=by
 refine cH func129 ?_;unfold dM at hm
 refine aC ?_
 rcases aI hm with ⟨c,hm⟩|⟨c,hm⟩
 ·exact aJ
 ·refine aC ?_;refine aK [] (fun f w=>pU=some R/\aD G K (L) w) aJ ?_
  obtain ⟨j,d,ho⟩:=aB hm
  exact bY [0,1,12] d (fun e f w=>f 13=i64 e/\aD G K (L) w) aJ aJ
end Gv
namespace Gv
open Go.Value renaming slice→zS,bool→zB,pointer→zP,agg→zA,map→zM
open Option.some renaming inj→zI
open Gv.Hp renaming le_trans→zL,le_refl→zR
open Go Go.Proofs Go.Proofs.Tryz
set_option maxRecDepth 20000
set_option maxHeartbeats 40000000
variable {G:Env} {K:Hp} {L:List gV} {w:World} {a1 a4 a7 a10 a13 a16 a21 a19 a24:Option Addr} {c5 c8 c11 c14 c2 c17:Nat}
theorem xZ {a y:Int} {c:Nat} {b:(List ((Int × Int) × Bool))} {d:Nat} {R:Bool} (hm:qO a y b=some R) (e:aD G K (L) w) (i:bZ K a1 c [zM (some d)]) (g:rdM K d b):
  Calls prog 131 ([i64 a,i64 y,bR a1 c]:List Value).toArray w (dS fun v w'=>v=zB R/\aD G K (L) w'):=by
 refine cH func131 ?_;unfold qO at hm
 refine aC ?_;refine aL (uZ (vs:=[(0,i64 a),(1,i64 y)]) (cs:=[i64 a,i64 y]) aBo aFz rfl (by kernel_rfl)) (aL (aMp (kv:=b) (k:=⟨a,y⟩) (z:=(false:Bool)) runUnderlying137 aEj zeroValue4 e g rfl rfl) (aC ?_))
 obtain rfl:=zI hm
 exact st_E results131 ⟨rfl,e⟩
theorem aFs {a:Int} {i:Nat} {j k:Int} {c:(List aH)} {d:(List Edge)} {l m:Int} {e:(List aH)} {g:(List Edge)} {b:Nat} {n:(List ((Int × Int) × Bool))} {r19:Nat} {p:Int} {o:Nat} {R:Bool} (hm:aDP a j k c d l m e g n p=some R) (h:aD G K (L) w) (q:bZ K a1 i [i64 j,i64 k,zS a4 c.length c5,zS a7 d.length c8,i64 l,i64 m,zS a10 e.length c11,zS a13 g.length c14,Value.func (.func 131) #[] #[bR a16 b]]) (z:aN K a4 c5 c) (J:aN K a7 c8 d) (V:aN K a10 c11 e) (Z:aN K a13 c14 g) (r:bZ K a16 b [zM (some r19)]) (u:rdM K r19 n) (x:bZ K a21 o [i64 p]):
  Calls prog 198 ([i64 a,bR a1 i,bR a21 o]:List Value).toArray w (dS fun v w'=>v=zB R/\aD G K (L) w'):=by
 refine cH func198 ?_;unfold aDP at hm
 refine aC ?_;refine aL (dQ (t:=8) sc_177 h q rfl rfl) (aL (dQ (t:=0) oG h x rfl rfl) (aU (v:=i64 a) ?_))
 obtain ⟨a0,y,hm⟩:=aB hm
 exact eR (vs:=[i64 p,i64 a]) (caps:=[bR a16 b]) (us:=[i64 p,i64 a,bR a16 b]) rfl call131 rfl rfl (xZ y h r u) aJ
theorem vL {c:(List Int)} {a:Nat} {i j:Int} {d:(List aH)} {e:(List Edge)} {k l:Int} {g:(List aH)} {h:(List Edge)} {m:Nat} {n:(List ((Int × Int) × Bool))} {o:Nat} {p:Int} {b:Nat} {R:Int} (hm:eX c i j d e k l g h n p=some R) (hs:aD G K (L) w) (t:aN K a1 c2 c) (u:bZ K a4 a [i64 i,i64 j,zS a7 d.length c8,zS a10 e.length c11,i64 k,i64 l,zS a13 g.length c14,zS a16 h.length c17,Value.func (.func 131) #[] #[bR a19 m]]) (x:aN K a7 c8 d) (y:aN K a10 c11 e) (z:aN K a13 c14 g) (J:aN K a16 c17 h) (V:bZ K a19 m [zM (some o)]) (Z:rdM K o n) (a0:bZ K a24 b [i64 p]):
  Calls prog 84 ([zS a1 c.length c2,Value.func (.func 198) #[] #[bR a4 a,bR a24 b]]:List Value).toArray w (dS fun v w'=>v=i64 R/\aD G K (L) w'):=by
 refine cH func84 ?_;unfold eX at hm
 refine aC ?_;refine aK [] (fun f w=>mJ=some R/\aD G K (L) w) aJ ?_
 obtain ⟨b1,a2,ho⟩:=aB hm
 refine bY [0,1,7] a2 (fun q f w=>f 8=i64 q/\aD G K (L) w) aJ ?_
 ·rintro q b2 f b3 hm hr ⟨b4,a3⟩
  unfold cW at hm
  refine aC ?_
  rcases aI hm with ⟨a5,hm⟩|⟨a5,hm⟩
  ·refine aC ?_;refine cR (aC ?_)
   obtain ⟨r,a6,hm⟩:=aB hm
   refine aC ?_;obtain ⟨b5,b6,a8⟩:=aN.el (sz:=1) rfl t a6
   cases a8
   refine aC ?_;obtain ⟨b7,a9,hm⟩:=aB hm
   exact eR (vs:=[i64 r]) (caps:=[bR a4 a,bR a24 b]) (us:=[i64 r,bR a4 a,bR a24 b]) rfl call198 rfl rfl (aFs a9 a3 u x y z J V Z a0) aJ
  ·exact aJ
theorem jW {a:(List Int)} {g:Nat} {h i:Int} {b:(List aH)} {c:(List Edge)} {j k:Int} {d:(List aH)} {e:(List Edge)} {l:Nat} {m:(List ((Int × Int) × Bool))} {n:Nat} {o:Int} {p:Nat} {R:Bool} (hm:eH a h i b c j k d e m o=some R) (q:aD G K (L) w) (r:aN K a1 c2 a) (t:bZ K a4 g [i64 h,i64 i,zS a7 b.length c8,zS a10 c.length c11,i64 j,i64 k,zS a13 d.length c14,zS a16 e.length c17,Value.func (.func 131) #[] #[bR a19 l]]) (u:aN K a7 c8 b) (x:aN K a10 c11 c) (y:aN K a13 c14 d) (z:aN K a16 c17 e) (J:bZ K a19 l [zM (some n)]) (V:rdM K n m) (Z:bZ K a24 p [i64 o]):
  Calls prog 196 ([zS a1 a.length c2,Value.func (.func 198) #[] #[bR a4 g,bR a24 p]]:List Value).toArray w (dS fun v w'=>v=zB R/\aD G K (L) w'):=by
 exact aJ
theorem aFt {r_a r_b:aP} {d:Nat} {e:(List ((Int × Int) × Bool))} {g:Nat} {h y:Int} {i:aH} {j:Int} {R:Bool} (hm:yR r_a r_b e h y i j=some R) (hs:aD G K (L) w) (m:aN K a1 c2 r_a.L) (n:aN K a4 c5 r_a.E) (k:aN K a7 c8 r_b.L) (l:aN K a10 c11 r_b.E) (o:bZ K a13 d [zM (some g)]) (p:rdM K g e):
  Calls prog 167 ([zA #[i64 r_a.N,i64 r_a.I,zS a1 r_a.L.length c2,zS a4 r_a.E.length c5,i64 r_b.N,i64 r_b.I,zS a7 r_b.L.length c8,zS a10 r_b.E.length c11,Value.func (.func 131) #[] #[bR a13 d]],i64 h,i64 y,str i,i64 j]:List Value).toArray w (dS fun v w'=>v=zB R/\aD G K (L) w'):=by
 refine cH func167 ?_;unfold yR at hm
 refine aC ?_;refine oZ fun q a6 a8=>?_
 refine oZ fun r a9 t=>?_;refine aC ?_
 obtain ⟨b0,u,hm⟩:=aB hm
 refine cG call197 (aFr u t k l) ?_
 rintro _ b1 ⟨b2,b3,rfl,x⟩
 refine aL (kI (vs:=[zP (some ⟨q,0,none⟩),zP (some ⟨r,0,none⟩)]) rfl) ?_;obtain ⟨b4,c,z,J,b5⟩:=aD.lendSp x (Hp.le_refl _) .head
 obtain ⟨b6,b,V,Z,b7⟩:=aD.lendBp J zt1
 obtain ⟨b8,a,a0,a2,b9⟩:=aD.lendBp Z .head
 obtain ⟨c0,a3,hm⟩:=aB hm
 exact cG call196 (jW a3 a2 (z.mono (zL b a)) (V.mono a) (m.mono (zL (zL c b) a)) (n.mono (zL (zL c b) a)) (k.mono (zL (zL c b) a)) (l.mono (zL (zL c b) a)) (o.mono (zL (zL c b) a)) (p.mono (zL (zL c b) a)) a0) aJ
theorem aFJ {r_a r_b:aP} {c:Nat} {h:(List ((Int × Int) × Bool))} {j:Nat} {e y:Int} {R:Bool} (hm:kY r_a r_b h e y=some R) (hs:aD G K (L) w) (g:aN K a1 c2 r_a.L) (k:aN K a4 c5 r_a.E) (r:aN K a7 c8 r_b.L) (u:aN K a10 c11 r_b.E) (x:bZ K a13 c [zM (some j)]) (z:rdM K j h):
  Calls prog 166 ([zA #[i64 r_a.N,i64 r_a.I,zS a1 r_a.L.length c2,zS a4 r_a.E.length c5,i64 r_b.N,i64 r_b.I,zS a7 r_b.L.length c8,zS a10 r_b.E.length c11,Value.func (.func 131) #[] #[bR a13 c]],i64 e,i64 y,Value.func (.func 167) #[] #[]]:List Value).toArray w (dS fun v w'=>v=zB R/\aD G K (L) w'):=by
 refine cH func166 ?_;unfold kY at hm
 refine aC ?_;refine oZ fun J b8 V=>?_
 refine aC ?_;obtain ⟨Z,a0,hm⟩:=aB hm
 refine cG call75 (jH a0 V g k) ?_
 rintro _ b9 ⟨a2,a3,rfl,c0⟩
 refine aC ?_;refine aK [] (fun f w=>aBW=some R/\aD G K (L) w) aJ ?_
 obtain ⟨c1,a5,ho⟩:=aB hm
 refine bY [1,2,3,4,14,15] a5 (fun l f w=>f 16=i64 l/\aD G K (aF 90 K a2 a3 Z::box J 179 [i64 r_a.N,i64 r_a.I,zS a1 r_a.L.length c2,zS a4 r_a.E.length c5,i64 r_b.N,i64 r_b.I,zS a7 r_b.L.length c8,zS a10 r_b.E.length c11,Value.func (.func 131) #[] #[bR a13 c]]::L) w) aJ ?_
 ·rintro l c3 f c4 hm hr ⟨a6,a8⟩
  unfold kV at hm
  refine aC ?_
  rcases aI hm with ⟨a9,hm⟩|⟨a9,hm⟩
  ·refine aC ?_;refine cR (aC ?_)
   obtain ⟨m,n,hm⟩:=aB hm
   have b0:=bC a8 (i:=0) rfl n
   refine aL (bV eU rfl b0 rfl rfl a6 n) (aC ?_);refine kK fun c6 c7 c9=>?_
   refine kZ fun d0 b1=>?_;refine aC ?_
   obtain ⟨d1,b,o,b2,d2⟩:=aD.lendBp b1 .head
   obtain ⟨d3,a,d4,d5,b3⟩:=aD.lendBp b2 zt1
   refine wW [(0,0),(1,0),(2,0),(3,0),(4,0),(5,0),(6,0),(7,0),(8,0),(9,0),(10,0),(11,0),(12,0),(13,1),(14,0)] fun d6 d=>?_;refine aC ?_
   refine bN rfl (fun _ ⟨_,d⟩=>dQ (t:=1) oG d (o.mono a) rfl rfl) ?_;obtain ⟨p,b4,hm⟩:=aB hm
   refine aC ?_;obtain ⟨d7,d8,b5⟩:=aN.el (sz:=1) rfl g b4
   cases b5
   refine aC ?_;refine bN rfl (fun _ ⟨_,d⟩=>dQ (t:=2) oG d (o.mono a) rfl rfl) (fF rfl ?_)
   obtain ⟨d9,b6,hm⟩:=aB hm
   refine eR (vs:=[zA #[i64 r_a.N,i64 r_a.I,zS a1 r_a.L.length c2,zS a4 r_a.E.length c5,i64 r_b.N,i64 r_b.I,zS a7 r_b.L.length c8,zS a10 r_b.E.length c11,Value.func (.func 131) #[] #[bR a13 c]],i64 e,i64 y,str p,i64 m.To]) (caps:=[]) (us:=[zA #[i64 r_a.N,i64 r_a.I,zS a1 r_a.L.length c2,zS a4 r_a.E.length c5,i64 r_b.N,i64 r_b.I,zS a7 r_b.L.length c8,zS a10 r_b.E.length c11,Value.func (.func 131) #[] #[bR a13 c]],i64 e,i64 y,str p,i64 m.To]) rfl call167 rfl rfl (aFt (r_a:=⟨r_a.N,r_a.I,r_a.L,r_a.E⟩) (r_b:=⟨r_b.N,r_b.I,r_b.L,r_b.E⟩) b6 d (g.mono (zL b a)) (k.mono (zL b a)) (r.mono (zL b a)) (u.mono (zL b a)) (x.mono (zL b a)) (z.mono (zL b a))) ?_
   rintro _ e0 ⟨rfl,q⟩
   refine aM (aG ⟨⟨_,q⟩,?_⟩)
   refine aC ?_;refine jE ?_
   have e1:=b3 _ _ q
   exact aJ
  ·exact aJ
theorem aEN {a:Int} {i:Nat} {j k:Int} {c:(List aH)} {d:(List Edge)} {l m:Int} {e:(List aH)} {g:(List Edge)} {b:Nat} {n:(List ((Int × Int) × Bool))} {r19:Nat} {p:Int} {o:Nat} {R:Bool} (hm:aCK a j k c d l m e g n p=some R) (h:aD G K (L) w) (q:bZ K a1 i [i64 j,i64 k,zS a4 c.length c5,zS a7 d.length c8,i64 l,i64 m,zS a10 e.length c11,zS a13 g.length c14,Value.func (.func 131) #[] #[bR a16 b]]) (z:aN K a4 c5 c) (J:aN K a7 c8 d) (V:aN K a10 c11 e) (Z:aN K a13 c14 g) (r:bZ K a16 b [zM (some r19)]) (u:rdM K r19 n) (x:bZ K a21 o [i64 p]):
  Calls prog 199 ([i64 a,bR a1 i,bR a21 o]:List Value).toArray w (dS fun v w'=>v=zB R/\aD G K (L) w'):=by
 refine cH func199 ?_;unfold aCK at hm
 refine aC ?_;refine aL (dQ (t:=8) sc_177 h q rfl rfl) (aL (dQ (t:=0) oG h x rfl rfl) (aU (v:=i64 a) ?_))
 obtain ⟨a0,y,hm⟩:=aB hm
 exact eR (vs:=[i64 p,i64 a]) (caps:=[bR a16 b]) (us:=[i64 p,i64 a,bR a16 b]) rfl call131 rfl rfl (xZ y h r u) aJ
theorem vM {c:(List Int)} {a:Nat} {i j:Int} {d:(List aH)} {e:(List Edge)} {k l:Int} {g:(List aH)} {h:(List Edge)} {m:Nat} {n:(List ((Int × Int) × Bool))} {o:Nat} {p:Int} {b:Nat} {R:Int} (hm:eY c i j d e k l g h n p=some R) (hs:aD G K (L) w) (t:aN K a1 c2 c) (u:bZ K a4 a [i64 i,i64 j,zS a7 d.length c8,zS a10 e.length c11,i64 k,i64 l,zS a13 g.length c14,zS a16 h.length c17,Value.func (.func 131) #[] #[bR a19 m]]) (x:aN K a7 c8 d) (y:aN K a10 c11 e) (z:aN K a13 c14 g) (J:aN K a16 c17 h) (V:bZ K a19 m [zM (some o)]) (Z:rdM K o n) (a0:bZ K a24 b [i64 p]):
  Calls prog 84 ([zS a1 c.length c2,Value.func (.func 199) #[] #[bR a4 a,bR a24 b]]:List Value).toArray w (dS fun v w'=>v=i64 R/\aD G K (L) w'):=by
 refine cH func84 ?_;unfold eY at hm
 refine aC ?_;refine aK [] (fun f w=>mK=some R/\aD G K (L) w) aJ ?_
 obtain ⟨b1,a2,ho⟩:=aB hm
 refine bY [0,1,7] a2 (fun q f w=>f 8=i64 q/\aD G K (L) w) aJ ?_
 ·rintro q b2 f b3 hm hr ⟨b4,a3⟩
  unfold cX at hm
  refine aC ?_
  rcases aI hm with ⟨a5,hm⟩|⟨a5,hm⟩
  ·refine aC ?_;refine cR (aC ?_)
   obtain ⟨r,a6,hm⟩:=aB hm
   refine aC ?_;obtain ⟨b5,b6,a8⟩:=aN.el (sz:=1) rfl t a6
   cases a8
   refine aC ?_;obtain ⟨b7,a9,hm⟩:=aB hm
   exact eR (vs:=[i64 r]) (caps:=[bR a4 a,bR a24 b]) (us:=[i64 r,bR a4 a,bR a24 b]) rfl call199 rfl rfl (aEN a9 a3 u x y z J V Z a0) aJ
  ·exact aJ
theorem jX {a:(List Int)} {g:Nat} {h i:Int} {b:(List aH)} {c:(List Edge)} {j k:Int} {d:(List aH)} {e:(List Edge)} {l:Nat} {m:(List ((Int × Int) × Bool))} {n:Nat} {o:Int} {p:Nat} {R:Bool} (hm:eI a h i b c j k d e m o=some R) (q:aD G K (L) w) (r:aN K a1 c2 a) (t:bZ K a4 g [i64 h,i64 i,zS a7 b.length c8,zS a10 c.length c11,i64 j,i64 k,zS a13 d.length c14,zS a16 e.length c17,Value.func (.func 131) #[] #[bR a19 l]]) (u:aN K a7 c8 b) (x:aN K a10 c11 c) (y:aN K a13 c14 d) (z:aN K a16 c17 e) (J:bZ K a19 l [zM (some n)]) (V:rdM K n m) (Z:bZ K a24 p [i64 o]):
  Calls prog 196 ([zS a1 a.length c2,Value.func (.func 199) #[] #[bR a4 g,bR a24 p]]:List Value).toArray w (dS fun v w'=>v=zB R/\aD G K (L) w'):=by
 exact aJ
theorem aEO {r_a r_b:aP} {d:Nat} {e:(List ((Int × Int) × Bool))} {g:Nat} {h y:Int} {i:aH} {j:Int} {R:Bool} (hm:wB r_a r_b e h y i j=some R) (hs:aD G K (L) w) (n:aN K a1 c2 r_a.L) (o:aN K a4 c5 r_a.E) (k:aN K a7 c8 r_b.L) (l:aN K a10 c11 r_b.E) (p:bZ K a13 d [zM (some g)]) (q:rdM K g e):
  Calls prog 168 ([zA #[i64 r_a.N,i64 r_a.I,zS a1 r_a.L.length c2,zS a4 r_a.E.length c5,i64 r_b.N,i64 r_b.I,zS a7 r_b.L.length c8,zS a10 r_b.E.length c11,Value.func (.func 131) #[] #[bR a13 d]],i64 h,i64 y,str i,i64 j]:List Value).toArray w (dS fun v w'=>v=zB R/\aD G K (L) w'):=by
 refine cH func168 ?_;unfold wB at hm
 refine aC ?_;refine oZ fun r b2 b3=>?_
 refine oZ fun t b4 b5=>?_;refine aC ?_
 refine nW ([y]:List Int) fun b6 b7 u=>?_;refine aC ?_
 obtain ⟨b8,m,x,z,J⟩:=aD.lendSp u (Hp.le_refl _) .head
 obtain ⟨b9,V,hm⟩:=aB hm
 refine cG call164 (aBZ V z (k.mono m) (l.mono m) x) ?_
 rintro _ c0 ⟨c1,c3,rfl,Z⟩
 have a0:=J _ _ Z
 refine aL (kI (vs:=[zP (some ⟨r,0,none⟩),zP (some ⟨t,0,none⟩)]) rfl) ?_;obtain ⟨c4,c,a2,a3,c6⟩:=aD.lendSp a0 (Hp.le_refl _) zt1
 obtain ⟨c7,b,a5,a6,c9⟩:=aD.lendBp a3 zt2
 obtain ⟨d0,a,a8,a9,d1⟩:=aD.lendBp a6 zt1
 obtain ⟨d2,b0,hm⟩:=aB hm
 exact cG call196 (jX b0 a9 (a2.mono (zL b a)) (a5.mono a) (n.mono (zL (zL c b) a)) (o.mono (zL (zL c b) a)) (k.mono (zL (zL c b) a)) (l.mono (zL (zL c b) a)) (p.mono (zL (zL c b) a)) (q.mono (zL (zL c b) a)) a8) aJ
theorem aDQ {r_a r_b:aP} {c:Nat} {h:(List ((Int × Int) × Bool))} {j:Nat} {e y:Int} {R:Bool} (hm:iN r_a r_b h e y=some R) (hs:aD G K (L) w) (g:aN K a1 c2 r_a.L) (k:aN K a4 c5 r_a.E) (r:aN K a7 c8 r_b.L) (u:aN K a10 c11 r_b.E) (x:bZ K a13 c [zM (some j)]) (z:rdM K j h):
  Calls prog 166 ([zA #[i64 r_a.N,i64 r_a.I,zS a1 r_a.L.length c2,zS a4 r_a.E.length c5,i64 r_b.N,i64 r_b.I,zS a7 r_b.L.length c8,zS a10 r_b.E.length c11,Value.func (.func 131) #[] #[bR a13 c]],i64 e,i64 y,Value.func (.func 168) #[] #[]]:List Value).toArray w (dS fun v w'=>v=zB R/\aD G K (L) w'):=by
 refine cH func166 ?_;unfold iN at hm
 refine aC ?_;refine oZ fun J b8 V=>?_
 refine aC ?_;obtain ⟨Z,a0,hm⟩:=aB hm
 refine cG call75 (jH a0 V g k) ?_
 rintro _ b9 ⟨a2,a3,rfl,c0⟩
 refine aC ?_;refine aK [] (fun f w=>yV=some R/\aD G K (L) w) aJ ?_
 obtain ⟨c1,a5,ho⟩:=aB hm
 refine bY [1,2,3,4,14,15] a5 (fun l f w=>f 16=i64 l/\aD G K (aF 90 K a2 a3 Z::box J 179 [i64 r_a.N,i64 r_a.I,zS a1 r_a.L.length c2,zS a4 r_a.E.length c5,i64 r_b.N,i64 r_b.I,zS a7 r_b.L.length c8,zS a10 r_b.E.length c11,Value.func (.func 131) #[] #[bR a13 c]]::L) w) aJ ?_
 ·rintro l c3 f c4 hm hr ⟨a6,a8⟩
  unfold iR at hm
  refine aC ?_
  rcases aI hm with ⟨a9,hm⟩|⟨a9,hm⟩
  ·refine aC ?_;refine cR (aC ?_)
   obtain ⟨m,n,hm⟩:=aB hm
   have b0:=bC a8 (i:=0) rfl n
   refine aL (bV eU rfl b0 rfl rfl a6 n) (aC ?_);refine kK fun c6 c7 c9=>?_
   refine kZ fun d0 b1=>?_;refine aC ?_
   obtain ⟨d1,b,o,b2,d2⟩:=aD.lendBp b1 .head
   obtain ⟨d3,a,d4,d5,b3⟩:=aD.lendBp b2 zt1
   refine wW [(0,0),(1,0),(2,0),(3,0),(4,0),(5,0),(6,0),(7,0),(8,0),(9,0),(10,0),(11,0),(12,0),(13,1),(14,0)] fun d6 d=>?_;refine aC ?_
   refine bN rfl (fun _ ⟨_,d⟩=>dQ (t:=1) oG d (o.mono a) rfl rfl) ?_;obtain ⟨p,b4,hm⟩:=aB hm
   refine aC ?_;obtain ⟨d7,d8,b5⟩:=aN.el (sz:=1) rfl g b4
   cases b5
   refine aC ?_;refine bN rfl (fun _ ⟨_,d⟩=>dQ (t:=2) oG d (o.mono a) rfl rfl) (fF rfl ?_)
   obtain ⟨d9,b6,hm⟩:=aB hm
   refine eR (vs:=[zA #[i64 r_a.N,i64 r_a.I,zS a1 r_a.L.length c2,zS a4 r_a.E.length c5,i64 r_b.N,i64 r_b.I,zS a7 r_b.L.length c8,zS a10 r_b.E.length c11,Value.func (.func 131) #[] #[bR a13 c]],i64 e,i64 y,str p,i64 m.To]) (caps:=[]) (us:=[zA #[i64 r_a.N,i64 r_a.I,zS a1 r_a.L.length c2,zS a4 r_a.E.length c5,i64 r_b.N,i64 r_b.I,zS a7 r_b.L.length c8,zS a10 r_b.E.length c11,Value.func (.func 131) #[] #[bR a13 c]],i64 e,i64 y,str p,i64 m.To]) rfl call168 rfl rfl (aEO (r_a:=⟨r_a.N,r_a.I,r_a.L,r_a.E⟩) (r_b:=⟨r_b.N,r_b.I,r_b.L,r_b.E⟩) b6 d (g.mono (zL b a)) (k.mono (zL b a)) (r.mono (zL b a)) (u.mono (zL b a)) (x.mono (zL b a)) (z.mono (zL b a))) ?_
   rintro _ e0 ⟨rfl,q⟩
   refine aM (aG ⟨⟨_,q⟩,?_⟩)
   refine aC ?_;refine jE ?_
   have e1:=b3 _ _ q
   exact aJ
  ·exact aJ
theorem vN {r_a r_b:aP} {e:Nat} {h:(List ((Int × Int) × Bool))} {i:Nat} {kind d y:Int} {R:Bool} (hm:gT r_a r_b h kind d y=some R) (hs:aD G K (L) w) (p:aN K a1 c2 r_a.L) (q:aN K a4 c5 r_a.E) (r:aN K a7 c8 r_b.L) (u:aN K a10 c11 r_b.E) (b4:bZ K a13 e [zM (some i)]) (b5:rdM K i h):
  Calls prog 132 ([zA #[i64 r_a.N,i64 r_a.I,zS a1 r_a.L.length c2,zS a4 r_a.E.length c5,i64 r_b.N,i64 r_b.I,zS a7 r_b.L.length c8,zS a10 r_b.E.length c11,Value.func (.func 131) #[] #[bR a13 e]],i64 kind,i64 d,i64 y]:List Value).toArray w (dS fun v w'=>v=zB R/\aD G K (L) w'):=by
 refine cH func132 ?_;unfold gT at hm
 refine aC ?_;refine oZ fun x b6 z=>?_
 refine aC ?_;refine aW [1,2,3,4] (fun f w=>∃ j,iC r_a r_b h kind d y j=some R/\f 22=zB j/\aD G K (box x 179 [i64 r_a.N,i64 r_a.I,zS a1 r_a.L.length c2,zS a4 r_a.E.length c5,i64 r_b.N,i64 r_b.I,zS a7 r_b.L.length c8,zS a10 r_b.E.length c11,Value.func (.func 131) #[] #[bR a13 e]]::L) w) aJ ?_
 obtain ⟨b7,c,k,b8,l⟩:=aD.lendBp z .head
 refine wW [(0,0),(1,0),(2,0),(3,0),(4,0),(5,0),(7,0),(8,0),(9,0),(6,1),(10,1),(11,1),(12,0),(13,0)] fun b9 b=>?_;refine aC ?_
 rcases aI hm with ⟨a,hm⟩|⟨a,hm⟩
 ·refine jF rfl rfl rfl a (fun _ _=>cE (t':=0) aRb rfl rfl) (jF rfl rfl rfl a (fun _ ⟨_,b⟩=>sX (t:=0) (vs:=(zC r_a a1 c2 a4 c5)) sM b k rfl rfl rfl) (jF rfl rfl rfl a (fun _ _=>cC (v:=i64 d) rfl) (jF rfl rfl rfl a (fun _ _=>cE (t':=4) aRc rfl rfl) (jF rfl rfl rfl a (fun _ ⟨_,b⟩=>sX (t:=4) (vs:=(zC r_b a7 c8 a10 c11)) sM b k rfl rfl rfl) (jF rfl rfl rfl a (fun _ _=>cC (v:=i64 y) rfl) (fF rfl (aC ?_)))))))
  obtain ⟨c0,J,hm⟩:=aB hm
  refine cG call130 (kX J b (p.mono c) (q.mono c)) ?_
  rintro _ c1 ⟨c3,c4,rfl,m⟩
  refine aM (aG ⟨⟨_,m⟩,?_⟩)
  refine fF rfl (aC ?_);obtain ⟨c6,V,hm⟩:=aB hm
  refine cG call130 (kX V m (r.mono c) (u.mono c)) ?_
  rintro _ c7 ⟨c9,d0,rfl,n⟩
  refine aM (aG ⟨⟨_,n⟩,?_⟩)
  refine fF rfl (aC ?_);obtain ⟨d1,Z,a0,a2,a3⟩:=aD.lendSp n c zt1
  obtain ⟨d2,a5,a6,a8,a9⟩:=aD.lendSp a2 (zL c Z) .head
  obtain ⟨d3,b0,hm⟩:=aB hm
  refine cG call129 (iV b0 a8 (a0.mono a5) a6) ?_
  rintro _ d4 ⟨rfl,b1⟩
  have b2:=a9 _ _ b1
  have o:=a3 _ _ b2
  refine aM (aG ⟨⟨_,o⟩,?_⟩)
  refine jF rfl rfl rfl a (fun _ _=>aHw rfl) (aC ?_);refine jE ?_
  have d5:=l _ _ o
  exact aJ
 ·refine eO rfl rfl rfl (xB a) (eO rfl rfl rfl (xB a) (eO rfl rfl rfl (xB a) (eO rfl rfl rfl (xB a) (eO rfl rfl rfl (xB a) (eO rfl rfl rfl (xB a) (fF rfl ?_))))))
  iterate 1 refine cO ?_
  refine aM (aG ⟨⟨_,b⟩,?_⟩)
  refine fF rfl ?_
  iterate 1 refine cO ?_
  refine aM (aG ⟨⟨_,b⟩,?_⟩)
  refine fF rfl ?_
  iterate 1 refine cO ?_
  refine aM (aG ⟨⟨_,b⟩,?_⟩)
  refine eO rfl rfl rfl (xB a) (aC ?_);refine jE ?_
  have d6:=l _ _ b
  exact aJ
theorem aJV {a b:aP} {kind:Int} {R:((List ((Int × Int) × Bool)) × Int)} (hm:aBX a b kind=some R) (hs:aD G K (L) w) (h3:aN K a1 c2 a.L) (h6:aN K a4 c5 a.E) (h9:aN K a7 c8 b.L) (f6:aN K a10 c11 b.E):
  Calls prog 86 ([zA (zCa a a1 c2 a4 c5),zA (zCa b a7 c8 a10 c11),i64 kind]:List Value).toArray w (dS fun v w'=>∃ f7,v=Value.tuple #[zM (some f7),i64 R.2]/\aD G K (cZ f7 R.1::L) w'):=by
 let h:=(zC b a7 c8 a10 c11)
 let l:=(zC a a1 c2 a4 c5)
 refine cH func86 ?_;unfold aBX at hm
 refine aC ?_;refine oZ fun m p1 p2=>?_
 refine oZ fun o p3 i8=>?_;refine aC ?_
 refine aHB (Int × Int) Bool i8 ?_
 intro q i9 (p4:aD G K (cZ q ([]:(List ((Int × Int) × Bool)))::box o 27 h::box m 27 l::L) i9)
 refine kK fun c p5 p6=>?_;refine kZ fun p7 p8=>?_
 refine aC ?_;refine aK [2,3,4,8] (fun f w=>∃ (d8:(List ((Int × Int) × Bool))),aAy a b kind d8=some R/\aD G K (box c 137 [zM (some q)]::cZ q d8::box o 27 h::box m 27 l::L) w) ?_ ?_
 ·rintro f p9 ⟨d8,hm,q0⟩
  unfold aAy at hm
  refine aC ?_;refine aL (uZ (vs:=[(0,i64 a.I),(1,i64 b.I)]) (cs:=[i64 a.I,i64 b.I]) aBo aFz rfl (by kernel_rfl)) (kK fun r q1 q2=>?_)
  refine kZ fun q3 q4=>?_;refine aC ?_
  refine cR ?_;obtain ⟨q5,j0,ho⟩:=aB hm
  refine mW [2,3,4,8,11] j0 (fun d c1 a5 f w=>∃ e,f 12=i64 c1/\f 13=i64 a5/\aD G K (box r 102 [i64 a.I,i64 b.I]::box c 137 [zM (some e)]::cZ e d::box o 27 h::box m 27 l::L) w) aJ ?_
  ·rintro d c1 a5 c3 f q6 hm hr ⟨e,j1,f8,c4⟩
   unfold vI at hm
   refine aC ?_;refine aK [2,3,4,8,11,13] (fun f w=>∃ (d9:(List ((Int × Int) × Bool))) (e0:Int) (c6:Nat),aAw a5 d9 e0=some c3/\f 12=i64 e0/\aD G K (cZ c6 d9::box r 102 [i64 a.I,i64 b.I]::box c 137 [zM (some c6)]::box o 27 h::box m 27 l::L) w) ?_ ?_
   ·rintro f q7 ⟨d9,e0,c6,hm,j2,q8⟩
    unfold aAw at hm
    refine aC ?_;exact ⟨_,(zI hm).symm,aR,c6,j2,rfl,lI⟩
   refine sV [2,3,4,8,11,13] (fun f w=>∃ b2,qP a b kind d a5 b2=some c3/\f 12=i64 b2/\aD G K (box r 102 [i64 a.I,i64 b.I]::box c 137 [zM (some e)]::cZ e d::box o 27 h::box m 27 l::L) w) ?_ ?_
   ·rintro f q9 ⟨b2,hm,f9,e1⟩
    unfold qP at hm
    refine bS (aL (kH (us:=l) sM e1 (i:=4) rfl rfl rfl rfl) (aL (kH (us:=h) sM e1 (i:=3) rfl rfl rfl rfl) (aL (kI (vs:=[zP (some ⟨c,0,none⟩)]) rfl) (aL (jZ (vs:=[(0,zA (zCa a a1 c2 a4 c5)),(1,zA (zCa b a7 c8 a10 c11)),(2,Value.func (.func 131) #[] #[zP (some ⟨c,0,none⟩)])]) (cs:=[i64 a.N,i64 a.I,zS a1 a.L.length c2,zS a4 a.E.length c5,i64 b.N,i64 b.I,zS a7 b.L.length c8,zS a10 b.E.length c11,Value.func (.func 131) #[] #[zP (some ⟨c,0,none⟩)]]) bs_179 rfl (by kernel_rfl)) (fG (vs:=[i64 0,i64 0,zS none 0 0,zS none 0 0,i64 0,i64 0,zS none 0 0,zS none 0 0,Value.nilFunc]) zeroValue179 e1 rfl (fun y r0 j3=>(iS (i:=0) (ns:=[i64 a.N,i64 a.I,zS a1 a.L.length c2,zS a4 a.E.length c5,i64 b.N,i64 b.I,zS a7 b.L.length c8,zS a10 b.E.length c11,Value.func (.func 131) #[] #[zP (some ⟨c,0,none⟩)]]) (us:=[i64 a.N,i64 a.I,zS a1 a.L.length c2,zS a4 a.E.length c5,i64 b.N,i64 b.I,zS a7 b.L.length c8,zS a10 b.E.length c11,Value.func (.func 131) #[] #[zP (some ⟨c,0,none⟩)]]) sizeOf179 j3 rfl rfl rfl rfl rfl (lS rfl) rfl rfl (fun j4 (j5:aD G K (box y 179 [i64 a.N,i64 a.I,zS a1 a.L.length c2,zS a4 a.E.length c5,i64 b.N,i64 b.I,zS a7 b.L.length c8,zS a10 b.E.length c11,Value.func (.func 131) #[] #[zP (some ⟨c,0,none⟩)]]::box r 102 [i64 a.I,i64 b.I]::box c 137 [zM (some e)]::cZ e d::box o 27 h::box m 27 l::L) j4)=>(bF (bS (aHB (Int × Int) Bool j5 ?_)))))))))))
    intro x j6 (g0:aD G K (cZ x ([]:(List ((Int × Int) × Bool)))::box y 179 [i64 a.N,i64 a.I,zS a1 a.L.length c2,zS a4 a.E.length c5,i64 b.N,i64 b.I,zS a7 b.L.length c8,zS a10 b.E.length c11,Value.func (.func 131) #[] #[zP (some ⟨c,0,none⟩)]]::box r 102 [i64 a.I,i64 b.I]::box c 137 [zM (some e)]::cZ e d::box o 27 h::box m 27 l::L) j6)
    refine bH (v:=zM (some x)) (bF (bI (bS (aL (hY aMx g0 (i:=3) rfl rfl rfl) (WO_range (i:=4) runUnderlying137 g0 rfl rfl ?_)))))
    intro a2 j7 (g1:aD G K (cZ x ([]:(List ((Int × Int) × Bool)))::box y 179 [i64 a.N,i64 a.I,zS a1 a.L.length c2,zS a4 a.E.length c5,i64 b.N,i64 b.I,zS a7 b.L.length c8,zS a10 b.E.length c11,Value.func (.func 131) #[] #[zP (some ⟨c,0,none⟩)]]::box r 102 [i64 a.I,i64 b.I]::box c 137 [zM (some e)]::mpi a2 e d (List.map Prod.fst d) none::box o 27 h::box m 27 l::L) j7)
    refine bF (aK [2,3,4,8,11,12,13,15] (fun f w=>∃ (e2:(List ((Int × Int) × Bool))),aAx d a5 b2 e2=some c3/\aD G K (cZ x e2::box r 102 [i64 a.I,i64 b.I]::box c 137 [zM (some e)]::cZ e d::box o 27 h::box m 27 l::L) w) ?_ ?_)
    ·rintro f r1 ⟨e2,hm,e3⟩
     unfold aAx at hm
     refine aG (bI (bS (aU (v:=zM (some x)) (aL (R_lenM runUnderlying137 e3 (i:=0) rfl rfl) (aL (hY aMx e3 (i:=2) rfl rfl rfl) (aL (R_lenM runUnderlying137 e3 (i:=3) rfl rfl) (aL (aMg rfl rfl) (bF ?_))))))))
     rcases aI hm with ⟨j8,hm⟩|⟨j8,hm⟩
     ·exact aJ
     ·exact aJ
    have j9:=aD.keysM (i:=0) g1 rfl
    obtain ⟨r2,g2,hm⟩:=aB hm
    obtain ⟨g3,k0,hm⟩:=aB hm
    refine W_loopC (fun (n:Nat) f w=>∃ J a8 e4,List.Perm (J++a8) (List.map Prod.fst d)/\a8.length=n/\f 2=i64 kind/\f 3=zP (some ⟨m,0,none⟩)/\f 4=zP (some ⟨o,0,none⟩)/\f 8=zP (some ⟨c,0,none⟩)/\f 11=zP (some ⟨r,0,none⟩)/\f 12=i64 b2/\f 13=i64 a5/\f 14=zP (some ⟨y,0,none⟩)/\f 15=zM (some x)/\f 67=zP (some ⟨a2,0,none⟩)/\aD G K (cZ x (aJF (fA a b kind d) ([]:(List ((Int × Int) × Bool))) true J)::box y 179 [i64 a.N,i64 a.I,zS a1 a.L.length c2,zS a4 a.E.length c5,i64 b.N,i64 b.I,zS a7 b.L.length c8,zS a10 b.E.length c11,Value.func (.func 131) #[] #[zP (some ⟨c,0,none⟩)]]::box r 102 [i64 a.I,i64 b.I]::box c 137 [zM (some e)]::mpi a2 e d a8 e4::box o 27 h::box m 27 l::L) w) (List.length (List.map Prod.fst d)) ⟨[],_,_,List.Perm.refl _,rfl,rfl,rfl,rfl,rfl,rfl,f9,f8,rfl,rfl,rfl,g1⟩ ?_ ?_
    ·rintro f g4 ⟨J,a8,e4,b3,b4,b5,c7,c9,d0,d1,d2,d3,d4,b6,a9,g5⟩
     obtain rfl:=List.length_eq_zero_iff.1 b4
     refine bS (aL (R_nextN g5 (i:=4) rfl a9) (aL (cN rfl rfl) (bF (bI (bM (by decide:¬ false=true) rfl (wD (fH (fH ?_))))))))
     have k1:aD G K (cZ x (aJF (fA a b kind d) ([]:(List ((Int × Int) × Bool))) true J)::box y 179 [i64 a.N,i64 a.I,zS a1 a.L.length c2,zS a4 a.E.length c5,i64 b.N,i64 b.I,zS a7 b.L.length c8,zS a10 b.E.length c11,Value.func (.func 131) #[] #[zP (some ⟨c,0,none⟩)]]::box r 102 [i64 a.I,i64 b.I]::box c 137 [zM (some e)]::cZ e d::box o 27 h::box m 27 l::L) g4:=aD.endI (i:=4) g5 rfl
     have k2:aD G K (cZ x g3::box y 179 [i64 a.N,i64 a.I,zS a1 a.L.length c2,zS a4 a.E.length c5,i64 b.N,i64 b.I,zS a7 b.L.length c8,zS a10 b.E.length c11,Value.func (.func 131) #[] #[zP (some ⟨c,0,none⟩)]]::box r 102 [i64 a.I,i64 b.I]::box c 137 [zM (some e)]::cZ e d::box o 27 h::box m 27 l::L) g4:=aD.permM (i:=0) k1 rfl (accS_end j9 g2 k0 b3)
     exact qU (aG ⟨(kpc b5 rfl (kpc c7 rfl (kpc c9 rfl (kpc d0 rfl (kpc d1 rfl (kpc d2 f9 (kpc d3 f8 (kpc b6 rfl rfl)))))))),g3,hm,(aD.arr 2 [0] k2 rfl)⟩)
    ·rintro j f g6 ⟨J,a8,e4,b3,b4,b5,c7,c9,d0,d1,d2,d3,d4,b6,a9,k3⟩
     have k4:a8≠[]:=by rintro rfl;cases b4
     refine bS (WO_nextC k3 (i:=4) rfl k4 a9 ?_)
     intro p b7 b8 k5 b9 r3 (g7:aD G K (cZ x (aJF (fA a b kind d) ([]:(List ((Int × Int) × Bool))) true J)::box y 179 [i64 a.N,i64 a.I,zS a1 a.L.length c2,zS a4 a.E.length c5,i64 b.N,i64 b.I,zS a7 b.L.length c8,zS a10 b.E.length c11,Value.func (.func 131) #[] #[zP (some ⟨c,0,none⟩)]]::box r 102 [i64 a.I,i64 b.I]::box c 137 [zM (some e)]::mpi a2 e d b8 (some (p,b7))::box o 27 h::box m 27 l::L) k5)
     obtain ⟨k6,e5⟩:=mfil_at g2 b3 b9
     have a3:(fA a b kind d) p=some k6:=e5
     unfold fA at a3
     refine aL (cN rfl rfl) (bF (bI (cP (rfl:true=true) rfl (dD (aG (cR (bS (aL (R_entry g7 (i:=4) rfl a9) (aL (cN rfl rfl) (fG (vs:=[i64 0,i64 0]) zeroValue102 g7 rfl (fun g8 r4 k7=>(iS (i:=0) (ns:=[i64 p.1,i64 p.2]) (us:=[i64 p.1,i64 p.2]) sizeOf102 k7 rfl rfl rfl rfl rfl (lS rfl) rfl rfl ?_))))))))))))
     intro k8 (d5:aD G K (box g8 102 [i64 p.1,i64 p.2]::cZ x (aJF (fA a b kind d) ([]:(List ((Int × Int) × Bool))) true J)::box y 179 [i64 a.N,i64 a.I,zS a1 a.L.length c2,zS a4 a.E.length c5,i64 b.N,i64 b.I,zS a7 b.L.length c8,zS a10 b.E.length c11,Value.func (.func 131) #[] #[zP (some ⟨c,0,none⟩)]]::box r 102 [i64 a.I,i64 b.I]::box c 137 [zM (some e)]::mpi a2 e d b8 (some (p,b7))::box o 27 h::box m 27 l::L) k8)
     refine bF (bS (aL (kH (us:=[i64 a.N,i64 a.I,zS a1 a.L.length c2,zS a4 a.E.length c5,i64 b.N,i64 b.I,zS a7 b.L.length c8,zS a10 b.E.length c11,Value.func (.func 131) #[] #[zP (some ⟨c,0,none⟩)]]) ag_179 d5 (i:=2) rfl d4 rfl rfl) (gN b5 (aL (aKV (t':=0) (j:=0) aBo rfl rfl (by decide) (by decide) rfl) (aL (hY oG d5 (i:=0) rfl rfl rfl) (aL (aKV (t':=1) (j:=1) aBo rfl rfl (by decide) (by decide) rfl) (aL (hY oG d5 (i:=0) rfl rfl rfl) ?_)))))))
     obtain ⟨r5,d6,k9,l0,l1⟩:=aD.lendI (i:=5) d5 rfl
     obtain ⟨r6,c0,l2,l3,l4⟩:=aD.lendBp l0 zt4
     obtain ⟨r7,l5,a3⟩:=aB a3
     refine cG call132 (vN (r_a:=⟨a.N,a.I,a.L,a.E⟩) (r_b:=⟨b.N,b.I,b.L,b.E⟩) l5 l3 (h3.mono (zL d6 c0)) (h6.mono (zL d6 c0)) (h9.mono (zL d6 c0)) (f6.mono (zL d6 c0)) l2 (k9.mono c0)) ?_
     rintro _ g6 ⟨rfl,l6⟩
     have l7:=l4 _ _ l6
     have e6:=l1 _ _ l7
     refine bF ?_
     rcases aI a3 with ⟨e7,a3⟩|⟨e7,a3⟩
     ·refine cP e7 rfl (cK (gN b6 (aL (kH (us:=[i64 p.1,i64 p.2]) aKp e6 (i:=2) rfl rfl rfl rfl) (aHD (i:=3) (k:=p) (v:=true) runUnderlying137 aEj e6 rfl rfl rfl rfl rfl ?_))))
      intro g9 (l8:aD G K (mpi a2 e d b8 (some (p,b7))::box c 137 [zM (some e)]::box g8 102 [i64 p.1,i64 p.2]::cZ x (wV (aJF (fA a b kind d) ([]:(List ((Int × Int) × Bool))) true J) p true)::box y 179 [i64 a.N,i64 a.I,zS a1 a.L.length c2,zS a4 a.E.length c5,i64 b.N,i64 b.I,zS a7 b.L.length c8,zS a10 b.E.length c11,Value.func (.func 131) #[] #[zP (some ⟨c,0,none⟩)]]::box r 102 [i64 a.I,i64 b.I]::box o 27 h::box m 27 l::L) g9)
      refine aM (iP (aG ?_));obtain rfl:=zI a3
      have l9:aD G K (cZ x (aJF (fA a b kind d) ([]:(List ((Int × Int) × Bool))) true (J++[p]))::box y 179 [i64 a.N,i64 a.I,zS a1 a.L.length c2,zS a4 a.E.length c5,i64 b.N,i64 b.I,zS a7 b.L.length c8,zS a10 b.E.length c11,Value.func (.func 131) #[] #[zP (some ⟨c,0,none⟩)]]::box r 102 [i64 a.I,i64 b.I]::box c 137 [zM (some e)]::mpi a2 e d b8 (some (p,b7))::box o 27 h::box m 27 l::L) g9:=by rw [accS_t e5];exact (aD.arr 6 [3,4,5,1,0] l8 rfl)
      exact ⟨J++[p],_,_,aOB b3 b9,aQT b9 b4,b5,c7,c9,d0,d1,d2,d3,d4,b6,a9,l9⟩
     ·refine bM e7 rfl (dD (iP (aG ?_)));obtain rfl:=zI a3
      have m0:aD G K (cZ x (aJF (fA a b kind d) ([]:(List ((Int × Int) × Bool))) true (J++[p]))::box y 179 [i64 a.N,i64 a.I,zS a1 a.L.length c2,zS a4 a.E.length c5,i64 b.N,i64 b.I,zS a7 b.L.length c8,zS a10 b.E.length c11,Value.func (.func 131) #[] #[zP (some ⟨c,0,none⟩)]]::box r 102 [i64 a.I,i64 b.I]::box c 137 [zM (some e)]::mpi a2 e d b8 (some (p,b7))::box o 27 h::box m 27 l::L) g6:=by rw [accS_f e5];exact (aD.arr 6 [3,4,5,1,0] e6 rfl)
      exact ⟨J++[p],_,_,aOB b3 b9,aQT b9 b4,b5,c7,c9,d0,d1,d2,d3,d4,b6,a9,m0⟩
   refine bI (aW [2,3,4,8,11,12,13] (fun f w=>∃ h0,qQ a b kind d c1 a5 h0=some c3/\f 59=zB h0/\aD G K (box r 102 [i64 a.I,i64 b.I]::box c 137 [zM (some e)]::cZ e d::box o 27 h::box m 27 l::L) w) aJ (cK (gN j1 (aL (wZ rfl rfl) (aU (v:=zB (decide (c1 < 0))) ?_)))))
   rcases aI hm with ⟨b0,hm⟩|⟨b0,hm⟩
   ·exact aJs b0 rfl rfl (aL (hY aMx c4 (i:=1) rfl rfl rfl) (aJs b0 rfl rfl (aL (kH (us:=[i64 a.I,i64 b.I]) aKp c4 (i:=0) rfl rfl rfl rfl) (aJs b0 rfl rfl (aL (R_look1 (kv:=d) (k:=⟨a.I,b.I⟩) (z:=(false:Bool)) runUnderlying137 aEj zeroValue4 c4 (i:=2) rfl rfl rfl) (aJs b0 rfl rfl (aL (aHw rfl) (aL (aCM (v:=zB (!((mU d ⟨a.I,b.I⟩).getD false))) b0 rfl rfl) (bF ⟨aR,!((mU d ⟨a.I,b.I⟩).getD false),hm,rfl,c4⟩)))))))))
   ·exact aJ
 obtain ⟨r8,m1,ho⟩:=aB hm
 refine bQ [2,3,4,8,19] m1 (fun h1 V f w=>f 20=i64 V/\aD G K (box c 137 [zM (some q)]::cZ q h1::box o 27 h::box m 27 l::L) w) aJ ?_
 ·rintro h1 V h2 f r9 hm hr ⟨e8,m2⟩
  unfold mD at hm
  refine bS (aL (wZ e8 rfl) (bF (bI ?_)))
  rcases aI hm with ⟨h4,hm⟩|⟨h4,hm⟩
  ·refine cP h4 rfl (dD (aG (bI (aK [2,3,4,8,19,20] (fun f w=>∃ (e9:(List ((Int × Int) × Bool))),aAz V e9=some h2/\aD G K (box c 137 [zM (some q)]::cZ q e9::box o 27 h::box m 27 l::L) w) ?_ ?_))))
   ·rintro f s0 ⟨e9,hm,m3⟩
    unfold aAz at hm
    exact aG (cK (aL (uW e8 rfl) (aU (v:=i64 (wr (V+1))) (bF ⟨_,(zI hm).symm,aR,rfl,m3⟩))))
   refine bS (gN e8 (bH (v:=i64 V) (bF (bS (aL (cE (t':=0) aJI rfl rfl) (aL (hY oG m2 (i:=2) rfl rfl rfl) (aU (v:=i64 0) (bF (aK [2,3,4,8,19,20] (fun f w=>∃ (h5:(List ((Int × Int) × Bool))),aDo V h5=some h2/\aD G K (box c 137 [zM (some q)]::cZ q h5::box o 27 h::box m 27 l::L) w) aJ ?_)))))))));obtain ⟨s1,m4,ho⟩:=aB hm
   refine bQ [2,3,4,8,9,19,20,24] m4 (fun d7 Z f w=>f 25=i64 Z/\aD G K (box c 137 [zM (some q)]::cZ q d7::box o 27 h::box m 27 l::L) w) aJ ?_
   ·rintro d7 Z h7 f s2 hm hr ⟨f0,m5⟩
    unfold mC at hm
    refine bS (aL (wZ f0 rfl) (bF (bI ?_)))
    rcases aI hm with ⟨h8,hm⟩|⟨h8,hm⟩
    ·refine cP h8 rfl (dD (aG (bI (aK [2,3,4,8,9,19,20,24,25] (fun f w=>∃ (f1:(List ((Int × Int) × Bool))),tV Z f1=some h7/\aD G K (box c 137 [zM (some q)]::cZ q f1::box o 27 h::box m 27 l::L) w) ?_ ?_))))
     ·rintro f s3 ⟨f1,hm,m6⟩
      unfold tV at hm
      exact aG (cK (aL (uW f0 rfl) (aU (v:=i64 (wr (Z+1))) (bF ⟨_,(zI hm).symm,aR,rfl,m6⟩))))
     refine bS (gN f0 (bH (v:=i64 Z) (bF (bI (aW [2,3,4,8,9,10,19,20,24,25] (fun f w=>∃ f2,pJ V d7 Z f2=some h7/\f 38=zB f2/\aD G K (box c 137 [zM (some q)]::cZ q d7::box o 27 h::box m 27 l::L) w) ?_ ?_)))))
     ·rintro f s4 ⟨f2,hm,m7,i0⟩
      unfold pJ at hm
      refine aG ?_
      rcases aI hm with ⟨i1,hm⟩|⟨i1,hm⟩
      ·refine cP i1 m7 (cK (aL (hY aMx i0 (i:=0) rfl rfl rfl) (aU (v:=i64 V) (aU (v:=i64 Z) (aL (uZ (vs:=[(0,i64 V),(1,i64 Z)]) (cs:=[i64 V,i64 Z]) aBo aFz rfl (by kernel_rfl)) ?_)))));obtain ⟨i2,m8,hm⟩:=aB hm
       exact aHD (i:=1) (k:=⟨V,Z⟩) (v:=true) runUnderlying137 aEj i0 rfl rfl rfl rfl m8 (fun m9 (n0:aD G K (box c 137 [zM (some q)]::cZ q i2::box o 27 h::box m 27 l::L) m9)=>(aM (iP (aG ⟨aR,i2,hm,n0⟩))))
      ·exact aJ
     obtain ⟨s5,b1,n1,n2,i3⟩:=aD.lendBp m5 zt2
     obtain ⟨s6,a6,n3,s7,i4⟩:=aD.lendBp n2 zt2
     refine wW [(0,0),(1,0),(2,0),(3,0),(4,0),(6,0),(7,0),(5,1),(8,1),(9,1),(10,0)] fun s8 a0=>?_;refine bN rfl (fun _ _=>cC (v:=i64 kind) rfl) (bN rfl (fun _ _=>R_neq rfl rfl) (bN rfl (fun _ _=>cC (v:=zB (kind != 1)) rfl) ?_))
     rcases aI hm with ⟨u,hm⟩|⟨u,hm⟩
     ·refine eO rfl rfl rfl (xA u) (eO rfl rfl rfl (xA u) (eO rfl rfl rfl (xA u) (eO rfl rfl rfl (xA u) (fF rfl (jM (g:=30) u (by exact rfl) rfl (aM (aG ⟨⟨_,a0⟩,?_⟩)))))))
      refine fF rfl (jM (g:=30) u (by exact rfl) rfl (aM (aG ⟨⟨_,a0⟩,?_⟩)))
      refine fF rfl (jM (g:=30) u (by exact rfl) rfl (aM (aG ⟨⟨_,a0⟩,?_⟩)))
      refine bN rfl (fun _ _=>aCM (v:=zB true) u rfl rfl) (jE ?_)
      have n4:=i4 _ _ a0
      have s9:=i3 _ _ n4
      exact aJ
     ·refine jF rfl rfl rfl (oT u) (fun _ ⟨_,a0⟩=>sX (t:=0) (vs:=l) sM a0 n3 rfl rfl rfl) (jF rfl rfl rfl (oT u) (fun _ _=>cC (v:=i64 V) rfl) (jF rfl rfl rfl (oT u) (fun _ ⟨_,a0⟩=>sX (t:=0) (vs:=h) sM a0 (n1.mono a6) rfl rfl rfl) (jF rfl rfl rfl (oT u) (fun _ _=>cC (v:=i64 Z) rfl) (fF rfl (kG u rfl rfl ?_)))));obtain ⟨t0,n5,hm⟩:=aB hm
      refine cG call130 (kX n5 a0 (h3.mono (zL b1 a6)) (h6.mono (zL b1 a6))) ?_
      rintro _ t1 ⟨t2,t3,rfl,i5⟩
      refine aM (aG ⟨⟨_,i5⟩,?_⟩)
      refine fF rfl (kG u rfl rfl ?_);obtain ⟨t4,n6,hm⟩:=aB hm
      refine cG call130 (kX n6 i5 (h9.mono (zL b1 a6)) (f6.mono (zL b1 a6))) ?_
      rintro _ t5 ⟨t6,t7,rfl,i6⟩
      refine aM (aG ⟨⟨_,i6⟩,?_⟩)
      refine fF rfl (kG u rfl rfl ?_);obtain ⟨t8,n7,n8,n9,o0⟩:=aD.lendSp i6 (zL b1 a6) zt1
      obtain ⟨t9,o1,o2,o3,o4⟩:=aD.lendSp n9 (zL (zL b1 a6) n7) .head
      obtain ⟨o5,o6,hm⟩:=aB hm
      refine cG call129 (iV o6 o3 (n8.mono o1) o2) ?_
      rintro _ u0 ⟨rfl,o7⟩
      have o8:=o4 _ _ o7
      have i7:=o0 _ _ o8
      refine aM (aG ⟨⟨_,i7⟩,?_⟩)
      refine bN rfl (fun _ _=>aEc (v:=zB o5) u rfl rfl) (jE ?_)
      have o9:=i4 _ _ i7
      have u1:=i3 _ _ o9
      exact aJ
    ·exact aJ
  ·exact aJ
theorem aKA {a b:aP} {kind:Int} {R:Bool} (hm:aHS a b kind=some R) (c:aD G K (L) w) (d:aN K a1 c2 a.L) (e:aN K a4 c5 a.E) (g:aN K a7 c8 b.L) (h:aN K a10 c11 b.E):
  Calls prog 38 ([zA (zCa a a1 c2 a4 c5),zA (zCa b a7 c8 a10 c11),i64 kind]:List Value).toArray w (dS fun v w'=>v=zB R/\aD G K (L) w'):=by
 exact aJ
theorem aGo {a b:aP} {kind:Int} {R:(Bool × Int)} (hm:aFo a b kind=some R) (c:aD G K (L) w) (d:G.lo=0) (e:aN K a1 c2 a.L) (g:aN K a4 c5 a.E) (h:aN K a7 c8 b.L) (i:aN K a10 c11 b.E):
  Calls prog 11 ([zA (zCa a a1 c2 a4 c5),zA (zCa b a7 c8 a10 c11),i64 kind]:List Value).toArray w (dS fun v w'=>v=Value.tuple #[zB R.1,i64 R.2]/\aD G K (L) w'):=by
 exact aJ
end Gv
