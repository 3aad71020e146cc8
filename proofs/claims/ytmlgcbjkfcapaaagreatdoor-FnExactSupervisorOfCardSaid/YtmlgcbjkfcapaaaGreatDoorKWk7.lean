/- Walks, printed by program. -/
import Derived.Test.YtmlgcbjkfcapaaaGreatDoorKWk1
import Derived.Test.YtmlgcbjkfcapaaaGreatDoorKWk6
set_option linter.all false
namespace Gv
open Go.Value renaming slice→zS,bool→zB,pointer→zP,agg→zA,map→zM
open Option.some renaming inj→zI
open Gv.Hp renaming le_trans→zL,le_refl→zR
open Go Go.Proofs
set_option maxRecDepth 20000
set_option maxHeartbeats 40000000
variable {G:Env} {K:Hp} {L:List qD} {w:World} {a1 a4 a7 a10 a13 a16:Option Addr} {c2 c5 c8 c11 c14 c17:Nat}
theorem aCH {p:cA} {a:dB} {R:((List (List Int)) × (List ((Int × Int) × Int)) × (List (List aZ)))} (hs:aL G K (L) w) (h3:bT K a1 c2 p.S.L) (h6:bT K a4 c5 p.S.E) (h9:bT K a7 c8 p.M) (d7:bT K a10 c11 p.C) (d8:bT K a13 c14 a.L) (d9:bT K a16 c17 a.E) (hm:vL p a=some R):
  Calls Tryz.prog 62 ([zA (zEa p a1 c2 a4 c5 a7 c8 a10 c11),zA (zCa a a13 c14 a16 c17)]:List Value).toArray w (fV fun v w'=>∃ (K':Hp) (h0:Option Addr) (h1:Nat) (h2:Nat) (h4:Option Addr) (h5:Nat) (h7:Nat),v=zP (some ⟨h7,0,none⟩)∧Hp.le K K'∧aL G K' (aN 38 K' h0 h1 R.1::fH h2 R.2.1::aN 22 K' h4 h5 R.2.2::box h7 176 [i64 p.S.N,i64 p.S.I,zS a1 p.S.L.length c2,zS a4 p.S.E.length c5,zS a7 p.M.length c8,zS a10 p.C.length c11,i64 a.N,i64 a.I,zS a13 a.L.length c14,zS a16 a.E.length c17,zS h0 R.1.length h1,zM (some h2),zS h4 R.2.2.length h5]::L) w'):=by
 let a9:=(zE p a1 c2 a4 c5 a7 c8 a10 c11)
 let b0:=(zC a a13 c14 a16 c17)
 refine aT Tryz.func62 rfl (by kernel_rfl) (by show (2:Nat)≤43;decide) ?_
 unfold vL at hm
 refine aAZ (dW (v:=zA (zEa p a1 c2 a4 c5 a7 c8 a10 c11)) (vs:=a9) hs rfl rfl (fun b9 s1 k0=>(dW (v:=zA (zCa a a13 c14 a16 c17)) (vs:=b0) k0 rfl rfl (fun c0 s2 f4=>(pM (v:=zP none) (aAf (aAZ (aB (dK (us:=a9) xF f4 (i:=1) rfl rfl rfl rfl) (aB (dK (us:=b0) fD f4 (i:=0) rfl rfl rfl rfl) (aLT (Int × Int) Int f4 ?_))))))))))
 intro c k1 (k2:aL G K (fH c ([]:(List ((Int × Int) × Int)))::box c0 29 b0::box b9 44 a9::L) k1)
 refine aB (kU (vs:=[(0,zA (zEa p a1 c2 a4 c5 a7 c8 a10 c11)),(1,zA (zCa a a13 c14 a16 c17)),(3,zM (some c))]) (cs:=[i64 p.S.N,i64 p.S.I,zS a1 p.S.L.length c2,zS a4 p.S.E.length c5,zS a7 p.M.length c8,zS a10 p.C.length c11,i64 a.N,i64 a.I,zS a13 a.L.length c14,zS a16 a.E.length c17,zS none 0 0,zM (some c),zS none 0 0]) bs_176 rfl (by kernel_rfl)) (dW (v:=zA #[i64 p.S.N,i64 p.S.I,zS a1 p.S.L.length c2,zS a4 p.S.E.length c5,zS a7 p.M.length c8,zS a10 p.C.length c11,i64 a.N,i64 a.I,zS a13 a.L.length c14,zS a16 a.E.length c17,zS none 0 0,zM (some c),zS none 0 0]) (vs:=[i64 p.S.N,i64 p.S.I,zS a1 p.S.L.length c2,zS a4 p.S.E.length c5,zS a7 p.M.length c8,zS a10 p.C.length c11,i64 a.N,i64 a.I,zS a13 a.L.length c14,zS a16 a.E.length c17,zS none 0 0,zM (some c),zS none 0 0]) k2 rfl rfl (fun b s3 k3=>(cF (vs:=[zP none]) Tryz.zeroValue94 k3 rfl (fun g s4 k4=>(cC (i:=0) (ns:=[zP (some ⟨b,0,none⟩)]) (us:=[zP (some ⟨b,0,none⟩)]) Tryz.sizeOf94 k4 rfl rfl rfl rfl rfl (dL rfl) rfl rfl ?_)))))
 intro k5 (k6:aL G K (box g 94 [zP (some ⟨b,0,none⟩)]::box b 176 [i64 p.S.N,i64 p.S.I,zS a1 p.S.L.length c2,zS a4 p.S.E.length c5,zS a7 p.M.length c8,zS a10 p.C.length c11,i64 a.N,i64 a.I,zS a13 a.L.length c14,zS a16 a.E.length c17,zS none 0 0,zM (some c),zS none 0 0]::fH c ([]:(List ((Int × Int) × Int)))::box c0 29 b0::box b9 44 a9::L) k5)
 refine aAf (aAZ (aB (rL (vs:=[zP (some ⟨g,0,none⟩)]) rfl) (cF (vs:=[Value.nilFunc]) Tryz.zeroValue178 k6 rfl (fun b1 s5 k7=>(cC (i:=0) (ns:=[Value.func (.func 144) #[] #[zP (some ⟨g,0,none⟩)]]) (us:=[Value.func (.func 144) #[] #[zP (some ⟨g,0,none⟩)]]) Tryz.sizeOf178 k7 rfl rfl rfl rfl rfl (dL rfl) rfl rfl ?_)))))
 intro h8 (e3:aL G K (box b1 178 [Value.func (.func 144) #[] #[zP (some ⟨g,0,none⟩)]]::box g 94 [zP (some ⟨b,0,none⟩)]::box b 176 [i64 p.S.N,i64 p.S.I,zS a1 p.S.L.length c2,zS a4 p.S.E.length c5,zS a7 p.M.length c8,zS a10 p.C.length c11,i64 a.N,i64 a.I,zS a13 a.L.length c14,zS a16 a.E.length c17,zS none 0 0,zM (some c),zS none 0 0]::fH c ([]:(List ((Int × Int) × Int)))::box c0 29 b0::box b9 44 a9::L) h8)
 refine aAf (aAZ (aB (bR sc_178 e3 (i:=0) rfl rfl rfl) (aB (bB (t':=0) iZ rfl rfl) (aB (bB (t':=1) rM rfl rfl) (aB (bR cP e3 (i:=5) rfl rfl rfl) (aB (bB (t':=1) rM rfl rfl) (aB (bR cP e3 (i:=4) rfl rfl rfl) (aB (aBS (vs:=[(0,i64 p.S.I),(1,i64 a.I)]) (cs:=[i64 p.S.I,i64 a.I]) aDP aFI rfl (by kernel_rfl)) ?_))))))))
 have k8:=aL.nil (α:=(List Int)) e3 38 K
 have k9:=aL.nil (α:=(List aZ)) k8 22 K
 have l0:aL G K (aN 38 K none 0 ([]:List (List Int))::fH c ([]:(List ((Int × Int) × Int)))::aN 22 K none 0 ([]:List (List aZ))::box b 176 [i64 p.S.N,i64 p.S.I,zS a1 p.S.L.length c2,zS a4 p.S.E.length c5,zS a7 p.M.length c8,zS a10 p.C.length c11,i64 a.N,i64 a.I,zS a13 a.L.length c14,zS a16 a.E.length c17,zS none 0 0,zM (some c),zS none 0 0]::box g 94 [zP (some ⟨b,0,none⟩)]::box b1 178 [Value.func (.func 144) #[] #[zP (some ⟨g,0,none⟩)]]::box c0 29 b0::box b9 44 a9::L) h8:=(aL.arr 6 [1,5,0,4,3,2] k9 rfl)
 obtain ⟨J,l1,hm⟩:=aI hm
 refine kH (vs:=[zA #[i64 p.S.I,i64 a.I],zS none 0 0]) (caps:=[zP (some ⟨g,0,none⟩)]) (us:=[zA #[i64 p.S.I,i64 a.I],zS none 0 0,zP (some ⟨g,0,none⟩)]) rfl Tryz.call144 rfl rfl (kO (Kf:=K) (pair:=⟨p.S.I,a.I⟩) (path:=[]) (p10_:=[]) (p12_:=[]) l0 (zR _) (aHS (α:=aZ) _) h3 h6 h9 d7 d8 d9 l1) ?_
 rintro _ s6 ⟨d0,b2,b3,b4,b5,rfl,r,l2⟩
 refine aAf (aH (aAZ (cF (vs:=[i64 0]) Tryz.zeroValue3 l2 rfl (fun e0 s7 l3=>(cC (i:=0) (ns:=[i64 0]) (us:=[i64 0]) Tryz.sizeOf3 l3 rfl rfl rfl rfl rfl (dL rfl) rfl rfl (fun e4 (l4:aL G d0 (box e0 3 [i64 0]::aN 38 d0 b2 b3 J.1::fH c J.2.1::aN 22 d0 b4 b5 J.2.2::box b 176 [i64 p.S.N,i64 p.S.I,zS a1 p.S.L.length c2,zS a4 p.S.E.length c5,zS a7 p.M.length c8,zS a10 p.C.length c11,i64 a.N,i64 a.I,zS a13 a.L.length c14,zS a16 a.E.length c17,zS b2 J.1.length b3,zM (some c),zS b4 J.2.2.length b5]::box g 94 [zP (some ⟨b,0,none⟩)]::box b1 178 [Value.func (.func 144) #[] #[zP (some ⟨g,0,none⟩)]]::box c0 29 b0::box b9 44 a9::L) e4)=>(aAf (bD (fun f w=>∃ (d2:Hp) (e5:List (List Int)) (f5:(List ((Int × Int) × Int))) (e6:List (List aZ)) (e7:Option Addr) (e8:Nat) (e9:Option Addr) (f0:Nat),Hp.le d0 d2∧wV e5 f5 e6=some R∧f 5=zP (some ⟨g,0,none⟩)∧aL G d2 (aN 22 d2 e9 f0 e6::aN 38 d2 e7 e8 e5::fH c f5::box b 176 [i64 p.S.N,i64 p.S.I,zS a1 p.S.L.length c2,zS a4 p.S.E.length c5,zS a7 p.M.length c8,zS a10 p.C.length c11,i64 a.N,i64 a.I,zS a13 a.L.length c14,zS a16 a.E.length c17,zS e7 e5.length e8,zM (some c),zS e9 e6.length f0]::box g 94 [zP (some ⟨b,0,none⟩)]::L) w) ?_ ?_))))))))
 ·rintro f s8 ⟨d2,e5,f5,e6,e7,e8,e9,f0,l5,hm,l6,i0⟩
  unfold wV at hm
  refine aA (aAZ (aB (bR qH i0 (i:=4) rfl l6 rfl) (pM (v:=zP (some ⟨b,0,none⟩)) (aAf ?_))))
  cases zI hm
  exact bF (bC Tryz.results62 rfl ⟨d2,e7,e8,c,e9,f0,b,rfl,(zL r l5),(aL.arr 5 [1,2,0,3] i0 rfl)⟩)
 obtain ⟨c1,m,f1,f6,_⟩:=aL.lendB (i:=6) l4 rfl
 replace f6:aL G c1 (box e0 3 [i64 0]::aN 38 d0 b2 b3 J.1::fH c J.2.1::aN 22 d0 b4 b5 J.2.2::box b 176 [i64 p.S.N,i64 p.S.I,zS a1 p.S.L.length c2,zS a4 p.S.E.length c5,zS a7 p.M.length c8,zS a10 p.C.length c11,i64 a.N,i64 a.I,zS a13 a.L.length c14,zS a16 a.E.length c17,zS b2 J.1.length b3,zM (some c),zS b4 J.2.2.length b5]::box g 94 [zP (some ⟨b,0,none⟩)]::box c0 29 b0::box b9 44 a9::L) e4:=f6
 have l8:aL G c1 (box e0 3 [i64 0]::aN 38 c1 b2 b3 J.1::fH c J.2.1::aN 22 d0 b4 b5 J.2.2::box b 176 [i64 p.S.N,i64 p.S.I,zS a1 p.S.L.length c2,zS a4 p.S.E.length c5,zS a7 p.M.length c8,zS a10 p.C.length c11,i64 a.N,i64 a.I,zS a13 a.L.length c14,zS a16 a.E.length c17,zS b2 J.1.length b3,zM (some c),zS b4 J.2.2.length b5]::box g 94 [zP (some ⟨b,0,none⟩)]::box c0 29 b0::box b9 44 a9::L) e4:=aL.weak (i:=1) f6 rfl (fun _ h=>aN.mono m h)
 have l9:aL G c1 (box e0 3 [i64 0]::aN 38 c1 b2 b3 J.1::fH c J.2.1::aN 22 c1 b4 b5 J.2.2::box b 176 [i64 p.S.N,i64 p.S.I,zS a1 p.S.L.length c2,zS a4 p.S.E.length c5,zS a7 p.M.length c8,zS a10 p.C.length c11,i64 a.N,i64 a.I,zS a13 a.L.length c14,zS a16 a.E.length c17,zS b2 J.1.length b3,zM (some c),zS b4 J.2.2.length b5]::box g 94 [zP (some ⟨b,0,none⟩)]::box c0 29 b0::box b9 44 a9::L) e4:=aL.weak (i:=3) l8 rfl (fun _ h=>aN.mono m h)
 obtain ⟨s9,m0,hm⟩:=aI hm
 refine cD m0 (fun (s:(List (List Int) × (List ((Int × Int) × Int)) × List (List aZ) × Int)) f w=>match s with|(n,Z,o,a0)=>∃ (V:Hp) (u:Option Addr) (x:Nat) (y:Option Addr) (z:Nat) (a6:Nat),Hp.le c1 V∧f 5=zP (some ⟨g,0,none⟩)∧f 6=bY (some ⟨b1,0,none⟩) 0∧f 7=zP (some ⟨a6,0,none⟩)∧aL G V (box a6 3 [i64 a0]::aN 38 V u x n::fH c Z::aN 22 V y z o::box b 176 [i64 p.S.N,i64 p.S.I,zS a1 p.S.L.length c2,zS a4 p.S.E.length c5,zS a7 p.M.length c8,zS a10 p.C.length c11,i64 a.N,i64 a.I,zS a13 a.L.length c14,zS a16 a.E.length c17,zS u n.length x,zM (some c),zS y o.length z]::box g 94 [zP (some ⟨b,0,none⟩)]::L) w) ?_ ?_
 ·exact ⟨c1,b2,b3,b4,b5,e0,(zR _),rfl,(aFu rfl),rfl,(aL.arr 8 [0,1,2,3,4,5] l9 rfl)⟩
 ·rintro ⟨n,Z,o,a0⟩ i1 f t0 l m1 ⟨V,u,x,y,z,a6,k,a2,e1,d1,a8⟩
  replace l:oW p a n Z o a0=some i1:=l
  unfold oW at l
  refine aH (aH (cT (C:=fun w'=>aL G V (box a6 3 [i64 a0]::aN 38 V u x n::fH c Z::aN 22 V y z o::box b 176 [i64 p.S.N,i64 p.S.I,zS a1 p.S.L.length c2,zS a4 p.S.E.length c5,zS a7 p.M.length c8,zS a10 p.C.length c11,i64 a.N,i64 a.I,zS a13 a.L.length c14,zS a16 a.E.length c17,zS u n.length x,zM (some c),zS y o.length z]::box g 94 [zP (some ⟨b,0,none⟩)]::L) w') bK (by kernel_rfl) (aL.mono a8 (dE.drew _)) (aQ (fun _ a8=>bR sc_3 a8 (i:=0) rfl d1 rfl) (aQ (fun _ a8=>bR qH a8 (i:=5) rfl a2 rfl) (aQ (fun _ a8=>dJ rfl) (aQ (fun _ a8=>bB (t':=10) sE rfl rfl) (aQ (fun _ a8=>bR qC a8 (i:=4) rfl rfl rfl) (aQ (fun _ a8=>bQ (len:=n.length) fX rfl) (aQ (fun _ a8=>cJ rfl rfl) (dC (fun m2 i2=>(aA ?_))))))))))))
  rcases aK l with ⟨f7,l⟩|⟨f7,l⟩
  ·refine aO f7 rfl (aW (aA (aH (cU (cS (fun f w=>∃ (a3:Hp) (b6:List (List Int)) (d3:(List ((Int × Int) × Int))) (b7:List (List aZ)) (c3:Option Addr) (c4:Nat) (c6:Option Addr) (c7:Nat),Hp.le V a3∧aBf a0 b6 d3 b7=some i1∧f 5=zP (some ⟨g,0,none⟩)∧f 6=bY (some ⟨b1,0,none⟩) 0∧f 7=bY (some ⟨a6,0,none⟩) 0∧fW a3 (some ⟨a6,0,none⟩) 0 [i64 a0]∧aL G a3 (aN 22 a3 c6 c7 b7::aN 38 a3 c3 c4 b6::fH c d3::box b 176 [i64 p.S.N,i64 p.S.I,zS a1 p.S.L.length c2,zS a4 p.S.E.length c5,zS a7 p.M.length c8,zS a10 p.C.length c11,i64 a.N,i64 a.I,zS a13 a.L.length c14,zS a16 a.E.length c17,zS c3 b6.length c4,zM (some c),zS c6 b7.length c7]::box g 94 [zP (some ⟨b,0,none⟩)]::L) w) ?_ ?_)))))
   ·rintro f t1 ⟨a3,b6,d3,b7,c3,c4,c6,c7,m3,l,m4,m5,m6,m7,i3⟩
    unfold aBf at l
    exact bG (aA (aH (aAZ (aB (bH (t:=0) sc_3 i3 m7 m6 rfl) (aAf (aC (cF (vs:=[i64 0]) Tryz.zeroValue3 i3 rfl (fun f8 t2 m8=>(cC (i:=0) (ns:=[i64 a0]) (us:=[i64 a0]) Tryz.sizeOf3 m8 rfl rfl rfl rfl rfl (dL rfl) rfl rfl (fun m9 (i4:aL G a3 (box f8 3 [i64 a0]::aN 22 a3 c6 c7 b7::aN 38 a3 c3 c4 b6::fH c d3::box b 176 [i64 p.S.N,i64 p.S.I,zS a1 p.S.L.length c2,zS a4 p.S.E.length c5,zS a7 p.M.length c8,zS a10 p.C.length c11,i64 a.N,i64 a.I,zS a13 a.L.length c14,zS a16 a.E.length c17,zS c3 b6.length c4,zM (some c),zS c6 b7.length c7]::box g 94 [zP (some ⟨b,0,none⟩)]::L) m9)=>(aAf (aC (aB (bR sc_3 i4 (i:=0) rfl rfl rfl) (aB (cX rfl rfl) (cC (i:=0) (ns:=[i64 (wr (a0+1))]) (us:=[i64 (wr (a0+1))]) Tryz.sizeOf3 i4 rfl rfl rfl rfl rfl (dL rfl) rfl rfl (fun n0 (n1:aL G a3 (box f8 3 [i64 (wr (a0+1))]::aN 22 a3 c6 c7 b7::aN 38 a3 c3 c4 b6::fH c d3::box b 176 [i64 p.S.N,i64 p.S.I,zS a1 p.S.L.length c2,zS a4 p.S.E.length c5,zS a7 p.M.length c8,zS a10 p.C.length c11,i64 a.N,i64 a.I,zS a13 a.L.length c14,zS a16 a.E.length c17,zS c3 b6.length c4,zM (some c),zS c6 b7.length c7]::box g 94 [zP (some ⟨b,0,none⟩)]::L) n0)=>(aAf ⟨(b6,d3,b7,wr (a0+1)),(zI l).symm,a3,c3,c4,c6,c7,f8,(zL k m3),m4,m5,rfl,(aL.arr 4 [0,2,3,1] n1 rfl)⟩)))))))))))))))))
   obtain ⟨q,d,b8,f9,_⟩:=aL.lendB (i:=0) i2 rfl
   replace f9:aL G q (aN 38 V u x n::fH c Z::aN 22 V y z o::box b 176 [i64 p.S.N,i64 p.S.I,zS a1 p.S.L.length c2,zS a4 p.S.E.length c5,zS a7 p.M.length c8,zS a10 p.C.length c11,i64 a.N,i64 a.I,zS a13 a.L.length c14,zS a16 a.E.length c17,zS u n.length x,zM (some c),zS y o.length z]::box g 94 [zP (some ⟨b,0,none⟩)]::L) m2:=f9
   refine aAg (C:=fun w'=>∃ L',aL G q L' w') [] bK (by kernel_rfl) (fun c9 n2=>?_)
   have e:=aL.mono f9 n2
   refine gN (i:=5) rfl (by kernel_rfl) ⟨_,e⟩ (fun _ ⟨_,e⟩=>bH (t:=0) sc_3 e b8 (aFu d1) rfl) (gN (i:=8) rfl (by kernel_rfl) ⟨_,e⟩ (fun _ _=>rL (vs:=[bY (some ⟨b1,0,none⟩) 0,zP (some ⟨g,0,none⟩),bY (some ⟨a6,0,none⟩) 0]) (lst3 e1 a2 (aFu d1))) (qE (i:=0) (j:=1) (by kernel_rfl) rfl rfl ?_ ?_))
   ·refine aB (bR qH e (i:=4) rfl a2 rfl) (aF (aA ⟨fun _=>⟨_,e⟩,?_⟩))
    refine cW (i:=1) (by kernel_rfl) rfl (aB (bR qH e (i:=4) rfl a2 rfl) (aF (aA ⟨fun _=>⟨_,e⟩,?_⟩)))
    refine gN (i:=2) rfl (by kernel_rfl) ⟨_,e⟩ (fun _ _=>dJ rfl) (gN (i:=3) rfl (by kernel_rfl) ⟨_,e⟩ (fun _ _=>bB (t':=10) sE rfl rfl) (cW (i:=4) (by kernel_rfl) rfl (aB (bR qC e (i:=3) rfl rfl rfl) (aF (aA ⟨fun _=>⟨_,e⟩,?_⟩)))))
    obtain ⟨i5,g0,l⟩:=aI l
    have n3:=cG e (i:=0) rfl g0
    refine gN (i:=6) rfl (by kernel_rfl) ⟨_,e⟩ (fun _ _=>dA fX rfl n3 rfl rfl rfl g0) (cW (i:=7) (by kernel_rfl) rfl ?_)
    obtain ⟨t3,n4,n5⟩:=aBc (sz:=1) rfl e (i:=0) rfl g0
    obtain ⟨i6,i7,rfl,n6⟩:=n5
    refine aB (aEa (t:=0) (v:=zS i6 i5.length i7) mM n4 rfl rfl) (aF (aA ⟨fun _=>⟨_,e⟩,?_⟩))
    refine cW (i:=9) (by kernel_rfl) rfl ?_
    have n7:aL G q (aN 38 q u x n::fH c Z::aN 22 V y z o::box b 176 [i64 p.S.N,i64 p.S.I,zS a1 p.S.L.length c2,zS a4 p.S.E.length c5,zS a7 p.M.length c8,zS a10 p.C.length c11,i64 a.N,i64 a.I,zS a13 a.L.length c14,zS a16 a.E.length c17,zS u n.length x,zM (some c),zS y o.length z]::box g 94 [zP (some ⟨b,0,none⟩)]::L) c9:=aL.weak (i:=0) e rfl (fun _ h=>aN.mono d h)
    have n8:aL G q (aN 38 q u x n::fH c Z::aN 22 q y z o::box b 176 [i64 p.S.N,i64 p.S.I,zS a1 p.S.L.length c2,zS a4 p.S.E.length c5,zS a7 p.M.length c8,zS a10 p.C.length c11,i64 a.N,i64 a.I,zS a13 a.L.length c14,zS a16 a.E.length c17,zS u n.length x,zM (some c),zS y o.length z]::box g 94 [zP (some ⟨b,0,none⟩)]::L) c9:=aL.weak (i:=2) n7 rfl (fun _ h=>aN.mono d h)
    obtain ⟨g1,n9,l⟩:=aI l
    refine aU (vs:=[zP (some ⟨b,0,none⟩),zS i6 i5.length i7,Value.func (.func 146) #[] #[bY (some ⟨b1,0,none⟩) 0,zP (some ⟨g,0,none⟩),bY (some ⟨a6,0,none⟩) 0]]) Tryz.call145 rfl (pF (Kf:=q) n8 (zR _) (h3.mono (zL (zL (zL r m) k) d)) (h6.mono (zL (zL (zL r m) k) d)) (h9.mono (zL (zL (zL r m) k) d)) (d7.mono (zL (zL (zL r m) k) d)) (d8.mono (zL (zL (zL r m) k) d)) (d9.mono (zL (zL (zL r m) k) d)) (n6.mono d) (f1.mono (zL k d)) b8 n9) ?_
    rintro _ t4 ⟨o0,o1,o2,o3,o4,rfl,g2,i8⟩
    refine aF (aA ⟨fun _=>⟨_,(aL.weakK i8 g2)⟩,?_⟩)
    exact kQ (by kernel_rfl) (aA ⟨o0,g1.1,g1.2.1,g1.2.2,o1,o2,o3,o4,(zL d g2),l,a2,e1,(aFu d1),(b8.mono g2),(aL.arr 3 [2,0,1] i8 rfl)⟩)
   ·refine aB (bR qH e (i:=4) rfl a2 rfl) (aF (aA ⟨fun _=>⟨_,e⟩,?_⟩))
    refine gN (i:=2) rfl (by kernel_rfl) ⟨_,e⟩ (fun _ _=>dJ rfl) (gN (i:=3) rfl (by kernel_rfl) ⟨_,e⟩ (fun _ _=>bB (t':=10) sE rfl rfl) (qE (i:=0) (j:=4) (by kernel_rfl) rfl rfl ?_ ?_))
    ·refine aB (bR qH e (i:=4) rfl a2 rfl) (aF (aA ⟨fun _=>⟨_,e⟩,?_⟩))
     refine cW (i:=4) (by kernel_rfl) rfl (aB (bR qC e (i:=3) rfl rfl rfl) (aF (aA ⟨fun _=>⟨_,e⟩,?_⟩)))
     obtain ⟨i9,g3,l⟩:=aI l
     have o5:=cG e (i:=0) rfl g3
     refine gN (i:=6) rfl (by kernel_rfl) ⟨_,e⟩ (fun _ _=>dA fX rfl o5 rfl rfl rfl g3) (cW (i:=7) (by kernel_rfl) rfl ?_)
     obtain ⟨t5,o6,o7⟩:=aBc (sz:=1) rfl e (i:=0) rfl g3
     obtain ⟨j0,j1,rfl,o8⟩:=o7
     refine aB (aEa (t:=0) (v:=zS j0 i9.length j1) mM o6 rfl rfl) (aF (aA ⟨fun _=>⟨_,e⟩,?_⟩))
     refine cW (i:=9) (by kernel_rfl) rfl ?_
     have o9:aL G q (aN 38 q u x n::fH c Z::aN 22 V y z o::box b 176 [i64 p.S.N,i64 p.S.I,zS a1 p.S.L.length c2,zS a4 p.S.E.length c5,zS a7 p.M.length c8,zS a10 p.C.length c11,i64 a.N,i64 a.I,zS a13 a.L.length c14,zS a16 a.E.length c17,zS u n.length x,zM (some c),zS y o.length z]::box g 94 [zP (some ⟨b,0,none⟩)]::L) c9:=aL.weak (i:=0) e rfl (fun _ h=>aN.mono d h)
     have p0:aL G q (aN 38 q u x n::fH c Z::aN 22 q y z o::box b 176 [i64 p.S.N,i64 p.S.I,zS a1 p.S.L.length c2,zS a4 p.S.E.length c5,zS a7 p.M.length c8,zS a10 p.C.length c11,i64 a.N,i64 a.I,zS a13 a.L.length c14,zS a16 a.E.length c17,zS u n.length x,zM (some c),zS y o.length z]::box g 94 [zP (some ⟨b,0,none⟩)]::L) c9:=aL.weak (i:=2) o9 rfl (fun _ h=>aN.mono d h)
     obtain ⟨g4,p1,l⟩:=aI l
     refine aU (vs:=[zP (some ⟨b,0,none⟩),zS j0 i9.length j1,Value.func (.func 146) #[] #[bY (some ⟨b1,0,none⟩) 0,zP (some ⟨g,0,none⟩),bY (some ⟨a6,0,none⟩) 0]]) Tryz.call145 rfl (pF (Kf:=q) p0 (zR _) (h3.mono (zL (zL (zL r m) k) d)) (h6.mono (zL (zL (zL r m) k) d)) (h9.mono (zL (zL (zL r m) k) d)) (d7.mono (zL (zL (zL r m) k) d)) (d8.mono (zL (zL (zL r m) k) d)) (d9.mono (zL (zL (zL r m) k) d)) (o8.mono d) (f1.mono (zL k d)) b8 p1) ?_
     rintro _ t6 ⟨p2,p3,p4,p5,p6,rfl,g5,j2⟩
     refine aF (aA ⟨fun _=>⟨_,(aL.weakK j2 g5)⟩,?_⟩)
     exact kQ (by kernel_rfl) (aA ⟨p2,g4.1,g4.2.1,g4.2.2,p3,p4,p5,p6,(zL d g5),l,a2,e1,(aFu d1),(b8.mono g5),(aL.arr 3 [2,0,1] j2 rfl)⟩)
    ·refine aB (bR qC e (i:=3) rfl rfl rfl) (aF (aA ⟨fun _=>⟨_,e⟩,?_⟩))
     obtain ⟨f2,f3,l⟩:=aI l
     have p7:=cG e (i:=0) rfl f3
     refine gN (i:=6) rfl (by kernel_rfl) ⟨_,e⟩ (fun _ _=>dA fX rfl p7 rfl rfl rfl f3) (qE (i:=0) (j:=7) (by kernel_rfl) rfl rfl ?_ ?_)
     ·refine aB (bR qH e (i:=4) rfl a2 rfl) (aF (aA ⟨fun _=>⟨_,e⟩,?_⟩))
      refine cW (i:=7) (by kernel_rfl) rfl ?_
      obtain ⟨t7,p8,p9⟩:=aBc (sz:=1) rfl e (i:=0) rfl f3
      obtain ⟨j3,j4,rfl,q0⟩:=p9
      refine aB (aEa (t:=0) (v:=zS j3 f2.length j4) mM p8 rfl rfl) (aF (aA ⟨fun _=>⟨_,e⟩,?_⟩))
      refine cW (i:=9) (by kernel_rfl) rfl ?_
      have q1:aL G q (aN 38 q u x n::fH c Z::aN 22 V y z o::box b 176 [i64 p.S.N,i64 p.S.I,zS a1 p.S.L.length c2,zS a4 p.S.E.length c5,zS a7 p.M.length c8,zS a10 p.C.length c11,i64 a.N,i64 a.I,zS a13 a.L.length c14,zS a16 a.E.length c17,zS u n.length x,zM (some c),zS y o.length z]::box g 94 [zP (some ⟨b,0,none⟩)]::L) c9:=aL.weak (i:=0) e rfl (fun _ h=>aN.mono d h)
      have q2:aL G q (aN 38 q u x n::fH c Z::aN 22 q y z o::box b 176 [i64 p.S.N,i64 p.S.I,zS a1 p.S.L.length c2,zS a4 p.S.E.length c5,zS a7 p.M.length c8,zS a10 p.C.length c11,i64 a.N,i64 a.I,zS a13 a.L.length c14,zS a16 a.E.length c17,zS u n.length x,zM (some c),zS y o.length z]::box g 94 [zP (some ⟨b,0,none⟩)]::L) c9:=aL.weak (i:=2) q1 rfl (fun _ h=>aN.mono d h)
      obtain ⟨g6,q3,l⟩:=aI l
      refine aU (vs:=[zP (some ⟨b,0,none⟩),zS j3 f2.length j4,Value.func (.func 146) #[] #[bY (some ⟨b1,0,none⟩) 0,zP (some ⟨g,0,none⟩),bY (some ⟨a6,0,none⟩) 0]]) Tryz.call145 rfl (pF (Kf:=q) q2 (zR _) (h3.mono (zL (zL (zL r m) k) d)) (h6.mono (zL (zL (zL r m) k) d)) (h9.mono (zL (zL (zL r m) k) d)) (d7.mono (zL (zL (zL r m) k) d)) (d8.mono (zL (zL (zL r m) k) d)) (d9.mono (zL (zL (zL r m) k) d)) (q0.mono d) (f1.mono (zL k d)) b8 q3) ?_
      rintro _ t8 ⟨q4,q5,q6,q7,q8,rfl,g7,j5⟩
      refine aF (aA ⟨fun _=>⟨_,(aL.weakK j5 g7)⟩,?_⟩)
      exact kQ (by kernel_rfl) (aA ⟨q4,g6.1,g6.2.1,g6.2.2,q5,q6,q7,q8,(zL d g7),l,a2,e1,(aFu d1),(b8.mono g7),(aL.arr 3 [2,0,1] j5 rfl)⟩)
     ·obtain ⟨t9,q9,r0⟩:=aBc (sz:=1) rfl e (i:=0) rfl f3
      obtain ⟨j6,j7,rfl,r1⟩:=r0
      refine aB (aEa (t:=0) (v:=zS j6 f2.length j7) mM q9 rfl rfl) (aF (aA ⟨fun _=>⟨_,e⟩,?_⟩))
      refine cW (i:=0) (by kernel_rfl) rfl (aB (bR qH e (i:=4) rfl a2 rfl) (aF (aA ⟨fun _=>⟨_,e⟩,?_⟩)))
      refine cW (i:=9) (by kernel_rfl) rfl ?_
      have r2:aL G q (aN 38 q u x n::fH c Z::aN 22 V y z o::box b 176 [i64 p.S.N,i64 p.S.I,zS a1 p.S.L.length c2,zS a4 p.S.E.length c5,zS a7 p.M.length c8,zS a10 p.C.length c11,i64 a.N,i64 a.I,zS a13 a.L.length c14,zS a16 a.E.length c17,zS u n.length x,zM (some c),zS y o.length z]::box g 94 [zP (some ⟨b,0,none⟩)]::L) c9:=aL.weak (i:=0) e rfl (fun _ h=>aN.mono d h)
      have r3:aL G q (aN 38 q u x n::fH c Z::aN 22 q y z o::box b 176 [i64 p.S.N,i64 p.S.I,zS a1 p.S.L.length c2,zS a4 p.S.E.length c5,zS a7 p.M.length c8,zS a10 p.C.length c11,i64 a.N,i64 a.I,zS a13 a.L.length c14,zS a16 a.E.length c17,zS u n.length x,zM (some c),zS y o.length z]::box g 94 [zP (some ⟨b,0,none⟩)]::L) c9:=aL.weak (i:=2) r2 rfl (fun _ h=>aN.mono d h)
      obtain ⟨g8,r4,l⟩:=aI l
      refine aU (vs:=[zP (some ⟨b,0,none⟩),zS j6 f2.length j7,Value.func (.func 146) #[] #[bY (some ⟨b1,0,none⟩) 0,zP (some ⟨g,0,none⟩),bY (some ⟨a6,0,none⟩) 0]]) Tryz.call145 rfl (pF (Kf:=q) r3 (zR _) (h3.mono (zL (zL (zL r m) k) d)) (h6.mono (zL (zL (zL r m) k) d)) (h9.mono (zL (zL (zL r m) k) d)) (d7.mono (zL (zL (zL r m) k) d)) (d8.mono (zL (zL (zL r m) k) d)) (d9.mono (zL (zL (zL r m) k) d)) (r1.mono d) (f1.mono (zL k d)) b8 r4) ?_
      rintro _ u0 ⟨r5,r6,r7,r8,r9,rfl,g9,j8⟩
      refine aF (aA ⟨fun _=>⟨_,(aL.weakK j8 g9)⟩,?_⟩)
      exact kQ (by kernel_rfl) (aA ⟨r5,g8.1,g8.2.1,g8.2.2,r6,r7,r8,r9,(zL d g9),l,a2,e1,(aFu d1),(b8.mono g9),(aL.arr 3 [2,0,1] j8 rfl)⟩)
  ·refine aM f7 rfl (cB (aY (aY ?_)))
   have s0:=m1 _ (zI l).symm
   subst s0
   have hm:(wV n Z o)=some R:=hm
   exact bO (aA ⟨V,n,Z,o,u,x,y,z,(zL m k),hm,a2,(aL.arr 4 [3,1,2] i2 rfl)⟩)
theorem rD {c R:(List Edge)} (hs:aL G K (aN 63 K a1 c2 c::L) w) (d:eC c=some R):
  Calls Tryz.prog 169 ([zS a1 c.length c2]:List Value).toArray w (fV fun v w'=>∃ (c7:Option Addr) (c8:Nat),v=zS c7 R.length c8∧aL G K (aN 63 K c7 c8 R::L) w'):=by
 refine aT Tryz.func169 rfl (by kernel_rfl) (by show (1:Nat)≤61;decide) ?_
 unfold eC at d
 refine aAZ (pM (v:=zS none 0 0) (aAf (aH (aAZ (aBl (v:=zS a1 c.length c2) (aB (bQ (len:=c.length) cR rfl) (aB (cJ rfl rfl) (aAf ?_))))))))
 rcases aK d with ⟨c3,d⟩|⟨c3,d⟩
 ·refine aO c3 rfl (aAZ (aBl (v:=zS a1 c.length c2) (pM (v:=zS a1 c.length c2) (aAf ?_))))
  cases zI d
  exact bF (aS (bC Tryz.results169 rfl ⟨a1,c2,rfl,hs⟩))
 ·refine aM c3 rfl (aW (aA (aH (aAZ (pM (v:=i64 1) (aAf (bD (fun f w=>eS c=some R∧f 0=zS a1 c.length c2∧aL G K (aN 63 K a1 c2 c::L) w) ?_ ?_)))))))
  ·rintro f w6 ⟨d,e5,f0⟩
   unfold eS at d
   refine aA (aAZ (aCv e5 (pM (v:=zS a1 c.length c2) (aAf ?_))))
   cases zI d
   exact bF (bC Tryz.results169 rfl ⟨a1,c2,rfl,f0⟩)
  obtain ⟨h6,f2,d⟩:=aI d
  refine cD f2 (fun (k:Int) f w=>f 0=zS a1 c.length c2∧f 3=i64 k∧aL G K (aN 63 K a1 c2 c::L) w) ?_ ?_
  ·exact ⟨rfl,rfl,hs⟩
  ·rintro k Z f h7 a c9 ⟨o,q,e⟩
   replace a:dI c k=some Z:=a
   unfold dI at a
   refine aH (aAZ (aCv q (aCv o (aB (bQ (len:=c.length) cR rfl) (aB (cJ rfl rfl) (aAf ?_))))))
   rcases aK a with ⟨b3,a⟩|⟨b3,a⟩
   ·refine aO b3 rfl (aW (aA (aH (bD (fun f w=>eU k=some Z∧f 0=zS a1 c.length c2∧f 3=i64 k∧aL G K (aN 63 K a1 c2 c::L) w) ?_ ?_))))
    ·rintro f h8 ⟨a,f3,f4,f5⟩
     unfold eU at a
     exact aA (aC (aCv f4 (aB (cX rfl rfl) (pM (v:=i64 (wr (k+1))) (aAf ⟨wr (k+1),(zI a).symm,f3,rfl,f5⟩)))))
    refine aH (cT (C:=fun w'=>aL G K (aN 63 K a1 c2 c::L) w') bK (by kernel_rfl) (aL.mono e (dE.drew _)) (aQ (fun _ e=>aD o) (aQ (fun _ e=>aD q) ?_)))
    obtain ⟨a0,b4,a⟩:=aI a
    have r:=cG e (i:=0) rfl b4
    refine aQ (fun _ e=>dA cR rfl r rfl rfl rfl b4) (aQ (fun _ e=>wX (t:=0) (vs:=[i64 a0.F,i64 a0.B,i64 a0.To]) mB e (i:=0) rfl b4 rfl rfl rfl rfl) (aQ (fun _ e=>aD o) (aQ (fun _ e=>aD q) (aQ (fun _ e=>jS rfl rfl) ?_))))
    obtain ⟨a2,d0,a⟩:=aI a
    refine aQ (fun _ e=>dA cR rfl r rfl rfl rfl d0) (aQ (fun _ e=>wX (t:=0) (vs:=[i64 a2.F,i64 a2.B,i64 a2.To]) mB e (i:=0) rfl d0 rfl rfl rfl rfl) (aQ (fun _ e=>R_eqlG (eq_63 (x:=a0) (y:=a2)) rfl rfl) (dC (fun h9 b5=>(aA ?_)))))
    rcases aK a with ⟨c45,a⟩|⟨c45,a⟩
    ·refine aO c45 rfl (aAZ (aCv o (aCv q ?_)))
     obtain ⟨J,a3,a⟩:=aI a
     have a4:=pA b5 (i:=0) rfl
     obtain ⟨b6,b7,a5⟩:=Cut.ex 3 a1 c2 k
     refine aB (aCL cR a4 a5 rfl rfl rfl a3) (pM (v:=zS b6 J.length b7) (aAf (aH (aAZ (pM (v:=i64 1) (aAf (bD (fun f w=>∃ (a6:List Edge) (a7:Int),eV a6 a7=some Z∧f 0=zS a1 a6.length c2∧f 3=i64 a7∧aL G K (aN 63 K a1 c2 a6::L) w) ?_ ?_)))))))
     ·rintro f i0 ⟨a6,a7,a,d1,d2,d3⟩
      unfold eV at a
      refine aA (aAZ (aCv d1 (aCv d2 ?_)))
      obtain ⟨i1,f6,a⟩:=aI a
      have f7:=pA d3 (i:=0) rfl
      obtain ⟨i2,i3,d4⟩:=Cut.ex 3 a1 c2 a7
      refine aB (aCL cR f7 d4 rfl rfl rfl f6) ?_
      obtain ⟨d5,d6,a⟩:=aI a
      refine aEX cR vQ rfl d3 (i:=0) rfl d4 rfl rfl d6 (fun d7 (d8:aL G K (aN 63 K a1 c2 d5::L) d7)=>(aAf (aAZ (aCv (v:=zS a1 d5.length c2) (Eq.trans d1 (congrArg (fun n=>zS a1 n c2) (aCz d6))) (aCv d2 ?_)))))
      obtain ⟨b8,d9,a⟩:=aI a
      have f8:=pA d8 (i:=0) rfl
      obtain ⟨b9,c0,e0⟩:=Cut.ex 3 a1 c2 0
      refine aB (aGH cR f8 e0 rfl rfl rfl d9) (pM (v:=zS b9 b8.length c0) (aAf (bF (bN (aS (aS (aS ?_)))))))
      have f9:=c9 _ (zI a).symm
      subst f9
      have d:(some b8)=some R:=d
      have g0:aL G K (aN 63 K b9 c0 b8::L) d7:=aL.cutP d8 (i:=0) rfl d9 e0
      cases zI d
      exact bN (aS (aS (bC Tryz.results169 rfl ⟨b9,c0,rfl,g0⟩)))
     obtain ⟨i4,g2,a⟩:=aI a
     refine cD g2 (fun (s:(List Edge × Int × Int)) f w=>match s with|(l,m,p)=>f 0=zS a1 l.length c2∧f 3=i64 m∧f 4=zS b6 J.length b7∧f 5=i64 p∧aL G K (aN 63 K a1 c2 l::L) w) ?_ ?_
     ·exact ⟨o,q,rfl,rfl,b5⟩
     ·rintro ⟨l,m,p⟩ e1 f i5 b g3 ⟨a8,a9,u,z,g⟩
      replace b:gY k J l m p=some e1:=b
      unfold gY at b
      refine aH (aAZ (aCv z (aCv u (aB (bQ (len:=J.length) cR rfl) (aB (cJ rfl rfl) (aAf ?_))))))
      rcases aK b with ⟨c1,b⟩|⟨c1,b⟩
      ·refine aO c1 rfl (aW (aA (aH (bD (fun f w=>∃ (V:List Edge) (b0:Int),eW p V b0=some e1∧f 0=zS a1 V.length c2∧f 3=i64 b0∧f 4=zS b6 J.length b7∧f 5=i64 p∧aL G K (aN 63 K a1 c2 V::L) w) ?_ ?_))))
       ·rintro f i6 ⟨V,b0,b,g4,g5,g6,g7,g8⟩
        unfold eW at b
        exact aA (aC (aCv g7 (aB (cX rfl rfl) (pM (v:=i64 (wr (p+1))) (aAf ⟨(V,b0,wr (p+1)),(zI b).symm,g4,g5,g6,rfl,g8⟩)))))
       refine aH (cT (C:=fun w'=>aL G K (aN 63 K a1 c2 l::L) w') bK (by kernel_rfl) (aL.mono g (dE.drew _)) (aQ (fun _ g=>aD u) (aQ (fun _ g=>aD z) ?_)))
       obtain ⟨i7,e2,b⟩:=aI b
       obtain ⟨j,e3,b⟩:=aI b
       refine aQ (fun _ g=>aGb cR r a5 a3 a4 rfl rfl rfl e2 rfl) (aQ (fun _ g=>wX (t:=0) (vs:=[i64 j.F,i64 j.B,i64 j.To]) mB g (i:=0) rfl e3 rfl rfl rfl rfl) (aQ (fun _ g=>aD u) (aQ (fun _ g=>aD z) (aQ (fun _ g=>jS rfl rfl) ?_))))
       obtain ⟨i8,g9,b⟩:=aI b
       obtain ⟨b1,h0,b⟩:=aI b
       refine aQ (fun _ g=>aGb cR r a5 a3 a4 rfl rfl rfl g9 rfl) (aQ (fun _ g=>wX (t:=0) (vs:=[i64 b1.F,i64 b1.B,i64 b1.To]) mB g (i:=0) rfl h0 rfl rfl rfl rfl) (aQ (fun _ g=>R_neqG (eq_63 (x:=j) (y:=b1)) rfl rfl) (dC (fun i9 c4=>(aA ?_)))))
       rcases aK b with ⟨c5,b⟩|⟨c5,b⟩
       ·refine aO c5 rfl (aAZ (aCv a8 (aCv a9 (aCv u (aCv z (aB (aGb cR r a5 a3 a4 rfl rfl rfl e2 rfl) (aB (wX (t:=0) (vs:=[i64 j.F,i64 j.B,i64 j.To]) mB c4 (i:=0) rfl e3 rfl rfl rfl rfl) ?_)))))))
        obtain ⟨j0,e4,b⟩:=aI b
        refine aB (dA cR rfl r rfl rfl rfl e4) ?_
        obtain ⟨e6,e7,b⟩:=aI b
        exact kV (i:=0) (t:=0) (ns:=[i64 j.F,i64 j.B,i64 j.To]) (e':=(⟨j.F,j.B,j.To⟩:Edge)) Tryz.sizeOf63 c4 rfl (zR _) rfl rfl rfl e4 e7 rfl rfl (dL rfl) rfl (fun cs h=>by cases h;rfl) (fun h1 (h2:aL G K (aN 63 K a1 c2 e6::L) h1)=>(aAf (aC (aCv a9 (aB (cX rfl rfl) (pM (v:=i64 (wr (m+1))) (aF (bG (aA ⟨e6,wr (m+1),b,(Eq.trans a8 (congrArg (fun n=>zS a1 n c2) (iN e7))),rfl,u,z,h2⟩)))))))))
       ·exact aM c5 rfl (aW (bG (aA ⟨l,m,b,a8,a9,u,z,c4⟩)))
      ·refine aM c1 rfl (cB (aY (aY ?_)))
       have h3:=g3 _ (zI b).symm
       subst h3
       have a:(eV l m)=some Z:=a
       exact bO (aA ⟨l,m,a,a8,a9,g⟩)
    ·exact aM c45 rfl (aW (bG (aA ⟨a,o,q,b5⟩)))
   ·refine aM b3 rfl (cB (aY (aY ?_)))
    have h4:=c9 _ (zI a).symm
    subst h4
    have d:(eS c)=some R:=d
    exact bO (aA ⟨d,o,e⟩)
theorem uS {c R:(List aZ)} (hs:aL G K (aN 9 K a1 c2 c::L) w) (d:fK c=some R):
  Calls Tryz.prog 189 ([zS a1 c.length c2]:List Value).toArray w (fV fun v w'=>∃ (b9:Option Addr) (c0:Nat),v=zS b9 R.length c0∧aL G K (aN 9 K b9 c0 R::L) w'):=by
 refine aT Tryz.func189 rfl (by kernel_rfl) (by show (1:Nat)≤61;decide) ?_
 unfold fK at d
 refine aAZ (pM (v:=zS none 0 0) (aAf (aH (aAZ (aBl (v:=zS a1 c.length c2) (aB (bQ (len:=c.length) cY rfl) (aB (cJ rfl rfl) (aAf ?_))))))))
 rcases aK d with ⟨c3,d⟩|⟨c3,d⟩
 ·refine aO c3 rfl (aAZ (aBl (v:=zS a1 c.length c2) (pM (v:=zS a1 c.length c2) (aAf ?_))))
  cases zI d
  exact bF (aS (bC Tryz.results189 rfl ⟨a1,c2,rfl,hs⟩))
 ·refine aM c3 rfl (aW (aA (aH (aAZ (pM (v:=i64 1) (aAf (bD (fun f w=>gB c=some R∧f 0=zS a1 c.length c2∧aL G K (aN 9 K a1 c2 c::L) w) ?_ ?_)))))))
  ·rintro f w6 ⟨d,e5,e4⟩
   unfold gB at d
   refine aA (aAZ (aCv e5 (pM (v:=zS a1 c.length c2) (aAf ?_))))
   cases zI d
   exact bF (bC Tryz.results189 rfl ⟨a1,c2,rfl,e4⟩)
  obtain ⟨h1,e7,d⟩:=aI d
  refine cD e7 (fun (j:Int) f w=>f 0=zS a1 c.length c2∧f 3=i64 j∧aL G K (aN 9 K a1 c2 c::L) w) ?_ ?_
  ·exact ⟨rfl,rfl,hs⟩
  ·rintro j z f h2 a c1 ⟨m,p,e⟩
   replace a:dU c j=some z:=a
   unfold dU at a
   refine aH (aAZ (aCv p (aCv m (aB (bQ (len:=c.length) cY rfl) (aB (cJ rfl rfl) (aAf ?_))))))
   rcases aK a with ⟨a7,a⟩|⟨a7,a⟩
   ·refine aO a7 rfl (aW (aA (aH (bD (fun f w=>gC j=some z∧f 0=zS a1 c.length c2∧f 3=i64 j∧aL G K (aN 9 K a1 c2 c::L) w) ?_ ?_))))
    ·rintro f h3 ⟨a,e8,e9,f0⟩
     unfold gC at a
     exact aA (aC (aCv e9 (aB (cX rfl rfl) (pM (v:=i64 (wr (j+1))) (aAf ⟨wr (j+1),(zI a).symm,e8,rfl,f0⟩)))))
    refine aH (cT (C:=fun w'=>aL G K (aN 9 K a1 c2 c::L) w') bK (by kernel_rfl) (aL.mono e (dE.drew _)) (aQ (fun _ e=>aD m) (aQ (fun _ e=>aD p) ?_)))
    obtain ⟨h4,a8,a⟩:=aI a
    have q:=cG e (i:=0) rfl a8
    refine aQ (fun _ e=>dA cY rfl q rfl rfl rfl a8) (aQ (fun _ e=>kA (t:=0) pK e (i:=0) rfl a8 rfl rfl rfl) (aQ (fun _ e=>aD m) (aQ (fun _ e=>aD p) (aQ (fun _ e=>jS rfl rfl) ?_))))
    obtain ⟨h5,c4,a⟩:=aI a
    refine aQ (fun _ e=>dA cY rfl q rfl rfl rfl c4) (aQ (fun _ e=>kA (t:=0) pK e (i:=0) rfl c4 rfl rfl rfl) (aQ (fun _ e=>aBb rfl rfl) (dC (fun h6 a9=>(aA ?_)))))
    rcases aK a with ⟨c45,a⟩|⟨c45,a⟩
    ·refine aO c45 rfl (aAZ (aCv m (aCv p ?_)))
     obtain ⟨x,J,a⟩:=aI a
     have V:=pA a9 (i:=0) rfl
     obtain ⟨b0,b1,Z⟩:=Cut.ex 1 a1 c2 j
     refine aB (aCL cY V Z rfl rfl rfl J) (pM (v:=zS b0 x.length b1) (aAf (aH (aAZ (pM (v:=i64 1) (aAf (bD (fun f w=>∃ (a0:List aZ) (a2:Int),eO a0 a2=some z∧f 0=zS a1 a0.length c2∧f 3=i64 a2∧aL G K (aN 9 K a1 c2 a0::L) w) ?_ ?_)))))))
     ·rintro f h7 ⟨a0,a2,a,c5,c6,c7⟩
      unfold eO at a
      refine aA (aAZ (aCv c5 (aCv c6 ?_)))
      obtain ⟨h8,f1,a⟩:=aI a
      have f2:=pA c7 (i:=0) rfl
      obtain ⟨h9,i0,c8⟩:=Cut.ex 1 a1 c2 a2
      refine aB (aCL cY f2 c8 rfl rfl rfl f1) ?_
      obtain ⟨c9,d0,a⟩:=aI a
      refine aEX cY yD rfl c7 (i:=0) rfl c8 rfl rfl d0 (fun d1 (d2:aL G K (aN 9 K a1 c2 c9::L) d1)=>(aAf (aAZ (aCv (v:=zS a1 c9.length c2) (Eq.trans c5 (congrArg (fun n=>zS a1 n c2) (aCz d0))) (aCv c6 ?_)))))
      obtain ⟨b2,d3,a⟩:=aI a
      have f3:=pA d2 (i:=0) rfl
      obtain ⟨b3,b4,d4⟩:=Cut.ex 1 a1 c2 0
      refine aB (aGH cY f3 d4 rfl rfl rfl d3) (pM (v:=zS b3 b2.length b4) (aAf (bF (bN (aS (aS (aS ?_)))))))
      have f4:=c1 _ (zI a).symm
      subst f4
      have d:(some b2)=some R:=d
      have f5:aL G K (aN 9 K b3 b4 b2::L) d1:=aL.cutP d2 (i:=0) rfl d3 d4
      cases zI d
      exact bN (aS (aS (bC Tryz.results189 rfl ⟨b3,b4,rfl,f5⟩)))
     obtain ⟨i1,f7,a⟩:=aI a
     refine cD f7 (fun (s:(List aZ × Int × Int)) f w=>match s with|(k,l,o)=>f 0=zS a1 k.length c2∧f 3=i64 l∧f 4=zS b0 x.length b1∧f 5=i64 o∧aL G K (aN 9 K a1 c2 k::L) w) ?_ ?_
     ·exact ⟨m,p,rfl,rfl,a9⟩
     ·rintro ⟨k,l,o⟩ d5 f i2 b f8 ⟨a3,a4,r,u,g⟩
      replace b:dT j x k l o=some d5:=b
      unfold dT at b
      refine aH (aAZ (aCv u (aCv r (aB (bQ (len:=x.length) cY rfl) (aB (cJ rfl rfl) (aAf ?_))))))
      rcases aK b with ⟨b5,b⟩|⟨b5,b⟩
      ·refine aO b5 rfl (aW (aA (aH (bD (fun f w=>∃ (y:List aZ) (a5:Int),eP o y a5=some d5∧f 0=zS a1 y.length c2∧f 3=i64 a5∧f 4=zS b0 x.length b1∧f 5=i64 o∧aL G K (aN 9 K a1 c2 y::L) w) ?_ ?_))))
       ·rintro f i3 ⟨y,a5,b,f9,g0,g1,g2,g3⟩
        unfold eP at b
        exact aA (aC (aCv g2 (aB (cX rfl rfl) (pM (v:=i64 (wr (o+1))) (aAf ⟨(y,a5,wr (o+1)),(zI b).symm,f9,g0,g1,rfl,g3⟩)))))
       refine aH (cT (C:=fun w'=>aL G K (aN 9 K a1 c2 k::L) w') bK (by kernel_rfl) (aL.mono g (dE.drew _)) (aQ (fun _ g=>aD r) (aQ (fun _ g=>aD u) ?_)))
       obtain ⟨i4,d6,b⟩:=aI b
       obtain ⟨d7,d8,b⟩:=aI b
       refine aQ (fun _ g=>aGb cY q Z J V rfl rfl rfl d6 rfl) (aQ (fun _ g=>kA (t:=0) pK g (i:=0) rfl d8 rfl rfl rfl) (aQ (fun _ g=>aD r) (aQ (fun _ g=>aD u) (aQ (fun _ g=>jS rfl rfl) ?_))))
       obtain ⟨i5,g4,b⟩:=aI b
       obtain ⟨i6,g5,b⟩:=aI b
       refine aQ (fun _ g=>aGb cY q Z J V rfl rfl rfl g4 rfl) (aQ (fun _ g=>kA (t:=0) pK g (i:=0) rfl g5 rfl rfl rfl) (aQ (fun _ g=>aEp rfl rfl) (dC (fun i7 b6=>(aA ?_)))))
       rcases aK b with ⟨b7,b⟩|⟨b7,b⟩
       ·refine aO b7 rfl (aAZ (aCv a3 (aCv a4 (aCv r (aCv u (aB (aGb cY q Z J V rfl rfl rfl d6 rfl) (aB (kA (t:=0) pK b6 (i:=0) rfl d8 rfl rfl rfl) ?_)))))))
        obtain ⟨i8,d9,b⟩:=aI b
        refine aB (dA cY rfl q rfl rfl rfl d9) ?_
        obtain ⟨e0,e1,b⟩:=aI b
        exact kV (i:=0) (t:=0) (ns:=[cL d7]) (e':=(d7:aZ)) Tryz.sizeOf9 b6 rfl (zR _) rfl rfl rfl d9 e1 rfl rfl (dL rfl) rfl (fun cs h=>by cases h;rfl) (fun g6 (g7:aL G K (aN 9 K a1 c2 e0::L) g6)=>(aAf (aC (aCv a4 (aB (cX rfl rfl) (pM (v:=i64 (wr (l+1))) (aF (bG (aA ⟨e0,wr (l+1),b,(Eq.trans a3 (congrArg (fun n=>zS a1 n c2) (iN e1))),rfl,r,u,g7⟩)))))))))
       ·exact aM b7 rfl (aW (bG (aA ⟨k,l,b,a3,a4,r,u,b6⟩)))
      ·refine aM b5 rfl (cB (aY (aY ?_)))
       have g8:=f8 _ (zI b).symm
       subst g8
       have a:(eO k l)=some z:=a
       exact bO (aA ⟨k,l,a,a3,a4,g⟩)
    ·exact aM c45 rfl (aW (bG (aA ⟨a,m,p,a9⟩)))
   ·refine aM a7 rfl (cB (aY (aY ?_)))
    have g9:=c1 _ (zI a).symm
    subst g9
    have d:(gB c)=some R:=d
    exact bO (aA ⟨d,m,e⟩)
theorem aNx {d e:Int} {labels:(List aZ)} {J:(List Arc)} {R:dB} (hs:aL G K (L) w) (h3:bT K a1 c2 labels) (h6:bT K a4 c5 J) (j:i_lts d e labels J=some R):
  Calls Tryz.prog 118 ([i64 d,i64 e,zS a1 labels.length c2,zS a4 J.length c5]:List Value).toArray w (fV fun v w'=>∃ (c4:Option Addr) (c6:Nat) (c7:Option Addr) (c8:Nat),v=zA (zCa R c4 c6 c7 c8)∧aL G K (aN 9 K c4 c6 R.L::aN 63 K c7 c8 R.E::L) w'):=by
 let l:=zG
 refine aT Tryz.func118 rfl (by kernel_rfl) (by show (4:Nat)≤55;decide) ?_
 unfold i_lts at j
 refine aAZ (cF (vs:=l) Tryz.zeroValue29 hs rfl (fun k w8 e9=>(aAf (aAZ (aBl (v:=i64 d) (aBl (v:=i64 e) (dM (Kt:=K) (xs:=([([116,97,117]:aZ)]:List aZ)) (cs:=[cL ([116,97,117]:aZ)]) (vs:=[(0,cL ([116,97,117]:aZ))]) cY yD rfl rfl e9 rfl (by kernel_rfl) rfl rfl rfl ⟨rfl,trivial⟩ (fun f0 f1 (f2:aL G K (aN 9 K f0 1 ([([116,97,117]:aZ)]:List aZ)::box k 29 l::L) f1)=>(aBl (v:=zS a1 labels.length c2) ?_)))))))))
 obtain ⟨y,f3,j⟩:=aI j
 refine aEv (i:=0) cY Tryz.underlying22 yD rfl rfl f2 rfl (zR _) h3 f3 rfl rfl rfl rfl (fun n o f4 (f5:aL G K (aN 9 K n o y::box k 29 l::L) f4)=>(aB (kU (vs:=[(0,i64 d),(1,i64 e),(2,zS n y.length o)]) (cs:=[i64 d,i64 e,zS n y.length o,zS none 0 0]) aEz rfl (by kernel_rfl)) (cF (vs:=l) Tryz.zeroValue29 f5 rfl (fun p k5 f6=>(cC (i:=0) (ns:=[i64 d,i64 e,zS n y.length o,zS none 0 0]) (us:=[i64 d,i64 e,zS n y.length o,zS none 0 0]) Tryz.sizeOf29 f6 rfl rfl rfl rfl rfl (dL rfl) rfl rfl (fun c9 (d0:aL G K (box p 29 [i64 d,i64 e,zS n y.length o,zS none 0 0]::aN 9 K n o y::box k 29 l::L) c9)=>(aAf (aAZ (aB (bB (t':=2) gL rfl rfl) (aB (bR jJ d0 (i:=0) rfl rfl rfl) ?_))))))))))
 have f7:aL G K (aN 9 K n o y::box p 29 [i64 d,i64 e,zS n y.length o,zS none 0 0]::box k 29 l::L) c9:=(aL.arr 2 [1,0] d0 rfl)
 obtain ⟨b3,f8,j⟩:=aI j
 refine aU (vs:=[zS n y.length o,Value.func (.func 188) #[] #[]]) Tryz.call187 rfl (lib_SortStr f7 f8) ?_
 rintro _ f9 ⟨rfl,g0,g1⟩
 have d1:aL G K (aN 9 K n o b3::box p 29 [i64 d,i64 e,zS n b3.length o,zS none 0 0]::box k 29 l::L) f9:=by rw [←g0];exact g1
 refine aAf (aAZ (aB (bB (t':=2) gL rfl rfl) (aB (bR jJ d1 (i:=1) rfl rfl rfl) ?_)))
 obtain ⟨a,g2,j⟩:=aI j
 refine aU (vs:=[zS n b3.length o]) Tryz.call189 rfl (uS d1 g2) ?_
 rintro _ k6 ⟨b,c,rfl,g3⟩
 refine aB (bB (t':=2) gL rfl rfl) (cC (i:=1) (ns:=[zS b a.length c]) (us:=[i64 d,i64 e,zS b a.length c,zS none 0 0]) Tryz.sizeOf22 g3 rfl rfl rfl rfl rfl (dL rfl) rfl rfl (fun g4 (g5:aL G K (aN 9 K b c a::box p 29 [i64 d,i64 e,zS b a.length c,zS none 0 0]::box k 29 l::L) g4)=>(aAf (aH (aAZ (aBl (v:=zS a4 J.length c5) (aB (bQ (len:=J.length) aKQ rfl) (aBl (v:=i64 0) (aAf (bD (fun f w=>∃ (a9:List Edge) (V:Option Addr) (Z:Nat),aEF d e a a9=some R∧f 8=zP (some ⟨k,0,none⟩)∧f 9=zP (some ⟨p,0,none⟩)∧aL G K (aN 63 K V Z a9::aN 9 K b c a::box p 29 [i64 d,i64 e,zS b a.length c,zS V a9.length Z]::box k 29 l::L) w) ?_ ?_))))))))))
 ·rintro f k7 ⟨a9,V,Z,j,d2,b2,d3⟩
  unfold aEF at j
  refine aA (aAZ (aB (bB (t':=3) dO b2 rfl) (aB (bR hX d3 (i:=2) rfl rfl rfl) ?_)))
  obtain ⟨b4,g6,j⟩:=aI j
  refine aU (vs:=[zS V a9.length Z,Value.func (.func 81) #[] #[]]) Tryz.call85 rfl (lib_SortEdge d3 g6) ?_
  rintro _ g7 ⟨rfl,g8,g9⟩
  have d4:aL G K (aN 63 K V Z b4::aN 9 K b c a::box p 29 [i64 d,i64 e,zS b a.length c,zS V b4.length Z]::box k 29 l::L) g7:=by rw [←g8];exact g9
  refine aAf (aAZ (aB (bB (t':=3) dO b2 rfl) (aB (bR hX d4 (i:=2) rfl rfl rfl) ?_)))
  obtain ⟨u,h0,j⟩:=aI j
  refine aU (vs:=[zS V b4.length Z]) Tryz.call169 rfl (rD d4 h0) ?_
  rintro _ k8 ⟨q,r,rfl,h1⟩
  refine aB (bB (t':=3) dO b2 rfl) (cC (i:=2) (ns:=[zS q u.length r]) (us:=[i64 d,i64 e,zS b a.length c,zS q u.length r]) Tryz.sizeOf27 h1 rfl rfl rfl rfl rfl (dL rfl) rfl rfl (fun h2 (d5:aL G K (aN 63 K q r u::aN 9 K b c a::box p 29 [i64 d,i64 e,zS b a.length c,zS q u.length r]::box k 29 l::L) h2)=>(aAf (aAZ (aB (dK (us:=[i64 d,i64 e,zS b a.length c,zS q u.length r]) fD d5 (i:=2) rfl b2 rfl rfl) (cC (i:=3) (ns:=[i64 d,i64 e,zS b a.length c,zS q u.length r]) (us:=[i64 d,i64 e,zS b a.length c,zS q u.length r]) Tryz.sizeOf29 d5 rfl d2 rfl rfl rfl (dL rfl) rfl rfl (fun h4 (d6:aL G K (aN 63 K q r u::aN 9 K b c a::box p 29 [i64 d,i64 e,zS b a.length c,zS q u.length r]::box k 29 [i64 d,i64 e,zS b a.length c,zS q u.length r]::L) h4)=>(aAf ?_))))))))
  cases zI j
  exact bF (aDN Tryz.results118 (kW (vs:=[i64 d,i64 e,zS b a.length c,zS q u.length r]) rfl fD d6 (i:=3) rfl d2 rfl) ⟨b,c,q,r,rfl,(aL.arr 4 [1,0] d6 rfl)⟩)
 have h7:=aL.nil (α:=Edge) g5 63 K
 obtain ⟨k9,h8,j⟩:=aI j
 refine cD h8 (fun (s:(List Edge × Int)) f w=>match s with|(z,b0)=>∃ (a0:Option Addr) (a2:Nat),f 8=zP (some ⟨k,0,none⟩)∧f 9=zP (some ⟨p,0,none⟩)∧f 25=zS a4 J.length c5∧f 26=i64 (J.length:Int)∧f 27=i64 b0∧aL G K (aN 63 K a0 a2 z::aN 9 K b c a::box p 29 [i64 d,i64 e,zS b a.length c,zS a0 z.length a2]::box k 29 l::L) w) ?_ ?_
 ·exact ⟨none,0,rfl,rfl,rfl,rfl,rfl,h7⟩
 ·rintro ⟨z,b0⟩ h9 f l0 m i0 ⟨a0,a2,d7,b1,d8,d9,b5,b6⟩
  replace m:aDq J a z b0=some h9:=m
  unfold aDq at m
  refine aAZ (aB (cJ b5 d9) (aAf (aH ?_)))
  rcases aK m with ⟨b8,m⟩|⟨b8,m⟩
  ·refine aO b8 rfl (aW (aA (aH (cU (aAZ ?_)))))
   obtain ⟨g,e0,m⟩:=aI m
   refine aB (cO aKQ rfl h6 d8 rfl b5 e0) ?_
   obtain ⟨l1,i1,i2⟩:=bT.el (sz:=3) rfl h6 e0
   cases i2
   refine aB (gO (t:=0) (vs:=[i64 g.from_,cL g.label,i64 g.to_]) ag_160 b6 i1 rfl rfl rfl) (cF (vs:=[i64 0,cL ([]:aZ),i64 0]) Tryz.zeroValue160 b6 rfl (fun e1 l2 i3=>(cC (i:=0) (ns:=[i64 g.from_,cL g.label,i64 g.to_]) (us:=[i64 g.from_,cL g.label,i64 g.to_]) Tryz.sizeOf160 i3 rfl rfl rfl rfl rfl (dL rfl) rfl rfl (fun i4 (i5:aL G K (box e1 160 [i64 g.from_,cL g.label,i64 g.to_]::aN 63 K a0 a2 z::aN 9 K b c a::box p 29 [i64 d,i64 e,zS b a.length c,zS a0 z.length a2]::box k 29 l::L) i4)=>(aAf ?_)))))
   obtain ⟨l3,b9,c0,i6,i7⟩:=aL.lendB (i:=0) i5 rfl
   obtain ⟨c1,a3,e2,e3,i8⟩:=aL.lendB (i:=2) i6 rfl
   refine eQ (C:=fun w'=>∃ L',aL G c1 L' w') [(0,0),(1,0),(2,0),(3,0),(4,0),(5,0),(6,0),(7,0),(9,0),(10,0),(8,1),(11,0),(12,1),(13,1),(14,0),(15,2)] bK (by kernel_rfl) (fun _ hg=>⟨_,aL.mono e3 hg⟩) (fun l4 i9=>?_)
   have x:=aL.mono e3 i9
   refine bS rfl (fun _ _=>bB (t':=3) dO b1 rfl) (bS rfl (fun _ ⟨_,x⟩=>bH (t:=3) hX x e2 rfl rfl) (bS rfl (fun _ _=>bB (t':=0) fa_160_0 rfl rfl) (bS rfl (fun _ ⟨_,x⟩=>bH (t:=0) cP x (c0.mono a3) rfl rfl) (bS rfl (fun _ _=>bB (t':=2) gL b1 rfl) (bS rfl (fun _ ⟨_,x⟩=>bH (t:=2) jJ x e2 rfl rfl) (bS rfl (fun _ _=>bB (t':=1) fa_160_1 rfl rfl) (bS rfl (fun _ ⟨_,x⟩=>bH (t:=1) pK x (c0.mono a3) rfl rfl) (bS rfl (fun _ _=>bB (t':=2) fa_160_2 rfl rfl) (bS rfl (fun _ ⟨_,x⟩=>bH (t:=2) cP x (c0.mono a3) rfl rfl) (lL rfl ?_))))))))))
   obtain ⟨l5,l6,j0,j1,j2⟩:=aL.lendS (i:=1) x (zL b9 a3) rfl
   obtain ⟨a5,j3,m⟩:=aI m
   refine aU (vs:=[zS b a.length c,cL g.label]) Tryz.call190 rfl (nN j1 j0 j3) ?_
   rintro _ l7 ⟨rfl,j4⟩
   have e4:=j2 _ _ j4
   refine aF (aA ⟨⟨_,e4⟩,?_⟩)
   refine bS rfl (fun _ _=>kU (vs:=[(0,i64 g.from_),(1,i64 a5),(2,i64 g.to_)]) (cs:=[i64 g.from_,i64 a5,i64 g.to_]) bs_63 rfl (by kernel_rfl)) (lL rfl (dM (Kt:=K) (xs:=([⟨g.from_,a5,g.to_⟩]:List Edge)) (cs:=[i64 g.from_,i64 a5,i64 g.to_]) (vs:=[(0,zA #[i64 g.from_,i64 a5,i64 g.to_])]) cR vQ rfl rfl e4 rfl (by kernel_rfl) rfl rfl rfl ⟨rfl,trivial⟩ (fun j5 j6 (e5:aL G c1 (aN 63 K j5 1 ([⟨g.from_,a5,g.to_⟩]:List Edge)::aN 9 K b c a::aN 63 K a0 a2 z::box k 29 l::L) j6)=>(aF (aA ⟨⟨_,e5⟩,?_⟩)))))
   refine lL rfl ?_
   obtain ⟨a6,j7,m⟩:=aI m
   refine iY (i:=1) cR Tryz.underlying27 vQ rfl rfl e5 rfl (zL b9 a3) (zL b9 a3) j7 rfl rfl rfl rfl (fun _ h=>h) (fun a7 a8 j8 (e6:aL G c1 (aN 9 K b c a::aN 63 K a7 a8 a6::box k 29 l::L) j8)=>(aF (aA ⟨⟨_,e6⟩,?_⟩)))
   refine bS rfl (fun _ _=>bB (t':=3) dO b1 rfl) ?_
   have j9:=i8 _ _ e6
   have k0:=i7 _ _ j9
   exact aBn rfl (cC (i:=1) (ns:=[zS a7 a6.length a8]) (us:=[i64 d,i64 e,zS b a.length c,zS a7 a6.length a8]) Tryz.sizeOf27 k0 rfl rfl rfl rfl rfl (dL rfl) rfl rfl (fun k1 (k2:aL G K (box e1 160 [i64 g.from_,cL g.label,i64 g.to_]::box p 29 [i64 d,i64 e,zS b a.length c,zS a7 a6.length a8]::aN 9 K b c a::aN 63 K a7 a8 a6::box k 29 l::L) k1)=>(aAf (kB (bG (aA (aC (aB (cX b5 rfl) (aBl (v:=i64 (wr (b0+1))) (aAf ⟨(a6,wr (b0+1)),(zI m).symm,a7,a8,d7,b1,d8,d9,rfl,(aL.arr 4 [3,2,1] k2 rfl)⟩))))))))))
  ·refine aM b8 rfl (cB (aY (aY ?_)))
   have k3:=i0 _ (zI m).symm
   subst k3
   have j:(aEF d e a z)=some R:=j
   exact bO (aA ⟨z,a0,a2,j,d7,b1,b6⟩)
theorem sC {t:dB} {k:Int} {R:Bool} (c:aL G K (L) w) (j:bT K a1 c2 t.L) (l:bT K a4 c5 t.E) (a:nW t k=some R):
  Calls Tryz.prog 78 ([zA (zCa t a1 c2 a4 c5),i64 k]:List Value).toArray w (fV fun v w'=>v=zB R∧aL G K (L) w'):=by
 refine aT Tryz.func78 rfl (by kernel_rfl) (by show (2:Nat)≤10;decide) ?_
 unfold nW at a
 refine aAZ (dW (v:=zA (zCa t a1 c2 a4 c5)) (vs:=(zC t a1 c2 a4 c5)) c rfl rfl (fun m n b=>(pM (v:=zB false) (aAf (aAZ (aBl (v:=i64 k) (aB (bB (t':=0) tP rfl rfl) (aB (bR cP b (i:=0) rfl rfl rfl) (aB (jS rfl rfl) ?_)))))))))
 obtain ⟨d,e,a⟩:=aI a
 refine aU (vs:=[i64 k,i64 0,i64 (wr (t.N - 1))]) Tryz.call77 rfl (wO b e) ?_
 rintro _ o ⟨rfl,g⟩
 refine pM (v:=zB d) (aAf ?_)
 cases zI a
 exact bF (bC Tryz.results78 rfl ⟨rfl,(aL.arr 1 [] g rfl)⟩)
theorem aKT {i many:Int} {R:Bool} (b:aL G K (L) w) (a:aGk i many=some R):
  Calls Tryz.prog 80 ([i64 i,i64 many]:List Value).toArray w (fV fun v w'=>v=zB R∧aL G K (L) w'):=by
 refine aT Tryz.func80 rfl (by kernel_rfl) (by show (2:Nat)≤9;decide) ?_
 unfold aGk at a
 refine aAZ (pM (v:=zB false) (aAf (aAZ (aBl (v:=i64 i) (aBl (v:=i64 many) (aB (jS rfl rfl) ?_))))))
 obtain ⟨c,d,a⟩:=aI a
 refine aU (vs:=[i64 i,i64 0,i64 (wr (many - 1))]) Tryz.call77 rfl (wO b d) ?_
 rintro _ h ⟨rfl,e⟩
 refine pM (v:=zB c) (aAf ?_)
 cases zI a
 exact bF (bC Tryz.results80 rfl ⟨rfl,e⟩)
theorem aHK {t:dB} {R:Bool} (hs:aL G K (L) w) (hG:G.lo=0) (h3:bT K a1 c2 t.L) (h6:bT K a4 c5 t.E) (b:aCm t=some R):
  Calls Tryz.prog 31 ([zA (zCa t a1 c2 a4 c5)]:List Value).toArray w (fV fun v w'=>v=zB R∧aL G K (L) w'):=by
 let y:=(zC t a1 c2 a4 c5)
 refine aT Tryz.func31 rfl (by kernel_rfl) (by show (1:Nat)≤109;decide) ?_
 unfold aCm at b
 refine aAZ (dW (v:=zA (zCa t a1 c2 a4 c5)) (vs:=y) hs rfl rfl (fun l w8 d3=>(pM (v:=zB false) (aAf (aH (aH (cS (fun f w=>∃ (b5:Bool),pY t b5=some R∧f 1=zP (some ⟨l,0,none⟩)∧f 30=zB b5∧aL G K (box l 29 y::L) w) ?_ ?_)))))))
 ·rintro f k3 ⟨b5,b,d4,d5,b6⟩
  unfold pY at b
  refine aA ?_
  rcases aK b with ⟨b8,b⟩|⟨b8,b⟩
  ·refine aO b8 d5 (aAZ (pM (v:=zB false) (aAf ?_)))
   cases zI b
   exact bF (aS (bC Tryz.results31 rfl ⟨rfl,(aL.arr 1 [] b6 rfl)⟩))
  ·refine aM b8 d5 (aW (aA (aH (aAZ (aB (bB (t':=2) gL d4 rfl) (aB (bR jJ b6 (i:=0) rfl rfl rfl) (aB (bQ (len:=t.L.length) cY rfl) (aBl (v:=i64 0) (aAf (bD (fun f w=>wN t=some R∧f 1=zP (some ⟨l,0,none⟩)∧aL G K (box l 29 y::L) w) ?_ ?_))))))))))
   ·rintro f k4 ⟨b,d6,d7⟩
    unfold wN at b
    refine aA (aH (aAZ (aB (bB (t':=3) dO d6 rfl) (aB (bR hX d7 (i:=0) rfl rfl rfl) (aB (bQ (len:=t.E.length) cR rfl) (aBl (v:=i64 0) (aAf (bD (fun f w=>aAF=some R∧aL G K (L) w) ?_ ?_))))))))
    ·rintro f k5 ⟨b,f7⟩
     unfold aAF at b
     refine aA (aAZ (pM (v:=zB true) (aAf ?_)))
     cases zI b
     exact bF (bC Tryz.results31 rfl ⟨rfl,f7⟩)
    obtain ⟨k6,f9,b⟩:=aI b
    refine cD f9 (fun (z:Int) f w=>f 1=zP (some ⟨l,0,none⟩)∧f 65=zS a4 t.E.length c5∧f 66=i64 (t.E.length:Int)∧f 67=i64 z∧aL G K (box l 29 y::L) w) ?_ ?_
    ·exact ⟨d6,rfl,rfl,rfl,d7⟩
    ·rintro z d8 f k7 c d9 ⟨V,a5,a6,Z,b9⟩
     replace c:tI t z=some d8:=c
     unfold tI at c
     refine aAZ (aB (cJ Z a6) (aAf (aH ?_)))
     rcases aK c with ⟨c0,c⟩|⟨c0,c⟩
     ·refine aO c0 rfl (aW (aA (aH (cU (aAZ (aCv Z ?_))))))
      obtain ⟨e,e0,c⟩:=aI c
      refine aB (cO cR rfl h6 a5 rfl Z e0) ?_
      obtain ⟨k8,g0,g1⟩:=bT.el (sz:=3) rfl h6 e0
      cases g1
      refine aB (gO (t:=0) (vs:=[i64 e.F,i64 e.B,i64 e.To]) mB b9 g0 rfl rfl rfl) (cF (vs:=[i64 0,i64 0,i64 0]) Tryz.zeroValue63 b9 rfl (fun e1 k9 g2=>(pM (v:=i64 z) (cC (i:=0) (ns:=[i64 e.F,i64 e.B,i64 e.To]) (us:=[i64 e.F,i64 e.B,i64 e.To]) Tryz.sizeOf63 g2 rfl rfl rfl rfl rfl (dL rfl) rfl rfl (fun g3 (a:aL G K (box e1 63 [i64 e.F,i64 e.B,i64 e.To]::box l 29 y::L) g3)=>(aAf (aH (cS (fun f w=>∃ (c1:Bool),nX z c1=some d8∧f 1=zP (some ⟨l,0,none⟩)∧f 65=zS a4 t.E.length c5∧f 66=i64 (t.E.length:Int)∧f 67=i64 z∧f 107=zB c1∧aL G K (box l 29 y::L) w) ?_ ?_))))))))
      ·rintro f l0 ⟨c1,c,g4,g5,g6,g7,e2,e3⟩
       unfold nX at c
       refine aA ?_
       rcases aK c with ⟨c3,c⟩|⟨c3,c⟩
       ·refine aO c3 e2 (aAZ (pM (v:=zB false) (aAf (bF (bN (aS (aS ?_)))))))
        have g8:=d9 _ (zI c).symm
        subst g8
        have b:(some false)=some R:=b
        cases zI b
        exact bN (aS (aS (bC Tryz.results31 rfl ⟨rfl,(aL.arr 1 [] e3 rfl)⟩)))
       ·exact aM c3 e2 (aW (bG (aA (aC (aB (cX g7 rfl) (aBl (v:=i64 (wr (z+1))) (aAf ⟨wr (z+1),(zI c).symm,g4,g5,g6,rfl,e3⟩)))))))
      refine cT (C:=fun w'=>aL G K (box e1 63 [i64 e.F,i64 e.B,i64 e.To]::box l 29 y::L) w') bK (by kernel_rfl) (aL.mono a (dE.drew _)) (aQ (fun _ a=>dK (us:=y) fD a (i:=1) rfl V rfl rfl) (aQ (fun _ a=>bB (t':=0) fY rfl rfl) (aQ (fun _ a=>bR cP a (i:=0) rfl rfl rfl) ?_)))
      obtain ⟨e4,h0,c⟩:=aI c
      refine iR (vs:=[zA (zCa t a1 c2 a4 c5),i64 e.F]) (v:=zB e4) Tryz.call78 rfl (fun _ a=>(sC a h3 h6 h0)) (aQ (fun _ a=>dY rfl) (aQ (fun _ a=>aD (v:=zB (!e4)) rfl) ?_))
      rcases aK c with ⟨n,c⟩|⟨n,c⟩
      ·refine aX (g:=77) rfl rfl (bZ n) (aX (g:=77) rfl rfl (bZ n) (aX (g:=77) rfl rfl (bZ n) (aX (g:=77) rfl rfl (bZ n) (aX (g:=77) rfl rfl (bZ n) (aQ (fun _ a=>bI (v:=zB true) n rfl rfl) (aQ (fun _ a=>aD (v:=zB true) rfl) (aX (g:=84) rfl rfl (bZ (rfl:true=true)) (aX (g:=84) rfl rfl (bZ (rfl:true=true)) (aX (g:=84) rfl rfl (bZ (rfl:true=true)) (aX (g:=84) rfl rfl (bZ (rfl:true=true)) (aX (g:=84) rfl rfl (bZ (rfl:true=true)) (aX (g:=84) rfl rfl (bZ (rfl:true=true)) (aX (g:=84) rfl rfl (bZ (rfl:true=true)) (aQ (fun _ a=>bI (v:=zB true) (rfl:true=true) rfl rfl) (aQ (fun _ a=>aD (v:=zB true) rfl) (aX (g:=93) rfl rfl (bZ (rfl:true=true)) (aX (g:=93) rfl rfl (bZ (rfl:true=true)) (aX (g:=93) rfl rfl (bZ (rfl:true=true)) (bL (g:=96) rfl rfl (bL (g:=96) rfl rfl (bL (g:=96) rfl rfl (bL (g:=96) rfl rfl (bL (g:=96) rfl rfl ?_)))))))))))))))))))))))
       exact bL (g:=96) rfl rfl (bL (g:=96) rfl rfl (bL (g:=96) rfl rfl (bL (g:=96) rfl rfl (aX (g:=93) rfl rfl (bZ (rfl:true=true)) (aQ (fun _ a=>bI (v:=zB true) (rfl:true=true) rfl rfl) (dC (fun l1 h1=>(aA ⟨true,c,V,a5,a6,Z,rfl,(aL.arr 1 [] h1 rfl)⟩))))))))
      ·refine bP (g:=77) rfl rfl (bX n) (aQ (fun _ a=>dK (us:=y) fD a (i:=1) rfl V rfl rfl) (bP (g:=77) rfl rfl (bX n) (aQ (fun _ a=>bB (t':=2) iB rfl rfl) (bP (g:=77) rfl rfl (bX n) (aQ (fun _ a=>bR cP a (i:=0) rfl rfl rfl) (bP (g:=77) rfl rfl (bX n) ?_))))))
       obtain ⟨c4,h2,c⟩:=aI c
       refine iR (vs:=[zA (zCa t a1 c2 a4 c5),i64 e.To]) (v:=zB c4) Tryz.call78 rfl (fun _ a=>(sC a h3 h6 h2)) (bP (g:=77) rfl rfl (bX n) (aQ (fun _ a=>dY rfl) (aQ (fun _ a=>bJ (v:=zB (!c4)) n rfl rfl) (aQ (fun _ a=>aD (v:=zB (!c4)) rfl) ?_))))
       rcases aK c with ⟨k,c⟩|⟨k,c⟩
       ·refine aX (g:=84) rfl rfl (bZ k) (aX (g:=84) rfl rfl (bZ k) (aX (g:=84) rfl rfl (bZ k) (aX (g:=84) rfl rfl (bZ k) (aX (g:=84) rfl rfl (bZ k) (aX (g:=84) rfl rfl (bZ k) (aX (g:=84) rfl rfl (bZ k) (aQ (fun _ a=>bI (v:=zB true) k rfl rfl) (aQ (fun _ a=>aD (v:=zB true) rfl) (aX (g:=93) rfl rfl (bZ (rfl:true=true)) (aX (g:=93) rfl rfl (bZ (rfl:true=true)) (aX (g:=93) rfl rfl (bZ (rfl:true=true)) (bL (g:=96) rfl rfl (bL (g:=96) rfl rfl (bL (g:=96) rfl rfl (bL (g:=96) rfl rfl (bL (g:=96) rfl rfl (bL (g:=96) rfl rfl (bL (g:=96) rfl rfl (bL (g:=96) rfl rfl (bL (g:=96) rfl rfl (aX (g:=93) rfl rfl (bZ (rfl:true=true)) (aQ (fun _ a=>bI (v:=zB true) (rfl:true=true) rfl rfl) (dC ?_)))))))))))))))))))))))
        intro l2 h4
        exact aA ⟨true,c,V,a5,a6,Z,rfl,(aL.arr 1 [] h4 rfl)⟩
       ·refine bP (g:=84) rfl rfl (bX k) (aQ (fun _ a=>bB (t':=1) fP rfl rfl) (bP (g:=84) rfl rfl (bX k) (aQ (fun _ a=>bR cP a (i:=0) rfl rfl rfl) (bP (g:=84) rfl rfl (bX k) (aQ (fun _ a=>bB (t':=2) gL V rfl) (bP (g:=84) rfl rfl (bX k) (aQ (fun _ a=>bR jJ a (i:=1) rfl rfl rfl) (bP (g:=84) rfl rfl (bX k) (aQ (fun _ a=>bQ (len:=t.L.length) cY rfl) (bP (g:=84) rfl rfl (bX k) ?_))))))))))
        obtain ⟨c6,h5,c⟩:=aI c
        refine iR (vs:=[i64 e.B,i64 (t.L.length:Int)]) (v:=zB c6) Tryz.call80 rfl (fun _ a=>(aKT a h5)) (bP (g:=84) rfl rfl (bX k) (aQ (fun _ a=>dY rfl) (aQ (fun _ a=>bJ (v:=zB (!c6)) k rfl rfl) (aQ (fun _ a=>aD (v:=zB (!c6)) rfl) ?_))))
        rcases aK c with ⟨o,c⟩|⟨o,c⟩
        ·exact aX (g:=93) rfl rfl (bZ o) (aX (g:=93) rfl rfl (bZ o) (aX (g:=93) rfl rfl (bZ o) (bL (g:=96) rfl rfl (bL (g:=96) rfl rfl (bL (g:=96) rfl rfl (bL (g:=96) rfl rfl (bL (g:=96) rfl rfl (bL (g:=96) rfl rfl (bL (g:=96) rfl rfl (bL (g:=96) rfl rfl (bL (g:=96) rfl rfl (aX (g:=93) rfl rfl (bZ o) (aQ (fun _ a=>bI (v:=zB true) o rfl rfl) (dC (fun l3 h7=>(aA ⟨true,c,V,a5,a6,Z,rfl,(aL.arr 1 [] h7 rfl)⟩))))))))))))))))
        ·refine bP (g:=93) rfl rfl (bX o) (aQ (fun _ a=>aD (v:=i64 z) rfl) (bP (g:=93) rfl rfl (bX o) (aQ (fun _ a=>mL rfl rfl) (bP (g:=93) rfl rfl (bX o) (aQ (fun _ a=>aD (v:=zB (decide (0 < z))) rfl) ?_)))))
         rcases aK c with ⟨h,c⟩|⟨h,c⟩
         ·refine bP (g:=96) rfl rfl h (aQ (fun _ a=>bB (t':=3) dO V rfl) (bP (g:=96) rfl rfl h (aQ (fun _ a=>bR hX a (i:=1) rfl rfl rfl) (bP (g:=96) rfl rfl h (aQ (fun _ a=>aD (v:=i64 z) rfl) (bP (g:=96) rfl rfl h (aQ (fun _ a=>jS rfl rfl) (bP (g:=96) rfl rfl h ?_))))))))
          obtain ⟨a7,e5,c⟩:=aI c
          refine aQ (fun _ a=>cO cR rfl h6 rfl rfl rfl e5) ?_
          obtain ⟨l4,h8,h9⟩:=bT.el (sz:=3) rfl h6 e5
          cases h9
          refine bP (g:=96) rfl rfl h (aQ (fun _ a=>gO (t:=0) (vs:=[i64 a7.F,i64 a7.B,i64 a7.To]) mB a h8 rfl rfl rfl) (bP (g:=96) rfl rfl h (aQ (fun _ a=>dK (us:=[i64 e.F,i64 e.B,i64 e.To]) mB a (i:=0) rfl rfl rfl rfl) (bP (g:=96) rfl rfl h ?_))))
          obtain ⟨b3,i0,c⟩:=aI c
          exact iR (vs:=[zA #[i64 a7.F,i64 a7.B,i64 a7.To],zA #[i64 e.F,i64 e.B,i64 e.To]]) (v:=i64 b3) Tryz.call81 rfl (fun _ a=>(aBj a i0)) (bP (g:=96) rfl rfl h (aQ (fun _ a=>tT rfl rfl) (bP (g:=93) rfl rfl (bX o) (aQ (fun _ a=>bI (v:=zB (decide (0≤b3))) h rfl rfl) (aQ (fun _ a=>bJ (v:=zB (decide (0≤b3))) o rfl rfl) (dC (fun l5 i1=>(aA ⟨decide (0≤b3),c,V,a5,a6,Z,rfl,(aL.arr 1 [] i1 rfl)⟩))))))))
         ·exact aX (g:=96) rfl rfl (bU h) (aX (g:=96) rfl rfl (bU h) (aX (g:=96) rfl rfl (bU h) (aX (g:=96) rfl rfl (bU h) (aX (g:=96) rfl rfl (bU h) (aX (g:=96) rfl rfl (bU h) (aX (g:=96) rfl rfl (bU h) (aX (g:=96) rfl rfl (bU h) (aX (g:=96) rfl rfl (bU h) (bP (g:=93) rfl rfl (bX o) (aQ (fun _ a=>bJ (v:=zB false) h rfl rfl) (aQ (fun _ a=>bJ (v:=zB false) o rfl rfl) (dC (fun l6 i2=>(aA ⟨false,c,V,a5,a6,Z,rfl,(aL.arr 1 [] i2 rfl)⟩))))))))))))))
     ·refine aM c0 rfl (cB (aY (aY ?_)))
      have i3:=d9 _ (zI c).symm
      subst i3
      have b:(aAF)=some R:=b
      exact bO (aA ⟨b,(aL.arr 1 [] b9 rfl)⟩)
   obtain ⟨l7,i4,b⟩:=aI b
   refine cD i4 (fun (m:Int) f w=>f 1=zP (some ⟨l,0,none⟩)∧f 32=zS a1 t.L.length c2∧f 33=i64 (t.L.length:Int)∧f 34=i64 m∧aL G K (box l 29 y::L) w) ?_ ?_
   ·exact ⟨d4,rfl,rfl,rfl,b6⟩
   ·rintro m e6 f l8 d e7 ⟨a8,b1,b2,a3,c7⟩
    replace d:tJ t m=some e6:=d
    unfold tJ at d
    refine aAZ (aB (cJ a3 b2) (aAf (aH ?_)))
    rcases aK d with ⟨c8,d⟩|⟨c8,d⟩
    ·refine aO c8 rfl (aW (aA (aH (cU (aAZ (aCv a3 ?_))))))
     obtain ⟨p,e8,d⟩:=aI d
     refine aB (cO cY rfl h3 b1 rfl a3 e8) ?_
     obtain ⟨l9,i5,i6⟩:=bT.el (sz:=1) rfl h3 e8
     cases i6
     refine aB (bH (t:=0) pK c7 i5 rfl rfl) (pM (v:=i64 m) (pM (v:=cL p) (aAf (aH (cS (fun f w=>∃ (c9:Bool),pX m c9=some e6∧f 1=zP (some ⟨l,0,none⟩)∧f 32=zS a1 t.L.length c2∧f 33=i64 (t.L.length:Int)∧f 34=i64 m∧f 62=zB c9∧aL G K (box l 29 y::L) w) ?_ ?_)))))
     ·rintro f m0 ⟨c9,d,i7,i8,i9,j0,e9,f0⟩
      unfold pX at d
      refine aA ?_
      rcases aK d with ⟨d0,d⟩|⟨d0,d⟩
      ·refine aO d0 e9 (aAZ (pM (v:=zB false) (aAf (bF (bN (aS (aS ?_)))))))
       have j1:=e7 _ (zI d).symm
       subst j1
       have b:(some false)=some R:=b
       cases zI b
       exact bN (aS (aS (bC Tryz.results31 rfl ⟨rfl,(aL.arr 1 [] f0 rfl)⟩)))
      ·exact aM d0 e9 (aW (bG (aA (aC (aB (cX j0 rfl) (aBl (v:=i64 (wr (m+1))) (aAf ⟨wr (m+1),(zI d).symm,i7,i8,i9,rfl,f0⟩)))))))
     refine aC (aBl (v:=cL p) ?_)
     obtain ⟨j3,j4,d⟩:=aI d
     refine aU (vs:=[cL p]) Tryz.call79 rfl (aIr c7 hG j4) ?_
     rintro _ m1 ⟨rfl,a9⟩
     refine aB (dY rfl) (aBl (v:=zB (!j3)) ?_)
     rcases aK d with ⟨q,d⟩|⟨q,d⟩
     ·exact bA q rfl rfl (bA q rfl rfl (bA q rfl rfl (bA q rfl rfl (bA q rfl rfl (aB (bI (v:=zB true) q rfl rfl) (aBl (v:=zB true) (bA (rfl:true=true) rfl rfl (bA (rfl:true=true) rfl rfl (bA (rfl:true=true) rfl rfl (dQ (g:=52) rfl rfl (dQ (g:=52) rfl rfl (dQ (g:=52) rfl rfl (dQ (g:=52) rfl rfl (dQ (g:=52) rfl rfl (dQ (g:=52) rfl rfl (dQ (g:=52) rfl rfl (dQ (g:=52) rfl rfl (bA (rfl:true=true) rfl rfl (aB (bI (v:=zB true) (rfl:true=true) rfl rfl) (aAf ⟨true,d,a8,b1,b2,a3,rfl,a9⟩))))))))))))))))))))
     ·refine bM q rfl rfl (aBl (v:=cL p) (bM q rfl rfl (aB (aBb rfl rfl) (bM q rfl rfl (aBl (v:=i64 m) (bM q rfl rfl (aB (oY rfl rfl) (bM q rfl rfl (aB (R_neqB Tryz.runUnderlying4 rfl rfl) (aB (bJ (v:=zB ((p == ([116,97,117]:aZ)) != (m == 0))) q rfl rfl) (aBl (v:=zB ((p == ([116,97,117]:aZ)) != (m == 0))) ?_)))))))))))
      rcases aK d with ⟨r,d⟩|⟨r,d⟩
      ·exact bA r rfl rfl (bA r rfl rfl (bA r rfl rfl (dQ (g:=52) rfl rfl (dQ (g:=52) rfl rfl (dQ (g:=52) rfl rfl (dQ (g:=52) rfl rfl (dQ (g:=52) rfl rfl (dQ (g:=52) rfl rfl (dQ (g:=52) rfl rfl (dQ (g:=52) rfl rfl (bA r rfl rfl (aB (bI (v:=zB true) r rfl rfl) (aAf ⟨true,d,a8,b1,b2,a3,rfl,a9⟩)))))))))))))
      ·refine bM r rfl rfl (aBl (v:=i64 m) (bM r rfl rfl (aB (mL rfl rfl) (bM r rfl rfl (aBl (v:=zB (decide (1 < m))) ?_)))))
       rcases aK d with ⟨j,d⟩|⟨j,d⟩
       ·refine bE j rfl rfl (aBl (v:=cL p) (bE j rfl rfl (aB (bB (t':=2) gL a8 rfl) (bE j rfl rfl (aB (bR jJ a9 (i:=0) rfl rfl rfl) (bE j rfl rfl (aBl (v:=i64 m) (bE j rfl rfl (aB (jS rfl rfl) (bE j rfl rfl ?_))))))))))
        obtain ⟨b0,f1,d⟩:=aI d
        refine aB (cO cY rfl h3 rfl rfl rfl f1) ?_
        obtain ⟨m2,j5,j6⟩:=bT.el (sz:=1) rfl h3 f1
        cases j6
        exact bE j rfl rfl (aB (bH (t:=0) pK a9 j5 rfl rfl) (bE j rfl rfl (aB (R_leqS rfl rfl) (bM r rfl rfl (aB (bI (v:=zB (wQ p b0||p == b0)) j rfl rfl) (aB (bJ (v:=zB (wQ p b0||p == b0)) r rfl rfl) (aAf ⟨(wQ p b0||p == b0),d,a8,b1,b2,a3,rfl,a9⟩)))))))
       ·exact aV j rfl rfl (aV j rfl rfl (aV j rfl rfl (aV j rfl rfl (aV j rfl rfl (aV j rfl rfl (aV j rfl rfl (aV j rfl rfl (bM r rfl rfl (aB (bJ (v:=zB false) j rfl rfl) (aB (bJ (v:=zB false) r rfl rfl) (aAf ⟨false,d,a8,b1,b2,a3,rfl,a9⟩)))))))))))
    ·refine aM c8 rfl (cB (aY (aY ?_)))
     have j7:=e7 _ (zI d).symm
     subst j7
     have b:(wN t)=some R:=b
     exact bO (aA ⟨b,a8,c7⟩)
 refine aC (aB (bB (t':=0) tP rfl rfl) (aB (bR cP d3 (i:=0) rfl rfl rfl) ?_))
 obtain ⟨j8,j9,b⟩:=aI b
 refine aU (vs:=[i64 t.N,i64 1,i64 40]) Tryz.call77 rfl (wO d3 j9) ?_
 rintro _ m3 ⟨rfl,b4⟩
 refine aB (dY rfl) (aBl (v:=zB (!j8)) ?_)
 rcases aK b with ⟨u,b⟩|⟨u,b⟩
 ·exact bA u rfl rfl (bA u rfl rfl (bA u rfl rfl (bA u rfl rfl (bA u rfl rfl (aB (bI (v:=zB true) u rfl rfl) (aBl (v:=zB true) (bA (rfl:true=true) rfl rfl (bA (rfl:true=true) rfl rfl (bA (rfl:true=true) rfl rfl (bA (rfl:true=true) rfl rfl (bA (rfl:true=true) rfl rfl (aB (bI (v:=zB true) (rfl:true=true) rfl rfl) (aBl (v:=zB true) (bA (rfl:true=true) rfl rfl (bA (rfl:true=true) rfl rfl (bA (rfl:true=true) rfl rfl (bA (rfl:true=true) rfl rfl (aB (bI (v:=zB true) (rfl:true=true) rfl rfl) (aAf ⟨true,b,rfl,rfl,b4⟩)))))))))))))))))))
 ·refine bM u rfl rfl (aB (dK (us:=y) fD b4 (i:=0) rfl rfl rfl rfl) (bM u rfl rfl (aB (bB (t':=1) rM rfl rfl) (bM u rfl rfl (aB (bR cP b4 (i:=0) rfl rfl rfl) (bM u rfl rfl ?_))))))
  obtain ⟨f2,k0,b⟩:=aI b
  refine aU (vs:=[zA (zCa t a1 c2 a4 c5),i64 t.I]) Tryz.call78 rfl (sC b4 h3 h6 k0) ?_
  rintro _ m4 ⟨rfl,d1⟩
  refine bM u rfl rfl (aB (dY rfl) (aB (bJ (v:=zB (!f2)) u rfl rfl) (aBl (v:=zB (!f2)) ?_)))
  rcases aK b with ⟨x,b⟩|⟨x,b⟩
  ·exact bA x rfl rfl (bA x rfl rfl (bA x rfl rfl (bA x rfl rfl (bA x rfl rfl (aB (bI (v:=zB true) x rfl rfl) (aBl (v:=zB true) (bA (rfl:true=true) rfl rfl (bA (rfl:true=true) rfl rfl (bA (rfl:true=true) rfl rfl (bA (rfl:true=true) rfl rfl (aB (bI (v:=zB true) (rfl:true=true) rfl rfl) (aAf ⟨true,b,rfl,rfl,d1⟩))))))))))))
  ·refine bM x rfl rfl (aB (bB (t':=2) gL rfl rfl) (bM x rfl rfl (aB (bR jJ d1 (i:=0) rfl rfl rfl) (bM x rfl rfl (aB (bQ (len:=t.L.length) cY rfl) (bM x rfl rfl ?_))))))
   obtain ⟨f3,k1,b⟩:=aI b
   refine aU (vs:=[i64 (t.L.length:Int),i64 1,i64 12]) Tryz.call77 rfl (wO d1 k1) ?_
   rintro _ m5 ⟨rfl,d2⟩
   refine bM x rfl rfl (aB (dY rfl) (aB (bJ (v:=zB (!f3)) x rfl rfl) (aBl (v:=zB (!f3)) ?_)))
   rcases aK b with ⟨J,b⟩|⟨J,b⟩
   ·exact bA J rfl rfl (bA J rfl rfl (bA J rfl rfl (bA J rfl rfl (aB (bI (v:=zB true) J rfl rfl) (aAf ⟨true,b,rfl,rfl,d2⟩)))))
   ·exact bM J rfl rfl (aB (bB (t':=3) dO rfl rfl) (bM J rfl rfl (aB (bR hX d2 (i:=0) rfl rfl rfl) (bM J rfl rfl (aB (bQ (len:=t.E.length) cR rfl) (bM J rfl rfl (aB (mL rfl rfl) (aB (bJ (v:=zB (decide (300 < (t.E.length:Int)))) J rfl rfl) (aAf ⟨decide (300 < (t.E.length:Int)),b,rfl,rfl,d2⟩)))))))))
theorem vR {t:dB} {R:Bool} (hs:aL G K (L) w) (hG:G.lo=0) (h3:bT K a1 c2 t.L) (m:bT K a4 c5 t.E) (j:kI t=some R):
  Calls Tryz.prog 201 ([zA (zCa t a1 c2 a4 c5)]:List Value).toArray w (fV fun v w'=>v=zB R∧aL G K (L) w'):=by
 let n:=(zC t a1 c2 a4 c5)
 refine aT Tryz.func201 rfl (by kernel_rfl) (by show (1:Nat)≤48;decide) ?_
 unfold kI at j
 refine aAZ (dW (v:=zA (zCa t a1 c2 a4 c5)) (vs:=n) hs rfl rfl (fun o w8 a3=>(pM (v:=zB false) (aAf (aH (aAZ (aB (dK (us:=n) fD a3 (i:=0) rfl rfl rfl rfl) ?_)))))))
 obtain ⟨d9,b4,j⟩:=aI j
 refine aU (vs:=[zA (zCa t a1 c2 a4 c5)]) Tryz.call31 rfl (aHK a3 hG h3 m b4) ?_
 rintro _ e0 ⟨rfl,y⟩
 refine aB (dY rfl) (aAf ?_)
 rcases aK j with ⟨z,j⟩|⟨z,j⟩
 ·refine aO z rfl (aAZ (pM (v:=zB false) (aAf ?_)))
  cases zI j
  exact bF (aS (bC Tryz.results201 rfl ⟨rfl,(aL.arr 1 [] y rfl)⟩))
 ·refine aM z rfl (aW (aA (aH (aAZ (aB (bB (t':=3) dO rfl rfl) (aB (bR hX y (i:=0) rfl rfl rfl) (aB (bQ (len:=t.E.length) cR rfl) (aBl (v:=i64 0) (aAf (bD (fun f w=>mT=some R∧aL G K (L) w) ?_ ?_))))))))))
  ·rintro f e1 ⟨j,b6⟩
   unfold mT at j
   refine aA (aAZ (pM (v:=zB true) (aAf ?_)))
   cases zI j
   exact bF (bC Tryz.results201 rfl ⟨rfl,b6⟩)
  obtain ⟨e2,b9,j⟩:=aI j
  refine cD b9 (fun (k:Int) f w=>f 1=zP (some ⟨o,0,none⟩)∧f 9=zS a4 t.E.length c5∧f 10=i64 (t.E.length:Int)∧f 11=i64 k∧aL G K (box o 29 n::L) w) ?_ ?_
  ·exact ⟨rfl,rfl,rfl,rfl,y⟩
  ·rintro k a5 f e3 b a6 ⟨p,q,r,l,J⟩
   replace b:iV t k=some a5:=b
   unfold iV at b
   refine aAZ (aB (cJ l r) (aAf (aH ?_)))
   rcases aK b with ⟨V,b⟩|⟨V,b⟩
   ·refine aO V rfl (aW (aA (aH (cU (aAZ (aCv l ?_))))))
    obtain ⟨e,a7,b⟩:=aI b
    refine aB (cO cR rfl m q rfl l a7) ?_
    obtain ⟨e4,c0,c1⟩:=bT.el (sz:=3) rfl m a7
    cases c1
    refine aB (gO (t:=0) (vs:=[i64 e.F,i64 e.B,i64 e.To]) mB J c0 rfl rfl rfl) (cF (vs:=[i64 0,i64 0,i64 0]) Tryz.zeroValue63 J rfl (fun a8 e5 c3=>(pM (v:=i64 k) (cC (i:=0) (ns:=[i64 e.F,i64 e.B,i64 e.To]) (us:=[i64 e.F,i64 e.B,i64 e.To]) Tryz.sizeOf63 c3 rfl rfl rfl rfl rfl (dL rfl) rfl rfl (fun c4 (a:aL G K (box a8 63 [i64 e.F,i64 e.B,i64 e.To]::box o 29 n::L) c4)=>(aAf (aH (cS (fun f w=>∃ (Z:Bool),gG k Z=some a5∧f 1=zP (some ⟨o,0,none⟩)∧f 9=zS a4 t.E.length c5∧f 10=i64 (t.E.length:Int)∧f 11=i64 k∧f 46=zB Z∧aL G K (box o 29 n::L) w) ?_ ?_))))))))
    ·rintro f e6 ⟨Z,b,c6,c7,c8,c9,a9,b0⟩
     unfold gG at b
     refine aA ?_
     rcases aK b with ⟨a0,b⟩|⟨a0,b⟩
     ·refine aO a0 a9 (aAZ (pM (v:=zB false) (aAf (bF (bN (aS (aS ?_)))))))
      have d0:=a6 _ (zI b).symm
      subst d0
      have j:(some false)=some R:=j
      cases zI j
      exact bN (aS (aS (bC Tryz.results201 rfl ⟨rfl,(aL.arr 1 [] b0 rfl)⟩)))
     ·exact aM a0 a9 (aW (bG (aA (aC (aB (cX c9 rfl) (aBl (v:=i64 (wr (k+1))) (aAf ⟨wr (k+1),(zI b).symm,c6,c7,c8,rfl,b0⟩)))))))
    refine cT (C:=fun w'=>aL G K (box a8 63 [i64 e.F,i64 e.B,i64 e.To]::box o 29 n::L) w') bK (by kernel_rfl) (aL.mono a (dE.drew _)) (aQ (fun _ a=>bB (t':=1) fP rfl rfl) (aQ (fun _ a=>bR cP a (i:=0) rfl rfl rfl) (aQ (fun _ a=>oY rfl rfl) (aQ (fun _ a=>aD (v:=zB (e.B == 0)) rfl) ?_))))
    rcases aK b with ⟨h,b⟩|⟨h,b⟩
    ·refine aX (g:=19) rfl rfl (bZ h) (aX (g:=19) rfl rfl (bZ h) (aX (g:=19) rfl rfl (bZ h) (bL (g:=22) rfl rfl (bL (g:=22) rfl rfl (bL (g:=22) rfl rfl (bL (g:=22) rfl rfl (bL (g:=22) rfl rfl (bL (g:=22) rfl rfl (bL (g:=22) rfl rfl (bL (g:=22) rfl rfl (bL (g:=22) rfl rfl (bL (g:=22) rfl rfl (aX (g:=19) rfl rfl (bZ h) (aX (g:=19) rfl rfl (bZ h) (bL (g:=34) rfl rfl (bL (g:=34) rfl rfl (bL (g:=34) rfl rfl (bL (g:=34) rfl rfl (bL (g:=34) rfl rfl (bL (g:=34) rfl rfl (bL (g:=34) rfl rfl (bL (g:=34) rfl rfl (bL (g:=34) rfl rfl ?_)))))))))))))))))))))))
     exact bL (g:=34) rfl rfl (aX (g:=19) rfl rfl (bZ h) (aQ (fun _ a=>bI (v:=zB true) h rfl rfl) (dC (fun e7 d2=>(aA ⟨true,b,p,q,r,l,rfl,(aL.arr 1 [] d2 rfl)⟩)))))
    ·refine bP (g:=19) rfl rfl (bX h) (aQ (fun _ a=>aD (v:=i64 k) rfl) (bP (g:=19) rfl rfl (bX h) (aQ (fun _ a=>mL rfl rfl) (bP (g:=19) rfl rfl (bX h) (aQ (fun _ a=>aD (v:=zB (decide (0 < k))) rfl) ?_)))))
     rcases aK b with ⟨c,b⟩|⟨c,b⟩
     ·refine bP (g:=22) rfl rfl c (aQ (fun _ a=>bB (t':=3) dO p rfl) (bP (g:=22) rfl rfl c (aQ (fun _ a=>bR hX a (i:=1) rfl rfl rfl) (bP (g:=22) rfl rfl c (aQ (fun _ a=>aD (v:=i64 k) rfl) (bP (g:=22) rfl rfl c (aQ (fun _ a=>jS rfl rfl) (bP (g:=22) rfl rfl c ?_))))))))
      obtain ⟨u,a2,b⟩:=aI b
      refine aQ (fun _ a=>cO cR rfl m rfl rfl rfl a2) ?_
      obtain ⟨e8,x,d3⟩:=bT.el (sz:=3) rfl m a2
      cases d3
      refine bP (g:=22) rfl rfl c (aQ (fun _ a=>cH (k':=(wr (k - 1)).toNat * 3+0) fY rfl x rfl) (bP (g:=22) rfl rfl c (aQ (fun _ a=>bH (t:=0) cP a x rfl rfl) (bP (g:=22) rfl rfl c (aQ (fun _ a=>bB (t':=0) fY rfl rfl) (bP (g:=22) rfl rfl c (aQ (fun _ a=>bR cP a (i:=0) rfl rfl rfl) (bP (g:=22) rfl rfl c (aQ (fun _ a=>oY rfl rfl) (bP (g:=19) rfl rfl (bX h) (aQ (fun _ a=>bI (v:=zB (u.F == e.F)) c rfl rfl) (bP (g:=19) rfl rfl (bX h) (aQ (fun _ a=>aD (v:=zB (u.F == e.F)) rfl) ?_)))))))))))))
      rcases aK b with ⟨d,b⟩|⟨d,b⟩
      ·refine bP (g:=34) rfl rfl d (aQ (fun _ a=>bB (t':=3) dO p rfl) (bP (g:=34) rfl rfl d (aQ (fun _ a=>bR hX a (i:=1) rfl rfl rfl) (bP (g:=34) rfl rfl d (aQ (fun _ a=>aD (v:=i64 k) rfl) (bP (g:=34) rfl rfl d (aQ (fun _ a=>jS rfl rfl) (bP (g:=34) rfl rfl d (aQ (fun _ a=>cO cR rfl m rfl rfl rfl a2) (bP (g:=34) rfl rfl d (aQ (fun _ a=>cH (k':=(wr (k - 1)).toNat * 3+1) fP rfl x rfl) (bP (g:=34) rfl rfl d (aQ (fun _ a=>bH (t:=1) cP a x rfl rfl) (bP (g:=34) rfl rfl d (aQ (fun _ a=>bB (t':=1) fP rfl rfl) (bP (g:=34) rfl rfl d (aQ (fun _ a=>bR cP a (i:=0) rfl rfl rfl) (bP (g:=34) rfl rfl d (aQ (fun _ a=>oY rfl rfl) (bP (g:=19) rfl rfl (bX h) (aQ (fun _ a=>bI (v:=zB (u.B == e.B)) d rfl rfl) (aQ (fun _ a=>bJ (v:=zB (u.B == e.B)) h rfl rfl) (dC ?_)))))))))))))))))))))))
       intro e9 d4
       exact aA ⟨u.B == e.B,b,p,q,r,l,rfl,(aL.arr 1 [] d4 rfl)⟩
      ·exact aX (g:=34) rfl rfl (bU d) (aX (g:=34) rfl rfl (bU d) (aX (g:=34) rfl rfl (bU d) (aX (g:=34) rfl rfl (bU d) (aX (g:=34) rfl rfl (bU d) (aX (g:=34) rfl rfl (bU d) (aX (g:=34) rfl rfl (bU d) (aX (g:=34) rfl rfl (bU d) (aX (g:=34) rfl rfl (bU d) (aX (g:=34) rfl rfl (bU d) (bP (g:=19) rfl rfl (bX h) (aQ (fun _ a=>bJ (v:=zB false) d rfl rfl) (aQ (fun _ a=>bJ (v:=zB false) h rfl rfl) (dC (fun f0 d5=>(aA ⟨false,b,p,q,r,l,rfl,(aL.arr 1 [] d5 rfl)⟩)))))))))))))))
     ·refine aX (g:=22) rfl rfl (bU c) (aX (g:=22) rfl rfl (bU c) (aX (g:=22) rfl rfl (bU c) (aX (g:=22) rfl rfl (bU c) (aX (g:=22) rfl rfl (bU c) (aX (g:=22) rfl rfl (bU c) (aX (g:=22) rfl rfl (bU c) (aX (g:=22) rfl rfl (bU c) (aX (g:=22) rfl rfl (bU c) (aX (g:=22) rfl rfl (bU c) (bP (g:=19) rfl rfl (bX h) (aQ (fun _ a=>bJ (v:=zB false) c rfl rfl) (bP (g:=19) rfl rfl (bX h) (aQ (fun _ a=>aD (v:=zB false) rfl) (aX (g:=34) rfl rfl (bU (by decide:¬ false=true)) (aX (g:=34) rfl rfl (bU (by decide:¬ false=true)) (aX (g:=34) rfl rfl (bU (by decide:¬ false=true)) (aX (g:=34) rfl rfl (bU (by decide:¬ false=true)) (aX (g:=34) rfl rfl (bU (by decide:¬ false=true)) (aX (g:=34) rfl rfl (bU (by decide:¬ false=true)) (aX (g:=34) rfl rfl (bU (by decide:¬ false=true)) (aX (g:=34) rfl rfl (bU (by decide:¬ false=true)) (aX (g:=34) rfl rfl (bU (by decide:¬ false=true)) (aX (g:=34) rfl rfl (bU (by decide:¬ false=true)) ?_)))))))))))))))))))))))
      exact bP (g:=19) rfl rfl (bX h) (aQ (fun _ a=>bJ (v:=zB false) (by decide:¬ false=true) rfl rfl) (aQ (fun _ a=>bJ (v:=zB false) h rfl rfl) (dC (fun f1 d6=>(aA ⟨false,b,p,q,r,l,rfl,(aL.arr 1 [] d6 rfl)⟩)))))
   ·refine aM V rfl (cB (aY (aY ?_)))
    have d7:=a6 _ (zI b).symm
    subst d7
    have j:(mT)=some R:=j
    exact bO (aA ⟨j,(aL.arr 1 [] J rfl)⟩)
theorem aFp {t:dB} {d:(List Int)} {R:Bool} (hs:aL G K (L) w) (h3:bT K a1 c2 t.L) (h6:bT K a4 c5 t.E) (l:bT K a7 c8 d) (e:uM t d=some R):
  Calls Tryz.prog 203 ([zA (zCa t a1 c2 a4 c5),zS a7 d.length c8]:List Value).toArray w (fV fun v w'=>v=zB R∧aL G K (L) w'):=by
 let m:=(zC t a1 c2 a4 c5)
 refine aT Tryz.func203 rfl (by kernel_rfl) (by show (2:Nat)≤32;decide) ?_
 unfold uM at e
 refine aAZ (dW (v:=zA (zCa t a1 c2 a4 c5)) (vs:=m) hs rfl rfl (fun n d2 b1=>(pM (v:=zB false) (aAf (aH (aAZ (aBl (v:=zS a7 d.length c8) (aB (bQ (len:=d.length) bW rfl) (aBl (v:=i64 0) (aAf (bD (fun f w=>tQ=some R∧aL G K (L) w) ?_ ?_)))))))))))
 ·rintro f d3 ⟨e,b2⟩
  unfold tQ at e
  refine aA (aAZ (pM (v:=zB true) (aAf ?_)))
  cases zI e
  exact bF (bC Tryz.results203 rfl ⟨rfl,b2⟩)
 obtain ⟨d4,b4,e⟩:=aI e
 refine cD b4 (fun (h:Int) f w=>f 1=zS a7 d.length c8∧f 2=zP (some ⟨n,0,none⟩)∧f 7=zS a7 d.length c8∧f 8=i64 (d.length:Int)∧f 9=i64 h∧aL G K (box n 29 m::L) w) ?_ ?_
 ·exact ⟨rfl,rfl,rfl,rfl,rfl,b1⟩
 ·rintro h Z f d5 a a0 ⟨o,p,q,r,k,u⟩
  replace a:lB t d h=some Z:=a
  unfold lB at a
  refine aAZ (aB (cJ k r) (aAf (aH ?_)))
  rcases aK a with ⟨y,a⟩|⟨y,a⟩
  ·refine aO y rfl (aW (aA (aH (cU (aAZ (aCv k ?_))))))
   obtain ⟨j,a2,a⟩:=aI a
   refine aB (cO bW rfl l q rfl k a2) ?_
   obtain ⟨d6,b5,b6⟩:=bT.el (sz:=1) rfl l a2
   cases b6
   refine aB (bH (t:=0) cP u b5 rfl rfl) (pM (v:=i64 h) (pM (v:=i64 j) (aAf (aH (cS (fun f w=>∃ (z:Bool),mU h z=some Z∧f 1=zS a7 d.length c8∧f 2=zP (some ⟨n,0,none⟩)∧f 7=zS a7 d.length c8∧f 8=i64 (d.length:Int)∧f 9=i64 h∧f 30=zB z∧aL G K (box n 29 m::L) w) ?_ ?_)))))
   ·rintro f d7 ⟨z,a,b7,b8,b9,c0,c1,a3,a5⟩
    unfold mU at a
    refine aA ?_
    rcases aK a with ⟨J,a⟩|⟨J,a⟩
    ·refine aO J a3 (aAZ (pM (v:=zB false) (aAf (bF (bN (aS (aS ?_)))))))
     have c3:=a0 _ (zI a).symm
     subst c3
     have e:(some false)=some R:=e
     cases zI e
     exact bN (aS (aS (bC Tryz.results203 rfl ⟨rfl,(aL.arr 1 [] a5 rfl)⟩)))
    ·exact aM J a3 (aW (bG (aA (aC (aB (cX c1 rfl) (aBl (v:=i64 (wr (h+1))) (aAf ⟨wr (h+1),(zI a).symm,b7,b8,b9,c0,rfl,a5⟩)))))))
   refine aC (aB (dK (us:=m) fD u (i:=0) rfl p rfl rfl) (aBl (v:=i64 j) ?_))
   obtain ⟨c6,c7,a⟩:=aI a
   refine aU (vs:=[zA (zCa t a1 c2 a4 c5),i64 j]) Tryz.call78 rfl (sC u h3 h6 c7) ?_
   rintro _ d8 ⟨rfl,x⟩
   refine aB (dY rfl) (aBl (v:=zB (!c6)) ?_)
   rcases aK a with ⟨c,a⟩|⟨c,a⟩
   ·exact bA c rfl rfl (bA c rfl rfl (bA c rfl rfl (dQ (g:=21) rfl rfl (dQ (g:=21) rfl rfl (dQ (g:=21) rfl rfl (dQ (g:=21) rfl rfl (dQ (g:=21) rfl rfl (dQ (g:=21) rfl rfl (dQ (g:=21) rfl rfl (bA c rfl rfl (aB (bI (v:=zB true) c rfl rfl) (aAf ⟨true,a,o,p,q,r,k,rfl,x⟩))))))))))))
   ·refine bM c rfl rfl (aBl (v:=i64 h) (bM c rfl rfl (aB (mL rfl rfl) (bM c rfl rfl (aBl (v:=zB (decide (0 < h))) ?_)))))
    rcases aK a with ⟨b,a⟩|⟨b,a⟩
    ·refine bE b rfl rfl (aBl (v:=i64 j) (bE b rfl rfl (aCv o (bE b rfl rfl (aBl (v:=i64 h) (bE b rfl rfl (aB (jS rfl rfl) (bE b rfl rfl ?_))))))))
     obtain ⟨V,a6,a⟩:=aI a
     refine aB (cO bW rfl l rfl rfl rfl a6) ?_
     obtain ⟨d9,c9,d0⟩:=bT.el (sz:=1) rfl l a6
     cases d0
     exact bE b rfl rfl (aB (bH (t:=0) cP x c9 rfl rfl) (bE b rfl rfl (aB (aEo rfl rfl) (bM c rfl rfl (aB (bI (v:=zB (decide (j≤V))) b rfl rfl) (aB (bJ (v:=zB (decide (j≤V))) c rfl rfl) (aAf ⟨decide (j≤V),a,o,p,q,r,k,rfl,x⟩)))))))
    ·exact aV b rfl rfl (aV b rfl rfl (aV b rfl rfl (aV b rfl rfl (aV b rfl rfl (aV b rfl rfl (aV b rfl rfl (bM c rfl rfl (aB (bJ (v:=zB false) b rfl rfl) (aB (bJ (v:=zB false) c rfl rfl) (aAf ⟨false,a,o,p,q,r,k,rfl,x⟩))))))))))
  ·refine aM y rfl (cB (aY (aY ?_)))
   have d1:=a0 _ (zI a).symm
   subst d1
   have e:(tQ)=some R:=e
   exact bO (aA ⟨e,(aL.arr 1 [] u rfl)⟩)
end Gv
