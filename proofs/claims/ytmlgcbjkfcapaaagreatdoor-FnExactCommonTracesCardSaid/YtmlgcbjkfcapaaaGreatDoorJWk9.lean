/- Walks, printed by program. -/
import Derived.Test.YtmlgcbjkfcapaaaGreatDoorJWk1
import Derived.Test.YtmlgcbjkfcapaaaGreatDoorJWk5
import Derived.Test.YtmlgcbjkfcapaaaGreatDoorJWk8
set_option linter.all false
namespace Gv
open Go.Value renaming slice→zS,bool→zB,pointer→zP,agg→zA,tuple→zT
open Option.some renaming inj→zI
open Gv.Hp renaming le_trans→zL,le_refl→zR
open Go Go.Proofs
set_option maxRecDepth 20000
set_option maxHeartbeats 40000000
variable {G:Env} {K:Hp} {L:List pH} {w:World} {a1 a4 a7 a10:Option Addr} {c2 c5 c8 c11:Nat}
theorem aBt {aA aB:cN} {R:Bool} (hs:aK G K (L) w) (hG:G.lo=0) (h3:dB K a1 c2 aA.L) (h6:dB K a4 c5 aA.E) (h9:dB K a7 c8 aB.L) (e3:dB K a10 c11 aB.E) (c:mU aA aB=some R):
  Calls Tryz.prog 4 ([zA (zCa aA a1 c2 a4 c5),zA (zCa aB a7 c8 a10 c11)]:List Value).toArray w (iK fun v w'=>v=zB R∧aK G K (L) w'):=by
 let c7:=(zC aB a7 c8 a10 c11)
 let c9:=(zC aA a1 c2 a4 c5)
 let e8:=[zA (zCa aB a7 c8 a10 c11)]
 let f9:=[zA (zCa aA a1 c2 a4 c5)]
 let e0:=zG
 refine aX Tryz.func4 rfl (by kernel_rfl) (by show (2:Nat)≤119;decide) ?_
 unfold mU at c
 refine aM (gP (v:=zA (zCa aA a1 c2 a4 c5)) (vs:=c9) hs rfl rfl (fun d2 w14 a80=>(gP (v:=zA (zCa aB a7 c8 a10 c11)) (vs:=c7) a80 rfl rfl (fun d3 w17 z9=>(aH (v:=zB false) (aI (aM (aH (v:=i64 1048576) (aI (aM (aF (dX (us:=c9) aEi z9 (i:=1) rfl rfl rfl rfl) (aP (v:=i64 1048576) ?_))))))))))))
 obtain ⟨o0,q20,c⟩:=aD c
 refine aU (vs:=[zA (zCa aA a1 c2 a4 c5),i64 1048576]) Tryz.call6 rfl (aFb z9 h3 h6 q20) ?_
 rintro _ w21 ⟨rfl,q1⟩
 refine aH (v:=i64 o0) (aI (aQ (aM (aP (v:=i64 o0) (aF (cG rfl rfl) (aI ?_))))))
 rcases aJ c with ⟨q2,c⟩|⟨q2,c⟩
 ·refine aO q2 rfl (aM (aH (v:=zB true) (aI ?_)))
  obtain rfl:=zI c
  exact bH (aR (bF Tryz.results4 rfl ⟨rfl,(aK.arr 2 [] q1 rfl)⟩))
 ·refine aL q2 rfl (aY (aC (aM (aF (dX (us:=c7) aEi q1 (i:=0) rfl rfl rfl rfl) (aP (v:=i64 o0) ?_)))))
  obtain ⟨r25,q26,c⟩:=aD c
  refine aU (vs:=[zA (zCa aB a7 c8 a10 c11),i64 o0]) Tryz.call6 rfl (aFb q1 h9 e3 q26) ?_
  rintro _ w27 ⟨rfl,a01⟩
  refine aH (v:=i64 r25) (aI (aQ (aM (aP (v:=i64 r25) (aF (cG rfl rfl) (aI ?_))))))
  rcases aJ c with ⟨q3,c⟩|⟨q3,c⟩
  ·refine aO q3 rfl (aM (aH (v:=zB true) (aI ?_)))
   obtain rfl:=zI c
   exact bH (aR (bF Tryz.results4 rfl ⟨rfl,(aK.arr 2 [] a01 rfl)⟩))
  ·refine aL q3 rfl (aY (aC (aQ (dF (fun f w=>∃ (z:Int) (J:Int) (k:List bB) (l:List Edge) (d4:Int) (b9:Nat) (r:Option Addr) (u:Nat) (x:Option Addr) (y:Nat),kP aA aB z J k l d4=some R∧f 2=zP (some ⟨d2,0,none⟩)∧f 3=zP (some ⟨d3,0,none⟩)∧f 6=zP (some ⟨b9,0,none⟩)∧f 7=i64 d4∧aK G K (aN 63 K x y l::aN 9 K r u k::box b9 29 [i64 z,i64 J,zS r k.length u,zS x l.length y]::box d3 25 c7::box d2 25 c9::L) w) ?_ ?_))))
   ·rintro f w45 ⟨z,J,k,l,d4,b9,r,u,x,y,c,q4,q5,q6,q7,a02⟩
    unfold kP at c
    refine aC (aM (aF (dX (us:=c9) aEi a02 (i:=4) rfl q4 rfl rfl) ?_))
    obtain ⟨h,q48,c⟩:=aD c
    refine aU (vs:=f9) Tryz.call8 rfl (iA a02 h3 h6 q48) ?_
    rintro _ w53 ⟨b5,b6,b7,b8,rfl,a86⟩
    refine bS (vs:=e0) Tryz.zeroValue29 a86 rfl (fun e4 w56 a87=>(bR (i:=0) (ns:=(zC h b5 b6 b7 b8)) (us:=(zC h b5 b6 b7 b8)) Tryz.sizeOf29 a87 rfl rfl rfl rfl rfl (cX rfl) rfl rfl (fun w58 (a03:aK G K (box e4 29 (zC h b5 b6 b7 b8)::aN 9 K b5 b6 h.L::aN 63 K b7 b8 h.E::aN 63 K x y l::aN 9 K r u k::box b9 29 [i64 z,i64 J,zS r k.length u,zS x l.length y]::box d3 25 c7::box d2 25 c9::L) w58)=>(aI (aM (aF (dX (us:=c7) aEi a03 (i:=6) rfl q5 rfl rfl) ?_))))))
    obtain ⟨e,q61,c⟩:=aD c
    refine aU (vs:=e8) Tryz.call8 rfl (iA a03 h9 e3 q61) ?_
    rintro _ w66 ⟨c0,c1,c3,c4,rfl,a90⟩
    refine bS (vs:=e0) Tryz.zeroValue29 a90 rfl (fun e9 w69 a91=>(bR (i:=0) (ns:=(zC e c0 c1 c3 c4)) (us:=(zC e c0 c1 c3 c4)) Tryz.sizeOf29 a91 rfl rfl rfl rfl rfl (cX rfl) rfl rfl (fun w71 (q8:aK G K (box e9 29 (zC e c0 c1 c3 c4)::aN 9 K c0 c1 e.L::aN 63 K c3 c4 e.E::box e4 29 (zC h b5 b6 b7 b8)::aN 9 K b5 b6 h.L::aN 63 K b7 b8 h.E::aN 63 K x y l::aN 9 K r u k::box b9 29 [i64 z,i64 J,zS r k.length u,zS x l.length y]::box d3 25 c7::box d2 25 c9::L) w71)=>(aI (aM (aF (dX (us:=(zC h b5 b6 b7 b8)) dI q8 (i:=3) rfl rfl rfl rfl) (aF (dX (us:=(zC e c0 c1 c3 c4)) dI q8 (i:=0) rfl rfl rfl rfl) ?_)))))))
    obtain ⟨K73,q9,a93,a94,a96⟩:=aK.lendS (i:=4) q8 (zR _) rfl
    obtain ⟨K78,r0,a98,a99,b00⟩:=aK.lendS (i:=4) a94 q9 rfl
    obtain ⟨K83,r1,b01,b02,b03⟩:=aK.lendS (i:=1) a99 (zL q9 r0) rfl
    obtain ⟨K88,r2,b04,b05,b06⟩:=aK.lendS (i:=1) b02 (zL (zL q9 r0) r1) rfl
    obtain ⟨d,q94,c⟩:=aD c
    refine aU (vs:=[zA (zCa h b5 b6 b7 b8),zA (zCa e c0 c1 c3 c4)]) Tryz.call14 rfl (lW b05 hG (a93.mono (zL (zL r0 r1) r2)) (a98.mono (zL r1 r2)) (b01.mono r2) b04 q94) ?_
    rintro _ w99 ⟨n,o,p,q,rfl,b08⟩
    have b09:=b06 _ _ b08
    have b10:=b03 _ _ b09
    have b11:=b00 _ _ b10
    have b12:=a96 _ _ b11
    refine aP (v:=zT #[zA (zCa d.1 n o p q),i64 d.2]) (aF (bM rfl rfl) (aF (bM rfl rfl) (bS (vs:=e0) Tryz.zeroValue29 b12 rfl (fun c6 e94 b14=>(bR (i:=0) (ns:=(zC d.1 n o p q)) (us:=(zC d.1 n o p q)) Tryz.sizeOf29 b14 rfl rfl rfl rfl rfl (cX rfl) rfl rfl (fun b15 (r3:aK G K (box c6 29 (zC d.1 n o p q)::aN 9 K b5 b6 h.L::aN 63 K b7 b8 h.E::aN 9 K c0 c1 e.L::aN 63 K c3 c4 e.E::aN 9 K n o d.1.L::aN 63 K p q d.1.E::box e9 29 (zC e c0 c1 c3 c4)::box e4 29 (zC h b5 b6 b7 b8)::aN 63 K x y l::aN 9 K r u k::box b9 29 [i64 z,i64 J,zS r k.length u,zS x l.length y]::box d3 25 c7::box d2 25 c9::L) b15)=>(aH (v:=i64 d.2) (aI (aQ (aQ (dF (fun f w=>∃ (r4:Bool),iX aA aB z J k l d4 h e d r4=some R∧f 2=zP (some ⟨d2,0,none⟩)∧f 3=zP (some ⟨d3,0,none⟩)∧f 6=zP (some ⟨b9,0,none⟩)∧f 7=i64 d4∧f 8=zP (some ⟨e4,0,none⟩)∧f 9=zP (some ⟨e9,0,none⟩)∧f 10=zP (some ⟨c6,0,none⟩)∧f 11=i64 d.2∧f 53=zB r4∧aK G K (box c6 29 (zC d.1 n o p q)::aN 9 K b5 b6 h.L::aN 63 K b7 b8 h.E::aN 9 K c0 c1 e.L::aN 63 K c3 c4 e.E::aN 9 K n o d.1.L::aN 63 K p q d.1.E::box e9 29 (zC e c0 c1 c3 c4)::box e4 29 (zC h b5 b6 b7 b8)::aN 63 K x y l::aN 9 K r u k::box b9 29 [i64 z,i64 J,zS r k.length u,zS x l.length y]::box d3 25 c7::box d2 25 c9::L) w) ?_ ?_)))))))))))
    ·rintro f e95 ⟨r4,c,o1,o2,o3,o4,a04,a05,o5,b17,a06,a07⟩
     unfold iX at c
     refine aC ?_
     rcases aJ c with ⟨r5,c⟩|⟨r5,c⟩
     ·refine aO r5 a06 (aM (aH (v:=zB false) (aI ?_)))
      obtain rfl:=zI c
      exact bH (aR (bF Tryz.results4 rfl ⟨rfl,(aK.arr 14 [] a07 rfl)⟩))
     ·refine aL r5 a06 (aY (aC (aQ (aQ ?_))))
      obtain ⟨e96,g0,b19,b20,b21⟩:=aK.lendB (i:=8) a07 rfl
      obtain ⟨b22,f4,b23,a08,b24⟩:=aK.lendB (i:=12) b20 rfl
      refine gA (C:=fun w'=>∃ L',aK G b22 L' w') [(0,0),(1,0),(2,1),(3,1),(4,0)] bT (by kernel_rfl) (fun _ hg=>⟨_,aK.mono a08 hg⟩) (fun e97 b25=>?_)
      have l5:=aK.mono a08 b25
      refine bZ rfl (fun _ ⟨_,l5⟩=>fZ (t:=0) (vs:=(zC h b5 b6 b7 b8)) dI l5 (b19.mono f4) a04 rfl rfl) (bZ rfl (fun _ ⟨_,l5⟩=>fZ (t:=0) (vs:=c9) aEi l5 b23 o1 rfl rfl) (kD rfl ?_))
      obtain ⟨d6,b26,c⟩:=aD c
      refine aU (vs:=f9) Tryz.call8 rfl (iA l5 (h3.mono (zL g0 f4)) (h6.mono (zL g0 f4)) b26) ?_
      rintro _ e98 ⟨l6,l7,l8,l9,rfl,a09⟩
      refine bA (aC ⟨⟨_,a09⟩,?_⟩)
      refine kD rfl ?_
      obtain ⟨e99,r6,b27,b28,b29⟩:=aK.lendS (i:=3) a09 (zL g0 f4) rfl
      obtain ⟨f00,r7,b30,b32,b33⟩:=aK.lendS (i:=3) b28 (zL (zL g0 f4) r6) rfl
      obtain ⟨f01,r8,b34,b35,b36⟩:=aK.lendS (i:=0) b32 (zL (zL (zL g0 f4) r6) r7) rfl
      obtain ⟨f02,r9,b37,b38,b39⟩:=aK.lendS (i:=0) b35 (zL (zL (zL (zL g0 f4) r6) r7) r8) rfl
      obtain ⟨f03,b40,c⟩:=aD c
      refine aU (vs:=[zA (zCa h b5 b6 b7 b8),zA (zCa d6 l6 l7 l8 l9)]) Tryz.call10 rfl (xR b38 (b27.mono (zL (zL r7 r8) r9)) (b30.mono (zL r8 r9)) (b34.mono r9) b37 b40) ?_
      rintro _ f04 ⟨rfl,b41⟩
      have b42:=b39 _ _ b41
      have b43:=b36 _ _ b42
      have b44:=b33 _ _ b43
      have a11:=b29 _ _ b44
      refine bA (aC ⟨⟨_,a11⟩,?_⟩)
      refine bZ rfl (fun _ _=>fC rfl) (lY ?_)
      have b45:=b24 _ _ a11
      have a12:=b21 _ _ b45
      refine aC ?_
      rcases aJ c with ⟨s0,c⟩|⟨s0,c⟩
      ·refine aO s0 rfl (aM (aH (v:=zB false) (aI ?_)))
       obtain rfl:=zI c
       exact bH (aR (bF Tryz.results4 rfl ⟨rfl,(aK.arr 16 [] a12 rfl)⟩))
      ·refine aL s0 rfl (aY (aC (aQ (aQ ?_))))
       obtain ⟨f05,g1,b47,b48,b49⟩:=aK.lendB (i:=11) a12 rfl
       obtain ⟨b50,f5,b51,a13,b52⟩:=aK.lendB (i:=14) b48 rfl
       refine gA (C:=fun w'=>∃ L',aK G b50 L' w') [(0,0),(1,0),(2,1),(3,1),(4,0)] bT (by kernel_rfl) (fun _ hg=>⟨_,aK.mono a13 hg⟩) (fun f06 b53=>?_)
       have m0:=aK.mono a13 b53
       refine bZ rfl (fun _ ⟨_,m0⟩=>fZ (t:=0) (vs:=(zC e c0 c1 c3 c4)) dI m0 (b47.mono f5) a05 rfl rfl) (bZ rfl (fun _ ⟨_,m0⟩=>fZ (t:=0) (vs:=c7) aEi m0 b51 o2 rfl rfl) (kD rfl ?_))
       obtain ⟨d7,b54,c⟩:=aD c
       refine aU (vs:=e8) Tryz.call8 rfl (iA m0 (h9.mono (zL g1 f5)) (e3.mono (zL g1 f5)) b54) ?_
       rintro _ f07 ⟨m1,m2,m3,m4,rfl,a14⟩
       refine bA (aC ⟨⟨_,a14⟩,?_⟩)
       refine kD rfl ?_
       obtain ⟨f08,s1,b56,b57,b58⟩:=aK.lendS (i:=9) a14 (zL g1 f5) rfl
       obtain ⟨f09,s2,b59,b60,b61⟩:=aK.lendS (i:=9) b57 (zL (zL g1 f5) s1) rfl
       obtain ⟨f10,s3,b62,b63,b64⟩:=aK.lendS (i:=0) b60 (zL (zL (zL g1 f5) s1) s2) rfl
       obtain ⟨f11,s4,b65,b66,b67⟩:=aK.lendS (i:=0) b63 (zL (zL (zL (zL g1 f5) s1) s2) s3) rfl
       obtain ⟨f12,b69,c⟩:=aD c
       refine aU (vs:=[zA (zCa e c0 c1 c3 c4),zA (zCa d7 m1 m2 m3 m4)]) Tryz.call10 rfl (xR b66 (b56.mono (zL (zL s2 s3) s4)) (b59.mono (zL s3 s4)) (b62.mono s4) b65 b69) ?_
       rintro _ b70 ⟨rfl,b71⟩
       have b72:=b67 _ _ b71
       have b73:=b64 _ _ b72
       have b74:=b61 _ _ b73
       have a15:=b58 _ _ b74
       refine bA (aC ⟨⟨_,a15⟩,?_⟩)
       refine bZ rfl (fun _ _=>fC rfl) (lY ?_)
       have b75:=b52 _ _ a15
       have s5:=b49 _ _ b75
       refine aC ?_
       rcases aJ c with ⟨s6,c⟩|⟨s6,c⟩
       ·refine aO s6 rfl (aM (aH (v:=zB false) (aI ?_)))
        obtain rfl:=zI c
        exact bH (aR (bF Tryz.results4 rfl ⟨rfl,(aK.arr 18 [] s5 rfl)⟩))
       ·refine aL s6 rfl (aY (aC (aM (aH (v:=i64 1) (aI (aM (aF (dX (us:=(zC h b5 b6 b7 b8)) dI s5 (i:=6) rfl a04 rfl rfl) (aP (v:=i64 1) ?_))))))))
        have b77:aK G K (aN 9 K b5 b6 h.L::aN 63 K b7 b8 h.E::box e9 29 (zC e c0 c1 c3 c4)::box d3 25 c7::aN 9 K c0 c1 e.L::aN 63 K c3 c4 e.E::aN 9 K m1 m2 d7.L::aN 63 K m3 m4 d7.E::box e4 29 (zC h b5 b6 b7 b8)::box d2 25 c9::aN 9 K l6 l7 d6.L::aN 63 K l8 l9 d6.E::box c6 29 (zC d.1 n o p q)::aN 9 K n o d.1.L::aN 63 K p q d.1.E::aN 63 K x y l::aN 9 K r u k::box b9 29 [i64 z,i64 J,zS r k.length u,zS x l.length y]::L) b70:=(aK.arr 10 [8,9,0,1,2,3,4,5,6,7] s5 rfl)
        obtain ⟨d5,b78,c⟩:=aD c
        refine aU (vs:=[zA (zCa h b5 b6 b7 b8),i64 1]) Tryz.call11 rfl (aBp b77 b78) ?_
        rintro _ a16 ⟨rfl,b79,b80,b81⟩
        have a17:aK G K (aN 9 K b5 b6 d5.2.1::aN 63 K b7 b8 d5.2.2::box e9 29 (zC e c0 c1 c3 c4)::box d3 25 c7::aN 9 K c0 c1 e.L::aN 63 K c3 c4 e.E::aN 9 K m1 m2 d7.L::aN 63 K m3 m4 d7.E::box e4 29 [i64 h.N,i64 h.I,zS b5 d5.2.1.length b6,zS b7 d5.2.2.length b8]::box d2 25 c9::aN 9 K l6 l7 d6.L::aN 63 K l8 l9 d6.E::box c6 29 (zC d.1 n o p q)::aN 9 K n o d.1.L::aN 63 K p q d.1.E::aN 63 K x y l::aN 9 K r u k::box b9 29 [i64 z,i64 J,zS r k.length u,zS x l.length y]::L) a16:=by rw [←b79,←b80];exact b81
        refine aH (v:=i64 d5.1) (aI (aM (aF (dX (us:=(zC e c0 c1 c3 c4)) dI a17 (i:=2) rfl a05 rfl rfl) (aP (v:=i64 d5.1) ?_))))
        have b82:aK G K (aN 9 K c0 c1 e.L::aN 63 K c3 c4 e.E::aN 9 K b5 b6 d5.2.1::aN 63 K b7 b8 d5.2.2::box e9 29 (zC e c0 c1 c3 c4)::box d3 25 c7::aN 9 K m1 m2 d7.L::aN 63 K m3 m4 d7.E::box e4 29 [i64 h.N,i64 h.I,zS b5 d5.2.1.length b6,zS b7 d5.2.2.length b8]::box d2 25 c9::aN 9 K l6 l7 d6.L::aN 63 K l8 l9 d6.E::box c6 29 (zC d.1 n o p q)::aN 9 K n o d.1.L::aN 63 K p q d.1.E::aN 63 K x y l::aN 9 K r u k::box b9 29 [i64 z,i64 J,zS r k.length u,zS x l.length y]::L) a16:=(aK.arr 6 [4,5,0,1,2,3] a17 rfl)
        obtain ⟨f6,b83,c⟩:=aD c
        refine aU (vs:=[zA (zCa e c0 c1 c3 c4),i64 d5.1]) Tryz.call11 rfl (aBp b82 b83) ?_
        rintro _ b84 ⟨rfl,b85,b86,b87⟩
        have o6:aK G K (aN 9 K c0 c1 f6.2.1::aN 63 K c3 c4 f6.2.2::aN 9 K b5 b6 d5.2.1::aN 63 K b7 b8 d5.2.2::box e9 29 [i64 e.N,i64 e.I,zS c0 f6.2.1.length c1,zS c3 f6.2.2.length c4]::box d3 25 c7::aN 9 K m1 m2 d7.L::aN 63 K m3 m4 d7.E::box e4 29 [i64 h.N,i64 h.I,zS b5 d5.2.1.length b6,zS b7 d5.2.2.length b8]::box d2 25 c9::aN 9 K l6 l7 d6.L::aN 63 K l8 l9 d6.E::box c6 29 (zC d.1 n o p q)::aN 9 K n o d.1.L::aN 63 K p q d.1.E::aN 63 K x y l::aN 9 K r u k::box b9 29 [i64 z,i64 J,zS r k.length u,zS x l.length y]::L) b84:=by rw [←b85,←b86];exact b87
        refine aH (v:=i64 f6.1) (aI (aQ (aQ (dF (fun f w=>∃ (s7:Bool),gV aA aB z J k l d4 d s7=some R∧f 2=zP (some ⟨d2,0,none⟩)∧f 3=zP (some ⟨d3,0,none⟩)∧f 6=zP (some ⟨b9,0,none⟩)∧f 7=i64 d4∧f 10=zP (some ⟨c6,0,none⟩)∧f 82=zB s7∧aK G K (box d3 25 c7::box d2 25 c9::box c6 29 (zC d.1 n o p q)::aN 9 K n o d.1.L::aN 63 K p q d.1.E::aN 63 K x y l::aN 9 K r u k::box b9 29 [i64 z,i64 J,zS r k.length u,zS x l.length y]::L) w) ?_ ?_))))
        ·rintro f b88 ⟨s7,c,b89,b90,o7,o8,g2,a18,s8⟩
         unfold gV at c
         refine aC ?_
         rcases aJ c with ⟨s9,c⟩|⟨s9,c⟩
         ·refine aO s9 a18 (aM (aH (v:=zB false) (aI ?_)))
          obtain rfl:=zI c
          exact bH (aR (bF Tryz.results4 rfl ⟨rfl,(aK.arr 8 [] s8 rfl)⟩))
         ·refine aL s9 a18 (aY (aC (aM (aH (v:=i64 1) (aI (aM (aF (dX (us:=(zC d.1 n o p q)) dI s8 (i:=2) rfl g2 rfl rfl) (aP (v:=i64 1) ?_))))))))
          have b92:aK G K (aN 9 K n o d.1.L::aN 63 K p q d.1.E::box d3 25 c7::box d2 25 c9::box c6 29 (zC d.1 n o p q)::aN 63 K x y l::aN 9 K r u k::box b9 29 [i64 z,i64 J,zS r k.length u,zS x l.length y]::L) b88:=(aK.arr 5 [3,4,0,1,2] s8 rfl)
          obtain ⟨m,b93,c⟩:=aD c
          refine aU (vs:=[zA (zCa d.1 n o p q),i64 1]) Tryz.call11 rfl (aBp b92 b93) ?_
          rintro _ b94 ⟨rfl,b95,b96,b97⟩
          have a19:aK G K (aN 9 K n o m.2.1::aN 63 K p q m.2.2::box d3 25 c7::box d2 25 c9::box c6 29 [i64 d.1.N,i64 d.1.I,zS n m.2.1.length o,zS p m.2.2.length q]::aN 63 K x y l::aN 9 K r u k::box b9 29 [i64 z,i64 J,zS r k.length u,zS x l.length y]::L) b94:=by rw [←b95,←b96];exact b97
          refine aH (v:=i64 m.1) (aI (aM (aH (v:=i64 1) (aI (aM (aF (dX (us:=[i64 d.1.N,i64 d.1.I,zS n m.2.1.length o,zS p m.2.2.length q]) dI a19 (i:=4) rfl g2 rfl rfl) (aP (v:=i64 1) ?_)))))))
          obtain ⟨f13,b98,b99,c00,c01⟩:=aK.lendS (i:=0) a19 (zR _) rfl
          obtain ⟨f14,c02,c03,c04,c05⟩:=aK.lendS (i:=0) c00 b98 rfl
          obtain ⟨t0,c06,c⟩:=aD c
          refine aU (vs:=[zA #[i64 d.1.N,i64 d.1.I,zS n m.2.1.length o,zS p m.2.2.length q],i64 1]) Tryz.call12 rfl (aDC (a:=⟨d.1.N,d.1.I,m.2.1,m.2.2⟩) c04 (b99.mono c02) c03 c06) ?_
          rintro _ f15 ⟨rfl,c07⟩
          have c08:=c05 _ _ c07
          have t1:=c01 _ _ c08
          refine aH (v:=i64 t0) (aI (aQ (aM (aP (v:=i64 t0) (aF (cG rfl rfl) (aI ?_))))))
          rcases aJ c with ⟨t2,c⟩|⟨t2,c⟩
          ·refine aO t2 rfl (aM (aH (v:=zB false) (aI ?_)))
           obtain rfl:=zI c
           exact bH (aR (bF Tryz.results4 rfl ⟨rfl,(aK.arr 8 [] t1 rfl)⟩))
          ·refine aL t2 rfl (aY (aC (aQ (aM (aP (v:=i64 t0) (aP (v:=i64 m.1) (aF (oO rfl rfl) (aI ?_))))))))
           rcases aJ c with ⟨t3,c⟩|⟨t3,c⟩
           ·refine aO t3 rfl (aM (aH (v:=zB false) (aI ?_)))
            obtain rfl:=zI c
            exact bH (aR (bF Tryz.results4 rfl ⟨rfl,(aK.arr 8 [] t1 rfl)⟩))
           ·refine aL t3 rfl (aY (aC (aQ (dF (fun f w=>∃ (g3:Int) (g4:Int) (f7:List bB) (f8:List Edge) (m5:Int) (t4:Nat) (m6:Option Addr) (m7:Nat) (m8:Option Addr) (m9:Nat),kO z J k l d4 d m g3 g4 f7 f8 m5=some R∧f 6=zP (some ⟨b9,0,none⟩)∧f 7=i64 d4∧f 10=zP (some ⟨c6,0,none⟩)∧f 13=i64 m.1∧f 15=zP (some ⟨t4,0,none⟩)∧f 16=i64 m5∧aK G K (aN 63 K m8 m9 f8::aN 9 K m6 m7 f7::box t4 29 [i64 g3,i64 g4,zS m6 f7.length m7,zS m8 f8.length m9]::aN 9 K n o m.2.1::aN 63 K p q m.2.2::box c6 29 [i64 d.1.N,i64 d.1.I,zS n m.2.1.length o,zS p m.2.2.length q]::aN 63 K x y l::aN 9 K r u k::box b9 29 [i64 z,i64 J,zS r k.length u,zS x l.length y]::L) w) ?_ ?_))))
            ·rintro f f16 ⟨g3,g4,f7,f8,m5,t4,m6,m7,m8,m9,c,c12,c13,a20,a21,c14,c15,t5⟩
             unfold kO at c
             refine aC (aQ (aQ (dF (fun f w=>∃ (t6:Bool),iW d m t6=some R∧f 10=zP (some ⟨c6,0,none⟩)∧f 13=i64 m.1∧f 110=zB t6∧aK G K (aN 9 K n o m.2.1::aN 63 K p q m.2.2::box c6 29 [i64 d.1.N,i64 d.1.I,zS n m.2.1.length o,zS p m.2.2.length q]::L) w) ?_ ?_)))
             ·rintro f f17 ⟨t6,c,c16,c17,a22,t7⟩
              unfold iW at c
              refine aC ?_
              rcases aJ c with ⟨t8,c⟩|⟨t8,c⟩
              ·refine aO t8 a22 (aM (aH (v:=zB false) (aI ?_)))
               obtain rfl:=zI c
               exact bH (aR (bF Tryz.results4 rfl ⟨rfl,(aK.arr 3 [] t7 rfl)⟩))
              ·refine aL t8 a22 (aY (aC (aM (aH (v:=i64 1) (aI (aM (aF (dX (us:=[i64 d.1.N,i64 d.1.I,zS n m.2.1.length o,zS p m.2.2.length q]) dI t7 (i:=2) rfl c16 rfl rfl) (aP (v:=i64 1) ?_))))))))
               obtain ⟨f18,c19,c20,c21,c22⟩:=aK.lendS (i:=0) t7 (zR _) rfl
               obtain ⟨f19,c24,c25,c26,c27⟩:=aK.lendS (i:=0) c21 c19 rfl
               obtain ⟨t9,c28,c⟩:=aD c
               refine aU (vs:=[zA #[i64 d.1.N,i64 d.1.I,zS n m.2.1.length o,zS p m.2.2.length q],i64 1]) Tryz.call12 rfl (aDC (a:=⟨d.1.N,d.1.I,m.2.1,m.2.2⟩) c26 (c20.mono c24) c25 c28) ?_
               rintro _ f20 ⟨rfl,c30⟩
               have c31:=c27 _ _ c30
               have u0:=c22 _ _ c31
               refine aH (v:=i64 t9) (aI (aQ (aM (aP (v:=i64 t9) (aF (cG rfl rfl) (aI ?_))))))
               rcases aJ c with ⟨u1,c⟩|⟨u1,c⟩
               ·refine aO u1 rfl (aM (aH (v:=zB false) (aI ?_)))
                obtain rfl:=zI c
                exact bH (aR (bF Tryz.results4 rfl ⟨rfl,(aK.arr 3 [] u0 rfl)⟩))
               ·refine aL u1 rfl (aY (aC (aQ (aM (aP (v:=i64 t9) (aT c17 (aF (oO rfl rfl) (aI ?_))))))))
                rcases aJ c with ⟨u2,c⟩|⟨u2,c⟩
                ·refine aO u2 rfl (aM (aH (v:=zB false) (aI ?_)))
                 obtain rfl:=zI c
                 exact bH (aR (bF Tryz.results4 rfl ⟨rfl,(aK.arr 3 [] u0 rfl)⟩))
                ·refine aL u2 rfl (aY (aC (aM (aH (v:=zB true) (aI ?_)))))
                 obtain rfl:=zI c
                 exact bH (bF Tryz.results4 rfl ⟨rfl,(aK.arr 3 [] u0 rfl)⟩)
             refine aS (aF (dX (us:=[i64 g3,i64 g4,zS m6 f7.length m7,zS m8 f8.length m9]) dI t5 (i:=2) rfl c14 rfl rfl) (aF (dX (us:=[i64 z,i64 J,zS r k.length u,zS x l.length y]) dI t5 (i:=8) rfl c12 rfl rfl) ?_))
             obtain ⟨f21,u3,c35,c37,c38⟩:=aK.lendS (i:=1) t5 (zR _) rfl
             obtain ⟨f22,u4,c40,c41,c42⟩:=aK.lendS (i:=0) c37 u3 rfl
             obtain ⟨f23,u5,c43,c44,c45⟩:=aK.lendS (i:=5) c41 (zL u3 u4) rfl
             obtain ⟨f24,u6,c46,c47,c48⟩:=aK.lendS (i:=4) c44 (zL (zL u3 u4) u5) rfl
             obtain ⟨c49,c51,c⟩:=aD c
             refine aU (vs:=[zA #[i64 g3,i64 g4,zS m6 f7.length m7,zS m8 f8.length m9],zA #[i64 z,i64 J,zS r k.length u,zS x l.length y]]) Tryz.call10 rfl (xR (a:=⟨g3,g4,f7,f8⟩) (b:=⟨z,J,k,l⟩) c47 (c35.mono (zL (zL u4 u5) u6)) (c40.mono (zL u5 u6)) (c43.mono u6) c46 c51) ?_
             rintro _ f25 ⟨rfl,c53⟩
             have c54:=c48 _ _ c53
             have c55:=c45 _ _ c54
             have c56:=c42 _ _ c55
             have a23:=c38 _ _ c56
             refine aF (fC rfl) (aP (v:=zB (!c49)) ?_)
             rcases aJ c with ⟨e5,c⟩|⟨e5,c⟩
             ·exact bC e5 rfl rfl (bC e5 rfl rfl (bC e5 rfl rfl (aF (bO (v:=zB true) e5 rfl rfl) (aI ⟨true,c,a20,a21,rfl,(aK.arr 9 [5,6,7] a23 rfl)⟩))))
             ·exact bP e5 rfl rfl (aT c15 (bP e5 rfl rfl (aT c13 (bP e5 rfl rfl (aF (oO rfl rfl) (aF (bV (v:=zB (m5 != d4)) e5 rfl rfl) (aI ⟨m5 != d4,c,a20,a21,rfl,(aK.arr 9 [5,6,7] a23 rfl)⟩)))))))
            obtain ⟨f26,a3,c57,c58,o9⟩:=aK.lendB (i:=2) t1 rfl
            obtain ⟨n0,V,c59,c60,p0⟩:=aK.lendB (i:=2) c58 rfl
            refine sM (C:=fun w'=>∃ L',aK G n0 L' w') [] bT (by kernel_rfl) (fun f27 c61=>?_)
            have f0:=aK.mono c60 c61
            refine dP (i:=0) rfl (by kernel_rfl) ⟨_,f0⟩ (fun _ ⟨_,f0⟩=>fZ (t:=0) (vs:=c9) aEi f0 c59 b89 rfl rfl) (dP (i:=2) rfl (by kernel_rfl) ⟨_,f0⟩ (fun _ ⟨_,f0⟩=>fZ (t:=0) (vs:=c7) aEi f0 (c57.mono V) b90 rfl rfl) (oJ (i:=1) (j:=8) (by kernel_rfl) rfl rfl ?_ ?_))
            ·obtain ⟨d0,c62,c⟩:=aD c
             refine aU (vs:=f9) Tryz.call8 rfl (iA f0 (h3.mono (zL a3 V)) (h6.mono (zL a3 V)) c62) ?_
             rintro _ f28 ⟨g5,g6,g7,g8,rfl,u7⟩
             refine bA (aC ⟨fun _=>⟨_,u7⟩,?_⟩)
             refine oJ (i:=3) (j:=8) (by kernel_rfl) rfl rfl ?_ ?_
             ·obtain ⟨d8,c64,c⟩:=aD c
              refine aU (vs:=e8) Tryz.call8 rfl (iA u7 (h9.mono (zL a3 V)) (e3.mono (zL a3 V)) c64) ?_
              rintro _ f29 ⟨p1,p2,p3,p4,rfl,u8⟩
              refine bA (aC ⟨fun _=>⟨_,u8⟩,?_⟩)
              refine oJ (i:=4) (j:=8) (by kernel_rfl) rfl rfl ?_ ?_
              ·obtain ⟨f30,u9,c66,c67,c68⟩:=aK.lendS (i:=2) u8 (zL a3 V) rfl
               obtain ⟨f31,v0,c69,c70,c71⟩:=aK.lendS (i:=2) c67 (zL (zL a3 V) u9) rfl
               obtain ⟨f32,v1,c72,c73,c74⟩:=aK.lendS (i:=0) c70 (zL (zL (zL a3 V) u9) v0) rfl
               obtain ⟨f33,v2,c75,c76,c77⟩:=aK.lendS (i:=0) c73 (zL (zL (zL (zL a3 V) u9) v0) v1) rfl
               obtain ⟨a6,c78,c⟩:=aD c
               refine aU (vs:=[zA (zCa d0 g5 g6 g7 g8),zA (zCa d8 p1 p2 p3 p4)]) Tryz.call14 rfl (lW c76 hG (c66.mono (zL (zL v0 v1) v2)) (c69.mono (zL v1 v2)) (c72.mono v2) c75 c78) ?_
               rintro _ f34 ⟨g9,h0,h1,h2,rfl,c79⟩
               have c80:=c77 _ _ c79
               have c81:=c74 _ _ c80
               have c82:=c71 _ _ c81
               have n1:=c68 _ _ c82
               refine bA (aC ⟨fun _=>⟨_,n1⟩,?_⟩)
               refine dP (i:=5) rfl (by kernel_rfl) ⟨_,n1⟩ (fun _ _=>aZ (v:=zT #[zA (zCa a6.1 g9 h0 h1 h2),i64 a6.2]) rfl) (dP (i:=6) rfl (by kernel_rfl) ⟨_,n1⟩ (fun _ _=>bM rfl rfl) (dP (i:=7) rfl (by kernel_rfl) ⟨_,n1⟩ (fun _ _=>bM rfl rfl) (cL (i:=8) (by kernel_rfl) rfl (bS (vs:=e0) Tryz.zeroValue29 n1 rfl (fun a24 f35 a25=>(bA (aC ⟨fun _=>⟨_,a25⟩,?_⟩)))))))
               refine cL (i:=9) (by kernel_rfl) rfl (bR (i:=0) (ns:=(zC a6.1 g9 h0 h1 h2)) (us:=(zC a6.1 g9 h0 h1 h2)) Tryz.sizeOf29 a25 rfl rfl rfl rfl rfl (cX rfl) rfl rfl (fun c83 (v3:aK G n0 (box a24 29 (zC a6.1 g9 h0 h1 h2)::aN 9 K g5 g6 d0.L::aN 63 K g7 g8 d0.E::aN 9 K p1 p2 d8.L::aN 63 K p3 p4 d8.E::aN 9 K g9 h0 a6.1.L::aN 63 K h1 h2 a6.1.E::aN 9 K n o m.2.1::aN 63 K p q m.2.2::box c6 29 [i64 d.1.N,i64 d.1.I,zS n m.2.1.length o,zS p m.2.2.length q]::aN 63 K x y l::aN 9 K r u k::box b9 29 [i64 z,i64 J,zS r k.length u,zS x l.length y]::L) c83)=>(bA (aC ⟨fun _=>⟨_,v3⟩,?_⟩))))
               refine dP (i:=10) rfl (by kernel_rfl) ⟨_,v3⟩ (fun _ _=>dH (v:=i64 a6.2) rfl) (iY (by kernel_rfl) ?_)
               have c84:=p0 _ _ v3
               have c85:=o9 _ _ c84
               exact aC ⟨a6.1.N,a6.1.I,a6.1.L,a6.1.E,a6.2,a24,g9,h0,h1,h2,c,o7,o8,g2,rfl,rfl,rfl,(aK.arr 9 [8,7,2] c85 rfl)⟩
              ·refine bS (vs:=e0) Tryz.zeroValue29 u8 rfl (fun a26 f36 a27=>(bA (aC ⟨fun _=>⟨_,a27⟩,?_⟩)))
               refine cL (i:=4) (by kernel_rfl) rfl ?_
               obtain ⟨f37,v4,c86,c87,c88⟩:=aK.lendS (i:=3) a27 (zL a3 V) rfl
               obtain ⟨f38,v5,c89,c90,c91⟩:=aK.lendS (i:=3) c87 (zL (zL a3 V) v4) rfl
               obtain ⟨f39,v6,c92,c93,c94⟩:=aK.lendS (i:=1) c90 (zL (zL (zL a3 V) v4) v5) rfl
               obtain ⟨f40,v7,c95,c97,c99⟩:=aK.lendS (i:=1) c93 (zL (zL (zL (zL a3 V) v4) v5) v6) rfl
               obtain ⟨a8,d00,c⟩:=aD c
               refine aU (vs:=[zA (zCa d0 g5 g6 g7 g8),zA (zCa d8 p1 p2 p3 p4)]) Tryz.call14 rfl (lW c97 hG (c86.mono (zL (zL v5 v6) v7)) (c89.mono (zL v6 v7)) (c92.mono v7) c95 d00) ?_
               rintro _ f41 ⟨h4,h5,h7,h8,rfl,d01⟩
               have d02:=c99 _ _ d01
               have d03:=c94 _ _ d02
               have d04:=c91 _ _ d03
               have n2:=c88 _ _ d04
               refine bA (aC ⟨fun _=>⟨_,n2⟩,?_⟩)
               refine dP (i:=5) rfl (by kernel_rfl) ⟨_,n2⟩ (fun _ _=>aZ (v:=zT #[zA (zCa a8.1 h4 h5 h7 h8),i64 a8.2]) rfl) (dP (i:=6) rfl (by kernel_rfl) ⟨_,n2⟩ (fun _ _=>bM rfl rfl) (dP (i:=7) rfl (by kernel_rfl) ⟨_,n2⟩ (fun _ _=>bM rfl rfl) (cL (i:=9) (by kernel_rfl) rfl (bR (i:=6) (ns:=(zC a8.1 h4 h5 h7 h8)) (us:=(zC a8.1 h4 h5 h7 h8)) Tryz.sizeOf29 n2 rfl rfl rfl rfl rfl (cX rfl) rfl rfl (fun d05 (v8:aK G n0 (aN 9 K g5 g6 d0.L::aN 63 K g7 g8 d0.E::aN 9 K p1 p2 d8.L::aN 63 K p3 p4 d8.E::aN 9 K h4 h5 a8.1.L::aN 63 K h7 h8 a8.1.E::box a26 29 (zC a8.1 h4 h5 h7 h8)::aN 9 K n o m.2.1::aN 63 K p q m.2.2::box c6 29 [i64 d.1.N,i64 d.1.I,zS n m.2.1.length o,zS p m.2.2.length q]::aN 63 K x y l::aN 9 K r u k::box b9 29 [i64 z,i64 J,zS r k.length u,zS x l.length y]::L) d05)=>(bA (aC ⟨fun _=>⟨_,v8⟩,?_⟩)))))))
               refine dP (i:=10) rfl (by kernel_rfl) ⟨_,v8⟩ (fun _ _=>dH (v:=i64 a8.2) rfl) (iY (by kernel_rfl) ?_)
               have d06:=p0 _ _ v8
               have d07:=o9 _ _ d06
               exact aC ⟨a8.1.N,a8.1.I,a8.1.L,a8.1.E,a8.2,a26,h4,h5,h7,h8,c,o7,o8,g2,rfl,rfl,rfl,(aK.arr 8 [7,6] d07 rfl)⟩
             ·refine bS (vs:=e0) Tryz.zeroValue29 u7 rfl (fun a28 f42 a29=>(bA (aC ⟨fun _=>⟨_,a29⟩,?_⟩)))
              refine cL (i:=3) (by kernel_rfl) rfl ?_
              obtain ⟨i0,d08,c⟩:=aD c
              refine aU (vs:=e8) Tryz.call8 rfl (iA a29 (h9.mono (zL a3 V)) (e3.mono (zL a3 V)) d08) ?_
              rintro _ f43 ⟨a30,a31,a32,a33,rfl,a34⟩
              refine bA (aC ⟨fun _=>⟨_,a34⟩,?_⟩)
              refine cL (i:=4) (by kernel_rfl) rfl ?_
              obtain ⟨f44,v9,d09,d10,d11⟩:=aK.lendS (i:=3) a34 (zL a3 V) rfl
              obtain ⟨f45,w0,d12,d13,d14⟩:=aK.lendS (i:=3) d10 (zL (zL a3 V) v9) rfl
              obtain ⟨f46,w1,d15,d16,d17⟩:=aK.lendS (i:=0) d13 (zL (zL (zL a3 V) v9) w0) rfl
              obtain ⟨f47,w2,d18,d19,d20⟩:=aK.lendS (i:=0) d16 (zL (zL (zL (zL a3 V) v9) w0) w1) rfl
              obtain ⟨a9,d21,c⟩:=aD c
              refine aU (vs:=[zA (zCa d0 g5 g6 g7 g8),zA (zCa i0 a30 a31 a32 a33)]) Tryz.call14 rfl (lW d19 hG (d09.mono (zL (zL w0 w1) w2)) (d12.mono (zL w1 w2)) (d15.mono w2) d18 d21) ?_
              rintro _ f48 ⟨i1,i2,i3,i4,rfl,d22⟩
              have d23:=d20 _ _ d22
              have d24:=d17 _ _ d23
              have d25:=d14 _ _ d24
              have n3:=d11 _ _ d25
              refine bA (aC ⟨fun _=>⟨_,n3⟩,?_⟩)
              refine dP (i:=5) rfl (by kernel_rfl) ⟨_,n3⟩ (fun _ _=>aZ (v:=zT #[zA (zCa a9.1 i1 i2 i3 i4),i64 a9.2]) rfl) (dP (i:=6) rfl (by kernel_rfl) ⟨_,n3⟩ (fun _ _=>bM rfl rfl) (dP (i:=7) rfl (by kernel_rfl) ⟨_,n3⟩ (fun _ _=>bM rfl rfl) (cL (i:=9) (by kernel_rfl) rfl (bR (i:=6) (ns:=(zC a9.1 i1 i2 i3 i4)) (us:=(zC a9.1 i1 i2 i3 i4)) Tryz.sizeOf29 n3 rfl rfl rfl rfl rfl (cX rfl) rfl rfl (fun d26 (w3:aK G n0 (aN 9 K g5 g6 d0.L::aN 63 K g7 g8 d0.E::aN 9 K a30 a31 i0.L::aN 63 K a32 a33 i0.E::aN 9 K i1 i2 a9.1.L::aN 63 K i3 i4 a9.1.E::box a28 29 (zC a9.1 i1 i2 i3 i4)::aN 9 K n o m.2.1::aN 63 K p q m.2.2::box c6 29 [i64 d.1.N,i64 d.1.I,zS n m.2.1.length o,zS p m.2.2.length q]::aN 63 K x y l::aN 9 K r u k::box b9 29 [i64 z,i64 J,zS r k.length u,zS x l.length y]::L) d26)=>(bA (aC ⟨fun _=>⟨_,w3⟩,?_⟩)))))))
              refine dP (i:=10) rfl (by kernel_rfl) ⟨_,w3⟩ (fun _ _=>dH (v:=i64 a9.2) rfl) (iY (by kernel_rfl) ?_)
              have d27:=p0 _ _ w3
              have d28:=o9 _ _ d27
              exact aC ⟨a9.1.N,a9.1.I,a9.1.L,a9.1.E,a9.2,a28,i1,i2,i3,i4,c,o7,o8,g2,rfl,rfl,rfl,(aK.arr 8 [7,6] d28 rfl)⟩
            ·refine bS (vs:=e0) Tryz.zeroValue29 f0 rfl (fun a36 f49 a37=>(bA (aC ⟨fun _=>⟨_,a37⟩,?_⟩)))
             refine cL (i:=1) (by kernel_rfl) rfl ?_
             obtain ⟨i5,d29,c⟩:=aD c
             refine aU (vs:=f9) Tryz.call8 rfl (iA a37 (h3.mono (zL a3 V)) (h6.mono (zL a3 V)) d29) ?_
             rintro _ f50 ⟨a39,a40,a41,a42,rfl,a43⟩
             refine bA (aC ⟨fun _=>⟨_,a43⟩,?_⟩)
             refine cL (i:=3) (by kernel_rfl) rfl ?_
             obtain ⟨i6,d30,c⟩:=aD c
             refine aU (vs:=e8) Tryz.call8 rfl (iA a43 (h9.mono (zL a3 V)) (e3.mono (zL a3 V)) d30) ?_
             rintro _ f51 ⟨a44,a45,a46,a47,rfl,a48⟩
             refine bA (aC ⟨fun _=>⟨_,a48⟩,?_⟩)
             refine cL (i:=4) (by kernel_rfl) rfl ?_
             obtain ⟨f52,w4,d31,d32,d33⟩:=aK.lendS (i:=2) a48 (zL a3 V) rfl
             obtain ⟨f53,w5,d34,d35,d36⟩:=aK.lendS (i:=2) d32 (zL (zL a3 V) w4) rfl
             obtain ⟨f54,w6,d37,d38,d39⟩:=aK.lendS (i:=0) d35 (zL (zL (zL a3 V) w4) w5) rfl
             obtain ⟨f55,w7,d40,d41,d42⟩:=aK.lendS (i:=0) d38 (zL (zL (zL (zL a3 V) w4) w5) w6) rfl
             obtain ⟨b0,d43,c⟩:=aD c
             refine aU (vs:=[zA (zCa i5 a39 a40 a41 a42),zA (zCa i6 a44 a45 a46 a47)]) Tryz.call14 rfl (lW d41 hG (d31.mono (zL (zL w5 w6) w7)) (d34.mono (zL w6 w7)) (d37.mono w7) d40 d43) ?_
             rintro _ f56 ⟨i7,i8,i9,j0,rfl,d44⟩
             have d45:=d42 _ _ d44
             have d46:=d39 _ _ d45
             have d47:=d36 _ _ d46
             have n4:=d33 _ _ d47
             refine bA (aC ⟨fun _=>⟨_,n4⟩,?_⟩)
             refine dP (i:=5) rfl (by kernel_rfl) ⟨_,n4⟩ (fun _ _=>aZ (v:=zT #[zA (zCa b0.1 i7 i8 i9 j0),i64 b0.2]) rfl) (dP (i:=6) rfl (by kernel_rfl) ⟨_,n4⟩ (fun _ _=>bM rfl rfl) (dP (i:=7) rfl (by kernel_rfl) ⟨_,n4⟩ (fun _ _=>bM rfl rfl) (cL (i:=9) (by kernel_rfl) rfl (bR (i:=6) (ns:=(zC b0.1 i7 i8 i9 j0)) (us:=(zC b0.1 i7 i8 i9 j0)) Tryz.sizeOf29 n4 rfl rfl rfl rfl rfl (cX rfl) rfl rfl (fun d48 (w8:aK G n0 (aN 9 K a39 a40 i5.L::aN 63 K a41 a42 i5.E::aN 9 K a44 a45 i6.L::aN 63 K a46 a47 i6.E::aN 9 K i7 i8 b0.1.L::aN 63 K i9 j0 b0.1.E::box a36 29 (zC b0.1 i7 i8 i9 j0)::aN 9 K n o m.2.1::aN 63 K p q m.2.2::box c6 29 [i64 d.1.N,i64 d.1.I,zS n m.2.1.length o,zS p m.2.2.length q]::aN 63 K x y l::aN 9 K r u k::box b9 29 [i64 z,i64 J,zS r k.length u,zS x l.length y]::L) d48)=>(bA (aC ⟨fun _=>⟨_,w8⟩,?_⟩)))))))
             refine dP (i:=10) rfl (by kernel_rfl) ⟨_,w8⟩ (fun _ _=>dH (v:=i64 b0.2) rfl) (iY (by kernel_rfl) ?_)
             have d49:=p0 _ _ w8
             have d50:=o9 _ _ d49
             exact aC ⟨b0.1.N,b0.1.I,b0.1.L,b0.1.E,b0.2,a36,i7,i8,i9,j0,c,o7,o8,g2,rfl,rfl,rfl,(aK.arr 8 [7,6] d50 rfl)⟩
        refine aS (aP (v:=i64 f6.1) (aF (cG rfl rfl) (aP (v:=zB (decide (f6.1 < 0))) ?_)))
        rcases aJ c with ⟨e1,c⟩|⟨e1,c⟩
        ·exact bC e1 rfl rfl (bC e1 rfl rfl (bC e1 rfl rfl (bC e1 rfl rfl (aF (bO (v:=zB true) e1 rfl rfl) (aP (v:=zB true) (bC (rfl:true=true) rfl rfl (bC (rfl:true=true) rfl rfl (bC (rfl:true=true) rfl rfl (aF (bO (v:=zB true) (rfl:true=true) rfl rfl) (aI ⟨true,c,o1,o2,o3,o4,o5,rfl,(aK.arr 12 [5,9] o6 rfl)⟩))))))))))
        ·refine bP e1 rfl rfl (aF (dX (us:=(zC d.1 n o p q)) dI o6 (i:=12) rfl o5 rfl rfl) (bP e1 rfl rfl (aF (dX (us:=[i64 z,i64 J,zS r k.length u,zS x l.length y]) dI o6 (i:=17) rfl o3 rfl rfl) (bP e1 rfl rfl ?_))))
         obtain ⟨f57,w9,d51,d52,d53⟩:=aK.lendS (i:=13) o6 (zR _) rfl
         obtain ⟨f58,x0,d54,d55,d56⟩:=aK.lendS (i:=13) d52 w9 rfl
         obtain ⟨f59,x1,d57,d58,d59⟩:=aK.lendS (i:=14) d55 (zL w9 x0) rfl
         obtain ⟨f60,x2,d60,d61,d62⟩:=aK.lendS (i:=13) d58 (zL (zL w9 x0) x1) rfl
         obtain ⟨a50,d63,c⟩:=aD c
         refine aU (vs:=[zA (zCa d.1 n o p q),zA #[i64 z,i64 J,zS r k.length u,zS x l.length y]]) Tryz.call10 rfl (xR (b:=⟨z,J,k,l⟩) d61 (d51.mono (zL (zL x0 x1) x2)) (d54.mono (zL x1 x2)) (d57.mono x2) d60 d63) ?_
         rintro _ f61 ⟨rfl,d64⟩
         have d65:=d62 _ _ d64
         have d66:=d59 _ _ d65
         have d67:=d56 _ _ d66
         have a52:=d53 _ _ d67
         refine bP e1 rfl rfl (aF (fC rfl) (aF (bV (v:=zB (!a50)) e1 rfl rfl) (aP (v:=zB (!a50)) ?_)))
         rcases aJ c with ⟨e6,c⟩|⟨e6,c⟩
         ·exact bC e6 rfl rfl (bC e6 rfl rfl (bC e6 rfl rfl (aF (bO (v:=zB true) e6 rfl rfl) (aI ⟨true,c,o1,o2,o3,o4,o5,rfl,(aK.arr 17 [9,13,16,0,1,3,2] a52 rfl)⟩))))
         ·exact bP e6 rfl rfl (aT b17 (bP e6 rfl rfl (aT o4 (bP e6 rfl rfl (aF (oO rfl rfl) (aF (bV (v:=zB (d.2 != d4)) e6 rfl rfl) (aI ⟨d.2 != d4,c,o1,o2,o3,o4,o5,rfl,(aK.arr 17 [9,13,16,0,1,3,2] a52 rfl)⟩)))))))
    refine aS (aF (dX (us:=(zC d.1 n o p q)) dI r3 (i:=0) rfl rfl rfl rfl) (aF (dX (us:=[i64 z,i64 J,zS r k.length u,zS x l.length y]) dI r3 (i:=11) rfl q6 rfl rfl) ?_))
    obtain ⟨f62,x3,d68,d69,d70⟩:=aK.lendS (i:=5) r3 (zR _) rfl
    obtain ⟨f63,x4,d71,d72,d73⟩:=aK.lendS (i:=5) d69 x3 rfl
    obtain ⟨f64,x5,d74,d75,d76⟩:=aK.lendS (i:=8) d72 (zL x3 x4) rfl
    obtain ⟨f65,x6,d77,d78,d79⟩:=aK.lendS (i:=7) d75 (zL (zL x3 x4) x5) rfl
    obtain ⟨d80,d81,c⟩:=aD c
    refine aU (vs:=[zA (zCa d.1 n o p q),zA #[i64 z,i64 J,zS r k.length u,zS x l.length y]]) Tryz.call10 rfl (xR (b:=⟨z,J,k,l⟩) d78 (d68.mono (zL (zL x4 x5) x6)) (d71.mono (zL x5 x6)) (d74.mono x6) d77 d81) ?_
    rintro _ f66 ⟨rfl,d82⟩
    have d83:=d79 _ _ d82
    have d84:=d76 _ _ d83
    have d85:=d73 _ _ d84
    have a53:=d70 _ _ d85
    refine aF (fC rfl) (aP (v:=zB (!d80)) ?_)
    rcases aJ c with ⟨e7,c⟩|⟨e7,c⟩
    ·exact bC e7 rfl rfl (bC e7 rfl rfl (bC e7 rfl rfl (aF (bO (v:=zB true) e7 rfl rfl) (aI ⟨true,c,q4,q5,q6,q7,rfl,rfl,rfl,rfl,rfl,(aK.arr 11 [4,5,6,7,8,0,1,9,10,3,2] a53 rfl)⟩))))
    ·exact bP e7 rfl rfl (aP (v:=i64 d.2) (bP e7 rfl rfl (aT q7 (bP e7 rfl rfl (aF (oO rfl rfl) (aF (bV (v:=zB (d.2 != d4)) e7 rfl rfl) (aI ⟨d.2 != d4,c,q4,q5,q6,q7,rfl,rfl,rfl,rfl,rfl,(aK.arr 11 [4,5,6,7,8,0,1,9,10,3,2] a53 rfl)⟩)))))))
   obtain ⟨f67,a5,d86,d87,p5⟩:=aK.lendB (i:=0) a01 rfl
   obtain ⟨n5,Z,d88,d89,p6⟩:=aK.lendB (i:=0) d87 rfl
   refine sM (C:=fun w'=>∃ L',aK G n5 L' w') [] bT (by kernel_rfl) (fun f68 d90=>?_)
   have f1:=aK.mono d89 d90
   refine dP (i:=0) rfl (by kernel_rfl) ⟨_,f1⟩ (fun _ ⟨_,f1⟩=>fZ (t:=0) (vs:=c9) aEi f1 d88 rfl rfl rfl) (dP (i:=2) rfl (by kernel_rfl) ⟨_,f1⟩ (fun _ ⟨_,f1⟩=>fZ (t:=0) (vs:=c7) aEi f1 (d86.mono Z) rfl rfl rfl) (oJ (i:=1) (j:=8) (by kernel_rfl) rfl rfl ?_ ?_))
   ·obtain ⟨d1,d91,c⟩:=aD c
    refine aU (vs:=f9) Tryz.call8 rfl (iA f1 (h3.mono (zL a5 Z)) (h6.mono (zL a5 Z)) d91) ?_
    rintro _ f69 ⟨j1,j2,j3,j4,rfl,x7⟩
    refine bA (aC ⟨fun _=>⟨_,x7⟩,?_⟩)
    refine oJ (i:=3) (j:=8) (by kernel_rfl) rfl rfl ?_ ?_
    ·obtain ⟨d9,d92,c⟩:=aD c
     refine aU (vs:=e8) Tryz.call8 rfl (iA x7 (h9.mono (zL a5 Z)) (e3.mono (zL a5 Z)) d92) ?_
     rintro _ f70 ⟨p7,p8,p9,q0,rfl,x8⟩
     refine bA (aC ⟨fun _=>⟨_,x8⟩,?_⟩)
     refine oJ (i:=4) (j:=8) (by kernel_rfl) rfl rfl ?_ ?_
     ·obtain ⟨f71,x9,d93,d94,d95⟩:=aK.lendS (i:=2) x8 (zL a5 Z) rfl
      obtain ⟨f72,y0,d96,d97,d98⟩:=aK.lendS (i:=2) d94 (zL (zL a5 Z) x9) rfl
      obtain ⟨f73,y1,d99,e00,e01⟩:=aK.lendS (i:=0) d97 (zL (zL (zL a5 Z) x9) y0) rfl
      obtain ⟨f74,y2,e02,e03,e04⟩:=aK.lendS (i:=0) e00 (zL (zL (zL (zL a5 Z) x9) y0) y1) rfl
      obtain ⟨b1,e05,c⟩:=aD c
      refine aU (vs:=[zA (zCa d1 j1 j2 j3 j4),zA (zCa d9 p7 p8 p9 q0)]) Tryz.call13 rfl (oK e03 (d93.mono (zL (zL y0 y1) y2)) (d96.mono (zL y1 y2)) (d99.mono y2) e02 e05) ?_
      rintro _ f75 ⟨j5,j6,j7,j8,rfl,e06⟩
      have e07:=e04 _ _ e06
      have e08:=e01 _ _ e07
      have e09:=d98 _ _ e08
      have n6:=d95 _ _ e09
      refine bA (aC ⟨fun _=>⟨_,n6⟩,?_⟩)
      refine dP (i:=5) rfl (by kernel_rfl) ⟨_,n6⟩ (fun _ _=>aZ (v:=zT #[zA (zCa b1.1 j5 j6 j7 j8),i64 b1.2]) rfl) (dP (i:=6) rfl (by kernel_rfl) ⟨_,n6⟩ (fun _ _=>bM rfl rfl) (dP (i:=7) rfl (by kernel_rfl) ⟨_,n6⟩ (fun _ _=>bM rfl rfl) (cL (i:=8) (by kernel_rfl) rfl (bS (vs:=e0) Tryz.zeroValue29 n6 rfl (fun a54 f76 a55=>(bA (aC ⟨fun _=>⟨_,a55⟩,?_⟩)))))))
      refine cL (i:=9) (by kernel_rfl) rfl (bR (i:=0) (ns:=(zC b1.1 j5 j6 j7 j8)) (us:=(zC b1.1 j5 j6 j7 j8)) Tryz.sizeOf29 a55 rfl rfl rfl rfl rfl (cX rfl) rfl rfl (fun e10 (y3:aK G n5 (box a54 29 (zC b1.1 j5 j6 j7 j8)::aN 9 K j1 j2 d1.L::aN 63 K j3 j4 d1.E::aN 9 K p7 p8 d9.L::aN 63 K p9 q0 d9.E::aN 9 K j5 j6 b1.1.L::aN 63 K j7 j8 b1.1.E::L) e10)=>(bA (aC ⟨fun _=>⟨_,y3⟩,?_⟩))))
      refine dP (i:=10) rfl (by kernel_rfl) ⟨_,y3⟩ (fun _ _=>dH (v:=i64 b1.2) rfl) (iY (by kernel_rfl) ?_)
      have e11:=p6 _ _ y3
      have e12:=p5 _ _ e11
      exact aC ⟨b1.1.N,b1.1.I,b1.1.L,b1.1.E,b1.2,a54,j5,j6,j7,j8,c,rfl,rfl,rfl,rfl,(aK.arr 9 [8,7,2,0,1] e12 rfl)⟩
     ·refine bS (vs:=e0) Tryz.zeroValue29 x8 rfl (fun a56 f77 a57=>(bA (aC ⟨fun _=>⟨_,a57⟩,?_⟩)))
      refine cL (i:=4) (by kernel_rfl) rfl ?_
      obtain ⟨f78,y4,e13,e14,e15⟩:=aK.lendS (i:=3) a57 (zL a5 Z) rfl
      obtain ⟨f79,y5,e16,e17,e18⟩:=aK.lendS (i:=3) e14 (zL (zL a5 Z) y4) rfl
      obtain ⟨f80,y6,e19,e20,e21⟩:=aK.lendS (i:=1) e17 (zL (zL (zL a5 Z) y4) y5) rfl
      obtain ⟨f81,y7,e22,e23,e24⟩:=aK.lendS (i:=1) e20 (zL (zL (zL (zL a5 Z) y4) y5) y6) rfl
      obtain ⟨b2,e25,c⟩:=aD c
      refine aU (vs:=[zA (zCa d1 j1 j2 j3 j4),zA (zCa d9 p7 p8 p9 q0)]) Tryz.call13 rfl (oK e23 (e13.mono (zL (zL y5 y6) y7)) (e16.mono (zL y6 y7)) (e19.mono y7) e22 e25) ?_
      rintro _ f82 ⟨j9,k0,k1,k2,rfl,e26⟩
      have e27:=e24 _ _ e26
      have e28:=e21 _ _ e27
      have e29:=e18 _ _ e28
      have n7:=e15 _ _ e29
      refine bA (aC ⟨fun _=>⟨_,n7⟩,?_⟩)
      refine dP (i:=5) rfl (by kernel_rfl) ⟨_,n7⟩ (fun _ _=>aZ (v:=zT #[zA (zCa b2.1 j9 k0 k1 k2),i64 b2.2]) rfl) (dP (i:=6) rfl (by kernel_rfl) ⟨_,n7⟩ (fun _ _=>bM rfl rfl) (dP (i:=7) rfl (by kernel_rfl) ⟨_,n7⟩ (fun _ _=>bM rfl rfl) (cL (i:=9) (by kernel_rfl) rfl (bR (i:=6) (ns:=(zC b2.1 j9 k0 k1 k2)) (us:=(zC b2.1 j9 k0 k1 k2)) Tryz.sizeOf29 n7 rfl rfl rfl rfl rfl (cX rfl) rfl rfl (fun e30 (y8:aK G n5 (aN 9 K j1 j2 d1.L::aN 63 K j3 j4 d1.E::aN 9 K p7 p8 d9.L::aN 63 K p9 q0 d9.E::aN 9 K j9 k0 b2.1.L::aN 63 K k1 k2 b2.1.E::box a56 29 (zC b2.1 j9 k0 k1 k2)::L) e30)=>(bA (aC ⟨fun _=>⟨_,y8⟩,?_⟩)))))))
      refine dP (i:=10) rfl (by kernel_rfl) ⟨_,y8⟩ (fun _ _=>dH (v:=i64 b2.2) rfl) (iY (by kernel_rfl) ?_)
      have e31:=p6 _ _ y8
      have e32:=p5 _ _ e31
      exact aC ⟨b2.1.N,b2.1.I,b2.1.L,b2.1.E,b2.2,a56,j9,k0,k1,k2,c,rfl,rfl,rfl,rfl,(aK.arr 9 [7,6,8,0,1] e32 rfl)⟩
    ·refine bS (vs:=e0) Tryz.zeroValue29 x7 rfl (fun a58 f83 a59=>(bA (aC ⟨fun _=>⟨_,a59⟩,?_⟩)))
     refine cL (i:=3) (by kernel_rfl) rfl ?_
     obtain ⟨k3,e33,c⟩:=aD c
     refine aU (vs:=e8) Tryz.call8 rfl (iA a59 (h9.mono (zL a5 Z)) (e3.mono (zL a5 Z)) e33) ?_
     rintro _ f84 ⟨a60,a61,a63,a65,rfl,a66⟩
     refine bA (aC ⟨fun _=>⟨_,a66⟩,?_⟩)
     refine cL (i:=4) (by kernel_rfl) rfl ?_
     obtain ⟨f85,y9,e34,e35,e36⟩:=aK.lendS (i:=3) a66 (zL a5 Z) rfl
     obtain ⟨f86,z0,e37,e38,e39⟩:=aK.lendS (i:=3) e35 (zL (zL a5 Z) y9) rfl
     obtain ⟨f87,z1,e40,e45,e46⟩:=aK.lendS (i:=0) e38 (zL (zL (zL a5 Z) y9) z0) rfl
     obtain ⟨f88,z2,e47,e48,e49⟩:=aK.lendS (i:=0) e45 (zL (zL (zL (zL a5 Z) y9) z0) z1) rfl
     obtain ⟨b3,e50,c⟩:=aD c
     refine aU (vs:=[zA (zCa d1 j1 j2 j3 j4),zA (zCa k3 a60 a61 a63 a65)]) Tryz.call13 rfl (oK e48 (e34.mono (zL (zL z0 z1) z2)) (e37.mono (zL z1 z2)) (e40.mono z2) e47 e50) ?_
     rintro _ f89 ⟨k4,k5,k6,k7,rfl,e51⟩
     have e52:=e49 _ _ e51
     have e53:=e46 _ _ e52
     have e54:=e39 _ _ e53
     have n8:=e36 _ _ e54
     refine bA (aC ⟨fun _=>⟨_,n8⟩,?_⟩)
     refine dP (i:=5) rfl (by kernel_rfl) ⟨_,n8⟩ (fun _ _=>aZ (v:=zT #[zA (zCa b3.1 k4 k5 k6 k7),i64 b3.2]) rfl) (dP (i:=6) rfl (by kernel_rfl) ⟨_,n8⟩ (fun _ _=>bM rfl rfl) (dP (i:=7) rfl (by kernel_rfl) ⟨_,n8⟩ (fun _ _=>bM rfl rfl) (cL (i:=9) (by kernel_rfl) rfl (bR (i:=6) (ns:=(zC b3.1 k4 k5 k6 k7)) (us:=(zC b3.1 k4 k5 k6 k7)) Tryz.sizeOf29 n8 rfl rfl rfl rfl rfl (cX rfl) rfl rfl (fun e55 (z3:aK G n5 (aN 9 K j1 j2 d1.L::aN 63 K j3 j4 d1.E::aN 9 K a60 a61 k3.L::aN 63 K a63 a65 k3.E::aN 9 K k4 k5 b3.1.L::aN 63 K k6 k7 b3.1.E::box a58 29 (zC b3.1 k4 k5 k6 k7)::L) e55)=>(bA (aC ⟨fun _=>⟨_,z3⟩,?_⟩)))))))
     refine dP (i:=10) rfl (by kernel_rfl) ⟨_,z3⟩ (fun _ _=>dH (v:=i64 b3.2) rfl) (iY (by kernel_rfl) ?_)
     have e56:=p6 _ _ z3
     have e57:=p5 _ _ e56
     exact aC ⟨b3.1.N,b3.1.I,b3.1.L,b3.1.E,b3.2,a58,k4,k5,k6,k7,c,rfl,rfl,rfl,rfl,(aK.arr 9 [7,6,8,0,1] e57 rfl)⟩
   ·refine bS (vs:=e0) Tryz.zeroValue29 f1 rfl (fun a67 f90 a68=>(bA (aC ⟨fun _=>⟨_,a68⟩,?_⟩)))
    refine cL (i:=1) (by kernel_rfl) rfl ?_
    obtain ⟨k8,e58,c⟩:=aD c
    refine aU (vs:=f9) Tryz.call8 rfl (iA a68 (h3.mono (zL a5 Z)) (h6.mono (zL a5 Z)) e58) ?_
    rintro _ f91 ⟨a69,a70,a71,a72,rfl,a73⟩
    refine bA (aC ⟨fun _=>⟨_,a73⟩,?_⟩)
    refine cL (i:=3) (by kernel_rfl) rfl ?_
    obtain ⟨k9,e59,c⟩:=aD c
    refine aU (vs:=e8) Tryz.call8 rfl (iA a73 (h9.mono (zL a5 Z)) (e3.mono (zL a5 Z)) e59) ?_
    rintro _ f92 ⟨a74,a75,a76,a77,rfl,a78⟩
    refine bA (aC ⟨fun _=>⟨_,a78⟩,?_⟩)
    refine cL (i:=4) (by kernel_rfl) rfl ?_
    obtain ⟨f93,z4,e60,e61,e62⟩:=aK.lendS (i:=2) a78 (zL a5 Z) rfl
    obtain ⟨f94,z5,e63,e64,e65⟩:=aK.lendS (i:=2) e61 (zL (zL a5 Z) z4) rfl
    obtain ⟨f95,z6,e66,e67,e68⟩:=aK.lendS (i:=0) e64 (zL (zL (zL a5 Z) z4) z5) rfl
    obtain ⟨f96,z7,e69,e70,e71⟩:=aK.lendS (i:=0) e67 (zL (zL (zL (zL a5 Z) z4) z5) z6) rfl
    obtain ⟨b4,e72,c⟩:=aD c
    refine aU (vs:=[zA (zCa k8 a69 a70 a71 a72),zA (zCa k9 a74 a75 a76 a77)]) Tryz.call13 rfl (oK e70 (e60.mono (zL (zL z5 z6) z7)) (e63.mono (zL z6 z7)) (e66.mono z7) e69 e72) ?_
    rintro _ f97 ⟨l0,l1,l2,l3,rfl,e73⟩
    have e74:=e71 _ _ e73
    have e75:=e68 _ _ e74
    have e76:=e65 _ _ e75
    have n9:=e62 _ _ e76
    refine bA (aC ⟨fun _=>⟨_,n9⟩,?_⟩)
    refine dP (i:=5) rfl (by kernel_rfl) ⟨_,n9⟩ (fun _ _=>aZ (v:=zT #[zA (zCa b4.1 l0 l1 l2 l3),i64 b4.2]) rfl) (dP (i:=6) rfl (by kernel_rfl) ⟨_,n9⟩ (fun _ _=>bM rfl rfl) (dP (i:=7) rfl (by kernel_rfl) ⟨_,n9⟩ (fun _ _=>bM rfl rfl) (cL (i:=9) (by kernel_rfl) rfl (bR (i:=6) (ns:=(zC b4.1 l0 l1 l2 l3)) (us:=(zC b4.1 l0 l1 l2 l3)) Tryz.sizeOf29 n9 rfl rfl rfl rfl rfl (cX rfl) rfl rfl (fun e77 (z8:aK G n5 (aN 9 K a69 a70 k8.L::aN 63 K a71 a72 k8.E::aN 9 K a74 a75 k9.L::aN 63 K a76 a77 k9.E::aN 9 K l0 l1 b4.1.L::aN 63 K l2 l3 b4.1.E::box a67 29 (zC b4.1 l0 l1 l2 l3)::L) e77)=>(bA (aC ⟨fun _=>⟨_,z8⟩,?_⟩)))))))
    refine dP (i:=10) rfl (by kernel_rfl) ⟨_,z8⟩ (fun _ _=>dH (v:=i64 b4.2) rfl) (iY (by kernel_rfl) ?_)
    have e78:=p6 _ _ z8
    have e79:=p5 _ _ e78
    exact aC ⟨b4.1.N,b4.1.I,b4.1.L,b4.1.E,b4.2,a67,l0,l1,l2,l3,c,rfl,rfl,rfl,rfl,(aK.arr 9 [7,6,8,0,1] e79 rfl)⟩
end Gv
