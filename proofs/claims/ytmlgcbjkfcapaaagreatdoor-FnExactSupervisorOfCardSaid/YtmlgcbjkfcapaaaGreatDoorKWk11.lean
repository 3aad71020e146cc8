/- Walks, printed by program. -/
import Derived.Test.YtmlgcbjkfcapaaaGreatDoorKWk1
import Derived.Test.YtmlgcbjkfcapaaaGreatDoorKWk5
import Derived.Test.YtmlgcbjkfcapaaaGreatDoorKWk10
set_option linter.all false
namespace Gv
open Go.Value renaming slice→zS,bool→zB,pointer→zP,agg→zA,tuple→zT
open Option.some renaming inj→zI
open Gv.Hp renaming le_trans→zL,le_refl→zR
open Go Go.Proofs
set_option maxRecDepth 20000
set_option maxHeartbeats 40000000
variable {G:Env} {K:Hp} {L:List qD} {w:World} {a1 a4 a7 a10 a13 a16:Option Addr} {c2 c5 c8 c11 c14 c17:Nat}
theorem aCr {J:cA} {aR:dB} {R:Bool} (hs:aL G K (L) w) (hG:G.lo=0) (h3:bT K a1 c2 J.S.L) (h6:bT K a4 c5 J.S.E) (h9:bT K a7 c8 J.M) (g2:bT K a10 c11 J.C) (e9:bT K a13 c14 aR.L) (f0:bT K a16 c17 aR.E) (c:oQ J aR=some R):
  Calls Tryz.prog 5 ([zA (zEa J a1 c2 a4 c5 a7 c8 a10 c11),zA (zCa aR a13 c14 a16 c17)]:List Value).toArray w (fV fun v w'=>v=zB R∧aL G K (L) w'):=by
 let d5:=(zE J a1 c2 a4 c5 a7 c8 a10 c11)
 let d6:=(zC aR a13 c14 a16 c17)
 let h7:=[zA (zEa J a1 c2 a4 c5 a7 c8 a10 c11)]
 let f5:=[zA (zCa aR a13 c14 a16 c17)]
 let e6:=zG
 refine aT Tryz.func5 rfl (by kernel_rfl) (by show (2:Nat)≤119;decide) ?_
 unfold oQ at c
 refine aAZ (dW (v:=zA (zEa J a1 c2 a4 c5 a7 c8 a10 c11)) (vs:=d5) hs rfl rfl (fun d7 w20 b33=>(dW (v:=zA (zCa aR a13 c14 a16 c17)) (vs:=d6) b33 rfl rfl (fun d8 w23 a42=>(pM (v:=zB false) (aAf (aAZ (pM (v:=i64 1048576) (aAf (aAZ (aB (dK (us:=d5) ag_40 a42 (i:=1) rfl rfl rfl rfl) (aBl (v:=i64 1048576) ?_))))))))))))
 obtain ⟨v9,q26,c⟩:=aI c
 refine aU (vs:=[zA (zEa J a1 c2 a4 c5 a7 c8 a10 c11),i64 1048576]) Tryz.call15 rfl (aIv a42 h3 h6 h9 g2 q26) ?_
 rintro _ w27 ⟨rfl,y0⟩
 refine pM (v:=i64 v9) (aAf (aH (aAZ (aBl (v:=i64 v9) (aB (cJ rfl rfl) (aAf ?_))))))
 rcases aK c with ⟨y1,c⟩|⟨y1,c⟩
 ·refine aO y1 rfl (aAZ (pM (v:=zB true) (aAf ?_)))
  cases zI c
  exact bF (aS (bC Tryz.results5 rfl ⟨rfl,(aL.arr 2 [] y0 rfl)⟩))
 ·refine aM y1 rfl (aW (aA (aAZ (aB (dK (us:=d6) aIk y0 (i:=0) rfl rfl rfl rfl) (aBl (v:=i64 v9) ?_)))))
  obtain ⟨r31,q32,c⟩:=aI c
  refine aU (vs:=[zA (zCa aR a13 c14 a16 c17),i64 v9]) Tryz.call6 rfl (aGl y0 e9 f0 q32) ?_
  rintro _ w33 ⟨rfl,a45⟩
  refine pM (v:=i64 r31) (aAf (aH (aAZ (aBl (v:=i64 r31) (aB (cJ rfl rfl) (aAf ?_))))))
  rcases aK c with ⟨y2,c⟩|⟨y2,c⟩
  ·refine aO y2 rfl (aAZ (pM (v:=zB true) (aAf ?_)))
   cases zI c
   exact bF (aS (bC Tryz.results5 rfl ⟨rfl,(aL.arr 2 [] a45 rfl)⟩))
  ·refine aM y2 rfl (aW (aA (aH (cS (fun f w=>∃ (a0:Int) (a2:Int) (k:List aZ) (l:List Edge) (d9:Int) (c7:Nat) (r:Option Addr) (u:Nat) (x:Option Addr) (c45:Nat),mG J aR a0 a2 k l d9=some R∧f 2=zP (some ⟨d7,0,none⟩)∧f 3=zP (some ⟨d8,0,none⟩)∧f 6=zP (some ⟨c7,0,none⟩)∧f 7=i64 d9∧aL G K (aN 63 K x c45 l::aN 9 K r u k::box c7 29 [i64 a0,i64 a2,zS r k.length u,zS x l.length c45]::box d8 25 d6::box d7 40 d5::L) w) ?_ ?_))))
   ·rintro f w51 ⟨a0,a2,k,l,d9,c7,r,u,x,c45,c,y3,y4,y5,y6,a46⟩
    unfold mG at c
    refine aA (aAZ (aB (dK (us:=d5) ag_40 a46 (i:=4) rfl y3 rfl rfl) ?_))
    obtain ⟨e,q54,c⟩:=aI c
    refine aU (vs:=h7) Tryz.call17 rfl (rB a46 h3 h6 h9 g2 q54) ?_
    rintro _ w63 ⟨b7,b8,b9,c0,c1,c3,c4,c6,rfl,b40⟩
    refine cF (vs:=zK) Tryz.zeroValue44 b40 rfl (fun f1 w66 b41=>(cC (i:=0) (ns:=(zE e b7 b8 b9 c0 c1 c3 c4 c6)) (us:=(zE e b7 b8 b9 c0 c1 c3 c4 c6)) Tryz.sizeOf44 b41 rfl rfl rfl rfl rfl (dL rfl) rfl rfl (fun w68 (a47:aL G K (box f1 44 (zE e b7 b8 b9 c0 c1 c3 c4 c6)::aN 9 K b7 b8 e.S.L::aN 63 K b9 c0 e.S.E::aN 2 K c1 c3 e.M::aN 9 K c4 c6 e.C::aN 63 K x c45 l::aN 9 K r u k::box c7 29 [i64 a0,i64 a2,zS r k.length u,zS x l.length c45]::box d8 25 d6::box d7 40 d5::L) w68)=>(aAf (aAZ (aB (dK (us:=d6) aIk a47 (i:=8) rfl y4 rfl rfl) ?_))))))
    obtain ⟨h,q71,c⟩:=aI c
    refine aU (vs:=f5) Tryz.call8 rfl (nT a47 e9 f0 q71) ?_
    rintro _ w76 ⟨c9,d0,d1,d2,rfl,b44⟩
    refine cF (vs:=e6) Tryz.zeroValue29 b44 rfl (fun f6 w79 b45=>(cC (i:=0) (ns:=(zC h c9 d0 d1 d2)) (us:=(zC h c9 d0 d1 d2)) Tryz.sizeOf29 b45 rfl rfl rfl rfl rfl (dL rfl) rfl rfl (fun w81 (y7:aL G K (box f6 29 (zC h c9 d0 d1 d2)::aN 9 K c9 d0 h.L::aN 63 K d1 d2 h.E::box f1 44 (zE e b7 b8 b9 c0 c1 c3 c4 c6)::aN 9 K b7 b8 e.S.L::aN 63 K b9 c0 e.S.E::aN 2 K c1 c3 e.M::aN 9 K c4 c6 e.C::aN 63 K x c45 l::aN 9 K r u k::box c7 29 [i64 a0,i64 a2,zS r k.length u,zS x l.length c45]::box d8 25 d6::box d7 40 d5::L) w81)=>(aAf (aAZ (aB (dK (us:=(zE e b7 b8 b9 c0 c1 c3 c4 c6)) xF y7 (i:=3) rfl rfl rfl rfl) (aB (dK (us:=(zC h c9 d0 d1 d2)) fD y7 (i:=0) rfl rfl rfl rfl) ?_)))))))
    obtain ⟨K83,n6,b47,b48,b49⟩:=aL.lendS (i:=4) y7 (zR _) rfl
    obtain ⟨K88,n7,b50,b51,b52⟩:=aL.lendS (i:=4) b48 n6 rfl
    obtain ⟨K93,n8,b53,b54,b55⟩:=aL.lendS (i:=4) b51 (zL n6 n7) rfl
    obtain ⟨K98,n9,b56,b57,b58⟩:=aL.lendS (i:=4) b54 (zL (zL n6 n7) n8) rfl
    obtain ⟨g34,o0,b59,b60,b61⟩:=aL.lendS (i:=1) b57 (zL (zL (zL n6 n7) n8) n9) rfl
    obtain ⟨g35,o1,b62,b63,b64⟩:=aL.lendS (i:=1) b60 (zL (zL (zL (zL n6 n7) n8) n9) o0) rfl
    obtain ⟨d,b66,c⟩:=aI c
    refine aU (vs:=[zA (zEa e b7 b8 b9 c0 c1 c3 c4 c6),zA (zCa h c9 d0 d1 d2)]) Tryz.call18 rfl (nO b63 hG (b47.mono (zL (zL (zL (zL n7 n8) n9) o0) o1)) (b50.mono (zL (zL (zL n8 n9) o0) o1)) (b53.mono (zL (zL n9 o0) o1)) (b56.mono (zL o0 o1)) (b59.mono o1) b62 b66) ?_
    rintro _ g36 ⟨n,o,p,q,rfl,b67⟩
    have b68:=b64 _ _ b67
    have b69:=b61 _ _ b68
    have b70:=b58 _ _ b69
    have b71:=b55 _ _ b70
    have b72:=b52 _ _ b71
    have b73:=b49 _ _ b72
    refine aBl (v:=zT #[zA (zCa d.1 n o p q),i64 d.2]) (aB (bV rfl rfl) (aB (bV rfl rfl) (cF (vs:=e6) Tryz.zeroValue29 b73 rfl (fun d4 g37 b74=>(cC (i:=0) (ns:=(zC d.1 n o p q)) (us:=(zC d.1 n o p q)) Tryz.sizeOf29 b74 rfl rfl rfl rfl rfl (dL rfl) rfl rfl (fun b75 (y8:aL G K (box d4 29 (zC d.1 n o p q)::aN 9 K b7 b8 e.S.L::aN 63 K b9 c0 e.S.E::aN 2 K c1 c3 e.M::aN 9 K c4 c6 e.C::aN 9 K c9 d0 h.L::aN 63 K d1 d2 h.E::aN 9 K n o d.1.L::aN 63 K p q d.1.E::box f6 29 (zC h c9 d0 d1 d2)::box f1 44 (zE e b7 b8 b9 c0 c1 c3 c4 c6)::aN 63 K x c45 l::aN 9 K r u k::box c7 29 [i64 a0,i64 a2,zS r k.length u,zS x l.length c45]::box d8 25 d6::box d7 40 d5::L) b75)=>(pM (v:=i64 d.2) (aAf (aH (aH (cS (fun f w=>∃ (y9:Bool),jV J aR a0 a2 k l d9 e h d y9=some R∧f 2=zP (some ⟨d7,0,none⟩)∧f 3=zP (some ⟨d8,0,none⟩)∧f 6=zP (some ⟨c7,0,none⟩)∧f 7=i64 d9∧f 8=zP (some ⟨f1,0,none⟩)∧f 9=zP (some ⟨f6,0,none⟩)∧f 10=zP (some ⟨d4,0,none⟩)∧f 11=i64 d.2∧f 53=zB y9∧aL G K (box d4 29 (zC d.1 n o p q)::aN 9 K b7 b8 e.S.L::aN 63 K b9 c0 e.S.E::aN 2 K c1 c3 e.M::aN 9 K c4 c6 e.C::aN 9 K c9 d0 h.L::aN 63 K d1 d2 h.E::aN 9 K n o d.1.L::aN 63 K p q d.1.E::box f6 29 (zC h c9 d0 d1 d2)::box f1 44 (zE e b7 b8 b9 c0 c1 c3 c4 c6)::aN 63 K x c45 l::aN 9 K r u k::box c7 29 [i64 a0,i64 a2,zS r k.length u,zS x l.length c45]::box d8 25 d6::box d7 40 d5::L) w) ?_ ?_)))))))))))
    ·rintro f g38 ⟨y9,c,w0,w1,w2,w3,a48,a49,w4,b76,a50,a51⟩
     unfold jV at c
     refine aA ?_
     rcases aK c with ⟨z0,c⟩|⟨z0,c⟩
     ·refine aO z0 a50 (aAZ (pM (v:=zB false) (aAf ?_)))
      cases zI c
      exact bF (aS (bC Tryz.results5 rfl ⟨rfl,(aL.arr 16 [] a51 rfl)⟩))
     ·refine aM z0 a50 (aW (aA (aH (aH ?_))))
      obtain ⟨g39,e1,b79,b80,b81⟩:=aL.lendB (i:=10) a51 rfl
      obtain ⟨b82,e0,b83,a52,b84⟩:=aL.lendB (i:=14) b80 rfl
      refine eQ (C:=fun w'=>∃ L',aL G b82 L' w') [(0,0),(1,0),(2,1),(3,1),(4,0)] bK (by kernel_rfl) (fun _ hg=>⟨_,aL.mono a52 hg⟩) (fun g40 b85=>?_)
      have o2:=aL.mono a52 b85
      refine bS rfl (fun _ ⟨_,o2⟩=>gO (t:=0) (vs:=(zE e b7 b8 b9 c0 c1 c3 c4 c6)) xF o2 (b79.mono e0) a48 rfl rfl) (bS rfl (fun _ ⟨_,o2⟩=>gO (t:=0) (vs:=d5) ag_40 o2 b83 w0 rfl rfl) (lL rfl ?_))
      obtain ⟨d3,b86,c⟩:=aI c
      refine aU (vs:=h7) Tryz.call17 rfl (rB o2 (h3.mono (zL e1 e0)) (h6.mono (zL e1 e0)) (h9.mono (zL e1 e0)) (g2.mono (zL e1 e0)) b86) ?_
      rintro _ g41 ⟨o3,o4,o5,o6,o7,o8,o9,p0,rfl,a53⟩
      refine aF (aA ⟨⟨_,a53⟩,?_⟩)
      refine lL rfl ?_
      obtain ⟨g42,g3,b87,b88,b89⟩:=aL.lendS (i:=5) a53 (zL e1 e0) rfl
      obtain ⟨g43,g4,b90,b91,b92⟩:=aL.lendS (i:=5) b88 (zL (zL e1 e0) g3) rfl
      obtain ⟨g44,g5,b93,b94,b95⟩:=aL.lendS (i:=5) b91 (zL (zL (zL e1 e0) g3) g4) rfl
      obtain ⟨g45,g6,b96,b97,b98⟩:=aL.lendS (i:=5) b94 (zL (zL (zL (zL e1 e0) g3) g4) g5) rfl
      obtain ⟨g46,g7,b99,c00,c01⟩:=aL.lendS (i:=0) b97 (zL (zL (zL (zL (zL e1 e0) g3) g4) g5) g6) rfl
      obtain ⟨g47,g8,c02,c03,c04⟩:=aL.lendS (i:=0) c00 (zL (zL (zL (zL (zL (zL e1 e0) g3) g4) g5) g6) g7) rfl
      obtain ⟨g48,g9,c05,c06,c07⟩:=aL.lendS (i:=0) c03 (zL (zL (zL (zL (zL (zL (zL e1 e0) g3) g4) g5) g6) g7) g8) rfl
      obtain ⟨g49,h0,c08,c09,c10⟩:=aL.lendS (i:=0) c06 (zL (zL (zL (zL (zL (zL (zL (zL e1 e0) g3) g4) g5) g6) g7) g8) g9) rfl
      obtain ⟨g50,c12,c⟩:=aI c
      refine aU (vs:=[zA (zEa e b7 b8 b9 c0 c1 c3 c4 c6),zA (zEa d3 o3 o4 o5 o6 o7 o8 o9 p0)]) Tryz.call19 rfl (aIC c09 (b87.mono (zL (zL (zL (zL (zL (zL g4 g5) g6) g7) g8) g9) h0)) (b90.mono (zL (zL (zL (zL (zL g5 g6) g7) g8) g9) h0)) (b93.mono (zL (zL (zL (zL g6 g7) g8) g9) h0)) (b96.mono (zL (zL (zL g7 g8) g9) h0)) (b99.mono (zL (zL g8 g9) h0)) (c02.mono (zL g9 h0)) (c05.mono h0) c08 c12) ?_
      rintro _ g51 ⟨rfl,c13⟩
      have c15:=c10 _ _ c13
      have c16:=c07 _ _ c15
      have c18:=c04 _ _ c16
      have c19:=c01 _ _ c18
      have c20:=b98 _ _ c19
      have c21:=b95 _ _ c20
      have c22:=b92 _ _ c21
      have a54:=b89 _ _ c22
      refine aF (aA ⟨⟨_,a54⟩,?_⟩)
      refine bS rfl (fun _ _=>dY rfl) (kB ?_)
      have c23:=b84 _ _ a54
      have a56:=b81 _ _ c23
      refine aA ?_
      rcases aK c with ⟨z1,c⟩|⟨z1,c⟩
      ·refine aO z1 rfl (aAZ (pM (v:=zB false) (aAf ?_)))
       cases zI c
       exact bF (aS (bC Tryz.results5 rfl ⟨rfl,(aL.arr 20 [] a56 rfl)⟩))
      ·refine aM z1 rfl (aW (aA (aH (aH ?_))))
       obtain ⟨g52,h8,c25,c26,c27⟩:=aL.lendB (i:=15) a56 rfl
       obtain ⟨c28,h1,c30,a58,c31⟩:=aL.lendB (i:=18) c26 rfl
       refine eQ (C:=fun w'=>∃ L',aL G c28 L' w') [(0,0),(1,0),(2,1),(3,1),(4,0)] bK (by kernel_rfl) (fun _ hg=>⟨_,aL.mono a58 hg⟩) (fun g53 c32=>?_)
       have p1:=aL.mono a58 c32
       refine bS rfl (fun _ ⟨_,p1⟩=>gO (t:=0) (vs:=(zC h c9 d0 d1 d2)) fD p1 (c25.mono h1) a49 rfl rfl) (bS rfl (fun _ ⟨_,p1⟩=>gO (t:=0) (vs:=d6) aIk p1 c30 w1 rfl rfl) (lL rfl ?_))
       obtain ⟨e2,c33,c⟩:=aI c
       refine aU (vs:=f5) Tryz.call8 rfl (nT p1 (e9.mono (zL h8 h1)) (f0.mono (zL h8 h1)) c33) ?_
       rintro _ g54 ⟨p2,p3,p4,p5,rfl,a60⟩
       refine aF (aA ⟨⟨_,a60⟩,?_⟩)
       refine lL rfl ?_
       obtain ⟨g55,z2,c34,c36,c37⟩:=aL.lendS (i:=13) a60 (zL h8 h1) rfl
       obtain ⟨g56,z3,c38,c39,c40⟩:=aL.lendS (i:=13) c36 (zL (zL h8 h1) z2) rfl
       obtain ⟨g57,z4,c41,c43,c44⟩:=aL.lendS (i:=0) c39 (zL (zL (zL h8 h1) z2) z3) rfl
       obtain ⟨g58,z5,c46,c47,c48⟩:=aL.lendS (i:=0) c43 (zL (zL (zL (zL h8 h1) z2) z3) z4) rfl
       obtain ⟨g59,c49,c⟩:=aI c
       refine aU (vs:=[zA (zCa h c9 d0 d1 d2),zA (zCa e2 p2 p3 p4 p5)]) Tryz.call10 rfl (zX c47 (c34.mono (zL (zL z3 z4) z5)) (c38.mono (zL z4 z5)) (c41.mono z5) c46 c49) ?_
       rintro _ c50 ⟨rfl,c51⟩
       have c52:=c48 _ _ c51
       have c53:=c44 _ _ c52
       have c54:=c40 _ _ c53
       have a62:=c37 _ _ c54
       refine aF (aA ⟨⟨_,a62⟩,?_⟩)
       refine bS rfl (fun _ _=>dY rfl) (kB ?_)
       have c55:=c31 _ _ a62
       have z6:=c27 _ _ c55
       refine aA ?_
       rcases aK c with ⟨z7,c⟩|⟨z7,c⟩
       ·refine aO z7 rfl (aAZ (pM (v:=zB false) (aAf ?_)))
        cases zI c
        exact bF (aS (bC Tryz.results5 rfl ⟨rfl,(aL.arr 22 [] z6 rfl)⟩))
       ·refine aM z7 rfl (aW (aA (aAZ (pM (v:=i64 1) (aAf (aAZ (aB (dK (us:=(zE e b7 b8 b9 c0 c1 c3 c4 c6)) xF z6 (i:=6) rfl a48 rfl rfl) (aBl (v:=i64 1) ?_))))))))
        have c59:aL G K (aN 9 K b7 b8 e.S.L::aN 63 K b9 c0 e.S.E::aN 2 K c1 c3 e.M::aN 9 K c4 c6 e.C::box f6 29 (zC h c9 d0 d1 d2)::box d8 25 d6::aN 9 K c9 d0 h.L::aN 63 K d1 d2 h.E::aN 9 K p2 p3 e2.L::aN 63 K p4 p5 e2.E::box f1 44 (zE e b7 b8 b9 c0 c1 c3 c4 c6)::box d7 40 d5::aN 9 K o3 o4 d3.S.L::aN 63 K o5 o6 d3.S.E::aN 2 K o7 o8 d3.M::aN 9 K o9 p0 d3.C::box d4 29 (zC d.1 n o p q)::aN 9 K n o d.1.L::aN 63 K p q d.1.E::aN 63 K x c45 l::aN 9 K r u k::box c7 29 [i64 a0,i64 a2,zS r k.length u,zS x l.length c45]::L) c50:=(aL.arr 12 [8,9,10,11,0,1,2,3,4,5,6,7] z6 rfl)
        obtain ⟨a6,c61,c⟩:=aI c
        refine aU (vs:=[zA (zEa e b7 b8 b9 c0 c1 c3 c4 c6),i64 1]) Tryz.call20 rfl (aGS c59 c61) ?_
        rintro _ a63 ⟨rfl,c63,c64,c65,c66,c67⟩
        have a64:aL G K (aN 9 K b7 b8 a6.2.1::aN 63 K b9 c0 a6.2.2.1::aN 2 K c1 c3 a6.2.2.2.1::aN 9 K c4 c6 a6.2.2.2.2::box f6 29 (zC h c9 d0 d1 d2)::box d8 25 d6::aN 9 K c9 d0 h.L::aN 63 K d1 d2 h.E::aN 9 K p2 p3 e2.L::aN 63 K p4 p5 e2.E::box f1 44 [i64 e.S.N,i64 e.S.I,zS b7 a6.2.1.length b8,zS b9 a6.2.2.1.length c0,zS c1 a6.2.2.2.1.length c3,zS c4 a6.2.2.2.2.length c6]::box d7 40 d5::aN 9 K o3 o4 d3.S.L::aN 63 K o5 o6 d3.S.E::aN 2 K o7 o8 d3.M::aN 9 K o9 p0 d3.C::box d4 29 (zC d.1 n o p q)::aN 9 K n o d.1.L::aN 63 K p q d.1.E::aN 63 K x c45 l::aN 9 K r u k::box c7 29 [i64 a0,i64 a2,zS r k.length u,zS x l.length c45]::L) a63:=by rw [←c63,←c64,←c65,←c66];exact c67
        refine pM (v:=i64 a6.1) (aAf (aAZ (aB (dK (us:=(zC h c9 d0 d1 d2)) fD a64 (i:=4) rfl a49 rfl rfl) (aBl (v:=i64 a6.1) ?_))))
        have c68:aL G K (aN 9 K c9 d0 h.L::aN 63 K d1 d2 h.E::aN 9 K b7 b8 a6.2.1::aN 63 K b9 c0 a6.2.2.1::aN 2 K c1 c3 a6.2.2.2.1::aN 9 K c4 c6 a6.2.2.2.2::box f6 29 (zC h c9 d0 d1 d2)::box d8 25 d6::aN 9 K p2 p3 e2.L::aN 63 K p4 p5 e2.E::box f1 44 [i64 e.S.N,i64 e.S.I,zS b7 a6.2.1.length b8,zS b9 a6.2.2.1.length c0,zS c1 a6.2.2.2.1.length c3,zS c4 a6.2.2.2.2.length c6]::box d7 40 d5::aN 9 K o3 o4 d3.S.L::aN 63 K o5 o6 d3.S.E::aN 2 K o7 o8 d3.M::aN 9 K o9 p0 d3.C::box d4 29 (zC d.1 n o p q)::aN 9 K n o d.1.L::aN 63 K p q d.1.E::aN 63 K x c45 l::aN 9 K r u k::box c7 29 [i64 a0,i64 a2,zS r k.length u,zS x l.length c45]::L) a63:=(aL.arr 8 [6,7,0,1,2,3,4,5] a64 rfl)
        obtain ⟨h2,c69,c⟩:=aI c
        refine aU (vs:=[zA (zCa h c9 d0 d1 d2),i64 a6.1]) Tryz.call11 rfl (aCp c68 c69) ?_
        rintro _ c70 ⟨rfl,c71,c72,c74⟩
        have w5:aL G K (aN 9 K c9 d0 h2.2.1::aN 63 K d1 d2 h2.2.2::aN 9 K b7 b8 a6.2.1::aN 63 K b9 c0 a6.2.2.1::aN 2 K c1 c3 a6.2.2.2.1::aN 9 K c4 c6 a6.2.2.2.2::box f6 29 [i64 h.N,i64 h.I,zS c9 h2.2.1.length d0,zS d1 h2.2.2.length d2]::box d8 25 d6::aN 9 K p2 p3 e2.L::aN 63 K p4 p5 e2.E::box f1 44 [i64 e.S.N,i64 e.S.I,zS b7 a6.2.1.length b8,zS b9 a6.2.2.1.length c0,zS c1 a6.2.2.2.1.length c3,zS c4 a6.2.2.2.2.length c6]::box d7 40 d5::aN 9 K o3 o4 d3.S.L::aN 63 K o5 o6 d3.S.E::aN 2 K o7 o8 d3.M::aN 9 K o9 p0 d3.C::box d4 29 (zC d.1 n o p q)::aN 9 K n o d.1.L::aN 63 K p q d.1.E::aN 63 K x c45 l::aN 9 K r u k::box c7 29 [i64 a0,i64 a2,zS r k.length u,zS x l.length c45]::L) c70:=by rw [←c71,←c72];exact c74
        refine pM (v:=i64 h2.1) (aAf (aH (aH (cS (fun f w=>∃ (z8:Bool),iL J aR a0 a2 k l d9 d z8=some R∧f 2=zP (some ⟨d7,0,none⟩)∧f 3=zP (some ⟨d8,0,none⟩)∧f 6=zP (some ⟨c7,0,none⟩)∧f 7=i64 d9∧f 10=zP (some ⟨d4,0,none⟩)∧f 82=zB z8∧aL G K (box d8 25 d6::box d7 40 d5::box d4 29 (zC d.1 n o p q)::aN 9 K n o d.1.L::aN 63 K p q d.1.E::aN 63 K x c45 l::aN 9 K r u k::box c7 29 [i64 a0,i64 a2,zS r k.length u,zS x l.length c45]::L) w) ?_ ?_))))
        ·rintro f c76 ⟨z8,c,c77,c78,w6,w7,i0,a65,z9⟩
         unfold iL at c
         refine aA ?_
         rcases aK c with ⟨a00,c⟩|⟨a00,c⟩
         ·refine aO a00 a65 (aAZ (pM (v:=zB false) (aAf ?_)))
          cases zI c
          exact bF (aS (bC Tryz.results5 rfl ⟨rfl,(aL.arr 8 [] z9 rfl)⟩))
         ·refine aM a00 a65 (aW (aA (aAZ (pM (v:=i64 1) (aAf (aAZ (aB (dK (us:=(zC d.1 n o p q)) fD z9 (i:=2) rfl i0 rfl rfl) (aBl (v:=i64 1) ?_))))))))
          have c80:aL G K (aN 9 K n o d.1.L::aN 63 K p q d.1.E::box d8 25 d6::box d7 40 d5::box d4 29 (zC d.1 n o p q)::aN 63 K x c45 l::aN 9 K r u k::box c7 29 [i64 a0,i64 a2,zS r k.length u,zS x l.length c45]::L) c76:=(aL.arr 5 [3,4,0,1,2] z9 rfl)
          obtain ⟨m,c81,c⟩:=aI c
          refine aU (vs:=[zA (zCa d.1 n o p q),i64 1]) Tryz.call11 rfl (aCp c80 c81) ?_
          rintro _ c82 ⟨rfl,c83,c84,c85⟩
          have a66:aL G K (aN 9 K n o m.2.1::aN 63 K p q m.2.2::box d8 25 d6::box d7 40 d5::box d4 29 [i64 d.1.N,i64 d.1.I,zS n m.2.1.length o,zS p m.2.2.length q]::aN 63 K x c45 l::aN 9 K r u k::box c7 29 [i64 a0,i64 a2,zS r k.length u,zS x l.length c45]::L) c82:=by rw [←c83,←c84];exact c85
          refine pM (v:=i64 m.1) (aAf (aAZ (pM (v:=i64 1) (aAf (aAZ (aB (dK (us:=[i64 d.1.N,i64 d.1.I,zS n m.2.1.length o,zS p m.2.2.length q]) fD a66 (i:=4) rfl i0 rfl rfl) (aBl (v:=i64 1) ?_)))))))
          obtain ⟨g60,c86,c87,c88,c89⟩:=aL.lendS (i:=0) a66 (zR _) rfl
          obtain ⟨g61,c90,c91,c92,c93⟩:=aL.lendS (i:=0) c88 c86 rfl
          obtain ⟨a01,c94,c⟩:=aI c
          refine aU (vs:=[zA #[i64 d.1.N,i64 d.1.I,zS n m.2.1.length o,zS p m.2.2.length q],i64 1]) Tryz.call12 rfl (aEH (a:=⟨d.1.N,d.1.I,m.2.1,m.2.2⟩) c92 (c87.mono c90) c91 c94) ?_
          rintro _ g62 ⟨rfl,c95⟩
          have c96:=c93 _ _ c95
          have a02:=c89 _ _ c96
          refine pM (v:=i64 a01) (aAf (aH (aAZ (aBl (v:=i64 a01) (aB (cJ rfl rfl) (aAf ?_))))))
          rcases aK c with ⟨a03,c⟩|⟨a03,c⟩
          ·refine aO a03 rfl (aAZ (pM (v:=zB false) (aAf ?_)))
           cases zI c
           exact bF (aS (bC Tryz.results5 rfl ⟨rfl,(aL.arr 8 [] a02 rfl)⟩))
          ·refine aM a03 rfl (aW (aA (aH (aAZ (aBl (v:=i64 a01) (aBl (v:=i64 m.1) (aB (oZ rfl rfl) (aAf ?_))))))))
           rcases aK c with ⟨a04,c⟩|⟨a04,c⟩
           ·refine aO a04 rfl (aAZ (pM (v:=zB false) (aAf ?_)))
            cases zI c
            exact bF (aS (bC Tryz.results5 rfl ⟨rfl,(aL.arr 8 [] a02 rfl)⟩))
           ·refine aM a04 rfl (aW (aA (aH (cS (fun f w=>∃ (i1:Int) (i2:Int) (h4:List aZ) (h5:List Edge) (p6:Int) (a05:Nat) (p7:Option Addr) (p8:Nat) (p9:Option Addr) (q0:Nat),mF a0 a2 k l d9 d m i1 i2 h4 h5 p6=some R∧f 6=zP (some ⟨c7,0,none⟩)∧f 7=i64 d9∧f 10=zP (some ⟨d4,0,none⟩)∧f 13=i64 m.1∧f 15=zP (some ⟨a05,0,none⟩)∧f 16=i64 p6∧aL G K (aN 63 K p9 q0 h5::aN 9 K p7 p8 h4::box a05 29 [i64 i1,i64 i2,zS p7 h4.length p8,zS p9 h5.length q0]::aN 9 K n o m.2.1::aN 63 K p q m.2.2::box d4 29 [i64 d.1.N,i64 d.1.I,zS n m.2.1.length o,zS p m.2.2.length q]::aN 63 K x c45 l::aN 9 K r u k::box c7 29 [i64 a0,i64 a2,zS r k.length u,zS x l.length c45]::L) w) ?_ ?_))))
            ·rintro f g63 ⟨i1,i2,h4,h5,p6,a05,p7,p8,p9,q0,c,c99,d00,a67,a68,d01,d02,a06⟩
             unfold mF at c
             refine aA (aH (aH (cS (fun f w=>∃ (a07:Bool),jU d m a07=some R∧f 10=zP (some ⟨d4,0,none⟩)∧f 13=i64 m.1∧f 110=zB a07∧aL G K (aN 9 K n o m.2.1::aN 63 K p q m.2.2::box d4 29 [i64 d.1.N,i64 d.1.I,zS n m.2.1.length o,zS p m.2.2.length q]::L) w) ?_ ?_)))
             ·rintro f g64 ⟨a07,c,d03,d04,a69,a08⟩
              unfold jU at c
              refine aA ?_
              rcases aK c with ⟨a09,c⟩|⟨a09,c⟩
              ·refine aO a09 a69 (aAZ (pM (v:=zB false) (aAf ?_)))
               cases zI c
               exact bF (aS (bC Tryz.results5 rfl ⟨rfl,(aL.arr 3 [] a08 rfl)⟩))
              ·refine aM a09 a69 (aW (aA (aAZ (pM (v:=i64 1) (aAf (aAZ (aB (dK (us:=[i64 d.1.N,i64 d.1.I,zS n m.2.1.length o,zS p m.2.2.length q]) fD a08 (i:=2) rfl d03 rfl rfl) (aBl (v:=i64 1) ?_))))))))
               obtain ⟨g65,d06,d07,d08,d09⟩:=aL.lendS (i:=0) a08 (zR _) rfl
               obtain ⟨g66,d10,d11,d12,d13⟩:=aL.lendS (i:=0) d08 d06 rfl
               obtain ⟨a11,d14,c⟩:=aI c
               refine aU (vs:=[zA #[i64 d.1.N,i64 d.1.I,zS n m.2.1.length o,zS p m.2.2.length q],i64 1]) Tryz.call12 rfl (aEH (a:=⟨d.1.N,d.1.I,m.2.1,m.2.2⟩) d12 (d07.mono d10) d11 d14) ?_
               rintro _ g67 ⟨rfl,d15⟩
               have d16:=d13 _ _ d15
               have a12:=d09 _ _ d16
               refine pM (v:=i64 a11) (aAf (aH (aAZ (aBl (v:=i64 a11) (aB (cJ rfl rfl) (aAf ?_))))))
               rcases aK c with ⟨a14,c⟩|⟨a14,c⟩
               ·refine aO a14 rfl (aAZ (pM (v:=zB false) (aAf ?_)))
                cases zI c
                exact bF (aS (bC Tryz.results5 rfl ⟨rfl,(aL.arr 3 [] a12 rfl)⟩))
               ·refine aM a14 rfl (aW (aA (aH (aAZ (aBl (v:=i64 a11) (aCv d04 (aB (oZ rfl rfl) (aAf ?_))))))))
                rcases aK c with ⟨a15,c⟩|⟨a15,c⟩
                ·refine aO a15 rfl (aAZ (pM (v:=zB false) (aAf ?_)))
                 cases zI c
                 exact bF (aS (bC Tryz.results5 rfl ⟨rfl,(aL.arr 3 [] a12 rfl)⟩))
                ·refine aM a15 rfl (aW (aA (aAZ (pM (v:=zB true) (aAf ?_)))))
                 cases zI c
                 exact bF (bC Tryz.results5 rfl ⟨rfl,(aL.arr 3 [] a12 rfl)⟩)
             refine aC (aB (dK (us:=[i64 i1,i64 i2,zS p7 h4.length p8,zS p9 h5.length q0]) fD a06 (i:=2) rfl d01 rfl rfl) (aB (dK (us:=[i64 a0,i64 a2,zS r k.length u,zS x l.length c45]) fD a06 (i:=8) rfl c99 rfl rfl) ?_))
             obtain ⟨g68,a17,d20,d21,d22⟩:=aL.lendS (i:=1) a06 (zR _) rfl
             obtain ⟨g69,a18,d23,d24,d25⟩:=aL.lendS (i:=0) d21 a17 rfl
             obtain ⟨g70,a19,d26,d27,d28⟩:=aL.lendS (i:=5) d24 (zL a17 a18) rfl
             obtain ⟨g71,a20,d29,d30,d31⟩:=aL.lendS (i:=4) d27 (zL (zL a17 a18) a19) rfl
             obtain ⟨d32,d33,c⟩:=aI c
             refine aU (vs:=[zA #[i64 i1,i64 i2,zS p7 h4.length p8,zS p9 h5.length q0],zA #[i64 a0,i64 a2,zS r k.length u,zS x l.length c45]]) Tryz.call10 rfl (zX (a:=⟨i1,i2,h4,h5⟩) (b:=⟨a0,a2,k,l⟩) d30 (d20.mono (zL (zL a18 a19) a20)) (d23.mono (zL a19 a20)) (d26.mono a20) d29 d33) ?_
             rintro _ g72 ⟨rfl,d34⟩
             have d35:=d31 _ _ d34
             have d36:=d28 _ _ d35
             have d37:=d25 _ _ d36
             have a70:=d22 _ _ d37
             refine aB (dY rfl) (aBl (v:=zB (!d32)) ?_)
             rcases aK c with ⟨f2,c⟩|⟨f2,c⟩
             ·exact bA f2 rfl rfl (bA f2 rfl rfl (bA f2 rfl rfl (aB (bI (v:=zB true) f2 rfl rfl) (aAf ⟨true,c,a67,a68,rfl,(aL.arr 9 [5,6,7] a70 rfl)⟩))))
             ·exact bM f2 rfl rfl (aCv d02 (bM f2 rfl rfl (aCv d00 (bM f2 rfl rfl (aB (oZ rfl rfl) (aB (bJ (v:=zB (p6 != d9)) f2 rfl rfl) (aAf ⟨p6 != d9,c,a67,a68,rfl,(aL.arr 9 [5,6,7] a70 rfl)⟩)))))))
            obtain ⟨g73,V,d38,d39,w8⟩:=aL.lendB (i:=2) a02 rfl
            obtain ⟨q1,y,d40,d41,w9⟩:=aL.lendB (i:=2) d39 rfl
            refine aAg (C:=fun w'=>∃ L',aL G q1 L' w') [] bK (by kernel_rfl) (fun g74 d42=>?_)
            have f7:=aL.mono d41 d42
            refine gN (i:=0) rfl (by kernel_rfl) ⟨_,f7⟩ (fun _ ⟨_,f7⟩=>gO (t:=0) (vs:=d5) ag_40 f7 d40 c77 rfl rfl) (gN (i:=2) rfl (by kernel_rfl) ⟨_,f7⟩ (fun _ ⟨_,f7⟩=>gO (t:=0) (vs:=d6) aIk f7 (d38.mono y) c78 rfl rfl) (qE (i:=1) (j:=8) (by kernel_rfl) rfl rfl ?_ ?_))
            ·obtain ⟨a3,d43,c⟩:=aI c
             refine aU (vs:=h7) Tryz.call17 rfl (rB f7 (h3.mono (zL V y)) (h6.mono (zL V y)) (h9.mono (zL V y)) (g2.mono (zL V y)) d43) ?_
             rintro _ g75 ⟨i3,i4,i5,i6,i7,i8,i9,j0,rfl,a21⟩
             refine aF (aA ⟨fun _=>⟨_,a21⟩,?_⟩)
             refine qE (i:=3) (j:=8) (by kernel_rfl) rfl rfl ?_ ?_
             ·obtain ⟨e3,d44,c⟩:=aI c
              refine aU (vs:=f5) Tryz.call8 rfl (nT a21 (e9.mono (zL V y)) (f0.mono (zL V y)) d44) ?_
              rintro _ g76 ⟨x0,x1,x2,x3,rfl,a22⟩
              refine aF (aA ⟨fun _=>⟨_,a22⟩,?_⟩)
              refine qE (i:=4) (j:=8) (by kernel_rfl) rfl rfl ?_ ?_
              ·obtain ⟨g77,q2,d45,d46,d47⟩:=aL.lendS (i:=2) a22 (zL V y) rfl
               obtain ⟨g78,q3,d48,d49,d50⟩:=aL.lendS (i:=2) d46 (zL (zL V y) q2) rfl
               obtain ⟨g79,q4,d51,d52,d53⟩:=aL.lendS (i:=2) d49 (zL (zL (zL V y) q2) q3) rfl
               obtain ⟨g80,q5,d54,d55,d56⟩:=aL.lendS (i:=2) d52 (zL (zL (zL (zL V y) q2) q3) q4) rfl
               obtain ⟨g81,q6,d57,d58,d59⟩:=aL.lendS (i:=0) d55 (zL (zL (zL (zL (zL V y) q2) q3) q4) q5) rfl
               obtain ⟨g82,q7,d60,d61,d62⟩:=aL.lendS (i:=0) d58 (zL (zL (zL (zL (zL (zL V y) q2) q3) q4) q5) q6) rfl
               obtain ⟨a9,d63,c⟩:=aI c
               refine aU (vs:=[zA (zEa a3 i3 i4 i5 i6 i7 i8 i9 j0),zA (zCa e3 x0 x1 x2 x3)]) Tryz.call18 rfl (nO d61 hG (d45.mono (zL (zL (zL (zL q3 q4) q5) q6) q7)) (d48.mono (zL (zL (zL q4 q5) q6) q7)) (d51.mono (zL (zL q5 q6) q7)) (d54.mono (zL q6 q7)) (d57.mono q7) d60 d63) ?_
               rintro _ g83 ⟨j1,j2,j3,j4,rfl,d64⟩
               have d65:=d62 _ _ d64
               have d66:=d59 _ _ d65
               have d67:=d56 _ _ d66
               have d68:=d53 _ _ d67
               have d69:=d50 _ _ d68
               have q8:=d47 _ _ d69
               refine aF (aA ⟨fun _=>⟨_,q8⟩,?_⟩)
               refine gN (i:=5) rfl (by kernel_rfl) ⟨_,q8⟩ (fun _ _=>aD (v:=zT #[zA (zCa a9.1 j1 j2 j3 j4),i64 a9.2]) rfl) (gN (i:=6) rfl (by kernel_rfl) ⟨_,q8⟩ (fun _ _=>bV rfl rfl) (gN (i:=7) rfl (by kernel_rfl) ⟨_,q8⟩ (fun _ _=>bV rfl rfl) (cW (i:=8) (by kernel_rfl) rfl (cF (vs:=e6) Tryz.zeroValue29 q8 rfl (fun a71 g84 a73=>(aF (aA ⟨fun _=>⟨_,a73⟩,?_⟩)))))))
               refine cW (i:=9) (by kernel_rfl) rfl (cC (i:=0) (ns:=(zC a9.1 j1 j2 j3 j4)) (us:=(zC a9.1 j1 j2 j3 j4)) Tryz.sizeOf29 a73 rfl rfl rfl rfl rfl (dL rfl) rfl rfl (fun d70 (a23:aL G q1 (box a71 29 (zC a9.1 j1 j2 j3 j4)::aN 9 K i3 i4 a3.S.L::aN 63 K i5 i6 a3.S.E::aN 2 K i7 i8 a3.M::aN 9 K i9 j0 a3.C::aN 9 K x0 x1 e3.L::aN 63 K x2 x3 e3.E::aN 9 K j1 j2 a9.1.L::aN 63 K j3 j4 a9.1.E::aN 9 K n o m.2.1::aN 63 K p q m.2.2::box d4 29 [i64 d.1.N,i64 d.1.I,zS n m.2.1.length o,zS p m.2.2.length q]::aN 63 K x c45 l::aN 9 K r u k::box c7 29 [i64 a0,i64 a2,zS r k.length u,zS x l.length c45]::L) d70)=>(aF (aA ⟨fun _=>⟨_,a23⟩,?_⟩))))
               refine gN (i:=10) rfl (by kernel_rfl) ⟨_,a23⟩ (fun _ _=>aG (v:=i64 a9.2) rfl) (kQ (by kernel_rfl) ?_)
               have d71:=w9 _ _ a23
               have d72:=w8 _ _ d71
               exact aA ⟨a9.1.N,a9.1.I,a9.1.L,a9.1.E,a9.2,a71,j1,j2,j3,j4,c,w6,w7,i0,rfl,rfl,rfl,(aL.arr 11 [10,9,2] d72 rfl)⟩
              ·refine cF (vs:=e6) Tryz.zeroValue29 a22 rfl (fun a75 g85 a76=>(aF (aA ⟨fun _=>⟨_,a76⟩,?_⟩)))
               refine cW (i:=4) (by kernel_rfl) rfl ?_
               obtain ⟨g86,q9,d73,d74,d75⟩:=aL.lendS (i:=3) a76 (zL V y) rfl
               obtain ⟨g87,r0,d76,d77,d78⟩:=aL.lendS (i:=3) d74 (zL (zL V y) q9) rfl
               obtain ⟨g88,r1,d79,d80,d81⟩:=aL.lendS (i:=3) d77 (zL (zL (zL V y) q9) r0) rfl
               obtain ⟨g89,r2,d82,d83,d84⟩:=aL.lendS (i:=3) d80 (zL (zL (zL (zL V y) q9) r0) r1) rfl
               obtain ⟨g90,r3,d85,d86,d87⟩:=aL.lendS (i:=1) d83 (zL (zL (zL (zL (zL V y) q9) r0) r1) r2) rfl
               obtain ⟨g91,r4,d88,d89,d90⟩:=aL.lendS (i:=1) d86 (zL (zL (zL (zL (zL (zL V y) q9) r0) r1) r2) r3) rfl
               obtain ⟨b0,d91,c⟩:=aI c
               refine aU (vs:=[zA (zEa a3 i3 i4 i5 i6 i7 i8 i9 j0),zA (zCa e3 x0 x1 x2 x3)]) Tryz.call18 rfl (nO d89 hG (d73.mono (zL (zL (zL (zL r0 r1) r2) r3) r4)) (d76.mono (zL (zL (zL r1 r2) r3) r4)) (d79.mono (zL (zL r2 r3) r4)) (d82.mono (zL r3 r4)) (d85.mono r4) d88 d91) ?_
               rintro _ g92 ⟨j5,j6,j7,j8,rfl,d92⟩
               have d93:=d90 _ _ d92
               have d94:=d87 _ _ d93
               have d95:=d84 _ _ d94
               have d96:=d81 _ _ d95
               have d97:=d78 _ _ d96
               have r5:=d75 _ _ d97
               refine aF (aA ⟨fun _=>⟨_,r5⟩,?_⟩)
               refine gN (i:=5) rfl (by kernel_rfl) ⟨_,r5⟩ (fun _ _=>aD (v:=zT #[zA (zCa b0.1 j5 j6 j7 j8),i64 b0.2]) rfl) (gN (i:=6) rfl (by kernel_rfl) ⟨_,r5⟩ (fun _ _=>bV rfl rfl) (gN (i:=7) rfl (by kernel_rfl) ⟨_,r5⟩ (fun _ _=>bV rfl rfl) (cW (i:=9) (by kernel_rfl) rfl (cC (i:=8) (ns:=(zC b0.1 j5 j6 j7 j8)) (us:=(zC b0.1 j5 j6 j7 j8)) Tryz.sizeOf29 r5 rfl rfl rfl rfl rfl (dL rfl) rfl rfl (fun d98 (a24:aL G q1 (aN 9 K i3 i4 a3.S.L::aN 63 K i5 i6 a3.S.E::aN 2 K i7 i8 a3.M::aN 9 K i9 j0 a3.C::aN 9 K x0 x1 e3.L::aN 63 K x2 x3 e3.E::aN 9 K j5 j6 b0.1.L::aN 63 K j7 j8 b0.1.E::box a75 29 (zC b0.1 j5 j6 j7 j8)::aN 9 K n o m.2.1::aN 63 K p q m.2.2::box d4 29 [i64 d.1.N,i64 d.1.I,zS n m.2.1.length o,zS p m.2.2.length q]::aN 63 K x c45 l::aN 9 K r u k::box c7 29 [i64 a0,i64 a2,zS r k.length u,zS x l.length c45]::L) d98)=>(aF (aA ⟨fun _=>⟨_,a24⟩,?_⟩)))))))
               refine gN (i:=10) rfl (by kernel_rfl) ⟨_,a24⟩ (fun _ _=>aG (v:=i64 b0.2) rfl) (kQ (by kernel_rfl) ?_)
               have d99:=w9 _ _ a24
               have e00:=w8 _ _ d99
               exact aA ⟨b0.1.N,b0.1.I,b0.1.L,b0.1.E,b0.2,a75,j5,j6,j7,j8,c,w6,w7,i0,rfl,rfl,rfl,(aL.arr 10 [9,8] e00 rfl)⟩
             ·refine cF (vs:=e6) Tryz.zeroValue29 a21 rfl (fun a77 g93 a78=>(aF (aA ⟨fun _=>⟨_,a78⟩,?_⟩)))
              refine cW (i:=3) (by kernel_rfl) rfl ?_
              obtain ⟨j9,e01,c⟩:=aI c
              refine aU (vs:=f5) Tryz.call8 rfl (nT a78 (e9.mono (zL V y)) (f0.mono (zL V y)) e01) ?_
              rintro _ g94 ⟨a79,a80,a81,a82,rfl,a83⟩
              refine aF (aA ⟨fun _=>⟨_,a83⟩,?_⟩)
              refine cW (i:=4) (by kernel_rfl) rfl ?_
              obtain ⟨g95,r6,e02,e03,e04⟩:=aL.lendS (i:=3) a83 (zL V y) rfl
              obtain ⟨g96,r7,e05,e06,e07⟩:=aL.lendS (i:=3) e03 (zL (zL V y) r6) rfl
              obtain ⟨g97,r8,e08,e09,e10⟩:=aL.lendS (i:=3) e06 (zL (zL (zL V y) r6) r7) rfl
              obtain ⟨g98,r9,e11,e12,e13⟩:=aL.lendS (i:=3) e09 (zL (zL (zL (zL V y) r6) r7) r8) rfl
              obtain ⟨g99,s0,e14,e15,e16⟩:=aL.lendS (i:=0) e12 (zL (zL (zL (zL (zL V y) r6) r7) r8) r9) rfl
              obtain ⟨h00,s1,e17,e18,e19⟩:=aL.lendS (i:=0) e15 (zL (zL (zL (zL (zL (zL V y) r6) r7) r8) r9) s0) rfl
              obtain ⟨b1,e20,c⟩:=aI c
              refine aU (vs:=[zA (zEa a3 i3 i4 i5 i6 i7 i8 i9 j0),zA (zCa j9 a79 a80 a81 a82)]) Tryz.call18 rfl (nO e18 hG (e02.mono (zL (zL (zL (zL r7 r8) r9) s0) s1)) (e05.mono (zL (zL (zL r8 r9) s0) s1)) (e08.mono (zL (zL r9 s0) s1)) (e11.mono (zL s0 s1)) (e14.mono s1) e17 e20) ?_
              rintro _ h01 ⟨k0,k1,k2,k3,rfl,e21⟩
              have e22:=e19 _ _ e21
              have e23:=e16 _ _ e22
              have e24:=e13 _ _ e23
              have e25:=e10 _ _ e24
              have e26:=e07 _ _ e25
              have s2:=e04 _ _ e26
              refine aF (aA ⟨fun _=>⟨_,s2⟩,?_⟩)
              refine gN (i:=5) rfl (by kernel_rfl) ⟨_,s2⟩ (fun _ _=>aD (v:=zT #[zA (zCa b1.1 k0 k1 k2 k3),i64 b1.2]) rfl) (gN (i:=6) rfl (by kernel_rfl) ⟨_,s2⟩ (fun _ _=>bV rfl rfl) (gN (i:=7) rfl (by kernel_rfl) ⟨_,s2⟩ (fun _ _=>bV rfl rfl) (cW (i:=9) (by kernel_rfl) rfl (cC (i:=8) (ns:=(zC b1.1 k0 k1 k2 k3)) (us:=(zC b1.1 k0 k1 k2 k3)) Tryz.sizeOf29 s2 rfl rfl rfl rfl rfl (dL rfl) rfl rfl (fun e27 (a25:aL G q1 (aN 9 K i3 i4 a3.S.L::aN 63 K i5 i6 a3.S.E::aN 2 K i7 i8 a3.M::aN 9 K i9 j0 a3.C::aN 9 K a79 a80 j9.L::aN 63 K a81 a82 j9.E::aN 9 K k0 k1 b1.1.L::aN 63 K k2 k3 b1.1.E::box a77 29 (zC b1.1 k0 k1 k2 k3)::aN 9 K n o m.2.1::aN 63 K p q m.2.2::box d4 29 [i64 d.1.N,i64 d.1.I,zS n m.2.1.length o,zS p m.2.2.length q]::aN 63 K x c45 l::aN 9 K r u k::box c7 29 [i64 a0,i64 a2,zS r k.length u,zS x l.length c45]::L) e27)=>(aF (aA ⟨fun _=>⟨_,a25⟩,?_⟩)))))))
              refine gN (i:=10) rfl (by kernel_rfl) ⟨_,a25⟩ (fun _ _=>aG (v:=i64 b1.2) rfl) (kQ (by kernel_rfl) ?_)
              have e28:=w9 _ _ a25
              have e29:=w8 _ _ e28
              exact aA ⟨b1.1.N,b1.1.I,b1.1.L,b1.1.E,b1.2,a77,k0,k1,k2,k3,c,w6,w7,i0,rfl,rfl,rfl,(aL.arr 10 [9,8] e29 rfl)⟩
            ·refine cF (vs:=e6) Tryz.zeroValue29 f7 rfl (fun a84 h02 a85=>(aF (aA ⟨fun _=>⟨_,a85⟩,?_⟩)))
             refine cW (i:=1) (by kernel_rfl) rfl ?_
             obtain ⟨e7,e30,c⟩:=aI c
             refine aU (vs:=h7) Tryz.call17 rfl (rB a85 (h3.mono (zL V y)) (h6.mono (zL V y)) (h9.mono (zL V y)) (g2.mono (zL V y)) e30) ?_
             rintro _ h03 ⟨a86,a87,a88,a89,a90,a91,a92,a93,rfl,a94⟩
             refine aF (aA ⟨fun _=>⟨_,a94⟩,?_⟩)
             refine cW (i:=3) (by kernel_rfl) rfl ?_
             obtain ⟨k4,e31,c⟩:=aI c
             refine aU (vs:=f5) Tryz.call8 rfl (nT a94 (e9.mono (zL V y)) (f0.mono (zL V y)) e31) ?_
             rintro _ h04 ⟨a95,a96,a97,a98,rfl,a99⟩
             refine aF (aA ⟨fun _=>⟨_,a99⟩,?_⟩)
             refine cW (i:=4) (by kernel_rfl) rfl ?_
             obtain ⟨h05,s3,e32,e33,e34⟩:=aL.lendS (i:=2) a99 (zL V y) rfl
             obtain ⟨h06,s4,e35,e36,e37⟩:=aL.lendS (i:=2) e33 (zL (zL V y) s3) rfl
             obtain ⟨h07,s5,e38,e39,e40⟩:=aL.lendS (i:=2) e36 (zL (zL (zL V y) s3) s4) rfl
             obtain ⟨h08,s6,e41,e42,e43⟩:=aL.lendS (i:=2) e39 (zL (zL (zL (zL V y) s3) s4) s5) rfl
             obtain ⟨h09,s7,e44,e45,e46⟩:=aL.lendS (i:=0) e42 (zL (zL (zL (zL (zL V y) s3) s4) s5) s6) rfl
             obtain ⟨h10,s8,e51,e52,e53⟩:=aL.lendS (i:=0) e45 (zL (zL (zL (zL (zL (zL V y) s3) s4) s5) s6) s7) rfl
             obtain ⟨b2,e54,c⟩:=aI c
             refine aU (vs:=[zA (zEa e7 a86 a87 a88 a89 a90 a91 a92 a93),zA (zCa k4 a95 a96 a97 a98)]) Tryz.call18 rfl (nO e52 hG (e32.mono (zL (zL (zL (zL s4 s5) s6) s7) s8)) (e35.mono (zL (zL (zL s5 s6) s7) s8)) (e38.mono (zL (zL s6 s7) s8)) (e41.mono (zL s7 s8)) (e44.mono s8) e51 e54) ?_
             rintro _ h11 ⟨k5,k6,k7,k8,rfl,e55⟩
             have e56:=e53 _ _ e55
             have e57:=e46 _ _ e56
             have e58:=e43 _ _ e57
             have e59:=e40 _ _ e58
             have e60:=e37 _ _ e59
             have s9:=e34 _ _ e60
             refine aF (aA ⟨fun _=>⟨_,s9⟩,?_⟩)
             refine gN (i:=5) rfl (by kernel_rfl) ⟨_,s9⟩ (fun _ _=>aD (v:=zT #[zA (zCa b2.1 k5 k6 k7 k8),i64 b2.2]) rfl) (gN (i:=6) rfl (by kernel_rfl) ⟨_,s9⟩ (fun _ _=>bV rfl rfl) (gN (i:=7) rfl (by kernel_rfl) ⟨_,s9⟩ (fun _ _=>bV rfl rfl) (cW (i:=9) (by kernel_rfl) rfl (cC (i:=8) (ns:=(zC b2.1 k5 k6 k7 k8)) (us:=(zC b2.1 k5 k6 k7 k8)) Tryz.sizeOf29 s9 rfl rfl rfl rfl rfl (dL rfl) rfl rfl (fun e61 (a26:aL G q1 (aN 9 K a86 a87 e7.S.L::aN 63 K a88 a89 e7.S.E::aN 2 K a90 a91 e7.M::aN 9 K a92 a93 e7.C::aN 9 K a95 a96 k4.L::aN 63 K a97 a98 k4.E::aN 9 K k5 k6 b2.1.L::aN 63 K k7 k8 b2.1.E::box a84 29 (zC b2.1 k5 k6 k7 k8)::aN 9 K n o m.2.1::aN 63 K p q m.2.2::box d4 29 [i64 d.1.N,i64 d.1.I,zS n m.2.1.length o,zS p m.2.2.length q]::aN 63 K x c45 l::aN 9 K r u k::box c7 29 [i64 a0,i64 a2,zS r k.length u,zS x l.length c45]::L) e61)=>(aF (aA ⟨fun _=>⟨_,a26⟩,?_⟩)))))))
             refine gN (i:=10) rfl (by kernel_rfl) ⟨_,a26⟩ (fun _ _=>aG (v:=i64 b2.2) rfl) (kQ (by kernel_rfl) ?_)
             have e62:=w9 _ _ a26
             have e63:=w8 _ _ e62
             exact aA ⟨b2.1.N,b2.1.I,b2.1.L,b2.1.E,b2.2,a84,k5,k6,k7,k8,c,w6,w7,i0,rfl,rfl,rfl,(aL.arr 10 [9,8] e63 rfl)⟩
        refine aC (aBl (v:=i64 h2.1) (aB (cJ rfl rfl) (aBl (v:=zB (decide (h2.1 < 0))) ?_)))
        rcases aK c with ⟨e5,c⟩|⟨e5,c⟩
        ·exact bA e5 rfl rfl (bA e5 rfl rfl (bA e5 rfl rfl (bA e5 rfl rfl (aB (bI (v:=zB true) e5 rfl rfl) (aBl (v:=zB true) (bA (rfl:true=true) rfl rfl (bA (rfl:true=true) rfl rfl (bA (rfl:true=true) rfl rfl (aB (bI (v:=zB true) (rfl:true=true) rfl rfl) (aAf ⟨true,c,w0,w1,w2,w3,w4,rfl,(aL.arr 16 [7,11] w5 rfl)⟩))))))))))
        ·refine bM e5 rfl rfl (aB (dK (us:=(zC d.1 n o p q)) fD w5 (i:=16) rfl w4 rfl rfl) (bM e5 rfl rfl (aB (dK (us:=[i64 a0,i64 a2,zS r k.length u,zS x l.length c45]) fD w5 (i:=21) rfl w2 rfl rfl) (bM e5 rfl rfl ?_))))
         obtain ⟨h13,a27,e64,e65,e66⟩:=aL.lendS (i:=17) w5 (zR _) rfl
         obtain ⟨h14,a28,e67,e68,e69⟩:=aL.lendS (i:=17) e65 a27 rfl
         obtain ⟨h16,a29,e70,e71,e72⟩:=aL.lendS (i:=18) e68 (zL a27 a28) rfl
         obtain ⟨h17,a30,e73,e74,e75⟩:=aL.lendS (i:=17) e71 (zL (zL a27 a28) a29) rfl
         obtain ⟨b00,e76,c⟩:=aI c
         refine aU (vs:=[zA (zCa d.1 n o p q),zA #[i64 a0,i64 a2,zS r k.length u,zS x l.length c45]]) Tryz.call10 rfl (zX (b:=⟨a0,a2,k,l⟩) e74 (e64.mono (zL (zL a28 a29) a30)) (e67.mono (zL a29 a30)) (e70.mono a30) e73 e76) ?_
         rintro _ h19 ⟨rfl,e77⟩
         have e78:=e75 _ _ e77
         have e79:=e72 _ _ e78
         have e80:=e69 _ _ e79
         have b01:=e66 _ _ e80
         refine bM e5 rfl rfl (aB (dY rfl) (aB (bJ (v:=zB (!b00)) e5 rfl rfl) (aBl (v:=zB (!b00)) ?_)))
         rcases aK c with ⟨f3,c⟩|⟨f3,c⟩
         ·exact bA f3 rfl rfl (bA f3 rfl rfl (bA f3 rfl rfl (aB (bI (v:=zB true) f3 rfl rfl) (aAf ⟨true,c,w0,w1,w2,w3,w4,rfl,(aL.arr 21 [11,15,20,0,1,3,2] b01 rfl)⟩))))
         ·exact bM f3 rfl rfl (aCv b76 (bM f3 rfl rfl (aCv w3 (bM f3 rfl rfl (aB (oZ rfl rfl) (aB (bJ (v:=zB (d.2 != d9)) f3 rfl rfl) (aAf ⟨d.2 != d9,c,w0,w1,w2,w3,w4,rfl,(aL.arr 21 [11,15,20,0,1,3,2] b01 rfl)⟩)))))))
    refine aC (aB (dK (us:=(zC d.1 n o p q)) fD y8 (i:=0) rfl rfl rfl rfl) (aB (dK (us:=[i64 a0,i64 a2,zS r k.length u,zS x l.length c45]) fD y8 (i:=13) rfl y5 rfl rfl) ?_))
    obtain ⟨h20,a31,e81,e82,e83⟩:=aL.lendS (i:=7) y8 (zR _) rfl
    obtain ⟨h21,a32,e84,e85,e86⟩:=aL.lendS (i:=7) e82 a31 rfl
    obtain ⟨h22,a33,e87,e88,e89⟩:=aL.lendS (i:=10) e85 (zL a31 a32) rfl
    obtain ⟨h23,a34,e90,e91,e92⟩:=aL.lendS (i:=9) e88 (zL (zL a31 a32) a33) rfl
    obtain ⟨e93,e94,c⟩:=aI c
    refine aU (vs:=[zA (zCa d.1 n o p q),zA #[i64 a0,i64 a2,zS r k.length u,zS x l.length c45]]) Tryz.call10 rfl (zX (b:=⟨a0,a2,k,l⟩) e91 (e81.mono (zL (zL a32 a33) a34)) (e84.mono (zL a33 a34)) (e87.mono a34) e90 e94) ?_
    rintro _ h24 ⟨rfl,e95⟩
    have e96:=e92 _ _ e95
    have e97:=e89 _ _ e96
    have e98:=e86 _ _ e97
    have b02:=e83 _ _ e98
    refine aB (dY rfl) (aBl (v:=zB (!e93)) ?_)
    rcases aK c with ⟨f4,c⟩|⟨f4,c⟩
    ·exact bA f4 rfl rfl (bA f4 rfl rfl (bA f4 rfl rfl (aB (bI (v:=zB true) f4 rfl rfl) (aAf ⟨true,c,y3,y4,y5,y6,rfl,rfl,rfl,rfl,rfl,(aL.arr 13 [4,5,6,7,8,9,10,0,1,11,12,3,2] b02 rfl)⟩))))
    ·exact bM f4 rfl rfl (aBl (v:=i64 d.2) (bM f4 rfl rfl (aCv y6 (bM f4 rfl rfl (aB (oZ rfl rfl) (aB (bJ (v:=zB (d.2 != d9)) f4 rfl rfl) (aAf ⟨d.2 != d9,c,y3,y4,y5,y6,rfl,rfl,rfl,rfl,rfl,(aL.arr 13 [4,5,6,7,8,9,10,0,1,11,12,3,2] b02 rfl)⟩)))))))
   obtain ⟨h25,Z,e99,f00,x4⟩:=aL.lendB (i:=0) a45 rfl
   obtain ⟨t0,z,f01,f02,x5⟩:=aL.lendB (i:=0) f00 rfl
   refine aAg (C:=fun w'=>∃ L',aL G t0 L' w') [] bK (by kernel_rfl) (fun h26 f03=>?_)
   have f8:=aL.mono f02 f03
   refine gN (i:=0) rfl (by kernel_rfl) ⟨_,f8⟩ (fun _ ⟨_,f8⟩=>gO (t:=0) (vs:=d5) ag_40 f8 f01 rfl rfl rfl) (gN (i:=2) rfl (by kernel_rfl) ⟨_,f8⟩ (fun _ ⟨_,f8⟩=>gO (t:=0) (vs:=d6) aIk f8 (e99.mono z) rfl rfl rfl) (qE (i:=1) (j:=8) (by kernel_rfl) rfl rfl ?_ ?_))
   ·obtain ⟨a5,f04,c⟩:=aI c
    refine aU (vs:=h7) Tryz.call17 rfl (rB f8 (h3.mono (zL Z z)) (h6.mono (zL Z z)) (h9.mono (zL Z z)) (g2.mono (zL Z z)) f04) ?_
    rintro _ h27 ⟨k9,l0,l1,l2,l3,l4,l5,l6,rfl,a35⟩
    refine aF (aA ⟨fun _=>⟨_,a35⟩,?_⟩)
    refine qE (i:=3) (j:=8) (by kernel_rfl) rfl rfl ?_ ?_
    ·obtain ⟨e4,f05,c⟩:=aI c
     refine aU (vs:=f5) Tryz.call8 rfl (nT a35 (e9.mono (zL Z z)) (f0.mono (zL Z z)) f05) ?_
     rintro _ h28 ⟨x6,x7,x8,x9,rfl,a36⟩
     refine aF (aA ⟨fun _=>⟨_,a36⟩,?_⟩)
     refine qE (i:=4) (j:=8) (by kernel_rfl) rfl rfl ?_ ?_
     ·obtain ⟨h29,t1,f06,f07,f08⟩:=aL.lendS (i:=2) a36 (zL Z z) rfl
      obtain ⟨h30,t2,f09,f10,f11⟩:=aL.lendS (i:=2) f07 (zL (zL Z z) t1) rfl
      obtain ⟨h31,t3,f12,f13,f14⟩:=aL.lendS (i:=2) f10 (zL (zL (zL Z z) t1) t2) rfl
      obtain ⟨h32,t4,f15,f16,f17⟩:=aL.lendS (i:=2) f13 (zL (zL (zL (zL Z z) t1) t2) t3) rfl
      obtain ⟨h33,t5,f18,f19,f20⟩:=aL.lendS (i:=0) f16 (zL (zL (zL (zL (zL Z z) t1) t2) t3) t4) rfl
      obtain ⟨h34,t6,f21,f22,f23⟩:=aL.lendS (i:=0) f19 (zL (zL (zL (zL (zL (zL Z z) t1) t2) t3) t4) t5) rfl
      obtain ⟨b3,f24,c⟩:=aI c
      refine aU (vs:=[zA (zEa a5 k9 l0 l1 l2 l3 l4 l5 l6),zA (zCa e4 x6 x7 x8 x9)]) Tryz.call16 rfl (qG f22 (f06.mono (zL (zL (zL (zL t2 t3) t4) t5) t6)) (f09.mono (zL (zL (zL t3 t4) t5) t6)) (f12.mono (zL (zL t4 t5) t6)) (f15.mono (zL t5 t6)) (f18.mono t6) f21 f24) ?_
      rintro _ h35 ⟨l7,l8,l9,m0,rfl,f25⟩
      have f26:=f23 _ _ f25
      have f27:=f20 _ _ f26
      have f28:=f17 _ _ f27
      have f29:=f14 _ _ f28
      have f30:=f11 _ _ f29
      have t7:=f08 _ _ f30
      refine aF (aA ⟨fun _=>⟨_,t7⟩,?_⟩)
      refine gN (i:=5) rfl (by kernel_rfl) ⟨_,t7⟩ (fun _ _=>aD (v:=zT #[zA (zCa b3.1 l7 l8 l9 m0),i64 b3.2]) rfl) (gN (i:=6) rfl (by kernel_rfl) ⟨_,t7⟩ (fun _ _=>bV rfl rfl) (gN (i:=7) rfl (by kernel_rfl) ⟨_,t7⟩ (fun _ _=>bV rfl rfl) (cW (i:=8) (by kernel_rfl) rfl (cF (vs:=e6) Tryz.zeroValue29 t7 rfl (fun b03 h36 b04=>(aF (aA ⟨fun _=>⟨_,b04⟩,?_⟩)))))))
      refine cW (i:=9) (by kernel_rfl) rfl (cC (i:=0) (ns:=(zC b3.1 l7 l8 l9 m0)) (us:=(zC b3.1 l7 l8 l9 m0)) Tryz.sizeOf29 b04 rfl rfl rfl rfl rfl (dL rfl) rfl rfl (fun f31 (a37:aL G t0 (box b03 29 (zC b3.1 l7 l8 l9 m0)::aN 9 K k9 l0 a5.S.L::aN 63 K l1 l2 a5.S.E::aN 2 K l3 l4 a5.M::aN 9 K l5 l6 a5.C::aN 9 K x6 x7 e4.L::aN 63 K x8 x9 e4.E::aN 9 K l7 l8 b3.1.L::aN 63 K l9 m0 b3.1.E::L) f31)=>(aF (aA ⟨fun _=>⟨_,a37⟩,?_⟩))))
      refine gN (i:=10) rfl (by kernel_rfl) ⟨_,a37⟩ (fun _ _=>aG (v:=i64 b3.2) rfl) (kQ (by kernel_rfl) ?_)
      have f32:=x5 _ _ a37
      have f33:=x4 _ _ f32
      exact aA ⟨b3.1.N,b3.1.I,b3.1.L,b3.1.E,b3.2,b03,l7,l8,l9,m0,c,rfl,rfl,rfl,rfl,(aL.arr 11 [10,9,2,0,1] f33 rfl)⟩
     ·refine cF (vs:=e6) Tryz.zeroValue29 a36 rfl (fun b05 h37 b06=>(aF (aA ⟨fun _=>⟨_,b06⟩,?_⟩)))
      refine cW (i:=4) (by kernel_rfl) rfl ?_
      obtain ⟨h38,t8,f34,f35,f36⟩:=aL.lendS (i:=3) b06 (zL Z z) rfl
      obtain ⟨h39,t9,f37,f38,f39⟩:=aL.lendS (i:=3) f35 (zL (zL Z z) t8) rfl
      obtain ⟨h40,u0,f40,f41,f42⟩:=aL.lendS (i:=3) f38 (zL (zL (zL Z z) t8) t9) rfl
      obtain ⟨h41,u1,f43,f44,f45⟩:=aL.lendS (i:=3) f41 (zL (zL (zL (zL Z z) t8) t9) u0) rfl
      obtain ⟨h42,u2,f46,f47,f48⟩:=aL.lendS (i:=1) f44 (zL (zL (zL (zL (zL Z z) t8) t9) u0) u1) rfl
      obtain ⟨h43,u3,f49,f50,f51⟩:=aL.lendS (i:=1) f47 (zL (zL (zL (zL (zL (zL Z z) t8) t9) u0) u1) u2) rfl
      obtain ⟨b4,f52,c⟩:=aI c
      refine aU (vs:=[zA (zEa a5 k9 l0 l1 l2 l3 l4 l5 l6),zA (zCa e4 x6 x7 x8 x9)]) Tryz.call16 rfl (qG f50 (f34.mono (zL (zL (zL (zL t9 u0) u1) u2) u3)) (f37.mono (zL (zL (zL u0 u1) u2) u3)) (f40.mono (zL (zL u1 u2) u3)) (f43.mono (zL u2 u3)) (f46.mono u3) f49 f52) ?_
      rintro _ h44 ⟨m1,m2,m3,m4,rfl,f53⟩
      have f54:=f51 _ _ f53
      have f55:=f48 _ _ f54
      have f56:=f45 _ _ f55
      have f57:=f42 _ _ f56
      have f58:=f39 _ _ f57
      have u4:=f36 _ _ f58
      refine aF (aA ⟨fun _=>⟨_,u4⟩,?_⟩)
      refine gN (i:=5) rfl (by kernel_rfl) ⟨_,u4⟩ (fun _ _=>aD (v:=zT #[zA (zCa b4.1 m1 m2 m3 m4),i64 b4.2]) rfl) (gN (i:=6) rfl (by kernel_rfl) ⟨_,u4⟩ (fun _ _=>bV rfl rfl) (gN (i:=7) rfl (by kernel_rfl) ⟨_,u4⟩ (fun _ _=>bV rfl rfl) (cW (i:=9) (by kernel_rfl) rfl (cC (i:=8) (ns:=(zC b4.1 m1 m2 m3 m4)) (us:=(zC b4.1 m1 m2 m3 m4)) Tryz.sizeOf29 u4 rfl rfl rfl rfl rfl (dL rfl) rfl rfl (fun f59 (a38:aL G t0 (aN 9 K k9 l0 a5.S.L::aN 63 K l1 l2 a5.S.E::aN 2 K l3 l4 a5.M::aN 9 K l5 l6 a5.C::aN 9 K x6 x7 e4.L::aN 63 K x8 x9 e4.E::aN 9 K m1 m2 b4.1.L::aN 63 K m3 m4 b4.1.E::box b05 29 (zC b4.1 m1 m2 m3 m4)::L) f59)=>(aF (aA ⟨fun _=>⟨_,a38⟩,?_⟩)))))))
      refine gN (i:=10) rfl (by kernel_rfl) ⟨_,a38⟩ (fun _ _=>aG (v:=i64 b4.2) rfl) (kQ (by kernel_rfl) ?_)
      have f60:=x5 _ _ a38
      have f61:=x4 _ _ f60
      exact aA ⟨b4.1.N,b4.1.I,b4.1.L,b4.1.E,b4.2,b05,m1,m2,m3,m4,c,rfl,rfl,rfl,rfl,(aL.arr 11 [9,8,10,0,1] f61 rfl)⟩
    ·refine cF (vs:=e6) Tryz.zeroValue29 a35 rfl (fun b07 h45 b08=>(aF (aA ⟨fun _=>⟨_,b08⟩,?_⟩)))
     refine cW (i:=3) (by kernel_rfl) rfl ?_
     obtain ⟨m5,f62,c⟩:=aI c
     refine aU (vs:=f5) Tryz.call8 rfl (nT b08 (e9.mono (zL Z z)) (f0.mono (zL Z z)) f62) ?_
     rintro _ h46 ⟨b09,b10,b11,b12,rfl,b13⟩
     refine aF (aA ⟨fun _=>⟨_,b13⟩,?_⟩)
     refine cW (i:=4) (by kernel_rfl) rfl ?_
     obtain ⟨h47,u5,f63,f64,f65⟩:=aL.lendS (i:=3) b13 (zL Z z) rfl
     obtain ⟨h48,u6,f66,f67,f68⟩:=aL.lendS (i:=3) f64 (zL (zL Z z) u5) rfl
     obtain ⟨h49,u7,f69,f70,f71⟩:=aL.lendS (i:=3) f67 (zL (zL (zL Z z) u5) u6) rfl
     obtain ⟨h50,u8,f72,f73,f74⟩:=aL.lendS (i:=3) f70 (zL (zL (zL (zL Z z) u5) u6) u7) rfl
     obtain ⟨h51,u9,f75,f76,f77⟩:=aL.lendS (i:=0) f73 (zL (zL (zL (zL (zL Z z) u5) u6) u7) u8) rfl
     obtain ⟨h52,v0,f78,f79,f80⟩:=aL.lendS (i:=0) f76 (zL (zL (zL (zL (zL (zL Z z) u5) u6) u7) u8) u9) rfl
     obtain ⟨b5,f81,c⟩:=aI c
     refine aU (vs:=[zA (zEa a5 k9 l0 l1 l2 l3 l4 l5 l6),zA (zCa m5 b09 b10 b11 b12)]) Tryz.call16 rfl (qG f79 (f63.mono (zL (zL (zL (zL u6 u7) u8) u9) v0)) (f66.mono (zL (zL (zL u7 u8) u9) v0)) (f69.mono (zL (zL u8 u9) v0)) (f72.mono (zL u9 v0)) (f75.mono v0) f78 f81) ?_
     rintro _ h53 ⟨m6,m7,m8,m9,rfl,f82⟩
     have f83:=f80 _ _ f82
     have f84:=f77 _ _ f83
     have f85:=f74 _ _ f84
     have f86:=f71 _ _ f85
     have f87:=f68 _ _ f86
     have v1:=f65 _ _ f87
     refine aF (aA ⟨fun _=>⟨_,v1⟩,?_⟩)
     refine gN (i:=5) rfl (by kernel_rfl) ⟨_,v1⟩ (fun _ _=>aD (v:=zT #[zA (zCa b5.1 m6 m7 m8 m9),i64 b5.2]) rfl) (gN (i:=6) rfl (by kernel_rfl) ⟨_,v1⟩ (fun _ _=>bV rfl rfl) (gN (i:=7) rfl (by kernel_rfl) ⟨_,v1⟩ (fun _ _=>bV rfl rfl) (cW (i:=9) (by kernel_rfl) rfl (cC (i:=8) (ns:=(zC b5.1 m6 m7 m8 m9)) (us:=(zC b5.1 m6 m7 m8 m9)) Tryz.sizeOf29 v1 rfl rfl rfl rfl rfl (dL rfl) rfl rfl (fun f88 (a39:aL G t0 (aN 9 K k9 l0 a5.S.L::aN 63 K l1 l2 a5.S.E::aN 2 K l3 l4 a5.M::aN 9 K l5 l6 a5.C::aN 9 K b09 b10 m5.L::aN 63 K b11 b12 m5.E::aN 9 K m6 m7 b5.1.L::aN 63 K m8 m9 b5.1.E::box b07 29 (zC b5.1 m6 m7 m8 m9)::L) f88)=>(aF (aA ⟨fun _=>⟨_,a39⟩,?_⟩)))))))
     refine gN (i:=10) rfl (by kernel_rfl) ⟨_,a39⟩ (fun _ _=>aG (v:=i64 b5.2) rfl) (kQ (by kernel_rfl) ?_)
     have f89:=x5 _ _ a39
     have f90:=x4 _ _ f89
     exact aA ⟨b5.1.N,b5.1.I,b5.1.L,b5.1.E,b5.2,b07,m6,m7,m8,m9,c,rfl,rfl,rfl,rfl,(aL.arr 11 [9,8,10,0,1] f90 rfl)⟩
   ·refine cF (vs:=e6) Tryz.zeroValue29 f8 rfl (fun b14 h54 b15=>(aF (aA ⟨fun _=>⟨_,b15⟩,?_⟩)))
    refine cW (i:=1) (by kernel_rfl) rfl ?_
    obtain ⟨e8,f91,c⟩:=aI c
    refine aU (vs:=h7) Tryz.call17 rfl (rB b15 (h3.mono (zL Z z)) (h6.mono (zL Z z)) (h9.mono (zL Z z)) (g2.mono (zL Z z)) f91) ?_
    rintro _ h55 ⟨b16,b17,b18,b20,b21,b23,b24,b25,rfl,b26⟩
    refine aF (aA ⟨fun _=>⟨_,b26⟩,?_⟩)
    refine cW (i:=3) (by kernel_rfl) rfl ?_
    obtain ⟨n0,f92,c⟩:=aI c
    refine aU (vs:=f5) Tryz.call8 rfl (nT b26 (e9.mono (zL Z z)) (f0.mono (zL Z z)) f92) ?_
    rintro _ h56 ⟨b27,b28,b29,b30,rfl,b31⟩
    refine aF (aA ⟨fun _=>⟨_,b31⟩,?_⟩)
    refine cW (i:=4) (by kernel_rfl) rfl ?_
    obtain ⟨h57,v2,f93,f94,f95⟩:=aL.lendS (i:=2) b31 (zL Z z) rfl
    obtain ⟨h58,v3,f96,f97,f98⟩:=aL.lendS (i:=2) f94 (zL (zL Z z) v2) rfl
    obtain ⟨h59,v4,f99,g00,g01⟩:=aL.lendS (i:=2) f97 (zL (zL (zL Z z) v2) v3) rfl
    obtain ⟨h60,v5,g02,g03,g04⟩:=aL.lendS (i:=2) g00 (zL (zL (zL (zL Z z) v2) v3) v4) rfl
    obtain ⟨h61,v6,g05,g06,g07⟩:=aL.lendS (i:=0) g03 (zL (zL (zL (zL (zL Z z) v2) v3) v4) v5) rfl
    obtain ⟨h62,v7,g08,g09,g10⟩:=aL.lendS (i:=0) g06 (zL (zL (zL (zL (zL (zL Z z) v2) v3) v4) v5) v6) rfl
    obtain ⟨b6,g11,c⟩:=aI c
    refine aU (vs:=[zA (zEa e8 b16 b17 b18 b20 b21 b23 b24 b25),zA (zCa n0 b27 b28 b29 b30)]) Tryz.call16 rfl (qG g09 (f93.mono (zL (zL (zL (zL v3 v4) v5) v6) v7)) (f96.mono (zL (zL (zL v4 v5) v6) v7)) (f99.mono (zL (zL v5 v6) v7)) (g02.mono (zL v6 v7)) (g05.mono v7) g08 g11) ?_
    rintro _ h63 ⟨n1,n2,n3,n4,rfl,g12⟩
    have g13:=g10 _ _ g12
    have g14:=g07 _ _ g13
    have g15:=g04 _ _ g14
    have g16:=g01 _ _ g15
    have g17:=f98 _ _ g16
    have v8:=f95 _ _ g17
    refine aF (aA ⟨fun _=>⟨_,v8⟩,?_⟩)
    refine gN (i:=5) rfl (by kernel_rfl) ⟨_,v8⟩ (fun _ _=>aD (v:=zT #[zA (zCa b6.1 n1 n2 n3 n4),i64 b6.2]) rfl) (gN (i:=6) rfl (by kernel_rfl) ⟨_,v8⟩ (fun _ _=>bV rfl rfl) (gN (i:=7) rfl (by kernel_rfl) ⟨_,v8⟩ (fun _ _=>bV rfl rfl) (cW (i:=9) (by kernel_rfl) rfl (cC (i:=8) (ns:=(zC b6.1 n1 n2 n3 n4)) (us:=(zC b6.1 n1 n2 n3 n4)) Tryz.sizeOf29 v8 rfl rfl rfl rfl rfl (dL rfl) rfl rfl (fun g18 (a40:aL G t0 (aN 9 K b16 b17 e8.S.L::aN 63 K b18 b20 e8.S.E::aN 2 K b21 b23 e8.M::aN 9 K b24 b25 e8.C::aN 9 K b27 b28 n0.L::aN 63 K b29 b30 n0.E::aN 9 K n1 n2 b6.1.L::aN 63 K n3 n4 b6.1.E::box b14 29 (zC b6.1 n1 n2 n3 n4)::L) g18)=>(aF (aA ⟨fun _=>⟨_,a40⟩,?_⟩)))))))
    refine gN (i:=10) rfl (by kernel_rfl) ⟨_,a40⟩ (fun _ _=>aG (v:=i64 b6.2) rfl) (kQ (by kernel_rfl) ?_)
    have g19:=x5 _ _ a40
    have g20:=x4 _ _ g19
    exact aA ⟨b6.1.N,b6.1.I,b6.1.L,b6.1.E,b6.2,b14,n1,n2,n3,n4,c,rfl,rfl,rfl,rfl,(aL.arr 11 [9,8,10,0,1] g20 rfl)⟩
end Gv
