/- Walks, printed by program. -/
import Derived.Test.YtohbafhnoifmoaaGreatDoorTJWk1
import Derived.Test.YtohbafhnoifmoaaGreatDoorTJWk5
set_option linter.all false
namespace Gv
open Go.Value renaming slice→zS,bool→zB,pointer→zP,agg→zA
open Option.some renaming inj→zI
open Gv.Hp renaming le_trans→zL,le_refl→zR
open Go Go.Proofs Go.Proofs.Tryz
set_option maxRecDepth 20000
set_option maxHeartbeats 40000000
variable {G:Env} {K:Hp} {L:List nJ} {w:World} {a1 a4 a7:Option Addr} {c2 c5 c8:Nat}
theorem lP {t:cG} {R:Bool} (hs:aI G K (L) w) (hG:G.lo=0) (h3:cX K a1 c2 t.L) (h6:cX K a4 c5 t.E) (b:mZ t=some R):
  Calls Tryz.prog 34 ([zA (zCa t a1 c2 a4 c5)]:List Value).toArray w (gK fun v w'=>v=zB R∧aI G K (L) w'):=by
 let y:=(zC t a1 c2 a4 c5)
 refine aW func34 rfl (by kernel_rfl) (by show (1:Nat)≤109;decide) ?_
 unfold mZ at b
 refine aL (iI (v:=zA (zCa t a1 c2 a4 c5)) (vs:=y) hs rfl rfl (fun l w8 d3=>(aF (v:=zB false) (aG (aQ (aQ (cN (fun f w=>∃ (b5:Bool),oI t b5=some R∧f 1=zP (some ⟨l,0,none⟩)∧f 30=zB b5∧aI G K (box l 27 y::L) w) ?_ ?_)))))))
 ·rintro f k3 ⟨b5,b,d4,d5,b6⟩
  unfold oI at b
  refine aA ?_
  rcases aH b with ⟨b8,b⟩|⟨b8,b⟩
  ·refine aM b8 d5 (aL (aF (v:=zB false) (aG ?_)))
   obtain rfl:=zI b
   exact bM (aV (bP results34 rfl ⟨rfl,(aI.arr 1 [] b6 rfl)⟩))
  ·refine aJ b8 d5 (bA (aA (aQ (aL (aD (bT (t':=2) fL d4 rfl) (aD (dS iT b6 (i:=0) rfl rfl rfl) (aD (bU (len:=t.L.length) bX rfl) (aO (v:=i64 0) (aG (bB (fun f w=>vQ t=some R∧f 1=zP (some ⟨l,0,none⟩)∧aI G K (box l 27 y::L) w) ?_ ?_))))))))))
   ·rintro f k4 ⟨b,d6,d7⟩
    unfold vQ at b
    refine aA (aQ (aL (aD (bT (t':=3) cV d6 rfl) (aD (dS fH d7 (i:=0) rfl rfl rfl) (aD (bU (len:=t.E.length) cM rfl) (aO (v:=i64 0) (aG (bB (fun f w=>aAC=some R∧aI G K (L) w) ?_ ?_))))))))
    ·rintro f k5 ⟨b,f7⟩
     unfold aAC at b
     refine aA (aL (aF (v:=zB true) (aG ?_)))
     obtain rfl:=zI b
     exact bM (bP results34 rfl ⟨rfl,f7⟩)
    obtain ⟨k6,f9,b⟩:=aB b
    refine cE f9 (fun (z:Int) f w=>f 1=zP (some ⟨l,0,none⟩)∧f 65=zS a4 t.E.length c5∧f 66=i64 (t.E.length:Int)∧f 67=i64 z∧aI G K (box l 27 y::L) w) ?_ ?_
    ·exact ⟨d6,rfl,rfl,rfl,d7⟩
    ·rintro z d8 f k7 c d9 ⟨V,a5,a6,Z,b9⟩
     replace c:rH t z=some d8:=c
     unfold rH at c
     refine aL (aD (cL Z a6) (aG (aQ ?_)))
     rcases aH c with ⟨c0,c⟩|⟨c0,c⟩
     ·refine aM c0 rfl (bA (aA (aQ (cY (aL (aN Z ?_))))))
      obtain ⟨e,e0,c⟩:=aB c
      refine aD (dI cM rfl h6 a5 rfl Z e0) ?_
      obtain ⟨k8,g0,g1⟩:=cX.el (sz:=3) rfl h6 e0
      cases g1
      refine aD (gT (t:=0) (vs:=[i64 e.F,i64 e.B,i64 e.To]) mQ b9 g0 rfl rfl rfl) (bW (vs:=[i64 0,i64 0,i64 0]) zeroValue69 b9 rfl (fun e1 k9 g2=>(aF (v:=i64 z) (bY (i:=0) (ns:=[i64 e.F,i64 e.B,i64 e.To]) (us:=[i64 e.F,i64 e.B,i64 e.To]) sizeOf69 g2 rfl rfl rfl rfl rfl (dE rfl) rfl rfl (fun g3 (a:aI G K (box e1 69 [i64 e.F,i64 e.B,i64 e.To]::box l 27 y::L) g3)=>(aG (aQ (cN (fun f w=>∃ (c1:Bool),mI z c1=some d8∧f 1=zP (some ⟨l,0,none⟩)∧f 65=zS a4 t.E.length c5∧f 66=i64 (t.E.length:Int)∧f 67=i64 z∧f 107=zB c1∧aI G K (box l 27 y::L) w) ?_ ?_))))))))
      ·rintro f l0 ⟨c1,c,g4,g5,g6,g7,e2,e3⟩
       unfold mI at c
       refine aA ?_
       rcases aH c with ⟨c3,c⟩|⟨c3,c⟩
       ·refine aM c3 e2 (aL (aF (v:=zB false) (aG (bM (bV (aV (aV ?_)))))))
        have g8:=d9 _ (zI c).symm
        subst g8
        have b:(some false)=some R:=b
        obtain rfl:=zI b
        exact bV (aV (aV (bP results34 rfl ⟨rfl,(aI.arr 1 [] e3 rfl)⟩)))
       ·exact aJ c3 e2 (bA (bC (aA (aP (aD (cP g7 rfl) (aO (v:=i64 (wr (z+1))) (aG ⟨wr (z+1),(zI c).symm,g4,g5,g6,rfl,e3⟩)))))))
      refine eR (C:=fun w'=>aI G K (box e1 69 [i64 e.F,i64 e.B,i64 e.To]::box l 27 y::L) w') bZ (by kernel_rfl) (aI.mono a (eC.drew _)) (bF (fun _ a=>eI (us:=y) dJ a (i:=1) rfl V rfl rfl) (bF (fun _ a=>bT (t':=0) hQ rfl rfl) (bF (fun _ a=>dS cK a (i:=0) rfl rfl rfl) ?_)))
      obtain ⟨e4,h0,c⟩:=aB c
      refine pZ (vs:=[zA (zCa t a1 c2 a4 c5),i64 e.F]) (v:=zB e4) call62 rfl (fun _ a=>(wP a h3 h6 h0)) (bF (fun _ a=>eJ rfl) (bF (fun _ a=>bE (v:=zB (!e4)) rfl) ?_))
      rcases aH c with ⟨n,c⟩|⟨n,c⟩
      ·refine bI (g:=77) rfl rfl (cQ n) (bI (g:=77) rfl rfl (cQ n) (bI (g:=77) rfl rfl (cQ n) (bI (g:=77) rfl rfl (cQ n) (bI (g:=77) rfl rfl (cQ n) (bF (fun _ a=>bL (v:=zB true) n rfl rfl) (bF (fun _ a=>bE (v:=zB true) rfl) (bI (g:=84) rfl rfl (cQ (rfl:true=true)) (bI (g:=84) rfl rfl (cQ (rfl:true=true)) (bI (g:=84) rfl rfl (cQ (rfl:true=true)) (bI (g:=84) rfl rfl (cQ (rfl:true=true)) (bI (g:=84) rfl rfl (cQ (rfl:true=true)) (bI (g:=84) rfl rfl (cQ (rfl:true=true)) (bI (g:=84) rfl rfl (cQ (rfl:true=true)) (bF (fun _ a=>bL (v:=zB true) (rfl:true=true) rfl rfl) (bF (fun _ a=>bE (v:=zB true) rfl) (bI (g:=93) rfl rfl (cQ (rfl:true=true)) (bI (g:=93) rfl rfl (cQ (rfl:true=true)) (bI (g:=93) rfl rfl (cQ (rfl:true=true)) (dD (g:=96) rfl rfl (dD (g:=96) rfl rfl (dD (g:=96) rfl rfl (dD (g:=96) rfl rfl (dD (g:=96) rfl rfl ?_)))))))))))))))))))))))
       exact dD (g:=96) rfl rfl (dD (g:=96) rfl rfl (dD (g:=96) rfl rfl (dD (g:=96) rfl rfl (bI (g:=93) rfl rfl (cQ (rfl:true=true)) (bF (fun _ a=>bL (v:=zB true) (rfl:true=true) rfl rfl) (fE (fun l1 h1=>(aA ⟨true,c,V,a5,a6,Z,rfl,(aI.arr 1 [] h1 rfl)⟩))))))))
      ·refine cC (g:=77) rfl rfl (dF n) (bF (fun _ a=>eI (us:=y) dJ a (i:=1) rfl V rfl rfl) (cC (g:=77) rfl rfl (dF n) (bF (fun _ a=>bT (t':=2) gR rfl rfl) (cC (g:=77) rfl rfl (dF n) (bF (fun _ a=>dS cK a (i:=0) rfl rfl rfl) (cC (g:=77) rfl rfl (dF n) ?_))))))
       obtain ⟨c4,h2,c⟩:=aB c
       refine pZ (vs:=[zA (zCa t a1 c2 a4 c5),i64 e.To]) (v:=zB c4) call62 rfl (fun _ a=>(wP a h3 h6 h2)) (cC (g:=77) rfl rfl (dF n) (bF (fun _ a=>eJ rfl) (bF (fun _ a=>bK (v:=zB (!c4)) n rfl rfl) (bF (fun _ a=>bE (v:=zB (!c4)) rfl) ?_))))
       rcases aH c with ⟨k,c⟩|⟨k,c⟩
       ·refine bI (g:=84) rfl rfl (cQ k) (bI (g:=84) rfl rfl (cQ k) (bI (g:=84) rfl rfl (cQ k) (bI (g:=84) rfl rfl (cQ k) (bI (g:=84) rfl rfl (cQ k) (bI (g:=84) rfl rfl (cQ k) (bI (g:=84) rfl rfl (cQ k) (bF (fun _ a=>bL (v:=zB true) k rfl rfl) (bF (fun _ a=>bE (v:=zB true) rfl) (bI (g:=93) rfl rfl (cQ (rfl:true=true)) (bI (g:=93) rfl rfl (cQ (rfl:true=true)) (bI (g:=93) rfl rfl (cQ (rfl:true=true)) (dD (g:=96) rfl rfl (dD (g:=96) rfl rfl (dD (g:=96) rfl rfl (dD (g:=96) rfl rfl (dD (g:=96) rfl rfl (dD (g:=96) rfl rfl (dD (g:=96) rfl rfl (dD (g:=96) rfl rfl (dD (g:=96) rfl rfl (bI (g:=93) rfl rfl (cQ (rfl:true=true)) (bF (fun _ a=>bL (v:=zB true) (rfl:true=true) rfl rfl) (fE ?_)))))))))))))))))))))))
        intro l2 h4
        exact aA ⟨true,c,V,a5,a6,Z,rfl,(aI.arr 1 [] h4 rfl)⟩
       ·refine cC (g:=84) rfl rfl (dF k) (bF (fun _ a=>bT (t':=1) iZ rfl rfl) (cC (g:=84) rfl rfl (dF k) (bF (fun _ a=>dS cK a (i:=0) rfl rfl rfl) (cC (g:=84) rfl rfl (dF k) (bF (fun _ a=>bT (t':=2) fL V rfl) (cC (g:=84) rfl rfl (dF k) (bF (fun _ a=>dS iT a (i:=1) rfl rfl rfl) (cC (g:=84) rfl rfl (dF k) (bF (fun _ a=>bU (len:=t.L.length) bX rfl) (cC (g:=84) rfl rfl (dF k) ?_))))))))))
        obtain ⟨c6,h5,c⟩:=aB c
        refine pZ (vs:=[i64 e.B,i64 (t.L.length:Int)]) (v:=zB c6) call64 rfl (fun _ a=>(aKQ a h5)) (cC (g:=84) rfl rfl (dF k) (bF (fun _ a=>eJ rfl) (bF (fun _ a=>bK (v:=zB (!c6)) k rfl rfl) (bF (fun _ a=>bE (v:=zB (!c6)) rfl) ?_))))
        rcases aH c with ⟨o,c⟩|⟨o,c⟩
        ·exact bI (g:=93) rfl rfl (cQ o) (bI (g:=93) rfl rfl (cQ o) (bI (g:=93) rfl rfl (cQ o) (dD (g:=96) rfl rfl (dD (g:=96) rfl rfl (dD (g:=96) rfl rfl (dD (g:=96) rfl rfl (dD (g:=96) rfl rfl (dD (g:=96) rfl rfl (dD (g:=96) rfl rfl (dD (g:=96) rfl rfl (dD (g:=96) rfl rfl (bI (g:=93) rfl rfl (cQ o) (bF (fun _ a=>bL (v:=zB true) o rfl rfl) (fE (fun l3 h7=>(aA ⟨true,c,V,a5,a6,Z,rfl,(aI.arr 1 [] h7 rfl)⟩))))))))))))))))
        ·refine cC (g:=93) rfl rfl (dF o) (bF (fun _ a=>bE (v:=i64 z) rfl) (cC (g:=93) rfl rfl (dF o) (bF (fun _ a=>kZ rfl rfl) (cC (g:=93) rfl rfl (dF o) (bF (fun _ a=>bE (v:=zB (decide (0 < z))) rfl) ?_)))))
         rcases aH c with ⟨h,c⟩|⟨h,c⟩
         ·refine cC (g:=96) rfl rfl h (bF (fun _ a=>bT (t':=3) cV V rfl) (cC (g:=96) rfl rfl h (bF (fun _ a=>dS fH a (i:=1) rfl rfl rfl) (cC (g:=96) rfl rfl h (bF (fun _ a=>bE (v:=i64 z) rfl) (cC (g:=96) rfl rfl h (bF (fun _ a=>kH rfl rfl) (cC (g:=96) rfl rfl h ?_))))))))
          obtain ⟨a7,e5,c⟩:=aB c
          refine bF (fun _ a=>dI cM rfl h6 rfl rfl rfl e5) ?_
          obtain ⟨l4,h8,h9⟩:=cX.el (sz:=3) rfl h6 e5
          cases h9
          refine cC (g:=96) rfl rfl h (bF (fun _ a=>gT (t:=0) (vs:=[i64 a7.F,i64 a7.B,i64 a7.To]) mQ a h8 rfl rfl rfl) (cC (g:=96) rfl rfl h (bF (fun _ a=>eI (us:=[i64 e.F,i64 e.B,i64 e.To]) mQ a (i:=0) rfl rfl rfl rfl) (cC (g:=96) rfl rfl h ?_))))
          obtain ⟨b3,i0,c⟩:=aB c
          exact pZ (vs:=[zA #[i64 a7.F,i64 a7.B,i64 a7.To],zA #[i64 e.F,i64 e.B,i64 e.To]]) (v:=i64 b3) call65 rfl (fun _ a=>(aBx a i0)) (cC (g:=96) rfl rfl h (bF (fun _ a=>zV rfl rfl) (cC (g:=93) rfl rfl (dF o) (bF (fun _ a=>bL (v:=zB (decide (0≤b3))) h rfl rfl) (bF (fun _ a=>bK (v:=zB (decide (0≤b3))) o rfl rfl) (fE (fun l5 i1=>(aA ⟨decide (0≤b3),c,V,a5,a6,Z,rfl,(aI.arr 1 [] i1 rfl)⟩))))))))
         ·exact bI (g:=96) rfl rfl (dQ h) (bI (g:=96) rfl rfl (dQ h) (bI (g:=96) rfl rfl (dQ h) (bI (g:=96) rfl rfl (dQ h) (bI (g:=96) rfl rfl (dQ h) (bI (g:=96) rfl rfl (dQ h) (bI (g:=96) rfl rfl (dQ h) (bI (g:=96) rfl rfl (dQ h) (bI (g:=96) rfl rfl (dQ h) (cC (g:=93) rfl rfl (dF o) (bF (fun _ a=>bK (v:=zB false) h rfl rfl) (bF (fun _ a=>bK (v:=zB false) o rfl rfl) (fE (fun l6 i2=>(aA ⟨false,c,V,a5,a6,Z,rfl,(aI.arr 1 [] i2 rfl)⟩))))))))))))))
     ·refine aJ c0 rfl (cA (aT (aT ?_)))
      have i3:=d9 _ (zI c).symm
      subst i3
      have b:(aAC)=some R:=b
      exact bJ (aA ⟨b,(aI.arr 1 [] b9 rfl)⟩)
   obtain ⟨l7,i4,b⟩:=aB b
   refine cE i4 (fun (m:Int) f w=>f 1=zP (some ⟨l,0,none⟩)∧f 32=zS a1 t.L.length c2∧f 33=i64 (t.L.length:Int)∧f 34=i64 m∧aI G K (box l 27 y::L) w) ?_ ?_
   ·exact ⟨d4,rfl,rfl,rfl,b6⟩
   ·rintro m e6 f l8 d e7 ⟨a8,b1,b2,a3,c7⟩
    replace d:rI t m=some e6:=d
    unfold rI at d
    refine aL (aD (cL a3 b2) (aG (aQ ?_)))
    rcases aH d with ⟨c8,d⟩|⟨c8,d⟩
    ·refine aM c8 rfl (bA (aA (aQ (cY (aL (aN a3 ?_))))))
     obtain ⟨p,e8,d⟩:=aB d
     refine aD (dI bX rfl h3 b1 rfl a3 e8) ?_
     obtain ⟨l9,i5,i6⟩:=cX.el (sz:=1) rfl h3 e8
     cases i6
     refine aD (bH (t:=0) qB c7 i5 rfl rfl) (aF (v:=i64 m) (aF (v:=str p) (aG (aQ (cN (fun f w=>∃ (c9:Bool),oH m c9=some e6∧f 1=zP (some ⟨l,0,none⟩)∧f 32=zS a1 t.L.length c2∧f 33=i64 (t.L.length:Int)∧f 34=i64 m∧f 62=zB c9∧aI G K (box l 27 y::L) w) ?_ ?_)))))
     ·rintro f m0 ⟨c9,d,i7,i8,i9,j0,e9,f0⟩
      unfold oH at d
      refine aA ?_
      rcases aH d with ⟨d0,d⟩|⟨d0,d⟩
      ·refine aM d0 e9 (aL (aF (v:=zB false) (aG (bM (bV (aV (aV ?_)))))))
       have j1:=e7 _ (zI d).symm
       subst j1
       have b:(some false)=some R:=b
       obtain rfl:=zI b
       exact bV (aV (aV (bP results34 rfl ⟨rfl,(aI.arr 1 [] f0 rfl)⟩)))
      ·exact aJ d0 e9 (bA (bC (aA (aP (aD (cP j0 rfl) (aO (v:=i64 (wr (m+1))) (aG ⟨wr (m+1),(zI d).symm,i7,i8,i9,rfl,f0⟩)))))))
     refine aP (aO (v:=str p) ?_)
     obtain ⟨j3,j4,d⟩:=aB d
     refine aS (vs:=[str p]) call63 rfl (aEJ c7 hG j4) ?_
     rintro _ m1 ⟨rfl,a9⟩
     refine aD (eJ rfl) (aO (v:=zB (!j3)) ?_)
     rcases aH d with ⟨q,d⟩|⟨q,d⟩
     ·exact aX q rfl rfl (aX q rfl rfl (aX q rfl rfl (aX q rfl rfl (aX q rfl rfl (aD (bL (v:=zB true) q rfl rfl) (aO (v:=zB true) (aX (rfl:true=true) rfl rfl (aX (rfl:true=true) rfl rfl (aX (rfl:true=true) rfl rfl (dP (g:=52) rfl rfl (dP (g:=52) rfl rfl (dP (g:=52) rfl rfl (dP (g:=52) rfl rfl (dP (g:=52) rfl rfl (dP (g:=52) rfl rfl (dP (g:=52) rfl rfl (dP (g:=52) rfl rfl (aX (rfl:true=true) rfl rfl (aD (bL (v:=zB true) (rfl:true=true) rfl rfl) (aG ⟨true,d,a8,b1,b2,a3,rfl,a9⟩))))))))))))))))))))
     ·refine bG q rfl rfl (aO (v:=str p) (bG q rfl rfl (aD (zX rfl rfl) (bG q rfl rfl (aO (v:=i64 m) (bG q rfl rfl (aD (gE rfl rfl) (bG q rfl rfl (aD (R_neqB runUnderlying4 rfl rfl) (aD (bK (v:=zB ((p == ([116,97,117]:aU)) != (m == 0))) q rfl rfl) (aO (v:=zB ((p == ([116,97,117]:aU)) != (m == 0))) ?_)))))))))))
      rcases aH d with ⟨r,d⟩|⟨r,d⟩
      ·exact aX r rfl rfl (aX r rfl rfl (aX r rfl rfl (dP (g:=52) rfl rfl (dP (g:=52) rfl rfl (dP (g:=52) rfl rfl (dP (g:=52) rfl rfl (dP (g:=52) rfl rfl (dP (g:=52) rfl rfl (dP (g:=52) rfl rfl (dP (g:=52) rfl rfl (aX r rfl rfl (aD (bL (v:=zB true) r rfl rfl) (aG ⟨true,d,a8,b1,b2,a3,rfl,a9⟩)))))))))))))
      ·refine bG r rfl rfl (aO (v:=i64 m) (bG r rfl rfl (aD (kZ rfl rfl) (bG r rfl rfl (aO (v:=zB (decide (1 < m))) ?_)))))
       rcases aH d with ⟨j,d⟩|⟨j,d⟩
       ·refine bD j rfl rfl (aO (v:=str p) (bD j rfl rfl (aD (bT (t':=2) fL a8 rfl) (bD j rfl rfl (aD (dS iT a9 (i:=0) rfl rfl rfl) (bD j rfl rfl (aO (v:=i64 m) (bD j rfl rfl (aD (kH rfl rfl) (bD j rfl rfl ?_))))))))))
        obtain ⟨b0,f1,d⟩:=aB d
        refine aD (dI bX rfl h3 rfl rfl rfl f1) ?_
        obtain ⟨m2,j5,j6⟩:=cX.el (sz:=1) rfl h3 f1
        cases j6
        exact bD j rfl rfl (aD (bH (t:=0) qB a9 j5 rfl rfl) (bD j rfl rfl (aD (R_leqS rfl rfl) (bG r rfl rfl (aD (bL (v:=zB (wU p b0||p == b0)) j rfl rfl) (aD (bK (v:=zB (wU p b0||p == b0)) r rfl rfl) (aG ⟨(wU p b0||p == b0),d,a8,b1,b2,a3,rfl,a9⟩)))))))
       ·exact aR j rfl rfl (aR j rfl rfl (aR j rfl rfl (aR j rfl rfl (aR j rfl rfl (aR j rfl rfl (aR j rfl rfl (aR j rfl rfl (bG r rfl rfl (aD (bK (v:=zB false) j rfl rfl) (aD (bK (v:=zB false) r rfl rfl) (aG ⟨false,d,a8,b1,b2,a3,rfl,a9⟩)))))))))))
    ·refine aJ c8 rfl (cA (aT (aT ?_)))
     have j7:=e7 _ (zI d).symm
     subst j7
     have b:(vQ t)=some R:=b
     exact bJ (aA ⟨b,a8,c7⟩)
 refine aP (aD (bT (t':=0) gS rfl rfl) (aD (dS cK d3 (i:=0) rfl rfl rfl) ?_))
 obtain ⟨j8,j9,b⟩:=aB b
 refine aS (vs:=[i64 t.N,i64 1,i64 40]) call61 rfl (rS d3 j9) ?_
 rintro _ m3 ⟨rfl,b4⟩
 refine aD (eJ rfl) (aO (v:=zB (!j8)) ?_)
 rcases aH b with ⟨u,b⟩|⟨u,b⟩
 ·exact aX u rfl rfl (aX u rfl rfl (aX u rfl rfl (aX u rfl rfl (aX u rfl rfl (aD (bL (v:=zB true) u rfl rfl) (aO (v:=zB true) (aX (rfl:true=true) rfl rfl (aX (rfl:true=true) rfl rfl (aX (rfl:true=true) rfl rfl (aX (rfl:true=true) rfl rfl (aX (rfl:true=true) rfl rfl (aD (bL (v:=zB true) (rfl:true=true) rfl rfl) (aO (v:=zB true) (aX (rfl:true=true) rfl rfl (aX (rfl:true=true) rfl rfl (aX (rfl:true=true) rfl rfl (aX (rfl:true=true) rfl rfl (aD (bL (v:=zB true) (rfl:true=true) rfl rfl) (aG ⟨true,b,rfl,rfl,b4⟩)))))))))))))))))))
 ·refine bG u rfl rfl (aD (eI (us:=y) dJ b4 (i:=0) rfl rfl rfl rfl) (bG u rfl rfl (aD (bT (t':=1) oP rfl rfl) (bG u rfl rfl (aD (dS cK b4 (i:=0) rfl rfl rfl) (bG u rfl rfl ?_))))))
  obtain ⟨f2,k0,b⟩:=aB b
  refine aS (vs:=[zA (zCa t a1 c2 a4 c5),i64 t.I]) call62 rfl (wP b4 h3 h6 k0) ?_
  rintro _ m4 ⟨rfl,d1⟩
  refine bG u rfl rfl (aD (eJ rfl) (aD (bK (v:=zB (!f2)) u rfl rfl) (aO (v:=zB (!f2)) ?_)))
  rcases aH b with ⟨x,b⟩|⟨x,b⟩
  ·exact aX x rfl rfl (aX x rfl rfl (aX x rfl rfl (aX x rfl rfl (aX x rfl rfl (aD (bL (v:=zB true) x rfl rfl) (aO (v:=zB true) (aX (rfl:true=true) rfl rfl (aX (rfl:true=true) rfl rfl (aX (rfl:true=true) rfl rfl (aX (rfl:true=true) rfl rfl (aD (bL (v:=zB true) (rfl:true=true) rfl rfl) (aG ⟨true,b,rfl,rfl,d1⟩))))))))))))
  ·refine bG x rfl rfl (aD (bT (t':=2) fL rfl rfl) (bG x rfl rfl (aD (dS iT d1 (i:=0) rfl rfl rfl) (bG x rfl rfl (aD (bU (len:=t.L.length) bX rfl) (bG x rfl rfl ?_))))))
   obtain ⟨f3,k1,b⟩:=aB b
   refine aS (vs:=[i64 (t.L.length:Int),i64 1,i64 12]) call61 rfl (rS d1 k1) ?_
   rintro _ m5 ⟨rfl,d2⟩
   refine bG x rfl rfl (aD (eJ rfl) (aD (bK (v:=zB (!f3)) x rfl rfl) (aO (v:=zB (!f3)) ?_)))
   rcases aH b with ⟨J,b⟩|⟨J,b⟩
   ·exact aX J rfl rfl (aX J rfl rfl (aX J rfl rfl (aX J rfl rfl (aD (bL (v:=zB true) J rfl rfl) (aG ⟨true,b,rfl,rfl,d2⟩)))))
   ·exact bG J rfl rfl (aD (bT (t':=3) cV rfl rfl) (bG J rfl rfl (aD (dS fH d2 (i:=0) rfl rfl rfl) (bG J rfl rfl (aD (bU (len:=t.E.length) cM rfl) (bG J rfl rfl (aD (kZ rfl rfl) (aD (bK (v:=zB (decide (300 < (t.E.length:Int)))) J rfl rfl) (aG ⟨decide (300 < (t.E.length:Int)),b,rfl,rfl,d2⟩)))))))))
theorem wQ {d:(List Int)} {e R:Int} (q:aI G K (L) w) (k:cX K a1 c2 d) (b:fZ d e=some R):
  Calls Tryz.prog 138 ([zS a1 d.length c2,i64 e]:List Value).toArray w (gK fun v w'=>v=i64 R∧aI G K (L) w'):=by
 refine aW func138 rfl (by kernel_rfl) (by show (2:Nat)≤19;decide) ?_
 unfold fZ at b
 refine aL (aF (v:=i64 0) (aG (aQ (aL (aO (v:=zS a1 d.length c2) (aD (bU (len:=d.length) cF rfl) (aO (v:=i64 0) (aG (bB (fun f w=>gN=some R∧aI G K (L) w) ?_ ?_)))))))))
 ·rintro f w4 ⟨b,r⟩
  unfold gN at b
  refine aA (aL (aF (v:=i64 (-1)) (aG ?_)))
  obtain rfl:=zI b
  exact bM (bP results138 rfl ⟨rfl,r⟩)
 obtain ⟨a3,x,b⟩:=aB b
 refine cE x (fun (c:Int) f w=>f 0=zS a1 d.length c2∧f 1=i64 e∧f 7=i64 (d.length:Int)∧f 8=i64 c∧aI G K (L) w) ?_ ?_
 ·exact ⟨rfl,rfl,rfl,rfl,q⟩
 ·rintro c y f a4 a l ⟨m,n,o,h,g⟩
  replace a:eK d e c=some y:=a
  unfold eK at a
  refine aL (aD (cL h o) (aG (aQ ?_)))
  rcases aH a with ⟨i,a⟩|⟨i,a⟩
  ·refine aM i rfl (bA (aA (aQ (cY (aL (aN h (aF (v:=i64 c) (aG (aL (aN n (aN m (aO (v:=i64 c) ?_))))))))))))
   obtain ⟨a5,p,a⟩:=aB a
   refine aD (dI cF rfl k rfl rfl rfl p) ?_
   obtain ⟨a6,z,J⟩:=cX.el (sz:=1) rfl k p
   cases J
   refine aD (bH (t:=0) cK g z rfl rfl) (aD (gE rfl rfl) (aG ?_))
   rcases aH a with ⟨j,a⟩|⟨j,a⟩
   ·refine aM j rfl (aL (aO (v:=i64 c) (aF (v:=i64 c) (aG (bM (bV (aV (aV ?_))))))))
    have V:=l _ (zI a).symm
    subst V
    have b:(some c)=some R:=b
    obtain rfl:=zI b
    exact bV (aV (aV (bP results138 rfl ⟨rfl,g⟩)))
   ·exact aJ j rfl (bA (bC (aA (aP (aD (cP h rfl) (aO (v:=i64 (wr (c+1))) (aG ⟨wr (c+1),(zI a).symm,m,n,o,rfl,g⟩)))))))
  ·refine aJ i rfl (cA (aT (aT ?_)))
   have a0:=l _ (zI a).symm
   subst a0
   have b:(gN)=some R:=b
   exact bJ (aA ⟨b,g⟩)
theorem lC {a:(List Int)} {b:Int} {R:Bool} (d:aI G K (L) w) (e:cX K a1 c2 a) (c:eL a b=some R):
  Calls Tryz.prog 105 ([zS a1 a.length c2,i64 b]:List Value).toArray w (gK fun v w'=>v=zB R∧aI G K (L) w'):=by
 refine aW func105 rfl (by kernel_rfl) (by show (2:Nat)≤9;decide) ?_
 unfold eL at c
 refine aL (aF (v:=zB false) (aG (aL (aO (v:=zS a1 a.length c2) (aO (v:=i64 b) ?_)))))
 obtain ⟨g,h,c⟩:=aB c
 refine aS (vs:=[zS a1 a.length c2,i64 b]) call138 rfl (wQ d e h) ?_
 rintro _ k ⟨rfl,i⟩
 refine aD (zV rfl rfl) (aF (v:=zB (decide (0≤g))) (aG ?_))
 obtain rfl:=zI c
 exact bM (bP results105 rfl ⟨rfl,i⟩)
theorem uW {c R:(List Int)} (hs:aI G K (aK 2 K a1 c2 c::L) w) (d:eA c=some R):
  Calls Tryz.prog 137 ([zS a1 c.length c2]:List Value).toArray w (gK fun v w'=>∃ (b9:Option Addr) (c0:Nat),v=zS b9 R.length c0∧aI G K (aK 2 K b9 c0 R::L) w'):=by
 refine aW func137 rfl (by kernel_rfl) (by show (1:Nat)≤61;decide) ?_
 unfold eA at d
 refine aL (aF (v:=zS none 0 0) (aG (aQ (aL (aO (v:=zS a1 c.length c2) (aD (bU (len:=c.length) cF rfl) (aD (cL rfl rfl) (aG ?_))))))))
 rcases aH d with ⟨c3,d⟩|⟨c3,d⟩
 ·refine aM c3 rfl (aL (aO (v:=zS a1 c.length c2) (aF (v:=zS a1 c.length c2) (aG ?_))))
  obtain rfl:=zI d
  exact bM (aV (bP results137 rfl ⟨a1,c2,rfl,hs⟩))
 ·refine aJ c3 rfl (bA (aA (aQ (aL (aF (v:=i64 1) (aG (bB (fun f w=>gA c=some R∧f 0=zS a1 c.length c2∧aI G K (aK 2 K a1 c2 c::L) w) ?_ ?_)))))))
  ·rintro f w6 ⟨d,e5,e4⟩
   unfold gA at d
   refine aA (aL (aN e5 (aF (v:=zS a1 c.length c2) (aG ?_))))
   obtain rfl:=zI d
   exact bM (bP results137 rfl ⟨a1,c2,rfl,e4⟩)
  obtain ⟨h1,e7,d⟩:=aB d
  refine cE e7 (fun (j:Int) f w=>f 0=zS a1 c.length c2∧f 3=i64 j∧aI G K (aK 2 K a1 c2 c::L) w) ?_ ?_
  ·exact ⟨rfl,rfl,hs⟩
  ·rintro j z f h2 a c1 ⟨m,p,e⟩
   replace a:eF c j=some z:=a
   unfold eF at a
   refine aQ (aL (aN p (aN m (aD (bU (len:=c.length) cF rfl) (aD (cL rfl rfl) (aG ?_))))))
   rcases aH a with ⟨a7,a⟩|⟨a7,a⟩
   ·refine aM a7 rfl (bA (aA (aQ (bB (fun f w=>gB j=some z∧f 0=zS a1 c.length c2∧f 3=i64 j∧aI G K (aK 2 K a1 c2 c::L) w) ?_ ?_))))
    ·rintro f h3 ⟨a,e8,e9,f0⟩
     unfold gB at a
     exact aA (aP (aN e9 (aD (cP rfl rfl) (aF (v:=i64 (wr (j+1))) (aG ⟨wr (j+1),(zI a).symm,e8,rfl,f0⟩)))))
    refine aQ (eR (C:=fun w'=>aI G K (aK 2 K a1 c2 c::L) w') bZ (by kernel_rfl) (aI.mono e (eC.drew _)) (bF (fun _ e=>bE m) (bF (fun _ e=>bE p) ?_)))
    obtain ⟨h4,a8,a⟩:=aB a
    have q:=dA e (i:=0) rfl a8
    refine bF (fun _ e=>dT cF rfl q rfl rfl rfl a8) (bF (fun _ e=>gP (t:=0) cK e (i:=0) rfl a8 rfl rfl rfl) (bF (fun _ e=>bE m) (bF (fun _ e=>bE p) (bF (fun _ e=>kH rfl rfl) ?_))))
    obtain ⟨h5,c4,a⟩:=aB a
    refine bF (fun _ e=>dT cF rfl q rfl rfl rfl c4) (bF (fun _ e=>gP (t:=0) cK e (i:=0) rfl c4 rfl rfl rfl) (bF (fun _ e=>gE rfl rfl) (fE (fun h6 a9=>(aA ?_)))))
    rcases aH a with ⟨c45,a⟩|⟨c45,a⟩
    ·refine aM c45 rfl (aL (aN m (aN p ?_)))
     obtain ⟨x,J,a⟩:=aB a
     have V:=rV a9 (i:=0) rfl
     obtain ⟨b0,b1,Z⟩:=Cut.ex 1 a1 c2 j
     refine aD (aBm cF V Z rfl rfl rfl J) (aF (v:=zS b0 x.length b1) (aG (aQ (aL (aF (v:=i64 1) (aG (bB (fun f w=>∃ (a0:List Int) (a2:Int),fB a0 a2=some z∧f 0=zS a1 a0.length c2∧f 3=i64 a2∧aI G K (aK 2 K a1 c2 a0::L) w) ?_ ?_)))))))
     ·rintro f h7 ⟨a0,a2,a,c5,c6,c7⟩
      unfold fB at a
      refine aA (aL (aN c5 (aN c6 ?_)))
      obtain ⟨h8,f1,a⟩:=aB a
      have f2:=rV c7 (i:=0) rfl
      obtain ⟨h9,i0,c8⟩:=Cut.ex 1 a1 c2 a2
      refine aD (aBm cF f2 c8 rfl rfl rfl f1) ?_
      obtain ⟨c9,d0,a⟩:=aB a
      refine aGF cF jC rfl c7 (i:=0) rfl c8 rfl rfl d0 (fun d1 (d2:aI G K (aK 2 K a1 c2 c9::L) d1)=>(aG (aL (aN (v:=zS a1 c9.length c2) (Eq.trans c5 (congrArg (fun n=>zS a1 n c2) (aKC d0))) (aN c6 ?_)))))
      obtain ⟨b2,d3,a⟩:=aB a
      have f3:=rV d2 (i:=0) rfl
      obtain ⟨b3,b4,d4⟩:=Cut.ex 1 a1 c2 0
      refine aD (aIs cF f3 d4 rfl rfl rfl d3) (aF (v:=zS b3 b2.length b4) (aG (bM (bV (aV (aV (aV ?_)))))))
      have f4:=c1 _ (zI a).symm
      subst f4
      have d:(some b2)=some R:=d
      have f5:aI G K (aK 2 K b3 b4 b2::L) d1:=aI.cutP d2 (i:=0) rfl d3 d4
      obtain rfl:=zI d
      exact bV (aV (aV (bP results137 rfl ⟨b3,b4,rfl,f5⟩)))
     obtain ⟨i1,f7,a⟩:=aB a
     refine cE f7 (fun (s:(List Int × Int × Int)) f w=>match s with|(k,l,o)=>f 0=zS a1 k.length c2∧f 3=i64 l∧f 4=zS b0 x.length b1∧f 5=i64 o∧aI G K (aK 2 K a1 c2 k::L) w) ?_ ?_
     ·exact ⟨m,p,rfl,rfl,a9⟩
     ·rintro ⟨k,l,o⟩ d5 f i2 b f8 ⟨a3,a4,r,u,g⟩
      replace b:eE j x k l o=some d5:=b
      unfold eE at b
      refine aQ (aL (aN u (aN r (aD (bU (len:=x.length) cF rfl) (aD (cL rfl rfl) (aG ?_))))))
      rcases aH b with ⟨b5,b⟩|⟨b5,b⟩
      ·refine aM b5 rfl (bA (aA (aQ (bB (fun f w=>∃ (y:List Int) (a5:Int),fC o y a5=some d5∧f 0=zS a1 y.length c2∧f 3=i64 a5∧f 4=zS b0 x.length b1∧f 5=i64 o∧aI G K (aK 2 K a1 c2 y::L) w) ?_ ?_))))
       ·rintro f i3 ⟨y,a5,b,f9,g0,g1,g2,g3⟩
        unfold fC at b
        exact aA (aP (aN g2 (aD (cP rfl rfl) (aF (v:=i64 (wr (o+1))) (aG ⟨(y,a5,wr (o+1)),(zI b).symm,f9,g0,g1,rfl,g3⟩)))))
       refine aQ (eR (C:=fun w'=>aI G K (aK 2 K a1 c2 k::L) w') bZ (by kernel_rfl) (aI.mono g (eC.drew _)) (bF (fun _ g=>bE r) (bF (fun _ g=>bE u) ?_)))
       obtain ⟨i4,d6,b⟩:=aB b
       obtain ⟨d7,d8,b⟩:=aB b
       refine bF (fun _ g=>aGe cF q Z J V rfl rfl rfl d6 rfl) (bF (fun _ g=>gP (t:=0) cK g (i:=0) rfl d8 rfl rfl rfl) (bF (fun _ g=>bE r) (bF (fun _ g=>bE u) (bF (fun _ g=>kH rfl rfl) ?_))))
       obtain ⟨i5,g4,b⟩:=aB b
       obtain ⟨i6,g5,b⟩:=aB b
       refine bF (fun _ g=>aGe cF q Z J V rfl rfl rfl g4 rfl) (bF (fun _ g=>gP (t:=0) cK g (i:=0) rfl g5 rfl rfl rfl) (bF (fun _ g=>aBw rfl rfl) (fE (fun i7 b6=>(aA ?_)))))
       rcases aH b with ⟨b7,b⟩|⟨b7,b⟩
       ·refine aM b7 rfl (aL (aN a3 (aN a4 (aN r (aN u (aD (aGe cF q Z J V rfl rfl rfl d6 rfl) (aD (gP (t:=0) cK b6 (i:=0) rfl d8 rfl rfl rfl) ?_)))))))
        obtain ⟨i8,d9,b⟩:=aB b
        refine aD (dT cF rfl q rfl rfl rfl d9) ?_
        obtain ⟨e0,e1,b⟩:=aB b
        exact nG (i:=0) (t:=0) (ns:=[i64 d7]) (e':=(d7:Int)) sizeOf2 b6 rfl (zR _) rfl rfl rfl d9 e1 rfl rfl (dE rfl) rfl (fun cs h=>by cases h;rfl) (fun g6 (g7:aI G K (aK 2 K a1 c2 e0::L) g6)=>(aG (aP (aN a4 (aD (cP rfl rfl) (aF (v:=i64 (wr (l+1))) (aZ (bC (aA ⟨e0,wr (l+1),b,(Eq.trans a3 (congrArg (fun n=>zS a1 n c2) (lE e1))),rfl,r,u,g7⟩)))))))))
       ·exact aJ b7 rfl (bA (bC (aA ⟨k,l,b,a3,a4,r,u,b6⟩)))
      ·refine aJ b5 rfl (cA (aT (aT ?_)))
       have g8:=f8 _ (zI b).symm
       subst g8
       have a:(fB k l)=some z:=a
       exact bJ (aA ⟨k,l,a,a3,a4,g⟩)
    ·exact aJ c45 rfl (bA (bC (aA ⟨a,m,p,a9⟩)))
   ·refine aJ a7 rfl (cA (aT (aT ?_)))
    have g9:=c1 _ (zI a).symm
    subst g9
    have d:(gA c)=some R:=d
    exact bJ (aA ⟨d,m,e⟩)
theorem zJ {t:cG} {o:(List Int)} {p:aU} {R:(List Int)} (hs:aI G K (L) w) (h3:cX K a1 c2 t.L) (h6:cX K a4 c5 t.E) (h9:cX K a7 c8 o) (c:jN t o p=some R):
  Calls Tryz.prog 104 ([zA (zCa t a1 c2 a4 c5),zS a7 o.length c8,str p]:List Value).toArray w (gK fun v w'=>∃ (c1:Option Addr) (c3:Nat),v=zS c1 R.length c3∧aI G K (aK 2 K c1 c3 R::L) w'):=by
 let q:=(zC t a1 c2 a4 c5)
 refine aW func104 rfl (by kernel_rfl) (by show (3:Nat)≤41;decide) ?_
 unfold jN at c
 refine aL (iI (v:=zA (zCa t a1 c2 a4 c5)) (vs:=q) hs rfl rfl (fun j i3 c4=>(aF (v:=zS none 0 0) (aG (aL (aF (v:=zS none 0 0) (aG (aQ (aL (aD (bT (t':=3) cV rfl rfl) (aD (dS fH c4 (i:=0) rfl rfl rfl) (aD (bU (len:=t.E.length) cM rfl) (aO (v:=i64 0) (aG (bB (fun f w=>∃ (y:List Int) (r:Option Addr) (u:Nat),lL y=some R∧f 7=zS r y.length u∧aI G K (aK 2 K r u y::L) w) ?_ ?_)))))))))))))))
 ·rintro f i4 ⟨y,r,u,c,c6,e4⟩
  unfold lL at c
  refine aA (aL (aN c6 ?_))
  obtain ⟨c7,e5,c⟩:=aB c
  refine aS (vs:=[zS r y.length u]) call106 rfl (aHp e4 e5) ?_
  rintro _ i5 ⟨rfl,e6,e7⟩
  refine aG (aL (aN (v:=zS r c7.length u) (Eq.trans c6 (congrArg (fun n=>zS r n u) e6)) ?_))
  obtain ⟨e8,e9,c⟩:=aB c
  refine aS (vs:=[zS r c7.length u]) call137 rfl (uW e7 e9) ?_
  rintro _ i6 ⟨c9,d0,rfl,f0⟩
  refine aF (v:=zS c9 e8.length d0) (aG ?_)
  obtain rfl:=zI c
  exact bM (bP results104 rfl ⟨c9,d0,rfl,f0⟩)
 have f2:=aI.nil (α:=Int) c4 2 K
 obtain ⟨i7,f3,c⟩:=aB c
 refine cE f3 (fun (s:(List Int × Int)) f w=>match s with|(d,k)=>∃ (l:Option Addr) (m:Nat),f 1=zS a7 o.length c8∧f 2=str p∧f 3=zP (some ⟨j,0,none⟩)∧f 7=zS l d.length m∧f 11=zS a4 t.E.length c5∧f 12=i64 (t.E.length:Int)∧f 13=i64 k∧aI G K (aK 2 K l m d::box j 27 q::L) w) ?_ ?_
 ·exact ⟨none,0,rfl,rfl,rfl,rfl,rfl,rfl,rfl,f2⟩
 ·rintro ⟨d,k⟩ a2 f i8 a f4 ⟨l,m,a3,a5,a6,a8,a9,b0,V,b1⟩
  replace a:fT t o p d k=some a2:=a
  unfold fT at a
  refine aL (aD (cL V b0) (aG (aQ ?_)))
  rcases aH a with ⟨b2,a⟩|⟨b2,a⟩
  ·refine aM b2 rfl (bA (aA (aQ (bB (fun f w=>∃ (z:List Int) (Z:Option Addr) (a0:Nat),lM k z=some a2∧f 1=zS a7 o.length c8∧f 2=str p∧f 3=zP (some ⟨j,0,none⟩)∧f 7=zS Z z.length a0∧f 11=zS a4 t.E.length c5∧f 12=i64 (t.E.length:Int)∧f 13=i64 k∧aI G K (aK 2 K Z a0 z::box j 27 q::L) w) ?_ ?_))))
   ·rintro f i9 ⟨z,Z,a0,a,f5,f6,f7,f8,f9,g0,g1,g2⟩
    unfold lM at a
    exact aA (aP (aD (cP g1 rfl) (aO (v:=i64 (wr (k+1))) (aG ⟨(z,wr (k+1)),(zI a).symm,Z,a0,f5,f6,f7,f8,f9,g0,rfl,g2⟩))))
   refine aL ?_
   obtain ⟨b,d1,a⟩:=aB a
   refine aD (dI cM rfl h6 a9 rfl V d1) ?_
   obtain ⟨j0,g3,g4⟩:=cX.el (sz:=3) rfl h6 d1
   cases g4
   refine aD (gT (t:=0) (vs:=[i64 b.F,i64 b.B,i64 b.To]) mQ b1 g3 rfl rfl rfl) (bW (vs:=[i64 0,i64 0,i64 0]) zeroValue69 b1 rfl (fun J j1 g5=>(bY (i:=0) (ns:=[i64 b.F,i64 b.B,i64 b.To]) (us:=[i64 b.F,i64 b.B,i64 b.To]) sizeOf69 g5 rfl rfl rfl rfl rfl (dE rfl) rfl rfl (fun g6 (x:aI G K (box J 69 [i64 b.F,i64 b.B,i64 b.To]::aK 2 K l m d::box j 27 q::L) g6)=>(aG (aQ (cN (fun f w=>∃ (b3:Bool),lN d k b b3=some a2∧f 1=zS a7 o.length c8∧f 2=str p∧f 3=zP (some ⟨j,0,none⟩)∧f 7=zS l d.length m∧f 9=zP (some ⟨J,0,none⟩)∧f 11=zS a4 t.E.length c5∧f 12=i64 (t.E.length:Int)∧f 13=i64 k∧f 30=zB b3∧aI G K (box J 69 [i64 b.F,i64 b.B,i64 b.To]::aK 2 K l m d::box j 27 q::L) w) ?_ ?_)))))))
   ·rintro f j2 ⟨b3,a,d2,d3,d4,d5,g7,d6,d7,d8,d9,b4⟩
    unfold lN at a
    refine aA ?_
    rcases aH a with ⟨b5,a⟩|⟨b5,a⟩
    ·refine aM b5 d9 (aP (aN d5 (aD (bT (t':=2) gR g7 rfl) (aD (dS cK b4 (i:=0) rfl rfl rfl) (bR (Kt:=K) (xs:=([b.To]:List Int)) (cs:=[i64 b.To]) (vs:=[(0,i64 b.To)]) cF jC rfl rfl b4 rfl (by kernel_rfl) rfl rfl rfl ⟨rfl,trivial⟩ (fun g8 g9 (h0:aI G K (aK 2 K g8 1 ([b.To]:List Int)::box J 69 [i64 b.F,i64 b.B,i64 b.To]::aK 2 K l m d::box j 27 q::L) g9)=>?_))))))
     obtain ⟨b6,h1,a⟩:=aB a
     exact dG (i:=1) cF underlying35 jC rfl rfl h0 rfl (zR _) (zR _) h1 rfl rfl rfl rfl (fun _ h=>h) (fun b7 b8 h2 (h4:aI G K (box J 69 [i64 b.F,i64 b.B,i64 b.To]::aK 2 K b7 b8 b6::box j 27 q::L) h2)=>(aF (v:=zS b7 b6.length b8) (aZ (bC (aA ⟨b6,b7,b8,a,d2,d3,d4,rfl,d6,d7,d8,(aI.arr 1 [] h4 rfl)⟩)))))
    ·exact aJ b5 d9 (bA (bC (aA ⟨d,l,m,a,d2,d3,d4,d5,d6,d7,d8,(aI.arr 1 [] b4 rfl)⟩)))
   refine aP (aD (bT (t':=2) fL a6 rfl) (aD (dS iT x (i:=2) rfl rfl rfl) (aD (bT (t':=1) iZ rfl rfl) (aD (dS cK x (i:=0) rfl rfl rfl) ?_))))
   obtain ⟨h5,e0,a⟩:=aB a
   refine aD (dI bX rfl h3 rfl rfl rfl e0) ?_
   obtain ⟨j3,h7,h8⟩:=cX.el (sz:=1) rfl h3 e0
   cases h8
   refine aD (bH (t:=0) qB x h7 rfl rfl) (aN a5 (aD (zX rfl rfl) (aO (v:=zB (h5 == p)) ?_)))
   rcases aH a with ⟨e,a⟩|⟨e,a⟩
   ·refine bD e rfl rfl (aN a3 (bD e rfl rfl (aD (bT (t':=0) hQ rfl rfl) (bD e rfl rfl (aD (dS cK x (i:=0) rfl rfl rfl) (bD e rfl rfl ?_))))))
    obtain ⟨e1,i0,a⟩:=aB a
    refine aS (vs:=[zS a7 o.length c8,i64 b.F]) call105 rfl (lC x h9 i0) ?_
    rintro _ j4 ⟨rfl,i1⟩
    exact aD (bL (v:=zB e1) e rfl rfl) (aG ⟨e1,a,a3,a5,a6,a8,rfl,a9,b0,V,rfl,i1⟩)
   ·exact aR e rfl rfl (aR e rfl rfl (aR e rfl rfl (aR e rfl rfl (aD (bK (v:=zB false) e rfl rfl) (aG ⟨false,a,a3,a5,a6,a8,rfl,a9,b0,V,rfl,x⟩)))))
  ·refine aJ b2 rfl (cA (aT (aT ?_)))
   have i2:=f4 _ (zI a).symm
   subst i2
   have c:(lL d)=some R:=c
   exact bJ (aA ⟨d,l,m,c,a8,(aI.arr 2 [0] b1 rfl)⟩)
theorem wR {b R:(List Int)} (e:aI G K (L) w) (g:cX K a1 c2 b) (a:iH b=some R):
  Calls Tryz.prog 103 ([zS a1 b.length c2]:List Value).toArray w (gK fun v w'=>∃ (h:Option Addr) (j:Nat),v=zS h R.length j∧aI G K (aK 2 K h j R::L) w'):=by
 refine aW func103 rfl (by kernel_rfl) (by show (1:Nat)≤8;decide) ?_
 unfold iH at a
 refine aL (aF (v:=zS none 0 0) (aG (aQ (aL (aO (v:=zS a1 b.length c2) (aD (R_isNil cF rfl rfl) (aG ?_)))))))
 rcases aKd g with ⟨l,m,n⟩|o
 ·subst l;subst m;subst n
  refine aLq rfl ?_
  replace a:(some [])=some R:=a
  refine aL (aF (v:=zS none 0 0) (aG ?_))
  have p:=aI.nil (α:=Int) e 2 K
  obtain rfl:=zI a
  exact bM (aV (bP results103 rfl ⟨none,0,rfl,p⟩))
 ·refine aLr (Eq.trans rfl (congrArg zB o)) (bA (aA (aL (bR (Kt:=K) (xs:=([]:List Int)) (cs:=[]) (vs:=[]) cF jC rfl rfl e rfl (by kernel_rfl) rfl rfl rfl trivial (fun r t (u:aI G K (aK 2 K r 0 ([]:List Int)::L) t)=>(aO (v:=zS a1 b.length c2) ?_))))))
  obtain ⟨k,x,a⟩:=aB a
  refine lW (i:=0) cF underlying35 jC rfl rfl u rfl (zR _) g x rfl rfl rfl rfl (fun c d y (z:aI G K (aK 2 K c d k::L) y)=>(aF (v:=zS c k.length d) (aG ?_)))
  obtain rfl:=zI a
  exact bM (bP results103 rfl ⟨c,d,rfl,z⟩)
theorem uX {t:cG} {z R:(List Int)} (hs:aI G K (L) w) (h3:cX K a1 c2 t.L) (h6:cX K a4 c5 t.E) (h9:cX K a7 c8 z) (c:jP t z=some R):
  Calls Tryz.prog 68 ([zA (zCa t a1 c2 a4 c5),zS a7 z.length c8]:List Value).toArray w (gK fun v w'=>∃ (d6:Option Addr) (d7:Nat),v=zS d6 R.length d7∧aI G K (aK 2 K d6 d7 R::L) w'):=by
 let j:=(zC t a1 c2 a4 c5)
 refine aW func68 rfl (by kernel_rfl) (by show (2:Nat)≤41;decide) ?_
 unfold jP at c
 refine aL (iI (v:=zA (zCa t a1 c2 a4 c5)) (vs:=j) hs rfl rfl (fun d l8 f7=>(aF (v:=zS none 0 0) (aG (aL (aO (v:=zS a7 z.length c8) ?_))))))
 obtain ⟨f8,f9,c⟩:=aB c
 refine aS (vs:=[zS a7 z.length c8]) call103 rfl (wR f7 h9 f9) ?_
 rintro _ l9 ⟨d8,d9,rfl,g0⟩
 refine aF (v:=zS d8 f8.length d9) (aG (aQ (aL (aF (v:=i64 0) (aG (bB (fun f w=>∃ (J:List Int) (l:Option Addr) (m:Nat),nZ J=some R∧f 5=zS l J.length m∧aI G K (aK 2 K l m J::L) w) ?_ ?_))))))
 ·rintro f m0 ⟨J,l,m,c,e0,g1⟩
  unfold nZ at c
  refine aA (aL (aN e0 ?_))
  obtain ⟨e1,g2,c⟩:=aB c
  refine aS (vs:=[zS l J.length m]) call106 rfl (aHp g1 g2) ?_
  rintro _ m1 ⟨rfl,g3,g4⟩
  refine aG (aL (aN (v:=zS l e1.length m) (Eq.trans e0 (congrArg (fun n=>zS l n m) g3)) (aF (v:=zS l e1.length m) (aG ?_))))
  obtain rfl:=zI c
  exact bM (bP results68 rfl ⟨l,m,rfl,g4⟩)
 obtain ⟨m2,g6,c⟩:=aB c
 refine cE g6 (fun (s:(List Int × Int)) f w=>match s with|(p,e)=>∃ (V:Option Addr) (c48:Nat),f 2=zP (some ⟨d,0,none⟩)∧f 5=zS V p.length c48∧f 6=i64 e∧aI G K (aK 2 K V c48 p::box d 27 j::L) w) ?_ ?_
 ·exact ⟨d8,d9,rfl,rfl,rfl,g0⟩
 ·rintro ⟨p,e⟩ a8 f m3 a g7 ⟨V,c48,e2,a9,b9,e3⟩
  replace a:lB t p e=some a8:=a
  unfold lB at a
  refine aQ (aL (aN b9 (aN a9 (aD (bU (len:=p.length) cF rfl) (aD (cL rfl rfl) (aG ?_))))))
  rcases aH a with ⟨c0,a⟩|⟨c0,a⟩
  ·refine aM c0 rfl (bA (aA (aQ (bB (fun f w=>∃ (Z:List Int) (b0:Option Addr) (b1:Nat),rY e Z=some a8∧f 2=zP (some ⟨d,0,none⟩)∧f 5=zS b0 Z.length b1∧f 6=i64 e∧aI G K (aK 2 K b0 b1 Z::box d 27 j::L) w) ?_ ?_))))
   ·rintro f m4 ⟨Z,b0,b1,a,g8,g9,h0,h1⟩
    unfold rY at a
    exact aA (aP (aN h0 (aD (cP rfl rfl) (aF (v:=i64 (wr (e+1))) (aG ⟨(Z,wr (e+1)),(zI a).symm,b0,b1,g8,g9,rfl,h1⟩)))))
   refine aQ ?_
   obtain ⟨m5,c1,e4,h2,h4⟩:=aI.lendS (i:=0) e3 (zR _) rfl
   obtain ⟨e5,a0,h5,e6,h7⟩:=aI.lendB (i:=0) h2 rfl
   refine fK (C:=fun w'=>∃ L',aI G e5 L' w') [(0,0),(1,0),(2,0),(3,0),(4,0),(8,0),(5,1),(6,1),(7,0)] bZ (by kernel_rfl) (fun _ hg=>⟨_,aI.mono e6 hg⟩) (fun m6 h8=>?_)
   have a2:=aI.mono e6 h8
   refine bS rfl (fun _ ⟨_,a2⟩=>gT (t:=0) (vs:=j) dJ a2 h5 e2 rfl rfl) (bS rfl (fun _ _=>bE a9) (bS rfl (fun _ _=>bE b9) ?_))
   obtain ⟨a3,c3,a⟩:=aB a
   have i0:=aGc (e4.mono a0) c3
   refine bS rfl (fun _ _=>dT cF rfl i0 rfl rfl rfl c3) ?_
   obtain ⟨m7,i1,i2⟩:=cX.el (sz:=1) rfl (e4.mono a0) c3
   cases i2
   refine bS rfl (fun _ ⟨_,a2⟩=>bH (t:=0) cK a2 i1 rfl rfl) (bS rfl (fun _ _=>bE (v:=i64 0) rfl) (kY rfl (bR (Kt:=K) (xs:=([a3]:List Int)) (cs:=[i64 a3]) (vs:=[(0,i64 a3)]) cF jC rfl rfl a2 rfl (by kernel_rfl) rfl rfl rfl ⟨rfl,trivial⟩ (fun e7 i3 (e8:aI G e5 (aK 2 K e7 1 ([a3]:List Int)::L) i3)=>(aZ (aA ⟨⟨_,e8⟩,?_⟩))))))
   refine kY rfl ?_
   obtain ⟨m8,e9,i4,i5,i6⟩:=aI.lendS (i:=0) e8 (zL c1 a0) rfl
   obtain ⟨g,i7,a⟩:=aB a
   refine aS (vs:=[zA (zCa t a1 c2 a4 c5),zS e7 ([a3]:List Int).length 1,str ([116,97,117]:aU)]) call104 rfl (zJ i5 (h3.mono (zL (zL c1 a0) e9)) (h6.mono (zL (zL c1 a0) e9)) i4 i7) ?_
   rintro _ m9 ⟨x,y,rfl,i8⟩
   have f0:=i6 _ _ i8
   refine aZ (aA ⟨⟨_,f0⟩,?_⟩)
   refine bS rfl (fun _ _=>bU (len:=g.length) cF rfl) (lF ?_)
   have i9:=h7 _ _ f0
   have j0:=h4 _ _ i9
   refine aA (bB (fun f w=>∃ (a5:List Int) (b2:Option Addr) (b3:Nat),oA e a5=some a8∧f 2=zP (some ⟨d,0,none⟩)∧f 5=zS b2 a5.length b3∧f 6=i64 e∧aI G K (aK 2 K b2 b3 a5::box d 27 j::L) w) ?_ ?_)
   ·rintro f n0 ⟨a5,b2,b3,a,j1,j2,j3,j4⟩
    unfold oA at a
    exact bC (aA ⟨a5,b2,b3,a,j1,j2,j3,j4⟩)
   obtain ⟨n1,j5,a⟩:=aB a
   refine cE j5 (fun (s:(List Int × Int)) f w=>match s with|(k,q)=>∃ (r:Option Addr) (u:Nat),f 2=zP (some ⟨d,0,none⟩)∧f 5=zS r k.length u∧f 6=i64 e∧f 23=zS x g.length y∧f 24=i64 (g.length:Int)∧f 25=i64 q∧aI G K (aK 2 K r u k::box d 27 j::aK 2 K x y g::L) w) ?_ ?_
   ·exact ⟨V,c48,e2,a9,b9,rfl,rfl,rfl,(aI.arr 3 [0,1] j0 rfl)⟩
   ·rintro ⟨k,q⟩ f1 f n2 b j6 ⟨r,u,c4,b4,c6,c7,c9,b5,b6⟩
    replace b:jO g k q=some f1:=b
    unfold jO at b
    refine aL (aD (cL b5 c9) (aG (aQ ?_)))
    rcases aH b with ⟨d0,b⟩|⟨d0,b⟩
    ·refine aM d0 rfl (bA (aA (aQ (bB (fun f w=>∃ (a6:List Int) (b7:Option Addr) (b8:Nat),oB q a6=some f1∧f 2=zP (some ⟨d,0,none⟩)∧f 5=zS b7 a6.length b8∧f 6=i64 e∧f 23=zS x g.length y∧f 24=i64 (g.length:Int)∧f 25=i64 q∧aI G K (aK 2 K b7 b8 a6::box d 27 j::aK 2 K x y g::L) w) ?_ ?_))))
     ·rintro f n3 ⟨a6,b7,b8,b,j7,j8,j9,k0,k1,k2,k3⟩
      unfold oB at b
      exact aA (aP (aD (cP k2 rfl) (aO (v:=i64 (wr (q+1))) (aG ⟨(a6,wr (q+1)),(zI b).symm,b7,b8,j7,j8,j9,k0,k1,rfl,k3⟩))))
     refine aL ?_
     obtain ⟨o,d1,b⟩:=aB b
     have k4:=dA b6 (i:=2) rfl d1
     refine aD (dT cF rfl k4 c7 rfl b5 d1) (aD (gP (t:=0) cK b6 (i:=2) rfl d1 rfl rfl rfl) (aF (v:=i64 o) (aG (aL (aN b4 (aO (v:=i64 o) ?_))))))
     obtain ⟨n4,n5,k5,k6,k7⟩:=aI.lendS (i:=0) b6 (zR _) rfl
     obtain ⟨n6,k8,b⟩:=aB b
     refine aS (vs:=[zS r k.length u,i64 o]) call105 rfl (lC k6 k5 k8) ?_
     rintro _ n7 ⟨rfl,k9⟩
     have f2:=k7 _ _ k9
     refine aD (eJ rfl) (aG ?_)
     rcases aH b with ⟨d2,b⟩|⟨d2,b⟩
     ·refine aM d2 rfl (aP (aN b4 (aO (v:=i64 o) (bR (Kt:=K) (xs:=([o]:List Int)) (cs:=[i64 o]) (vs:=[(0,i64 o)]) cF jC rfl rfl f2 rfl (by kernel_rfl) rfl rfl rfl ⟨rfl,trivial⟩ (fun l0 l1 (l2:aI G K (aK 2 K l0 1 ([o]:List Int)::aK 2 K r u k::box d 27 j::aK 2 K x y g::L) l1)=>?_)))))
      obtain ⟨d3,l3,b⟩:=aB b
      exact dG (i:=0) cF underlying35 jC rfl rfl l2 rfl (zR _) (zR _) l3 rfl rfl rfl rfl (fun _ h=>h) (fun d4 d5 l4 (l5:aI G K (aK 2 K d4 d5 d3::box d 27 j::aK 2 K x y g::L) l4)=>(aF (v:=zS d4 d3.length d5) (aZ (bC (aA ⟨d3,d4,d5,b,c4,rfl,c6,c7,c9,b5,l5⟩)))))
     ·exact aJ d2 rfl (bA (bC (aA ⟨k,r,u,b,c4,b4,c6,c7,c9,b5,f2⟩)))
    ·refine aJ d0 rfl (cA (aT (aT ?_)))
     have l6:=j6 _ (zI b).symm
     subst l6
     have a:(oA e k)=some a8:=a
     exact bJ (aA ⟨k,r,u,a,c4,b4,c6,(aI.arr 3 [0,1] b6 rfl)⟩)
  ·refine aJ c0 rfl (cA (aT (aT ?_)))
   have l7:=g7 _ (zI a).symm
   subst l7
   have c:(nZ p)=some R:=c
   exact bJ (aA ⟨p,V,c48,c,a9,(aI.arr 2 [0] e3 rfl)⟩)
theorem pO {c R:(List Edge)} (hs:aI G K (aK 69 K a1 c2 c::L) w) (d:eH c=some R):
  Calls Tryz.prog 116 ([zS a1 c.length c2]:List Value).toArray w (gK fun v w'=>∃ (c7:Option Addr) (c8:Nat),v=zS c7 R.length c8∧aI G K (aK 69 K c7 c8 R::L) w'):=by
 refine aW func116 rfl (by kernel_rfl) (by show (1:Nat)≤61;decide) ?_
 unfold eH at d
 refine aL (aF (v:=zS none 0 0) (aG (aQ (aL (aO (v:=zS a1 c.length c2) (aD (bU (len:=c.length) cM rfl) (aD (cL rfl rfl) (aG ?_))))))))
 rcases aH d with ⟨c3,d⟩|⟨c3,d⟩
 ·refine aM c3 rfl (aL (aO (v:=zS a1 c.length c2) (aF (v:=zS a1 c.length c2) (aG ?_))))
  obtain rfl:=zI d
  exact bM (aV (bP results116 rfl ⟨a1,c2,rfl,hs⟩))
 ·refine aJ c3 rfl (bA (aA (aQ (aL (aF (v:=i64 1) (aG (bB (fun f w=>eT c=some R∧f 0=zS a1 c.length c2∧aI G K (aK 69 K a1 c2 c::L) w) ?_ ?_)))))))
  ·rintro f w6 ⟨d,e5,f0⟩
   unfold eT at d
   refine aA (aL (aN e5 (aF (v:=zS a1 c.length c2) (aG ?_))))
   obtain rfl:=zI d
   exact bM (bP results116 rfl ⟨a1,c2,rfl,f0⟩)
  obtain ⟨h6,f2,d⟩:=aB d
  refine cE f2 (fun (k:Int) f w=>f 0=zS a1 c.length c2∧f 3=i64 k∧aI G K (aK 69 K a1 c2 c::L) w) ?_ ?_
  ·exact ⟨rfl,rfl,hs⟩
  ·rintro k Z f h7 a c9 ⟨o,q,e⟩
   replace a:dH c k=some Z:=a
   unfold dH at a
   refine aQ (aL (aN q (aN o (aD (bU (len:=c.length) cM rfl) (aD (cL rfl rfl) (aG ?_))))))
   rcases aH a with ⟨b3,a⟩|⟨b3,a⟩
   ·refine aM b3 rfl (bA (aA (aQ (bB (fun f w=>eU k=some Z∧f 0=zS a1 c.length c2∧f 3=i64 k∧aI G K (aK 69 K a1 c2 c::L) w) ?_ ?_))))
    ·rintro f h8 ⟨a,f3,f4,f5⟩
     unfold eU at a
     exact aA (aP (aN f4 (aD (cP rfl rfl) (aF (v:=i64 (wr (k+1))) (aG ⟨wr (k+1),(zI a).symm,f3,rfl,f5⟩)))))
    refine aQ (eR (C:=fun w'=>aI G K (aK 69 K a1 c2 c::L) w') bZ (by kernel_rfl) (aI.mono e (eC.drew _)) (bF (fun _ e=>bE o) (bF (fun _ e=>bE q) ?_)))
    obtain ⟨a0,b4,a⟩:=aB a
    have r:=dA e (i:=0) rfl b4
    refine bF (fun _ e=>dT cM rfl r rfl rfl rfl b4) (bF (fun _ e=>aDU (t:=0) (vs:=[i64 a0.F,i64 a0.B,i64 a0.To]) mQ e (i:=0) rfl b4 rfl rfl rfl rfl) (bF (fun _ e=>bE o) (bF (fun _ e=>bE q) (bF (fun _ e=>kH rfl rfl) ?_))))
    obtain ⟨a2,d0,a⟩:=aB a
    refine bF (fun _ e=>dT cM rfl r rfl rfl rfl d0) (bF (fun _ e=>aDU (t:=0) (vs:=[i64 a2.F,i64 a2.B,i64 a2.To]) mQ e (i:=0) rfl d0 rfl rfl rfl rfl) (bF (fun _ e=>R_eqlG (eq_69 (x:=a0) (y:=a2)) rfl rfl) (fE (fun h9 b5=>(aA ?_)))))
    rcases aH a with ⟨c45,a⟩|⟨c45,a⟩
    ·refine aM c45 rfl (aL (aN o (aN q ?_)))
     obtain ⟨J,a3,a⟩:=aB a
     have a4:=rV b5 (i:=0) rfl
     obtain ⟨b6,b7,a5⟩:=Cut.ex 3 a1 c2 k
     refine aD (aBm cM a4 a5 rfl rfl rfl a3) (aF (v:=zS b6 J.length b7) (aG (aQ (aL (aF (v:=i64 1) (aG (bB (fun f w=>∃ (a6:List Edge) (a7:Int),eV a6 a7=some Z∧f 0=zS a1 a6.length c2∧f 3=i64 a7∧aI G K (aK 69 K a1 c2 a6::L) w) ?_ ?_)))))))
     ·rintro f i0 ⟨a6,a7,a,d1,d2,d3⟩
      unfold eV at a
      refine aA (aL (aN d1 (aN d2 ?_)))
      obtain ⟨i1,f6,a⟩:=aB a
      have f7:=rV d3 (i:=0) rfl
      obtain ⟨i2,i3,d4⟩:=Cut.ex 3 a1 c2 a7
      refine aD (aBm cM f7 d4 rfl rfl rfl f6) ?_
      obtain ⟨d5,d6,a⟩:=aB a
      refine aGF cM gZ rfl d3 (i:=0) rfl d4 rfl rfl d6 (fun d7 (d8:aI G K (aK 69 K a1 c2 d5::L) d7)=>(aG (aL (aN (v:=zS a1 d5.length c2) (Eq.trans d1 (congrArg (fun n=>zS a1 n c2) (aKC d6))) (aN d2 ?_)))))
      obtain ⟨b8,d9,a⟩:=aB a
      have f8:=rV d8 (i:=0) rfl
      obtain ⟨b9,c0,e0⟩:=Cut.ex 3 a1 c2 0
      refine aD (aIs cM f8 e0 rfl rfl rfl d9) (aF (v:=zS b9 b8.length c0) (aG (bM (bV (aV (aV (aV ?_)))))))
      have f9:=c9 _ (zI a).symm
      subst f9
      have d:(some b8)=some R:=d
      have g0:aI G K (aK 69 K b9 c0 b8::L) d7:=aI.cutP d8 (i:=0) rfl d9 e0
      obtain rfl:=zI d
      exact bV (aV (aV (bP results116 rfl ⟨b9,c0,rfl,g0⟩)))
     obtain ⟨i4,g2,a⟩:=aB a
     refine cE g2 (fun (s:(List Edge × Int × Int)) f w=>match s with|(l,m,p)=>f 0=zS a1 l.length c2∧f 3=i64 m∧f 4=zS b6 J.length b7∧f 5=i64 p∧aI G K (aK 69 K a1 c2 l::L) w) ?_ ?_
     ·exact ⟨o,q,rfl,rfl,b5⟩
     ·rintro ⟨l,m,p⟩ e1 f i5 b g3 ⟨a8,a9,u,z,g⟩
      replace b:gC k J l m p=some e1:=b
      unfold gC at b
      refine aQ (aL (aN z (aN u (aD (bU (len:=J.length) cM rfl) (aD (cL rfl rfl) (aG ?_))))))
      rcases aH b with ⟨c1,b⟩|⟨c1,b⟩
      ·refine aM c1 rfl (bA (aA (aQ (bB (fun f w=>∃ (V:List Edge) (b0:Int),eW p V b0=some e1∧f 0=zS a1 V.length c2∧f 3=i64 b0∧f 4=zS b6 J.length b7∧f 5=i64 p∧aI G K (aK 69 K a1 c2 V::L) w) ?_ ?_))))
       ·rintro f i6 ⟨V,b0,b,g4,g5,g6,g7,g8⟩
        unfold eW at b
        exact aA (aP (aN g7 (aD (cP rfl rfl) (aF (v:=i64 (wr (p+1))) (aG ⟨(V,b0,wr (p+1)),(zI b).symm,g4,g5,g6,rfl,g8⟩)))))
       refine aQ (eR (C:=fun w'=>aI G K (aK 69 K a1 c2 l::L) w') bZ (by kernel_rfl) (aI.mono g (eC.drew _)) (bF (fun _ g=>bE u) (bF (fun _ g=>bE z) ?_)))
       obtain ⟨i7,e2,b⟩:=aB b
       obtain ⟨j,e3,b⟩:=aB b
       refine bF (fun _ g=>aGe cM r a5 a3 a4 rfl rfl rfl e2 rfl) (bF (fun _ g=>aDU (t:=0) (vs:=[i64 j.F,i64 j.B,i64 j.To]) mQ g (i:=0) rfl e3 rfl rfl rfl rfl) (bF (fun _ g=>bE u) (bF (fun _ g=>bE z) (bF (fun _ g=>kH rfl rfl) ?_))))
       obtain ⟨i8,g9,b⟩:=aB b
       obtain ⟨b1,h0,b⟩:=aB b
       refine bF (fun _ g=>aGe cM r a5 a3 a4 rfl rfl rfl g9 rfl) (bF (fun _ g=>aDU (t:=0) (vs:=[i64 b1.F,i64 b1.B,i64 b1.To]) mQ g (i:=0) rfl h0 rfl rfl rfl rfl) (bF (fun _ g=>R_neqG (eq_69 (x:=j) (y:=b1)) rfl rfl) (fE (fun i9 c4=>(aA ?_)))))
       rcases aH b with ⟨c5,b⟩|⟨c5,b⟩
       ·refine aM c5 rfl (aL (aN a8 (aN a9 (aN u (aN z (aD (aGe cM r a5 a3 a4 rfl rfl rfl e2 rfl) (aD (aDU (t:=0) (vs:=[i64 j.F,i64 j.B,i64 j.To]) mQ c4 (i:=0) rfl e3 rfl rfl rfl rfl) ?_)))))))
        obtain ⟨j0,e4,b⟩:=aB b
        refine aD (dT cM rfl r rfl rfl rfl e4) ?_
        obtain ⟨e6,e7,b⟩:=aB b
        exact nG (i:=0) (t:=0) (ns:=[i64 j.F,i64 j.B,i64 j.To]) (e':=(⟨j.F,j.B,j.To⟩:Edge)) sizeOf69 c4 rfl (zR _) rfl rfl rfl e4 e7 rfl rfl (dE rfl) rfl (fun cs h=>by cases h;rfl) (fun h1 (h2:aI G K (aK 69 K a1 c2 e6::L) h1)=>(aG (aP (aN a9 (aD (cP rfl rfl) (aF (v:=i64 (wr (m+1))) (aZ (bC (aA ⟨e6,wr (m+1),b,(Eq.trans a8 (congrArg (fun n=>zS a1 n c2) (lE e7))),rfl,u,z,h2⟩)))))))))
       ·exact aJ c5 rfl (bA (bC (aA ⟨l,m,b,a8,a9,u,z,c4⟩)))
      ·refine aJ c1 rfl (cA (aT (aT ?_)))
       have h3:=g3 _ (zI b).symm
       subst h3
       have a:(eV l m)=some Z:=a
       exact bJ (aA ⟨l,m,a,a8,a9,g⟩)
    ·exact aJ c45 rfl (bA (bC (aA ⟨a,o,q,b5⟩)))
   ·refine aJ b3 rfl (cA (aT (aT ?_)))
    have h4:=c9 _ (zI a).symm
    subst h4
    have d:(eT c)=some R:=d
    exact bJ (aA ⟨d,o,e⟩)
theorem tM {c R:(List aU)} (hs:aI G K (aK 9 K a1 c2 c::L) w) (d:fF c=some R):
  Calls Tryz.prog 114 ([zS a1 c.length c2]:List Value).toArray w (gK fun v w'=>∃ (b9:Option Addr) (c0:Nat),v=zS b9 R.length c0∧aI G K (aK 9 K b9 c0 R::L) w'):=by
 refine aW func114 rfl (by kernel_rfl) (by show (1:Nat)≤61;decide) ?_
 unfold fF at d
 refine aL (aF (v:=zS none 0 0) (aG (aQ (aL (aO (v:=zS a1 c.length c2) (aD (bU (len:=c.length) bX rfl) (aD (cL rfl rfl) (aG ?_))))))))
 rcases aH d with ⟨c3,d⟩|⟨c3,d⟩
 ·refine aM c3 rfl (aL (aO (v:=zS a1 c.length c2) (aF (v:=zS a1 c.length c2) (aG ?_))))
  obtain rfl:=zI d
  exact bM (aV (bP results114 rfl ⟨a1,c2,rfl,hs⟩))
 ·refine aJ c3 rfl (bA (aA (aQ (aL (aF (v:=i64 1) (aG (bB (fun f w=>fR c=some R∧f 0=zS a1 c.length c2∧aI G K (aK 9 K a1 c2 c::L) w) ?_ ?_)))))))
  ·rintro f w6 ⟨d,e5,e4⟩
   unfold fR at d
   refine aA (aL (aN e5 (aF (v:=zS a1 c.length c2) (aG ?_))))
   obtain rfl:=zI d
   exact bM (bP results114 rfl ⟨a1,c2,rfl,e4⟩)
  obtain ⟨h1,e7,d⟩:=aB d
  refine cE e7 (fun (j:Int) f w=>f 0=zS a1 c.length c2∧f 3=i64 j∧aI G K (aK 9 K a1 c2 c::L) w) ?_ ?_
  ·exact ⟨rfl,rfl,hs⟩
  ·rintro j z f h2 a c1 ⟨m,p,e⟩
   replace a:dY c j=some z:=a
   unfold dY at a
   refine aQ (aL (aN p (aN m (aD (bU (len:=c.length) bX rfl) (aD (cL rfl rfl) (aG ?_))))))
   rcases aH a with ⟨a7,a⟩|⟨a7,a⟩
   ·refine aM a7 rfl (bA (aA (aQ (bB (fun f w=>fS j=some z∧f 0=zS a1 c.length c2∧f 3=i64 j∧aI G K (aK 9 K a1 c2 c::L) w) ?_ ?_))))
    ·rintro f h3 ⟨a,e8,e9,f0⟩
     unfold fS at a
     exact aA (aP (aN e9 (aD (cP rfl rfl) (aF (v:=i64 (wr (j+1))) (aG ⟨wr (j+1),(zI a).symm,e8,rfl,f0⟩)))))
    refine aQ (eR (C:=fun w'=>aI G K (aK 9 K a1 c2 c::L) w') bZ (by kernel_rfl) (aI.mono e (eC.drew _)) (bF (fun _ e=>bE m) (bF (fun _ e=>bE p) ?_)))
    obtain ⟨h4,a8,a⟩:=aB a
    have q:=dA e (i:=0) rfl a8
    refine bF (fun _ e=>dT bX rfl q rfl rfl rfl a8) (bF (fun _ e=>gP (t:=0) qB e (i:=0) rfl a8 rfl rfl rfl) (bF (fun _ e=>bE m) (bF (fun _ e=>bE p) (bF (fun _ e=>kH rfl rfl) ?_))))
    obtain ⟨h5,c4,a⟩:=aB a
    refine bF (fun _ e=>dT bX rfl q rfl rfl rfl c4) (bF (fun _ e=>gP (t:=0) qB e (i:=0) rfl c4 rfl rfl rfl) (bF (fun _ e=>zX rfl rfl) (fE (fun h6 a9=>(aA ?_)))))
    rcases aH a with ⟨c45,a⟩|⟨c45,a⟩
    ·refine aM c45 rfl (aL (aN m (aN p ?_)))
     obtain ⟨x,J,a⟩:=aB a
     have V:=rV a9 (i:=0) rfl
     obtain ⟨b0,b1,Z⟩:=Cut.ex 1 a1 c2 j
     refine aD (aBm bX V Z rfl rfl rfl J) (aF (v:=zS b0 x.length b1) (aG (aQ (aL (aF (v:=i64 1) (aG (bB (fun f w=>∃ (a0:List aU) (a2:Int),eO a0 a2=some z∧f 0=zS a1 a0.length c2∧f 3=i64 a2∧aI G K (aK 9 K a1 c2 a0::L) w) ?_ ?_)))))))
     ·rintro f h7 ⟨a0,a2,a,c5,c6,c7⟩
      unfold eO at a
      refine aA (aL (aN c5 (aN c6 ?_)))
      obtain ⟨h8,f1,a⟩:=aB a
      have f2:=rV c7 (i:=0) rfl
      obtain ⟨h9,i0,c8⟩:=Cut.ex 1 a1 c2 a2
      refine aD (aBm bX f2 c8 rfl rfl rfl f1) ?_
      obtain ⟨c9,d0,a⟩:=aB a
      refine aGF bX gJ rfl c7 (i:=0) rfl c8 rfl rfl d0 (fun d1 (d2:aI G K (aK 9 K a1 c2 c9::L) d1)=>(aG (aL (aN (v:=zS a1 c9.length c2) (Eq.trans c5 (congrArg (fun n=>zS a1 n c2) (aKC d0))) (aN c6 ?_)))))
      obtain ⟨b2,d3,a⟩:=aB a
      have f3:=rV d2 (i:=0) rfl
      obtain ⟨b3,b4,d4⟩:=Cut.ex 1 a1 c2 0
      refine aD (aIs bX f3 d4 rfl rfl rfl d3) (aF (v:=zS b3 b2.length b4) (aG (bM (bV (aV (aV (aV ?_)))))))
      have f4:=c1 _ (zI a).symm
      subst f4
      have d:(some b2)=some R:=d
      have f5:aI G K (aK 9 K b3 b4 b2::L) d1:=aI.cutP d2 (i:=0) rfl d3 d4
      obtain rfl:=zI d
      exact bV (aV (aV (bP results114 rfl ⟨b3,b4,rfl,f5⟩)))
     obtain ⟨i1,f7,a⟩:=aB a
     refine cE f7 (fun (s:(List aU × Int × Int)) f w=>match s with|(k,l,o)=>f 0=zS a1 k.length c2∧f 3=i64 l∧f 4=zS b0 x.length b1∧f 5=i64 o∧aI G K (aK 9 K a1 c2 k::L) w) ?_ ?_
     ·exact ⟨m,p,rfl,rfl,a9⟩
     ·rintro ⟨k,l,o⟩ d5 f i2 b f8 ⟨a3,a4,r,u,g⟩
      replace b:dX j x k l o=some d5:=b
      unfold dX at b
      refine aQ (aL (aN u (aN r (aD (bU (len:=x.length) bX rfl) (aD (cL rfl rfl) (aG ?_))))))
      rcases aH b with ⟨b5,b⟩|⟨b5,b⟩
      ·refine aM b5 rfl (bA (aA (aQ (bB (fun f w=>∃ (y:List aU) (a5:Int),eP o y a5=some d5∧f 0=zS a1 y.length c2∧f 3=i64 a5∧f 4=zS b0 x.length b1∧f 5=i64 o∧aI G K (aK 9 K a1 c2 y::L) w) ?_ ?_))))
       ·rintro f i3 ⟨y,a5,b,f9,g0,g1,g2,g3⟩
        unfold eP at b
        exact aA (aP (aN g2 (aD (cP rfl rfl) (aF (v:=i64 (wr (o+1))) (aG ⟨(y,a5,wr (o+1)),(zI b).symm,f9,g0,g1,rfl,g3⟩)))))
       refine aQ (eR (C:=fun w'=>aI G K (aK 9 K a1 c2 k::L) w') bZ (by kernel_rfl) (aI.mono g (eC.drew _)) (bF (fun _ g=>bE r) (bF (fun _ g=>bE u) ?_)))
       obtain ⟨i4,d6,b⟩:=aB b
       obtain ⟨d7,d8,b⟩:=aB b
       refine bF (fun _ g=>aGe bX q Z J V rfl rfl rfl d6 rfl) (bF (fun _ g=>gP (t:=0) qB g (i:=0) rfl d8 rfl rfl rfl) (bF (fun _ g=>bE r) (bF (fun _ g=>bE u) (bF (fun _ g=>kH rfl rfl) ?_))))
       obtain ⟨i5,g4,b⟩:=aB b
       obtain ⟨i6,g5,b⟩:=aB b
       refine bF (fun _ g=>aGe bX q Z J V rfl rfl rfl g4 rfl) (bF (fun _ g=>gP (t:=0) qB g (i:=0) rfl g5 rfl rfl rfl) (bF (fun _ g=>aId rfl rfl) (fE (fun i7 b6=>(aA ?_)))))
       rcases aH b with ⟨b7,b⟩|⟨b7,b⟩
       ·refine aM b7 rfl (aL (aN a3 (aN a4 (aN r (aN u (aD (aGe bX q Z J V rfl rfl rfl d6 rfl) (aD (gP (t:=0) qB b6 (i:=0) rfl d8 rfl rfl rfl) ?_)))))))
        obtain ⟨i8,d9,b⟩:=aB b
        refine aD (dT bX rfl q rfl rfl rfl d9) ?_
        obtain ⟨e0,e1,b⟩:=aB b
        exact nG (i:=0) (t:=0) (ns:=[str d7]) (e':=(d7:aU)) sizeOf9 b6 rfl (zR _) rfl rfl rfl d9 e1 rfl rfl (dE rfl) rfl (fun cs h=>by cases h;rfl) (fun g6 (g7:aI G K (aK 9 K a1 c2 e0::L) g6)=>(aG (aP (aN a4 (aD (cP rfl rfl) (aF (v:=i64 (wr (l+1))) (aZ (bC (aA ⟨e0,wr (l+1),b,(Eq.trans a3 (congrArg (fun n=>zS a1 n c2) (lE e1))),rfl,r,u,g7⟩)))))))))
       ·exact aJ b7 rfl (bA (bC (aA ⟨k,l,b,a3,a4,r,u,b6⟩)))
      ·refine aJ b5 rfl (cA (aT (aT ?_)))
       have g8:=f8 _ (zI b).symm
       subst g8
       have a:(eO k l)=some z:=a
       exact bJ (aA ⟨k,l,a,a3,a4,g⟩)
    ·exact aJ c45 rfl (bA (bC (aA ⟨a,m,p,a9⟩)))
   ·refine aJ a7 rfl (cA (aT (aT ?_)))
    have g9:=c1 _ (zI a).symm
    subst g9
    have d:(fR c)=some R:=d
    exact bJ (aA ⟨d,m,e⟩)
theorem lV {d:(List aU)} {e:aU} {R:Int} (q:aI G K (L) w) (k:cX K a1 c2 d) (b:eS d e=some R):
  Calls Tryz.prog 102 ([zS a1 d.length c2,str e]:List Value).toArray w (gK fun v w'=>v=i64 R∧aI G K (L) w'):=by
 refine aW func102 rfl (by kernel_rfl) (by show (2:Nat)≤19;decide) ?_
 unfold eS at b
 refine aL (aF (v:=i64 0) (aG (aQ (aL (aO (v:=zS a1 d.length c2) (aD (bU (len:=d.length) bX rfl) (aO (v:=i64 0) (aG (bB (fun f w=>gD=some R∧aI G K (L) w) ?_ ?_)))))))))
 ·rintro f w4 ⟨b,r⟩
  unfold gD at b
  refine aA (aL (aF (v:=i64 (-1)) (aG ?_)))
  obtain rfl:=zI b
  exact bM (bP results102 rfl ⟨rfl,r⟩)
 obtain ⟨a3,x,b⟩:=aB b
 refine cE x (fun (c:Int) f w=>f 0=zS a1 d.length c2∧f 1=str e∧f 7=i64 (d.length:Int)∧f 8=i64 c∧aI G K (L) w) ?_ ?_
 ·exact ⟨rfl,rfl,rfl,rfl,q⟩
 ·rintro c y f a4 a l ⟨m,n,o,h,g⟩
  replace a:eG d e c=some y:=a
  unfold eG at a
  refine aL (aD (cL h o) (aG (aQ ?_)))
  rcases aH a with ⟨i,a⟩|⟨i,a⟩
  ·refine aM i rfl (bA (aA (aQ (cY (aL (aN h (aF (v:=i64 c) (aG (aL (aN n (aN m (aO (v:=i64 c) ?_))))))))))))
   obtain ⟨a5,p,a⟩:=aB a
   refine aD (dI bX rfl k rfl rfl rfl p) ?_
   obtain ⟨a6,z,J⟩:=cX.el (sz:=1) rfl k p
   cases J
   refine aD (bH (t:=0) qB g z rfl rfl) (aD (zX rfl rfl) (aG ?_))
   rcases aH a with ⟨j,a⟩|⟨j,a⟩
   ·refine aM j rfl (aL (aO (v:=i64 c) (aF (v:=i64 c) (aG (bM (bV (aV (aV ?_))))))))
    have V:=l _ (zI a).symm
    subst V
    have b:(some c)=some R:=b
    obtain rfl:=zI b
    exact bV (aV (aV (bP results102 rfl ⟨rfl,g⟩)))
   ·exact aJ j rfl (bA (bC (aA (aP (aD (cP h rfl) (aO (v:=i64 (wr (c+1))) (aG ⟨wr (c+1),(zI a).symm,m,n,o,rfl,g⟩)))))))
  ·refine aJ i rfl (cA (aT (aT ?_)))
   have a0:=l _ (zI a).symm
   subst a0
   have b:(gD)=some R:=b
   exact bJ (aA ⟨b,g⟩)
theorem aAj {d e:Int} {labels:(List aU)} {arcs:(List oO)} {R:cG} (hs:aI G K (L) w) (h3:cX K a1 c2 labels) (h6:cX K a4 c5 arcs) (j:aCW d e labels arcs=some R):
  Calls Tryz.prog 74 ([i64 d,i64 e,zS a1 labels.length c2,zS a4 arcs.length c5]:List Value).toArray w (gK fun v w'=>∃ (c3:Option Addr) (c4:Nat) (c6:Option Addr) (c7:Nat),v=zA (zCa R c3 c4 c6 c7)∧aI G K (aK 9 K c3 c4 R.L::aK 69 K c6 c7 R.E::L) w'):=by
 let l:=zG
 refine aW func74 rfl (by kernel_rfl) (by show (4:Nat)≤55;decide) ?_
 unfold aCW at j
 refine aL (bW (vs:=l) zeroValue27 hs rfl (fun k w8 e8=>(aG (aL (aO (v:=i64 d) (aO (v:=i64 e) (bR (Kt:=K) (xs:=([([116,97,117]:aU)]:List aU)) (cs:=[str ([116,97,117]:aU)]) (vs:=[(0,str ([116,97,117]:aU))]) bX gJ rfl rfl e8 rfl (by kernel_rfl) rfl rfl rfl ⟨rfl,trivial⟩ (fun e9 f0 (f1:aI G K (aK 9 K e9 1 ([([116,97,117]:aU)]:List aU)::box k 27 l::L) f0)=>(aO (v:=zS a1 labels.length c2) ?_)))))))))
 obtain ⟨y,f2,j⟩:=aB j
 refine lW (i:=0) bX underlying24 gJ rfl rfl f1 rfl (zR _) h3 f2 rfl rfl rfl rfl (fun n o f3 (f4:aI G K (aK 9 K n o y::box k 27 l::L) f3)=>(aD (dL (vs:=[(0,i64 d),(1,i64 e),(2,zS n y.length o)]) (cs:=[i64 d,i64 e,zS n y.length o,zS none 0 0]) rW rfl (by kernel_rfl)) (bW (vs:=l) zeroValue27 f4 rfl (fun p k4 f5=>(bY (i:=0) (ns:=[i64 d,i64 e,zS n y.length o,zS none 0 0]) (us:=[i64 d,i64 e,zS n y.length o,zS none 0 0]) sizeOf27 f5 rfl rfl rfl rfl rfl (dE rfl) rfl rfl (fun c8 (c9:aI G K (box p 27 [i64 d,i64 e,zS n y.length o,zS none 0 0]::aK 9 K n o y::box k 27 l::L) c8)=>(aG (aL (aD (bT (t':=2) fL rfl rfl) (aD (dS iT c9 (i:=0) rfl rfl rfl) ?_))))))))))
 have f6:aI G K (aK 9 K n o y::box p 27 [i64 d,i64 e,zS n y.length o,zS none 0 0]::box k 27 l::L) c8:=(aI.arr 2 [1,0] c9 rfl)
 obtain ⟨b2,f7,j⟩:=aB j
 refine aS (vs:=[zS n y.length o,Value.func (.func 113) #[] #[]]) call112 rfl (lib_SortStr f6 f7) ?_
 rintro _ f8 ⟨rfl,f9,g0⟩
 have d0:aI G K (aK 9 K n o b2::box p 27 [i64 d,i64 e,zS n b2.length o,zS none 0 0]::box k 27 l::L) f8:=by rw [←f9];exact g0
 refine aG (aL (aD (bT (t':=2) fL rfl rfl) (aD (dS iT d0 (i:=1) rfl rfl rfl) ?_)))
 obtain ⟨a,g1,j⟩:=aB j
 refine aS (vs:=[zS n b2.length o]) call114 rfl (tM d0 g1) ?_
 rintro _ k5 ⟨b,c,rfl,g2⟩
 refine aD (bT (t':=2) fL rfl rfl) (bY (i:=1) (ns:=[zS b a.length c]) (us:=[i64 d,i64 e,zS b a.length c,zS none 0 0]) sizeOf24 g2 rfl rfl rfl rfl rfl (dE rfl) rfl rfl (fun g3 (g4:aI G K (aK 9 K b c a::box p 27 [i64 d,i64 e,zS b a.length c,zS none 0 0]::box k 27 l::L) g3)=>(aG (aQ (aL (aO (v:=zS a4 arcs.length c5) (aD (bU (len:=arcs.length) aBn rfl) (aO (v:=i64 0) (aG (bB (fun f w=>∃ (a8:List Edge) (J:Option Addr) (V:Nat),aDA d e a a8=some R∧f 8=zP (some ⟨k,0,none⟩)∧f 9=zP (some ⟨p,0,none⟩)∧aI G K (aK 69 K J V a8::aK 9 K b c a::box p 27 [i64 d,i64 e,zS b a.length c,zS J a8.length V]::box k 27 l::L) w) ?_ ?_))))))))))
 ·rintro f k6 ⟨a8,J,V,j,d1,b1,d2⟩
  unfold aDA at j
  refine aA (aL (aD (bT (t':=3) cV b1 rfl) (aD (dS fH d2 (i:=2) rfl rfl rfl) ?_)))
  obtain ⟨b3,g5,j⟩:=aB j
  refine aS (vs:=[zS J a8.length V,Value.func (.func 65) #[] #[]]) call115 rfl (lib_SortEdge d2 g5) ?_
  rintro _ g6 ⟨rfl,g7,g8⟩
  have d3:aI G K (aK 69 K J V b3::aK 9 K b c a::box p 27 [i64 d,i64 e,zS b a.length c,zS J b3.length V]::box k 27 l::L) g6:=by rw [←g7];exact g8
  refine aG (aL (aD (bT (t':=3) cV b1 rfl) (aD (dS fH d3 (i:=2) rfl rfl rfl) ?_)))
  obtain ⟨u,g9,j⟩:=aB j
  refine aS (vs:=[zS J b3.length V]) call116 rfl (pO d3 g9) ?_
  rintro _ k7 ⟨q,r,rfl,h0⟩
  refine aD (bT (t':=3) cV b1 rfl) (bY (i:=2) (ns:=[zS q u.length r]) (us:=[i64 d,i64 e,zS b a.length c,zS q u.length r]) sizeOf25 h0 rfl rfl rfl rfl rfl (dE rfl) rfl rfl (fun h1 (d4:aI G K (aK 69 K q r u::aK 9 K b c a::box p 27 [i64 d,i64 e,zS b a.length c,zS q u.length r]::box k 27 l::L) h1)=>(aG (aL (aD (eI (us:=[i64 d,i64 e,zS b a.length c,zS q u.length r]) dJ d4 (i:=2) rfl b1 rfl rfl) (bY (i:=3) (ns:=[i64 d,i64 e,zS b a.length c,zS q u.length r]) (us:=[i64 d,i64 e,zS b a.length c,zS q u.length r]) sizeOf27 d4 rfl d1 rfl rfl rfl (dE rfl) rfl rfl (fun h2 (d5:aI G K (aK 69 K q r u::aK 9 K b c a::box p 27 [i64 d,i64 e,zS b a.length c,zS q u.length r]::box k 27 [i64 d,i64 e,zS b a.length c,zS q u.length r]::L) h2)=>(aG ?_))))))))
  obtain rfl:=zI j
  exact bM (vY results74 (fV (vs:=[i64 d,i64 e,zS b a.length c,zS q u.length r]) rfl dJ d5 (i:=3) rfl d1 rfl) ⟨b,c,q,r,rfl,(aI.arr 4 [1,0] d5 rfl)⟩)
 have h5:=aI.nil (α:=Edge) g4 69 K
 obtain ⟨k8,h7,j⟩:=aB j
 refine cE h7 (fun (s:(List Edge × Int)) f w=>match s with|(z,a9)=>∃ (Z:Option Addr) (a0:Nat),f 8=zP (some ⟨k,0,none⟩)∧f 9=zP (some ⟨p,0,none⟩)∧f 25=zS a4 arcs.length c5∧f 26=i64 (arcs.length:Int)∧f 27=i64 a9∧aI G K (aK 69 K Z a0 z::aK 9 K b c a::box p 27 [i64 d,i64 e,zS b a.length c,zS Z z.length a0]::box k 27 l::L) w) ?_ ?_
 ·exact ⟨none,0,rfl,rfl,rfl,rfl,rfl,h5⟩
 ·rintro ⟨z,a9⟩ h8 f k9 m h9 ⟨Z,a0,d6,b0,d7,d8,b4,b5⟩
  replace m:yO arcs a z a9=some h8:=m
  unfold yO at m
  refine aL (aD (cL b4 d8) (aG (aQ ?_)))
  rcases aH m with ⟨b6,m⟩|⟨b6,m⟩
  ·refine aM b6 rfl (bA (aA (aQ (cY (aL ?_)))))
   obtain ⟨g,d9,m⟩:=aB m
   refine aD (dI aBn rfl h6 d7 rfl b4 d9) ?_
   obtain ⟨l0,i0,i1⟩:=cX.el (sz:=3) rfl h6 d9
   cases i1
   refine aD (gT (t:=0) (vs:=[i64 g.from_,str g.label,i64 g.to_]) ag_141 b5 i0 rfl rfl rfl) (bW (vs:=[i64 0,str ([]:aU),i64 0]) zeroValue141 b5 rfl (fun e0 l1 i2=>(bY (i:=0) (ns:=[i64 g.from_,str g.label,i64 g.to_]) (us:=[i64 g.from_,str g.label,i64 g.to_]) sizeOf141 i2 rfl rfl rfl rfl rfl (dE rfl) rfl rfl (fun i3 (i4:aI G K (box e0 141 [i64 g.from_,str g.label,i64 g.to_]::aK 69 K Z a0 z::aK 9 K b c a::box p 27 [i64 d,i64 e,zS b a.length c,zS Z z.length a0]::box k 27 l::L) i3)=>(aG ?_)))))
   obtain ⟨l2,b8,b9,i5,i6⟩:=aI.lendB (i:=0) i4 rfl
   obtain ⟨c0,a2,e1,e2,i7⟩:=aI.lendB (i:=2) i5 rfl
   refine fK (C:=fun w'=>∃ L',aI G c0 L' w') [(0,0),(1,0),(2,0),(3,0),(4,0),(5,0),(6,0),(7,0),(9,0),(10,0),(8,1),(11,0),(12,1),(13,1),(14,0),(15,2)] bZ (by kernel_rfl) (fun _ hg=>⟨_,aI.mono e2 hg⟩) (fun l3 i8=>?_)
   have x:=aI.mono e2 i8
   refine bS rfl (fun _ _=>bT (t':=3) cV b0 rfl) (bS rfl (fun _ ⟨_,x⟩=>bH (t:=3) fH x e1 rfl rfl) (bS rfl (fun _ _=>bT (t':=0) fa_141_0 rfl rfl) (bS rfl (fun _ ⟨_,x⟩=>bH (t:=0) cK x (b9.mono a2) rfl rfl) (bS rfl (fun _ _=>bT (t':=2) fL b0 rfl) (bS rfl (fun _ ⟨_,x⟩=>bH (t:=2) iT x e1 rfl rfl) (bS rfl (fun _ _=>bT (t':=1) aLH rfl rfl) (bS rfl (fun _ ⟨_,x⟩=>bH (t:=1) qB x (b9.mono a2) rfl rfl) (bS rfl (fun _ _=>bT (t':=2) fa_141_2 rfl rfl) (bS rfl (fun _ ⟨_,x⟩=>bH (t:=2) cK x (b9.mono a2) rfl rfl) (kY rfl ?_))))))))))
   obtain ⟨l4,l5,i9,j0,j1⟩:=aI.lendS (i:=1) x (zL b8 a2) rfl
   obtain ⟨a3,j2,m⟩:=aB m
   refine aS (vs:=[zS b a.length c,str g.label]) call102 rfl (lV j0 i9 j2) ?_
   rintro _ l6 ⟨rfl,j3⟩
   have e3:=j1 _ _ j3
   refine aZ (aA ⟨⟨_,e3⟩,?_⟩)
   refine bS rfl (fun _ _=>dL (vs:=[(0,i64 g.from_),(1,i64 a3),(2,i64 g.to_)]) (cs:=[i64 g.from_,i64 a3,i64 g.to_]) aFy rfl (by kernel_rfl)) (kY rfl (bR (Kt:=K) (xs:=([⟨g.from_,a3,g.to_⟩]:List Edge)) (cs:=[i64 g.from_,i64 a3,i64 g.to_]) (vs:=[(0,zA #[i64 g.from_,i64 a3,i64 g.to_])]) cM gZ rfl rfl e3 rfl (by kernel_rfl) rfl rfl rfl ⟨rfl,trivial⟩ (fun j4 j5 (e4:aI G c0 (aK 69 K j4 1 ([⟨g.from_,a3,g.to_⟩]:List Edge)::aK 9 K b c a::aK 69 K Z a0 z::box k 27 l::L) j5)=>(aZ (aA ⟨⟨_,e4⟩,?_⟩)))))
   refine kY rfl ?_
   obtain ⟨a5,j6,m⟩:=aB m
   refine dG (i:=1) cM underlying25 gZ rfl rfl e4 rfl (zL b8 a2) (zL b8 a2) j6 rfl rfl rfl rfl (fun _ h=>h) (fun a6 a7 j7 (e5:aI G c0 (aK 9 K b c a::aK 69 K a6 a7 a5::box k 27 l::L) j7)=>(aZ (aA ⟨⟨_,e5⟩,?_⟩)))
   refine bS rfl (fun _ _=>bT (t':=3) cV b0 rfl) ?_
   have j8:=i7 _ _ e5
   have j9:=i6 _ _ j8
   exact aGa rfl (bY (i:=1) (ns:=[zS a6 a5.length a7]) (us:=[i64 d,i64 e,zS b a.length c,zS a6 a5.length a7]) sizeOf25 j9 rfl rfl rfl rfl rfl (dE rfl) rfl rfl (fun k0 (k1:aI G K (box e0 141 [i64 g.from_,str g.label,i64 g.to_]::box p 27 [i64 d,i64 e,zS b a.length c,zS a6 a5.length a7]::aK 9 K b c a::aK 69 K a6 a7 a5::box k 27 l::L) k0)=>(aG (lF (bC (aA (aP (aD (cP b4 rfl) (aO (v:=i64 (wr (a9+1))) (aG ⟨(a5,wr (a9+1)),(zI m).symm,a6,a7,d6,b0,d7,d8,rfl,(aI.arr 4 [3,2,1] k1 rfl)⟩))))))))))
  ·refine aJ b6 rfl (cA (aT (aT ?_)))
   have k2:=h9 _ (zI m).symm
   subst k2
   have j:(aDA d e a z)=some R:=j
   exact bJ (aA ⟨z,Z,a0,j,d6,b0,b5⟩)
theorem aEn {arcs:(List oO)} {R:(List aU)} (hs:aI G K (L) w) (y:cX K a1 c2 arcs) (c:aCq arcs=some R):
  Calls Tryz.prog 109 ([zS a1 arcs.length c2]:List Value).toArray w (gK fun v w'=>∃ (z:Option Addr) (J:Nat),v=zS z R.length J∧aI G K (aK 9 K z J R::L) w'):=by
 refine aW func109 rfl (by kernel_rfl) (by show (1:Nat)≤19;decide) ?_
 unfold aCq at c
 refine aL (aF (v:=zS none 0 0) (aG (aL (aF (v:=zS none 0 0) (aG (aQ (aL (aO (v:=zS a1 arcs.length c2) (aD (bU (len:=arcs.length) aBn rfl) (aO (v:=i64 0) (aG (bB (fun f w=>∃ (j:List aU) (k:Option Addr) (l:Nat),aAD j=some R∧f 3=zS k j.length l∧aI G K (aK 9 K k l j::L) w) ?_ ?_))))))))))))
 ·rintro f w8 ⟨j,k,l,c,e7,a7⟩
  unfold aAD at c
  refine aA (aL (aN e7 (aF (v:=zS k j.length l) (aG ?_))))
  obtain rfl:=zI c
  exact bM (bP results109 rfl ⟨k,l,rfl,a7⟩)
 have a9:=aI.nil (α:=aU) hs 9 K
 obtain ⟨c7,b0,c⟩:=aB c
 refine cE b0 (fun (s:(List aU × Int)) f w=>match s with|(d,m)=>∃ (e:Option Addr) (g:Nat),f 3=zS e d.length g∧f 6=zS a1 arcs.length c2∧f 7=i64 (arcs.length:Int)∧f 8=i64 m∧aI G K (aK 9 K e g d::L) w) ?_ ?_
 ·exact ⟨none,0,rfl,rfl,rfl,rfl,a9⟩
 ·rintro ⟨d,m⟩ b1 f c8 b b2 ⟨e,g,V,Z,a0,n,o⟩
  replace b:rJ arcs d m=some b1:=b
  unfold rJ at b
  refine aL (aD (cL n a0) (aG (aQ ?_)))
  rcases aH b with ⟨p,b⟩|⟨p,b⟩
  ·refine aM p rfl (bA (aA (aQ (cY (aL ?_)))))
   obtain ⟨a,a2,b⟩:=aB b
   refine aD (dI aBn rfl y Z rfl n a2) ?_
   obtain ⟨c9,b3,b4⟩:=cX.el (sz:=3) rfl y a2
   cases b4
   refine aD (gT (t:=0) (vs:=[i64 a.from_,str a.label,i64 a.to_]) ag_141 o b3 rfl rfl rfl) (bW (vs:=[i64 0,str ([]:aU),i64 0]) zeroValue141 o rfl (fun q d0 b5=>(bY (i:=0) (ns:=[i64 a.from_,str a.label,i64 a.to_]) (us:=[i64 a.from_,str a.label,i64 a.to_]) sizeOf141 b5 rfl rfl rfl rfl rfl (dE rfl) rfl rfl (fun b6 (a3:aI G K (box q 141 [i64 a.from_,str a.label,i64 a.to_]::aK 9 K e g d::L) b6)=>(aG (aP (aN V (aD (bT (t':=1) aLH rfl rfl) (aD (dS qB a3 (i:=0) rfl rfl rfl) (bR (Kt:=K) (xs:=([a.label]:List aU)) (cs:=[str a.label]) (vs:=[(0,str a.label)]) bX gJ rfl rfl a3 rfl (by kernel_rfl) rfl rfl rfl ⟨rfl,trivial⟩ (fun b7 b8 (b9:aI G K (aK 9 K b7 1 ([a.label]:List aU)::box q 141 [i64 a.from_,str a.label,i64 a.to_]::aK 9 K e g d::L) b8)=>?_)))))))))))
   obtain ⟨r,c0,b⟩:=aB b
   exact dG (i:=1) bX underlying24 gJ rfl rfl b9 rfl (zR _) (zR _) c0 rfl rfl rfl rfl (fun _ h=>h) (fun u x c1 (c3:aI G K (box q 141 [i64 a.from_,str a.label,i64 a.to_]::aK 9 K u x r::L) c1)=>(aF (v:=zS u r.length x) (aZ (bC (aA (aP (aD (cP n rfl) (aO (v:=i64 (wr (m+1))) (aG ⟨(r,wr (m+1)),(zI b).symm,u,x,rfl,Z,a0,rfl,(aI.arr 1 [] c3 rfl)⟩)))))))))
  ·refine aJ p rfl (cA (aT (aT ?_)))
   have c4:=b2 _ (zI b).symm
   subst c4
   have c:(aAD d)=some R:=c
   exact bJ (aA ⟨d,e,g,c,V,o⟩)
theorem aCL {a:(List Int)} {R:aU} (c:aI G K (L) w) (d:G.lo=0) (e:cX K a1 c2 a) (b:kV a=some R):
  Calls Tryz.prog 71 ([zS a1 a.length c2]:List Value).toArray w (gK fun v w'=>v=str R∧aI G K (L) w'):=by
 refine aW func71 rfl (by kernel_rfl) (by show (1:Nat)≤5;decide) ?_
 unfold kV at b
 refine aL (aF (v:=str ([]:aU)) (aG (aL (aO (v:=zS a1 a.length c2) ?_))))
 obtain ⟨g,h,b⟩:=aB b
 refine aS (vs:=[zS a1 a.length c2,str ([44]:aU)]) call72 rfl (aFz c d e h) ?_
 rintro _ k ⟨rfl,i⟩
 refine aF (v:=str g) (aG ?_)
 obtain rfl:=zI b
 exact bM (bP results71 rfl ⟨rfl,i⟩)
theorem aCE {t:cG} {c:(List Int)} {e:aU} {R:(List Int)} (x:aI G K (L) w) (h:cX K a1 c2 t.L) (j:cX K a4 c5 t.E) (y:cX K a7 c8 c) (a:jD t c e=some R):
  Calls Tryz.prog 69 ([zA (zCa t a1 c2 a4 c5),zS a7 c.length c8,str e]:List Value).toArray w (gK fun v w'=>∃ (k:Option Addr) (l:Nat),v=zS k R.length l∧aI G K (aK 2 K k l R::L) w'):=by
 let g:=(zC t a1 c2 a4 c5)
 refine aW func69 rfl (by kernel_rfl) (by show (3:Nat)≤13;decide) ?_
 unfold jD at a
 refine aL (iI (v:=zA (zCa t a1 c2 a4 c5)) (vs:=g) x rfl rfl (fun b5 b6 z=>(aF (v:=zS none 0 0) (aG (aQ ?_)))))
 obtain ⟨J,b,m,n,V⟩:=aI.lendB (i:=0) z rfl
 refine fK (C:=fun w'=>∃ L',aI G J L' w') [(0,0),(1,0),(2,0),(3,0),(4,1),(5,1),(6,0)] bZ (by kernel_rfl) (fun _ hg=>⟨_,aI.mono n hg⟩) (fun b7 Z=>?_)
 have d:=aI.mono n Z
 refine bS rfl (fun _ ⟨_,d⟩=>gT (t:=0) (vs:=g) dJ d m rfl rfl rfl) (bS rfl (fun _ ⟨_,d⟩=>gT (t:=0) (vs:=g) dJ d m rfl rfl rfl) (bS rfl (fun _ _=>bE (v:=zS a7 c.length c8) rfl) (bS rfl (fun _ _=>bE (v:=str e) rfl) (kY rfl ?_))))
 obtain ⟨a0,a2,a⟩:=aB a
 refine aS (vs:=[zA (zCa t a1 c2 a4 c5),zS a7 c.length c8,str e]) call104 rfl (zJ d (h.mono b) (j.mono b) (y.mono b) a2) ?_
 rintro _ b8 ⟨a3,a5,rfl,o⟩
 refine aZ (aA ⟨⟨_,o⟩,?_⟩)
 refine kY rfl ?_
 obtain ⟨b9,p,a6,a8,a9⟩:=aI.lendS (i:=0) o b rfl
 obtain ⟨b0,b1,a⟩:=aB a
 refine aS (vs:=[zA (zCa t a1 c2 a4 c5),zS a3 a0.length a5]) call68 rfl (uX a8 (h.mono (zL b p)) (j.mono (zL b p)) a6 b1) ?_
 rintro _ c0 ⟨q,r,rfl,b2⟩
 have u:=a9 _ _ b2
 refine aZ (aA ⟨⟨_,u⟩,?_⟩)
 refine bS rfl (fun _ _=>dV (v:=zS q b0.length r) rfl) (lF ?_)
 have b3:=V _ _ u
 refine aA ?_
 obtain rfl:=zI a
 exact bM (bP results69 rfl ⟨q,r,rfl,(aI.arr 2 [] b3 rfl)⟩)
theorem aHL {t:cG} {R:(List oO)} (hs:aI G K (L) w) (h3:cX K a1 c2 t.L) (h6:cX K a4 c5 t.E) (d:aAf t=some R):
  Calls Tryz.prog 75 ([zA (zCa t a1 c2 a4 c5)]:List Value).toArray w (gK fun v w'=>∃ (a6:Option Addr) (a7:Nat),v=zS a6 R.length a7∧aI G K (aK 141 K a6 a7 R::L) w'):=by
 let r:=(zC t a1 c2 a4 c5)
 refine aW func75 rfl (by kernel_rfl) (by show (1:Nat)≤29;decide) ?_
 unfold aAf at d
 refine aL (iI (v:=zA (zCa t a1 c2 a4 c5)) (vs:=r) hs rfl rfl (fun u w8 a8=>(aF (v:=zS none 0 0) (aG (aL (aF (v:=zS none 0 0) (aG (aQ (aL (aD (bT (t':=3) cV rfl rfl) (aD (dS fH a8 (i:=0) rfl rfl rfl) (aD (bU (len:=t.E.length) cM rfl) (aO (v:=i64 0) (aG (bB (fun f w=>∃ (m:List oO) (n:Option Addr) (o:Nat),aAE m=some R∧f 3=zS n m.length o∧aI G K (aK 141 K n o m::L) w) ?_ ?_)))))))))))))))
 ·rintro f f0 ⟨m,n,o,d,c0,c1⟩
  unfold aAE at d
  refine aA (aL (aN c0 (aF (v:=zS n m.length o) (aG ?_))))
  obtain rfl:=zI d
  exact bM (bP results75 rfl ⟨n,o,rfl,c1⟩)
 have c4:=aI.nil (α:=oO) a8 141 K
 obtain ⟨f1,c6,d⟩:=aB d
 refine cE c6 (fun (s:(List oO × Int)) f w=>match s with|(e,p)=>∃ (j:Option Addr) (k:Nat),f 1=zP (some ⟨u,0,none⟩)∧f 3=zS j e.length k∧f 7=zS a4 t.E.length c5∧f 8=i64 (t.E.length:Int)∧f 9=i64 p∧aI G K (aK 141 K j k e::box u 27 r::L) w) ?_ ?_
 ·exact ⟨none,0,rfl,rfl,rfl,rfl,rfl,c4⟩
 ·rintro ⟨e,p⟩ c7 f f2 b c8 ⟨j,k,a9,b0,b1,b2,x,y⟩
  replace b:rK t e p=some c7:=b
  unfold rK at b
  refine aL (aD (cL x b2) (aG (aQ ?_)))
  rcases aH b with ⟨z,b⟩|⟨z,b⟩
  ·refine aM z rfl (bA (aA (aQ (cY (aL ?_)))))
   obtain ⟨a,b3,b⟩:=aB b
   refine aD (dI cM rfl h6 b1 rfl x b3) ?_
   obtain ⟨f3,c9,d0⟩:=cX.el (sz:=3) rfl h6 b3
   cases d0
   refine aD (gT (t:=0) (vs:=[i64 a.F,i64 a.B,i64 a.To]) mQ y c9 rfl rfl rfl) (bW (vs:=[i64 0,i64 0,i64 0]) zeroValue69 y rfl (fun d1 f4 d2=>(bY (i:=0) (ns:=[i64 a.F,i64 a.B,i64 a.To]) (us:=[i64 a.F,i64 a.B,i64 a.To]) sizeOf69 d2 rfl rfl rfl rfl rfl (dE rfl) rfl rfl (fun d3 (d4:aI G K (box d1 69 [i64 a.F,i64 a.B,i64 a.To]::aK 141 K j k e::box u 27 r::L) d3)=>(aG ?_)))))
   obtain ⟨f5,q,J,d5,d6⟩:=aI.lendB (i:=0) d4 rfl
   obtain ⟨V,g,d7,b4,d8⟩:=aI.lendB (i:=1) d5 rfl
   refine fK (C:=fun w'=>∃ L',aI G V L' w') [(0,0),(1,0),(2,0),(3,0),(4,0),(5,0),(6,0),(7,0),(8,0),(9,0),(10,0),(11,0),(12,1),(13,1),(14,0)] bZ (by kernel_rfl) (fun _ hg=>⟨_,aI.mono b4 hg⟩) (fun f6 d9=>?_)
   have c:=aI.mono b4 d9
   refine bS rfl (fun _ _=>bE b0) (bS rfl (fun _ _=>bT (t':=0) hQ rfl rfl) (bS rfl (fun _ ⟨_,c⟩=>bH (t:=0) cK c (J.mono g) rfl rfl) (bS rfl (fun _ _=>bT (t':=2) fL a9 rfl) (bS rfl (fun _ ⟨_,c⟩=>bH (t:=2) iT c d7 rfl rfl) (bS rfl (fun _ _=>bT (t':=1) iZ rfl rfl) (bS rfl (fun _ ⟨_,c⟩=>bH (t:=1) cK c (J.mono g) rfl rfl) ?_))))))
   obtain ⟨l,b5,b⟩:=aB b
   refine bS rfl (fun _ _=>dI bX rfl (h3.mono (zL q g)) rfl rfl rfl b5) ?_
   obtain ⟨f7,e0,e1⟩:=cX.el (sz:=1) rfl h3 b5
   cases e1
   refine bS rfl (fun _ ⟨_,c⟩=>bH (t:=0) qB c (e0.mono (zL q g)) rfl rfl) (bS rfl (fun _ _=>bT (t':=2) gR rfl rfl) (bS rfl (fun _ ⟨_,c⟩=>bH (t:=2) cK c (J.mono g) rfl rfl) (bS rfl (fun _ _=>dL (vs:=[(0,i64 a.F),(1,str l),(2,i64 a.To)]) (cs:=[i64 a.F,str l,i64 a.To]) bs_141 rfl (by kernel_rfl)) (kY rfl (bR (Kt:=K) (xs:=([⟨a.F,l,a.To⟩]:List oO)) (cs:=[i64 a.F,str l,i64 a.To]) (vs:=[(0,zA #[i64 a.F,str l,i64 a.To])]) aBn aEC rfl rfl c rfl (by kernel_rfl) rfl rfl rfl ⟨rfl,trivial⟩ (fun e2 e3 (b6:aI G V (aK 141 K e2 1 ([⟨a.F,l,a.To⟩]:List oO)::aK 141 K j k e::L) e3)=>(aZ (aA ⟨⟨_,b6⟩,?_⟩))))))))
   refine kY rfl ?_
   obtain ⟨Z,e4,b⟩:=aB b
   refine dG (i:=0) aBn underlying106 aEC rfl rfl b6 rfl (zL q g) (zL q g) e4 rfl rfl rfl rfl (fun _ h=>h) (fun a0 a2 e5 (b8:aI G V (aK 141 K a0 a2 Z::L) e5)=>(aZ (aA ⟨⟨_,b8⟩,?_⟩)))
   refine bS rfl (fun _ _=>dV (v:=zS a0 Z.length a2) rfl) (lF ?_)
   have e6:=d8 _ _ b8
   have e7:=d6 _ _ e6
   exact bC (aA (aP (aD (cP x rfl) (aO (v:=i64 (wr (p+1))) (aG ⟨(Z,wr (p+1)),(zI b).symm,a0,a2,a9,rfl,b1,b2,rfl,(aI.arr 3 [2,1] e7 rfl)⟩)))))
  ·refine aJ z rfl (cA (aT (aT ?_)))
   have e8:=c8 _ (zI b).symm
   subst e8
   have d:(aAE e)=some R:=d
   exact bJ (aA ⟨e,j,k,d,b0,(aI.arr 2 [0] y rfl)⟩)
end Gv
