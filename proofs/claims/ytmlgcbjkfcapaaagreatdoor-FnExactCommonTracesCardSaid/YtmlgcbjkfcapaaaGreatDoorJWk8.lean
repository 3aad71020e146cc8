/- Walks, printed by program. -/
import Derived.Test.YtmlgcbjkfcapaaaGreatDoorJWk5
import Derived.Test.YtmlgcbjkfcapaaaGreatDoorJWk6
import Derived.Test.YtmlgcbjkfcapaaaGreatDoorJWk7
set_option linter.all false
namespace Gv
open Go.Value renaming slice→zS,bool→zB,pointer→zP,agg→zA,map→zM
open Option.some renaming inj→zI
open Gv.Hp renaming le_trans→zL
open Go Go.Proofs
set_option maxRecDepth 20000
set_option maxHeartbeats 40000000
variable {G:Env} {K:Hp} {L:List pH} {w:World} {a1 a4 a7 a10:Option Addr} {c2 c5 c8 c11:Nat}
theorem tF {a:(List (List bB))} {R:(List bB)} (hs:aK G K (L) w) (o:dB K a1 c2 a) (b:fO a=some R):
  Calls Tryz.prog 126 ([zS a1 a.length c2]:List Value).toArray w (iK fun v w'=>∃ (a5:Option Addr) (a6:Nat),v=zS a5 R.length a6∧aK G K (aN 9 K a5 a6 R::L) w'):=by
 refine aX Tryz.func126 rfl (by kernel_rfl) (by show (1:Nat)≤36;decide) ?_
 unfold fO at b
 refine aM (aH (v:=zS none 0 0) (aI (aM (aH (v:=i64 0) (aI (aQ (aM (aP (v:=zS a1 a.length c2) (aF (bN (len:=a.length) aHe rfl) (aP (v:=i64 0) (aI (bE (fun f w=>∃ (p:Int),fA a p=some R∧f 0=zS a1 a.length c2∧f 3=i64 p∧aK G K (L) w) ?_ ?_))))))))))))
 ·rintro f w7 ⟨p,b,e5,e6,c8⟩
  unfold fA at b
  refine aC (aM (aT e6 ?_))
  obtain ⟨r9,d0,b⟩:=aD b
  refine aU (vs:=[zS none 0 0,i64 p]) Tryz.call193 rfl (lib_GrowStr c8 (aGD (α:=bB) _) d0) ?_
  rintro _ f9 ⟨a7,a8,rfl,d1⟩
  refine aH (v:=zS a7 r9.length a8) (aI (aQ (aM (aT e5 (aF (bN (len:=a.length) aHe rfl) (aP (v:=i64 0) (aI (bE (fun f w=>∃ (k:List bB) (l:Option Addr) (m:Nat),gE k=some R∧f 6=zS l k.length m∧aK G K (aN 9 K l m k::L) w) ?_ ?_))))))))
  ·rintro f g0 ⟨k,l,m,b,d2,d3⟩
   unfold gE at b
   refine aC (aM (aT d2 (aH (v:=zS l k.length m) (aI ?_))))
   obtain rfl:=zI b
   exact bH (bF Tryz.results126 rfl ⟨l,m,rfl,d3⟩)
  obtain ⟨g1,d5,b⟩:=aD b
  refine cD d5 (fun (s:(List bB × Int)) f w=>match s with|(h,n)=>∃ (q:Option Addr) (r:Nat),f 6=zS q h.length r∧f 25=zS a1 a.length c2∧f 26=i64 (a.length:Int)∧f 27=i64 n∧aK G K (aN 9 K q r h::L) w) ?_ ?_
  ·exact ⟨a7,a8,rfl,rfl,rfl,rfl,d1⟩
  ·rintro ⟨h,n⟩ d6 f g2 d d7 ⟨q,r,a9,b0,b1,x,y⟩
   replace d:cA a h n=some d6:=d
   unfold cA at d
   refine aM (aF (cG x b1) (aI (aQ ?_)))
   rcases aJ d with ⟨z,d⟩|⟨z,d⟩
   ·refine aO z rfl (aY (aC (aQ (cW (aM ?_)))))
    obtain ⟨b2,b3,d⟩:=aD d
    refine aF (dN aHe rfl o b0 rfl x b3) ?_
    obtain ⟨g3,d8,d9⟩:=dB.el (sz:=1) rfl o b3
    obtain ⟨b4,b5,rfl,e0⟩:=d9
    refine aF (bK (t:=0) iT y d8 rfl rfl) (aH (v:=zS b4 b2.length b5) (aI (aS (aT a9 (aP (v:=zS b4 b2.length b5) ?_)))))
    obtain ⟨J,e1,d⟩:=aD d
    exact aCJ (i:=0) cF Tryz.underlying22 vJ rfl rfl y rfl (Hp.le_refl _) e0 e1 rfl rfl rfl rfl (fun V Z e2 (e3:aK G K (aN 9 K V Z J::L) e2)=>(aH (v:=zS V J.length Z) (bA (bG (aC (aS (aF (cQ x rfl) (aP (v:=i64 (wr (n+1))) (aI ⟨(J,wr (n+1)),(zI d).symm,V,Z,rfl,b0,b1,rfl,e3⟩)))))))))
   ·refine aL z rfl (cB (aV (aV ?_)))
    have e4:=d7 _ (zI d).symm
    subst e4
    have b:(gE h)=some R:=b
    exact bJ (aC ⟨h,q,r,b,a9,y⟩)
 obtain ⟨g4,e7,b⟩:=aD b
 refine cD e7 (fun (s:(Int × Int)) f w=>match s with|(e,g)=>f 0=zS a1 a.length c2∧f 3=i64 e∧f 9=zS a1 a.length c2∧f 10=i64 (a.length:Int)∧f 11=i64 g∧aK G K (L) w) ?_ ?_
 ·exact ⟨rfl,rfl,rfl,rfl,rfl,hs⟩
 ·rintro ⟨e,g⟩ b6 f g5 c e8 ⟨b7,b8,b9,c0,a0,a2⟩
  replace c:bX a e g=some b6:=c
  unfold bX at c
  refine aM (aF (cG a0 c0) (aI (aQ ?_)))
  rcases aJ c with ⟨a3,c⟩|⟨a3,c⟩
  ·refine aO a3 rfl (aY (aC (aQ (bE (fun f w=>∃ (u:Int),fB g u=some b6∧f 0=zS a1 a.length c2∧f 3=i64 u∧f 9=zS a1 a.length c2∧f 10=i64 (a.length:Int)∧f 11=i64 g∧aK G K (L) w) ?_ ?_))))
   ·rintro f g6 ⟨u,c,e9,f0,f1,f2,f3,f4⟩
    unfold fB at c
    exact aC (aS (aF (cQ f3 rfl) (aP (v:=i64 (wr (g+1))) (aI ⟨(u,wr (g+1)),(zI c).symm,e9,f0,f1,f2,rfl,f4⟩))))
   refine aM ?_
   obtain ⟨j,c1,c⟩:=aD c
   refine aF (dN aHe rfl o b9 rfl a0 c1) ?_
   obtain ⟨g7,f5,f6⟩:=dB.el (sz:=1) rfl o c1
   obtain ⟨c3,c4,rfl,g8⟩:=f6
   refine aF (bK (t:=0) iT a2 f5 rfl rfl) (aH (v:=zS c3 j.length c4) (aI (aM (aT b8 (aP (v:=zS c3 j.length c4) (aF (bN (len:=j.length) cF rfl) (aF (cQ rfl rfl) (aH (v:=i64 (wr (e+(j.length:Int)))) (aI (aM (aP (v:=i64 (wr (e+(j.length:Int)))) (aF (cG rfl rfl) (aI ?_)))))))))))))
   rcases aJ c with ⟨a4,c⟩|⟨a4,c⟩
   ·refine aO a4 rfl (aS ?_)
    cases c
   ·exact aL a4 rfl (aY (bG (aC ⟨wr (e+(j.length:Int)),c,b7,rfl,b9,c0,a0,a2⟩)))
  ·refine aL a3 rfl (cB (aV (aV ?_)))
   have f7:=e8 _ (zI c).symm
   subst f7
   have b:(fA a e)=some R:=b
   exact bJ (aC ⟨e,b,b7,b8,a2⟩)
theorem aFP {a b R:cN} (hs:aK G K (L) w) (h3:dB K a1 c2 a.L) (h6:dB K a4 c5 a.E) (h9:dB K a7 c8 b.L) (w2:dB K a10 c11 b.E) (y:aAm a b=some R):
  Calls Tryz.prog 51 ([zA (zCa a a1 c2 a4 c5),zA (zCa b a7 c8 a10 c11),Value.func (.func 52) #[] #[]]:List Value).toArray w (iK fun v w'=>∃ (w3:Option Addr) (w4:Nat) (w5:Option Addr) (w6:Nat),v=zA (zCa R w3 w4 w5 w6)∧aK G K (aN 9 K w3 w4 R.L::aN 63 K w5 w6 R.E::L) w'):=by
 let r:=(zC b a7 c8 a10 c11)
 let u:=(zC a a1 c2 a4 c5)
 let x:=zG
 refine aX Tryz.func51 rfl (by kernel_rfl) (by show (3:Nat)≤174;decide) ?_
 unfold aAm at y
 refine aM (gP (v:=zA (zCa a a1 c2 a4 c5)) (vs:=u) hs rfl rfl (fun m w14 a39=>(gP (v:=zA (zCa b a7 c8 a10 c11)) (vs:=r) a39 rfl rfl (fun n w17 a40=>(bS (vs:=x) Tryz.zeroValue29 a40 rfl (fun l w20 a41=>(aI (aM (aES (Int × Int) Int a41 ?_)))))))))
 intro c w23 (a43:aK G K (iD c ([]:(List ((Int × Int) × Int)))::box l 29 x::box n 29 r::box m 29 u::L) w23)
 refine bS (vs:=[zM none]) Tryz.zeroValue147 a43 rfl (fun d w26 a44=>(bR (i:=0) (ns:=[zM (some c)]) (us:=[zM (some c)]) Tryz.sizeOf147 a44 rfl rfl rfl rfl rfl (cX rfl) rfl rfl ?_))
 intro w28 (q2:aK G K (box d 147 [zM (some c)]::iD c ([]:(List ((Int × Int) × Int)))::box l 29 x::box n 29 r::box m 29 u::L) w28)
 refine aI (aM (aF (bL (t':=1) sN rfl rfl) (aF (cC cV q2 (i:=4) rfl rfl rfl) (aF (bL (t':=1) sN rfl rfl) (aF (cC cV q2 (i:=3) rfl rfl rfl) (aF (aEU (vs:=[(0,i64 a.I),(1,i64 b.I)]) (cs:=[i64 a.I,i64 b.I]) aBb aJF rfl (by kernel_rfl)) (cT (Kt:=K) (xs:=([⟨a.I,b.I⟩]:List (Int × Int))) (cs:=[i64 a.I,i64 b.I]) (vs:=[(0,zA #[i64 a.I,i64 b.I])]) aBY ez_148 rfl rfl q2 rfl (by kernel_rfl) rfl rfl rfl ⟨rfl,trivial⟩ ?_)))))))
 intro e5 w31 (a47:aK G K (aN 148 K e5 1 ([⟨a.I,b.I⟩]:List (Int × Int))::box d 147 [zM (some c)]::iD c ([]:(List ((Int × Int) × Int)))::box l 29 x::box n 29 r::box m 29 u::L) w31)
 refine bS (vs:=[zS none 0 0]) Tryz.zeroValue149 a47 rfl (fun e w34 a48=>(bR (i:=0) (ns:=[zS e5 ([⟨a.I,b.I⟩]:List (Int × Int)).length 1]) (us:=[zS e5 ([⟨a.I,b.I⟩]:List (Int × Int)).length 1]) Tryz.sizeOf149 a48 rfl rfl rfl rfl rfl (cX rfl) rfl rfl ?_))
 intro w36 (a50:aK G K (box e 149 [zS e5 ([⟨a.I,b.I⟩]:List (Int × Int)).length 1]::aN 148 K e5 1 ([⟨a.I,b.I⟩]:List (Int × Int))::box d 147 [zM (some c)]::iD c ([]:(List ((Int × Int) × Int)))::box l 29 x::box n 29 r::box m 29 u::L) w36)
 refine aI (aQ ?_)
 obtain ⟨K38,a51,a52,a53,a54⟩:=aK.lendB (i:=0) a50 rfl
 obtain ⟨K43,a55,w7,a56,a57⟩:=aK.lendS (i:=0) a53 a51 rfl
 obtain ⟨K48,q3,a59,w8,a60⟩:=aK.lendB (i:=0) a56 rfl
 refine gA (C:=fun w'=>∃ L',aK G K48 L' w') [(0,0),(1,0),(2,0),(3,0),(4,2)] bT (by kernel_rfl) (fun _ hg=>⟨_,aK.mono w8 hg⟩) (fun w53 a61=>?_)
 have f4:=aK.mono w8 a61
 refine bZ rfl (fun _ ⟨_,f4⟩=>bK (t:=0) aEv f4 a59 rfl rfl) (bZ rfl (fun _ ⟨_,f4⟩=>bK (t:=0) aDt f4 (a52.mono (zL a55 q3)) rfl rfl) ?_)
 obtain ⟨q4,q5,y⟩:=aD y
 have a62:=rd_lies (w7.mono q3) q5
 refine bZ rfl (fun _ _=>dW aBY rfl a62 rfl rfl rfl q5) ?_
 obtain ⟨d43,a63,a64⟩:=dB.el (sz:=2) rfl (w7.mono q3) q5
 cases a64
 refine bZ rfl (fun _ ⟨_,f4⟩=>fZ (t:=0) (vs:=[i64 q4.1,i64 q4.2]) yB f4 a63 rfl rfl rfl) ?_
 have a65:=a60 _ _ f4
 have a66:=a57 _ _ a65
 have a67:=a54 _ _ a66
 refine aFy rfl ?_
 obtain ⟨m66,q67,y⟩:=aD y
 refine aCg (i:=3) (k:=q4) (v:=0) Tryz.runUnderlying147 aEw a67 rfl rfl rfl rfl q67 (fun w68 (a71:aK G K (box e 149 [zS e5 ([⟨a.I,b.I⟩]:List (Int × Int)).length 1]::aN 148 K e5 1 ([⟨a.I,b.I⟩]:List (Int × Int))::box d 147 [zM (some c)]::iD c m66::box l 29 x::box n 29 r::box m 29 u::L) w68)=>(aI (lY (aC (aM (bS (vs:=[zS none 0 0]) Tryz.zeroValue150 a71 rfl (fun g w71 a72=>(aI (aQ (aM (aH (v:=i64 0) (aI (bE (fun f w=>∃ (g5:(List ((Int × Int) × Int))) (d9:List (Int × Int)) (a6:List iL) (a0:Option Addr) (a2:Nat) (b0:Option Addr) (b1:Nat),pD a b g5 d9 a6=some R∧f 3=zP (some ⟨m,0,none⟩)∧f 4=zP (some ⟨n,0,none⟩)∧f 6=zP (some ⟨l,0,none⟩)∧f 7=zP (some ⟨d,0,none⟩)∧f 8=zP (some ⟨e,0,none⟩)∧f 9=zP (some ⟨g,0,none⟩)∧aK G K (aN 152 K b0 b1 a6::aN 148 K a0 a2 d9::box g 150 [zS b0 a6.length b1]::box e 149 [zS a0 d9.length a2]::box d 147 [zM (some c)]::iD c g5::box l 29 x::box n 29 r::box m 29 u::L) w) ?_ ?_)))))))))))))
 ·rintro f w86 ⟨g5,d9,a6,a0,a2,b0,b1,y,e80,e81,e82,e83,l1,e85,l2⟩
  unfold pD at y
  refine aC (aM (aF (cC aDt l2 (i:=3) rfl l1 rfl) ?_))
  obtain ⟨q,q6,y⟩:=aD y
  have w9:=cY l2 (i:=1) rfl q6
  refine aF (dW aBY rfl w9 rfl rfl rfl q6) (aF (tL (t:=0) (vs:=[i64 q.1,i64 q.2]) yB l2 (i:=1) rfl q6 rfl rfl rfl rfl) (bS (vs:=[i64 0,i64 0]) Tryz.zeroValue148 l2 rfl (fun b6 w92 a80=>(bR (i:=0) (ns:=[i64 q.1,i64 q.2]) (us:=[i64 q.1,i64 q.2]) Tryz.sizeOf148 a80 rfl rfl rfl rfl rfl (cX rfl) rfl rfl (fun x0 (x1:aK G K (box b6 148 [i64 q.1,i64 q.2]::aN 152 K b0 b1 a6::aN 148 K a0 a2 d9::box g 150 [zS b0 a6.length b1]::box e 149 [zS a0 d9.length a2]::box d 147 [zM (some c)]::iD c g5::box l 29 x::box n 29 r::box m 29 u::L) x0)=>(aI (aM (aF (cC aDt x1 (i:=4) rfl l1 rfl) ?_))))))))
  have a81:aK G K (aN 148 K a0 a2 d9::box b6 148 [i64 q.1,i64 q.2]::aN 152 K b0 b1 a6::box g 150 [zS b0 a6.length b1]::box e 149 [zS a0 d9.length a2]::box d 147 [zM (some c)]::iD c g5::box l 29 x::box n 29 r::box m 29 u::L) x0:=(aK.arr 3 [2,0,1] x1 rfl)
  obtain ⟨V,q98,y⟩:=aD y
  refine aU (vs:=[zS a0 d9.length a2,Value.func (.func 124) #[] #[]]) Tryz.call123 rfl (lib_SortPair a81 q98) ?_
  rintro _ a83 ⟨rfl,a84,a85⟩
  have x2:aK G K (aN 148 K a0 a2 V::box b6 148 [i64 q.1,i64 q.2]::aN 152 K b0 b1 a6::box g 150 [zS b0 a6.length b1]::box e 149 [zS a0 V.length a2]::box d 147 [zM (some c)]::iD c g5::box l 29 x::box n 29 r::box m 29 u::L) a83:=by rw [←a84];exact a85
  refine aI (aQ (aM (aF (cC aDt x2 (i:=4) rfl l1 rfl) (aF (bN (len:=V.length) aBY rfl) (aP (v:=i64 0) (aI (bE (fun f w=>∃ (a8:(List ((Int × Int) × Int))),sA a b a6 q V a8=some R∧f 3=zP (some ⟨m,0,none⟩)∧f 4=zP (some ⟨n,0,none⟩)∧f 6=zP (some ⟨l,0,none⟩)∧f 7=zP (some ⟨d,0,none⟩)∧f 8=zP (some ⟨e,0,none⟩)∧f 9=zP (some ⟨g,0,none⟩)∧f 21=zP (some ⟨b6,0,none⟩)∧aK G K (aN 148 K a0 a2 V::box b6 148 [i64 q.1,i64 q.2]::aN 152 K b0 b1 a6::box g 150 [zS b0 a6.length b1]::box e 149 [zS a0 V.length a2]::box d 147 [zM (some c)]::iD c a8::box l 29 x::box n 29 r::box m 29 u::L) w) ?_ ?_)))))))
  ·rintro f d47 ⟨a8,y,a86,a87,a88,a89,a90,a91,a92,x3⟩
   unfold sA at y
   refine aC (aM (aH (v:=zS none 0 0) (aI (aQ (aM (aF (cC sc_150 x3 (i:=3) rfl a91 rfl) (aF (bN (len:=a6.length) aJG rfl) (aP (v:=i64 0) (aI (bE (fun f w=>∃ (f5:List iC) (g6:Option Addr) (g7:Nat),rZ a b q V a8 f5=some R∧f 3=zP (some ⟨m,0,none⟩)∧f 4=zP (some ⟨n,0,none⟩)∧f 6=zP (some ⟨l,0,none⟩)∧f 7=zP (some ⟨d,0,none⟩)∧f 8=zP (some ⟨e,0,none⟩)∧f 21=zP (some ⟨b6,0,none⟩)∧f 24=zS g6 f5.length g7∧aK G K (aN 160 K g6 g7 f5::aN 148 K a0 a2 V::box b6 148 [i64 q.1,i64 q.2]::box e 149 [zS a0 V.length a2]::box d 147 [zM (some c)]::iD c a8::box l 29 x::box n 29 r::box m 29 u::L) w) ?_ ?_))))))))))
   ·rintro f d48 ⟨f5,g6,g7,y,a93,a94,x4,a95,a96,a97,a98,a99⟩
    unfold rZ at y
    refine aC (aQ ?_)
    obtain ⟨d49,q7,b00,b01,b02⟩:=aK.lendB (i:=2) a99 rfl
    obtain ⟨d50,l3,b03,b04,b05⟩:=aK.lendB (i:=2) b01 rfl
    obtain ⟨d51,j3,b06,b07,b08⟩:=aK.lendB (i:=2) b04 rfl
    obtain ⟨d52,g8,b09,b10,b11⟩:=aK.lendM (i:=2) b07 rfl
    obtain ⟨d53,f6,b12,b14,b15⟩:=aK.lendB (i:=3) b10 rfl
    obtain ⟨x5,e6,b17,x6,b18⟩:=aK.lendB (i:=3) b14 rfl
    refine gA (C:=fun w'=>∃ L',aK G x5 L' w') [(0,0),(1,0),(2,0),(3,0),(4,0),(5,0),(6,0),(7,0),(8,0),(11,0),(9,1),(10,1),(12,1),(13,2)] bT (by kernel_rfl) (fun _ hg=>⟨_,aK.mono x6 hg⟩) (fun d54 b20=>?_)
    have b8:=aK.mono x6 b20
    refine bZ rfl (fun _ ⟨_,b8⟩=>bK (t:=0) aDt b8 (b03.mono (zL (zL (zL j3 g8) f6) e6)) a96 rfl) (bZ rfl (fun _ _=>bN (len:=V.length) aBY rfl) (bZ rfl (fun _ ⟨_,b8⟩=>bK (t:=0) aEv b8 (b06.mono (zL (zL g8 f6) e6)) a95 rfl) (bZ rfl (fun _ ⟨_,b8⟩=>fZ (t:=0) (vs:=[i64 q.1,i64 q.2]) yB b8 (b00.mono (zL (zL (zL (zL l3 j3) g8) f6) e6)) a97 rfl rfl) (bZ rfl (fun _ ⟨_,b8⟩=>aGY (kv:=a8) (k:=q) (z:=(0:Int)) Tryz.runUnderlying147 aEw Tryz.zeroValue2 b8 (b09.mono (zL f6 e6)) rfl rfl) (bZ rfl (fun _ _=>bL (t':=2) eG a93 rfl) (bZ rfl (fun _ ⟨_,b8⟩=>bK (t:=2) iT b8 b17 rfl rfl) (bZ rfl (fun _ _=>bL (t':=2) eG a94 rfl) (bZ rfl (fun _ ⟨_,b8⟩=>bK (t:=2) iT b8 (b12.mono e6) rfl rfl) (bZ rfl (fun _ _=>aZ a98) (kD rfl (cT (Kt:=K) (xs:=([a.L,b.L]:List (List bB))) (cs:=[zS a1 a.L.length c2,zS a7 b.L.length c8]) (vs:=[(0,zS a1 a.L.length c2),(1,zS a7 b.L.length c8)]) aHe ez_22 rfl rfl b8 rfl (by kernel_rfl) rfl rfl rfl ⟨⟨a1,c2,rfl,h3⟩,⟨a7,c8,rfl,h9⟩,trivial⟩ (fun q8 b21 (x7:aK G x5 (aN 22 K q8 2 ([a.L,b.L]:List (List bB))::aN 160 K g6 g7 f5::aN 148 K a0 a2 V::box l 29 x::L) b21)=>(bA (aC ⟨⟨_,x7⟩,?_⟩))))))))))))))
    refine kD rfl ?_
    obtain ⟨d55,d56,b22,b23,b24⟩:=aK.lendS (i:=0) x7 (zL (zL (zL (zL (zL q7 l3) j3) g8) f6) e6) rfl
    obtain ⟨x8,b26,y⟩:=aD y
    refine aU (vs:=[zS q8 ([a.L,b.L]:List (List bB)).length 2]) Tryz.call126 rfl (tF b23 b22 b26) ?_
    rintro _ d57 ⟨x9,y0,rfl,b27⟩
    have y1:=b24 _ _ b27
    refine bA (aC ⟨⟨_,y1⟩,?_⟩)
    refine kD rfl ?_
    obtain ⟨d58,b28,b29,b30,b31⟩:=aK.lendS (i:=1) y1 (zL (zL (zL (zL (zL q7 l3) j3) g8) f6) e6) rfl
    obtain ⟨d59,b32,b34,b35,b36⟩:=aK.lendS (i:=1) b30 (zL (zL (zL (zL (zL (zL q7 l3) j3) g8) f6) e6) b28) rfl
    obtain ⟨b4,b37,y⟩:=aD y
    refine aU (vs:=[i64 (V.length:Int),i64 ((fS a8 q).getD 0),zS x9 x8.length y0,zS g6 f5.length g7]) Tryz.call118 rfl (sG b35 (b29.mono b32) b34 b37) ?_
    rintro _ d60 ⟨g9,h0,h1,h2,rfl,b38⟩
    have b39:=b36 _ _ b38
    have y2:=b31 _ _ b39
    refine bA (aC ⟨⟨_,y2⟩,?_⟩)
    have b40:=b18 _ _ y2
    have b41:=b15 _ _ b40
    have b42:=b11 _ _ b41
    have b43:=b08 _ _ b42
    have b44:=b05 _ _ b43
    have b45:=b02 _ _ b44
    refine aFy rfl (bR (i:=12) (ns:=(zC b4 g9 h0 h1 h2)) (us:=(zC b4 g9 h0 h1 h2)) Tryz.sizeOf29 b45 rfl x4 rfl rfl rfl (cX rfl) rfl rfl (fun b46 (y3:aK G K (box b6 148 [i64 q.1,i64 q.2]::box e 149 [zS a0 V.length a2]::box d 147 [zM (some c)]::iD c a8::box n 29 r::box m 29 u::aN 9 K x9 y0 x8::aN 160 K g6 g7 f5::aN 9 K g9 h0 b4.L::aN 63 K h1 h2 b4.E::aN 22 K q8 2 ([a.L,b.L]:List (List bB))::aN 148 K a0 a2 V::box l 29 (zC b4 g9 h0 h1 h2)::L) b46)=>(aI (lY (aC ?_)))))
    obtain rfl:=zI y
    exact bH (aBK Tryz.results51 (dZ (vs:=(zC b4 g9 h0 h1 h2)) rfl dI y3 (i:=12) rfl x4 rfl) ⟨g9,h0,h1,h2,rfl,(aK.arr 13 [8,9] y3 rfl)⟩)
   have b48:=aK.nil (α:=iC) x3 160 K
   obtain ⟨d61,b49,y⟩:=aD y
   refine cD b49 (fun (s:(List iC × Int)) f w=>match s with|(e7,j4)=>∃ (h4:Option Addr) (h5:Nat),f 3=zP (some ⟨m,0,none⟩)∧f 4=zP (some ⟨n,0,none⟩)∧f 6=zP (some ⟨l,0,none⟩)∧f 7=zP (some ⟨d,0,none⟩)∧f 8=zP (some ⟨e,0,none⟩)∧f 21=zP (some ⟨b6,0,none⟩)∧f 24=zS h4 e7.length h5∧f 140=zS b0 a6.length b1∧f 141=i64 (a6.length:Int)∧f 142=i64 j4∧aK G K (aN 160 K h4 h5 e7::aN 148 K a0 a2 V::box b6 148 [i64 q.1,i64 q.2]::aN 152 K b0 b1 a6::box e 149 [zS a0 V.length a2]::box d 147 [zM (some c)]::iD c a8::box l 29 x::box n 29 r::box m 29 u::L) w) ?_ ?_
   ·exact ⟨none,0,a86,a87,a88,a89,a90,a92,rfl,rfl,rfl,rfl,(aK.arr 5 [0,1,2,3] b48 rfl)⟩
   ·rintro ⟨e7,j4⟩ b50 f d62 c1 b51 ⟨h4,h5,y4,y5,y6,l4,y7,y8,y9,z0,z1,q9,l5⟩
    replace c1:jX a6 a8 e7 j4=some b50:=c1
    unfold jX at c1
    refine aM (aF (cG q9 z1) (aI (aQ ?_)))
    rcases aJ c1 with ⟨r0,c1⟩|⟨r0,c1⟩
    ·refine aO r0 rfl (aY (aC (aQ (cW (aM ?_)))))
     obtain ⟨p,r1,c1⟩:=aD c1
     have b52:=cY l5 (i:=3) rfl r1
     refine aF (dW aJG rfl b52 z0 rfl q9 r1) (aF (tL (t:=0) (vs:=[i64 p.from_.1,i64 p.from_.2,str p.label,i64 p.to_.1,i64 p.to_.2]) ag_152 l5 (i:=3) rfl r1 rfl rfl rfl rfl) (bS (vs:=[i64 0,i64 0,str ([]:bB),i64 0,i64 0]) Tryz.zeroValue152 l5 rfl (fun b53 d63 b54=>(bR (i:=0) (ns:=[i64 p.from_.1,i64 p.from_.2,str p.label,i64 p.to_.1,i64 p.to_.2]) (us:=[i64 p.from_.1,i64 p.from_.2,str p.label,i64 p.to_.1,i64 p.to_.2]) Tryz.sizeOf152 b54 rfl rfl rfl rfl rfl (cX rfl) rfl rfl (fun b55 (b56:aK G K (box b53 152 [i64 p.from_.1,i64 p.from_.2,str p.label,i64 p.to_.1,i64 p.to_.2]::aN 160 K h4 h5 e7::aN 148 K a0 a2 V::box b6 148 [i64 q.1,i64 q.2]::aN 152 K b0 b1 a6::box e 149 [zS a0 V.length a2]::box d 147 [zM (some c)]::iD c a8::box l 29 x::box n 29 r::box m 29 u::L) b55)=>(aI ?_))))))
     obtain ⟨d64,z2,r2,b57,b58⟩:=aK.lendB (i:=0) b56 rfl
     obtain ⟨d65,j5,z3,b59,b60⟩:=aK.lendB (i:=5) b57 rfl
     obtain ⟨r3,f7,z4,z5,b61⟩:=aK.lendM (i:=5) b59 rfl
     refine gA (C:=fun w'=>∃ L',aK G r3 L' w') [(0,0),(1,0),(2,0),(3,0),(4,0),(5,0),(6,0),(7,0),(8,0),(9,0),(10,0),(11,0),(12,1),(13,1),(14,0)] bT (by kernel_rfl) (fun _ hg=>⟨_,aK.mono z5 hg⟩) (fun d66 b62=>?_)
     have b7:=aK.mono z5 b62
     refine bZ rfl (fun _ _=>aZ y9) (bZ rfl (fun _ ⟨_,b7⟩=>bK (t:=0) aEv b7 (z3.mono f7) l4 rfl) (bZ rfl (fun _ _=>bL (t':=0) fa_152_0 rfl rfl) (bZ rfl (fun _ ⟨_,b7⟩=>fZ (t:=0) (vs:=[i64 p.from_.1,i64 p.from_.2]) yB b7 (r2.mono (zL j5 f7)) rfl rfl rfl) (bZ rfl (fun _ ⟨_,b7⟩=>aGY (kv:=a8) (k:=p.from_) (z:=(0:Int)) Tryz.runUnderlying147 aEw Tryz.zeroValue2 b7 z4 rfl rfl) (bZ rfl (fun _ _=>bL (t':=2) fa_152_1 rfl rfl) (bZ rfl (fun _ ⟨_,b7⟩=>bK (t:=2) mV b7 (r2.mono (zL j5 f7)) rfl rfl) (bZ rfl (fun _ ⟨_,b7⟩=>bK (t:=0) aEv b7 (z3.mono f7) l4 rfl) (bZ rfl (fun _ _=>bL (t':=3) fa_152_2 rfl rfl) (bZ rfl (fun _ ⟨_,b7⟩=>fZ (t:=3) (vs:=[i64 p.to_.1,i64 p.to_.2]) yB b7 (r2.mono (zL j5 f7)) rfl rfl rfl) (bZ rfl (fun _ ⟨_,b7⟩=>aGY (kv:=a8) (k:=p.to_) (z:=(0:Int)) Tryz.runUnderlying147 aEw Tryz.zeroValue2 b7 z4 rfl rfl) (bZ rfl (fun _ _=>fD (vs:=[(0,i64 ((fS a8 p.from_).getD 0)),(1,str p.label),(2,i64 ((fS a8 p.to_).getD 0))]) (cs:=[i64 ((fS a8 p.from_).getD 0),str p.label,i64 ((fS a8 p.to_).getD 0)]) aFD rfl (by kernel_rfl)) (kD rfl (cT (Kt:=K) (xs:=([⟨((fS a8 p.from_).getD 0),p.label,((fS a8 p.to_).getD 0)⟩]:List iC)) (cs:=[i64 ((fS a8 p.from_).getD 0),str p.label,i64 ((fS a8 p.to_).getD 0)]) (vs:=[(0,zA #[i64 ((fS a8 p.from_).getD 0),str p.label,i64 ((fS a8 p.to_).getD 0)])]) oQ tM rfl rfl b7 rfl (by kernel_rfl) rfl rfl rfl ⟨rfl,trivial⟩ ?_)))))))))))))
     intro b63 b64 (z6:aK G r3 (aN 160 K b63 1 ([⟨((fS a8 p.from_).getD 0),p.label,((fS a8 p.to_).getD 0)⟩]:List iC)::aN 160 K h4 h5 e7::aN 148 K a0 a2 V::box b6 148 [i64 q.1,i64 q.2]::aN 152 K b0 b1 a6::box e 149 [zS a0 V.length a2]::box l 29 x::box n 29 r::box m 29 u::L) b64)
     refine bA (aC ⟨⟨_,z6⟩,?_⟩)
     refine kD rfl ?_
     obtain ⟨r4,b65,c1⟩:=aD c1
     refine eI (i:=0) oQ Tryz.underlying145 tM rfl rfl z6 rfl (zL (zL z2 j5) f7) (zL (zL z2 j5) f7) b65 rfl rfl rfl rfl (fun _ h=>h) (fun r5 r6 b66 (z7:aK G r3 (aN 160 K r5 r6 r4::aN 148 K a0 a2 V::box b6 148 [i64 q.1,i64 q.2]::aN 152 K b0 b1 a6::box e 149 [zS a0 V.length a2]::box l 29 x::box n 29 r::box m 29 u::L) b66)=>(bA (aC ⟨⟨_,z7⟩,?_⟩)))
     refine bZ rfl (fun _ _=>dH (v:=zS r5 r4.length r6) rfl) (lY ?_)
     have b67:=b61 _ _ z7
     have b68:=b60 _ _ b67
     have b69:=b58 _ _ b68
     exact bG (aC (aS (aF (cQ q9 rfl) (aP (v:=i64 (wr (j4+1))) (aI ⟨(r4,wr (j4+1)),(zI c1).symm,r5,r6,y4,y5,y6,l4,y7,y8,rfl,z0,z1,rfl,(aK.arr 8 [3,4,5,6,7,1,2] b69 rfl)⟩)))))
    ·refine aL r0 rfl (cB (aV (aV ?_)))
     have b71:=b51 _ (zI c1).symm
     subst b71
     have y:(rZ a b q V a8 e7)=some R:=y
     exact bJ (aC ⟨e7,h4,h5,y,y4,y5,y6,l4,y7,y8,y9,(aK.arr 4 [0,1,2] l5 rfl)⟩)
  obtain ⟨d67,b72,y⟩:=aD y
  refine cD b72 (fun (s:((List ((Int × Int) × Int)) × Int)) f w=>match s with|(h7,e8)=>f 3=zP (some ⟨m,0,none⟩)∧f 4=zP (some ⟨n,0,none⟩)∧f 6=zP (some ⟨l,0,none⟩)∧f 7=zP (some ⟨d,0,none⟩)∧f 8=zP (some ⟨e,0,none⟩)∧f 9=zP (some ⟨g,0,none⟩)∧f 21=zP (some ⟨b6,0,none⟩)∧f 129=zS a0 V.length a2∧f 130=i64 (V.length:Int)∧f 131=i64 e8∧aK G K (aN 148 K a0 a2 V::box b6 148 [i64 q.1,i64 q.2]::aN 152 K b0 b1 a6::box g 150 [zS b0 a6.length b1]::box e 149 [zS a0 V.length a2]::box d 147 [zM (some c)]::iD c h7::box l 29 x::box n 29 r::box m 29 u::L) w) ?_ ?_
  ·exact ⟨e80,e81,e82,e83,l1,e85,rfl,rfl,rfl,rfl,x2⟩
  ·rintro ⟨h7,e8⟩ b73 f d68 c3 b74 ⟨z8,z9,a00,r7,a01,a02,a03,a04,a05,l6,r8⟩
   replace c3:jY V h7 e8=some b73:=c3
   unfold jY at c3
   refine aM (aF (cG l6 a05) (aI (aQ ?_)))
   rcases aJ c3 with ⟨r9,c3⟩|⟨r9,c3⟩
   ·refine aO r9 rfl (aY (aC (aQ (cW (aM (aT l6 ?_))))))
    obtain ⟨b9,a06,c3⟩:=aD c3
    refine aF (dW aBY rfl w9 a04 rfl l6 a06) (aF (tL (t:=0) (vs:=[i64 b9.1,i64 b9.2]) yB r8 (i:=0) rfl a06 rfl rfl rfl rfl) (bS (vs:=[i64 0,i64 0]) Tryz.zeroValue148 r8 rfl (fun a07 d69 b75=>(aH (v:=i64 e8) (bR (i:=0) (ns:=[i64 b9.1,i64 b9.2]) (us:=[i64 b9.1,i64 b9.2]) Tryz.sizeOf148 b75 rfl rfl rfl rfl rfl (cX rfl) rfl rfl (fun b76 (s0:aK G K (box a07 148 [i64 b9.1,i64 b9.2]::aN 148 K a0 a2 V::box b6 148 [i64 q.1,i64 q.2]::aN 152 K b0 b1 a6::box g 150 [zS b0 a6.length b1]::box e 149 [zS a0 V.length a2]::box d 147 [zM (some c)]::iD c h7::box l 29 x::box n 29 r::box m 29 u::L) b76)=>(aI (aS (aF (cC aEv s0 (i:=6) rfl r7 rfl) (aF (dX (us:=[i64 b9.1,i64 b9.2]) yB s0 (i:=0) rfl rfl rfl rfl) (aP (v:=i64 e8) ?_)))))))))))
    obtain ⟨a08,b77,c3⟩:=aD c3
    exact aCg (i:=7) (k:=b9) (v:=e8) Tryz.runUnderlying147 aEw s0 rfl rfl rfl rfl b77 (fun b78 (b79:aK G K (box a07 148 [i64 b9.1,i64 b9.2]::aN 148 K a0 a2 V::box b6 148 [i64 q.1,i64 q.2]::aN 152 K b0 b1 a6::box g 150 [zS b0 a6.length b1]::box e 149 [zS a0 V.length a2]::box d 147 [zM (some c)]::iD c a08::box l 29 x::box n 29 r::box m 29 u::L) b78)=>(bA (bG (aC (aS (aF (cQ l6 rfl) (aP (v:=i64 (wr (e8+1))) (aI ⟨(a08,wr (e8+1)),(zI c3).symm,z8,z9,a00,r7,a01,a02,a03,a04,a05,rfl,(aK.arr 1 [] b79 rfl)⟩))))))))
   ·refine aL r9 rfl (cB (aV (aV ?_)))
    have b80:=b74 _ (zI c3).symm
    subst b80
    have y:(sA a b a6 q V h7)=some R:=y
    exact bJ (aC ⟨h7,y,z8,z9,a00,r7,a01,a02,a03,r8⟩)
 have b81:=aK.nil (α:=iL) a72 152 K
 obtain ⟨d70,b82,y⟩:=aD y
 refine cD b82 (fun (s:((List ((Int × Int) × Int)) × List (Int × Int) × List iL × Int)) f w=>match s with|(h8,e0,e9,b3)=>∃ (f8:Option Addr) (f9:Nat) (g0:Option Addr) (g1:Nat),f 2=Value.func (.func 52) #[] #[]∧f 3=zP (some ⟨m,0,none⟩)∧f 4=zP (some ⟨n,0,none⟩)∧f 6=zP (some ⟨l,0,none⟩)∧f 7=zP (some ⟨d,0,none⟩)∧f 8=zP (some ⟨e,0,none⟩)∧f 9=zP (some ⟨g,0,none⟩)∧f 10=i64 b3∧aK G K (aN 152 K g0 g1 e9::box g 150 [zS g0 e9.length g1]::box e 149 [zS f8 e0.length f9]::aN 148 K f8 f9 e0::box d 147 [zM (some c)]::iD c h8::box l 29 x::box n 29 r::box m 29 u::L) w) ?_ ?_
 ·exact ⟨e5,1,none,0,rfl,rfl,rfl,rfl,rfl,rfl,rfl,rfl,b81⟩
 ·rintro ⟨h8,e0,e9,b3⟩ i0 f d71 a5 b83 ⟨f8,f9,g0,g1,b84,s1,a09,a11,s2,j6,s3,s4,i1⟩
  replace a5:gR a b h8 e0 e9 b3=some i0:=a5
  unfold gR at a5
  refine aQ (aM (aT s4 (aF (cC aDt i1 (i:=2) rfl j6 rfl) (aF (bN (len:=e0.length) aBY rfl) (aF (cG rfl rfl) (aI ?_))))))
  rcases aJ a5 with ⟨s5,a5⟩|⟨s5,a5⟩
  ·refine aO s5 rfl (aY (aC (aQ (bE (fun f w=>∃ (l7:(List ((Int × Int) × Int))) (j7:List (Int × Int)) (j8:List iL) (l8:Option Addr) (l9:Nat) (m0:Option Addr) (m1:Nat),xQ b3 l7 j7 j8=some i0∧f 2=Value.func (.func 52) #[] #[]∧f 3=zP (some ⟨m,0,none⟩)∧f 4=zP (some ⟨n,0,none⟩)∧f 6=zP (some ⟨l,0,none⟩)∧f 7=zP (some ⟨d,0,none⟩)∧f 8=zP (some ⟨e,0,none⟩)∧f 9=zP (some ⟨g,0,none⟩)∧f 10=i64 b3∧aK G K (aN 152 K m0 m1 j8::aN 148 K l8 l9 j7::box g 150 [zS m0 j8.length m1]::box e 149 [zS l8 j7.length l9]::box d 147 [zM (some c)]::iD c l7::box l 29 x::box n 29 r::box m 29 u::L) w) ?_ ?_))))
   ·rintro f d72 ⟨l7,j7,j8,l8,l9,m0,m1,a5,b85,b86,b87,b88,b89,b90,b92,b93,b94⟩
    unfold xQ at a5
    exact aC (aS (aT b93 (aF (cQ rfl rfl) (aH (v:=i64 (wr (b3+1))) (aI ⟨(l7,j7,j8,wr (b3+1)),(zI a5).symm,l8,l9,m0,m1,b85,b86,b87,b88,b89,b90,b92,rfl,(aK.arr 4 [0,2,3,1] b94 rfl)⟩)))))
   refine aM (aF (cC aDt i1 (i:=2) rfl j6 rfl) (aT s4 ?_))
   obtain ⟨o,s6,a5⟩:=aD a5
   have b95:=cY i1 (i:=3) rfl s6
   refine aF (dW aBY rfl b95 rfl rfl rfl s6) (aF (tL (t:=0) (vs:=[i64 o.1,i64 o.2]) yB i1 (i:=3) rfl s6 rfl rfl rfl rfl) (bS (vs:=[i64 0,i64 0]) Tryz.zeroValue148 i1 rfl (fun Z d73 b96=>(bR (i:=0) (ns:=[i64 o.1,i64 o.2]) (us:=[i64 o.1,i64 o.2]) Tryz.sizeOf148 b96 rfl rfl rfl rfl rfl (cX rfl) rfl rfl (fun b97 (s7:aK G K (box Z 148 [i64 o.1,i64 o.2]::aN 152 K g0 g1 e9::box g 150 [zS g0 e9.length g1]::box e 149 [zS f8 e0.length f9]::aN 148 K f8 f9 e0::box d 147 [zM (some c)]::iD c h8::box l 29 x::box n 29 r::box m 29 u::L) b97)=>(aI (aM (aF (vG (vs:=[zP (some ⟨g,0,none⟩),zP (some ⟨Z,0,none⟩),zP (some ⟨d,0,none⟩),zP (some ⟨e,0,none⟩)]) (lst4 s3 rfl s2 j6)) (aH (v:=Value.func (.func 120) #[] #[zP (some ⟨g,0,none⟩),zP (some ⟨Z,0,none⟩),zP (some ⟨d,0,none⟩),zP (some ⟨e,0,none⟩)]) (aI (aQ (aM (aF (dX (us:=u) dI s7 (i:=9) rfl s1 rfl rfl) (aF (R_ixP (t':=0) (j:=0) aBb rfl rfl (by decide) (by decide) rfl) (aF (cC cV s7 (i:=0) rfl rfl rfl) ?_)))))))))))))))
   obtain ⟨b5,b98,a5⟩:=aD a5
   refine aU (vs:=[zA (zCa a a1 c2 a4 c5),i64 o.1]) Tryz.call121 rfl (aBs s7 h3 h6 b98) ?_
   rintro _ d74 ⟨c4,c6,rfl,b99⟩
   refine aF (bN (len:=b5.length) cK rfl) (aP (v:=i64 0) (aI (bE (fun f w=>∃ (s8:(List ((Int × Int) × Int))) (m2:List (Int × Int)) (m3:List iL) (m4:Option Addr) (m5:Nat) (m6:Option Addr) (m7:Nat),nD b b3 o s8 m2 m3=some i0∧f 2=Value.func (.func 52) #[] #[]∧f 3=zP (some ⟨m,0,none⟩)∧f 4=zP (some ⟨n,0,none⟩)∧f 6=zP (some ⟨l,0,none⟩)∧f 7=zP (some ⟨d,0,none⟩)∧f 8=zP (some ⟨e,0,none⟩)∧f 9=zP (some ⟨g,0,none⟩)∧f 10=i64 b3∧f 11=zP (some ⟨Z,0,none⟩)∧f 12=Value.func (.func 120) #[] #[zP (some ⟨g,0,none⟩),zP (some ⟨Z,0,none⟩),zP (some ⟨d,0,none⟩),zP (some ⟨e,0,none⟩)]∧aK G K (aN 152 K m6 m7 m3::aN 148 K m4 m5 m2::box Z 148 [i64 o.1,i64 o.2]::box g 150 [zS m6 m3.length m7]::box e 149 [zS m4 m2.length m5]::box d 147 [zM (some c)]::iD c s8::box l 29 x::box n 29 r::box m 29 u::L) w) ?_ ?_)))
   ·rintro f d75 ⟨s8,m2,m3,m4,m5,m6,m7,a5,c00,c01,a12,c02,c03,c04,c05,c06,a13,c07,s9⟩
    unfold nD at a5
    refine aC (aM (aF (dX (us:=r) dI s9 (i:=8) rfl a12 rfl rfl) (aF (R_ixP (t':=1) (j:=1) aBb a13 rfl (by decide) (by decide) rfl) (aF (cC cV s9 (i:=2) rfl rfl rfl) ?_))))
    obtain ⟨d8,c08,a5⟩:=aD a5
    refine aU (vs:=[zA (zCa b a7 c8 a10 c11),i64 o.2]) Tryz.call121 rfl (aBs s9 h9 w2 c08) ?_
    rintro _ d76 ⟨i2,i3,rfl,c09⟩
    refine aF (bN (len:=d8.length) cK rfl) (aP (v:=i64 0) (aI (bE (fun f w=>∃ (m8:(List ((Int × Int) × Int))) (j9:List (Int × Int)) (k0:List iL) (m9:Option Addr) (n0:Nat) (n1:Option Addr) (n2:Nat),sB b3 m8 j9 k0=some i0∧f 2=Value.func (.func 52) #[] #[]∧f 3=zP (some ⟨m,0,none⟩)∧f 4=zP (some ⟨n,0,none⟩)∧f 6=zP (some ⟨l,0,none⟩)∧f 7=zP (some ⟨d,0,none⟩)∧f 8=zP (some ⟨e,0,none⟩)∧f 9=zP (some ⟨g,0,none⟩)∧f 10=i64 b3∧aK G K (aN 152 K n1 n2 k0::aN 148 K m9 n0 j9::box g 150 [zS n1 k0.length n2]::box e 149 [zS m9 j9.length n0]::box d 147 [zM (some c)]::iD c m8::box l 29 x::box n 29 r::box m 29 u::L) w) ?_ ?_)))
    ·rintro f d77 ⟨m8,j9,k0,m9,n0,n1,n2,a5,c10,c12,c13,c14,c15,c16,c17,c18,c19⟩
     unfold sB at a5
     exact bG (aC ⟨m8,j9,k0,m9,n0,n1,n2,a5,c10,c12,c13,c14,c15,c16,c17,c18,c19⟩)
    obtain ⟨d78,c20,a5⟩:=aD a5
    refine cD c20 (fun (s:((List ((Int × Int) × Int)) × List (Int × Int) × List iL × Int)) f w=>match s with|(f0,d1,d2,g2)=>∃ (e1:Option Addr) (e2:Nat) (e3:Option Addr) (e4:Nat),f 2=Value.func (.func 52) #[] #[]∧f 3=zP (some ⟨m,0,none⟩)∧f 4=zP (some ⟨n,0,none⟩)∧f 6=zP (some ⟨l,0,none⟩)∧f 7=zP (some ⟨d,0,none⟩)∧f 8=zP (some ⟨e,0,none⟩)∧f 9=zP (some ⟨g,0,none⟩)∧f 10=i64 b3∧f 11=zP (some ⟨Z,0,none⟩)∧f 12=Value.func (.func 120) #[] #[zP (some ⟨g,0,none⟩),zP (some ⟨Z,0,none⟩),zP (some ⟨d,0,none⟩),zP (some ⟨e,0,none⟩)]∧f 99=zS i2 d8.length i3∧f 100=i64 (d8.length:Int)∧f 101=i64 g2∧aK G K (aN 63 K i2 i3 d8::aN 152 K e3 e4 d2::aN 148 K e1 e2 d1::box Z 148 [i64 o.1,i64 o.2]::box g 150 [zS e3 d2.length e4]::box e 149 [zS e1 d1.length e2]::box d 147 [zM (some c)]::iD c f0::box l 29 x::box n 29 r::box m 29 u::L) w) ?_ ?_
    ·exact ⟨m4,m5,m6,m7,c00,c01,a12,c02,c03,c04,c05,c06,a13,c07,rfl,rfl,rfl,c09⟩
    ·rintro ⟨f0,d1,d2,g2⟩ a14 f d79 a9 c21 ⟨e1,e2,e3,e4,n3,t0,n4,t1,t2,t3,t4,t5,t6,t7,t8,t9,n5,n6⟩
     replace a9:jZ b o d8 f0 d1 d2 g2=some a14:=a9
     unfold jZ at a9
     refine aM (aF (cG n5 t9) (aI (aQ ?_)))
     rcases aJ a9 with ⟨u0,a9⟩|⟨u0,a9⟩
     ·refine aO u0 rfl (aY (aC (aQ (bE (fun f w=>∃ (n7:(List ((Int × Int) × Int))) (k1:List (Int × Int)) (k2:List iL) (n8:Option Addr) (n9:Nat) (o0:Option Addr) (o1:Nat),sC g2 n7 k1 k2=some a14∧f 2=Value.func (.func 52) #[] #[]∧f 3=zP (some ⟨m,0,none⟩)∧f 4=zP (some ⟨n,0,none⟩)∧f 6=zP (some ⟨l,0,none⟩)∧f 7=zP (some ⟨d,0,none⟩)∧f 8=zP (some ⟨e,0,none⟩)∧f 9=zP (some ⟨g,0,none⟩)∧f 10=i64 b3∧f 11=zP (some ⟨Z,0,none⟩)∧f 12=Value.func (.func 120) #[] #[zP (some ⟨g,0,none⟩),zP (some ⟨Z,0,none⟩),zP (some ⟨d,0,none⟩),zP (some ⟨e,0,none⟩)]∧f 99=zS i2 d8.length i3∧f 100=i64 (d8.length:Int)∧f 101=i64 g2∧aK G K (aN 152 K o0 o1 k2::aN 148 K n8 n9 k1::aN 63 K i2 i3 d8::box Z 148 [i64 o.1,i64 o.2]::box g 150 [zS o0 k2.length o1]::box e 149 [zS n8 k1.length n9]::box d 147 [zM (some c)]::iD c n7::box l 29 x::box n 29 r::box m 29 u::L) w) ?_ ?_))))
      ·rintro f d80 ⟨n7,k1,k2,n8,n9,o0,o1,a9,c22,c23,c24,c25,c26,c27,c28,c29,c30,c31,c32,c33,c34,c35⟩
       unfold sC at a9
       exact aC (aS (aF (cQ c34 rfl) (aP (v:=i64 (wr (g2+1))) (aI ⟨(n7,k1,k2,wr (g2+1)),(zI a9).symm,n8,n9,o0,o1,c22,c23,c24,c25,c26,c27,c28,c29,c30,c31,c32,c33,rfl,(aK.arr 3 [2,0,1] c35 rfl)⟩))))
      refine aM ?_
      obtain ⟨b2,u1,a9⟩:=aD a9
      have c36:=cY n6 (i:=0) rfl u1
      refine aF (dW cK rfl c36 t8 rfl n5 u1) (aF (tL (t:=0) (vs:=[i64 b2.F,i64 b2.B,i64 b2.To]) lU n6 (i:=0) rfl u1 rfl rfl rfl rfl) (bS (vs:=[i64 0,i64 0,i64 0]) Tryz.zeroValue63 n6 rfl (fun a15 d81 c37=>(bR (i:=0) (ns:=[i64 b2.F,i64 b2.B,i64 b2.To]) (us:=[i64 b2.F,i64 b2.B,i64 b2.To]) Tryz.sizeOf63 c37 rfl rfl rfl rfl rfl (cX rfl) rfl rfl (fun c38 (o2:aK G K (box a15 63 [i64 b2.F,i64 b2.B,i64 b2.To]::aN 63 K i2 i3 d8::aN 152 K e3 e4 d2::aN 148 K e1 e2 d1::box Z 148 [i64 o.1,i64 o.2]::box g 150 [zS e3 d2.length e4]::box e 149 [zS e1 d1.length e2]::box d 147 [zM (some c)]::iD c f0::box l 29 x::box n 29 r::box m 29 u::L) c38)=>(aI (aM (aF (bL (t':=2) eG n4 rfl) (aF (cC iT o2 (i:=10) rfl rfl rfl) (aF (bL (t':=1) iF rfl rfl) (aF (cC cV o2 (i:=0) rfl rfl rfl) ?_)))))))))))
      obtain ⟨g3,a16,a9⟩:=aD a9
      refine aF (dN cF rfl h9 rfl rfl rfl a16) ?_
      obtain ⟨d82,c39,c40⟩:=dB.el (sz:=1) rfl h9 a16
      cases c40
      refine aF (bK (t:=0) mV o2 c39 rfl rfl) (aH (v:=str g3) (aI (aM (aT n3 (aP (v:=str g3) ?_)))))
      obtain ⟨d83,c41,a9⟩:=aD a9
      refine oP (vs:=[str g3]) (caps:=[]) (us:=[str g3]) rfl Tryz.call52 rfl rfl (xS o2 c41) ?_
      rintro _ c42 ⟨rfl,o3⟩
      refine aF (fC rfl) (aI ?_)
      rcases aJ a9 with ⟨u2,a9⟩|⟨u2,a9⟩
      ·refine aO u2 rfl (aS (aT t7 (aP (v:=str g3) (aF (R_ixP (t':=0) (j:=0) aBb t6 rfl (by decide) (by decide) rfl) (aF (cC cV o3 (i:=4) rfl rfl rfl) (aF (bL (t':=2) gX rfl rfl) (aF (cC cV o3 (i:=0) rfl rfl rfl) (aF (aEU (vs:=[(0,i64 o.1),(1,i64 b2.To)]) (cs:=[i64 o.1,i64 b2.To]) aBb aJF rfl (by kernel_rfl)) ?_))))))))
       obtain ⟨c43,d84,c44,c45,c46⟩:=aK.lendB (i:=4) o3 rfl
       have c47:aK G c43 (aN 152 K e3 e4 d2::box g 150 [zS e3 d2.length e4]::iD c f0::box d 147 [zM (some c)]::aN 148 K e1 e2 d1::box e 149 [zS e1 d1.length e2]::box a15 63 [i64 b2.F,i64 b2.B,i64 b2.To]::aN 63 K i2 i3 d8::box l 29 x::box n 29 r::box m 29 u::L) c42:=(aK.arr 8 [2,4,7,6,3,5,0,1] c45 rfl)
       obtain ⟨u3,c48,a9⟩:=aD a9
       refine oP (vs:=[str g3,zA #[i64 o.1,i64 b2.To]]) (caps:=[zP (some ⟨g,0,none⟩),dC (some ⟨Z,0,none⟩) 0,zP (some ⟨d,0,none⟩),zP (some ⟨e,0,none⟩)]) (us:=[str g3,zA #[i64 o.1,i64 b2.To],zP (some ⟨g,0,none⟩),dC (some ⟨Z,0,none⟩) 0,zP (some ⟨d,0,none⟩),zP (some ⟨e,0,none⟩)]) rfl Tryz.call120 rfl rfl (tR (to_:=⟨o.1,b2.To⟩) c47 c44 c48) ?_
       rintro _ d85 ⟨c49,c50,c51,c52,rfl,c53⟩
       have c54:=c46 _ _ c53
       exact bA (bG (aC ⟨u3.2.1,u3.2.2,u3.1,c51,c52,c49,c50,a9,n3,t0,n4,t1,t2,t3,t4,t5,t6,t7,t8,t9,n5,(aK.arr 9 [1,5,8,0,2,6,4,3] c54 rfl)⟩))
      ·exact aL u2 rfl (aY (bG (aC ⟨f0,d1,d2,e1,e2,e3,e4,a9,n3,t0,n4,t1,t2,t3,t4,t5,t6,t7,t8,t9,n5,(aK.arr 4 [2,3,1] o3 rfl)⟩)))
     ·refine aL u0 rfl (cB (aV (aV ?_)))
      have c55:=c21 _ (zI a9).symm
      subst c55
      have a5:(sB b3 f0 d1 d2)=some i0:=a5
      exact bJ (aC ⟨f0,d1,d2,e1,e2,e3,e4,a5,n3,t0,n4,t1,t2,t3,t4,t5,(aK.arr 4 [1,2] n6 rfl)⟩)
   obtain ⟨d86,c56,a5⟩:=aD a5
   refine cD c56 (fun (s:((List ((Int × Int) × Int)) × List (Int × Int) × List iL × Int)) f w=>match s with|(f1,c7,c9,d3)=>∃ (d4:Option Addr) (d5:Nat) (d6:Option Addr) (d7:Nat),f 2=Value.func (.func 52) #[] #[]∧f 3=zP (some ⟨m,0,none⟩)∧f 4=zP (some ⟨n,0,none⟩)∧f 6=zP (some ⟨l,0,none⟩)∧f 7=zP (some ⟨d,0,none⟩)∧f 8=zP (some ⟨e,0,none⟩)∧f 9=zP (some ⟨g,0,none⟩)∧f 10=i64 b3∧f 11=zP (some ⟨Z,0,none⟩)∧f 12=Value.func (.func 120) #[] #[zP (some ⟨g,0,none⟩),zP (some ⟨Z,0,none⟩),zP (some ⟨d,0,none⟩),zP (some ⟨e,0,none⟩)]∧f 52=zS c4 b5.length c6∧f 53=i64 (b5.length:Int)∧f 54=i64 d3∧aK G K (aN 63 K c4 c6 b5::box Z 148 [i64 o.1,i64 o.2]::aN 152 K d6 d7 c9::box g 150 [zS d6 c9.length d7]::box e 149 [zS d4 c7.length d5]::aN 148 K d4 d5 c7::box d 147 [zM (some c)]::iD c f1::box l 29 x::box n 29 r::box m 29 u::L) w) ?_ ?_
   ·exact ⟨f8,f9,g0,g1,b84,s1,a09,a11,s2,j6,s3,s4,rfl,rfl,rfl,rfl,rfl,b99⟩
   ·rintro ⟨f1,c7,c9,d3⟩ o4 f d87 a3 c57 ⟨d4,d5,d6,d7,o5,o6,o7,u4,u5,u6,u7,u8,k3,o8,u9,v0,o9,p0⟩
    replace a3:jJ a b o b5 f1 c7 c9 d3=some o4:=a3
    unfold jJ at a3
    refine aM (aF (cG o9 v0) (aI (aQ ?_)))
    rcases aJ a3 with ⟨v1,a3⟩|⟨v1,a3⟩
    ·refine aO v1 rfl (aY (aC (aQ (bE (fun f w=>∃ (p1:(List ((Int × Int) × Int))) (k4:List (Int × Int)) (k5:List iL) (p2:Option Addr) (p3:Nat) (p4:Option Addr) (p5:Nat),qI d3 p1 k4 k5=some o4∧f 2=Value.func (.func 52) #[] #[]∧f 3=zP (some ⟨m,0,none⟩)∧f 4=zP (some ⟨n,0,none⟩)∧f 6=zP (some ⟨l,0,none⟩)∧f 7=zP (some ⟨d,0,none⟩)∧f 8=zP (some ⟨e,0,none⟩)∧f 9=zP (some ⟨g,0,none⟩)∧f 10=i64 b3∧f 11=zP (some ⟨Z,0,none⟩)∧f 12=Value.func (.func 120) #[] #[zP (some ⟨g,0,none⟩),zP (some ⟨Z,0,none⟩),zP (some ⟨d,0,none⟩),zP (some ⟨e,0,none⟩)]∧f 52=zS c4 b5.length c6∧f 53=i64 (b5.length:Int)∧f 54=i64 d3∧aK G K (aN 152 K p4 p5 k5::aN 148 K p2 p3 k4::aN 63 K c4 c6 b5::box Z 148 [i64 o.1,i64 o.2]::box g 150 [zS p4 k5.length p5]::box e 149 [zS p2 k4.length p3]::box d 147 [zM (some c)]::iD c p1::box l 29 x::box n 29 r::box m 29 u::L) w) ?_ ?_))))
     ·rintro f d88 ⟨p1,k4,k5,p2,p3,p4,p5,a3,c58,c59,c60,c61,c62,c63,c64,c65,c66,c67,c68,c69,c70,c71⟩
      unfold qI at a3
      exact aC (aS (aF (cQ c70 rfl) (aP (v:=i64 (wr (d3+1))) (aI ⟨(p1,k4,k5,wr (d3+1)),(zI a3).symm,p2,p3,p4,p5,c58,c59,c60,c61,c62,c63,c64,c65,c66,c67,c68,c69,rfl,(aK.arr 6 [2,3,0,4,5,1] c71 rfl)⟩))))
     refine aM ?_
     obtain ⟨J,v2,a3⟩:=aD a3
     have c72:=cY p0 (i:=0) rfl v2
     refine aF (dW cK rfl c72 u9 rfl o9 v2) (aF (tL (t:=0) (vs:=[i64 J.F,i64 J.B,i64 J.To]) lU p0 (i:=0) rfl v2 rfl rfl rfl rfl) (bS (vs:=[i64 0,i64 0,i64 0]) Tryz.zeroValue63 p0 rfl (fun i4 d89 c73=>(bR (i:=0) (ns:=[i64 J.F,i64 J.B,i64 J.To]) (us:=[i64 J.F,i64 J.B,i64 J.To]) Tryz.sizeOf63 c73 rfl rfl rfl rfl rfl (cX rfl) rfl rfl (fun c74 (p6:aK G K (box i4 63 [i64 J.F,i64 J.B,i64 J.To]::aN 63 K c4 c6 b5::box Z 148 [i64 o.1,i64 o.2]::aN 152 K d6 d7 c9::box g 150 [zS d6 c9.length d7]::box e 149 [zS d4 c7.length d5]::aN 148 K d4 d5 c7::box d 147 [zM (some c)]::iD c f1::box l 29 x::box n 29 r::box m 29 u::L) c74)=>(aI (aM (aF (bL (t':=2) eG o6 rfl) (aF (cC iT p6 (i:=11) rfl rfl rfl) (aF (bL (t':=1) iF rfl rfl) (aF (cC cV p6 (i:=0) rfl rfl rfl) ?_)))))))))))
     obtain ⟨c0,a17,a3⟩:=aD a3
     refine aF (dN cF rfl h3 rfl rfl rfl a17) ?_
     obtain ⟨d90,c75,c77⟩:=dB.el (sz:=1) rfl h3 a17
     cases c77
     refine aF (bK (t:=0) mV p6 c75 rfl rfl) (aH (v:=str c0) (aI (aQ (aM (aT o5 (aP (v:=str c0) ?_))))))
     obtain ⟨d91,c78,a3⟩:=aD a3
     refine oP (vs:=[str c0]) (caps:=[]) (us:=[str c0]) rfl Tryz.call52 rfl rfl (xS p6 c78) ?_
     rintro _ c80 ⟨rfl,i5⟩
     refine aF (fC rfl) (aI ?_)
     rcases aJ a3 with ⟨v3,a3⟩|⟨v3,a3⟩
     ·refine aO v3 rfl (aM (aT o8 (aP (v:=str c0) (aF (bL (t':=2) gX rfl rfl) (aF (cC cV i5 (i:=0) rfl rfl rfl) (aF (R_ixP (t':=1) (j:=1) aBb k3 rfl (by decide) (by decide) rfl) (aF (cC cV i5 (i:=2) rfl rfl rfl) (aF (aEU (vs:=[(0,i64 J.To),(1,i64 o.2)]) (cs:=[i64 J.To,i64 o.2]) aBb aJF rfl (by kernel_rfl)) ?_))))))))
      obtain ⟨c81,d92,c82,c83,c84⟩:=aK.lendB (i:=2) i5 rfl
      have c85:aK G c81 (aN 152 K d6 d7 c9::box g 150 [zS d6 c9.length d7]::iD c f1::box d 147 [zM (some c)]::aN 148 K d4 d5 c7::box e 149 [zS d4 c7.length d5]::box i4 63 [i64 J.F,i64 J.B,i64 J.To]::aN 63 K c4 c6 b5::box l 29 x::box n 29 r::box m 29 u::L) c80:=(aK.arr 8 [2,3,7,6,5,4,0,1] c83 rfl)
      obtain ⟨v4,c86,a3⟩:=aD a3
      refine oP (vs:=[str c0,zA #[i64 J.To,i64 o.2]]) (caps:=[zP (some ⟨g,0,none⟩),dC (some ⟨Z,0,none⟩) 0,zP (some ⟨d,0,none⟩),zP (some ⟨e,0,none⟩)]) (us:=[str c0,zA #[i64 J.To,i64 o.2],zP (some ⟨g,0,none⟩),dC (some ⟨Z,0,none⟩) 0,zP (some ⟨d,0,none⟩),zP (some ⟨e,0,none⟩)]) rfl Tryz.call120 rfl rfl (tR (to_:=⟨J.To,o.2⟩) c85 c82 c86) ?_
      rintro _ d93 ⟨c87,c88,c89,c90,rfl,c91⟩
      have c92:=c84 _ _ c91
      exact aI (cB (aV (bJ (aC ⟨v4.2.1,v4.2.2,v4.1,c89,c90,c87,c88,a3,o5,o6,o7,u4,u5,u6,u7,u8,k3,o8,u9,v0,o9,(aK.arr 9 [1,5,8,0,2,6,4,3] c92 rfl)⟩))))
     ·refine aL v3 rfl (aY (aC (aM (aF (dX (us:=r) dI i5 (i:=10) rfl o7 rfl rfl) (aF (R_ixP (t':=1) (j:=1) aBb k3 rfl (by decide) (by decide) rfl) (aF (cC cV i5 (i:=2) rfl rfl rfl) (cT (Kt:=K) (xs:=([o.2]:List Int)) (cs:=[i64 o.2]) (vs:=[(0,i64 o.2)]) bY lR rfl rfl i5 rfl (by kernel_rfl) rfl rfl rfl ⟨rfl,trivial⟩ (fun a18 c93 (c94:aK G K (aN 2 K a18 1 ([o.2]:List Int)::box i4 63 [i64 J.F,i64 J.B,i64 J.To]::aN 63 K c4 c6 b5::box Z 148 [i64 o.1,i64 o.2]::aN 152 K d6 d7 c9::box g 150 [zS d6 c9.length d7]::box e 149 [zS d4 c7.length d5]::aN 148 K d4 d5 c7::box d 147 [zM (some c)]::iD c f1::box l 29 x::box n 29 r::box m 29 u::L) c93)=>(aP (v:=str c0) ?_)))))))))
      obtain ⟨d94,a19,c95,c96,c97⟩:=aK.lendS (i:=0) c94 (Hp.le_refl _) rfl
      obtain ⟨i6,c98,a3⟩:=aD a3
      refine aU (vs:=[zA (zCa b a7 c8 a10 c11),zS a18 ([o.2]:List Int).length 1,str c0]) Tryz.call122 rfl (rF c96 (h9.mono a19) (w2.mono a19) c95 c98) ?_
      rintro _ d95 ⟨v5,v6,rfl,c99⟩
      have d00:=c97 _ _ c99
      refine aF (bN (len:=i6.length) bY rfl) (aP (v:=i64 0) (aI (bE (fun f w=>∃ (p7:(List ((Int × Int) × Int))) (k6:List (Int × Int)) (k7:List iL) (p8:Option Addr) (p9:Nat) (q0:Option Addr) (q1:Nat),qJ d3 p7 k6 k7=some o4∧f 2=Value.func (.func 52) #[] #[]∧f 3=zP (some ⟨m,0,none⟩)∧f 4=zP (some ⟨n,0,none⟩)∧f 6=zP (some ⟨l,0,none⟩)∧f 7=zP (some ⟨d,0,none⟩)∧f 8=zP (some ⟨e,0,none⟩)∧f 9=zP (some ⟨g,0,none⟩)∧f 10=i64 b3∧f 11=zP (some ⟨Z,0,none⟩)∧f 12=Value.func (.func 120) #[] #[zP (some ⟨g,0,none⟩),zP (some ⟨Z,0,none⟩),zP (some ⟨d,0,none⟩),zP (some ⟨e,0,none⟩)]∧f 52=zS c4 b5.length c6∧f 53=i64 (b5.length:Int)∧f 54=i64 d3∧aK G K (aN 152 K q0 q1 k7::aN 148 K p8 p9 k6::aN 63 K c4 c6 b5::box Z 148 [i64 o.1,i64 o.2]::box g 150 [zS q0 k7.length q1]::box e 149 [zS p8 k6.length p9]::box d 147 [zM (some c)]::iD c p7::box l 29 x::box n 29 r::box m 29 u::L) w) ?_ ?_)))
      ·rintro f d96 ⟨p7,k6,k7,p8,p9,q0,q1,a3,d01,d02,d03,d04,d05,d06,d07,d08,d09,d10,d11,d12,d13,d14⟩
       unfold qJ at a3
       exact bG (aC ⟨p7,k6,k7,p8,p9,q0,q1,a3,d01,d02,d03,d04,d05,d06,d07,d08,d09,d10,d11,d12,d13,d14⟩)
      obtain ⟨d97,d15,a3⟩:=aD a3
      refine cD d15 (fun (s:((List ((Int × Int) × Int)) × List (Int × Int) × List iL × Int)) f w=>match s with|(i7,f2,f3,k8)=>∃ (i8:Option Addr) (i9:Nat) (j0:Option Addr) (j1:Nat),f 2=Value.func (.func 52) #[] #[]∧f 3=zP (some ⟨m,0,none⟩)∧f 4=zP (some ⟨n,0,none⟩)∧f 6=zP (some ⟨l,0,none⟩)∧f 7=zP (some ⟨d,0,none⟩)∧f 8=zP (some ⟨e,0,none⟩)∧f 9=zP (some ⟨g,0,none⟩)∧f 10=i64 b3∧f 11=zP (some ⟨Z,0,none⟩)∧f 12=Value.func (.func 120) #[] #[zP (some ⟨g,0,none⟩),zP (some ⟨Z,0,none⟩),zP (some ⟨d,0,none⟩),zP (some ⟨e,0,none⟩)]∧f 14=zP (some ⟨i4,0,none⟩)∧f 15=str c0∧f 52=zS c4 b5.length c6∧f 53=i64 (b5.length:Int)∧f 54=i64 d3∧f 81=zS v5 i6.length v6∧f 82=i64 (i6.length:Int)∧f 83=i64 k8∧aK G K (aN 2 K v5 v6 i6::box i4 63 [i64 J.F,i64 J.B,i64 J.To]::aN 63 K c4 c6 b5::box Z 148 [i64 o.1,i64 o.2]::aN 152 K j0 j1 f3::box g 150 [zS j0 f3.length j1]::box e 149 [zS i8 f2.length i9]::aN 148 K i8 i9 f2::box d 147 [zM (some c)]::iD c i7::box l 29 x::box n 29 r::box m 29 u::L) w) ?_ ?_
      ·exact ⟨d4,d5,d6,d7,o5,o6,o7,u4,u5,u6,u7,u8,k3,o8,rfl,rfl,u9,v0,o9,rfl,rfl,rfl,(aK.arr 1 [] d00 rfl)⟩
      ·rintro ⟨i7,f2,f3,k8⟩ d16 f d17 d0 d18 ⟨i8,i9,j0,j1,a20,a21,a22,a23,a24,a25,a26,a27,a28,v7,a29,a31,a32,a33,a34,a35,a36,v8,k9⟩
       replace d0:fX o J c0 i6 i7 f2 f3 k8=some d16:=d0
       unfold fX at d0
       refine aM (aF (cG v8 a36) (aI (aQ ?_)))
       rcases aJ d0 with ⟨v9,d0⟩|⟨v9,d0⟩
       ·refine aO v9 rfl (aY (aC (aQ (cW (aM ?_)))))
        obtain ⟨g4,w0,d0⟩:=aD d0
        have d19:=cY k9 (i:=0) rfl w0
        refine aF (dW bY rfl d19 a35 rfl v8 w0) (aF (jL (t:=0) cV k9 (i:=0) rfl w0 rfl rfl rfl) (aH (v:=i64 g4) (aI (aS (aT v7 (aT a31 (aF (bL (t':=2) gX a29 rfl) (aF (cC cV k9 (i:=1) rfl rfl rfl) (aP (v:=i64 g4) (aF (aEU (vs:=[(0,i64 J.To),(1,i64 g4)]) (cs:=[i64 J.To,i64 g4]) aBb aJF rfl (by kernel_rfl)) ?_))))))))))
        obtain ⟨d20,d98,d21,d22,d23⟩:=aK.lendB (i:=3) k9 rfl
        have d24:aK G d20 (aN 152 K j0 j1 f3::box g 150 [zS j0 f3.length j1]::iD c i7::box d 147 [zM (some c)]::aN 148 K i8 i9 f2::box e 149 [zS i8 f2.length i9]::aN 2 K v5 v6 i6::box i4 63 [i64 J.F,i64 J.B,i64 J.To]::aN 63 K c4 c6 b5::box l 29 x::box n 29 r::box m 29 u::L) d17:=(aK.arr 9 [3,4,8,7,6,5,0,1,2] d22 rfl)
        obtain ⟨w1,d25,d0⟩:=aD d0
        refine oP (vs:=[str c0,zA #[i64 J.To,i64 g4]]) (caps:=[zP (some ⟨g,0,none⟩),dC (some ⟨Z,0,none⟩) 0,zP (some ⟨d,0,none⟩),zP (some ⟨e,0,none⟩)]) (us:=[str c0,zA #[i64 J.To,i64 g4],zP (some ⟨g,0,none⟩),dC (some ⟨Z,0,none⟩) 0,zP (some ⟨d,0,none⟩),zP (some ⟨e,0,none⟩)]) rfl Tryz.call120 rfl rfl (tR (to_:=⟨J.To,g4⟩) d24 d21 d25) ?_
        rintro _ d99 ⟨d26,d27,d28,d29,rfl,d30⟩
        have d31:=d23 _ _ d30
        exact bA (bG (aC (aS (aF (cQ v8 rfl) (aP (v:=i64 (wr (k8+1))) (aI ⟨(w1.2.1,w1.2.2,w1.1,wr (k8+1)),(zI d0).symm,d28,d29,d26,d27,a20,a21,a22,a23,a24,a25,a26,a27,a28,v7,a29,a31,a32,a33,a34,a35,a36,rfl,(aK.arr 10 [7,8,9,0,1,2,6,5,4,3] d31 rfl)⟩))))))
       ·refine aL v9 rfl (cB (aV (aV ?_)))
        have d32:=d18 _ (zI d0).symm
        subst d32
        have a3:(qJ d3 i7 f2 f3)=some o4:=a3
        exact bJ (aC ⟨i7,f2,f3,i8,i9,j0,j1,a3,a20,a21,a22,a23,a24,a25,a26,a27,a28,v7,a32,a33,a34,(aK.arr 8 [4,7,2,3,5,6] k9 rfl)⟩)
    ·refine aL v1 rfl (cB (aV (aV ?_)))
     have d33:=c57 _ (zI a3).symm
     subst d33
     have a5:(nD b b3 o f1 c7 c9)=some i0:=a5
     exact bJ (aC ⟨f1,c7,c9,d4,d5,d6,d7,a5,o5,o6,o7,u4,u5,u6,u7,u8,k3,o8,(aK.arr 6 [2,5,1,3,4] p0 rfl)⟩)
  ·refine aL s5 rfl (cB (aV (aV ?_)))
   have d34:=b83 _ (zI a5).symm
   subst d34
   have y:(pD a b h8 e0 e9)=some R:=y
   exact bJ (aC ⟨h8,e0,e9,f8,f9,g0,g1,y,s1,a09,a11,s2,j6,s3,(aK.arr 4 [0,3,1,2] i1 rfl)⟩)
theorem lW {a b:cN} {R:(cN × Int)} (hs:aK G K (L) w) (hG:G.lo=0) (h3:dB K a1 c2 a.L) (h6:dB K a4 c5 a.E) (h9:dB K a7 c8 b.L) (f1:dB K a10 c11 b.E) (e:pE a b=some R):
  Calls Tryz.prog 14 ([zA (zCa a a1 c2 a4 c5),zA (zCa b a7 c8 a10 c11)]:List Value).toArray w (iK fun v w'=>∃ (f2:Option Addr) (f3:Nat) (f4:Option Addr) (f5:Nat),v=Value.tuple #[zA (zCa R.1 f2 f3 f4 f5),i64 R.2]∧aK G K (aN 9 K f2 f3 R.1.L::aN 63 K f4 f5 R.1.E::L) w'):=by
 let j:=zG
 let a8:=(zC b a7 c8 a10 c11)
 let a9:=(zC a a1 c2 a4 c5)
 let f6:=[zA (zCa b a7 c8 a10 c11)]
 let f7:=[zA (zCa a a1 c2 a4 c5)]
 refine aX Tryz.func14 rfl (by kernel_rfl) (by show (2:Nat)≤57;decide) ?_
 unfold pE at e
 refine aM (gP (v:=zA (zCa a a1 c2 a4 c5)) (vs:=a9) hs rfl rfl (fun b7 n8 h2=>(gP (v:=zA (zCa b a7 c8 a10 c11)) (vs:=a8) h2 rfl rfl (fun b8 n9 h4=>(bS (vs:=j) Tryz.zeroValue29 h4 rfl (fun x o0 f8=>(aH (v:=i64 0) (aI (aQ (aQ (dF (fun f w=>∃ (c7:Bool),nV a b c7=some R∧f 2=zP (some ⟨b7,0,none⟩)∧f 3=zP (some ⟨b8,0,none⟩)∧f 4=zP (some ⟨x,0,none⟩)∧f 21=zB c7∧aK G K (box x 29 j::box b8 29 a8::box b7 29 a9::L) w) ?_ ?_)))))))))))
 ·rintro f o1 ⟨c7,e,h5,h7,c0,f9,c9⟩
  unfold nV at e
  refine aC ?_
  rcases aJ e with ⟨d0,e⟩|⟨d0,e⟩
  ·refine aO d0 f9 (aM (aF (fD (vs:=[]) (cs:=j) tI rfl (by kernel_rfl)) (bR (i:=0) (ns:=j) (us:=j) Tryz.sizeOf29 c9 rfl c0 rfl rfl rfl (cX rfl) rfl rfl (fun h8 (i0:aK G K (box x 29 j::box b8 29 a8::box b7 29 a9::L) h8)=>(aH (v:=i64 1) (aI ?_))))))
   have i1:=aK.nil (α:=bB) i0 9 K
   have g0:=aK.nil (α:=Edge) i1 63 K
   obtain rfl:=zI e
   exact bH (aR (mT Tryz.results14 (dZ (vs:=j) rfl dI g0 (i:=2) rfl c0 rfl) (gW rfl rfl) ⟨none,0,none,0,rfl,(aK.arr 5 [1,0] g0 rfl)⟩))
  ·refine aL d0 f9 (aY (aC (aM (aF (dX (us:=a9) dI c9 (i:=2) rfl h5 rfl rfl) ?_))))
   obtain ⟨c,i3,e⟩:=aD e
   refine aU (vs:=f7) Tryz.call49 rfl (pT c9 hG h3 h6 i3) ?_
   rintro _ o2 ⟨d1,k,l,m,n,c1,c3,rfl,y,i4⟩
   refine aP (v:=Value.tuple #[zA (zCa c.1 k l m n),zS c1 c.2.1.length c3,zB c.2.2]) (aF (bM rfl rfl) (aF (bM rfl rfl) (aF (bM rfl rfl) (bS (vs:=j) Tryz.zeroValue29 i4 rfl (fun z o3 i5=>(bR (i:=0) (ns:=(zC c.1 k l m n)) (us:=(zC c.1 k l m n)) Tryz.sizeOf29 i5 rfl rfl rfl rfl rfl (cX rfl) rfl rfl (fun i6 (g1:aK G d1 (box z 29 (zC c.1 k l m n)::aN 9 K k l c.1.L::aN 63 K m n c.1.E::aN 38 d1 c1 c3 c.2.1::box x 29 j::box b8 29 a8::box b7 29 a9::L) i6)=>(aH (v:=zS c1 c.2.1.length c3) (aH (v:=zB c.2.2) (aI (aM (aF (dX (us:=a8) dI g1 (i:=5) rfl h7 rfl rfl) ?_))))))))))))
   obtain ⟨d,i7,e⟩:=aD e
   refine aU (vs:=f6) Tryz.call49 rfl (pT g1 hG (h9.mono y) (f1.mono y) i7) ?_
   rintro _ o4 ⟨c4,o,p,q,r,d2,d3,rfl,J,i8⟩
   refine aP (v:=Value.tuple #[zA (zCa d.1 o p q r),zS d2 d.2.1.length d3,zB d.2.2]) (aF (bM rfl rfl) (aF (bM rfl rfl) (aF (bM rfl rfl) (bS (vs:=j) Tryz.zeroValue29 i8 rfl (fun V o5 i9=>(bR (i:=0) (ns:=(zC d.1 o p q r)) (us:=(zC d.1 o p q r)) Tryz.sizeOf29 i9 rfl rfl rfl rfl rfl (cX rfl) rfl rfl (fun j0 (g2:aK G c4 (box V 29 (zC d.1 o p q r)::aN 9 K o p d.1.L::aN 63 K q r d.1.E::aN 38 c4 d2 d3 d.2.1::box z 29 (zC c.1 k l m n)::aN 9 K k l c.1.L::aN 63 K m n c.1.E::aN 38 d1 c1 c3 c.2.1::box x 29 j::box b8 29 a8::box b7 29 a9::L) j0)=>(aH (v:=zS d2 d.2.1.length d3) (aH (v:=zB d.2.2) (aI (aQ (aQ (dF (fun f w=>∃ (d4:Bool),nU c d d4=some R∧f 4=zP (some ⟨x,0,none⟩)∧f 6=zP (some ⟨z,0,none⟩)∧f 9=zP (some ⟨V,0,none⟩)∧f 40=zB d4∧aK G c4 (box V 29 (zC d.1 o p q r)::aN 9 K o p d.1.L::aN 63 K q r d.1.E::box z 29 (zC c.1 k l m n)::aN 9 K k l c.1.L::aN 63 K m n c.1.E::box x 29 j::L) w) ?_ ?_)))))))))))))
   ·rintro f o6 ⟨d4,e,b2,j1,j2,g3,c6⟩
    unfold nU at e
    refine aC ?_
    rcases aJ e with ⟨d5,e⟩|⟨d5,e⟩
    ·refine aO d5 g3 (aM (aF (fD (vs:=[]) (cs:=j) tI rfl (by kernel_rfl)) (bR (i:=6) (ns:=j) (us:=j) Tryz.sizeOf29 c6 rfl b2 rfl rfl rfl (cX rfl) rfl rfl (fun j3 (j4:aK G c4 (box V 29 (zC d.1 o p q r)::aN 9 K o p d.1.L::aN 63 K q r d.1.E::box z 29 (zC c.1 k l m n)::aN 9 K k l c.1.L::aN 63 K m n c.1.E::box x 29 j::L) j3)=>(aH (v:=i64 5) (aI ?_))))))
     have j5:=aK.nil (α:=bB) j4 9 K
     have g4:=aK.nil (α:=Edge) j5 63 K
     obtain rfl:=zI e
     exact bH (aR (mT Tryz.results14 (dZ (vs:=j) rfl dI g4 (i:=8) rfl b2 rfl) (gW rfl rfl) ⟨none,0,none,0,rfl,(aK.weakK (aK.arr 9 [1,0] g4 rfl) (zL y J))⟩))
    ·refine aL d5 g3 (aY (aC (aM (aF (dX (us:=(zC c.1 k l m n)) dI c6 (i:=3) rfl j1 rfl rfl) (aF (dX (us:=(zC d.1 o p q r)) dI c6 (i:=0) rfl j2 rfl rfl) ?_)))))
     obtain ⟨o7,d6,j7,j8,j9⟩:=aK.lendS (i:=4) c6 (zL y J) rfl
     obtain ⟨o8,d7,k0,k1,k2⟩:=aK.lendS (i:=4) j8 (zL (zL y J) d6) rfl
     obtain ⟨o9,d8,k3,k4,k5⟩:=aK.lendS (i:=1) k1 (zL (zL (zL y J) d6) d7) rfl
     obtain ⟨p0,d9,k6,k7,k8⟩:=aK.lendS (i:=1) k4 (zL (zL (zL (zL y J) d6) d7) d8) rfl
     obtain ⟨Z,k9,e⟩:=aD e
     refine aU (vs:=[zA (zCa c.1 k l m n),zA (zCa d.1 o p q r),Value.func (.func 52) #[] #[]]) Tryz.call51 rfl (aFP k7 (j7.mono (zL (zL d7 d8) d9)) (k0.mono (zL d8 d9)) (k3.mono d9) k6 k9) ?_
     rintro _ g5 ⟨l0,l1,g6,g7,rfl,l2⟩
     have l3:=k8 _ _ l2
     have l4:=k5 _ _ l3
     have l5:=k2 _ _ l4
     have l6:=j9 _ _ l5
     obtain ⟨l7,e0,l8,e1⟩:=aK.giveS (i:=4) l6 (zL y J) rfl
     replace e1:aK G l7 (aN 9 K k l c.1.L::aN 63 K m n c.1.E::aN 9 K o p d.1.L::aN 63 K q r d.1.E::aN 63 K g6 g7 Z.E::box V 29 (zC d.1 o p q r)::box z 29 (zC c.1 k l m n)::box x 29 j::L) g5:=e1
     obtain ⟨b9,e2,l9,e3⟩:=aK.giveS (i:=4) e1 (zL (zL y J) e0) rfl
     replace e3:aK G b9 (aN 9 K k l c.1.L::aN 63 K m n c.1.E::aN 9 K o p d.1.L::aN 63 K q r d.1.E::box V 29 (zC d.1 o p q r)::box z 29 (zC c.1 k l m n)::box x 29 j::L) g5:=e3
     obtain ⟨h,m0,e⟩:=aD e
     refine aU (vs:=[zA (zCa Z l0 l1 g6 g7)]) Tryz.call50 rfl (aHt (Kf:=b9) (t:=⟨Z.N,Z.I,Z.L,Z.E⟩) e3 hG (Hp.le_refl _) (l8.mono e2) l9 m0) ?_
     rintro _ p1 ⟨a2,a3,a5,a6,rfl,m1,m2,m3⟩
     refine aP (v:=Value.tuple #[zA (zCa h.1 a2 a3 a5 a6),i64 h.2]) (aF (bM rfl rfl) (aF (bM rfl rfl) (bS (vs:=j) Tryz.zeroValue29 m3 rfl (fun e4 p2 m4=>(bR (i:=0) (ns:=(zC h.1 a2 a3 a5 a6)) (us:=(zC h.1 a2 a3 a5 a6)) Tryz.sizeOf29 m4 rfl rfl rfl rfl rfl (cX rfl) rfl rfl (fun m5 (e5:aK G b9 (box e4 29 (zC h.1 a2 a3 a5 a6)::aN 9 K k l c.1.L::aN 63 K m n c.1.E::aN 9 K o p d.1.L::aN 63 K q r d.1.E::box V 29 (zC d.1 o p q r)::box z 29 (zC c.1 k l m n)::box x 29 j::L) m5)=>(aH (v:=i64 h.2) (aI (aQ (aM (aP (v:=i64 h.2) (aF (oO rfl rfl) (aI ?_)))))))))))))
     rcases aJ e with ⟨e6,e⟩|⟨e6,e⟩
     ·refine aO e6 rfl (aM (aF (fD (vs:=[]) (cs:=j) tI rfl (by kernel_rfl)) (aP (v:=i64 h.2) (bR (i:=7) (ns:=j) (us:=j) Tryz.sizeOf29 e5 rfl b2 rfl rfl rfl (cX rfl) rfl rfl (fun m6 (m7:aK G b9 (box e4 29 (zC h.1 a2 a3 a5 a6)::aN 9 K k l c.1.L::aN 63 K m n c.1.E::aN 9 K o p d.1.L::aN 63 K q r d.1.E::box V 29 (zC d.1 o p q r)::box z 29 (zC c.1 k l m n)::box x 29 j::L) m6)=>(aH (v:=i64 h.2) (aI ?_)))))))
      have m8:=aK.nil (α:=bB) m7 9 K
      have g8:=aK.nil (α:=Edge) m8 63 K
      obtain rfl:=zI e
      exact bH (aR (mT Tryz.results14 (dZ (vs:=j) rfl dI g8 (i:=9) rfl b2 rfl) (gW rfl rfl) ⟨none,0,none,0,rfl,(aK.weakK (aK.arr 10 [1,0] g8 rfl) (zL (zL (zL y J) e0) e2))⟩))
     ·refine aL e6 rfl (aY (aC (aM (aF (dX (us:=(zC h.1 a2 a3 a5 a6)) dI e5 (i:=0) rfl rfl rfl rfl) ?_))))
      obtain ⟨u,n0,e⟩:=aD e
      refine aU (vs:=[zA (zCa h.1 a2 a3 a5 a6)]) Tryz.call53 rfl (aDI e5 hG m1 m2 n0) ?_
      rintro _ p3 ⟨b3,b4,b5,b6,rfl,n1⟩
      refine aF (bM rfl rfl) (aF (bM rfl rfl) (bR (i:=9) (ns:=(zC u.1 b3 b4 b5 b6)) (us:=(zC u.1 b3 b4 b5 b6)) Tryz.sizeOf29 n1 rfl b2 rfl rfl rfl (cX rfl) rfl rfl (fun n2 (g9:aK G b9 (aN 9 K b3 b4 u.1.L::aN 63 K b5 b6 u.1.E::box e4 29 (zC h.1 a2 a3 a5 a6)::aN 9 K k l c.1.L::aN 63 K m n c.1.E::aN 9 K o p d.1.L::aN 63 K q r d.1.E::box V 29 (zC d.1 o p q r)::box z 29 (zC c.1 k l m n)::box x 29 (zC u.1 b3 b4 b5 b6)::L) n2)=>(aH (v:=i64 u.2) (aI ?_)))))
      obtain rfl:=zI e
      exact bH (mT Tryz.results14 (dZ (vs:=(zC u.1 b3 b4 b5 b6)) rfl dI g9 (i:=9) rfl b2 rfl) (gW rfl rfl) ⟨b3,b4,b5,b6,rfl,(aK.weakK (aK.arr 10 [0,1] g9 rfl) (zL (zL (zL y J) e0) e2))⟩)
   refine aS (aP (v:=zB c.2.2) (aF (fC rfl) (aP (v:=zB (!c.2.2)) ?_)))
   rcases aJ e with ⟨b0,e⟩|⟨b0,e⟩
   ·exact bC b0 rfl rfl (bC b0 rfl rfl (aF (bO (v:=zB true) b0 rfl rfl) (aI ⟨true,e,c0,rfl,rfl,rfl,(aK.arr 11 [0,1,2,4,5,6,8] g2 rfl)⟩)))
   ·exact bP b0 rfl rfl (aP (v:=zB d.2.2) (bP b0 rfl rfl (aF (fC rfl) (aF (bV (v:=zB (!d.2.2)) b0 rfl rfl) (aI ⟨!d.2.2,e,c0,rfl,rfl,rfl,(aK.arr 11 [0,1,2,4,5,6,8] g2 rfl)⟩)))))
 refine aS (aF (dX (us:=a9) dI f8 (i:=2) rfl rfl rfl rfl) ?_)
 obtain ⟨n4,n5,e⟩:=aD e
 refine aU (vs:=f7) Tryz.call31 rfl (nE f8 hG h3 h6 n5) ?_
 rintro _ p4 ⟨rfl,e7⟩
 refine aF (fC rfl) (aP (v:=zB (!n4)) ?_)
 rcases aJ e with ⟨a0,e⟩|⟨a0,e⟩
 ·exact bC a0 rfl rfl (bC a0 rfl rfl (bC a0 rfl rfl (aF (bO (v:=zB true) a0 rfl rfl) (aI ⟨true,e,rfl,rfl,rfl,rfl,e7⟩))))
 ·refine bP a0 rfl rfl (aF (dX (us:=a8) dI e7 (i:=1) rfl rfl rfl rfl) (bP a0 rfl rfl ?_))
  obtain ⟨h0,n6,e⟩:=aD e
  refine aU (vs:=f6) Tryz.call31 rfl (nE e7 hG h9 f1 n6) ?_
  rintro _ p5 ⟨rfl,n7⟩
  exact bP a0 rfl rfl (aF (fC rfl) (aF (bV (v:=zB (!h0)) a0 rfl rfl) (aI ⟨!h0,e,rfl,rfl,rfl,rfl,n7⟩)))
end Gv
