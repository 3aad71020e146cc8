/- Walks, printed by program. -/
import Derived.Test.YtmlgcbjkfcapaaaGreatDoorJWk3
set_option linter.all false
namespace Gv
open Go.Value renaming slice→zS,bool→zB,pointer→zP,agg→zA
open Option.some renaming inj→zI
open Gv.Hp renaming le_refl→zR
open Go Go.Proofs
set_option maxRecDepth 20000
set_option maxHeartbeats 40000000
variable {G:Env} {K:Hp} {L:List pH} {w:World} {a1 a4 a7 a10 a13 a16 a19:Option Addr} {c5 c8 c14 c17 c20 c2:Nat}
theorem aFd {a:cN} {k2:Nat} {b:cN} {Z:Nat} {b2:(List bB)} {R:(cN × Bool)} (hs:aK G K (L) w) (h3:kR K a1 k2 (zC a a4 c5 a7 c8)) (h6:dB K a4 c5 a.L) (h9:dB K a7 c8 a.E) (b9:kR K a10 Z (zC b a13 c14 a16 c17)) (n1:dB K a13 c14 b.L) (r8:dB K a16 c17 b.E) (r9:dB K a19 c20 b2) (m:xH a b b2=some R):
  Calls Tryz.prog 45 ([dC a1 k2,dC a10 Z,zS a19 b2.length c20]:List Value).toArray w (iK fun v w'=>∃ (n2:Option Addr) (n3:Nat) (n4:Option Addr) (n5:Nat),v=Value.tuple #[zA (zCa R.1 n2 n3 n4 n5),zB R.2]∧aK G K (aN 9 K n2 n3 R.1.L::aN 63 K n4 n5 R.1.E::L) w'):=by
 let k:=zG
 refine aX Tryz.func45 rfl (by kernel_rfl) (by show (3:Nat)≤153;decide) ?_
 unfold xH at m
 refine aM (bS (vs:=k) Tryz.zeroValue29 hs rfl (fun j w23 n6=>(aH (v:=zB false) (aI (aQ (gA (C:=fun w'=>∃ L',aK G K L' w') [(1,0),(2,0),(3,0),(4,0),(6,0),(7,0),(8,0),(9,0),(0,1),(5,1),(10,1),(11,1),(12,0)] bT (by kernel_rfl) (fun _ hg=>⟨_,aK.mono n6 hg⟩) (fun w25 s0=>?_)))))))
 have f6:=aK.mono n6 s0
 refine bZ rfl (fun _ _=>aZ (v:=dC a1 k2) rfl) (bZ rfl (fun _ _=>dE rfl h3) (bZ rfl (fun _ _=>cR (k':=k2+2) eG rfl h3 rfl) (bZ rfl (fun _ ⟨_,f6⟩=>bK (t:=2) iT f6 h3 rfl rfl) (bZ rfl (fun _ _=>aZ (v:=dC a10 Z) rfl) (bZ rfl (fun _ _=>dE rfl b9) (bZ rfl (fun _ _=>cR (k':=Z+2) eG rfl b9 rfl) (bZ rfl (fun _ ⟨_,f6⟩=>bK (t:=2) iT f6 b9 rfl rfl) (kD rfl (cT (Kt:=K) (xs:=([]:List bB)) (cs:=[]) (vs:=[]) cF vJ rfl rfl f6 rfl (by kernel_rfl) rfl rfl rfl trivial (fun s1 s2 (n7:aK G K (aN 9 K s1 0 ([]:List bB)::box j 29 k::L) s2)=>(bA (aC ⟨⟨_,n7⟩,?_⟩))))))))))))
 refine kD rfl ?_
 obtain ⟨s3,s4,m⟩:=aD m
 refine aCJ (i:=0) cF Tryz.underlying22 vJ rfl rfl n7 rfl (zR _) h6 s4 rfl rfl rfl rfl (fun s5 s6 s7 (n8:aK G K (aN 9 K s5 s6 s3::box j 29 k::L) s7)=>(bA (aC ⟨⟨_,n8⟩,?_⟩)))
 refine kD rfl ?_
 obtain ⟨e2,s8,m⟩:=aD m
 refine aCJ (i:=0) cF Tryz.underlying22 vJ rfl rfl n8 rfl (zR _) n1 s8 rfl rfl rfl rfl (fun e3 e4 s9 (n9:aK G K (aN 9 K e3 e4 e2::box j 29 k::L) s9)=>(bA (aC ⟨⟨_,n9⟩,?_⟩)))
 refine kD rfl ?_
 obtain ⟨K44,a91,t0,t1,t2⟩:=aK.lendS (i:=0) n9 (zR _) rfl
 obtain ⟨c,t3,m⟩:=aD m
 refine aU (vs:=[zS e3 e2.length e4]) Tryz.call100 rfl (aBr t1 t0 t3) ?_
 rintro _ w53 ⟨d,e,rfl,t4⟩
 have u:=t2 _ _ t4
 refine bA (aC ⟨⟨_,u⟩,?_⟩)
 refine bZ rfl (fun _ _=>dH (v:=zS d c.length e) rfl) (lY (aC (aQ (aM (aP (v:=zS d c.length e) (aF (bN (len:=c.length) cF rfl) (aF (oM rfl rfl) (aI ?_))))))))
 rcases aJ m with ⟨j3,m⟩|⟨j3,m⟩
 ·refine aO j3 rfl (aM (aF (fD (vs:=[]) (cs:=k) tI rfl (by kernel_rfl)) (bR (i:=2) (ns:=k) (us:=k) Tryz.sizeOf29 u rfl rfl rfl rfl rfl (cX rfl) rfl rfl (fun t5 (t6:aK G K (aN 9 K e3 e4 e2::aN 9 K d e c::box j 29 k::L) t5)=>(aH (v:=zB false) (aI ?_))))))
  have t7:=aK.nil (α:=bB) t6 9 K
  have o0:=aK.nil (α:=Edge) t7 63 K
  obtain rfl:=zI m
  exact bH (aR (mT Tryz.results45 (dZ (vs:=k) rfl dI o0 (i:=4) rfl rfl rfl) (gW rfl rfl) ⟨none,0,none,0,rfl,(aK.arr 5 [1,0] o0 rfl)⟩))
 ·refine aL j3 rfl (aY (aC (aQ (dR (C:=fun w'=>aK G K (aN 9 K e3 e4 e2::aN 9 K d e c::box j 29 k::L) w') bT (by kernel_rfl) (aK.mono u (dQ.drew _)) (aW (fun _ u=>aZ (v:=dC a1 k2) rfl) (aW (fun _ u=>dE rfl h3) (aW (fun _ u=>cR (k':=k2+1) sN rfl h3 rfl) (aW (fun _ u=>bK (t:=1) cV u h3 rfl rfl) (aW (fun _ u=>aZ (v:=dC a10 Z) rfl) (aW (fun _ u=>dE rfl b9) (aW (fun _ u=>cR (k':=Z+0) iZ rfl b9 rfl) (aW (fun _ u=>bK (t:=0) cV u b9 rfl rfl) (aW (fun _ u=>R_mul rfl rfl) (aW (fun _ u=>aZ (v:=dC a10 Z) rfl) (aW (fun _ u=>dE rfl b9) (aW (fun _ u=>cR (k':=Z+1) sN rfl b9 rfl) (aW (fun _ u=>bK (t:=1) cV u b9 rfl rfl) (aW (fun _ u=>cQ rfl rfl) (aW (fun _ u=>dH (v:=i64 (wr ((wr (a.I * b.N))+b.I))) rfl) (eF (fun w64 t9=>(aC (aM (aP (v:=i64 (wr ((wr (a.I * b.N))+b.I))) ?_))))))))))))))))))))))))
  refine cT (Kt:=K) (xs:=([wr ((wr (a.I * b.N))+b.I)]:List Int)) (cs:=[i64 (wr ((wr (a.I * b.N))+b.I))]) (vs:=[(0,i64 (wr ((wr (a.I * b.N))+b.I)))]) bY lR rfl rfl t9 rfl (by kernel_rfl) rfl rfl rfl ⟨rfl,trivial⟩ ?_
  intro h5 u0 (u1:aK G K (aN 2 K h5 1 ([wr ((wr (a.I * b.N))+b.I)]:List Int)::aN 9 K e3 e4 e2::aN 9 K d e c::box j 29 k::L) u0)
  refine aH (v:=zS h5 ([wr ((wr (a.I * b.N))+b.I)]:List Int).length 1) (aI (aM (cT (Kt:=K) (xs:=([]:List Edge)) (cs:=[]) (vs:=[]) cK mD rfl rfl u1 rfl (by kernel_rfl) rfl rfl rfl trivial ?_)))
  intro j4 u2 (u3:aK G K (aN 63 K j4 0 ([]:List Edge)::aN 2 K h5 1 ([wr ((wr (a.I * b.N))+b.I)]:List Int)::aN 9 K e3 e4 e2::aN 9 K d e c::box j 29 k::L) u2)
  refine aH (v:=zS j4 ([]:List Edge).length 0) (aI (aQ (aM (aH (v:=i64 0) (aI (bE (fun f w=>∃ (c2:List Int) (p:List Edge) (e5:Option Addr) (e6:Nat) (x:Option Addr) (y:Nat),pZ a b c c2 p=some R∧f 6=zP (some ⟨j,0,none⟩)∧f 8=zS d c.length e∧f 9=i64 (wr ((wr (a.I * b.N))+b.I))∧f 10=zS e5 c2.length e6∧f 11=zS x p.length y∧aK G K (aN 63 K x y p::aN 2 K e5 e6 c2::aN 9 K d e c::box j 29 k::L) w) ?_ ?_))))))
  ·rintro f w83 ⟨c2,p,e5,e6,x,y,m,u4,u5,u6,u7,u8,u9⟩
   unfold pZ at m
   refine aC (aM (cT (Kt:=K) (xs:=([]:List Int)) (cs:=[]) (vs:=[]) bY lR rfl rfl u9 rfl (by kernel_rfl) rfl rfl rfl trivial (fun j5 v0 (v1:aK G K (aN 2 K j5 0 ([]:List Int)::aN 63 K x y p::aN 2 K e5 e6 c2::aN 9 K d e c::box j 29 k::L) v0)=>(aH (v:=zS j5 ([]:List Int).length 0) (aI (aQ (aM (aH (v:=i64 0) (aI (bE (fun f w=>∃ (l:List Int) (z:Option Addr) (J:Nat),pY a b c p l=some R∧f 6=zP (some ⟨j,0,none⟩)∧f 8=zS d c.length e∧f 9=i64 (wr ((wr (a.I * b.N))+b.I))∧f 11=zS x p.length y∧f 15=zS z l.length J∧aK G K (aN 2 K z J l::aN 63 K x y p::aN 9 K d e c::box j 29 k::L) w) ?_ ?_))))))))))
   ·rintro f w96 ⟨l,z,J,m,v2,v3,v4,v5,j6,v6⟩
    unfold pY at m
    refine aC (aM (aT j6 (aF (bN (len:=l.length) bY rfl) (aT j6 (aT v4 ?_)))))
    obtain ⟨K98,a97,v7,v8,v9⟩:=aK.lendS (i:=0) v6 (zR _) rfl
    obtain ⟨r,w0,m⟩:=aD m
    refine aU (vs:=[zS z l.length J,i64 (wr ((wr (a.I * b.N))+b.I))]) Tryz.call70 rfl (qL v8 v7 w0) ?_
    rintro _ a98 ⟨rfl,w1⟩
    have w2:=v9 _ _ w1
    refine aT v3 (cT (Kt:=K) (xs:=([]:List Edge)) (cs:=[]) (vs:=[]) cK mD rfl rfl w2 rfl (by kernel_rfl) rfl rfl rfl trivial (fun c6 w3 (w4:aK G K (aN 63 K c6 0 ([]:List Edge)::aN 2 K z J l::aN 63 K x y p::aN 9 K d e c::box j 29 k::L) w3)=>(aF (fD (vs:=[(0,i64 (l.length:Int)),(1,i64 r),(2,zS d c.length e),(3,zS c6 ([]:List Edge).length 0)]) (cs:=[i64 (l.length:Int),i64 r,zS d c.length e,zS c6 ([]:List Edge).length 0]) tI rfl (by kernel_rfl)) (bS (vs:=k) Tryz.zeroValue29 w4 rfl (fun a9 a99 w5=>(bR (i:=0) (ns:=[i64 (l.length:Int),i64 r,zS d c.length e,zS c6 ([]:List Edge).length 0]) (us:=[i64 (l.length:Int),i64 r,zS d c.length e,zS c6 ([]:List Edge).length 0]) Tryz.sizeOf29 w5 rfl rfl rfl rfl rfl (cX rfl) rfl rfl (fun w6 (w7:aK G K (box a9 29 [i64 (l.length:Int),i64 r,zS d c.length e,zS c6 ([]:List Edge).length 0]::aN 63 K c6 0 ([]:List Edge)::aN 2 K z J l::aN 63 K x y p::aN 9 K d e c::box j 29 k::L) w6)=>(aI (aQ (aM (aH (v:=i64 0) (aI (bE (fun f w=>∃ (b3:List Edge) (b4:Option Addr) (b5:Nat),pX c l r b3=some R∧f 6=zP (some ⟨j,0,none⟩)∧f 17=zP (some ⟨a9,0,none⟩)∧aK G K (aN 63 K b4 b5 b3::box a9 29 [i64 (l.length:Int),i64 r,zS d c.length e,zS b4 b3.length b5]::aN 9 K d e c::box j 29 k::L) w) ?_ ?_)))))))))))))
    ·rintro f b00 ⟨b3,b4,b5,m,o1,w8,o2⟩
     unfold pX at m
     refine aC (aM (aF (dX (us:=[i64 (l.length:Int),i64 r,zS d c.length e,zS b4 b3.length b5]) dI o2 (i:=1) rfl w8 rfl rfl) (bR (i:=3) (ns:=[i64 (l.length:Int),i64 r,zS d c.length e,zS b4 b3.length b5]) (us:=[i64 (l.length:Int),i64 r,zS d c.length e,zS b4 b3.length b5]) Tryz.sizeOf29 o2 rfl o1 rfl rfl rfl (cX rfl) rfl rfl (fun w9 (o3:aK G K (aN 63 K b4 b5 b3::box a9 29 [i64 (l.length:Int),i64 r,zS d c.length e,zS b4 b3.length b5]::aN 9 K d e c::box j 29 [i64 (l.length:Int),i64 r,zS d c.length e,zS b4 b3.length b5]::L) w9)=>(aH (v:=zB true) (aI ?_))))))
     obtain rfl:=zI m
     exact bH (mT Tryz.results45 (dZ (vs:=[i64 (l.length:Int),i64 r,zS d c.length e,zS b4 b3.length b5]) rfl dI o3 (i:=3) rfl o1 rfl) (gW rfl rfl) ⟨d,e,b4,b5,rfl,(aK.arr 4 [2,0] o3 rfl)⟩)
    obtain ⟨b01,x1,m⟩:=aD m
    refine cD x1 (fun (s:(List Edge × Int)) f w=>match s with|(a0,f7)=>∃ (a5:Option Addr) (a6:Nat),f 6=zP (some ⟨j,0,none⟩)∧f 11=zS x p.length y∧f 15=zS z l.length J∧f 17=zP (some ⟨a9,0,none⟩)∧f 18=i64 f7∧aK G K (box a9 29 [i64 (l.length:Int),i64 r,zS d c.length e,zS a5 a0.length a6]::aN 63 K a5 a6 a0::aN 2 K z J l::aN 63 K x y p::aN 9 K d e c::box j 29 k::L) w) ?_ ?_
    ·exact ⟨c6,0,v2,v5,j6,rfl,rfl,w7⟩
    ·rintro ⟨a0,f7⟩ x2 f b02 V x3 ⟨a5,a6,o4,j7,j8,h7,j9,h8⟩
     replace V:jA p l a0 f7=some x2:=V
     unfold jA at V
     refine aQ (aM (aT j9 (aT j7 (aF (bN (len:=p.length) cK rfl) (aF (cG rfl rfl) (aI ?_))))))
     rcases aJ V with ⟨k0,V⟩|⟨k0,V⟩
     ·refine aO k0 rfl (aY (aC (aQ (cW (aM (aT j7 (aT j9 ?_)))))))
      obtain ⟨o,k1,V⟩:=aD V
      have x4:=cY h8 (i:=3) rfl k1
      refine aF (dW cK rfl x4 rfl rfl rfl k1) (aF (tL (t:=0) (vs:=[i64 o.F,i64 o.B,i64 o.To]) lU h8 (i:=3) rfl k1 rfl rfl rfl rfl) (bS (vs:=[i64 0,i64 0,i64 0]) Tryz.zeroValue63 h8 rfl (fun e7 b03 x5=>(bR (i:=0) (ns:=[i64 o.F,i64 o.B,i64 o.To]) (us:=[i64 o.F,i64 o.B,i64 o.To]) Tryz.sizeOf63 x5 rfl rfl rfl rfl rfl (cX rfl) rfl rfl (fun x6 (o5:aK G K (box e7 63 [i64 o.F,i64 o.B,i64 o.To]::box a9 29 [i64 (l.length:Int),i64 r,zS d c.length e,zS a5 a0.length a6]::aN 63 K a5 a6 a0::aN 2 K z J l::aN 63 K x y p::aN 9 K d e c::box j 29 k::L) x6)=>(aI (aM (aT j8 (aF (bL (t':=0) kG rfl rfl) (aF (cC cV o5 (i:=0) rfl rfl rfl) ?_))))))))))
      obtain ⟨b04,b05,x7,x8,x9⟩:=aK.lendS (i:=3) o5 (zR _) rfl
      obtain ⟨a8,y0,V⟩:=aD V
      refine aU (vs:=[zS z l.length J,i64 o.F]) Tryz.call70 rfl (qL x8 x7 y0) ?_
      rintro _ b06 ⟨rfl,y1⟩
      have y2:=x9 _ _ y1
      refine aF (bL (t':=0) kG rfl rfl) (bR (i:=1) (ns:=[i64 a8]) (us:=[i64 a8,i64 o.B,i64 o.To]) Tryz.sizeOf2 y2 rfl rfl rfl rfl rfl (cX rfl) rfl rfl (fun y3 (o6:aK G K (aN 2 K z J l::box e7 63 [i64 a8,i64 o.B,i64 o.To]::box a9 29 [i64 (l.length:Int),i64 r,zS d c.length e,zS a5 a0.length a6]::aN 63 K a5 a6 a0::aN 63 K x y p::aN 9 K d e c::box j 29 k::L) y3)=>(aI (aM (aT j8 (aF (bL (t':=2) gX rfl rfl) (aF (cC cV o6 (i:=1) rfl rfl rfl) ?_)))))))
      obtain ⟨b07,b08,y4,y5,y6⟩:=aK.lendS (i:=0) o6 (zR _) rfl
      obtain ⟨b6,y7,V⟩:=aD V
      refine aU (vs:=[zS z l.length J,i64 o.To]) Tryz.call70 rfl (qL y5 y4 y7) ?_
      rintro _ b09 ⟨rfl,y8⟩
      have y9:=y6 _ _ y8
      refine aF (bL (t':=2) gX rfl rfl) (bR (i:=1) (ns:=[i64 b6]) (us:=[i64 a8,i64 o.B,i64 b6]) Tryz.sizeOf2 y9 rfl rfl rfl rfl rfl (cX rfl) rfl rfl (fun z0 (k3:aK G K (aN 2 K z J l::box e7 63 [i64 a8,i64 o.B,i64 b6]::box a9 29 [i64 (l.length:Int),i64 r,zS d c.length e,zS a5 a0.length a6]::aN 63 K a5 a6 a0::aN 63 K x y p::aN 9 K d e c::box j 29 k::L) z0)=>(aI (aS (aF (bL (t':=3) eR h7 rfl) (aF (cC lK k3 (i:=2) rfl rfl rfl) (aF (dX (us:=[i64 a8,i64 o.B,i64 b6]) lU k3 (i:=1) rfl rfl rfl rfl) (cT (Kt:=K) (xs:=([⟨a8,o.B,b6⟩]:List Edge)) (cs:=[i64 a8,i64 o.B,i64 b6]) (vs:=[(0,zA #[i64 a8,i64 o.B,i64 b6])]) cK mD rfl rfl k3 rfl (by kernel_rfl) rfl rfl rfl ⟨rfl,trivial⟩ (fun z1 z2 (z3:aK G K (aN 63 K z1 1 ([⟨a8,o.B,b6⟩]:List Edge)::aN 2 K z J l::box e7 63 [i64 a8,i64 o.B,i64 b6]::box a9 29 [i64 (l.length:Int),i64 r,zS d c.length e,zS a5 a0.length a6]::aN 63 K a5 a6 a0::aN 63 K x y p::aN 9 K d e c::box j 29 k::L) z2)=>?_)))))))))
      obtain ⟨e8,z4,V⟩:=aD V
      exact eI (i:=3) cK Tryz.underlying27 mD rfl rfl z3 rfl (zR _) (zR _) z4 rfl rfl rfl rfl (fun _ h=>h) (fun e9 f0 z5 (z6:aK G K (aN 2 K z J l::box e7 63 [i64 a8,i64 o.B,i64 b6]::box a9 29 [i64 (l.length:Int),i64 r,zS d c.length e,zS a5 a0.length a6]::aN 63 K e9 f0 e8::aN 63 K x y p::aN 9 K d e c::box j 29 k::L) z5)=>(aF (bL (t':=3) eR h7 rfl) (bR (i:=2) (ns:=[zS e9 e8.length f0]) (us:=[i64 (l.length:Int),i64 r,zS d c.length e,zS e9 e8.length f0]) Tryz.sizeOf27 z6 rfl rfl rfl rfl rfl (cX rfl) rfl rfl (fun z7 (z8:aK G K (aN 2 K z J l::box e7 63 [i64 a8,i64 o.B,i64 b6]::box a9 29 [i64 (l.length:Int),i64 r,zS d c.length e,zS e9 e8.length f0]::aN 63 K e9 f0 e8::aN 63 K x y p::aN 9 K d e c::box j 29 k::L) z7)=>(bA (bG (aC (aS (aT j9 (aF (cQ rfl rfl) (aH (v:=i64 (wr (f7+1))) (aI ⟨(e8,wr (f7+1)),(zI V).symm,e9,f0,o4,j7,j8,h7,rfl,(aK.arr 4 [2,3,0] z8 rfl)⟩))))))))))))
     ·refine aL k0 rfl (cB (aV (aV ?_)))
      have z9:=x3 _ (zI V).symm
      subst z9
      have m:(pX c l r a0)=some R:=m
      exact bJ (aC ⟨a0,a5,a6,m,o4,h7,(aK.arr 4 [1,0] h8 rfl)⟩)
   obtain ⟨b10,a00,m⟩:=aD m
   refine cD a00 (fun (s:(List Int × Int)) f w=>match s with|(d4,f8)=>∃ (f9:Option Addr) (g0:Nat),f 6=zP (some ⟨j,0,none⟩)∧f 8=zS d c.length e∧f 9=i64 (wr ((wr (a.I * b.N))+b.I))∧f 10=zS e5 c2.length e6∧f 11=zS x p.length y∧f 15=zS f9 d4.length g0∧f 16=i64 f8∧aK G K (aN 2 K f9 g0 d4::aN 63 K x y p::aN 2 K e5 e6 c2::aN 9 K d e c::box j 29 k::L) w) ?_ ?_
   ·exact ⟨j5,0,u4,u5,u6,u7,u8,rfl,rfl,v1⟩
   ·rintro ⟨d4,f8⟩ a01 f b11 b0 a02 ⟨f9,g0,o7,o8,o9,k4,p0,p1,k5,i0⟩
    replace b0:jB c2 d4 f8=some a01:=b0
    unfold jB at b0
    refine aQ (aM (aT k5 (aT k4 (aF (bN (len:=c2.length) bY rfl) (aF (cG rfl rfl) (aI ?_))))))
    rcases aJ b0 with ⟨k6,b0⟩|⟨k6,b0⟩
    ·refine aO k6 rfl (aY (aC (aQ (cW (aS (aT p1 (aT k4 (aT k5 ?_))))))))
     obtain ⟨a03,k7,b0⟩:=aD b0
     have a04:=cY i0 (i:=2) rfl k7
     refine aF (dW bY rfl a04 rfl rfl rfl k7) (aF (jL (t:=0) cV i0 (i:=2) rfl k7 rfl rfl rfl) ?_)
     obtain ⟨b12,b13,a05,a06,a07⟩:=aK.lendS (i:=0) i0 (zR _) rfl
     obtain ⟨p2,a08,b0⟩:=aD b0
     refine aU (vs:=[zS f9 d4.length g0,i64 a03]) Tryz.call103 rfl (aIB a06 a05 a08) ?_
     rintro _ b14 ⟨p3,p4,rfl,a09⟩
     have a11:=a07 _ _ a09
     exact aH (v:=zS p3 p2.length p4) (bA (bG (aC (aS (aT k5 (aF (cQ rfl rfl) (aH (v:=i64 (wr (f8+1))) (aI ⟨(p2,wr (f8+1)),(zI b0).symm,p3,p4,o7,o8,o9,k4,p0,rfl,rfl,(aK.arr 1 [] a11 rfl)⟩))))))))
    ·refine aL k6 rfl (cB (aV (aV ?_)))
     have a12:=a02 _ (zI b0).symm
     subst a12
     have m:(pY a b c p d4)=some R:=m
     exact bJ (aC ⟨d4,f9,g0,m,o7,o8,o9,p0,p1,(aK.arr 3 [0,1] i0 rfl)⟩)
  obtain ⟨b15,a14,m⟩:=aD m
  refine cD a14 (fun (s:(List Int × List Edge × Int)) f w=>match s with|(d5,f1,a2)=>∃ (g1:Option Addr) (g2:Nat) (g3:Option Addr) (g4:Nat),f 0=dC a1 k2∧f 1=dC a10 Z∧f 2=zS a19 b2.length c20∧f 6=zP (some ⟨j,0,none⟩)∧f 8=zS d c.length e∧f 9=i64 (wr ((wr (a.I * b.N))+b.I))∧f 10=zS g1 d5.length g2∧f 11=zS g3 f1.length g4∧f 12=i64 a2∧aK G K (aN 63 K g3 g4 f1::aN 2 K g1 g2 d5::aN 9 K d e c::box j 29 k::L) w) ?_ ?_
  ·exact ⟨h5,1,j4,0,rfl,rfl,rfl,rfl,rfl,rfl,rfl,rfl,rfl,(aK.arr 3 [0,1] u3 rfl)⟩
  ·rintro ⟨d5,f1,a2⟩ g5 f b16 n p5 ⟨g1,g2,g3,g4,p6,p7,p8,p9,k8,q0,i1,q1,k9,i2⟩
   replace n:fL a b b2 c d5 f1 a2=some g5:=n
   unfold fL at n
   refine aQ (aM (aT k9 (aT i1 (aF (bN (len:=d5.length) bY rfl) (aF (cG rfl rfl) (aI ?_))))))
   rcases aJ n with ⟨l0,n⟩|⟨l0,n⟩
   ·refine aO l0 rfl (aY (aC (aQ (bE (fun f w=>∃ (g6:List Int) (g7:List Edge) (i3:Option Addr) (i4:Nat) (i5:Option Addr) (i6:Nat),uV a2 g6 g7=some g5∧f 0=dC a1 k2∧f 1=dC a10 Z∧f 2=zS a19 b2.length c20∧f 6=zP (some ⟨j,0,none⟩)∧f 8=zS d c.length e∧f 9=i64 (wr ((wr (a.I * b.N))+b.I))∧f 10=zS i3 g6.length i4∧f 11=zS i5 g7.length i6∧f 12=i64 a2∧aK G K (aN 63 K i5 i6 g7::aN 2 K i3 i4 g6::aN 9 K d e c::box j 29 k::L) w) ?_ ?_))))
    ·rintro f b17 ⟨g6,g7,i3,i4,i5,i6,n,a15,a17,a18,a20,a21,a22,a23,a24,a25,a26⟩
     unfold uV at n
     exact aC (aS (aT a25 (aF (cQ rfl rfl) (aH (v:=i64 (wr (a2+1))) (aI ⟨(g6,g7,wr (a2+1)),(zI n).symm,i3,i4,i5,i6,a15,a17,a18,a20,a21,a22,a23,a24,rfl,a26⟩)))))
    refine aM (aT p6 (aT p7 (aT k8 (aT p8 (aT i1 (aT k9 ?_))))))
    obtain ⟨a27,l1,n⟩:=aD n
    have a28:=cY i2 (i:=1) rfl l1
    refine aF (dW bY rfl a28 rfl rfl rfl l1) (aF (jL (t:=0) cV i2 (i:=1) rfl l1 rfl rfl rfl) ?_)
    obtain ⟨b18,d6,a30,a31,a32⟩:=aK.lendS (i:=2) i2 (zR _) rfl
    obtain ⟨c0,a33,n⟩:=aD n
    refine aU (vs:=[dC a1 k2,dC a10 Z,zS d c.length e,zS a19 b2.length c20,i64 a27]) Tryz.call101 rfl (aGw a31 (h3.mono d6) (h6.mono d6) (h9.mono d6) (b9.mono d6) (n1.mono d6) (r8.mono d6) a30 (r9.mono d6) a33) ?_
    rintro _ b19 ⟨c7,c9,rfl,a35⟩
    have a36:=a32 _ _ a35
    refine aH (v:=zS c7 c0.length c9) (aI (aQ (aM (aH (v:=i64 0) (aI (bE (fun f w=>∃ (b7:List Int) (b1:List Edge) (d7:Option Addr) (d8:Nat) (d9:Option Addr) (e0:Nat),qB a2 b7 b1=some g5∧f 0=dC a1 k2∧f 1=dC a10 Z∧f 2=zS a19 b2.length c20∧f 6=zP (some ⟨j,0,none⟩)∧f 8=zS d c.length e∧f 9=i64 (wr ((wr (a.I * b.N))+b.I))∧f 10=zS d7 b7.length d8∧f 11=zS d9 b1.length e0∧f 12=i64 a2∧aK G K (aN 63 K d9 e0 b1::aN 2 K d7 d8 b7::aN 9 K d e c::box j 29 k::L) w) ?_ ?_))))))
    ·rintro f b20 ⟨b7,b1,d7,d8,d9,e0,n,q2,q3,q4,q5,q6,q7,l2,l3,q8,q9⟩
     unfold qB at n
     refine aC (aQ (dF (fun f w=>∃ (l4:Bool),qA a2 b7 b1 l4=some g5∧f 0=dC a1 k2∧f 1=dC a10 Z∧f 2=zS a19 b2.length c20∧f 6=zP (some ⟨j,0,none⟩)∧f 8=zS d c.length e∧f 9=i64 (wr ((wr (a.I * b.N))+b.I))∧f 10=zS d7 b7.length d8∧f 11=zS d9 b1.length e0∧f 12=i64 a2∧f 103=zB l4∧aK G K (aN 63 K d9 e0 b1::aN 2 K d7 d8 b7::aN 9 K d e c::box j 29 k::L) w) ?_ ?_))
     ·rintro f b21 ⟨l4,n,a37,a38,a39,l5,a41,a42,a43,a44,a45,r0,r1⟩
      unfold qA at n
      refine aC ?_
      rcases aJ n with ⟨l6,n⟩|⟨l6,n⟩
      ·refine aO l6 r0 (aM (aF (fD (vs:=[]) (cs:=k) tI rfl (by kernel_rfl)) (bR (i:=3) (ns:=k) (us:=k) Tryz.sizeOf29 r1 rfl l5 rfl rfl rfl (cX rfl) rfl rfl (fun a46 (a47:aK G K (aN 63 K d9 e0 b1::aN 2 K d7 d8 b7::aN 9 K d e c::box j 29 k::L) a46)=>(aH (v:=zB false) (aI (bH (bQ (aR (aR (aR ?_)))))))))))
       have a48:=p5 _ (zI n).symm
       subst a48
       have m:(some (⟨0,0,[],[]⟩,false))=some R:=m
       have a49:=aK.nil (α:=bB) a47 9 K
       have r2:=aK.nil (α:=Edge) a49 63 K
       obtain rfl:=zI m
       exact bQ (aR (aR (mT Tryz.results45 (dZ (vs:=k) rfl dI r2 (i:=5) rfl l5 rfl) (gW rfl rfl) ⟨none,0,none,0,rfl,(aK.arr 6 [1,0] r2 rfl)⟩)))
      ·exact aL l6 r0 (aY (bG (aC ⟨b7,b1,d7,d8,d9,e0,n,a37,a38,a39,l5,a41,a42,a43,a44,a45,r1⟩)))
     refine aS (aT l2 (aF (bN (len:=b7.length) bY rfl) (aF (oM rfl rfl) (aP (v:=zB (decide (40 < (b7.length:Int)))) ?_))))
     rcases aJ n with ⟨c3,n⟩|⟨c3,n⟩
     ·exact bC c3 rfl rfl (bC c3 rfl rfl (bC c3 rfl rfl (aF (bO (v:=zB true) c3 rfl rfl) (aI ⟨true,n,q2,q3,q4,q5,q6,q7,l2,l3,q8,rfl,q9⟩))))
     ·exact bP c3 rfl rfl (aT l3 (bP c3 rfl rfl (aF (bN (len:=b1.length) cK rfl) (bP c3 rfl rfl (aF (oM rfl rfl) (aF (bV (v:=zB (decide (300 < (b1.length:Int)))) c3 rfl rfl) (aI ⟨decide (300 < (b1.length:Int)),n,q2,q3,q4,q5,q6,q7,l2,l3,q8,rfl,q9⟩)))))))
    obtain ⟨b23,a52,n⟩:=aD n
    refine cD a52 (fun (s:(List Int × List Edge × Int)) f w=>match s with|(c1,d0,c4)=>∃ (d1:Option Addr) (d2:Nat) (f2:Option Addr) (f3:Nat),f 0=dC a1 k2∧f 1=dC a10 Z∧f 2=zS a19 b2.length c20∧f 6=zP (some ⟨j,0,none⟩)∧f 8=zS d c.length e∧f 9=i64 (wr ((wr (a.I * b.N))+b.I))∧f 10=zS d1 c1.length d2∧f 11=zS f2 d0.length f3∧f 12=i64 a2∧f 13=zS c7 c0.length c9∧f 14=i64 c4∧aK G K (aN 9 K d e c::aN 63 K c7 c9 c0::aN 63 K f2 f3 d0::aN 2 K d1 d2 c1::box j 29 k::L) w) ?_ ?_
    ·exact ⟨g1,g2,g3,g4,p6,p7,p8,p9,k8,q0,i1,q1,k9,rfl,rfl,a36⟩
    ·rintro ⟨c1,d0,c4⟩ r3 f a53 q a54 ⟨d1,d2,f2,f3,l7,l8,l9,m0,m1,m2,i7,r4,m3,f4,f5,i8⟩
     replace q:iN c0 c1 d0 c4=some r3:=q
     unfold iN at q
     refine aQ (aM (aT f5 (aT f4 (aF (bN (len:=c0.length) cK rfl) (aF (cG rfl rfl) (aI ?_))))))
     rcases aJ q with ⟨m4,q⟩|⟨m4,q⟩
     ·refine aO m4 rfl (aY (aC (aQ (bE (fun f w=>∃ (g8:List Int) (g9:List Edge) (i9:Option Addr) (j0:Nat) (j1:Option Addr) (j2:Nat),qC c4 g8 g9=some r3∧f 0=dC a1 k2∧f 1=dC a10 Z∧f 2=zS a19 b2.length c20∧f 6=zP (some ⟨j,0,none⟩)∧f 8=zS d c.length e∧f 9=i64 (wr ((wr (a.I * b.N))+b.I))∧f 10=zS i9 g8.length j0∧f 11=zS j1 g9.length j2∧f 12=i64 a2∧f 13=zS c7 c0.length c9∧f 14=i64 c4∧aK G K (aN 63 K j1 j2 g9::aN 2 K i9 j0 g8::aN 9 K d e c::aN 63 K c7 c9 c0::box j 29 k::L) w) ?_ ?_))))
      ·rintro f b24 ⟨g8,g9,i9,j0,j1,j2,q,a55,a56,a57,a58,a59,a60,a61,a62,a63,a64,a65,a67⟩
       unfold qC at q
       exact aC (aS (aT a65 (aF (cQ rfl rfl) (aH (v:=i64 (wr (c4+1))) (aI ⟨(g8,g9,wr (c4+1)),(zI q).symm,i9,j0,j1,j2,a55,a56,a57,a58,a59,a60,a61,a62,a63,a64,rfl,(aK.arr 4 [2,3,0,1] a67 rfl)⟩)))))
      refine aM (aT r4 (aT f4 (aT f5 ?_)))
      obtain ⟨b8,e1,q⟩:=aD q
      have h0:=cY i8 (i:=1) rfl e1
      refine aF (dW cK rfl h0 rfl rfl rfl e1) (aF (tL (t:=0) (vs:=[i64 b8.F,i64 b8.B,i64 b8.To]) lU i8 (i:=1) rfl e1 rfl rfl rfl rfl) ?_)
      have a68:aK G K (aN 63 K f2 f3 d0::aN 9 K d e c::aN 63 K c7 c9 c0::aN 2 K d1 d2 c1::box j 29 k::L) a53:=(aK.arr 3 [2,0,1] i8 rfl)
      obtain ⟨h1,a70,q⟩:=aD q
      refine aU (vs:=[zS f2 d0.length f3,zA #[i64 b8.F,i64 b8.B,i64 b8.To]]) Tryz.call102 rfl (aEl a68 a70) ?_
      rintro _ b25 ⟨h2,h4,rfl,r5⟩
      refine aH (v:=zS h2 h1.length h4) (aI (aM (aT i7 (aT f4 (aT f5 (aF (dW cK rfl h0 rfl rfl rfl e1) (aF (aAp (k':=c4.toNat * 3+2) gX h0 rfl rfl) (aF (jL (t:=2) cV r5 (i:=2) rfl e1 rfl rfl rfl) ?_))))))))
      obtain ⟨b26,b27,a71,a72,a74⟩:=aK.lendS (i:=3) r5 (zR _) rfl
      obtain ⟨b28,a75,q⟩:=aD q
      refine aU (vs:=[zS d1 c1.length d2,i64 b8.To]) Tryz.call70 rfl (qL a72 a71 a75) ?_
      rintro _ b29 ⟨rfl,a77⟩
      have m5:=a74 _ _ a77
      refine aF (cG rfl rfl) (aI ?_)
      rcases aJ q with ⟨m6,q⟩|⟨m6,q⟩
      ·refine aO m6 rfl (aS (aT i7 (aT f4 (aT f5 (aF (dW cK rfl h0 rfl rfl rfl e1) (aF (aAp (k':=c4.toNat * 3+2) gX h0 rfl rfl) (aF (jL (t:=2) cV m5 (i:=3) rfl e1 rfl rfl rfl) (cT (Kt:=K) (xs:=([b8.To]:List Int)) (cs:=[i64 b8.To]) (vs:=[(0,i64 b8.To)]) bY lR rfl rfl m5 rfl (by kernel_rfl) rfl rfl rfl ⟨rfl,trivial⟩ (fun a78 a79 (a80:aK G K (aN 2 K a78 1 ([b8.To]:List Int)::aN 2 K d1 d2 c1::aN 63 K h2 h4 h1::aN 9 K d e c::aN 63 K c7 c9 c0::box j 29 k::L) a79)=>?_)))))))))
       obtain ⟨m7,a81,q⟩:=aD q
       exact eI (i:=0) bY Tryz.underlying38 lR rfl rfl a80 rfl (zR _) (zR _) a81 rfl rfl rfl rfl (fun _ h=>h) (fun m8 m9 a82 (a83:aK G K (aN 2 K m8 m9 m7::aN 63 K h2 h4 h1::aN 9 K d e c::aN 63 K c7 c9 c0::box j 29 k::L) a82)=>(aH (v:=zS m8 m7.length m9) (bA (bG (aC ⟨m7,h1,m8,m9,h2,h4,q,l7,l8,l9,m0,m1,m2,rfl,rfl,m3,f4,f5,(aK.arr 2 [1,0] a83 rfl)⟩)))))
      ·exact aL m6 rfl (aY (bG (aC ⟨c1,h1,d1,d2,h2,h4,q,l7,l8,l9,m0,m1,m2,i7,rfl,m3,f4,f5,(aK.arr 2 [1,0] m5 rfl)⟩)))
     ·refine aL m4 rfl (cB (aV (aV ?_)))
      have a84:=a54 _ (zI q).symm
      subst a84
      have n:(qB a2 c1 d0)=some g5:=n
      exact bJ (aC ⟨c1,d0,d1,d2,f2,f3,n,l7,l8,l9,m0,m1,m2,i7,r4,m3,(aK.arr 4 [2,3,0] i8 rfl)⟩)
   ·refine aL l0 rfl (cB (aV (aV ?_)))
    have a86:=p5 _ (zI n).symm
    subst a86
    have m:(pZ a b c d5 f1)=some R:=m
    exact bJ (aC ⟨d5,f1,g1,g2,g3,g4,m,p9,k8,q0,i1,q1,i2⟩)
theorem aFO {a:cN} {z:Nat} {b:cN} {J:Nat} {R:(List bB)} (hs:aK G K (L) w) (h3:kR K a1 z (zC a a4 c5 a7 c8)) (h6:dB K a4 c5 a.L) (h9:dB K a7 c8 a.E) (a8:kR K a10 J (zC b a13 c14 a16 c17)) (d1:dB K a13 c14 b.L) (h5:dB K a16 c17 b.E) (d:aAk a b=some R):
  Calls Tryz.prog 46 ([dC a1 z,dC a10 J]:List Value).toArray w (iK fun v w'=>∃ (b5:Option Addr) (b6:Nat),v=zS b5 R.length b6∧aK G K (aN 9 K b5 b6 R::L) w'):=by
 refine aX Tryz.func46 rfl (by kernel_rfl) (by show (2:Nat)≤42;decide) ?_
 unfold aAk at d
 refine aM (aH (v:=zS none 0 0) (aI (aM (cT (Kt:=K) (xs:=([]:List bB)) (cs:=[]) (vs:=[]) cF vJ rfl rfl hs rfl (by kernel_rfl) rfl rfl rfl trivial (fun p d2 (b7:aK G K (aN 9 K p 0 ([]:List bB)::L) d2)=>(aH (v:=zS p ([]:List bB).length 0) (aI (aQ (gA (C:=fun w'=>∃ L',aK G K L' w') [(1,0),(2,0),(3,0),(4,0),(6,0),(7,0),(8,0),(9,0),(0,1),(5,1),(10,1),(11,1),(12,0)] bT (by kernel_rfl) (fun _ hg=>⟨_,aK.mono b7 hg⟩) (fun h7 d3=>?_))))))))))
 have q:=aK.mono b7 d3
 refine bZ rfl (fun _ _=>aZ (v:=dC a1 z) rfl) (bZ rfl (fun _ _=>dE rfl h3) (bZ rfl (fun _ _=>cR (k':=z+2) eG rfl h3 rfl) (bZ rfl (fun _ ⟨_,q⟩=>bK (t:=2) iT q h3 rfl rfl) (bZ rfl (fun _ _=>aZ (v:=dC a10 J) rfl) (bZ rfl (fun _ _=>dE rfl a8) (bZ rfl (fun _ _=>cR (k':=J+2) eG rfl a8 rfl) (bZ rfl (fun _ ⟨_,q⟩=>bK (t:=2) iT q a8 rfl rfl) (kD rfl (cT (Kt:=K) (xs:=([]:List bB)) (cs:=[]) (vs:=[]) cF vJ rfl rfl q rfl (by kernel_rfl) rfl rfl rfl trivial (fun d4 d5 (b8:aK G K (aN 9 K d4 0 ([]:List bB)::aN 9 K p 0 ([]:List bB)::L) d5)=>(bA (aC ⟨⟨_,b8⟩,?_⟩))))))))))))
 refine kD rfl ?_
 obtain ⟨d6,d7,d⟩:=aD d
 refine aCJ (i:=0) cF Tryz.underlying22 vJ rfl rfl b8 rfl (zR _) h6 d7 rfl rfl rfl rfl (fun d8 d9 e0 (b9:aK G K (aN 9 K d8 d9 d6::aN 9 K p 0 ([]:List bB)::L) e0)=>(bA (aC ⟨⟨_,b9⟩,?_⟩)))
 refine kD rfl ?_
 obtain ⟨c0,e1,d⟩:=aD d
 refine aCJ (i:=0) cF Tryz.underlying22 vJ rfl rfl b9 rfl (zR _) d1 e1 rfl rfl rfl rfl (fun c1 c2 e2 (c3:aK G K (aN 9 K c1 c2 c0::aN 9 K p 0 ([]:List bB)::L) e2)=>(bA (aC ⟨⟨_,c3⟩,?_⟩)))
 refine kD rfl ?_
 obtain ⟨h8,i0,e3,e4,e5⟩:=aK.lendS (i:=0) c3 (zR _) rfl
 obtain ⟨e,e6,d⟩:=aD d
 refine aU (vs:=[zS c1 c0.length c2]) Tryz.call100 rfl (aBr e4 e3 e6) ?_
 rintro _ i1 ⟨k,l,rfl,e7⟩
 have c4:=e5 _ _ e7
 refine bA (aC ⟨⟨_,c4⟩,?_⟩)
 refine bZ rfl (fun _ _=>dH (v:=zS k e.length l) rfl) (lY (aC (aQ (aM (aH (v:=i64 1) (aI (bE (fun f w=>∃ (r:List bB) (u:Option Addr) (x:Nat),xI r=some R∧f 5=zS u r.length x∧aK G K (aN 9 K u x r::L) w) ?_ ?_)))))))
 ·rintro f i2 ⟨r,u,x,d,e8,e9⟩
  unfold xI at d
  refine aC (aM (aT e8 (aH (v:=zS u r.length x) (aI ?_))))
  obtain rfl:=zI d
  exact bH (bF Tryz.results46 rfl ⟨u,x,rfl,e9⟩)
 obtain ⟨i3,f1,d⟩:=aD d
 refine cD f1 (fun (s:(List bB × Int)) f w=>match s with|(g,m)=>∃ (n:Option Addr) (o:Nat),f 5=zS n g.length o∧f 6=zS k e.length l∧f 7=i64 m∧aK G K (aN 9 K k l e::aN 9 K n o g::L) w) ?_ ?_
 ·exact ⟨p,0,rfl,rfl,rfl,(aK.arr 1 [] c4 rfl)⟩
 ·rintro ⟨g,m⟩ c6 f i4 c f2 ⟨n,o,V,Z,a0,a2⟩
  replace c:mM e g m=some c6:=c
  unfold mM at c
  refine aQ (aM (aT a0 (aT Z (aF (bN (len:=e.length) cF rfl) (aF (cG rfl rfl) (aI ?_))))))
  rcases aJ c with ⟨a9,c⟩|⟨a9,c⟩
  ·refine aO a9 rfl (aY (aC (aQ (bE (fun f w=>∃ (y:List bB) (a3:Option Addr) (a5:Nat),rW m y=some c6∧f 5=zS a3 y.length a5∧f 6=zS k e.length l∧f 7=i64 m∧aK G K (aN 9 K a3 a5 y::aN 9 K k l e::L) w) ?_ ?_))))
   ·rintro f i5 ⟨y,a3,a5,c,f3,f4,f5,f6⟩
    unfold rW at c
    exact aC (aS (aT f5 (aF (cQ rfl rfl) (aH (v:=i64 (wr (m+1))) (aI ⟨(y,wr (m+1)),(zI c).symm,a3,a5,f3,f4,rfl,(aK.arr 2 [1,0] f6 rfl)⟩)))))
   refine aM (aT Z (aT a0 ?_))
   obtain ⟨f7,b0,c⟩:=aD c
   have f8:=cY a2 (i:=0) rfl b0
   refine aF (dW cF rfl f8 rfl rfl rfl b0) (aF (jL (t:=0) mV a2 (i:=0) rfl b0 rfl rfl rfl) ?_)
   obtain ⟨j,f9,c⟩:=aD c
   refine aU (vs:=[str f7]) Tryz.call104 rfl (tO a2 f9) ?_
   rintro _ i6 ⟨rfl,g0⟩
   refine aH (v:=str j) (aI (aM (aT V (aP (v:=str j) ?_))))
   obtain ⟨i7,i8,g1,g2,g3⟩:=aK.lendS (i:=1) g0 (zR _) rfl
   obtain ⟨i9,g4,c⟩:=aD c
   refine aU (vs:=[zS n g.length o,str j]) Tryz.call105 rfl (mO g2 g1 g4) ?_
   rintro _ j0 ⟨rfl,g5⟩
   have c7:=g3 _ _ g5
   refine aF (cG rfl rfl) (aI ?_)
   rcases aJ c with ⟨b1,c⟩|⟨b1,c⟩
   ·refine aO b1 rfl (aS (aT V (aP (v:=str j) (cT (Kt:=K) (xs:=([j]:List bB)) (cs:=[str j]) (vs:=[(0,str j)]) cF vJ rfl rfl c7 rfl (by kernel_rfl) rfl rfl rfl ⟨rfl,trivial⟩ (fun g6 g7 (g8:aK G K (aN 9 K g6 1 ([j]:List bB)::aN 9 K n o g::aN 9 K k l e::L) g7)=>?_)))))
    obtain ⟨b2,g9,c⟩:=aD c
    exact eI (i:=0) cF Tryz.underlying22 vJ rfl rfl g8 rfl (zR _) (zR _) g9 rfl rfl rfl rfl (fun _ h=>h) (fun b3 b4 h0 (h1:aK G K (aN 9 K b3 b4 b2::aN 9 K k l e::L) h0)=>(aH (v:=zS b3 b2.length b4) (bA (bG (aC ⟨b2,b3,b4,c,rfl,Z,a0,h1⟩)))))
   ·exact aL b1 rfl (aY (bG (aC ⟨g,n,o,c,V,Z,a0,c7⟩)))
  ·refine aL a9 rfl (cB (aV (aV ?_)))
   have h2:=f2 _ (zI c).symm
   subst h2
   have d:(xI g)=some R:=d
   exact bJ (aC ⟨g,n,o,d,V,(aK.arr 1 [] a2 rfl)⟩)
theorem aCO {d:cN} {j:Nat} {k:Int} {l:bB} {R:Int} (hs:aK G K (L) w) (e:kR K a1 j (zC d a4 c5 a7 c8)) (h6:dB K a4 c5 d.L) (n:dB K a7 c8 d.E) (i:aCN d k l=some R):
  Calls Tryz.prog 110 ([dC a1 j,i64 k,str l]:List Value).toArray w (iK fun v w'=>v=i64 R∧aK G K (L) w'):=by
 refine aX Tryz.func110 rfl (by kernel_rfl) (by show (3:Nat)≤57;decide) ?_
 unfold aCN at i
 refine aM (aH (v:=i64 0) (aI (aQ (aM (aH (v:=i64 0) (aI (bE (fun f w=>aCM=some R∧aK G K (L) w) ?_ ?_)))))))
 ·rintro f d8 ⟨i,c1⟩
  unfold aCM at i
  refine aC (aM (aH (v:=i64 (-1)) (aI ?_)))
  obtain rfl:=zI i
  exact bH (bF Tryz.results110 rfl ⟨rfl,c1⟩)
 obtain ⟨d9,c3,i⟩:=aD i
 refine cD c3 (fun (h:Int) f w=>f 0=dC a1 j∧f 1=i64 k∧f 2=str l∧f 7=i64 h∧aK G K (L) w) ?_ ?_
 ·exact ⟨rfl,rfl,rfl,rfl,hs⟩
 ·rintro h u f e0 c a9 ⟨x,y,b0,z,J⟩
  replace c:pP d k l h=some u:=c
  unfold pP at c
  refine aQ (aQ (dF (fun f w=>∃ (V:Bool),aBn d k l h V=some u∧f 0=dC a1 j∧f 1=i64 k∧f 2=str l∧f 7=i64 h∧f 18=zB V∧aK G K (L) w) ?_ ?_))
  ·rintro f e1 ⟨V,c,o,Z,a0,p,b1,a⟩
   unfold aBn at c
   refine aC ?_
   rcases aJ c with ⟨a2,c⟩|⟨a2,c⟩
   ·refine aO a2 b1 (aY (aC (aQ (cW (aQ (dF (fun f w=>∃ (a3:Bool),aBm d h a3=some u∧f 0=dC a1 j∧f 1=i64 k∧f 2=str l∧f 7=i64 h∧f 48=zB a3∧aK G K (L) w) ?_ ?_))))))
    ·rintro f e2 ⟨a3,c,b2,c4,c6,b3,b4,q⟩
     unfold aBm at c
     refine aC ?_
     rcases aJ c with ⟨a5,c⟩|⟨a5,c⟩
     ·refine aO a5 b4 (aM (aT b2 (aF (dE rfl e) (aF (cR (k':=j+3) eR rfl e rfl) (aF (bK (t:=3) lK q e rfl rfl) (aT b3 ?_))))))
      obtain ⟨b5,b6,c⟩:=aD c
      refine aF (dN cK rfl n rfl rfl rfl b6) ?_
      obtain ⟨e3,b7,c7⟩:=dB.el (sz:=3) rfl n b6
      cases c7
      refine aF (cR (k':=h.toNat * 3+2) gX rfl b7 rfl) (aF (bK (t:=2) cV q b7 rfl rfl) (aH (v:=i64 b5.To) (aI (bH (bQ (aR (aR ?_)))))))
      have c9:=a9 _ (zI c).symm
      subst c9
      have i:(some b5.To)=some R:=i
      obtain rfl:=zI i
      exact bQ (aR (aR (bF Tryz.results110 rfl ⟨rfl,q⟩)))
     ·exact aL a5 b4 (aY (bG (aC (aS (aT b3 (aF (cQ rfl rfl) (aH (v:=i64 (wr (h+1))) (aI ⟨wr (h+1),(zI c).symm,b2,c4,c6,rfl,q⟩))))))))
    refine dR (C:=fun w'=>aK G K (L) w') bT (by kernel_rfl) (aK.mono a (dQ.drew _)) (aW (fun _ a=>aZ o) (aW (fun _ a=>dE rfl e) (aW (fun _ a=>cR (k':=j+3) eR rfl e rfl) (aW (fun _ a=>bK (t:=3) lK a e rfl rfl) (aW (fun _ a=>aZ p) ?_)))))
    obtain ⟨d1,a6,c⟩:=aD c
    refine aW (fun _ a=>dN cK rfl n rfl rfl rfl a6) ?_
    obtain ⟨e4,r,d2⟩:=dB.el (sz:=3) rfl n a6
    cases d2
    refine aW (fun _ a=>cR (k':=h.toNat * 3+0) kG rfl r rfl) (aW (fun _ a=>bK (t:=0) cV a r rfl rfl) (aW (fun _ a=>aZ Z) (aW (fun _ a=>oN rfl rfl) (aW (fun _ a=>aZ (v:=zB (d1.F == k)) rfl) ?_))))
    rcases aJ c with ⟨b,c⟩|⟨b,c⟩
    ·refine bW (g:=31) rfl rfl b (aW (fun _ a=>aZ o) (bW (g:=31) rfl rfl b (aW (fun _ a=>dE rfl e) (bW (g:=31) rfl rfl b (aW (fun _ a=>cR (k':=j+2) eG rfl e rfl) (bW (g:=31) rfl rfl b (aW (fun _ a=>bK (t:=2) iT a e rfl rfl) (bW (g:=31) rfl rfl b (aW (fun _ a=>aZ o) (bW (g:=31) rfl rfl b (aW (fun _ a=>dE rfl e) (bW (g:=31) rfl rfl b (aW (fun _ a=>cR (k':=j+3) eR rfl e rfl) (bW (g:=31) rfl rfl b (aW (fun _ a=>bK (t:=3) lK a e rfl rfl) (bW (g:=31) rfl rfl b (aW (fun _ a=>aZ p) (bW (g:=31) rfl rfl b (aW (fun _ a=>dN cK rfl n rfl rfl rfl a6) (bW (g:=31) rfl rfl b (aW (fun _ a=>cR (k':=h.toNat * 3+1) iF rfl r rfl) (bW (g:=31) rfl rfl b (aW (fun _ a=>bK (t:=1) cV a r rfl rfl) ?_)))))))))))))))))))))))
     refine bW (g:=31) rfl rfl b ?_
     obtain ⟨b8,b9,c⟩:=aD c
     refine aW (fun _ a=>dN cF rfl h6 rfl rfl rfl b9) ?_
     obtain ⟨e5,d3,d4⟩:=dB.el (sz:=1) rfl h6 b9
     cases d4
     exact bW (g:=31) rfl rfl b (aW (fun _ a=>bK (t:=0) mV a d3 rfl rfl) (bW (g:=31) rfl rfl b (aW (fun _ a=>aZ a0) (bW (g:=31) rfl rfl b (aW (fun _ a=>wN rfl rfl) (aW (fun _ a=>bO (v:=zB (b8 == l)) b rfl rfl) (eF (fun e6 d5=>(aC ⟨b8 == l,c,o,Z,a0,p,rfl,d5⟩)))))))))
    ·exact bD (g:=31) rfl rfl (dD b) (bD (g:=31) rfl rfl (dD b) (bD (g:=31) rfl rfl (dD b) (bD (g:=31) rfl rfl (dD b) (bD (g:=31) rfl rfl (dD b) (bD (g:=31) rfl rfl (dD b) (bD (g:=31) rfl rfl (dD b) (bD (g:=31) rfl rfl (dD b) (bD (g:=31) rfl rfl (dD b) (bD (g:=31) rfl rfl (dD b) (bD (g:=31) rfl rfl (dD b) (bD (g:=31) rfl rfl (dD b) (bD (g:=31) rfl rfl (dD b) (bD (g:=31) rfl rfl (dD b) (bD (g:=31) rfl rfl (dD b) (bD (g:=31) rfl rfl (dD b) (aW (fun _ a=>bV (v:=zB false) b rfl rfl) (eF (fun e7 d6=>(aC ⟨false,c,o,Z,a0,p,rfl,d6⟩)))))))))))))))))))
   ·refine aL a2 b1 (cB (aV (aV ?_)))
    have d7:=a9 _ (zI c).symm
    subst d7
    have i:(aCM)=some R:=i
    exact bJ (aC ⟨i,a⟩)
  refine aS (aT z (aT x (aF (dE rfl e) (aF (cR (k':=j+3) eR rfl e rfl) (aF (bK (t:=3) lK J e rfl rfl) (aF (bN (len:=d.E.length) cK rfl) (aF (cG rfl rfl) (aP (v:=zB (decide (h < (d.E.length:Int)))) ?_))))))))
  rcases aJ c with ⟨m,c⟩|⟨m,c⟩
  ·exact bU m rfl rfl (aT y (bU m rfl rfl (aF (tU rfl rfl) (aF (bO (v:=zB (decide (0≤k))) m rfl rfl) (aI ⟨decide (0≤k),c,x,y,b0,z,rfl,J⟩)))))
  ·exact bI m rfl rfl (bI m rfl rfl (aF (bV (v:=zB false) m rfl rfl) (aI ⟨false,c,x,y,b0,z,rfl,J⟩)))
theorem aHq {m R:(List Int)} (hs:aK G K (L) w) (V:dB K a1 c2 m) (o:aCq m=some R):
  Calls Tryz.prog 179 ([zS a1 m.length c2]:List Value).toArray w (iK fun v w'=>∃ (b4:Option Addr) (b5:Nat),v=zS b4 R.length b5∧aK G K (aN 2 K b4 b5 R::L) w'):=by
 refine aX Tryz.func179 rfl (by kernel_rfl) (by show (1:Nat)≤48;decide) ?_
 unfold aCq at o
 refine aM (aH (v:=zS none 0 0) (aI (aM (aP (v:=zS a1 m.length c2) (aF (bN (len:=m.length) bY rfl) ?_)))))
 obtain ⟨b,q5,o⟩:=aD o
 refine aDp (e:=(0:Int)) bY lR rfl rfl hs rfl rfl rfl q5 rfl (fun c w7 (d8:aK G K (aN 2 K c b.length b::L) w7)=>(aH (v:=zS c b.length b.length) (aI (aM (aH (v:=i64 0) (aI (aQ (aM (aH (v:=i64 0) (aI (bE (fun f w=>∃ (q:List Int),aAJ q=some R∧f 3=zS c q.length b.length∧aK G K (aN 2 K c b.length q::L) w) ?_ ?_)))))))))))
 ·rintro f g4 ⟨q,o,d9,e0⟩
  unfold aAJ at o
  refine aC (aM (aT d9 (aH (v:=zS c q.length b.length) (aI ?_))))
  obtain rfl:=zI o
  exact bH (bF Tryz.results179 rfl ⟨c,b.length,rfl,e0⟩)
 obtain ⟨g5,e2,o⟩:=aD o
 refine cD e2 (fun (s:(List Int × Int × Int)) f w=>match s with|(g,j,k)=>f 0=zS a1 m.length c2∧f 3=zS c g.length b.length∧f 4=i64 j∧f 5=i64 k∧aK G K (aN 2 K c b.length g::L) w) ?_ ?_
 ·exact ⟨rfl,rfl,rfl,rfl,d8⟩
 ·rintro ⟨g,j,k⟩ r f g6 a e3 ⟨b6,b7,e4,b8,b9⟩
  replace a:lZ m g j k=some r:=a
  unfold lZ at a
  refine aQ (aM (aT b8 (aT b6 (aF (bN (len:=m.length) bY rfl) (aF (cG rfl rfl) (aI ?_))))))
  rcases aJ a with ⟨a3,a⟩|⟨a3,a⟩
  ·refine aO a3 rfl (aY (aC (aQ (bE (fun f w=>∃ (u:List Int) (Z:Int),xJ k u Z=some r∧f 0=zS a1 m.length c2∧f 3=zS c u.length b.length∧f 4=i64 Z∧f 5=i64 k∧aK G K (aN 2 K c b.length u::L) w) ?_ ?_))))
   ·rintro f g7 ⟨u,Z,a,e5,e6,e7,e8,e9⟩
    unfold xJ at a
    exact aC (aS (aT e8 (aF (cQ rfl rfl) (aH (v:=i64 (wr (k+1))) (aI ⟨(u,Z,wr (k+1)),(zI a).symm,e5,e6,e7,rfl,e9⟩)))))
   refine aM (aH (v:=i64 (-1)) (aI (aQ (aM (aH (v:=i64 0) (aI (bE (fun f w=>∃ (a4:Int),tC g j k a4=some r∧f 0=zS a1 m.length c2∧f 3=zS c g.length b.length∧f 4=i64 j∧f 5=i64 k∧f 6=i64 a4∧aK G K (aN 2 K c b.length g::L) w) ?_ ?_)))))))
   ·rintro f g8 ⟨a4,a,c0,x,a5,a0,c1,y⟩
    unfold tC at a
    refine aC (aM (aT c1 (aF (tU rfl rfl) (aI ?_))))
    rcases aJ a with ⟨a7,a⟩|⟨a7,a⟩
    ·refine aO a7 rfl (aS (aT x (aT a0 (aT x (aT c1 ?_)))))
     obtain ⟨c3,a8,a⟩:=aD a
     have c4:=cY y (i:=0) rfl a8
     refine aF (dW bY rfl c4 rfl rfl rfl a8) (aF (jL (t:=0) cV y (i:=0) rfl a8 rfl rfl rfl) ?_)
     obtain ⟨g9,c5,a⟩:=aD a
     refine aF (dW bY rfl c4 rfl rfl rfl c5) ?_
     obtain ⟨c6,c7,a⟩:=aD a
     exact mW (i:=0) (t:=0) (ns:=[i64 c3]) (e':=(c3:Int)) Tryz.sizeOf2 y rfl (zR _) rfl rfl rfl c5 c7 rfl rfl (cX rfl) rfl (fun cs h=>by cases h;rfl) (fun f0 (f1:aK G K (aN 2 K c b.length c6::L) f0)=>(bA (bG (aC ⟨c6,j,a,c0,(Eq.trans x (congrArg (fun n=>zS c n b.length) (jP c7))),a5,a0,f1⟩))))
    ·refine aL a7 rfl (aM (aT x (aT a0 (aT a5 ?_))))
     obtain ⟨h0,a9,a⟩:=aD a
     have f2:=cY y (i:=0) rfl a9
     refine aF (dW bY rfl f2 rfl rfl rfl a9) ?_
     obtain ⟨c8,c9,a⟩:=aD a
     exact mW (i:=0) (t:=0) (ns:=[i64 j]) (e':=(j:Int)) Tryz.sizeOf2 y rfl (zR _) rfl rfl rfl a9 c9 rfl rfl (cX rfl) rfl (fun cs h=>by cases h;rfl) (fun f3 (f4:aK G K (aN 2 K c b.length c8::L) f3)=>(aI (aS (aT a5 (aF (cQ rfl rfl) (aH (v:=i64 (wr (j+1))) (bA (bG (aC ⟨c8,wr (j+1),a,c0,(Eq.trans x (congrArg (fun n=>zS c n b.length) (jP c9))),rfl,a0,f4⟩)))))))))
   obtain ⟨h1,f5,a⟩:=aD a
   refine cD f5 (fun (p:Int) f w=>f 0=zS a1 m.length c2∧f 3=zS c g.length b.length∧f 4=i64 j∧f 5=i64 k∧f 6=i64 (-1)∧f 7=i64 p∧aK G K (aN 2 K c b.length g::L) w) ?_ ?_
   ·exact ⟨b6,b7,e4,b8,rfl,rfl,b9⟩
   ·rintro p f6 f h2 d d0 ⟨z,b0,b1,J,d1,a2,l⟩
    replace d:jC m k p=some f6:=d
    unfold jC at d
    refine aQ (aM (aT a2 (aT J (aF (cG rfl rfl) (aI ?_)))))
    rcases aJ d with ⟨b2,d⟩|⟨b2,d⟩
    ·refine aO b2 rfl (aY (aC (aQ (cW (aQ (dR (C:=fun w'=>aK G K (aN 2 K c b.length g::L) w') bT (by kernel_rfl) (aK.mono l (dQ.drew _)) (aW (fun _ l=>aZ z) (aW (fun _ l=>aZ a2) ?_))))))))
     obtain ⟨h4,d2,d⟩:=aD d
     refine aW (fun _ l=>dN bY rfl V rfl rfl rfl d2) ?_
     obtain ⟨h5,f7,f8⟩:=dB.el (sz:=1) rfl V d2
     cases f8
     refine aW (fun _ l=>bK (t:=0) cV l f7 rfl rfl) (aW (fun _ l=>aZ z) (aW (fun _ l=>aZ J) ?_))
     obtain ⟨h6,d3,d⟩:=aD d
     refine aW (fun _ l=>dN bY rfl V rfl rfl rfl d3) ?_
     obtain ⟨h7,f9,g0⟩:=dB.el (sz:=1) rfl V d3
     cases g0
     refine aW (fun _ l=>bK (t:=0) cV l f9 rfl rfl) (aW (fun _ l=>oN rfl rfl) (eF (fun h8 d4=>(aC ?_))))
     rcases aJ d with ⟨b3,d⟩|⟨b3,d⟩
     ·refine aO b3 rfl (aM (aT a2 (aH (v:=i64 p) (aI (cB (aFw rfl (aV (aV ?_))))))))
      have g1:=d0 _ (zI d).symm
      subst g1
      have a:(tC g j k p)=some r:=a
      exact bJ (aC ⟨p,a,z,b0,b1,J,rfl,d4⟩)
     ·exact aL b3 rfl (aY (bG (aC (aS (aT a2 (aF (cQ rfl rfl) (aH (v:=i64 (wr (p+1))) (aI ⟨wr (p+1),(zI d).symm,z,b0,b1,J,d1,rfl,d4⟩))))))))
    ·refine aL b2 rfl (cB (aV (aV ?_)))
     have g2:=d0 _ (zI d).symm
     subst g2
     have a:(tC g j k (-1))=some r:=a
     exact bJ (aC ⟨(-1),a,z,b0,b1,J,d1,l⟩)
  ·refine aL a3 rfl (cB (aV (aV ?_)))
   have g3:=e3 _ (zI a).symm
   subst g3
   have o:(aAJ g)=some R:=o
   exact bJ (aC ⟨g,o,b7,b9⟩)
theorem aFe {d:cN} {r:Nat} {R:(List Int)} (hs:aK G K (L) w) (u:kR K a1 r (zC d a4 c5 a7 c8)) (h6:dB K a4 c5 d.L) (h9:dB K a7 c8 d.E) (hm:xK d=some R):
  Calls Tryz.prog 109 ([dC a1 r]:List Value).toArray w (iK fun v w'=>∃ (h7:Option Addr) (h8:Nat),v=zS h7 R.length h8∧aK G K (aN 2 K h7 h8 R::L) w'):=by
 refine aX Tryz.func109 rfl (by kernel_rfl) (by show (1:Nat)≤115;decide) ?_
 unfold xK at hm
 refine aM (aH (v:=zS none 0 0) (aI (aM (aP (v:=dC a1 r) (aF (dE rfl u) (aF (cR (k':=r+0) iZ rfl u rfl) (aF (bK (t:=0) cV hs u rfl rfl) ?_)))))))
 obtain ⟨c1,l5,hm⟩:=aD hm
 refine aDp (e:=(0:Int)) bY lR rfl rfl hs rfl rfl rfl l5 rfl (fun e7 l6 (l7:aK G K (aN 2 K e7 c1.length c1::L) l6)=>(aH (v:=zS e7 c1.length c1.length) (aI (aQ (aM (aH (v:=i64 0) (aI (bE (fun f w=>∃ (c2:List Int) (c3:Option Addr) (c4:Nat),uW c2=some R∧f 3=zS c3 c2.length c4∧aK G K (aN 2 K c3 c4 c2::L) w) ?_ ?_))))))))
 ·rintro f t5 ⟨c2,c3,c4,hm,l8,l9⟩
  unfold uW at hm
  refine aC (aM (aT l8 (aH (v:=zS c3 c2.length c4) (aI ?_))))
  obtain rfl:=zI hm
  exact bH (bF Tryz.results109 rfl ⟨c3,c4,rfl,l9⟩)
 obtain ⟨t6,m1,hm⟩:=aD hm
 refine cD m1 (fun (s:(List Int × Int)) f w=>match s with|(c,V)=>∃ (m:Option Addr) (o:Nat),f 0=dC a1 r∧f 3=zS m c.length o∧f 4=i64 V∧aK G K (aN 2 K m o c::L) w) ?_ ?_
 ·exact ⟨e7,c1.length,rfl,rfl,rfl,l7⟩
 ·rintro ⟨c,V⟩ d3 f t7 x m2 ⟨m,o,e8,i0,i1,d4⟩
  replace x:iQ d c V=some d3:=x
  unfold iQ at x
  refine aQ (aM (aT i1 (aT e8 (aF (dE rfl u) (aF (cR (k':=r+0) iZ rfl u rfl) (aF (bK (t:=0) cV d4 u rfl rfl) (aF (cG rfl rfl) (aI ?_))))))))
  rcases aJ x with ⟨e9,x⟩|⟨e9,x⟩
  ·refine aO e9 rfl (aY (aC (aQ (bE (fun f w=>∃ (c6:List Int) (d5:Option Addr) (d6:Nat),uX V c6=some d3∧f 0=dC a1 r∧f 3=zS d5 c6.length d6∧f 4=i64 V∧aK G K (aN 2 K d5 d6 c6::L) w) ?_ ?_))))
   ·rintro f t8 ⟨c6,d5,d6,x,m3,m4,m5,m6⟩
    unfold uX at x
    exact aC (aS (aT m5 (aF (cQ rfl rfl) (aH (v:=i64 (wr (V+1))) (aI ⟨(c6,wr (V+1)),(zI x).symm,d5,d6,m3,m4,rfl,m6⟩)))))
   refine aM (aT e8 (aF (dE rfl u) (aF (cR (k':=r+0) iZ rfl u rfl) (aF (bK (t:=0) cV d4 u rfl rfl) ?_))))
   obtain ⟨j,m7,x⟩:=aD x
   refine aDp (e:=(0:Int)) bY lR rfl rfl d4 rfl rfl rfl m7 rfl (fun k m8 (m9:aK G K (aN 2 K k j.length j::aN 2 K m o c::L) m8)=>(aH (v:=zS k j.length j.length) (aI (aQ (aM (aH (v:=i64 0) (aI (bE (fun f w=>∃ (c7:List Int),qD V c7=some d3∧f 0=dC a1 r∧f 4=i64 V∧f 5=zS k c7.length j.length∧aK G K (aN 2 K k j.length c7::L) w) ?_ ?_))))))))
   ·rintro f t9 ⟨c7,x,n0,n1,n2,n3⟩
    unfold qD at x
    refine aC (aS (aT n2 ?_))
    obtain ⟨u0,u1,n4,n5,n6⟩:=aK.lendS (i:=0) n3 (zR _) rfl
    obtain ⟨i2,n7,x⟩:=aD x
    refine aU (vs:=[zS k c7.length j.length]) Tryz.call179 rfl (aHq n5 n4 n7) ?_
    rintro _ u2 ⟨i3,i4,rfl,n8⟩
    have n9:=n6 _ _ n8
    exact aH (v:=zS i3 i2.length i4) (bA (bG (aC ⟨i2,i3,i4,x,n0,rfl,n1,(aK.arr 1 [] n9 rfl)⟩)))
   obtain ⟨u3,o0,x⟩:=aD x
   refine cD o0 (fun (s:(List Int × Int)) f w=>match s with|(b9,p)=>f 0=dC a1 r∧f 3=zS m c.length o∧f 4=i64 V∧f 5=zS k b9.length j.length∧f 6=i64 p∧aK G K (aN 2 K k j.length b9::aN 2 K m o c::L) w) ?_ ?_
   ·exact ⟨e8,i0,i1,rfl,rfl,m9⟩
   ·rintro ⟨b9,p⟩ c9 f u4 q o1 ⟨f0,o2,i5,f1,d7,d8⟩
    replace q:iP d c b9 p=some c9:=q
    unfold iP at q
    refine aQ (aM (aT d7 (aT f0 (aF (dE rfl u) (aF (cR (k':=r+0) iZ rfl u rfl) (aF (bK (t:=0) cV d8 u rfl rfl) (aF (cG rfl rfl) (aI ?_))))))))
    rcases aJ q with ⟨f2,q⟩|⟨f2,q⟩
    ·refine aO f2 rfl (aY (aC (aQ (bE (fun f w=>∃ (d0:List Int),uY p d0=some c9∧f 0=dC a1 r∧f 3=zS m c.length o∧f 4=i64 V∧f 5=zS k d0.length j.length∧f 6=i64 p∧aK G K (aN 2 K k j.length d0::aN 2 K m o c::L) w) ?_ ?_))))
     ·rintro f u5 ⟨d0,q,o3,o4,o5,o6,o7,o8⟩
      unfold uY at q
      exact aC (aS (aT o7 (aF (cQ rfl rfl) (aH (v:=i64 (wr (p+1))) (aI ⟨(d0,wr (p+1)),(zI q).symm,o3,o4,o5,o6,rfl,o8⟩)))))
     refine aM (aT f1 (aT d7 (aT d7 ?_)))
     obtain ⟨u6,f3,q⟩:=aD q
     have f4:=cY d8 (i:=0) rfl f3
     refine aF (dW bY rfl f4 rfl rfl rfl f3) ?_
     obtain ⟨Z,i6,q⟩:=aD q
     refine mW (i:=0) (t:=0) (ns:=[i64 p]) (e':=(p:Int)) Tryz.sizeOf2 d8 rfl (zR _) rfl rfl rfl f3 i6 rfl rfl (cX rfl) rfl (fun cs h=>by cases h;rfl) (fun o9 (p0:aK G K (aN 2 K k j.length Z::aN 2 K m o c::L) o9)=>(aI (aM (aH (v:=i64 0) (aI (bE (fun f w=>∃ (d1:List Int),mX p d1=some c9∧f 0=dC a1 r∧f 3=zS m c.length o∧f 4=i64 V∧f 5=zS k d1.length j.length∧f 6=i64 p∧aK G K (aN 2 K k j.length d1::aN 2 K m o c::L) w) ?_ ?_))))))
     ·rintro f u7 ⟨d1,q,p1,p2,p3,p4,p5,p6⟩
      unfold mX at q
      exact bG (aC ⟨d1,q,p1,p2,p3,p4,p5,p6⟩)
     obtain ⟨u8,p7,q⟩:=aD q
     refine cD p7 (fun (a0:Int) f w=>f 0=dC a1 r∧f 3=zS m c.length o∧f 4=i64 V∧f 5=zS k Z.length j.length∧f 6=i64 p∧f 7=i64 a0∧aK G K (aN 2 K k j.length Z::aN 2 K m o c::L) w) ?_ ?_
     ·exact ⟨f0,o2,i5,(Eq.trans f1 (congrArg (fun n=>zS k n j.length) (jP i6))),d7,rfl,p0⟩
     ·rintro a0 d9 f u9 l i7 ⟨i8,i9,j0,j1,f5,j2,j3⟩
      replace l:gB d c p Z a0=some d9:=l
      unfold gB at l
      refine aQ (aM (aT j2 (aT f5 (aF (cG rfl rfl) (aI ?_)))))
      rcases aJ l with ⟨f6,l⟩|⟨f6,l⟩
      ·refine aO f6 rfl (aY (aC (aQ (bE (fun f w=>uZ a0=some d9∧f 0=dC a1 r∧f 3=zS m c.length o∧f 4=i64 V∧f 5=zS k Z.length j.length∧f 6=i64 p∧f 7=i64 a0∧aK G K (aN 2 K k j.length Z::aN 2 K m o c::L) w) ?_ ?_))))
       ·rintro f v0 ⟨l,p8,p9,q0,q1,q2,q3,q4⟩
        unfold uZ at l
        exact aC (aS (aT q3 (aF (cQ rfl rfl) (aH (v:=i64 (wr (a0+1))) (aI ⟨wr (a0+1),(zI l).symm,p8,p9,q0,q1,q2,rfl,q4⟩)))))
       refine aM (aH (v:=zB true) (aI (aQ (aM (aH (v:=i64 1) (aI (bE (fun f w=>∃ (f7:Bool),qE p Z a0 f7=some d9∧f 0=dC a1 r∧f 3=zS m c.length o∧f 4=i64 V∧f 5=zS k Z.length j.length∧f 6=i64 p∧f 7=i64 a0∧f 8=zB f7∧aK G K (aN 2 K k j.length Z::aN 2 K m o c::L) w) ?_ ?_)))))))
       ·rintro f v1 ⟨f7,l,j4,j5,j6,e0,f8,j7,q5,f9⟩
        unfold qE at l
        refine aC (aM (aT q5 (aI ?_)))
        rcases aJ l with ⟨g0,l⟩|⟨g0,l⟩
        ·refine aO g0 rfl (aM (aT e0 (aT f8 (aT e0 (aT j7 ?_)))))
         obtain ⟨j8,j9,l⟩:=aD l
         refine aF (dW bY rfl f4 rfl rfl rfl j9) (aF (jL (t:=0) cV f9 (i:=0) rfl j9 rfl rfl rfl) ?_)
         obtain ⟨v2,k0,l⟩:=aD l
         refine aF (dW bY rfl f4 rfl rfl rfl k0) ?_
         obtain ⟨g1,k1,l⟩:=aD l
         refine mW (i:=0) (t:=0) (ns:=[i64 j8]) (e':=(j8:Int)) Tryz.sizeOf2 f9 rfl (zR _) rfl rfl rfl k0 k1 rfl rfl (cX rfl) rfl (fun cs h=>by cases h;rfl) (fun q6 (q7:aK G K (aN 2 K k j.length g1::aN 2 K m o c::L) q6)=>(aI (cB (aFw rfl (aV (aV (aV ?_)))))))
         have q8:=i7 _ (zI l).symm
         subst q8
         have q:(mX p g1)=some c9:=q
         exact bJ (aC ⟨g1,q,j4,j5,j6,(Eq.trans e0 (congrArg (fun n=>zS k n j.length) (jP k1))),f8,q7⟩)
        ·exact aL g0 rfl (aY (bG (aC ⟨l,j4,j5,j6,e0,f8,j7,f9⟩)))
       obtain ⟨v3,q9,l⟩:=aD l
       refine cD q9 (fun (s:(Bool × Int)) f w=>match s with|(a9,a8)=>f 0=dC a1 r∧f 3=zS m c.length o∧f 4=i64 V∧f 5=zS k Z.length j.length∧f 6=i64 p∧f 7=i64 a0∧f 8=zB a9∧f 9=i64 a8∧aK G K (aN 2 K k j.length Z::aN 2 K m o c::L) w) ?_ ?_
       ·exact ⟨i8,i9,j0,j1,f5,j2,rfl,rfl,j3⟩
       ·rintro ⟨a9,a8⟩ g2 f v4 b r0 ⟨g3,k3,k4,k5,k6,k7,g4,g5,g6⟩
        replace b:iO d c p a0 a9 a8=some g2:=b
        unfold iO at b
        refine aQ (aQ (dF (fun f w=>∃ (g7:Bool),jD d c p a0 a9 a8 g7=some g2∧f 0=dC a1 r∧f 3=zS m c.length o∧f 4=i64 V∧f 5=zS k Z.length j.length∧f 6=i64 p∧f 7=i64 a0∧f 8=zB a9∧f 9=i64 a8∧f 56=zB g7∧aK G K (aN 2 K k j.length Z::aN 2 K m o c::L) w) ?_ ?_))
        ·rintro f v5 ⟨g7,b,a2,a3,b4,b5,b0,b1,r1,b2,k8,e1⟩
         unfold jD at b
         refine aC ?_
         rcases aJ b with ⟨g8,b⟩|⟨g8,b⟩
         ·refine aO g8 k8 (aY (aC (aQ (cW (aM (aT a2 (aT b0 (aT a2 (aF (dE rfl u) (aF (cR (k':=r+2) eG rfl u rfl) (aF (bK (t:=2) iT e1 u rfl rfl) (aT b2 ?_))))))))))))
          obtain ⟨k9,g9,b⟩:=aD b
          refine aF (dN cF rfl h6 rfl rfl rfl g9) ?_
          obtain ⟨v6,l0,r2⟩:=dB.el (sz:=1) rfl h6 g9
          cases r2
          refine aF (bK (t:=0) mV e1 l0 rfl rfl) ?_
          obtain ⟨b3,r3,b⟩:=aD b
          refine aU (vs:=[dC a1 r,i64 p,str k9]) Tryz.call110 rfl (aCO e1 u h6 h9 r3) ?_
          rintro _ v7 ⟨rfl,h0⟩
          refine aH (v:=i64 b3) (aI (aM (aT a2 (aT b1 (aT a2 (aF (dE rfl u) (aF (cR (k':=r+2) eG rfl u rfl) (aF (bK (t:=2) iT h0 u rfl rfl) (aT b2 (aF (dN cF rfl h6 rfl rfl rfl g9) (aF (bK (t:=0) mV h0 l0 rfl rfl) ?_)))))))))))
          obtain ⟨a5,r4,b⟩:=aD b
          refine aU (vs:=[dC a1 r,i64 a0,str k9]) Tryz.call110 rfl (aCO h0 u h6 h9 r4) ?_
          rintro _ v8 ⟨rfl,a⟩
          refine aH (v:=i64 a5) (aI (dF (fun f w=>∃ (e2:Bool),iJ a8 e2=some g2∧f 0=dC a1 r∧f 3=zS m c.length o∧f 4=i64 V∧f 5=zS k Z.length j.length∧f 6=i64 p∧f 7=i64 a0∧f 8=zB e2∧f 9=i64 a8∧aK G K (aN 2 K k j.length Z::aN 2 K m o c::L) w) ?_ ?_))
          ·rintro f v9 ⟨e2,b,r5,r6,r7,r8,r9,s0,s1,s2,s3⟩
           unfold iJ at b
           exact bG (aC (aS (aT s2 (aF (cQ rfl rfl) (aH (v:=i64 (wr (a8+1))) (aI ⟨(e2,wr (a8+1)),(zI b).symm,r5,r6,r7,r8,r9,s0,s1,rfl,s3⟩))))))
          refine dR (C:=fun w'=>aK G K (aN 2 K k j.length Z::aN 2 K m o c::L) w') bT (by kernel_rfl) (aK.mono a (dQ.drew _)) (aW (fun _ a=>aZ (v:=i64 b3) rfl) (aW (fun _ a=>cG rfl rfl) (aW (fun _ a=>aZ (v:=zB (decide (b3 < 0))) rfl) ?_)))
          rcases aJ b with ⟨b6,b⟩|⟨b6,b⟩
          ·refine bW (g:=81) rfl rfl b6 (aW (fun _ a=>aZ (v:=i64 a5) rfl) (bW (g:=81) rfl rfl b6 (aW (fun _ a=>cG rfl rfl) (aW (fun _ a=>bO (v:=zB (decide (a5 < 0))) b6 rfl rfl) (aW (fun _ a=>aZ (v:=zB (decide (a5 < 0))) rfl) ?_)))))
           rcases aJ b with ⟨y,b⟩|⟨y,b⟩
           ·exact bD (g:=85) rfl rfl (cJ y) (bD (g:=85) rfl rfl (cJ y) (bD (g:=85) rfl rfl (cJ y) (cM (g:=88) rfl rfl (cM (g:=88) rfl rfl (bD (g:=85) rfl rfl (cJ y) (bD (g:=85) rfl rfl (cJ y) (cM (g:=92) rfl rfl (cM (g:=92) rfl rfl (cM (g:=92) rfl rfl (cM (g:=92) rfl rfl (cM (g:=92) rfl rfl (cM (g:=92) rfl rfl (cM (g:=92) rfl rfl (cM (g:=92) rfl rfl (cM (g:=92) rfl rfl (bD (g:=85) rfl rfl (cJ y) (aW (fun _ a=>bO (v:=zB true) y rfl rfl) (aW (fun _ a=>dH (v:=zB true) rfl) (eF (fun w0 s4=>(aC ⟨true,b,a2,a3,b4,b5,b0,b1,rfl,b2,s4⟩)))))))))))))))))))))
           ·refine bW (g:=85) rfl rfl (cI y) (aW (fun _ a=>aZ (v:=i64 b3) rfl) (bW (g:=85) rfl rfl (cI y) (aW (fun _ a=>tU rfl rfl) (bW (g:=85) rfl rfl (cI y) (aW (fun _ a=>aZ (v:=zB (decide (0≤b3))) rfl) ?_)))))
            rcases aJ b with ⟨b7,b⟩|⟨b7,b⟩
            ·refine bW (g:=88) rfl rfl b7 (aW (fun _ a=>aZ (v:=i64 a5) rfl) (bW (g:=88) rfl rfl b7 (aW (fun _ a=>tU rfl rfl) (bW (g:=85) rfl rfl (cI y) (aW (fun _ a=>bO (v:=zB (decide (0≤a5))) b7 rfl rfl) (bW (g:=85) rfl rfl (cI y) (aW (fun _ a=>aZ (v:=zB (decide (0≤a5))) rfl) ?_)))))))
             rcases aJ b with ⟨z,b⟩|⟨z,b⟩
             ·refine bW (g:=92) rfl rfl z (aW (fun _ a=>aZ a3) (bW (g:=92) rfl rfl z (aW (fun _ a=>aZ (v:=i64 b3) rfl) (bW (g:=92) rfl rfl z ?_))))
              obtain ⟨e3,h1,b⟩:=aD b
              have l1:=cY a (i:=1) rfl h1
              refine aW (fun _ a=>dW bY rfl l1 rfl rfl rfl h1) (bW (g:=92) rfl rfl z (aW (fun _ a=>jL (t:=0) cV a (i:=1) rfl h1 rfl rfl rfl) (bW (g:=92) rfl rfl z (aW (fun _ a=>aZ a3) (bW (g:=92) rfl rfl z (aW (fun _ a=>aZ (v:=i64 a5) rfl) (bW (g:=92) rfl rfl z ?_)))))))
              obtain ⟨e4,l2,b⟩:=aD b
              exact aW (fun _ a=>dW bY rfl l1 rfl rfl rfl l2) (bW (g:=92) rfl rfl z (aW (fun _ a=>jL (t:=0) cV a (i:=1) rfl l2 rfl rfl rfl) (bW (g:=92) rfl rfl z (aW (fun _ a=>oN rfl rfl) (bW (g:=85) rfl rfl (cI y) (aW (fun _ a=>bO (v:=zB (e3 == e4)) z rfl rfl) (aW (fun _ a=>bV (v:=zB (e3 == e4)) y rfl rfl) (aW (fun _ a=>dH (v:=zB (e3 == e4)) rfl) (eF (fun w1 s5=>(aC ⟨e3 == e4,b,a2,a3,b4,b5,b0,b1,rfl,b2,s5⟩)))))))))))
             ·exact bD (g:=92) rfl rfl (dD z) (bD (g:=92) rfl rfl (dD z) (bD (g:=92) rfl rfl (dD z) (bD (g:=92) rfl rfl (dD z) (bD (g:=92) rfl rfl (dD z) (bD (g:=92) rfl rfl (dD z) (bD (g:=92) rfl rfl (dD z) (bD (g:=92) rfl rfl (dD z) (bD (g:=92) rfl rfl (dD z) (bW (g:=85) rfl rfl (cI y) (aW (fun _ a=>bV (v:=zB false) z rfl rfl) (aW (fun _ a=>bV (v:=zB false) y rfl rfl) (aW (fun _ a=>dH (v:=zB false) rfl) (eF (fun w2 s6=>(aC ⟨false,b,a2,a3,b4,b5,b0,b1,rfl,b2,s6⟩)))))))))))))))
            ·exact bD (g:=88) rfl rfl (dD b7) (bD (g:=88) rfl rfl (dD b7) (bW (g:=85) rfl rfl (cI y) (aW (fun _ a=>bV (v:=zB false) b7 rfl rfl) (bW (g:=85) rfl rfl (cI y) (aW (fun _ a=>aZ (v:=zB false) rfl) (bD (g:=92) rfl rfl (dD (by decide:¬ false=true)) (bD (g:=92) rfl rfl (dD (by decide:¬ false=true)) (bD (g:=92) rfl rfl (dD (by decide:¬ false=true)) (bD (g:=92) rfl rfl (dD (by decide:¬ false=true)) (bD (g:=92) rfl rfl (dD (by decide:¬ false=true)) (bD (g:=92) rfl rfl (dD (by decide:¬ false=true)) (bD (g:=92) rfl rfl (dD (by decide:¬ false=true)) (bD (g:=92) rfl rfl (dD (by decide:¬ false=true)) (bD (g:=92) rfl rfl (dD (by decide:¬ false=true)) (bW (g:=85) rfl rfl (cI y) (aW (fun _ a=>bV (v:=zB false) (by decide:¬ false=true) rfl rfl) (aW (fun _ a=>bV (v:=zB false) y rfl rfl) (aW (fun _ a=>dH (v:=zB false) rfl) (eF (fun w3 s7=>(aC ⟨false,b,a2,a3,b4,b5,b0,b1,rfl,b2,s7⟩)))))))))))))))))))))
          ·refine bD (g:=81) rfl rfl (dD b6) (bD (g:=81) rfl rfl (dD b6) (aW (fun _ a=>bV (v:=zB false) b6 rfl rfl) (aW (fun _ a=>aZ (v:=zB false) rfl) (bW (g:=85) rfl rfl (cI (by decide:¬ false=true)) (aW (fun _ a=>aZ (v:=i64 b3) rfl) (bW (g:=85) rfl rfl (cI (by decide:¬ false=true)) (aW (fun _ a=>tU rfl rfl) (bW (g:=85) rfl rfl (cI (by decide:¬ false=true)) (aW (fun _ a=>aZ (v:=zB (decide (0≤b3))) rfl) ?_)))))))))
           rcases aJ b with ⟨b8,b⟩|⟨b8,b⟩
           ·refine bW (g:=88) rfl rfl b8 (aW (fun _ a=>aZ (v:=i64 a5) rfl) (bW (g:=88) rfl rfl b8 (aW (fun _ a=>tU rfl rfl) (bW (g:=85) rfl rfl (cI (by decide:¬ false=true)) (aW (fun _ a=>bO (v:=zB (decide (0≤a5))) b8 rfl rfl) (bW (g:=85) rfl rfl (cI (by decide:¬ false=true)) (aW (fun _ a=>aZ (v:=zB (decide (0≤a5))) rfl) ?_)))))))
            rcases aJ b with ⟨J,b⟩|⟨J,b⟩
            ·refine bW (g:=92) rfl rfl J (aW (fun _ a=>aZ a3) (bW (g:=92) rfl rfl J (aW (fun _ a=>aZ (v:=i64 b3) rfl) (bW (g:=92) rfl rfl J ?_))))
             obtain ⟨e5,h2,b⟩:=aD b
             have l3:=cY a (i:=1) rfl h2
             refine aW (fun _ a=>dW bY rfl l3 rfl rfl rfl h2) (bW (g:=92) rfl rfl J (aW (fun _ a=>jL (t:=0) cV a (i:=1) rfl h2 rfl rfl rfl) (bW (g:=92) rfl rfl J (aW (fun _ a=>aZ a3) (bW (g:=92) rfl rfl J (aW (fun _ a=>aZ (v:=i64 a5) rfl) (bW (g:=92) rfl rfl J ?_)))))))
             obtain ⟨e6,l4,b⟩:=aD b
             exact aW (fun _ a=>dW bY rfl l3 rfl rfl rfl l4) (bW (g:=92) rfl rfl J (aW (fun _ a=>jL (t:=0) cV a (i:=1) rfl l4 rfl rfl rfl) (bW (g:=92) rfl rfl J (aW (fun _ a=>oN rfl rfl) (bW (g:=85) rfl rfl (cI (by decide:¬ false=true)) (aW (fun _ a=>bO (v:=zB (e5 == e6)) J rfl rfl) (aW (fun _ a=>bV (v:=zB (e5 == e6)) (by decide:¬ false=true) rfl rfl) (aW (fun _ a=>dH (v:=zB (e5 == e6)) rfl) (eF (fun w4 s8=>(aC ⟨e5 == e6,b,a2,a3,b4,b5,b0,b1,rfl,b2,s8⟩)))))))))))
            ·exact bD (g:=92) rfl rfl (dD J) (bD (g:=92) rfl rfl (dD J) (bD (g:=92) rfl rfl (dD J) (bD (g:=92) rfl rfl (dD J) (bD (g:=92) rfl rfl (dD J) (bD (g:=92) rfl rfl (dD J) (bD (g:=92) rfl rfl (dD J) (bD (g:=92) rfl rfl (dD J) (bD (g:=92) rfl rfl (dD J) (bW (g:=85) rfl rfl (cI (by decide:¬ false=true)) (aW (fun _ a=>bV (v:=zB false) J rfl rfl) (aW (fun _ a=>bV (v:=zB false) (by decide:¬ false=true) rfl rfl) (aW (fun _ a=>dH (v:=zB false) rfl) (eF (fun w5 s9=>(aC ⟨false,b,a2,a3,b4,b5,b0,b1,rfl,b2,s9⟩)))))))))))))))
           ·exact bD (g:=88) rfl rfl (dD b8) (bD (g:=88) rfl rfl (dD b8) (bW (g:=85) rfl rfl (cI (by decide:¬ false=true)) (aW (fun _ a=>bV (v:=zB false) b8 rfl rfl) (bW (g:=85) rfl rfl (cI (by decide:¬ false=true)) (aW (fun _ a=>aZ (v:=zB false) rfl) (bD (g:=92) rfl rfl (dD (by decide:¬ false=true)) (bD (g:=92) rfl rfl (dD (by decide:¬ false=true)) (bD (g:=92) rfl rfl (dD (by decide:¬ false=true)) (bD (g:=92) rfl rfl (dD (by decide:¬ false=true)) (bD (g:=92) rfl rfl (dD (by decide:¬ false=true)) (bD (g:=92) rfl rfl (dD (by decide:¬ false=true)) (bD (g:=92) rfl rfl (dD (by decide:¬ false=true)) (bD (g:=92) rfl rfl (dD (by decide:¬ false=true)) (bD (g:=92) rfl rfl (dD (by decide:¬ false=true)) (bW (g:=85) rfl rfl (cI (by decide:¬ false=true)) (aW (fun _ a=>bV (v:=zB false) (by decide:¬ false=true) rfl rfl) (aW (fun _ a=>bV (v:=zB false) (by decide:¬ false=true) rfl rfl) (aW (fun _ a=>dH (v:=zB false) rfl) (eF (fun w6 t0=>(aC ⟨false,b,a2,a3,b4,b5,b0,b1,rfl,b2,t0⟩)))))))))))))))))))))
         ·refine aL g8 k8 (cB (aV (aV ?_)))
          have t1:=r0 _ (zI b).symm
          subst t1
          have l:(qE p Z a0 a9)=some d9:=l
          exact bJ (aC ⟨a9,l,a2,a3,b4,b5,b0,b1,r1,e1⟩)
        refine aS (aT g5 (aT g3 (aF (dE rfl u) (aF (cR (k':=r+2) eG rfl u rfl) (aF (bK (t:=2) iT g6 u rfl rfl) (aF (bN (len:=d.L.length) cF rfl) (aF (cG rfl rfl) (aP (v:=zB (decide (a8 < (d.L.length:Int)))) ?_))))))))
        rcases aJ b with ⟨d2,b⟩|⟨d2,b⟩
        ·exact bU d2 rfl rfl (aT g4 (aF (bO (v:=zB a9) d2 rfl rfl) (aI ⟨a9,b,g3,k3,k4,k5,k6,k7,g4,g5,rfl,g6⟩)))
        ·exact bI d2 rfl rfl (aF (bV (v:=zB false) d2 rfl rfl) (aI ⟨false,b,g3,k3,k4,k5,k6,k7,g4,g5,rfl,g6⟩))
      ·refine aL f6 rfl (cB (aV (aV ?_)))
       have t2:=i7 _ (zI l).symm
       subst t2
       have q:(mX p Z)=some c9:=q
       exact bJ (aC ⟨Z,q,i8,i9,j0,j1,f5,j3⟩)
    ·refine aL f2 rfl (cB (aV (aV ?_)))
     have t3:=o1 _ (zI q).symm
     subst t3
     have x:(qD V b9)=some d3:=x
     exact bJ (aC ⟨b9,x,f0,i5,f1,(aK.arr 2 [0] d8 rfl)⟩)
  ·refine aL e9 rfl (cB (aV (aV ?_)))
   have t4:=m2 _ (zI x).symm
   subst t4
   have hm:(uW c)=some R:=hm
   exact bJ (aC ⟨c,m,o,hm,i0,d4⟩)
theorem aHr {g h:Int} {texts:(List bB)} {edges:(List Edge)} {R:cN} (hs:aK G K (L) w) (h3:dB K a1 c2 texts) (h6:dB K a4 c5 edges) (l:aCr g h texts edges=some R):
  Calls Tryz.prog 71 ([i64 g,i64 h,zS a1 texts.length c2,zS a4 edges.length c5]:List Value).toArray w (iK fun v w'=>∃ (b5:Option Addr) (b6:Nat) (b8:Option Addr) (b9:Nat),v=zA (zCa R b5 b6 b8 b9)∧aK G K (aN 9 K b5 b6 R.L::aN 63 K b8 b9 R.E::L) w'):=by
 let u:=zG
 refine aX Tryz.func71 rfl (by kernel_rfl) (by show (4:Nat)≤43;decide) ?_
 unfold aCr at l
 refine aM (bS (vs:=u) Tryz.zeroValue29 hs rfl (fun m w8 d3=>(aI (aM (aP (v:=i64 g) (aP (v:=i64 h) (aP (v:=zS a1 texts.length c2) ?_)))))))
 obtain ⟨a,d4,l⟩:=aD l
 refine aU (vs:=[zS a1 texts.length c2]) Tryz.call100 rfl (aBr d3 h3 d4) ?_
 rintro _ h8 ⟨b,c,rfl,d5⟩
 refine cT (Kt:=K) (xs:=([]:List Edge)) (cs:=[]) (vs:=[]) cK mD rfl rfl d5 rfl (by kernel_rfl) rfl rfl rfl trivial (fun y d6 (d7:aK G K (aN 63 K y 0 ([]:List Edge)::aN 9 K b c a::box m 29 u::L) d6)=>(aF (fD (vs:=[(0,i64 g),(1,i64 h),(2,zS b a.length c),(3,zS y ([]:List Edge).length 0)]) (cs:=[i64 g,i64 h,zS b a.length c,zS y ([]:List Edge).length 0]) tI rfl (by kernel_rfl)) (bS (vs:=u) Tryz.zeroValue29 d7 rfl (fun x h9 d8=>(bR (i:=0) (ns:=[i64 g,i64 h,zS b a.length c,zS y ([]:List Edge).length 0]) (us:=[i64 g,i64 h,zS b a.length c,zS y ([]:List Edge).length 0]) Tryz.sizeOf29 d8 rfl rfl rfl rfl rfl (cX rfl) rfl rfl (fun d9 (e0:aK G K (box x 29 [i64 g,i64 h,zS b a.length c,zS y ([]:List Edge).length 0]::aN 63 K y 0 ([]:List Edge)::aN 9 K b c a::box m 29 u::L) d9)=>(aI (aQ (aM (aH (v:=i64 0) (aI (bE (fun f w=>∃ (n:List Edge) (o:Option Addr) (p:Nat),aAK g h a n=some R∧f 8=zP (some ⟨m,0,none⟩)∧f 9=zP (some ⟨x,0,none⟩)∧aK G K (aN 63 K o p n::box x 29 [i64 g,i64 h,zS b a.length c,zS o n.length p]::aN 9 K b c a::box m 29 u::L) w) ?_ ?_))))))))))))
 ·rintro f i0 ⟨n,o,p,l,c0,e1,c1⟩
  unfold aAK at l
  refine aC (aM (aF (dX (us:=[i64 g,i64 h,zS b a.length c,zS o n.length p]) dI c1 (i:=1) rfl e1 rfl rfl) (bR (i:=3) (ns:=[i64 g,i64 h,zS b a.length c,zS o n.length p]) (us:=[i64 g,i64 h,zS b a.length c,zS o n.length p]) Tryz.sizeOf29 c1 rfl c0 rfl rfl rfl (cX rfl) rfl rfl (fun e2 (c3:aK G K (aN 63 K o p n::box x 29 [i64 g,i64 h,zS b a.length c,zS o n.length p]::aN 9 K b c a::box m 29 [i64 g,i64 h,zS b a.length c,zS o n.length p]::L) e2)=>(aI ?_)))))
  obtain rfl:=zI l
  exact bH (aBK Tryz.results71 (dZ (vs:=[i64 g,i64 h,zS b a.length c,zS o n.length p]) rfl dI c3 (i:=3) rfl c0 rfl) ⟨b,c,o,p,rfl,(aK.arr 4 [2,0] c3 rfl)⟩)
 obtain ⟨i1,e4,l⟩:=aD l
 refine cD e4 (fun (s:(List Edge × Int)) f w=>match s with|(k,V)=>∃ (q:Option Addr) (r:Nat),f 2=zS a1 texts.length c2∧f 3=zS a4 edges.length c5∧f 8=zP (some ⟨m,0,none⟩)∧f 9=zP (some ⟨x,0,none⟩)∧f 10=i64 V∧aK G K (box x 29 [i64 g,i64 h,zS b a.length c,zS q k.length r]::aN 63 K q r k::aN 9 K b c a::box m 29 u::L) w) ?_ ?_
 ·exact ⟨y,0,rfl,rfl,rfl,rfl,rfl,e0⟩
 ·rintro ⟨k,V⟩ e5 f i2 j e6 ⟨q,r,c4,a8,c6,Z,a9,b0⟩
  replace j:pQ texts edges a k V=some e5:=j
  unfold pQ at j
  refine aQ (aM (aT a9 (aT a8 (aF (bN (len:=edges.length) cK rfl) (aF (cG rfl rfl) (aI ?_))))))
  rcases aJ j with ⟨b1,j⟩|⟨b1,j⟩
  ·refine aO b1 rfl (aY (aC (aQ (cW (aM (aT a8 (aT a9 ?_)))))))
   obtain ⟨d,c7,j⟩:=aD j
   refine aF (dN cK rfl h6 rfl rfl rfl c7) ?_
   obtain ⟨i3,e7,e8⟩:=dB.el (sz:=3) rfl h6 c7
   cases e8
   refine aF (fZ (t:=0) (vs:=[i64 d.F,i64 d.B,i64 d.To]) lU b0 e7 rfl rfl rfl) (bS (vs:=[i64 0,i64 0,i64 0]) Tryz.zeroValue63 b0 rfl (fun a5 i4 e9=>(bR (i:=0) (ns:=[i64 d.F,i64 d.B,i64 d.To]) (us:=[i64 d.F,i64 d.B,i64 d.To]) Tryz.sizeOf63 e9 rfl rfl rfl rfl rfl (cX rfl) rfl rfl (fun f0 (f1:aK G K (box a5 63 [i64 d.F,i64 d.B,i64 d.To]::box x 29 [i64 g,i64 h,zS b a.length c,zS q k.length r]::aN 63 K q r k::aN 9 K b c a::box m 29 u::L) f0)=>(aI (aQ ?_))))))
   obtain ⟨i5,b2,f2,f3,f4⟩:=aK.lendB (i:=0) f1 rfl
   obtain ⟨f5,a6,f6,c8,f7⟩:=aK.lendB (i:=0) f3 rfl
   refine gA (C:=fun w'=>∃ L',aK G f5 L' w') [(0,0),(1,0),(2,0),(3,0),(4,0),(5,0),(6,0),(7,1),(8,0),(9,2)] bT (by kernel_rfl) (fun _ hg=>⟨_,aK.mono c8 hg⟩) (fun i6 f8=>?_)
   have J:=aK.mono c8 f8
   refine bZ rfl (fun _ _=>bL (t':=2) eG Z rfl) (bZ rfl (fun _ ⟨_,J⟩=>bK (t:=2) iT J f6 rfl rfl) (bZ rfl (fun _ _=>aZ c4) (bZ rfl (fun _ _=>bL (t':=1) iF rfl rfl) (bZ rfl (fun _ ⟨_,J⟩=>bK (t:=1) cV J (f2.mono a6) rfl rfl) ?_))))
   obtain ⟨f9,c9,j⟩:=aD j
   refine bZ rfl (fun _ _=>dN cF rfl (h3.mono (Hp.le_trans b2 a6)) rfl rfl rfl c9) ?_
   obtain ⟨i7,g0,g1⟩:=dB.el (sz:=1) rfl h3 c9
   cases g1
   refine bZ rfl (fun _ ⟨_,J⟩=>bK (t:=0) mV J (g0.mono (Hp.le_trans b2 a6)) rfl rfl) (kD rfl ?_)
   obtain ⟨i8,i9,g2,g3,g4⟩:=aK.lendS (i:=1) J (Hp.le_trans b2 a6) rfl
   obtain ⟨z,g5,j⟩:=aD j
   refine aU (vs:=[zS b a.length c,str f9]) Tryz.call105 rfl (mO g3 g2 g5) ?_
   rintro _ j0 ⟨rfl,g6⟩
   have d0:=g4 _ _ g6
   refine bA (aC ⟨⟨_,d0⟩,?_⟩)
   refine bZ rfl (fun _ _=>bL (t':=1) iF rfl rfl) ?_
   have g7:=f7 _ _ d0
   have g8:=f4 _ _ g7
   refine aFy rfl (bR (i:=0) (ns:=[i64 z]) (us:=[i64 d.F,i64 z,i64 d.To]) Tryz.sizeOf2 g8 rfl rfl rfl rfl rfl (cX rfl) rfl rfl (fun d1 (b3:aK G K (box a5 63 [i64 d.F,i64 z,i64 d.To]::box x 29 [i64 g,i64 h,zS b a.length c,zS q k.length r]::aN 9 K b c a::aN 63 K q r k::box m 29 u::L) d1)=>(aI (lY (aC (aS (aF (bL (t':=3) eR Z rfl) (aF (cC lK b3 (i:=1) rfl rfl rfl) (aF (dX (us:=[i64 d.F,i64 z,i64 d.To]) lU b3 (i:=0) rfl rfl rfl rfl) ?_)))))))))
   have g9:aK G K (aN 63 K q r k::box a5 63 [i64 d.F,i64 z,i64 d.To]::box x 29 [i64 g,i64 h,zS b a.length c,zS q k.length r]::aN 9 K b c a::box m 29 u::L) d1:=(aK.arr 4 [3,0,1,2] b3 rfl)
   obtain ⟨a0,h0,j⟩:=aD j
   refine aU (vs:=[zS q k.length r,zA #[i64 d.F,i64 z,i64 d.To]]) Tryz.call102 rfl (aEl (e:=⟨d.F,z,d.To⟩) g9 h0) ?_
   rintro _ j1 ⟨a2,a3,rfl,h1⟩
   exact aF (bL (t':=3) eR Z rfl) (bR (i:=2) (ns:=[zS a2 a0.length a3]) (us:=[i64 g,i64 h,zS b a.length c,zS a2 a0.length a3]) Tryz.sizeOf27 h1 rfl rfl rfl rfl rfl (cX rfl) rfl rfl (fun h2 (h4:aK G K (aN 63 K a2 a3 a0::box a5 63 [i64 d.F,i64 z,i64 d.To]::box x 29 [i64 g,i64 h,zS b a.length c,zS a2 a0.length a3]::aN 9 K b c a::box m 29 u::L) h2)=>(bA (bG (aC (aS (aT a9 (aF (cQ rfl rfl) (aH (v:=i64 (wr (V+1))) (aI ⟨(a0,wr (V+1)),(zI j).symm,a2,a3,c4,a8,c6,Z,rfl,(aK.arr 3 [2,0] h4 rfl)⟩))))))))))
  ·refine aL b1 rfl (cB (aV (aV ?_)))
   have h5:=e6 _ (zI j).symm
   subst h5
   have l:(aAK g h a k)=some R:=l
   exact bJ (aC ⟨k,q,r,l,c6,Z,(aK.arr 2 [1,0] b0 rfl)⟩)
theorem aHs {t:cN} {m:Nat} {R:cN} (hs:aK G K (L) w) (e:kR K a1 m (zC t a4 c5 a7 c8)) (h6:dB K a4 c5 t.L) (h9:dB K a7 c8 t.E) (j:aCs t=some R):
  Calls Tryz.prog 111 ([dC a1 m]:List Value).toArray w (iK fun v w'=>∃ (c6:Option Addr) (c7:Nat) (c9:Option Addr) (d0:Nat),v=zA (zCa R c6 c7 c9 d0)∧aK G K (aN 9 K c6 c7 R.L::aN 63 K c9 d0 R.E::L) w'):=by
 let k:=zG
 refine aX Tryz.func111 rfl (by kernel_rfl) (by show (1:Nat)≤55;decide) ?_
 unfold aCs at j
 refine aM (bS (vs:=k) Tryz.zeroValue29 hs rfl (fun g j6 e6=>(aI (aM (cT (Kt:=K) (xs:=([([116,97,117]:bB)]:List bB)) (cs:=[str ([116,97,117]:bB)]) (vs:=[(0,str ([116,97,117]:bB))]) cF vJ rfl rfl e6 rfl (by kernel_rfl) rfl rfl rfl ⟨rfl,trivial⟩ (fun b3 e7 (e8:aK G K (aN 9 K b3 1 ([([116,97,117]:bB)]:List bB)::box g 29 k::L) e7)=>(aH (v:=zS b3 ([([116,97,117]:bB)]:List bB).length 1) (aI (aM (cT (Kt:=K) (xs:=([]:List Edge)) (cs:=[]) (vs:=[]) cK mD rfl rfl e8 rfl (by kernel_rfl) rfl rfl rfl trivial (fun b6 e9 (f0:aK G K (aN 63 K b6 0 ([]:List Edge)::aN 9 K b3 1 ([([116,97,117]:bB)]:List bB)::box g 29 k::L) e9)=>(aH (v:=zS b6 ([]:List Edge).length 0) (aI (aQ (aM (aH (v:=i64 0) (aI (bE (fun f w=>∃ (y:List bB) (z:List Edge) (a3:Option Addr) (a5:Nat) (a6:Option Addr) (a8:Nat),xL t y z=some R∧f 0=dC a1 m∧f 2=zP (some ⟨g,0,none⟩)∧f 3=zS a3 y.length a5∧f 4=zS a6 z.length a8∧aK G K (aN 63 K a6 a8 z::aN 9 K a3 a5 y::box g 29 k::L) w) ?_ ?_))))))))))))))))))
 ·rintro f j7 ⟨y,z,a3,a5,a6,a8,j,d1,d2,f1,f2,d3⟩
  unfold xL at j
  refine aC (aQ (gA (C:=fun w'=>∃ L',aK G K L' w') [(0,0),(1,0),(2,0),(3,0),(4,0),(5,0),(6,0),(7,0),(8,0),(9,0),(10,1),(11,2)] bT (by kernel_rfl) (fun _ hg=>⟨_,aK.mono d3 hg⟩) (fun j8 f3=>?_)))
  have a9:=aK.mono d3 f3
  refine bZ rfl (fun _ _=>aZ d1) (bZ rfl (fun _ _=>dE rfl e) (bZ rfl (fun _ _=>cR (k':=m+0) iZ rfl e rfl) (bZ rfl (fun _ ⟨_,a9⟩=>bK (t:=0) cV a9 e rfl rfl) (bZ rfl (fun _ _=>aZ d1) (bZ rfl (fun _ _=>dE rfl e) (bZ rfl (fun _ _=>cR (k':=m+1) sN rfl e rfl) (bZ rfl (fun _ ⟨_,a9⟩=>bK (t:=1) cV a9 e rfl rfl) (bZ rfl (fun _ _=>aZ f1) (bZ rfl (fun _ _=>aZ f2) (kD rfl ?_))))))))))
  obtain ⟨j9,f4,f5,f6,f7⟩:=aK.lendS (i:=1) a9 (zR _) rfl
  obtain ⟨k0,f8,f9,g0,g1⟩:=aK.lendS (i:=0) f6 f4 rfl
  obtain ⟨b,g2,j⟩:=aD j
  refine aU (vs:=[i64 t.N,i64 t.I,zS a3 y.length a5,zS a6 z.length a8]) Tryz.call71 rfl (aHr g0 (f5.mono f8) f9 g2) ?_
  rintro _ k1 ⟨J,c48,V,Z,rfl,g3⟩
  have g4:=g1 _ _ g3
  have d4:=f7 _ _ g4
  refine bA (aC ⟨⟨_,d4⟩,?_⟩)
  refine aFy rfl (bR (i:=4) (ns:=(zC b J c48 V Z)) (us:=(zC b J c48 V Z)) Tryz.sizeOf29 d4 rfl d2 rfl rfl rfl (cX rfl) rfl rfl (fun g5 (d5:aK G K (aN 9 K a3 a5 y::aN 63 K a6 a8 z::aN 9 K J c48 b.L::aN 63 K V Z b.E::box g 29 (zC b J c48 V Z)::L) g5)=>(aI (lY (aC ?_)))))
  obtain rfl:=zI j
  exact bH (aBK Tryz.results111 (dZ (vs:=(zC b J c48 V Z)) rfl dI d5 (i:=4) rfl d2 rfl) ⟨J,c48,V,Z,rfl,(aK.arr 5 [2,3] d5 rfl)⟩)
 obtain ⟨k3,g7,j⟩:=aD j
 refine cD g7 (fun (s:(List bB × List Edge × Int)) f w=>match s with|(p,l,b0)=>∃ (a0:Option Addr) (a2:Nat) (n:Option Addr) (o:Nat),f 0=dC a1 m∧f 2=zP (some ⟨g,0,none⟩)∧f 3=zS a0 p.length a2∧f 4=zS n l.length o∧f 5=i64 b0∧aK G K (aN 63 K n o l::aN 9 K a0 a2 p::box g 29 k::L) w) ?_ ?_
 ·exact ⟨b3,1,b6,0,rfl,rfl,rfl,rfl,rfl,f0⟩
 ·rintro ⟨p,l,b0⟩ g8 f k4 d g9 ⟨a0,a2,n,o,b1,d6,d7,d8,b7,b2⟩
  replace d:mA t p l b0=some g8:=d
  unfold mA at d
  refine aQ (aM (aT b7 (aT b1 (aF (dE rfl e) (aF (cR (k':=m+3) eR rfl e rfl) (aF (bK (t:=3) lK b2 e rfl rfl) (aF (bN (len:=t.E.length) cK rfl) (aF (cG rfl rfl) (aI ?_)))))))))
  rcases aJ d with ⟨b8,d⟩|⟨b8,d⟩
  ·refine aO b8 rfl (aY (aC (aQ (cW (aM (aT b1 (aF (dE rfl e) (aF (cR (k':=m+3) eR rfl e rfl) (aF (bK (t:=3) lK b2 e rfl rfl) (aT b7 ?_))))))))))
   obtain ⟨a,d9,d⟩:=aD d
   refine aF (dN cK rfl h9 rfl rfl rfl d9) ?_
   obtain ⟨k5,h0,h1⟩:=dB.el (sz:=3) rfl h9 d9
   cases h1
   refine aF (fZ (t:=0) (vs:=[i64 a.F,i64 a.B,i64 a.To]) lU b2 h0 rfl rfl rfl) (bS (vs:=[i64 0,i64 0,i64 0]) Tryz.zeroValue63 b2 rfl (fun b4 k6 h2=>(bR (i:=0) (ns:=[i64 a.F,i64 a.B,i64 a.To]) (us:=[i64 a.F,i64 a.B,i64 a.To]) Tryz.sizeOf63 h2 rfl rfl rfl rfl rfl (cX rfl) rfl rfl (fun h4 (h5:aK G K (box b4 63 [i64 a.F,i64 a.B,i64 a.To]::aN 63 K n o l::aN 9 K a0 a2 p::box g 29 k::L) h4)=>(aI (aQ ?_))))))
   obtain ⟨b9,q,h7,e0,h8⟩:=aK.lendB (i:=0) h5 rfl
   refine gA (C:=fun w'=>∃ L',aK G b9 L' w') [(0,0),(1,0),(2,0),(3,0),(4,0),(5,0),(6,0),(7,0),(8,0),(9,1),(10,1),(11,0)] bT (by kernel_rfl) (fun _ hg=>⟨_,aK.mono e0 hg⟩) (fun k7 i0=>?_)
   have r:=aK.mono e0 i0
   refine bZ rfl (fun _ _=>aZ d7) (bZ rfl (fun _ _=>aZ b1) (bZ rfl (fun _ _=>dE rfl (e.mono q)) (bZ rfl (fun _ _=>cR (k':=m+2) eG rfl (e.mono q) rfl) (bZ rfl (fun _ ⟨_,r⟩=>bK (t:=2) iT r (e.mono q) rfl rfl) (bZ rfl (fun _ _=>bL (t':=1) iF rfl rfl) (bZ rfl (fun _ ⟨_,r⟩=>bK (t:=1) cV r h7 rfl rfl) ?_))))))
   obtain ⟨b5,e1,d⟩:=aD d
   refine bZ rfl (fun _ _=>dN cF rfl (h6.mono q) rfl rfl rfl e1) ?_
   obtain ⟨k8,i1,i2⟩:=dB.el (sz:=1) rfl h6 e1
   cases i2
   refine bZ rfl (fun _ ⟨_,r⟩=>bK (t:=0) mV r (i1.mono q) rfl rfl) (kD rfl (cT (Kt:=K) (xs:=([b5]:List bB)) (cs:=[str b5]) (vs:=[(0,str b5)]) cF vJ rfl rfl r rfl (by kernel_rfl) rfl rfl rfl ⟨rfl,trivial⟩ (fun i3 i4 (e2:aK G b9 (aN 9 K i3 1 ([b5]:List bB)::aN 63 K n o l::aN 9 K a0 a2 p::box g 29 k::L) i4)=>(bA (aC ⟨⟨_,e2⟩,?_⟩)))))
   refine kD rfl ?_
   obtain ⟨c,i5,d⟩:=aD d
   refine eI (i:=1) cF Tryz.underlying22 vJ rfl rfl e2 rfl q q i5 rfl rfl rfl rfl (fun _ h=>h) (fun u x i6 (e3:aK G b9 (aN 63 K n o l::aN 9 K u x c::box g 29 k::L) i6)=>(bA (aC ⟨⟨_,e3⟩,?_⟩)))
   refine bZ rfl (fun _ _=>dH (v:=zS u c.length x) rfl) (lY ?_)
   have i7:=h8 _ _ e3
   refine aC (aM (aP (v:=zS u c.length x) (aF (bN (len:=c.length) cF rfl) (aF (kL rfl rfl) (aF (bL (t':=1) iF rfl rfl) (bR (i:=0) (ns:=[i64 (wr ((c.length:Int) - 1))]) (us:=[i64 a.F,i64 (wr ((c.length:Int) - 1)),i64 a.To]) Tryz.sizeOf2 i7 rfl rfl rfl rfl rfl (cX rfl) rfl rfl ?_))))))
   intro i8 (e4:aK G K (box b4 63 [i64 a.F,i64 (wr ((c.length:Int) - 1)),i64 a.To]::aN 63 K n o l::aN 9 K u x c::box g 29 k::L) i8)
   refine aI (aS (aT d8 (aF (dX (us:=[i64 a.F,i64 (wr ((c.length:Int) - 1)),i64 a.To]) lU e4 (i:=0) rfl rfl rfl rfl) (cT (Kt:=K) (xs:=([⟨a.F,wr ((c.length:Int) - 1),a.To⟩]:List Edge)) (cs:=[i64 a.F,i64 (wr ((c.length:Int) - 1)),i64 a.To]) (vs:=[(0,zA #[i64 a.F,i64 (wr ((c.length:Int) - 1)),i64 a.To])]) cK mD rfl rfl e4 rfl (by kernel_rfl) rfl rfl rfl ⟨rfl,trivial⟩ ?_))))
   intro i9 j0 (j1:aK G K (aN 63 K i9 1 ([⟨a.F,wr ((c.length:Int) - 1),a.To⟩]:List Edge)::box b4 63 [i64 a.F,i64 (wr ((c.length:Int) - 1)),i64 a.To]::aN 63 K n o l::aN 9 K u x c::box g 29 k::L) j0)
   obtain ⟨c0,j2,d⟩:=aD d
   refine eI (i:=1) cK Tryz.underlying27 mD rfl rfl j1 rfl (zR _) (zR _) j2 rfl rfl rfl rfl (fun _ h=>h) ?_
   intro c1 c2 j3 (j4:aK G K (box b4 63 [i64 a.F,i64 (wr ((c.length:Int) - 1)),i64 a.To]::aN 63 K c1 c2 c0::aN 9 K u x c::box g 29 k::L) j3)
   exact aH (v:=zS c1 c0.length c2) (bA (bG (aC (aS (aT b7 (aF (cQ rfl rfl) (aH (v:=i64 (wr (b0+1))) (aI ⟨(c,c0,wr (b0+1)),(zI d).symm,u,x,c1,c2,b1,d6,rfl,rfl,rfl,(aK.arr 1 [] j4 rfl)⟩))))))))
  ·refine aL b8 rfl (cB (aV (aV ?_)))
   have j5:=g9 _ (zI d).symm
   subst j5
   have j:(xL t p l)=some R:=j
   exact bJ (aC ⟨p,l,a0,a2,n,o,j,b1,d6,d7,d8,b2⟩)
end Gv
