/- Walks, printed by program. -/
import Derived.Test.YtmlgcbjkfcapaaaGreatDoorKLW
import Derived.Test.YtmlgcbjkfcapaaaGreatDoorKMd
set_option linter.all false
namespace Gv
open Go.Value renaming slice→zS,bool→zB,pointer→zP
open Option.some renaming inj→zI
open Gv.Hp renaming le_refl→zR
open Go Go.Proofs
set_option maxRecDepth 20000
set_option maxHeartbeats 40000000
variable {G:Env} {K:Hp} {L:List qD} {w:World} {a1 a4 a7 a10:Option Addr} {c2 c5 c8 c11:Nat}
theorem aBg {d:(List Int)} {n R:Int} (p:aL G K (L) w) (k:bT K a1 c2 d) (b:xA d n=some R):
  Calls Tryz.prog 70 ([zS a1 d.length c2,i64 n]:List Value).toArray w (fV fun v w'=>v=i64 R∧aL G K (L) w'):=by
 refine aT Tryz.func70 rfl (by kernel_rfl) (by show (2:Nat)≤19;decide) ?_
 unfold xA at b
 refine aAZ (pM (v:=i64 0) (aAf (aH (aAZ (pM (v:=i64 0) (aAf (bD (fun f w=>aAs=some R∧aL G K (L) w) ?_ ?_)))))))
 ·rintro f w4 ⟨b,q⟩
  unfold aAs at b
  refine aA (aAZ (pM (v:=i64 (-1)) (aAf ?_)))
  cases zI b
  exact bF (bC Tryz.results70 rfl ⟨rfl,q⟩)
 obtain ⟨a2,u,b⟩:=aI b
 refine cD u (fun (c:Int) f w=>f 0=zS a1 d.length c2∧f 1=i64 n∧f 5=i64 c∧aL G K (L) w) ?_ ?_
 ·exact ⟨rfl,rfl,rfl,p⟩
 ·rintro c x f a3 a l ⟨h,m,e,g⟩
  replace a:sY d n c=some x:=a
  unfold sY at a
  refine aH (aAZ (aCv e (aCv h (aB (bQ (len:=d.length) bW rfl) (aB (cJ rfl rfl) (aAf ?_))))))
  rcases aK a with ⟨i,a⟩|⟨i,a⟩
  ·refine aO i rfl (aW (aA (aH (cU (aAZ (aCv h (aCv e ?_)))))))
   obtain ⟨a4,o,a⟩:=aI a
   refine aB (cO bW rfl k rfl rfl rfl o) ?_
   obtain ⟨a5,y,z⟩:=bT.el (sz:=1) rfl k o
   cases z
   refine aB (bH (t:=0) cP g y rfl rfl) (aCv m (aB (oY rfl rfl) (aAf ?_)))
   rcases aK a with ⟨j,a⟩|⟨j,a⟩
   ·refine aO j rfl (aAZ (aCv e (pM (v:=i64 c) (aAf (bF (bN (aS (aS ?_))))))))
    have J:=l _ (zI a).symm
    subst J
    have b:(some c)=some R:=b
    cases zI b
    exact bN (aS (aS (bC Tryz.results70 rfl ⟨rfl,g⟩)))
   ·exact aM j rfl (aW (bG (aA (aC (aCv e (aB (cX rfl rfl) (pM (v:=i64 (wr (c+1))) (aAf ⟨wr (c+1),(zI a).symm,h,m,rfl,g⟩))))))))
  ·refine aM i rfl (cB (aY (aY ?_)))
   have Z:=l _ (zI a).symm
   subst Z
   have b:(aAs)=some R:=b
   exact bO (aA ⟨b,g⟩)
theorem aIw {t:dB} {J:Nat} {a:(List Int)} {R:dB} (hs:aL G K (L) w) (z:fW K a1 J (zC t a4 c5 a7 c8)) (h6:bT K a4 c5 t.L) (h9:bT K a7 c8 t.E) (c0:bT K a10 c11 a) (y:aDk t a=some R):
  Calls Tryz.prog 24 ([bY a1 J,zS a10 a.length c11]:List Value).toArray w (fV fun v w'=>∃ (d0:Option Addr) (d1:Nat) (d2:Option Addr) (d3:Nat),v=Value.agg (zCa R d0 d1 d2 d3)∧aL G K (aN 9 K d0 d1 R.L::aN 63 K d2 d3 R.E::L) w'):=by
 let o:=zG
 refine aT Tryz.func24 rfl (by kernel_rfl) (by show (2:Nat)≤66;decide) ?_
 unfold aDk at y
 refine aAZ (cF (vs:=o) Tryz.zeroValue29 hs rfl (fun l j7 d4=>(aAf (aAZ (aBl (v:=zS a10 a.length c11) (aB (bQ (len:=a.length) bW rfl) (aBl (v:=zS a10 a.length c11) (aBl (v:=bY a1 J) (aB (dG rfl z) (aB (cH (k':=J+1) rM rfl z rfl) (aB (bH (t:=1) cP d4 z rfl rfl) ?_)))))))))))
 obtain ⟨k,e9,y⟩:=aI y
 refine aU (vs:=[zS a10 a.length c11,i64 t.I]) Tryz.call70 rfl (aBg d4 c0 e9) ?_
 rintro _ j8 ⟨rfl,f0⟩
 refine dM (Kt:=K) (xs:=([]:List Edge)) (cs:=[]) (vs:=[]) cR vQ rfl rfl f0 rfl (by kernel_rfl) rfl rfl rfl trivial (fun u f1 (f2:aL G K (aN 63 K u 0 ([]:List Edge)::box l 29 o::L) f1)=>(aB (kU (vs:=[(0,i64 (a.length:Int)),(1,i64 k),(3,zS u ([]:List Edge).length 0)]) (cs:=[i64 (a.length:Int),i64 k,zS none 0 0,zS u ([]:List Edge).length 0]) aEz rfl (by kernel_rfl)) (cF (vs:=o) Tryz.zeroValue29 f2 rfl (fun m j9 f3=>(cC (i:=0) (ns:=[i64 (a.length:Int),i64 k,zS none 0 0,zS u ([]:List Edge).length 0]) (us:=[i64 (a.length:Int),i64 k,zS none 0 0,zS u ([]:List Edge).length 0]) Tryz.sizeOf29 f3 rfl rfl rfl rfl rfl (dL rfl) rfl rfl (fun f4 (f5:aL G K (box m 29 [i64 (a.length:Int),i64 k,zS none 0 0,zS u ([]:List Edge).length 0]::aN 63 K u 0 ([]:List Edge)::box l 29 o::L) f4)=>(aAf (aAZ (dM (Kt:=K) (xs:=([]:List aZ)) (cs:=[]) (vs:=[]) cY yD rfl rfl f5 rfl (by kernel_rfl) rfl rfl rfl trivial (fun f6 f7 (d5:aL G K (aN 9 K f6 0 ([]:List aZ)::box m 29 [i64 (a.length:Int),i64 k,zS none 0 0,zS u ([]:List Edge).length 0]::aN 63 K u 0 ([]:List Edge)::box l 29 o::L) f7)=>(aBl (v:=bY a1 J) (aB (dG rfl z) (aB (cH (k':=J+2) gL rfl z rfl) (aB (bH (t:=2) jJ d5 z rfl rfl) ?_))))))))))))))
 obtain ⟨b,f8,y⟩:=aI y
 refine aEv (i:=0) cY Tryz.underlying22 yD rfl rfl d5 rfl (zR _) h6 f8 rfl rfl rfl rfl (fun c d f9 (g0:aL G K (aN 9 K c d b::box m 29 [i64 (a.length:Int),i64 k,zS none 0 0,zS u ([]:List Edge).length 0]::aN 63 K u 0 ([]:List Edge)::box l 29 o::L) f9)=>(aB (bB (t':=2) gL rfl rfl) (cC (i:=1) (ns:=[zS c b.length d]) (us:=[i64 (a.length:Int),i64 k,zS c b.length d,zS u ([]:List Edge).length 0]) Tryz.sizeOf22 g0 rfl rfl rfl rfl rfl (dL rfl) rfl rfl (fun g1 (g2:aL G K (aN 9 K c d b::box m 29 [i64 (a.length:Int),i64 k,zS c b.length d,zS u ([]:List Edge).length 0]::aN 63 K u 0 ([]:List Edge)::box l 29 o::L) g1)=>(aAf (aH (aAZ (pM (v:=i64 0) (aAf (bD (fun f w=>∃ (V:List Edge) (Z:Option Addr) (a0:Nat),aBw a k b V=some R∧f 4=zP (some ⟨l,0,none⟩)∧f 5=zP (some ⟨m,0,none⟩)∧aL G K (aN 63 K Z a0 V::aN 9 K c d b::box m 29 [i64 (a.length:Int),i64 k,zS c b.length d,zS Z V.length a0]::box l 29 o::L) w) ?_ ?_))))))))))
 ·rintro f k0 ⟨V,Z,a0,y,d6,g3,d7⟩
  unfold aBw at y
  refine aA (aAZ (aB (dK (us:=[i64 (a.length:Int),i64 k,zS c b.length d,zS Z V.length a0]) fD d7 (i:=2) rfl g3 rfl rfl) (cC (i:=3) (ns:=[i64 (a.length:Int),i64 k,zS c b.length d,zS Z V.length a0]) (us:=[i64 (a.length:Int),i64 k,zS c b.length d,zS Z V.length a0]) Tryz.sizeOf29 d7 rfl d6 rfl rfl rfl (dL rfl) rfl rfl (fun g4 (d8:aL G K (aN 63 K Z a0 V::aN 9 K c d b::box m 29 [i64 (a.length:Int),i64 k,zS c b.length d,zS Z V.length a0]::box l 29 [i64 (a.length:Int),i64 k,zS c b.length d,zS Z V.length a0]::L) g4)=>(aAf ?_)))))
  cases zI y
  exact bF (aDN Tryz.results24 (kW (vs:=[i64 (a.length:Int),i64 k,zS c b.length d,zS Z V.length a0]) rfl fD d8 (i:=3) rfl d6 rfl) ⟨c,d,Z,a0,rfl,(aL.arr 4 [1,0] d8 rfl)⟩)
 obtain ⟨k1,g6,y⟩:=aI y
 refine cD g6 (fun (s:(List Edge × Int)) f w=>match s with|(n,a2)=>∃ (p:Option Addr) (q:Nat),f 0=bY a1 J∧f 1=zS a10 a.length c11∧f 4=zP (some ⟨l,0,none⟩)∧f 5=zP (some ⟨m,0,none⟩)∧f 6=i64 a2∧aL G K (aN 9 K c d b::box m 29 [i64 (a.length:Int),i64 k,zS c b.length d,zS p n.length q]::aN 63 K p q n::box l 29 o::L) w) ?_ ?_
 ·exact ⟨u,0,rfl,rfl,rfl,rfl,rfl,g2⟩
 ·rintro ⟨n,a2⟩ c1 f k3 e g7 ⟨p,q,b2,b3,c2,c3,b4,b0⟩
  replace e:rP t a n a2=some c1:=e
  unfold rP at e
  refine aH (aAZ (aCv b4 (aCv b2 (aB (dG rfl z) (aB (cH (k':=J+3) dO rfl z rfl) (aB (bH (t:=3) hX b0 z rfl rfl) (aB (bQ (len:=t.E.length) cR rfl) (aB (cJ rfl rfl) (aAf ?_)))))))))
  rcases aK e with ⟨c4,e⟩|⟨c4,e⟩
  ·refine aO c4 rfl (aW (aA (aH (bD (fun f w=>∃ (b1:List Edge) (b5:Option Addr) (b6:Nat),rN a2 b1=some c1∧f 0=bY a1 J∧f 1=zS a10 a.length c11∧f 4=zP (some ⟨l,0,none⟩)∧f 5=zP (some ⟨m,0,none⟩)∧f 6=i64 a2∧aL G K (aN 63 K b5 b6 b1::aN 9 K c d b::box m 29 [i64 (a.length:Int),i64 k,zS c b.length d,zS b5 b1.length b6]::box l 29 o::L) w) ?_ ?_))))
   ·rintro f k4 ⟨b1,b5,b6,e,g8,g9,h0,h1,h2,h4⟩
    unfold rN at e
    exact aA (aC (aCv h2 (aB (cX rfl rfl) (pM (v:=i64 (wr (a2+1))) (aAf ⟨(b1,wr (a2+1)),(zI e).symm,b5,b6,g8,g9,h0,h1,rfl,(aL.arr 3 [1,2,0] h4 rfl)⟩)))))
   refine aAZ (aCv b2 (aB (dG rfl z) (aB (cH (k':=J+3) dO rfl z rfl) (aB (bH (t:=3) hX b0 z rfl rfl) (aCv b4 ?_)))))
   obtain ⟨j,d9,e⟩:=aI e
   refine aB (cO cR rfl h9 rfl rfl rfl d9) ?_
   obtain ⟨k5,h5,h7⟩:=bT.el (sz:=3) rfl h9 d9
   cases h7
   refine aB (gO (t:=0) (vs:=[i64 j.F,i64 j.B,i64 j.To]) mB b0 h5 rfl rfl rfl) (cF (vs:=[i64 0,i64 0,i64 0]) Tryz.zeroValue63 b0 rfl (fun a5 k6 h8=>(cC (i:=0) (ns:=[i64 j.F,i64 j.B,i64 j.To]) (us:=[i64 j.F,i64 j.B,i64 j.To]) Tryz.sizeOf63 h8 rfl rfl rfl rfl rfl (dL rfl) rfl rfl (fun i0 (e0:aL G K (box a5 63 [i64 j.F,i64 j.B,i64 j.To]::aN 9 K c d b::box m 29 [i64 (a.length:Int),i64 k,zS c b.length d,zS p n.length q]::aN 63 K p q n::box l 29 o::L) i0)=>(aAf (aAZ (aCv b3 (aB (bB (t':=0) fY rfl rfl) (aB (bR cP e0 (i:=0) rfl rfl rfl) ?_)))))))))
   obtain ⟨r,i1,e⟩:=aI e
   refine aU (vs:=[zS a10 a.length c11,i64 j.F]) Tryz.call70 rfl (aBg e0 c0 i1) ?_
   rintro _ k7 ⟨rfl,i2⟩
   refine aB (bB (t':=0) fY rfl rfl) (cC (i:=0) (ns:=[i64 r]) (us:=[i64 r,i64 j.B,i64 j.To]) Tryz.sizeOf2 i2 rfl rfl rfl rfl rfl (dL rfl) rfl rfl (fun i3 (e1:aL G K (box a5 63 [i64 r,i64 j.B,i64 j.To]::aN 9 K c d b::box m 29 [i64 (a.length:Int),i64 k,zS c b.length d,zS p n.length q]::aN 63 K p q n::box l 29 o::L) i3)=>(aAf (aAZ (aCv b3 (aB (bB (t':=2) iB rfl rfl) (aB (bR cP e1 (i:=0) rfl rfl rfl) ?_)))))))
   obtain ⟨x,i4,e⟩:=aI e
   refine aU (vs:=[zS a10 a.length c11,i64 j.To]) Tryz.call70 rfl (aBg e1 c0 i4) ?_
   rintro _ k8 ⟨rfl,i5⟩
   refine aB (bB (t':=2) iB rfl rfl) (cC (i:=0) (ns:=[i64 x]) (us:=[i64 r,i64 j.B,i64 x]) Tryz.sizeOf2 i5 rfl rfl rfl rfl rfl (dL rfl) rfl rfl (fun i6 (b7:aL G K (box a5 63 [i64 r,i64 j.B,i64 x]::aN 9 K c d b::box m 29 [i64 (a.length:Int),i64 k,zS c b.length d,zS p n.length q]::aN 63 K p q n::box l 29 o::L) i6)=>(aAf (aH (cS (fun f w=>∃ (c6:Bool),rO n a2 j r x c6=some c1∧f 0=bY a1 J∧f 1=zS a10 a.length c11∧f 4=zP (some ⟨l,0,none⟩)∧f 5=zP (some ⟨m,0,none⟩)∧f 6=i64 a2∧f 7=zP (some ⟨a5,0,none⟩)∧f 58=zB c6∧aL G K (box a5 63 [i64 r,i64 j.B,i64 x]::aN 9 K c d b::box m 29 [i64 (a.length:Int),i64 k,zS c b.length d,zS p n.length q]::aN 63 K p q n::box l 29 o::L) w) ?_ ?_)))))
   ·rintro f k9 ⟨c6,e,e2,e3,e4,b8,e5,i7,e6,b9⟩
    unfold rO at e
    refine aA ?_
    rcases aK e with ⟨c7,e⟩|⟨c7,e⟩
    ·refine aO c7 e6 (aC (aB (bB (t':=3) dO b8 rfl) (aB (bR hX b9 (i:=2) rfl rfl rfl) (aB (dK (us:=[i64 r,i64 j.B,i64 x]) mB b9 (i:=0) rfl i7 rfl rfl) (dM (Kt:=K) (xs:=([⟨r,j.B,x⟩]:List Edge)) (cs:=[i64 r,i64 j.B,i64 x]) (vs:=[(0,Value.agg #[i64 r,i64 j.B,i64 x])]) cR vQ rfl rfl b9 rfl (by kernel_rfl) rfl rfl rfl ⟨rfl,trivial⟩ (fun i8 i9 (j0:aL G K (aN 63 K i8 1 ([⟨r,j.B,x⟩]:List Edge)::box a5 63 [i64 r,i64 j.B,i64 x]::aN 9 K c d b::box m 29 [i64 (a.length:Int),i64 k,zS c b.length d,zS p n.length q]::aN 63 K p q n::box l 29 o::L) i9)=>?_))))))
     obtain ⟨a6,j1,e⟩:=aI e
     exact iY (i:=3) cR Tryz.underlying27 vQ rfl rfl j0 rfl (zR _) (zR _) j1 rfl rfl rfl rfl (fun _ h=>h) (fun a8 a9 j2 (j3:aL G K (box a5 63 [i64 r,i64 j.B,i64 x]::aN 9 K c d b::box m 29 [i64 (a.length:Int),i64 k,zS c b.length d,zS p n.length q]::aN 63 K a8 a9 a6::box l 29 o::L) j2)=>(aB (bB (t':=3) dO b8 rfl) (cC (i:=2) (ns:=[zS a8 a6.length a9]) (us:=[i64 (a.length:Int),i64 k,zS c b.length d,zS a8 a6.length a9]) Tryz.sizeOf27 j3 rfl rfl rfl rfl rfl (dL rfl) rfl rfl (fun j4 (j5:aL G K (box a5 63 [i64 r,i64 j.B,i64 x]::aN 9 K c d b::box m 29 [i64 (a.length:Int),i64 k,zS c b.length d,zS a8 a6.length a9]::aN 63 K a8 a9 a6::box l 29 o::L) j4)=>(aF (bG (aA ⟨a6,a8,a9,e,e2,e3,e4,b8,e5,(aL.arr 4 [3,1,2] j5 rfl)⟩)))))))
    ·exact aM c7 e6 (aW (bG (aA ⟨n,p,q,e,e2,e3,e4,b8,e5,(aL.arr 4 [3,1,2] b9 rfl)⟩)))
   refine aC (aB (bB (t':=0) fY rfl rfl) (aB (bR cP b7 (i:=0) rfl rfl rfl) (aB (tT rfl rfl) (aBl (v:=zB (decide (0≤r))) ?_))))
   rcases aK e with ⟨a3,e⟩|⟨a3,e⟩
   ·exact bE a3 rfl rfl (aB (bB (t':=2) iB rfl rfl) (bE a3 rfl rfl (aB (bR cP b7 (i:=0) rfl rfl rfl) (bE a3 rfl rfl (aB (tT rfl rfl) (aB (bI (v:=zB (decide (0≤x))) a3 rfl rfl) (aAf ⟨decide (0≤x),e,b2,b3,c2,c3,b4,rfl,rfl,b7⟩)))))))
   ·exact aV a3 rfl rfl (aV a3 rfl rfl (aV a3 rfl rfl (aB (bJ (v:=zB false) a3 rfl rfl) (aAf ⟨false,e,b2,b3,c2,c3,b4,rfl,rfl,b7⟩))))
  ·refine aM c4 rfl (cB (aY (aY ?_)))
   have j6:=g7 _ (zI e).symm
   subst j6
   have y:(aBw a k b n)=some R:=y
   exact bO (aA ⟨n,p,q,y,c2,c3,(aL.arr 3 [2,0,1] b0 rfl)⟩)
theorem aHy {t:dB} {l:Nat} {R:(List Int)} (hs:aL G K (L) w) (k:fW K a1 l (zC t a4 c5 a7 c8)) (h6:bT K a4 c5 t.L) (h9:bT K a7 c8 t.E) (j:aBX t=some R):
  Calls Tryz.prog 25 ([bY a1 l]:List Value).toArray w (fV fun v w'=>∃ (f0:Option Addr) (f1:Nat),v=zS f0 R.length f1∧aL G K (aN 2 K f0 f1 R::L) w'):=by
 refine aT Tryz.func25 rfl (by kernel_rfl) (by show (1:Nat)≤82;decide) ?_
 unfold aBX at j
 refine aAZ (pM (v:=zS none 0 0) (aAf (aAZ (aBl (v:=bY a1 l) (aB (dG rfl k) (aB (cH (k':=l+0) tP rfl k rfl) (aB (bH (t:=0) cP hs k rfl rfl) ?_)))))))
 obtain ⟨b,g7,j⟩:=aI j
 refine aFt (e:=(false:Bool)) fQ ez_4 rfl rfl hs rfl rfl rfl g7 rfl (fun c g8 (c6:aL G K (aN 4 K c b.length b::L) g8)=>(pM (v:=zS c b.length b.length) (aAf (aAZ (aBl (v:=zS c b.length b.length) (aBl (v:=bY a1 l) (aB (dG rfl k) (aB (cH (k':=l+1) rM rfl k rfl) (aB (bH (t:=1) cP c6 k rfl rfl) ?_)))))))))
 obtain ⟨m5,c7,j⟩:=aI j
 have a3:=cG c6 (i:=0) rfl c7
 refine aB (dA fQ rfl a3 rfl rfl rfl c7) ?_
 obtain ⟨g9,f2,j⟩:=aI j
 refine kV (i:=0) (t:=0) (ns:=[zB true]) (e':=(true:Bool)) Tryz.sizeOf4 c6 rfl (zR _) rfl rfl rfl c7 f2 rfl rfl (dL rfl) rfl (fun cs h=>by cases h;rfl) (fun h0 (h1:aL G K (aN 4 K c b.length g9::L) h0)=>(aAf (aH (aAZ (pM (v:=zB true) (aAf (bD (fun f w=>∃ (p:List Bool),wD t p=some R∧f 0=bY a1 l∧f 3=zS c p.length b.length∧aL G K (aN 4 K c b.length p::L) w) ?_ ?_)))))))
 ·rintro f m6 ⟨p,j,h2,h4,h5⟩
  unfold wD at j
  refine aA (aAZ (dM (Kt:=K) (xs:=([]:List Int)) (cs:=[]) (vs:=[]) bW tU rfl rfl h5 rfl (by kernel_rfl) rfl rfl rfl trivial (fun c9 h7 (h8:aL G K (aN 2 K c9 0 ([]:List Int)::aN 4 K c b.length p::L) h7)=>(pM (v:=zS c9 ([]:List Int).length 0) (aAf (aH (aAZ (pM (v:=i64 0) (aAf (bD (fun f w=>∃ (a5:List Int) (a6:Option Addr) (a8:Nat),aAt a5=some R∧f 6=zS a6 a5.length a8∧aL G K (aN 2 K a6 a8 a5::L) w) ?_ ?_))))))))))
  ·rintro f m7 ⟨a5,a6,a8,j,i0,i1⟩
   unfold aAt at j
   refine aA (aAZ (aCv i0 (pM (v:=zS a6 a5.length a8) (aAf ?_))))
   cases zI j
   exact bF (bC Tryz.results25 rfl ⟨a6,a8,rfl,i1⟩)
  obtain ⟨m8,i3,j⟩:=aI j
  refine cD i3 (fun (s:(List Int × Int)) f w=>match s with|(y,r)=>∃ (J:Option Addr) (V:Nat),f 0=bY a1 l∧f 3=zS c p.length b.length∧f 6=zS J y.length V∧f 7=i64 r∧aL G K (aN 2 K J V y::aN 4 K c b.length p::L) w) ?_ ?_
  ·exact ⟨c9,0,h2,h4,rfl,rfl,h8⟩
  ·rintro ⟨y,r⟩ f3 f m9 m i4 ⟨J,V,d0,d1,d2,a9,b0⟩
   replace m:sZ t p y r=some f3:=m
   unfold sZ at m
   refine aH (aAZ (aCv a9 (aCv d0 (aB (dG rfl k) (aB (cH (k':=l+0) tP rfl k rfl) (aB (bH (t:=0) cP b0 k rfl rfl) (aB (cJ rfl rfl) (aAf ?_))))))))
   rcases aK m with ⟨d3,m⟩|⟨d3,m⟩
   ·refine aO d3 rfl (aW (aA (aH (bD (fun f w=>∃ (b1:List Int) (b7:Option Addr) (b8:Nat),wC r b1=some f3∧f 0=bY a1 l∧f 3=zS c p.length b.length∧f 6=zS b7 b1.length b8∧f 7=i64 r∧aL G K (aN 2 K b7 b8 b1::aN 4 K c b.length p::L) w) ?_ ?_))))
    ·rintro f n0 ⟨b1,b7,b8,m,i5,i6,i7,i8,i9⟩
     unfold wC at m
     exact aA (aC (aCv i8 (aB (cX rfl rfl) (pM (v:=i64 (wr (r+1))) (aAf ⟨(b1,wr (r+1)),(zI m).symm,b7,b8,i5,i6,i7,rfl,i9⟩)))))
    refine aAZ (aCv d1 (aCv a9 ?_))
    obtain ⟨n1,f4,m⟩:=aI m
    refine aB (dA fQ rfl a3 rfl rfl rfl f4) (aB (kA (t:=0) yE b0 (i:=1) rfl f4 rfl rfl rfl) (aAf ?_))
    rcases aK m with ⟨d4,m⟩|⟨d4,m⟩
    ·refine aO d4 rfl (aC (aCv d2 (aCv a9 (dM (Kt:=K) (xs:=([r]:List Int)) (cs:=[i64 r]) (vs:=[(0,i64 r)]) bW tU rfl rfl b0 rfl (by kernel_rfl) rfl rfl rfl ⟨rfl,trivial⟩ (fun j0 j1 (j2:aL G K (aN 2 K j0 1 ([r]:List Int)::aN 2 K J V y::aN 4 K c b.length p::L) j1)=>?_)))))
     obtain ⟨d5,j3,m⟩:=aI m
     exact iY (i:=0) bW Tryz.underlying38 tU rfl rfl j2 rfl (zR _) (zR _) j3 rfl rfl rfl rfl (fun _ h=>h) (fun d6 d7 j4 (j5:aL G K (aN 2 K d6 d7 d5::aN 4 K c b.length p::L) j4)=>(pM (v:=zS d6 d5.length d7) (aF (bG (aA ⟨d5,d6,d7,m,d0,d1,rfl,a9,j5⟩)))))
    ·exact aM d4 rfl (aW (bG (aA ⟨y,J,V,m,d0,d1,d2,a9,b0⟩)))
   ·refine aM d3 rfl (cB (aY (aY ?_)))
    have j6:=i4 _ (zI m).symm
    subst j6
    have j:(aAt y)=some R:=j
    exact bO (aA ⟨y,J,V,j,d2,(aL.arr 2 [0] b0 rfl)⟩)
 obtain ⟨n2,j7,j⟩:=aI j
 refine cD j7 (fun (s:(List Bool × Bool)) f w=>match s with|(Z,d8)=>f 0=bY a1 l∧f 3=zS c Z.length b.length∧f 4=zB d8∧aL G K (aN 4 K c b.length Z::L) w) ?_ ?_
 ·exact ⟨rfl,(Eq.trans rfl (congrArg (fun n=>zS c n b.length) (iN f2))),rfl,h1⟩
 ·rintro ⟨Z,d8⟩ b9 f n3 o j8 ⟨f5,f6,j9,f7⟩
  replace o:yM t Z d8=some b9:=o
  unfold yM at o
  refine aH (aAZ (aCv j9 (aAf ?_)))
  rcases aK o with ⟨d9,o⟩|⟨d9,o⟩
  ·refine aO d9 rfl (aW (aA (bD (fun f w=>∃ (b2:List Bool) (c0:Bool),aCM b2 c0=some b9∧f 0=bY a1 l∧f 3=zS c b2.length b.length∧f 4=zB c0∧aL G K (aN 4 K c b.length b2::L) w) ?_ ?_)))
   ·rintro f n4 ⟨b2,c0,o,k0,k1,k3,k4⟩
    unfold aCM at o
    exact aA ⟨(b2,c0),(zI o).symm,k0,k1,k3,k4⟩
   refine aAZ (pM (v:=zB false) (aAf (aAZ (pM (v:=i64 0) (aAf (bD (fun f w=>∃ (b3:List Bool) (c1:Bool),aAu b3 c1=some b9∧f 0=bY a1 l∧f 3=zS c b3.length b.length∧f 4=zB c1∧aL G K (aN 4 K c b.length b3::L) w) ?_ ?_))))))
   ·rintro f n5 ⟨b3,c1,o,k5,k6,k7,k8⟩
    unfold aAu at o
    exact bG (aA ⟨b3,c1,o,k5,k6,k7,k8⟩)
   obtain ⟨n6,k9,o⟩:=aI o
   refine cD k9 (fun (s:(List Bool × Bool × Int)) f w=>match s with|(u,z,q)=>f 0=bY a1 l∧f 3=zS c u.length b.length∧f 4=zB z∧f 5=i64 q∧aL G K (aN 4 K c b.length u::L) w) ?_ ?_
   ·exact ⟨f5,f6,rfl,rfl,f7⟩
   ·rintro ⟨u,z,q⟩ e0 f n7 a l0 ⟨a0,b4,e1,b5,x⟩
    replace a:tA t u z q=some e0:=a
    unfold tA at a
    refine aH (aAZ (aCv b5 (aCv a0 (aB (dG rfl k) (aB (cH (k':=l+3) dO rfl k rfl) (aB (bH (t:=3) hX x k rfl rfl) (aB (bQ (len:=t.E.length) cR rfl) (aB (cJ rfl rfl) (aAf ?_)))))))))
    rcases aK a with ⟨e2,a⟩|⟨e2,a⟩
    ·refine aO e2 rfl (aW (aA (aH (bD (fun f w=>∃ (b6:List Bool) (c2:Bool),pL q b6 c2=some e0∧f 0=bY a1 l∧f 3=zS c b6.length b.length∧f 4=zB c2∧f 5=i64 q∧aL G K (aN 4 K c b.length b6::L) w) ?_ ?_))))
     ·rintro f n8 ⟨b6,c2,a,l1,l2,l3,l4,l5⟩
      unfold pL at a
      exact aA (aC (aCv l4 (aB (cX rfl rfl) (pM (v:=i64 (wr (q+1))) (aAf ⟨(b6,c2,wr (q+1)),(zI a).symm,l1,l2,l3,rfl,l5⟩)))))
     refine aH (cS (fun f w=>∃ (e3:Bool),pN t u z q e3=some e0∧f 0=bY a1 l∧f 3=zS c u.length b.length∧f 4=zB z∧f 5=i64 q∧f 53=zB e3∧aL G K (aN 4 K c b.length u::L) w) ?_ ?_)
     ·rintro f n9 ⟨e3,a,e4,e5,l6,e6,f8,c3⟩
      unfold pN at a
      refine aA ?_
      rcases aK a with ⟨e7,a⟩|⟨e7,a⟩
      ·refine aO e7 f8 (aAZ (aCv e5 (aCv e4 (aB (dG rfl k) (aB (cH (k':=l+3) dO rfl k rfl) (aB (bH (t:=3) hX c3 k rfl rfl) (aCv e6 ?_)))))))
       obtain ⟨o0,f9,a⟩:=aI a
       refine aB (cO cR rfl h9 rfl rfl rfl f9) ?_
       obtain ⟨o1,g0,l7⟩:=bT.el (sz:=3) rfl h9 f9
       cases l7
       refine aB (cH (k':=q.toNat * 3+2) iB rfl g0 rfl) (aB (bH (t:=2) cP c3 g0 rfl rfl) ?_)
       obtain ⟨o2,g1,a⟩:=aI a
       refine aB (dA fQ rfl a3 rfl rfl rfl g1) ?_
       obtain ⟨g2,g3,a⟩:=aI a
       exact kV (i:=0) (t:=0) (ns:=[zB true]) (e':=(true:Bool)) Tryz.sizeOf4 c3 rfl (zR _) rfl rfl rfl g1 g3 rfl rfl (dL rfl) rfl (fun cs h=>by cases h;rfl) (fun l8 (l9:aL G K (aN 4 K c b.length g2::L) l8)=>(aAf (aC (pM (v:=zB true) (aF (bG (aA ⟨g2,true,a,e4,(Eq.trans e5 (congrArg (fun n=>zS c n b.length) (iN g3))),rfl,e6,l9⟩)))))))
      ·exact aM e7 f8 (aW (bG (aA ⟨u,z,a,e4,e5,l6,e6,c3⟩)))
     refine aC (aCv b4 (aCv a0 (aB (dG rfl k) (aB (cH (k':=l+3) dO rfl k rfl) (aB (bH (t:=3) hX x k rfl rfl) (aCv b5 ?_))))))
     obtain ⟨o3,e8,a⟩:=aI a
     refine aB (cO cR rfl h9 rfl rfl rfl e8) ?_
     obtain ⟨o4,c4,m0⟩:=bT.el (sz:=3) rfl h9 e8
     cases m0
     refine aB (cH (k':=q.toNat * 3+0) fY rfl c4 rfl) (aB (bH (t:=0) cP x c4 rfl rfl) ?_)
     obtain ⟨m1,g4,a⟩:=aI a
     refine aB (dA fQ rfl a3 rfl rfl rfl g4) (aB (kA (t:=0) yE x (i:=0) rfl g4 rfl rfl rfl) (aBl (v:=zB m1) ?_))
     rcases aK a with ⟨d,a⟩|⟨d,a⟩
     ·refine bE d rfl rfl (aCv b4 (bE d rfl rfl (aCv a0 (bE d rfl rfl (aB (dG rfl k) (bE d rfl rfl (aB (cH (k':=l+3) dO rfl k rfl) (bE d rfl rfl (aB (bH (t:=3) hX x k rfl rfl) (bE d rfl rfl (aCv b5 (bE d rfl rfl (aB (cO cR rfl h9 rfl rfl rfl e8) (bE d rfl rfl (aB (cH (k':=q.toNat * 3+2) iB rfl c4 rfl) (bE d rfl rfl (aB (bH (t:=2) cP x c4 rfl rfl) (bE d rfl rfl ?_))))))))))))))))))
      obtain ⟨g5,g6,a⟩:=aI a
      exact aB (dA fQ rfl a3 rfl rfl rfl g6) (bE d rfl rfl (aB (kA (t:=0) yE x (i:=0) rfl g6 rfl rfl rfl) (bE d rfl rfl (aB (dY rfl) (aB (bI (v:=zB (!g5)) d rfl rfl) (aAf ⟨!g5,a,a0,b4,e1,b5,rfl,x⟩))))))
     ·exact aV d rfl rfl (aV d rfl rfl (aV d rfl rfl (aV d rfl rfl (aV d rfl rfl (aV d rfl rfl (aV d rfl rfl (aV d rfl rfl (aV d rfl rfl (aV d rfl rfl (aV d rfl rfl (aV d rfl rfl (aB (bJ (v:=zB false) d rfl rfl) (aAf ⟨false,a,a0,b4,e1,b5,rfl,x⟩)))))))))))))
    ·refine aM e2 rfl (cB (aY (aY ?_)))
     have m2:=l0 _ (zI a).symm
     subst m2
     have o:(aAu u z)=some b9:=o
     exact bO (aA ⟨u,z,o,a0,b4,e1,x⟩)
  ·refine aM d9 rfl (cB (aY (aY ?_)))
   have m3:=j8 _ (zI o).symm
   subst m3
   have j:(wD t Z)=some R:=j
   exact bO (aA ⟨Z,j,f5,f6,f7⟩)
theorem sA {n low c:Int} {R:Bool} (e:aL G K (L) w) (a:yN n low c=some R):
  Calls Tryz.prog 67 ([i64 n,i64 low,i64 c]:List Value).toArray w (fV fun v w'=>v=zB R∧aL G K (L) w'):=by
 refine aT Tryz.func67 rfl (by kernel_rfl) (by show (3:Nat)≤15;decide) ?_
 unfold yN at a
 refine aAZ (pM (v:=zB false) (aAf (aH (cS (fun f w=>∃ (d:Bool),aDQ d=some R∧f 6=zB d∧aL G K (L) w) ?_ ?_))))
 ·rintro f k ⟨d,a,h,i⟩
  unfold aDQ at a
  refine aA ?_
  cases zI a
  exact bF (bC Tryz.results67 rfl ⟨h,i⟩)
 refine aC (aBl (v:=i64 n) (aBl (v:=i64 low) (aB (tT rfl rfl) (aBl (v:=zB (decide (low≤n))) ?_))))
 rcases aK a with ⟨b,a⟩|⟨b,a⟩
 ·exact bE b rfl rfl (aBl (v:=i64 n) (bE b rfl rfl (aBl (v:=i64 c) (bE b rfl rfl (aB (aEo rfl rfl) (aB (bI (v:=zB (decide (n≤c))) b rfl rfl) (pM (v:=zB (decide (n≤c))) (aAf ⟨decide (n≤c),a,rfl,e⟩))))))))
 ·exact aV b rfl rfl (aV b rfl rfl (aV b rfl rfl (aB (bJ (v:=zB false) b rfl rfl) (pM (v:=zB false) (aAf ⟨false,a,rfl,e⟩)))))
theorem aEI {c:aZ} {R:Int} (l:aL G K (L) w) (b:aBI c=some R):
  Calls Tryz.prog 175 ([cL c]:List Value).toArray w (fV fun v w'=>v=i64 R∧aL G K (L) w'):=by
 refine aT Tryz.func175 rfl (by kernel_rfl) (by show (1:Nat)≤17;decide) ?_
 unfold aBI at b
 refine aAZ (pM (v:=i64 0) (aAf (aH (aAZ (pM (v:=i64 0) (aAf (bD (fun f w=>aBx c=some R∧f 0=cL c∧aL G K (L) w) ?_ ?_)))))))
 ·rintro f y ⟨b,m,n⟩
  unfold aBx at b
  refine aA (aAZ (aCv m (aB (jE Tryz.runUnderlying9 rfl) (pM (v:=i64 (c.length:Int)) (aAf ?_)))))
  cases zI b
  exact bF (bC Tryz.results175 rfl ⟨rfl,n⟩)
 obtain ⟨z,p,b⟩:=aI b
 refine cD p (fun (d:Int) f w=>f 0=cL c∧f 3=i64 d∧aL G K (L) w) ?_ ?_
 ·exact ⟨rfl,rfl,l⟩
 ·rintro d q f J a k ⟨e,g,h⟩
  replace a:vC c d=some q:=a
  unfold vC at a
  refine aH (aAZ (aCv g (aCv e (aB (jE Tryz.runUnderlying9 rfl) (aB (cJ rfl rfl) (aAf ?_))))))
  rcases aK a with ⟨i,a⟩|⟨i,a⟩
  ·refine aO i rfl (aW (aA (aH (cU (aAZ (aCv e (aCv g ?_)))))))
   obtain ⟨V,r,a⟩:=aI a
   refine aB (aCY Tryz.runUnderlying9 rfl rfl r) (aB (oY rfl rfl) (aAf ?_))
   rcases aK a with ⟨j,a⟩|⟨j,a⟩
   ·refine aO j rfl (aAZ (aCv g (pM (v:=i64 d) (aAf (bF (bN (aS (aS ?_))))))))
    have t:=k _ (zI a).symm
    subst t
    have b:(some d)=some R:=b
    cases zI b
    exact bN (aS (aS (bC Tryz.results175 rfl ⟨rfl,h⟩)))
   ·exact aM j rfl (aW (bG (aA (aC (aCv g (aB (cX rfl rfl) (pM (v:=i64 (wr (d+1))) (aAf ⟨wr (d+1),(zI a).symm,e,rfl,h⟩))))))))
  ·refine aM i rfl (cB (aY (aY ?_)))
   have x:=k _ (zI a).symm
   subst x
   have b:(aBx c)=some R:=b
   exact bO (aA ⟨b,e,h⟩)
theorem aEe {c:UInt8} {R:Bool} (e:aL G K (L) w) (a:aBY c=some R):
  Calls Tryz.prog 320 ([Value.int .u8 (c.toNat:Int)]:List Value).toArray w (fV fun v w'=>v=zB R∧aL G K (L) w'):=by
 refine aT Tryz.func320 rfl (by kernel_rfl) (by show (1:Nat)≤9;decide) ?_
 unfold aBY at a
 refine aAZ (pM (v:=zB false) (aAf (aH (cS (fun f w=>∃ (d:Bool),aAv d=some R∧f 2=zB d∧aL G K (L) w) ?_ ?_))))
 ·rintro f k ⟨d,a,h,i⟩
  unfold aAv at a
  refine aA ?_
  cases zI a
  exact bF (bC Tryz.results320 rfl ⟨h,i⟩)
 refine aC (aBl (v:=Value.int .u8 (c.toNat:Int)) (aB (tT rfl rfl) (aBl (v:=zB (decide (97≤(c.toNat:Int)))) ?_)))
 rcases aK a with ⟨b,a⟩|⟨b,a⟩
 ·exact bE b rfl rfl (aBl (v:=Value.int .u8 (c.toNat:Int)) (bE b rfl rfl (aB (aEo rfl rfl) (aB (bI (v:=zB (decide ((c.toNat:Int)≤122))) b rfl rfl) (pM (v:=zB (decide ((c.toNat:Int)≤122))) (aAf ⟨decide ((c.toNat:Int)≤122),a,rfl,e⟩))))))
 ·exact aV b rfl rfl (aV b rfl rfl (aB (bJ (v:=zB false) b rfl rfl) (pM (v:=zB false) (aAf ⟨false,a,rfl,e⟩))))
theorem aEf {c:UInt8} {R:Bool} (e:aL G K (L) w) (a:aBZ c=some R):
  Calls Tryz.prog 321 ([Value.int .u8 (c.toNat:Int)]:List Value).toArray w (fV fun v w'=>v=zB R∧aL G K (L) w'):=by
 refine aT Tryz.func321 rfl (by kernel_rfl) (by show (1:Nat)≤9;decide) ?_
 unfold aBZ at a
 refine aAZ (pM (v:=zB false) (aAf (aH (cS (fun f w=>∃ (d:Bool),aAw d=some R∧f 2=zB d∧aL G K (L) w) ?_ ?_))))
 ·rintro f k ⟨d,a,h,i⟩
  unfold aAw at a
  refine aA ?_
  cases zI a
  exact bF (bC Tryz.results321 rfl ⟨h,i⟩)
 refine aC (aBl (v:=Value.int .u8 (c.toNat:Int)) (aB (tT rfl rfl) (aBl (v:=zB (decide (48≤(c.toNat:Int)))) ?_)))
 rcases aK a with ⟨b,a⟩|⟨b,a⟩
 ·exact bE b rfl rfl (aBl (v:=Value.int .u8 (c.toNat:Int)) (bE b rfl rfl (aB (aEo rfl rfl) (aB (bI (v:=zB (decide ((c.toNat:Int)≤57))) b rfl rfl) (pM (v:=zB (decide ((c.toNat:Int)≤57))) (aAf ⟨decide ((c.toNat:Int)≤57),a,rfl,e⟩))))))
 ·exact aV b rfl rfl (aV b rfl rfl (aB (bJ (v:=zB false) b rfl rfl) (pM (v:=zB false) (aAf ⟨false,a,rfl,e⟩))))
theorem aEJ {c:aZ} {R:Bool} (l:aL G K (L) w) (a:aBJ c=some R):
  Calls Tryz.prog 271 ([cL c]:List Value).toArray w (fV fun v w'=>v=zB R∧aL G K (L) w'):=by
 refine aT Tryz.func271 rfl (by kernel_rfl) (by show (1:Nat)≤35;decide) ?_
 unfold aBJ at a
 refine aAZ (pM (v:=zB false) (aAf (aH (aH (cS (fun f w=>∃ (m:Bool),rQ c m=some R∧f 0=cL c∧f 16=zB m∧aL G K (L) w) ?_ ?_)))))
 ·rintro f w4 ⟨m,a,e2,r,t⟩
  unfold rQ at a
  refine aA ?_
  rcases aK a with ⟨n,a⟩|⟨n,a⟩
  ·refine aO n r (aAZ (pM (v:=zB false) (aAf ?_)))
   cases zI a
   exact bF (aS (bC Tryz.results271 rfl ⟨rfl,t⟩))
  ·refine aM n r (aW (aA (aH (aAZ (pM (v:=i64 0) (aAf (bD (fun f w=>yO=some R∧aL G K (L) w) ?_ ?_)))))))
   ·rintro f w8 ⟨a,a5⟩
    unfold yO at a
    refine aA (aAZ (pM (v:=zB true) (aAf ?_)))
    cases zI a
    exact bF (bC Tryz.results271 rfl ⟨rfl,a5⟩)
   obtain ⟨c3,a7,a⟩:=aI a
   refine cD a7 (fun (i:Int) f w=>f 0=cL c∧f 3=i64 i∧aL G K (L) w) ?_ ?_
   ·exact ⟨e2,rfl,t⟩
   ·rintro i u f c4 b x ⟨j,k,y⟩
    replace b:vD c i=some u:=b
    unfold vD at b
    refine aH (aAZ (aCv k (aCv j (aB (jE Tryz.runUnderlying9 rfl) (aB (cJ rfl rfl) (aAf ?_))))))
    rcases aK b with ⟨o,b⟩|⟨o,b⟩
    ·refine aO o rfl (aW (aA (aH (cU (aH (cS (fun f w=>∃ (p:Bool),yP i p=some u∧f 0=cL c∧f 3=i64 i∧f 34=zB p∧aL G K (L) w) ?_ ?_))))))
     ·rintro f c5 ⟨p,b,a8,a9,z,J⟩
      unfold yP at b
      refine aA ?_
      rcases aK b with ⟨q,b⟩|⟨q,b⟩
      ·refine aO q z (aAZ (pM (v:=zB false) (aAf (bF (bN (aS (aS ?_)))))))
       have b0:=x _ (zI b).symm
       subst b0
       have a:(some false)=some R:=a
       cases zI a
       exact bN (aS (aS (bC Tryz.results271 rfl ⟨rfl,J⟩)))
      ·exact aM q z (aW (bG (aA (aC (aCv a9 (aB (cX rfl rfl) (pM (v:=i64 (wr (i+1))) (aAf ⟨wr (i+1),(zI b).symm,a8,rfl,J⟩))))))))
     refine aC (aCv j (aCv k ?_))
     obtain ⟨V,Z,b⟩:=aI b
     refine aB (aCY Tryz.runUnderlying9 rfl rfl Z) ?_
     obtain ⟨b2,b3,b⟩:=aI b
     refine aU (vs:=[Value.int .u8 (V.toNat:Int)]) Tryz.call320 rfl (aEe y b3) ?_
     rintro _ c7 ⟨rfl,a0⟩
     refine aB (dY rfl) (aBl (v:=zB (!b2)) ?_)
     rcases aK b with ⟨d,b⟩|⟨d,b⟩
     ·refine bE d rfl rfl (aCv j (bE d rfl rfl (aCv k (bE d rfl rfl (aB (aCY Tryz.runUnderlying9 rfl rfl Z) (bE d rfl rfl ?_))))))
      obtain ⟨a1,b4,b⟩:=aI b
      refine aU (vs:=[Value.int .u8 (V.toNat:Int)]) Tryz.call321 rfl (aEf a0 b4) ?_
      rintro _ c8 ⟨rfl,b5⟩
      exact bE d rfl rfl (aB (dY rfl) (aB (bI (v:=zB (!a1)) d rfl rfl) (aAf ⟨!a1,b,j,k,rfl,b5⟩)))
     ·exact aV d rfl rfl (aV d rfl rfl (aV d rfl rfl (aV d rfl rfl (aV d rfl rfl (aB (bJ (v:=zB false) d rfl rfl) (aAf ⟨false,b,j,k,rfl,a0⟩))))))
    ·refine aM o rfl (cB (aY (aY ?_)))
     have b6:=x _ (zI b).symm
     subst b6
     have a:(yO)=some R:=a
     exact bO (aA ⟨a,y⟩)
 refine aC (aBl (v:=cL c) (aB (aBb rfl rfl) (aBl (v:=zB (c == ([]:aZ))) ?_)))
 rcases aK a with ⟨h,a⟩|⟨h,a⟩
 ·exact bA h rfl rfl (bA h rfl rfl (bA h rfl rfl (aB (bI (v:=zB true) h rfl rfl) (aBl (v:=zB true) (bA (rfl:true=true) rfl rfl (bA (rfl:true=true) rfl rfl (bA (rfl:true=true) rfl rfl (bA (rfl:true=true) rfl rfl (aB (bI (v:=zB true) (rfl:true=true) rfl rfl) (aAf ⟨true,a,rfl,rfl,l⟩))))))))))
 ·refine bM h rfl rfl (aBl (v:=cL c) (bM h rfl rfl (aB (jE Tryz.runUnderlying9 rfl) (bM h rfl rfl (aB (mL rfl rfl) (aB (bJ (v:=zB (decide (10 < (c.length:Int)))) h rfl rfl) (aBl (v:=zB (decide (10 < (c.length:Int)))) ?_)))))))
  rcases aK a with ⟨e,a⟩|⟨e,a⟩
  ·exact bA e rfl rfl (bA e rfl rfl (bA e rfl rfl (bA e rfl rfl (aB (bI (v:=zB true) e rfl rfl) (aAf ⟨true,a,rfl,rfl,l⟩)))))
  ·refine bM e rfl rfl (aBl (v:=cL c) (bM e rfl rfl ?_))
   obtain ⟨b7,b8,a⟩:=aI a
   refine aB (aCY Tryz.runUnderlying9 rfl rfl b8) (bM e rfl rfl ?_)
   obtain ⟨a2,b9,a⟩:=aI a
   refine aU (vs:=[Value.int .u8 (b7.toNat:Int)]) Tryz.call320 rfl (aEe l b9) ?_
   rintro _ c9 ⟨rfl,c0⟩
   exact bM e rfl rfl (aB (dY rfl) (aB (bJ (v:=zB (!a2)) e rfl rfl) (aAf ⟨!a2,a,rfl,rfl,c0⟩)))
theorem aDx {b:aZ} {R:Bool} (h:aL G K (L) w) (a:xM b=some R):
  Calls Tryz.prog 258 ([cL b]:List Value).toArray w (fV fun v w'=>v=zB R∧aL G K (L) w'):=by
 refine aT Tryz.func258 rfl (by kernel_rfl) (by show (1:Nat)≤9;decide) ?_
 unfold xM at a
 refine aAZ (pM (v:=zB false) (aAf (aH (cS (fun f w=>∃ (d:Bool),uC d=some R∧f 2=zB d∧aL G K (L) w) ?_ ?_))))
 ·rintro f n ⟨d,a,i,j⟩
  unfold uC at a
  refine aA ?_
  cases zI a
  exact bF (bC Tryz.results258 rfl ⟨i,j⟩)
 refine aC (aBl (v:=cL b) ?_)
 obtain ⟨l,m,a⟩:=aI a
 refine aU (vs:=[cL b]) Tryz.call271 rfl (aEJ h m) ?_
 rintro _ o ⟨rfl,e⟩
 refine aBl (v:=zB l) ?_
 rcases aK a with ⟨c,a⟩|⟨c,a⟩
 ·exact bE c rfl rfl (aBl (v:=cL b) (bE c rfl rfl (aB (aEp rfl rfl) (aB (bI (v:=zB (!(b == ([116,97,117]:aZ)))) c rfl rfl) (pM (v:=zB (!(b == ([116,97,117]:aZ)))) (aAf ⟨!(b == ([116,97,117]:aZ)),a,rfl,e⟩))))))
 ·exact aV c rfl rfl (aV c rfl rfl (aB (bJ (v:=zB false) c rfl rfl) (pM (v:=zB false) (aAf ⟨false,a,rfl,e⟩))))
theorem aHz {d:aZ} {by_:UInt8} {R:(List aZ)} (hs:aL G K (L) w) (b:aCa d by_=some R):
  Calls Tryz.prog 272 ([cL d,Value.int .u8 (by_.toNat:Int)]:List Value).toArray w (fV fun v w'=>∃ (b1:Option Addr) (b2:Nat),v=zS b1 R.length b2∧aL G K (aN 9 K b1 b2 R::L) w'):=by
 refine aT Tryz.func272 rfl (by kernel_rfl) (by show (2:Nat)≤35;decide) ?_
 unfold aCa at b
 refine aAZ (pM (v:=zS none 0 0) (aAf (aAZ (dM (Kt:=K) (xs:=([]:List aZ)) (cs:=[]) (vs:=[]) cY yD rfl rfl hs rfl (by kernel_rfl) rfl rfl rfl trivial (fun z w2 (b7:aL G K (aN 9 K z 0 ([]:List aZ)::L) w2)=>(pM (v:=zS z ([]:List aZ).length 0) (aAf (aAZ (pM (v:=i64 0) (aAf (aH (aAZ (pM (v:=i64 0) (aAf (bD (fun f w=>∃ (n:List aZ) (J:Int) (p:Option Addr) (q:Nat),wE d n J=some R∧f 0=cL d∧f 5=zS p n.length q∧f 6=i64 J∧aL G K (aN 9 K p q n::L) w) ?_ ?_)))))))))))))))
 ·rintro f f0 ⟨n,J,p,q,b,e8,e9,c0,c1⟩
  unfold wE at b
  refine aA (aAZ (aCv e9 (aCv e8 (aCv c0 ?_))))
  obtain ⟨r,c2,b⟩:=aI b
  refine aB (R_slSL Tryz.runUnderlying9 rfl rfl c2) (dM (Kt:=K) (xs:=([r]:List aZ)) (cs:=[cL r]) (vs:=[(0,cL r)]) cY yD rfl rfl c1 rfl (by kernel_rfl) rfl rfl rfl ⟨rfl,trivial⟩ (fun c3 c4 (c5:aL G K (aN 9 K c3 1 ([r]:List aZ)::aN 9 K p q n::L) c4)=>?_))
  obtain ⟨b3,c7,b⟩:=aI b
  refine iY (i:=0) cY Tryz.underlying22 yD rfl rfl c5 rfl (zR _) (zR _) c7 rfl rfl rfl rfl (fun _ h=>h) (fun V Z c8 (c9:aL G K (aN 9 K V Z b3::L) c8)=>(pM (v:=zS V b3.length Z) (aAf ?_)))
  cases zI b
  exact bF (bC Tryz.results272 rfl ⟨V,Z,rfl,c9⟩)
 obtain ⟨f1,d1,b⟩:=aI b
 refine cD d1 (fun (s:(List aZ × Int × Int)) f w=>match s with|(e,g,c)=>∃ (j:Option Addr) (k:Nat),f 0=cL d∧f 1=Value.int .u8 (by_.toNat:Int)∧f 5=zS j e.length k∧f 6=i64 g∧f 7=i64 c∧aL G K (aN 9 K j k e::L) w) ?_ ?_
 ·exact ⟨z,0,rfl,rfl,rfl,rfl,rfl,b7⟩
 ·rintro ⟨e,g,c⟩ b4 f f2 a d2 ⟨j,k,l,a0,a2,a3,m,a4⟩
  replace a:wF d by_ e g c=some b4:=a
  unfold wF at a
  refine aH (aAZ (aCv m (aCv l (aB (jE Tryz.runUnderlying9 rfl) (aB (cJ rfl rfl) (aAf ?_))))))
  rcases aK a with ⟨a6,a⟩|⟨a6,a⟩
  ·refine aO a6 rfl (aW (aA (aH (bD (fun f w=>∃ (o:List aZ) (t:Int) (u:Option Addr) (x:Nat),tB c o t=some b4∧f 0=cL d∧f 1=Value.int .u8 (by_.toNat:Int)∧f 5=zS u o.length x∧f 6=i64 t∧f 7=i64 c∧aL G K (aN 9 K u x o::L) w) ?_ ?_))))
   ·rintro f f3 ⟨o,t,u,x,a,d3,d4,d5,d6,d7,d8⟩
    unfold tB at a
    exact aA (aC (aCv d7 (aB (cX rfl rfl) (pM (v:=i64 (wr (c+1))) (aAf ⟨(o,t,wr (c+1)),(zI a).symm,u,x,d3,d4,d5,d6,rfl,d8⟩)))))
   refine aAZ (aCv l (aCv m ?_))
   obtain ⟨f4,d9,a⟩:=aI a
   refine aB (aCY Tryz.runUnderlying9 rfl rfl d9) (aCv a0 (aB (oY rfl rfl) (aAf ?_)))
   rcases aK a with ⟨a7,a⟩|⟨a7,a⟩
   ·refine aO a7 rfl (aAZ (aCv a2 (aCv l (aCv a3 (aCv m ?_)))))
    obtain ⟨y,e0,a⟩:=aI a
    refine aB (R_slSLH Tryz.runUnderlying9 rfl rfl rfl e0) (dM (Kt:=K) (xs:=([y]:List aZ)) (cs:=[cL y]) (vs:=[(0,cL y)]) cY yD rfl rfl a4 rfl (by kernel_rfl) rfl rfl rfl ⟨rfl,trivial⟩ (fun e1 e2 (e3:aL G K (aN 9 K e1 1 ([y]:List aZ)::aN 9 K j k e::L) e2)=>?_))
    obtain ⟨a8,e4,a⟩:=aI a
    exact iY (i:=0) cY Tryz.underlying22 yD rfl rfl e3 rfl (zR _) (zR _) e4 rfl rfl rfl rfl (fun _ h=>h) (fun a9 b0 e5 (e6:aL G K (aN 9 K a9 b0 a8::L) e5)=>(pM (v:=zS a9 a8.length b0) (aAf (aC (aCv m (aB (cX rfl rfl) (pM (v:=i64 (wr (c+1))) (aF (bG (aA ⟨a8,wr (c+1),a9,b0,a,l,a0,rfl,rfl,m,e6⟩))))))))))
   ·exact aM a7 rfl (aW (bG (aA ⟨e,g,j,k,a,l,a0,a2,a3,m,a4⟩)))
  ·refine aM a6 rfl (cB (aY (aY ?_)))
   have e7:=d2 _ (zI a).symm
   subst e7
   have b:(wE d e g)=some R:=b
   exact bO (aA ⟨e,g,j,k,b,l,a2,a3,a4⟩)
theorem aGM {d:aZ} {R:(Int × Bool)} (hs:aL G K (L) w) (c:xN d=some R):
  Calls Tryz.prog 273 ([cL d]:List Value).toArray w (fV fun v w'=>v=Value.tuple #[i64 R.1,zB R.2]∧aL G K (L) w'):=by
 refine aT Tryz.func273 rfl (by kernel_rfl) (by show (1:Nat)≤62;decide) ?_
 unfold xN at c
 refine aAZ (pM (v:=i64 0) (pM (v:=zB false) (aAf (aAZ (pM (v:=i64 0) (aAf (aBQ (fun f w=>∃ (i:Int),qM d i=some R∧f 0=cL d∧f 4=i64 i∧aL G K (L) w) ?_ ?_)))))))
 ·rintro f w4 ⟨i,c,m,n,r⟩
  unfold qM at c
  refine aH (aH (cS (fun f w=>∃ (z:Bool),mQ d i z=some R∧f 0=cL d∧f 4=i64 i∧f 36=zB z∧aL G K (L) w) ?_ ?_))
  ·rintro f d6 ⟨z,c,e7,e8,e9,a6⟩
   unfold mQ at c
   refine aA ?_
   rcases aK c with ⟨J,c⟩|⟨J,c⟩
   ·refine aO J e9 (aAZ (pM (v:=i64 0) (pM (v:=zB false) (aAf ?_))))
    cases zI c
    exact bF (aS (tM Tryz.results273 rfl rfl ⟨rfl,a6⟩))
   ·refine aM J e9 (aW (aA (aAZ (pM (v:=i64 0) (aAf (aH (aAZ (aCv e8 (pM (v:=i64 i) (aAf (bD (fun f w=>∃ (p:Int),uD i p=some R∧f 4=i64 i∧f 5=i64 p∧aL G K (L) w) ?_ ?_)))))))))))
    ·rintro f d7 ⟨p,c,c1,a7,a8⟩
     unfold uD at c
     refine aA (aBQ (fun f w=>∃ (t:Int),yQ t=some R∧f 5=i64 t∧aL G K (L) w) ?_ ?_)
     ·rintro f d8 ⟨t,c,c2,c3⟩
      unfold yQ at c
      refine aAZ (aCv c2 (pM (v:=i64 t) (pM (v:=zB true) (aAf ?_))))
      cases zI c
      exact bF (tM Tryz.results273 rfl rfl ⟨rfl,c3⟩)
     refine aAZ (aCv c1 (aB (oY rfl rfl) (aAf ?_)))
     rcases aK c with ⟨V,c⟩|⟨V,c⟩
     ·exact aO V rfl (aC (aCv a7 (aB (R_neg rfl) (pM (v:=i64 (wr (0 - p))) (aAf ⟨wr (0 - p),c,rfl,a8⟩)))))
     ·exact aM V rfl (aW (aA ⟨p,c,a7,a8⟩))
    obtain ⟨d9,c5,c⟩:=aI c
    refine cD c5 (fun (s:(Int × Int)) f w=>match s with|(o,q)=>f 0=cL d∧f 4=i64 i∧f 5=i64 o∧f 6=i64 q∧aL G K (L) w) ?_ ?_
    ·exact ⟨e7,e8,rfl,rfl,a6⟩
    ·rintro ⟨o,q⟩ c6 f e0 h a9 ⟨u,b0,b1,x,b2⟩
     replace h:oE d o q=some c6:=h
     unfold oE at h
     refine aH (aAZ (aCv x (aCv u (aB (jE Tryz.runUnderlying9 rfl) (aB (cJ rfl rfl) (aAf ?_))))))
     rcases aK h with ⟨Z,h⟩|⟨Z,h⟩
     ·refine aO Z rfl (aW (aA (aH (cU (aH (aAZ (aCv u (aCv x ?_))))))))
      obtain ⟨y,b3,h⟩:=aI h
      refine aB (aCY Tryz.runUnderlying9 rfl rfl b3) ?_
      obtain ⟨e1,c7,h⟩:=aI h
      refine aU (vs:=[Value.int .u8 (y.toNat:Int)]) Tryz.call321 rfl (aEf b2 c7) ?_
      rintro _ e4 ⟨rfl,b4⟩
      refine aB (dY rfl) (aAf ?_)
      rcases aK h with ⟨a0,h⟩|⟨a0,h⟩
      ·refine aO a0 rfl (aAZ (pM (v:=i64 0) (pM (v:=zB false) (aAf (bF (aS (bN (aS (aS ?_)))))))))
       have c8:=a9 _ (zI h).symm
       subst c8
       have c:(some (0,false))=some R:=c
       cases zI c
       exact bN (aS (aS (tM Tryz.results273 rfl rfl ⟨rfl,b4⟩)))
      ·exact aM a0 rfl (aW (aA (aC (aCv b1 (aB (R_mul rfl rfl) (aCv u (aCv x (aB (aCY Tryz.runUnderlying9 rfl rfl b3) (aB (R_u8sub' (a:=y) (b:=(48:UInt8)) rfl rfl) (aB (aId Tryz.runUnderlying2 rfl ⟨_,Tryz.runUnderlying5⟩) (aB (cX rfl rfl) (pM (v:=i64 (wr ((wr (10 * o))+(wr ((y - (48:UInt8)).toNat:Int))))) (aF (bG (aA (aC (aCv x (aB (cX rfl rfl) (pM (v:=i64 (wr (q+1))) (aAf ⟨(wr ((wr (10 * o))+(wr ((y - (48:UInt8)).toNat:Int))),wr (q+1)),(zI h).symm,u,b0,rfl,rfl,b4⟩))))))))))))))))))))
     ·refine aM Z rfl (cB (aY (aY ?_)))
      have d0:=a9 _ (zI h).symm
      subst d0
      have c:(uD i o)=some R:=c
      exact bO (aA ⟨o,c,b0,b1,b2⟩)
  refine aC (aCv m (aB (jE Tryz.runUnderlying9 rfl) (aCv n (aB (oY rfl rfl) (aBl (v:=zB ((d.length:Int) == i)) ?_)))))
  rcases aK c with ⟨j,c⟩|⟨j,c⟩
  ·exact bA j rfl rfl (bA j rfl rfl (bA j rfl rfl (bA j rfl rfl (bA j rfl rfl (aB (bI (v:=zB true) j rfl rfl) (aBl (v:=zB true) (bA (rfl:true=true) rfl rfl (bA (rfl:true=true) rfl rfl (bA (rfl:true=true) rfl rfl (bA (rfl:true=true) rfl rfl (bA (rfl:true=true) rfl rfl (dQ (g:=31) rfl rfl (dQ (g:=31) rfl rfl (dQ (g:=31) rfl rfl (bA (rfl:true=true) rfl rfl (aB (bI (v:=zB true) (rfl:true=true) rfl rfl) (aAf ⟨true,c,m,n,rfl,r⟩)))))))))))))))))
  ·refine bM j rfl rfl (aCv m (bM j rfl rfl (aB (jE Tryz.runUnderlying9 rfl) (bM j rfl rfl (aCv n (bM j rfl rfl (aB (jS rfl rfl) (bM j rfl rfl (aB (mL rfl rfl) (aB (bJ (v:=zB (decide (18 < wr ((d.length:Int) - i)))) j rfl rfl) (aBl (v:=zB (decide (18 < wr ((d.length:Int) - i)))) ?_)))))))))))
   rcases aK c with ⟨e,c⟩|⟨e,c⟩
   ·exact bA e rfl rfl (bA e rfl rfl (bA e rfl rfl (bA e rfl rfl (bA e rfl rfl (dQ (g:=31) rfl rfl (dQ (g:=31) rfl rfl (dQ (g:=31) rfl rfl (bA e rfl rfl (aB (bI (v:=zB true) e rfl rfl) (aAf ⟨true,c,m,n,rfl,r⟩))))))))))
   ·refine bM e rfl rfl (aCv m (bM e rfl rfl (aCv n (bM e rfl rfl ?_))))
    obtain ⟨d1,d2,c⟩:=aI c
    refine aB (aCY Tryz.runUnderlying9 rfl rfl d2) (bM e rfl rfl (aB (oY rfl rfl) (bM e rfl rfl (aBl (v:=zB ((d1.toNat:Int) == 48)) ?_))))
    rcases aK c with ⟨k,c⟩|⟨k,c⟩
    ·exact bE k rfl rfl (aCv m (bE k rfl rfl (aB (jE Tryz.runUnderlying9 rfl) (bE k rfl rfl (aB (mL rfl rfl) (bM e rfl rfl (aB (bI (v:=zB (decide (1 < (d.length:Int)))) k rfl rfl) (aB (bJ (v:=zB (decide (1 < (d.length:Int)))) e rfl rfl) (aAf ⟨decide (1 < (d.length:Int)),c,m,n,rfl,r⟩)))))))))
    ·exact aV k rfl rfl (aV k rfl rfl (aV k rfl rfl (bM e rfl rfl (aB (bJ (v:=zB false) k rfl rfl) (aB (bJ (v:=zB false) e rfl rfl) (aAf ⟨false,c,m,n,rfl,r⟩))))))
 refine aH (cS (fun f w=>∃ (a1:Bool),qN d a1=some R∧f 0=cL d∧f 4=i64 0∧f 14=zB a1∧aL G K (L) w) ?_ ?_)
 ·rintro f e5 ⟨a1,c,b5,d3,b6,b7⟩
  unfold qN at c
  refine aA ?_
  rcases aK c with ⟨a2,c⟩|⟨a2,c⟩
  ·exact aO a2 b6 (aC (pM (v:=i64 1) (aAf ⟨1,c,b5,rfl,b7⟩)))
  ·exact aM a2 b6 (aW (aA ⟨0,c,b5,d3,b7⟩))
 refine aC (aBl (v:=cL d) (aB (jE Tryz.runUnderlying9 rfl) (aB (mL rfl rfl) (aBl (v:=zB (decide (0 < (d.length:Int)))) ?_))))
 rcases aK c with ⟨l,c⟩|⟨l,c⟩
 ·refine bE l rfl rfl (aBl (v:=cL d) (bE l rfl rfl ?_))
  obtain ⟨b8,d4,c⟩:=aI c
  exact aB (aCY Tryz.runUnderlying9 rfl rfl d4) (bE l rfl rfl (aB (oY rfl rfl) (aB (bI (v:=zB ((b8.toNat:Int) == 45)) l rfl rfl) (aAf ⟨(b8.toNat:Int) == 45,c,rfl,rfl,rfl,hs⟩))))
 ·exact aV l rfl rfl (aV l rfl rfl (aV l rfl rfl (aB (bJ (v:=zB false) l rfl rfl) (aAf ⟨false,c,rfl,rfl,rfl,hs⟩))))
theorem aGN {e:aZ} {R:((List Int) × Bool)} (hs:aL G K (L) w) (a:aCE e=some R):
  Calls Tryz.prog 212 ([cL e]:List Value).toArray w (fV fun v w'=>∃ (b3:Option Addr) (b4:Nat),v=Value.tuple #[zS b3 R.1.length b4,zB R.2]∧aL G K (aN 2 K b3 b4 R.1::L) w'):=by
 refine aT Tryz.func212 rfl (by kernel_rfl) (by show (1:Nat)≤70;decide) ?_
 unfold aCE at a
 refine aAZ (pM (v:=zS none 0 0) (pM (v:=zB false) (aAf (aAZ (aBl (v:=cL e) ?_)))))
 obtain ⟨u,q2,a⟩:=aI a
 refine aU (vs:=[cL e]) Tryz.call175 rfl (aEI hs q2) ?_
 rintro _ w3 ⟨rfl,b5⟩
 refine pM (v:=i64 u) (aAf (aH (aAZ (aBl (v:=i64 u) (aBl (v:=cL e) (aB (jE Tryz.runUnderlying9 rfl) (aB (oY rfl rfl) (aAf ?_))))))))
 rcases aK a with ⟨Z,a⟩|⟨Z,a⟩
 ·refine aO Z rfl (aAZ (dM (Kt:=K) (xs:=([]:List Int)) (cs:=[]) (vs:=[]) bW tU rfl rfl b5 rfl (by kernel_rfl) rfl rfl rfl trivial (fun a6 w7 (d2:aL G K (aN 2 K a6 0 ([]:List Int)::L) w7)=>(aBl (v:=cL e) ?_))))
  obtain ⟨r9,d4,a⟩:=aI a
  refine aU (vs:=[cL e]) Tryz.call271 rfl (aEJ d2 d4) ?_
  rintro _ h4 ⟨rfl,d5⟩
  refine pM (v:=zS a6 ([]:List Int).length 0) (pM (v:=zB r9) (aAf ?_))
  cases zI a
  exact bF (aS (tM Tryz.results212 rfl rfl ⟨a6,0,rfl,d5⟩))
 ·refine aM Z rfl (aW (aA (aH (aH (cS (fun f w=>∃ (a1:Bool),qP e u a1=some R∧f 0=cL e∧f 4=i64 u∧f 31=zB a1∧aL G K (L) w) ?_ ?_)))))
  ·rintro f h5 ⟨a1,a,b6,d7,b7,b8⟩
   unfold qP at a
   refine aA ?_
   rcases aK a with ⟨a2,a⟩|⟨a2,a⟩
   ·refine aO a2 b7 (aAZ (pM (v:=zS none 0 0) (pM (v:=zB false) (aAf ?_))))
    have d8:=aL.nil (α:=Int) b8 2 K
    cases zI a
    exact bF (aS (tM Tryz.results212 rfl rfl ⟨none,0,rfl,d8⟩))
   ·refine aM a2 b7 (aW (aA (aAZ (aCv b6 (aCv d7 (aB (cX rfl rfl) (aCv b6 (aB (jE Tryz.runUnderlying9 rfl) (aB (jS rfl rfl) ?_)))))))))
    obtain ⟨e0,e1,a⟩:=aI a
    refine aB (R_slSLH Tryz.runUnderlying9 rfl rfl rfl e1) ?_
    obtain ⟨j,e2,a⟩:=aI a
    refine aU (vs:=[cL e0,Value.int .u8 44]) Tryz.call272 rfl (aHz (by_:=(44:UInt8)) b8 e2) ?_
    rintro _ h6 ⟨m,n,rfl,e3⟩
    refine pM (v:=zS m j.length n) (aAf (aAZ (dM (Kt:=K) (xs:=([]:List Int)) (cs:=[]) (vs:=[]) bW tU rfl rfl e3 rfl (by kernel_rfl) rfl rfl rfl trivial (fun a3 e4 (e5:aL G K (aN 2 K a3 0 ([]:List Int)::aN 9 K m n j::L) e4)=>(pM (v:=zS a3 ([]:List Int).length 0) (aAf (aH (aAZ (pM (v:=i64 0) (aAf (bD (fun f w=>∃ (o:List Int) (x:Option Addr) (y:Nat),uE o=some R∧f 6=zS x o.length y∧aL G K (aN 2 K x y o::L) w) ?_ ?_)))))))))))
    ·rintro f h7 ⟨o,x,y,a,b9,e6⟩
     unfold uE at a
     refine aA (aAZ (aCv b9 (aCv b9 (aB (bQ (len:=o.length) bW rfl) (aB (aEo rfl rfl) (pM (v:=zS x o.length y) (pM (v:=zB (decide ((o.length:Int)≤2))) (aAf ?_))))))))
     cases zI a
     exact bF (tM Tryz.results212 rfl rfl ⟨x,y,rfl,e6⟩)
    obtain ⟨h8,e8,a⟩:=aI a
    refine cD e8 (fun (s:(List Int × Int)) f w=>match s with|(k,p)=>∃ (q:Option Addr) (r:Nat),f 5=zS m j.length n∧f 6=zS q k.length r∧f 7=i64 p∧aL G K (aN 2 K q r k::aN 9 K m n j::L) w) ?_ ?_
    ·exact ⟨a3,0,rfl,rfl,rfl,e5⟩
    ·rintro ⟨k,p⟩ c0 f h9 b c1 ⟨q,r,z,a4,J,V⟩
     replace b:qO j k p=some c0:=b
     unfold qO at b
     refine aH (aAZ (aCv J (aCv z (aB (bQ (len:=j.length) cY rfl) (aB (cJ rfl rfl) (aAf ?_))))))
     rcases aK b with ⟨a5,b⟩|⟨a5,b⟩
     ·refine aO a5 rfl (aW (aA (aH (cU (aAZ (aCv z (aCv J ?_)))))))
      obtain ⟨e9,a7,b⟩:=aI b
      have f0:=cG V (i:=1) rfl a7
      refine aB (dA cY rfl f0 rfl rfl rfl a7) (aB (kA (t:=0) pK V (i:=1) rfl a7 rfl rfl rfl) ?_)
      obtain ⟨d,f1,b⟩:=aI b
      refine aU (vs:=[cL e9]) Tryz.call273 rfl (aGM V f1) ?_
      rintro _ i0 ⟨rfl,c2⟩
      refine aBl (v:=Value.tuple #[i64 d.1,zB d.2]) (aB (bV rfl rfl) (aB (bV rfl rfl) (pM (v:=i64 d.1) (pM (v:=zB d.2) (aAf (aH (aH (cS (fun f w=>∃ (a8:Bool),uF k p d a8=some c0∧f 5=zS m j.length n∧f 6=zS q k.length r∧f 7=i64 p∧f 8=i64 d.1∧f 61=zB a8∧aL G K (aN 2 K q r k::aN 9 K m n j::L) w) ?_ ?_))))))))
      ·rintro f i1 ⟨a8,b,f2,f3,f4,f5,c3,c4⟩
       unfold uF at b
       refine aA ?_
       rcases aK b with ⟨a9,b⟩|⟨a9,b⟩
       ·refine aO a9 c3 (aAZ (pM (v:=zS none 0 0) (pM (v:=zB false) (aAf (bF (aS (bN (aS (aS ?_)))))))))
        have f6:=c1 _ (zI b).symm
        subst f6
        have a:(some ([],false))=some R:=a
        have f7:=aL.nil (α:=Int) c4 2 K
        cases zI a
        exact bN (aS (aS (tM Tryz.results212 rfl rfl ⟨none,0,rfl,(aL.arr 3 [0] f7 rfl)⟩)))
       ·refine aM a9 c3 (aW (aA (aC (aCv f3 (aCv f5 (dM (Kt:=K) (xs:=([d.1]:List Int)) (cs:=[i64 d.1]) (vs:=[(0,i64 d.1)]) bW tU rfl rfl c4 rfl (by kernel_rfl) rfl rfl rfl ⟨rfl,trivial⟩ (fun f9 g0 (g1:aL G K (aN 2 K f9 1 ([d.1]:List Int)::aN 2 K q r k::aN 9 K m n j::L) g0)=>?_)))))))
        obtain ⟨b0,g2,b⟩:=aI b
        exact iY (i:=0) bW Tryz.underlying38 tU rfl rfl g1 rfl (zR _) (zR _) g2 rfl rfl rfl rfl (fun _ h=>h) (fun b1 b2 g3 (g4:aL G K (aN 2 K b1 b2 b0::aN 9 K m n j::L) g3)=>(pM (v:=zS b1 b0.length b2) (aF (bG (aA (aC (aCv f4 (aB (cX rfl rfl) (pM (v:=i64 (wr (p+1))) (aAf ⟨(b0,wr (p+1)),(zI b).symm,b1,b2,f2,rfl,rfl,g4⟩))))))))))
      refine aC (aBl (v:=zB d.2) (aB (dY rfl) (aBl (v:=zB (!d.2)) ?_)))
      rcases aK b with ⟨l,b⟩|⟨l,b⟩
      ·exact bA l rfl rfl (bA l rfl rfl (bA l rfl rfl (aB (bI (v:=zB true) l rfl rfl) (aAf ⟨true,b,z,a4,J,rfl,rfl,c2⟩))))
      ·refine bM l rfl rfl (aBl (v:=i64 d.1) (bM l rfl rfl ?_))
       obtain ⟨c6,g5,b⟩:=aI b
       refine aU (vs:=[i64 d.1,i64 0,i64 63]) Tryz.call67 rfl (sA c2 g5) ?_
       rintro _ i2 ⟨rfl,g6⟩
       exact bM l rfl rfl (aB (dY rfl) (aB (bJ (v:=zB (!c6)) l rfl rfl) (aAf ⟨!c6,b,z,a4,J,rfl,rfl,g6⟩)))
     ·refine aM a5 rfl (cB (aY (aY ?_)))
      have g7:=c1 _ (zI b).symm
      subst g7
      have a:(uE k)=some R:=a
      exact bO (aA ⟨k,q,r,a,a4,(aL.arr 2 [0] V rfl)⟩)
  refine aC (aBl (v:=cL e) (aBl (v:=i64 u) ?_))
  obtain ⟨g8,g9,a⟩:=aI a
  refine aB (R_slSH Tryz.runUnderlying9 rfl rfl g9) ?_
  obtain ⟨h0,h1,a⟩:=aI a
  refine aU (vs:=[cL g8]) Tryz.call258 rfl (aDx b5 h1) ?_
  rintro _ i3 ⟨rfl,c7⟩
  refine aB (dY rfl) (aBl (v:=zB (!h0)) ?_)
  rcases aK a with ⟨c,a⟩|⟨c,a⟩
  ·exact bA c rfl rfl (bA c rfl rfl (bA c rfl rfl (bA c rfl rfl (bA c rfl rfl (bA c rfl rfl (aB (bI (v:=zB true) c rfl rfl) (aAf ⟨true,a,rfl,rfl,rfl,c7⟩)))))))
  ·refine bM c rfl rfl (aBl (v:=cL e) (bM c rfl rfl (aBl (v:=cL e) (bM c rfl rfl (aB (jE Tryz.runUnderlying9 rfl) (bM c rfl rfl (aB (jS rfl rfl) (bM c rfl rfl ?_))))))))
   obtain ⟨c8,h2,a⟩:=aI a
   exact aB (aCY Tryz.runUnderlying9 rfl rfl h2) (bM c rfl rfl (aB (oZ rfl rfl) (aB (bJ (v:=zB ((c8.toNat:Int) != 41)) c rfl rfl) (aAf ⟨(c8.toNat:Int) != 41,a,rfl,rfl,rfl,c7⟩))))
theorem aHA {b:aZ} {R:Bool} (g:aL G K (L) w) (c:aCb b=some R):
  Calls Tryz.prog 157 ([cL b]:List Value).toArray w (fV fun v w'=>v=zB R∧aL G K (L) w'):=by
 refine aT Tryz.func157 rfl (by kernel_rfl) (by show (1:Nat)≤11;decide) ?_
 unfold aCb at c
 refine aAZ (pM (v:=zB false) (aAf (aAZ (aBl (v:=cL b) ?_))))
 obtain ⟨a,h,c⟩:=aI c
 refine aU (vs:=[cL b]) Tryz.call212 rfl (aGN g h) ?_
 rintro _ k ⟨d,e,rfl,i⟩
 refine aBl (v:=Value.tuple #[zS d a.1.length e,zB a.2]) (aB (bV rfl rfl) (aB (bV rfl rfl) (pM (v:=zS d a.1.length e) (pM (v:=zB a.2) (aAf (aAZ (aBl (v:=zB a.2) (pM (v:=zB a.2) (aAf ?_)))))))))
 cases zI c
 exact bF (bC Tryz.results157 rfl ⟨rfl,(aL.arr 1 [] i rfl)⟩)
theorem aHB {e:(List aZ)} {R:Bool} (q:aL G K (L) w) (n:bT K a1 c2 e) (c:aCc e=some R):
  Calls Tryz.prog 68 ([zS a1 e.length c2]:List Value).toArray w (fV fun v w'=>v=zB R∧aL G K (L) w'):=by
 refine aT Tryz.func68 rfl (by kernel_rfl) (by show (1:Nat)≤53;decide) ?_
 unfold aCc at c
 refine aAZ (pM (v:=zB false) (aAf (aH (aH (cS (fun f w=>∃ (u:Bool),tD e u=some R∧f 0=zS a1 e.length c2∧f 17=zB u∧aL G K (L) w) ?_ ?_)))))
 ·rintro f w7 ⟨u,c,e5,e6,a2⟩
  unfold tD at c
  refine aA ?_
  rcases aK c with ⟨x,c⟩|⟨x,c⟩
  ·refine aO x e6 (aAZ (pM (v:=zB false) (aAf ?_)))
   cases zI c
   exact bF (aS (bC Tryz.results68 rfl ⟨rfl,a2⟩))
  ·refine aM x e6 (aW (aA (aH (aAZ (pM (v:=i64 1) (aAf (bD (fun f w=>aAx=some R∧aL G K (L) w) ?_ ?_)))))))
   ·rintro f d4 ⟨c,b3⟩
    unfold aAx at c
    refine aA (aAZ (pM (v:=zB true) (aAf ?_)))
    cases zI c
    exact bF (bC Tryz.results68 rfl ⟨rfl,b3⟩)
   obtain ⟨d5,b5,c⟩:=aI c
   refine cD b5 (fun (o:Int) f w=>f 0=zS a1 e.length c2∧f 3=i64 o∧aL G K (L) w) ?_ ?_
   ·exact ⟨e5,rfl,a2⟩
   ·rintro o a3 f d6 b a4 ⟨l,k,a⟩
    replace b:tC e o=some a3:=b
    unfold tC at b
    refine aH (aAZ (aCv k (aCv l (aB (bQ (len:=e.length) cY rfl) (aB (cJ rfl rfl) (aAf ?_))))))
    rcases aK b with ⟨y,b⟩|⟨y,b⟩
    ·refine aO y rfl (aW (aA (aH (cU (aH (cS (fun f w=>∃ (z:Bool),pO o z=some a3∧f 0=zS a1 e.length c2∧f 3=i64 o∧f 52=zB z∧aL G K (L) w) ?_ ?_))))))
     ·rintro f d7 ⟨z,b,b6,b7,a5,a6⟩
      unfold pO at b
      refine aA ?_
      rcases aK b with ⟨J,b⟩|⟨J,b⟩
      ·refine aO J a5 (aAZ (pM (v:=zB false) (aAf (bF (bN (aS (aS ?_)))))))
       have b8:=a4 _ (zI b).symm
       subst b8
       have c:(some false)=some R:=c
       cases zI c
       exact bN (aS (aS (bC Tryz.results68 rfl ⟨rfl,a6⟩)))
      ·exact aM J a5 (aW (bG (aA (aC (aCv b7 (aB (cX rfl rfl) (pM (v:=i64 (wr (o+1))) (aAf ⟨wr (o+1),(zI b).symm,b6,rfl,a6⟩))))))))
     refine cT (C:=fun w'=>aL G K (L) w') bK (by kernel_rfl) (aL.mono a (dE.drew _)) (aQ (fun _ a=>aD l) (aQ (fun _ a=>aD k) ?_))
     obtain ⟨p,r,b⟩:=aI b
     refine aQ (fun _ a=>cO cY rfl n rfl rfl rfl r) ?_
     obtain ⟨d8,V,c0⟩:=bT.el (sz:=1) rfl n r
     cases c0
     refine aQ (fun _ a=>bH (t:=0) pK a V rfl rfl) ?_
     obtain ⟨a7,c1,b⟩:=aI b
     refine iR (vs:=[cL p]) (v:=zB a7) Tryz.call157 rfl (fun _ a=>(aHA a c1)) (aQ (fun _ a=>dY rfl) (aQ (fun _ a=>aD (v:=zB (!a7)) rfl) ?_))
     rcases aK b with ⟨h,b⟩|⟨h,b⟩
     ·refine aX (g:=30) rfl rfl (bZ h) (aX (g:=30) rfl rfl (bZ h) (aX (g:=30) rfl rfl (bZ h) (aX (g:=30) rfl rfl (bZ h) (aX (g:=30) rfl rfl (bZ h) (aQ (fun _ a=>bI (v:=zB true) h rfl rfl) (aQ (fun _ a=>aD (v:=zB true) rfl) (aX (g:=37) rfl rfl (bZ (rfl:true=true)) (aX (g:=37) rfl rfl (bZ (rfl:true=true)) (aX (g:=37) rfl rfl (bZ (rfl:true=true)) (bL (g:=40) rfl rfl (bL (g:=40) rfl rfl (bL (g:=40) rfl rfl (bL (g:=40) rfl rfl (bL (g:=40) rfl rfl (bL (g:=40) rfl rfl (bL (g:=40) rfl rfl (bL (g:=40) rfl rfl (bL (g:=40) rfl rfl (bL (g:=40) rfl rfl (aX (g:=37) rfl rfl (bZ (rfl:true=true)) (aQ (fun _ a=>bI (v:=zB true) (rfl:true=true) rfl rfl) (dC (fun d9 c3=>?_)))))))))))))))))))))))
      exact aA ⟨true,b,l,k,rfl,c3⟩
     ·refine bP (g:=30) rfl rfl (bX h) (aQ (fun _ a=>aD l) (bP (g:=30) rfl rfl (bX h) (aQ (fun _ a=>aD k) (bP (g:=30) rfl rfl (bX h) (aQ (fun _ a=>cO cY rfl n rfl rfl rfl r) (bP (g:=30) rfl rfl (bX h) (aQ (fun _ a=>bH (t:=0) pK a V rfl rfl) (bP (g:=30) rfl rfl (bX h) (aQ (fun _ a=>aBb rfl rfl) (aQ (fun _ a=>bJ (v:=zB (p == ([116,97,117]:aZ))) h rfl rfl) (aQ (fun _ a=>aD (v:=zB (p == ([116,97,117]:aZ))) rfl) ?_)))))))))))
      rcases aK b with ⟨i,b⟩|⟨i,b⟩
      ·exact aX (g:=37) rfl rfl (bZ i) (aX (g:=37) rfl rfl (bZ i) (aX (g:=37) rfl rfl (bZ i) (bL (g:=40) rfl rfl (bL (g:=40) rfl rfl (bL (g:=40) rfl rfl (bL (g:=40) rfl rfl (bL (g:=40) rfl rfl (bL (g:=40) rfl rfl (bL (g:=40) rfl rfl (bL (g:=40) rfl rfl (bL (g:=40) rfl rfl (bL (g:=40) rfl rfl (aX (g:=37) rfl rfl (bZ i) (aQ (fun _ a=>bI (v:=zB true) i rfl rfl) (dC (fun e0 c4=>(aA ⟨true,b,l,k,rfl,c4⟩)))))))))))))))))
      ·refine bP (g:=37) rfl rfl (bX i) (aQ (fun _ a=>aD k) (bP (g:=37) rfl rfl (bX i) (aQ (fun _ a=>mL rfl rfl) (bP (g:=37) rfl rfl (bX i) (aQ (fun _ a=>aD (v:=zB (decide (1 < o))) rfl) ?_)))))
       rcases aK b with ⟨d,b⟩|⟨d,b⟩
       ·refine bP (g:=40) rfl rfl d (aQ (fun _ a=>aD l) (bP (g:=40) rfl rfl d (aQ (fun _ a=>aD k) (bP (g:=40) rfl rfl d (aQ (fun _ a=>jS rfl rfl) (bP (g:=40) rfl rfl d ?_))))))
        obtain ⟨Z,a8,b⟩:=aI b
        refine aQ (fun _ a=>cO cY rfl n rfl rfl rfl a8) ?_
        obtain ⟨e1,c5,c6⟩:=bT.el (sz:=1) rfl n a8
        cases c6
        exact bP (g:=40) rfl rfl d (aQ (fun _ a=>bH (t:=0) pK a c5 rfl rfl) (bP (g:=40) rfl rfl d (aQ (fun _ a=>aD l) (bP (g:=40) rfl rfl d (aQ (fun _ a=>aD k) (bP (g:=40) rfl rfl d (aQ (fun _ a=>cO cY rfl n rfl rfl rfl r) (bP (g:=40) rfl rfl d (aQ (fun _ a=>bH (t:=0) pK a V rfl rfl) (bP (g:=40) rfl rfl d (aQ (fun _ a=>R_geqS rfl rfl) (bP (g:=37) rfl rfl (bX i) (aQ (fun _ a=>bI (v:=zB (!wQ Z p)) d rfl rfl) (aQ (fun _ a=>bJ (v:=zB (!wQ Z p)) i rfl rfl) (dC (fun e2 c7=>(aA ⟨!wQ Z p,b,l,k,rfl,c7⟩)))))))))))))))))
       ·exact aX (g:=40) rfl rfl (bU d) (aX (g:=40) rfl rfl (bU d) (aX (g:=40) rfl rfl (bU d) (aX (g:=40) rfl rfl (bU d) (aX (g:=40) rfl rfl (bU d) (aX (g:=40) rfl rfl (bU d) (aX (g:=40) rfl rfl (bU d) (aX (g:=40) rfl rfl (bU d) (aX (g:=40) rfl rfl (bU d) (aX (g:=40) rfl rfl (bU d) (bP (g:=37) rfl rfl (bX i) (aQ (fun _ a=>bJ (v:=zB false) d rfl rfl) (aQ (fun _ a=>bJ (v:=zB false) i rfl rfl) (dC (fun e3 c8=>(aA ⟨false,b,l,k,rfl,c8⟩)))))))))))))))
    ·refine aM y rfl (cB (aY (aY ?_)))
     have d0:=a4 _ (zI b).symm
     subst d0
     have c:(aAx)=some R:=c
     exact bO (aA ⟨c,a⟩)
 refine aC (aBl (v:=zS a1 e.length c2) (aB (bQ (len:=e.length) cY rfl) (aB (oY rfl rfl) (aBl (v:=zB ((e.length:Int) == 0)) ?_))))
 rcases aK c with ⟨m,c⟩|⟨m,c⟩
 ·exact bA m rfl rfl (bA m rfl rfl (bA m rfl rfl (aB (bI (v:=zB true) m rfl rfl) (aBl (v:=zB true) (bA (rfl:true=true) rfl rfl (bA (rfl:true=true) rfl rfl (bA (rfl:true=true) rfl rfl (bA (rfl:true=true) rfl rfl (aB (bI (v:=zB true) (rfl:true=true) rfl rfl) (aAf ⟨true,c,rfl,rfl,q⟩))))))))))
 ·refine bM m rfl rfl (aBl (v:=zS a1 e.length c2) (bM m rfl rfl (aB (bQ (len:=e.length) cY rfl) (bM m rfl rfl (aB (mL rfl rfl) (aB (bJ (v:=zB (decide (12 < (e.length:Int)))) m rfl rfl) (aBl (v:=zB (decide (12 < (e.length:Int)))) ?_)))))))
  rcases aK c with ⟨j,c⟩|⟨j,c⟩
  ·exact bA j rfl rfl (bA j rfl rfl (bA j rfl rfl (bA j rfl rfl (aB (bI (v:=zB true) j rfl rfl) (aAf ⟨true,c,rfl,rfl,q⟩)))))
  ·refine bM j rfl rfl (aBl (v:=zS a1 e.length c2) (bM j rfl rfl ?_))
   obtain ⟨a9,b0,c⟩:=aI c
   refine aB (cO cY rfl n rfl rfl rfl b0) ?_
   obtain ⟨e4,d1,d2⟩:=bT.el (sz:=1) rfl n b0
   cases d2
   exact bM j rfl rfl (aB (bH (t:=0) pK q d1 rfl rfl) (bM j rfl rfl (aB (aEp rfl rfl) (aB (bJ (v:=zB (!(a9 == ([116,97,117]:aZ)))) j rfl rfl) (aAf ⟨!(a9 == ([116,97,117]:aZ)),c,rfl,rfl,q⟩)))))
theorem aEK {a:Edge} {h:Nat} {b:Edge} {i:Nat} {R:Bool} (j:aL G K (L) w) (e:fW K a1 h [i64 a.F,i64 a.B,i64 a.To]) (g:fW K a4 i [i64 b.F,i64 b.B,i64 b.To]) (k:aBK a b=some R):
  Calls Tryz.prog 69 ([bY a1 h,bY a4 i]:List Value).toArray w (fV fun v w'=>v=zB R∧aL G K (L) w'):=by
 refine aT Tryz.func69 rfl (by kernel_rfl) (by show (2:Nat)≤50;decide) ?_
 unfold aBK at k
 refine aAZ (pM (v:=zB false) (aAf (aH (aH (cT (C:=fun w'=>aL G K (L) w') bK (by kernel_rfl) (aL.mono j (dE.drew _)) (aQ (fun _ j=>aD (v:=bY a1 h) rfl) (aQ (fun _ j=>dG rfl e) (aQ (fun _ j=>cH (k':=h+0) fY rfl e rfl) (aQ (fun _ j=>bH (t:=0) cP j e rfl rfl) (aQ (fun _ j=>aD (v:=bY a4 i) rfl) (aQ (fun _ j=>dG rfl g) (aQ (fun _ j=>cH (k':=i+0) fY rfl g rfl) (aQ (fun _ j=>bH (t:=0) cP j g rfl rfl) (aQ (fun _ j=>oZ rfl rfl) (dC (fun x d=>(aA ?_)))))))))))))))))
 rcases aK k with ⟨l,k⟩|⟨l,k⟩
 ·refine aO l rfl (aH (cT (C:=fun w'=>aL G K (L) w') bK (by kernel_rfl) (aL.mono d (dE.drew _)) (aQ (fun _ d=>aD (v:=bY a1 h) rfl) (aQ (fun _ d=>dG rfl e) (aQ (fun _ d=>cH (k':=h+0) fY rfl e rfl) (aQ (fun _ d=>bH (t:=0) cP d e rfl rfl) (aQ (fun _ d=>aD (v:=bY a4 i) rfl) (aQ (fun _ d=>dG rfl g) (aQ (fun _ d=>cH (k':=i+0) fY rfl g rfl) (aQ (fun _ d=>bH (t:=0) cP d g rfl rfl) (aQ (fun _ d=>cJ rfl rfl) (aQ (fun _ d=>aG (v:=zB (decide (a.F < b.F))) rfl) (dC (fun y n=>(aA ?_)))))))))))))))
  cases zI k
  exact bF (aS (bC Tryz.results69 rfl ⟨rfl,n⟩))
 ·refine aM l rfl (aW (aA (aH (aH (cT (C:=fun w'=>aL G K (L) w') bK (by kernel_rfl) (aL.mono d (dE.drew _)) (aQ (fun _ d=>aD (v:=bY a1 h) rfl) (aQ (fun _ d=>dG rfl e) (aQ (fun _ d=>cH (k':=h+1) fP rfl e rfl) (aQ (fun _ d=>bH (t:=1) cP d e rfl rfl) (aQ (fun _ d=>aD (v:=bY a4 i) rfl) (aQ (fun _ d=>dG rfl g) (aQ (fun _ d=>cH (k':=i+1) fP rfl g rfl) (aQ (fun _ d=>bH (t:=1) cP d g rfl rfl) (aQ (fun _ d=>oZ rfl rfl) (dC (fun z c=>(aA ?_)))))))))))))))))
  rcases aK k with ⟨m,k⟩|⟨m,k⟩
  ·refine aO m rfl (aH (cT (C:=fun w'=>aL G K (L) w') bK (by kernel_rfl) (aL.mono c (dE.drew _)) (aQ (fun _ c=>aD (v:=bY a1 h) rfl) (aQ (fun _ c=>dG rfl e) (aQ (fun _ c=>cH (k':=h+1) fP rfl e rfl) (aQ (fun _ c=>bH (t:=1) cP c e rfl rfl) (aQ (fun _ c=>aD (v:=bY a4 i) rfl) (aQ (fun _ c=>dG rfl g) (aQ (fun _ c=>cH (k':=i+1) fP rfl g rfl) (aQ (fun _ c=>bH (t:=1) cP c g rfl rfl) (aQ (fun _ c=>cJ rfl rfl) (aQ (fun _ c=>aG (v:=zB (decide (a.B < b.B))) rfl) (dC (fun J p=>(aA ?_)))))))))))))))
   cases zI k
   exact bF (aS (bC Tryz.results69 rfl ⟨rfl,p⟩))
  ·refine aM m rfl (aW (aA (aH (cT (C:=fun w'=>aL G K (L) w') bK (by kernel_rfl) (aL.mono c (dE.drew _)) (aQ (fun _ c=>aD (v:=bY a1 h) rfl) (aQ (fun _ c=>dG rfl e) (aQ (fun _ c=>cH (k':=h+2) iB rfl e rfl) (aQ (fun _ c=>bH (t:=2) cP c e rfl rfl) (aQ (fun _ c=>aD (v:=bY a4 i) rfl) (aQ (fun _ c=>dG rfl g) (aQ (fun _ c=>cH (k':=i+2) iB rfl g rfl) (aQ (fun _ c=>bH (t:=2) cP c g rfl rfl) (aQ (fun _ c=>cJ rfl rfl) (aQ (fun _ c=>aG (v:=zB (decide (a.To < b.To))) rfl) (dC (fun V r=>(aA ?_)))))))))))))))))
   cases zI k
   exact bF (bC Tryz.results69 rfl ⟨rfl,r⟩)
theorem aKR {t:dB} {k:Nat} {R:Bool} (a:aL G K (L) w) (e:fW K a1 k (zC t a4 c5 a7 c8)) (h6:bT K a4 c5 t.L) (z:bT K a7 c8 t.E) (d:aGi t=some R):
  Calls Tryz.prog 23 ([bY a1 k]:List Value).toArray w (fV fun v w'=>v=zB R∧aL G K (L) w'):=by
 refine aT Tryz.func23 rfl (by kernel_rfl) (by show (1:Nat)≤101;decide) ?_
 unfold aGi at d
 refine aAZ (pM (v:=zB false) (aAf (aH (aH (cS (fun f w=>∃ (Z:Bool),xB t Z=some R∧f 0=bY a1 k∧f 39=zB Z∧aL G K (L) w) ?_ ?_)))))
 ·rintro f g8 ⟨Z,d,c9,b6,b7⟩
  unfold xB at d
  refine aA ?_
  rcases aK d with ⟨a0,d⟩|⟨a0,d⟩
  ·refine aO a0 b6 (aAZ (pM (v:=zB false) (aAf ?_)))
   cases zI d
   exact bF (aS (bC Tryz.results23 rfl ⟨rfl,b7⟩))
  ·refine aM a0 b6 (aW (aA (aH (aAZ (pM (v:=i64 0) (aAf (bD (fun f w=>aDR=some R∧aL G K (L) w) ?_ ?_)))))))
   ·rintro f g9 ⟨d,d1⟩
    unfold aDR at d
    refine aA (aAZ (pM (v:=zB true) (aAf ?_)))
    cases zI d
    exact bF (bC Tryz.results23 rfl ⟨rfl,d1⟩)
   obtain ⟨h0,d3,d⟩:=aI d
   refine cD d3 (fun (q:Int) f w=>f 0=bY a1 k∧f 3=i64 q∧aL G K (L) w) ?_ ?_
   ·exact ⟨c9,rfl,b7⟩
   ·rintro q a2 f h1 b a3 ⟨r,u,x⟩
    replace b:aAj t q=some a2:=b
    unfold aAj at b
    refine aH (aAZ (aCv u (aCv r (aB (dG rfl e) (aB (cH (k':=k+3) dO rfl e rfl) (aB (bH (t:=3) hX x e rfl rfl) (aB (bQ (len:=t.E.length) cR rfl) (aB (cJ rfl rfl) (aAf ?_)))))))))
    rcases aK b with ⟨a5,b⟩|⟨a5,b⟩
    ·refine aO a5 rfl (aW (aA (aH (cU (aAZ (aCv r (aB (dG rfl e) (aB (cH (k':=k+3) dO rfl e rfl) (aB (bH (t:=3) hX x e rfl rfl) (aCv u ?_))))))))))
     obtain ⟨l,b8,b⟩:=aI b
     refine aB (cO cR rfl z rfl rfl rfl b8) ?_
     obtain ⟨h2,d4,d5⟩:=bT.el (sz:=3) rfl z b8
     cases d5
     refine aB (gO (t:=0) (vs:=[i64 l.F,i64 l.B,i64 l.To]) mB x d4 rfl rfl rfl) (cF (vs:=[i64 0,i64 0,i64 0]) Tryz.zeroValue63 x rfl (fun y h4 d6=>(cC (i:=0) (ns:=[i64 l.F,i64 l.B,i64 l.To]) (us:=[i64 l.F,i64 l.B,i64 l.To]) Tryz.sizeOf63 d6 rfl rfl rfl rfl rfl (dL rfl) rfl rfl (fun d7 (c:aL G K (box y 63 [i64 l.F,i64 l.B,i64 l.To]::L) d7)=>(aAf (aH (aH (cS (fun f w=>∃ (a6:Bool),aAi t q l a6=some a2∧f 0=bY a1 k∧f 3=i64 q∧f 4=zP (some ⟨y,0,none⟩)∧f 87=zB a6∧aL G K (box y 63 [i64 l.F,i64 l.B,i64 l.To]::L) w) ?_ ?_))))))))
     ·rintro f h5 ⟨a6,b,a8,J,d8,b9,V⟩
      unfold aAi at b
      refine aA ?_
      rcases aK b with ⟨a9,b⟩|⟨a9,b⟩
      ·refine aO a9 b9 (aAZ (pM (v:=zB false) (aAf (bF (aS (bN (aS (aS ?_))))))))
       have d9:=a3 _ (zI b).symm
       subst d9
       have d:(some false)=some R:=d
       cases zI d
       exact bN (aS (aS (bC Tryz.results23 rfl ⟨rfl,(aL.arr 1 [] V rfl)⟩)))
      ·refine aM a9 b9 (aW (aA (aH (cS (fun f w=>∃ (b0:Bool),aCd q b0=some a2∧f 0=bY a1 k∧f 3=i64 q∧f 100=zB b0∧aL G K (L) w) ?_ ?_))))
       ·rintro f h7 ⟨b0,b,e1,e2,c0,c1⟩
        unfold aCd at b
        refine aA ?_
        rcases aK b with ⟨b1,b⟩|⟨b1,b⟩
        ·refine aO b1 c0 (aAZ (pM (v:=zB false) (aAf (bF (bN (aS (aS ?_)))))))
         have e3:=a3 _ (zI b).symm
         subst e3
         have d:(some false)=some R:=d
         cases zI d
         exact bN (aS (aS (bC Tryz.results23 rfl ⟨rfl,c1⟩)))
        ·exact aM b1 c0 (aW (bG (aA (aC (aCv e2 (aB (cX rfl rfl) (pM (v:=i64 (wr (q+1))) (aAf ⟨wr (q+1),(zI b).symm,e1,rfl,c1⟩))))))))
       refine aC (aCv J (aB (mL rfl rfl) (aBl (v:=zB (decide (0 < q))) ?_)))
       rcases aK b with ⟨m,b⟩|⟨m,b⟩
       ·refine bE m rfl rfl (aCv a8 (bE m rfl rfl (aB (dG rfl e) (bE m rfl rfl (aB (cH (k':=k+3) dO rfl e rfl) (bE m rfl rfl (aB (bH (t:=3) hX V e rfl rfl) (bE m rfl rfl (aCv J (bE m rfl rfl (aB (jS rfl rfl) (bE m rfl rfl ?_))))))))))))
        obtain ⟨h8,c2,b⟩:=aI b
        refine aB (cO cR rfl z rfl rfl rfl c2) ?_
        obtain ⟨i0,e5,e6⟩:=bT.el (sz:=3) rfl z c2
        cases e6
        refine bE m rfl rfl ?_
        obtain ⟨i1,e7,e8,e9,f0⟩:=aL.lendB (i:=0) V rfl
        obtain ⟨c3,f1,b⟩:=aI b
        refine aU (vs:=[bY a7 ((wr (q - 1)).toNat * 3+0),bY (some ⟨y,0,none⟩) 0]) Tryz.call69 (lst2 rfl d8) (aEK e9 (e5.mono e7) e8 f1) ?_
        rintro _ i2 ⟨rfl,f2⟩
        have f3:=f0 _ _ f2
        exact bE m rfl rfl (aB (dY rfl) (aB (bI (v:=zB (!c3)) m rfl rfl) (aAf ⟨!c3,b,a8,J,rfl,(aL.arr 1 [] f3 rfl)⟩)))
       ·exact aV m rfl rfl (aV m rfl rfl (aV m rfl rfl (aV m rfl rfl (aV m rfl rfl (aV m rfl rfl (aV m rfl rfl (aV m rfl rfl (aV m rfl rfl (aB (bJ (v:=zB false) m rfl rfl) (aAf ⟨false,b,a8,J,rfl,(aL.arr 1 [] V rfl)⟩))))))))))
     refine cT (C:=fun w'=>aL G K (box y 63 [i64 l.F,i64 l.B,i64 l.To]::L) w') bK (by kernel_rfl) (aL.mono c (dE.drew _)) (aQ (fun _ c=>bB (t':=0) fY rfl rfl) (aQ (fun _ c=>bR cP c (i:=0) rfl rfl rfl) (aQ (fun _ c=>aD r) (aQ (fun _ c=>dG rfl e) (aQ (fun _ c=>cH (k':=k+0) tP rfl e rfl) (aQ (fun _ c=>bH (t:=0) cP c e rfl rfl) (aQ (fun _ c=>jS rfl rfl) ?_)))))))
     obtain ⟨c4,f4,b⟩:=aI b
     refine iR (vs:=[i64 l.F,i64 0,i64 (wr (t.N - 1))]) (v:=zB c4) Tryz.call67 rfl (fun _ c=>(sA c f4)) (aQ (fun _ c=>dY rfl) (aQ (fun _ c=>aD (v:=zB (!c4)) rfl) ?_))
     rcases aK b with ⟨n,b⟩|⟨n,b⟩
     ·refine aX (g:=65) rfl rfl (bZ n) (aX (g:=65) rfl rfl (bZ n) (aX (g:=65) rfl rfl (bZ n) (aX (g:=65) rfl rfl (bZ n) (aX (g:=65) rfl rfl (bZ n) (aX (g:=65) rfl rfl (bZ n) (aX (g:=65) rfl rfl (bZ n) (aX (g:=65) rfl rfl (bZ n) (aX (g:=65) rfl rfl (bZ n) (aQ (fun _ c=>bI (v:=zB true) n rfl rfl) (aQ (fun _ c=>aD (v:=zB true) rfl) (aX (g:=76) rfl rfl (bZ (rfl:true=true)) (aX (g:=76) rfl rfl (bZ (rfl:true=true)) (aX (g:=76) rfl rfl (bZ (rfl:true=true)) (aX (g:=76) rfl rfl (bZ (rfl:true=true)) (aX (g:=76) rfl rfl (bZ (rfl:true=true)) (aX (g:=76) rfl rfl (bZ (rfl:true=true)) (aX (g:=76) rfl rfl (bZ (rfl:true=true)) (aX (g:=76) rfl rfl (bZ (rfl:true=true)) (aX (g:=76) rfl rfl (bZ (rfl:true=true)) (aX (g:=76) rfl rfl (bZ (rfl:true=true)) (aQ (fun _ c=>bI (v:=zB true) (rfl:true=true) rfl rfl) (dC (fun i3 f5=>?_)))))))))))))))))))))))
      exact aA ⟨true,b,r,u,rfl,rfl,f5⟩
     ·refine bP (g:=65) rfl rfl (bX n) (aQ (fun _ c=>bB (t':=2) iB rfl rfl) (bP (g:=65) rfl rfl (bX n) (aQ (fun _ c=>bR cP c (i:=0) rfl rfl rfl) (bP (g:=65) rfl rfl (bX n) (aQ (fun _ c=>aD r) (bP (g:=65) rfl rfl (bX n) (aQ (fun _ c=>dG rfl e) (bP (g:=65) rfl rfl (bX n) (aQ (fun _ c=>cH (k':=k+0) tP rfl e rfl) (bP (g:=65) rfl rfl (bX n) (aQ (fun _ c=>bH (t:=0) cP c e rfl rfl) (bP (g:=65) rfl rfl (bX n) (aQ (fun _ c=>jS rfl rfl) (bP (g:=65) rfl rfl (bX n) ?_))))))))))))))
      obtain ⟨b2,f6,b⟩:=aI b
      refine iR (vs:=[i64 l.To,i64 0,i64 (wr (t.N - 1))]) (v:=zB b2) Tryz.call67 rfl (fun _ c=>(sA c f6)) (bP (g:=65) rfl rfl (bX n) (aQ (fun _ c=>dY rfl) (aQ (fun _ c=>bJ (v:=zB (!b2)) n rfl rfl) (aQ (fun _ c=>aD (v:=zB (!b2)) rfl) ?_))))
      rcases aK b with ⟨j,b⟩|⟨j,b⟩
      ·exact aX (g:=76) rfl rfl (bZ j) (aX (g:=76) rfl rfl (bZ j) (aX (g:=76) rfl rfl (bZ j) (aX (g:=76) rfl rfl (bZ j) (aX (g:=76) rfl rfl (bZ j) (aX (g:=76) rfl rfl (bZ j) (aX (g:=76) rfl rfl (bZ j) (aX (g:=76) rfl rfl (bZ j) (aX (g:=76) rfl rfl (bZ j) (aX (g:=76) rfl rfl (bZ j) (aQ (fun _ c=>bI (v:=zB true) j rfl rfl) (dC (fun i4 f7=>(aA ⟨true,b,r,u,rfl,rfl,f7⟩)))))))))))))
      ·refine bP (g:=76) rfl rfl (bX j) (aQ (fun _ c=>bB (t':=1) fP rfl rfl) (bP (g:=76) rfl rfl (bX j) (aQ (fun _ c=>bR cP c (i:=0) rfl rfl rfl) (bP (g:=76) rfl rfl (bX j) (aQ (fun _ c=>aD r) (bP (g:=76) rfl rfl (bX j) (aQ (fun _ c=>dG rfl e) (bP (g:=76) rfl rfl (bX j) (aQ (fun _ c=>cH (k':=k+2) gL rfl e rfl) (bP (g:=76) rfl rfl (bX j) (aQ (fun _ c=>bH (t:=2) jJ c e rfl rfl) (bP (g:=76) rfl rfl (bX j) (aQ (fun _ c=>bQ (len:=t.L.length) cY rfl) (bP (g:=76) rfl rfl (bX j) (aQ (fun _ c=>jS rfl rfl) (bP (g:=76) rfl rfl (bX j) ?_))))))))))))))))
       obtain ⟨b3,f8,b⟩:=aI b
       exact iR (vs:=[i64 l.B,i64 0,i64 (wr ((t.L.length:Int) - 1))]) (v:=zB b3) Tryz.call67 rfl (fun _ c=>(sA c f8)) (bP (g:=76) rfl rfl (bX j) (aQ (fun _ c=>dY rfl) (aQ (fun _ c=>bJ (v:=zB (!b3)) j rfl rfl) (dC (fun i5 f9=>(aA ⟨!b3,b,r,u,rfl,rfl,f9⟩))))))
    ·refine aM a5 rfl (cB (aY (aY ?_)))
     have g0:=a3 _ (zI b).symm
     subst g0
     have d:(aDR)=some R:=d
     exact bO (aA ⟨d,x⟩)
 refine cT (C:=fun w'=>aL G K (L) w') bK (by kernel_rfl) (aL.mono a (dE.drew _)) (aQ (fun _ a=>aD (v:=bY a1 k) rfl) (aQ (fun _ a=>dG rfl e) (aQ (fun _ a=>cH (k':=k+0) tP rfl e rfl) (aQ (fun _ a=>bH (t:=0) cP a e rfl rfl) ?_))))
 obtain ⟨c6,g1,d⟩:=aI d
 refine iR (vs:=[i64 t.N,i64 1,i64 40]) (v:=zB c6) Tryz.call67 rfl (fun _ a=>(sA a g1)) (aQ (fun _ a=>dY rfl) (aQ (fun _ a=>aD (v:=zB (!c6)) rfl) ?_))
 rcases aK d with ⟨h,d⟩|⟨h,d⟩
 ·refine aX (g:=11) rfl rfl (bZ h) (aX (g:=11) rfl rfl (bZ h) (aX (g:=11) rfl rfl (bZ h) (aX (g:=11) rfl rfl (bZ h) (aX (g:=11) rfl rfl (bZ h) (aX (g:=11) rfl rfl (bZ h) (aX (g:=11) rfl rfl (bZ h) (aX (g:=11) rfl rfl (bZ h) (aX (g:=11) rfl rfl (bZ h) (aX (g:=11) rfl rfl (bZ h) (aX (g:=11) rfl rfl (bZ h) (aQ (fun _ a=>bI (v:=zB true) h rfl rfl) (aQ (fun _ a=>aD (v:=zB true) rfl) (aX (g:=24) rfl rfl (bZ (rfl:true=true)) (aX (g:=24) rfl rfl (bZ (rfl:true=true)) (aX (g:=24) rfl rfl (bZ (rfl:true=true)) (aX (g:=24) rfl rfl (bZ (rfl:true=true)) (aX (g:=24) rfl rfl (bZ (rfl:true=true)) (aX (g:=24) rfl rfl (bZ (rfl:true=true)) (aQ (fun _ a=>bI (v:=zB true) (rfl:true=true) rfl rfl) (aQ (fun _ a=>aD (v:=zB true) rfl) (aX (g:=32) rfl rfl (bZ (rfl:true=true)) (aX (g:=32) rfl rfl (bZ (rfl:true=true)) (aX (g:=32) rfl rfl (bZ (rfl:true=true)) ?_)))))))))))))))))))))))
  exact aX (g:=32) rfl rfl (bZ (rfl:true=true)) (aX (g:=32) rfl rfl (bZ (rfl:true=true)) (aX (g:=32) rfl rfl (bZ (rfl:true=true)) (aQ (fun _ a=>bI (v:=zB true) (rfl:true=true) rfl rfl) (dC (fun i6 g2=>(aA ⟨true,d,rfl,rfl,g2⟩))))))
 ·refine bP (g:=11) rfl rfl (bX h) (aQ (fun _ a=>aD (v:=bY a1 k) rfl) (bP (g:=11) rfl rfl (bX h) (aQ (fun _ a=>dG rfl e) (bP (g:=11) rfl rfl (bX h) (aQ (fun _ a=>cH (k':=k+1) rM rfl e rfl) (bP (g:=11) rfl rfl (bX h) (aQ (fun _ a=>bH (t:=1) cP a e rfl rfl) (bP (g:=11) rfl rfl (bX h) (aQ (fun _ a=>aD (v:=bY a1 k) rfl) (bP (g:=11) rfl rfl (bX h) (aQ (fun _ a=>dG rfl e) (bP (g:=11) rfl rfl (bX h) (aQ (fun _ a=>cH (k':=k+0) tP rfl e rfl) (bP (g:=11) rfl rfl (bX h) (aQ (fun _ a=>bH (t:=0) cP a e rfl rfl) (bP (g:=11) rfl rfl (bX h) (aQ (fun _ a=>jS rfl rfl) (bP (g:=11) rfl rfl (bX h) ?_))))))))))))))))))
  obtain ⟨b4,g3,d⟩:=aI d
  refine iR (vs:=[i64 t.I,i64 0,i64 (wr (t.N - 1))]) (v:=zB b4) Tryz.call67 rfl (fun _ a=>(sA a g3)) (bP (g:=11) rfl rfl (bX h) (aQ (fun _ a=>dY rfl) (aQ (fun _ a=>bJ (v:=zB (!b4)) h rfl rfl) (aQ (fun _ a=>aD (v:=zB (!b4)) rfl) ?_))))
  rcases aK d with ⟨o,d⟩|⟨o,d⟩
  ·exact aX (g:=24) rfl rfl (bZ o) (aX (g:=24) rfl rfl (bZ o) (aX (g:=24) rfl rfl (bZ o) (aX (g:=24) rfl rfl (bZ o) (aX (g:=24) rfl rfl (bZ o) (aX (g:=24) rfl rfl (bZ o) (aQ (fun _ a=>bI (v:=zB true) o rfl rfl) (aQ (fun _ a=>aD (v:=zB true) rfl) (aX (g:=32) rfl rfl (bZ (rfl:true=true)) (aX (g:=32) rfl rfl (bZ (rfl:true=true)) (aX (g:=32) rfl rfl (bZ (rfl:true=true)) (aX (g:=32) rfl rfl (bZ (rfl:true=true)) (aX (g:=32) rfl rfl (bZ (rfl:true=true)) (aX (g:=32) rfl rfl (bZ (rfl:true=true)) (aQ (fun _ a=>bI (v:=zB true) (rfl:true=true) rfl rfl) (dC (fun i7 g4=>(aA ⟨true,d,rfl,rfl,g4⟩)))))))))))))))))
  ·refine bP (g:=24) rfl rfl (bX o) (aQ (fun _ a=>aD (v:=bY a1 k) rfl) (bP (g:=24) rfl rfl (bX o) (aQ (fun _ a=>dG rfl e) (bP (g:=24) rfl rfl (bX o) (aQ (fun _ a=>cH (k':=k+2) gL rfl e rfl) (bP (g:=24) rfl rfl (bX o) (aQ (fun _ a=>bH (t:=2) jJ a e rfl rfl) (bP (g:=24) rfl rfl (bX o) ?_))))))))
   obtain ⟨b5,g5,d⟩:=aI d
   refine iR (vs:=[zS a4 t.L.length c5]) (v:=zB b5) Tryz.call68 rfl (fun _ a=>(aHB a h6 g5)) (bP (g:=24) rfl rfl (bX o) (aQ (fun _ a=>dY rfl) (aQ (fun _ a=>bJ (v:=zB (!b5)) o rfl rfl) (aQ (fun _ a=>aD (v:=zB (!b5)) rfl) ?_))))
   rcases aK d with ⟨p,d⟩|⟨p,d⟩
   ·exact aX (g:=32) rfl rfl (bZ p) (aX (g:=32) rfl rfl (bZ p) (aX (g:=32) rfl rfl (bZ p) (aX (g:=32) rfl rfl (bZ p) (aX (g:=32) rfl rfl (bZ p) (aX (g:=32) rfl rfl (bZ p) (aQ (fun _ a=>bI (v:=zB true) p rfl rfl) (dC (fun i8 g6=>(aA ⟨true,d,rfl,rfl,g6⟩)))))))))
   ·exact bP (g:=32) rfl rfl (bX p) (aQ (fun _ a=>aD (v:=bY a1 k) rfl) (bP (g:=32) rfl rfl (bX p) (aQ (fun _ a=>dG rfl e) (bP (g:=32) rfl rfl (bX p) (aQ (fun _ a=>cH (k':=k+3) dO rfl e rfl) (bP (g:=32) rfl rfl (bX p) (aQ (fun _ a=>bH (t:=3) hX a e rfl rfl) (bP (g:=32) rfl rfl (bX p) (aQ (fun _ a=>bQ (len:=t.E.length) cR rfl) (bP (g:=32) rfl rfl (bX p) (aQ (fun _ a=>mL rfl rfl) (aQ (fun _ a=>bJ (v:=zB (decide (300 < (t.E.length:Int)))) p rfl rfl) (dC (fun i9 g7=>(aA ⟨decide (300 < (t.E.length:Int)),d,rfl,rfl,g7⟩)))))))))))))))
end Gv
