/- Walks, printed by program. -/
import Derived.Test.YtmlgcbjkfcapaaaGreatDoorJWk5
import Derived.Test.YtmlgcbjkfcapaaaGreatDoorJWk6
set_option linter.all false
namespace Gv
open Go.Value renaming slice→zS,bool→zB,pointer→zP,agg→zA,tuple→zT,map→zM
open Option.some renaming inj→zI
open Gv.Hp renaming le_trans→zL,le_refl→zR
open Go Go.Proofs
set_option maxRecDepth 20000
set_option maxHeartbeats 40000000
variable {G:Env} {K:Hp} {L:List pH} {w:World} {a1 a4 a7 a2 a5 a10 a3 a6 a8 a11 a14 a17 a20 a23 a13:Option Addr} {c2 c5 c8 b1 c3 c6 c11 b2 c4 c7 c12 c21 c24 c14 b7 b9:Nat}
theorem aGy {t:cN} {k:Int} {b:bB} {R:Int} (q:aK G K (L) w) (r:dB K a1 c2 t.L) (u:dB K a4 c5 t.E) (a:aBo t k b=some R):
  Calls Tryz.prog 252 ([zA (zCa t a1 c2 a4 c5),i64 k,str b]:List Value).toArray w (iK fun v w'=>v=i64 R∧aK G K (L) w'):=by
 let e:=(zC t a1 c2 a4 c5)
 refine aX Tryz.func252 rfl (by kernel_rfl) (by show (3:Nat)≤21;decide) ?_
 unfold aBo at a
 refine aM (gP (v:=zA (zCa t a1 c2 a4 c5)) (vs:=e) q rfl rfl (fun x w8 g=>(aH (v:=i64 0) (aI (aQ (aM (aP (v:=i64 k) (aF (cG rfl rfl) (aI ?_)))))))))
 rcases aJ a with ⟨h,a⟩|⟨h,a⟩
 ·refine aO h rfl (aM (aH (v:=i64 (-1)) (aI ?_)))
  obtain rfl:=zI a
  exact bH (aR (bF Tryz.results252 rfl ⟨rfl,(aK.arr 1 [] g rfl)⟩))
 ·refine aL h rfl (aY (aC (aQ (aM (aF (dX (us:=e) dI g (i:=0) rfl rfl rfl rfl) (aP (v:=i64 k) (cT (Kt:=K) (xs:=([k]:List Int)) (cs:=[i64 k]) (vs:=[(0,i64 k)]) bY lR rfl rfl g rfl (by kernel_rfl) rfl rfl rfl ⟨rfl,trivial⟩ (fun o z (J:aK G K (aN 2 K o 1 ([k]:List Int)::box x 29 e::L) z)=>(aP (v:=str b) ?_)))))))))
  obtain ⟨b0,p,V,Z,a0⟩:=aK.lendS (i:=0) J (zR _) rfl
  obtain ⟨c,a2,a⟩:=aD a
  refine aU (vs:=[zA (zCa t a1 c2 a4 c5),zS o ([k]:List Int).length 1,str b]) Tryz.call122 rfl (rF Z (r.mono p) (u.mono p) V a2) ?_
  rintro _ b1 ⟨j,l,rfl,a3⟩
  have d:=a0 _ _ a3
  refine aH (v:=zS j c.length l) (aI (aM (aP (v:=zS j c.length l) (aF (bN (len:=c.length) bY rfl) (aF (oM rfl rfl) (aI ?_))))))
  rcases aJ a with ⟨m,a⟩|⟨m,a⟩
  ·refine aO m rfl (aM (aP (v:=zS j c.length l) ?_))
   obtain ⟨a5,n,a⟩:=aD a
   have a6:=cY d (i:=1) rfl n
   refine aF (dW bY rfl a6 rfl rfl rfl n) (aF (jL (t:=0) cV d (i:=1) rfl n rfl rfl rfl) (aH (v:=i64 a5) (aI ?_)))
   obtain rfl:=zI a
   exact bH (aR (bF Tryz.results252 rfl ⟨rfl,(aK.arr 3 [] d rfl)⟩))
  ·refine aL m rfl (aY (aC (aM (aH (v:=i64 (-1)) (aI ?_)))))
   obtain rfl:=zI a
   exact bH (bF Tryz.results252 rfl ⟨rfl,(aK.arr 3 [] d rfl)⟩)
theorem mP {d g:(List Int)} {R:Bool} (l:aK G K (L) w) (m:dB K a1 c2 d) (n:dB K a4 c5 g) (a:fI d g=some R):
  Calls Tryz.prog 254 ([zS a1 d.length c2,zS a4 g.length c5]:List Value).toArray w (iK fun v w'=>v=zB R∧aK G K (L) w'):=by
 refine aX Tryz.func254 rfl (by kernel_rfl) (by show (2:Nat)≤26;decide) ?_
 unfold fI at a
 refine aM (aH (v:=zB false) (aI (aQ (aM (aP (v:=zS a1 d.length c2) (aF (bN (len:=d.length) bY rfl) (aP (v:=zS a4 g.length c5) (aF (bN (len:=g.length) bY rfl) (aF (oO rfl rfl) (aI ?_))))))))))
 rcases aJ a with ⟨h,a⟩|⟨h,a⟩
 ·refine aO h rfl (aM (aH (v:=zB false) (aI ?_)))
  obtain rfl:=zI a
  exact bH (aR (bF Tryz.results254 rfl ⟨rfl,l⟩))
 ·refine aL h rfl (aY (aC (aQ (aM (aP (v:=zS a1 d.length c2) (aF (bN (len:=d.length) bY rfl) (aP (v:=i64 0) (aI (bE (fun f w=>hY=some R∧aK G K (L) w) ?_ ?_)))))))))
  ·rintro f w9 ⟨a,J⟩
   unfold hY at a
   refine aC (aM (aH (v:=zB true) (aI ?_)))
   obtain rfl:=zI a
   exact bH (bF Tryz.results254 rfl ⟨rfl,J⟩)
  obtain ⟨b1,Z,a⟩:=aD a
  refine cD Z (fun (e:Int) f w=>f 0=zS a1 d.length c2∧f 1=zS a4 g.length c5∧f 12=i64 (d.length:Int)∧f 13=i64 e∧aK G K (L) w) ?_ ?_
  ·exact ⟨rfl,rfl,rfl,rfl,l⟩
  ·rintro e a0 f b2 b o ⟨p,q,r,i,c⟩
   replace b:eL d g e=some a0:=b
   unfold eL at b
   refine aM (aF (cG i r) (aI (aQ ?_)))
   rcases aJ b with ⟨j,b⟩|⟨j,b⟩
   ·refine aO j rfl (aY (aC (aQ (cW (aM (aT i (aH (v:=i64 e) (aI (aQ (dR (C:=fun w'=>aK G K (L) w') bT (by kernel_rfl) (aK.mono c (dQ.drew _)) (aW (fun _ c=>aZ p) (aW (fun _ c=>aZ (v:=i64 e) rfl) ?_))))))))))))
    obtain ⟨b3,u,b⟩:=aD b
    refine aW (fun _ c=>dN bY rfl m rfl rfl rfl u) ?_
    obtain ⟨b4,a2,a3⟩:=dB.el (sz:=1) rfl m u
    cases a3
    refine aW (fun _ c=>bK (t:=0) cV c a2 rfl rfl) (aW (fun _ c=>aZ q) (aW (fun _ c=>aZ (v:=i64 e) rfl) ?_))
    obtain ⟨b5,x,b⟩:=aD b
    refine aW (fun _ c=>dN bY rfl n rfl rfl rfl x) ?_
    obtain ⟨b6,a5,a6⟩:=dB.el (sz:=1) rfl n x
    cases a6
    refine aW (fun _ c=>bK (t:=0) cV c a5 rfl rfl) (aW (fun _ c=>oO rfl rfl) (eF (fun b7 y=>(aC ?_))))
    rcases aJ b with ⟨k,b⟩|⟨k,b⟩
    ·refine aO k rfl (aM (aH (v:=zB false) (aI (bH (bQ (aR (aR ?_)))))))
     have a7:=o _ (zI b).symm
     subst a7
     have a:(some false)=some R:=a
     obtain rfl:=zI a
     exact bQ (aR (aR (bF Tryz.results254 rfl ⟨rfl,y⟩)))
    ·exact aL k rfl (aY (bG (aC (aS (aF (cQ i rfl) (aP (v:=i64 (wr (e+1))) (aI ⟨wr (e+1),(zI b).symm,p,q,r,rfl,y⟩)))))))
   ·refine aL j rfl (cB (aV (aV ?_)))
    have a9:=o _ (zI b).symm
    subst a9
    have a:(hY)=some R:=a
    exact bJ (aC ⟨a,c⟩)
theorem aDH {k p:(List Int)} {b:Nat} {R:Bool} (c:aK G K (L) w) (d:dB K a1 c2 k) (e:kR K a4 b [zS a7 p.length c8]) (g:dB K a7 c8 p) (a:vC k p=some R):
  Calls Tryz.prog 313 ([zS a1 k.length c2,dC a4 b]:List Value).toArray w (iK fun v w'=>v=zB R∧aK G K (L) w'):=by
 refine aX Tryz.func313 rfl (by kernel_rfl) (by show (2:Nat)≤7;decide) ?_
 unfold vC at a
 refine aM (aH (v:=zB false) (aI (aM (aP (v:=zS a1 k.length c2) (aF (bK (t:=0) zN c e rfl rfl) ?_)))))
 obtain ⟨h,i,a⟩:=aD a
 refine aU (vs:=[zS a1 k.length c2,zS a7 p.length c8]) Tryz.call254 rfl (mP c d g i) ?_
 rintro _ m ⟨rfl,j⟩
 refine aH (v:=zB h) (aI ?_)
 obtain rfl:=zI a
 exact bH (bF Tryz.results313 rfl ⟨rfl,j⟩)
theorem pU {d:(List (List Int))} {g:(List Int)} {e:Nat} {R:Int} (z:aK G K (L) w) (l:dB K a1 c2 d) (J:kR K a4 e [zS a7 g.length c8]) (V:dB K a7 c8 g) (b:eM d g=some R):
  Calls Tryz.prog 312 ([zS a1 d.length c2,Value.func (.func 313) #[] #[dC a4 e]]:List Value).toArray w (iK fun v w'=>v=i64 R∧aK G K (L) w'):=by
 refine aX Tryz.func312 rfl (by kernel_rfl) (by show (2:Nat)≤19;decide) ?_
 unfold eM at b
 refine aM (aH (v:=i64 0) (aI (aQ (aM (aP (v:=zS a1 d.length c2) (aF (bN (len:=d.length) rC rfl) (aP (v:=i64 0) (aI (bE (fun f w=>fH=some R∧aK G K (L) w) ?_ ?_)))))))))
 ·rintro f b3 ⟨b,Z⟩
  unfold fH at b
  refine aC (aM (aH (v:=i64 (-1)) (aI ?_)))
  obtain rfl:=zI b
  exact bH (bF Tryz.results312 rfl ⟨rfl,Z⟩)
 obtain ⟨b4,a2,b⟩:=aD b
 refine cD a2 (fun (c:Int) f w=>f 0=zS a1 d.length c2∧f 1=Value.func (.func 313) #[] #[dC a4 e]∧f 7=i64 (d.length:Int)∧f 8=i64 c∧aK G K (L) w) ?_ ?_
 ·exact ⟨rfl,rfl,rfl,rfl,z⟩
 ·rintro c a3 f b5 a m ⟨n,o,p,h,i⟩
  replace a:cP d g c=some a3:=a
  unfold cP at a
  refine aM (aF (cG h p) (aI (aQ ?_)))
  rcases aJ a with ⟨j,a⟩|⟨j,a⟩
  ·refine aO j rfl (aY (aC (aQ (cW (aM (aT h (aH (v:=i64 c) (aI (aM (aT o (aT n (aP (v:=i64 c) ?_))))))))))))
   obtain ⟨q,r,a⟩:=aD a
   refine aF (dN rC rfl l rfl rfl rfl r) ?_
   obtain ⟨b6,a5,a6⟩:=dB.el (sz:=1) rfl l r
   obtain ⟨u,x,rfl,a8⟩:=a6
   refine aF (bK (t:=0) zN i a5 rfl rfl) ?_
   obtain ⟨b7,a9,a⟩:=aD a
   refine oP (vs:=[zS u q.length x]) (caps:=[dC a4 e]) (us:=[zS u q.length x,dC a4 e]) rfl Tryz.call313 rfl rfl (aDH i a8 J V a9) ?_
   rintro _ b8 ⟨rfl,y⟩
   refine aI ?_
   rcases aJ a with ⟨k,a⟩|⟨k,a⟩
   ·refine aO k rfl (aM (aP (v:=i64 c) (aH (v:=i64 c) (aI (bH (bQ (aR (aR ?_))))))))
    have b0:=m _ (zI a).symm
    subst b0
    have b:(some c)=some R:=b
    obtain rfl:=zI b
    exact bQ (aR (aR (bF Tryz.results312 rfl ⟨rfl,y⟩)))
   ·exact aL k rfl (aY (bG (aC (aS (aF (cQ h rfl) (aP (v:=i64 (wr (c+1))) (aI ⟨wr (c+1),(zI a).symm,n,o,p,rfl,y⟩)))))))
  ·refine aL j rfl (cB (aV (aV ?_)))
   have b2:=m _ (zI a).symm
   subst b2
   have b:(fH)=some R:=b
   exact bJ (aC ⟨b,i⟩)
theorem aFg {b:(List (List Int))} {R:(List Int)} (hs:aK G K (L) w) (n:dB K a1 c2 b) (d:xP b=some R):
  Calls Tryz.prog 253 ([zS a1 b.length c2]:List Value).toArray w (iK fun v w'=>∃ (a8:Option Addr) (a9:Nat),v=zS a8 R.length a9∧aK G K (aN 2 K a8 a9 R::L) w'):=by
 refine aX Tryz.func253 rfl (by kernel_rfl) (by show (1:Nat)≤29;decide) ?_
 unfold xP at d
 refine aM (aH (v:=zS none 0 0) (aI (aM (aH (v:=zS none 0 0) (aI (aQ (aM (aP (v:=zS a1 b.length c2) (aF (bN (len:=b.length) rC rfl) (aP (v:=i64 0) (aI (bE (fun f w=>∃ (l:List Int) (o:Option Addr) (p:Nat),qG l=some R∧f 3=zS o l.length p∧aK G K (aN 2 K o p l::L) w) ?_ ?_))))))))))))
 ·rintro f w8 ⟨l,o,p,d,e7,c0⟩
  unfold qG at d
  refine aC (aM (aT e7 ?_))
  obtain ⟨g5,g6,c1,c3,c4⟩:=aK.lendS (i:=0) c0 (zR _) rfl
  obtain ⟨c5,c7,d⟩:=aD d
  refine aU (vs:=[zS o l.length p]) Tryz.call93 rfl (aEm c3 c1 c7) ?_
  rintro _ g7 ⟨b0,b1,rfl,c8⟩
  have c9:=c4 _ _ c8
  refine aH (v:=zS b0 c5.length b1) (aI ?_)
  obtain rfl:=zI d
  exact bH (bF Tryz.results253 rfl ⟨b0,b1,rfl,(aK.arr 1 [] c9 rfl)⟩)
 have d1:=aK.nil (α:=Int) hs 2 K
 obtain ⟨g8,d2,d⟩:=aD d
 refine cD d2 (fun (s:(List Int × Int)) f w=>match s with|(e,c)=>∃ (g:Option Addr) (j:Nat),f 0=zS a1 b.length c2∧f 3=zS g e.length j∧f 7=zS a1 b.length c2∧f 8=i64 (b.length:Int)∧f 9=i64 c∧aK G K (aN 2 K g j e::L) w) ?_ ?_
 ·exact ⟨none,0,rfl,rfl,rfl,rfl,rfl,d1⟩
 ·rintro ⟨e,c⟩ b2 f g9 a d3 ⟨g,j,q,r,u,x,m,y⟩
  replace a:jH b e c=some b2:=a
  unfold jH at a
  refine aM (aF (cG m x) (aI (aQ ?_)))
  rcases aJ a with ⟨z,a⟩|⟨z,a⟩
  ·refine aO z rfl (aY (aC (aQ (cW (aM (aT m ?_))))))
   obtain ⟨J,b3,a⟩:=aD a
   refine aF (dN rC rfl n u rfl m b3) ?_
   obtain ⟨h0,d4,d5⟩:=dB.el (sz:=1) rfl n b3
   obtain ⟨V,Z,rfl,d6⟩:=d5
   refine aF (bK (t:=0) zN y d4 rfl rfl) (bS (vs:=[zS none 0 0]) Tryz.zeroValue38 y rfl (fun a0 h1 d7=>(aH (v:=i64 c) (bR (i:=0) (ns:=[zS V J.length Z]) (us:=[zS V J.length Z]) Tryz.sizeOf38 d7 rfl rfl rfl rfl rfl (cX rfl) rfl rfl (fun d8 (d9:aK G K (box a0 38 [zS V J.length Z]::aN 2 K g j e::L) d8)=>(aI (aM (aT q (aP (v:=i64 c) ?_)))))))))
   obtain ⟨e0,b4,a⟩:=aD a
   obtain ⟨e1,e2,b5⟩:=Cut.ex 1 a1 c2 0
   have e3:=dB.cut' n b4 b5
   refine aF (aJC rC n.room b5 rfl rfl rfl b4) (aF (vG (vs:=[zP (some ⟨a0,0,none⟩)]) rfl) ?_)
   obtain ⟨h2,b6,e4,e5,e6⟩:=aK.lendB (i:=0) d9 rfl
   obtain ⟨a2,e8,a⟩:=aD a
   refine aU (vs:=[zS e1 e0.length e2,Value.func (.func 313) #[] #[dC (some ⟨a0,0,none⟩) 0]]) Tryz.call312 rfl (pU e5 (e3.mono b6) e4 (d6.mono b6) e8) ?_
   rintro _ h4 ⟨rfl,e9⟩
   have b7:=e6 _ _ e9
   refine aH (v:=i64 a2) (aI (aAo (fun f w=>∃ (k:Int),qH e c k=some b2∧f 0=zS a1 b.length c2∧f 3=zS g e.length j∧f 6=i64 k∧f 7=zS a1 b.length c2∧f 8=i64 (b.length:Int)∧f 9=i64 c∧aK G K (aN 2 K g j e::L) w) ?_ ?_))
   ·rintro f h5 ⟨k,a,f0,f1,f2,f3,f4,f5,f6⟩
    unfold qH at a
    refine aS (aT f1 (aT f2 (cT (Kt:=K) (xs:=([k]:List Int)) (cs:=[i64 k]) (vs:=[(0,i64 k)]) bY lR rfl rfl f6 rfl (by kernel_rfl) rfl rfl rfl ⟨rfl,trivial⟩ (fun f7 f8 (f9:aK G K (aN 2 K f7 1 ([k]:List Int)::aN 2 K g j e::L) f8)=>?_))))
    obtain ⟨a3,g0,a⟩:=aD a
    exact eI (i:=0) bY Tryz.underlying38 lR rfl rfl f9 rfl (zR _) (zR _) g0 rfl rfl rfl rfl (fun _ h=>h) (fun a4 a6 g1 (g2:aK G K (aN 2 K a4 a6 a3::L) g1)=>(aH (v:=zS a4 a3.length a6) (bA (bG (aC (aS (aF (cQ f5 rfl) (aP (v:=i64 (wr (c+1))) (aI ⟨(a3,wr (c+1)),(zI a).symm,a4,a6,f0,rfl,f3,f4,rfl,g2⟩)))))))))
   refine aM (aP (v:=i64 a2) (aF (cG rfl rfl) (aI ?_)))
   rcases aJ a with ⟨a7,a⟩|⟨a7,a⟩
   ·exact aO a7 rfl (aS (aP (v:=i64 c) (aH (v:=i64 c) (aI ⟨c,a,q,r,rfl,u,x,m,(aK.arr 1 [] b7 rfl)⟩))))
   ·exact aL a7 rfl (aY (aC ⟨a2,a,q,r,rfl,u,x,m,(aK.arr 1 [] b7 rfl)⟩))
  ·refine aL z rfl (cB (aV (aV ?_)))
   have g3:=d3 _ (zI a).symm
   subst g3
   have d:(qG e)=some R:=d
   exact bJ (aC ⟨e,g,j,d,r,y⟩)
theorem aBE {k:Int} {p:(List Int)} {c:Nat} {R:bB} (b:aK G K (L) w) (g:kR K a1 c [zS a4 p.length c5]) (d:dB K a4 c5 p) (a:lB k p=some R):
  Calls Tryz.prog 255 ([i64 k,dC a1 c]:List Value).toArray w (iK fun v w'=>v=str R∧aK G K (L) w'):=by
 refine aX Tryz.func255 rfl (by kernel_rfl) (by show (2:Nat)≤9;decide) ?_
 unfold lB at a
 refine aM (aH (v:=str ([]:bB)) (aI (aM (aF (bK (t:=0) zN b g rfl rfl) (aP (v:=i64 k) ?_)))))
 obtain ⟨h,e,a⟩:=aD a
 refine aF (dN bY rfl d rfl rfl rfl e) ?_
 obtain ⟨q,i,j⟩:=dB.el (sz:=1) rfl d e
 cases j
 refine aF (bK (t:=0) cV b i rfl rfl) ?_
 obtain ⟨l,m,a⟩:=aD a
 refine aU (vs:=[i64 h]) Tryz.call185 rfl (aGf b m) ?_
 rintro _ r ⟨rfl,n⟩
 refine aH (v:=str l) (aI ?_)
 obtain rfl:=zI a
 exact bH (bF Tryz.results255 rfl ⟨rfl,n⟩)
theorem kK {c:(List Int)} {e:(List (bB × Int))} {b:Nat} {g:(List iC)} {J:(List Int)} {l:Nat} {j:Int} {R:(Int × (List Int) × (List (bB × Int)))} (hs:aK G K (aN 2 K a2 c3 c::iD b e::aN 160 K a5 c6 g::box b1 323 [zS a2 c.length c3,zM (some b),zS a5 g.length c6,Value.func (.func 255) #[] #[dC a7 l]]::L) w) (h9:kR K a7 l [zS a10 J.length c11]) (a9:dB K a10 c11 J) (a:fK c e g J j=some R):
  Calls Tryz.prog 314 ([zP (some ⟨b1,0,none⟩),i64 j]:List Value).toArray w (iK fun v w'=>∃ (a3:Option Addr) (a4:Nat),v=i64 R.1∧aK G K (aN 2 K a3 a4 R.2.1::iD b R.2.2::aN 160 K a5 c6 g::box b1 323 [zS a3 R.2.1.length a4,zM (some b),zS a5 g.length c6,Value.func (.func 255) #[] #[dC a7 l]]::L) w'):=by
 let V:=[zS a2 c.length c3,zM (some b),zS a5 g.length c6,Value.func (.func 255) #[] #[dC a7 l]]
 let q:=aN 160 K a5 c6 g
 refine aX Tryz.func314 rfl (by kernel_rfl) (by show (2:Nat)≤47;decide) ?_
 unfold fK at a
 refine aM (aH (v:=i64 0) (aI (aM (aP (v:=zP (some ⟨b1,0,none⟩)) (aF (iM rfl) (aF (bL (t':=3) fa_323_3 rfl rfl) (aF (cC sc_213 hs (i:=3) rfl rfl rfl) (aP (v:=i64 j) ?_))))))))
 obtain ⟨d,b0,a⟩:=aD a
 refine oP (vs:=[i64 j]) (caps:=[dC a7 l]) (us:=[i64 j,dC a7 l]) rfl Tryz.call255 rfl rfl (aBE hs h9 a9 b0) ?_
 rintro _ c7 ⟨rfl,m⟩
 refine aH (v:=str d) (aI (aM (aP (v:=zP (some ⟨b1,0,none⟩)) (aF (iM rfl) (aF (bL (t':=1) aKK rfl rfl) (aF (cC aJE m (i:=3) rfl rfl rfl) (aP (v:=str d) (aF (aJB (kv:=e) (k:=d) (z:=(0:Int)) Tryz.runUnderlying208 ko_9 Tryz.zeroValue2 m (i:=1) rfl rfl rfl) (aP (v:=zT #[i64 ((fS e d).getD 0),zB ((fS e d).isSome)]) (aF (bM rfl rfl) (aF (bM rfl rfl) (aH (v:=i64 ((fS e d).getD 0)) (aH (v:=zB ((fS e d).isSome)) (aI (aAo (fun f w=>∃ (t:Int) (u:List Int) (Z:(List (bB × Int))) (x:Option Addr) (y:Nat),jI t u Z=some R∧f 6=i64 t∧aK G K (aN 2 K x y u::iD b Z::q::box b1 323 [zS x u.length y,zM (some b),zS a5 g.length c6,Value.func (.func 255) #[] #[dC a7 l]]::L) w) ?_ ?_)))))))))))))))
 ·rintro f c8 ⟨t,u,Z,x,y,a,b2,b3⟩
  unfold jI at a
  refine aM (aT b2 (aH (v:=i64 t) (aI ?_)))
  obtain rfl:=zI a
  exact bH (bF Tryz.results314 rfl ⟨x,y,rfl,b3⟩)
 refine aM (aP (v:=zB ((fS e d).isSome)) (aF (fC rfl) (aI ?_)))
 rcases aJ a with ⟨a0,a⟩|⟨a0,a⟩
 ·refine aO a0 rfl (aM (aP (v:=zP (some ⟨b1,0,none⟩)) (aF (iM rfl) (aF (bL (t':=0) zQ rfl rfl) (aF (cC zN m (i:=3) rfl rfl rfl) (aF (bN (len:=c.length) bY rfl) (aH (v:=i64 (c.length:Int)) (aI (aM (aP (v:=zP (some ⟨b1,0,none⟩)) (aF (iM rfl) (aF (bL (t':=1) aKK rfl rfl) (aF (cC aJE m (i:=3) rfl rfl rfl) (aP (v:=str d) (aP (v:=i64 (c.length:Int)) ?_)))))))))))))))
  obtain ⟨r,b5,a⟩:=aD a
  refine aCg (i:=1) (k:=d) (v:=(c.length:Int)) Tryz.runUnderlying208 ko_9 m rfl rfl rfl rfl b5 (fun b6 (a6:aK G K (aN 2 K a2 c3 c::iD b r::q::box b1 323 V::L) b6)=>(aI (aS (aP (v:=zP (some ⟨b1,0,none⟩)) (aP (v:=zP (some ⟨b1,0,none⟩)) (aF (iM rfl) (aF (bL (t':=0) zQ rfl rfl) (aF (cC zN a6 (i:=3) rfl rfl rfl) (aP (v:=i64 j) (cT (Kt:=K) (xs:=([j]:List Int)) (cs:=[i64 j]) (vs:=[(0,i64 j)]) bY lR rfl rfl a6 rfl (by kernel_rfl) rfl rfl rfl ⟨rfl,trivial⟩ (fun b7 b8 (b9:aK G K (aN 2 K b7 1 ([j]:List Int)::aN 2 K a2 c3 c::iD b r::q::box b1 323 V::L) b8)=>?_)))))))))))
  obtain ⟨n,c0,a⟩:=aD a
  exact eI (i:=0) bY Tryz.underlying38 lR rfl rfl b9 rfl (zR _) (zR _) c0 rfl rfl rfl rfl (fun _ h=>h) (fun o p c1 (c2:aK G K (aN 2 K o p n::iD b r::q::box b1 323 V::L) c1)=>(aF (iM rfl) (aF (bL (t':=0) zQ rfl rfl) (bR (i:=3) (ns:=[zS o n.length p]) (us:=[zS o n.length p,zM (some b),zS a5 g.length c6,Value.func (.func 255) #[] #[dC a7 l]]) Tryz.sizeOf38 c2 rfl rfl rfl rfl rfl (cX rfl) rfl rfl (fun c4 (c5:aK G K (aN 2 K o p n::iD b r::q::box b1 323 [zS o n.length p,zM (some b),zS a5 g.length c6,Value.func (.func 255) #[] #[dC a7 l]]::L) c4)=>(aI ⟨(c.length:Int),n,r,o,p,a,rfl,c5⟩))))))
 ·exact aL a0 rfl (aY (aC ⟨((fS e d).getD 0),c,e,a2,c3,a,rfl,m⟩))
theorem aBF {d:bB} {a4:Int} {b9:(List Int)} {c6:(List (bB × Int))} {b:Nat} {n:(List iC)} {c0:(List Int)} {k:Nat} {p:Int} {c8:Nat} {R:((List Int) × (List (bB × Int)) × (List iC))} (hs:aK G K (aN 2 K a3 c4 b9::iD b c6::aN 160 K a6 c7 n::box b2 323 [zS a3 b9.length c4,zM (some b),zS a6 n.length c7,Value.func (.func 255) #[] #[dC a8 k]]::box b1 321 [zP (some ⟨b2,0,none⟩)]::L) w) (c9:kR K a8 k [zS a11 c0.length c12]) (d0:dB K a11 c12 c0) (e1:kR K a14 c8 [i64 p]) (g:lC d a4 b9 c6 n c0 p=some R):
  Calls Tryz.prog 315 ([str d,i64 a4,zP (some ⟨b1,0,none⟩),dC a14 c8]:List Value).toArray w (iK fun v w'=>∃ (d1:Option Addr) (d2:Nat) (d3:Option Addr) (d4:Nat),v=zT #[]∧aK G K (aN 2 K d1 d2 R.1::iD b R.2.1::aN 160 K d3 d4 R.2.2::box b2 323 [zS d1 R.1.length d2,zM (some b),zS d3 R.2.2.length d4,Value.func (.func 255) #[] #[dC a8 k]]::box b1 321 [zP (some ⟨b2,0,none⟩)]::L) w'):=by
 refine aX Tryz.func315 rfl (by kernel_rfl) (by show (4:Nat)≤21;decide) ?_
 unfold lC at g
 refine dF (fun f w=>∃ (a5:List Int) (c1:(List (bB × Int))) (a7:List iC) (a9:Option Addr) (b0:Nat) (b3:Option Addr) (b4:Nat),lN a5 c1 a7=some R∧aK G K (aN 160 K b3 b4 a7::aN 2 K a9 b0 a5::iD b c1::box b2 323 [zS a9 a5.length b0,zM (some b),zS b3 a7.length b4,Value.func (.func 255) #[] #[dC a8 k]]::box b1 321 [zP (some ⟨b2,0,none⟩)]::L) w) ?_ ?_
 ·rintro f g6 ⟨a5,c1,a7,a9,b0,b3,b4,g,e2⟩
  unfold lN at g
  obtain rfl:=zI g
  exact aEO Tryz.results315 ⟨a9,b0,b3,b4,rfl,(aK.arr 3 [1,2,0] e2 rfl)⟩
 obtain ⟨q,o,c2,e4,c3⟩:=aK.lendB (i:=4) hs rfl
 refine sM (C:=fun w'=>∃ L',aK G q L' w') [] bT (by kernel_rfl) (fun g7 e5=>?_)
 have c:=aK.mono e4 e5
 refine dP (i:=0) rfl (by kernel_rfl) ⟨_,c⟩ (fun _ ⟨_,c⟩=>bK (t:=0) aBc c c2 rfl rfl) (dP (i:=1) rfl (by kernel_rfl) ⟨_,c⟩ (fun _ ⟨_,c⟩=>bK (t:=0) aBc c c2 rfl rfl) (dP (i:=2) rfl (by kernel_rfl) ⟨_,c⟩ (fun _ _=>iM rfl) (dP (i:=3) rfl (by kernel_rfl) ⟨_,c⟩ (fun _ _=>bL (t':=2) aCi rfl rfl) (dP (i:=5) rfl (by kernel_rfl) ⟨_,c⟩ (fun _ ⟨_,c⟩=>bK (t:=0) sc_3 c (e1.mono o) rfl rfl) (dP (i:=6) rfl (by kernel_rfl) ⟨_,c⟩ (fun _ _=>aZ (v:=str d) rfl) (dP (i:=7) rfl (by kernel_rfl) ⟨_,c⟩ (fun _ ⟨_,c⟩=>bK (t:=0) aBc c c2 rfl rfl) (dP (i:=8) rfl (by kernel_rfl) ⟨_,c⟩ (fun _ _=>aZ (v:=i64 a4) rfl) (oJ (i:=4) (j:=9) (by kernel_rfl) rfl rfl ?_ ?_))))))))
 ·refine aF (cC aBX c (i:=3) rfl rfl rfl) (bA (aC ⟨fun _=>⟨_,c⟩,?_⟩))
  refine cL (i:=9) (by kernel_rfl) rfl ?_
  obtain ⟨e,e6,g⟩:=aD g
  refine aU (vs:=[zP (some ⟨b2,0,none⟩),i64 a4]) Tryz.call314 rfl (kK c (c9.mono o) (d0.mono o) e6) ?_
  rintro _ g8 ⟨r,u,rfl,c5⟩
  refine bA (aC ⟨fun _=>⟨_,c5⟩,?_⟩)
  refine dP (i:=10) rfl (by kernel_rfl) ⟨_,c5⟩ (fun _ _=>fD (vs:=[(0,i64 p),(1,str d),(2,i64 e.1)]) (cs:=[i64 p,str d,i64 e.1]) aFD rfl (by kernel_rfl)) (cL (i:=11) (by kernel_rfl) rfl (cT (Kt:=K) (xs:=([⟨p,d,e.1⟩]:List iC)) (cs:=[i64 p,str d,i64 e.1]) (vs:=[(0,zA #[i64 p,str d,i64 e.1])]) oQ tM rfl rfl c5 rfl (by kernel_rfl) rfl rfl rfl ⟨rfl,trivial⟩ (fun e7 e8 (d5:aK G q (aN 160 K e7 1 ([⟨p,d,e.1⟩]:List iC)::aN 2 K r u e.2.1::iD b e.2.2::aN 160 K a6 c7 n::box b2 323 [zS r e.2.1.length u,zM (some b),zS a6 n.length c7,Value.func (.func 255) #[] #[dC a8 k]]::L) e8)=>(bA (aC ⟨fun _=>⟨_,d5⟩,?_⟩)))))
  refine cL (i:=12) (by kernel_rfl) rfl ?_
  obtain ⟨x,e9,g⟩:=aD g
  refine eI (i:=2) oQ Tryz.underlying145 tM rfl rfl d5 rfl o o e9 rfl rfl rfl rfl (fun _ h=>h) (fun y c48 f0 (b5:aK G q (aN 2 K r u e.2.1::iD b e.2.2::aN 160 K y c48 x::box b2 323 [zS r e.2.1.length u,zM (some b),zS a6 n.length c7,Value.func (.func 255) #[] #[dC a8 k]]::L) f0)=>(bA (aC ⟨fun _=>⟨_,b5⟩,?_⟩)))
  refine dP (i:=13) rfl (by kernel_rfl) ⟨_,b5⟩ (fun _ _=>iM rfl) (dP (i:=14) rfl (by kernel_rfl) ⟨_,b5⟩ (fun _ _=>bL (t':=2) aCi rfl rfl) (cL (i:=15) (by kernel_rfl) rfl (bR (i:=3) (ns:=[zS y x.length c48]) (us:=[zS r e.2.1.length u,zM (some b),zS y x.length c48,Value.func (.func 255) #[] #[dC a8 k]]) Tryz.sizeOf145 b5 rfl rfl rfl rfl rfl (cX rfl) rfl rfl (fun f1 (d6:aK G q (aN 2 K r u e.2.1::iD b e.2.2::aN 160 K y c48 x::box b2 323 [zS r e.2.1.length u,zM (some b),zS y x.length c48,Value.func (.func 255) #[] #[dC a8 k]]::L) f1)=>(bA (aC ⟨fun _=>⟨_,d6⟩,?_⟩))))))
  refine iY (by kernel_rfl) ?_
  have f2:=c3 _ _ d6
  exact aC ⟨e.2.1,e.2.2,x,r,u,y,c48,g,(aK.arr 5 [3,1,2,4,0] f2 rfl)⟩
 ·obtain ⟨a,f3,g⟩:=aD g
  refine aU (vs:=[zP (some ⟨b2,0,none⟩),i64 a4]) Tryz.call314 rfl (kK c (c9.mono o) (d0.mono o) f3) ?_
  rintro _ g9 ⟨l,m,rfl,z⟩
  refine bA (aC ⟨fun _=>⟨_,z⟩,?_⟩)
  refine dP (i:=10) rfl (by kernel_rfl) ⟨_,z⟩ (fun _ _=>fD (vs:=[(0,i64 p),(1,str d),(2,i64 a.1)]) (cs:=[i64 p,str d,i64 a.1]) aFD rfl (by kernel_rfl)) (oJ (i:=4) (j:=11) (by kernel_rfl) rfl rfl ?_ ?_)
  ·refine aF (cC aBX z (i:=3) rfl rfl rfl) (bA (aC ⟨fun _=>⟨_,z⟩,?_⟩))
   refine cL (i:=11) (by kernel_rfl) rfl (cT (Kt:=K) (xs:=([⟨p,d,a.1⟩]:List iC)) (cs:=[i64 p,str d,i64 a.1]) (vs:=[(0,zA #[i64 p,str d,i64 a.1])]) oQ tM rfl rfl z rfl (by kernel_rfl) rfl rfl rfl ⟨rfl,trivial⟩ (fun f4 f5 (d7:aK G q (aN 160 K f4 1 ([⟨p,d,a.1⟩]:List iC)::aN 2 K l m a.2.1::iD b a.2.2::aN 160 K a6 c7 n::box b2 323 [zS l a.2.1.length m,zM (some b),zS a6 n.length c7,Value.func (.func 255) #[] #[dC a8 k]]::L) f5)=>(bA (aC ⟨fun _=>⟨_,d7⟩,?_⟩))))
   refine cL (i:=12) (by kernel_rfl) rfl ?_
   obtain ⟨J,f6,g⟩:=aD g
   refine eI (i:=2) oQ Tryz.underlying145 tM rfl rfl d7 rfl o o f6 rfl rfl rfl rfl (fun _ h=>h) (fun V Z f7 (b6:aK G q (aN 2 K l m a.2.1::iD b a.2.2::aN 160 K V Z J::box b2 323 [zS l a.2.1.length m,zM (some b),zS a6 n.length c7,Value.func (.func 255) #[] #[dC a8 k]]::L) f7)=>(bA (aC ⟨fun _=>⟨_,b6⟩,?_⟩)))
   refine dP (i:=13) rfl (by kernel_rfl) ⟨_,b6⟩ (fun _ _=>iM rfl) (dP (i:=14) rfl (by kernel_rfl) ⟨_,b6⟩ (fun _ _=>bL (t':=2) aCi rfl rfl) (cL (i:=15) (by kernel_rfl) rfl (bR (i:=3) (ns:=[zS V J.length Z]) (us:=[zS l a.2.1.length m,zM (some b),zS V J.length Z,Value.func (.func 255) #[] #[dC a8 k]]) Tryz.sizeOf145 b6 rfl rfl rfl rfl rfl (cX rfl) rfl rfl (fun f8 (d8:aK G q (aN 2 K l m a.2.1::iD b a.2.2::aN 160 K V Z J::box b2 323 [zS l a.2.1.length m,zM (some b),zS V J.length Z,Value.func (.func 255) #[] #[dC a8 k]]::L) f8)=>(bA (aC ⟨fun _=>⟨_,d8⟩,?_⟩))))))
   refine iY (by kernel_rfl) ?_
   have f9:=c3 _ _ d8
   exact aC ⟨a.2.1,a.2.2,J,l,m,V,Z,g,(aK.arr 5 [3,1,2,4,0] f9 rfl)⟩
  ·refine cT (Kt:=K) (xs:=([⟨p,d,a.1⟩]:List iC)) (cs:=[i64 p,str d,i64 a.1]) (vs:=[(0,zA #[i64 p,str d,i64 a.1])]) oQ tM rfl rfl z rfl (by kernel_rfl) rfl rfl rfl ⟨rfl,trivial⟩ (fun g0 g1 (b7:aK G q (aN 160 K g0 1 ([⟨p,d,a.1⟩]:List iC)::aN 2 K l m a.2.1::iD b a.2.2::aN 160 K a6 c7 n::box b2 323 [zS l a.2.1.length m,zM (some b),zS a6 n.length c7,Value.func (.func 255) #[] #[dC a8 k]]::L) g1)=>(bA (aC ⟨fun _=>⟨_,b7⟩,?_⟩)))
   refine cL (i:=4) (by kernel_rfl) rfl (aF (cC aBX b7 (i:=4) rfl rfl rfl) (bA (aC ⟨fun _=>⟨_,b7⟩,?_⟩)))
   refine cL (i:=12) (by kernel_rfl) rfl ?_
   obtain ⟨a0,g2,g⟩:=aD g
   refine eI (i:=2) oQ Tryz.underlying145 tM rfl rfl b7 rfl o o g2 rfl rfl rfl rfl (fun _ h=>h) (fun a1 a2 g3 (b8:aK G q (aN 2 K l m a.2.1::iD b a.2.2::aN 160 K a1 a2 a0::box b2 323 [zS l a.2.1.length m,zM (some b),zS a6 n.length c7,Value.func (.func 255) #[] #[dC a8 k]]::L) g3)=>(bA (aC ⟨fun _=>⟨_,b8⟩,?_⟩)))
   refine dP (i:=13) rfl (by kernel_rfl) ⟨_,b8⟩ (fun _ _=>iM rfl) (dP (i:=14) rfl (by kernel_rfl) ⟨_,b8⟩ (fun _ _=>bL (t':=2) aCi rfl rfl) (cL (i:=15) (by kernel_rfl) rfl (bR (i:=3) (ns:=[zS a1 a0.length a2]) (us:=[zS l a.2.1.length m,zM (some b),zS a1 a0.length a2,Value.func (.func 255) #[] #[dC a8 k]]) Tryz.sizeOf145 b8 rfl rfl rfl rfl rfl (cX rfl) rfl rfl (fun g4 (d9:aK G q (aN 2 K l m a.2.1::iD b a.2.2::aN 160 K a1 a2 a0::box b2 323 [zS l a.2.1.length m,zM (some b),zS a1 a0.length a2,Value.func (.func 255) #[] #[dC a8 k]]::L) g4)=>(bA (aC ⟨fun _=>⟨_,d9⟩,?_⟩))))))
   refine iY (by kernel_rfl) ?_
   have g5:=c3 _ _ d9
   exact aC ⟨a.2.1,a.2.2,a0,l,m,a1,a2,g,(aK.arr 5 [3,1,2,4,0] g5 rfl)⟩
theorem aBG {k:Int} {b3:(List Int)} {c3:(List (bB × Int))} {c:Nat} {b4:(List iC)} {z:(List Int)} {o:Nat} {b5:Int} {x:Nat} {p:cN} {J:Nat} {R:(Bool × (List Int) × (List (bB × Int)) × (List iC))} (hs:aK G K (aN 2 K a3 c4 b3::iD c c3::aN 160 K a6 c7 b4::box b2 323 [zS a3 b3.length c4,zM (some c),zS a6 b4.length c7,Value.func (.func 255) #[] #[dC a8 o]]::box b1 321 [zP (some ⟨b2,0,none⟩)]::L) w) (e1:kR K a8 o [zS a11 z.length c12]) (e2:dB K a11 c12 z) (e3:kR K a14 x [i64 b5]) (b6:kR K a17 J (zC p a20 c21 a23 c24)) (b7:dB K a20 c21 p.L) (e4:dB K a23 c24 p.E) (d:lD k b3 c3 b4 z b5 p=some R):
  Calls Tryz.prog 257 ([i64 k,Value.func (.func 315) #[] #[zP (some ⟨b1,0,none⟩),dC a14 x],dC a17 J]:List Value).toArray w (iK fun v w'=>∃ (c6:Option Addr) (c8:Nat) (c9:Option Addr) (d0:Nat),v=zB R.1∧aK G K (aN 2 K c6 c8 R.2.1::iD c R.2.2.1::aN 160 K c9 d0 R.2.2.2::box b2 323 [zS c6 R.2.1.length c8,zM (some c),zS c9 R.2.2.2.length d0,Value.func (.func 255) #[] #[dC a8 o]]::box b1 321 [zP (some ⟨b2,0,none⟩)]::L) w'):=by
 let V:=[zP (some ⟨b2,0,none⟩)]
 refine aX Tryz.func257 rfl (by kernel_rfl) (by show (3:Nat)≤27;decide) ?_
 unfold lD at d
 refine aM (aH (v:=zB false) (aI (aQ (aM (aF (fZ (t:=0) (vs:=(zC p a20 c21 a23 c24)) dI hs b6 rfl rfl rfl) (aP (v:=i64 k) ?_))))))
 obtain ⟨q,e5,d⟩:=aD d
 refine aU (vs:=[zA (zCa p a20 c21 a23 c24),i64 k]) Tryz.call121 rfl (aBs hs b7 e4 e5) ?_
 rintro _ h0 ⟨Z,a0,rfl,e6⟩
 refine aF (bN (len:=q.length) cK rfl) (aP (v:=i64 0) (aI (bE (fun f w=>∃ (a1:List Int) (b8:(List (bB × Int))) (a2:List iC) (a4:Option Addr) (a5:Nat) (a7:Option Addr) (a9:Nat),jN a1 b8 a2=some R∧aK G K (aN 160 K a7 a9 a2::aN 2 K a4 a5 a1::iD c b8::box b2 323 [zS a4 a1.length a5,zM (some c),zS a7 a2.length a9,Value.func (.func 255) #[] #[dC a8 o]]::box b1 321 V::L) w) ?_ ?_)))
 ·rintro f h1 ⟨a1,b8,a2,a4,a5,a7,a9,d,e7⟩
  unfold jN at d
  refine aC (aM (aH (v:=zB true) (aI ?_)))
  obtain rfl:=zI d
  exact bH (bF Tryz.results257 rfl ⟨a4,a5,a7,a9,rfl,(aK.arr 3 [1,2,0] e7 rfl)⟩)
 obtain ⟨h2,e9,d⟩:=aD d
 refine cD e9 (fun (s:(List Int × (List (bB × Int)) × List iC × Int)) f w=>match s with|(e,r,g,y)=>∃ (j:Option Addr) (l:Nat) (m:Option Addr) (n:Nat),f 1=Value.func (.func 315) #[] #[zP (some ⟨b1,0,none⟩),dC a14 x]∧f 2=dC a17 J∧f 10=zS Z q.length a0∧f 11=i64 (q.length:Int)∧f 12=i64 y∧aK G K (aN 63 K Z a0 q::aN 2 K j l e::iD c r::aN 160 K m n g::box b2 323 [zS j e.length l,zM (some c),zS m g.length n,Value.func (.func 255) #[] #[dC a8 o]]::box b1 321 V::L) w) ?_ ?_
 ·exact ⟨a3,c4,a6,c7,rfl,rfl,rfl,rfl,rfl,e6⟩
 ·rintro ⟨e,r,g,y⟩ f0 f h3 a f1 ⟨j,l,m,n,d1,d2,d3,d4,b9,b0⟩
  replace a:gD z b5 p q e r g y=some f0:=a
  unfold gD at a
  refine aM (aF (cG b9 d4) (aI (aQ ?_)))
  rcases aJ a with ⟨c0,a⟩|⟨c0,a⟩
  ·refine aO c0 rfl (aY (aC (aQ (cW (aM ?_)))))
   obtain ⟨b,c1,a⟩:=aD a
   have f2:=cY b0 (i:=0) rfl c1
   refine aF (dW cK rfl f2 d3 rfl b9 c1) (aF (tL (t:=0) (vs:=[i64 b.F,i64 b.B,i64 b.To]) lU b0 (i:=0) rfl c1 rfl rfl rfl rfl) (bS (vs:=[i64 0,i64 0,i64 0]) Tryz.zeroValue63 b0 rfl (fun f3 h4 f4=>(bR (i:=0) (ns:=[i64 b.F,i64 b.B,i64 b.To]) (us:=[i64 b.F,i64 b.B,i64 b.To]) Tryz.sizeOf63 f4 rfl rfl rfl rfl rfl (cX rfl) rfl rfl (fun f5 (f6:aK G K (box f3 63 [i64 b.F,i64 b.B,i64 b.To]::aN 63 K Z a0 q::aN 2 K j l e::iD c r::aN 160 K m n g::box b2 323 [zS j e.length l,zM (some c),zS m g.length n,Value.func (.func 255) #[] #[dC a8 o]]::box b1 321 V::L) f5)=>(aI ?_))))))
   obtain ⟨d5,u,d6,d7,f7⟩:=aK.lendB (i:=0) f6 rfl
   refine gA (C:=fun w'=>∃ L',aK G d5 L' w') [(0,0),(1,0),(2,0),(3,0),(4,0),(5,0),(6,0),(7,0),(8,0),(9,1)] bT (by kernel_rfl) (fun _ hg=>⟨_,aK.mono d7 hg⟩) (fun f8 f9=>?_)
   have h:=aK.mono d7 f9
   refine bZ rfl (fun _ _=>aZ d1) (bZ rfl (fun _ _=>cR (k':=J+2) eG d2 (b6.mono u) rfl) (bZ rfl (fun _ ⟨_,h⟩=>bK (t:=2) iT h (b6.mono u) rfl rfl) (bZ rfl (fun _ _=>bL (t':=1) iF rfl rfl) (bZ rfl (fun _ ⟨_,h⟩=>bK (t:=1) cV h d6 rfl rfl) ?_))))
   obtain ⟨d8,d9,a⟩:=aD a
   refine bZ rfl (fun _ _=>dN cF rfl (b7.mono u) rfl rfl rfl d9) ?_
   obtain ⟨h5,g0,g1⟩:=dB.el (sz:=1) rfl b7 d9
   cases g1
   refine bZ rfl (fun _ ⟨_,h⟩=>bK (t:=0) mV h (g0.mono u) rfl rfl) (bZ rfl (fun _ _=>bL (t':=2) gX rfl rfl) (bZ rfl (fun _ ⟨_,h⟩=>bK (t:=2) cV h d6 rfl rfl) (kD rfl ?_)))
   have g2:aK G d5 (aN 2 K j l e::iD c r::aN 160 K m n g::box b2 323 [zS j e.length l,zM (some c),zS m g.length n,Value.func (.func 255) #[] #[dC a8 o]]::box b1 321 V::aN 63 K Z a0 q::L) f8:=(aK.arr 6 [1,2,3,4,5,0] h rfl)
   obtain ⟨c2,g3,a⟩:=aD a
   refine oP (vs:=[str d8,i64 b.To]) (caps:=[zP (some ⟨b1,0,none⟩),dC a14 x]) (us:=[str d8,i64 b.To,zP (some ⟨b1,0,none⟩),dC a14 x]) rfl Tryz.call315 rfl rfl (aBF g2 (e1.mono u) (e2.mono u) (e3.mono u) g3) ?_
   rintro _ h6 ⟨g4,g5,g6,g7,rfl,e0⟩
   refine bA (aC ⟨⟨_,e0⟩,?_⟩)
   refine lY ?_
   have g8:=f7 _ _ e0
   exact bG (aC (aS (aF (cQ b9 rfl) (aP (v:=i64 (wr (y+1))) (aI ⟨(c2.1,c2.2.1,c2.2.2,wr (y+1)),(zI a).symm,g4,g5,g6,g7,d1,d2,d3,d4,rfl,(aK.arr 7 [6,1,2,3,4,5] g8 rfl)⟩)))))
  ·refine aL c0 rfl (cB (aV (aV ?_)))
   have g9:=f1 _ (zI a).symm
   subst g9
   have d:(jN e r g)=some R:=d
   exact bJ (aC ⟨e,r,g,j,l,m,n,d,(aK.arr 4 [3,1,2] b0 rfl)⟩)
theorem aCP {e9:Int} {f0:(List Int)} {l:Nat} {c2:cN} {k8:Nat} {R:(cN × (List Int) × Bool)} (hs:aK G K (L) w) (hG:G.lo=0) (h3:kR K a1 l [zS a4 f0.length c5]) (h6:dB K a4 c5 f0) (h9:kR K a7 k8 (zC c2 a10 c11 a13 c14)) (m6:dB K a10 c11 c2.L) (m7:dB K a13 c14 c2.E) (c:nR e9 f0 c2=some R):
  Calls Tryz.prog 256 ([i64 e9,Value.func (.func 255) #[] #[dC a1 l],Value.func (.func 257) #[] #[dC a7 k8]]:List Value).toArray w (iK fun v w'=>∃ (i1:Option Addr) (i2:Nat) (i3:Option Addr) (i4:Nat) (i5:Option Addr) (i6:Nat),v=zT #[zA (zCa R.1 i1 i2 i3 i4),zS i5 R.2.1.length i6,zB R.2.2]∧aK G K (aN 9 K i1 i2 R.1.L::aN 63 K i3 i4 R.1.E::aN 2 K i5 i6 R.2.1::L) w'):=by
 let h:=zG
 refine aX Tryz.func256 rfl (by kernel_rfl) (by show (3:Nat)≤73;decide) ?_
 unfold nR at c
 refine aM (bS (vs:=h) Tryz.zeroValue29 hs rfl (fun n z0 m8=>(aH (v:=zS none 0 0) (aH (v:=zB false) (aI (aM (aES bB Int m8 ?_)))))))
 intro a m9 (n0:aK G K (iD a ([]:(List (bB × Int)))::box n 29 h::L) m9)
 refine aP (v:=Value.func (.func 255) #[] #[dC a1 l]) (aF (fD (vs:=[(1,zM (some a)),(3,Value.func (.func 255) #[] #[dC a1 l])]) (cs:=[zS none 0 0,zM (some a),zS none 0 0,Value.func (.func 255) #[] #[dC a1 l]]) bs_323 rfl (by kernel_rfl)) (gP (v:=zA #[zS none 0 0,zM (some a),zS none 0 0,Value.func (.func 255) #[] #[dC a1 l]]) (vs:=[zS none 0 0,zM (some a),zS none 0 0,Value.func (.func 255) #[] #[dC a1 l]]) n0 rfl rfl (fun b z1 n1=>(bS (vs:=[zP none]) Tryz.zeroValue321 n1 rfl (fun m z2 n2=>(bR (i:=0) (ns:=[zP (some ⟨b,0,none⟩)]) (us:=[zP (some ⟨b,0,none⟩)]) Tryz.sizeOf321 n2 rfl rfl rfl rfl rfl (cX rfl) rfl rfl ?_))))))
 intro i7 (i8:aK G K (box m 321 [zP (some ⟨b,0,none⟩)]::box b 323 [zS none 0 0,zM (some a),zS none 0 0,Value.func (.func 255) #[] #[dC a1 l]]::iD a ([]:(List (bB × Int)))::box n 29 h::L) i7)
 refine aI (aM (aF (cC aBc i8 (i:=0) rfl rfl rfl) (aP (v:=i64 e9) ?_)))
 have n3:=aK.nil (α:=Int) i8 2 K
 have n4:=aK.nil (α:=iC) n3 160 K
 have n5:aK G K (aN 2 K none 0 ([]:List Int)::iD a ([]:(List (bB × Int)))::aN 160 K none 0 ([]:List iC)::box b 323 [zS none 0 0,zM (some a),zS none 0 0,Value.func (.func 255) #[] #[dC a1 l]]::box m 321 [zP (some ⟨b,0,none⟩)]::box n 29 h::L) i7:=(aK.arr 5 [1,4,0,3,2] n4 rfl)
 obtain ⟨f6,n6,c⟩:=aD c
 refine aU (vs:=[zP (some ⟨b,0,none⟩),i64 e9]) Tryz.call314 rfl (kK n5 h3 h6 n6) ?_
 rintro _ z3 ⟨f7,f8,rfl,n7⟩
 refine aI (aQ (aM (bS (vs:=[i64 0]) Tryz.zeroValue3 n7 rfl (fun i9 z4 n8=>(bR (i:=0) (ns:=[i64 0]) (us:=[i64 0]) Tryz.sizeOf3 n8 rfl rfl rfl rfl rfl (cX rfl) rfl rfl (fun n9 (o0:aK G K (box i9 3 [i64 0]::aN 2 K f7 f8 f6.2.1::iD a f6.2.2::aN 160 K none 0 ([]:List iC)::box b 323 [zS f7 f6.2.1.length f8,zM (some a),zS none 0 0,Value.func (.func 255) #[] #[dC a1 l]]::box m 321 [zP (some ⟨b,0,none⟩)]::box n 29 h::L) n9)=>(aI (bE (fun f w=>∃ (o:List Int) (c3:(List (bB × Int))) (p:List iC) (Z:Option Addr) (a0:Nat) (x:Option Addr) (y:Nat),jO o c3 p=some R∧f 6=zP (some ⟨n,0,none⟩)∧f 9=zP (some ⟨m,0,none⟩)∧aK G K (aN 160 K x y p::aN 2 K Z a0 o::iD a c3::box b 323 [zS Z o.length a0,zM (some a),zS x p.length y,Value.func (.func 255) #[] #[dC a1 l]]::box m 321 [zP (some ⟨b,0,none⟩)]::box n 29 h::L) w) ?_ ?_))))))))
 ·rintro f z5 ⟨o,c3,p,Z,a0,x,y,c,f9,d3,o1⟩
  unfold jO at c
  refine aC (aQ (dF (fun f w=>∃ (b1:Int) (b2:Int) (a2:List bB) (a3:List Edge) (g0:Nat) (a5:Option Addr) (a6:Nat) (a8:Option Addr) (a9:Nat),nP o b1 b2 a2 a3=some R∧f 6=zP (some ⟨n,0,none⟩)∧f 9=zP (some ⟨m,0,none⟩)∧f 12=zP (some ⟨g0,0,none⟩)∧aK G K (aN 63 K a8 a9 a3::aN 9 K a5 a6 a2::box g0 29 [i64 b1,i64 b2,zS a5 a2.length a6,zS a8 a3.length a9]::aN 160 K x y p::aN 2 K Z a0 o::iD a c3::box b 323 [zS Z o.length a0,zM (some a),zS x p.length y,Value.func (.func 255) #[] #[dC a1 l]]::box m 321 [zP (some ⟨b,0,none⟩)]::box n 29 h::L) w) ?_ ?_))
  ·rintro f z6 ⟨b1,b2,a2,a3,g0,a5,a6,a8,a9,c,j0,o2,j1,o3⟩
   unfold nP at c
   refine aC (aQ ?_)
   obtain ⟨z7,j2,j3,o4,o5⟩:=aK.lendB (i:=2) o3 rfl
   obtain ⟨z8,f1,o6,o7,o8⟩:=aK.lendB (i:=5) o4 rfl
   obtain ⟨j4,d4,o9,j5,p0⟩:=aK.lendB (i:=5) o7 rfl
   refine gA (C:=fun w'=>∃ L',aK G j4 L' w') [(0,0),(1,0),(2,0),(3,0),(4,0),(5,1),(6,1),(7,1),(8,2),(9,2)] bT (by kernel_rfl) (fun _ hg=>⟨_,aK.mono j5 hg⟩) (fun z9 p1=>?_)
   have b7:=aK.mono j5 p1
   refine bZ rfl (fun _ ⟨_,b7⟩=>fZ (t:=0) (vs:=[i64 b1,i64 b2,zS a5 a2.length a6,zS a8 a3.length a9]) dI b7 (j3.mono (zL f1 d4)) j1 rfl rfl) (bZ rfl (fun _ ⟨_,b7⟩=>bK (t:=0) aBc b7 o9 o2 rfl) (bZ rfl (fun _ _=>iM rfl) (bZ rfl (fun _ _=>bL (t':=0) zQ rfl rfl) (bZ rfl (fun _ ⟨_,b7⟩=>bK (t:=0) zN b7 (o6.mono d4) rfl rfl) (kD rfl (aF (fZ (t:=0) (vs:=[i64 b1,i64 b2,zS a5 a2.length a6,zS a8 a3.length a9]) dI b7 (j3.mono (zL f1 d4)) j1 rfl rfl) (bA (aC ⟨⟨_,b7⟩,?_⟩))))))))
   refine kD rfl ?_
   obtain ⟨K88,p2,p3,p4,p5⟩:=aK.lendS (i:=1) b7 (zL (zL j2 f1) d4) rfl
   obtain ⟨K93,p6,p7,p8,p9⟩:=aK.lendS (i:=0) p4 (zL (zL (zL j2 f1) d4) p2) rfl
   obtain ⟨q0,q1,c⟩:=aD c
   refine aU (vs:=[zA #[i64 b1,i64 b2,zS a5 a2.length a6,zS a8 a3.length a9]]) Tryz.call31 rfl (nE (t:=⟨b1,b2,a2,a3⟩) p8 hG (p3.mono p6) p7 q1) ?_
   rintro _ a02 ⟨rfl,q2⟩
   have q3:=p9 _ _ q2
   have j6:=p5 _ _ q3
   refine bA (aC ⟨⟨_,j6⟩,?_⟩)
   refine kD rfl (bR (i:=5) (ns:=[i64 b1,i64 b2,zS a5 a2.length a6,zS a8 a3.length a9]) (us:=[i64 b1,i64 b2,zS a5 a2.length a6,zS a8 a3.length a9]) Tryz.sizeOf29 j6 rfl j0 rfl rfl rfl (cX rfl) rfl rfl (fun q4 (j7:aK G j4 (aN 9 K a5 a6 a2::aN 63 K a8 a9 a3::aN 160 K x y p::aN 2 K Z a0 o::iD a c3::box n 29 [i64 b1,i64 b2,zS a5 a2.length a6,zS a8 a3.length a9]::L) q4)=>(bA (aC ⟨⟨_,j7⟩,?_⟩))))
   have q5:=p0 _ _ j7
   have q6:=o8 _ _ q5
   have j8:=o5 _ _ q6
   refine aFy rfl (aH (v:=zS Z o.length a0) (aI (aFy rfl (aH (v:=zB q0) (aI (lY (aC ?_)))))))
   obtain rfl:=zI c
   exact bH (yO Tryz.results256 (dZ (vs:=[i64 b1,i64 b2,zS a5 a2.length a6,zS a8 a3.length a9]) rfl dI j8 (i:=8) rfl j0 rfl) (gW rfl rfl) (gW rfl rfl) ⟨a5,a6,a8,a9,Z,a0,rfl,(aK.arr 9 [3,4,6] j8 rfl)⟩)
  obtain ⟨a03,c4,g1,q8,g2⟩:=aK.lendB (i:=3) o1 rfl
  obtain ⟨q9,b3,g3,r0,g4⟩:=aK.lendB (i:=3) q8 rfl
  refine sM (C:=fun w'=>∃ L',aK G q9 L' w') [16] bT (by kernel_rfl) (fun a04 r1=>?_)
  have e:=aK.mono r0 r1
  refine dP (i:=0) rfl (by kernel_rfl) ⟨_,e⟩ (fun _ ⟨_,e⟩=>bK (t:=0) aBc e g3 d3 rfl) (dP (i:=1) rfl (by kernel_rfl) ⟨_,e⟩ (fun _ _=>iM rfl) (dP (i:=2) rfl (by kernel_rfl) ⟨_,e⟩ (fun _ _=>bL (t':=0) zQ rfl rfl) (dP (i:=3) rfl (by kernel_rfl) ⟨_,e⟩ (fun _ ⟨_,e⟩=>bK (t:=0) zN e (g1.mono b3) rfl rfl) (dP (i:=4) rfl (by kernel_rfl) ⟨_,e⟩ (fun _ _=>bN (len:=o.length) bY rfl) (dP (i:=5) rfl (by kernel_rfl) ⟨_,e⟩ (fun _ ⟨_,e⟩=>bK (t:=0) aBc e g3 d3 rfl) (dP (i:=6) rfl (by kernel_rfl) ⟨_,e⟩ (fun _ _=>iM rfl) (dP (i:=7) rfl (by kernel_rfl) ⟨_,e⟩ (fun _ _=>bL (t':=2) aCi rfl rfl) (dP (i:=8) rfl (by kernel_rfl) ⟨_,e⟩ (fun _ ⟨_,e⟩=>bK (t:=2) aBX e (g1.mono b3) rfl rfl) (dP (i:=10) rfl (by kernel_rfl) ⟨_,e⟩ (fun _ ⟨_,e⟩=>bK (t:=0) aBc e g3 d3 rfl) (dP (i:=11) rfl (by kernel_rfl) ⟨_,e⟩ (fun _ _=>iM rfl) (dP (i:=12) rfl (by kernel_rfl) ⟨_,e⟩ (fun _ _=>bL (t':=2) aCi rfl rfl) (dP (i:=13) rfl (by kernel_rfl) ⟨_,e⟩ (fun _ ⟨_,e⟩=>bK (t:=2) aBX e (g1.mono b3) rfl rfl) (oJ (i:=9) (j:=15) (by kernel_rfl) rfl rfl ?_ ?_)))))))))))))
  ·obtain ⟨a05,a06,r2,r3,r4⟩:=aK.lendS (i:=0) e (zL c4 b3) rfl
   obtain ⟨f2,r5,c⟩:=aD c
   refine aU (vs:=[zS x p.length y]) Tryz.call182 rfl (vE r3 r2 r5) ?_
   rintro _ a07 ⟨f3,f4,rfl,r6⟩
   have g5:=r4 _ _ r6
   refine bA (aC ⟨fun _=>⟨_,g5⟩,?_⟩)
   refine oJ (i:=14) (j:=15) (by kernel_rfl) rfl rfl ?_ ?_
   ·obtain ⟨a08,r7,r8,r9,s0⟩:=aK.lendS (i:=1) g5 (zL c4 b3) rfl
    obtain ⟨a09,s1,s2,s3,s4⟩:=aK.lendS (i:=0) r9 (zL (zL c4 b3) r7) rfl
    obtain ⟨q,s5,c⟩:=aD c
    refine aU (vs:=[i64 (o.length:Int),i64 0,zS f3 f2.length f4,zS x p.length y]) Tryz.call118 rfl (sG s3 (r8.mono s1) s2 s5) ?_
    rintro _ a11 ⟨d5,d6,d7,d8,rfl,s6⟩
    have s7:=s4 _ _ s6
    have j9:=s0 _ _ s7
    refine bA (aC ⟨fun _=>⟨_,j9⟩,?_⟩)
    refine cL (i:=15) (by kernel_rfl) rfl (bS (vs:=h) Tryz.zeroValue29 j9 rfl (fun k0 a12 k1=>(bA (aC ⟨fun _=>⟨_,k1⟩,?_⟩))))
    refine cL (i:=16) (by kernel_rfl) rfl ?_
    have s8:=g4 _ _ k1
    have s9:=g2 _ _ s8
    refine bR (i:=2) (ns:=(zC q d5 d6 d7 d8)) (us:=(zC q d5 d6 d7 d8)) Tryz.sizeOf29 s9 rfl rfl rfl rfl rfl (cX rfl) rfl rfl (fun t0 (t1:aK G K (box b 323 [zS Z o.length a0,zM (some a),zS x p.length y,Value.func (.func 255) #[] #[dC a1 l]]::box m 321 [zP (some ⟨b,0,none⟩)]::box k0 29 (zC q d5 d6 d7 d8)::aN 9 K f3 f4 f2::aN 160 K x y p::aN 9 K d5 d6 q.L::aN 63 K d7 d8 q.E::aN 2 K Z a0 o::iD a c3::box n 29 h::L) t0)=>(bA (aC ⟨no_c rfl,?_⟩)))
    exact iY (by kernel_rfl) (aC ⟨q.N,q.I,q.L,q.E,k0,d5,d6,d7,d8,c,f9,d3,rfl,(aK.arr 9 [6,5,2,4,7,8,0,1] t1 rfl)⟩)
   ·refine bS (vs:=h) Tryz.zeroValue29 g5 rfl (fun k3 a14 k4=>(bA (aC ⟨fun _=>⟨_,k4⟩,?_⟩)))
    refine cL (i:=14) (by kernel_rfl) rfl ?_
    obtain ⟨a15,t2,t3,t4,t5⟩:=aK.lendS (i:=2) k4 (zL c4 b3) rfl
    obtain ⟨a16,t6,t7,t8,t9⟩:=aK.lendS (i:=1) t4 (zL (zL c4 b3) t2) rfl
    obtain ⟨r,u0,c⟩:=aD c
    refine aU (vs:=[i64 (o.length:Int),i64 0,zS f3 f2.length f4,zS x p.length y]) Tryz.call118 rfl (sG t8 (t3.mono t6) t7 u0) ?_
    rintro _ a17 ⟨d9,e0,e1,e2,rfl,u1⟩
    have u2:=t9 _ _ u1
    have k5:=t5 _ _ u2
    refine bA (aC ⟨fun _=>⟨_,k5⟩,?_⟩)
    refine cL (i:=16) (by kernel_rfl) rfl ?_
    have u3:=g4 _ _ k5
    have u4:=g2 _ _ u3
    refine bR (i:=6) (ns:=(zC r d9 e0 e1 e2)) (us:=(zC r d9 e0 e1 e2)) Tryz.sizeOf29 u4 rfl rfl rfl rfl rfl (cX rfl) rfl rfl (fun u5 (u6:aK G K (box b 323 [zS Z o.length a0,zM (some a),zS x p.length y,Value.func (.func 255) #[] #[dC a1 l]]::box m 321 [zP (some ⟨b,0,none⟩)]::aN 9 K f3 f4 f2::aN 160 K x y p::aN 9 K d9 e0 r.L::aN 63 K e1 e2 r.E::box k3 29 (zC r d9 e0 e1 e2)::aN 2 K Z a0 o::iD a c3::box n 29 h::L) u5)=>(bA (aC ⟨no_c rfl,?_⟩)))
    exact iY (by kernel_rfl) (aC ⟨r.N,r.I,r.L,r.E,k3,d9,e0,e1,e2,c,f9,d3,rfl,(aK.arr 9 [5,4,6,3,7,8,0,1] u6 rfl)⟩)
  ·refine bS (vs:=h) Tryz.zeroValue29 e rfl (fun k6 a18 k7=>(bA (aC ⟨fun _=>⟨_,k7⟩,?_⟩)))
   refine cL (i:=9) (by kernel_rfl) rfl ?_
   obtain ⟨a19,a20,u7,u8,u9⟩:=aK.lendS (i:=1) k7 (zL c4 b3) rfl
   obtain ⟨k9,v0,c⟩:=aD c
   refine aU (vs:=[zS x p.length y]) Tryz.call182 rfl (vE u8 u7 v0) ?_
   rintro _ a21 ⟨l0,l1,rfl,v1⟩
   have l2:=u9 _ _ v1
   refine bA (aC ⟨fun _=>⟨_,l2⟩,?_⟩)
   refine cL (i:=14) (by kernel_rfl) rfl ?_
   obtain ⟨a22,v2,v3,v4,v5⟩:=aK.lendS (i:=1) l2 (zL c4 b3) rfl
   obtain ⟨a23,v6,v7,v8,v9⟩:=aK.lendS (i:=0) v4 (zL (zL c4 b3) v2) rfl
   obtain ⟨u,w0,c⟩:=aD c
   refine aU (vs:=[i64 (o.length:Int),i64 0,zS l0 k9.length l1,zS x p.length y]) Tryz.call118 rfl (sG v8 (v3.mono v6) v7 w0) ?_
   rintro _ a24 ⟨e3,e4,e5,e6,rfl,w1⟩
   have w2:=v9 _ _ w1
   have l3:=v5 _ _ w2
   refine bA (aC ⟨fun _=>⟨_,l3⟩,?_⟩)
   refine cL (i:=16) (by kernel_rfl) rfl ?_
   have w3:=g4 _ _ l3
   have w4:=g2 _ _ w3
   refine bR (i:=6) (ns:=(zC u e3 e4 e5 e6)) (us:=(zC u e3 e4 e5 e6)) Tryz.sizeOf29 w4 rfl rfl rfl rfl rfl (cX rfl) rfl rfl (fun w5 (w6:aK G K (box b 323 [zS Z o.length a0,zM (some a),zS x p.length y,Value.func (.func 255) #[] #[dC a1 l]]::box m 321 [zP (some ⟨b,0,none⟩)]::aN 9 K l0 l1 k9::aN 160 K x y p::aN 9 K e3 e4 u.L::aN 63 K e5 e6 u.E::box k6 29 (zC u e3 e4 e5 e6)::aN 2 K Z a0 o::iD a c3::box n 29 h::L) w5)=>(bA (aC ⟨no_c rfl,?_⟩)))
   exact iY (by kernel_rfl) (aC ⟨u.N,u.I,u.L,u.E,k6,e3,e4,e5,e6,c,f9,d3,rfl,(aK.arr 9 [5,4,6,3,7,8,0,1] w6 rfl)⟩)
 have w7:=aK.nil (α:=iC) o0 160 K
 obtain ⟨a25,w8,c⟩:=aD c
 refine cD w8 (fun (s:(List Int × (List (bB × Int)) × List iC × Int)) f w=>match s with|(b4,d0,b6,z)=>∃ (c6:Option Addr) (c7:Nat) (c8:Option Addr) (c9:Nat) (b0:Nat),f 2=Value.func (.func 257) #[] #[dC a7 k8]∧f 6=zP (some ⟨n,0,none⟩)∧f 9=zP (some ⟨m,0,none⟩)∧f 10=zP (some ⟨b0,0,none⟩)∧aK G K (aN 160 K c8 c9 b6::box b0 3 [i64 z]::aN 2 K c6 c7 b4::iD a d0::box b 323 [zS c6 b4.length c7,zM (some a),zS c8 b6.length c9,Value.func (.func 255) #[] #[dC a1 l]]::box m 321 [zP (some ⟨b,0,none⟩)]::box n 29 h::L) w) ?_ ?_
 ·exact ⟨f7,f8,none,0,i9,rfl,rfl,rfl,rfl,(aK.arr 5 [0,1,2,3] w7 rfl)⟩
 ·rintro ⟨b4,d0,b6,z⟩ l4 f a26 k l5 ⟨c6,c7,c8,c9,b0,g6,g7,d1,e7,b5⟩
  replace k:eH f0 c2 b4 d0 b6 z=some l4:=k
  unfold eH at k
  refine aQ (aQ (dR (C:=fun w'=>aK G K (aN 160 K c8 c9 b6::box b0 3 [i64 z]::aN 2 K c6 c7 b4::iD a d0::box b 323 [zS c6 b4.length c7,zM (some a),zS c8 b6.length c9,Value.func (.func 255) #[] #[dC a1 l]]::box m 321 [zP (some ⟨b,0,none⟩)]::box n 29 h::L) w') bT (by kernel_rfl) (aK.mono b5 (dQ.drew _)) (aW (fun _ b5=>cC sc_3 b5 (i:=1) rfl e7 rfl) (aW (fun _ b5=>cC aBc b5 (i:=5) rfl d1 rfl) (aW (fun _ b5=>iM rfl) (aW (fun _ b5=>bL (t':=0) zQ rfl rfl) (aW (fun _ b5=>cC zN b5 (i:=4) rfl rfl rfl) (aW (fun _ b5=>bN (len:=b4.length) bY rfl) (aW (fun _ b5=>cG rfl rfl) (eF (fun a27 l6=>(aC ?_))))))))))))
  rcases aJ k with ⟨g8,k⟩|⟨g8,k⟩
  ·refine aO g8 rfl (aY (aC (aQ (cW (aQ ?_)))))
   obtain ⟨l7,e8,l8,w9,x0⟩:=aK.lendB (i:=1) l6 rfl
   refine sM (C:=fun w'=>∃ L',aK G l7 L' w') [] bT (by kernel_rfl) (fun x1 x2=>?_)
   have J:=aK.mono w9 x2
   refine dP (i:=0) rfl (by kernel_rfl) ⟨_,J⟩ (fun _ _=>aZ g6) (dP (i:=5) rfl (by kernel_rfl) ⟨_,J⟩ (fun _ ⟨_,J⟩=>bK (t:=0) sc_3 J l8 e7 rfl) (dP (i:=8) rfl (by kernel_rfl) ⟨_,J⟩ (fun _ _=>vG (vs:=[zP (some ⟨m,0,none⟩),zP (some ⟨b0,0,none⟩)]) (lst2 d1 e7)) (cL (i:=1) (by kernel_rfl) rfl (aF (cC aBc J (i:=4) rfl d1 rfl) (bA (aC ⟨fun _=>⟨_,J⟩,?_⟩))))))
   refine dP (i:=2) rfl (by kernel_rfl) ⟨_,J⟩ (fun _ _=>iM rfl) (dP (i:=3) rfl (by kernel_rfl) ⟨_,J⟩ (fun _ _=>bL (t':=0) zQ rfl rfl) (cL (i:=4) (by kernel_rfl) rfl (aF (cC zN J (i:=3) rfl rfl rfl) (bA (aC ⟨fun _=>⟨_,J⟩,?_⟩)))))
   obtain ⟨l9,g9,k⟩:=aD k
   have x3:=cY J (i:=1) rfl g9
   refine dP (i:=6) rfl (by kernel_rfl) ⟨_,J⟩ (fun _ _=>dW bY rfl x3 rfl rfl rfl g9) (cL (i:=7) (by kernel_rfl) rfl (aF (jL (t:=0) cV J (i:=1) rfl g9 rfl rfl rfl) (bA (aC ⟨fun _=>⟨_,J⟩,?_⟩))))
   refine cL (i:=9) (by kernel_rfl) rfl ?_
   have x4:aK G l7 (aN 2 K c6 c7 b4::iD a d0::aN 160 K c8 c9 b6::box b 323 [zS c6 b4.length c7,zM (some a),zS c8 b6.length c9,Value.func (.func 255) #[] #[dC a1 l]]::box m 321 [zP (some ⟨b,0,none⟩)]::box n 29 h::L) x1:=(aK.arr 3 [1,2,0] J rfl)
   obtain ⟨d,x5,k⟩:=aD k
   refine oP (vs:=[i64 l9,Value.func (.func 315) #[] #[zP (some ⟨m,0,none⟩),dC (some ⟨b0,0,none⟩) 0]]) (caps:=[dC a7 k8]) (us:=[i64 l9,Value.func (.func 315) #[] #[zP (some ⟨m,0,none⟩),dC (some ⟨b0,0,none⟩) 0],dC a7 k8]) rfl Tryz.call257 rfl rfl (aBG x4 (h3.mono e8) (h6.mono e8) l8 (h9.mono e8) (m6.mono e8) (m7.mono e8) x5) ?_
   rintro _ a28 ⟨b8,b9,c0,c1,rfl,h0⟩
   refine bA (aC ⟨fun _=>⟨_,h0⟩,?_⟩)
   refine dP (i:=10) rfl (by kernel_rfl) ⟨_,h0⟩ (fun _ _=>dH (v:=zB d.1) rfl) (iY (by kernel_rfl) ?_)
   have f5:=x0 _ _ h0
   refine aC (aQ (dF (fun f w=>∃ (h1:Bool),lE z d h1=some l4∧f 2=Value.func (.func 257) #[] #[dC a7 k8]∧f 6=zP (some ⟨n,0,none⟩)∧f 9=zP (some ⟨m,0,none⟩)∧f 10=zP (some ⟨b0,0,none⟩)∧f 48=zB h1∧aK G K (box b0 3 [i64 z]::aN 2 K b8 b9 d.2.1::iD a d.2.2.1::aN 160 K c0 c1 d.2.2.2::box b 323 [zS b8 d.2.1.length b9,zM (some a),zS c0 d.2.2.2.length c1,Value.func (.func 255) #[] #[dC a1 l]]::box m 321 [zP (some ⟨b,0,none⟩)]::box n 29 h::L) w) ?_ ?_))
   ·rintro f a29 ⟨h1,k,x6,h2,x7,x8,m0,h4⟩
    unfold lE at k
    refine aC ?_
    rcases aJ k with ⟨h5,k⟩|⟨h5,k⟩
    ·refine aO h5 m0 (aM (aF (fD (vs:=[]) (cs:=h) tI rfl (by kernel_rfl)) (bR (i:=6) (ns:=h) (us:=h) Tryz.sizeOf29 h4 rfl h2 rfl rfl rfl (cX rfl) rfl rfl (fun x9 (y0:aK G K (box b0 3 [i64 z]::aN 2 K b8 b9 d.2.1::iD a d.2.2.1::aN 160 K c0 c1 d.2.2.2::box b 323 [zS b8 d.2.1.length b9,zM (some a),zS c0 d.2.2.2.length c1,Value.func (.func 255) #[] #[dC a1 l]]::box m 321 [zP (some ⟨b,0,none⟩)]::box n 29 h::L) x9)=>(aH (v:=zS none 0 0) (aH (v:=zB false) (aI (bH (bQ (aR (aR ?_)))))))))))
     have y1:=l5 _ (zI k).symm
     subst y1
     have c:(some (⟨0,0,[],[]⟩,[],false))=some R:=c
     have y2:=aK.nil (α:=bB) y0 9 K
     have y3:=aK.nil (α:=Edge) y2 63 K
     have m1:=aK.nil (α:=Int) y3 2 K
     obtain rfl:=zI c
     exact bQ (aR (aR (yO Tryz.results256 (dZ (vs:=h) rfl dI m1 (i:=9) rfl h2 rfl) (gW rfl rfl) (gW rfl rfl) ⟨none,0,none,0,none,0,rfl,(aK.arr 10 [2,1,0] m1 rfl)⟩)))
    ·exact aL h5 m0 (aY (bG (aC (aQ (aM (aF (cC sc_3 h4 (i:=0) rfl x8 rfl) (aI (aS (bS (vs:=[i64 0]) Tryz.zeroValue3 h4 rfl (fun h7 a30 y5=>(bR (i:=0) (ns:=[i64 z]) (us:=[i64 z]) Tryz.sizeOf3 y5 rfl rfl rfl rfl rfl (cX rfl) rfl rfl (fun y6 (m2:aK G K (box h7 3 [i64 z]::box b0 3 [i64 z]::aN 2 K b8 b9 d.2.1::iD a d.2.2.1::aN 160 K c0 c1 d.2.2.2::box b 323 [zS b8 d.2.1.length b9,zM (some a),zS c0 d.2.2.2.length c1,Value.func (.func 255) #[] #[dC a1 l]]::box m 321 [zP (some ⟨b,0,none⟩)]::box n 29 h::L) y6)=>(aI (aS (aF (cC sc_3 m2 (i:=0) rfl rfl rfl) (aF (cQ rfl rfl) (bR (i:=0) (ns:=[i64 (wr (z+1))]) (us:=[i64 (wr (z+1))]) Tryz.sizeOf3 m2 rfl rfl rfl rfl rfl (cX rfl) rfl rfl (fun y7 (y8:aK G K (box h7 3 [i64 (wr (z+1))]::box b0 3 [i64 z]::aN 2 K b8 b9 d.2.1::iD a d.2.2.1::aN 160 K c0 c1 d.2.2.2::box b 323 [zS b8 d.2.1.length b9,zM (some a),zS c0 d.2.2.2.length c1,Value.func (.func 255) #[] #[dC a1 l]]::box m 321 [zP (some ⟨b,0,none⟩)]::box n 29 h::L) y7)=>(aI ⟨(d.2.1,d.2.2.1,d.2.2.2,wr (z+1)),(zI k).symm,b8,b9,c0,c1,h7,x6,h2,x7,rfl,(aK.arr 5 [4,0,2,3] y8 rfl)⟩)))))))))))))))))))
   refine aS (aP (v:=zB d.1) (aF (fC rfl) (aP (v:=zB (!d.1)) ?_)))
   rcases aJ k with ⟨V,k⟩|⟨V,k⟩
   ·exact bC V rfl rfl (bC V rfl rfl (bC V rfl rfl (bC V rfl rfl (bC V rfl rfl (bC V rfl rfl (aF (bO (v:=zB true) V rfl rfl) (aI ⟨true,k,g6,g7,d1,e7,rfl,f5⟩)))))))
   ·exact bP V rfl rfl (aF (cC aBc f5 (i:=5) rfl d1 rfl) (bP V rfl rfl (aF (iM rfl) (bP V rfl rfl (aF (bL (t':=0) zQ rfl rfl) (bP V rfl rfl (aF (cC zN f5 (i:=4) rfl rfl rfl) (bP V rfl rfl (aF (bN (len:=d.2.1.length) bY rfl) (bP V rfl rfl (aF (oM rfl rfl) (aF (bV (v:=zB (decide (40 < (d.2.1.length:Int)))) V rfl rfl) (aI ⟨decide (40 < (d.2.1.length:Int)),k,g6,g7,d1,e7,rfl,f5⟩)))))))))))))
  ·refine aL g8 rfl (cB (aV (aV ?_)))
   have y9:=l5 _ (zI k).symm
   subst y9
   have c:(jO b4 d0 b6)=some R:=c
   exact bJ (aC ⟨b4,d0,b6,c6,c7,c8,c9,c,g7,d1,(aK.arr 2 [0] l6 rfl)⟩)
theorem pV {t:cN} {c4:(List Int)} {R:(cN × (List Int))} (hs:aK G K (L) w) (hG:G.lo=0) (h3:dB K a1 c2 t.L) (h6:dB K a4 c5 t.E) (h9:dB K a7 c8 c4) (y:rE t c4=some R):
  Calls Tryz.prog 194 ([zA (zCa t a1 c2 a4 c5),zS a7 c4.length c8]:List Value).toArray w (iK fun v w'=>∃ (i1:Option Addr) (i2:Nat) (i3:Option Addr) (i4:Nat) (i5:Option Addr) (i6:Nat),v=zT #[zA (zCa R.1 i1 i2 i3 i4),zS i5 R.2.length i6]∧aK G K (aN 9 K i1 i2 R.1.L::aN 63 K i3 i4 R.1.E::aN 2 K i5 i6 R.2::L) w'):=by
 let o:=(zC t a1 c2 a4 c5)
 let q:=zG
 refine aX Tryz.func194 rfl (by kernel_rfl) (by show (2:Nat)≤77;decide) ?_
 unfold rE at y
 refine aM (gP (v:=zA (zCa t a1 c2 a4 c5)) (vs:=o) hs rfl rfl (fun g w8 l8=>(bS (vs:=q) Tryz.zeroValue29 l8 rfl (fun j w9 l9=>(aH (v:=zS none 0 0) (aI (aM (aP (v:=zS a7 c4.length c8) ?_))))))))
 obtain ⟨d6,m0,y⟩:=aD y
 refine aU (vs:=[zS a7 c4.length c8]) Tryz.call93 rfl (aEm l9 h9 m0) ?_
 rintro _ x0 ⟨c6,c7,rfl,m1⟩
 refine bS (vs:=[zS none 0 0]) Tryz.zeroValue38 m1 rfl (fun c x1 m2=>(bR (i:=0) (ns:=[zS c6 d6.length c7]) (us:=[zS c6 d6.length c7]) Tryz.sizeOf38 m2 rfl rfl rfl rfl rfl (cX rfl) rfl rfl (fun m3 (m4:aK G K (box c 38 [zS c6 d6.length c7]::aN 2 K c6 c7 d6::box j 29 q::box g 29 o::L) m3)=>(aI (aQ (bE (fun f w=>∃ (b1:List Int) (b2:Option Addr) (b3:Nat),lF t b1=some R∧f 2=zP (some ⟨g,0,none⟩)∧f 4=zP (some ⟨j,0,none⟩)∧f 6=zP (some ⟨c,0,none⟩)∧aK G K (aN 2 K b2 b3 b1::box c 38 [zS b2 b1.length b3]::box j 29 q::box g 29 o::L) w) ?_ ?_))))))
 ·rintro f x2 ⟨b1,b2,b3,y,i7,i8,m5,i9⟩
  unfold lF at y
  refine aC (aM (aF (vG (vs:=[zP (some ⟨c,0,none⟩)]) (lst1 m5)) (aH (v:=Value.func (.func 255) #[] #[zP (some ⟨c,0,none⟩)]) (aI (aM (aF (bL (t':=1) sN i7 rfl) (aF (cC cV i9 (i:=3) rfl rfl rfl) (aP (v:=Value.func (.func 255) #[] #[zP (some ⟨c,0,none⟩)]) (aF (vG (vs:=[zP (some ⟨g,0,none⟩)]) (lst1 i7)) ?_)))))))))
  obtain ⟨x3,j0,m6,m7,m8⟩:=aK.lendS (i:=0) i9 (zR _) rfl
  obtain ⟨x4,f1,m9,n0,n1⟩:=aK.lendB (i:=0) m7 rfl
  obtain ⟨x5,d7,n2,n3,n4⟩:=aK.lendB (i:=1) n0 rfl
  obtain ⟨a,n5,y⟩:=aD y
  refine aU (vs:=[i64 t.I,Value.func (.func 255) #[] #[dC (some ⟨c,0,none⟩) 0],Value.func (.func 257) #[] #[dC (some ⟨g,0,none⟩) 0]]) Tryz.call256 rfl (aCP n3 hG (m9.mono d7) (m6.mono (zL f1 d7)) n2 (h3.mono (zL (zL j0 f1) d7)) (h6.mono (zL (zL j0 f1) d7)) n5) ?_
  rintro _ x6 ⟨z,J,V,Z,b4,b5,rfl,n6⟩
  have n7:=n4 _ _ n6
  have n8:=n1 _ _ n7
  have n9:=m8 _ _ n8
  refine aP (v:=zT #[zA (zCa a.1 z J V Z),zS b4 a.2.1.length b5,zB a.2.2]) (aF (bM rfl rfl) (aF (bM rfl rfl) (aF (bM rfl rfl) (bS (vs:=q) Tryz.zeroValue29 n9 rfl (fun j1 x7 o0=>(bR (i:=0) (ns:=(zC a.1 z J V Z)) (us:=(zC a.1 z J V Z)) Tryz.sizeOf29 o0 rfl rfl rfl rfl rfl (cX rfl) rfl rfl (fun o1 (j2:aK G K (box j1 29 (zC a.1 z J V Z)::aN 2 K b2 b3 b1::box c 38 [zS b2 b1.length b3]::box g 29 o::aN 9 K z J a.1.L::aN 63 K V Z a.1.E::aN 2 K b4 b5 a.2.1::box j 29 q::L) o1)=>(aH (v:=zS b4 a.2.1.length b5) (aH (v:=zB a.2.2) (aI (aM (aF (dX (us:=(zC a.1 z J V Z)) dI j2 (i:=0) rfl rfl rfl rfl) (aP (v:=zS b4 a.2.1.length b5) (bR (i:=7) (ns:=(zC a.1 z J V Z)) (us:=(zC a.1 z J V Z)) Tryz.sizeOf29 j2 rfl i8 rfl rfl rfl (cX rfl) rfl rfl (fun o2 (j3:aK G K (box j1 29 (zC a.1 z J V Z)::aN 2 K b2 b3 b1::box c 38 [zS b2 b1.length b3]::box g 29 o::aN 9 K z J a.1.L::aN 63 K V Z a.1.E::aN 2 K b4 b5 a.2.1::box j 29 (zC a.1 z J V Z)::L) o2)=>(aH (v:=zS b4 a.2.1.length b5) (aI ?_)))))))))))))))))
  obtain rfl:=zI y
  exact bH (mT Tryz.results194 (dZ (vs:=(zC a.1 z J V Z)) rfl dI j3 (i:=7) rfl i8 rfl) (gW rfl rfl) ⟨z,J,V,Z,b4,b5,rfl,(aK.arr 8 [4,5,6] j3 rfl)⟩)
 obtain ⟨x8,o4,y⟩:=aD y
 refine cD o4 (fun (b:List Int) f w=>∃ (d:Option Addr) (e:Nat),f 2=zP (some ⟨g,0,none⟩)∧f 4=zP (some ⟨j,0,none⟩)∧f 6=zP (some ⟨c,0,none⟩)∧aK G K (box c 38 [zS d b.length e]::aN 2 K d e b::box j 29 q::box g 29 o::L) w) ?_ ?_
 ·exact ⟨c6,c7,rfl,rfl,rfl,m4⟩
 ·rintro b d8 f o5 p o6 ⟨d,e,j4,o7,o8,j5⟩
  replace p:fN t b=some d8:=p
  unfold fN at p
  refine bE (fun f w=>∃ (c9:List Int) (d9:Option Addr) (e0:Nat),nS c9=some d8∧f 2=zP (some ⟨g,0,none⟩)∧f 4=zP (some ⟨j,0,none⟩)∧f 6=zP (some ⟨c,0,none⟩)∧aK G K (aN 2 K d9 e0 c9::box c 38 [zS d9 c9.length e0]::box j 29 q::box g 29 o::L) w) ?_ ?_
  ·rintro f x9 ⟨c9,d9,e0,p,o9,p0,p1,p2⟩
   unfold nS at p
   exact aC ⟨c9,(zI p).symm,d9,e0,o9,p0,p1,(aK.arr 2 [1,0] p2 rfl)⟩
  refine aM (aH (v:=zS none 0 0) (aI (aQ (aM (aF (bL (t':=0) iZ j4 rfl) (aF (cC cV j5 (i:=3) rfl rfl rfl) (aP (v:=i64 0) (aI (bE (fun f w=>∃ (a6:List (List Int)) (d0:Option Addr) (d1:Nat) (c1:List (Dp.Hd (List Int))),lG b a6=some d8∧f 2=zP (some ⟨g,0,none⟩)∧f 4=zP (some ⟨j,0,none⟩)∧f 6=zP (some ⟨c,0,none⟩)∧f 7=zS d0 a6.length d1∧List.length c1=List.length a6∧aK G K (aN 38 K d0 d1 (dK c1 a6)::rows [2] c1 a6::box c 38 [zS d b.length e]::aN 2 K d e b::box j 29 q::box g 29 o::L) w) ?_ ?_)))))))))
  ·rintro f y0 ⟨a6,d0,d1,c1,p,j6,j7,e1,p3,p4,p5⟩
   unfold lG at p
   refine aC (aM (aT p3 ?_))
   obtain ⟨y1,y2,p6,y3,p7,p8⟩:=aK.lendD' (i:=0) p5 p4 rfl rfl
   obtain ⟨a8,p9,p⟩:=aD p
   refine aU (vs:=[zS d0 a6.length d1]) Tryz.call253 rfl (aFg p7 p6 p9) ?_
   rintro _ y4 ⟨a9,b0,rfl,q0⟩
   have j8:=p8 _ _ q0
   refine aH (v:=zS a9 a8.length b0) (aI (aQ (aM (aP (v:=zS a9 a8.length b0) (aF (cC zN j8 (i:=3) rfl e1 rfl) ?_)))))
   obtain ⟨y5,q1,q2,q3,q4⟩:=aK.lendS (i:=2) j8 (zR _) rfl
   obtain ⟨y6,q5,q6,q7,q8⟩:=aK.lendS (i:=3) q3 q1 rfl
   obtain ⟨y7,q9,p⟩:=aD p
   refine aU (vs:=[zS a9 a8.length b0,zS d b.length e]) Tryz.call254 rfl (mP q7 (q2.mono q5) q6 q9) ?_
   rintro _ y8 ⟨rfl,r0⟩
   have r1:=q8 _ _ r0
   have j9:=q4 _ _ r1
   refine aI ?_
   rcases aJ p with ⟨f2,p⟩|⟨f2,p⟩
   ·refine aO f2 rfl (cB (aV (aFw rfl (aV (aV ?_)))))
    have r2:=o6 _ (zI p).symm
    subst r2
    have y:(lF t b)=some R:=y
    exact bJ (aC ⟨b,d,e,y,j6,j7,e1,(aK.arr 4 [1] j9 rfl)⟩)
   ·exact aL f2 rfl (aY (aC (aS (aP (v:=zS a9 a8.length b0) (bR (i:=4) (ns:=[zS a9 a8.length b0]) (us:=[zS a9 a8.length b0]) Tryz.sizeOf38 j9 rfl e1 rfl rfl rfl (cX rfl) rfl rfl (fun r3 (r4:aK G K (aN 2 K a9 b0 a8::aN 2 K d e b::aN 38 K d0 d1 (dK c1 a6)::rows [2] c1 a6::box c 38 [zS a9 a8.length b0]::box j 29 q::box g 29 o::L) r3)=>(bA (bG (aC ⟨a8,a9,b0,p,j6,j7,e1,(aK.arr 4 [0] r4 rfl)⟩)))))))))
  have r5:aK G K (aN 38 K none 0 (dK ([]:List (Dp.Hd (List Int))) ([]:List (List Int)))::rows [2] ([]:List (Dp.Hd (List Int))) ([]:List (List Int))::box c 38 [zS d b.length e]::aN 2 K d e b::box j 29 q::box g 29 o::L) o5:=aK.nil (α:=Cells _) (aK.rowsNil (α:=(List Int)) (tys:=[2]) j5) 38 K
  obtain ⟨y9,r6,p⟩:=aD p
  refine cD r6 (fun (s:(List (List Int) × Int)) f w=>match s with|(k,r)=>∃ (u:Option Addr) (x:Nat) (l:List (Dp.Hd (List Int))),f 2=zP (some ⟨g,0,none⟩)∧f 4=zP (some ⟨j,0,none⟩)∧f 6=zP (some ⟨c,0,none⟩)∧f 7=zS u k.length x∧f 22=i64 t.N∧f 23=i64 r∧List.length l=List.length k∧aK G K (aN 38 K u x (dK l k)::rows [2] l k::box c 38 [zS d b.length e]::aN 2 K d e b::box j 29 q::box g 29 o::L) w) ?_ ?_
  ·exact ⟨none,0,[],j4,o7,o8,rfl,rfl,rfl,rfl,r5⟩
  ·rintro ⟨k,r⟩ e2 f z0 m r7 ⟨u,x,l,f3,k0,f4,k1,k2,f5,f6,d2⟩
   replace m:eZ t b k r=some e2:=m
   unfold eZ at m
   refine aM (aF (cG f5 k2) (aI (aQ ?_)))
   rcases aJ m with ⟨f7,m⟩|⟨f7,m⟩
   ·refine aO f7 rfl (aY (aC (aQ (bE (fun f w=>∃ (b6:List (List Int)) (e3:Option Addr) (e4:Nat) (d3:List (Dp.Hd (List Int))),nT r b6=some e2∧f 2=zP (some ⟨g,0,none⟩)∧f 4=zP (some ⟨j,0,none⟩)∧f 6=zP (some ⟨c,0,none⟩)∧f 7=zS e3 b6.length e4∧f 22=i64 t.N∧f 23=i64 r∧List.length d3=List.length b6∧aK G K (aN 38 K e3 e4 (dK d3 b6)::rows [2] d3 b6::box c 38 [zS d b.length e]::aN 2 K d e b::box j 29 q::box g 29 o::L) w) ?_ ?_))))
    ·rintro f z1 ⟨b6,e3,e4,d3,m,r8,r9,s0,s1,s2,s3,s4,s5⟩
     unfold nT at m
     exact aC (aS (aF (cQ s3 rfl) (aP (v:=i64 (wr (r+1))) (aI ⟨(b6,wr (r+1)),(zI m).symm,e3,e4,d3,r8,r9,s0,s1,s2,rfl,s4,s5⟩))))
    refine aM (aT f5 (aH (v:=i64 r) (aI (aM (aF (cC zN d2 (i:=2) rfl f4 rfl) (aP (v:=i64 r) ?_))))))
    obtain ⟨d4,f8,m⟩:=aD m
    have k3:=cY d2 (i:=3) rfl f8
    refine aF (dW bY rfl k3 rfl rfl rfl f8) (aF (jL (t:=0) cV d2 (i:=3) rfl f8 rfl rfl rfl) (cT (Kt:=K) (xs:=([d4]:List Int)) (cs:=[i64 d4]) (vs:=[(0,i64 d4)]) bY lR rfl rfl d2 rfl (by kernel_rfl) rfl rfl rfl ⟨rfl,trivial⟩ (fun f9 s6 (k4:aK G K (aN 2 K f9 1 ([d4]:List Int)::aN 38 K u x (dK l k)::rows [2] l k::box c 38 [zS d b.length e]::aN 2 K d e b::box j 29 q::box g 29 o::L) s6)=>(aH (v:=zS f9 ([d4]:List Int).length 1) (aI (aQ (aM (aF (bL (t':=2) eG f3 rfl) (aF (cC iT k4 (i:=6) rfl rfl rfl) ?_)))))))))
    obtain ⟨c3,k5,m⟩:=aD m
    obtain ⟨k6,k7,k8⟩:=Cut.ex 1 a1 c2 1
    have k9:=dB.cut' h3 k5 k8
    refine aF (aDs cF h3.room k8 rfl rfl rfl k5) (aF (bN (len:=c3.length) cF rfl) (aP (v:=i64 0) (aI (bE (fun f w=>∃ (a3:List Int) (a0:Option Addr) (a2:Nat),lH k r a3=some e2∧f 2=zP (some ⟨g,0,none⟩)∧f 4=zP (some ⟨j,0,none⟩)∧f 6=zP (some ⟨c,0,none⟩)∧f 7=zS u k.length x∧f 9=zS a0 a3.length a2∧f 22=i64 t.N∧f 23=i64 r∧aK G K (aN 2 K a0 a2 a3::aN 38 K u x (dK l k)::rows [2] l k::box c 38 [zS d b.length e]::aN 2 K d e b::box j 29 q::box g 29 o::L) w) ?_ ?_))))
    ·rintro f s7 ⟨a3,a0,a2,m,s8,s9,t0,t1,t2,t3,t4,t5⟩
     unfold lH at m
     refine aC (aS (aT t1 (aT t2 ?_)))
     have t6:aK G K (rows [2] ([(a0,a2)]:List (Dp.Hd (List Int))) [a3]::aN 38 K u x (dK l k)::rows [2] l k::box c 38 [zS d b.length e]::aN 2 K d e b::box j 29 q::box g 29 o::L) s7:=aK.rowsOne t5
     refine cT (Kt:=K) (xs:=dK ([(a0,a2)]:List (Dp.Hd (List Int))) ([a3]:List (List Int))) (cs:=[zS a0 a3.length a2]) (vs:=[(0,zS a0 a3.length a2)]) rC aHa rfl rfl t6 rfl (by kernel_rfl) rfl rfl rfl ⟨rfl,trivial⟩ ?_
     intro t7 t8 (t9:aK G K (aN 38 K t7 1 (dK ([(a0,a2)]:List (Dp.Hd (List Int))) ([a3]:List (List Int)))::rows [2] ([(a0,a2)]:List (Dp.Hd (List Int))) ([a3]:List (List Int))::aN 38 K u x (dK l k)::rows [2] l k::box c 38 [zS d b.length e]::aN 2 K d e b::box j 29 q::box g 29 o::L) t8)
     obtain ⟨e5,l0,m⟩:=aD m
     refine WO_appD (i:=0) (tys:=[2]) (hds:=l) (hds2:=([(a0,a2)]:List (Dp.Hd (List Int)))) rC Tryz.underlying74 aHa rfl rfl t9 f6 rfl rfl rfl l0 rfl rfl rfl rfl ?_
     intro g0 g1 u0 (u1:aK G K (aN 38 K g0 g1 (dK (l++([(a0,a2)]:List (Dp.Hd (List Int)))) e5)::rows [2] (l++([(a0,a2)]:List (Dp.Hd (List Int)))) e5::box c 38 [zS d b.length e]::aN 2 K d e b::box j 29 q::box g 29 o::L) u0)
     exact aH (v:=zS g0 e5.length g1) (bA (bG (aC ⟨e5,g0,g1,(l++([(a0,a2)]:List (Dp.Hd (List Int)))),m,s8,s9,t0,rfl,t3,t4,(aJA f6 rfl l0),u1⟩)))
    obtain ⟨z2,u2,m⟩:=aD m
    refine cD u2 (fun (s:(List Int × Int)) f w=>match s with|(a5,b7)=>∃ (b8:Option Addr) (b9:Nat),f 2=zP (some ⟨g,0,none⟩)∧f 4=zP (some ⟨j,0,none⟩)∧f 6=zP (some ⟨c,0,none⟩)∧f 7=zS u k.length x∧f 8=i64 r∧f 9=zS b8 a5.length b9∧f 22=i64 t.N∧f 23=i64 r∧f 33=zS k6 c3.length k7∧f 34=i64 (c3.length:Int)∧f 35=i64 b7∧aK G K (aN 2 K b8 b9 a5::aN 38 K u x (dK l k)::rows [2] l k::box c 38 [zS d b.length e]::aN 2 K d e b::box j 29 q::box g 29 o::L) w) ?_ ?_
    ·exact ⟨f9,1,f3,k0,f4,k1,rfl,rfl,k2,f5,rfl,rfl,rfl,k4⟩
    ·rintro ⟨a5,b7⟩ l1 f z3 n u3 ⟨b8,b9,e6,g2,e7,g3,g4,g5,g6,g7,g8,g9,e8,e9⟩
     replace n:fM t b r c3 a5 b7=some l1:=n
     unfold fM at n
     refine aM (aF (cG e8 g9) (aI (aQ ?_)))
     rcases aJ n with ⟨h0,n⟩|⟨h0,n⟩
     ·refine aO h0 rfl (aY (aC (aQ (cW (aM ?_)))))
      obtain ⟨h1,l2,n⟩:=aD n
      refine aF (dN cF rfl k9 g8 rfl e8 l2) ?_
      obtain ⟨z4,u4,u5⟩:=dB.el (sz:=1) rfl k9 l2
      cases u5
      refine aF (bK (t:=0) mV e9 u4 rfl rfl) (aH (v:=str h1) (aI (aM (aH (v:=i64 (-1)) (aI (aAo (fun f w=>∃ (c0:Int),lI a5 b7 c0=some l1∧f 2=zP (some ⟨g,0,none⟩)∧f 4=zP (some ⟨j,0,none⟩)∧f 6=zP (some ⟨c,0,none⟩)∧f 7=zS u k.length x∧f 8=i64 r∧f 9=zS b8 a5.length b9∧f 12=i64 c0∧f 22=i64 t.N∧f 23=i64 r∧f 33=zS k6 c3.length k7∧f 34=i64 (c3.length:Int)∧f 35=i64 b7∧aK G K (aN 2 K b8 b9 a5::aN 38 K u x (dK l k)::rows [2] l k::box c 38 [zS d b.length e]::aN 2 K d e b::box j 29 q::box g 29 o::L) w) ?_ ?_))))))
      ·rintro f z5 ⟨c0,n,u6,u7,u8,u9,v0,v1,v2,v3,v4,v5,v6,v7,v8⟩
       unfold lI at n
       refine aS (aT v1 (aT v2 (cT (Kt:=K) (xs:=([c0]:List Int)) (cs:=[i64 c0]) (vs:=[(0,i64 c0)]) bY lR rfl rfl v8 rfl (by kernel_rfl) rfl rfl rfl ⟨rfl,trivial⟩ (fun v9 w0 (w1:aK G K (aN 2 K v9 1 ([c0]:List Int)::aN 2 K b8 b9 a5::aN 38 K u x (dK l k)::rows [2] l k::box c 38 [zS d b.length e]::aN 2 K d e b::box j 29 q::box g 29 o::L) w0)=>?_))))
       obtain ⟨h2,w2,n⟩:=aD n
       exact eI (i:=0) bY Tryz.underlying38 lR rfl rfl w1 rfl (zR _) (zR _) w2 rfl rfl rfl rfl (fun _ h=>h) (fun h4 h5 w3 (w4:aK G K (aN 2 K h4 h5 h2::aN 38 K u x (dK l k)::rows [2] l k::box c 38 [zS d b.length e]::aN 2 K d e b::box j 29 q::box g 29 o::L) w3)=>(aH (v:=zS h4 h2.length h5) (bA (bG (aC (aS (aF (cQ v7 rfl) (aP (v:=i64 (wr (b7+1))) (aI ⟨(h2,wr (b7+1)),(zI n).symm,h4,h5,u6,u7,u8,u9,v0,rfl,v3,v4,v5,v6,rfl,w4⟩)))))))))
      refine aM (aF (dX (us:=o) dI e9 (i:=6) rfl e6 rfl rfl) (aT g4 (aP (v:=str h1) ?_)))
      obtain ⟨h7,w5,n⟩:=aD n
      refine aU (vs:=[zA (zCa t a1 c2 a4 c5),i64 r,str h1]) Tryz.call252 rfl (aGy e9 h3 h6 w5) ?_
      rintro _ z6 ⟨rfl,f0⟩
      refine aH (v:=i64 h7) (aI (aM (aP (v:=i64 h7) (aF (tU rfl rfl) (aI ?_)))))
      rcases aJ n with ⟨h8,n⟩|⟨h8,n⟩
      ·refine aO h8 rfl (aS (aF (cC zN f0 (i:=3) rfl e7 rfl) (aP (v:=i64 h7) ?_)))
       obtain ⟨l3,l4,n⟩:=aD n
       exact aF (dW bY rfl k3 rfl rfl rfl l4) (aF (jL (t:=0) cV f0 (i:=4) rfl l4 rfl rfl rfl) (aH (v:=i64 l3) (aI ⟨l3,n,e6,g2,e7,g3,g4,g5,rfl,g6,g7,g8,g9,e8,f0⟩)))
      ·exact aL h8 rfl (aY (aC ⟨(-1),n,e6,g2,e7,g3,g4,g5,rfl,g6,g7,g8,g9,e8,f0⟩))
     ·refine aL h0 rfl (cB (aV (aV ?_)))
      have w6:=u3 _ (zI n).symm
      subst w6
      have m:(lH k r a5)=some e2:=m
      exact bJ (aC ⟨a5,b8,b9,m,e6,g2,e7,g3,g5,g6,g7,e9⟩)
   ·refine aL f7 rfl (cB (aV (aV ?_)))
    have w7:=r7 _ (zI m).symm
    subst w7
    have p:(lG b k)=some d8:=p
    exact bJ (aC ⟨k,u,x,l,p,f3,k0,f4,k1,f6,d2⟩)
theorem aEC {t R:cN} (hs:aK G K (L) w) (hG:G.lo=0) (h3:dB K a1 c2 t.L) (h6:dB K a4 c5 t.E) (d:uQ t=some R):
  Calls Tryz.prog 127 ([zA (zCa t a1 c2 a4 c5)]:List Value).toArray w (iK fun v w'=>∃ (d6:Option Addr) (d7:Nat) (d8:Option Addr) (d9:Nat),v=zA (zCa R d6 d7 d8 d9)∧aK G K (aN 9 K d6 d7 R.L::aN 63 K d8 d9 R.E::L) w'):=by
 let g:=zG
 let e0:=(zC t a1 c2 a4 c5)
 refine aX Tryz.func127 rfl (by kernel_rfl) (by show (1:Nat)≤14;decide) ?_
 unfold uQ at d
 refine aM (gP (v:=zA (zCa t a1 c2 a4 c5)) (vs:=e0) hs rfl rfl (fun b7 w8 f5=>(bS (vs:=g) Tryz.zeroValue29 f5 rfl (fun y j1 f6=>(aI (aQ (dF (fun f w=>∃ (q:Int) (r:Int) (h:List bB) (k:List Edge) (b6:Nat) (l:Option Addr) (m:Nat) (n:Option Addr) (o:Nat),yI q r h k=some R∧f 2=zP (some ⟨y,0,none⟩)∧f 3=zP (some ⟨b6,0,none⟩)∧aK G K (aN 63 K n o k::aN 9 K l m h::box b6 29 [i64 q,i64 r,zS l h.length m,zS n k.length o]::box y 29 g::L) w) ?_ ?_)))))))
 ·rintro f j2 ⟨q,r,h,k,b6,l,m,n,o,d,e1,f7,e2⟩
  unfold yI at d
  refine aC (aM (aF (dX (us:=[i64 q,i64 r,zS l h.length m,zS n k.length o]) dI e2 (i:=2) rfl f7 rfl rfl) (bR (i:=3) (ns:=[i64 q,i64 r,zS l h.length m,zS n k.length o]) (us:=[i64 q,i64 r,zS l h.length m,zS n k.length o]) Tryz.sizeOf29 e2 rfl e1 rfl rfl rfl (cX rfl) rfl rfl (fun f8 (e3:aK G K (aN 63 K n o k::aN 9 K l m h::box b6 29 [i64 q,i64 r,zS l h.length m,zS n k.length o]::box y 29 [i64 q,i64 r,zS l h.length m,zS n k.length o]::L) f8)=>(aI ?_)))))
  obtain rfl:=zI d
  exact bH (aBK Tryz.results127 (dZ (vs:=[i64 q,i64 r,zS l h.length m,zS n k.length o]) rfl dI e3 (i:=3) rfl e1 rfl) ⟨l,m,n,o,rfl,(aK.arr 4 [1,0] e3 rfl)⟩)
 obtain ⟨z,u,e4,g0,c1⟩:=aK.lendB (i:=1) f6 rfl
 refine sM (C:=fun w'=>∃ L',aK G z L' w') [] bT (by kernel_rfl) (fun j3 g1=>?_)
 have x:=aK.mono g0 g1
 refine dP (i:=0) rfl (by kernel_rfl) ⟨_,x⟩ (fun _ ⟨_,x⟩=>fZ (t:=0) (vs:=e0) dI x e4 rfl rfl rfl) (dP (i:=1) rfl (by kernel_rfl) ⟨_,x⟩ (fun _ _=>bL (t':=0) iZ rfl rfl) (dP (i:=2) rfl (by kernel_rfl) ⟨_,x⟩ (fun _ ⟨_,x⟩=>bK (t:=0) cV x e4 rfl rfl) (oJ (i:=3) (j:=8) (by kernel_rfl) rfl rfl ?_ ?_)))
 ·obtain ⟨p,g2,d⟩:=aD d
  refine aDp (e:=(0:Int)) bY lR rfl rfl x rfl rfl rfl g2 rfl (fun b2 g3 (c3:aK G z (aN 2 K b2 p.length p::box y 29 g::L) g3)=>(bA (aC ⟨fun _=>⟨_,c3⟩,?_⟩)))
  refine oJ (i:=4) (j:=8) (by kernel_rfl) rfl rfl ?_ ?_
  ·obtain ⟨j4,e5,g4,g5,g6⟩:=aK.lendS (i:=0) c3 u rfl
   obtain ⟨a,g7,d⟩:=aD d
   refine aU (vs:=[zA (zCa t a1 c2 a4 c5),zS b2 p.length p.length]) Tryz.call194 rfl (pV g5 hG (h3.mono (zL u e5)) (h6.mono (zL u e5)) g4 g7) ?_
   rintro _ j5 ⟨J,V,Z,a0,c4,c6,rfl,g8⟩
   have b3:=g6 _ _ g8
   refine bA (aC ⟨fun _=>⟨_,b3⟩,?_⟩)
   refine dP (i:=5) rfl (by kernel_rfl) ⟨_,b3⟩ (fun _ _=>aZ (v:=zT #[zA (zCa a.1 J V Z a0),zS c4 a.2.length c6]) rfl) (dP (i:=6) rfl (by kernel_rfl) ⟨_,b3⟩ (fun _ _=>bM rfl rfl) (dP (i:=7) rfl (by kernel_rfl) ⟨_,b3⟩ (fun _ _=>bM rfl rfl) (cL (i:=8) (by kernel_rfl) rfl (bS (vs:=g) Tryz.zeroValue29 b3 rfl (fun e6 j6 e7=>(bA (aC ⟨fun _=>⟨_,e7⟩,?_⟩)))))))
   refine cL (i:=9) (by kernel_rfl) rfl (bR (i:=0) (ns:=(zC a.1 J V Z a0)) (us:=(zC a.1 J V Z a0)) Tryz.sizeOf29 e7 rfl rfl rfl rfl rfl (cX rfl) rfl rfl (fun g9 (c7:aK G z (box e6 29 (zC a.1 J V Z a0)::aN 2 K b2 p.length p::aN 9 K J V a.1.L::aN 63 K Z a0 a.1.E::aN 2 K c4 c6 a.2::box y 29 g::L) g9)=>(bA (aC ⟨fun _=>⟨_,c7⟩,?_⟩))))
   refine dP (i:=10) rfl (by kernel_rfl) ⟨_,c7⟩ (fun _ _=>dH (v:=zS c4 a.2.length c6) rfl) (iY (by kernel_rfl) ?_)
   have h0:=c1 _ _ c7
   exact aC ⟨a.1.N,a.1.I,a.1.L,a.1.E,e6,J,V,Z,a0,d,rfl,rfl,(aK.arr 6 [4,3,1] h0 rfl)⟩
  ·refine bS (vs:=g) Tryz.zeroValue29 c3 rfl (fun e8 j7 e9=>(bA (aC ⟨fun _=>⟨_,e9⟩,?_⟩)))
   refine cL (i:=4) (by kernel_rfl) rfl ?_
   obtain ⟨j8,f0,h1,h2,h4⟩:=aK.lendS (i:=1) e9 u rfl
   obtain ⟨b,h5,d⟩:=aD d
   refine aU (vs:=[zA (zCa t a1 c2 a4 c5),zS b2 p.length p.length]) Tryz.call194 rfl (pV h2 hG (h3.mono (zL u f0)) (h6.mono (zL u f0)) h1 h5) ?_
   rintro _ j9 ⟨a2,a3,a5,a6,c8,c9,rfl,h7⟩
   have b4:=h4 _ _ h7
   refine bA (aC ⟨fun _=>⟨_,b4⟩,?_⟩)
   refine dP (i:=5) rfl (by kernel_rfl) ⟨_,b4⟩ (fun _ _=>aZ (v:=zT #[zA (zCa b.1 a2 a3 a5 a6),zS c8 b.2.length c9]) rfl) (dP (i:=6) rfl (by kernel_rfl) ⟨_,b4⟩ (fun _ _=>bM rfl rfl) (dP (i:=7) rfl (by kernel_rfl) ⟨_,b4⟩ (fun _ _=>bM rfl rfl) (cL (i:=9) (by kernel_rfl) rfl (bR (i:=4) (ns:=(zC b.1 a2 a3 a5 a6)) (us:=(zC b.1 a2 a3 a5 a6)) Tryz.sizeOf29 b4 rfl rfl rfl rfl rfl (cX rfl) rfl rfl (fun h8 (d0:aK G z (aN 2 K b2 p.length p::aN 9 K a2 a3 b.1.L::aN 63 K a5 a6 b.1.E::aN 2 K c8 c9 b.2::box e8 29 (zC b.1 a2 a3 a5 a6)::box y 29 g::L) h8)=>(bA (aC ⟨fun _=>⟨_,d0⟩,?_⟩)))))))
   refine dP (i:=10) rfl (by kernel_rfl) ⟨_,d0⟩ (fun _ _=>dH (v:=zS c8 b.2.length c9) rfl) (iY (by kernel_rfl) ?_)
   have h9:=c1 _ _ d0
   exact aC ⟨b.1.N,b.1.I,b.1.L,b.1.E,e8,a2,a3,a5,a6,d,rfl,rfl,(aK.arr 5 [3,2] h9 rfl)⟩
 ·refine bS (vs:=g) Tryz.zeroValue29 x rfl (fun d1 k0 f1=>(bA (aC ⟨fun _=>⟨_,f1⟩,?_⟩)))
  refine cL (i:=3) (by kernel_rfl) rfl ?_
  obtain ⟨a7,i0,d⟩:=aD d
  refine aDp (e:=(0:Int)) bY lR rfl rfl f1 rfl rfl rfl i0 rfl (fun d2 i1 (f2:aK G z (aN 2 K d2 a7.length a7::box d1 29 g::box y 29 g::L) i1)=>(bA (aC ⟨fun _=>⟨_,f2⟩,?_⟩)))
  refine cL (i:=4) (by kernel_rfl) rfl ?_
  obtain ⟨k1,f3,i2,i3,i4⟩:=aK.lendS (i:=0) f2 u rfl
  obtain ⟨c,i5,d⟩:=aD d
  refine aU (vs:=[zA (zCa t a1 c2 a4 c5),zS d2 a7.length a7.length]) Tryz.call194 rfl (pV i3 hG (h3.mono (zL u f3)) (h6.mono (zL u f3)) i2 i5) ?_
  rintro _ k2 ⟨a8,a9,b0,b1,d3,d4,rfl,i6⟩
  have b5:=i4 _ _ i6
  refine bA (aC ⟨fun _=>⟨_,b5⟩,?_⟩)
  refine dP (i:=5) rfl (by kernel_rfl) ⟨_,b5⟩ (fun _ _=>aZ (v:=zT #[zA (zCa c.1 a8 a9 b0 b1),zS d3 c.2.length d4]) rfl) (dP (i:=6) rfl (by kernel_rfl) ⟨_,b5⟩ (fun _ _=>bM rfl rfl) (dP (i:=7) rfl (by kernel_rfl) ⟨_,b5⟩ (fun _ _=>bM rfl rfl) (cL (i:=9) (by kernel_rfl) rfl (bR (i:=4) (ns:=(zC c.1 a8 a9 b0 b1)) (us:=(zC c.1 a8 a9 b0 b1)) Tryz.sizeOf29 b5 rfl rfl rfl rfl rfl (cX rfl) rfl rfl (fun i7 (d5:aK G z (aN 2 K d2 a7.length a7::aN 9 K a8 a9 c.1.L::aN 63 K b0 b1 c.1.E::aN 2 K d3 d4 c.2::box d1 29 (zC c.1 a8 a9 b0 b1)::box y 29 g::L) i7)=>(bA (aC ⟨fun _=>⟨_,d5⟩,?_⟩)))))))
  refine dP (i:=10) rfl (by kernel_rfl) ⟨_,d5⟩ (fun _ _=>dH (v:=zS d3 c.2.length d4) rfl) (iY (by kernel_rfl) ?_)
  have i8:=c1 _ _ d5
  exact aC ⟨c.1.N,c.1.I,c.1.L,c.1.E,d1,a8,a9,b0,b1,d,rfl,rfl,(aK.arr 5 [3,2] i8 rfl)⟩
theorem aDI {t:cN} {R:(cN × Int)} (hs:aK G K (L) w) (z:G.lo=0) (h3:dB K a1 c2 t.L) (h6:dB K a4 c5 t.E) (c:vD t=some R):
  Calls Tryz.prog 53 ([zA (zCa t a1 c2 a4 c5)]:List Value).toArray w (iK fun v w'=>∃ (a6:Option Addr) (a7:Nat) (a8:Option Addr) (a9:Nat),v=zT #[zA (zCa R.1 a6 a7 a8 a9),i64 R.2]∧aK G K (aN 9 K a6 a7 R.1.L::aN 63 K a8 a9 R.1.E::L) w'):=by
 let d:=zG
 let k:=(zC t a1 c2 a4 c5)
 let b0:=[zA (zCa t a1 c2 a4 c5)]
 refine aX Tryz.func53 rfl (by kernel_rfl) (by show (1:Nat)≤22;decide) ?_
 unfold vD at c
 refine aM (gP (v:=zA (zCa t a1 c2 a4 c5)) (vs:=k) hs rfl rfl (fun u w8 b6=>(bS (vs:=d) Tryz.zeroValue29 b6 rfl (fun x e8 b1=>(aH (v:=i64 0) (aI (aQ (aM (aF (dX (us:=k) dI b1 (i:=1) rfl rfl rfl rfl) ?_)))))))))
 obtain ⟨e9,b8,c⟩:=aD c
 refine aU (vs:=b0) Tryz.call31 rfl (nE b1 z h3 h6 b8) ?_
 rintro _ f0 ⟨rfl,J⟩
 refine aF (fC rfl) (aI ?_)
 rcases aJ c with ⟨V,c⟩|⟨V,c⟩
 ·refine aO V rfl (aM (aF (fD (vs:=[]) (cs:=d) tI rfl (by kernel_rfl)) (bR (i:=0) (ns:=d) (us:=d) Tryz.sizeOf29 J rfl rfl rfl rfl rfl (cX rfl) rfl rfl (fun b9 (c0:aK G K (box x 29 d::box u 29 k::L) b9)=>(aH (v:=i64 1) (aI ?_))))))
  have c1:=aK.nil (α:=bB) c0 9 K
  have b2:=aK.nil (α:=Edge) c1 63 K
  obtain rfl:=zI c
  exact bH (aR (mT Tryz.results53 (dZ (vs:=d) rfl dI b2 (i:=2) rfl rfl rfl) (gW rfl rfl) ⟨none,0,none,0,rfl,(aK.arr 4 [1,0] b2 rfl)⟩))
 ·refine aL V rfl (aY (aC (aM (aF (dX (us:=k) dI J (i:=1) rfl rfl rfl rfl) ?_))))
  obtain ⟨a,c4,c⟩:=aD c
  refine aU (vs:=b0) Tryz.call49 rfl (pT J z h3 h6 c4) ?_
  rintro _ f1 ⟨l,e,g,h,j,q,r,rfl,y,c6⟩
  refine aP (v:=zT #[zA (zCa a.1 e g h j),zS q a.2.1.length r,zB a.2.2]) (aF (bM rfl rfl) (aF (bM rfl rfl) (aF (bM rfl rfl) (bS (vs:=d) Tryz.zeroValue29 c6 rfl (fun Z f2 c7=>(bR (i:=0) (ns:=(zC a.1 e g h j)) (us:=(zC a.1 e g h j)) Tryz.sizeOf29 c7 rfl rfl rfl rfl rfl (cX rfl) rfl rfl (fun c8 (a0:aK G l (box Z 29 (zC a.1 e g h j)::aN 9 K e g a.1.L::aN 63 K h j a.1.E::aN 38 l q r a.2.1::box x 29 d::box u 29 k::L) c8)=>(aH (v:=zS q a.2.1.length r) (aH (v:=zB a.2.2) (aI (aQ (aM (aP (v:=zB a.2.2) (aF (fC rfl) (aI ?_)))))))))))))))
  rcases aJ c with ⟨a2,c⟩|⟨a2,c⟩
  ·refine aO a2 rfl (aM (aF (fD (vs:=[]) (cs:=d) tI rfl (by kernel_rfl)) (bR (i:=4) (ns:=d) (us:=d) Tryz.sizeOf29 a0 rfl rfl rfl rfl rfl (cX rfl) rfl rfl (fun c9 (d0:aK G l (box Z 29 (zC a.1 e g h j)::aN 9 K e g a.1.L::aN 63 K h j a.1.E::aN 38 l q r a.2.1::box x 29 d::box u 29 k::L) c9)=>(aH (v:=i64 5) (aI ?_))))))
   have d1:=aK.nil (α:=bB) d0 9 K
   have b3:=aK.nil (α:=Edge) d1 63 K
   obtain rfl:=zI c
   exact bH (aR (mT Tryz.results53 (dZ (vs:=d) rfl dI b3 (i:=6) rfl rfl rfl) (gW rfl rfl) ⟨none,0,none,0,rfl,(aK.weakK (aK.arr 8 [1,0] b3 rfl) y)⟩))
  ·refine aL a2 rfl (aY (aC (aM (aF (dX (us:=(zC a.1 e g h j)) dI a0 (i:=0) rfl rfl rfl rfl) ?_))))
   obtain ⟨f3,d3,d4,d5,d6⟩:=aK.lendS (i:=1) a0 y rfl
   obtain ⟨f4,d7,d8,d9,e0⟩:=aK.lendS (i:=1) d5 (zL y d3) rfl
   obtain ⟨b,e1,c⟩:=aD c
   refine aU (vs:=[zA (zCa a.1 e g h j)]) Tryz.call127 rfl (aEC d9 z (d4.mono d7) d8 e1) ?_
   rintro _ f5 ⟨m,n,o,p,rfl,e2⟩
   have e3:=e0 _ _ e2
   have e4:=d6 _ _ e3
   refine bR (i:=6) (ns:=(zC b m n o p)) (us:=(zC b m n o p)) Tryz.sizeOf29 e4 rfl rfl rfl rfl rfl (cX rfl) rfl rfl (fun e5 (b4:aK G l (aN 9 K e g a.1.L::aN 63 K h j a.1.E::aN 9 K m n b.L::aN 63 K o p b.E::box Z 29 (zC a.1 e g h j)::aN 38 l q r a.2.1::box x 29 (zC b m n o p)::box u 29 k::L) e5)=>(aH (v:=i64 0) (aI ?_)))
   obtain rfl:=zI c
   exact bH (mT Tryz.results53 (dZ (vs:=(zC b m n o p)) rfl dI b4 (i:=6) rfl rfl rfl) (gW rfl rfl) ⟨m,n,o,p,rfl,(aK.weakK (aK.arr 8 [2,3] b4 rfl) y)⟩)
theorem tR {l:bB} {to_:(Int × Int)} {p:(List iL)} {c:(Int × Int)} {k5:Nat} {j:(List ((Int × Int) × Int))} {e:Nat} {x:(List (Int × Int))} {R:((List iL) × (List ((Int × Int) × Int)) × (List (Int × Int)))} (hs:aK G K (aN 152 K a2 c3 p::box b1 150 [zS a2 p.length c3]::iD e j::box b7 147 [zM (some e)]::aN 148 K a10 c11 x::box b9 149 [zS a10 x.length c11]::L) w) (h6:kR K a4 k5 [i64 c.1,i64 c.2]) (g:mN l to_ p c j x=some R):
  Calls Tryz.prog 120 ([str l,zA #[i64 to_.1,i64 to_.2],zP (some ⟨b1,0,none⟩),dC a4 k5,zP (some ⟨b7,0,none⟩),zP (some ⟨b9,0,none⟩)]:List Value).toArray w (iK fun v w'=>∃ (a5:Option Addr) (a6:Nat) (a7:Option Addr) (a8:Nat),v=zT #[]∧aK G K (aN 152 K a5 a6 R.1::box b1 150 [zS a5 R.1.length a6]::iD e R.2.1::box b7 147 [zM (some e)]::aN 148 K a7 a8 R.2.2::box b9 149 [zS a7 R.2.2.length a8]::L) w'):=by
 let q:=[zS a10 x.length c11]
 let a9:=[i64 c.1,i64 c.2,str l,i64 to_.1,i64 to_.2]
 let m:=box b7 147 [zM (some e)]
 let y:=aN 148 K a10 c11 x
 refine aX Tryz.func120 rfl (by kernel_rfl) (by show (6:Nat)≤31;decide) ?_
 unfold mN at g
 refine aM (gP (v:=zA #[i64 to_.1,i64 to_.2]) (vs:=[i64 to_.1,i64 to_.2]) hs rfl rfl (fun n d5 V=>(aI (aM (aF (cC sc_150 V (i:=2) rfl rfl rfl) (aF (fZ (t:=0) (vs:=[i64 c.1,i64 c.2]) yB V h6 rfl rfl rfl) (aP (v:=str l) (aF (dX (us:=[i64 to_.1,i64 to_.2]) yB V (i:=0) rfl rfl rfl rfl) (aF (fD (vs:=[(0,zA #[i64 c.1,i64 c.2]),(1,str l),(2,zA #[i64 to_.1,i64 to_.2])]) (cs:=a9) bs_152 rfl (by kernel_rfl)) (cT (Kt:=K) (xs:=([⟨c,l,to_⟩]:List iL)) (cs:=a9) (vs:=[(0,zA #[i64 c.1,i64 c.2,str l,i64 to_.1,i64 to_.2])]) aJG ez_152 rfl rfl V rfl (by kernel_rfl) rfl rfl rfl ⟨rfl,trivial⟩ (fun b3 b4 (b5:aK G K (aN 152 K b3 1 ([⟨c,l,to_⟩]:List iL)::box n 148 [i64 to_.1,i64 to_.2]::aN 152 K a2 c3 p::box b1 150 [zS a2 p.length c3]::iD e j::m::y::box b9 149 q::L) b4)=>?_)))))))))))
 obtain ⟨d,b6,g⟩:=aD g
 refine eI (i:=1) aJG Tryz.underlying150 ez_152 rfl rfl b5 rfl (zR _) (zR _) b6 rfl rfl rfl rfl (fun _ h=>h) (fun a b b8 (c0:aK G K (box n 148 [i64 to_.1,i64 to_.2]::aN 152 K a b d::box b1 150 [zS a2 p.length c3]::iD e j::m::y::box b9 149 q::L) b8)=>(bR (i:=2) (ns:=[zS a d.length b]) (us:=[zS a d.length b]) Tryz.sizeOf150 c0 rfl rfl rfl rfl rfl (cX rfl) rfl rfl (fun c1 (o:aK G K (box n 148 [i64 to_.1,i64 to_.2]::aN 152 K a b d::box b1 150 [zS a d.length b]::iD e j::m::y::box b9 149 q::L) c1)=>(aI (aM (aF (cC aEv o (i:=4) rfl rfl rfl) (aF (dX (us:=[i64 to_.1,i64 to_.2]) yB o (i:=0) rfl rfl rfl rfl) (aF (aJB (kv:=j) (k:=to_) (z:=(0:Int)) Tryz.runUnderlying147 aEw Tryz.zeroValue2 o (i:=3) rfl rfl rfl) (aP (v:=zT #[i64 ((fS j to_).getD 0),zB ((fS j to_).isSome)]) (aF (bM rfl rfl) (aF (bM rfl rfl) (aH (v:=i64 ((fS j to_).getD 0)) (aH (v:=zB ((fS j to_).isSome)) (aI (aM (aP (v:=zB ((fS j to_).isSome)) (aF (fC rfl) (aI ?_))))))))))))))))))
 rcases aJ g with ⟨a0,g⟩|⟨a0,g⟩
 ·refine aO a0 rfl (aM (aF (cC aEv o (i:=4) rfl rfl rfl) (aF (dX (us:=[i64 to_.1,i64 to_.2]) yB o (i:=0) rfl rfl rfl rfl) ?_)))
  obtain ⟨Z,c2,g⟩:=aD g
  refine aCg (i:=3) (k:=to_) (v:=0) Tryz.runUnderlying147 aEw o rfl rfl rfl rfl c2 (fun c4 (a1:aK G K (box n 148 [i64 to_.1,i64 to_.2]::aN 152 K a b d::box b1 150 [zS a d.length b]::iD e Z::m::y::box b9 149 q::L) c4)=>(aI (aS (aF (cC aDt a1 (i:=6) rfl rfl rfl) (aF (dX (us:=[i64 to_.1,i64 to_.2]) yB a1 (i:=0) rfl rfl rfl rfl) (cT (Kt:=K) (xs:=([to_]:List (Int × Int))) (cs:=[i64 to_.1,i64 to_.2]) (vs:=[(0,zA #[i64 to_.1,i64 to_.2])]) aBY ez_148 rfl rfl a1 rfl (by kernel_rfl) rfl rfl rfl ⟨rfl,trivial⟩ (fun c5 c6 (c7:aK G K (aN 148 K c5 1 ([to_]:List (Int × Int))::box n 148 [i64 to_.1,i64 to_.2]::aN 152 K a b d::box b1 150 [zS a d.length b]::iD e Z::m::y::box b9 149 q::L) c6)=>?_)))))))
  obtain ⟨J,c8,g⟩:=aD g
  refine eI (i:=5) aBY Tryz.underlying149 ez_148 rfl rfl c7 rfl (zR _) (zR _) c8 rfl rfl rfl rfl (fun _ h=>h) (fun r u c9 (d0:aK G K (box n 148 [i64 to_.1,i64 to_.2]::aN 152 K a b d::box b1 150 [zS a d.length b]::iD e Z::m::aN 148 K r u J::box b9 149 q::L) c9)=>(bR (i:=6) (ns:=[zS r J.length u]) (us:=[zS r J.length u]) Tryz.sizeOf149 d0 rfl rfl rfl rfl rfl (cX rfl) rfl rfl (fun d1 (d2:aK G K (box n 148 [i64 to_.1,i64 to_.2]::aN 152 K a b d::box b1 150 [zS a d.length b]::iD e Z::m::aN 148 K r u J::box b9 149 [zS r J.length u]::L) d1)=>?_)))
  obtain rfl:=zI g
  exact bA (aEO Tryz.results120 ⟨a,b,r,u,rfl,(aK.arr 1 [] d2 rfl)⟩)
 ·refine aL a0 rfl ?_
  obtain rfl:=zI g
  exact aY (aEO Tryz.results120 ⟨a,b,a10,c11,rfl,(aK.arr 1 [] o rfl)⟩)
end Gv
