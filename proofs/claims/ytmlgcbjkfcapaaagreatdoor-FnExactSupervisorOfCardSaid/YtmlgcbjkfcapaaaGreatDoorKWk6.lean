/- Walks, printed by program. -/
import Derived.Test.YtmlgcbjkfcapaaaGreatDoorKWk5
set_option linter.all false
namespace Gv
open Go.Value renaming slice→zS,bool→zB,pointer→zP,agg→zA,tuple→zT,map→zM
open Option.some renaming inj→zI
open Gv.Hp renaming le_trans→zL,le_refl→zR
open Go Go.Proofs
set_option maxRecDepth 20000
set_option maxHeartbeats 40000000
variable {G:Env} {K Kf:Hp} {L:List qD} {w:World} {a1 a3 a6 a4 a7 a9 a12 a15 a18 a21 a24 a27 a29 a2 a5 a8 a11 a14 a17 a20 a23 a25 a28 a32:Option Addr} {c2 c7 c5 c8 b4 b5 c10 c13 c16 c19 c22 c25 c28 b1 c3 c6 c9 c12 c15 c18 c21 c24 c26 b31:Nat}
theorem tS {g o:(List Int)} {c:Nat} {R:(List Int)} (hs:aL G K (aN 2 K a1 c2 g::L) w) (h5:fW K a3 c [zS a6 o.length c7]) (h8:bT K a6 c7 o) (b:fE g o=some R):
  Calls Tryz.prog 87 ([zS a1 g.length c2,Value.func (.func 89) #[] #[bY a3 c]]:List Value).toArray w (fV fun v w'=>∃ (a9:Option Addr) (b0:Nat),v=zS a9 R.length b0∧aL G K (aN 2 K a9 b0 R::L) w'):=by
 refine aT Tryz.func87 rfl (by kernel_rfl) (by show (2:Nat)≤42;decide) ?_
 unfold fE at b
 refine aAZ (pM (v:=zS none 0 0) (aAf (aAZ (aBl (v:=zS a1 g.length c2) (aBl (v:=Value.func (.func 89) #[] #[bY a3 c]) ?_)))))
 obtain ⟨K9,b1,d3,d4,d5⟩:=aL.lendS (i:=0) hs (zR _) rfl
 obtain ⟨p,d6,b⟩:=aI b
 refine aU (vs:=[zS a1 g.length c2,Value.func (.func 89) #[] #[bY a3 c]]) Tryz.call167 rfl (sS d4 d3 (h5.mono b1) (h8.mono b1) d6) ?_
 rintro _ f6 ⟨rfl,d7⟩
 have b2:=d5 _ _ d7
 refine pM (v:=i64 p) (aAf (aH (aAZ (aBl (v:=i64 p) (aB (oY rfl rfl) (aAf ?_))))))
 rcases aK b with ⟨J,b⟩|⟨J,b⟩
 ·refine aO J rfl (aAZ (aBl (v:=zS a1 g.length c2) (pM (v:=zS a1 g.length c2) (aAf ?_))))
  cases zI b
  exact bF (aS (bC Tryz.results87 rfl ⟨a1,c2,rfl,b2⟩))
 ·refine aM J rfl (aW (aA (aH (aAZ (aBl (v:=i64 p) (aB (cX rfl rfl) (pM (v:=i64 (wr (p+1))) (aAf (bD (fun f w=>∃ (q:List Int) (r:Int),eJ q r=some R∧f 0=zS a1 q.length c2∧f 5=i64 r∧aL G K (aN 2 K a1 c2 q::L) w) ?_ ?_)))))))))
  ·rintro f f7 ⟨q,r,b,b3,b4,b5⟩
   unfold eJ at b
   refine aA (aAZ (aCv b3 (aCv b4 ?_)))
   obtain ⟨f8,d9,b⟩:=aI b
   have e0:=pA b5 (i:=0) rfl
   obtain ⟨f9,g0,b6⟩:=Cut.ex 1 a1 c2 r
   refine aB (aCL bW e0 b6 rfl rfl rfl d9) ?_
   obtain ⟨b7,b8,b⟩:=aI b
   refine aEX bW tU rfl b5 (i:=0) rfl b6 rfl rfl b8 (fun b9 (c0:aL G K (aN 2 K a1 c2 b7::L) b9)=>(aAf (aAZ (aCv (v:=zS a1 b7.length c2) (Eq.trans b3 (congrArg (fun n=>zS a1 n c2) (aCz b8))) (aCv b4 ?_)))))
   obtain ⟨c1,c3,b⟩:=aI b
   have e1:=pA c0 (i:=0) rfl
   obtain ⟨V,Z,c4⟩:=Cut.ex 1 a1 c2 0
   refine aB (aGH bW e1 c4 rfl rfl rfl c3) (pM (v:=zS V c1.length Z) (aAf ?_))
   have e2:aL G K (aN 2 K V Z c1::L) b9:=aL.cutP c0 (i:=0) rfl c3 c4
   cases zI b
   exact bF (bC Tryz.results87 rfl ⟨V,Z,rfl,e2⟩)
  obtain ⟨g1,e4,b⟩:=aI b
  refine cD e4 (fun (s:(List Int × Int × Int)) f w=>match s with|(d,e,j)=>f 0=zS a1 d.length c2∧f 1=Value.func (.func 89) #[] #[bY a3 c]∧f 5=i64 e∧f 6=i64 j∧aL G K (aN 2 K a1 c2 d::L) w) ?_ ?_
  ·exact ⟨rfl,rfl,rfl,rfl,b2⟩
  ·rintro ⟨d,e,j⟩ c5 f g2 a e5 ⟨l,a0,u,x,y⟩
   replace a:dH o d e j=some c5:=a
   unfold dH at a
   refine aH (aAZ (aCv x (aCv l (aB (bQ (len:=d.length) bW rfl) (aB (cJ rfl rfl) (aAf ?_))))))
   rcases aK a with ⟨a2,a⟩|⟨a2,a⟩
   ·refine aO a2 rfl (aW (aA (aH (bD (fun f w=>∃ (m:List Int) (z:Int),eK j m z=some c5∧f 0=zS a1 m.length c2∧f 1=Value.func (.func 89) #[] #[bY a3 c]∧f 5=i64 z∧f 6=i64 j∧aL G K (aN 2 K a1 c2 m::L) w) ?_ ?_))))
    ·rintro f g3 ⟨m,z,a,e6,e7,e8,e9,f0⟩
     unfold eK at a
     exact aA (aC (aCv e9 (aB (cX rfl rfl) (pM (v:=i64 (wr (j+1))) (aAf ⟨(m,z,wr (j+1)),(zI a).symm,e6,e7,e8,rfl,f0⟩)))))
    refine aAZ (aCv l (aCv x ?_))
    obtain ⟨k,a4,a⟩:=aI a
    have c6:=cG y (i:=0) rfl a4
    refine aB (dA bW rfl c6 rfl rfl rfl a4) (aB (kA (t:=0) cP y (i:=0) rfl a4 rfl rfl rfl) (pM (v:=i64 k) (aAf (aAZ (aCv a0 (aBl (v:=i64 k) ?_))))))
    obtain ⟨g4,f1,a⟩:=aI a
    refine kH (vs:=[i64 k]) (caps:=[bY a3 c]) (us:=[i64 k,bY a3 c]) rfl Tryz.call89 rfl rfl (xX y h5 h8 f1) ?_
    rintro _ g5 ⟨rfl,c8⟩
    refine aB (dY rfl) (aAf ?_)
    rcases aK a with ⟨a5,a⟩|⟨a5,a⟩
    ·refine aO a5 rfl (aAZ (aCv l (aCv u (aBl (v:=i64 k) ?_))))
     obtain ⟨g6,c9,a⟩:=aI a
     refine aB (dA bW rfl c6 rfl rfl rfl c9) ?_
     obtain ⟨d0,d1,a⟩:=aI a
     exact kV (i:=0) (t:=0) (ns:=[i64 k]) (e':=(k:Int)) Tryz.sizeOf2 c8 rfl (zR _) rfl rfl rfl c9 d1 rfl rfl (dL rfl) rfl (fun cs h=>by cases h;rfl) (fun f2 (f3:aL G K (aN 2 K a1 c2 d0::L) f2)=>(aAf (aC (aCv u (aB (cX rfl rfl) (pM (v:=i64 (wr (e+1))) (aF (bG (aA ⟨d0,wr (e+1),a,(Eq.trans l (congrArg (fun n=>zS a1 n c2) (iN d1))),a0,rfl,x,f3⟩)))))))))
    ·exact aM a5 rfl (aW (bG (aA ⟨d,e,a,l,a0,u,x,c8⟩)))
   ·refine aM a2 rfl (cB (aY (aY ?_)))
    have f4:=e5 _ (zI a).symm
    subst f4
    have b:(eJ d e)=some R:=b
    exact bO (aA ⟨d,e,b,l,u,y⟩)
theorem aEN {t:dB} {R:(List Int)} (r:aL G K (L) w) (u:bT K a1 c2 t.L) (x:bT K a4 c5 t.E) (a:sK t=some R):
  Calls Tryz.prog 33 ([zA (zCa t a1 c2 a4 c5)]:List Value).toArray w (fV fun v w'=>∃ (k:Option Addr) (l:Nat),v=zS k R.length l∧aL G K (aN 2 K k l R::L) w'):=by
 let b:=(zC t a1 c2 a4 c5)
 refine aT Tryz.func33 rfl (by kernel_rfl) (by show (1:Nat)≤14;decide) ?_
 unfold sK at a
 refine aAZ (dW (v:=zA (zCa t a1 c2 a4 c5)) (vs:=b) r rfl rfl (fun m w8 g=>(pM (v:=zS none 0 0) (aAf (aAZ (aB (dK (us:=b) fD g (i:=0) rfl rfl rfl rfl) (aB (bB (t':=1) rM rfl rfl) (aB (bR cP g (i:=0) rfl rfl rfl) (dM (Kt:=K) (xs:=([t.I]:List Int)) (cs:=[i64 t.I]) (vs:=[(0,i64 t.I)]) bW tU rfl rfl g rfl (by kernel_rfl) rfl rfl rfl ⟨rfl,trivial⟩ (fun h y (z:aL G K (aN 2 K h 1 ([t.I]:List Int)::box m 29 b::L) y)=>?_))))))))))
 obtain ⟨c9,n,J,V,Z⟩:=aL.lendS (i:=0) z (zR _) rfl
 obtain ⟨c,a0,a⟩:=aI a
 refine aU (vs:=[zA (zCa t a1 c2 a4 c5),zS h ([t.I]:List Int).length 1,zB true]) Tryz.call86 rfl (aEM V (u.mono n) (x.mono n) J a0) ?_
 rintro _ d0 ⟨d,e,rfl,a2⟩
 have a3:=Z _ _ a2
 refine cF (vs:=[zS none 0 0]) Tryz.zeroValue38 a3 rfl (fun j d1 a5=>(cC (i:=0) (ns:=[zS d c.length e]) (us:=[zS d c.length e]) Tryz.sizeOf38 a5 rfl rfl rfl rfl rfl (dL rfl) rfl rfl (fun a6 (o:aL G K (box j 38 [zS d c.length e]::aN 2 K h 1 ([t.I]:List Int)::aN 2 K d e c::box m 29 b::L) a6)=>(aAf (aAZ (aB (bB (t':=0) tP rfl rfl) (aB (bR cP o (i:=3) rfl rfl rfl) ?_)))))))
 obtain ⟨a7,a8,a⟩:=aI a
 refine aU (vs:=[i64 t.N]) Tryz.call88 rfl (aMj o a8) ?_
 rintro _ d2 ⟨a9,b0,rfl,b1⟩
 refine aB (rL (vs:=[zP (some ⟨j,0,none⟩)]) rfl) ?_
 obtain ⟨d3,d4,b2,b3,b4⟩:=aL.lendS (i:=3) b1 (zR _) rfl
 obtain ⟨d5,b5,b6,b8,b9⟩:=aL.lendB (i:=1) b3 rfl
 obtain ⟨c0,c1,a⟩:=aI a
 refine aU (vs:=[zS a9 a7.length b0,Value.func (.func 89) #[] #[bY (some ⟨j,0,none⟩) 0]]) Tryz.call87 rfl (tS b8 b6 (b2.mono b5) c1) ?_
 rintro _ d6 ⟨p,q,rfl,c3⟩
 have c4:=b9 _ _ c3
 have c6:=b4 _ _ c4
 refine pM (v:=zS p c0.length q) (aAf ?_)
 cases zI a
 exact bF (bC Tryz.results33 rfl ⟨p,q,rfl,(aL.arr 5 [2] c6 rfl)⟩)
theorem uR {t:dB} {k:Int} {R:(List Edge)} (hs:aL G K (L) w) (h3:bT K a1 c2 t.L) (h6:bT K a4 c5 t.E) (c:vK t k=some R):
  Calls Tryz.prog 121 ([zA (zCa t a1 c2 a4 c5),i64 k]:List Value).toArray w (fV fun v w'=>∃ (a8:Option Addr) (a9:Nat),v=zS a8 R.length a9∧aL G K (aN 63 K a8 a9 R::L) w'):=by
 refine aT Tryz.func121 rfl (by kernel_rfl) (by show (2:Nat)≤25;decide) ?_
 unfold vK at c
 refine aAZ (dW (v:=zA (zCa t a1 c2 a4 c5)) (vs:=(zC t a1 c2 a4 c5)) hs rfl rfl (fun b7 w8 b0=>(pM (v:=zS none 0 0) (aAf (aAZ (pM (v:=zS none 0 0) (aAf (aH (aAZ (aB (bB (t':=3) dO rfl rfl) (aB (bR hX b0 (i:=0) rfl rfl rfl) (aB (bQ (len:=t.E.length) cR rfl) (aBl (v:=i64 0) (aAf (bD (fun f w=>∃ (l:List Edge) (m:Option Addr) (n:Nat),zN l=some R∧f 5=zS m l.length n∧aL G K (aN 63 K m n l::L) w) ?_ ?_)))))))))))))))
 ·rintro f e3 ⟨l,m,n,c,b4,b5⟩
  unfold zN at c
  refine aA (aAZ (aCv b4 (pM (v:=zS m l.length n) (aAf ?_))))
  cases zI c
  exact bF (bC Tryz.results121 rfl ⟨m,n,rfl,b5⟩)
 have b8:=aL.nil (α:=Edge) b0 63 K
 obtain ⟨e4,b9,c⟩:=aI c
 refine cD b9 (fun (s:(List Edge × Int)) f w=>match s with|(d,e)=>∃ (g:Option Addr) (j:Nat),f 1=i64 k∧f 5=zS g d.length j∧f 9=zS a4 t.E.length c5∧f 10=i64 (t.E.length:Int)∧f 11=i64 e∧aL G K (aN 63 K g j d::L) w) ?_ ?_
 ·exact ⟨none,0,rfl,rfl,rfl,rfl,rfl,(aL.arr 2 [0] b8 rfl)⟩
 ·rintro ⟨d,e⟩ b1 f e5 b c0 ⟨g,j,x,y,z,J,p,V⟩
  replace b:vJ t k d e=some b1:=b
  unfold vJ at b
  refine aAZ (aB (cJ p J) (aAf (aH ?_)))
  rcases aK b with ⟨Z,b⟩|⟨Z,b⟩
  ·refine aO Z rfl (aW (aA (aH (bD (fun f w=>∃ (o:List Edge) (q:Option Addr) (r:Nat),zO e o=some b1∧f 1=i64 k∧f 5=zS q o.length r∧f 9=zS a4 t.E.length c5∧f 10=i64 (t.E.length:Int)∧f 11=i64 e∧aL G K (aN 63 K q r o::L) w) ?_ ?_))))
   ·rintro f e6 ⟨o,q,r,b,c1,c3,c4,c6,c7,c8⟩
    unfold zO at b
    exact aA (aC (aB (cX c7 rfl) (aBl (v:=i64 (wr (e+1))) (aAf ⟨(o,wr (e+1)),(zI b).symm,q,r,c1,c3,c4,c6,rfl,c8⟩))))
   refine aAZ ?_
   obtain ⟨a,b2,b⟩:=aI b
   refine aB (cO cR rfl h6 z rfl p b2) ?_
   obtain ⟨e7,c9,d0⟩:=bT.el (sz:=3) rfl h6 b2
   cases d0
   refine aB (gO (t:=0) (vs:=[i64 a.F,i64 a.B,i64 a.To]) mB V c9 rfl rfl rfl) (cF (vs:=[i64 0,i64 0,i64 0]) Tryz.zeroValue63 V rfl (fun a0 e8 d1=>(cC (i:=0) (ns:=[i64 a.F,i64 a.B,i64 a.To]) (us:=[i64 a.F,i64 a.B,i64 a.To]) Tryz.sizeOf63 d1 rfl rfl rfl rfl rfl (dL rfl) rfl rfl (fun d2 (u:aL G K (box a0 63 [i64 a.F,i64 a.B,i64 a.To]::aN 63 K g j d::L) d2)=>(aAf (aAZ (aB (bB (t':=0) fY rfl rfl) (aB (bR cP u (i:=0) rfl rfl rfl) (aCv x (aB (oY rfl rfl) (aAf ?_)))))))))))
   rcases aK b with ⟨a2,b⟩|⟨a2,b⟩
   ·refine aO a2 rfl (aC (aCv y (aB (dK (us:=[i64 a.F,i64 a.B,i64 a.To]) mB u (i:=0) rfl rfl rfl rfl) (dM (Kt:=K) (xs:=([a]:List Edge)) (cs:=[i64 a.F,i64 a.B,i64 a.To]) (vs:=[(0,zA #[i64 a.F,i64 a.B,i64 a.To])]) cR vQ rfl rfl u rfl (by kernel_rfl) rfl rfl rfl ⟨rfl,trivial⟩ (fun d3 d4 (d5:aL G K (aN 63 K d3 1 ([a]:List Edge)::box a0 63 [i64 a.F,i64 a.B,i64 a.To]::aN 63 K g j d::L) d4)=>?_)))))
    obtain ⟨a3,d6,b⟩:=aI b
    exact iY (i:=1) cR Tryz.underlying27 vQ rfl rfl d5 rfl (zR _) (zR _) d6 rfl rfl rfl rfl (fun _ h=>h) (fun a5 a6 d7 (d8:aL G K (box a0 63 [i64 a.F,i64 a.B,i64 a.To]::aN 63 K a5 a6 a3::L) d7)=>(pM (v:=zS a5 a3.length a6) (aF (bG (aA ⟨a3,a5,a6,b,x,rfl,z,J,p,(aL.arr 1 [] d8 rfl)⟩)))))
   ·exact aM a2 rfl (aW (bG (aA ⟨d,g,j,b,x,y,z,J,p,(aL.arr 1 [] u rfl)⟩)))
  ·refine aM Z rfl (cB (aY (aY ?_)))
   have d9:=c0 _ (zI b).symm
   subst d9
   have c:(zN d)=some R:=c
   exact bO (aA ⟨d,g,j,c,y,V⟩)
theorem mW {a:(List Int)} {b:Int} {R:Bool} (d:aL G K (L) w) (e:bT K a1 c2 a) (c:eM a b=some R):
  Calls Tryz.prog 183 ([zS a1 a.length c2,i64 b]:List Value).toArray w (fV fun v w'=>v=zB R∧aL G K (L) w'):=by
 refine aT Tryz.func183 rfl (by kernel_rfl) (by show (2:Nat)≤9;decide) ?_
 unfold eM at c
 refine aAZ (pM (v:=zB false) (aAf (aAZ (aBl (v:=zS a1 a.length c2) (aBl (v:=i64 b) ?_)))))
 obtain ⟨g,h,c⟩:=aI c
 refine aU (vs:=[zS a1 a.length c2,i64 b]) Tryz.call83 rfl (oL d e h) ?_
 rintro _ k ⟨rfl,i⟩
 refine aB (tT rfl rfl) (pM (v:=zB (decide (0≤g))) (aAf ?_))
 cases zI c
 exact bF (bC Tryz.results183 rfl ⟨rfl,i⟩)
theorem vT {c R:(List Int)} (hs:aL G K (aN 2 K a1 c2 c::L) w) (d:fS c=some R):
  Calls Tryz.prog 191 ([zS a1 c.length c2]:List Value).toArray w (fV fun v w'=>∃ (b9:Option Addr) (c0:Nat),v=zS b9 R.length c0∧aL G K (aN 2 K b9 c0 R::L) w'):=by
 refine aT Tryz.func191 rfl (by kernel_rfl) (by show (1:Nat)≤61;decide) ?_
 unfold fS at d
 refine aAZ (pM (v:=zS none 0 0) (aAf (aH (aAZ (aBl (v:=zS a1 c.length c2) (aB (bQ (len:=c.length) bW rfl) (aB (cJ rfl rfl) (aAf ?_))))))))
 rcases aK d with ⟨c3,d⟩|⟨c3,d⟩
 ·refine aO c3 rfl (aAZ (aBl (v:=zS a1 c.length c2) (pM (v:=zS a1 c.length c2) (aAf ?_))))
  cases zI d
  exact bF (aS (bC Tryz.results191 rfl ⟨a1,c2,rfl,hs⟩))
 ·refine aM c3 rfl (aW (aA (aH (aAZ (pM (v:=i64 1) (aAf (bD (fun f w=>gT c=some R∧f 0=zS a1 c.length c2∧aL G K (aN 2 K a1 c2 c::L) w) ?_ ?_)))))))
  ·rintro f w6 ⟨d,e5,e4⟩
   unfold gT at d
   refine aA (aAZ (aCv e5 (pM (v:=zS a1 c.length c2) (aAf ?_))))
   cases zI d
   exact bF (bC Tryz.results191 rfl ⟨a1,c2,rfl,e4⟩)
  obtain ⟨h1,e7,d⟩:=aI d
  refine cD e7 (fun (j:Int) f w=>f 0=zS a1 c.length c2∧f 3=i64 j∧aL G K (aN 2 K a1 c2 c::L) w) ?_ ?_
  ·exact ⟨rfl,rfl,hs⟩
  ·rintro j z f h2 a c1 ⟨m,p,e⟩
   replace a:kF c j=some z:=a
   unfold kF at a
   refine aH (aAZ (aCv p (aCv m (aB (bQ (len:=c.length) bW rfl) (aB (cJ rfl rfl) (aAf ?_))))))
   rcases aK a with ⟨a7,a⟩|⟨a7,a⟩
   ·refine aO a7 rfl (aW (aA (aH (bD (fun f w=>kD j=some z∧f 0=zS a1 c.length c2∧f 3=i64 j∧aL G K (aN 2 K a1 c2 c::L) w) ?_ ?_))))
    ·rintro f h3 ⟨a,e8,e9,f0⟩
     unfold kD at a
     exact aA (aC (aCv e9 (aB (cX rfl rfl) (pM (v:=i64 (wr (j+1))) (aAf ⟨wr (j+1),(zI a).symm,e8,rfl,f0⟩)))))
    refine aH (cT (C:=fun w'=>aL G K (aN 2 K a1 c2 c::L) w') bK (by kernel_rfl) (aL.mono e (dE.drew _)) (aQ (fun _ e=>aD m) (aQ (fun _ e=>aD p) ?_)))
    obtain ⟨h4,a8,a⟩:=aI a
    have q:=cG e (i:=0) rfl a8
    refine aQ (fun _ e=>dA bW rfl q rfl rfl rfl a8) (aQ (fun _ e=>kA (t:=0) cP e (i:=0) rfl a8 rfl rfl rfl) (aQ (fun _ e=>aD m) (aQ (fun _ e=>aD p) (aQ (fun _ e=>jS rfl rfl) ?_))))
    obtain ⟨h5,c4,a⟩:=aI a
    refine aQ (fun _ e=>dA bW rfl q rfl rfl rfl c4) (aQ (fun _ e=>kA (t:=0) cP e (i:=0) rfl c4 rfl rfl rfl) (aQ (fun _ e=>oY rfl rfl) (dC (fun h6 a9=>(aA ?_)))))
    rcases aK a with ⟨c45,a⟩|⟨c45,a⟩
    ·refine aO c45 rfl (aAZ (aCv m (aCv p ?_)))
     obtain ⟨x,J,a⟩:=aI a
     have V:=pA a9 (i:=0) rfl
     obtain ⟨b0,b1,Z⟩:=Cut.ex 1 a1 c2 j
     refine aB (aCL bW V Z rfl rfl rfl J) (pM (v:=zS b0 x.length b1) (aAf (aH (aAZ (pM (v:=i64 1) (aAf (bD (fun f w=>∃ (a0:List Int) (a2:Int),gV a0 a2=some z∧f 0=zS a1 a0.length c2∧f 3=i64 a2∧aL G K (aN 2 K a1 c2 a0::L) w) ?_ ?_)))))))
     ·rintro f h7 ⟨a0,a2,a,c5,c6,c7⟩
      unfold gV at a
      refine aA (aAZ (aCv c5 (aCv c6 ?_)))
      obtain ⟨h8,f1,a⟩:=aI a
      have f2:=pA c7 (i:=0) rfl
      obtain ⟨h9,i0,c8⟩:=Cut.ex 1 a1 c2 a2
      refine aB (aCL bW f2 c8 rfl rfl rfl f1) ?_
      obtain ⟨c9,d0,a⟩:=aI a
      refine aEX bW tU rfl c7 (i:=0) rfl c8 rfl rfl d0 (fun d1 (d2:aL G K (aN 2 K a1 c2 c9::L) d1)=>(aAf (aAZ (aCv (v:=zS a1 c9.length c2) (Eq.trans c5 (congrArg (fun n=>zS a1 n c2) (aCz d0))) (aCv c6 ?_)))))
      obtain ⟨b2,d3,a⟩:=aI a
      have f3:=pA d2 (i:=0) rfl
      obtain ⟨b3,b4,d4⟩:=Cut.ex 1 a1 c2 0
      refine aB (aGH bW f3 d4 rfl rfl rfl d3) (pM (v:=zS b3 b2.length b4) (aAf (bF (bN (aS (aS (aS ?_)))))))
      have f4:=c1 _ (zI a).symm
      subst f4
      have d:(some b2)=some R:=d
      have f5:aL G K (aN 2 K b3 b4 b2::L) d1:=aL.cutP d2 (i:=0) rfl d3 d4
      cases zI d
      exact bN (aS (aS (bC Tryz.results191 rfl ⟨b3,b4,rfl,f5⟩)))
     obtain ⟨i1,f7,a⟩:=aI a
     refine cD f7 (fun (s:(List Int × Int × Int)) f w=>match s with|(k,l,o)=>f 0=zS a1 k.length c2∧f 3=i64 l∧f 4=zS b0 x.length b1∧f 5=i64 o∧aL G K (aN 2 K a1 c2 k::L) w) ?_ ?_
     ·exact ⟨m,p,rfl,rfl,a9⟩
     ·rintro ⟨k,l,o⟩ d5 f i2 b f8 ⟨a3,a4,r,u,g⟩
      replace b:kE j x k l o=some d5:=b
      unfold kE at b
      refine aH (aAZ (aCv u (aCv r (aB (bQ (len:=x.length) bW rfl) (aB (cJ rfl rfl) (aAf ?_))))))
      rcases aK b with ⟨b5,b⟩|⟨b5,b⟩
      ·refine aO b5 rfl (aW (aA (aH (bD (fun f w=>∃ (y:List Int) (a5:Int),gW o y a5=some d5∧f 0=zS a1 y.length c2∧f 3=i64 a5∧f 4=zS b0 x.length b1∧f 5=i64 o∧aL G K (aN 2 K a1 c2 y::L) w) ?_ ?_))))
       ·rintro f i3 ⟨y,a5,b,f9,g0,g1,g2,g3⟩
        unfold gW at b
        exact aA (aC (aCv g2 (aB (cX rfl rfl) (pM (v:=i64 (wr (o+1))) (aAf ⟨(y,a5,wr (o+1)),(zI b).symm,f9,g0,g1,rfl,g3⟩)))))
       refine aH (cT (C:=fun w'=>aL G K (aN 2 K a1 c2 k::L) w') bK (by kernel_rfl) (aL.mono g (dE.drew _)) (aQ (fun _ g=>aD r) (aQ (fun _ g=>aD u) ?_)))
       obtain ⟨i4,d6,b⟩:=aI b
       obtain ⟨d7,d8,b⟩:=aI b
       refine aQ (fun _ g=>aGb bW q Z J V rfl rfl rfl d6 rfl) (aQ (fun _ g=>kA (t:=0) cP g (i:=0) rfl d8 rfl rfl rfl) (aQ (fun _ g=>aD r) (aQ (fun _ g=>aD u) (aQ (fun _ g=>jS rfl rfl) ?_))))
       obtain ⟨i5,g4,b⟩:=aI b
       obtain ⟨i6,g5,b⟩:=aI b
       refine aQ (fun _ g=>aGb bW q Z J V rfl rfl rfl g4 rfl) (aQ (fun _ g=>kA (t:=0) cP g (i:=0) rfl g5 rfl rfl rfl) (aQ (fun _ g=>oZ rfl rfl) (dC (fun i7 b6=>(aA ?_)))))
       rcases aK b with ⟨b7,b⟩|⟨b7,b⟩
       ·refine aO b7 rfl (aAZ (aCv a3 (aCv a4 (aCv r (aCv u (aB (aGb bW q Z J V rfl rfl rfl d6 rfl) (aB (kA (t:=0) cP b6 (i:=0) rfl d8 rfl rfl rfl) ?_)))))))
        obtain ⟨i8,d9,b⟩:=aI b
        refine aB (dA bW rfl q rfl rfl rfl d9) ?_
        obtain ⟨e0,e1,b⟩:=aI b
        exact kV (i:=0) (t:=0) (ns:=[i64 d7]) (e':=(d7:Int)) Tryz.sizeOf2 b6 rfl (zR _) rfl rfl rfl d9 e1 rfl rfl (dL rfl) rfl (fun cs h=>by cases h;rfl) (fun g6 (g7:aL G K (aN 2 K a1 c2 e0::L) g6)=>(aAf (aC (aCv a4 (aB (cX rfl rfl) (pM (v:=i64 (wr (l+1))) (aF (bG (aA ⟨e0,wr (l+1),b,(Eq.trans a3 (congrArg (fun n=>zS a1 n c2) (iN e1))),rfl,r,u,g7⟩)))))))))
       ·exact aM b7 rfl (aW (bG (aA ⟨k,l,b,a3,a4,r,u,b6⟩)))
      ·refine aM b5 rfl (cB (aY (aY ?_)))
       have g8:=f8 _ (zI b).symm
       subst g8
       have a:(gV k l)=some z:=a
       exact bO (aA ⟨k,l,a,a3,a4,g⟩)
    ·exact aM c45 rfl (aW (bG (aA ⟨a,m,p,a9⟩)))
   ·refine aM a7 rfl (cB (aY (aY ?_)))
    have g9:=c1 _ (zI a).symm
    subst g9
    have d:(gT c)=some R:=d
    exact bO (aA ⟨d,m,e⟩)
theorem aGq {t:dB} {o:(List Int)} {p:aZ} {R:(List Int)} (hs:aL G K (L) w) (h3:bT K a1 c2 t.L) (h6:bT K a4 c5 t.E) (h9:bT K a7 c8 o) (c:zQ t o p=some R):
  Calls Tryz.prog 122 ([zA (zCa t a1 c2 a4 c5),zS a7 o.length c8,cL p]:List Value).toArray w (fV fun v w'=>∃ (c1:Option Addr) (c3:Nat),v=zS c1 R.length c3∧aL G K (aN 2 K c1 c3 R::L) w'):=by
 let q:=(zC t a1 c2 a4 c5)
 refine aT Tryz.func122 rfl (by kernel_rfl) (by show (3:Nat)≤41;decide) ?_
 unfold zQ at c
 refine aAZ (dW (v:=zA (zCa t a1 c2 a4 c5)) (vs:=q) hs rfl rfl (fun j i3 c4=>(pM (v:=zS none 0 0) (aAf (aAZ (pM (v:=zS none 0 0) (aAf (aH (aAZ (aB (bB (t':=3) dO rfl rfl) (aB (bR hX c4 (i:=0) rfl rfl rfl) (aB (bQ (len:=t.E.length) cR rfl) (aBl (v:=i64 0) (aAf (bD (fun f w=>∃ (y:List Int) (r:Option Addr) (u:Nat),sL y=some R∧f 7=zS r y.length u∧aL G K (aN 2 K r u y::L) w) ?_ ?_)))))))))))))))
 ·rintro f i4 ⟨y,r,u,c,c6,e4⟩
  unfold sL at c
  refine aA (aAZ (aCv c6 ?_))
  obtain ⟨c7,e5,c⟩:=aI c
  refine aU (vs:=[zS r y.length u]) Tryz.call184 rfl (aMg e4 e5) ?_
  rintro _ i5 ⟨rfl,e6,e7⟩
  refine aAf (aAZ (aCv (v:=zS r c7.length u) (Eq.trans c6 (congrArg (fun n=>zS r n u) e6)) ?_))
  obtain ⟨e8,e9,c⟩:=aI c
  refine aU (vs:=[zS r c7.length u]) Tryz.call191 rfl (vT e7 e9) ?_
  rintro _ i6 ⟨c9,d0,rfl,f0⟩
  refine pM (v:=zS c9 e8.length d0) (aAf ?_)
  cases zI c
  exact bF (bC Tryz.results122 rfl ⟨c9,d0,rfl,f0⟩)
 have f2:=aL.nil (α:=Int) c4 2 K
 obtain ⟨i7,f3,c⟩:=aI c
 refine cD f3 (fun (s:(List Int × Int)) f w=>match s with|(d,k)=>∃ (l:Option Addr) (m:Nat),f 1=zS a7 o.length c8∧f 2=cL p∧f 3=zP (some ⟨j,0,none⟩)∧f 7=zS l d.length m∧f 11=zS a4 t.E.length c5∧f 12=i64 (t.E.length:Int)∧f 13=i64 k∧aL G K (aN 2 K l m d::box j 29 q::L) w) ?_ ?_
 ·exact ⟨none,0,rfl,rfl,rfl,rfl,rfl,rfl,rfl,f2⟩
 ·rintro ⟨d,k⟩ a2 f i8 a f4 ⟨l,m,a3,a5,a6,a8,a9,b0,V,b1⟩
  replace a:oV t o p d k=some a2:=a
  unfold oV at a
  refine aAZ (aB (cJ V b0) (aAf (aH ?_)))
  rcases aK a with ⟨b2,a⟩|⟨b2,a⟩
  ·refine aO b2 rfl (aW (aA (aH (bD (fun f w=>∃ (z:List Int) (Z:Option Addr) (a0:Nat),sM k z=some a2∧f 1=zS a7 o.length c8∧f 2=cL p∧f 3=zP (some ⟨j,0,none⟩)∧f 7=zS Z z.length a0∧f 11=zS a4 t.E.length c5∧f 12=i64 (t.E.length:Int)∧f 13=i64 k∧aL G K (aN 2 K Z a0 z::box j 29 q::L) w) ?_ ?_))))
   ·rintro f i9 ⟨z,Z,a0,a,f5,f6,f7,f8,f9,g0,g1,g2⟩
    unfold sM at a
    exact aA (aC (aB (cX g1 rfl) (aBl (v:=i64 (wr (k+1))) (aAf ⟨(z,wr (k+1)),(zI a).symm,Z,a0,f5,f6,f7,f8,f9,g0,rfl,g2⟩))))
   refine aAZ ?_
   obtain ⟨b,d1,a⟩:=aI a
   refine aB (cO cR rfl h6 a9 rfl V d1) ?_
   obtain ⟨j0,g3,g4⟩:=bT.el (sz:=3) rfl h6 d1
   cases g4
   refine aB (gO (t:=0) (vs:=[i64 b.F,i64 b.B,i64 b.To]) mB b1 g3 rfl rfl rfl) (cF (vs:=[i64 0,i64 0,i64 0]) Tryz.zeroValue63 b1 rfl (fun J j1 g5=>(cC (i:=0) (ns:=[i64 b.F,i64 b.B,i64 b.To]) (us:=[i64 b.F,i64 b.B,i64 b.To]) Tryz.sizeOf63 g5 rfl rfl rfl rfl rfl (dL rfl) rfl rfl (fun g6 (x:aL G K (box J 63 [i64 b.F,i64 b.B,i64 b.To]::aN 2 K l m d::box j 29 q::L) g6)=>(aAf (aH (cS (fun f w=>∃ (b3:Bool),sN d k b b3=some a2∧f 1=zS a7 o.length c8∧f 2=cL p∧f 3=zP (some ⟨j,0,none⟩)∧f 7=zS l d.length m∧f 9=zP (some ⟨J,0,none⟩)∧f 11=zS a4 t.E.length c5∧f 12=i64 (t.E.length:Int)∧f 13=i64 k∧f 30=zB b3∧aL G K (box J 63 [i64 b.F,i64 b.B,i64 b.To]::aN 2 K l m d::box j 29 q::L) w) ?_ ?_)))))))
   ·rintro f j2 ⟨b3,a,d2,d3,d4,d5,g7,d6,d7,d8,d9,b4⟩
    unfold sN at a
    refine aA ?_
    rcases aK a with ⟨b5,a⟩|⟨b5,a⟩
    ·refine aO b5 d9 (aC (aCv d5 (aB (bB (t':=2) iB g7 rfl) (aB (bR cP b4 (i:=0) rfl rfl rfl) (dM (Kt:=K) (xs:=([b.To]:List Int)) (cs:=[i64 b.To]) (vs:=[(0,i64 b.To)]) bW tU rfl rfl b4 rfl (by kernel_rfl) rfl rfl rfl ⟨rfl,trivial⟩ (fun g8 g9 (h0:aL G K (aN 2 K g8 1 ([b.To]:List Int)::box J 63 [i64 b.F,i64 b.B,i64 b.To]::aN 2 K l m d::box j 29 q::L) g9)=>?_))))))
     obtain ⟨b6,h1,a⟩:=aI a
     exact iY (i:=1) bW Tryz.underlying38 tU rfl rfl h0 rfl (zR _) (zR _) h1 rfl rfl rfl rfl (fun _ h=>h) (fun b7 b8 h2 (h4:aL G K (box J 63 [i64 b.F,i64 b.B,i64 b.To]::aN 2 K b7 b8 b6::box j 29 q::L) h2)=>(pM (v:=zS b7 b6.length b8) (aF (bG (aA ⟨b6,b7,b8,a,d2,d3,d4,rfl,d6,d7,d8,(aL.arr 1 [] h4 rfl)⟩)))))
    ·exact aM b5 d9 (aW (bG (aA ⟨d,l,m,a,d2,d3,d4,d5,d6,d7,d8,(aL.arr 1 [] b4 rfl)⟩)))
   refine aC (aB (bB (t':=2) gL a6 rfl) (aB (bR jJ x (i:=2) rfl rfl rfl) (aB (bB (t':=1) fP rfl rfl) (aB (bR cP x (i:=0) rfl rfl rfl) ?_))))
   obtain ⟨h5,e0,a⟩:=aI a
   refine aB (cO cY rfl h3 rfl rfl rfl e0) ?_
   obtain ⟨j3,h7,h8⟩:=bT.el (sz:=1) rfl h3 e0
   cases h8
   refine aB (bH (t:=0) pK x h7 rfl rfl) (aCv a5 (aB (aBb rfl rfl) (aBl (v:=zB (h5 == p)) ?_)))
   rcases aK a with ⟨e,a⟩|⟨e,a⟩
   ·refine bE e rfl rfl (aCv a3 (bE e rfl rfl (aB (bB (t':=0) fY rfl rfl) (bE e rfl rfl (aB (bR cP x (i:=0) rfl rfl rfl) (bE e rfl rfl ?_))))))
    obtain ⟨e1,i0,a⟩:=aI a
    refine aU (vs:=[zS a7 o.length c8,i64 b.F]) Tryz.call183 rfl (mW x h9 i0) ?_
    rintro _ j4 ⟨rfl,i1⟩
    exact aB (bI (v:=zB e1) e rfl rfl) (aAf ⟨e1,a,a3,a5,a6,a8,rfl,a9,b0,V,rfl,i1⟩)
   ·exact aV e rfl rfl (aV e rfl rfl (aV e rfl rfl (aV e rfl rfl (aB (bJ (v:=zB false) e rfl rfl) (aAf ⟨false,a,a3,a5,a6,a8,rfl,a9,b0,V,rfl,x⟩)))))
  ·refine aM b2 rfl (cB (aY (aY ?_)))
   have i2:=f4 _ (zI a).symm
   subst i2
   have c:(sL d)=some R:=c
   exact bO (aA ⟨d,l,m,c,a8,(aL.arr 2 [0] b1 rfl)⟩)
theorem aHJ {t:dB} {k:Int} {b:aZ} {R:Int} (q:aL G K (L) w) (r:bT K a1 c2 t.L) (u:bT K a4 c5 t.E) (a:aCl t k b=some R):
  Calls Tryz.prog 252 ([zA (zCa t a1 c2 a4 c5),i64 k,cL b]:List Value).toArray w (fV fun v w'=>v=i64 R∧aL G K (L) w'):=by
 let e:=(zC t a1 c2 a4 c5)
 refine aT Tryz.func252 rfl (by kernel_rfl) (by show (3:Nat)≤21;decide) ?_
 unfold aCl at a
 refine aAZ (dW (v:=zA (zCa t a1 c2 a4 c5)) (vs:=e) q rfl rfl (fun x w8 g=>(pM (v:=i64 0) (aAf (aH (aAZ (aBl (v:=i64 k) (aB (cJ rfl rfl) (aAf ?_)))))))))
 rcases aK a with ⟨h,a⟩|⟨h,a⟩
 ·refine aO h rfl (aAZ (pM (v:=i64 (-1)) (aAf ?_)))
  cases zI a
  exact bF (aS (bC Tryz.results252 rfl ⟨rfl,(aL.arr 1 [] g rfl)⟩))
 ·refine aM h rfl (aW (aA (aH (aAZ (aB (dK (us:=e) fD g (i:=0) rfl rfl rfl rfl) (aBl (v:=i64 k) (dM (Kt:=K) (xs:=([k]:List Int)) (cs:=[i64 k]) (vs:=[(0,i64 k)]) bW tU rfl rfl g rfl (by kernel_rfl) rfl rfl rfl ⟨rfl,trivial⟩ (fun o z (J:aL G K (aN 2 K o 1 ([k]:List Int)::box x 29 e::L) z)=>(aBl (v:=cL b) ?_)))))))))
  obtain ⟨b0,p,V,Z,a0⟩:=aL.lendS (i:=0) J (zR _) rfl
  obtain ⟨c,a2,a⟩:=aI a
  refine aU (vs:=[zA (zCa t a1 c2 a4 c5),zS o ([k]:List Int).length 1,cL b]) Tryz.call122 rfl (aGq Z (r.mono p) (u.mono p) V a2) ?_
  rintro _ b1 ⟨j,l,rfl,a3⟩
  have d:=a0 _ _ a3
  refine pM (v:=zS j c.length l) (aAf (aAZ (aBl (v:=zS j c.length l) (aB (bQ (len:=c.length) bW rfl) (aB (mL rfl rfl) (aAf ?_))))))
  rcases aK a with ⟨m,a⟩|⟨m,a⟩
  ·refine aO m rfl (aAZ (aBl (v:=zS j c.length l) ?_))
   obtain ⟨a5,n,a⟩:=aI a
   have a6:=cG d (i:=1) rfl n
   refine aB (dA bW rfl a6 rfl rfl rfl n) (aB (kA (t:=0) cP d (i:=1) rfl n rfl rfl rfl) (pM (v:=i64 a5) (aAf ?_)))
   cases zI a
   exact bF (aS (bC Tryz.results252 rfl ⟨rfl,(aL.arr 3 [] d rfl)⟩))
  ·refine aM m rfl (aW (aA (aAZ (pM (v:=i64 (-1)) (aAf ?_)))))
   cases zI a
   exact bF (bC Tryz.results252 rfl ⟨rfl,(aL.arr 3 [] d rfl)⟩)
theorem nN {d:(List aZ)} {e:aZ} {R:Int} (q:aL G K (L) w) (k:bT K a1 c2 d) (b:eR d e=some R):
  Calls Tryz.prog 190 ([zS a1 d.length c2,cL e]:List Value).toArray w (fV fun v w'=>v=i64 R∧aL G K (L) w'):=by
 refine aT Tryz.func190 rfl (by kernel_rfl) (by show (2:Nat)≤19;decide) ?_
 unfold eR at b
 refine aAZ (pM (v:=i64 0) (aAf (aH (aAZ (aBl (v:=zS a1 d.length c2) (aB (bQ (len:=d.length) cY rfl) (aBl (v:=i64 0) (aAf (bD (fun f w=>gX=some R∧aL G K (L) w) ?_ ?_)))))))))
 ·rintro f w4 ⟨b,r⟩
  unfold gX at b
  refine aA (aAZ (pM (v:=i64 (-1)) (aAf ?_)))
  cases zI b
  exact bF (bC Tryz.results190 rfl ⟨rfl,r⟩)
 obtain ⟨a3,x,b⟩:=aI b
 refine cD x (fun (c:Int) f w=>f 0=zS a1 d.length c2∧f 1=cL e∧f 7=i64 (d.length:Int)∧f 8=i64 c∧aL G K (L) w) ?_ ?_
 ·exact ⟨rfl,rfl,rfl,rfl,q⟩
 ·rintro c y f a4 a l ⟨m,n,o,h,g⟩
  replace a:dZ d e c=some y:=a
  unfold dZ at a
  refine aAZ (aB (cJ h o) (aAf (aH ?_)))
  rcases aK a with ⟨i,a⟩|⟨i,a⟩
  ·refine aO i rfl (aW (aA (aH (cU (aAZ (aCv h (pM (v:=i64 c) (aAf (aAZ (aCv n (aCv m (aBl (v:=i64 c) ?_))))))))))))
   obtain ⟨a5,p,a⟩:=aI a
   refine aB (cO cY rfl k rfl rfl rfl p) ?_
   obtain ⟨a6,z,J⟩:=bT.el (sz:=1) rfl k p
   cases J
   refine aB (bH (t:=0) pK g z rfl rfl) (aB (aBb rfl rfl) (aAf ?_))
   rcases aK a with ⟨j,a⟩|⟨j,a⟩
   ·refine aO j rfl (aAZ (aBl (v:=i64 c) (pM (v:=i64 c) (aAf (bF (bN (aS (aS ?_))))))))
    have V:=l _ (zI a).symm
    subst V
    have b:(some c)=some R:=b
    cases zI b
    exact bN (aS (aS (bC Tryz.results190 rfl ⟨rfl,g⟩)))
   ·exact aM j rfl (aW (bG (aA (aC (aB (cX h rfl) (aBl (v:=i64 (wr (c+1))) (aAf ⟨wr (c+1),(zI a).symm,m,n,o,rfl,g⟩)))))))
  ·refine aM i rfl (cB (aY (aY ?_)))
   have a0:=l _ (zI a).symm
   subst a0
   have b:(gX)=some R:=b
   exact bO (aA ⟨b,g⟩)
theorem mC {a:(List aZ)} {b:aZ} {R:Bool} (d:aL G K (L) w) (e:bT K a1 c2 a) (c:eA a b=some R):
  Calls Tryz.prog 207 ([zS a1 a.length c2,cL b]:List Value).toArray w (fV fun v w'=>v=zB R∧aL G K (L) w'):=by
 refine aT Tryz.func207 rfl (by kernel_rfl) (by show (2:Nat)≤9;decide) ?_
 unfold eA at c
 refine aAZ (pM (v:=zB false) (aAf (aAZ (aBl (v:=zS a1 a.length c2) (aBl (v:=cL b) ?_)))))
 obtain ⟨g,h,c⟩:=aI c
 refine aU (vs:=[zS a1 a.length c2,cL b]) Tryz.call190 rfl (nN d e h) ?_
 rintro _ k ⟨rfl,i⟩
 refine aB (tT rfl rfl) (pM (v:=zB (decide (0≤g))) (aAf ?_))
 cases zI c
 exact bF (bC Tryz.results207 rfl ⟨rfl,i⟩)
theorem rC {t:dB} {k:Int} {b:aZ} {R:(Int × Bool)} (l:aL G K (L) w) (g:bT K a1 c2 t.L) (m:bT K a4 c5 t.E) (a:lI t k b=some R):
  Calls Tryz.prog 205 ([zA (zCa t a1 c2 a4 c5),i64 k,cL b]:List Value).toArray w (fV fun v w'=>v=zT #[i64 R.1,zB R.2]∧aL G K (L) w'):=by
 let h:=(zC t a1 c2 a4 c5)
 refine aT Tryz.func205 rfl (by kernel_rfl) (by show (3:Nat)≤22;decide) ?_
 unfold lI at a
 refine aAZ (dW (v:=zA (zCa t a1 c2 a4 c5)) (vs:=h) l rfl rfl (fun u x j=>(pM (v:=i64 0) (pM (v:=zB false) (aAf (aH (aAZ (aB (bB (t':=2) gL rfl rfl) (aB (bR jJ j (i:=0) rfl rfl rfl) (aBl (v:=cL b) ?_))))))))))
 obtain ⟨y,n,a⟩:=aI a
 refine aU (vs:=[zS a1 t.L.length c2,cL b]) Tryz.call207 rfl (mC j g n) ?_
 rintro _ z ⟨rfl,d⟩
 refine aB (dY rfl) (aAf ?_)
 rcases aK a with ⟨e,a⟩|⟨e,a⟩
 ·refine aO e rfl (aAZ (aBl (v:=i64 k) (pM (v:=i64 k) (pM (v:=zB true) (aAf ?_)))))
  cases zI a
  exact bF (aS (tM Tryz.results205 rfl rfl ⟨rfl,(aL.arr 1 [] d rfl)⟩))
 ·refine aM e rfl (aW (aA (aAZ (aB (dK (us:=h) fD d (i:=0) rfl rfl rfl rfl) (aBl (v:=i64 k) (aBl (v:=cL b) ?_))))))
  obtain ⟨c,p,a⟩:=aI a
  refine aU (vs:=[zA (zCa t a1 c2 a4 c5),i64 k,cL b]) Tryz.call252 rfl (aHJ d g m p) ?_
  rintro _ J ⟨rfl,q⟩
  refine pM (v:=i64 c) (aAf (aAZ (aBl (v:=i64 c) (aBl (v:=i64 c) (aB (tT rfl rfl) (pM (v:=i64 c) (pM (v:=zB (decide (0≤c))) (aAf ?_))))))))
  cases zI a
  exact bF (tM Tryz.results205 rfl rfl ⟨rfl,(aL.arr 1 [] q rfl)⟩)
theorem kO {pair:(Int × Int)} {path:(List aZ)} {a3 a4:Int} {y:(List aZ)} {J:(List Edge)} {V:(List Int)} {Z:(List aZ)} {a5 a7:Int} {a0:(List aZ)} {a2:(List Edge)} {p10_:(List (List Int))} {m:(List ((Int × Int) × Int))} {a:Nat} {p12_:(List (List aZ))} {R:((List (List Int)) × (List ((Int × Int) × Int)) × (List (List aZ)))} (hs:aL G K (aN 38 Kf a24 c25 p10_::fH a m::aN 22 Kf a27 c28 p12_::box b5 176 [i64 a3,i64 a4,zS a6 y.length c7,zS a9 J.length c10,zS a12 V.length c13,zS a15 Z.length c16,i64 a5,i64 a7,zS a18 a0.length c19,zS a21 a2.length c22,zS a24 p10_.length c25,zM (some a),zS a27 p12_.length c28]::box b4 94 [zP (some ⟨b5,0,none⟩)]::L) w) (b8:Hp.le Kf K) (h3:bT K a1 c2 path) (h8:bT K a6 c7 y) (j1:bT K a9 c10 J) (j2:bT K a12 c13 V) (j3:bT K a15 c16 Z) (j4:bT K a18 c19 a0) (j5:bT K a21 c22 a2) (g:nD pair path a3 a4 y J V Z a5 a7 a0 a2 p10_ m p12_=some R):
  Calls Tryz.prog 144 ([zA #[i64 pair.1,i64 pair.2],zS a1 path.length c2,zP (some ⟨b4,0,none⟩)]:List Value).toArray w (fV fun v w'=>∃ (K':Hp) (c5:Option Addr) (c6:Nat) (c8:Option Addr) (c9:Nat),v=zT #[]∧Hp.le K K'∧aL G K' (aN 38 K' c5 c6 R.1::fH a R.2.1::aN 22 K' c8 c9 R.2.2::box b5 176 [i64 a3,i64 a4,zS a6 y.length c7,zS a9 J.length c10,zS a12 V.length c13,zS a15 Z.length c16,i64 a5,i64 a7,zS a18 a0.length c19,zS a21 a2.length c22,zS c5 R.1.length c6,zM (some a),zS c8 R.2.2.length c9]::box b4 94 [zP (some ⟨b5,0,none⟩)]::L) w'):=by
 let n:=[i64 a3,i64 a4,zS a6 y.length c7,zS a9 J.length c10,zS a12 V.length c13,zS a15 Z.length c16,i64 a5,i64 a7,zS a18 a0.length c19,zS a21 a2.length c22,zS a24 p10_.length c25,zM (some a),zS a27 p12_.length c28]
 let e:=[zP (some ⟨b5,0,none⟩)]
 let o:=aN 22 Kf a27 c28 p12_
 let b0:=aN 38 Kf a24 c25 p10_
 refine aT Tryz.func144 rfl (by kernel_rfl) (by show (3:Nat)≤52;decide) ?_
 unfold nD at g
 refine aAZ (dW (v:=zA #[i64 pair.1,i64 pair.2]) (vs:=[i64 pair.1,i64 pair.2]) hs rfl rfl (fun c j6 b=>(aAf (aH (cT (C:=fun w'=>aL G K (box c 126 [i64 pair.1,i64 pair.2]::b0::fH a m::o::box b5 176 n::box b4 94 e::L) w') bK (by kernel_rfl) (aL.mono b (dE.drew _)) (aQ (fun _ b=>bR qH b (i:=5) rfl rfl rfl) (aQ (fun _ b=>dJ rfl) (aQ (fun _ b=>bB (t':=11) aGe rfl rfl) (aQ (fun _ b=>bR aFJ b (i:=4) rfl rfl rfl) (aQ (fun _ b=>dK (us:=[i64 pair.1,i64 pair.2]) aGI b (i:=0) rfl rfl rfl rfl) (aQ (fun _ b=>R_look (kv:=m) (k:=pair) (z:=(0:Int)) Tryz.runUnderlying173 aFK Tryz.zeroValue2 b (i:=2) rfl rfl rfl) (aQ (fun _ b=>aD (v:=zT #[i64 ((nY m pair).getD 0),zB ((nY m pair).isSome)]) rfl) (aQ (fun _ b=>bV rfl rfl) (aQ (fun _ b=>bV rfl rfl) (aQ (fun _ b=>aG (v:=i64 ((nY m pair).getD 0)) rfl) (aQ (fun _ b=>aG (v:=zB ((nY m pair).isSome)) rfl) (dC (fun d0 d1=>(aA (aAZ (aBl (v:=zB ((nY m pair).isSome)) (aB (dY rfl) (aAf ?_)))))))))))))))))))))))
 rcases aK g with ⟨c0,g⟩|⟨c0,g⟩
 ·refine aO c0 rfl (aH ?_)
  obtain ⟨j7,j8,e8,e9,f0⟩:=aL.lendB (i:=0) d1 rfl
  obtain ⟨j9,f1,d2,f2,f3⟩:=aL.lendB (i:=3) e9 rfl
  obtain ⟨f4,c1,d3,d4,f5⟩:=aL.lendB (i:=3) f2 rfl
  refine eQ (C:=fun w'=>∃ L',aL G f4 L' w') [(0,0),(1,0),(2,0),(3,0),(4,0),(5,0),(6,0),(7,0),(8,0),(9,0),(10,2)] bK (by kernel_rfl) (fun _ hg=>⟨_,aL.mono d4 hg⟩) (fun k0 f6=>?_)
  have p:=aL.mono d4 f6
  refine bS rfl (fun _ ⟨_,p⟩=>bH (t:=0) qH p d3 rfl rfl) (bS rfl (fun _ _=>dJ rfl) (bS rfl (fun _ _=>bB (t':=11) aGe rfl rfl) (bS rfl (fun _ ⟨_,p⟩=>bH (t:=11) aFJ p (d2.mono c1) rfl rfl) (bS rfl (fun _ ⟨_,p⟩=>gO (t:=0) (vs:=[i64 pair.1,i64 pair.2]) aGI p (e8.mono (zL f1 c1)) rfl rfl rfl) (bS rfl (fun _ ⟨_,p⟩=>bH (t:=0) qH p d3 rfl rfl) (bS rfl (fun _ _=>dJ rfl) (bS rfl (fun _ _=>bB (t':=10) sE rfl rfl) (bS rfl (fun _ ⟨_,p⟩=>bH (t:=10) qC p (d2.mono c1) rfl rfl) (bS rfl (fun _ _=>bQ (len:=p10_.length) fX rfl) ?_)))))))))
  have f7:=f5 _ _ p
  have f8:=f3 _ _ f7
  have f9:=f0 _ _ f8
  refine aBn rfl ?_
  obtain ⟨q,g0,g⟩:=aI g
  refine aLW (i:=4) (k:=pair) (v:=(p10_.length:Int)) Tryz.runUnderlying173 aFK f9 rfl rfl rfl rfl g0 (fun d5 (g1:aL G K (box c 126 [i64 pair.1,i64 pair.2]::box b5 176 n::box b4 94 e::b0::fH a q::o::L) d5)=>(aAf (kB (aA (aH ?_)))))
  have d6:aL G K (box c 126 [i64 pair.1,i64 pair.2]::box b5 176 n::box b4 94 e::b0::fH a q::o::L) d5:=g1
  refine eQ (C:=fun w'=>∃ L',aL G K (box c 126 [i64 pair.1,i64 pair.2]::box b5 176 n::box b4 94 e::L') w') [(0,0),(1,0),(2,0),(3,0),(4,0),(5,0),(6,0),(7,1),(8,1),(9,1),(10,1),(11,1),(12,2),(13,2),(14,2)] bK (by kernel_rfl) (fun _ hg=>⟨_,aL.mono d6 hg⟩) (fun k1 g2=>?_)
  have l:=aL.mono d6 g2
  refine bS rfl (fun _ ⟨_,l⟩=>bR qH l (i:=2) rfl rfl rfl) (bS rfl (fun _ ⟨_,l⟩=>bR qH l (i:=2) rfl rfl rfl) (bS rfl (fun _ _=>dJ rfl) (bS rfl (fun _ _=>bB (t':=10) sE rfl rfl) (bS rfl (fun _ ⟨_,l⟩=>bR qC l (i:=1) rfl rfl rfl) (bS rfl (fun _ _=>R_ixP (t':=0) (j:=0) aDP rfl rfl (by decide) (by decide) rfl) (bS rfl (fun _ ⟨_,l⟩=>bR cP l (i:=0) rfl rfl rfl) (lL rfl (aB (R_ixP (t':=1) (j:=1) aDP rfl rfl (by decide) (by decide) rfl) (aF (aA ⟨⟨_,l⟩,?_⟩))))))))))
  refine lL rfl (aB (bR cP l (i:=0) rfl rfl rfl) (aF (aA ⟨⟨_,l⟩,?_⟩)))
  refine lL rfl (dM (Kt:=K) (xs:=([pair.1,pair.2]:List Int)) (cs:=[i64 pair.1,i64 pair.2]) (vs:=[(0,i64 pair.1),(1,i64 pair.2)]) bW tU rfl rfl l rfl (by kernel_rfl) rfl rfl rfl ⟨rfl,rfl,trivial⟩ (fun b1 d7 (d8:aL G K (aN 2 K b1 2 ([pair.1,pair.2]:List Int)::box c 126 [i64 pair.1,i64 pair.2]::box b5 176 n::box b4 94 e::b0::fH a q::o::L) d7)=>(aF (aA ⟨⟨_,(aL.arr 4 [1,2,3,0] d8 rfl)⟩,?_⟩))))
  refine lL rfl ?_
  have g3:aL G K (rows [2] ([(b1,2)]:List (Dp.Hd (List Int))) [([pair.1,pair.2]:List Int)]::box c 126 [i64 pair.1,i64 pair.2]::box b5 176 n::box b4 94 e::b0::fH a q::o::L) d7:=aL.rowsOne d8
  refine dM (Kt:=K) (xs:=dR ([(b1,2)]:List (Dp.Hd (List Int))) ([([pair.1,pair.2]:List Int)]:List (List Int))) (cs:=[zS b1 ([pair.1,pair.2]:List Int).length 2]) (vs:=[(0,zS b1 ([pair.1,pair.2]:List Int).length 2)]) fX aBV rfl rfl g3 rfl (by kernel_rfl) rfl rfl rfl ⟨rfl,trivial⟩ ?_
  intro g4 d9 (e0:aL G K (aN 38 K g4 1 (dR ([(b1,2)]:List (Dp.Hd (List Int))) ([([pair.1,pair.2]:List Int)]:List (List Int)))::rows [2] ([(b1,2)]:List (Dp.Hd (List Int))) ([([pair.1,pair.2]:List Int)]:List (List Int))::box c 126 [i64 pair.1,i64 pair.2]::box b5 176 n::box b4 94 e::b0::fH a q::o::L) d9)
  refine aF (aA ⟨⟨_,(aL.arr 5 [2,3,4,0,1] e0 rfl)⟩,?_⟩)
  refine lL rfl ?_
  obtain ⟨d,b6,g5,_,c3,_⟩:=aL.lendD' (i:=0) e0 rfl rfl rfl
  replace c3:aL G d (box c 126 [i64 pair.1,i64 pair.2]::box b5 176 n::box b4 94 e::b0::fH a q::o::L) d9:=c3
  obtain ⟨x,g6,g⟩:=aI g
  refine aEv (i:=3) fX Tryz.underlying74 aBV rfl rfl c3 rfl (zL b8 b6) g5 g6 rfl rfl rfl rfl (fun r u g7 (e1:aL G d (box c 126 [i64 pair.1,i64 pair.2]::box b5 176 n::box b4 94 e::aN 38 d r u x::fH a q::o::L) g7)=>(aF (aA ⟨⟨_,(aL.weakK e1 b6)⟩,?_⟩)))
  refine aBn rfl (aB (dJ rfl) (aAf (aBn rfl (aB (bB (t':=10) sE rfl rfl) (aAf (aBn rfl (cC (i:=1) (ns:=[zS r x.length u]) (us:=[i64 a3,i64 a4,zS a6 y.length c7,zS a9 J.length c10,zS a12 V.length c13,zS a15 Z.length c16,i64 a5,i64 a7,zS a18 a0.length c19,zS a21 a2.length c22,zS r x.length u,zM (some a),zS a27 p12_.length c28]) Tryz.sizeOf74 e1 rfl rfl rfl rfl rfl (dL rfl) rfl rfl (fun g8 (g9:aL G d (box c 126 [i64 pair.1,i64 pair.2]::box b5 176 [i64 a3,i64 a4,zS a6 y.length c7,zS a9 J.length c10,zS a12 V.length c13,zS a15 Z.length c16,i64 a5,i64 a7,zS a18 a0.length c19,zS a21 a2.length c22,zS r x.length u,zM (some a),zS a27 p12_.length c28]::box b4 94 e::aN 38 d r u x::fH a q::o::L) g8)=>(aAf (kB (aA ?_)))))))))))
  obtain ⟨k2,k3,h0,h1,h2⟩:=aL.lendB (i:=1) g9 rfl
  obtain ⟨c4,h4,e2,e3,h5⟩:=aL.lendB (i:=1) h1 rfl
  refine eQ (C:=fun w'=>∃ L',aL G c4 L' w') [(0,0),(1,0),(2,0),(3,0),(4,0),(5,1),(6,1),(7,1),(8,2),(9,2),(10,2)] bK (by kernel_rfl) (fun _ hg=>⟨_,aL.mono e3 hg⟩) (fun k4 h6=>?_)
  have a8:=aL.mono e3 h6
  refine bS rfl (fun _ ⟨_,a8⟩=>bH (t:=0) qH a8 e2 rfl rfl) (bS rfl (fun _ ⟨_,a8⟩=>bH (t:=0) qH a8 e2 rfl rfl) (bS rfl (fun _ _=>dJ rfl) (bS rfl (fun _ _=>bB (t':=12) aGf rfl rfl) (bS rfl (fun _ ⟨_,a8⟩=>bH (t:=12) aKP a8 (h0.mono h4) rfl rfl) (lL rfl (aBl (v:=zS a1 path.length c2) (aF (aA ⟨⟨_,a8⟩,?_⟩))))))))
  refine lL rfl (dM (Kt:=d) (xs:=([path]:List (List aZ))) (cs:=[zS a1 path.length c2]) (vs:=[(0,zS a1 path.length c2)]) aIm ez_22 rfl rfl a8 rfl (by kernel_rfl) rfl rfl rfl ⟨⟨a1,c2,rfl,(h3.mono b6)⟩,trivial⟩ (fun h7 h9 (e4:aL G c4 (aN 22 d h7 1 ([path]:List (List aZ))::box c 126 [i64 pair.1,i64 pair.2]::aN 38 d r u x::fH a q::o::L) h9)=>(aF (aA ⟨⟨_,e4⟩,?_⟩))))
  refine lL rfl ?_
  obtain ⟨b7,i0,g⟩:=aI g
  refine aFX (i:=3) d aIm Tryz.underlying174 ez_22 rfl rfl e4 rfl (zL b8 b6) (zR _) i0 rfl rfl rfl rfl (fun _ _ _ h=>El.one h) (fun b2 b3 i1 (e5:aL G c4 (box c 126 [i64 pair.1,i64 pair.2]::aN 38 d r u x::fH a q::aN 22 d b2 b3 b7::L) i1)=>(aF (aA ⟨⟨_,e5⟩,?_⟩)))
  have i2:=h5 _ _ e5
  have i3:=h2 _ _ i2
  refine aBn rfl (aB (dJ rfl) (aAf (aBn rfl (aB (bB (t':=12) aGf rfl rfl) (aAf (aBn rfl (cC (i:=0) (ns:=[zS b2 b7.length b3]) (us:=[i64 a3,i64 a4,zS a6 y.length c7,zS a9 J.length c10,zS a12 V.length c13,zS a15 Z.length c16,i64 a5,i64 a7,zS a18 a0.length c19,zS a21 a2.length c22,zS r x.length u,zM (some a),zS b2 b7.length b3]) Tryz.sizeOf174 i3 rfl rfl rfl rfl rfl (dL rfl) rfl rfl (fun i4 (i5:aL G d (box b5 176 [i64 a3,i64 a4,zS a6 y.length c7,zS a9 J.length c10,zS a12 V.length c13,zS a15 Z.length c16,i64 a5,i64 a7,zS a18 a0.length c19,zS a21 a2.length c22,zS r x.length u,zM (some a),zS b2 b7.length b3]::box b4 94 e::box c 126 [i64 pair.1,i64 pair.2]::aN 38 d r u x::fH a q::aN 22 d b2 b3 b7::L) i4)=>(aAf (kB ?_))))))))))
  cases zI g
  exact yA Tryz.results144 ⟨d,r,u,b2,b3,rfl,b6,(aL.arr 6 [3,4,5,0,1] i5 rfl)⟩
 ·refine aM c0 rfl ?_
  have i7:aL G K (box c 126 [i64 pair.1,i64 pair.2]::aN 38 K a24 c25 p10_::fH a m::o::box b5 176 n::box b4 94 e::L) d0:=aL.weak (i:=1) d1 rfl (fun _ h=>aN.mono b8 h)
  have i8:aL G K (box c 126 [i64 pair.1,i64 pair.2]::aN 38 K a24 c25 p10_::fH a m::aN 22 K a27 c28 p12_::box b5 176 n::box b4 94 e::L) d0:=aL.weak (i:=3) i7 rfl (fun _ h=>aN.mono b8 h)
  cases zI g
  exact aW (yA Tryz.results144 ⟨K,a24,c25,a27,c28,rfl,(zR _),(aL.arr 1 [] i8 rfl)⟩)
theorem aEO {g:aZ} {to_:(Int × Int)} {k2:Nat} {b8 b9:Int} {a8:(List aZ)} {b0:(List Edge)} {b1:(List Int)} {b2:(List aZ)} {c0 c1:Int} {b3:(List aZ)} {b6:(List Edge)} {o:(List (List Int))} {e5:(List ((Int × Int) × Int))} {Z:Nat} {u:(List (List aZ))} {p:Int} {i0:Nat} {R:((List (List Int)) × (List ((Int × Int) × Int)) × (List (List aZ)))} (hs:aL G K (aN 38 Kf a24 c25 o::fH Z e5::aN 22 Kf a27 c28 u::box b5 176 [i64 b8,i64 b9,zS a6 a8.length c7,zS a9 b0.length c10,zS a12 b1.length c13,zS a15 b2.length c16,i64 c0,i64 c1,zS a18 b3.length c19,zS a21 b6.length c22,zS a24 o.length c25,zM (some Z),zS a27 u.length c28]::box b4 94 [zP (some ⟨b5,0,none⟩)]::L) w) (q:Hp.le Kf K) (h3:fW K a1 k2 [Value.func (.func 144) #[] #[zP (some ⟨b4,0,none⟩)]]) (h8:bT K a6 c7 a8) (c3:bT K a9 c10 b0) (c4:bT K a12 c13 b1) (c5:bT K a15 c16 b2) (c6:bT K a18 c19 b3) (c8:bT K a21 c22 b6) (m3:fW K a29 i0 [i64 p]) (b:wU g to_ b8 b9 a8 b0 b1 b2 c0 c1 b3 b6 o e5 u p=some R):
  Calls Tryz.prog 146 ([cL g,zA #[i64 to_.1,i64 to_.2],bY a1 k2,zP (some ⟨b4,0,none⟩),bY a29 i0]:List Value).toArray w (fV fun v w'=>∃ (K':Hp) (i1:Option Addr) (i2:Nat) (i3:Option Addr) (i4:Nat),v=zT #[]∧Hp.le K K'∧aL G K' (aN 38 K' i1 i2 R.1::fH Z R.2.1::aN 22 K' i3 i4 R.2.2::box b5 176 [i64 b8,i64 b9,zS a6 a8.length c7,zS a9 b0.length c10,zS a12 b1.length c13,zS a15 b2.length c16,i64 c0,i64 c1,zS a18 b3.length c19,zS a21 b6.length c22,zS i1 R.1.length i2,zM (some Z),zS i3 R.2.2.length i4]::box b4 94 [zP (some ⟨b5,0,none⟩)]::L) w'):=by
 let d:=[i64 b8,i64 b9,zS a6 a8.length c7,zS a9 b0.length c10,zS a12 b1.length c13,zS a15 b2.length c16,i64 c0,i64 c1,zS a18 b3.length c19,zS a21 b6.length c22,zS a24 o.length c25,zM (some Z),zS a27 u.length c28]
 let c:=[zP (some ⟨b5,0,none⟩)]
 let c9:=[zP (some ⟨b4,0,none⟩)]
 let k:=aN 22 Kf a27 c28 u
 let m:=aN 38 Kf a24 c25 o
 let e:=fH Z e5
 refine aT Tryz.func146 rfl (by kernel_rfl) (by show (5:Nat)≤21;decide) ?_
 unfold wU at b
 refine aAZ (dW (v:=zA #[i64 to_.1,i64 to_.2]) (vs:=[i64 to_.1,i64 to_.2]) hs rfl rfl (fun w9 m4 m5=>(aAf (cS (fun f w=>∃ (b7:Hp) (d2:List (List Int)) (e6:(List ((Int × Int) × Int))) (d3:List (List aZ)) (d4:Option Addr) (d5:Nat) (d6:Option Addr) (d7:Nat),Hp.le K b7∧rV d2 e6 d3=some R∧aL G b7 (aN 22 b7 d6 d7 d3::aN 38 b7 d4 d5 d2::fH Z e6::box b5 176 [i64 b8,i64 b9,zS a6 a8.length c7,zS a9 b0.length c10,zS a12 b1.length c13,zS a15 b2.length c16,i64 c0,i64 c1,zS a18 b3.length c19,zS a21 b6.length c22,zS d4 d2.length d5,zM (some Z),zS d6 d3.length d7]::box b4 94 c::L) w) ?_ ?_))))
 ·rintro f x0 ⟨b7,d2,e6,d3,d4,d5,d6,d7,m6,b,m7⟩
  unfold rV at b
  cases zI b
  exact yA Tryz.results146 ⟨b7,d4,d5,d6,d7,rfl,m6,(aL.arr 3 [1,2,0] m7 rfl)⟩
 obtain ⟨n,a,m9,e7,_⟩:=aL.lendB (i:=0) m5 rfl
 replace e7:aL G n (m::e::k::box b5 176 d::box b4 94 c::L) m4:=e7
 refine aAg (C:=fun w'=>∃ L',aL G n L' w') [] bK (by kernel_rfl) (fun x1 n0=>?_)
 have l:=aL.mono e7 n0
 refine gN (i:=0) rfl (by kernel_rfl) ⟨_,l⟩ (fun _ ⟨_,l⟩=>bH (t:=0) sc_178 l (h3.mono a) rfl rfl) (gN (i:=1) rfl (by kernel_rfl) ⟨_,l⟩ (fun _ ⟨_,l⟩=>gO (t:=0) (vs:=[i64 to_.1,i64 to_.2]) aGI l m9 (aFu rfl) rfl rfl) (gN (i:=6) rfl (by kernel_rfl) ⟨_,l⟩ (fun _ ⟨_,l⟩=>bH (t:=0) sc_3 l (m3.mono a) rfl rfl) (gN (i:=10) rfl (by kernel_rfl) ⟨_,l⟩ (fun _ _=>aD (v:=cL g) rfl) (qE (i:=2) (j:=11) (by kernel_rfl) rfl rfl ?_ ?_))))
 ·refine aB (bR qH l (i:=4) rfl rfl rfl) (aF (aA ⟨fun _=>⟨_,l⟩,?_⟩))
  refine gN (i:=3) rfl (by kernel_rfl) ⟨_,l⟩ (fun _ _=>dJ rfl) (gN (i:=4) rfl (by kernel_rfl) ⟨_,l⟩ (fun _ _=>bB (t':=12) aGf rfl rfl) (qE (i:=5) (j:=11) (by kernel_rfl) rfl rfl ?_ ?_))
  ·refine aB (bR aKP l (i:=3) rfl rfl rfl) (aF (aA ⟨fun _=>⟨_,l⟩,?_⟩))
   obtain ⟨d0,d8,b⟩:=aI b
   have n1:=cG l (i:=2) rfl d8
   refine gN (i:=7) rfl (by kernel_rfl) ⟨_,l⟩ (fun _ _=>dA aIm rfl n1 rfl rfl rfl d8) (qE (i:=8) (j:=11) (by kernel_rfl) rfl rfl ?_ ?_)
   ·obtain ⟨x2,n2,n3⟩:=aBc (sz:=1) rfl l (i:=2) rfl d8
    obtain ⟨e8,e9,rfl,i5⟩:=n3
    refine aB (aEa (t:=0) (v:=zS e8 d0.length e9) jJ n2 rfl rfl) (aF (aA ⟨fun _=>⟨_,l⟩,?_⟩))
    refine qE (i:=9) (j:=11) (by kernel_rfl) rfl rfl ?_ ?_
    ·obtain ⟨n4,n5,b⟩:=aI b
     refine aU (vs:=[zS e8 d0.length e9]) Tryz.call84 rfl (cM l (i5.mono (zL q a)) n5) ?_
     rintro _ x3 ⟨n6,n7,rfl,i6⟩
     refine aF (aA ⟨fun _=>⟨_,i6⟩,?_⟩)
     refine cW (i:=11) (by kernel_rfl) rfl (dM (Kt:=K) (xs:=([g]:List aZ)) (cs:=[cL g]) (vs:=[(0,cL g)]) cY yD rfl rfl i6 rfl (by kernel_rfl) rfl rfl rfl ⟨rfl,trivial⟩ (fun n8 n9 (i7:aL G n (aN 9 K n8 1 ([g]:List aZ)::aN 9 K n6 n7 n4::m::e::k::box b5 176 d::box b4 94 c::L) n9)=>(aF (aA ⟨fun _=>⟨_,i7⟩,?_⟩))))
     refine cW (i:=12) (by kernel_rfl) rfl ?_
     obtain ⟨f0,o0,b⟩:=aI b
     refine iY (i:=0) cY Tryz.underlying22 yD rfl rfl i7 rfl a a o0 rfl rfl rfl rfl (fun _ h=>h) (fun f1 f2 d9 (i8:aL G n (aN 9 K f1 f2 f0::m::e::k::box b5 176 d::box b4 94 c::L) d9)=>(aF (aA ⟨fun _=>⟨_,i8⟩,?_⟩)))
     refine cW (i:=13) (by kernel_rfl) rfl ?_
     obtain ⟨a2,x,o1,f3⟩:=aL.giveS (i:=0) i8 a rfl
     replace f3:aL G a2 (m::e::k::box b5 176 d::box b4 94 c::L) d9:=f3
     have o2:aL G a2 (aN 38 a2 a24 c25 o::e::k::box b5 176 d::box b4 94 c::L) d9:=aL.weak (i:=0) f3 rfl (fun _ h=>aN.mono (zL (zL q a) x) h)
     have o3:aL G a2 (aN 38 a2 a24 c25 o::e::aN 22 a2 a27 c28 u::box b5 176 d::box b4 94 c::L) d9:=aL.weak (i:=2) o2 rfl (fun _ h=>aN.mono (zL (zL q a) x) h)
     obtain ⟨f4,o4,b⟩:=aI b
     refine kH (vs:=[zA #[i64 to_.1,i64 to_.2],zS f1 f0.length f2]) (caps:=c9) (us:=[zA #[i64 to_.1,i64 to_.2],zS f1 f0.length f2,zP (some ⟨b4,0,none⟩)]) rfl Tryz.call144 rfl rfl (kO (Kf:=a2) o3 (zR _) o1 (h8.mono (zL a x)) (c3.mono (zL a x)) (c4.mono (zL a x)) (c5.mono (zL a x)) (c6.mono (zL a x)) (c8.mono (zL a x)) o4) ?_
     rintro _ x4 ⟨o5,o6,o7,o8,o9,rfl,i9,j0⟩
     refine aF (aA ⟨fun _=>⟨_,(aL.weakK j0 (zL x i9))⟩,?_⟩)
     exact kQ (by kernel_rfl) (aA ⟨o5,f4.1,f4.2.1,f4.2.2,o6,o7,o8,o9,(zL (zL a x) i9),b,(aL.arr 3 [2,0,1] j0 rfl)⟩)
    ·refine dM (Kt:=K) (xs:=([g]:List aZ)) (cs:=[cL g]) (vs:=[(0,cL g)]) cY yD rfl rfl l rfl (by kernel_rfl) rfl rfl rfl ⟨rfl,trivial⟩ (fun j1 p0 (j2:aL G n (aN 9 K j1 1 ([g]:List aZ)::m::e::k::box b5 176 d::box b4 94 c::L) p0)=>(aF (aA ⟨fun _=>⟨_,j2⟩,?_⟩)))
     refine cW (i:=9) (by kernel_rfl) rfl ?_
     obtain ⟨p1,p2,b⟩:=aI b
     refine aU (vs:=[zS e8 d0.length e9]) Tryz.call84 rfl (cM j2 (i5.mono (zL q a)) p2) ?_
     rintro _ p3 ⟨p4,p5,rfl,j3⟩
     refine aF (aA ⟨fun _=>⟨_,j3⟩,?_⟩)
     refine cW (i:=12) (by kernel_rfl) rfl ?_
     obtain ⟨f5,p6,b⟩:=aI b
     have p7:aL G n (aN 9 K j1 1 ([g]:List aZ)::aN 9 K p4 p5 p1::m::e::k::box b5 176 d::box b4 94 c::L) p3:=(aL.arr 2 [1,0] j3 rfl)
     refine iY (i:=0) cY Tryz.underlying22 yD rfl rfl p7 rfl a a p6 rfl rfl rfl rfl (fun _ h=>h) (fun f6 f7 e0 (j4:aL G n (aN 9 K f6 f7 f5::m::e::k::box b5 176 d::box b4 94 c::L) e0)=>(aF (aA ⟨fun _=>⟨_,j4⟩,?_⟩)))
     refine cW (i:=13) (by kernel_rfl) rfl ?_
     obtain ⟨a3,y,p8,f8⟩:=aL.giveS (i:=0) j4 a rfl
     replace f8:aL G a3 (m::e::k::box b5 176 d::box b4 94 c::L) e0:=f8
     have p9:aL G a3 (aN 38 a3 a24 c25 o::e::k::box b5 176 d::box b4 94 c::L) e0:=aL.weak (i:=0) f8 rfl (fun _ h=>aN.mono (zL (zL q a) y) h)
     have q0:aL G a3 (aN 38 a3 a24 c25 o::e::aN 22 a3 a27 c28 u::box b5 176 d::box b4 94 c::L) e0:=aL.weak (i:=2) p9 rfl (fun _ h=>aN.mono (zL (zL q a) y) h)
     obtain ⟨f9,q1,b⟩:=aI b
     refine kH (vs:=[zA #[i64 to_.1,i64 to_.2],zS f6 f5.length f7]) (caps:=c9) (us:=[zA #[i64 to_.1,i64 to_.2],zS f6 f5.length f7,zP (some ⟨b4,0,none⟩)]) rfl Tryz.call144 rfl rfl (kO (Kf:=a3) q0 (zR _) p8 (h8.mono (zL a y)) (c3.mono (zL a y)) (c4.mono (zL a y)) (c5.mono (zL a y)) (c6.mono (zL a y)) (c8.mono (zL a y)) q1) ?_
     rintro _ x5 ⟨q2,q3,q4,q5,q6,rfl,j5,j6⟩
     refine aF (aA ⟨fun _=>⟨_,(aL.weakK j6 (zL y j5))⟩,?_⟩)
     exact kQ (by kernel_rfl) (aA ⟨q2,f9.1,f9.2.1,f9.2.2,q3,q4,q5,q6,(zL (zL a y) j5),b,(aL.arr 3 [2,0,1] j6 rfl)⟩)
   ·refine dM (Kt:=K) (xs:=([g]:List aZ)) (cs:=[cL g]) (vs:=[(0,cL g)]) cY yD rfl rfl l rfl (by kernel_rfl) rfl rfl rfl ⟨rfl,trivial⟩ (fun j7 q7 (e1:aL G n (aN 9 K j7 1 ([g]:List aZ)::m::e::k::box b5 176 d::box b4 94 c::L) q7)=>(aF (aA ⟨fun _=>⟨_,e1⟩,?_⟩)))
    refine cW (i:=8) (by kernel_rfl) rfl ?_
    obtain ⟨x6,q8,q9⟩:=aBc (sz:=1) rfl e1 (i:=3) rfl d8
    obtain ⟨j8,j9,rfl,r0⟩:=q9
    refine aB (aEa (t:=0) (v:=zS j8 d0.length j9) jJ q8 rfl rfl) (aF (aA ⟨fun _=>⟨_,e1⟩,?_⟩))
    refine cW (i:=9) (by kernel_rfl) rfl ?_
    obtain ⟨r1,r2,b⟩:=aI b
    refine aU (vs:=[zS j8 d0.length j9]) Tryz.call84 rfl (cM e1 (r0.mono (zL q a)) r2) ?_
    rintro _ r3 ⟨r4,r5,rfl,k0⟩
    refine aF (aA ⟨fun _=>⟨_,k0⟩,?_⟩)
    refine cW (i:=12) (by kernel_rfl) rfl ?_
    obtain ⟨g0,r6,b⟩:=aI b
    have r7:aL G n (aN 9 K j7 1 ([g]:List aZ)::aN 9 K r4 r5 r1::m::e::k::box b5 176 d::box b4 94 c::L) r3:=(aL.arr 2 [1,0] k0 rfl)
    refine iY (i:=0) cY Tryz.underlying22 yD rfl rfl r7 rfl a a r6 rfl rfl rfl rfl (fun _ h=>h) (fun g1 g2 e2 (k1:aL G n (aN 9 K g1 g2 g0::m::e::k::box b5 176 d::box b4 94 c::L) e2)=>(aF (aA ⟨fun _=>⟨_,k1⟩,?_⟩)))
    refine cW (i:=13) (by kernel_rfl) rfl ?_
    obtain ⟨a4,z,r8,g3⟩:=aL.giveS (i:=0) k1 a rfl
    replace g3:aL G a4 (m::e::k::box b5 176 d::box b4 94 c::L) e2:=g3
    have r9:aL G a4 (aN 38 a4 a24 c25 o::e::k::box b5 176 d::box b4 94 c::L) e2:=aL.weak (i:=0) g3 rfl (fun _ h=>aN.mono (zL (zL q a) z) h)
    have s0:aL G a4 (aN 38 a4 a24 c25 o::e::aN 22 a4 a27 c28 u::box b5 176 d::box b4 94 c::L) e2:=aL.weak (i:=2) r9 rfl (fun _ h=>aN.mono (zL (zL q a) z) h)
    obtain ⟨g4,s1,b⟩:=aI b
    refine kH (vs:=[zA #[i64 to_.1,i64 to_.2],zS g1 g0.length g2]) (caps:=c9) (us:=[zA #[i64 to_.1,i64 to_.2],zS g1 g0.length g2,zP (some ⟨b4,0,none⟩)]) rfl Tryz.call144 rfl rfl (kO (Kf:=a4) s0 (zR _) r8 (h8.mono (zL a z)) (c3.mono (zL a z)) (c4.mono (zL a z)) (c5.mono (zL a z)) (c6.mono (zL a z)) (c8.mono (zL a z)) s1) ?_
    rintro _ x7 ⟨s2,s3,s4,s5,s6,rfl,k3,k4⟩
    refine aF (aA ⟨fun _=>⟨_,(aL.weakK k4 (zL z k3))⟩,?_⟩)
    exact kQ (by kernel_rfl) (aA ⟨s2,g4.1,g4.2.1,g4.2.2,s3,s4,s5,s6,(zL (zL a z) k3),b,(aL.arr 3 [2,0,1] k4 rfl)⟩)
  ·refine dM (Kt:=K) (xs:=([g]:List aZ)) (cs:=[cL g]) (vs:=[(0,cL g)]) cY yD rfl rfl l rfl (by kernel_rfl) rfl rfl rfl ⟨rfl,trivial⟩ (fun k5 s7 (a0:aL G n (aN 9 K k5 1 ([g]:List aZ)::m::e::k::box b5 176 d::box b4 94 c::L) s7)=>(aF (aA ⟨fun _=>⟨_,a0⟩,?_⟩)))
   refine cW (i:=5) (by kernel_rfl) rfl (aB (bR aKP a0 (i:=4) rfl rfl rfl) (aF (aA ⟨fun _=>⟨_,a0⟩,?_⟩)))
   obtain ⟨k6,g5,b⟩:=aI b
   have s8:=cG a0 (i:=3) rfl g5
   refine gN (i:=7) rfl (by kernel_rfl) ⟨_,a0⟩ (fun _ _=>dA aIm rfl s8 rfl rfl rfl g5) (cW (i:=8) (by kernel_rfl) rfl ?_)
   obtain ⟨x8,s9,t0⟩:=aBc (sz:=1) rfl a0 (i:=3) rfl g5
   obtain ⟨k7,k8,rfl,t1⟩:=t0
   refine aB (aEa (t:=0) (v:=zS k7 k6.length k8) jJ s9 rfl rfl) (aF (aA ⟨fun _=>⟨_,a0⟩,?_⟩))
   refine cW (i:=9) (by kernel_rfl) rfl ?_
   obtain ⟨t2,t3,b⟩:=aI b
   refine aU (vs:=[zS k7 k6.length k8]) Tryz.call84 rfl (cM a0 (t1.mono (zL q a)) t3) ?_
   rintro _ t4 ⟨t5,t6,rfl,k9⟩
   refine aF (aA ⟨fun _=>⟨_,k9⟩,?_⟩)
   refine cW (i:=12) (by kernel_rfl) rfl ?_
   obtain ⟨g6,t7,b⟩:=aI b
   have t8:aL G n (aN 9 K k5 1 ([g]:List aZ)::aN 9 K t5 t6 t2::m::e::k::box b5 176 d::box b4 94 c::L) t4:=(aL.arr 2 [1,0] k9 rfl)
   refine iY (i:=0) cY Tryz.underlying22 yD rfl rfl t8 rfl a a t7 rfl rfl rfl rfl (fun _ h=>h) (fun g7 g8 e3 (l0:aL G n (aN 9 K g7 g8 g6::m::e::k::box b5 176 d::box b4 94 c::L) e3)=>(aF (aA ⟨fun _=>⟨_,l0⟩,?_⟩)))
   refine cW (i:=13) (by kernel_rfl) rfl ?_
   obtain ⟨a5,J,t9,g9⟩:=aL.giveS (i:=0) l0 a rfl
   replace g9:aL G a5 (m::e::k::box b5 176 d::box b4 94 c::L) e3:=g9
   have u0:aL G a5 (aN 38 a5 a24 c25 o::e::k::box b5 176 d::box b4 94 c::L) e3:=aL.weak (i:=0) g9 rfl (fun _ h=>aN.mono (zL (zL q a) J) h)
   have u1:aL G a5 (aN 38 a5 a24 c25 o::e::aN 22 a5 a27 c28 u::box b5 176 d::box b4 94 c::L) e3:=aL.weak (i:=2) u0 rfl (fun _ h=>aN.mono (zL (zL q a) J) h)
   obtain ⟨h0,u2,b⟩:=aI b
   refine kH (vs:=[zA #[i64 to_.1,i64 to_.2],zS g7 g6.length g8]) (caps:=c9) (us:=[zA #[i64 to_.1,i64 to_.2],zS g7 g6.length g8,zP (some ⟨b4,0,none⟩)]) rfl Tryz.call144 rfl rfl (kO (Kf:=a5) u1 (zR _) t9 (h8.mono (zL a J)) (c3.mono (zL a J)) (c4.mono (zL a J)) (c5.mono (zL a J)) (c6.mono (zL a J)) (c8.mono (zL a J)) u2) ?_
   rintro _ x9 ⟨u3,u4,u5,u6,u7,rfl,l1,l2⟩
   refine aF (aA ⟨fun _=>⟨_,(aL.weakK l2 (zL J l1))⟩,?_⟩)
   exact kQ (by kernel_rfl) (aA ⟨u3,h0.1,h0.2.1,h0.2.2,u4,u5,u6,u7,(zL (zL a J) l1),b,(aL.arr 3 [2,0,1] l2 rfl)⟩)
 ·refine dM (Kt:=K) (xs:=([g]:List aZ)) (cs:=[cL g]) (vs:=[(0,cL g)]) cY yD rfl rfl l rfl (by kernel_rfl) rfl rfl rfl ⟨rfl,trivial⟩ (fun l3 u8 (r:aL G n (aN 9 K l3 1 ([g]:List aZ)::m::e::k::box b5 176 d::box b4 94 c::L) u8)=>(aF (aA ⟨fun _=>⟨_,r⟩,?_⟩)))
  refine cW (i:=2) (by kernel_rfl) rfl (aB (bR qH r (i:=5) rfl rfl rfl) (aF (aA ⟨fun _=>⟨_,r⟩,?_⟩)))
  refine gN (i:=3) rfl (by kernel_rfl) ⟨_,r⟩ (fun _ _=>dJ rfl) (gN (i:=4) rfl (by kernel_rfl) ⟨_,r⟩ (fun _ _=>bB (t':=12) aGf rfl rfl) (cW (i:=5) (by kernel_rfl) rfl (aB (bR aKP r (i:=4) rfl rfl rfl) (aF (aA ⟨fun _=>⟨_,r⟩,?_⟩)))))
  obtain ⟨l4,h1,b⟩:=aI b
  have u9:=cG r (i:=3) rfl h1
  refine gN (i:=7) rfl (by kernel_rfl) ⟨_,r⟩ (fun _ _=>dA aIm rfl u9 rfl rfl rfl h1) (cW (i:=8) (by kernel_rfl) rfl ?_)
  obtain ⟨y0,v0,v1⟩:=aBc (sz:=1) rfl r (i:=3) rfl h1
  obtain ⟨l5,l6,rfl,v2⟩:=v1
  refine aB (aEa (t:=0) (v:=zS l5 l4.length l6) jJ v0 rfl rfl) (aF (aA ⟨fun _=>⟨_,r⟩,?_⟩))
  refine cW (i:=9) (by kernel_rfl) rfl ?_
  obtain ⟨v3,v4,b⟩:=aI b
  refine aU (vs:=[zS l5 l4.length l6]) Tryz.call84 rfl (cM r (v2.mono (zL q a)) v4) ?_
  rintro _ v5 ⟨v6,v7,rfl,l7⟩
  refine aF (aA ⟨fun _=>⟨_,l7⟩,?_⟩)
  refine cW (i:=12) (by kernel_rfl) rfl ?_
  obtain ⟨h2,v8,b⟩:=aI b
  have v9:aL G n (aN 9 K l3 1 ([g]:List aZ)::aN 9 K v6 v7 v3::m::e::k::box b5 176 d::box b4 94 c::L) v5:=(aL.arr 2 [1,0] l7 rfl)
  refine iY (i:=0) cY Tryz.underlying22 yD rfl rfl v9 rfl a a v8 rfl rfl rfl rfl (fun _ h=>h) (fun h4 h5 e4 (l8:aL G n (aN 9 K h4 h5 h2::m::e::k::box b5 176 d::box b4 94 c::L) e4)=>(aF (aA ⟨fun _=>⟨_,l8⟩,?_⟩)))
  refine cW (i:=13) (by kernel_rfl) rfl ?_
  obtain ⟨a7,V,w0,h6⟩:=aL.giveS (i:=0) l8 a rfl
  replace h6:aL G a7 (m::e::k::box b5 176 d::box b4 94 c::L) e4:=h6
  have w1:aL G a7 (aN 38 a7 a24 c25 o::e::k::box b5 176 d::box b4 94 c::L) e4:=aL.weak (i:=0) h6 rfl (fun _ h=>aN.mono (zL (zL q a) V) h)
  have w2:aL G a7 (aN 38 a7 a24 c25 o::e::aN 22 a7 a27 c28 u::box b5 176 d::box b4 94 c::L) e4:=aL.weak (i:=2) w1 rfl (fun _ h=>aN.mono (zL (zL q a) V) h)
  obtain ⟨h7,w3,b⟩:=aI b
  refine kH (vs:=[zA #[i64 to_.1,i64 to_.2],zS h4 h2.length h5]) (caps:=c9) (us:=[zA #[i64 to_.1,i64 to_.2],zS h4 h2.length h5,zP (some ⟨b4,0,none⟩)]) rfl Tryz.call144 rfl rfl (kO (Kf:=a7) w2 (zR _) w0 (h8.mono (zL a V)) (c3.mono (zL a V)) (c4.mono (zL a V)) (c5.mono (zL a V)) (c6.mono (zL a V)) (c8.mono (zL a V)) w3) ?_
  rintro _ y1 ⟨w4,w5,w6,w7,w8,rfl,l9,m0⟩
  refine aF (aA ⟨fun _=>⟨_,(aL.weakK m0 (zL V l9))⟩,?_⟩)
  exact kQ (by kernel_rfl) (aA ⟨w4,h7.1,h7.2.1,h7.2.2,w5,w6,w7,w8,(zL (zL a V) l9),b,(aL.arr 3 [2,0,1] m0 rfl)⟩)
theorem pF {n o:Int} {g:(List aZ)} {j:(List Edge)} {z:(List Int)} {J:(List aZ)} {p q:Int} {k:(List aZ)} {l:(List Edge)} {b3:(List (List Int))} {c4:(List ((Int × Int) × Int))} {c:Nat} {b4:(List (List aZ))} {pair:(List Int)} {b5:Nat} {e6:Int} {b6:Nat} {R:((List (List Int)) × (List ((Int × Int) × Int)) × (List (List aZ)))} (hs:aL G K (aN 38 Kf a20 c21 b3::fH c c4::aN 22 Kf a23 c24 b4::box b1 176 [i64 n,i64 o,zS a2 g.length c3,zS a5 j.length c6,zS a8 z.length c9,zS a11 J.length c12,i64 p,i64 q,zS a14 k.length c15,zS a17 l.length c18,zS a20 b3.length c21,zM (some c),zS a23 b4.length c24]::box b31 94 [zP (some ⟨b1,0,none⟩)]::L) w) (f7:Hp.le Kf K) (h4:bT K a2 c3 g) (h7:bT K a5 c6 j) (h5:bT K a8 c9 z) (h6:bT K a11 c12 J) (f9:bT K a14 c15 k) (g0:bT K a17 c18 l) (c7:bT K a25 c26 pair) (h8:fW K a28 b5 [Value.func (.func 144) #[] #[zP (some ⟨b31,0,none⟩)]]) (h9:fW K a32 b6 [i64 e6]) (V:sO n o g j z J p q k l b3 c4 b4 pair e6=some R):
  Calls Tryz.prog 145 ([zP (some ⟨b1,0,none⟩),zS a25 pair.length c26,Value.func (.func 146) #[] #[bY a28 b5,zP (some ⟨b31,0,none⟩),bY a32 b6]]:List Value).toArray w (fV fun v w'=>∃ (K':Hp) (g1:Option Addr) (g2:Nat) (g3:Option Addr) (g4:Nat),v=zT #[]∧Hp.le K K'∧aL G K' (aN 38 K' g1 g2 R.1::fH c R.2.1::aN 22 K' g3 g4 R.2.2::box b1 176 [i64 n,i64 o,zS a2 g.length c3,zS a5 j.length c6,zS a8 z.length c9,zS a11 J.length c12,i64 p,i64 q,zS a14 k.length c15,zS a17 l.length c18,zS g1 R.1.length g2,zM (some c),zS g3 R.2.2.length g4]::box b31 94 [zP (some ⟨b1,0,none⟩)]::L) w'):=by
 let g5:=[i64 n,i64 o,zS a2 g.length c3,zS a5 j.length c6,zS a8 z.length c9,zS a11 J.length c12,i64 p,i64 q,zS a14 k.length c15,zS a17 l.length c18,zS a20 b3.length c21,zM (some c),zS a23 b4.length c24]
 let b0:=[zP (some ⟨b1,0,none⟩)]
 refine aT Tryz.func145 rfl (by kernel_rfl) (by show (3:Nat)≤56;decide) ?_
 unfold sO at V
 refine aH ?_
 obtain ⟨i0,d0,i1,g6,i2⟩:=aL.lendB (i:=3) hs rfl
 refine eQ (C:=fun w'=>∃ L',aL G i0 L' w') [(0,0),(1,0),(2,0),(3,0),(4,0),(5,0),(6,0),(7,0),(10,0),(8,1),(9,0)] bK (by kernel_rfl) (fun _ hg=>⟨_,aL.mono g6 hg⟩) (fun m4 i3=>?_)
 have c0:=aL.mono g6 i3
 refine bS rfl (fun _ _=>aD (v:=zP (some ⟨b1,0,none⟩)) rfl) (bS rfl (fun _ _=>dJ rfl) (bS rfl (fun _ _=>bB (t':=0) oD rfl rfl) (bS rfl (fun _ _=>bB (t':=0) iZ rfl rfl) (bS rfl (fun _ ⟨_,c0⟩=>gO (t:=0) (vs:=[i64 n,i64 o,zS a2 g.length c3,zS a5 j.length c6]) fD c0 i1 rfl rfl rfl) (bS rfl (fun _ _=>aD (v:=zS a25 pair.length c26) rfl) ?_)))))
 obtain ⟨i4,g7,V⟩:=aI V
 refine bS rfl (fun _ _=>cO bW rfl (c7.mono d0) rfl rfl rfl g7) ?_
 obtain ⟨m5,i5,i6⟩:=bT.el (sz:=1) rfl c7 g7
 cases i6
 refine bS rfl (fun _ ⟨_,c0⟩=>bH (t:=0) cP c0 (i5.mono d0) rfl rfl) (bS rfl (fun _ _=>aD (v:=i64 0) rfl) (lL rfl ?_))
 obtain ⟨y,i7,V⟩:=aI V
 refine aU (vs:=[zA #[i64 n,i64 o,zS a2 g.length c3,zS a5 j.length c6],i64 i4]) Tryz.call121 rfl (uR (t:=⟨n,o,g,j⟩) c0 (h4.mono d0) (h7.mono d0) i7) ?_
 rintro _ g8 ⟨a6,a7,rfl,g9⟩
 refine aF (aA ⟨⟨_,g9⟩,?_⟩)
 refine bS rfl (fun _ _=>bQ (len:=y.length) cR rfl) (kB ?_)
 have i8:=i2 _ _ g9
 refine aA (bD (fun f w=>∃ (b7:Hp) (d1:List (List Int)) (e7:(List ((Int × Int) × Int))) (d2:List (List aZ)) (d3:Option Addr) (d4:Nat) (d5:Option Addr) (d6:Nat),Hp.le K b7∧rW d1 e7 d2=some R∧aL G b7 (aN 22 b7 d5 d6 d2::aN 38 b7 d3 d4 d1::box b1 176 [i64 n,i64 o,zS a2 g.length c3,zS a5 j.length c6,zS a8 z.length c9,zS a11 J.length c12,i64 p,i64 q,zS a14 k.length c15,zS a17 l.length c18,zS d3 d1.length d4,zM (some c),zS d5 d2.length d6]::fH c e7::box b31 94 b0::L) w) ?_ ?_)
 ·rintro f m6 ⟨b7,d1,e7,d2,d3,d4,d5,d6,i9,V,j0⟩
  unfold rW at V
  cases zI V
  exact yA Tryz.results145 ⟨b7,d3,d4,d5,d6,rfl,i9,(aL.arr 4 [1,3,0,2] j0 rfl)⟩
 have j2:aL G K (box b1 176 g5::aN 63 K a6 a7 y::aN 38 K a20 c21 b3::fH c c4::aN 22 Kf a23 c24 b4::box b31 94 b0::L) g8:=aL.weak (i:=2) i8 rfl (fun _ h=>aN.mono f7 h)
 have j3:aL G K (box b1 176 g5::aN 63 K a6 a7 y::aN 38 K a20 c21 b3::fH c c4::aN 22 K a23 c24 b4::box b31 94 b0::L) g8:=aL.weak (i:=4) j2 rfl (fun _ h=>aN.mono f7 h)
 obtain ⟨m7,j4,V⟩:=aI V
 refine cD j4 (fun (s:(List (List Int) × (List ((Int × Int) × Int)) × List (List aZ) × Int)) f w=>match s with|(r,a9,u,b2)=>∃ (d:Hp) (Z:Option Addr) (a0:Nat) (a1:Option Addr) (a3:Nat),Hp.le K d∧f 0=zP (some ⟨b1,0,none⟩)∧f 1=zS a25 pair.length c26∧f 2=Value.func (.func 146) #[] #[bY a28 b5,zP (some ⟨b31,0,none⟩),bY a32 b6]∧f 19=zS a6 y.length a7∧f 20=i64 (y.length:Int)∧f 21=i64 b2∧aL G d (box b1 176 [i64 n,i64 o,zS a2 g.length c3,zS a5 j.length c6,zS a8 z.length c9,zS a11 J.length c12,i64 p,i64 q,zS a14 k.length c15,zS a17 l.length c18,zS Z r.length a0,zM (some c),zS a1 u.length a3]::aN 63 K a6 a7 y::aN 38 d Z a0 r::fH c a9::aN 22 d a1 a3 u::box b31 94 b0::L) w) ?_ ?_
 ·exact ⟨K,a20,c21,a23,c24,(zR _),rfl,rfl,rfl,rfl,rfl,rfl,j3⟩
 ·rintro ⟨r,a9,u,b2⟩ h0 f m8 b j5 ⟨d,Z,a0,a1,a3,m,d7,e8,e9,f0,f1,d8,d9⟩
  replace b:kG n o g j z J p q k l pair e6 y r a9 u b2=some h0:=b
  unfold kG at b
  refine aAZ (aB (cJ d8 f1) (aAf (aH ?_)))
  rcases aK b with ⟨f2,b⟩|⟨f2,b⟩
  ·refine aO f2 rfl (aW (aA (aH (bD (fun f w=>∃ (b8:Hp) (c1:List (List Int)) (e0:(List ((Int × Int) × Int))) (c2:List (List aZ)) (e1:Option Addr) (e2:Nat) (e3:Option Addr) (e4:Nat),Hp.le d b8∧lY b2 c1 e0 c2=some h0∧f 0=zP (some ⟨b1,0,none⟩)∧f 1=zS a25 pair.length c26∧f 2=Value.func (.func 146) #[] #[bY a28 b5,zP (some ⟨b31,0,none⟩),bY a32 b6]∧f 19=zS a6 y.length a7∧f 20=i64 (y.length:Int)∧f 21=i64 b2∧aL G b8 (aN 22 b8 e3 e4 c2::aN 38 b8 e1 e2 c1::box b1 176 [i64 n,i64 o,zS a2 g.length c3,zS a5 j.length c6,zS a8 z.length c9,zS a11 J.length c12,i64 p,i64 q,zS a14 k.length c15,zS a17 l.length c18,zS e1 c1.length e2,zM (some c),zS e3 c2.length e4]::aN 63 K a6 a7 y::fH c e0::box b31 94 b0::L) w) ?_ ?_))))
   ·rintro f m9 ⟨b8,c1,e0,c2,e1,e2,e3,e4,j6,b,j7,j8,j9,k0,k1,k2,k3⟩
    unfold lY at b
    exact aA (aC (aB (cX k2 rfl) (aBl (v:=i64 (wr (b2+1))) (aAf ⟨(c1,e0,c2,wr (b2+1)),(zI b).symm,b8,e1,e2,e3,e4,(zL m j6),j7,j8,j9,k0,k1,rfl,(aL.arr 5 [2,3,1,4,0] k3 rfl)⟩))))
   refine aAZ ?_
   obtain ⟨a,f3,b⟩:=aI b
   have k4:=cG d9 (i:=1) rfl f3
   refine aB (dA cR rfl k4 f0 rfl d8 f3) (aB (wX (t:=0) (vs:=[i64 a.F,i64 a.B,i64 a.To]) mB d9 (i:=1) rfl f3 rfl rfl rfl rfl) (cF (vs:=[i64 0,i64 0,i64 0]) Tryz.zeroValue63 d9 rfl (fun e5 n0 k5=>(cC (i:=0) (ns:=[i64 a.F,i64 a.B,i64 a.To]) (us:=[i64 a.F,i64 a.B,i64 a.To]) Tryz.sizeOf63 k5 rfl rfl rfl rfl rfl (dL rfl) rfl rfl (fun k6 (x:aL G d (box e5 63 [i64 a.F,i64 a.B,i64 a.To]::box b1 176 [i64 n,i64 o,zS a2 g.length c3,zS a5 j.length c6,zS a8 z.length c9,zS a11 J.length c12,i64 p,i64 q,zS a14 k.length c15,zS a17 l.length c18,zS Z r.length a0,zM (some c),zS a1 u.length a3]::aN 63 K a6 a7 y::aN 38 d Z a0 r::fH c a9::aN 22 d a1 a3 u::box b31 94 b0::L) k6)=>(aAf (aH (cT (C:=fun w'=>aL G d (box e5 63 [i64 a.F,i64 a.B,i64 a.To]::box b1 176 [i64 n,i64 o,zS a2 g.length c3,zS a5 j.length c6,zS a8 z.length c9,zS a11 J.length c12,i64 p,i64 q,zS a14 k.length c15,zS a17 l.length c18,zS Z r.length a0,zM (some c),zS a1 u.length a3]::aN 63 K a6 a7 y::aN 38 d Z a0 r::fH c a9::aN 22 d a1 a3 u::box b31 94 b0::L) w') bK (by kernel_rfl) (aL.mono x (dE.drew _)) (aQ (fun _ x=>aD d7) (aQ (fun _ x=>dJ rfl) (aQ (fun _ x=>bB (t':=0) oD rfl rfl) (aQ (fun _ x=>bB (t':=0) iZ rfl rfl) (aQ (fun _ x=>bB (t':=2) gL rfl rfl) (aQ (fun _ x=>bR jJ x (i:=1) rfl rfl rfl) (aQ (fun _ x=>bB (t':=1) fP rfl rfl) (aQ (fun _ x=>bR cP x (i:=0) rfl rfl rfl) ?_))))))))))))))))
   obtain ⟨b9,h1,b⟩:=aI b
   refine aQ (fun _ x=>cO cY rfl (h4.mono m) rfl rfl rfl h1) ?_
   obtain ⟨n1,k7,k8⟩:=bT.el (sz:=1) rfl h4 h1
   cases k8
   refine aQ (fun _ x=>bH (t:=0) pK x (k7.mono m) rfl rfl) (aQ (fun _ x=>aG (v:=cL b9) rfl) (dC (fun n2 e=>(aA (aH (cT (C:=fun w'=>aL G d (box e5 63 [i64 a.F,i64 a.B,i64 a.To]::box b1 176 [i64 n,i64 o,zS a2 g.length c3,zS a5 j.length c6,zS a8 z.length c9,zS a11 J.length c12,i64 p,i64 q,zS a14 k.length c15,zS a17 l.length c18,zS Z r.length a0,zM (some c),zS a1 u.length a3]::aN 63 K a6 a7 y::aN 38 d Z a0 r::fH c a9::aN 22 d a1 a3 u::box b31 94 b0::L) w') bK (by kernel_rfl) (aL.mono e (dE.drew _)) (aQ (fun _ e=>aD d7) (aQ (fun _ e=>dJ rfl) (aQ (fun _ e=>bB (t':=6) aDe rfl rfl) (aQ (fun _ e=>dK (us:=[i64 p,i64 q,zS a14 k.length c15,zS a17 l.length c18]) fD e (i:=1) rfl rfl rfl rfl) (aQ (fun _ e=>aD e8) ?_)))))))))))
   obtain ⟨k9,h2,b⟩:=aI b
   refine aQ (fun _ e=>cO bW rfl (c7.mono m) rfl rfl rfl h2) ?_
   obtain ⟨n3,l0,l1⟩:=bT.el (sz:=1) rfl c7 h2
   cases l1
   refine aQ (fun _ e=>bH (t:=0) cP e (l0.mono m) rfl rfl) (aQ (fun _ e=>aD (v:=cL b9) rfl) ?_)
   obtain ⟨a4,l2,b⟩:=aI b
   refine iR (vs:=[zA #[i64 p,i64 q,zS a14 k.length c15,zS a17 l.length c18],i64 k9,cL b9]) (v:=zT #[i64 a4.1,zB a4.2]) Tryz.call205 rfl (fun _ e=>(rC (t:=⟨p,q,k,l⟩) e (f9.mono m) (g0.mono m) l2)) (aQ (fun _ e=>aD (v:=zT #[i64 a4.1,zB a4.2]) rfl) (aQ (fun _ e=>bV rfl rfl) (aQ (fun _ e=>bV rfl rfl) (aQ (fun _ e=>aG (v:=i64 a4.1) rfl) (aQ (fun _ e=>aG (v:=zB a4.2) rfl) (dC (fun l3 f4=>(aA (aAZ (aBl (v:=zB a4.2) (aAf ?_)))))))))))
   rcases aK b with ⟨f5,b⟩|⟨f5,b⟩
   ·refine aO f5 rfl (aC (aCv e9 (aBl (v:=cL b9) (aB (bB (t':=2) iB rfl rfl) (aB (bR cP f4 (i:=0) rfl rfl rfl) (aBl (v:=i64 a4.1) (aB (aBS (vs:=[(0,i64 a.To),(1,i64 a4.1)]) (cs:=[i64 a.To,i64 a4.1]) aDP aFI rfl (by kernel_rfl)) ?_)))))))
    have l4:aL G d (aN 38 d Z a0 r::fH c a9::aN 22 d a1 a3 u::box b1 176 [i64 n,i64 o,zS a2 g.length c3,zS a5 j.length c6,zS a8 z.length c9,zS a11 J.length c12,i64 p,i64 q,zS a14 k.length c15,zS a17 l.length c18,zS Z r.length a0,zM (some c),zS a1 u.length a3]::box b31 94 b0::box e5 63 [i64 a.F,i64 a.B,i64 a.To]::aN 63 K a6 a7 y::L) l3:=(aL.arr 7 [3,4,5,1,6,0,2] f4 rfl)
    obtain ⟨f6,l5,b⟩:=aI b
    refine kH (vs:=[cL b9,zA #[i64 a.To,i64 a4.1]]) (caps:=[bY a28 b5,zP (some ⟨b31,0,none⟩),bY a32 b6]) (us:=[cL b9,zA #[i64 a.To,i64 a4.1],bY a28 b5,zP (some ⟨b31,0,none⟩),bY a32 b6]) rfl Tryz.call146 rfl rfl (aEO (Kf:=d) (to_:=⟨a.To,a4.1⟩) l4 (zR _) (h8.mono m) (h4.mono m) (h7.mono m) (h5.mono m) (h6.mono m) (f9.mono m) (g0.mono m) (h9.mono m) l5) ?_
    rintro _ n4 ⟨l6,l7,l8,l9,m0,rfl,m1,m2⟩
    exact aF (bG (aA ⟨l6,f6.1,f6.2.1,f6.2.2,l7,l8,l9,m0,m1,b,d7,e8,e9,f0,f1,d8,(aL.arr 7 [2,0,3,6,1,4] m2 rfl)⟩))
   ·exact aM f5 rfl (aW (bG (aA ⟨d,r,a9,u,Z,a0,a1,a3,(zR _),b,d7,e8,e9,f0,f1,d8,(aL.arr 6 [5,3,1,2,4] f4 rfl)⟩)))
  ·refine aM f2 rfl (cB (aY (aY ?_)))
   have m3:=j5 _ (zI b).symm
   subst m3
   have V:(rW r a9 u)=some R:=V
   exact bO (aA ⟨d,r,a9,u,Z,a0,a1,a3,m,V,(aL.arr 5 [4,2,0,3] d9 rfl)⟩)
end Gv
