/- Walks, printed by program. -/
import Derived.Test.YtmlgcbjkfcapaaaGreatDoorFJWk4
import Derived.Test.YtmlgcbjkfcapaaaGreatDoorFJWk5
import Derived.Test.YtmlgcbjkfcapaaaGreatDoorFJWk6
set_option linter.all false
namespace Gv
open Go.Value renaming slice→zS,bool→zB,pointer→zP,agg→zA,map→zM
open Option.some renaming inj→zI
open Gv.Hp renaming le_trans→zL,le_refl→zR
open Go Go.Proofs
set_option maxRecDepth 20000
set_option maxHeartbeats 40000000
variable {G:Env} {K Kf:Hp} {L:List oT} {w:World} {a1 a4 a7 a10 a13 a16 a19 a2:Option Addr} {c2 c5 c8 c11 c14 c17 b1 c3:Nat}
theorem aGP {g R:(List Int)} (hs:aK G K (L) w) (h3:cL K a1 c2 g) (j:aCh g=some R):
  Calls Tryz.prog 93 ([zS a1 g.length c2]:List Value).toArray w (gO fun v w'=>∃ (a6:Option Addr) (a7:Nat),v=zS a6 R.length a7∧aK G K (aV 2 K a6 a7 R::L) w'):=by
 refine aS Tryz.func93 rfl (by kernel_rfl) (by show (1:Nat)≤39;decide) ?_
 unfold aCh at j
 refine aI (aF (v:=zS none 0 0) (aG (aI (aFA Int Int hs ?_))))
 intro o w5 (b8:aK G K (rR o ([]:(List (Int × Int)))::L) w5)
 refine aF (v:=zM (some o)) (aG (aI (aM (v:=zS a1 g.length c2) (aC (bT (len:=g.length) cG rfl) ?_))))
 obtain ⟨b,q8,j⟩:=aB j
 refine aDv (e:=(0:Int)) cG qE rfl rfl b8 rfl rfl rfl q8 rfl ?_
 intro d c0 (c1:aK G K (aV 2 K d b.length b::rR o ([]:(List (Int × Int)))::L) c0)
 refine aF (v:=zS d b.length b.length) (aG (aN (aI (aM (v:=zS a1 g.length c2) (aC (bT (len:=g.length) cG rfl) (aM (v:=i64 0) (aG (bC (fun f w=>∃ (r:List Int),aAy r=some R∧f 4=zS d r.length b.length∧aK G K (aV 2 K d b.length r::L) w) ?_ ?_))))))))
 ·rintro f e3 ⟨r,j,c3,c4⟩
  unfold aAy at j
  refine aA (aI (aO c3 (aF (v:=zS d r.length b.length) (aG ?_))))
  obtain rfl:=zI j
  exact bF (bB Tryz.results93 rfl ⟨d,b.length,rfl,c4⟩)
 obtain ⟨e4,c6,j⟩:=aB j
 refine cA c6 (fun (s:((List (Int × Int)) × List Int × Int)) f w=>match s with|(c,m,p)=>f 3=zM (some o)∧f 4=zS d m.length b.length∧f 13=zS a1 g.length c2∧f 14=i64 (g.length:Int)∧f 15=i64 p∧aK G K (aV 2 K d b.length m::rR o c::L) w) ?_ ?_
 ·exact ⟨rfl,rfl,rfl,rfl,rfl,c1⟩
 ·rintro ⟨c,m,p⟩ a8 f e5 a c7 ⟨u,V,Z,a0,x,q⟩
  replace a:mJ g c m p=some a8:=a
  unfold mJ at a
  refine aI (aC (cJ x a0) (aG (aN ?_)))
  rcases aH a with ⟨a2,a⟩|⟨a2,a⟩
  ·refine aL a2 rfl (aY (aA (aN (cP (aI (aO x ?_))))))
   obtain ⟨l,b0,a⟩:=aB a
   refine aC (cT cG rfl h3 Z rfl x b0) ?_
   obtain ⟨e6,c8,c9⟩:=cL.el (sz:=1) rfl h3 b0
   cases c9
   refine aC (bJ (t:=0) cE q c8 rfl rfl) (aF (v:=i64 p) (aF (v:=i64 l) (aG (aI (aO u (aM (v:=i64 l) (aC (R_look (kv:=c) (k:=l) (z:=(0:Int)) Tryz.runUnderlying200 ko_2 Tryz.zeroValue2 q (i:=1) rfl rfl rfl) (aM (v:=Value.tuple #[i64 ((jA c l).getD 0),zB ((jA c l).isSome)]) (aC (dE rfl rfl) (aC (dE rfl rfl) (aF (v:=i64 ((jA c l).getD 0)) (aF (v:=zB ((jA c l).isSome)) (aG (aAF (fun f w=>∃ (y:(List (Int × Int))) (J:Int),xK m p y J=some a8∧f 3=zM (some o)∧f 4=zS d m.length b.length∧f 5=i64 p∧f 7=i64 J∧f 13=zS a1 g.length c2∧f 14=i64 (g.length:Int)∧f 15=i64 p∧aK G K (aV 2 K d b.length m::rR o y::L) w) ?_ ?_))))))))))))))
   ·rintro f e7 ⟨y,J,a,d0,b1,d1,d2,d3,d4,d5,b2⟩
    unfold xK at a
    refine aP (aO b1 (aO d1 (aO d2 ?_)))
    obtain ⟨e8,a3,a⟩:=aB a
    have d6:=dM b2 (i:=0) rfl a3
    refine aC (eB cG rfl d6 rfl rfl rfl a3) ?_
    obtain ⟨b3,b4,a⟩:=aB a
    exact jW (i:=0) (t:=0) (ns:=[i64 J]) (e':=(J:Int)) Tryz.sizeOf2 b2 rfl (zR _) rfl rfl rfl a3 b4 rfl rfl (dK rfl) rfl (fun cs h=>by cases h;rfl) (fun d7 (d8:aK G K (aV 2 K d b.length b3::rR o y::L) d7)=>(bK (bE (aA (aP (aC (cM d5 rfl) (aM (v:=i64 (wr (p+1))) (aG ⟨(y,b3,wr (p+1)),(zI a).symm,d0,(Eq.trans b1 (congrArg (fun n=>zS d n b.length) (iE b4))),d3,d4,rfl,d8⟩))))))))
   refine aI (aM (v:=zB ((jA c l).isSome)) (aC (fH rfl) (aG ?_)))
   rcases aH a with ⟨a4,a⟩|⟨a4,a⟩
   ·refine aL a4 rfl (aI (aO u (aC (R_lenM Tryz.runUnderlying200 q (i:=1) rfl rfl) (aF (v:=i64 (c.length:Int)) (aG (aP (aO u (aM (v:=i64 l) (aM (v:=i64 (c.length:Int)) ?_)))))))))
    obtain ⟨b5,d9,a⟩:=aB a
    exact aFC (i:=1) (k:=l) (v:=(c.length:Int)) Tryz.runUnderlying200 ko_2 q rfl rfl rfl rfl d9 (fun e0 (e1:aK G K (aV 2 K d b.length m::rR o b5::L) e0)=>(aG ⟨b5,(c.length:Int),a,u,V,rfl,rfl,Z,a0,x,e1⟩))
   ·exact aJ a4 rfl (aY (aA ⟨c,((jA c l).getD 0),a,u,V,rfl,rfl,Z,a0,x,q⟩))
  ·refine aJ a2 rfl (bZ (aW (aW ?_)))
   have e2:=c7 _ (zI a).symm
   subst e2
   have j:(aAy m)=some R:=j
   exact bO (aA ⟨m,j,V,(aK.arr 2 [0] q rfl)⟩)
theorem pH {t:cH} {R:(List Int)} (hs:aK G K (L) w) (h3:cL K a1 c2 t.L) (h6:cL K a4 c5 t.E) (l:gW t=some R):
  Calls Tryz.prog 35 ([zA (zCa t a1 c2 a4 c5)]:List Value).toArray w (gO fun v w'=>∃ (c0:Option Addr) (c1:Nat),v=zS c0 R.length c1∧aK G K (aV 2 K c0 c1 R::L) w'):=by
 let c3:=(zC t a1 c2 a4 c5)
 refine aS Tryz.func35 rfl (by kernel_rfl) (by show (1:Nat)≤46;decide) ?_
 unfold gW at l
 refine aI (eE (v:=zA (zCa t a1 c2 a4 c5)) (vs:=c3) hs rfl rfl (fun b7 w8 c4=>(aF (v:=zS none 0 0) (aG (aI (aC (dF (us:=c3) eC c4 (i:=0) rfl rfl rfl rfl) ?_))))))
 obtain ⟨m,e6,l⟩:=aB l
 refine aU (vs:=[zA (zCa t a1 c2 a4 c5)]) Tryz.call92 rfl (aBh c4 h3 h6 e6) ?_
 rintro _ j1 ⟨o,rfl,c6⟩
 refine aF (v:=zM (some o)) (aG (aI (aC (bG (t':=0) iM rfl rfl) (aC (cF cE c6 (i:=1) rfl rfl rfl) ?_))))
 obtain ⟨e7,e8,l⟩:=aB l
 refine aU (vs:=[i64 t.N]) Tryz.call88 rfl (aEP c6 e8) ?_
 rintro _ j2 ⟨d,e,rfl,c7⟩
 refine aF (v:=zS d e7.length e) (aG (aN (aI (aC (bG (t':=0) iM rfl rfl) (aC (cF cE c7 (i:=2) rfl rfl rfl) (aM (v:=i64 0) (aG (bC (fun f w=>∃ (u:List Int),hX u=some R∧f 4=zS d u.length e∧aK G K (aV 2 K d e u::L) w) ?_ ?_))))))))
 ·rintro f j3 ⟨u,l,e9,f0⟩
  unfold hX at l
  refine aA (aI (aO e9 ?_))
  obtain ⟨j4,j5,f1,f2,f3⟩:=aK.lendS (i:=0) f0 (zR _) rfl
  obtain ⟨f4,f5,l⟩:=aB l
  refine aU (vs:=[zS d u.length e]) Tryz.call93 rfl (aGP f2 f1 f5) ?_
  rintro _ j6 ⟨c8,c9,rfl,f6⟩
  have f7:=f3 _ _ f6
  refine aF (v:=zS c8 f4.length c9) (aG ?_)
  obtain rfl:=zI l
  exact bF (bB Tryz.results35 rfl ⟨c8,c9,rfl,(aK.arr 1 [] f7 rfl)⟩)
 obtain ⟨j7,f9,l⟩:=aB l
 refine cA f9 (fun (s:(List Int × Int)) f w=>match s with|(r,a)=>f 3=zM (some o)∧f 4=zS d r.length e∧f 13=i64 t.N∧f 14=i64 a∧aK G K (aV 2 K d e r::rR o m::L) w) ?_ ?_
 ·exact ⟨rfl,rfl,rfl,rfl,(aK.arr 3 [0,1] c7 rfl)⟩
 ·rintro ⟨r,a⟩ a2 f j8 j g0 ⟨g1,d0,d1,a9,d2⟩
  replace j:eU t m r a=some a2:=j
  unfold eU at j
  refine aI (aC (cJ a9 d1) (aG (aN ?_)))
  rcases aH j with ⟨b0,j⟩|⟨b0,j⟩
  ·refine aL b0 rfl (aY (aA (aN (bC (fun f w=>∃ (x:List Int),jD a x=some a2∧f 3=zM (some o)∧f 4=zS d x.length e∧f 13=i64 t.N∧f 14=i64 a∧aK G K (aV 2 K d e x::rR o m::L) w) ?_ ?_))))
   ·rintro f j9 ⟨x,j,g2,g3,g4,g5,g6⟩
    unfold jD at j
    exact aA (aP (aC (cM g5 rfl) (aM (v:=i64 (wr (a+1))) (aG ⟨(x,wr (a+1)),(zI j).symm,g2,g3,g4,rfl,g6⟩))))
   refine aI (aO a9 (aF (v:=i64 a) (aG (aI (aM (v:=i64 a) (aM (v:=i64 0) (aG (bC (fun f w=>∃ (y:List Int),hY a y=some a2∧f 3=zM (some o)∧f 4=zS d y.length e∧f 13=i64 t.N∧f 14=i64 a∧aK G K (aV 2 K d e y::rR o m::L) w) ?_ ?_))))))))
   ·rintro f k0 ⟨y,j,g7,g8,g9,h0,h1⟩
    unfold hY at j
    exact bE (aA ⟨y,j,g7,g8,g9,h0,h1⟩)
   obtain ⟨k1,h2,j⟩:=aB j
   refine cA h2 (fun (s:(List Int × Int)) f w=>match s with|(q,c)=>f 3=zM (some o)∧f 4=zS d q.length e∧f 5=i64 a∧f 13=i64 t.N∧f 14=i64 a∧f 17=i64 a∧f 18=i64 c∧aK G K (aV 2 K d e q::rR o m::L) w) ?_ ?_
   ·exact ⟨g1,d0,rfl,d1,a9,rfl,rfl,d2⟩
   ·rintro ⟨q,c⟩ b1 f k2 b h4 ⟨J,b2,a3,b3,b4,b5,a5,V⟩
    replace b:dS m a q c=some b1:=b
    unfold dS at b
    refine aI (aC (cJ a5 b5) (aG (aN ?_)))
    rcases aH b with ⟨b6,b⟩|⟨b6,b⟩
    ·refine aL b6 rfl (aY (aA (aN (bC (fun f w=>∃ (Z:List Int),eR c Z=some b1∧f 3=zM (some o)∧f 4=zS d Z.length e∧f 5=i64 a∧f 13=i64 t.N∧f 14=i64 a∧f 17=i64 a∧f 18=i64 c∧aK G K (aV 2 K d e Z::rR o m::L) w) ?_ ?_))))
     ·rintro f k3 ⟨Z,b,h5,h7,h8,h9,i0,i1,i2,i3⟩
      unfold eR at b
      exact aA (aP (aC (cM i2 rfl) (aM (v:=i64 (wr (c+1))) (aG ⟨(Z,wr (c+1)),(zI b).symm,h5,h7,h8,h9,i0,i1,rfl,i3⟩))))
     refine aI (aO a5 (aF (v:=i64 c) (aG (aN (cN (fun f w=>∃ (b8:Bool),eS a q c b8=some b1∧f 3=zM (some o)∧f 4=zS d q.length e∧f 5=i64 a∧f 6=i64 c∧f 13=i64 t.N∧f 14=i64 a∧f 17=i64 a∧f 18=i64 c∧f 32=zB b8∧aK G K (aV 2 K d e q::rR o m::L) w) ?_ ?_)))))
     ·rintro f k4 ⟨b8,b,d3,a6,a7,i4,d4,d5,d6,d7,d8,a8⟩
      unfold eS at b
      refine aA ?_
      rcases aH b with ⟨b9,b⟩|⟨b9,b⟩
      ·refine aL b9 d8 (aP (aO a6 (aO a7 (aO a6 (aO a7 ?_)))))
       obtain ⟨d9,a0,b⟩:=aB b
       have e0:=dM a8 (i:=0) rfl a0
       refine aC (eB cG rfl e0 rfl rfl rfl a0) (aC (lX (t:=0) cE a8 (i:=0) rfl a0 rfl rfl rfl) (aO i4 (aC (R_min rfl rfl) (aC (eB cG rfl e0 rfl rfl rfl a0) ?_))))
       obtain ⟨e1,e2,b⟩:=aB b
       exact jW (i:=0) (t:=0) (ns:=[i64 (mnI d9 c)]) (e':=(mnI d9 c:Int)) Tryz.sizeOf2 a8 rfl (zR _) rfl rfl rfl a0 e2 rfl rfl (dK rfl) rfl (fun cs h=>by cases h;rfl) (fun i5 (i6:aK G K (aV 2 K d e e1::rR o m::L) i5)=>(bK (bE (aA ⟨e1,b,d3,(Eq.trans a6 (congrArg (fun n=>zS d n e) (iE e2))),a7,d4,d5,d6,d7,i6⟩))))
      ·exact aJ b9 d8 (aY (bE (aA ⟨q,b,d3,a6,a7,d4,d5,d6,d7,a8⟩)))
     refine aP (aO J (aO a3 (aM (v:=i64 c) (aC (zV (vs:=[(0,i64 a),(1,i64 c)]) (cs:=[i64 a,i64 c]) aBu aCY rfl (by kernel_rfl)) (aC (aHN (kv:=m) (k:=⟨a,c⟩) (z:=(false:Bool)) Tryz.runUnderlying124 aCa Tryz.zeroValue4 V (i:=1) rfl rfl rfl) (aM (v:=zB ((jA m ⟨a,c⟩).getD false)) ?_))))))
     rcases aH b with ⟨p,b⟩|⟨p,b⟩
     ·exact bA p rfl rfl (aO J (bA p rfl rfl (aM (v:=i64 c) (bA p rfl rfl (aO a3 (bA p rfl rfl (aC (zV (vs:=[(0,i64 c),(1,i64 a)]) (cs:=[i64 c,i64 a]) aBu aCY rfl (by kernel_rfl)) (bA p rfl rfl (aC (aHN (kv:=m) (k:=⟨c,a⟩) (z:=(false:Bool)) Tryz.runUnderlying124 aCa Tryz.zeroValue4 V (i:=1) rfl rfl rfl) (aC (bI (v:=zB ((jA m ⟨c,a⟩).getD false)) p rfl rfl) (aG ⟨((jA m ⟨c,a⟩).getD false),b,J,b2,a3,rfl,b3,b4,b5,a5,rfl,V⟩)))))))))))
     ·exact aQ p rfl rfl (aQ p rfl rfl (aQ p rfl rfl (aQ p rfl rfl (aQ p rfl rfl (aC (bL (v:=zB false) p rfl rfl) (aG ⟨false,b,J,b2,a3,rfl,b3,b4,b5,a5,rfl,V⟩))))))
    ·refine aJ b6 rfl (bZ (aW (aW ?_)))
     have i7:=h4 _ (zI b).symm
     subst i7
     have j:(hY a q)=some a2:=j
     exact bO (aA ⟨q,j,J,b2,b3,b4,V⟩)
  ·refine aJ b0 rfl (bZ (aW (aW ?_)))
   have i8:=g0 _ (zI j).symm
   subst i8
   have l:(hX r)=some R:=l
   exact bO (aA ⟨r,l,d0,(aK.arr 2 [0] d2 rfl)⟩)
theorem yU {p:Edge} {R:Bool} (b:aK G K (L) w) (a:kZ p=some R):
  Calls Tryz.prog 36 ([zA #[i64 p.F,i64 p.B,i64 p.To]]:List Value).toArray w (gO fun v w'=>v=zB R∧aK G K (L) w'):=by
 refine aS Tryz.func36 rfl (by kernel_rfl) (by show (1:Nat)≤3;decide) ?_
 unfold kZ at a
 refine aI (eE (v:=zA #[i64 p.F,i64 p.B,i64 p.To]) (vs:=[i64 p.F,i64 p.B,i64 p.To]) b rfl rfl (fun e g c=>(aF (v:=zB false) (aG (aI (aF (v:=zB true) (aG ?_)))))))
 obtain rfl:=zI a
 exact bF (bB Tryz.results36 rfl ⟨rfl,(aK.arr 1 [] c rfl)⟩)
theorem aAq {t:cH} {R:(List ((Int × Int) × Bool))} (l:aK G K (L) w) (m:cL K a1 c2 t.L) (n:cL K a4 c5 t.E) (b:mK t=some R):
  Calls Tryz.prog 94 ([zA (zCa t a1 c2 a4 c5)]:List Value).toArray w (gO fun v w'=>∃ (g:Nat) (h:Nat) (j:Nat),v=Value.func (.func 171) #[] #[zP (some ⟨g,0,none⟩),zP (some ⟨j,0,none⟩)]∧aK G K (box g 29 (zC t a1 c2 a4 c5)::rR h R::box j 124 [zM (some h)]::L) w'):=by
 let e:=(zC t a1 c2 a4 c5)
 refine aS Tryz.func94 rfl (by kernel_rfl) (by show (1:Nat)≤7;decide) ?_
 unfold mK at b
 refine aI (eE (v:=zA (zCa t a1 c2 a4 c5)) (vs:=e) l rfl rfl (fun c z k=>(aF (v:=Value.nilFunc) (aG (aI (aC (dF (us:=e) eC k (i:=0) rfl rfl rfl rfl) ?_))))))
 obtain ⟨o,p,b⟩:=aB b
 refine aU (vs:=[zA (zCa t a1 c2 a4 c5)]) Tryz.call92 rfl (aBh k m n p) ?_
 rintro _ J ⟨a,rfl,q⟩
 refine bW (vs:=[zM none]) Tryz.zeroValue124 q rfl (fun d V r=>(cD (i:=0) (ns:=[zM (some a)]) (us:=[zM (some a)]) Tryz.sizeOf124 r rfl rfl rfl rfl rfl (dK rfl) rfl rfl (fun u (x:aK G K (box d 124 [zM (some a)]::rR a o::box c 29 e::L) u)=>(aG (aI (aC (qD (vs:=[zP (some ⟨c,0,none⟩),zP (some ⟨d,0,none⟩)]) rfl) (aF (v:=Value.func (.func 171) #[] #[zP (some ⟨c,0,none⟩),zP (some ⟨d,0,none⟩)]) (aG ?_))))))))
 obtain rfl:=zI b
 exact bF (bB Tryz.results94 rfl ⟨c,a,d,rfl,(aK.arr 3 [2,1,0] x rfl)⟩)
theorem oQ {b R:(List Edge)} (e:aK G K (L) w) (g:cL K a1 c2 b) (a:fF b=some R):
  Calls Tryz.prog 174 ([zS a1 b.length c2]:List Value).toArray w (gO fun v w'=>∃ (h:Option Addr) (j:Nat),v=zS h R.length j∧aK G K (aV 63 K h j R::L) w'):=by
 refine aS Tryz.func174 rfl (by kernel_rfl) (by show (1:Nat)≤8;decide) ?_
 unfold fF at a
 refine aI (aF (v:=zS none 0 0) (aG (aN (aI (aM (v:=zS a1 b.length c2) (aC (aHO bY rfl rfl) (aG ?_)))))))
 rcases aEi g with ⟨l,m,n⟩|o
 ·subst l;subst m;subst n
  refine aFs rfl ?_
  replace a:(some [])=some R:=a
  refine aI (aF (v:=zS none 0 0) (aG ?_))
  have p:=aK.nil (α:=Edge) e 63 K
  obtain rfl:=zI a
  exact bF (aR (bB Tryz.results174 rfl ⟨none,0,rfl,p⟩))
 ·refine aFt (Eq.trans rfl (congrArg zB o)) (aY (aA (aI (dJ (Kt:=K) (xs:=([]:List Edge)) (cs:=[]) (vs:=[]) bY lD rfl rfl e rfl (by kernel_rfl) rfl rfl rfl trivial (fun r t (u:aK G K (aV 63 K r 0 ([]:List Edge)::L) t)=>(aM (v:=zS a1 b.length c2) ?_))))))
  obtain ⟨k,x,a⟩:=aB a
  refine aCS (i:=0) bY Tryz.underlying27 lD rfl rfl u rfl (zR _) g x rfl rfl rfl rfl (fun c d y (z:aK G K (aV 63 K c d k::L) y)=>(aF (v:=zS c k.length d) (aG ?_)))
  obtain rfl:=zI a
  exact bF (bB Tryz.results174 rfl ⟨c,d,rfl,z⟩)
theorem aEu {t R:cH} (z:aK G K (L) w) (J:cL K a1 c2 t.L) (V:cL K a4 c5 t.E) (j:aAz t=some R):
  Calls Tryz.prog 97 ([zA (zCa t a1 c2 a4 c5)]:List Value).toArray w (gO fun v w'=>∃ (l:Option Addr) (m:Nat) (n:Option Addr) (o:Nat),v=zA (zCa R l m n o)∧aK G K (aV 9 K l m R.L::aV 63 K n o R.E::L) w'):=by
 let p:=(zC t a1 c2 a4 c5)
 refine aS Tryz.func97 rfl (by kernel_rfl) (by show (1:Nat)≤14;decide) ?_
 unfold aAz at j
 refine aI (eE (v:=zA (zCa t a1 c2 a4 c5)) (vs:=p) z rfl rfl (fun Z w8 a0=>(bW (vs:=zG) Tryz.zeroValue29 a0 rfl (fun a2 b4 a3=>(aG (aN ?_))))))
 obtain ⟨a5,q,k,r,a6⟩:=aK.lendB (i:=1) a3 rfl
 refine iB (C:=fun w'=>∃ L',aK G a5 L' w') [(0,0),(1,0),(2,0),(3,0),(4,0),(5,0),(7,0),(8,0),(6,1),(9,1),(10,0),(11,2)] bU (by kernel_rfl) (fun _ hg=>⟨_,aK.mono r hg⟩) (fun b5 a7=>?_)
 have a:=aK.mono r a7
 refine bX rfl (fun _ _=>bG (t':=0) iM rfl rfl) (bX rfl (fun _ ⟨_,a⟩=>bJ (t:=0) cE a k rfl rfl) (bX rfl (fun _ _=>bG (t':=1) nE rfl rfl) (bX rfl (fun _ ⟨_,a⟩=>bJ (t:=1) cE a k rfl rfl) (bX rfl (fun _ _=>bG (t':=2) gI rfl rfl) (bX rfl (fun _ ⟨_,a⟩=>bJ (t:=2) mG a k rfl rfl) (bX rfl (fun _ _=>bG (t':=3) cK rfl rfl) (bX rfl (fun _ ⟨_,a⟩=>bJ (t:=3) fS a k rfl rfl) (nD rfl ?_))))))))
 obtain ⟨g,a8,j⟩:=aB j
 refine aU (vs:=[zS a1 t.L.length c2]) Tryz.call84 rfl (cZ a (J.mono q) a8) ?_
 rintro _ b6 ⟨b,c,rfl,u⟩
 refine bK (aA ⟨⟨_,u⟩,?_⟩)
 refine nD rfl ?_
 obtain ⟨h,a9,j⟩:=aB j
 refine aU (vs:=[zS a4 t.E.length c5]) Tryz.call174 rfl (oQ u (V.mono q) a9) ?_
 rintro _ b8 ⟨d,e,rfl,x⟩
 refine bK (aA ⟨⟨_,x⟩,?_⟩)
 refine bX rfl (fun _ _=>kA (vs:=[(0,i64 t.N),(1,i64 t.I),(2,zS b g.length c),(3,zS d h.length e)]) (cs:=[i64 t.N,i64 t.I,zS b g.length c,zS d h.length e]) aAX rfl (by kernel_rfl)) ?_
 have b0:=a6 _ _ x
 refine WE_s rfl (cD (i:=3) (ns:=[i64 t.N,i64 t.I,zS b g.length c,zS d h.length e]) (us:=[i64 t.N,i64 t.I,zS b g.length c,zS d h.length e]) Tryz.sizeOf29 b0 rfl rfl rfl rfl rfl (dK rfl) rfl rfl (fun b1 (y:aK G K (box Z 29 p::aV 63 K d e h::aV 9 K b c g::box a2 29 [i64 t.N,i64 t.I,zS b g.length c,zS d h.length e]::L) b1)=>(aG (mP (aA ?_)))))
 obtain rfl:=zI j
 exact bF (sX Tryz.results97 (kQ (vs:=[i64 t.N,i64 t.I,zS b g.length c,zS d h.length e]) rfl eC y (i:=3) rfl rfl rfl) ⟨b,c,d,e,rfl,(aK.arr 4 [2,1] y rfl)⟩)
theorem vN {o p:Edge} {l n:Nat} {h:(List ((Int × Int) × Bool))} {q:Nat} {R:Bool} (x:aK G K (L) w) (j:fV K a1 l [i64 p.F,i64 p.B,i64 p.To]) (r:fV K a4 n [zM (some q)]) (u:rdM K q h) (b:jE o p h=some R):
  Calls Tryz.prog 173 ([zA #[i64 o.F,i64 o.B,i64 o.To],bV a1 l,bV a4 n]:List Value).toArray w (gO fun v w'=>v=zB R∧aK G K (L) w'):=by
 refine aS Tryz.func173 rfl (by kernel_rfl) (by show (3:Nat)≤36;decide) ?_
 unfold jE at b
 refine aI (eE (v:=zA #[i64 o.F,i64 o.B,i64 o.To]) (vs:=[i64 o.F,i64 o.B,i64 o.To]) x rfl rfl (fun Z a0 d=>(aF (v:=zB false) (aG (aN (cN (fun f w=>∃ (m:Bool),dT m=some R∧f 4=zB m∧aK G K (L) w) ?_ ?_))))))
 ·rintro f a2 ⟨m,b,y,J⟩
  unfold dT at b
  refine aA ?_
  obtain rfl:=zI b
  exact bF (bB Tryz.results173 rfl ⟨y,J⟩)
 refine aP (aC (bG (t':=0) fJ rfl rfl) (aC (cF cE d (i:=0) rfl rfl rfl) (aC (cC (k':=l+0) fJ rfl j rfl) (aC (bJ (t:=0) cE d j rfl rfl) (aC (lC rfl rfl) (aM (v:=zB (o.F == p.F)) ?_))))))
 rcases aH b with ⟨e,b⟩|⟨e,b⟩
 ·refine bA e rfl rfl (aC (bG (t':=1) gB rfl rfl) (bA e rfl rfl (aC (cF cE d (i:=0) rfl rfl rfl) (bA e rfl rfl (aC (cC (k':=l+1) gB rfl j rfl) (bA e rfl rfl (aC (bJ (t:=1) cE d j rfl rfl) (bA e rfl rfl (aC (lC rfl rfl) (aC (bI (v:=zB (o.B == p.B)) e rfl rfl) (aM (v:=zB (o.B == p.B)) ?_)))))))))))
  rcases aH b with ⟨c,b⟩|⟨c,b⟩
  ·refine bA c rfl rfl (aC (bJ (t:=0) aBZ d r rfl rfl) (bA c rfl rfl (aC (cC (k':=l+2) eM rfl j rfl) (bA c rfl rfl (aC (bJ (t:=2) cE d j rfl rfl) (bA c rfl rfl (aC (bG (t':=2) eM rfl rfl) (bA c rfl rfl (aC (cF cE d (i:=0) rfl rfl rfl) (bA c rfl rfl (aC (zV (vs:=[(0,i64 p.To),(1,i64 o.To)]) (cs:=[i64 p.To,i64 o.To]) aBu aCY rfl (by kernel_rfl)) (bA c rfl rfl (aC (aFB (kv:=h) (k:=⟨p.To,o.To⟩) (z:=(false:Bool)) Tryz.runUnderlying124 aCa Tryz.zeroValue4 d u rfl rfl) (aC (bI (v:=zB ((jA h ⟨p.To,o.To⟩).getD false)) c rfl rfl) (aM (v:=zB ((jA h ⟨p.To,o.To⟩).getD false)) ?_)))))))))))))))
   rcases aH b with ⟨a,b⟩|⟨a,b⟩
   ·exact bA a rfl rfl (aC (bJ (t:=0) aBZ d r rfl rfl) (bA a rfl rfl (aC (bG (t':=2) eM rfl rfl) (bA a rfl rfl (aC (cF cE d (i:=0) rfl rfl rfl) (bA a rfl rfl (aC (cC (k':=l+2) eM rfl j rfl) (bA a rfl rfl (aC (bJ (t:=2) cE d j rfl rfl) (bA a rfl rfl (aC (zV (vs:=[(0,i64 o.To),(1,i64 p.To)]) (cs:=[i64 o.To,i64 p.To]) aBu aCY rfl (by kernel_rfl)) (bA a rfl rfl (aC (aFB (kv:=h) (k:=⟨o.To,p.To⟩) (z:=(false:Bool)) Tryz.runUnderlying124 aCa Tryz.zeroValue4 d u rfl rfl) (bA a rfl rfl (aC (fH rfl) (aC (bI (v:=zB (!((jA h ⟨o.To,p.To⟩).getD false))) a rfl rfl) (aF (v:=zB (!((jA h ⟨o.To,p.To⟩).getD false))) (aG ⟨!((jA h ⟨o.To,p.To⟩).getD false),b,rfl,(aK.arr 1 [] d rfl)⟩))))))))))))))))))
   ·exact aQ a rfl rfl (aQ a rfl rfl (aQ a rfl rfl (aQ a rfl rfl (aQ a rfl rfl (aQ a rfl rfl (aQ a rfl rfl (aQ a rfl rfl (aC (bL (v:=zB false) a rfl rfl) (aF (v:=zB false) (aG ⟨false,b,rfl,(aK.arr 1 [] d rfl)⟩))))))))))
  ·exact aQ c rfl rfl (aQ c rfl rfl (aQ c rfl rfl (aQ c rfl rfl (aQ c rfl rfl (aQ c rfl rfl (aQ c rfl rfl (aC (bL (v:=zB false) c rfl rfl) (aM (v:=zB false) (aQ (by decide:¬ false=true) rfl rfl (aQ (by decide:¬ false=true) rfl rfl (aQ (by decide:¬ false=true) rfl rfl (aQ (by decide:¬ false=true) rfl rfl (aQ (by decide:¬ false=true) rfl rfl (aQ (by decide:¬ false=true) rfl rfl (aQ (by decide:¬ false=true) rfl rfl (aQ (by decide:¬ false=true) rfl rfl (aC (bL (v:=zB false) (by decide:¬ false=true) rfl rfl) (aF (v:=zB false) (aG ⟨false,b,rfl,(aK.arr 1 [] d rfl)⟩)))))))))))))))))))
 ·refine aQ e rfl rfl (aQ e rfl rfl (aQ e rfl rfl (aQ e rfl rfl (aQ e rfl rfl (aC (bL (v:=zB false) e rfl rfl) (aM (v:=zB false) (aQ (by decide:¬ false=true) rfl rfl (aQ (by decide:¬ false=true) rfl rfl (aQ (by decide:¬ false=true) rfl rfl (aQ (by decide:¬ false=true) rfl rfl (aQ (by decide:¬ false=true) rfl rfl (aQ (by decide:¬ false=true) rfl rfl (aQ (by decide:¬ false=true) rfl rfl (aC (bL (v:=zB false) (by decide:¬ false=true) rfl rfl) (aM (v:=zB false) (aQ (by decide:¬ false=true) rfl rfl (aQ (by decide:¬ false=true) rfl rfl (aQ (by decide:¬ false=true) rfl rfl (aQ (by decide:¬ false=true) rfl rfl (aQ (by decide:¬ false=true) rfl rfl (aQ (by decide:¬ false=true) rfl rfl (aQ (by decide:¬ false=true) rfl rfl (aQ (by decide:¬ false=true) rfl rfl ?_)))))))))))))))))))))))
  exact aC (bL (v:=zB false) (by decide:¬ false=true) rfl rfl) (aF (v:=zB false) (aG ⟨false,b,rfl,(aK.arr 1 [] d rfl)⟩))
theorem nC {e:(List Edge)} {g:Edge} {h i:Nat} {j:(List ((Int × Int) × Bool))} {n:Nat} {R:Int} (z:aK G K (L) w) (o:cL K a1 c2 e) (J:fV K a4 h [i64 g.F,i64 g.B,i64 g.To]) (V:fV K a7 i [zM (some n)]) (Z:rdM K n j) (b:eN e g j=some R):
  Calls Tryz.prog 236 ([zS a1 e.length c2,Value.func (.func 173) #[] #[bV a4 h,bV a7 i]]:List Value).toArray w (gO fun v w'=>v=i64 R∧aK G K (L) w'):=by
 refine aS Tryz.func236 rfl (by kernel_rfl) (by show (2:Nat)≤19;decide) ?_
 unfold eN at b
 refine aI (aF (v:=i64 0) (aG (aN (aI (aM (v:=zS a1 e.length c2) (aC (bT (len:=e.length) bY rfl) (aM (v:=i64 0) (aG (bC (fun f w=>dZ=some R∧aK G K (L) w) ?_ ?_)))))))))
 ·rintro f b3 ⟨b,a0⟩
  unfold dZ at b
  refine aA (aI (aF (v:=i64 (-1)) (aG ?_)))
  obtain rfl:=zI b
  exact bF (bB Tryz.results236 rfl ⟨rfl,a0⟩)
 obtain ⟨b4,a3,b⟩:=aB b
 refine cA a3 (fun (c:Int) f w=>f 0=zS a1 e.length c2∧f 1=Value.func (.func 173) #[] #[bV a4 h,bV a7 i]∧f 7=i64 (e.length:Int)∧f 8=i64 c∧aK G K (L) w) ?_ ?_
 ·exact ⟨rfl,rfl,rfl,rfl,z⟩
 ·rintro c a5 f b5 a p ⟨q,r,u,k,l⟩
  replace a:cR e g j c=some a5:=a
  unfold cR at a
  refine aI (aC (cJ k u) (aG (aN ?_)))
  rcases aH a with ⟨c45,a⟩|⟨c45,a⟩
  ·refine aL c45 rfl (aY (aA (aN (cP (aI (aO k (aF (v:=i64 c) (aG (aI (aO r (aO q (aM (v:=i64 c) ?_))))))))))))
   obtain ⟨d,x,a⟩:=aB a
   refine aC (cT bY rfl o rfl rfl rfl x) ?_
   obtain ⟨b6,a6,a8⟩:=cL.el (sz:=3) rfl o x
   cases a8
   refine aC (gG (t:=0) (vs:=[i64 d.F,i64 d.B,i64 d.To]) iJ l a6 rfl rfl rfl) ?_
   obtain ⟨b7,a9,a⟩:=aB a
   refine jX (vs:=[zA #[i64 d.F,i64 d.B,i64 d.To]]) (caps:=[bV a4 h,bV a7 i]) (us:=[zA #[i64 d.F,i64 d.B,i64 d.To],bV a4 h,bV a7 i]) rfl Tryz.call173 rfl rfl (vN l J V Z a9) ?_
   rintro _ b8 ⟨rfl,y⟩
   refine aG ?_
   rcases aH a with ⟨m,a⟩|⟨m,a⟩
   ·refine aL m rfl (aI (aM (v:=i64 c) (aF (v:=i64 c) (aG (bF (bQ (aR (aR ?_))))))))
    have b0:=p _ (zI a).symm
    subst b0
    have b:(some c)=some R:=b
    obtain rfl:=zI b
    exact bQ (aR (aR (bB Tryz.results236 rfl ⟨rfl,y⟩)))
   ·exact aJ m rfl (aY (bE (aA (aP (aC (cM k rfl) (aM (v:=i64 (wr (c+1))) (aG ⟨wr (c+1),(zI a).symm,q,r,u,rfl,y⟩)))))))
  ·refine aJ c45 rfl (bZ (aW (aW ?_)))
   have b2:=p _ (zI a).symm
   subst b2
   have b:(dZ)=some R:=b
   exact bO (aA ⟨b,l⟩)
theorem lW {a:(List Edge)} {b:Edge} {c d:Nat} {g:(List ((Int × Int) × Bool))} {h:Nat} {R:Bool} (i:aK G K (L) w) (j:cL K a1 c2 a) (k:fV K a4 c [i64 b.F,i64 b.B,i64 b.To]) (l:fV K a7 d [zM (some h)]) (m:rdM K h g) (e:eA a b g=some R):
  Calls Tryz.prog 172 ([zS a1 a.length c2,Value.func (.func 173) #[] #[bV a4 c,bV a7 d]]:List Value).toArray w (gO fun v w'=>v=zB R∧aK G K (L) w'):=by
 refine aS Tryz.func172 rfl (by kernel_rfl) (by show (2:Nat)≤9;decide) ?_
 unfold eA at e
 refine aI (aF (v:=zB false) (aG (aI (aM (v:=zS a1 a.length c2) (aM (v:=Value.func (.func 173) #[] #[bV a4 c,bV a7 d]) ?_)))))
 obtain ⟨n,o,e⟩:=aB e
 refine aU (vs:=[zS a1 a.length c2,Value.func (.func 173) #[] #[bV a4 c,bV a7 d]]) Tryz.call236 rfl (nC i j k l m o) ?_
 rintro _ r ⟨rfl,p⟩
 refine aC (uI rfl rfl) (aF (v:=zB (decide (0≤n))) (aG ?_))
 obtain rfl:=zI e
 exact bF (bB Tryz.results172 rfl ⟨rfl,p⟩)
theorem xV {e:Edge} {p:cH} {c a:Nat} {g:(List ((Int × Int) × Bool))} {h:Nat} {R:Bool} (m:aK G K (L) w) (j:fV K a1 c (zC p a4 c5 a7 c8)) (h6:cL K a4 c5 p.L) (n:cL K a7 c8 p.E) (o:fV K a10 a [zM (some h)]) (q:rdM K h g) (b:kC e p g=some R):
  Calls Tryz.prog 171 ([zA #[i64 e.F,i64 e.B,i64 e.To],bV a1 c,bV a10 a]:List Value).toArray w (gO fun v w'=>v=zB R∧aK G K (L) w'):=by
 refine aS Tryz.func171 rfl (by kernel_rfl) (by show (3:Nat)≤9;decide) ?_
 unfold kC at b
 refine aI (eE (v:=zA #[i64 e.F,i64 e.B,i64 e.To]) (vs:=[i64 e.F,i64 e.B,i64 e.To]) m rfl rfl (fun k a2 l=>(aF (v:=zB false) (aG (aI (aC (cC (k':=c+3) cK rfl j rfl) (aC (bJ (t:=3) fS l j rfl rfl) (aC (qD (vs:=[zP (some ⟨k,0,none⟩),bV a10 a]) rfl) ?_))))))))
 obtain ⟨a3,d,r,u,x⟩:=aK.lendB (i:=0) l rfl
 obtain ⟨y,z,b⟩:=aB b
 refine aU (vs:=[zS a7 p.E.length c8,Value.func (.func 173) #[] #[bV (some ⟨k,0,none⟩) 0,bV a10 a]]) Tryz.call172 rfl (lW u (n.mono d) r (o.mono d) (q.mono d) z) ?_
 rintro _ a5 ⟨rfl,J⟩
 have V:=x _ _ J
 refine aF (v:=zB y) (aG ?_)
 obtain rfl:=zI b
 exact bF (bB Tryz.results171 rfl ⟨rfl,(aK.arr 1 [] V rfl)⟩)
theorem yV {e:Edge} {h:Nat} {a:cH} {b c:Nat} {j:(List ((Int × Int) × Bool))} {k:Nat} {R:Bool} (m:aK G K (L) w) (n:fV K a1 h [Value.func (.func 171) #[] #[bV a4 b,bV a13 c]]) (o:fV K a4 b (zC a a7 c8 a10 c11)) (p:cL K a7 c8 a.L) (q:cL K a10 c11 a.E) (r:fV K a13 c [zM (some k)]) (u:rdM K k j) (d:jF e a j=some R):
  Calls Tryz.prog 96 ([zA #[i64 e.F,i64 e.B,i64 e.To],bV a1 h]:List Value).toArray w (gO fun v w'=>v=zB R∧aK G K (L) w'):=by
 let l:=[i64 e.F,i64 e.B,i64 e.To]
 refine aS Tryz.func96 rfl (by kernel_rfl) (by show (2:Nat)≤8;decide) ?_
 unfold jF at d
 refine aI (eE (v:=zA #[i64 e.F,i64 e.B,i64 e.To]) (vs:=l) m rfl rfl (fun V Z g=>(aF (v:=zB false) (aG (aI (aC (bJ (t:=0) sc_64 g n rfl rfl) (aC (dF (us:=l) iJ g (i:=0) rfl rfl rfl rfl) ?_)))))))
 obtain ⟨x,y,d⟩:=aB d
 refine jX (vs:=[zA #[i64 e.F,i64 e.B,i64 e.To]]) (caps:=[bV a4 b,bV a13 c]) (us:=[zA #[i64 e.F,i64 e.B,i64 e.To],bV a4 b,bV a13 c]) rfl Tryz.call171 rfl rfl (xV g o p q r u y) ?_
 rintro _ a0 ⟨rfl,z⟩
 refine aC (fH rfl) (aF (v:=zB (!x)) (aG ?_))
 obtain rfl:=zI d
 exact bF (bB Tryz.results96 rfl ⟨rfl,(aK.arr 1 [] z rfl)⟩)
theorem aFj {t:cH} {r:Nat} {p:cH} {b6 b7:Nat} {a8:(List ((Int × Int) × Bool))} {b8:Nat} {R:cH} (hs:aK G K (L) w) (h4:Hp.le Kf K) (h3:cL Kf a1 c2 t.L) (h6:cL K a4 c5 t.E) (h9:fV K a7 r [Value.func (.func 171) #[] #[bV a10 b6,bV a19 b7]]) (d7:fV K a10 b6 (zC p a13 c14 a16 c17)) (d8:cL K a13 c14 p.L) (d9:cL K a16 c17 p.E) (e0:fV K a19 b7 [zM (some b8)]) (e1:rdM K b8 a8) (o:aBD t p a8=some R):
  Calls Tryz.prog 95 ([zA (zCa t a1 c2 a4 c5),Value.func (.func 96) #[] #[bV a7 r]]:List Value).toArray w (gO fun v w'=>∃ (c0:Option Addr) (c1:Nat) (c3:Option Addr) (c4:Nat),v=zA (zCa R c0 c1 c3 c4)∧cL Kf c0 c1 R.L∧aK G K (aV 63 K c3 c4 R.E::L) w'):=by
 let l:=zG
 let V:=[i64 t.N,i64 t.I,zS a1 t.L.length c2,zS none 0 0]
 let c6:=(zC t a1 c2 a4 c5)
 refine aS Tryz.func95 rfl (by kernel_rfl) (by show (2:Nat)≤33;decide) ?_
 unfold aBD at o
 refine aI (eE (v:=zA (zCa t a1 c2 a4 c5)) (vs:=c6) hs rfl rfl (fun e2 h5 e3=>(bW (vs:=l) Tryz.zeroValue29 e3 rfl (fun c h7 Z=>(aG (aI (aC (bG (t':=0) iM rfl rfl) (aC (cF cE Z (i:=1) rfl rfl rfl) (aC (bG (t':=1) nE rfl rfl) (aC (cF cE Z (i:=1) rfl rfl rfl) (aC (bG (t':=2) gI rfl rfl) (aC (cF mG Z (i:=1) rfl rfl rfl) (aC (kA (vs:=[(0,i64 t.N),(1,i64 t.I),(2,zS a1 t.L.length c2)]) (cs:=V) aAX rfl (by kernel_rfl)) (bW (vs:=l) Tryz.zeroValue29 Z rfl (fun d h8 e4=>(cD (i:=0) (ns:=V) (us:=V) Tryz.sizeOf29 e4 rfl rfl rfl rfl rfl (dK rfl) rfl rfl (fun e5 (c7:aK G K (box d 29 V::box c 29 l::box e2 29 c6::L) e5)=>(aG (aN (aI (aC (bG (t':=3) cK rfl rfl) (aC (cF fS c7 (i:=2) rfl rfl rfl) (aC (bT (len:=t.E.length) bY rfl) ?_)))))))))))))))))))))))
 refine aM (v:=i64 0) (aG (bC (fun f w=>∃ (g:List Edge) (j:Option Addr) (k:Nat),sM t g=some R∧f 4=zP (some ⟨c,0,none⟩)∧f 5=zP (some ⟨d,0,none⟩)∧aK G K (aV 63 K j k g::box d 29 [i64 t.N,i64 t.I,zS a1 t.L.length c2,zS j g.length k]::box c 29 l::L) w) ?_ ?_))
 ·rintro f i0 ⟨g,j,k,o,c8,e6,c9⟩
  unfold sM at o
  refine aA (aI (aC (dF (us:=[i64 t.N,i64 t.I,zS a1 t.L.length c2,zS j g.length k]) eC c9 (i:=1) rfl e6 rfl rfl) (cD (i:=2) (ns:=[i64 t.N,i64 t.I,zS a1 t.L.length c2,zS j g.length k]) (us:=[i64 t.N,i64 t.I,zS a1 t.L.length c2,zS j g.length k]) Tryz.sizeOf29 c9 rfl c8 rfl rfl rfl (dK rfl) rfl rfl (fun e7 (d0:aK G K (aV 63 K j k g::box d 29 [i64 t.N,i64 t.I,zS a1 t.L.length c2,zS j g.length k]::box c 29 [i64 t.N,i64 t.I,zS a1 t.L.length c2,zS j g.length k]::L) e7)=>(aG ?_)))))
  obtain rfl:=zI o
  exact bF (sX Tryz.results95 (kQ (vs:=[i64 t.N,i64 t.I,zS a1 t.L.length c2,zS j g.length k]) rfl eC d0 (i:=2) rfl c8 rfl) ⟨a1,c2,j,k,rfl,h3,(aK.arr 3 [0] d0 rfl)⟩)
 have e9:=aK.nil (α:=Edge) c7 63 K
 obtain ⟨i1,f0,o⟩:=aB o
 refine cA f0 (fun (s:(List Edge × Int)) f w=>match s with|(e,q)=>∃ (m:Option Addr) (n:Nat),f 1=Value.func (.func 96) #[] #[bV a7 r]∧f 4=zP (some ⟨c,0,none⟩)∧f 5=zP (some ⟨d,0,none⟩)∧f 16=zS a4 t.E.length c5∧f 17=i64 (t.E.length:Int)∧f 18=i64 q∧aK G K (aV 63 K m n e::box d 29 [i64 t.N,i64 t.I,zS a1 t.L.length c2,zS m e.length n]::box c 29 l::L) w) ?_ ?_
 ·exact ⟨none,0,rfl,rfl,rfl,rfl,rfl,rfl,(aK.arr 4 [0,1,2] e9 rfl)⟩
 ·rintro ⟨e,q⟩ d1 f i2 b f1 ⟨m,n,a9,b0,z,b1,b2,a0,b3⟩
  replace b:pT t p a8 e q=some d1:=b
  unfold pT at b
  refine aI (aC (cJ a0 b2) (aG (aN ?_)))
  rcases aH b with ⟨b4,b⟩|⟨b4,b⟩
  ·refine aL b4 rfl (aY (aA (aN (bC (fun f w=>∃ (J:List Edge) (a2:Option Addr) (a3:Nat),sO q J=some d1∧f 1=Value.func (.func 96) #[] #[bV a7 r]∧f 4=zP (some ⟨c,0,none⟩)∧f 5=zP (some ⟨d,0,none⟩)∧f 16=zS a4 t.E.length c5∧f 17=i64 (t.E.length:Int)∧f 18=i64 q∧aK G K (aV 63 K a2 a3 J::box d 29 [i64 t.N,i64 t.I,zS a1 t.L.length c2,zS a2 J.length a3]::box c 29 l::L) w) ?_ ?_))))
   ·rintro f i3 ⟨J,a2,a3,b,f2,f3,f4,f5,f6,f7,f8⟩
    unfold sO at b
    exact aA (aP (aC (cM f7 rfl) (aM (v:=i64 (wr (q+1))) (aG ⟨(J,wr (q+1)),(zI b).symm,a2,a3,f2,f3,f4,f5,f6,rfl,f8⟩))))
   refine aI ?_
   obtain ⟨a,d2,b⟩:=aB b
   refine aC (cT bY rfl h6 b1 rfl a0 d2) ?_
   obtain ⟨i4,f9,g0⟩:=cL.el (sz:=3) rfl h6 d2
   cases g0
   refine aC (gG (t:=0) (vs:=[i64 a.F,i64 a.B,i64 a.To]) iJ b3 f9 rfl rfl rfl) (bW (vs:=[i64 0,i64 0,i64 0]) Tryz.zeroValue63 b3 rfl (fun a5 i5 g1=>(cD (i:=0) (ns:=[i64 a.F,i64 a.B,i64 a.To]) (us:=[i64 a.F,i64 a.B,i64 a.To]) Tryz.sizeOf63 g1 rfl rfl rfl rfl rfl (dK rfl) rfl rfl (fun g2 (d3:aK G K (box a5 63 [i64 a.F,i64 a.B,i64 a.To]::aV 63 K m n e::box d 29 [i64 t.N,i64 t.I,zS a1 t.L.length c2,zS m e.length n]::box c 29 l::L) g2)=>(aG (aI (aO a9 (aC (dF (us:=[i64 a.F,i64 a.B,i64 a.To]) iJ d3 (i:=0) rfl rfl rfl rfl) ?_))))))))
   obtain ⟨i6,g3,b⟩:=aB b
   refine jX (vs:=[zA #[i64 a.F,i64 a.B,i64 a.To]]) (caps:=[bV a7 r]) (us:=[zA #[i64 a.F,i64 a.B,i64 a.To],bV a7 r]) rfl Tryz.call96 rfl rfl (yV d3 h9 d7 d8 d9 e0 e1 g3) ?_
   rintro _ i7 ⟨rfl,a6⟩
   refine aG ?_
   rcases aH b with ⟨b5,b⟩|⟨b5,b⟩
   ·refine aL b5 rfl (aP (aC (bG (t':=3) cK z rfl) (aC (cF fS a6 (i:=2) rfl rfl rfl) (aC (dF (us:=[i64 a.F,i64 a.B,i64 a.To]) iJ a6 (i:=0) rfl rfl rfl rfl) (dJ (Kt:=K) (xs:=([a]:List Edge)) (cs:=[i64 a.F,i64 a.B,i64 a.To]) (vs:=[(0,zA #[i64 a.F,i64 a.B,i64 a.To])]) bY lD rfl rfl a6 rfl (by kernel_rfl) rfl rfl rfl ⟨rfl,trivial⟩ (fun g4 g5 (g6:aK G K (aV 63 K g4 1 ([a]:List Edge)::box a5 63 [i64 a.F,i64 a.B,i64 a.To]::aV 63 K m n e::box d 29 [i64 t.N,i64 t.I,zS a1 t.L.length c2,zS m e.length n]::box c 29 l::L) g5)=>?_))))))
    obtain ⟨u,g7,b⟩:=aB b
    exact iA (i:=1) bY Tryz.underlying27 lD rfl rfl g6 rfl (zR _) (zR _) g7 rfl rfl rfl rfl (fun _ h=>h) (fun x y g8 (g9:aK G K (box a5 63 [i64 a.F,i64 a.B,i64 a.To]::aV 63 K x y u::box d 29 [i64 t.N,i64 t.I,zS a1 t.L.length c2,zS m e.length n]::box c 29 l::L) g8)=>(aC (bG (t':=3) cK z rfl) (cD (i:=2) (ns:=[zS x u.length y]) (us:=[i64 t.N,i64 t.I,zS a1 t.L.length c2,zS x u.length y]) Tryz.sizeOf27 g9 rfl rfl rfl rfl rfl (dK rfl) rfl rfl (fun h0 (h1:aK G K (box a5 63 [i64 a.F,i64 a.B,i64 a.To]::aV 63 K x y u::box d 29 [i64 t.N,i64 t.I,zS a1 t.L.length c2,zS x u.length y]::box c 29 l::L) h0)=>(bK (bE (aA ⟨u,x,y,b,a9,b0,z,b1,b2,a0,(aK.arr 1 [] h1 rfl)⟩)))))))
   ·exact aJ b5 rfl (aY (bE (aA ⟨e,m,n,b,a9,b0,z,b1,b2,a0,(aK.arr 1 [] a6 rfl)⟩)))
  ·refine aJ b4 rfl (bZ (aW (aW ?_)))
   have h2:=f1 _ (zI b).symm
   subst h2
   have o:(sM t e)=some R:=o
   exact bO (aA ⟨e,m,n,o,b0,z,b3⟩)
theorem jU {t R:cH} (hs:aK G K (L) w) (u:cL K a1 c2 t.L) (x:cL K a4 c5 t.E) (b:jI t=some R):
  Calls Tryz.prog 37 ([zA (zCa t a1 c2 a4 c5)]:List Value).toArray w (gO fun v w'=>∃ (y:Option Addr) (z:Nat) (J:Option Addr) (V:Nat),v=zA (zCa R y z J V)∧aK G K (aV 9 K y z R.L::aV 63 K J V R.E::L) w'):=by
 let c:=(zC t a1 c2 a4 c5)
 refine aS Tryz.func37 rfl (by kernel_rfl) (by show (1:Nat)≤10;decide) ?_
 unfold jI at b
 refine aI (eE (v:=zA (zCa t a1 c2 a4 c5)) (vs:=c) hs rfl rfl (fun Z w8 b0=>(bW (vs:=zG) Tryz.zeroValue29 b0 rfl (fun a0 e8 a2=>(aG (aI (aC (dF (us:=c) eC a2 (i:=1) rfl rfl rfl rfl) ?_)))))))
 obtain ⟨a3,b1,b⟩:=aB b
 refine aU (vs:=[zA (zCa t a1 c2 a4 c5)]) Tryz.call94 rfl (aAq a2 u x b1) ?_
 rintro _ e9 ⟨d,p,e,rfl,b2⟩
 refine bW (vs:=[Value.nilFunc]) Tryz.zeroValue64 b2 rfl (fun q f0 b3=>(cD (i:=0) (ns:=[Value.func (.func 171) #[] #[zP (some ⟨d,0,none⟩),zP (some ⟨e,0,none⟩)]]) (us:=[Value.func (.func 171) #[] #[zP (some ⟨d,0,none⟩),zP (some ⟨e,0,none⟩)]]) Tryz.sizeOf64 b3 rfl rfl rfl rfl rfl (dK rfl) rfl rfl (fun b4 (a5:aK G K (box q 64 [Value.func (.func 171) #[] #[zP (some ⟨d,0,none⟩),zP (some ⟨e,0,none⟩)]]::box d 29 c::rR p a3::box e 124 [zM (some p)]::box a0 29 zG::box Z 29 c::L) b4)=>(aG (aI (aC (dF (us:=c) eC a5 (i:=5) rfl rfl rfl rfl) (aC (qD (vs:=[zP (some ⟨q,0,none⟩)]) rfl) ?_)))))))
 obtain ⟨f1,r,b5,b6,b8⟩:=aK.lendB (i:=1) a5 rfl
 obtain ⟨f2,n,b9,c0,c1⟩:=aK.lendM (i:=1) b6 rfl
 obtain ⟨f3,h,c3,c4,c6⟩:=aK.lendB (i:=1) c0 rfl
 obtain ⟨f4,g,c7,c8,c9⟩:=aK.lendB (i:=0) c4 rfl
 obtain ⟨o,d0,b⟩:=aB b
 refine aU (vs:=[zA (zCa t a1 c2 a4 c5),Value.func (.func 96) #[] #[bV (some ⟨q,0,none⟩) 0]]) Tryz.call95 rfl (aFj (Kf:=K) c8 (zL (zL (zL r n) h) g) u (x.mono (zL (zL (zL r n) h) g)) (show fV _ _ _ [Value.func (.func 171) #[] #[bV (some ⟨d,0,none⟩) 0,bV (some ⟨e,0,none⟩) 0]] from c7) (b5.mono (zL (zL n h) g)) (u.mono (zL (zL (zL r n) h) g)) (x.mono (zL (zL (zL r n) h) g)) (c3.mono g) (b9.mono (zL h g)) d0) ?_
 rintro _ f5 ⟨d1,c48,a6,a7,rfl,d2,d3⟩
 have d4:=c9 _ _ d3
 have d5:=c6 _ _ d4
 have d6:=c1 _ _ d5
 have d7:=b8 _ _ d6
 obtain ⟨f6,d8,d9,e0,e1⟩:=aK.lendS (i:=4) d7 (zR _) rfl
 obtain ⟨a,e2,b⟩:=aB b
 refine aU (vs:=[zA (zCa o d1 c48 a6 a7)]) Tryz.call97 rfl (aEu e0 (d2.mono d8) d9 e2) ?_
 rintro _ f7 ⟨j,k,l,m,rfl,e3⟩
 have e4:=e1 _ _ e3
 refine cD (i:=7) (ns:=(zC a j k l m)) (us:=(zC a j k l m)) Tryz.sizeOf29 e4 rfl rfl rfl rfl rfl (dK rfl) rfl rfl (fun e5 (a8:aK G K (aV 63 K a6 a7 o.E::aV 9 K j k a.L::aV 63 K l m a.E::box d 29 c::rR p a3::box e 124 [zM (some p)]::box q 64 [Value.func (.func 171) #[] #[zP (some ⟨d,0,none⟩),zP (some ⟨e,0,none⟩)]]::box a0 29 (zC a j k l m)::box Z 29 c::L) e5)=>(aG ?_))
 obtain rfl:=zI b
 exact bF (sX Tryz.results37 (kQ (vs:=(zC a j k l m)) rfl eC a8 (i:=7) rfl rfl rfl) ⟨j,k,l,m,rfl,(aK.arr 9 [1,2] a8 rfl)⟩)
theorem aDi {b c:Int} {a:(List bH)} {d R:(List Edge)} (l:aK G K (aV 9 K a2 c3 a::aV 63 K a4 c5 d::box b1 29 [i64 b,i64 c,zS a2 a.length c3,zS a4 d.length c5]::L) w) (e:wW b c a d=some R):
  Calls Tryz.prog 91 ([zP (some ⟨b1,0,none⟩)]:List Value).toArray w (gO fun v w'=>∃ (m:Option Addr) (n:Nat),v=Value.tuple #[]∧aK G K (aV 9 K a2 c3 a::aV 63 K m n R::box b1 29 [i64 b,i64 c,zS a2 a.length c3,zS m R.length n]::L) w'):=by
 refine aS Tryz.func91 rfl (by kernel_rfl) (by show (1:Nat)≤15;decide) ?_
 unfold wW at e
 refine aI (aM (v:=zP (some ⟨b1,0,none⟩)) (aC (mO rfl) (aC (bG (t':=3) cK rfl rfl) (aC (cF fS l (i:=2) rfl rfl rfl) ?_))))
 have p:aK G K (aV 63 K a4 c5 d::aV 9 K a2 c3 a::box b1 29 [i64 b,i64 c,zS a2 a.length c3,zS a4 d.length c5]::L) w:=(aK.arr 2 [1,0] l rfl)
 obtain ⟨k,q,e⟩:=aB e
 refine aU (vs:=[zS a4 d.length c5,Value.func (.func 81) #[] #[]]) Tryz.call85 rfl (lib_SortEdge p q) ?_
 rintro _ r ⟨rfl,t,u⟩
 have o:aK G K (aV 63 K a4 c5 k::aV 9 K a2 c3 a::box b1 29 [i64 b,i64 c,zS a2 a.length c3,zS a4 k.length c5]::L) r:=by rw [←t];exact u
 refine aG (aP (aM (v:=zP (some ⟨b1,0,none⟩)) (aM (v:=zP (some ⟨b1,0,none⟩)) (aC (mO rfl) (aC (bG (t':=3) cK rfl rfl) (aC (cF fS o (i:=2) rfl rfl rfl) ?_))))))
 obtain ⟨j,x,e⟩:=aB e
 refine aU (vs:=[zS a4 k.length c5]) Tryz.call169 rfl (nY o x) ?_
 rintro _ Z ⟨g,h,rfl,y⟩
 refine aC (mO rfl) (aC (bG (t':=3) cK rfl rfl) (cD (i:=2) (ns:=[zS g j.length h]) (us:=[i64 b,i64 c,zS a2 a.length c3,zS g j.length h]) Tryz.sizeOf27 y rfl rfl rfl rfl rfl (dK rfl) rfl rfl (fun z (J:aK G K (aV 63 K g h j::aV 9 K a2 c3 a::box b1 29 [i64 b,i64 c,zS a2 a.length c3,zS g j.length h]::L) z)=>?_)))
 obtain rfl:=zI e
 exact bK (retQ_0n Tryz.results91 ⟨g,h,rfl,(aK.arr 2 [1,0] J rfl)⟩)
theorem rV {t:cH} {p:(List Int)} {R:cH} (hs:aK G K (L) w) (h3:cL K a1 c2 t.L) (h6:cL K a4 c5 t.E) (J:cL K a7 c8 p) (b:nT t p=some R):
  Calls Tryz.prog 34 ([zA (zCa t a1 c2 a4 c5),zS a7 p.length c8,Value.func (.func 36) #[] #[]]:List Value).toArray w (gO fun v w'=>∃ (f5:Option Addr) (f6:Nat) (f7:Option Addr) (f8:Nat),v=zA (zCa R f5 f6 f7 f8)∧aK G K (aV 9 K f5 f6 R.L::aV 63 K f7 f8 R.E::L) w'):=by
 let o:=zG
 let c7:=(zC t a1 c2 a4 c5)
 let d9:=[zS a1 t.L.length c2]
 refine aS Tryz.func34 rfl (by kernel_rfl) (by show (3:Nat)≤52;decide) ?_
 unfold nT at b
 refine aI (eE (v:=zA (zCa t a1 c2 a4 c5)) (vs:=c7) hs rfl rfl (fun c9 p3 i7=>(bW (vs:=o) Tryz.zeroValue29 i7 rfl (fun n p4 i8=>(aG (aN (cN (fun f w=>∃ (k:Int) (l:Int) (c:List bH) (r:Nat) (d:Option Addr) (e:Nat),pZ t p k l c=some R∧f 1=zS a7 p.length c8∧f 2=Value.func (.func 36) #[] #[]∧f 3=zP (some ⟨c9,0,none⟩)∧f 6=zP (some ⟨n,0,none⟩)∧f 7=zP (some ⟨r,0,none⟩)∧aK G K (aV 9 K d e c::box r 29 [i64 k,i64 l,zS d c.length e,zS none 0 0]::box n 29 o::box c9 29 c7::L) w) ?_ ?_)))))))
 ·rintro f p5 ⟨k,l,c,r,d,e,b,i9,j0,j1,j2,j3,f9⟩
  unfold pZ at b
  refine aA (aN (aI (aC (bG (t':=3) cK j1 rfl) (aC (cF fS f9 (i:=3) rfl rfl rfl) (aC (bT (len:=t.E.length) bY rfl) (aM (v:=i64 0) (aG (bC (fun f w=>∃ (b7:List Edge) (d0:Option Addr) (d1:Nat),mL k l c b7=some R∧f 6=zP (some ⟨n,0,none⟩)∧f 7=zP (some ⟨r,0,none⟩)∧aK G K (aV 63 K d0 d1 b7::aV 9 K d e c::box r 29 [i64 k,i64 l,zS d c.length e,zS d0 b7.length d1]::box n 29 o::L) w) ?_ ?_))))))))
  ·rintro f j4 ⟨b7,d0,d1,b,g0,g1,j5⟩
   unfold mL at b
   refine aA (aI ?_)
   have j6:aK G K (aV 9 K d e c::aV 63 K d0 d1 b7::box r 29 [i64 k,i64 l,zS d c.length e,zS d0 b7.length d1]::box n 29 o::L) j4:=(aK.arr 2 [1,0] j5 rfl)
   obtain ⟨a3,j7,b⟩:=aB b
   refine aU (vs:=[zP (some ⟨r,0,none⟩)]) Tryz.call91 (lst1 g1) (aDi j6 j7) ?_
   rintro _ p6 ⟨V,Z,rfl,g2⟩
   refine aG (aI (aC (dF (us:=[i64 k,i64 l,zS d c.length e,zS V a3.length Z]) eC g2 (i:=2) rfl g1 rfl rfl) (cD (i:=3) (ns:=[i64 k,i64 l,zS d c.length e,zS V a3.length Z]) (us:=[i64 k,i64 l,zS d c.length e,zS V a3.length Z]) Tryz.sizeOf29 g2 rfl g0 rfl rfl rfl (dK rfl) rfl rfl (fun j8 (g3:aK G K (aV 9 K d e c::aV 63 K V Z a3::box r 29 [i64 k,i64 l,zS d c.length e,zS V a3.length Z]::box n 29 [i64 k,i64 l,zS d c.length e,zS V a3.length Z]::L) j8)=>(aG ?_)))))
   obtain rfl:=zI b
   exact bF (sX Tryz.results34 (kQ (vs:=[i64 k,i64 l,zS d c.length e,zS V a3.length Z]) rfl eC g3 (i:=3) rfl g0 rfl) ⟨d,e,V,Z,rfl,(aK.arr 4 [0,1] g3 rfl)⟩)
  have k0:=aK.nil (α:=Edge) f9 63 K
  obtain ⟨p7,k1,b⟩:=aB b
  refine cA k1 (fun (s:(List Edge × Int)) f w=>match s with|(y,a5)=>∃ (a0:Option Addr) (a2:Nat),f 1=zS a7 p.length c8∧f 2=Value.func (.func 36) #[] #[]∧f 6=zP (some ⟨n,0,none⟩)∧f 7=zP (some ⟨r,0,none⟩)∧f 22=zS a4 t.E.length c5∧f 23=i64 (t.E.length:Int)∧f 24=i64 a5∧aK G K (aV 63 K a0 a2 y::aV 9 K d e c::box r 29 [i64 k,i64 l,zS d c.length e,zS a0 y.length a2]::box n 29 o::L) w) ?_ ?_
  ·exact ⟨none,0,i9,j0,j2,j3,rfl,rfl,rfl,(aK.arr 5 [0,1,2,3] k0 rfl)⟩
  ·rintro ⟨y,a5⟩ g4 f p8 g k2 ⟨a0,a2,d4,e0,e1,d2,e2,e3,d5,e4⟩
   replace g:kD t p y a5=some g4:=g
   unfold kD at g
   refine aI (aC (cJ d5 e3) (aG (aN ?_)))
   rcases aH g with ⟨e5,g⟩|⟨e5,g⟩
   ·refine aL e5 rfl (aY (aA (aN (bC (fun f w=>∃ (d3:List Edge) (d6:Option Addr) (d7:Nat),mM a5 d3=some g4∧f 1=zS a7 p.length c8∧f 2=Value.func (.func 36) #[] #[]∧f 6=zP (some ⟨n,0,none⟩)∧f 7=zP (some ⟨r,0,none⟩)∧f 22=zS a4 t.E.length c5∧f 23=i64 (t.E.length:Int)∧f 24=i64 a5∧aK G K (aV 63 K d6 d7 d3::aV 9 K d e c::box r 29 [i64 k,i64 l,zS d c.length e,zS d6 d3.length d7]::box n 29 o::L) w) ?_ ?_))))
    ·rintro f p9 ⟨d3,d6,d7,g,k3,k4,k5,k6,k7,k8,k9,l0⟩
     unfold mM at g
     exact aA (aP (aC (cM k9 rfl) (aM (v:=i64 (wr (a5+1))) (aG ⟨(d3,wr (a5+1)),(zI g).symm,d6,d7,k3,k4,k5,k6,k7,k8,rfl,l0⟩))))
    refine aI ?_
    obtain ⟨a,g5,g⟩:=aB g
    refine aC (cT bY rfl h6 e2 rfl d5 g5) ?_
    obtain ⟨q0,l1,l2⟩:=cL.el (sz:=3) rfl h6 g5
    cases l2
    refine aC (gG (t:=0) (vs:=[i64 a.F,i64 a.B,i64 a.To]) iJ e4 l1 rfl rfl rfl) (bW (vs:=[i64 0,i64 0,i64 0]) Tryz.zeroValue63 e4 rfl (fun g6 q1 l3=>(cD (i:=0) (ns:=[i64 a.F,i64 a.B,i64 a.To]) (us:=[i64 a.F,i64 a.B,i64 a.To]) Tryz.sizeOf63 l3 rfl rfl rfl rfl rfl (dK rfl) rfl rfl (fun l4 (g7:aK G K (box g6 63 [i64 a.F,i64 a.B,i64 a.To]::aV 63 K a0 a2 y::aV 9 K d e c::box r 29 [i64 k,i64 l,zS d c.length e,zS a0 y.length a2]::box n 29 o::L) l4)=>(aG (aI (aO e0 (aC (dF (us:=[i64 a.F,i64 a.B,i64 a.To]) iJ g7 (i:=0) rfl rfl rfl rfl) ?_))))))))
    obtain ⟨q2,l5,g⟩:=aB g
    refine jX (vs:=[zA #[i64 a.F,i64 a.B,i64 a.To]]) (caps:=[]) (us:=[zA #[i64 a.F,i64 a.B,i64 a.To]]) rfl Tryz.call36 rfl rfl (yU g7 l5) ?_
    rintro _ q3 ⟨rfl,g8⟩
    refine aG ?_
    rcases aH g with ⟨e6,g⟩|⟨e6,g⟩
    ·refine aL e6 rfl ?_
     obtain ⟨q4,b8,e7,l6,l7⟩:=aK.lendB (i:=0) g8 rfl
     obtain ⟨e8,z,l8,g9,l9⟩:=aK.lendB (i:=2) l6 rfl
     refine iB (C:=fun w'=>∃ L',aK G e8 L' w') [(0,0),(1,0),(2,0),(3,0),(4,0),(5,0),(6,0),(7,0),(8,0),(9,0),(10,0),(11,0),(12,0),(13,0),(14,0),(15,1),(16,1),(17,0),(18,2)] bU (by kernel_rfl) (fun _ hg=>⟨_,aK.mono g9 hg⟩) (fun q5 m0=>?_)
     have u:=aK.mono g9 m0
     refine bX rfl (fun _ _=>bG (t':=3) cK d2 rfl) (bX rfl (fun _ ⟨_,u⟩=>bJ (t:=3) fS u l8 rfl rfl) (bX rfl (fun _ _=>bD d4) (bX rfl (fun _ _=>bG (t':=0) fJ rfl rfl) (bX rfl (fun _ ⟨_,u⟩=>bJ (t:=0) cE u (e7.mono z) rfl rfl) ?_))))
     obtain ⟨b9,h0,g⟩:=aB g
     refine bX rfl (fun _ _=>cT cG rfl (J.mono (zL b8 z)) rfl rfl rfl h0) ?_
     obtain ⟨q6,m1,m2⟩:=cL.el (sz:=1) rfl J h0
     cases m2
     refine bX rfl (fun _ ⟨_,u⟩=>bJ (t:=0) cE u (m1.mono (zL b8 z)) rfl rfl) (bX rfl (fun _ _=>bG (t':=1) gB rfl rfl) (bX rfl (fun _ ⟨_,u⟩=>bJ (t:=1) cE u (e7.mono z) rfl rfl) (bX rfl (fun _ _=>bD d4) (bX rfl (fun _ _=>bG (t':=2) eM rfl rfl) (bX rfl (fun _ ⟨_,u⟩=>bJ (t:=2) cE u (e7.mono z) rfl rfl) ?_)))))
     obtain ⟨c0,h1,g⟩:=aB g
     refine bX rfl (fun _ _=>cT cG rfl (J.mono (zL b8 z)) rfl rfl rfl h1) ?_
     obtain ⟨q7,m3,m4⟩:=cL.el (sz:=1) rfl J h1
     cases m4
     refine bX rfl (fun _ ⟨_,u⟩=>bJ (t:=0) cE u (m3.mono (zL b8 z)) rfl rfl) (bX rfl (fun _ _=>kA (vs:=[(0,i64 b9),(1,i64 a.B),(2,i64 c0)]) (cs:=[i64 b9,i64 a.B,i64 c0]) bs_63 rfl (by kernel_rfl)) (nD rfl (dJ (Kt:=K) (xs:=([⟨b9,a.B,c0⟩]:List Edge)) (cs:=[i64 b9,i64 a.B,i64 c0]) (vs:=[(0,zA #[i64 b9,i64 a.B,i64 c0])]) bY lD rfl rfl u rfl (by kernel_rfl) rfl rfl rfl ⟨rfl,trivial⟩ (fun m5 m6 (h2:aK G e8 (aV 63 K m5 1 ([⟨b9,a.B,c0⟩]:List Edge)::aV 63 K a0 a2 y::aV 9 K d e c::box n 29 o::L) m6)=>(bK (aA ⟨⟨_,h2⟩,?_⟩))))))
     refine nD rfl ?_
     obtain ⟨c1,m7,g⟩:=aB g
     refine iA (i:=0) bY Tryz.underlying27 lD rfl rfl h2 rfl (zL b8 z) (zL b8 z) m7 rfl rfl rfl rfl (fun _ h=>h) (fun c3 c4 m8 (h4:aK G e8 (aV 63 K c3 c4 c1::aV 9 K d e c::box n 29 o::L) m8)=>(bK (aA ⟨⟨_,h4⟩,?_⟩)))
     refine bX rfl (fun _ _=>bG (t':=3) cK d2 rfl) ?_
     have m9:=l9 _ _ h4
     have n0:=l7 _ _ m9
     exact WE_s rfl (cD (i:=1) (ns:=[zS c3 c1.length c4]) (us:=[i64 k,i64 l,zS d c.length e,zS c3 c1.length c4]) Tryz.sizeOf27 n0 rfl rfl rfl rfl rfl (dK rfl) rfl rfl (fun n1 (n2:aK G K (box g6 63 [i64 a.F,i64 a.B,i64 a.To]::box r 29 [i64 k,i64 l,zS d c.length e,zS c3 c1.length c4]::aV 63 K c3 c4 c1::aV 9 K d e c::box n 29 o::L) n1)=>(aG (mP (bE (aA ⟨c1,c3,c4,g,d4,e0,e1,d2,e2,e3,d5,(aK.arr 4 [2,3,1] n2 rfl)⟩))))))
    ·exact aJ e6 rfl (aY (bE (aA ⟨y,a0,a2,g,d4,e0,e1,d2,e2,e3,d5,(aK.arr 1 [] g8 rfl)⟩)))
   ·refine aJ e5 rfl (bZ (aW (aW ?_)))
    have n3:=k2 _ (zI g).symm
    subst n3
    have b:(mL k l c y)=some R:=b
    exact bO (aA ⟨y,a0,a2,b,e1,d2,e4⟩)
 obtain ⟨n4,a6,h5,n5,e9⟩:=aK.lendB (i:=1) i8 rfl
 refine aCt (C:=fun w'=>∃ L',aK G n4 L' w') [12] bU (by kernel_rfl) (fun q8 n6=>?_)
 have q:=aK.mono n5 n6
 refine xR (i:=0) rfl (by kernel_rfl) ⟨_,q⟩ (fun _ _=>bD (v:=zS a7 p.length c8) rfl) (xR (i:=2) rfl (by kernel_rfl) ⟨_,q⟩ (fun _ _=>bD (v:=zS a7 p.length c8) rfl) (xR (i:=3) rfl (by kernel_rfl) ⟨_,q⟩ (fun _ _=>bG (t':=1) nE rfl rfl) (xR (i:=4) rfl (by kernel_rfl) ⟨_,q⟩ (fun _ ⟨_,q⟩=>bJ (t:=1) cE q h5 rfl rfl) ?_)))
 obtain ⟨m,h7,b⟩:=aB b
 refine xR (i:=5) rfl (by kernel_rfl) ⟨_,q⟩ (fun _ _=>cT cG rfl (J.mono a6) rfl rfl rfl h7) ?_
 obtain ⟨q9,n7,n8⟩:=cL.el (sz:=1) rfl J h7
 cases n8
 refine xR (i:=6) rfl (by kernel_rfl) ⟨_,q⟩ (fun _ ⟨_,q⟩=>bJ (t:=0) cE q (n7.mono a6) rfl rfl) (xR (i:=7) rfl (by kernel_rfl) ⟨_,q⟩ (fun _ _=>bG (t':=2) gI rfl rfl) (xR (i:=8) rfl (by kernel_rfl) ⟨_,q⟩ (fun _ ⟨_,q⟩=>bJ (t:=2) mG q h5 rfl rfl) (yF (i:=1) (j:=11) (by kernel_rfl) rfl rfl ?_ ?_)))
 ·obtain ⟨x,n9,b⟩:=aB b
  refine aU (vs:=[zS a7 p.length c8]) Tryz.call90 rfl (aAB q (J.mono a6) n9) ?_
  rintro _ r0 ⟨rfl,f0⟩
  refine bK (aA ⟨fun _=>⟨_,f0⟩,?_⟩)
  refine yF (i:=9) (j:=11) (by kernel_rfl) rfl rfl ?_ ?_
  ·obtain ⟨a8,o0,b⟩:=aB b
   refine aU (vs:=d9) Tryz.call84 rfl (cZ f0 (h3.mono a6) o0) ?_
   rintro _ r1 ⟨a9,b0,rfl,f1⟩
   refine bK (aA ⟨fun _=>⟨_,f1⟩,?_⟩)
   refine xR (i:=10) rfl (by kernel_rfl) ⟨_,f1⟩ (fun _ _=>kA (vs:=[(0,i64 x),(1,i64 m),(2,zS a9 a8.length b0)]) (cs:=[i64 x,i64 m,zS a9 a8.length b0,zS none 0 0]) aAX rfl (by kernel_rfl)) (fW (i:=11) (by kernel_rfl) rfl (bW (vs:=o) Tryz.zeroValue29 f1 rfl (fun h8 r2 i0=>(bK (aA ⟨fun _=>⟨_,i0⟩,?_⟩)))))
   refine fW (i:=12) (by kernel_rfl) rfl ?_
   have o1:=e9 _ _ i0
   refine cD (i:=1) (ns:=[i64 x,i64 m,zS a9 a8.length b0,zS none 0 0]) (us:=[i64 x,i64 m,zS a9 a8.length b0,zS none 0 0]) Tryz.sizeOf29 o1 rfl rfl rfl rfl rfl (dK rfl) rfl rfl (fun o2 (o3:aK G K (box c9 29 c7::box h8 29 [i64 x,i64 m,zS a9 a8.length b0,zS none 0 0]::aV 9 K a9 b0 a8::box n 29 o::L) o2)=>(bK (aA ⟨aEe rfl,?_⟩)))
   exact rB (by kernel_rfl) (aA ⟨x,m,a8,h8,a9,b0,b,rfl,rfl,rfl,rfl,rfl,(aK.arr 4 [2,1,3,0] o3 rfl)⟩)
  ·refine bW (vs:=o) Tryz.zeroValue29 f0 rfl (fun i1 r3 i2=>(bK (aA ⟨fun _=>⟨_,i2⟩,?_⟩)))
   refine fW (i:=9) (by kernel_rfl) rfl ?_
   obtain ⟨b1,o4,b⟩:=aB b
   refine aU (vs:=d9) Tryz.call84 rfl (cZ i2 (h3.mono a6) o4) ?_
   rintro _ r4 ⟨b2,b3,rfl,f2⟩
   refine bK (aA ⟨fun _=>⟨_,f2⟩,?_⟩)
   refine xR (i:=10) rfl (by kernel_rfl) ⟨_,f2⟩ (fun _ _=>kA (vs:=[(0,i64 x),(1,i64 m),(2,zS b2 b1.length b3)]) (cs:=[i64 x,i64 m,zS b2 b1.length b3,zS none 0 0]) aAX rfl (by kernel_rfl)) (fW (i:=12) (by kernel_rfl) rfl ?_)
   have o5:=e9 _ _ f2
   refine cD (i:=2) (ns:=[i64 x,i64 m,zS b2 b1.length b3,zS none 0 0]) (us:=[i64 x,i64 m,zS b2 b1.length b3,zS none 0 0]) Tryz.sizeOf29 o5 rfl rfl rfl rfl rfl (dK rfl) rfl rfl (fun o6 (o7:aK G K (box c9 29 c7::aV 9 K b2 b3 b1::box i1 29 [i64 x,i64 m,zS b2 b1.length b3,zS none 0 0]::box n 29 o::L) o6)=>(bK (aA ⟨aEe rfl,?_⟩)))
   exact rB (by kernel_rfl) (aA ⟨x,m,b1,i1,b2,b3,b,rfl,rfl,rfl,rfl,rfl,(aK.arr 4 [1,2,3,0] o7 rfl)⟩)
 ·refine bW (vs:=o) Tryz.zeroValue29 q rfl (fun i3 r5 i4=>(bK (aA ⟨fun _=>⟨_,i4⟩,?_⟩)))
  refine fW (i:=1) (by kernel_rfl) rfl ?_
  obtain ⟨c6,o8,b⟩:=aB b
  refine aU (vs:=[zS a7 p.length c8]) Tryz.call90 rfl (aAB i4 (J.mono a6) o8) ?_
  rintro _ r6 ⟨rfl,i5⟩
  refine bK (aA ⟨fun _=>⟨_,i5⟩,?_⟩)
  refine fW (i:=9) (by kernel_rfl) rfl ?_
  obtain ⟨b4,o9,b⟩:=aB b
  refine aU (vs:=d9) Tryz.call84 rfl (cZ i5 (h3.mono a6) o9) ?_
  rintro _ r7 ⟨b5,b6,rfl,f3⟩
  refine bK (aA ⟨fun _=>⟨_,f3⟩,?_⟩)
  refine xR (i:=10) rfl (by kernel_rfl) ⟨_,f3⟩ (fun _ _=>kA (vs:=[(0,i64 c6),(1,i64 m),(2,zS b5 b4.length b6)]) (cs:=[i64 c6,i64 m,zS b5 b4.length b6,zS none 0 0]) aAX rfl (by kernel_rfl)) (fW (i:=12) (by kernel_rfl) rfl ?_)
  have p0:=e9 _ _ f3
  refine cD (i:=2) (ns:=[i64 c6,i64 m,zS b5 b4.length b6,zS none 0 0]) (us:=[i64 c6,i64 m,zS b5 b4.length b6,zS none 0 0]) Tryz.sizeOf29 p0 rfl rfl rfl rfl rfl (dK rfl) rfl rfl (fun p1 (p2:aK G K (box c9 29 c7::aV 9 K b5 b6 b4::box i3 29 [i64 c6,i64 m,zS b5 b4.length b6,zS none 0 0]::box n 29 o::L) p1)=>(bK (aA ⟨aEe rfl,?_⟩)))
  exact rB (by kernel_rfl) (aA ⟨c6,m,b4,i3,b5,b6,b,rfl,rfl,rfl,rfl,rfl,(aK.arr 4 [1,2,3,0] p2 rfl)⟩)
theorem sW {t:cH} {R:(cH × Int)} (hs:aK G K (L) w) (hG:G.lo=0) (h3:cL K a1 c2 t.L) (h6:cL K a4 c5 t.E) (a:jJ t=some R):
  Calls Tryz.prog 9 ([zA (zCa t a1 c2 a4 c5)]:List Value).toArray w (gO fun v w'=>∃ (h5:Option Addr) (h7:Nat) (h8:Option Addr) (h9:Nat),v=Value.tuple #[zA (zCa R.1 h5 h7 h8 h9),i64 R.2]∧aK G K (aV 9 K h5 h7 R.1.L::aV 63 K h8 h9 R.1.E::L) w'):=by
 let d:=zG
 let b0:=(zC t a1 c2 a4 c5)
 let g8:=[zA (zCa t a1 c2 a4 c5)]
 refine aS Tryz.func9 rfl (by kernel_rfl) (by show (1:Nat)≤23;decide) ?_
 unfold jJ at a
 refine aI (eE (v:=zA (zCa t a1 c2 a4 c5)) (vs:=b0) hs rfl rfl (fun b7 w8 p2=>(bW (vs:=d) Tryz.zeroValue29 p2 rfl (fun J w11 i0=>(aF (v:=i64 0) (aG (aN (aI (aC (dF (us:=b0) eC i0 (i:=1) rfl rfl rfl rfl) ?_)))))))))
 obtain ⟨r13,p3,a⟩:=aB a
 refine aU (vs:=g8) Tryz.call31 rfl (aFi i0 hG h3 h6 p3) ?_
 rintro _ w15 ⟨rfl,i1⟩
 refine aC (fH rfl) (aG ?_)
 rcases aH a with ⟨g9,a⟩|⟨g9,a⟩
 ·refine aL g9 rfl (aI (aC (kA (vs:=[]) (cs:=d) aAX rfl (by kernel_rfl)) (cD (i:=0) (ns:=d) (us:=d) Tryz.sizeOf29 i1 rfl rfl rfl rfl rfl (dK rfl) rfl rfl (fun p4 (p5:aK G K (box J 29 d::box b7 29 b0::L) p4)=>(aF (v:=i64 1) (aG ?_))))))
  have p6:=aK.nil (α:=bH) p5 9 K
  have i2:=aK.nil (α:=Edge) p6 63 K
  obtain rfl:=zI a
  exact bF (aR (aFl Tryz.results9 (kQ (vs:=d) rfl eC i2 (i:=2) rfl rfl rfl) (aHL rfl rfl) ⟨none,0,none,0,rfl,(aK.arr 4 [1,0] i2 rfl)⟩))
 ·refine aJ g9 rfl (aY (aA (aN (cN (fun f w=>∃ (g:Int) (h:Int) (b:List bH) (c:List Edge) (b3:Nat) (k:Option Addr) (l:Nat) (m:Option Addr) (n:Nat),lA g h b c=some R∧f 2=zP (some ⟨J,0,none⟩)∧f 4=zP (some ⟨b3,0,none⟩)∧aK G K (aV 63 K m n c::aV 9 K k l b::box b3 29 [i64 g,i64 h,zS k b.length l,zS m c.length n]::box J 29 d::L) w) ?_ ?_))))
  ·rintro f w34 ⟨g,h,b,c,b3,k,l,m,n,a,f8,i3,p8⟩
   unfold lA at a
   refine aA (aN (cN (fun f w=>∃ (a3:Int) (a5:Int) (Z:List bH) (a0:List Edge) (f9:Nat) (a6:Option Addr) (a7:Nat) (a8:Option Addr) (a9:Nat),jG a3 a5 Z a0=some R∧f 2=zP (some ⟨J,0,none⟩)∧f 5=zP (some ⟨f9,0,none⟩)∧aK G K (aV 63 K a8 a9 a0::aV 9 K a6 a7 Z::box f9 29 [i64 a3,i64 a5,zS a6 Z.length a7,zS a8 a0.length a9]::box J 29 d::L) w) ?_ ?_))
   ·rintro f w47 ⟨a3,a5,Z,a0,f9,a6,a7,a8,a9,a,i4,i5,p9⟩
    unfold jG at a
    refine aA (aN ?_)
    obtain ⟨q0,i6,i7,i8,q1⟩:=aK.lendB (i:=2) p9 rfl
    refine iB (C:=fun w'=>∃ L',aK G q0 L' w') [(0,0),(1,1),(2,1),(3,2),(4,2),(5,2)] bU (by kernel_rfl) (fun _ hg=>⟨_,aK.mono i8 hg⟩) (fun w54 q2=>?_)
    have c4:=aK.mono i8 q2
    refine bX rfl (fun _ ⟨_,c4⟩=>gG (t:=0) (vs:=[i64 a3,i64 a5,zS a6 Z.length a7,zS a8 a0.length a9]) eC c4 i7 i5 rfl rfl) (nD rfl (aC (gG (t:=0) (vs:=[i64 a3,i64 a5,zS a6 Z.length a7,zS a8 a0.length a9]) eC c4 i7 i5 rfl rfl) (bK (aA ⟨⟨_,c4⟩,?_⟩))))
    refine nD rfl ?_
    obtain ⟨K58,q3,q4,q5,q6⟩:=aK.lendS (i:=1) c4 i6 rfl
    obtain ⟨K63,q7,q8,q9,r0⟩:=aK.lendS (i:=0) q5 (zL i6 q3) rfl
    obtain ⟨i9,r1,a⟩:=aB a
    refine aU (vs:=[zA #[i64 a3,i64 a5,zS a6 Z.length a7,zS a8 a0.length a9]]) Tryz.call33 rfl (qV (t:=⟨a3,a5,Z,a0⟩) q9 (q4.mono q7) q8 r1) ?_
    rintro _ w72 ⟨j0,j1,rfl,r2⟩
    have r3:=r0 _ _ r2
    have j2:=q6 _ _ r3
    refine bK (aA ⟨⟨_,j2⟩,?_⟩)
    have r4:=q1 _ _ j2
    refine WE_s rfl ?_
    obtain ⟨K77,j3,r5,r6,r7⟩:=aK.lendS (i:=1) r4 (zR _) rfl
    obtain ⟨K82,j4,r8,r9,s0⟩:=aK.lendS (i:=1) r6 j3 rfl
    obtain ⟨K87,j5,s1,s2,s3⟩:=aK.lendS (i:=1) r9 (zL j3 j4) rfl
    obtain ⟨o,s4,a⟩:=aB a
    refine aU (vs:=[zA #[i64 a3,i64 a5,zS a6 Z.length a7,zS a8 a0.length a9],zS j0 i9.length j1]) Tryz.call32 rfl (tI (t:=⟨a3,a5,Z,a0⟩) s2 (r5.mono (zL j4 j5)) (r8.mono j5) s1 s4) ?_
    rintro _ w98 ⟨b6,b8,b9,c0,rfl,s5⟩
    have s6:=s3 _ _ s5
    have s7:=s0 _ _ s6
    have s8:=r7 _ _ s7
    refine aG (WE_s rfl (cD (i:=6) (ns:=(zC o b6 b8 b9 c0)) (us:=(zC o b6 b8 b9 c0)) Tryz.sizeOf29 s8 rfl i4 rfl rfl rfl (dK rfl) rfl rfl (fun s9 (j6:aK G K (aV 9 K a6 a7 Z::aV 63 K a8 a9 a0::aV 2 K j0 j1 i9::aV 9 K b6 b8 o.L::aV 63 K b9 c0 o.E::box f9 29 [i64 a3,i64 a5,zS a6 Z.length a7,zS a8 a0.length a9]::box J 29 (zC o b6 b8 b9 c0)::L) s9)=>(aG (WE_s rfl (aF (v:=i64 0) (aG (mP (aA ?_)))))))))
    obtain rfl:=zI a
    exact bF (aFl Tryz.results9 (kQ (vs:=(zC o b6 b8 b9 c0)) rfl eC j6 (i:=6) rfl i4 rfl) (aHL rfl rfl) ⟨b6,b8,b9,c0,rfl,(aK.arr 7 [3,4] j6 rfl)⟩)
   obtain ⟨t1,e,j7,t2,g0⟩:=aK.lendB (i:=2) p8 rfl
   refine aCt (C:=fun w'=>∃ L',aK G t1 L' w') [6] bU (by kernel_rfl) (fun b02 t3=>?_)
   have b1:=aK.mono t2 t3
   refine xR (i:=0) rfl (by kernel_rfl) ⟨_,b1⟩ (fun _ ⟨_,b1⟩=>gG (t:=0) (vs:=[i64 g,i64 h,zS k b.length l,zS m c.length n]) eC b1 j7 i3 rfl rfl) (xR (i:=1) rfl (by kernel_rfl) ⟨_,b1⟩ (fun _ ⟨_,b1⟩=>gG (t:=0) (vs:=[i64 g,i64 h,zS k b.length l,zS m c.length n]) eC b1 j7 i3 rfl rfl) (yF (i:=2) (j:=5) (by kernel_rfl) rfl rfl ?_ ?_))
   ·obtain ⟨b03,t4,t5,t6,t7⟩:=aK.lendS (i:=1) b1 e rfl
    obtain ⟨b04,t8,t9,u0,u1⟩:=aK.lendS (i:=0) t6 (zL e t4) rfl
    obtain ⟨c6,u2,a⟩:=aB a
    refine aU (vs:=[zA #[i64 g,i64 h,zS k b.length l,zS m c.length n]]) Tryz.call35 rfl (pH (t:=⟨g,h,b,c⟩) u0 (t5.mono t8) t9 u2) ?_
    rintro _ b05 ⟨c7,c8,rfl,u3⟩
    have u4:=u1 _ _ u3
    have h0:=t7 _ _ u4
    refine bK (aA ⟨fun _=>⟨_,h0⟩,?_⟩)
    refine yF (i:=3) (j:=5) (by kernel_rfl) rfl rfl ?_ ?_
    ·obtain ⟨b06,j8,u5,u6,u7⟩:=aK.lendS (i:=0) h0 e rfl
     obtain ⟨b07,j9,u8,u9,v0⟩:=aK.lendS (i:=0) u6 (zL e j8) rfl
     obtain ⟨b08,k0,v1,v2,v3⟩:=aK.lendS (i:=0) u9 (zL (zL e j8) j9) rfl
     obtain ⟨a2,v4,a⟩:=aB a
     refine aU (vs:=[zA #[i64 g,i64 h,zS k b.length l,zS m c.length n],zS c7 c6.length c8,Value.func (.func 36) #[] #[]]) Tryz.call34 rfl (rV (t:=⟨g,h,b,c⟩) v2 (u5.mono (zL j9 k0)) (u8.mono k0) v1 v4) ?_
     rintro _ b09 ⟨g1,g2,g3,g4,rfl,v5⟩
     have v6:=v3 _ _ v5
     have v7:=v0 _ _ v6
     have h1:=u7 _ _ v7
     refine bK (aA ⟨fun _=>⟨_,h1⟩,?_⟩)
     refine yF (i:=4) (j:=5) (by kernel_rfl) rfl rfl ?_ ?_
     ·obtain ⟨b11,v8,v9,w0,w1⟩:=aK.lendS (i:=3) h1 e rfl
      obtain ⟨b12,w2,w3,w4,w5⟩:=aK.lendS (i:=3) w0 (zL e v8) rfl
      obtain ⟨p,w6,a⟩:=aB a
      refine aU (vs:=[zA (zCa a2 g1 g2 g3 g4)]) Tryz.call37 rfl (jU w4 (v9.mono w2) w3 w6) ?_
      rintro _ b13 ⟨c9,d0,d1,d2,rfl,w7⟩
      have w9:=w5 _ _ w7
      have k1:=w1 _ _ w9
      refine bK (aA ⟨fun _=>⟨_,k1⟩,?_⟩)
      refine fW (i:=5) (by kernel_rfl) rfl (bW (vs:=d) Tryz.zeroValue29 k1 rfl (fun k2 b14 k3=>(bK (aA ⟨fun _=>⟨_,k3⟩,?_⟩))))
      refine fW (i:=6) (by kernel_rfl) rfl ?_
      have x0:=g0 _ _ k3
      refine cD (i:=1) (ns:=(zC p c9 d0 d1 d2)) (us:=(zC p c9 d0 d1 d2)) Tryz.sizeOf29 x0 rfl rfl rfl rfl rfl (dK rfl) rfl rfl (fun x1 (x2:aK G K (box b3 29 [i64 g,i64 h,zS k b.length l,zS m c.length n]::box k2 29 (zC p c9 d0 d1 d2)::aV 9 K g1 g2 a2.L::aV 63 K g3 g4 a2.E::aV 9 K c9 d0 p.L::aV 63 K d1 d2 p.E::aV 9 K k l b::aV 63 K m n c::aV 2 K c7 c8 c6::box J 29 d::L) x1)=>(bK (aA ⟨aEe rfl,?_⟩)))
      exact rB (by kernel_rfl) (aA ⟨p.N,p.I,p.L,p.E,k2,c9,d0,d1,d2,a,f8,rfl,(aK.arr 9 [5,4,1] x2 rfl)⟩)
     ·refine bW (vs:=d) Tryz.zeroValue29 h1 rfl (fun k4 b15 k5=>(bK (aA ⟨fun _=>⟨_,k5⟩,?_⟩)))
      refine fW (i:=4) (by kernel_rfl) rfl ?_
      obtain ⟨b16,x3,x4,x5,x6⟩:=aK.lendS (i:=4) k5 e rfl
      obtain ⟨b17,x7,x8,x9,y0⟩:=aK.lendS (i:=4) x5 (zL e x3) rfl
      obtain ⟨q,y1,a⟩:=aB a
      refine aU (vs:=[zA (zCa a2 g1 g2 g3 g4)]) Tryz.call37 rfl (jU x9 (x4.mono x7) x8 y1) ?_
      rintro _ b18 ⟨d3,d4,d5,d6,rfl,y2⟩
      have y3:=y0 _ _ y2
      have k6:=x6 _ _ y3
      refine bK (aA ⟨fun _=>⟨_,k6⟩,?_⟩)
      refine fW (i:=6) (by kernel_rfl) rfl ?_
      have y4:=g0 _ _ k6
      refine cD (i:=5) (ns:=(zC q d3 d4 d5 d6)) (us:=(zC q d3 d4 d5 d6)) Tryz.sizeOf29 y4 rfl rfl rfl rfl rfl (dK rfl) rfl rfl (fun y5 (y6:aK G K (box b3 29 [i64 g,i64 h,zS k b.length l,zS m c.length n]::aV 9 K g1 g2 a2.L::aV 63 K g3 g4 a2.E::aV 9 K d3 d4 q.L::aV 63 K d5 d6 q.E::box k4 29 (zC q d3 d4 d5 d6)::aV 9 K k l b::aV 63 K m n c::aV 2 K c7 c8 c6::box J 29 d::L) y5)=>(bK (aA ⟨aEe rfl,?_⟩)))
      exact rB (by kernel_rfl) (aA ⟨q.N,q.I,q.L,q.E,k4,d3,d4,d5,d6,a,f8,rfl,(aK.arr 9 [4,3,5] y6 rfl)⟩)
    ·refine bW (vs:=d) Tryz.zeroValue29 h0 rfl (fun k7 b19 k8=>(bK (aA ⟨fun _=>⟨_,k8⟩,?_⟩)))
     refine fW (i:=3) (by kernel_rfl) rfl ?_
     obtain ⟨b20,k9,y7,y8,y9⟩:=aK.lendS (i:=1) k8 e rfl
     obtain ⟨b21,l0,z0,z1,z2⟩:=aK.lendS (i:=1) y8 (zL e k9) rfl
     obtain ⟨b22,l1,z3,z4,z5⟩:=aK.lendS (i:=1) z1 (zL (zL e k9) l0) rfl
     obtain ⟨c1,z6,a⟩:=aB a
     refine aU (vs:=[zA #[i64 g,i64 h,zS k b.length l,zS m c.length n],zS c7 c6.length c8,Value.func (.func 36) #[] #[]]) Tryz.call34 rfl (rV (t:=⟨g,h,b,c⟩) z4 (y7.mono (zL l0 l1)) (z0.mono l1) z3 z6) ?_
     rintro _ b24 ⟨l2,l3,l4,l5,rfl,z7⟩
     have z8:=z5 _ _ z7
     have z9:=z2 _ _ z8
     have l6:=y9 _ _ z9
     refine bK (aA ⟨fun _=>⟨_,l6⟩,?_⟩)
     refine fW (i:=4) (by kernel_rfl) rfl ?_
     obtain ⟨b25,a00,a01,a02,a03⟩:=aK.lendS (i:=3) l6 e rfl
     obtain ⟨b26,a04,a05,a06,a07⟩:=aK.lendS (i:=3) a02 (zL e a00) rfl
     obtain ⟨r,a08,a⟩:=aB a
     refine aU (vs:=[zA (zCa c1 l2 l3 l4 l5)]) Tryz.call37 rfl (jU a06 (a01.mono a04) a05 a08) ?_
     rintro _ b27 ⟨d7,d8,d9,e0,rfl,a09⟩
     have a10:=a07 _ _ a09
     have l7:=a03 _ _ a10
     refine bK (aA ⟨fun _=>⟨_,l7⟩,?_⟩)
     refine fW (i:=6) (by kernel_rfl) rfl ?_
     have a11:=g0 _ _ l7
     refine cD (i:=8) (ns:=(zC r d7 d8 d9 e0)) (us:=(zC r d7 d8 d9 e0)) Tryz.sizeOf29 a11 rfl rfl rfl rfl rfl (dK rfl) rfl rfl (fun a12 (a13:aK G K (box b3 29 [i64 g,i64 h,zS k b.length l,zS m c.length n]::aV 9 K l2 l3 c1.L::aV 63 K l4 l5 c1.E::aV 9 K d7 d8 r.L::aV 63 K d9 e0 r.E::aV 9 K k l b::aV 63 K m n c::aV 2 K c7 c8 c6::box k7 29 (zC r d7 d8 d9 e0)::box J 29 d::L) a12)=>(bK (aA ⟨aEe rfl,?_⟩)))
     exact rB (by kernel_rfl) (aA ⟨r.N,r.I,r.L,r.E,k7,d7,d8,d9,e0,a,f8,rfl,(aK.arr 8 [4,3] a13 rfl)⟩)
   ·refine bW (vs:=d) Tryz.zeroValue29 b1 rfl (fun l8 b28 l9=>(bK (aA ⟨fun _=>⟨_,l9⟩,?_⟩)))
    refine fW (i:=2) (by kernel_rfl) rfl ?_
    obtain ⟨b29,a14,a15,a16,a17⟩:=aK.lendS (i:=2) l9 e rfl
    obtain ⟨b30,a18,a19,a20,a21⟩:=aK.lendS (i:=1) a16 (zL e a14) rfl
    obtain ⟨m0,a22,a⟩:=aB a
    refine aU (vs:=[zA #[i64 g,i64 h,zS k b.length l,zS m c.length n]]) Tryz.call35 rfl (pH (t:=⟨g,h,b,c⟩) a20 (a15.mono a18) a19 a22) ?_
    rintro _ b31 ⟨m1,m2,rfl,a23⟩
    have a24:=a21 _ _ a23
    have m3:=a17 _ _ a24
    refine bK (aA ⟨fun _=>⟨_,m3⟩,?_⟩)
    refine fW (i:=3) (by kernel_rfl) rfl ?_
    obtain ⟨b32,m4,a25,a26,a28⟩:=aK.lendS (i:=0) m3 e rfl
    obtain ⟨b33,m5,a29,a31,a32⟩:=aK.lendS (i:=0) a26 (zL e m4) rfl
    obtain ⟨b34,m6,a33,a34,a35⟩:=aK.lendS (i:=0) a31 (zL (zL e m4) m5) rfl
    obtain ⟨c3,a36,a⟩:=aB a
    refine aU (vs:=[zA #[i64 g,i64 h,zS k b.length l,zS m c.length n],zS m1 m0.length m2,Value.func (.func 36) #[] #[]]) Tryz.call34 rfl (rV (t:=⟨g,h,b,c⟩) a34 (a25.mono (zL m5 m6)) (a29.mono m6) a33 a36) ?_
    rintro _ b35 ⟨m7,m8,m9,n0,rfl,a37⟩
    have a38:=a35 _ _ a37
    have a39:=a32 _ _ a38
    have n1:=a28 _ _ a39
    refine bK (aA ⟨fun _=>⟨_,n1⟩,?_⟩)
    refine fW (i:=4) (by kernel_rfl) rfl ?_
    obtain ⟨b37,a41,a42,a44,a45⟩:=aK.lendS (i:=3) n1 e rfl
    obtain ⟨b38,a46,a47,a48,a49⟩:=aK.lendS (i:=3) a44 (zL e a41) rfl
    obtain ⟨u,a50,a⟩:=aB a
    refine aU (vs:=[zA (zCa c3 m7 m8 m9 n0)]) Tryz.call37 rfl (jU a48 (a42.mono a46) a47 a50) ?_
    rintro _ b39 ⟨e1,e2,e3,e4,rfl,a51⟩
    have a52:=a49 _ _ a51
    have n2:=a45 _ _ a52
    refine bK (aA ⟨fun _=>⟨_,n2⟩,?_⟩)
    refine fW (i:=6) (by kernel_rfl) rfl ?_
    have a53:=g0 _ _ n2
    refine cD (i:=8) (ns:=(zC u e1 e2 e3 e4)) (us:=(zC u e1 e2 e3 e4)) Tryz.sizeOf29 a53 rfl rfl rfl rfl rfl (dK rfl) rfl rfl (fun a54 (a55:aK G K (box b3 29 [i64 g,i64 h,zS k b.length l,zS m c.length n]::aV 9 K m7 m8 c3.L::aV 63 K m9 n0 c3.E::aV 9 K e1 e2 u.L::aV 63 K e3 e4 u.E::aV 9 K k l b::aV 63 K m n c::aV 2 K m1 m2 m0::box l8 29 (zC u e1 e2 e3 e4)::box J 29 d::L) a54)=>(bK (aA ⟨aEe rfl,?_⟩)))
    exact rB (by kernel_rfl) (aA ⟨u.N,u.I,u.L,u.E,l8,e1,e2,e3,e4,a,f8,rfl,(aK.arr 8 [4,3] a55 rfl)⟩)
  obtain ⟨a56,V,n3,a57,h2⟩:=aK.lendB (i:=1) i1 rfl
  refine aCt (C:=fun w'=>∃ L',aK G a56 L' w') [5] bU (by kernel_rfl) (fun b40 a58=>?_)
  have b2:=aK.mono a57 a58
  refine xR (i:=0) rfl (by kernel_rfl) ⟨_,b2⟩ (fun _ ⟨_,b2⟩=>gG (t:=0) (vs:=b0) eC b2 n3 rfl rfl rfl) (xR (i:=1) rfl (by kernel_rfl) ⟨_,b2⟩ (fun _ ⟨_,b2⟩=>gG (t:=0) (vs:=b0) eC b2 n3 rfl rfl rfl) (yF (i:=2) (j:=4) (by kernel_rfl) rfl rfl ?_ ?_))
  ·obtain ⟨g5,a59,a⟩:=aB a
   refine aU (vs:=g8) Tryz.call33 rfl (qV b2 (h3.mono V) (h6.mono V) a59) ?_
   rintro _ b41 ⟨g6,g7,rfl,h4⟩
   refine bK (aA ⟨fun _=>⟨_,h4⟩,?_⟩)
   refine yF (i:=3) (j:=4) (by kernel_rfl) rfl rfl ?_ ?_
   ·obtain ⟨b42,n4,a60,a61,a62⟩:=aK.lendS (i:=0) h4 V rfl
    obtain ⟨x,a63,a⟩:=aB a
    refine aU (vs:=[zA (zCa t a1 c2 a4 c5),zS g6 g5.length g7]) Tryz.call32 rfl (tI a61 (h3.mono (zL V n4)) (h6.mono (zL V n4)) a60 a63) ?_
    rintro _ b43 ⟨e5,e6,e7,e8,rfl,a64⟩
    have n5:=a62 _ _ a64
    refine bK (aA ⟨fun _=>⟨_,n5⟩,?_⟩)
    refine fW (i:=4) (by kernel_rfl) rfl (bW (vs:=d) Tryz.zeroValue29 n5 rfl (fun n6 b44 n7=>(bK (aA ⟨fun _=>⟨_,n7⟩,?_⟩))))
    refine fW (i:=5) (by kernel_rfl) rfl ?_
    have a65:=h2 _ _ n7
    refine cD (i:=1) (ns:=(zC x e5 e6 e7 e8)) (us:=(zC x e5 e6 e7 e8)) Tryz.sizeOf29 a65 rfl rfl rfl rfl rfl (dK rfl) rfl rfl (fun a66 (a67:aK G K (box b7 29 b0::box n6 29 (zC x e5 e6 e7 e8)::aV 2 K g6 g7 g5::aV 9 K e5 e6 x.L::aV 63 K e7 e8 x.E::box J 29 d::L) a66)=>(bK (aA ⟨aEe rfl,?_⟩)))
    exact rB (by kernel_rfl) (aA ⟨x.N,x.I,x.L,x.E,n6,e5,e6,e7,e8,a,rfl,rfl,(aK.arr 5 [4,3,1] a67 rfl)⟩)
   ·refine bW (vs:=d) Tryz.zeroValue29 h4 rfl (fun n8 b45 n9=>(bK (aA ⟨fun _=>⟨_,n9⟩,?_⟩)))
    refine fW (i:=3) (by kernel_rfl) rfl ?_
    obtain ⟨b46,o0,a68,a69,a71⟩:=aK.lendS (i:=1) n9 V rfl
    obtain ⟨y,a72,a⟩:=aB a
    refine aU (vs:=[zA (zCa t a1 c2 a4 c5),zS g6 g5.length g7]) Tryz.call32 rfl (tI a69 (h3.mono (zL V o0)) (h6.mono (zL V o0)) a68 a72) ?_
    rintro _ b47 ⟨e9,f0,f1,f2,rfl,a73⟩
    have o1:=a71 _ _ a73
    refine bK (aA ⟨fun _=>⟨_,o1⟩,?_⟩)
    refine fW (i:=5) (by kernel_rfl) rfl ?_
    have a74:=h2 _ _ o1
    refine cD (i:=4) (ns:=(zC y e9 f0 f1 f2)) (us:=(zC y e9 f0 f1 f2)) Tryz.sizeOf29 a74 rfl rfl rfl rfl rfl (dK rfl) rfl rfl (fun a75 (a76:aK G K (box b7 29 b0::aV 2 K g6 g7 g5::aV 9 K e9 f0 y.L::aV 63 K f1 f2 y.E::box n8 29 (zC y e9 f0 f1 f2)::box J 29 d::L) a75)=>(bK (aA ⟨aEe rfl,?_⟩)))
    exact rB (by kernel_rfl) (aA ⟨y.N,y.I,y.L,y.E,n8,e9,f0,f1,f2,a,rfl,rfl,(aK.arr 4 [3,2] a76 rfl)⟩)
  ·refine bW (vs:=d) Tryz.zeroValue29 b2 rfl (fun o2 b48 o3=>(bK (aA ⟨fun _=>⟨_,o3⟩,?_⟩)))
   refine fW (i:=2) (by kernel_rfl) rfl ?_
   obtain ⟨o4,a77,a⟩:=aB a
   refine aU (vs:=g8) Tryz.call33 rfl (qV o3 (h3.mono V) (h6.mono V) a77) ?_
   rintro _ b49 ⟨o5,o6,rfl,o7⟩
   refine bK (aA ⟨fun _=>⟨_,o7⟩,?_⟩)
   refine fW (i:=3) (by kernel_rfl) rfl ?_
   obtain ⟨b50,o8,a78,a79,a80⟩:=aK.lendS (i:=0) o7 V rfl
   obtain ⟨z,a81,a⟩:=aB a
   refine aU (vs:=[zA (zCa t a1 c2 a4 c5),zS o5 o4.length o6]) Tryz.call32 rfl (tI a79 (h3.mono (zL V o8)) (h6.mono (zL V o8)) a78 a81) ?_
   rintro _ b51 ⟨f3,f4,f5,f6,rfl,a82⟩
   have o9:=a80 _ _ a82
   refine bK (aA ⟨fun _=>⟨_,o9⟩,?_⟩)
   refine fW (i:=5) (by kernel_rfl) rfl ?_
   have a83:=h2 _ _ o9
   refine cD (i:=4) (ns:=(zC z f3 f4 f5 f6)) (us:=(zC z f3 f4 f5 f6)) Tryz.sizeOf29 a83 rfl rfl rfl rfl rfl (dK rfl) rfl rfl (fun a84 (a85:aK G K (box b7 29 b0::aV 2 K o5 o6 o4::aV 9 K f3 f4 z.L::aV 63 K f5 f6 z.E::box o2 29 (zC z f3 f4 f5 f6)::box J 29 d::L) a84)=>(bK (aA ⟨aEe rfl,?_⟩)))
   exact rB (by kernel_rfl) (aA ⟨z.N,z.I,z.L,z.E,o2,f3,f4,f5,f6,a,rfl,rfl,(aK.arr 4 [3,2] a85 rfl)⟩)
theorem aEv {a b:(List bH)} {R:Bool} (m:aK G K (L) w) (n:cL K a1 c2 a) (o:cL K a4 c5 b) (c:xL a b=some R):
  Calls Tryz.prog 38 ([zS a1 a.length c2,zS a4 b.length c5]:List Value).toArray w (gO fun v w'=>v=zB R∧aK G K (L) w'):=by
 refine aS Tryz.func38 rfl (by kernel_rfl) (by show (2:Nat)≤26;decide) ?_
 unfold xL at c
 refine aI (aF (v:=zB false) (aG (aN (aI (aM (v:=zS a1 a.length c2) (aC (bT (len:=a.length) cO rfl) (aM (v:=zS a4 b.length c5) (aC (bT (len:=b.length) cO rfl) (aC (oC rfl rfl) (aG ?_))))))))))
 rcases aH c with ⟨i,c⟩|⟨i,c⟩
 ·refine aL i rfl (aI (aF (v:=zB false) (aG ?_)))
  obtain rfl:=zI c
  exact bF (aR (bB Tryz.results38 rfl ⟨rfl,m⟩))
 ·refine aJ i rfl (aY (aA (aN (aI (aF (v:=i64 0) (aG (bC (fun f w=>vH=some R∧aK G K (L) w) ?_ ?_)))))))
  ·rintro f w9 ⟨c,z⟩
   unfold vH at c
   refine aA (aI (aF (v:=zB true) (aG ?_)))
   obtain rfl:=zI c
   exact bF (bB Tryz.results38 rfl ⟨rfl,z⟩)
  obtain ⟨b0,V,c⟩:=aB c
  refine cA V (fun (g:Int) f w=>f 0=zS a1 a.length c2∧f 1=zS a4 b.length c5∧f 5=i64 g∧aK G K (L) w) ?_ ?_
  ·exact ⟨rfl,rfl,rfl,m⟩
  ·rintro g Z f b1 d p ⟨j,q,h,e⟩
   replace d:nU a b g=some Z:=d
   unfold nU at d
   refine aN (aI (aO h (aO j (aC (bT (len:=a.length) cO rfl) (aC (cJ rfl rfl) (aG ?_))))))
   rcases aH d with ⟨k,d⟩|⟨k,d⟩
   ·refine aL k rfl (aY (aA (aN (cP (aN (eK (C:=fun w'=>aK G K (L) w') bU (by kernel_rfl) (aK.mono e (dQ.drew _)) (aX (fun _ e=>bD j) (aX (fun _ e=>bD h) ?_))))))))
    obtain ⟨b2,r,d⟩:=aB d
    refine aX (fun _ e=>cT cO rfl n rfl rfl rfl r) ?_
    obtain ⟨b3,a0,a2⟩:=cL.el (sz:=1) rfl n r
    cases a2
    refine aX (fun _ e=>bJ (t:=0) pU e a0 rfl rfl) (aX (fun _ e=>bD q) (aX (fun _ e=>bD h) ?_))
    obtain ⟨b4,u,d⟩:=aB d
    refine aX (fun _ e=>cT cO rfl o rfl rfl rfl u) ?_
    obtain ⟨b5,a3,a5⟩:=cL.el (sz:=1) rfl o u
    cases a5
    refine aX (fun _ e=>bJ (t:=0) pU e a3 rfl rfl) (aX (fun _ e=>aAG rfl rfl) (eG (fun b6 x=>(aA ?_))))
    rcases aH d with ⟨l,d⟩|⟨l,d⟩
    ·refine aL l rfl (aI (aF (v:=zB false) (aG (bF (bQ (aR (aR ?_)))))))
     have a6:=p _ (zI d).symm
     subst a6
     have c:(some false)=some R:=c
     obtain rfl:=zI c
     exact bQ (aR (aR (bB Tryz.results38 rfl ⟨rfl,x⟩)))
    ·exact aJ l rfl (aY (bE (aA (aP (aO h (aC (cM rfl rfl) (aF (v:=i64 (wr (g+1))) (aG ⟨wr (g+1),(zI d).symm,j,q,rfl,x⟩))))))))
   ·refine aJ k rfl (bZ (aW (aW ?_)))
    have a8:=p _ (zI d).symm
    subst a8
    have c:(vH)=some R:=c
    exact bO (aA ⟨c,e⟩)
theorem aGQ {a b:Edge} {R:Bool} (j:aK G K (L) w) (c:aCi a b=some R):
  Calls Tryz.prog 98 ([zA #[i64 a.F,i64 a.B,i64 a.To],zA #[i64 b.F,i64 b.B,i64 b.To]]:List Value).toArray w (gO fun v w'=>v=zB R∧aK G K (L) w'):=by
 refine aS Tryz.func98 rfl (by kernel_rfl) (by show (2:Nat)≤20;decide) ?_
 unfold aCi at c
 refine aI (eE (v:=zA #[i64 a.F,i64 a.B,i64 a.To]) (vs:=[i64 a.F,i64 a.B,i64 a.To]) j rfl rfl (fun p q k=>(eE (v:=zA #[i64 b.F,i64 b.B,i64 b.To]) (vs:=[i64 b.F,i64 b.B,i64 b.To]) k rfl rfl (fun r t d=>(aF (v:=zB false) (aG (aN (aI (aC (bG (t':=0) fJ rfl rfl) (aC (cF cE d (i:=1) rfl rfl rfl) (aC (bG (t':=0) fJ rfl rfl) (aC (cF cE d (i:=0) rfl rfl rfl) (aC (oC rfl rfl) (aG ?_))))))))))))))
 rcases aH c with ⟨e,c⟩|⟨e,c⟩
 ·refine aL e rfl (aI (aF (v:=zB false) (aG ?_)))
  obtain rfl:=zI c
  exact bF (aR (bB Tryz.results98 rfl ⟨rfl,(aK.arr 2 [] d rfl)⟩))
 ·refine aJ e rfl (aY (aA (aN (aI (aC (bG (t':=1) gB rfl rfl) (aC (cF cE d (i:=1) rfl rfl rfl) (aC (bG (t':=1) gB rfl rfl) (aC (cF cE d (i:=0) rfl rfl rfl) (aC (oC rfl rfl) (aG ?_))))))))))
  rcases aH c with ⟨g,c⟩|⟨g,c⟩
  ·refine aL g rfl (aI (aF (v:=zB false) (aG ?_)))
   obtain rfl:=zI c
   exact bF (aR (bB Tryz.results98 rfl ⟨rfl,(aK.arr 2 [] d rfl)⟩))
  ·refine aJ g rfl (aY (aA (aN (aI (aC (bG (t':=2) eM rfl rfl) (aC (cF cE d (i:=1) rfl rfl rfl) (aC (bG (t':=2) eM rfl rfl) (aC (cF cE d (i:=0) rfl rfl rfl) (aC (oC rfl rfl) (aG ?_))))))))))
   rcases aH c with ⟨h,c⟩|⟨h,c⟩
   ·refine aL h rfl (aI (aF (v:=zB false) (aG ?_)))
    obtain rfl:=zI c
    exact bF (aR (bB Tryz.results98 rfl ⟨rfl,(aK.arr 2 [] d rfl)⟩))
   ·refine aJ h rfl (aY (aA (aI (aF (v:=zB true) (aG ?_)))))
    obtain rfl:=zI c
    exact bF (bB Tryz.results98 rfl ⟨rfl,(aK.arr 2 [] d rfl)⟩)
theorem aFW {a b:(List Edge)} {R:Bool} (o:aK G K (L) w) (p:cL K a1 c2 a) (q:cL K a4 c5 b) (d:aBf a b=some R):
  Calls Tryz.prog 39 ([zS a1 a.length c2,zS a4 b.length c5]:List Value).toArray w (gO fun v w'=>v=zB R∧aK G K (L) w'):=by
 refine aS Tryz.func39 rfl (by kernel_rfl) (by show (2:Nat)≤27;decide) ?_
 unfold aBf at d
 refine aI (aF (v:=zB false) (aG (aN (aI (aM (v:=zS a1 a.length c2) (aC (bT (len:=a.length) bY rfl) (aM (v:=zS a4 b.length c5) (aC (bT (len:=b.length) bY rfl) (aC (oC rfl rfl) (aG ?_))))))))))
 rcases aH d with ⟨k,d⟩|⟨k,d⟩
 ·refine aL k rfl (aI (aF (v:=zB false) (aG ?_)))
  obtain rfl:=zI d
  exact bF (aR (bB Tryz.results39 rfl ⟨rfl,o⟩))
 ·refine aJ k rfl (aY (aA (aN (aI (aF (v:=i64 0) (aG (bC (fun f w=>yR=some R∧aK G K (L) w) ?_ ?_)))))))
  ·rintro f w9 ⟨d,V⟩
   unfold yR at d
   refine aA (aI (aF (v:=zB true) (aG ?_)))
   obtain rfl:=zI d
   exact bF (bB Tryz.results39 rfl ⟨rfl,V⟩)
  obtain ⟨b4,a0,d⟩:=aB d
  refine cA a0 (fun (i:Int) f w=>f 0=zS a1 a.length c2∧f 1=zS a4 b.length c5∧f 5=i64 i∧aK G K (L) w) ?_ ?_
  ·exact ⟨rfl,rfl,rfl,o⟩
  ·rintro i a2 f b5 c r ⟨l,u,j,e⟩
   replace c:rM a b i=some a2:=c
   unfold rM at c
   refine aN (aI (aO j (aO l (aC (bT (len:=a.length) bY rfl) (aC (cJ rfl rfl) (aG ?_))))))
   rcases aH c with ⟨m,c⟩|⟨m,c⟩
   ·refine aL m rfl (aY (aA (aN (cP (aN (eK (C:=fun w'=>aK G K (L) w') bU (by kernel_rfl) (aK.mono e (dQ.drew _)) (aX (fun _ e=>bD l) (aX (fun _ e=>bD j) ?_))))))))
    obtain ⟨g,x,c⟩:=aB c
    refine aX (fun _ e=>cT bY rfl p rfl rfl rfl x) ?_
    obtain ⟨b6,a3,a5⟩:=cL.el (sz:=3) rfl p x
    cases a5
    refine aX (fun _ e=>gG (t:=0) (vs:=[i64 g.F,i64 g.B,i64 g.To]) iJ e a3 rfl rfl rfl) (aX (fun _ e=>bD u) (aX (fun _ e=>bD j) ?_))
    obtain ⟨h,y,c⟩:=aB c
    refine aX (fun _ e=>cT bY rfl q rfl rfl rfl y) ?_
    obtain ⟨b7,a6,a7⟩:=cL.el (sz:=3) rfl q y
    cases a7
    refine aX (fun _ e=>gG (t:=0) (vs:=[i64 h.F,i64 h.B,i64 h.To]) iJ e a6 rfl rfl rfl) ?_
    obtain ⟨a8,a9,c⟩:=aB c
    refine rA (vs:=[zA #[i64 g.F,i64 g.B,i64 g.To],zA #[i64 h.F,i64 h.B,i64 h.To]]) (v:=zB a8) Tryz.call98 rfl (fun _ e=>(aGQ e a9)) (aX (fun _ e=>fH rfl) (eG (fun b8 z=>(aA ?_))))
    rcases aH c with ⟨n,c⟩|⟨n,c⟩
    ·refine aL n rfl (aI (aF (v:=zB false) (aG (bF (bQ (aR (aR ?_)))))))
     have b0:=r _ (zI c).symm
     subst b0
     have d:(some false)=some R:=d
     obtain rfl:=zI d
     exact bQ (aR (aR (bB Tryz.results39 rfl ⟨rfl,z⟩)))
    ·exact aJ n rfl (aY (bE (aA (aP (aO j (aC (cM rfl rfl) (aF (v:=i64 (wr (i+1))) (aG ⟨wr (i+1),(zI c).symm,l,u,rfl,z⟩))))))))
   ·refine aJ m rfl (bZ (aW (aW ?_)))
    have b2:=r _ (zI c).symm
    subst b2
    have d:(yR)=some R:=d
    exact bO (aA ⟨d,e⟩)
theorem yW {a b:cH} {R:Bool} (m:aK G K (L) w) (n:cL K a1 c2 a.L) (o:cL K a4 c5 a.E) (p:cL K a7 c8 b.L) (q:cL K a10 c11 b.E) (c:aAA a b=some R):
  Calls Tryz.prog 10 ([zA (zCa a a1 c2 a4 c5),zA (zCa b a7 c8 a10 c11)]:List Value).toArray w (gO fun v w'=>v=zB R∧aK G K (L) w'):=by
 refine aS Tryz.func10 rfl (by kernel_rfl) (by show (2:Nat)≤27;decide) ?_
 unfold aAA at c
 refine aI (eE (v:=zA (zCa a a1 c2 a4 c5)) (vs:=(zC a a1 c2 a4 c5)) m rfl rfl (fun Z a0 r=>(eE (v:=zA (zCa b a7 c8 a10 c11)) (vs:=(zC b a7 c8 a10 c11)) r rfl rfl (fun a2 a3 d=>(aF (v:=zB false) (aG (aN (aI (aC (bG (t':=0) iM rfl rfl) (aC (cF cE d (i:=1) rfl rfl rfl) (aC (bG (t':=0) iM rfl rfl) (aC (cF cE d (i:=0) rfl rfl rfl) (aC (oC rfl rfl) (aG ?_))))))))))))))
 rcases aH c with ⟨g,c⟩|⟨g,c⟩
 ·refine aL g rfl (aI (aF (v:=zB false) (aG ?_)))
  obtain rfl:=zI c
  exact bF (aR (bB Tryz.results10 rfl ⟨rfl,(aK.arr 2 [] d rfl)⟩))
 ·refine aJ g rfl (aY (aA (aN (aI (aC (bG (t':=1) nE rfl rfl) (aC (cF cE d (i:=1) rfl rfl rfl) (aC (bG (t':=1) nE rfl rfl) (aC (cF cE d (i:=0) rfl rfl rfl) (aC (oC rfl rfl) (aG ?_))))))))))
  rcases aH c with ⟨h,c⟩|⟨h,c⟩
  ·refine aL h rfl (aI (aF (v:=zB false) (aG ?_)))
   obtain rfl:=zI c
   exact bF (aR (bB Tryz.results10 rfl ⟨rfl,(aK.arr 2 [] d rfl)⟩))
  ·refine aJ h rfl (aY (aA (aN (aI (aC (bG (t':=2) gI rfl rfl) (aC (cF mG d (i:=1) rfl rfl rfl) (aC (bG (t':=2) gI rfl rfl) (aC (cF mG d (i:=0) rfl rfl rfl) ?_))))))))
   obtain ⟨a5,x,c⟩:=aB c
   refine aU (vs:=[zS a1 a.L.length c2,zS a7 b.L.length c8]) Tryz.call38 rfl (aEv d n p x) ?_
   rintro _ a6 ⟨rfl,e⟩
   refine aC (fH rfl) (aG ?_)
   rcases aH c with ⟨j,c⟩|⟨j,c⟩
   ·refine aL j rfl (aI (aF (v:=zB false) (aG ?_)))
    obtain rfl:=zI c
    exact bF (aR (bB Tryz.results10 rfl ⟨rfl,(aK.arr 2 [] e rfl)⟩))
   ·refine aJ j rfl (aY (aA (aN (aI (aC (bG (t':=3) cK rfl rfl) (aC (cF fS e (i:=1) rfl rfl rfl) (aC (bG (t':=3) cK rfl rfl) (aC (cF fS e (i:=0) rfl rfl rfl) ?_))))))))
    obtain ⟨a8,z,c⟩:=aB c
    refine aU (vs:=[zS a4 a.E.length c5,zS a10 b.E.length c11]) Tryz.call39 rfl (aFW e o q z) ?_
    rintro _ a9 ⟨rfl,l⟩
    refine aC (fH rfl) (aG ?_)
    rcases aH c with ⟨k,c⟩|⟨k,c⟩
    ·refine aL k rfl (aI (aF (v:=zB false) (aG ?_)))
     obtain rfl:=zI c
     exact bF (aR (bB Tryz.results10 rfl ⟨rfl,(aK.arr 2 [] l rfl)⟩))
    ·refine aJ k rfl (aY (aA (aI (aF (v:=zB true) (aG ?_)))))
     obtain rfl:=zI c
     exact bF (bB Tryz.results10 rfl ⟨rfl,(aK.arr 2 [] l rfl)⟩)
theorem aBO {k:Int} {R:bH} (m:aK G K (L) w) (a:qQ k=some R):
  Calls Tryz.prog 99 ([i64 k]:List Value).toArray w (gO fun v w'=>v=str R∧aK G K (L) w'):=by
 refine aS Tryz.func99 rfl (by kernel_rfl) (by show (1:Nat)≤20;decide) ?_
 unfold qQ at a
 refine aI (aF (v:=str ([]:bH)) (aG (aN (aI (aM (v:=i64 k) (aC (aDu rfl rfl) (aG ?_)))))))
 rcases aH a with ⟨e,a⟩|⟨e,a⟩
 ·refine aL e rfl (aI (aF (v:=str ([109,48]:bH)) (aG ?_)))
  obtain rfl:=zI a
  exact bF (aR (bB Tryz.results99 rfl ⟨rfl,m⟩))
 ·refine aJ e rfl (aY (aA (aI (aF (v:=str ([]:bH)) (aG (aN (bC (fun f w=>∃ (g:bH),sP g=some R∧f 3=str g∧aK G K (L) w) ?_ ?_)))))))
  ·rintro f w5 ⟨g,a,u,x⟩
   unfold sP at a
   refine aA (aI (aO u ?_))
   obtain ⟨y,z,a⟩:=aB a
   refine aC (R_cat rfl rfl z) (aF (v:=str y) (aG ?_))
   obtain rfl:=zI a
   exact bF (bB Tryz.results99 rfl ⟨rfl,x⟩)
  obtain ⟨a8,V,a⟩:=aB a
  refine cA V (fun (s:(Int × bH)) f w=>match s with|(h,c)=>f 0=i64 h∧f 3=str c∧aK G K (L) w) ?_ ?_
  ·exact ⟨rfl,rfl,m⟩
  ·rintro ⟨h,c⟩ Z f a9 b a0 ⟨j,n,o⟩
   replace b:sQ h c=some Z:=b
   unfold sQ at b
   refine aN (aI (aO j (aC (qC rfl rfl) (aG ?_))))
   rcases aH b with ⟨l,b⟩|⟨l,b⟩
   ·refine aL l rfl (aY (aA (cP (aI (aO j ?_)))))
    obtain ⟨d,a1,b⟩:=aB b
    refine aC (R_rem rfl rfl a1) (aC (cM rfl rfl) (aC (R_convu8' Tryz.runUnderlying5 rfl ⟨_,Tryz.runUnderlying3⟩) (dJ (Kt:=K) (xs:=([(UInt8.ofInt (wr (48+d)))]:List UInt8)) (cs:=[Value.int .u8 ((UInt8.ofInt (wr (48+d))).toNat:Int)]) (vs:=[(0,Value.int .u8 ((UInt8.ofInt (wr (48+d))).toNat:Int))]) sl_202 ez_5 rfl rfl o rfl (by kernel_rfl) rfl rfl rfl ⟨rfl,trivial⟩ ?_)))
    intro a2 a3 (p:aK G K (aV 5 K a2 1 ([(UInt8.ofInt (wr (48+d)))]:List UInt8)::L) a3)
    refine aC (R_convBSO Tryz.underlying202 Tryz.underlying5 Tryz.underlying9 p (i:=0) rfl rfl rfl) (aO n ?_)
    obtain ⟨q,a4,b⟩:=aB b
    refine aC (R_cat rfl rfl a4) (aF (v:=str q) (aG (aP (aO j ?_))))
    obtain ⟨r,a5,b⟩:=aB b
    exact aC (R_quo rfl rfl a5) (aF (v:=i64 r) (bK (bE (aA ⟨(r,q),(zI b).symm,rfl,rfl,(aK.arr 1 [] p rfl)⟩))))
   ·refine aJ l rfl (bZ (aW (aW ?_)))
    have a6:=a0 _ (zI b).symm
    subst a6
    have a:(sP c)=some R:=a
    exact bO (aA ⟨c,a,n,o⟩)
end Gv
