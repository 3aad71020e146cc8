/- Walks, printed by program. -/
import Derived.Test.YtmlgcbjkfcapaaaGreatDoorFJWk1
import Derived.Test.YtmlgcbjkfcapaaaGreatDoorFJWk4
import Derived.Test.YtmlgcbjkfcapaaaGreatDoorFJWk7
set_option linter.all false
namespace Gv
open Go.Value renaming slice→zS,bool→zB,pointer→zP,agg→zA
open Option.some renaming inj→zI
open Gv.Hp renaming le_trans→zL,le_refl→zR
open Go Go.Proofs
set_option maxRecDepth 20000
set_option maxHeartbeats 40000000
variable {G:Env} {K:Hp} {L:List oT} {w:World} {a1 a3 a4:Option Addr} {c2 c4 c5:Nat}
theorem aDj {a:(List bH)} {k:Int} {R:(Int × (List bH))} (V:aK G K (aV 9 K a1 c2 a::L) w) (c:sS a k=some R):
  Calls Tryz.prog 40 ([zS a1 a.length c2,i64 k]:List Value).toArray w (gO fun v w'=>v=i64 R.1∧a.length=R.2.length∧aK G K (aV 9 K a1 c2 R.2::L) w'):=by
 refine aS Tryz.func40 rfl (by kernel_rfl) (by show (2:Nat)≤20;decide) ?_
 unfold sS at c
 refine aI (aF (v:=i64 0) (aG (aN (aI (aF (v:=i64 0) (aG (bC (fun f w=>∃ (j:Int) (l:List bH),nV j l=some R∧f 1=i64 j∧a.length=l.length∧aK G K (aV 9 K a1 c2 l::L) w) ?_ ?_)))))))
 ·rintro f w7 ⟨j,l,c,Z,a0,a2⟩
  unfold nV at c
  refine aA (aI (aO Z (aF (v:=i64 j) (aG ?_))))
  obtain rfl:=zI c
  exact bF (bB Tryz.results40 rfl ⟨rfl,a0,a2⟩)
 obtain ⟨b4,a5,c⟩:=aB c
 refine cA a5 (fun (s:(List bH × Int × Int)) f w=>match s with|(d,e,g)=>f 0=zS a1 d.length c2∧f 1=i64 e∧f 5=i64 g∧a.length=d.length∧aK G K (aV 9 K a1 c2 d::L) w) ?_ ?_
 ·exact ⟨rfl,rfl,rfl,rfl,V⟩
 ·rintro ⟨d,e,g⟩ a6 f b5 b a7 ⟨m,o,p,u,x⟩
  replace b:nW d e g=some a6:=b
  unfold nW at b
  refine aN (aI (aO p (aO m (aC (bT (len:=d.length) cO rfl) (aC (cJ rfl rfl) (aG ?_))))))
  rcases aH b with ⟨c45,b⟩|⟨c45,b⟩
  ·refine aL c45 rfl (aY (aA (aN (cP (aI (aO m (aO p (aO o ?_))))))))
   obtain ⟨y,a8,b⟩:=aB b
   refine aU (vs:=[i64 e]) Tryz.call99 rfl (aBO x a8) ?_
   rintro _ b6 ⟨rfl,z⟩
   obtain ⟨b7,q,b⟩:=aB b
   have a9:=dM z (i:=0) rfl q
   refine aC (eB cO rfl a9 rfl rfl rfl q) ?_
   obtain ⟨J,r,b⟩:=aB b
   exact jW (i:=0) (t:=0) (ns:=[str y]) (e':=(y:bH)) Tryz.sizeOf9 z rfl (zR _) rfl rfl rfl q r rfl rfl (dK rfl) rfl (fun cs h=>by cases h;rfl) (fun b0 (b1:aK G K (aV 9 K a1 c2 J::L) b0)=>(aG (aP (aO o (aC (cM rfl rfl) (aF (v:=i64 (wr (e+1))) (bK (bE (aA (aP (aO p (aC (cM rfl rfl) (aF (v:=i64 (wr (g+1))) (aG ⟨(J,wr (e+1),wr (g+1)),(zI b).symm,(Eq.trans m (congrArg (fun n=>zS a1 n c2) (iE r))),rfl,rfl,(u.trans (iE r)),b1⟩))))))))))))))
  ·refine aJ c45 rfl (bZ (aW (aW ?_)))
   have b2:=a7 _ (zI b).symm
   subst b2
   have c:(nV e d)=some R:=c
   exact bO (aA ⟨e,d,c,o,u,x⟩)
theorem aEw {a:(List Edge)} {k:Int} {R:(Int × (List Edge))} (hs:aK G K (aV 63 K a1 c2 a::L) w) (d:xM a k=some R):
  Calls Tryz.prog 41 ([zS a1 a.length c2,i64 k]:List Value).toArray w (gO fun v w'=>v=i64 R.1∧a.length=R.2.length∧aK G K (aV 63 K a1 c2 R.2::L) w'):=by
 refine aS Tryz.func41 rfl (by kernel_rfl) (by show (2:Nat)≤34;decide) ?_
 unfold xM at d
 refine aI (aF (v:=i64 0) (aG (aN (aI (aF (v:=i64 0) (aG (bC (fun f w=>∃ (p:Int) (q:List Edge),qR p q=some R∧f 1=i64 p∧a.length=q.length∧aK G K (aV 63 K a1 c2 q::L) w) ?_ ?_)))))))
 ·rintro f w7 ⟨p,q,d,e6,b0,b1⟩
  unfold qR at d
  refine aA (aI (aO e6 (aF (v:=i64 p) (aG ?_))))
  obtain rfl:=zI d
  exact bF (bB Tryz.results41 rfl ⟨rfl,b0,b1⟩)
 obtain ⟨c5,b3,d⟩:=aB d
 refine cA b3 (fun (s:(List Edge × Int × Int)) f w=>match s with|(e,c,g)=>f 0=zS a1 e.length c2∧f 1=i64 c∧f 5=i64 g∧a.length=e.length∧aK G K (aV 63 K a1 c2 e::L) w) ?_ ?_
 ·exact ⟨rfl,rfl,rfl,rfl,hs⟩
 ·rintro ⟨e,c,g⟩ b4 f c6 b b5 ⟨l,u,m,J,x⟩
  replace b:qS e c g=some b4:=b
  unfold qS at b
  refine aN (aI (aO m (aO l (aC (bT (len:=e.length) bY rfl) (aC (cJ rfl rfl) (aG ?_))))))
  rcases aH b with ⟨c45,b⟩|⟨c45,b⟩
  ·refine aL c45 rfl (aY (aA (aN (cP (aI (aO l (aO m (aO u ?_))))))))
   obtain ⟨V,y,b⟩:=aB b
   have j:=dM x (i:=0) rfl y
   refine aC (eB bY rfl j rfl rfl rfl y) (aC (aFx (k':=g.toNat * 3+0) fJ j rfl rfl) ?_)
   obtain ⟨Z,o,b⟩:=aB b
   refine jW (i:=0) (t:=0) (ns:=[i64 c]) (e':=(⟨c,V.B,V.To⟩:Edge)) Tryz.sizeOf2 x rfl (zR _) rfl rfl rfl y o rfl rfl (dK rfl) rfl (fun cs h=>by cases h;rfl) (fun b6 (b7:aK G K (aV 63 K a1 c2 Z::L) b6)=>(aG (aI (aO u (aC (cM rfl rfl) (aF (v:=i64 (wr (c+1))) (aG (aI (aO (v:=zS a1 Z.length c2) (Eq.trans l (congrArg (fun n=>zS a1 n c2) (iE o))) (aO m (aM (v:=i64 (wr (c+1))) ?_)))))))))))
   obtain ⟨a0,a2,b⟩:=aB b
   refine aC (eB bY rfl j rfl rfl rfl a2) (aC (aFx (k':=g.toNat * 3+1) gB j rfl rfl) ?_)
   obtain ⟨a3,r,b⟩:=aB b
   refine jW (i:=0) (t:=1) (ns:=[i64 (wr (c+1))]) (e':=(⟨a0.F,wr (c+1),a0.To⟩:Edge)) Tryz.sizeOf2 b7 rfl (zR _) rfl rfl rfl a2 r rfl rfl (dK rfl) rfl (fun cs h=>by cases h;rfl) (fun b8 (b9:aK G K (aV 63 K a1 c2 a3::L) b8)=>(aG (aI (aM (v:=i64 (wr (c+1))) (aC (cM rfl rfl) (aF (v:=i64 (wr ((wr (c+1))+1))) (aG (aI (aO (v:=zS a1 a3.length c2) (Eq.trans (Eq.trans l (congrArg (fun n=>zS a1 n c2) (iE o))) (congrArg (fun n=>zS a1 n c2) (iE r))) (aO m (aM (v:=i64 (wr ((wr (c+1))+1))) ?_)))))))))))
   obtain ⟨a5,a6,b⟩:=aB b
   refine aC (eB bY rfl j rfl rfl rfl a6) (aC (aFx (k':=g.toNat * 3+2) eM j rfl rfl) ?_)
   obtain ⟨a7,z,b⟩:=aB b
   exact jW (i:=0) (t:=2) (ns:=[i64 (wr ((wr (c+1))+1))]) (e':=(⟨a5.F,a5.B,wr ((wr (c+1))+1)⟩:Edge)) Tryz.sizeOf2 b9 rfl (zR _) rfl rfl rfl a6 z rfl rfl (dK rfl) rfl (fun cs h=>by cases h;rfl) (fun c0 (c1:aK G K (aV 63 K a1 c2 a7::L) c0)=>(aG (aP (aM (v:=i64 (wr ((wr (c+1))+1))) (aC (cM rfl rfl) (aF (v:=i64 (wr ((wr ((wr (c+1))+1))+1))) (bK (bE (aA (aP (aO m (aC (cM rfl rfl) (aF (v:=i64 (wr (g+1))) (aG ⟨(a7,wr ((wr ((wr (c+1))+1))+1),wr (g+1)),(zI b).symm,(Eq.trans (Eq.trans (Eq.trans l (congrArg (fun n=>zS a1 n c2) (iE o))) (congrArg (fun n=>zS a1 n c2) (iE r))) (congrArg (fun n=>zS a1 n c2) (iE z))),rfl,rfl,(((J.trans (iE o)).trans (iE r)).trans (iE z)),c1⟩))))))))))))))
  ·refine aJ c45 rfl (bZ (aW (aW ?_)))
   have c3:=b5 _ (zI b).symm
   subst c3
   have d:(qR c e)=some R:=d
   exact bO (aA ⟨c,e,d,u,J,x⟩)
theorem aCo {d e:Int} {c:(List bH)} {a:(List Edge)} {k:Int} {R:(Int × (List bH) × (List Edge))} (r:aK G K (aV 9 K a1 c2 c::aV 63 K a3 c4 a::L) w) (g:vX d e c a k=some R):
  Calls Tryz.prog 11 ([zA #[i64 d,i64 e,zS a1 c.length c2,zS a3 a.length c4],i64 k]:List Value).toArray w (gO fun v w'=>v=i64 R.1∧c.length=R.2.1.length∧a.length=R.2.2.length∧aK G K (aV 9 K a1 c2 R.2.1::aV 63 K a3 c4 R.2.2::L) w'):=by
 let l:=[i64 d,i64 e,zS a1 c.length c2,zS a3 a.length c4]
 refine aS Tryz.func11 rfl (by kernel_rfl) (by show (2:Nat)≤14;decide) ?_
 unfold vX at g
 refine aI (eE (v:=zA #[i64 d,i64 e,zS a1 c.length c2,zS a3 a.length c4]) (vs:=l) r rfl rfl (fun j t m=>(aF (v:=i64 0) (aG (aI (aC (bG (t':=2) gI rfl rfl) (aC (cF mG m (i:=0) rfl rfl rfl) (aM (v:=i64 k) ?_))))))))
 have u:aK G K (aV 9 K a1 c2 c::box j 29 l::aV 63 K a3 c4 a::L) t:=(aK.arr 2 [1,0] m rfl)
 obtain ⟨b,x,g⟩:=aB g
 refine aU (vs:=[zS a1 c.length c2,i64 k]) Tryz.call40 rfl (aDj u x) ?_
 rintro _ n ⟨rfl,o,y⟩
 have p:aK G K (aV 9 K a1 c2 b.2::box j 29 [i64 d,i64 e,zS a1 b.2.length c2,zS a3 a.length c4]::aV 63 K a3 c4 a::L) n:=by rw [←o];exact y
 refine aF (v:=i64 b.1) (aG (aI (aC (bG (t':=3) cK rfl rfl) (aC (cF fS p (i:=1) rfl rfl rfl) (aM (v:=i64 b.1) ?_)))))
 have z:aK G K (aV 63 K a3 c4 a::aV 9 K a1 c2 b.2::box j 29 [i64 d,i64 e,zS a1 b.2.length c2,zS a3 a.length c4]::L) n:=(aK.arr 3 [2,0,1] p rfl)
 obtain ⟨h,J,g⟩:=aB g
 refine aU (vs:=[zS a3 a.length c4,i64 b.1]) Tryz.call41 rfl (aEw z J) ?_
 rintro _ V ⟨rfl,q,Z⟩
 have a0:aK G K (aV 63 K a3 c4 h.2::aV 9 K a1 c2 b.2::box j 29 [i64 d,i64 e,zS a1 b.2.length c2,zS a3 h.2.length c4]::L) V:=by rw [←q];exact Z
 refine aF (v:=i64 h.1) (aG (aI (aM (v:=i64 h.1) (aF (v:=i64 h.1) (aG ?_)))))
 obtain rfl:=zI g
 exact bF (bB Tryz.results11 rfl ⟨rfl,o,q,(aK.arr 3 [1,0] a0 rfl)⟩)
theorem aDk {a:(List bH)} {k R:Int} (u:aK G K (L) w) (o:cL K a1 c2 a) (c:sT a k=some R):
  Calls Tryz.prog 42 ([zS a1 a.length c2,i64 k]:List Value).toArray w (gO fun v w'=>v=i64 R∧aK G K (L) w'):=by
 refine aS Tryz.func42 rfl (by kernel_rfl) (by show (2:Nat)≤22;decide) ?_
 unfold sT at c
 refine aI (aF (v:=i64 0) (aG (aN (aI (aF (v:=i64 0) (aG (bC (fun f w=>∃ (h:Int),rN h=some R∧f 1=i64 h∧aK G K (L) w) ?_ ?_)))))))
 ·rintro f w6 ⟨h,c,x,y⟩
  unfold rN at c
  refine aA (aI (aO x (aF (v:=i64 h) (aG ?_))))
  obtain rfl:=zI c
  exact bF (bB Tryz.results42 rfl ⟨rfl,y⟩)
 obtain ⟨a8,J,c⟩:=aB c
 refine cA J (fun (s:(Int × Int)) f w=>match s with|(e,g)=>f 0=zS a1 a.length c2∧f 1=i64 e∧f 5=i64 g∧aK G K (L) w) ?_ ?_
 ·exact ⟨rfl,rfl,rfl,u⟩
 ·rintro ⟨e,g⟩ V f a9 b p ⟨i,j,l,d⟩
  replace b:lJ a e g=some V:=b
  unfold lJ at b
  refine aN (aI (aO l (aO i (aC (bT (len:=a.length) cO rfl) (aC (cJ rfl rfl) (aG ?_))))))
  rcases aH b with ⟨m,b⟩|⟨m,b⟩
  ·refine aL m rfl (aY (aA (aN (cP (aN (aN (eK (C:=fun w'=>aK G K (L) w') bU (by kernel_rfl) (aK.mono d (dQ.drew _)) (aX (fun _ d=>bD i) (aX (fun _ d=>bD l) ?_)))))))))
   obtain ⟨b0,q,b⟩:=aB b
   refine aX (fun _ d=>cT cO rfl o rfl rfl rfl q) ?_
   obtain ⟨b1,Z,a0⟩:=cL.el (sz:=1) rfl o q
   cases a0
   refine aX (fun _ d=>bJ (t:=0) pU d Z rfl rfl) (aX (fun _ d=>bD j) ?_)
   obtain ⟨a2,a3,b⟩:=aB b
   refine rA (vs:=[i64 e]) (v:=str a2) Tryz.call99 rfl (fun _ d=>(aBO d a3)) (aX (fun _ d=>aAG rfl rfl) (eG (fun b2 r=>(aA ?_))))
   rcases aH b with ⟨n,b⟩|⟨n,b⟩
   ·refine aL n rfl (aI (aF (v:=i64 (-1)) (aG (bF (aR (bQ (aR (aR ?_))))))))
    have a4:=p _ (zI b).symm
    subst a4
    have c:(some (-1))=some R:=c
    obtain rfl:=zI c
    exact bQ (aR (aR (bB Tryz.results42 rfl ⟨rfl,r⟩)))
   ·exact aJ n rfl (aY (aA (aP (aO j (aC (cM rfl rfl) (aF (v:=i64 (wr (e+1))) (bK (bE (aA (aP (aO l (aC (cM rfl rfl) (aF (v:=i64 (wr (g+1))) (aG ⟨(wr (e+1),wr (g+1)),(zI b).symm,i,rfl,rfl,r⟩))))))))))))))
  ·refine aJ m rfl (bZ (aW (aW ?_)))
   have a6:=p _ (zI b).symm
   subst a6
   have c:(rN e)=some R:=c
   exact bO (aA ⟨e,c,j,d⟩)
theorem aEx {a:(List Edge)} {k R:Int} (y:aK G K (L) w) (l:cL K a1 c2 a) (c:xN a k=some R):
  Calls Tryz.prog 43 ([zS a1 a.length c2,i64 k]:List Value).toArray w (gO fun v w'=>v=i64 R∧aK G K (L) w'):=by
 refine aS Tryz.func43 rfl (by kernel_rfl) (by show (2:Nat)≤40;decide) ?_
 unfold xN at c
 refine aI (aF (v:=i64 0) (aG (aN (aI (aF (v:=i64 0) (aG (bC (fun f w=>∃ (m:Int),vI m=some R∧f 1=i64 m∧aK G K (L) w) ?_ ?_)))))))
 ·rintro f w6 ⟨m,c,z,J⟩
  unfold vI at c
  refine aA (aI (aO z (aF (v:=i64 m) (aG ?_))))
  obtain rfl:=zI c
  exact bF (bB Tryz.results43 rfl ⟨rfl,J⟩)
 obtain ⟨b1,Z,c⟩:=aB c
 refine cA Z (fun (s:(Int × Int)) f w=>match s with|(d,e)=>f 0=zS a1 a.length c2∧f 1=i64 d∧f 5=i64 e∧aK G K (L) w) ?_ ?_
 ·exact ⟨rfl,rfl,rfl,y⟩
 ·rintro ⟨d,e⟩ a0 f b2 b n ⟨i,p,j,g⟩
  replace b:nX a d e=some a0:=b
  unfold nX at b
  refine aN (aI (aO j (aO i (aC (bT (len:=a.length) bY rfl) (aC (cJ rfl rfl) (aG ?_))))))
  rcases aH b with ⟨q,b⟩|⟨q,b⟩
  ·refine aL q rfl (aY (aA (aN (cP (aN (aI (aO i (aO j ?_))))))))
   obtain ⟨b3,o,b⟩:=aB b
   refine aC (cT bY rfl l rfl rfl rfl o) ?_
   obtain ⟨b4,h,a2⟩:=cL.el (sz:=3) rfl l o
   cases a2
   refine aC (cC (k':=e.toNat * 3+0) fJ rfl h rfl) (aC (bJ (t:=0) cE g h rfl rfl) (aO p (aC (oC rfl rfl) (aG ?_))))
   rcases aH b with ⟨r,b⟩|⟨r,b⟩
   ·refine aL r rfl (aI (aF (v:=i64 (-1)) (aG (bF (aR (bQ (aR (aR ?_))))))))
    have a3:=n _ (zI b).symm
    subst a3
    have c:(some (-1))=some R:=c
    obtain rfl:=zI c
    exact bQ (aR (aR (bB Tryz.results43 rfl ⟨rfl,g⟩)))
   ·refine aJ r rfl (aY (aA (aI (aO p (aC (cM rfl rfl) (aF (v:=i64 (wr (d+1))) (aG (aN (aI (aO i (aO j (aC (cT bY rfl l rfl rfl rfl o) (aC (cC (k':=e.toNat * 3+1) gB rfl h rfl) (aC (bJ (t:=1) cE g h rfl rfl) (aM (v:=i64 (wr (d+1))) (aC (oC rfl rfl) (aG ?_)))))))))))))))))
    rcases aH b with ⟨u,b⟩|⟨u,b⟩
    ·refine aL u rfl (aI (aF (v:=i64 (-1)) (aG (bF (aR (bQ (aR (aR ?_))))))))
     have a5:=n _ (zI b).symm
     subst a5
     have c:(some (-1))=some R:=c
     obtain rfl:=zI c
     exact bQ (aR (aR (bB Tryz.results43 rfl ⟨rfl,g⟩)))
    ·refine aJ u rfl (aY (aA (aI (aM (v:=i64 (wr (d+1))) (aC (cM rfl rfl) (aF (v:=i64 (wr ((wr (d+1))+1))) (aG (aN (aI (aO i (aO j (aC (cT bY rfl l rfl rfl rfl o) (aC (cC (k':=e.toNat * 3+2) eM rfl h rfl) (aC (bJ (t:=2) cE g h rfl rfl) (aM (v:=i64 (wr ((wr (d+1))+1))) (aC (oC rfl rfl) (aG ?_)))))))))))))))))
     rcases aH b with ⟨x,b⟩|⟨x,b⟩
     ·refine aL x rfl (aI (aF (v:=i64 (-1)) (aG (bF (aR (bQ (aR (aR ?_))))))))
      have a7:=n _ (zI b).symm
      subst a7
      have c:(some (-1))=some R:=c
      obtain rfl:=zI c
      exact bQ (aR (aR (bB Tryz.results43 rfl ⟨rfl,g⟩)))
     ·exact aJ x rfl (aY (aA (aP (aM (v:=i64 (wr ((wr (d+1))+1))) (aC (cM rfl rfl) (aF (v:=i64 (wr ((wr ((wr (d+1))+1))+1))) (bK (bE (aA (aP (aO j (aC (cM rfl rfl) (aF (v:=i64 (wr (e+1))) (aG ⟨(wr ((wr ((wr (d+1))+1))+1),wr (e+1)),(zI b).symm,i,rfl,rfl,g⟩))))))))))))))
  ·refine aJ q rfl (bZ (aW (aW ?_)))
   have a9:=n _ (zI b).symm
   subst a9
   have c:(vI d)=some R:=c
   exact bO (aA ⟨d,c,p,g⟩)
theorem aCp {a:cH} {k R:Int} (m:aK G K (L) w) (n:cL K a1 c2 a.L) (o:cL K a4 c5 a.E) (b:zH a k=some R):
  Calls Tryz.prog 12 ([zA (zCa a a1 c2 a4 c5),i64 k]:List Value).toArray w (gO fun v w'=>v=i64 R∧aK G K (L) w'):=by
 refine aS Tryz.func12 rfl (by kernel_rfl) (by show (2:Nat)≤18;decide) ?_
 unfold zH at b
 refine aI (eE (v:=zA (zCa a a1 c2 a4 c5)) (vs:=(zC a a1 c2 a4 c5)) m rfl rfl (fun x y j=>(aF (v:=i64 0) (aG (aI (aC (bG (t':=2) gI rfl rfl) (aC (cF mG j (i:=0) rfl rfl rfl) (aM (v:=i64 k) ?_))))))))
 obtain ⟨c,p,b⟩:=aB b
 refine aU (vs:=[zS a1 a.L.length c2,i64 k]) Tryz.call42 rfl (aDk j n p) ?_
 rintro _ z ⟨rfl,e⟩
 refine aF (v:=i64 c) (aG (aN (aI (aM (v:=i64 c) (aC (cJ rfl rfl) (aG ?_))))))
 rcases aH b with ⟨g,b⟩|⟨g,b⟩
 ·refine aL g rfl (aI (aF (v:=i64 (-1)) (aG ?_)))
  obtain rfl:=zI b
  exact bF (aR (bB Tryz.results12 rfl ⟨rfl,(aK.arr 1 [] e rfl)⟩))
 ·refine aJ g rfl (aY (aA (aI (aC (bG (t':=3) cK rfl rfl) (aC (cF fS e (i:=0) rfl rfl rfl) (aM (v:=i64 c) ?_))))))
  obtain ⟨d,r,b⟩:=aB b
  refine aU (vs:=[zS a4 a.E.length c5,i64 c]) Tryz.call43 rfl (aEx e o r) ?_
  rintro _ J ⟨rfl,l⟩
  refine aF (v:=i64 d) (aG (aN (aI (aM (v:=i64 d) (aC (cJ rfl rfl) (aG ?_))))))
  rcases aH b with ⟨h,b⟩|⟨h,b⟩
  ·refine aL h rfl (aI (aF (v:=i64 (-1)) (aG ?_)))
   obtain rfl:=zI b
   exact bF (aR (bB Tryz.results12 rfl ⟨rfl,(aK.arr 1 [] l rfl)⟩))
  ·refine aJ h rfl (aY (aA (aI (aM (v:=i64 d) (aF (v:=i64 d) (aG ?_))))))
   obtain rfl:=zI b
   exact bF (bB Tryz.results12 rfl ⟨rfl,(aK.arr 1 [] l rfl)⟩)
theorem vO {u:cH} {R:Bool} (hs:aK G K (L) w) (hG:G.lo=0) (h3:cL K a1 c2 u.L) (h6:cL K a4 c5 u.E) (d:jH u=some R):
  Calls Tryz.prog 3 ([zA (zCa u a1 c2 a4 c5)]:List Value).toArray w (gO fun v w'=>v=zB R∧aK G K (L) w'):=by
 let V:=(zC u a1 c2 a4 c5)
 let c4:=[zA (zCa u a1 c2 a4 c5)]
 let c6:=zG
 refine aS Tryz.func3 rfl (by kernel_rfl) (by show (1:Nat)≤96;decide) ?_
 unfold jH at d
 refine aI (eE (v:=zA (zCa u a1 c2 a4 c5)) (vs:=V) hs rfl rfl (fun Z w8 i2=>(aF (v:=zB false) (aG (aI (aF (v:=i64 1048576) (aG (aI (aC (dF (us:=V) ag_25 i2 (i:=0) rfl rfl rfl rfl) (aM (v:=i64 1048576) ?_))))))))))
 obtain ⟨i3,k4,d⟩:=aB d
 refine aU (vs:=[zA (zCa u a1 c2 a4 c5),i64 1048576]) Tryz.call6 rfl (aHQ i2 h3 h6 k4) ?_
 rintro _ w12 ⟨rfl,d8⟩
 refine aF (v:=i64 i3) (aG (aN (aI (aM (v:=i64 i3) (aC (cJ rfl rfl) (aG ?_))))))
 rcases aH d with ⟨d9,d⟩|⟨d9,d⟩
 ·refine aL d9 rfl (aI (aF (v:=zB true) (aG ?_)))
  obtain rfl:=zI d
  exact bF (aR (bB Tryz.results3 rfl ⟨rfl,(aK.arr 1 [] d8 rfl)⟩))
 ·refine aJ d9 rfl (aY (aA (aI (aC (dF (us:=V) ag_25 d8 (i:=0) rfl rfl rfl rfl) ?_))))
  obtain ⟨a5,k6,d⟩:=aB d
  refine aU (vs:=c4) Tryz.call8 rfl (yS d8 h3 h6 k6) ?_
  rintro _ w22 ⟨c7,c8,c9,d0,rfl,k7⟩
  obtain ⟨K24,k8,k9,l0,l1⟩:=aK.lendS (i:=0) k7 (zR _) rfl
  obtain ⟨K29,l2,l3,l4,l5⟩:=aK.lendS (i:=0) l0 k8 rfl
  obtain ⟨b,l6,d⟩:=aB d
  refine aU (vs:=[zA (zCa a5 c7 c8 c9 d0)]) Tryz.call7 rfl (aAQ l4 (k9.mono l2) l3 l6) ?_
  rintro _ w40 ⟨n,o,p,q,rfl,l7⟩
  have l8:=l5 _ _ l7
  have l9:=l1 _ _ l8
  refine aM (v:=Value.tuple #[zA (zCa b.1 n o p q),i64 b.2]) (aC (dE rfl rfl) (aC (dE rfl rfl) (bW (vs:=c6) Tryz.zeroValue29 l9 rfl (fun a0 w45 m0=>(cD (i:=0) (ns:=(zC b.1 n o p q)) (us:=(zC b.1 n o p q)) Tryz.sizeOf29 m0 rfl rfl rfl rfl rfl (dK rfl) rfl rfl (fun m1 (i4:aK G K (box a0 29 (zC b.1 n o p q)::aV 9 K c7 c8 a5.L::aV 63 K c9 d0 a5.E::aV 9 K n o b.1.L::aV 63 K p q b.1.E::box Z 25 V::L) m1)=>(aF (v:=i64 b.2) (aG (aI (aC (dF (us:=V) ag_25 i4 (i:=5) rfl rfl rfl rfl) ?_))))))))))
  obtain ⟨e,m2,d⟩:=aB d
  refine aU (vs:=c4) Tryz.call8 rfl (yS i4 h3 h6 m2) ?_
  rintro _ w55 ⟨x,y,z,J,rfl,m3⟩
  refine bW (vs:=c6) Tryz.zeroValue29 m3 rfl (fun b6 w58 m4=>(cD (i:=0) (ns:=(zC e x y z J)) (us:=(zC e x y z J)) Tryz.sizeOf29 m4 rfl rfl rfl rfl rfl (dK rfl) rfl rfl (fun m5 (i5:aK G K (box b6 29 (zC e x y z J)::aV 9 K x y e.L::aV 63 K z J e.E::box a0 29 (zC b.1 n o p q)::aV 9 K c7 c8 a5.L::aV 63 K c9 d0 a5.E::aV 9 K n o b.1.L::aV 63 K p q b.1.E::box Z 25 V::L) m5)=>(aG (aI (aC (dF (us:=(zC e x y z J)) eC i5 (i:=0) rfl rfl rfl rfl) ?_))))))
  obtain ⟨K62,m6,m7,m8,m9⟩:=aK.lendS (i:=1) i5 (zR _) rfl
  obtain ⟨K67,n0,n1,n2,n3⟩:=aK.lendS (i:=1) m8 m6 rfl
  obtain ⟨c,n4,d⟩:=aB d
  refine aU (vs:=[zA (zCa e x y z J)]) Tryz.call9 rfl (sW n2 hG (m7.mono n0) n1 n4) ?_
  rintro _ w78 ⟨h,j,k,l,rfl,n5⟩
  have n6:=n3 _ _ n5
  have n7:=m9 _ _ n6
  refine aM (v:=Value.tuple #[zA (zCa c.1 h j k l),i64 c.2]) (aC (dE rfl rfl) (aC (dE rfl rfl) (bW (vs:=c6) Tryz.zeroValue29 n7 rfl (fun a2 w83 n8=>(cD (i:=0) (ns:=(zC c.1 h j k l)) (us:=(zC c.1 h j k l)) Tryz.sizeOf29 n8 rfl rfl rfl rfl rfl (dK rfl) rfl rfl (fun n9 (e0:aK G K (box a2 29 (zC c.1 h j k l)::aV 9 K x y e.L::aV 63 K z J e.E::aV 9 K h j c.1.L::aV 63 K k l c.1.E::box b6 29 (zC e x y z J)::box a0 29 (zC b.1 n o p q)::aV 9 K c7 c8 a5.L::aV 63 K c9 d0 a5.E::aV 9 K n o b.1.L::aV 63 K p q b.1.E::box Z 25 V::L) n9)=>(aF (v:=i64 c.2) (aG (aN (aN (cN (fun f w=>∃ (e1:Bool),fZ u b e c e1=some R∧f 1=zP (some ⟨Z,0,none⟩)∧f 4=zP (some ⟨a0,0,none⟩)∧f 5=i64 b.2∧f 6=zP (some ⟨b6,0,none⟩)∧f 7=zP (some ⟨a2,0,none⟩)∧f 8=i64 c.2∧f 40=zB e1∧aK G K (box a2 29 (zC c.1 h j k l)::aV 9 K x y e.L::aV 63 K z J e.E::aV 9 K h j c.1.L::aV 63 K k l c.1.E::box b6 29 (zC e x y z J)::box a0 29 (zC b.1 n o p q)::aV 9 K n o b.1.L::aV 63 K p q b.1.E::box Z 25 V::L) w) ?_ ?_)))))))))))
  ·rintro f w95 ⟨e1,d,d1,d2,d3,i6,d4,o0,i7,i8⟩
   unfold fZ at d
   refine aA ?_
   rcases aH d with ⟨e2,d⟩|⟨e2,d⟩
   ·refine aL e2 i7 (aI (aF (v:=zB false) (aG ?_)))
    obtain rfl:=zI d
    exact bF (aR (bB Tryz.results3 rfl ⟨rfl,(aK.arr 10 [] i8 rfl)⟩))
   ·refine aJ e2 i7 (aY (aA (aN (aN ?_))))
    obtain ⟨K99,b8,o2,o3,o4⟩:=aK.lendB (i:=5) i8 rfl
    obtain ⟨o5,b0,o6,i9,o7⟩:=aK.lendB (i:=8) o3 rfl
    refine iB (C:=fun w'=>∃ L',aK G o5 L' w') [(0,0),(1,0),(2,1),(3,1),(4,0)] bU (by kernel_rfl) (fun _ hg=>⟨_,aK.mono i9 hg⟩) (fun a47 o8=>?_)
    have c3:=aK.mono i9 o8
    refine bX rfl (fun _ ⟨_,c3⟩=>gG (t:=0) (vs:=(zC e x y z J)) eC c3 (o2.mono b0) i6 rfl rfl) (bX rfl (fun _ ⟨_,c3⟩=>gG (t:=0) (vs:=V) ag_25 c3 o6 d1 rfl rfl) (nD rfl ?_))
    obtain ⟨a9,o9,d⟩:=aB d
    refine aU (vs:=c4) Tryz.call8 rfl (yS c3 (h3.mono (zL b8 b0)) (h6.mono (zL b8 b0)) o9) ?_
    rintro _ a48 ⟨e3,e4,e5,e6,rfl,j0⟩
    refine bK (aA ⟨⟨_,j0⟩,?_⟩)
    refine nD rfl ?_
    obtain ⟨a49,e7,p0,p1,p2⟩:=aK.lendS (i:=3) j0 (zL b8 b0) rfl
    obtain ⟨a50,e8,p3,p4,p5⟩:=aK.lendS (i:=3) p1 (zL (zL b8 b0) e7) rfl
    obtain ⟨a52,e9,p6,p7,p8⟩:=aK.lendS (i:=0) p4 (zL (zL (zL b8 b0) e7) e8) rfl
    obtain ⟨a54,f0,p9,q0,q1⟩:=aK.lendS (i:=0) p7 (zL (zL (zL (zL b8 b0) e7) e8) e9) rfl
    obtain ⟨a55,q2,d⟩:=aB d
    refine aU (vs:=[zA (zCa e x y z J),zA (zCa a9 e3 e4 e5 e6)]) Tryz.call10 rfl (yW q0 (p0.mono (zL (zL e8 e9) f0)) (p3.mono (zL e9 f0)) (p6.mono f0) p9 q2) ?_
    rintro _ q3 ⟨rfl,q4⟩
    have q5:=q1 _ _ q4
    have q6:=p8 _ _ q5
    have q7:=p5 _ _ q6
    have j1:=p2 _ _ q7
    refine bK (aA ⟨⟨_,j1⟩,?_⟩)
    refine bX rfl (fun _ _=>fH rfl) (mP ?_)
    have q8:=o7 _ _ j1
    have f1:=o4 _ _ q8
    refine aA ?_
    rcases aH d with ⟨f2,d⟩|⟨f2,d⟩
    ·refine aL f2 rfl (aI (aF (v:=zB false) (aG ?_)))
     obtain rfl:=zI d
     exact bF (aR (bB Tryz.results3 rfl ⟨rfl,(aK.arr 12 [] f1 rfl)⟩))
    ·refine aJ f2 rfl (aY (aA (aI (aF (v:=i64 1) (aG (aI (aC (dF (us:=(zC e x y z J)) eC f1 (i:=0) rfl i6 rfl rfl) (aM (v:=i64 1) ?_))))))))
     have r0:aK G K (aV 9 K x y e.L::aV 63 K z J e.E::box b6 29 (zC e x y z J)::box Z 25 V::aV 9 K e3 e4 a9.L::aV 63 K e5 e6 a9.E::box a2 29 (zC c.1 h j k l)::aV 9 K h j c.1.L::aV 63 K k l c.1.E::box a0 29 (zC b.1 n o p q)::aV 9 K n o b.1.L::aV 63 K p q b.1.E::L) q3:=(aK.arr 4 [2,3,0,1] f1 rfl)
     obtain ⟨b1,r1,d⟩:=aB d
     refine aU (vs:=[zA (zCa e x y z J),i64 1]) Tryz.call11 rfl (aCo r0 r1) ?_
     rintro _ r2 ⟨rfl,r3,r4,r5⟩
     have d5:aK G K (aV 9 K x y b1.2.1::aV 63 K z J b1.2.2::box b6 29 [i64 e.N,i64 e.I,zS x b1.2.1.length y,zS z b1.2.2.length J]::box Z 25 V::aV 9 K e3 e4 a9.L::aV 63 K e5 e6 a9.E::box a2 29 (zC c.1 h j k l)::aV 9 K h j c.1.L::aV 63 K k l c.1.E::box a0 29 (zC b.1 n o p q)::aV 9 K n o b.1.L::aV 63 K p q b.1.E::L) r2:=by rw [←r3,←r4];exact r5
     refine aF (v:=i64 b1.1) (aG (aN (aN (cN (fun f w=>∃ (f3:Bool),eW u b c f3=some R∧f 1=zP (some ⟨Z,0,none⟩)∧f 4=zP (some ⟨a0,0,none⟩)∧f 5=i64 b.2∧f 7=zP (some ⟨a2,0,none⟩)∧f 61=zB f3∧aK G K (box Z 25 V::box a2 29 (zC c.1 h j k l)::aV 9 K h j c.1.L::aV 63 K k l c.1.E::box a0 29 (zC b.1 n o p q)::aV 9 K n o b.1.L::aV 63 K p q b.1.E::L) w) ?_ ?_))))
     ·rintro f r6 ⟨f3,d,r7,r8,r9,d6,j2,f4⟩
      unfold eW at d
      refine aA ?_
      rcases aH d with ⟨f5,d⟩|⟨f5,d⟩
      ·refine aL f5 j2 (aI (aF (v:=zB false) (aG ?_)))
       obtain rfl:=zI d
       exact bF (aR (bB Tryz.results3 rfl ⟨rfl,(aK.arr 7 [] f4 rfl)⟩))
      ·refine aJ f5 j2 (aY (aA (aI (aF (v:=i64 1) (aG (aI (aC (dF (us:=(zC c.1 h j k l)) eC f4 (i:=1) rfl d6 rfl rfl) (aM (v:=i64 1) ?_))))))))
       have s1:aK G K (aV 9 K h j c.1.L::aV 63 K k l c.1.E::box Z 25 V::box a2 29 (zC c.1 h j k l)::box a0 29 (zC b.1 n o p q)::aV 9 K n o b.1.L::aV 63 K p q b.1.E::L) r6:=(aK.arr 4 [2,3,0,1] f4 rfl)
       obtain ⟨r,s2,d⟩:=aB d
       refine aU (vs:=[zA (zCa c.1 h j k l),i64 1]) Tryz.call11 rfl (aCo s1 s2) ?_
       rintro _ s3 ⟨rfl,s4,s5,s6⟩
       have j3:aK G K (aV 9 K h j r.2.1::aV 63 K k l r.2.2::box Z 25 V::box a2 29 [i64 c.1.N,i64 c.1.I,zS h r.2.1.length j,zS k r.2.2.length l]::box a0 29 (zC b.1 n o p q)::aV 9 K n o b.1.L::aV 63 K p q b.1.E::L) s3:=by rw [←s4,←s5];exact s6
       refine aF (v:=i64 r.1) (aG (aI (aF (v:=i64 1) (aG (aI (aC (dF (us:=[i64 c.1.N,i64 c.1.I,zS h r.2.1.length j,zS k r.2.2.length l]) eC j3 (i:=3) rfl d6 rfl rfl) (aM (v:=i64 1) ?_)))))))
       obtain ⟨a56,s7,s8,s9,t0⟩:=aK.lendS (i:=0) j3 (zR _) rfl
       obtain ⟨a57,t1,t2,t3,t4⟩:=aK.lendS (i:=0) s9 s7 rfl
       obtain ⟨f6,t5,d⟩:=aB d
       refine aU (vs:=[zA #[i64 c.1.N,i64 c.1.I,zS h r.2.1.length j,zS k r.2.2.length l],i64 1]) Tryz.call12 rfl (aCp (a:=⟨c.1.N,c.1.I,r.2.1,r.2.2⟩) t3 (s8.mono t1) t2 t5) ?_
       rintro _ a58 ⟨rfl,t6⟩
       have t7:=t4 _ _ t6
       have d7:=t0 _ _ t7
       refine aF (v:=i64 f6) (aG (aN (aI (aM (v:=i64 f6) (aC (cJ rfl rfl) (aG ?_))))))
       rcases aH d with ⟨f7,d⟩|⟨f7,d⟩
       ·refine aL f7 rfl (aI (aF (v:=zB false) (aG ?_)))
        obtain rfl:=zI d
        exact bF (aR (bB Tryz.results3 rfl ⟨rfl,(aK.arr 7 [] d7 rfl)⟩))
       ·refine aJ f7 rfl (aY (aA (aN (aI (aM (v:=i64 f6) (aM (v:=i64 r.1) (aC (oC rfl rfl) (aG ?_))))))))
        rcases aH d with ⟨f8,d⟩|⟨f8,d⟩
        ·refine aL f8 rfl (aI (aF (v:=zB false) (aG ?_)))
         obtain rfl:=zI d
         exact bF (aR (bB Tryz.results3 rfl ⟨rfl,(aK.arr 7 [] d7 rfl)⟩))
        ·refine aJ f8 rfl (aY (aA (aI (aC (dF (us:=V) ag_25 d7 (i:=2) rfl r7 rfl rfl) ?_))))
         obtain ⟨b9,u0,d⟩:=aB d
         refine aU (vs:=c4) Tryz.call8 rfl (yS d7 h3 h6 u0) ?_
         rintro _ a59 ⟨j4,j5,j6,j7,rfl,u1⟩
         obtain ⟨a60,u2,u3,u4,u5⟩:=aK.lendS (i:=0) u1 (zR _) rfl
         obtain ⟨a61,u6,u7,u8,u9⟩:=aK.lendS (i:=0) u4 u2 rfl
         obtain ⟨m,v0,d⟩:=aB d
         refine aU (vs:=[zA (zCa b9 j4 j5 j6 j7)]) Tryz.call9 rfl (sW u8 hG (u3.mono u6) u7 v0) ?_
         rintro _ a62 ⟨b2,b3,b4,b5,rfl,v1⟩
         have v2:=u9 _ _ v1
         have v3:=u5 _ _ v2
         refine aM (v:=Value.tuple #[zA (zCa m.1 b2 b3 b4 b5),i64 m.2]) (aC (dE rfl rfl) (aC (dE rfl rfl) (bW (vs:=c6) Tryz.zeroValue29 v3 rfl (fun v4 a63 v5=>(cD (i:=0) (ns:=(zC m.1 b2 b3 b4 b5)) (us:=(zC m.1 b2 b3 b4 b5)) Tryz.sizeOf29 v5 rfl rfl rfl rfl rfl (dK rfl) rfl rfl (fun v6 (f9:aK G K (box v4 29 (zC m.1 b2 b3 b4 b5)::aV 9 K j4 j5 b9.L::aV 63 K j6 j7 b9.E::aV 9 K b2 b3 m.1.L::aV 63 K b4 b5 m.1.E::aV 9 K h j r.2.1::aV 63 K k l r.2.2::box Z 25 V::box a2 29 [i64 c.1.N,i64 c.1.I,zS h r.2.1.length j,zS k r.2.2.length l]::box a0 29 (zC b.1 n o p q)::aV 9 K n o b.1.L::aV 63 K p q b.1.E::L) v6)=>(aF (v:=i64 m.2) (aG (aN (aN (cN (fun f w=>∃ (g0:Bool),fY c r g0=some R∧f 7=zP (some ⟨a2,0,none⟩)∧f 10=i64 r.1∧f 87=zB g0∧aK G K (aV 9 K h j r.2.1::aV 63 K k l r.2.2::box a2 29 [i64 c.1.N,i64 c.1.I,zS h r.2.1.length j,zS k r.2.2.length l]::L) w) ?_ ?_)))))))))))
         ·rintro f a64 ⟨g0,d,v7,v8,j8,g1⟩
          unfold fY at d
          refine aA ?_
          rcases aH d with ⟨g2,d⟩|⟨g2,d⟩
          ·refine aL g2 j8 (aI (aF (v:=zB false) (aG ?_)))
           obtain rfl:=zI d
           exact bF (aR (bB Tryz.results3 rfl ⟨rfl,(aK.arr 3 [] g1 rfl)⟩))
          ·refine aJ g2 j8 (aY (aA (aI (aF (v:=i64 1) (aG (aI (aC (dF (us:=[i64 c.1.N,i64 c.1.I,zS h r.2.1.length j,zS k r.2.2.length l]) eC g1 (i:=2) rfl v7 rfl rfl) (aM (v:=i64 1) ?_))))))))
           obtain ⟨a65,w0,w1,w2,w3⟩:=aK.lendS (i:=0) g1 (zR _) rfl
           obtain ⟨a66,w4,w5,w6,w7⟩:=aK.lendS (i:=0) w2 w0 rfl
           obtain ⟨g3,w9,d⟩:=aB d
           refine aU (vs:=[zA #[i64 c.1.N,i64 c.1.I,zS h r.2.1.length j,zS k r.2.2.length l],i64 1]) Tryz.call12 rfl (aCp (a:=⟨c.1.N,c.1.I,r.2.1,r.2.2⟩) w6 (w1.mono w4) w5 w9) ?_
           rintro _ a67 ⟨rfl,x0⟩
           have x1:=w7 _ _ x0
           have g4:=w3 _ _ x1
           refine aF (v:=i64 g3) (aG (aN (aI (aM (v:=i64 g3) (aC (cJ rfl rfl) (aG ?_))))))
           rcases aH d with ⟨g5,d⟩|⟨g5,d⟩
           ·refine aL g5 rfl (aI (aF (v:=zB false) (aG ?_)))
            obtain rfl:=zI d
            exact bF (aR (bB Tryz.results3 rfl ⟨rfl,(aK.arr 3 [] g4 rfl)⟩))
           ·refine aJ g5 rfl (aY (aA (aN (aI (aM (v:=i64 g3) (aO v8 (aC (oC rfl rfl) (aG ?_))))))))
            rcases aH d with ⟨g6,d⟩|⟨g6,d⟩
            ·refine aL g6 rfl (aI (aF (v:=zB false) (aG ?_)))
             obtain rfl:=zI d
             exact bF (aR (bB Tryz.results3 rfl ⟨rfl,(aK.arr 3 [] g4 rfl)⟩))
            ·refine aJ g6 rfl (aY (aA (aI (aF (v:=zB true) (aG ?_)))))
             obtain rfl:=zI d
             exact bF (bB Tryz.results3 rfl ⟨rfl,(aK.arr 3 [] g4 rfl)⟩)
         refine aP (aC (dF (us:=(zC m.1 b2 b3 b4 b5)) eC f9 (i:=0) rfl rfl rfl rfl) (aC (dF (us:=(zC b.1 n o p q)) eC f9 (i:=9) rfl r8 rfl rfl) ?_))
         obtain ⟨a68,g7,x5,x6,x7⟩:=aK.lendS (i:=3) f9 (zR _) rfl
         obtain ⟨a69,g8,x8,x9,y0⟩:=aK.lendS (i:=3) x6 g7 rfl
         obtain ⟨a70,g9,y1,y2,y3⟩:=aK.lendS (i:=8) x9 (zL g7 g8) rfl
         obtain ⟨a71,h0,y4,y5,y6⟩:=aK.lendS (i:=8) y2 (zL (zL g7 g8) g9) rfl
         obtain ⟨y7,y8,d⟩:=aB d
         refine aU (vs:=[zA (zCa m.1 b2 b3 b4 b5),zA (zCa b.1 n o p q)]) Tryz.call10 rfl (yW y5 (x5.mono (zL (zL g8 g9) h0)) (x8.mono (zL g9 h0)) (y1.mono h0) y4 y8) ?_
         rintro _ a72 ⟨rfl,y9⟩
         have z0:=y6 _ _ y9
         have z1:=y3 _ _ z0
         have z2:=y0 _ _ z1
         have j9:=x7 _ _ z2
         refine aC (fH rfl) (aM (v:=zB (!y7)) ?_)
         rcases aH d with ⟨a6,d⟩|⟨a6,d⟩
         ·exact aZ a6 rfl rfl (aZ a6 rfl rfl (aZ a6 rfl rfl (aC (bI (v:=zB true) a6 rfl rfl) (aG ⟨true,d,d6,rfl,rfl,(aK.arr 12 [7,8,10] j9 rfl)⟩))))
         ·exact bN a6 rfl rfl (aM (v:=i64 m.2) (bN a6 rfl rfl (aO r9 (bN a6 rfl rfl (aC (oC rfl rfl) (aC (bL (v:=zB (m.2 != b.2)) a6 rfl rfl) (aG ⟨m.2 != b.2,d,d6,rfl,rfl,(aK.arr 12 [7,8,10] j9 rfl)⟩)))))))
     refine aP (aM (v:=i64 b1.1) (aC (cJ rfl rfl) (aM (v:=zB (decide (b1.1 < 0))) ?_)))
     rcases aH d with ⟨a3,d⟩|⟨a3,d⟩
     ·exact aZ a3 rfl rfl (aZ a3 rfl rfl (aZ a3 rfl rfl (aZ a3 rfl rfl (aC (bI (v:=zB true) a3 rfl rfl) (aM (v:=zB true) (aZ (rfl:true=true) rfl rfl (aZ (rfl:true=true) rfl rfl (aZ (rfl:true=true) rfl rfl (aC (bI (v:=zB true) (rfl:true=true) rfl rfl) (aG ⟨true,d,d1,d2,d3,d4,rfl,(aK.arr 6 [3] d5 rfl)⟩))))))))))
     ·refine bN a3 rfl rfl (aC (dF (us:=(zC c.1 h j k l)) eC d5 (i:=6) rfl d4 rfl rfl) (bN a3 rfl rfl (aC (dF (us:=(zC b.1 n o p q)) eC d5 (i:=9) rfl d2 rfl rfl) (bN a3 rfl rfl ?_))))
      obtain ⟨a73,h1,z3,z4,z5⟩:=aK.lendS (i:=7) d5 (zR _) rfl
      obtain ⟨a75,h2,z6,z7,z8⟩:=aK.lendS (i:=7) z4 h1 rfl
      obtain ⟨a77,h4,z9,a00,a01⟩:=aK.lendS (i:=8) z7 (zL h1 h2) rfl
      obtain ⟨a78,h5,a02,a03,a04⟩:=aK.lendS (i:=8) a00 (zL (zL h1 h2) h4) rfl
      obtain ⟨k0,a05,d⟩:=aB d
      refine aU (vs:=[zA (zCa c.1 h j k l),zA (zCa b.1 n o p q)]) Tryz.call10 rfl (yW a03 (z3.mono (zL (zL h2 h4) h5)) (z6.mono (zL h4 h5)) (z9.mono h5) a02 a05) ?_
      rintro _ a79 ⟨rfl,a06⟩
      have a07:=a04 _ _ a06
      have a08:=a01 _ _ a07
      have a09:=z8 _ _ a08
      have k1:=z5 _ _ a09
      refine bN a3 rfl rfl (aC (fH rfl) (aC (bL (v:=zB (!k0)) a3 rfl rfl) (aM (v:=zB (!k0)) ?_)))
      rcases aH d with ⟨a7,d⟩|⟨a7,d⟩
      ·exact aZ a7 rfl rfl (aZ a7 rfl rfl (aZ a7 rfl rfl (aC (bI (v:=zB true) a7 rfl rfl) (aG ⟨true,d,d1,d2,d3,d4,rfl,(aK.arr 12 [7,10,0,1,11,2,3] k1 rfl)⟩))))
      ·exact bN a7 rfl rfl (aO o0 (bN a7 rfl rfl (aO d3 (bN a7 rfl rfl (aC (oC rfl rfl) (aC (bL (v:=zB (c.2 != b.2)) a7 rfl rfl) (aG ⟨c.2 != b.2,d,d1,d2,d3,d4,rfl,(aK.arr 12 [7,10,0,1,11,2,3] k1 rfl)⟩)))))))
  refine aP (aC (dF (us:=(zC c.1 h j k l)) eC e0 (i:=0) rfl rfl rfl rfl) (aC (dF (us:=(zC b.1 n o p q)) eC e0 (i:=6) rfl rfl rfl rfl) ?_))
  obtain ⟨a80,h7,a10,a11,a12⟩:=aK.lendS (i:=3) e0 (zR _) rfl
  obtain ⟨a81,h8,a13,a14,a15⟩:=aK.lendS (i:=3) a11 h7 rfl
  obtain ⟨a82,h9,a16,a17,a19⟩:=aK.lendS (i:=7) a14 (zL h7 h8) rfl
  obtain ⟨a83,i0,a21,a22,a23⟩:=aK.lendS (i:=7) a17 (zL (zL h7 h8) h9) rfl
  obtain ⟨a24,a25,d⟩:=aB d
  refine aU (vs:=[zA (zCa c.1 h j k l),zA (zCa b.1 n o p q)]) Tryz.call10 rfl (yW a22 (a10.mono (zL (zL h8 h9) i0)) (a13.mono (zL h9 i0)) (a16.mono i0) a21 a25) ?_
  rintro _ a84 ⟨rfl,a26⟩
  have a27:=a23 _ _ a26
  have a28:=a19 _ _ a27
  have a29:=a15 _ _ a28
  have k2:=a12 _ _ a29
  refine aC (fH rfl) (aM (v:=zB (!a24)) ?_)
  rcases aH d with ⟨a8,d⟩|⟨a8,d⟩
  ·exact aZ a8 rfl rfl (aZ a8 rfl rfl (aZ a8 rfl rfl (aC (bI (v:=zB true) a8 rfl rfl) (aG ⟨true,d,rfl,rfl,rfl,rfl,rfl,rfl,rfl,(aK.arr 11 [4,5,6,0,1,7,8,2,3] k2 rfl)⟩))))
  ·exact bN a8 rfl rfl (aM (v:=i64 c.2) (bN a8 rfl rfl (aM (v:=i64 b.2) (bN a8 rfl rfl (aC (oC rfl rfl) (aC (bL (v:=zB (c.2 != b.2)) a8 rfl rfl) (aG ⟨c.2 != b.2,d,rfl,rfl,rfl,rfl,rfl,rfl,rfl,(aK.arr 11 [4,5,6,0,1,7,8,2,3] k2 rfl)⟩)))))))
end Gv
