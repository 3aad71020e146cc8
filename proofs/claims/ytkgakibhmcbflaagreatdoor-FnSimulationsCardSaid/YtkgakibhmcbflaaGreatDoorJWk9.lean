/- Walks, printed by program. -/
import Derived.Test.YtkgakibhmcbflaaGreatDoorJWk1
import Derived.Test.YtkgakibhmcbflaaGreatDoorJWk2
import Derived.Test.YtkgakibhmcbflaaGreatDoorJWk3
import Derived.Test.YtkgakibhmcbflaaGreatDoorJWk4
import Derived.Test.YtkgakibhmcbflaaGreatDoorJWk6
import Derived.Test.YtkgakibhmcbflaaGreatDoorJWk7
import Derived.Test.YtkgakibhmcbflaaGreatDoorJWk8
set_option linter.all false
namespace Gv
open Go.Value renaming slice→zS,bool→zB,pointer→zP,agg→zA,tuple→zT
open Option.some renaming inj→zI
open Gv.Hp renaming le_trans→zL,le_refl→zR
open Go Go.Proofs
set_option maxRecDepth 20000
set_option maxHeartbeats 40000000
variable {G:Env} {K Kf:Hp} {L:List nG} {w:World} {a1 a4 a7 a10 a13:Option Addr} {c2 c5 c8 c11 c14:Nat}
theorem aFo {a b:(List Int)} {R:Int} (hs:aI G K (L) w) (o:bX K a1 c2 a) (p:bX K a4 c5 b) (d:xW a b=some R):
  Calls Tryz.prog 70 ([zS a1 a.length c2,zS a4 b.length c5]:List Value).toArray w (gQ fun v w'=>v=i64 R∧aI G K (L) w'):=by
 refine aS Tryz.func70 rfl (by kernel_rfl) (by show (2:Nat)≤46;decide) ?_
 unfold xW at d
 refine aK (aF (v:=i64 0) (aG (aO (aK (aF (v:=i64 0) (aG (aZ (fun f w=>nY a b=some R∧f 0=zS a1 a.length c2∧f 1=zS a4 b.length c5∧aI G K (L) w) ?_ ?_)))))))
 ·rintro f w9 ⟨d,e7,e8,q⟩
  unfold nY at d
  refine aA (aO (aK (aN e7 (aD (bT (len:=a.length) bO rfl) (aN e8 (aD (bT (len:=b.length) bO rfl) (aD (cT rfl rfl) (aG ?_))))))))
  rcases aH d with ⟨r,d⟩|⟨r,d⟩
  ·refine aM r rfl (aK (aF (v:=i64 (-1)) (aG ?_)))
   obtain rfl:=zI d
   exact bK (aX (bE Tryz.results70 rfl ⟨rfl,q⟩))
  ·refine aJ r rfl (aY (aA (aO (aK (aN e7 (aD (bT (len:=a.length) bO rfl) (aN e8 (aD (bT (len:=b.length) bO rfl) (aD (sL rfl rfl) (aG ?_))))))))))
   rcases aH d with ⟨u,d⟩|⟨u,d⟩
   ·refine aM u rfl (aK (aF (v:=i64 1) (aG ?_)))
    obtain rfl:=zI d
    exact bK (aX (bE Tryz.results70 rfl ⟨rfl,q⟩))
   ·refine aJ u rfl (aY (aA (aK (aF (v:=i64 0) (aG ?_)))))
    obtain rfl:=zI d
    exact bK (bE Tryz.results70 rfl ⟨rfl,q⟩)
 obtain ⟨c8,b7,d⟩:=aC d
 refine cC b7 (fun (j:Int) f w=>f 0=zS a1 a.length c2∧f 1=zS a4 b.length c5∧f 5=i64 j∧aI G K (L) w) ?_ ?_
 ·exact ⟨rfl,rfl,rfl,hs⟩
 ·rintro j a7 f c9 c x ⟨y,z,l,a8⟩
  replace c:rE a b j=some a7:=c
  unfold rE at c
  refine aO (aO (dO (fun f w=>∃ (J:Bool),nZ a b j J=some a7∧f 0=zS a1 a.length c2∧f 1=zS a4 b.length c5∧f 5=i64 j∧f 15=zB J∧aI G K (L) w) ?_ ?_))
  ·rintro f d0 ⟨J,c,m,n,k,a9,e⟩
   unfold nZ at c
   refine aA ?_
   rcases aH c with ⟨V,c⟩|⟨V,c⟩
   ·refine aM V a9 (aY (aA (aO (cI (aO (aO (eL (C:=fun w'=>aI G K (L) w') bP (by kernel_rfl) (aI.mono e (dN.drew _)) (bC (fun _ e=>aW m) (bC (fun _ e=>aW k) ?_)))))))))
    obtain ⟨d1,Z,c⟩:=aC c
    refine bC (fun _ e=>cU bO rfl o rfl rfl rfl Z) ?_
    obtain ⟨d2,b0,b8⟩:=bX.el (sz:=1) rfl o Z
    cases b8
    refine bC (fun _ e=>bG (t:=0) bY e b0 rfl rfl) (bC (fun _ e=>aW n) (bC (fun _ e=>aW k) ?_))
    obtain ⟨d3,a0,c⟩:=aC c
    refine bC (fun _ e=>cU bO rfl p rfl rfl rfl a0) ?_
    obtain ⟨d4,b1,b9⟩:=bX.el (sz:=1) rfl p a0
    cases b9
    refine bC (fun _ e=>bG (t:=0) bY e b1 rfl rfl) (bC (fun _ e=>cT rfl rfl) (fT (fun d5 h=>(aA ?_))))
    rcases aH c with ⟨a2,c⟩|⟨a2,c⟩
    ·refine aM a2 rfl (aK (aF (v:=i64 (-1)) (aG (bK (aX (bS (aX (aX ?_))))))))
     have c0:=x _ (zI c).symm
     subst c0
     have d:(some (-1))=some R:=d
     obtain rfl:=zI d
     exact bS (aX (aX (bE Tryz.results70 rfl ⟨rfl,h⟩)))
    ·refine aJ a2 rfl (aY (aA (aO (eL (C:=fun w'=>aI G K (L) w') bP (by kernel_rfl) (aI.mono h (dN.drew _)) (bC (fun _ h=>aW m) (bC (fun _ h=>aW k) (bC (fun _ h=>cU bO rfl o rfl rfl rfl Z) (bC (fun _ h=>bG (t:=0) bY h b0 rfl rfl) (bC (fun _ h=>aW n) (bC (fun _ h=>aW k) (bC (fun _ h=>cU bO rfl p rfl rfl rfl a0) (bC (fun _ h=>bG (t:=0) bY h b1 rfl rfl) (bC (fun _ h=>sL rfl rfl) (fT (fun d6 b2=>(aA ?_))))))))))))))))
     rcases aH c with ⟨a3,c⟩|⟨a3,c⟩
     ·refine aM a3 rfl (aK (aF (v:=i64 1) (aG (bK (bS (aX (aX ?_)))))))
      have c3:=x _ (zI c).symm
      subst c3
      have d:(some 1)=some R:=d
      obtain rfl:=zI d
      exact bS (aX (aX (bE Tryz.results70 rfl ⟨rfl,b2⟩)))
     ·exact aJ a3 rfl (aY (bA (aA (aP (aN k (aD (cK rfl rfl) (aF (v:=i64 (wr (j+1))) (aG ⟨wr (j+1),(zI c).symm,m,n,rfl,b2⟩))))))))
   ·refine aJ V a9 (cA (aV (aV ?_)))
    have c6:=x _ (zI c).symm
    subst c6
    have d:(nY a b)=some R:=d
    exact bN (aA ⟨d,m,n,e⟩)
  refine aP (aN l (aN y (aD (bT (len:=a.length) bO rfl) (aD (cT rfl rfl) (aL (v:=zB (decide (j < (a.length:Int)))) ?_)))))
  rcases aH c with ⟨i,c⟩|⟨i,c⟩
  ·exact bB i rfl rfl (aN l (bB i rfl rfl (aN z (bB i rfl rfl (aD (bT (len:=b.length) bO rfl) (bB i rfl rfl (aD (cT rfl rfl) (aD (bF (v:=zB (decide (j < (b.length:Int)))) i rfl rfl) (aG ⟨decide (j < (b.length:Int)),c,y,z,l,rfl,a8⟩)))))))))
  ·exact aU i rfl rfl (aU i rfl rfl (aU i rfl rfl (aU i rfl rfl (aD (bH (v:=zB false) i rfl rfl) (aG ⟨false,c,y,z,l,rfl,a8⟩)))))
theorem aFV {rows:(List (List Int))} {b:(List Int)} {R:(List (List Int))} (hs:aI G K (L) w) (o:Hp.le Kf K) (h3:bX Kf a1 c2 rows) (h6:bX Kf a4 c5 b) (c:aAo rows b=some R):
  Calls Tryz.prog 37 ([zS a1 rows.length c2,zS a4 b.length c5]:List Value).toArray w (gQ fun v w'=>∃ (d9:Option Addr) (e0:Nat),v=zS d9 R.length e0∧aI G K (aR 40 Kf d9 e0 R::L) w'):=by
 refine aS Tryz.func37 rfl (by kernel_rfl) (by show (2:Nat)≤48;decide) ?_
 unfold aAo at c
 refine aK (aF (v:=zS none 0 0) (aG (aK (cJ (Kt:=Kf) (xs:=([]:List (List Int))) (cs:=[]) (vs:=[]) fD qD rfl rfl hs rfl (by kernel_rfl) rfl rfl rfl trivial (fun a7 w8 (f2:aI G K (aR 40 Kf a7 0 ([]:List (List Int))::L) w8)=>(aF (v:=zS a7 ([]:List (List Int)).length 0) (aG (aK (aF (v:=zB false) (aG (aO (aK (aF (v:=i64 0) (aG (aZ (fun f w=>∃ (p:List (List Int)) (b4:Bool) (r:Option Addr) (u:Nat),pU b p b4=some R∧f 1=zS a4 b.length c5∧f 5=zS r p.length u∧f 6=zB b4∧aI G K (aR 40 Kf r u p::L) w) ?_ ?_)))))))))))))))
 ·rintro f i8 ⟨p,b4,r,u,c,f3,e1,f4,e2⟩
  unfold pU at c
  refine aA (lV (fun f w=>∃ (x:List (List Int)) (y:Option Addr) (z:Nat),tG x=some R∧f 5=zS y x.length z∧aI G K (aR 40 Kf y z x::L) w) ?_ ?_)
  ·rintro f i9 ⟨x,y,z,c,f5,f6⟩
   unfold tG at c
   refine aK (aN f5 (aF (v:=zS y x.length z) (aG ?_)))
   obtain rfl:=zI c
   exact bK (bE Tryz.results37 rfl ⟨y,z,rfl,f6⟩)
  refine aK (aN f4 (aD (eR rfl) (aG ?_)))
  rcases aH c with ⟨b5,c⟩|⟨b5,c⟩
  ·refine aM b5 rfl (aP (aN e1 (aN f3 (cJ (Kt:=Kf) (xs:=([b]:List (List Int))) (cs:=[zS a4 b.length c5]) (vs:=[(0,zS a4 b.length c5)]) fD qD rfl rfl e2 rfl (by kernel_rfl) rfl rfl rfl ⟨⟨a4,c5,rfl,h6⟩,trivial⟩ (fun f8 f9 (g0:aI G K (aR 40 Kf f8 1 ([b]:List (List Int))::aR 40 Kf r u p::L) f9)=>?_)))))
   obtain ⟨b6,g1,c⟩:=aC c
   exact aGF (i:=0) Kf fD Tryz.underlying33 qD rfl rfl g0 rfl (zR _) (zR _) g1 rfl rfl rfl rfl (fun _ _ _ h=>El.one h) (fun b7 b8 g2 (g3:aI G K (aR 40 Kf b7 b8 b6::L) g2)=>(aF (v:=zS b7 b6.length b8) (aG ⟨b6,b7,b8,c,rfl,g3⟩)))
  ·exact aJ b5 rfl (aY (aA ⟨p,r,u,c,e1,e2⟩))
 obtain ⟨j0,g4,c⟩:=aC c
 refine cC g4 (fun (s:(List (List Int) × Bool × Int)) f w=>match s with|(d,e,j)=>∃ (k:Option Addr) (l:Nat),f 0=zS a1 rows.length c2∧f 1=zS a4 b.length c5∧f 5=zS k d.length l∧f 6=zB e∧f 7=i64 j∧aI G K (aR 40 Kf k l d::L) w) ?_ ?_
 ·exact ⟨a7,0,rfl,rfl,rfl,rfl,rfl,f2⟩
 ·rintro ⟨d,e,j⟩ b9 f j1 a g5 ⟨k,l,V,Z,c0,a0,a2,c1⟩
  replace a:kH rows b d e j=some b9:=a
  unfold kH at a
  refine aO (aK (aN a2 (aN V (aD (bT (len:=rows.length) fD rfl) (aD (cT rfl rfl) (aG ?_))))))
  rcases aH a with ⟨c3,a⟩|⟨c3,a⟩
  ·refine aM c3 rfl (aY (aA (aO (cI (aK (aN V (aN a2 ?_)))))))
   obtain ⟨m,c4,a⟩:=aC a
   refine aD (cU fD rfl (h3.mono o) rfl rfl rfl c4) ?_
   obtain ⟨j2,e3,g6⟩:=bX.el (sz:=1) rfl h3 c4
   obtain ⟨a3,a5,rfl,e4⟩:=g6
   refine aD (bG (t:=0) sD c1 (e3.mono o) rfl rfl) (aN Z ?_)
   obtain ⟨q,g7,a⟩:=aC a
   refine aQ (vs:=[zS a3 m.length a5,zS a4 b.length c5]) Tryz.call70 rfl (aFo c1 (e4.mono o) (h6.mono o) g7) ?_
   rintro _ j3 ⟨rfl,e5⟩
   refine aF (v:=i64 q) (aG (lV (fun f w=>∃ (J:List (List Int)) (a6:Bool) (a8:Option Addr) (a9:Nat),nA j m J a6=some b9∧f 0=zS a1 rows.length c2∧f 1=zS a4 b.length c5∧f 5=zS a8 J.length a9∧f 6=zB a6∧f 7=i64 j∧aI G K (aR 40 Kf a8 a9 J::L) w) ?_ ?_))
   ·rintro f j4 ⟨J,a6,a8,a9,a,e6,g8,g9,h0,e7,e8⟩
    unfold nA at a
    refine aP (aN g9 (aN e6 (aN e7 (aD (cU fD rfl (h3.mono o) rfl rfl rfl c4) (aD (bG (t:=0) sD e8 (e3.mono o) rfl rfl) (cJ (Kt:=Kf) (xs:=([m]:List (List Int))) (cs:=[zS a3 m.length a5]) (vs:=[(0,zS a3 m.length a5)]) fD qD rfl rfl e8 rfl (by kernel_rfl) rfl rfl rfl ⟨⟨a3,a5,rfl,e4⟩,trivial⟩ (fun h1 h2 (h4:aI G K (aR 40 Kf h1 1 ([m]:List (List Int))::aR 40 Kf a8 a9 J::L) h2)=>?_)))))))
    obtain ⟨c6,h5,a⟩:=aC a
    exact aGF (i:=0) Kf fD Tryz.underlying33 qD rfl rfl h4 rfl (zR _) (zR _) h5 rfl rfl rfl rfl (fun _ _ _ h=>El.one h) (fun c7 c8 h7 (h8:aI G K (aR 40 Kf c7 c8 c6::L) h7)=>(aF (v:=zS c7 c6.length c8) (bM (bA (aA (aP (aN e7 (aD (cK rfl rfl) (aF (v:=i64 (wr (j+1))) (aG ⟨(c6,a6,wr (j+1)),(zI a).symm,c7,c8,e6,g8,rfl,h0,rfl,h8⟩))))))))))
   refine aO (dO (fun f w=>∃ (c9:Bool),pV b d e j m q c9=some b9∧f 0=zS a1 rows.length c2∧f 1=zS a4 b.length c5∧f 5=zS k d.length l∧f 6=zB e∧f 7=i64 j∧f 8=i64 q∧f 27=zB c9∧aI G K (aR 40 Kf k l d::L) w) ?_ ?_)
   ·rintro f j5 ⟨c9,a,d0,b0,d1,h9,d2,i0,e9,d3⟩
    unfold pV at a
    refine aA ?_
    rcases aH a with ⟨d4,a⟩|⟨d4,a⟩
    ·refine aM d4 e9 (aK (aF (v:=zB true) (aG (aK (aN i0 (aD (sL rfl rfl) (aG ?_)))))))
     rcases aH a with ⟨d5,a⟩|⟨d5,a⟩
     ·refine aM d5 rfl (aP (aN d1 (aN b0 (cJ (Kt:=Kf) (xs:=([b]:List (List Int))) (cs:=[zS a4 b.length c5]) (vs:=[(0,zS a4 b.length c5)]) fD qD rfl rfl d3 rfl (by kernel_rfl) rfl rfl rfl ⟨⟨a4,c5,rfl,h6⟩,trivial⟩ (fun i1 i2 (i3:aI G K (aR 40 Kf i1 1 ([b]:List (List Int))::aR 40 Kf k l d::L) i2)=>?_)))))
      obtain ⟨d6,i4,a⟩:=aC a
      exact aGF (i:=0) Kf fD Tryz.underlying33 qD rfl rfl i3 rfl (zR _) (zR _) i4 rfl rfl rfl rfl (fun _ _ _ h=>El.one h) (fun d7 d8 i5 (i6:aI G K (aR 40 Kf d7 d8 d6::L) i5)=>(aF (v:=zS d7 d6.length d8) (aG ⟨d6,true,d7,d8,a,d0,b0,rfl,rfl,d2,i6⟩)))
     ·exact aJ d5 rfl (aY (aA ⟨d,true,k,l,a,d0,b0,d1,rfl,d2,d3⟩))
    ·exact aJ d4 e9 (aY (aA ⟨d,e,k,l,a,d0,b0,d1,h9,d2,d3⟩))
   refine aP (aN a0 (aD (eR rfl) (aL (v:=zB (!e)) ?_)))
   rcases aH a with ⟨n,a⟩|⟨n,a⟩
   ·exact bB n rfl rfl (aL (v:=i64 q) (bB n rfl rfl (aD (uJ rfl rfl) (aD (bF (v:=zB (decide (0≤q))) n rfl rfl) (aG ⟨decide (0≤q),a,V,Z,c0,a0,a2,rfl,rfl,e5⟩)))))
   ·exact aU n rfl rfl (aU n rfl rfl (aD (bH (v:=zB false) n rfl rfl) (aG ⟨false,a,V,Z,c0,a0,a2,rfl,rfl,e5⟩)))
  ·refine aJ c3 rfl (cA (aV (aV ?_)))
   have i7:=g5 _ (zI a).symm
   subst i7
   have c:(pU b d e)=some R:=c
   exact bN (aA ⟨d,e,k,l,c,Z,c0,a0,c1⟩)
theorem aHs {g:(List UInt8)} {a b:cD} {weak:Bool} {R:(List (List Int))} (hs:aI G K (L) w) (h3:bX K a1 c2 g) (h6:bX K a4 c5 a.L) (h9:bX K a7 c8 a.E) (i7:bX K a10 c11 b.L) (i8:bX K a13 c14 b.E) (c:aBa g a b weak=some R):
  Calls Tryz.prog 11 ([zS a1 g.length c2,zA (zCa a a4 c5 a7 c8),zA (zCa b a10 c11 a13 c14),zB weak]:List Value).toArray w (gQ fun v w'=>∃ (K':Hp) (i9:Option Addr) (j0:Nat),v=zS i9 R.length j0∧Hp.le K K'∧aI G K' (aR 40 K' i9 j0 R::L) w'):=by
 let b7:=(zC b a10 c11 a13 c14)
 let c6:=(zC a a4 c5 a7 c8)
 refine aS Tryz.func11 rfl (by kernel_rfl) (by show (4:Nat)≤59;decide) ?_
 unfold aBa at c
 refine aK (eA (v:=zA (zCa a a4 c5 a7 c8)) (vs:=c6) hs rfl rfl (fun p y4 m1=>(eA (v:=zA (zCa b a10 c11 a13 c14)) (vs:=b7) m1 rfl rfl (fun n y5 m2=>(aF (v:=zS none 0 0) (aG (aK (aL (v:=zS a1 g.length c2) ?_))))))))
 obtain ⟨a6,m3,c⟩:=aC c
 refine aQ (vs:=[zS a1 g.length c2]) Tryz.call13 rfl (aDf m2 h3 m3) ?_
 rintro _ y6 ⟨e,rfl,m4⟩
 refine aF (v:=zP (some ⟨e,0,none⟩)) (aG (aK ?_))
 obtain ⟨y7,d8,m5,m6,m7⟩:=aI.lendB (i:=2) m4 rfl
 obtain ⟨y8,c7,m8,m9,n0⟩:=aI.lendB (i:=1) m6 rfl
 obtain ⟨j,n1,c⟩:=aC c
 refine aQ (vs:=[cP (some ⟨p,0,none⟩) 0,cP (some ⟨n,0,none⟩) 0]) Tryz.call32 rfl (aGy m9 (m5.mono c7) (h6.mono (zL d8 c7)) (h9.mono (zL d8 c7)) m8 (i7.mono (zL d8 c7)) (i8.mono (zL d8 c7)) n1) ?_
 rintro _ y9 ⟨J,V,Z,a0,rfl,n2⟩
 have n3:=n0 _ _ n2
 have n4:=m7 _ _ n3
 refine cQ (vs:=zG) Tryz.zeroValue27 n4 rfl (fun a8 z0 n5=>(cZ (i:=0) (ns:=(zC j J V Z a0)) (us:=(zC j J V Z a0)) Tryz.sizeOf27 n5 rfl rfl rfl rfl rfl (fO rfl) rfl rfl (fun n6 (n7:aI G K (box a8 27 (zC j J V Z a0)::box p 27 c6::box n 27 b7::aR 9 K J V j.L::aR 51 K Z a0 j.E::box e 79 [zS a1 g.length c2,i64 a6.1,Value.int .u64 a6.2]::L) n6)=>(aG (aK ?_)))))
 obtain ⟨z1,n8,n9,o0,o1⟩:=aI.lendS (i:=3) n7 (zR _) rfl
 obtain ⟨z2,o2,o3,o4,o5⟩:=aI.lendS (i:=3) o0 n8 rfl
 obtain ⟨z3,j1,o6,o7,o8⟩:=aI.lendB (i:=0) o4 rfl
 obtain ⟨j2,o9,c⟩:=aC c
 refine aQ (vs:=[cP (some ⟨a8,0,none⟩) 0]) Tryz.call33 rfl (aDj o7 o6 (n9.mono (zL o2 j1)) (o3.mono j1) o9) ?_
 rintro _ z4 ⟨j3,j4,rfl,p0⟩
 have p1:=o8 _ _ p0
 have p2:=o5 _ _ p1
 have j5:=o1 _ _ p2
 refine aF (v:=zS j3 j2.length j4) (aG (lV (fun f w=>∃ (b8:List Int) (c9:Option Addr) (d0:Nat),xZ g a b a6 j b8=some R∧f 5=zP (some ⟨p,0,none⟩)∧f 6=zP (some ⟨n,0,none⟩)∧f 9=zP (some ⟨e,0,none⟩)∧f 10=zP (some ⟨a8,0,none⟩)∧f 11=zS c9 b8.length d0∧aI G K (aR 2 K c9 d0 b8::aR 9 K J V j.L::aR 51 K Z a0 j.E::box a8 27 (zC j J V Z a0)::box p 27 c6::box n 27 b7::box e 79 [zS a1 g.length c2,i64 a6.1,Value.int .u64 a6.2]::L) w) ?_ ?_))
 ·rintro f p3 ⟨b8,c9,d0,c,j6,j7,d9,p4,p5,p6⟩
  unfold xZ at c
  refine lV (fun f w=>∃ (a9:Int) (b0:Int) (b1:List Int) (b9:Option Addr) (c0:Nat),uE g a b a9 b0 b1=some R∧f 5=zP (some ⟨p,0,none⟩)∧f 6=zP (some ⟨n,0,none⟩)∧f 9=zP (some ⟨e,0,none⟩)∧f 11=zS b9 b1.length c0∧aI G K (aR 2 K b9 c0 b1::box p 27 c6::box n 27 b7::box e 79 [zS a1 g.length c2,i64 a9,Value.int .u64 b0]::L) w) ?_ ?_
  ·rintro f f3 ⟨a9,b0,b1,b9,c0,c,j8,j9,p7,p8,p9⟩
   unfold uE at c
   refine aK (aN p8 ?_)
   obtain ⟨q0,q,f4,f5,_⟩:=aI.lendB (i:=1) p9 rfl
   replace f5:aI G q0 (aR 2 K b9 c0 b1::box n 27 b7::box e 79 [zS a1 g.length c2,i64 a9,Value.int .u64 b0]::L) f3:=f5
   obtain ⟨q1,m,f6,f7,_⟩:=aI.lendB (i:=1) f5 rfl
   replace f7:aI G q1 (aR 2 K b9 c0 b1::box e 79 [zS a1 g.length c2,i64 a9,Value.int .u64 b0]::L) f3:=f7
   obtain ⟨q2,l,q3,f8⟩:=aI.giveS (i:=0) f7 (zL q m) rfl
   replace f8:aI G q2 (box e 79 [zS a1 g.length c2,i64 a9,Value.int .u64 b0]::L) f3:=f8
   obtain ⟨r,q4,c⟩:=aC c
   refine aQ (vs:=[cP (some ⟨p,0,none⟩) 0,cP (some ⟨n,0,none⟩) 0,zS b9 b1.length c0]) Tryz.call36 (lst3 (aGj j8) (aGj j9) rfl) (aFn f8 (f4.mono (zL m l)) (h6.mono (zL (zL q m) l)) (h9.mono (zL (zL q m) l)) (f6.mono l) (i7.mono (zL (zL q m) l)) (i8.mono (zL (zL q m) l)) q3 q4) ?_
   rintro _ z5 ⟨d,x,y,rfl,u,q5⟩
   refine aF (v:=zS x r.length y) (aG (aK (cJ (Kt:=d) (xs:=([]:List (List Int))) (cs:=[]) (vs:=[]) fD qD rfl rfl q5 rfl (by kernel_rfl) rfl rfl rfl trivial (fun f9 q6 (q7:aI G d (aR 40 d f9 0 ([]:List (List Int))::aR 40 d x y r::box e 79 [zS a1 g.length c2,i64 a9,Value.int .u64 b0]::L) q6)=>(aF (v:=zS f9 ([]:List (List Int)).length 0) (aG (aO (aK (aF (v:=i64 0) (aG (aZ (fun f w=>∃ (e0:Int) (e1:Int) (a2:List (List Int)) (b2:Option Addr) (b3:Nat),uD g a b e0 e1 a2=some R∧f 5=cP (some ⟨p,0,none⟩) 0∧f 6=cP (some ⟨n,0,none⟩) 0∧f 9=zP (some ⟨e,0,none⟩)∧f 13=zS b2 a2.length b3∧aI G d (aR 40 d b2 b3 a2::box e 79 [zS a1 g.length c2,i64 e0,Value.int .u64 e1]::L) w) ?_ ?_)))))))))))
   ·rintro f q8 ⟨e0,e1,a2,b2,b3,c,q9,r0,g0,k0,r1⟩
    unfold uD at c
    refine aA (lV (fun f w=>∃ (d1:Hp) (d2:List (List Int)) (d3:Option Addr) (d4:Nat),Hp.le d d1∧xX d2=some R∧f 13=zS d3 d2.length d4∧aI G d1 (aR 40 d1 d3 d4 d2::L) w) ?_ ?_)
    ·rintro f z6 ⟨d1,d2,d3,d4,r2,c,r3,r4⟩
     unfold xX at c
     refine aK (aN r3 (aF (v:=zS d3 d2.length d4) (aG ?_)))
     obtain rfl:=zI c
     exact bK (bE Tryz.results11 rfl ⟨d1,d3,d4,rfl,(zL (zL (zL (zL q m) l) u) r2),r4⟩)
    refine aK (aN g0 ?_)
    have r6:aI G d (box e 79 [zS a1 g.length c2,i64 e0,Value.int .u64 e1]::aR 40 d b2 b3 a2::L) q8:=(aI.arr 2 [1,0] r1 rfl)
    obtain ⟨z7,r7,c⟩:=aC c
    refine aQ (vs:=[zP (some ⟨e,0,none⟩),i64 4]) Tryz.call18 rfl (jC r6 (h3.mono (zL (zL (zL q m) l) u)) r7) ?_
    rintro _ z8 ⟨rfl,g1⟩
    refine aG ?_
    rcases aH c with ⟨g2,c⟩|⟨g2,c⟩
    ·refine aM g2 rfl (dQ (C:=fun w'=>∃ L',aI G d L' w') [(0,0),(1,0),(2,0),(3,0),(5,0),(6,0),(7,0),(4,1),(8,1),(9,1),(10,1),(11,0)] bP (by kernel_rfl) (fun _ hg=>⟨_,aI.mono g1 hg⟩) (fun z9 r8=>?_))
     have d5:=aI.mono g1 r8
     refine bJ rfl (fun _ _=>aW k0) (bJ rfl (fun _ _=>aW g0) (bJ rfl (fun _ _=>cG (k':=0+0) dP q9 (f4.mono (zL (zL m l) u)) rfl) (bJ rfl (fun _ ⟨_,d5⟩=>bG (t:=0) bY d5 (f4.mono (zL (zL m l) u)) rfl rfl) (bJ rfl (fun _ _=>aW g0) (bJ rfl (fun _ _=>cG (k':=0+0) dP r0 (f6.mono (zL l u)) rfl) (bJ rfl (fun _ ⟨_,d5⟩=>bG (t:=0) bY d5 (f6.mono (zL l u)) rfl rfl) (gZ rfl ?_)))))))
     obtain ⟨c1,r9,c⟩:=aC c
     refine aQ (vs:=[zP (some ⟨e,0,none⟩),i64 a.N]) Tryz.call15 rfl (cB d5 (h3.mono (zL (zL (zL q m) l) u)) r9) ?_
     rintro _ a00 ⟨rfl,k1⟩
     refine bM (aA ⟨⟨_,k1⟩,?_⟩)
     refine gZ rfl ?_
     obtain ⟨o,s0,c⟩:=aC c
     refine aQ (vs:=[zP (some ⟨e,0,none⟩),i64 b.N]) Tryz.call15 rfl (cB k1 (h3.mono (zL (zL (zL q m) l) u)) s0) ?_
     rintro _ a01 ⟨rfl,k2⟩
     refine bM (aA ⟨⟨_,k2⟩,?_⟩)
     refine gZ rfl (cJ (Kt:=K) (xs:=([c1.1,o.1]:List Int)) (cs:=[i64 c1.1,i64 o.1]) (vs:=[(0,i64 c1.1),(1,i64 o.1)]) bO jU rfl rfl k2 rfl (by kernel_rfl) rfl rfl rfl ⟨rfl,rfl,trivial⟩ (fun g3 g4 (k3:aI G d (aR 2 K g3 2 ([c1.1,o.1]:List Int)::box e 79 [zS a1 g.length c2,i64 o.2.1,Value.int .u64 o.2.2]::aR 40 d b2 b3 a2::L) g4)=>(bM (aA ⟨⟨_,k3⟩,?_⟩))))
     refine gZ rfl ?_
     obtain ⟨s1,g5,s2,g6⟩:=aI.giveS (i:=2) k3 (zR _) rfl
     replace g6:aI G s1 (aR 2 K g3 2 ([c1.1,o.1]:List Int)::box e 79 [zS a1 g.length c2,i64 o.2.1,Value.int .u64 o.2.2]::L) g4:=g6
     obtain ⟨g7,g8,s3,g9⟩:=aI.giveS (i:=0) g6 (zL (zL (zL (zL q m) l) u) g5) rfl
     replace g9:aI G g7 (box e 79 [zS a1 g.length c2,i64 o.2.1,Value.int .u64 o.2.2]::L) g4:=g9
     obtain ⟨k4,s4,c⟩:=aC c
     refine aQ (vs:=[zS b2 a2.length b3,zS g3 ([c1.1,o.1]:List Int).length 2]) Tryz.call37 rfl (aFV (Kf:=g7) g9 (zR _) (s2.mono g8) s3 s4) ?_
     rintro _ a02 ⟨k5,k6,rfl,k7⟩
     refine bM (aA ⟨⟨_,(aI.weakK k7 (zL g5 g8))⟩,?_⟩)
     exact bJ rfl (fun _ _=>gB (v:=zS k5 k4.length k6) rfl) (gR (aA ⟨g7,k4,k5,k6,(zL g5 g8),c,rfl,(aI.arr 2 [0] k7 rfl)⟩))
    ·exact aJ g2 rfl (aY (aA ⟨d,a2,b2,b3,(zR _),c,k0,(aI.arr 1 [] g1 rfl)⟩))
   obtain ⟨a03,s5,c⟩:=aC c
   refine cC s5 (fun (s:(Int × Int × List (List Int) × Int)) f w=>match s with|(c3,c4,z,b4)=>∃ (b5:Option Addr) (b6:Nat),f 5=cP (some ⟨p,0,none⟩) 0∧f 6=cP (some ⟨n,0,none⟩) 0∧f 9=zP (some ⟨e,0,none⟩)∧f 12=zS x r.length y∧f 13=zS b5 z.length b6∧f 14=i64 b4∧aI G d (aR 40 d b5 b6 z::aR 40 d x y r::box e 79 [zS a1 g.length c2,i64 c3,Value.int .u64 c4]::L) w) ?_ ?_
   ·exact ⟨f9,0,(aGj j8),(aGj j9),p7,rfl,rfl,rfl,q7⟩
   ·rintro ⟨c3,c4,z,b4⟩ k8 f s6 k s7 ⟨b5,b6,h0,h1,e2,e3,h2,e4,k9⟩
    replace k:lZ g r c3 c4 z b4=some k8:=k
    unfold lZ at k
    refine aO (aK (aN e4 (aN e3 (aD (bT (len:=r.length) fD rfl) (aD (cT rfl rfl) (aG ?_))))))
    rcases aH k with ⟨h4,k⟩|⟨h4,k⟩
    ·refine aM h4 rfl (aY (aA (aO (aZ (fun f w=>∃ (e5:Int) (e6:Int) (d6:List (List Int)) (e7:Option Addr) (e8:Nat),xY b4 e5 e6 d6=some k8∧f 5=cP (some ⟨p,0,none⟩) 0∧f 6=cP (some ⟨n,0,none⟩) 0∧f 9=zP (some ⟨e,0,none⟩)∧f 12=zS x r.length y∧f 13=zS e7 d6.length e8∧f 14=i64 b4∧aI G d (aR 40 d e7 e8 d6::aR 40 d x y r::box e 79 [zS a1 g.length c2,i64 e5,Value.int .u64 e6]::L) w) ?_ ?_))))
     ·rintro f a04 ⟨e5,e6,d6,e7,e8,k,s8,s9,t0,t1,t2,t3,t4⟩
      unfold xY at k
      exact aA (aP (aN t3 (aD (cK rfl rfl) (aF (v:=i64 (wr (b4+1))) (aG ⟨(e5,e6,d6,wr (b4+1)),(zI k).symm,e7,e8,s8,s9,t0,t1,t2,rfl,t4⟩)))))
     refine aK (aN e2 ?_)
     have t5:aI G d (box e 79 [zS a1 g.length c2,i64 c3,Value.int .u64 c4]::aR 40 d b5 b6 z::aR 40 d x y r::L) s6:=(aI.arr 3 [2,0,1] k9 rfl)
     obtain ⟨a3,t6,k⟩:=aC k
     refine aQ (vs:=[zP (some ⟨e,0,none⟩),i64 9]) Tryz.call18 rfl (jC t5 (h3.mono (zL (zL (zL q m) l) u)) t6) ?_
     rintro _ a05 ⟨rfl,e9⟩
     refine aD (eR rfl) (aG ?_)
     rcases aH k with ⟨h5,k⟩|⟨h5,k⟩
     ·refine aM h5 rfl (aP (aN h2 (aN e3 (aN e4 ?_))))
      obtain ⟨d7,h7,k⟩:=aC k
      have t7:=dZ e9 (i:=2) rfl h7
      refine aD (eM fD rfl t7 rfl rfl rfl h7) ?_
      obtain ⟨a06,t8,t9⟩:=own_el (sz:=1) rfl e9 (i:=2) rfl h7
      obtain ⟨f0,f1,rfl,u0⟩:=t9
      refine aD (R_ldC (t:=0) (v:=zS f0 d7.length f1) sD t8 rfl rfl) (cJ (Kt:=d) (xs:=([d7]:List (List Int))) (cs:=[zS f0 d7.length f1]) (vs:=[(0,zS f0 d7.length f1)]) fD qD rfl rfl e9 rfl (by kernel_rfl) rfl rfl rfl ⟨⟨f0,f1,rfl,u0⟩,trivial⟩ (fun u1 u2 (u3:aI G d (aR 40 d u1 1 ([d7]:List (List Int))::box e 79 [zS a1 g.length c2,i64 a3.2.1,Value.int .u64 a3.2.2]::aR 40 d b5 b6 z::aR 40 d x y r::L) u2)=>?_))
      obtain ⟨h8,u4,k⟩:=aC k
      exact aGF (i:=1) d fD Tryz.underlying33 qD rfl rfl u3 rfl (zR _) (zR _) u4 rfl rfl rfl rfl (fun _ _ _ h=>El.one h) (fun i0 i1 u5 (u6:aI G d (box e 79 [zS a1 g.length c2,i64 a3.2.1,Value.int .u64 a3.2.2]::aR 40 d i0 i1 h8::aR 40 d x y r::L) u5)=>(aF (v:=zS i0 h8.length i1) (bM (bA (aA ⟨a3.2.1,a3.2.2,h8,i0,i1,k,h0,h1,e2,e3,rfl,e4,(aI.arr 3 [1,2,0] u6 rfl)⟩)))))
     ·exact aJ h5 rfl (aY (bA (aA ⟨a3.2.1,a3.2.2,z,b5,b6,k,h0,h1,e2,e3,h2,e4,(aI.arr 3 [1,2,0] e9 rfl)⟩)))
    ·refine aJ h4 rfl (cA (aV (aV ?_)))
     have u7:=s7 _ (zI k).symm
     subst u7
     have c:(uD g a b c3 c4 z)=some R:=c
     exact bN (aA ⟨c3,c4,z,b5,b6,c,h0,h1,e2,h2,(aI.arr 2 [0] k9 rfl)⟩)
  refine aK (aN d9 ?_)
  have u8:aI G K (box e 79 [zS a1 g.length c2,i64 a6.1,Value.int .u64 a6.2]::aR 2 K c9 d0 b8::aR 9 K J V j.L::aR 51 K Z a0 j.E::box a8 27 (zC j J V Z a0)::box p 27 c6::box n 27 b7::L) p3:=(aI.arr 7 [6,0,1,2,3,4,5] p6 rfl)
  obtain ⟨l0,u9,c⟩:=aC c
  refine aQ (vs:=[zP (some ⟨e,0,none⟩),i64 4]) Tryz.call18 rfl (jC u8 h3 u9) ?_
  rintro _ a07 ⟨rfl,l1⟩
  refine aG ?_
  rcases aH c with ⟨i2,c⟩|⟨i2,c⟩
  ·refine aM i2 rfl (aP (aN d9 ?_))
   obtain ⟨i3,v0,c⟩:=aC c
   refine aQ (vs:=[zP (some ⟨e,0,none⟩),i64 3]) Tryz.call15 rfl (cB l1 h3 v0) ?_
   rintro _ a08 ⟨rfl,v1⟩
   obtain ⟨a09,v2,v3,v4,v5⟩:=aI.lendS (i:=2) v1 (zR _) rfl
   obtain ⟨a11,v6,v7,v8,v9⟩:=aI.lendS (i:=2) v4 v2 rfl
   obtain ⟨a12,l2,w0,w1,w2⟩:=aI.lendB (i:=2) v8 rfl
   obtain ⟨l3,w3,c⟩:=aC c
   refine aQ (vs:=[cP (some ⟨a8,0,none⟩) 0,i64 i3.1]) Tryz.call35 (lst2 p4 rfl) (aGz w1 w0 (v3.mono (zL v6 l2)) (v7.mono l2) w3) ?_
   rintro _ a14 ⟨l4,l5,rfl,w4⟩
   have w5:=w2 _ _ w4
   have w6:=v9 _ _ w5
   have w7:=v5 _ _ w6
   exact aF (v:=zS l4 l3.length l5) (aG ⟨i3.2.1,i3.2.2,l3,l4,l5,c,j6,j7,d9,rfl,(aI.arr 8 [3,6,7,4] w7 rfl)⟩)
  ·exact aJ i2 rfl (aY (aA ⟨l0.2.1,l0.2.2,b8,c9,d0,c,j6,j7,d9,p5,(aI.arr 7 [1,5,6,0] l1 rfl)⟩))
 refine aK (aL (v:=zB weak) (aG ?_))
 rcases aH c with ⟨i4,c⟩|⟨i4,c⟩
 ·refine aM i4 rfl (aP ?_)
  obtain ⟨a15,w8,w9,x0,x1⟩:=aI.lendS (i:=0) j5 (zR _) rfl
  obtain ⟨a16,x2,x3,x4,x5⟩:=aI.lendS (i:=0) x0 w8 rfl
  obtain ⟨a17,l6,x6,x7,x8⟩:=aI.lendB (i:=0) x4 rfl
  obtain ⟨l7,x9,c⟩:=aC c
  refine aQ (vs:=[cP (some ⟨a8,0,none⟩) 0,zB false]) Tryz.call34 rfl (aDh x7 x6 (w9.mono (zL x2 l6)) (x3.mono l6) x9) ?_
  rintro _ a18 ⟨l8,l9,rfl,y0⟩
  have y1:=x8 _ _ y0
  have y2:=x5 _ _ y1
  have y3:=x1 _ _ y2
  exact aF (v:=zS l8 l7.length l9) (aG ⟨l7,l8,l9,c,rfl,rfl,rfl,rfl,rfl,(aI.arr 5 [3,0,1,2] y3 rfl)⟩)
 ·exact aJ i4 rfl (aY (aA ⟨j2,j3,j4,c,rfl,rfl,rfl,rfl,rfl,(aI.arr 4 [3,0,1,2] j5 rfl)⟩))
theorem aIs {rows:(List (List Int))} {h y:Int} {R:Bool} (hs:aI G K (L) w) (l:bX K a1 c2 rows) (d:aDc rows h y=some R):
  Calls Tryz.prog 12 ([zS a1 rows.length c2,i64 h,i64 y]:List Value).toArray w (gQ fun v w'=>v=zB R∧aI G K (L) w'):=by
 refine aS Tryz.func12 rfl (by kernel_rfl) (by show (3:Nat)≤40;decide) ?_
 unfold aDc at d
 refine aK (aF (v:=zB false) (aG (aO (aK (aF (v:=i64 0) (aG (aZ (fun f w=>aBG=some R∧aI G K (L) w) ?_ ?_)))))))
 ·rintro f w4 ⟨d,a7⟩
  unfold aBG at d
  refine aA (aK (aF (v:=zB false) (aG ?_)))
  obtain rfl:=zI d
  exact bK (bE Tryz.results12 rfl ⟨rfl,a7⟩)
 obtain ⟨c4,a9,d⟩:=aC d
 refine cC a9 (fun (i:Int) f w=>f 0=zS a1 rows.length c2∧f 1=i64 h∧f 2=i64 y∧f 7=i64 i∧aI G K (L) w) ?_ ?_
 ·exact ⟨rfl,rfl,rfl,rfl,hs⟩
 ·rintro i z f c5 a J ⟨j,m,n,k,e⟩
  replace a:wU rows h y i=some z:=a
  unfold wU at a
  refine aO (aK (aN k (aN j (aD (bT (len:=rows.length) fD rfl) (aD (cT rfl rfl) (aG ?_))))))
  rcases aH a with ⟨q,a⟩|⟨q,a⟩
  ·refine aM q rfl (aY (aA (aO (cI (aO (dO (fun f w=>∃ (r:Bool),wT i r=some z∧f 0=zS a1 rows.length c2∧f 1=i64 h∧f 2=i64 y∧f 7=i64 i∧f 39=zB r∧aI G K (L) w) ?_ ?_))))))
   ·rintro f c6 ⟨r,a,b0,b1,b2,b3,V,Z⟩
    unfold wT at a
    refine aA ?_
    rcases aH a with ⟨u,a⟩|⟨u,a⟩
    ·refine aM u V (aK (aF (v:=zB true) (aG (bK (bS (aX (aX ?_)))))))
     have b4:=J _ (zI a).symm
     subst b4
     have d:(some true)=some R:=d
     obtain rfl:=zI d
     exact bS (aX (aX (bE Tryz.results12 rfl ⟨rfl,Z⟩)))
    ·exact aJ u V (aY (bA (aA (aP (aN b3 (aD (cK rfl rfl) (aF (v:=i64 (wr (i+1))) (aG ⟨wr (i+1),(zI a).symm,b0,b1,b2,rfl,Z⟩))))))))
   refine aP (aN j (aN k ?_))
   obtain ⟨a0,o,a⟩:=aC a
   refine aD (cU fD rfl l rfl rfl rfl o) ?_
   obtain ⟨c7,x,b6⟩:=bX.el (sz:=1) rfl l o
   obtain ⟨c8,c9,rfl,p⟩:=b6
   refine aD (bG (t:=0) sD e x rfl rfl) (aD (bT (len:=a0.length) bO rfl) (aD (lA rfl rfl) (aL (v:=zB ((a0.length:Int) == 2)) ?_)))
   rcases aH a with ⟨b,a⟩|⟨b,a⟩
   ·refine bB b rfl rfl (aN j (bB b rfl rfl (aN k (bB b rfl rfl (aD (cU fD rfl l rfl rfl rfl o) (bB b rfl rfl (aD (bG (t:=0) sD e x rfl rfl) (bB b rfl rfl ?_))))))))
    obtain ⟨a2,a3,a⟩:=aC a
    refine aD (cU bO rfl p rfl rfl rfl a3) ?_
    obtain ⟨d0,b7,b8⟩:=bX.el (sz:=1) rfl p a3
    cases b8
    refine bB b rfl rfl (aD (bG (t:=0) bY e b7 rfl rfl) (bB b rfl rfl (aN m (bB b rfl rfl (aD (lA rfl rfl) (aD (bF (v:=zB (a2 == h)) b rfl rfl) (aL (v:=zB (a2 == h)) ?_)))))))
    rcases aH a with ⟨c,a⟩|⟨c,a⟩
    ·refine bB c rfl rfl (aN j (bB c rfl rfl (aN k (bB c rfl rfl (aD (cU fD rfl l rfl rfl rfl o) (bB c rfl rfl (aD (bG (t:=0) sD e x rfl rfl) (bB c rfl rfl ?_))))))))
     obtain ⟨a4,a5,a⟩:=aC a
     refine aD (cU bO rfl p rfl rfl rfl a5) ?_
     obtain ⟨d1,b9,c0⟩:=bX.el (sz:=1) rfl p a5
     cases c0
     exact bB c rfl rfl (aD (bG (t:=0) bY e b9 rfl rfl) (bB c rfl rfl (aN n (bB c rfl rfl (aD (lA rfl rfl) (aD (bF (v:=zB (a4 == y)) c rfl rfl) (aG ⟨a4 == y,a,j,m,n,k,rfl,e⟩)))))))
    ·exact aU c rfl rfl (aU c rfl rfl (aU c rfl rfl (aU c rfl rfl (aU c rfl rfl (aU c rfl rfl (aU c rfl rfl (aU c rfl rfl (aD (bH (v:=zB false) c rfl rfl) (aG ⟨false,a,j,m,n,k,rfl,e⟩)))))))))
   ·exact aU b rfl rfl (aU b rfl rfl (aU b rfl rfl (aU b rfl rfl (aU b rfl rfl (aU b rfl rfl (aU b rfl rfl (aU b rfl rfl (aD (bH (v:=zB false) b rfl rfl) (aL (v:=zB false) (aU (by decide:¬ false=true) rfl rfl (aU (by decide:¬ false=true) rfl rfl (aU (by decide:¬ false=true) rfl rfl (aU (by decide:¬ false=true) rfl rfl (aU (by decide:¬ false=true) rfl rfl (aU (by decide:¬ false=true) rfl rfl (aU (by decide:¬ false=true) rfl rfl (aU (by decide:¬ false=true) rfl rfl (aD (bH (v:=zB false) (by decide:¬ false=true) rfl rfl) (aG ⟨false,a,j,m,n,k,rfl,e⟩)))))))))))))))))))
  ·refine aJ q rfl (cA (aV (aV ?_)))
   have c1:=J _ (zI a).symm
   subst c1
   have d:(aBG)=some R:=d
   exact bN (aA ⟨d,e⟩)
theorem aDn {d3 b1:(List UInt8)} {R:Bool} (hs:aI G K (L) w) (hG:G.lo=0) (h3:bX K a1 c2 d3) (h6:bX K a4 c5 b1) (d:vS d3 b1=some R):
  Calls Tryz.prog 3 ([zS a1 d3.length c2,zS a4 b1.length c5]:List Value).toArray w (gQ fun v w'=>v=zB R∧aI G K (L) w'):=by
 let h1:=zG
 refine aS Tryz.func3 rfl (by kernel_rfl) (by show (2:Nat)≤173;decide) ?_
 unfold vS at d
 refine aK (aF (v:=zB false) (aG (aO (aK (aL (v:=zS a1 d3.length c2) (aL (v:=zS a4 b1.length c5) ?_))))))
 obtain ⟨r7,q8,d⟩:=aC d
 refine aQ (vs:=[zS a1 d3.length c2,zS a4 b1.length c5]) Tryz.call4 rfl (aIl hs h3 h6 q8) ?_
 rintro _ w9 ⟨rfl,m5⟩
 refine aG ?_
 rcases aH d with ⟨h2,d⟩|⟨h2,d⟩
 ·refine aM h2 rfl (aK (aF (v:=zB true) (aG ?_)))
  obtain rfl:=zI d
  exact bK (aX (bE Tryz.results3 rfl ⟨rfl,m5⟩))
 ·refine aJ h2 rfl (aY (aA (aK (aL (v:=zS a1 d3.length c2) ?_))))
  obtain ⟨c,p4,d⟩:=aC d
  refine aQ (vs:=[zS a1 d3.length c2]) Tryz.call5 rfl (aJE m5 h3 p4) ?_
  rintro _ w23 ⟨j,k,e,h,n,o,l,m,rfl,p5⟩
  refine aL (v:=zT #[zA (zCa c.1 j k e h),zA (zCa c.2 n o l m)]) (aD (cH rfl rfl) (aD (cH rfl rfl) (cQ (vs:=h1) Tryz.zeroValue27 p5 rfl (fun c4 w26 p6=>(cQ (vs:=h1) Tryz.zeroValue27 p6 rfl (fun c6 w29 p7=>(cZ (i:=1) (ns:=(zC c.1 j k e h)) (us:=(zC c.1 j k e h)) Tryz.sizeOf27 p7 rfl rfl rfl rfl rfl (fO rfl) rfl rfl (fun p8 (p9:aI G K (box c6 27 h1::box c4 27 (zC c.1 j k e h)::aR 9 K j k c.1.L::aR 51 K e h c.1.E::aR 9 K n o c.2.L::aR 51 K l m c.2.E::L) p8)=>(cZ (i:=0) (ns:=(zC c.2 n o l m)) (us:=(zC c.2 n o l m)) Tryz.sizeOf27 p9 rfl rfl rfl rfl rfl (fO rfl) rfl rfl (fun q0 (q1:aI G K (box c6 27 (zC c.2 n o l m)::box c4 27 (zC c.1 j k e h)::aR 9 K j k c.1.L::aR 51 K e h c.1.E::aR 9 K n o c.2.L::aR 51 K l m c.2.E::L) q0)=>(aG (aK (aL (v:=zS a4 b1.length c5) ?_)))))))))))))
  obtain ⟨b0,q2,d⟩:=aC d
  refine aQ (vs:=[zS a4 b1.length c5,i64 40,i64 3]) Tryz.call6 rfl (aKI q1 h6 q2) ?_
  rintro _ w37 ⟨rfl,h4⟩
  refine aF (v:=i64 b0) (aG (aK (aD (cS (us:=(zC c.1 j k e h)) dB h4 (i:=1) rfl rfl rfl rfl) (aD (cS (us:=(zC c.2 n o l m)) dB h4 (i:=0) rfl rfl rfl rfl) (aL (v:=i64 b0) ?_)))))
  obtain ⟨K39,h5,q3,q4,q5⟩:=aI.lendS (i:=2) h4 (zR _) rfl
  obtain ⟨K44,h7,q6,q7,q9⟩:=aI.lendS (i:=2) q4 h5 rfl
  obtain ⟨K49,h8,r0,r1,r2⟩:=aI.lendS (i:=2) q7 (zL h5 h7) rfl
  obtain ⟨K54,h9,r3,r4,r5⟩:=aI.lendS (i:=2) r1 (zL (zL h5 h7) h8) rfl
  obtain ⟨a3,r6,d⟩:=aC d
  refine aQ (vs:=[zA (zCa c.1 j k e h),zA (zCa c.2 n o l m),i64 b0]) Tryz.call7 rfl (pY r4 hG (q3.mono (zL (zL h7 h8) h9)) (q6.mono (zL h8 h9)) (r0.mono h9) r3 r6) ?_
  rintro _ w61 ⟨rfl,r8⟩
  have r9:=r5 _ _ r8
  have s0:=r2 _ _ r9
  have s1:=q9 _ _ s0
  have i0:=q5 _ _ s1
  refine aL (v:=zT #[zB a3.1,i64 a3.2]) (aD (cH rfl rfl) (aD (cH rfl rfl) (aF (v:=zB a3.1) (aF (v:=i64 a3.2) (aG (aK (aD (cS (us:=(zC c.1 j k e h)) dB i0 (i:=5) rfl rfl rfl rfl) (aD (cS (us:=(zC c.2 n o l m)) dB i0 (i:=4) rfl rfl rfl rfl) (aL (v:=i64 b0) ?_)))))))))
  obtain ⟨K67,i1,s2,s3,s4⟩:=aI.lendS (i:=0) i0 (zR _) rfl
  obtain ⟨K72,i2,s5,s6,s7⟩:=aI.lendS (i:=0) s3 i1 rfl
  obtain ⟨K77,i3,s8,s9,t0⟩:=aI.lendS (i:=0) s6 (zL i1 i2) rfl
  obtain ⟨K82,i4,t1,t2,t3⟩:=aI.lendS (i:=0) s9 (zL (zL i1 i2) i3) rfl
  obtain ⟨r,t4,d⟩:=aC d
  refine aQ (vs:=[zA (zCa c.1 j k e h),zA (zCa c.2 n o l m),i64 b0]) Tryz.call8 rfl (aDU t2 hG (s2.mono (zL (zL i2 i3) i4)) (s5.mono (zL i3 i4)) (s8.mono i4) t1 t4) ?_
  rintro _ w93 ⟨a7,a8,a9,rfl,m6,t5⟩
  have t6:=t3 _ _ t5
  have t7:=t0 _ _ t6
  have t8:=s7 _ _ t7
  have i5:=s4 _ _ t8
  refine aL (v:=zT #[zS a7 r.1.length a8,i64 r.2]) (aD (cH rfl rfl) (aD (cH rfl rfl) (aF (v:=zS a7 r.1.length a8) (aF (v:=i64 r.2) (aG (aK (aD (cS (us:=(zC c.1 j k e h)) dB i5 (i:=7) rfl rfl rfl rfl) (aD (cS (us:=(zC c.2 n o l m)) dB i5 (i:=6) rfl rfl rfl rfl) ?_))))))))
  obtain ⟨K99,i6,t9,u0,u1⟩:=aI.lendS (i:=0) i5 (zR _) rfl
  obtain ⟨b01,i7,u2,u3,u4⟩:=aI.lendS (i:=0) u0 i6 rfl
  obtain ⟨b02,i8,u5,u6,u7⟩:=aI.lendS (i:=0) u3 (zL i6 i7) rfl
  obtain ⟨b03,i9,u8,u9,v0⟩:=aI.lendS (i:=0) u6 (zL (zL i6 i7) i8) rfl
  obtain ⟨q,v1,d⟩:=aC d
  refine aQ (vs:=[zA (zCa c.1 j k e h),zA (zCa c.2 n o l m),i64 0]) Tryz.call7 rfl (pY u9 hG (t9.mono (zL (zL i7 i8) i9)) (u2.mono (zL i8 i9)) (u5.mono i9) u8 v1) ?_
  rintro _ b04 ⟨rfl,v2⟩
  have v3:=v0 _ _ v2
  have v4:=u7 _ _ v3
  have v5:=u4 _ _ v4
  have j0:=u1 _ _ v5
  refine aL (v:=zT #[zB q.1,i64 q.2]) (aD (cH rfl rfl) (aD (cH rfl rfl) (aF (v:=zB q.1) (aF (v:=i64 q.2) (aG (aK (aD (cS (us:=(zC c.1 j k e h)) dB j0 (i:=7) rfl rfl rfl rfl) (aD (cS (us:=(zC c.2 n o l m)) dB j0 (i:=6) rfl rfl rfl rfl) ?_))))))))
  obtain ⟨b05,j1,v6,v7,v8⟩:=aI.lendS (i:=0) j0 (zR _) rfl
  obtain ⟨b06,j2,v9,w0,w1⟩:=aI.lendS (i:=0) v7 j1 rfl
  obtain ⟨b07,j3,w2,w3,w4⟩:=aI.lendS (i:=0) w0 (zL j1 j2) rfl
  obtain ⟨b08,j4,w5,w6,w7⟩:=aI.lendS (i:=0) w3 (zL (zL j1 j2) j3) rfl
  obtain ⟨a2,w8,d⟩:=aC d
  refine aQ (vs:=[zA (zCa c.1 j k e h),zA (zCa c.2 n o l m),i64 1]) Tryz.call7 rfl (pY w6 hG (v6.mono (zL (zL j2 j3) j4)) (v9.mono (zL j3 j4)) (w2.mono j4) w5 w8) ?_
  rintro _ b09 ⟨rfl,x0⟩
  have x1:=w7 _ _ x0
  have x2:=w4 _ _ x1
  have x3:=w1 _ _ x2
  have j5:=v8 _ _ x3
  refine aL (v:=zT #[zB a2.1,i64 a2.2]) (aD (cH rfl rfl) (aD (cH rfl rfl) (aF (v:=zB a2.1) (aF (v:=i64 a2.2) (aG (aK (aD (cS (us:=(zC c.1 j k e h)) dB j5 (i:=7) rfl rfl rfl rfl) (aD (cS (us:=(zC c.2 n o l m)) dB j5 (i:=6) rfl rfl rfl rfl) ?_))))))))
  obtain ⟨b10,j6,x4,x5,x6⟩:=aI.lendS (i:=0) j5 (zR _) rfl
  obtain ⟨b11,j7,x7,x8,x9⟩:=aI.lendS (i:=0) x5 j6 rfl
  obtain ⟨b12,j8,y0,y1,y2⟩:=aI.lendS (i:=0) x8 (zL j6 j7) rfl
  obtain ⟨b13,j9,y3,y4,y5⟩:=aI.lendS (i:=0) y1 (zL (zL j6 j7) j8) rfl
  obtain ⟨p,y6,d⟩:=aC d
  refine aQ (vs:=[zA (zCa c.1 j k e h),zA (zCa c.2 n o l m),i64 2]) Tryz.call7 rfl (pY y4 hG (x4.mono (zL (zL j7 j8) j9)) (x7.mono (zL j8 j9)) (y0.mono j9) y3 y6) ?_
  rintro _ b14 ⟨rfl,y7⟩
  have y8:=y5 _ _ y7
  have y9:=y2 _ _ y8
  have z0:=x9 _ _ y9
  have k0:=x6 _ _ z0
  refine aL (v:=zT #[zB p.1,i64 p.2]) (aD (cH rfl rfl) (aD (cH rfl rfl) (aF (v:=zB p.1) (aF (v:=i64 p.2) (aG (aK (aD (cS (us:=(zC c.1 j k e h)) dB k0 (i:=7) rfl rfl rfl rfl) (aD (cS (us:=(zC c.2 n o l m)) dB k0 (i:=6) rfl rfl rfl rfl) ?_))))))))
  obtain ⟨b15,k1,z1,z2,z3⟩:=aI.lendS (i:=0) k0 (zR _) rfl
  obtain ⟨b16,k2,z4,z5,z6⟩:=aI.lendS (i:=0) z2 k1 rfl
  obtain ⟨b17,k3,z7,z8,z9⟩:=aI.lendS (i:=0) z5 (zL k1 k2) rfl
  obtain ⟨b18,k4,a00,a01,a02⟩:=aI.lendS (i:=0) z8 (zL (zL k1 k2) k3) rfl
  obtain ⟨b4,a03,d⟩:=aC d
  refine aQ (vs:=[zA (zCa c.1 j k e h),zA (zCa c.2 n o l m)]) Tryz.call9 rfl (aDV a01 hG (z1.mono (zL (zL k2 k3) k4)) (z4.mono (zL k3 k4)) (z7.mono k4) a00 a03) ?_
  rintro _ b19 ⟨rfl,a04⟩
  have a05:=a02 _ _ a04
  have a06:=z9 _ _ a05
  have a07:=z6 _ _ a06
  have k5:=z3 _ _ a07
  refine aL (v:=zT #[zB b4.1,i64 b4.2]) (aD (cH rfl rfl) (aD (cH rfl rfl) (aF (v:=zB b4.1) (aF (v:=i64 b4.2) (aG (aK (aD (cS (us:=(zC c.1 j k e h)) dB k5 (i:=7) rfl rfl rfl rfl) (aD (cS (us:=(zC c.1 j k e h)) dB k5 (i:=7) rfl rfl rfl rfl) (aL (v:=i64 b0) ?_)))))))))
  obtain ⟨b20,a08,m7,a09,a10⟩:=aI.lendS (i:=0) k5 (zR _) rfl
  obtain ⟨b21,m8,m9,a11,a12⟩:=aI.lendS (i:=0) a09 a08 rfl
  obtain ⟨c7,a13,d⟩:=aC d
  refine aQ (vs:=[zA (zCa c.1 j k e h),zA (zCa c.1 j k e h),i64 b0]) Tryz.call7 rfl (pY a11 hG (m7.mono m8) m9 (m7.mono m8) m9 a13) ?_
  rintro _ b22 ⟨rfl,a14⟩
  have a16:=a12 _ _ a14
  have d4:=a10 _ _ a16
  refine aL (v:=zT #[zB c7.1,i64 c7.2]) (aD (cH rfl rfl) (aD (cH rfl rfl) (aF (v:=zB c7.1) (aF (v:=i64 c7.2) (aG (aO (aO (dO (fun f w=>∃ (k6:Bool),dD b1 c b0 a3 r q a2 p b4 k6=some R∧f 1=zS a4 b1.length c5∧f 5=zP (some ⟨c4,0,none⟩)∧f 6=zP (some ⟨c6,0,none⟩)∧f 7=i64 b0∧f 8=zB a3.1∧f 10=zS a7 r.1.length a8∧f 11=i64 r.2∧f 12=zB q.1∧f 14=zB a2.1∧f 16=zB p.1∧f 18=zB b4.1∧f 104=zB k6∧aI G K (aR 9 K j k c.1.L::aR 51 K e h c.1.E::aR 9 K n o c.2.L::aR 51 K l m c.2.E::aR 40 K a7 a8 (bU a9 r.1)::rows [2] a9 r.1::box c6 27 (zC c.2 n o l m)::box c4 27 (zC c.1 j k e h)::L) w) ?_ ?_))))))))
  ·rintro f b23 ⟨k6,d,V,x,y,z,u,J,a18,b2,f8,d1,n0,n1,a5⟩
   unfold dD at d
   refine aA ?_
   rcases aH d with ⟨k7,d⟩|⟨k7,d⟩
   ·refine aM k7 n1 (aK (aF (v:=zB false) (aG ?_)))
    obtain rfl:=zI d
    exact bK (aX (bE Tryz.results3 rfl ⟨rfl,(aI.arr 8 [] a5 rfl)⟩))
   ·refine aJ k7 n1 (aY (aA (aO (aO (dO (fun f w=>∃ (k8:Bool),bV b1 c b0 a3 r k8=some R∧f 1=zS a4 b1.length c5∧f 5=zP (some ⟨c4,0,none⟩)∧f 6=zP (some ⟨c6,0,none⟩)∧f 7=i64 b0∧f 8=zB a3.1∧f 10=zS a7 r.1.length a8∧f 140=zB k8∧aI G K (aR 9 K j k c.1.L::aR 51 K e h c.1.E::aR 9 K n o c.2.L::aR 51 K l m c.2.E::aR 40 K a7 a8 (bU a9 r.1)::rows [2] a9 r.1::box c6 27 (zC c.2 n o l m)::box c4 27 (zC c.1 j k e h)::L) w) ?_ ?_)))))
    ·rintro f g2 ⟨k8,d,a22,n2,n3,a23,a24,a25,n4,g3⟩
     unfold bV at d
     refine aA ?_
     rcases aH d with ⟨k9,d⟩|⟨k9,d⟩
     ·refine aM k9 n4 (aK (aF (v:=zB false) (aG ?_)))
      obtain rfl:=zI d
      exact bK (aX (bE Tryz.results3 rfl ⟨rfl,(aI.arr 8 [] g3 rfl)⟩))
     ·refine aJ k9 n4 (aY (aA (aK (aN a22 (aD (cS (us:=(zC c.1 j k e h)) dB g3 (i:=7) rfl n2 rfl rfl) (aD (cS (us:=(zC c.2 n o l m)) dB g3 (i:=6) rfl n3 rfl rfl) ?_))))))
      obtain ⟨a27,d5,n5,l0⟩:=aI.giveS (i:=0) g3 (zR _) rfl
      replace l0:aI G a27 (aR 51 K e h c.1.E::aR 9 K n o c.2.L::aR 51 K l m c.2.E::aR 40 K a7 a8 (bU a9 r.1)::rows [2] a9 r.1::box c6 27 (zC c.2 n o l m)::box c4 27 (zC c.1 j k e h)::L) g2:=l0
      obtain ⟨a28,d2,n6,l1⟩:=aI.giveS (i:=0) l0 d5 rfl
      replace l1:aI G a28 (aR 9 K n o c.2.L::aR 51 K l m c.2.E::aR 40 K a7 a8 (bU a9 r.1)::rows [2] a9 r.1::box c6 27 (zC c.2 n o l m)::box c4 27 (zC c.1 j k e h)::L) g2:=l1
      obtain ⟨a29,d0,n7,l2⟩:=aI.giveS (i:=0) l1 (zL d5 d2) rfl
      replace l2:aI G a29 (aR 51 K l m c.2.E::aR 40 K a7 a8 (bU a9 r.1)::rows [2] a9 r.1::box c6 27 (zC c.2 n o l m)::box c4 27 (zC c.1 j k e h)::L) g2:=l2
      obtain ⟨a30,c8,n8,l3⟩:=aI.giveS (i:=0) l2 (zL (zL d5 d2) d0) rfl
      replace l3:aI G a30 (aR 40 K a7 a8 (bU a9 r.1)::rows [2] a9 r.1::box c6 27 (zC c.2 n o l m)::box c4 27 (zC c.1 j k e h)::L) g2:=l3
      obtain ⟨d6,a31,d⟩:=aC d
      refine aQ (vs:=[zS a4 b1.length c5,zA (zCa c.1 j k e h),zA (zCa c.2 n o l m),zB false]) Tryz.call11 rfl (aHs (a:=⟨c.1.N,c.1.I,c.1.L,c.1.E⟩) (b:=⟨c.2.N,c.2.I,c.2.L,c.2.E⟩) l3 (h6.mono (zL (zL (zL d5 d2) d0) c8)) (n5.mono (zL (zL d2 d0) c8)) (n6.mono (zL d0 c8)) (n7.mono c8) n8 a31) ?_
      rintro _ b24 ⟨l4,f9,g0,rfl,d7,l5⟩
      refine aF (v:=zS f9 d6.length g0) (aG (aO (aK (aD (cS (us:=(zC c.1 j k e h)) dB l5 (i:=4) rfl n2 rfl rfl) (aD (cS (us:=(zC c.2 n o l m)) dB l5 (i:=3) rfl n3 rfl rfl) (aN a23 (aL (v:=zS f9 d6.length g0) ?_)))))))
      obtain ⟨b26,g4,a32,a33,a34⟩:=aI.lendS (i:=0) l5 (zR _) rfl
      obtain ⟨b27,a35,d⟩:=aC d
      refine aQ (vs:=[zA (zCa c.1 j k e h),zA (zCa c.2 n o l m),i64 b0,zS f9 d6.length g0]) Tryz.call10 rfl (yH a33 hG (n5.mono (zL (zL (zL (zL d2 d0) c8) d7) g4)) (n6.mono (zL (zL (zL d0 c8) d7) g4)) (n7.mono (zL (zL c8 d7) g4)) (n8.mono (zL d7 g4)) a32 a35) ?_
      rintro _ b29 ⟨rfl,a36⟩
      have n9:=a34 _ _ a36
      refine aD (eR rfl) (aG ?_)
      rcases aH d with ⟨l6,d⟩|⟨l6,d⟩
      ·refine aM l6 rfl (aK (aF (v:=zB true) (aG ?_)))
       obtain rfl:=zI d
       exact bK (aX (bE Tryz.results3 rfl ⟨rfl,(aI.weakK (aI.arr 5 [] n9 rfl) (zL (zL (zL (zL d5 d2) d0) c8) d7))⟩))
      ·refine aJ l6 rfl (aY (aA (aO (aK (aF (v:=i64 0) (aG (aZ (fun f w=>nB a3=some R∧f 8=zB a3.1∧aI G l4 (L) w) ?_ ?_)))))))
       ·rintro f b30 ⟨d,a38,a39⟩
        unfold nB at d
        refine aA (aK (aN a38 (aF (v:=zB a3.1) (aG ?_))))
        obtain rfl:=zI d
        exact bK (bE Tryz.results3 rfl ⟨rfl,(aI.weakK a39 (zL (zL (zL (zL d5 d2) d0) c8) d7))⟩)
       obtain ⟨b31,a41,d⟩:=aC d
       refine cC a41 (fun (g1:Int) f w=>f 8=zB a3.1∧f 10=zS a7 r.1.length a8∧f 22=zS f9 d6.length g0∧f 23=i64 g1∧aI G l4 (aR 40 l4 f9 g0 d6::aR 40 K a7 a8 (bU a9 r.1)::rows [2] a9 r.1::L) w) ?_ ?_
       ·exact ⟨a24,a25,rfl,rfl,(aI.arr 5 [0,1,2] n9 rfl)⟩
       ·rintro g1 a42 f b32 a0 o0 ⟨o1,o2,g5,g6,o3⟩
        replace a0:fR r d6 g1=some a42:=a0
        unfold fR at a0
        refine aO (aK (aN g6 (aN g5 (aD (bT (len:=d6.length) fD rfl) (aD (cT rfl rfl) (aG ?_))))))
        rcases aH a0 with ⟨l7,a0⟩|⟨l7,a0⟩
        ·refine aM l7 rfl (aY (aA (aO (cI (aO ?_)))))
         obtain ⟨b33,b34,o4,a43,a44⟩:=aI.lendS (i:=0) o3 (zR _) rfl
         obtain ⟨a45,o5,a46,b35,Z,a47⟩:=aI.lendD' (i:=0) a43 m6 rfl rfl
         refine eL (C:=fun w'=>aI G a45 (L) w') bP (by kernel_rfl) (aI.mono Z (dN.drew _)) (bC (fun _ Z=>aW o2) (bC (fun _ Z=>aW g5) (bC (fun _ Z=>aW g6) ?_)))
         obtain ⟨b36,g7,a0⟩:=aC a0
         have o6:=aEQ (o4.mono o5) g7
         refine bC (fun _ Z=>eM fD rfl o6 rfl rfl rfl g7) ?_
         obtain ⟨b37,o7,a48⟩:=bX.el (sz:=1) rfl (o4.mono o5) g7
         obtain ⟨b38,b39,rfl,g8⟩:=a48
         refine bC (fun _ Z=>bG (t:=0) sD Z o7 rfl rfl) ?_
         obtain ⟨a49,o8,a0⟩:=aC a0
         refine bC (fun _ Z=>cU bO rfl g8 rfl rfl rfl o8) ?_
         obtain ⟨b40,a50,a51⟩:=bX.el (sz:=1) rfl g8 o8
         cases a51
         refine bC (fun _ Z=>bG (t:=0) bY Z a50 rfl rfl) (bC (fun _ Z=>aW g5) (bC (fun _ Z=>aW g6) (bC (fun _ Z=>eM fD rfl o6 rfl rfl rfl g7) (bC (fun _ Z=>bG (t:=0) sD Z o7 rfl rfl) ?_))))
         obtain ⟨a52,o9,a0⟩:=aC a0
         refine bC (fun _ Z=>cU bO rfl g8 rfl rfl rfl o9) ?_
         obtain ⟨b41,a53,a54⟩:=bX.el (sz:=1) rfl g8 o9
         cases a54
         refine bC (fun _ Z=>bG (t:=0) bY Z a53 rfl rfl) ?_
         obtain ⟨a55,a56,a0⟩:=aC a0
         refine yW (vs:=[zS a7 r.1.length a8,i64 a49,i64 a52]) (v:=zB a55) Tryz.call12 rfl (fun _ Z=>(aIs Z a46 a56)) (bC (fun _ Z=>eR rfl) (fT (fun b42 a57=>?_)))
         have a58:=a47 _ _ a57
         have p0:=a44 _ _ a58
         refine aA ?_
         rcases aH a0 with ⟨l8,a0⟩|⟨l8,a0⟩
         ·refine aM l8 rfl (aK (aF (v:=zB false) (aG (bK (bS (aX (aX ?_)))))))
          have a59:=o0 _ (zI a0).symm
          subst a59
          have d:(some false)=some R:=d
          obtain rfl:=zI d
          exact bS (aX (aX (bE Tryz.results3 rfl ⟨rfl,(aI.weakK (aI.arr 3 [] p0 rfl) (zL (zL (zL (zL d5 d2) d0) c8) d7))⟩)))
         ·exact aJ l8 rfl (aY (bA (aA (aP (aN g6 (aD (cK rfl rfl) (aF (v:=i64 (wr (g1+1))) (aG ⟨wr (g1+1),(zI a0).symm,o1,o2,g5,rfl,p0⟩))))))))
        ·refine aJ l7 rfl (cA (aV (aV ?_)))
         have a61:=o0 _ (zI a0).symm
         subst a61
         have d:(nB a3)=some R:=d
         exact bN (aA ⟨d,o1,(aI.arr 3 [] o3 rfl)⟩)
    refine aP (aN a18 (aD (lA rfl rfl) (aN u (aD (R_neqB Tryz.runUnderlying4 rfl rfl) (aL (v:=zB ((r.2 == 0) != a3.1)) ?_)))))
    rcases aH d with ⟨b5,d⟩|⟨b5,d⟩
    ·refine aT b5 rfl rfl (aT b5 rfl rfl (cE (g:=111) rfl rfl (cE (g:=111) rfl rfl (cE (g:=111) rfl rfl (cE (g:=111) rfl rfl (cE (g:=111) rfl rfl (cE (g:=111) rfl rfl (aT b5 rfl rfl (aD (bF (v:=zB true) b5 rfl rfl) (aL (v:=zB true) (aT (rfl:true=true) rfl rfl (aT (rfl:true=true) rfl rfl (cE (g:=122) rfl rfl (cE (g:=122) rfl rfl (aT (rfl:true=true) rfl rfl (aD (bF (v:=zB true) (rfl:true=true) rfl rfl) (aL (v:=zB true) (aT (rfl:true=true) rfl rfl (aT (rfl:true=true) rfl rfl (cE (g:=129) rfl rfl (cE (g:=129) rfl rfl (aT (rfl:true=true) rfl rfl (aD (bF (v:=zB true) (rfl:true=true) rfl rfl) ?_)))))))))))))))))))))))
     exact aL (v:=zB true) (aT (rfl:true=true) rfl rfl (aT (rfl:true=true) rfl rfl (cE (g:=136) rfl rfl (cE (g:=136) rfl rfl (aT (rfl:true=true) rfl rfl (aD (bF (v:=zB true) (rfl:true=true) rfl rfl) (aG ⟨true,d,V,x,y,z,u,J,rfl,a5⟩)))))))
    ·refine bD b5 rfl rfl (aN u (bD b5 rfl rfl (aL (v:=zB a3.1) ?_)))
     rcases aH d with ⟨a6,d⟩|⟨a6,d⟩
     ·refine bB a6 rfl rfl (aD (cS (us:=(zC c.1 j k e h)) dB a5 (i:=7) rfl x rfl rfl) (bB a6 rfl rfl (aD (cS (us:=(zC c.2 n o l m)) dB a5 (i:=6) rfl y rfl rfl) (bB a6 rfl rfl (aN z (bB a6 rfl rfl (aN J (bB a6 rfl rfl ?_))))))))
      obtain ⟨b43,l9,a62,a63,a64⟩:=aI.lendS (i:=0) a5 (zR _) rfl
      obtain ⟨b44,m0,a65,a66,a67⟩:=aI.lendS (i:=0) a63 l9 rfl
      obtain ⟨b45,m1,a68,a69,a70⟩:=aI.lendS (i:=0) a66 (zL l9 m0) rfl
      obtain ⟨b46,m2,a71,a72,a73⟩:=aI.lendS (i:=0) a69 (zL (zL l9 m0) m1) rfl
      obtain ⟨b47,g9,a74,b48,a75,a76⟩:=aI.lendD' (i:=0) a72 m6 rfl rfl
      obtain ⟨m3,a77,d⟩:=aC d
      refine aQ (vs:=[zA (zCa c.1 j k e h),zA (zCa c.2 n o l m),i64 b0,zS a7 r.1.length a8]) Tryz.call10 rfl (yH a75 hG (a62.mono (zL (zL (zL m0 m1) m2) g9)) (a65.mono (zL (zL m1 m2) g9)) (a68.mono (zL m2 g9)) (a71.mono g9) a74 a77) ?_
      rintro _ b49 ⟨rfl,a78⟩
      have a79:=a76 _ _ a78
      have a80:=a73 _ _ a79
      have a81:=a70 _ _ a80
      have a82:=a67 _ _ a81
      have b3:=a64 _ _ a82
      refine bB a6 rfl rfl (aD (eR rfl) (bD b5 rfl rfl (aD (bF (v:=zB (!m3)) a6 rfl rfl) (aD (bH (v:=zB (!m3)) b5 rfl rfl) (aL (v:=zB (!m3)) ?_)))))
      rcases aH d with ⟨b6,d⟩|⟨b6,d⟩
      ·exact aT b6 rfl rfl (aT b6 rfl rfl (cE (g:=122) rfl rfl (cE (g:=122) rfl rfl (aT b6 rfl rfl (aD (bF (v:=zB true) b6 rfl rfl) (aL (v:=zB true) (aT (rfl:true=true) rfl rfl (aT (rfl:true=true) rfl rfl (cE (g:=129) rfl rfl (cE (g:=129) rfl rfl (aT (rfl:true=true) rfl rfl (aD (bF (v:=zB true) (rfl:true=true) rfl rfl) (aL (v:=zB true) (aT (rfl:true=true) rfl rfl (aT (rfl:true=true) rfl rfl (cE (g:=136) rfl rfl (cE (g:=136) rfl rfl (aT (rfl:true=true) rfl rfl (aD (bF (v:=zB true) (rfl:true=true) rfl rfl) (aG ⟨true,d,V,x,y,z,u,J,rfl,b3⟩))))))))))))))))))))
      ·refine bD b6 rfl rfl (aN n0 (bD b6 rfl rfl (aL (v:=zB b4.1) ?_)))
       rcases aH d with ⟨d8,d⟩|⟨d8,d⟩
       ·refine bB d8 rfl rfl (aN f8 (bB d8 rfl rfl (aD (eR rfl) (bD b6 rfl rfl (aD (bF (v:=zB (!a2.1)) d8 rfl rfl) (aD (bH (v:=zB (!a2.1)) b6 rfl rfl) (aL (v:=zB (!a2.1)) ?_)))))))
        rcases aH d with ⟨b7,d⟩|⟨b7,d⟩
        ·exact aT b7 rfl rfl (aT b7 rfl rfl (cE (g:=129) rfl rfl (cE (g:=129) rfl rfl (aT b7 rfl rfl (aD (bF (v:=zB true) b7 rfl rfl) (aL (v:=zB true) (aT (rfl:true=true) rfl rfl (aT (rfl:true=true) rfl rfl (cE (g:=136) rfl rfl (cE (g:=136) rfl rfl (aT (rfl:true=true) rfl rfl (aD (bF (v:=zB true) (rfl:true=true) rfl rfl) (aG ⟨true,d,V,x,y,z,u,J,rfl,b3⟩)))))))))))))
        ·refine bD b7 rfl rfl (aN f8 (bD b7 rfl rfl (aL (v:=zB a2.1) ?_)))
         rcases aH d with ⟨d9,d⟩|⟨d9,d⟩
         ·refine bB d9 rfl rfl (aN b2 (bB d9 rfl rfl (aD (eR rfl) (bD b7 rfl rfl (aD (bF (v:=zB (!q.1)) d9 rfl rfl) (aD (bH (v:=zB (!q.1)) b7 rfl rfl) (aL (v:=zB (!q.1)) ?_)))))))
          rcases aH d with ⟨b8,d⟩|⟨b8,d⟩
          ·exact aT b8 rfl rfl (aT b8 rfl rfl (cE (g:=136) rfl rfl (cE (g:=136) rfl rfl (aT b8 rfl rfl (aD (bF (v:=zB true) b8 rfl rfl) (aG ⟨true,d,V,x,y,z,u,J,rfl,b3⟩))))))
          ·refine bD b8 rfl rfl (aN b2 (bD b8 rfl rfl (aL (v:=zB q.1) ?_)))
           rcases aH d with ⟨e0,d⟩|⟨e0,d⟩
           ·exact bB e0 rfl rfl (aN d1 (bB e0 rfl rfl (aD (eR rfl) (bD b8 rfl rfl (aD (bF (v:=zB (!p.1)) e0 rfl rfl) (aD (bH (v:=zB (!p.1)) b8 rfl rfl) (aG ⟨!p.1,d,V,x,y,z,u,J,rfl,b3⟩)))))))
           ·exact aU e0 rfl rfl (aU e0 rfl rfl (bD b8 rfl rfl (aD (bH (v:=zB false) e0 rfl rfl) (aD (bH (v:=zB false) b8 rfl rfl) (aG ⟨false,d,V,x,y,z,u,J,rfl,b3⟩)))))
         ·refine aU d9 rfl rfl (aU d9 rfl rfl (bD b7 rfl rfl (aD (bH (v:=zB false) d9 rfl rfl) (aD (bH (v:=zB false) b7 rfl rfl) (aL (v:=zB false) (bD (by decide:¬ false=true) rfl rfl (aN b2 (bD (by decide:¬ false=true) rfl rfl (aL (v:=zB q.1) ?_)))))))))
          rcases aH d with ⟨e1,d⟩|⟨e1,d⟩
          ·exact bB e1 rfl rfl (aN d1 (bB e1 rfl rfl (aD (eR rfl) (bD (by decide:¬ false=true) rfl rfl (aD (bF (v:=zB (!p.1)) e1 rfl rfl) (aD (bH (v:=zB (!p.1)) (by decide:¬ false=true) rfl rfl) (aG ⟨!p.1,d,V,x,y,z,u,J,rfl,b3⟩)))))))
          ·exact aU e1 rfl rfl (aU e1 rfl rfl (bD (by decide:¬ false=true) rfl rfl (aD (bH (v:=zB false) e1 rfl rfl) (aD (bH (v:=zB false) (by decide:¬ false=true) rfl rfl) (aG ⟨false,d,V,x,y,z,u,J,rfl,b3⟩)))))
       ·refine aU d8 rfl rfl (aU d8 rfl rfl (bD b6 rfl rfl (aD (bH (v:=zB false) d8 rfl rfl) (aD (bH (v:=zB false) b6 rfl rfl) (aL (v:=zB false) (bD (by decide:¬ false=true) rfl rfl (aN f8 (bD (by decide:¬ false=true) rfl rfl (aL (v:=zB a2.1) ?_)))))))))
        rcases aH d with ⟨e2,d⟩|⟨e2,d⟩
        ·refine bB e2 rfl rfl (aN b2 (bB e2 rfl rfl (aD (eR rfl) (bD (by decide:¬ false=true) rfl rfl (aD (bF (v:=zB (!q.1)) e2 rfl rfl) (aD (bH (v:=zB (!q.1)) (by decide:¬ false=true) rfl rfl) (aL (v:=zB (!q.1)) ?_)))))))
         rcases aH d with ⟨b9,d⟩|⟨b9,d⟩
         ·exact aT b9 rfl rfl (aT b9 rfl rfl (cE (g:=136) rfl rfl (cE (g:=136) rfl rfl (aT b9 rfl rfl (aD (bF (v:=zB true) b9 rfl rfl) (aG ⟨true,d,V,x,y,z,u,J,rfl,b3⟩))))))
         ·refine bD b9 rfl rfl (aN b2 (bD b9 rfl rfl (aL (v:=zB q.1) ?_)))
          rcases aH d with ⟨e3,d⟩|⟨e3,d⟩
          ·exact bB e3 rfl rfl (aN d1 (bB e3 rfl rfl (aD (eR rfl) (bD b9 rfl rfl (aD (bF (v:=zB (!p.1)) e3 rfl rfl) (aD (bH (v:=zB (!p.1)) b9 rfl rfl) (aG ⟨!p.1,d,V,x,y,z,u,J,rfl,b3⟩)))))))
          ·exact aU e3 rfl rfl (aU e3 rfl rfl (bD b9 rfl rfl (aD (bH (v:=zB false) e3 rfl rfl) (aD (bH (v:=zB false) b9 rfl rfl) (aG ⟨false,d,V,x,y,z,u,J,rfl,b3⟩)))))
        ·refine aU e2 rfl rfl (aU e2 rfl rfl (bD (by decide:¬ false=true) rfl rfl (aD (bH (v:=zB false) e2 rfl rfl) (aD (bH (v:=zB false) (by decide:¬ false=true) rfl rfl) (aL (v:=zB false) (bD (by decide:¬ false=true) rfl rfl (aN b2 (bD (by decide:¬ false=true) rfl rfl (aL (v:=zB q.1) ?_)))))))))
         rcases aH d with ⟨e4,d⟩|⟨e4,d⟩
         ·exact bB e4 rfl rfl (aN d1 (bB e4 rfl rfl (aD (eR rfl) (bD (by decide:¬ false=true) rfl rfl (aD (bF (v:=zB (!p.1)) e4 rfl rfl) (aD (bH (v:=zB (!p.1)) (by decide:¬ false=true) rfl rfl) (aG ⟨!p.1,d,V,x,y,z,u,J,rfl,b3⟩)))))))
         ·exact aU e4 rfl rfl (aU e4 rfl rfl (bD (by decide:¬ false=true) rfl rfl (aD (bH (v:=zB false) e4 rfl rfl) (aD (bH (v:=zB false) (by decide:¬ false=true) rfl rfl) (aG ⟨false,d,V,x,y,z,u,J,rfl,b3⟩)))))
     ·refine aU a6 rfl rfl (aU a6 rfl rfl (aU a6 rfl rfl (aU a6 rfl rfl (aU a6 rfl rfl (aU a6 rfl rfl (bD b5 rfl rfl (aD (bH (v:=zB false) a6 rfl rfl) (aD (bH (v:=zB false) b5 rfl rfl) (aL (v:=zB false) (bD (by decide:¬ false=true) rfl rfl (aN n0 (bD (by decide:¬ false=true) rfl rfl (aL (v:=zB b4.1) ?_)))))))))))))
      rcases aH d with ⟨e5,d⟩|⟨e5,d⟩
      ·refine bB e5 rfl rfl (aN f8 (bB e5 rfl rfl (aD (eR rfl) (bD (by decide:¬ false=true) rfl rfl (aD (bF (v:=zB (!a2.1)) e5 rfl rfl) (aD (bH (v:=zB (!a2.1)) (by decide:¬ false=true) rfl rfl) (aL (v:=zB (!a2.1)) ?_)))))))
       rcases aH d with ⟨c0,d⟩|⟨c0,d⟩
       ·exact aT c0 rfl rfl (aT c0 rfl rfl (cE (g:=129) rfl rfl (cE (g:=129) rfl rfl (aT c0 rfl rfl (aD (bF (v:=zB true) c0 rfl rfl) (aL (v:=zB true) (aT (rfl:true=true) rfl rfl (aT (rfl:true=true) rfl rfl (cE (g:=136) rfl rfl (cE (g:=136) rfl rfl (aT (rfl:true=true) rfl rfl (aD (bF (v:=zB true) (rfl:true=true) rfl rfl) (aG ⟨true,d,V,x,y,z,u,J,rfl,a5⟩)))))))))))))
       ·refine bD c0 rfl rfl (aN f8 (bD c0 rfl rfl (aL (v:=zB a2.1) ?_)))
        rcases aH d with ⟨e6,d⟩|⟨e6,d⟩
        ·refine bB e6 rfl rfl (aN b2 (bB e6 rfl rfl (aD (eR rfl) (bD c0 rfl rfl (aD (bF (v:=zB (!q.1)) e6 rfl rfl) (aD (bH (v:=zB (!q.1)) c0 rfl rfl) (aL (v:=zB (!q.1)) ?_)))))))
         rcases aH d with ⟨c1,d⟩|⟨c1,d⟩
         ·exact aT c1 rfl rfl (aT c1 rfl rfl (cE (g:=136) rfl rfl (cE (g:=136) rfl rfl (aT c1 rfl rfl (aD (bF (v:=zB true) c1 rfl rfl) (aG ⟨true,d,V,x,y,z,u,J,rfl,a5⟩))))))
         ·refine bD c1 rfl rfl (aN b2 (bD c1 rfl rfl (aL (v:=zB q.1) ?_)))
          rcases aH d with ⟨e7,d⟩|⟨e7,d⟩
          ·exact bB e7 rfl rfl (aN d1 (bB e7 rfl rfl (aD (eR rfl) (bD c1 rfl rfl (aD (bF (v:=zB (!p.1)) e7 rfl rfl) (aD (bH (v:=zB (!p.1)) c1 rfl rfl) (aG ⟨!p.1,d,V,x,y,z,u,J,rfl,a5⟩)))))))
          ·exact aU e7 rfl rfl (aU e7 rfl rfl (bD c1 rfl rfl (aD (bH (v:=zB false) e7 rfl rfl) (aD (bH (v:=zB false) c1 rfl rfl) (aG ⟨false,d,V,x,y,z,u,J,rfl,a5⟩)))))
        ·refine aU e6 rfl rfl (aU e6 rfl rfl (bD c0 rfl rfl (aD (bH (v:=zB false) e6 rfl rfl) (aD (bH (v:=zB false) c0 rfl rfl) (aL (v:=zB false) (bD (by decide:¬ false=true) rfl rfl (aN b2 (bD (by decide:¬ false=true) rfl rfl (aL (v:=zB q.1) ?_)))))))))
         rcases aH d with ⟨e8,d⟩|⟨e8,d⟩
         ·exact bB e8 rfl rfl (aN d1 (bB e8 rfl rfl (aD (eR rfl) (bD (by decide:¬ false=true) rfl rfl (aD (bF (v:=zB (!p.1)) e8 rfl rfl) (aD (bH (v:=zB (!p.1)) (by decide:¬ false=true) rfl rfl) (aG ⟨!p.1,d,V,x,y,z,u,J,rfl,a5⟩)))))))
         ·exact aU e8 rfl rfl (aU e8 rfl rfl (bD (by decide:¬ false=true) rfl rfl (aD (bH (v:=zB false) e8 rfl rfl) (aD (bH (v:=zB false) (by decide:¬ false=true) rfl rfl) (aG ⟨false,d,V,x,y,z,u,J,rfl,a5⟩)))))
      ·refine aU e5 rfl rfl (aU e5 rfl rfl (bD (by decide:¬ false=true) rfl rfl (aD (bH (v:=zB false) e5 rfl rfl) (aD (bH (v:=zB false) (by decide:¬ false=true) rfl rfl) (aL (v:=zB false) (bD (by decide:¬ false=true) rfl rfl (aN f8 (bD (by decide:¬ false=true) rfl rfl (aL (v:=zB a2.1) ?_)))))))))
       rcases aH d with ⟨e9,d⟩|⟨e9,d⟩
       ·refine bB e9 rfl rfl (aN b2 (bB e9 rfl rfl (aD (eR rfl) (bD (by decide:¬ false=true) rfl rfl (aD (bF (v:=zB (!q.1)) e9 rfl rfl) (aD (bH (v:=zB (!q.1)) (by decide:¬ false=true) rfl rfl) (aL (v:=zB (!q.1)) ?_)))))))
        rcases aH d with ⟨c3,d⟩|⟨c3,d⟩
        ·exact aT c3 rfl rfl (aT c3 rfl rfl (cE (g:=136) rfl rfl (cE (g:=136) rfl rfl (aT c3 rfl rfl (aD (bF (v:=zB true) c3 rfl rfl) (aG ⟨true,d,V,x,y,z,u,J,rfl,a5⟩))))))
        ·refine bD c3 rfl rfl (aN b2 (bD c3 rfl rfl (aL (v:=zB q.1) ?_)))
         rcases aH d with ⟨f0,d⟩|⟨f0,d⟩
         ·exact bB f0 rfl rfl (aN d1 (bB f0 rfl rfl (aD (eR rfl) (bD c3 rfl rfl (aD (bF (v:=zB (!p.1)) f0 rfl rfl) (aD (bH (v:=zB (!p.1)) c3 rfl rfl) (aG ⟨!p.1,d,V,x,y,z,u,J,rfl,a5⟩)))))))
         ·exact aU f0 rfl rfl (aU f0 rfl rfl (bD c3 rfl rfl (aD (bH (v:=zB false) f0 rfl rfl) (aD (bH (v:=zB false) c3 rfl rfl) (aG ⟨false,d,V,x,y,z,u,J,rfl,a5⟩)))))
       ·refine aU e9 rfl rfl (aU e9 rfl rfl (bD (by decide:¬ false=true) rfl rfl (aD (bH (v:=zB false) e9 rfl rfl) (aD (bH (v:=zB false) (by decide:¬ false=true) rfl rfl) (aL (v:=zB false) (bD (by decide:¬ false=true) rfl rfl (aN b2 (bD (by decide:¬ false=true) rfl rfl (aL (v:=zB q.1) ?_)))))))))
        rcases aH d with ⟨f1,d⟩|⟨f1,d⟩
        ·exact bB f1 rfl rfl (aN d1 (bB f1 rfl rfl (aD (eR rfl) (bD (by decide:¬ false=true) rfl rfl (aD (bF (v:=zB (!p.1)) f1 rfl rfl) (aD (bH (v:=zB (!p.1)) (by decide:¬ false=true) rfl rfl) (aG ⟨!p.1,d,V,x,y,z,u,J,rfl,a5⟩)))))))
        ·exact aU f1 rfl rfl (aU f1 rfl rfl (bD (by decide:¬ false=true) rfl rfl (aD (bH (v:=zB false) f1 rfl rfl) (aD (bH (v:=zB false) (by decide:¬ false=true) rfl rfl) (aG ⟨false,d,V,x,y,z,u,J,rfl,a5⟩)))))
  refine aP (aL (v:=i64 a3.2) (aD (uK rfl rfl) (aL (v:=zB (a3.2 != 0)) ?_)))
  rcases aH d with ⟨f2,d⟩|⟨f2,d⟩
  ·refine aT f2 rfl rfl (aT f2 rfl rfl (aD (bF (v:=zB true) f2 rfl rfl) (aL (v:=zB true) (aT (rfl:true=true) rfl rfl (aT (rfl:true=true) rfl rfl (aD (bF (v:=zB true) (rfl:true=true) rfl rfl) (aL (v:=zB true) (aT (rfl:true=true) rfl rfl (aT (rfl:true=true) rfl rfl (aD (bF (v:=zB true) (rfl:true=true) rfl rfl) (aL (v:=zB true) (aT (rfl:true=true) rfl rfl (aT (rfl:true=true) rfl rfl (aD (bF (v:=zB true) (rfl:true=true) rfl rfl) (aL (v:=zB true) (aT (rfl:true=true) rfl rfl (aT (rfl:true=true) rfl rfl (aD (bF (v:=zB true) (rfl:true=true) rfl rfl) (aL (v:=zB true) (aT (rfl:true=true) rfl rfl (aT (rfl:true=true) rfl rfl (aD (bF (v:=zB true) (rfl:true=true) rfl rfl) (aG ?_)))))))))))))))))))))))
   exact ⟨true,d,rfl,rfl,rfl,rfl,rfl,rfl,rfl,rfl,rfl,rfl,rfl,rfl,d4⟩
  ·refine bD f2 rfl rfl (aL (v:=i64 q.2) (bD f2 rfl rfl (aD (uK rfl rfl) (aD (bH (v:=zB (q.2 != 0)) f2 rfl rfl) (aL (v:=zB (q.2 != 0)) ?_)))))
   rcases aH d with ⟨f3,d⟩|⟨f3,d⟩
   ·exact aT f3 rfl rfl (aT f3 rfl rfl (aD (bF (v:=zB true) f3 rfl rfl) (aL (v:=zB true) (aT (rfl:true=true) rfl rfl (aT (rfl:true=true) rfl rfl (aD (bF (v:=zB true) (rfl:true=true) rfl rfl) (aL (v:=zB true) (aT (rfl:true=true) rfl rfl (aT (rfl:true=true) rfl rfl (aD (bF (v:=zB true) (rfl:true=true) rfl rfl) (aL (v:=zB true) (aT (rfl:true=true) rfl rfl (aT (rfl:true=true) rfl rfl (aD (bF (v:=zB true) (rfl:true=true) rfl rfl) (aL (v:=zB true) (aT (rfl:true=true) rfl rfl (aT (rfl:true=true) rfl rfl (aD (bF (v:=zB true) (rfl:true=true) rfl rfl) (aG ⟨true,d,rfl,rfl,rfl,rfl,rfl,rfl,rfl,rfl,rfl,rfl,rfl,rfl,d4⟩)))))))))))))))))))
   ·refine bD f3 rfl rfl (aL (v:=i64 a2.2) (bD f3 rfl rfl (aD (uK rfl rfl) (aD (bH (v:=zB (a2.2 != 0)) f3 rfl rfl) (aL (v:=zB (a2.2 != 0)) ?_)))))
    rcases aH d with ⟨f4,d⟩|⟨f4,d⟩
    ·exact aT f4 rfl rfl (aT f4 rfl rfl (aD (bF (v:=zB true) f4 rfl rfl) (aL (v:=zB true) (aT (rfl:true=true) rfl rfl (aT (rfl:true=true) rfl rfl (aD (bF (v:=zB true) (rfl:true=true) rfl rfl) (aL (v:=zB true) (aT (rfl:true=true) rfl rfl (aT (rfl:true=true) rfl rfl (aD (bF (v:=zB true) (rfl:true=true) rfl rfl) (aL (v:=zB true) (aT (rfl:true=true) rfl rfl (aT (rfl:true=true) rfl rfl (aD (bF (v:=zB true) (rfl:true=true) rfl rfl) (aG ⟨true,d,rfl,rfl,rfl,rfl,rfl,rfl,rfl,rfl,rfl,rfl,rfl,rfl,d4⟩)))))))))))))))
    ·refine bD f4 rfl rfl (aL (v:=i64 p.2) (bD f4 rfl rfl (aD (uK rfl rfl) (aD (bH (v:=zB (p.2 != 0)) f4 rfl rfl) (aL (v:=zB (p.2 != 0)) ?_)))))
     rcases aH d with ⟨f5,d⟩|⟨f5,d⟩
     ·exact aT f5 rfl rfl (aT f5 rfl rfl (aD (bF (v:=zB true) f5 rfl rfl) (aL (v:=zB true) (aT (rfl:true=true) rfl rfl (aT (rfl:true=true) rfl rfl (aD (bF (v:=zB true) (rfl:true=true) rfl rfl) (aL (v:=zB true) (aT (rfl:true=true) rfl rfl (aT (rfl:true=true) rfl rfl (aD (bF (v:=zB true) (rfl:true=true) rfl rfl) (aG ⟨true,d,rfl,rfl,rfl,rfl,rfl,rfl,rfl,rfl,rfl,rfl,rfl,rfl,d4⟩)))))))))))
     ·refine bD f5 rfl rfl (aL (v:=i64 b4.2) (bD f5 rfl rfl (aD (uK rfl rfl) (aD (bH (v:=zB (b4.2 != 0)) f5 rfl rfl) (aL (v:=zB (b4.2 != 0)) ?_)))))
      rcases aH d with ⟨f6,d⟩|⟨f6,d⟩
      ·exact aT f6 rfl rfl (aT f6 rfl rfl (aD (bF (v:=zB true) f6 rfl rfl) (aL (v:=zB true) (aT (rfl:true=true) rfl rfl (aT (rfl:true=true) rfl rfl (aD (bF (v:=zB true) (rfl:true=true) rfl rfl) (aG ⟨true,d,rfl,rfl,rfl,rfl,rfl,rfl,rfl,rfl,rfl,rfl,rfl,rfl,d4⟩)))))))
      ·refine bD f6 rfl rfl (aL (v:=i64 c7.2) (bD f6 rfl rfl (aD (uK rfl rfl) (aD (bH (v:=zB (c7.2 != 0)) f6 rfl rfl) (aL (v:=zB (c7.2 != 0)) ?_)))))
       rcases aH d with ⟨f7,d⟩|⟨f7,d⟩
       ·exact aT f7 rfl rfl (aT f7 rfl rfl (aD (bF (v:=zB true) f7 rfl rfl) (aG ⟨true,d,rfl,rfl,rfl,rfl,rfl,rfl,rfl,rfl,rfl,rfl,rfl,rfl,d4⟩)))
       ·exact bD f7 rfl rfl (aL (v:=zB c7.1) (bD f7 rfl rfl (aD (eR rfl) (aD (bH (v:=zB (!c7.1)) f7 rfl rfl) (aG ⟨!c7.1,d,rfl,rfl,rfl,rfl,rfl,rfl,rfl,rfl,rfl,rfl,rfl,rfl,d4⟩)))))
end Gv
