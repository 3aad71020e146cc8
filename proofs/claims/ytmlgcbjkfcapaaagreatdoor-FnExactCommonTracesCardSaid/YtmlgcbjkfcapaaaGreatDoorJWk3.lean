/- Walks, printed by program. -/
import Derived.Test.YtmlgcbjkfcapaaaGreatDoorJWk1
import Derived.Test.YtmlgcbjkfcapaaaGreatDoorJWk2
set_option linter.all false
namespace Gv
open Go.Value renaming slice→zS,bool→zB,pointer→zP,agg→zA
open Option.some renaming inj→zI
open Gv.Hp renaming le_trans→zL,le_refl→zR
open Go Go.Proofs
set_option maxRecDepth 20000
set_option maxHeartbeats 40000000
variable {G:Env} {K:Hp} {L:List pH} {w:World} {a1 a4 a7 a10 a13 a16 a19 a22:Option Addr} {c5 c8 c14 c17 c2 c20 c23:Nat}
theorem aBq {t:cN} {y:Nat} {R:(cN × (List (List Int)) × Bool)} (hs:aK G K (L) w) (h3:kR K a1 y (zC t a4 c5 a7 c8)) (h6:dB K a4 c5 t.L) (h9:dB K a7 c8 t.E) (u:yF t=some R):
  Calls Tryz.prog 47 ([dC a1 y]:List Value).toArray w (iK fun v w'=>∃ (k6:Option Addr) (k7:Nat) (k8:Option Addr) (k9:Nat) (l0:Option Addr) (l1:Nat) (h1:List (Dp.Hd (List Int))),v=Value.tuple #[zA (zCa R.1 k6 k7 k8 k9),zS l0 R.2.1.length l1,zB R.2.2]∧List.length h1=List.length R.2.1∧aK G K (aN 9 K k6 k7 R.1.L::aN 63 K k8 k9 R.1.E::aN 38 K l0 l1 (dK h1 R.2.1)::rows [2] h1 R.2.1::L) w'):=by
 let d:=zG
 let l2:=aN 38 K none 0 (dK ([]:List (Dp.Hd (List Int))) ([]:List (List Int)))
 refine aX Tryz.func47 rfl (by kernel_rfl) (by show (1:Nat)≤88;decide) ?_
 unfold yF at u
 refine aM (bS (vs:=d) Tryz.zeroValue29 hs rfl (fun c z6 o5=>(aH (v:=zS none 0 0) (aH (v:=zB false) (aI (aM (aP (v:=dC a1 y) ?_)))))))
 obtain ⟨a8,o6,u⟩:=aD u
 refine aU (vs:=[dC a1 y]) Tryz.call106 rfl (aGv o5 h3 h6 h9 o6) ?_
 rintro _ o7 ⟨a9,b0,rfl,o8⟩
 have o9:aK G K (rows [2] ([(a9,b0)]:List (Dp.Hd (List Int))) [a8]::box c 29 d::L) o7:=aK.rowsOne o8
 refine cT (Kt:=K) (xs:=dK ([(a9,b0)]:List (Dp.Hd (List Int))) ([a8]:List (List Int))) (cs:=[zS a9 a8.length b0]) (vs:=[(0,zS a9 a8.length b0)]) rC aHa rfl rfl o9 rfl (by kernel_rfl) rfl rfl rfl ⟨rfl,trivial⟩ ?_
 intro e7 p0 (p1:aK G K (aN 38 K e7 1 (dK ([(a9,b0)]:List (Dp.Hd (List Int))) ([a8]:List (List Int)))::rows [2] ([(a9,b0)]:List (Dp.Hd (List Int))) ([a8]:List (List Int))::box c 29 d::L) p0)
 refine aH (v:=zS e7 ([a8]:List (List Int)).length 1) (aI (aM (cT (Kt:=K) (xs:=([]:List Edge)) (cs:=[]) (vs:=[]) cK mD rfl rfl p1 rfl (by kernel_rfl) rfl rfl rfl trivial ?_)))
 intro h2 p2 (p3:aK G K (aN 63 K h2 0 ([]:List Edge)::aN 38 K e7 1 (dK ([(a9,b0)]:List (Dp.Hd (List Int))) ([a8]:List (List Int)))::rows [2] ([(a9,b0)]:List (Dp.Hd (List Int))) ([a8]:List (List Int))::box c 29 d::L) p2)
 refine aH (v:=zS h2 ([]:List Edge).length 0) (aI (aQ (aM (aH (v:=i64 0) (aI (bE (fun f w=>∃ (r:List (List Int)) (Z:List Edge) (b7:Option Addr) (b8:Nat) (a6:List (Dp.Hd (List Int))) (a0:Option Addr) (a2:Nat),sW t r Z=some R∧f 0=dC a1 y∧f 2=zP (some ⟨c,0,none⟩)∧f 5=zS b7 r.length b8∧f 6=zS a0 Z.length a2∧List.length a6=List.length r∧aK G K (aN 63 K a0 a2 Z::aN 38 K b7 b8 (dK a6 r)::rows [2] a6 r::box c 29 d::L) w) ?_ ?_))))))
 ·rintro f z7 ⟨r,Z,b7,b8,a6,a0,a2,u,p4,l3,l4,p5,p6,p7⟩
  unfold sW at u
  refine aC (aM (aT l4 (aF (bN (len:=r.length) rC rfl) (cT (Kt:=K) (xs:=([]:List bB)) (cs:=[]) (vs:=[]) cF vJ rfl rfl p7 rfl (by kernel_rfl) rfl rfl rfl trivial (fun p8 p9 (l5:aK G K (aN 9 K p8 0 ([]:List bB)::aN 63 K a0 a2 Z::aN 38 K b7 b8 (dK a6 r)::rows [2] a6 r::box c 29 d::L) p9)=>(aT p4 (aF (dE rfl h3) (aF (cR (k':=y+2) eG rfl h3 rfl) (aF (bK (t:=2) iT l5 h3 rfl rfl) ?_)))))))))
  obtain ⟨b9,q0,u⟩:=aD u
  refine aCJ (i:=0) cF Tryz.underlying22 vJ rfl rfl l5 rfl (zR _) h6 q0 rfl rfl rfl rfl (fun b1 b2 q1 (q2:aK G K (aN 9 K b1 b2 b9::aN 63 K a0 a2 Z::aN 38 K b7 b8 (dK a6 r)::rows [2] a6 r::box c 29 d::L) q1)=>(aT p5 (aF (fD (vs:=[(0,i64 (r.length:Int)),(2,zS b1 b9.length b2),(3,zS a0 Z.length a2)]) (cs:=[i64 (r.length:Int),i64 0,zS b1 b9.length b2,zS a0 Z.length a2]) tI rfl (by kernel_rfl)) (aT l4 (bR (i:=4) (ns:=[i64 (r.length:Int),i64 0,zS b1 b9.length b2,zS a0 Z.length a2]) (us:=[i64 (r.length:Int),i64 0,zS b1 b9.length b2,zS a0 Z.length a2]) Tryz.sizeOf29 q2 rfl l3 rfl rfl rfl (cX rfl) rfl rfl (fun q3 (l6:aK G K (aN 9 K b1 b2 b9::aN 63 K a0 a2 Z::aN 38 K b7 b8 (dK a6 r)::rows [2] a6 r::box c 29 [i64 (r.length:Int),i64 0,zS b1 b9.length b2,zS a0 Z.length a2]::L) q3)=>(aH (v:=zS b7 r.length b8) (aH (v:=zB true) (aI ?_)))))))))
  obtain rfl:=zI u
  exact bH (yO Tryz.results47 (dZ (vs:=[i64 (r.length:Int),i64 0,zS b1 b9.length b2,zS a0 Z.length a2]) rfl dI l6 (i:=4) rfl l3 rfl) (gW rfl rfl) (gW rfl rfl) ⟨b1,b2,a0,a2,b7,b8,a6,rfl,p6,(aK.arr 5 [0,1,2,3] l6 rfl)⟩)
 obtain ⟨z8,q5,u⟩:=aD u
 refine cD q5 (fun (s:(List (List Int) × List Edge × Int)) f w=>match s with|(b3,c6,j)=>∃ (d1:Option Addr) (d2:Nat) (c7:List (Dp.Hd (List Int))) (d3:Option Addr) (d4:Nat),f 0=dC a1 y∧f 2=zP (some ⟨c,0,none⟩)∧f 5=zS d1 b3.length d2∧f 6=zS d3 c6.length d4∧f 7=i64 j∧List.length c7=List.length b3∧aK G K (aN 63 K d3 d4 c6::aN 38 K d1 d2 (dK c7 b3)::rows [2] c7 b3::box c 29 d::L) w) ?_ ?_
 ·exact ⟨e7,1,([(a9,b0)]:List (Dp.Hd (List Int))),h2,0,rfl,rfl,rfl,rfl,rfl,rfl,p3⟩
 ·rintro ⟨b3,c6,j⟩ c9 f z9 k h4 ⟨d1,d2,c7,d3,d4,l7,l8,h5,l9,m0,m1,m2⟩
  replace k:iI t b3 c6 j=some c9:=k
  unfold iI at k
  refine aQ (aM (aT m0 (aT h5 (aF (bN (len:=b3.length) rC rfl) (aF (cG rfl rfl) (aI ?_))))))
  rcases aJ k with ⟨h7,k⟩|⟨h7,k⟩
  ·refine aO h7 rfl (aY (aC (aQ (bE (fun f w=>∃ (c2:List (List Int)) (d5:List Edge) (e8:Option Addr) (e9:Nat) (d6:List (Dp.Hd (List Int))) (f0:Option Addr) (f1:Nat),aAG j c2 d5=some c9∧f 0=dC a1 y∧f 2=zP (some ⟨c,0,none⟩)∧f 5=zS e8 c2.length e9∧f 6=zS f0 d5.length f1∧f 7=i64 j∧List.length d6=List.length c2∧aK G K (aN 63 K f0 f1 d5::aN 38 K e8 e9 (dK d6 c2)::rows [2] d6 c2::box c 29 d::L) w) ?_ ?_))))
   ·rintro f a00 ⟨c2,d5,e8,e9,d6,f0,f1,k,q6,q7,q8,q9,r0,r1,r2⟩
    unfold aAG at k
    exact aC (aS (aT r0 (aF (cQ rfl rfl) (aH (v:=i64 (wr (j+1))) (aI ⟨(c2,d5,wr (j+1)),(zI k).symm,e8,e9,d6,f0,f1,q6,q7,q8,q9,rfl,r1,r2⟩)))))
   refine aM (aH (v:=i64 1) (aI (bE (fun f w=>∃ (c3:List (List Int)) (d7:List Edge) (f2:Option Addr) (f3:Nat) (d8:List (Dp.Hd (List Int))) (f4:Option Addr) (f5:Nat),xC j c3 d7=some c9∧f 0=dC a1 y∧f 2=zP (some ⟨c,0,none⟩)∧f 5=zS f2 c3.length f3∧f 6=zS f4 d7.length f5∧f 7=i64 j∧List.length d8=List.length c3∧aK G K (aN 63 K f4 f5 d7::aN 38 K f2 f3 (dK d8 c3)::rows [2] d8 c3::box c 29 d::L) w) ?_ ?_)))
   ·rintro f a01 ⟨c3,d7,f2,f3,d8,f4,f5,k,r3,r4,r5,r6,r7,r8,r9⟩
    unfold xC at k
    exact bG (aC ⟨c3,d7,f2,f3,d8,f4,f5,k,r3,r4,r5,r6,r7,r8,r9⟩)
   obtain ⟨a02,s0,k⟩:=aD k
   refine cD s0 (fun (s:(List (List Int) × List Edge × Int)) f w=>match s with|(b,e,q)=>∃ (z:Option Addr) (J:Nat) (g:List (Dp.Hd (List Int))) (l:Option Addr) (m:Nat),f 0=dC a1 y∧f 2=zP (some ⟨c,0,none⟩)∧f 5=zS z b.length J∧f 6=zS l e.length m∧f 7=i64 j∧f 8=i64 q∧List.length g=List.length b∧aK G K (aN 63 K l m e::aN 38 K z J (dK g b)::rows [2] g b::box c 29 d::L) w) ?_ ?_
   ·exact ⟨d1,d2,c7,d3,d4,l7,l8,h5,l9,m0,rfl,m1,m2⟩
   ·rintro ⟨b,e,q⟩ d9 f a03 a h8 ⟨z,J,g,l,m,e0,i0,f6,i1,f7,f8,a5,e1⟩
    replace a:nH t j b e q=some d9:=a
    unfold nH at a
    refine aQ (aM (aT f8 (aT e0 (aF (dE rfl h3) (aF (cR (k':=y+2) eG rfl h3 rfl) (aF (bK (t:=2) iT e1 h3 rfl rfl) (aF (bN (len:=t.L.length) cF rfl) (aF (cG rfl rfl) (aI ?_)))))))))
    rcases aJ a with ⟨i2,a⟩|⟨i2,a⟩
    ·refine aO i2 rfl (aY (aC (aQ (bE (fun f w=>∃ (c4:List (List Int)) (e2:List Edge) (f9:Option Addr) (g0:Nat) (e3:List (Dp.Hd (List Int))) (g1:Option Addr) (g2:Nat),sX q c4 e2=some d9∧f 0=dC a1 y∧f 2=zP (some ⟨c,0,none⟩)∧f 5=zS f9 c4.length g0∧f 6=zS g1 e2.length g2∧f 7=i64 j∧f 8=i64 q∧List.length e3=List.length c4∧aK G K (aN 63 K g1 g2 e2::aN 38 K f9 g0 (dK e3 c4)::rows [2] e3 c4::box c 29 d::L) w) ?_ ?_))))
     ·rintro f a04 ⟨c4,e2,f9,g0,e3,g1,g2,a,s1,s2,s3,s4,s5,s6,s7,s8⟩
      unfold sX at a
      exact aC (aS (aT s6 (aF (cQ rfl rfl) (aH (v:=i64 (wr (q+1))) (aI ⟨(c4,e2,wr (q+1)),(zI a).symm,f9,g0,e3,g1,g2,s1,s2,s3,s4,s5,rfl,s7,s8⟩)))))
     refine aM (aT e0 (aT f6 (aT f7 ?_)))
     obtain ⟨s9,e4,a⟩:=aD a
     obtain ⟨⟨t0,t1⟩,i3⟩:=get_hd a5 e4
     have m3:=cY e1 (i:=1) rfl (aGU a5 e4 i3)
     refine aF (dW rC rfl m3 rfl rfl rfl e4) (aF (jL (t:=0) zN e1 (i:=1) rfl (aGU a5 e4 i3) rfl rfl rfl) (aT f8 ?_))
     obtain ⟨a05,i4,a06,t2,t3,t4⟩:=aK.lendD' (i:=1) e1 a5 rfl rfl
     obtain ⟨n,t5,a⟩:=aD a
     refine aU (vs:=[dC a1 y,zS t0 s9.length t1,i64 q]) Tryz.call107 rfl (aHo t3 (h3.mono i4) (h6.mono i4) (h9.mono i4) (rd_row (t2 _ _ _ i3 (ix_at e4))) t5) ?_
     rintro _ a07 ⟨o,p,rfl,t6⟩
     have m4:=t4 _ _ t6
     refine aH (v:=zS o n.length p) (aI (aQ (aM (aP (v:=zS o n.length p) (aF (bN (len:=n.length) bY rfl) (aF (oN rfl rfl) (aI ?_)))))))
     rcases aJ a with ⟨i5,a⟩|⟨i5,a⟩
     ·exact aO i5 rfl (cB (aV (bJ (aC ⟨b,e,z,J,g,l,m,a,e0,i0,f6,i1,f7,f8,a5,(aK.arr 4 [3,0,1] m4 rfl)⟩))))
     ·refine aL i5 rfl (aY (aC (aM (aH (v:=i64 (-1)) (aI (aQ (aM (aH (v:=i64 0) (aI (bE (fun f w=>∃ (g3:Int),pN j b e q n g3=some d9∧f 0=dC a1 y∧f 2=zP (some ⟨c,0,none⟩)∧f 5=zS z b.length J∧f 6=zS l e.length m∧f 7=i64 j∧f 8=i64 q∧f 9=zS o n.length p∧f 10=i64 g3∧aK G K (aN 38 K z J (dK g b)::rows [2] g b::aN 2 K o p n::aN 63 K l m e::box c 29 d::L) w) ?_ ?_))))))))))
      ·rintro f m5 ⟨g3,a,m6,g4,g5,m7,m8,m9,t7,n0,i6⟩
       unfold pN at a
       refine aC (aAo (fun f w=>∃ (V:List (List Int)) (b4:Int) (c0:Option Addr) (c1:Nat) (a3:List (Dp.Hd (List Int))),xD j e q V b4=some d9∧f 0=dC a1 y∧f 2=zP (some ⟨c,0,none⟩)∧f 5=zS c0 V.length c1∧f 6=zS l e.length m∧f 7=i64 j∧f 8=i64 q∧f 10=i64 b4∧List.length a3=List.length V∧aK G K (aN 38 K c0 c1 (dK a3 V)::rows [2] a3 V::aN 63 K l m e::box c 29 d::L) w) ?_ ?_)
       ·rintro f a08 ⟨V,b4,c0,c1,a3,a,t8,i7,t9,n1,n2,n3,u0,u1,n4⟩
        unfold xD at a
        refine aQ (aM (aT n1 (aF (bN (len:=e.length) cK rfl) (aF (oN rfl rfl) (aI ?_)))))
        rcases aJ a with ⟨i8,a⟩|⟨i8,a⟩
        ·refine aO i8 rfl (aM (aF (fD (vs:=[]) (cs:=d) tI rfl (by kernel_rfl)) (bR (i:=3) (ns:=d) (us:=d) Tryz.sizeOf29 n4 rfl i7 rfl rfl rfl (cX rfl) rfl rfl (fun n5 (u2:aK G K (aN 38 K c0 c1 (dK a3 V)::rows [2] a3 V::aN 63 K l m e::box c 29 d::L) n5)=>(aH (v:=zS none 0 0) (aH (v:=zB false) (aI (bH (aR (bQ (aR (aR (aR ?_)))))))))))))
         have u3:=h8 _ (zI a).symm
         subst u3
         have k:(some (.inr (.inr (⟨0,0,[],[]⟩,[],false))))=some c9:=k
         refine bQ (aR (bQ (aR (aR (aR ?_)))))
         have u4:=h4 _ (zI k).symm
         subst u4
         have u:(some (⟨0,0,[],[]⟩,[],false))=some R:=u
         have u5:=aK.nil (α:=bB) u2 9 K
         have u6:=aK.nil (α:=Edge) u5 63 K
         have n6:aK G K (l2::rows [2] ([]:List (Dp.Hd (List Int))) ([]:List (List Int))::aN 63 K none 0 ([]:List Edge)::aN 9 K none 0 ([]:List bB)::aN 38 K c0 c1 (dK a3 V)::rows [2] a3 V::aN 63 K l m e::box c 29 d::L) n5:=aK.nil (α:=Cells _) (aK.rowsNil (α:=(List Int)) (tys:=[2]) u6) 38 K
         obtain rfl:=zI u
         exact bQ (aR (aR (yO Tryz.results47 (dZ (vs:=d) rfl dI n6 (i:=7) rfl i7 rfl) (gW rfl rfl) (gW rfl rfl) ⟨none,0,none,0,none,0,([]:List (Dp.Hd (List Int))),rfl,rfl,(aK.arr 8 [3,2,0,1] n6 rfl)⟩)))
        ·refine aL i8 rfl (aY (aC (aS (aT n1 (aT n2 (aT n3 (aT u0 (aF (fD (vs:=[(0,i64 j),(1,i64 q),(2,i64 b4)]) (cs:=[i64 j,i64 q,i64 b4]) aHb rfl (by kernel_rfl)) (cT (Kt:=K) (xs:=([⟨j,q,b4⟩]:List Edge)) (cs:=[i64 j,i64 q,i64 b4]) (vs:=[(0,zA #[i64 j,i64 q,i64 b4])]) cK mD rfl rfl n4 rfl (by kernel_rfl) rfl rfl rfl ⟨rfl,trivial⟩ (fun u8 u9 (v0:aK G K (aN 63 K u8 1 ([⟨j,q,b4⟩]:List Edge)::aN 38 K c0 c1 (dK a3 V)::rows [2] a3 V::aN 63 K l m e::box c 29 d::L) u9)=>?_))))))))))
         obtain ⟨i9,v1,a⟩:=aD a
         exact eI (i:=2) cK Tryz.underlying27 mD rfl rfl v0 rfl (zR _) (zR _) v1 rfl rfl rfl rfl (fun _ h=>h) (fun j0 j1 v2 (v3:aK G K (aN 38 K c0 c1 (dK a3 V)::rows [2] a3 V::aN 63 K j0 j1 i9::box c 29 d::L) v2)=>(aH (v:=zS j0 i9.length j1) (bA (bG (aC ⟨V,i9,c0,c1,a3,j0,j1,a,t8,i7,t9,rfl,n2,n3,u1,(aK.arr 3 [2,0,1] v3 rfl)⟩)))))
       refine aM (aT n0 (aF (cG rfl rfl) (aI ?_)))
       rcases aJ a with ⟨j2,a⟩|⟨j2,a⟩
       ·refine aO j2 rfl (aQ (aM (aT g5 (aF (bN (len:=b.length) rC rfl) (aF (oN rfl rfl) (aI ?_))))))
        rcases aJ a with ⟨j3,a⟩|⟨j3,a⟩
        ·refine aO j3 rfl (aM (aF (fD (vs:=[]) (cs:=d) tI rfl (by kernel_rfl)) (bR (i:=4) (ns:=d) (us:=d) Tryz.sizeOf29 i6 rfl g4 rfl rfl rfl (cX rfl) rfl rfl (fun n7 (v4:aK G K (aN 38 K z J (dK g b)::rows [2] g b::aN 2 K o p n::aN 63 K l m e::box c 29 d::L) n7)=>(aH (v:=zS none 0 0) (aH (v:=zB false) (aI (bH (aR (aR (bQ (aR (aR (aR ?_))))))))))))))
         have v5:=h8 _ (zI a).symm
         subst v5
         have k:(some (.inr (.inr (⟨0,0,[],[]⟩,[],false))))=some c9:=k
         refine bQ (aR (bQ (aR (aR (aR ?_)))))
         have v6:=h4 _ (zI k).symm
         subst v6
         have u:(some (⟨0,0,[],[]⟩,[],false))=some R:=u
         have v7:=aK.nil (α:=bB) v4 9 K
         have v8:=aK.nil (α:=Edge) v7 63 K
         have n8:aK G K (l2::rows [2] ([]:List (Dp.Hd (List Int))) ([]:List (List Int))::aN 63 K none 0 ([]:List Edge)::aN 9 K none 0 ([]:List bB)::aN 38 K z J (dK g b)::rows [2] g b::aN 2 K o p n::aN 63 K l m e::box c 29 d::L) n7:=aK.nil (α:=Cells _) (aK.rowsNil (α:=(List Int)) (tys:=[2]) v8) 38 K
         obtain rfl:=zI u
         exact bQ (aR (aR (yO Tryz.results47 (dZ (vs:=d) rfl dI n8 (i:=8) rfl g4 rfl) (gW rfl rfl) (gW rfl rfl) ⟨none,0,none,0,none,0,([]:List (Dp.Hd (List Int))),rfl,rfl,(aK.arr 9 [3,2,0,1] n8 rfl)⟩)))
        ·refine aL j3 rfl (aY (aC (aM (aT g5 (aF (bN (len:=b.length) rC rfl) (aH (v:=i64 (b.length:Int)) (aI (aS (aT g5 (aT t7 ?_))))))))))
         have w0:aK G K (aN 2 K o p n::aN 38 K z J (dK g b)::rows [2] g b::aN 63 K l m e::box c 29 d::L) m5:=(aK.arr 3 [2,0,1] i6 rfl)
         have w1:aK G K (rows [2] ([(o,p)]:List (Dp.Hd (List Int))) [n]::aN 38 K z J (dK g b)::rows [2] g b::aN 63 K l m e::box c 29 d::L) m5:=aK.rowsOne w0
         refine cT (Kt:=K) (xs:=dK ([(o,p)]:List (Dp.Hd (List Int))) ([n]:List (List Int))) (cs:=[zS o n.length p]) (vs:=[(0,zS o n.length p)]) rC aHa rfl rfl w1 rfl (by kernel_rfl) rfl rfl rfl ⟨rfl,trivial⟩ ?_
         intro w2 w3 (w4:aK G K (aN 38 K w2 1 (dK ([(o,p)]:List (Dp.Hd (List Int))) ([n]:List (List Int)))::rows [2] ([(o,p)]:List (Dp.Hd (List Int))) ([n]:List (List Int))::aN 38 K z J (dK g b)::rows [2] g b::aN 63 K l m e::box c 29 d::L) w3)
         obtain ⟨g6,n9,a⟩:=aD a
         refine WO_appD (i:=0) (tys:=[2]) (hds:=g) (hds2:=([(o,p)]:List (Dp.Hd (List Int)))) rC Tryz.underlying74 aHa rfl rfl w4 a5 rfl rfl rfl n9 rfl rfl rfl rfl ?_
         intro j4 j5 w5 (w6:aK G K (aN 38 K j4 j5 (dK (g++([(o,p)]:List (Dp.Hd (List Int)))) g6)::rows [2] (g++([(o,p)]:List (Dp.Hd (List Int)))) g6::aN 63 K l m e::box c 29 d::L) w5)
         exact aH (v:=zS j4 g6.length j5) (aI ⟨g6,(b.length:Int),j4,j5,(g++([(o,p)]:List (Dp.Hd (List Int)))),a,m6,g4,rfl,m7,m8,m9,rfl,(aJA a5 rfl n9),w6⟩)
       ·exact aL j2 rfl (aY (aC ⟨b,g3,z,J,g,a,m6,g4,g5,m7,m8,m9,n0,a5,(aK.arr 3 [0,1] i6 rfl)⟩))
      obtain ⟨a09,w7,a⟩:=aD a
      refine cD w7 (fun (s:(Int × Int)) f w=>match s with|(d0,b5)=>f 0=dC a1 y∧f 2=zP (some ⟨c,0,none⟩)∧f 5=zS z b.length J∧f 6=zS l e.length m∧f 7=i64 j∧f 8=i64 q∧f 9=zS o n.length p∧f 10=i64 d0∧f 11=i64 b5∧aK G K (aN 38 K z J (dK g b)::rows [2] g b::aN 2 K o p n::aN 63 K l m e::box c 29 d::L) w) ?_ ?_
      ·exact ⟨e0,i0,f6,i1,f7,f8,rfl,rfl,rfl,m4⟩
      ·rintro ⟨d0,b5⟩ o0 f a10 x w8 ⟨j6,j7,e5,j8,j9,k0,g7,o1,e6,k1⟩
       replace x:nG b n d0 b5=some o0:=x
       unfold nG at x
       refine aQ (aM (aT e6 (aT e5 (aF (bN (len:=b.length) rC rfl) (aF (cG rfl rfl) (aI ?_))))))
       rcases aJ x with ⟨k3,x⟩|⟨k3,x⟩
       ·refine aO k3 rfl (aY (aC (aQ (bE (fun f w=>∃ (g8:Int),xE b5 g8=some o0∧f 0=dC a1 y∧f 2=zP (some ⟨c,0,none⟩)∧f 5=zS z b.length J∧f 6=zS l e.length m∧f 7=i64 j∧f 8=i64 q∧f 9=zS o n.length p∧f 10=i64 g8∧f 11=i64 b5∧aK G K (aN 38 K z J (dK g b)::rows [2] g b::aN 2 K o p n::aN 63 K l m e::box c 29 d::L) w) ?_ ?_))))
        ·rintro f a11 ⟨g8,x,w9,x0,x1,x2,x3,x4,x5,x6,x7,x8⟩
         unfold xE at x
         exact aC (aS (aT x7 (aF (cQ rfl rfl) (aH (v:=i64 (wr (b5+1))) (aI ⟨(g8,wr (b5+1)),(zI x).symm,w9,x0,x1,x2,x3,x4,x5,x6,rfl,x8⟩)))))
        refine aM (aT e5 (aT e6 ?_))
        obtain ⟨x9,g9,x⟩:=aD x
        refine aF (dW rC rfl m3 rfl rfl rfl g9) ?_
        obtain ⟨⟨y0,y1⟩,o2⟩:=get_hd a5 g9
        refine aF (jL (t:=0) zN k1 (i:=0) rfl (aGU a5 g9 o2) rfl rfl rfl) (aT g7 ?_)
        obtain ⟨a12,y2,a13,y3,y4,y5⟩:=aK.lendD' (i:=0) k1 a5 rfl rfl
        obtain ⟨a14,y6,y7,y8,y9⟩:=aK.lendS (i:=0) y4 y2 rfl
        obtain ⟨a16,z0,x⟩:=aD x
        refine aU (vs:=[zS y0 x9.length y1,zS o n.length p]) Tryz.call108 rfl (aHp y8 ((rd_row (y3 _ _ _ o2 (ix_at g9))).mono y6) y7 z0) ?_
        rintro _ a17 ⟨rfl,z1⟩
        have z2:=y9 _ _ z1
        have o3:=y5 _ _ z2
        refine aI ?_
        rcases aJ x with ⟨k4,x⟩|⟨k4,x⟩
        ·exact aO k4 rfl (aS (aT e6 (aH (v:=i64 b5) (bA (bG (aC ⟨b5,x,j6,j7,e5,j8,j9,k0,g7,rfl,e6,o3⟩))))))
        ·exact aL k4 rfl (aY (bG (aC ⟨d0,x,j6,j7,e5,j8,j9,k0,g7,o1,e6,o3⟩)))
       ·refine aL k3 rfl (cB (aV (aV ?_)))
        have z3:=w8 _ (zI x).symm
        subst z3
        have a:(pN j b e q n d0)=some d9:=a
        exact bJ (aC ⟨d0,a,j6,j7,e5,j8,j9,k0,g7,o1,k1⟩)
    ·refine aL i2 rfl (cB (aV (aV ?_)))
     have z4:=h8 _ (zI a).symm
     subst z4
     have k:(xC j b e)=some c9:=k
     exact bJ (aC ⟨b,e,z,J,g,l,m,k,e0,i0,f6,i1,f7,a5,e1⟩)
  ·refine aL h7 rfl (cB (aV (aV ?_)))
   have z5:=h4 _ (zI k).symm
   subst z5
   have u:(sW t b3 c6)=some R:=u
   exact bJ (aC ⟨b3,c6,d1,d2,c7,d3,d4,u,l7,l8,h5,l9,m1,m2⟩)
theorem aIA {a:cN} {k2:Nat} {b:cN} {a5:Nat} {R:(cN × cN × Bool)} (hs:aK G K (L) w) (h3:kR K a1 k2 (zC a a4 c5 a7 c8)) (h6:dB K a4 c5 a.L) (h9:dB K a7 c8 a.E) (d1:kR K a10 a5 (zC b a13 c14 a16 c17)) (d2:dB K a13 c14 b.L) (d3:dB K a16 c17 b.E) (o:aEY a b=some R):
  Calls Tryz.prog 44 ([dC a1 k2,dC a10 a5]:List Value).toArray w (iK fun v w'=>∃ (a9:Option Addr) (b0:Nat) (b1:Option Addr) (b2:Nat) (b3:Option Addr) (b4:Nat) (b5:Option Addr) (b6:Nat),v=Value.tuple #[zA (zCa R.1 a9 b0 b1 b2),zA (zCa R.2.1 b3 b4 b5 b6),zB R.2.2]∧aK G K (aN 9 K a9 b0 R.1.L::aN 63 K b1 b2 R.1.E::aN 9 K b3 b4 R.2.1.L::aN 63 K b5 b6 R.2.1.E::L) w'):=by
 let q:=zG
 refine aX Tryz.func44 rfl (by kernel_rfl) (by show (2:Nat)≤31;decide) ?_
 unfold aEY at o
 refine aM (bS (vs:=q) Tryz.zeroValue29 hs rfl (fun u g4 d4=>(bS (vs:=q) Tryz.zeroValue29 d4 rfl (fun x g5 d5=>(aH (v:=zB false) (aI (aM (aP (v:=dC a1 k2) ?_))))))))
 obtain ⟨c,d6,o⟩:=aD o
 refine aU (vs:=[dC a1 k2]) Tryz.call47 rfl (aBq d5 h3 h6 h9 d6) ?_
 rintro _ g6 ⟨e,h,j,k,y,z,p,rfl,g7,d7⟩
 refine aP (v:=Value.tuple #[zA (zCa c.1 e h j k),zS y c.2.1.length z,zB c.2.2]) (aF (bM rfl rfl) (aF (bM rfl rfl) (aF (bM rfl rfl) (bS (vs:=q) Tryz.zeroValue29 d7 rfl (fun b7 g8 d8=>(bR (i:=0) (ns:=(zC c.1 e h j k)) (us:=(zC c.1 e h j k)) Tryz.sizeOf29 d8 rfl rfl rfl rfl rfl (cX rfl) rfl rfl (fun d9 (e0:aK G K (box b7 29 (zC c.1 e h j k)::aN 9 K e h c.1.L::aN 63 K j k c.1.E::aN 38 K y z (dK p c.2.1)::rows [2] p c.2.1::box x 29 q::box u 29 q::L) d9)=>(aH (v:=zS y c.2.1.length z) (aH (v:=zB c.2.2) (aI (aM (aP (v:=dC a10 a5) ?_))))))))))))
 obtain ⟨d,e1,o⟩:=aD o
 refine aU (vs:=[dC a10 a5]) Tryz.call47 rfl (aBq e0 d1 d2 d3 e1) ?_
 rintro _ g9 ⟨l,c45,m,n,V,Z,r,rfl,h0,e2⟩
 refine aP (v:=Value.tuple #[zA (zCa d.1 l c45 m n),zS V d.2.1.length Z,zB d.2.2]) (aF (bM rfl rfl) (aF (bM rfl rfl) (aF (bM rfl rfl) (bS (vs:=q) Tryz.zeroValue29 e2 rfl (fun e3 h1 e4=>(bR (i:=0) (ns:=(zC d.1 l c45 m n)) (us:=(zC d.1 l c45 m n)) Tryz.sizeOf29 e4 rfl rfl rfl rfl rfl (cX rfl) rfl rfl (fun e5 (e6:aK G K (box e3 29 (zC d.1 l c45 m n)::aN 9 K l c45 d.1.L::aN 63 K m n d.1.E::aN 38 K V Z (dK r d.2.1)::rows [2] r d.2.1::box b7 29 (zC c.1 e h j k)::aN 9 K e h c.1.L::aN 63 K j k c.1.E::aN 38 K y z (dK p c.2.1)::rows [2] p c.2.1::box x 29 q::box u 29 q::L) e5)=>(aH (v:=zS V d.2.1.length Z) (aH (v:=zB d.2.2) (aI (aQ (dF (fun f w=>∃ (a6:Bool),aAd c d a6=some R∧f 4=zP (some ⟨u,0,none⟩)∧f 5=zP (some ⟨x,0,none⟩)∧f 6=zB a6∧aK G K (aN 9 K l c45 d.1.L::aN 63 K m n d.1.E::aN 9 K e h c.1.L::aN 63 K j k c.1.E::box x 29 (zC d.1 l c45 m n)::box u 29 (zC c.1 e h j k)::L) w) ?_ ?_))))))))))))
 ·rintro f h2 ⟨a6,o,e7,e8,e9,a8⟩
  unfold aAd at o
  refine aC ?_
  obtain rfl:=zI o
  exact bH (yO Tryz.results44 (dZ (vs:=(zC c.1 e h j k)) rfl dI a8 (i:=5) rfl e7 rfl) (dZ (vs:=(zC d.1 l c45 m n)) rfl dI a8 (i:=4) rfl e8 rfl) (gW rfl e9) ⟨e,h,j,k,l,c45,m,n,rfl,(aK.arr 6 [2,3,0,1] a8 rfl)⟩)
 obtain ⟨h4,h5,f1,f2,b8⟩:=aK.lendB (i:=0) e6 rfl
 obtain ⟨a0,f3,f4,b9,c0⟩:=aK.lendB (i:=4) f2 rfl
 refine gA (C:=fun w'=>∃ L',aK G a0 L' w') [(0,0),(1,0),(2,1),(3,1),(4,0),(5,0),(6,1),(7,1),(8,2)] bT (by kernel_rfl) (fun _ hg=>⟨_,aK.mono b9 hg⟩) (fun h7 f5=>?_)
 have J:=aK.mono b9 f5
 refine bZ rfl (fun _ ⟨_,J⟩=>fZ (t:=0) (vs:=(zC c.1 e h j k)) dI J f4 rfl rfl rfl) (bZ rfl (fun _ ⟨_,J⟩=>fZ (t:=0) (vs:=(zC d.1 l c45 m n)) dI J (f1.mono f3) rfl rfl rfl) (kD rfl (aP (v:=zB c.2.2) (bA (aC ⟨⟨_,J⟩,?_⟩)))))
 refine kD rfl (aP (v:=zB c.2.2) (bA (aC ⟨⟨_,J⟩,?_⟩)))
 rcases aJ o with ⟨a2,o⟩|⟨a2,o⟩
 ·refine WE_vg rfl rfl rfl a2 (fun _ _=>aZ (v:=zB d.2.2) rfl) (bZ rfl (fun _ _=>bO (v:=zB d.2.2) a2 rfl rfl) (kD rfl (bR (i:=9) (ns:=(zC c.1 e h j k)) (us:=(zC c.1 e h j k)) Tryz.sizeOf29 J rfl rfl rfl rfl rfl (cX rfl) rfl rfl (fun f6 (c1:aK G a0 (aN 9 K l c45 d.1.L::aN 63 K m n d.1.E::aN 38 K V Z (dK r d.2.1)::rows [2] r d.2.1::aN 9 K e h c.1.L::aN 63 K j k c.1.E::aN 38 K y z (dK p c.2.1)::rows [2] p c.2.1::box x 29 q::box u 29 (zC c.1 e h j k)::L) f6)=>(bA (aC ⟨⟨_,c1⟩,?_⟩))))))
  refine kD rfl (bR (i:=8) (ns:=(zC d.1 l c45 m n)) (us:=(zC d.1 l c45 m n)) Tryz.sizeOf29 c1 rfl rfl rfl rfl rfl (cX rfl) rfl rfl (fun f7 (c2:aK G a0 (aN 9 K l c45 d.1.L::aN 63 K m n d.1.E::aN 38 K V Z (dK r d.2.1)::rows [2] r d.2.1::aN 9 K e h c.1.L::aN 63 K j k c.1.E::aN 38 K y z (dK p c.2.1)::rows [2] p c.2.1::box x 29 (zC d.1 l c45 m n)::box u 29 (zC c.1 e h j k)::L) f7)=>(bA (aC ⟨⟨_,c2⟩,?_⟩))))
  have f8:=c0 _ _ c2
  have f9:=b8 _ _ f8
  exact aFy rfl (aH (v:=zB d.2.2) (aI (lY (aC ⟨d.2.2,o,rfl,rfl,rfl,(aK.arr 10 [2,3,6,7] f9 rfl)⟩))))
 ·refine WE_off rfl rfl rfl (dD a2) (bZ rfl (fun _ _=>bV (v:=zB false) a2 rfl rfl) (kD rfl (bR (i:=9) (ns:=(zC c.1 e h j k)) (us:=(zC c.1 e h j k)) Tryz.sizeOf29 J rfl rfl rfl rfl rfl (cX rfl) rfl rfl (fun g0 (c3:aK G a0 (aN 9 K l c45 d.1.L::aN 63 K m n d.1.E::aN 38 K V Z (dK r d.2.1)::rows [2] r d.2.1::aN 9 K e h c.1.L::aN 63 K j k c.1.E::aN 38 K y z (dK p c.2.1)::rows [2] p c.2.1::box x 29 q::box u 29 (zC c.1 e h j k)::L) g0)=>(bA (aC ⟨⟨_,c3⟩,?_⟩))))))
  refine kD rfl (bR (i:=8) (ns:=(zC d.1 l c45 m n)) (us:=(zC d.1 l c45 m n)) Tryz.sizeOf29 c3 rfl rfl rfl rfl rfl (cX rfl) rfl rfl (fun g1 (c4:aK G a0 (aN 9 K l c45 d.1.L::aN 63 K m n d.1.E::aN 38 K V Z (dK r d.2.1)::rows [2] r d.2.1::aN 9 K e h c.1.L::aN 63 K j k c.1.E::aN 38 K y z (dK p c.2.1)::rows [2] p c.2.1::box x 29 (zC d.1 l c45 m n)::box u 29 (zC c.1 e h j k)::L) g1)=>(bA (aC ⟨⟨_,c4⟩,?_⟩))))
  have g2:=c0 _ _ c4
  have g3:=b8 _ _ g2
  exact aFy rfl (aH (v:=zB false) (aI (lY (aC ⟨false,o,rfl,rfl,rfl,(aK.arr 10 [2,3,6,7] g3 rfl)⟩))))
theorem qL {d:(List Int)} {n R:Int} (p:aK G K (L) w) (k:dB K a1 c2 d) (b:oB d n=some R):
  Calls Tryz.prog 70 ([zS a1 d.length c2,i64 n]:List Value).toArray w (iK fun v w'=>v=i64 R∧aK G K (L) w'):=by
 refine aX Tryz.func70 rfl (by kernel_rfl) (by show (2:Nat)≤19;decide) ?_
 unfold oB at b
 refine aM (aH (v:=i64 0) (aI (aQ (aM (aH (v:=i64 0) (aI (bE (fun f w=>yX=some R∧aK G K (L) w) ?_ ?_)))))))
 ·rintro f w4 ⟨b,q⟩
  unfold yX at b
  refine aC (aM (aH (v:=i64 (-1)) (aI ?_)))
  obtain rfl:=zI b
  exact bH (bF Tryz.results70 rfl ⟨rfl,q⟩)
 obtain ⟨a2,u,b⟩:=aD b
 refine cD u (fun (c:Int) f w=>f 0=zS a1 d.length c2∧f 1=i64 n∧f 5=i64 c∧aK G K (L) w) ?_ ?_
 ·exact ⟨rfl,rfl,rfl,p⟩
 ·rintro c x f a3 a l ⟨h,m,e,g⟩
  replace a:aBZ d n c=some x:=a
  unfold aBZ at a
  refine aQ (aM (aT e (aT h (aF (bN (len:=d.length) bY rfl) (aF (cG rfl rfl) (aI ?_))))))
  rcases aJ a with ⟨i,a⟩|⟨i,a⟩
  ·refine aO i rfl (aY (aC (aQ (cW (aM (aT h (aT e ?_)))))))
   obtain ⟨a4,o,a⟩:=aD a
   refine aF (dN bY rfl k rfl rfl rfl o) ?_
   obtain ⟨a5,y,z⟩:=dB.el (sz:=1) rfl k o
   cases z
   refine aF (bK (t:=0) cV g y rfl rfl) (aT m (aF (oN rfl rfl) (aI ?_)))
   rcases aJ a with ⟨j,a⟩|⟨j,a⟩
   ·refine aO j rfl (aM (aT e (aH (v:=i64 c) (aI (bH (bQ (aR (aR ?_))))))))
    have J:=l _ (zI a).symm
    subst J
    have b:(some c)=some R:=b
    obtain rfl:=zI b
    exact bQ (aR (aR (bF Tryz.results70 rfl ⟨rfl,g⟩)))
   ·exact aL j rfl (aY (bG (aC (aS (aT e (aF (cQ rfl rfl) (aH (v:=i64 (wr (c+1))) (aI ⟨wr (c+1),(zI a).symm,h,m,rfl,g⟩))))))))
  ·refine aL i rfl (cB (aV (aV ?_)))
   have Z:=l _ (zI a).symm
   subst Z
   have b:(yX)=some R:=b
   exact bJ (aC ⟨b,g⟩)
theorem mO {d:(List bB)} {e:bB} {R:Int} (p:aK G K (L) w) (l:dB K a1 c2 d) (b:mK d e=some R):
  Calls Tryz.prog 105 ([zS a1 d.length c2,str e]:List Value).toArray w (iK fun v w'=>v=i64 R∧aK G K (L) w'):=by
 refine aX Tryz.func105 rfl (by kernel_rfl) (by show (2:Nat)≤19;decide) ?_
 unfold mK at b
 refine aM (aH (v:=i64 0) (aI (aQ (aM (aH (v:=i64 0) (aI (bE (fun f w=>aAH=some R∧aK G K (L) w) ?_ ?_)))))))
 ·rintro f w4 ⟨b,q⟩
  unfold aAH at b
  refine aC (aM (aH (v:=i64 (-1)) (aI ?_)))
  obtain rfl:=zI b
  exact bH (bF Tryz.results105 rfl ⟨rfl,q⟩)
 obtain ⟨a2,u,b⟩:=aD b
 refine cD u (fun (c:Int) f w=>f 0=zS a1 d.length c2∧f 1=str e∧f 5=i64 c∧aK G K (L) w) ?_ ?_
 ·exact ⟨rfl,rfl,rfl,p⟩
 ·rintro c x f a3 a m ⟨i,n,g,h⟩
  replace a:sY d e c=some x:=a
  unfold sY at a
  refine aQ (aM (aT g (aT i (aF (bN (len:=d.length) cF rfl) (aF (cG rfl rfl) (aI ?_))))))
  rcases aJ a with ⟨j,a⟩|⟨j,a⟩
  ·refine aO j rfl (aY (aC (aQ (cW (aM (aT i (aT g ?_)))))))
   obtain ⟨a4,o,a⟩:=aD a
   refine aF (dN cF rfl l rfl rfl rfl o) ?_
   obtain ⟨a5,y,z⟩:=dB.el (sz:=1) rfl l o
   cases z
   refine aF (bK (t:=0) mV h y rfl rfl) (aT n (aF (wN rfl rfl) (aI ?_)))
   rcases aJ a with ⟨k,a⟩|⟨k,a⟩
   ·refine aO k rfl (aM (aT g (aH (v:=i64 c) (aI (bH (bQ (aR (aR ?_))))))))
    have J:=m _ (zI a).symm
    subst J
    have b:(some c)=some R:=b
    obtain rfl:=zI b
    exact bQ (aR (aR (bF Tryz.results105 rfl ⟨rfl,h⟩)))
   ·exact aL k rfl (aY (bG (aC (aS (aT g (aF (cQ rfl rfl) (aH (v:=i64 (wr (c+1))) (aI ⟨wr (c+1),(zI a).symm,i,n,rfl,h⟩))))))))
  ·refine aL j rfl (cB (aV (aV ?_)))
   have Z:=m _ (zI a).symm
   subst Z
   have b:(aAH)=some R:=b
   exact bJ (aC ⟨b,h⟩)
theorem aBr {o R:(List bB)} (hs:aK G K (L) w) (h3:dB K a1 c2 o) (x:qT o=some R):
  Calls Tryz.prog 100 ([zS a1 o.length c2]:List Value).toArray w (iK fun v w'=>∃ (d7:Option Addr) (d8:Nat),v=zS d7 R.length d8∧aK G K (aN 9 K d7 d8 R::L) w'):=by
 refine aX Tryz.func100 rfl (by kernel_rfl) (by show (1:Nat)≤65;decide) ?_
 unfold qT at x
 refine aM (aH (v:=zS none 0 0) (aI (aM (cT (Kt:=K) (xs:=([([116,97,117]:bB)]:List bB)) (cs:=[str ([116,97,117]:bB)]) (vs:=[(0,str ([116,97,117]:bB))]) cF vJ rfl rfl hs rfl (by kernel_rfl) rfl rfl rfl ⟨rfl,trivial⟩ (fun a4 w5 (g2:aK G K (aN 9 K a4 1 ([([116,97,117]:bB)]:List bB)::L) w5)=>(aH (v:=zS a4 ([([116,97,117]:bB)]:List bB).length 1) (aI (aQ (aM (aH (v:=i64 0) (aI (bE (fun f w=>∃ (V:List bB) (Z:Option Addr) (c9:Nat),aAI V=some R∧f 3=zS Z V.length c9∧aK G K (aN 9 K Z c9 V::L) w) ?_ ?_))))))))))))
 ·rintro f k7 ⟨V,Z,c9,x,g3,g4⟩
  unfold aAI at x
  refine aC (aM (aT g3 (aH (v:=zS Z V.length c9) (aI ?_))))
  obtain rfl:=zI x
  exact bH (bF Tryz.results100 rfl ⟨Z,c9,rfl,g4⟩)
 obtain ⟨k8,g6,x⟩:=aD x
 refine cD g6 (fun (s:(List bB × Int)) f w=>match s with|(b,j)=>∃ (k:Option Addr) (l:Nat),f 0=zS a1 o.length c2∧f 3=zS k b.length l∧f 4=i64 j∧aK G K (aN 9 K k l b::L) w) ?_ ?_
 ·exact ⟨a4,1,rfl,rfl,rfl,g2⟩
 ·rintro ⟨b,j⟩ z f k9 a g7 ⟨k,l,a7,a9,b0,c1⟩
  replace a:nI o b j=some z:=a
  unfold nI at a
  refine aQ (aM (aT b0 (aT a7 (aF (bN (len:=o.length) cF rfl) (aF (cG rfl rfl) (aI ?_))))))
  rcases aJ a with ⟨c3,a⟩|⟨c3,a⟩
  ·refine aO c3 rfl (aY (aC (aQ (bE (fun f w=>∃ (a2:List bB) (b1:Option Addr) (b2:Nat),sZ j a2=some z∧f 0=zS a1 o.length c2∧f 3=zS b1 a2.length b2∧f 4=i64 j∧aK G K (aN 9 K b1 b2 a2::L) w) ?_ ?_))))
   ·rintro f l0 ⟨a2,b1,b2,a,g8,g9,h0,h1⟩
    unfold sZ at a
    exact aC (aS (aT h0 (aF (cQ rfl rfl) (aH (v:=i64 (wr (j+1))) (aI ⟨(a2,wr (j+1)),(zI a).symm,b1,b2,g8,g9,rfl,h1⟩)))))
   refine aQ (aM (aT a9 (aT a7 (aT b0 ?_))))
   obtain ⟨r,b3,a⟩:=aD a
   refine aF (dN cF rfl h3 rfl rfl rfl b3) ?_
   obtain ⟨l1,c4,h2⟩:=dB.el (sz:=1) rfl h3 b3
   cases h2
   refine aF (bK (t:=0) mV c1 c4 rfl rfl) ?_
   obtain ⟨l2,l3,h4,h5,h6⟩:=aK.lendS (i:=0) c1 (zR _) rfl
   obtain ⟨l4,h7,a⟩:=aD a
   refine aU (vs:=[zS k b.length l,str r]) Tryz.call105 rfl (mO h5 h4 h7) ?_
   rintro _ l5 ⟨rfl,h8⟩
   have d9:=h6 _ _ h8
   refine aF (tU rfl rfl) (aI ?_)
   rcases aJ a with ⟨c5,a⟩|⟨c5,a⟩
   ·exact aO c5 rfl (cB (aV (bJ (aC ⟨b,k,l,a,a7,a9,b0,d9⟩))))
   ·refine aL c5 rfl (aY (aC (aM (aH (v:=i64 1) (aI (aQ (bE (fun f w=>∃ (y:Int),xG b j r y=some z∧f 0=zS a1 o.length c2∧f 3=zS k b.length l∧f 4=i64 j∧f 5=i64 y∧aK G K (aN 9 K k l b::L) w) ?_ ?_)))))))
    ·rintro f l6 ⟨y,a,h9,i0,i1,i2,i3⟩
     unfold xG at a
     refine aC (aM (aT i0 (cT (Kt:=K) (xs:=([([]:bB)]:List bB)) (cs:=[str ([]:bB)]) (vs:=[(0,str ([]:bB))]) cF vJ rfl rfl i3 rfl (by kernel_rfl) rfl rfl rfl ⟨rfl,trivial⟩ (fun i4 i5 (i6:aK G K (aN 9 K i4 1 ([([]:bB)]:List bB)::aN 9 K k l b::L) i5)=>?_))))
     obtain ⟨a3,i7,a⟩:=aD a
     refine eI (i:=0) cF Tryz.underlying22 vJ rfl rfl i6 rfl (zR _) (zR _) i7 rfl rfl rfl rfl (fun _ h=>h) (fun p q i8 (i9:aK G K (aN 9 K p q a3::L) i8)=>(aH (v:=zS p a3.length q) (aI (aQ (aM (aP (v:=zS p a3.length q) (aF (bN (len:=a3.length) cF rfl) (aF (kL rfl rfl) (aH (v:=i64 (wr ((a3.length:Int) - 1))) (aI (bE (fun f w=>∃ (b4:List bB),xF j r y b4=some z∧f 0=zS a1 o.length c2∧f 3=zS p b4.length q∧f 4=i64 j∧f 5=i64 y∧aK G K (aN 9 K p q b4::L) w) ?_ ?_)))))))))))
     ·rintro f l7 ⟨b4,a,e0,e1,e2,j0,c6⟩
      unfold xF at a
      refine aC (aS (aT e1 (aT j0 (aT e0 (aT e2 (aF (dN cF rfl h3 rfl rfl rfl b3) (aF (bK (t:=0) mV c6 c4 rfl rfl) ?_)))))))
      obtain ⟨l8,c7,a⟩:=aD a
      have j1:=cY c6 (i:=0) rfl c7
      refine aF (dW cF rfl j1 rfl rfl rfl c7) ?_
      obtain ⟨e3,e4,a⟩:=aD a
      exact mW (i:=0) (t:=0) (ns:=[str r]) (e':=(r:bB)) Tryz.sizeOf9 c6 rfl (zR _) rfl rfl rfl c7 e4 rfl rfl (cX rfl) rfl (fun cs h=>by cases h;rfl) (fun j2 (j3:aK G K (aN 9 K p q e3::L) j2)=>(bA (bG (aC ⟨e3,p,q,a,e0,(Eq.trans e1 (congrArg (fun n=>zS p n q) (jP e4))),e2,j3⟩))))
     obtain ⟨l9,j4,a⟩:=aD a
     refine cD j4 (fun (s:(List bB × Int)) f w=>match s with|(J,a5)=>f 0=zS a1 o.length c2∧f 3=zS p J.length q∧f 4=i64 j∧f 5=i64 y∧f 6=i64 a5∧aK G K (aN 9 K p q J::L) w) ?_ ?_
     ·exact ⟨h9,rfl,i1,i2,rfl,i9⟩
     ·rintro ⟨J,a5⟩ j5 f m0 m j6 ⟨e5,b5,e6,c8,b6,b7⟩
      replace m:tA y J a5=some j5:=m
      unfold tA at m
      refine aQ (aM (aT b6 (aT c8 (aF (oM rfl rfl) (aI ?_)))))
      rcases aJ m with ⟨d0,m⟩|⟨d0,m⟩
      ·refine aO d0 rfl (aY (aC (aQ (cW (aS (aT b5 (aT b6 (aT b5 (aT b6 (aF (kL rfl rfl) ?_))))))))))
       obtain ⟨e7,d1,m⟩:=aD m
       have e8:=cY b7 (i:=0) rfl d1
       refine aF (dW cF rfl e8 rfl rfl rfl d1) (aF (jL (t:=0) mV b7 (i:=0) rfl d1 rfl rfl rfl) ?_)
       obtain ⟨m1,e9,m⟩:=aD m
       refine aF (dW cF rfl e8 rfl rfl rfl e9) ?_
       obtain ⟨f0,f1,m⟩:=aD m
       exact mW (i:=0) (t:=0) (ns:=[str e7]) (e':=(e7:bB)) Tryz.sizeOf9 b7 rfl (zR _) rfl rfl rfl e9 f1 rfl rfl (cX rfl) rfl (fun cs h=>by cases h;rfl) (fun j7 (j8:aK G K (aN 9 K p q f0::L) j7)=>(bA (bG (aC (aS (aT b6 (aF (kL rfl rfl) (aH (v:=i64 (wr (a5 - 1))) (aI ⟨(f0,wr (a5 - 1)),(zI m).symm,e5,(Eq.trans b5 (congrArg (fun n=>zS p n q) (jP f1))),e6,c8,rfl,j8⟩)))))))))
      ·refine aL d0 rfl (cB (aV (aV ?_)))
       have j9:=j6 _ (zI m).symm
       subst j9
       have a:(xF j r y J)=some z:=a
       exact bJ (aC ⟨J,a,e5,b5,e6,c8,b7⟩)
    obtain ⟨m2,k0,a⟩:=aD a
    refine cD k0 (fun (u:Int) f w=>f 0=zS a1 o.length c2∧f 3=zS k b.length l∧f 4=i64 j∧f 5=i64 u∧aK G K (aN 9 K k l b::L) w) ?_ ?_
    ·exact ⟨a7,a9,b0,rfl,d9⟩
    ·rintro u f2 f m3 e k1 ⟨d2,b8,d3,b9,d⟩
     replace e:pO b r u=some f2:=e
     unfold pO at e
     refine aQ (aQ (dF (fun f w=>∃ (d4:Bool),tB u d4=some f2∧f 0=zS a1 o.length c2∧f 3=zS k b.length l∧f 4=i64 j∧f 5=i64 u∧f 35=zB d4∧aK G K (aN 9 K k l b::L) w) ?_ ?_))
     ·rintro f m4 ⟨d4,e,f3,f4,f5,f6,f7,f8⟩
      unfold tB at e
      refine aC ?_
      rcases aJ e with ⟨d5,e⟩|⟨d5,e⟩
      ·exact aO d5 f7 (aY (aC (cW (aS (aT f6 (aF (cQ rfl rfl) (aH (v:=i64 (wr (u+1))) (bA (bG (aC ⟨wr (u+1),(zI e).symm,f3,f4,f5,rfl,f8⟩))))))))))
      ·refine aL d5 f7 (cB (aV (aV ?_)))
       have k2:=k1 _ (zI e).symm
       subst k2
       have a:(xG b j r u)=some z:=a
       exact bJ (aC ⟨u,a,f3,f4,f5,f6,f8⟩)
     refine dR (C:=fun w'=>aK G K (aN 9 K k l b::L) w') bT (by kernel_rfl) (aK.mono d (dQ.drew _)) (aW (fun _ d=>aZ b9) (aW (fun _ d=>aZ b8) (aW (fun _ d=>bN (len:=b.length) cF rfl) (aW (fun _ d=>cG rfl rfl) (aW (fun _ d=>aZ (v:=zB (decide (u < (b.length:Int)))) rfl) ?_)))))
     rcases aJ e with ⟨c,e⟩|⟨c,e⟩
     ·refine bW (g:=25) rfl rfl c (aW (fun _ d=>aZ b8) (bW (g:=25) rfl rfl c (aW (fun _ d=>aZ b9) (bW (g:=25) rfl rfl c ?_))))
      obtain ⟨f9,d6,e⟩:=aD e
      have k3:=cY d (i:=0) rfl d6
      exact aW (fun _ d=>dW cF rfl k3 rfl rfl rfl d6) (bW (g:=25) rfl rfl c (aW (fun _ d=>jL (t:=0) mV d (i:=0) rfl d6 rfl rfl rfl) (bW (g:=25) rfl rfl c (aW (fun _ d=>aZ d2) (bW (g:=25) rfl rfl c (aW (fun _ d=>aZ d3) (bW (g:=25) rfl rfl c (aW (fun _ d=>dN cF rfl h3 rfl rfl rfl b3) (bW (g:=25) rfl rfl c (aW (fun _ d=>bK (t:=0) mV d c4 rfl rfl) (bW (g:=25) rfl rfl c (aW (fun _ d=>R_lssS rfl rfl) (aW (fun _ d=>bO (v:=zB (vU f9 r)) c rfl rfl) (eF (fun m5 k4=>(aC ⟨vU f9 r,e,d2,b8,d3,b9,rfl,k4⟩))))))))))))))))
     ·exact bD (g:=25) rfl rfl (dD c) (bD (g:=25) rfl rfl (dD c) (bD (g:=25) rfl rfl (dD c) (bD (g:=25) rfl rfl (dD c) (bD (g:=25) rfl rfl (dD c) (bD (g:=25) rfl rfl (dD c) (bD (g:=25) rfl rfl (dD c) (bD (g:=25) rfl rfl (dD c) (bD (g:=25) rfl rfl (dD c) (aW (fun _ d=>bV (v:=zB false) c rfl rfl) (eF (fun m6 k5=>(aC ⟨false,e,d2,b8,d3,b9,rfl,k5⟩))))))))))))
  ·refine aL c3 rfl (cB (aV (aV ?_)))
   have k6:=g7 _ (zI a).symm
   subst k6
   have x:(aAI b)=some R:=x
   exact bJ (aC ⟨b,k,l,x,a9,c1⟩)
theorem tO {b R:bB} (c:aK G K (L) w) (a:kX b=some R):
  Calls Tryz.prog 104 ([str b]:List Value).toArray w (iK fun v w'=>v=str R∧aK G K (L) w'):=by
 refine aX Tryz.func104 rfl (by kernel_rfl) (by show (1:Nat)≤7;decide) ?_
 unfold kX at a
 refine aM (aH (v:=str ([]:bB)) (aI (aM (aP (v:=str b) (aP (v:=str b) ?_)))))
 obtain ⟨j,d,a⟩:=aD a
 refine aU (vs:=[str b]) Tryz.call175 rfl (aDD c d) ?_
 rintro _ k ⟨rfl,e⟩
 obtain ⟨g,h,a⟩:=aD a
 refine aF (R_slSH Tryz.runUnderlying9 rfl rfl h) (aH (v:=str g) (aI ?_))
 obtain rfl:=zI a
 exact bH (bF Tryz.results104 rfl ⟨rfl,e⟩)
theorem aEk {t:cN} {l:Nat} {k:Int} {R:(List Edge)} (hs:aK G K (L) w) (c:kR K a1 l (zC t a4 c5 a7 c8)) (h6:dB K a4 c5 t.L) (J:dB K a7 c8 t.E) (d:aAg t k=some R):
  Calls Tryz.prog 131 ([dC a1 l,i64 k]:List Value).toArray w (iK fun v w'=>∃ (b1:Option Addr) (b2:Nat),v=zS b1 R.length b2∧aK G K (aN 63 K b1 b2 R::L) w'):=by
 refine aX Tryz.func131 rfl (by kernel_rfl) (by show (2:Nat)≤38;decide) ?_
 unfold aAg at d
 refine aM (aH (v:=zS none 0 0) (aI (aM (cT (Kt:=K) (xs:=([]:List Edge)) (cs:=[]) (vs:=[]) cK mD rfl rfl hs rfl (by kernel_rfl) rfl rfl rfl trivial (fun V b5 (b6:aK G K (aN 63 K V 0 ([]:List Edge)::L) b5)=>(aH (v:=zS V ([]:List Edge).length 0) (aI (aQ (aM (aH (v:=i64 0) (aI (bE (fun f w=>∃ (o:List Edge) (p:Option Addr) (q:Nat),aAe o=some R∧f 5=zS p o.length q∧aK G K (aN 63 K p q o::L) w) ?_ ?_))))))))))))
 ·rintro f d8 ⟨o,p,q,d,b7,b8⟩
  unfold aAe at d
  refine aC (aM (aT b7 (aH (v:=zS p o.length q) (aI ?_))))
  obtain rfl:=zI d
  exact bH (bF Tryz.results131 rfl ⟨p,q,rfl,b8⟩)
 obtain ⟨d9,c0,d⟩:=aD d
 refine cD c0 (fun (s:(List Edge × Int)) f w=>match s with|(e,g)=>∃ (m:Option Addr) (n:Nat),f 0=dC a1 l∧f 1=i64 k∧f 5=zS m e.length n∧f 6=i64 g∧aK G K (aN 63 K m n e::L) w) ?_ ?_
 ·exact ⟨V,0,rfl,rfl,rfl,rfl,b6⟩
 ·rintro ⟨e,g⟩ b3 f e0 a c1 ⟨m,n,r,Z,a0,u,j⟩
  replace a:wC t k e g=some b3:=a
  unfold wC at a
  refine aQ (aM (aT u (aT r (aF (dE rfl c) (aF (cR (k':=l+3) eR rfl c rfl) (aF (bK (t:=3) lK j c rfl rfl) (aF (bN (len:=t.E.length) cK rfl) (aF (cG rfl rfl) (aI ?_)))))))))
  rcases aJ a with ⟨a2,a⟩|⟨a2,a⟩
  ·refine aO a2 rfl (aY (aC (aQ (bE (fun f w=>∃ (x:List Edge) (y:Option Addr) (z:Nat),aAf g x=some b3∧f 0=dC a1 l∧f 1=i64 k∧f 5=zS y x.length z∧f 6=i64 g∧aK G K (aN 63 K y z x::L) w) ?_ ?_))))
   ·rintro f e1 ⟨x,y,z,a,c2,c3,c4,c6,c7⟩
    unfold aAf at a
    exact aC (aS (aT c6 (aF (cQ rfl rfl) (aH (v:=i64 (wr (g+1))) (aI ⟨(x,wr (g+1)),(zI a).symm,y,z,c2,c3,c4,rfl,c7⟩)))))
   refine aM (aT r (aF (dE rfl c) (aF (cR (k':=l+3) eR rfl c rfl) (aF (bK (t:=3) lK j c rfl rfl) (aT u ?_)))))
   obtain ⟨b,a3,a⟩:=aD a
   refine aF (dN cK rfl J rfl rfl rfl a3) ?_
   obtain ⟨e2,a5,c9⟩:=dB.el (sz:=3) rfl J a3
   cases c9
   refine aF (cR (k':=g.toNat * 3+0) kG rfl a5 rfl) (aF (bK (t:=0) cV j a5 rfl rfl) (aT Z (aF (oN rfl rfl) (aI ?_))))
   rcases aJ a with ⟨a6,a⟩|⟨a6,a⟩
   ·refine aO a6 rfl (aS (aT a0 (aT r (aF (dE rfl c) (aF (cR (k':=l+3) eR rfl c rfl) (aF (bK (t:=3) lK j c rfl rfl) (aT u (aF (dN cK rfl J rfl rfl rfl a3) (aF (fZ (t:=0) (vs:=[i64 b.F,i64 b.B,i64 b.To]) lU j a5 rfl rfl rfl) (cT (Kt:=K) (xs:=([b]:List Edge)) (cs:=[i64 b.F,i64 b.B,i64 b.To]) (vs:=[(0,zA #[i64 b.F,i64 b.B,i64 b.To])]) cK mD rfl rfl j rfl (by kernel_rfl) rfl rfl rfl ⟨rfl,trivial⟩ (fun d0 d1 (d2:aK G K (aN 63 K d0 1 ([b]:List Edge)::aN 63 K m n e::L) d1)=>?_)))))))))))
    obtain ⟨a8,d3,a⟩:=aD a
    exact eI (i:=0) cK Tryz.underlying27 mD rfl rfl d2 rfl (zR _) (zR _) d3 rfl rfl rfl rfl (fun _ h=>h) (fun a9 b0 d4 (d5:aK G K (aN 63 K a9 b0 a8::L) d4)=>(aH (v:=zS a9 a8.length b0) (bA (bG (aC ⟨a8,a9,b0,a,r,Z,rfl,u,d5⟩)))))
   ·exact aL a6 rfl (aY (bG (aC ⟨e,m,n,a,r,Z,a0,u,j⟩)))
  ·refine aL a2 rfl (cB (aV (aV ?_)))
   have d6:=c1 _ (zI a).symm
   subst d6
   have d:(aAe e)=some R:=d
   exact bJ (aC ⟨e,m,n,d,a0,j⟩)
theorem aGw {a:cN} {k2:Nat} {b:cN} {n:Nat} {labels x:(List bB)} {c:Int} {R:(List Edge)} (hs:aK G K (L) w) (h3:kR K a1 k2 (zC a a4 c5 a7 c8)) (h6:dB K a4 c5 a.L) (h9:dB K a7 c8 a.E) (k:kR K a10 n (zC b a13 c14 a16 c17)) (d0:dB K a13 c14 b.L) (n9:dB K a16 c17 b.E) (l6:dB K a19 c20 labels) (l7:dB K a22 c23 x) (j:aBl a b labels x c=some R):
  Calls Tryz.prog 101 ([dC a1 k2,dC a10 n,zS a19 labels.length c20,zS a22 x.length c23,i64 c]:List Value).toArray w (iK fun v w'=>∃ (l8:Option Addr) (l9:Nat),v=zS l8 R.length l9∧aK G K (aN 63 K l8 l9 R::L) w'):=by
 refine aX Tryz.func101 rfl (by kernel_rfl) (by show (5:Nat)≤168;decide) ?_
 unfold aBl at j
 refine aM (aH (v:=zS none 0 0) (aI (aM (aP (v:=i64 c) (aP (v:=dC a10 n) (aF (dE rfl k) (aF (cR (k':=n+0) iZ rfl k rfl) (aF (bK (t:=0) cV hs k rfl rfl) ?_))))))))
 obtain ⟨p,o0,j⟩:=aD j
 refine aF (R_quo rfl rfl o0) (aH (v:=i64 p) (aI (aM (aP (v:=i64 c) (aP (v:=dC a10 n) (aF (dE rfl k) (aF (cR (k':=n+0) iZ rfl k rfl) (aF (bK (t:=0) cV hs k rfl rfl) ?_))))))))
 obtain ⟨z,o1,j⟩:=aD j
 refine aF (R_rem rfl rfl o1) (aH (v:=i64 z) (aI (aM (cT (Kt:=K) (xs:=([]:List Edge)) (cs:=[]) (vs:=[]) cK mD rfl rfl hs rfl (by kernel_rfl) rfl rfl rfl trivial (fun h7 o2 (o3:aK G K (aN 63 K h7 0 ([]:List Edge)::L) o2)=>(aH (v:=zS h7 ([]:List Edge).length 0) (aI (aM (aP (v:=dC a1 k2) (aP (v:=i64 p) ?_))))))))))
 obtain ⟨J,o4,j⟩:=aD j
 refine aU (vs:=[dC a1 k2,i64 p]) Tryz.call131 rfl (aEk o3 h3 h6 h9 o4) ?_
 rintro _ w36 ⟨Z,a0,rfl,o5⟩
 refine aH (v:=zS Z J.length a0) (aI (aM (aP (v:=dC a10 n) (aP (v:=i64 z) ?_))))
 obtain ⟨e,o6,j⟩:=aD j
 refine aU (vs:=[dC a10 n,i64 z]) Tryz.call131 rfl (aEk o5 k d0 n9 o6) ?_
 rintro _ w42 ⟨l,m,rfl,o7⟩
 refine aH (v:=zS l e.length m) (aI (aQ (aM (aH (v:=i64 0) (aI (bE (fun f w=>∃ (f1:List Edge) (f2:Option Addr) (f3:Nat),uJ b labels x c p e f1=some R∧f 1=dC a10 n∧f 2=zS a19 labels.length c20∧f 3=zS a22 x.length c23∧f 4=i64 c∧f 11=i64 p∧f 13=zS f2 f1.length f3∧f 15=zS l e.length m∧aK G K (aN 63 K f2 f3 f1::aN 63 K l m e::L) w) ?_ ?_))))))
 ·rintro f w54 ⟨f1,f2,f3,j,o8,o9,p0,p1,p2,p3,p4,p5⟩
  unfold uJ at j
  refine aC (aQ (aM (aH (v:=i64 0) (aI (bE (fun f w=>∃ (d1:List Edge) (d2:Option Addr) (d3:Nat),uH d1=some R∧f 13=zS d2 d1.length d3∧aK G K (aN 63 K d2 d3 d1::L) w) ?_ ?_)))))
  ·rintro f w60 ⟨d1,d2,d3,j,p6,p7⟩
   unfold uH at j
   refine aC (aM (aT p6 (aH (v:=zS d2 d1.length d3) (aI ?_))))
   obtain rfl:=zI j
   exact bH (bF Tryz.results101 rfl ⟨d2,d3,rfl,p7⟩)
  obtain ⟨a18,p9,j⟩:=aD j
  refine cD p9 (fun (s:(List Edge × Int)) f w=>match s with|(a5,a6)=>∃ (b2:Option Addr) (b3:Nat),f 1=dC a10 n∧f 2=zS a19 labels.length c20∧f 3=zS a22 x.length c23∧f 4=i64 c∧f 11=i64 p∧f 13=zS b2 a5.length b3∧f 15=zS l e.length m∧f 20=i64 a6∧aK G K (aN 63 K b2 b3 a5::aN 63 K l m e::L) w) ?_ ?_
  ·exact ⟨f2,f3,o8,o9,p0,p1,p2,p3,p4,rfl,p5⟩
  ·rintro ⟨a5,a6⟩ m0 f w99 g q0 ⟨b2,b3,f4,h8,i0,i1,i2,i3,d4,d5,r⟩
   replace g:oC b labels x c p e a5 a6=some m0:=g
   unfold oC at g
   refine aQ (aM (aT d5 (aT d4 (aF (bN (len:=e.length) cK rfl) (aF (cG rfl rfl) (aI ?_))))))
   rcases aJ g with ⟨i4,g⟩|⟨i4,g⟩
   ·refine aO i4 rfl (aY (aC (aQ (bE (fun f w=>∃ (d6:List Edge) (f5:Option Addr) (f6:Nat),uI a6 d6=some m0∧f 1=dC a10 n∧f 2=zS a19 labels.length c20∧f 3=zS a22 x.length c23∧f 4=i64 c∧f 11=i64 p∧f 13=zS f5 d6.length f6∧f 15=zS l e.length m∧f 20=i64 a6∧aK G K (aN 63 K f5 f6 d6::aN 63 K l m e::L) w) ?_ ?_))))
    ·rintro f a21 ⟨d6,f5,f6,g,q1,q2,q3,q4,q5,q6,q7,q8,q9⟩
     unfold uI at g
     exact aC (aS (aT q8 (aF (cQ rfl rfl) (aH (v:=i64 (wr (a6+1))) (aI ⟨(d6,wr (a6+1)),(zI g).symm,f5,f6,q1,q2,q3,q4,q5,q6,q7,rfl,q9⟩)))))
    refine aQ (dR (C:=fun w'=>aK G K (aN 63 K b2 b3 a5::aN 63 K l m e::L) w') bT (by kernel_rfl) (aK.mono r (dQ.drew _)) (aW (fun _ r=>aZ f4) (aW (fun _ r=>dE rfl k) (aW (fun _ r=>cR (k':=n+2) eG rfl k rfl) (aW (fun _ r=>bK (t:=2) iT r k rfl rfl) (aW (fun _ r=>aZ d4) (aW (fun _ r=>aZ d5) ?_)))))))
    obtain ⟨c0,d7,g⟩:=aD g
    have f7:=cY r (i:=1) rfl d7
    refine aW (fun _ r=>dW cK rfl f7 rfl rfl rfl d7) (aW (fun _ r=>aAp (k':=a6.toNat * 3+1) iF f7 rfl rfl) (aW (fun _ r=>jL (t:=1) cV r (i:=1) rfl d7 rfl rfl rfl) ?_))
    obtain ⟨d8,m1,g⟩:=aD g
    refine aW (fun _ r=>dN cF rfl d0 rfl rfl rfl m1) ?_
    obtain ⟨a23,r0,r1⟩:=dB.el (sz:=1) rfl d0 m1
    cases r1
    refine aW (fun _ r=>bK (t:=0) mV r r0 rfl rfl) (aW (fun _ r=>dH (v:=str d8) rfl) (eF (fun a24 r2=>(aC (aM (aT i0 (aP (v:=str d8) ?_)))))))
    obtain ⟨r3,r4,g⟩:=aD g
    refine aU (vs:=[str d8]) Tryz.call104 rfl (tO r2 r4) ?_
    rintro _ a25 ⟨rfl,r5⟩
    obtain ⟨a26,r6,g⟩:=aD g
    refine aU (vs:=[zS a22 x.length c23,str r3]) Tryz.call105 rfl (mO r5 l7 r6) ?_
    rintro _ a27 ⟨rfl,m2⟩
    refine aF (cG rfl rfl) (aI ?_)
    rcases aJ g with ⟨i5,g⟩|⟨i5,g⟩
    ·refine aO i5 rfl ?_
     obtain ⟨i6,c1,r7,m3,r8⟩:=aK.lendS (i:=1) m2 (zR _) rfl
     refine gA (C:=fun w'=>∃ L',aK G i6 L' w') [(0,0),(1,0),(2,0),(3,0),(5,0),(6,0),(7,0),(8,0),(9,0),(10,0),(11,0),(12,0),(13,0),(14,0),(15,0),(16,0),(4,1),(17,0),(18,1),(19,1),(20,0)] bT (by kernel_rfl) (fun _ hg=>⟨_,aK.mono m3 hg⟩) (fun a28 r9=>?_)
     have d9:=aK.mono m3 r9
     refine bZ rfl (fun _ _=>aZ i3) (bZ rfl (fun _ _=>aZ i1) (bZ rfl (fun _ _=>aZ h8) (bZ rfl (fun _ _=>aZ (v:=str d8) rfl) (bZ rfl (fun _ _=>aZ i2) (bZ rfl (fun _ _=>aZ f4) (bZ rfl (fun _ _=>dE rfl (k.mono c1)) (bZ rfl (fun _ _=>cR (k':=n+0) iZ rfl (k.mono c1) rfl) (bZ rfl (fun _ ⟨_,d9⟩=>bK (t:=0) cV d9 (k.mono c1) rfl rfl) (bZ rfl (fun _ _=>R_mul rfl rfl) (bZ rfl (fun _ _=>aZ d4) (bZ rfl (fun _ _=>aZ d5) (bZ rfl (fun _ _=>dW cK rfl f7 rfl rfl rfl d7) (bZ rfl (fun _ _=>aAp (k':=a6.toNat * 3+2) gX f7 rfl rfl) ?_)))))))))))))
     obtain ⟨a30,s0,s1⟩:=dB.el (sz:=3) rfl r7 d7
     cases s1
     refine bZ rfl (fun _ ⟨_,d9⟩=>bK (t:=2) cV d9 s0 rfl rfl) (bZ rfl (fun _ _=>cQ rfl rfl) (kD rfl ?_))
     obtain ⟨c2,s2,g⟩:=aD g
     refine aU (vs:=[zS a19 labels.length c20,str d8]) Tryz.call105 rfl (mO d9 (l6.mono c1) s2) ?_
     rintro _ a31 ⟨rfl,m4⟩
     refine bA (aC ⟨⟨_,m4⟩,?_⟩)
     refine bZ rfl (fun _ _=>fD (vs:=[(0,i64 c),(1,i64 c2),(2,i64 (wr ((wr (p * b.N))+c0.To)))]) (cs:=[i64 c,i64 c2,i64 (wr ((wr (p * b.N))+c0.To))]) aHb rfl (by kernel_rfl)) (kD rfl (cT (Kt:=K) (xs:=([⟨c,c2,wr ((wr (p * b.N))+c0.To)⟩]:List Edge)) (cs:=[i64 c,i64 c2,i64 (wr ((wr (p * b.N))+c0.To))]) (vs:=[(0,zA #[i64 c,i64 c2,i64 (wr ((wr (p * b.N))+c0.To))])]) cK mD rfl rfl m4 rfl (by kernel_rfl) rfl rfl rfl ⟨rfl,trivial⟩ ?_))
     intro s3 s4 (m5:aK G i6 (aN 63 K s3 1 ([⟨c,c2,wr ((wr (p * b.N))+c0.To)⟩]:List Edge)::aN 63 K b2 b3 a5::L) s4)
     refine bA (aC ⟨⟨_,m5⟩,?_⟩)
     refine kD rfl ?_
     obtain ⟨i7,s5,g⟩:=aD g
     refine eI (i:=0) cK Tryz.underlying27 mD rfl rfl m5 rfl c1 c1 s5 rfl rfl rfl rfl (fun _ h=>h) (fun i8 i9 s6 (m6:aK G i6 (aN 63 K i8 i9 i7::L) s6)=>(bA (aC ⟨⟨_,m6⟩,?_⟩)))
     refine bZ rfl (fun _ _=>dH (v:=zS i8 i7.length i9) rfl) (lY ?_)
     have s7:=r8 _ _ m6
     exact bG (aC ⟨i7,i8,i9,g,f4,h8,i0,i1,i2,rfl,d4,d5,(aK.arr 2 [1,0] s7 rfl)⟩)
    ·exact aL i5 rfl (aY (bG (aC ⟨a5,b2,b3,g,f4,h8,i0,i1,i2,i3,d4,d5,m2⟩)))
   ·refine aL i4 rfl (cB (aV (aV ?_)))
    have s8:=q0 _ (zI g).symm
    subst s8
    have j:(uH a5)=some R:=j
    exact bJ (aC ⟨a5,b2,b3,j,i3,(aK.arr 2 [0] r rfl)⟩)
 obtain ⟨a32,s9,j⟩:=aD j
 refine cD s9 (fun (s:(List Edge × Int)) f w=>match s with|(b0,V)=>∃ (b4:Option Addr) (b5:Nat),f 0=dC a1 k2∧f 1=dC a10 n∧f 2=zS a19 labels.length c20∧f 3=zS a22 x.length c23∧f 4=i64 c∧f 11=i64 p∧f 12=i64 z∧f 13=zS b4 b0.length b5∧f 14=zS Z J.length a0∧f 15=zS l e.length m∧f 16=i64 V∧aK G K (aN 63 K l m e::aN 63 K Z a0 J::aN 63 K b4 b5 b0::L) w) ?_ ?_
 ·exact ⟨h7,0,rfl,rfl,rfl,rfl,rfl,rfl,rfl,rfl,rfl,rfl,rfl,o7⟩
 ·rintro ⟨b0,V⟩ f8 f a33 d t0 ⟨b4,b5,j0,f9,g0,g1,g2,j1,j2,j3,e0,j4,e1,u⟩
  replace d:mF a b labels x c z J e b0 V=some f8:=d
  unfold mF at d
  refine aQ (aM (aT e1 (aT e0 (aF (bN (len:=J.length) cK rfl) (aF (cG rfl rfl) (aI ?_))))))
  rcases aJ d with ⟨j5,d⟩|⟨j5,d⟩
  ·refine aO j5 rfl (aY (aC (aQ (bE (fun f w=>∃ (e2:List Edge) (g3:Option Addr) (g4:Nat),uK V e2=some f8∧f 0=dC a1 k2∧f 1=dC a10 n∧f 2=zS a19 labels.length c20∧f 3=zS a22 x.length c23∧f 4=i64 c∧f 11=i64 p∧f 12=i64 z∧f 13=zS g3 e2.length g4∧f 14=zS Z J.length a0∧f 15=zS l e.length m∧f 16=i64 V∧aK G K (aN 63 K g3 g4 e2::aN 63 K l m e::aN 63 K Z a0 J::L) w) ?_ ?_))))
   ·rintro f a35 ⟨e2,g3,g4,d,t1,t2,t3,t4,t5,t6,t7,t8,t9,u0,u1,u2⟩
    unfold uK at d
    exact aC (aS (aT u1 (aF (cQ rfl rfl) (aH (v:=i64 (wr (V+1))) (aI ⟨(e2,wr (V+1)),(zI d).symm,g3,g4,t1,t2,t3,t4,t5,t6,t7,t8,t9,u0,rfl,(aK.arr 3 [1,2,0] u2 rfl)⟩)))))
   refine aQ (dR (C:=fun w'=>aK G K (aN 63 K l m e::aN 63 K Z a0 J::aN 63 K b4 b5 b0::L) w') bT (by kernel_rfl) (aK.mono u (dQ.drew _)) (aW (fun _ u=>aZ j0) (aW (fun _ u=>dE rfl h3) (aW (fun _ u=>cR (k':=k2+2) eG rfl h3 rfl) (aW (fun _ u=>bK (t:=2) iT u h3 rfl rfl) (aW (fun _ u=>aZ e0) (aW (fun _ u=>aZ e1) ?_)))))))
   obtain ⟨a2,b6,d⟩:=aD d
   have c3:=cY u (i:=1) rfl b6
   refine aW (fun _ u=>dW cK rfl c3 rfl rfl rfl b6) (aW (fun _ u=>aAp (k':=V.toNat * 3+1) iF c3 rfl rfl) (aW (fun _ u=>jL (t:=1) cV u (i:=1) rfl b6 rfl rfl rfl) ?_))
   obtain ⟨b1,m7,d⟩:=aD d
   refine aW (fun _ u=>dN cF rfl h6 rfl rfl rfl m7) ?_
   obtain ⟨a36,u3,u4⟩:=dB.el (sz:=1) rfl h6 m7
   cases u4
   refine aW (fun _ u=>bK (t:=0) mV u u3 rfl rfl) (aW (fun _ u=>dH (v:=str b1) rfl) (eF (fun a37 u5=>(aC (aM (aT g0 (aP (v:=str b1) ?_)))))))
   obtain ⟨y,u6,d⟩:=aD d
   refine aU (vs:=[zS a19 labels.length c20,str b1]) Tryz.call105 rfl (mO u5 l6 u6) ?_
   rintro _ a38 ⟨rfl,u7⟩
   refine aH (v:=i64 y) (aI (aQ (aM (aT g1 (aP (v:=str b1) ?_)))))
   obtain ⟨u8,u9,d⟩:=aD d
   refine aU (vs:=[str b1]) Tryz.call104 rfl (tO u7 u9) ?_
   rintro _ a39 ⟨rfl,v0⟩
   obtain ⟨a41,v1,d⟩:=aD d
   refine aU (vs:=[zS a22 x.length c23,str u8]) Tryz.call105 rfl (mO v0 l7 v1) ?_
   rintro _ a42 ⟨rfl,m8⟩
   refine aF (cG rfl rfl) (aI ?_)
   rcases aJ d with ⟨j6,d⟩|⟨j6,d⟩
   ·refine aO j6 rfl (aQ ?_)
    obtain ⟨j7,e3,v2,m9,v3⟩:=aK.lendS (i:=1) m8 (zR _) rfl
    refine gA (C:=fun w'=>∃ L',aK G j7 L' w') [(0,0),(1,0),(2,0),(3,0),(4,0),(5,0),(6,0),(7,0),(8,0),(9,0),(10,0),(11,0),(12,0),(13,0),(14,0),(15,0),(16,1),(17,1),(18,0)] bT (by kernel_rfl) (fun _ hg=>⟨_,aK.mono m9 hg⟩) (fun a43 v4=>?_)
    have e4:=aK.mono m9 v4
    refine bZ rfl (fun _ _=>aZ j3) (bZ rfl (fun _ _=>aZ g2) (bZ rfl (fun _ _=>aZ (v:=i64 y) rfl) (bZ rfl (fun _ _=>aZ e0) (bZ rfl (fun _ _=>aZ e1) (bZ rfl (fun _ _=>dW cK rfl c3 rfl rfl rfl b6) (bZ rfl (fun _ _=>aAp (k':=V.toNat * 3+2) gX c3 rfl rfl) ?_))))))
    obtain ⟨a44,v5,v6⟩:=dB.el (sz:=3) rfl v2 b6
    cases v6
    refine bZ rfl (fun _ ⟨_,e4⟩=>bK (t:=2) cV e4 v5 rfl rfl) (bZ rfl (fun _ _=>aZ f9) (bZ rfl (fun _ _=>dE rfl (k.mono e3)) (bZ rfl (fun _ _=>cR (k':=n+0) iZ rfl (k.mono e3) rfl) (bZ rfl (fun _ ⟨_,e4⟩=>bK (t:=0) cV e4 (k.mono e3) rfl rfl) (bZ rfl (fun _ _=>R_mul rfl rfl) (bZ rfl (fun _ _=>aZ j2) (bZ rfl (fun _ _=>cQ rfl rfl) (bZ rfl (fun _ _=>fD (vs:=[(0,i64 c),(1,i64 y),(2,i64 (wr ((wr (a2.To * b.N))+z)))]) (cs:=[i64 c,i64 y,i64 (wr ((wr (a2.To * b.N))+z))]) aHb rfl (by kernel_rfl)) (kD rfl (cT (Kt:=K) (xs:=([⟨c,y,wr ((wr (a2.To * b.N))+z)⟩]:List Edge)) (cs:=[i64 c,i64 y,i64 (wr ((wr (a2.To * b.N))+z))]) (vs:=[(0,zA #[i64 c,i64 y,i64 (wr ((wr (a2.To * b.N))+z))])]) cK mD rfl rfl e4 rfl (by kernel_rfl) rfl rfl rfl ⟨rfl,trivial⟩ ?_))))))))))
    intro v7 v8 (n0:aK G j7 (aN 63 K v7 1 ([⟨c,y,wr ((wr (a2.To * b.N))+z)⟩]:List Edge)::aN 63 K l m e::aN 63 K b4 b5 b0::L) v8)
    refine bA (aC ⟨⟨_,n0⟩,?_⟩)
    refine kD rfl ?_
    obtain ⟨j8,v9,d⟩:=aD d
    refine eI (i:=1) cK Tryz.underlying27 mD rfl rfl n0 rfl e3 e3 v9 rfl rfl rfl rfl (fun _ h=>h) (fun j9 k0 w0 (n1:aK G j7 (aN 63 K l m e::aN 63 K j9 k0 j8::L) w0)=>(bA (aC ⟨⟨_,n1⟩,?_⟩)))
    refine bZ rfl (fun _ _=>dH (v:=zS j9 j8.length k0) rfl) (lY ?_)
    have w1:=v3 _ _ n1
    exact aC (cB (aV (bJ (aC ⟨j8,j9,k0,d,j0,f9,g0,g1,g2,j1,j2,rfl,e0,j4,e1,(aK.arr 3 [2,1,0] w1 rfl)⟩))))
   ·refine aL j6 rfl (aY (aC (aM (aH (v:=i64 0) (aI (bE (fun f w=>∃ (e5:List Edge) (g5:Option Addr) (g6:Nat),uL V e5=some f8∧f 0=dC a1 k2∧f 1=dC a10 n∧f 2=zS a19 labels.length c20∧f 3=zS a22 x.length c23∧f 4=i64 c∧f 11=i64 p∧f 12=i64 z∧f 13=zS g5 e5.length g6∧f 14=zS Z J.length a0∧f 15=zS l e.length m∧f 16=i64 V∧aK G K (aN 63 K g5 g6 e5::aN 63 K l m e::aN 63 K Z a0 J::L) w) ?_ ?_))))))
    ·rintro f a46 ⟨e5,g5,g6,d,w2,w3,w4,w5,w6,w7,w8,w9,x0,x1,x2,x3⟩
     unfold uL at d
     exact bG (aC ⟨e5,g5,g6,d,w2,w3,w4,w5,w6,w7,w8,w9,x0,x1,x2,x3⟩)
    obtain ⟨a47,x4,d⟩:=aD d
    refine cD x4 (fun (s:(List Edge × Int)) f w=>match s with|(a8,a9)=>∃ (b7:Option Addr) (b8:Nat),f 0=dC a1 k2∧f 1=dC a10 n∧f 2=zS a19 labels.length c20∧f 3=zS a22 x.length c23∧f 4=i64 c∧f 11=i64 p∧f 12=i64 z∧f 13=zS b7 a8.length b8∧f 14=zS Z J.length a0∧f 15=zS l e.length m∧f 16=i64 V∧f 17=str b1∧f 18=i64 y∧f 19=i64 a9∧aK G K (aN 63 K l m e::aN 63 K Z a0 J::aN 63 K b7 b8 a8::L) w) ?_ ?_
    ·exact ⟨b4,b5,j0,f9,g0,g1,g2,j1,j2,j3,e0,j4,e1,rfl,rfl,rfl,m8⟩
    ·rintro ⟨a8,a9⟩ n2 f a48 o x5 ⟨b7,b8,k1,e6,k3,k4,g7,k5,k6,k7,g8,c4,g9,k8,k9,e7,q⟩
     replace o:qU b c e a2 b1 y a8 a9=some n2:=o
     unfold qU at o
     refine aQ (aM (aT e7 (aT c4 (aF (bN (len:=e.length) cK rfl) (aF (cG rfl rfl) (aI ?_))))))
     rcases aJ o with ⟨l0,o⟩|⟨l0,o⟩
     ·refine aO l0 rfl (aY (aC (aQ (bE (fun f w=>∃ (e8:List Edge) (h0:Option Addr) (h1:Nat),uM a9 e8=some n2∧f 0=dC a1 k2∧f 1=dC a10 n∧f 2=zS a19 labels.length c20∧f 3=zS a22 x.length c23∧f 4=i64 c∧f 11=i64 p∧f 12=i64 z∧f 13=zS h0 e8.length h1∧f 14=zS Z J.length a0∧f 15=zS l e.length m∧f 16=i64 V∧f 17=str b1∧f 18=i64 y∧f 19=i64 a9∧aK G K (aN 63 K h0 h1 e8::aN 63 K l m e::aN 63 K Z a0 J::L) w) ?_ ?_))))
      ·rintro f a49 ⟨e8,h0,h1,o,x6,x7,x8,x9,y0,y1,y2,y3,y4,y5,y6,y7,y8,y9,z0⟩
       unfold uM at o
       exact aC (aS (aT y9 (aF (cQ rfl rfl) (aH (v:=i64 (wr (a9+1))) (aI ⟨(e8,wr (a9+1)),(zI o).symm,h0,h1,x6,x7,x8,x9,y0,y1,y2,y3,y4,y5,y6,y7,y8,rfl,(aK.arr 3 [1,2,0] z0 rfl)⟩)))))
      refine aQ (dR (C:=fun w'=>aK G K (aN 63 K l m e::aN 63 K Z a0 J::aN 63 K b7 b8 a8::L) w') bT (by kernel_rfl) (aK.mono q (dQ.drew _)) (aW (fun _ q=>aZ e6) (aW (fun _ q=>dE rfl k) (aW (fun _ q=>cR (k':=n+2) eG rfl k rfl) (aW (fun _ q=>bK (t:=2) iT q k rfl rfl) (aW (fun _ q=>aZ c4) (aW (fun _ q=>aZ e7) ?_)))))))
      obtain ⟨c6,e9,o⟩:=aD o
      have h2:=cY q (i:=0) rfl e9
      refine aW (fun _ q=>dW cK rfl h2 rfl rfl rfl e9) (aW (fun _ q=>aAp (k':=a9.toNat * 3+1) iF h2 rfl rfl) (aW (fun _ q=>jL (t:=1) cV q (i:=0) rfl e9 rfl rfl rfl) ?_))
      obtain ⟨a50,n3,o⟩:=aD o
      refine aW (fun _ q=>dN cF rfl d0 rfl rfl rfl n3) ?_
      obtain ⟨a51,z1,z2⟩:=dB.el (sz:=1) rfl d0 n3
      cases z2
      refine aW (fun _ q=>bK (t:=0) mV q z1 rfl rfl) (aW (fun _ q=>aZ k8) (aW (fun _ q=>wN rfl rfl) (eF (fun a52 n4=>(aC ?_)))))
      rcases aJ o with ⟨l1,o⟩|⟨l1,o⟩
      ·refine aO l1 rfl ?_
       obtain ⟨a53,c7,z3,z4,z5⟩:=aK.lendS (i:=0) n4 (zR _) rfl
       obtain ⟨l2,c9,z6,n5,z7⟩:=aK.lendS (i:=0) z4 c7 rfl
       refine gA (C:=fun w'=>∃ L',aK G l2 L' w') [(0,0),(1,0),(2,0),(3,0),(4,0),(5,0),(6,0),(7,0),(8,0),(9,0),(10,0),(11,0),(12,0),(13,0),(14,0),(15,0),(16,0),(17,0),(18,0),(19,0),(20,1),(21,1),(22,0)] bT (by kernel_rfl) (fun _ hg=>⟨_,aK.mono n5 hg⟩) (fun a54 z8=>?_)
       have b9:=aK.mono n5 z8
       refine bZ rfl (fun _ _=>aZ k7) (bZ rfl (fun _ _=>aZ g7) (bZ rfl (fun _ _=>aZ k9) (bZ rfl (fun _ _=>aZ g8) (bZ rfl (fun _ _=>aZ g9) (bZ rfl (fun _ _=>dW cK rfl c3 rfl rfl rfl b6) (bZ rfl (fun _ _=>aAp (k':=V.toNat * 3+2) gX c3 rfl rfl) ?_))))))
       obtain ⟨a55,z9,a00⟩:=dB.el (sz:=3) rfl z6 b6
       cases a00
       refine bZ rfl (fun _ ⟨_,b9⟩=>bK (t:=2) cV b9 z9 rfl rfl) (bZ rfl (fun _ _=>aZ e6) (bZ rfl (fun _ _=>dE rfl (k.mono (zL c7 c9))) (bZ rfl (fun _ _=>cR (k':=n+0) iZ rfl (k.mono (zL c7 c9)) rfl) (bZ rfl (fun _ ⟨_,b9⟩=>bK (t:=0) cV b9 (k.mono (zL c7 c9)) rfl rfl) (bZ rfl (fun _ _=>R_mul rfl rfl) (bZ rfl (fun _ _=>aZ c4) (bZ rfl (fun _ _=>aZ e7) (bZ rfl (fun _ _=>dW cK rfl h2 rfl rfl rfl e9) (bZ rfl (fun _ _=>aAp (k':=a9.toNat * 3+2) gX h2 rfl rfl) ?_)))))))))
       obtain ⟨a56,a01,a02⟩:=dB.el (sz:=3) rfl (z3.mono c9) e9
       cases a02
       refine bZ rfl (fun _ ⟨_,b9⟩=>bK (t:=2) cV b9 a01 rfl rfl) (bZ rfl (fun _ _=>cQ rfl rfl) (bZ rfl (fun _ _=>fD (vs:=[(0,i64 c),(1,i64 y),(2,i64 (wr ((wr (a2.To * b.N))+c6.To)))]) (cs:=[i64 c,i64 y,i64 (wr ((wr (a2.To * b.N))+c6.To))]) aHb rfl (by kernel_rfl)) (kD rfl (cT (Kt:=K) (xs:=([⟨c,y,wr ((wr (a2.To * b.N))+c6.To)⟩]:List Edge)) (cs:=[i64 c,i64 y,i64 (wr ((wr (a2.To * b.N))+c6.To))]) (vs:=[(0,zA #[i64 c,i64 y,i64 (wr ((wr (a2.To * b.N))+c6.To))])]) cK mD rfl rfl b9 rfl (by kernel_rfl) rfl rfl rfl ⟨rfl,trivial⟩ ?_))))
       intro a03 a04 (n6:aK G l2 (aN 63 K a03 1 ([⟨c,y,wr ((wr (a2.To * b.N))+c6.To)⟩]:List Edge)::aN 63 K b7 b8 a8::L) a04)
       refine bA (aC ⟨⟨_,n6⟩,?_⟩)
       refine kD rfl ?_
       obtain ⟨l3,a05,o⟩:=aD o
       refine eI (i:=0) cK Tryz.underlying27 mD rfl rfl n6 rfl (zL c7 c9) (zL c7 c9) a05 rfl rfl rfl rfl (fun _ h=>h) (fun l4 l5 a06 (n7:aK G l2 (aN 63 K l4 l5 l3::L) a06)=>(bA (aC ⟨⟨_,n7⟩,?_⟩)))
       refine bZ rfl (fun _ _=>dH (v:=zS l4 l3.length l5) rfl) (lY ?_)
       have a07:=z7 _ _ n7
       have a08:=z5 _ _ a07
       exact bG (aC ⟨l3,l4,l5,o,k1,e6,k3,k4,g7,k5,k6,rfl,g8,c4,g9,k8,k9,e7,(aK.arr 3 [2,0,1] a08 rfl)⟩)
      ·exact aL l1 rfl (aY (bG (aC ⟨a8,b7,b8,o,k1,e6,k3,k4,g7,k5,k6,k7,g8,c4,g9,k8,k9,e7,(aK.arr 3 [2,0,1] n4 rfl)⟩)))
     ·refine aL l0 rfl (cB (aV (aV ?_)))
      have a09:=x5 _ (zI o).symm
      subst a09
      have d:(uL V a8)=some f8:=d
      exact bJ (aC ⟨a8,b7,b8,d,k1,e6,k3,k4,g7,k5,k6,k7,g8,c4,g9,(aK.arr 3 [2,0,1] q rfl)⟩)
  ·refine aL j5 rfl (cB (aV (aV ?_)))
   have a11:=t0 _ (zI d).symm
   subst a11
   have j:(uJ b labels x c p e b0)=some R:=j
   exact bJ (aC ⟨b0,b4,b5,j,f9,g0,g1,g2,j1,j3,j4,(aK.arr 3 [2,0] u rfl)⟩)
theorem aEl {j:(List Edge)} {e:Edge} {R:(List Edge)} (hs:aK G K (aN 63 K a1 c2 j::L) w) (a:aEZ j e=some R):
  Calls Tryz.prog 102 ([zS a1 j.length c2,zA #[i64 e.F,i64 e.B,i64 e.To]]:List Value).toArray w (iK fun v w'=>∃ (c8:Option Addr) (c9:Nat),v=zS c8 R.length c9∧aK G K (aN 63 K c8 c9 R::L) w'):=by
 let l:=[i64 e.F,i64 e.B,i64 e.To]
 let J:=aN 63 K a1 c2 j
 refine aX Tryz.func102 rfl (by kernel_rfl) (by show (2:Nat)≤57;decide) ?_
 unfold aEZ at a
 refine aM (gP (v:=zA #[i64 e.F,i64 e.B,i64 e.To]) (vs:=l) hs rfl rfl (fun c w4 f1=>(aH (v:=zS none 0 0) (aI (aM (aP (v:=zS a1 j.length c2) (aF (bN (len:=j.length) cK rfl) (aH (v:=i64 (j.length:Int)) (aI (aQ (bE (fun f w=>∃ (r:Int),aBS j e r=some R∧f 0=zS a1 j.length c2∧f 3=zP (some ⟨c,0,none⟩)∧f 5=i64 r∧aK G K (box c 63 l::J::L) w) ?_ ?_)))))))))))
 ·rintro f j5 ⟨r,a,e7,e8,e9,k⟩
  unfold aBS at a
  refine aC (aQ (aQ (dF (fun f w=>∃ (b1:Bool),aBR j e r b1=some R∧f 0=zS a1 j.length c2∧f 3=zP (some ⟨c,0,none⟩)∧f 5=i64 r∧f 30=zB b1∧aK G K (box c 63 l::J::L) w) ?_ ?_)))
  ·rintro f j6 ⟨b1,a,d0,f2,f3,d1,d2⟩
   unfold aBR at a
   refine aC ?_
   rcases aJ a with ⟨b2,a⟩|⟨b2,a⟩
   ·refine aO b2 d1 (aM (aT d0 (aH (v:=zS a1 j.length c2) (aI ?_))))
    obtain rfl:=zI a
    exact bH (aR (bF Tryz.results102 rfl ⟨a1,c2,rfl,(aK.arr 1 [] d2 rfl)⟩))
   ·refine aL b2 d1 (aY (aC (aM (aT d0 (aF (fD (vs:=[]) (cs:=[i64 0,i64 0,i64 0]) aHb rfl (by kernel_rfl)) (cT (Kt:=K) (xs:=([⟨0,0,0⟩]:List Edge)) (cs:=[i64 0,i64 0,i64 0]) (vs:=[(0,zA #[i64 0,i64 0,i64 0])]) cK mD rfl rfl d2 rfl (by kernel_rfl) rfl rfl rfl ⟨rfl,trivial⟩ (fun f5 f6 (f7:aK G K (aN 63 K f5 1 ([⟨0,0,0⟩]:List Edge)::box c 63 l::J::L) f6)=>?_)))))))
    obtain ⟨a0,f8,a⟩:=aD a
    refine eI (i:=1) cK Tryz.underlying27 mD rfl rfl f7 rfl (zR _) (zR _) f8 rfl rfl rfl rfl (fun _ h=>h) (fun m o f9 (g0:aK G K (box c 63 l::aN 63 K m o a0::L) f9)=>(aH (v:=zS m a0.length o) (aI (aQ (aM (aP (v:=zS m a0.length o) (aF (bN (len:=a0.length) cK rfl) (aF (kL rfl rfl) (aH (v:=i64 (wr ((a0.length:Int) - 1))) (aI (bE (fun f w=>∃ (a4:List Edge),aBQ e r a4=some R∧f 0=zS m a4.length o∧f 3=zP (some ⟨c,0,none⟩)∧f 5=i64 r∧aK G K (box c 63 l::aN 63 K m o a4::L) w) ?_ ?_)))))))))))
    ·rintro f j7 ⟨a4,a,d3,g1,g2,b4⟩
     unfold aBQ at a
     refine aC (aM (aT d3 (aT g2 (aF (dX (us:=l) lU b4 (i:=0) rfl g1 rfl rfl) ?_))))
     obtain ⟨j8,b5,a⟩:=aD a
     have g3:=cY b4 (i:=1) rfl b5
     refine aF (dW cK rfl g3 rfl rfl rfl b5) ?_
     obtain ⟨b6,d4,a⟩:=aD a
     refine mW (i:=1) (t:=0) (ns:=l) (e':=(⟨e.F,e.B,e.To⟩:Edge)) Tryz.sizeOf63 b4 rfl (zR _) rfl rfl rfl b5 d4 rfl rfl (cX rfl) rfl (fun cs h=>by cases h;rfl) (fun g4 (g5:aK G K (box c 63 l::aN 63 K m o b6::L) g4)=>(aI (aM (aT (v:=zS m b6.length o) (Eq.trans d3 (congrArg (fun n=>zS m n o) (jP d4))) (aH (v:=zS m b6.length o) (aI ?_))))))
     obtain rfl:=zI a
     exact bH (bF Tryz.results102 rfl ⟨m,o,rfl,(aK.arr 1 [] g5 rfl)⟩)
    obtain ⟨j9,g7,a⟩:=aD a
    refine cD g7 (fun (s:(List Edge × Int)) f w=>match s with|(V,a2)=>f 0=zS m V.length o∧f 3=zP (some ⟨c,0,none⟩)∧f 5=i64 r∧f 6=i64 a2∧aK G K (box c 63 l::aN 63 K m o V::L) w) ?_ ?_
    ·exact ⟨rfl,f2,f3,rfl,g0⟩
    ·rintro ⟨V,a2⟩ g8 f k0 p g9 ⟨a5,d5,b7,a6,a7⟩
     replace p:aDx r V a2=some g8:=p
     unfold aDx at p
     refine aQ (aM (aT a6 (aT b7 (aF (oM rfl rfl) (aI ?_)))))
     rcases aJ p with ⟨b8,p⟩|⟨b8,p⟩
     ·refine aO b8 rfl (aY (aC (aQ (cW (aS (aT a5 (aT a6 (aT a5 (aT a6 (aF (kL rfl rfl) ?_))))))))))
      obtain ⟨z,b9,p⟩:=aD p
      have d6:=cY a7 (i:=1) rfl b9
      refine aF (dW cK rfl d6 rfl rfl rfl b9) (aF (tL (t:=0) (vs:=[i64 z.F,i64 z.B,i64 z.To]) lU a7 (i:=1) rfl b9 rfl rfl rfl rfl) ?_)
      obtain ⟨k1,d7,p⟩:=aD p
      refine aF (dW cK rfl d6 rfl rfl rfl d7) ?_
      obtain ⟨d8,d9,p⟩:=aD p
      exact mW (i:=1) (t:=0) (ns:=[i64 z.F,i64 z.B,i64 z.To]) (e':=(⟨z.F,z.B,z.To⟩:Edge)) Tryz.sizeOf63 a7 rfl (zR _) rfl rfl rfl d7 d9 rfl rfl (cX rfl) rfl (fun cs h=>by cases h;rfl) (fun h0 (h1:aK G K (box c 63 l::aN 63 K m o d8::L) h0)=>(bA (bG (aC (aS (aT a6 (aF (kL rfl rfl) (aH (v:=i64 (wr (a2 - 1))) (aI ⟨(d8,wr (a2 - 1)),(zI p).symm,(Eq.trans a5 (congrArg (fun n=>zS m n o) (jP d9))),d5,b7,rfl,h1⟩)))))))))
     ·refine aL b8 rfl (cB (aV (aV ?_)))
      have h2:=g9 _ (zI p).symm
      subst h2
      have a:(aBQ e r V)=some R:=a
      exact bJ (aC ⟨V,a,a5,d5,b7,a7⟩)
  refine dR (C:=fun w'=>aK G K (box c 63 l::J::L) w') bT (by kernel_rfl) (aK.mono k (dQ.drew _)) (aW (fun _ k=>aZ e9) (aW (fun _ k=>oM rfl rfl) (aW (fun _ k=>aZ (v:=zB (decide (0 < r))) rfl) ?_)))
  rcases aJ a with ⟨d,a⟩|⟨d,a⟩
  ·refine bW (g:=22) rfl rfl d (aW (fun _ k=>aZ e7) (bW (g:=22) rfl rfl d (aW (fun _ k=>aZ e9) (bW (g:=22) rfl rfl d (aW (fun _ k=>kL rfl rfl) (bW (g:=22) rfl rfl d ?_))))))
   obtain ⟨Z,c0,a⟩:=aD a
   have h3:=cY k (i:=1) rfl c0
   exact aW (fun _ k=>dW cK rfl h3 rfl rfl rfl c0) (bW (g:=22) rfl rfl d (aW (fun _ k=>tL (t:=0) (vs:=[i64 Z.F,i64 Z.B,i64 Z.To]) lU k (i:=1) rfl c0 rfl rfl rfl rfl) (bW (g:=22) rfl rfl d (aW (fun _ k=>dX (us:=l) lU k (i:=0) rfl e8 rfl rfl) (bW (g:=22) rfl rfl d (aW (fun _ k=>R_eqlG (eq_63 (x:=Z) (y:=e)) rfl rfl) (aW (fun _ k=>bO (v:=zB (decide ((Z:Edge)=e))) d rfl rfl) (eF (fun k2 h4=>(aC ⟨decide ((Z:Edge)=e),a,e7,e8,e9,rfl,h4⟩))))))))))
  ·exact bD (g:=22) rfl rfl (dD d) (bD (g:=22) rfl rfl (dD d) (bD (g:=22) rfl rfl (dD d) (bD (g:=22) rfl rfl (dD d) (bD (g:=22) rfl rfl (dD d) (bD (g:=22) rfl rfl (dD d) (bD (g:=22) rfl rfl (dD d) (aW (fun _ k=>bV (v:=zB false) d rfl rfl) (eF (fun k3 h5=>(aC ⟨false,a,e7,e8,e9,rfl,h5⟩))))))))))
 obtain ⟨k4,h6,a⟩:=aD a
 refine cD h6 (fun (u:Int) f w=>f 0=zS a1 j.length c2∧f 3=zP (some ⟨c,0,none⟩)∧f 5=i64 u∧aK G K (box c 63 l::J::L) w) ?_ ?_
 ·exact ⟨rfl,rfl,rfl,f1⟩
 ·rintro u e0 f k5 b h7 ⟨c1,c3,a8,c4⟩
  replace b:aDy j e u=some e0:=b
  unfold aDy at b
  refine aQ (aQ (dF (fun f w=>∃ (c5:Bool),aBT u c5=some e0∧f 0=zS a1 j.length c2∧f 3=zP (some ⟨c,0,none⟩)∧f 5=i64 u∧f 17=zB c5∧aK G K (box c 63 l::J::L) w) ?_ ?_))
  ·rintro f k6 ⟨c5,b,e1,e2,e3,e4,e5⟩
   unfold aBT at b
   refine aC ?_
   rcases aJ b with ⟨c6,b⟩|⟨c6,b⟩
   ·exact aO c6 e4 (aY (aC (cW (aS (aT e3 (aF (kL rfl rfl) (aH (v:=i64 (wr (u - 1))) (bA (bG (aC ⟨wr (u - 1),(zI b).symm,e1,e2,rfl,e5⟩))))))))))
   ·refine aL c6 e4 (cB (aV (aV ?_)))
    have h8:=h7 _ (zI b).symm
    subst h8
    have a:(aBS j e u)=some R:=a
    exact bJ (aC ⟨u,a,e1,e2,e3,e5⟩)
  refine aS (aT a8 (aF (oM rfl rfl) (aP (v:=zB (decide (0 < u))) ?_)))
  rcases aJ b with ⟨q,b⟩|⟨q,b⟩
  ·refine bU q rfl rfl (aT c1 (bU q rfl rfl (aT a8 (bU q rfl rfl (aF (kL rfl rfl) (bU q rfl rfl ?_))))))
   obtain ⟨k7,c7,b⟩:=aD b
   have h9:=cY c4 (i:=1) rfl c7
   refine aF (dW cK rfl h9 rfl rfl rfl c7) (bU q rfl rfl ?_)
   obtain ⟨k8,i0,i1,i2,i3⟩:=aK.lendB (i:=0) c4 rfl
   obtain ⟨k9,i4,i5,i6,i7⟩:=aK.lendS (i:=0) i2 i0 rfl
   obtain ⟨l0,i8,i9⟩:=dB.el (sz:=3) rfl i5 c7
   cases i9
   obtain ⟨e6,j0,b⟩:=aD b
   refine aU (vs:=[dC (some ⟨c,0,none⟩) 0,dC a1 ((wr (u - 1)).toNat * 3+0)]) Tryz.call69 (lst2 c3 rfl) (aDF i6 (i1.mono i4) i8 j0) ?_
   rintro _ l1 ⟨rfl,j1⟩
   have j2:=i7 _ _ j1
   have j3:=i3 _ _ j2
   exact aF (bO (v:=zB e6) q rfl rfl) (aI ⟨e6,b,c1,c3,a8,rfl,j3⟩)
  ·exact bI q rfl rfl (bI q rfl rfl (bI q rfl rfl (bI q rfl rfl (bI q rfl rfl (aF (bV (v:=zB false) q rfl rfl) (aI ⟨false,b,c1,c3,a8,rfl,c4⟩))))))
theorem aIB {e:(List Int)} {n:Int} {R:(List Int)} (hs:aK G K (L) w) (o:dB K a1 c2 e) (b:aDz e n=some R):
  Calls Tryz.prog 103 ([zS a1 e.length c2,i64 n]:List Value).toArray w (iK fun v w'=>∃ (d4:Option Addr) (d5:Nat),v=zS d4 R.length d5∧aK G K (aN 2 K d4 d5 R::L) w'):=by
 refine aX Tryz.func103 rfl (by kernel_rfl) (by show (2:Nat)≤49;decide) ?_
 unfold aDz at b
 refine aM (aH (v:=zS none 0 0) (aI (aM (cT (Kt:=K) (xs:=([]:List Int)) (cs:=[]) (vs:=[]) bY lR rfl rfl hs rfl (by kernel_rfl) rfl rfl rfl trivial (fun a4 w5 (e8:aK G K (aN 2 K a4 0 ([]:List Int)::L) w5)=>(aH (v:=zS a4 ([]:List Int).length 0) (aI (aM (aH (v:=zB false) (aI (aQ (aM (aH (v:=i64 0) (aI (bE (fun f w=>∃ (p:List Int) (b4:Bool) (q:Option Addr) (r:Nat),aAi n p b4=some R∧f 1=i64 n∧f 5=zS q p.length r∧f 6=zB b4∧aK G K (aN 2 K q r p::L) w) ?_ ?_)))))))))))))))
 ·rintro f i6 ⟨p,b4,q,r,b,e9,d6,f0,d7⟩
  unfold aAi at b
  refine aC (aAo (fun f w=>∃ (u:List Int) (x:Option Addr) (y:Nat),aAh u=some R∧f 5=zS x u.length y∧aK G K (aN 2 K x y u::L) w) ?_ ?_)
  ·rintro f i7 ⟨u,x,y,b,f1,f2⟩
   unfold aAh at b
   refine aM (aT f1 (aH (v:=zS x u.length y) (aI ?_)))
   obtain rfl:=zI b
   exact bH (bF Tryz.results103 rfl ⟨x,y,rfl,f2⟩)
  refine aM (aT f0 (aF (fC rfl) (aI ?_)))
  rcases aJ b with ⟨b5,b⟩|⟨b5,b⟩
  ·refine aO b5 rfl (aS (aT d6 (aT e9 (cT (Kt:=K) (xs:=([n]:List Int)) (cs:=[i64 n]) (vs:=[(0,i64 n)]) bY lR rfl rfl d7 rfl (by kernel_rfl) rfl rfl rfl ⟨rfl,trivial⟩ (fun f4 f5 (f6:aK G K (aN 2 K f4 1 ([n]:List Int)::aN 2 K q r p::L) f5)=>?_)))))
   obtain ⟨b6,f7,b⟩:=aD b
   exact eI (i:=0) bY Tryz.underlying38 lR rfl rfl f6 rfl (zR _) (zR _) f7 rfl rfl rfl rfl (fun _ h=>h) (fun b7 b8 f8 (f9:aK G K (aN 2 K b7 b8 b6::L) f8)=>(aH (v:=zS b7 b6.length b8) (aI ⟨b6,b7,b8,b,rfl,f9⟩)))
  ·exact aL b5 rfl (aY (aC ⟨p,q,r,b,d6,d7⟩))
 obtain ⟨i8,g0,b⟩:=aD b
 refine cD g0 (fun (s:(List Int × Bool × Int)) f w=>match s with|(d,j,k)=>∃ (l:Option Addr) (m:Nat),f 0=zS a1 e.length c2∧f 1=i64 n∧f 5=zS l d.length m∧f 6=zB j∧f 7=i64 k∧aK G K (aN 2 K l m d::L) w) ?_ ?_
 ·exact ⟨a4,0,rfl,rfl,rfl,rfl,rfl,e8⟩
 ·rintro ⟨d,j,k⟩ b9 f i9 a g1 ⟨l,m,V,Z,c0,a0,a2,a3⟩
  replace a:nJ e n d j k=some b9:=a
  unfold nJ at a
  refine aQ (aM (aT a2 (aT V (aF (bN (len:=e.length) bY rfl) (aF (cG rfl rfl) (aI ?_))))))
  rcases aJ a with ⟨c1,a⟩|⟨c1,a⟩
  ·refine aO c1 rfl (aY (aC (aQ (cW (aAo (fun f w=>∃ (z:List Int) (a5:Bool) (a6:Option Addr) (a7:Nat),wD e k z a5=some b9∧f 0=zS a1 e.length c2∧f 1=i64 n∧f 5=zS a6 z.length a7∧f 6=zB a5∧f 7=i64 k∧aK G K (aN 2 K a6 a7 z::L) w) ?_ ?_)))))
   ·rintro f j0 ⟨z,a5,a6,a7,a,d8,g2,g3,g4,d9,e0⟩
    unfold wD at a
    refine aS (aT g3 (aT d8 (aT d9 ?_)))
    obtain ⟨a9,e1,a⟩:=aD a
    refine aF (dN bY rfl o rfl rfl rfl e1) ?_
    obtain ⟨j1,g5,g6⟩:=dB.el (sz:=1) rfl o e1
    cases g6
    refine aF (bK (t:=0) cV e0 g5 rfl rfl) (cT (Kt:=K) (xs:=([a9]:List Int)) (cs:=[i64 a9]) (vs:=[(0,i64 a9)]) bY lR rfl rfl e0 rfl (by kernel_rfl) rfl rfl rfl ⟨rfl,trivial⟩ (fun g7 g8 (g9:aK G K (aN 2 K g7 1 ([a9]:List Int)::aN 2 K a6 a7 z::L) g8)=>?_))
    obtain ⟨c3,h0,a⟩:=aD a
    exact eI (i:=0) bY Tryz.underlying38 lR rfl rfl g9 rfl (zR _) (zR _) h0 rfl rfl rfl rfl (fun _ h=>h) (fun c4 c5 h1 (h2:aK G K (aN 2 K c4 c5 c3::L) h1)=>(aH (v:=zS c4 c3.length c5) (bA (bG (aC (aS (aT d9 (aF (cQ rfl rfl) (aH (v:=i64 (wr (k+1))) (aI ⟨(c3,a5,wr (k+1)),(zI a).symm,c4,c5,d8,g2,rfl,g4,rfl,h2⟩))))))))))
   refine aQ (dF (fun f w=>∃ (c6:Bool),aAj e n d j k c6=some b9∧f 0=zS a1 e.length c2∧f 1=i64 n∧f 5=zS l d.length m∧f 6=zB j∧f 7=i64 k∧f 24=zB c6∧aK G K (aN 2 K l m d::L) w) ?_ ?_)
   ·rintro f j2 ⟨c6,a,b0,J,c7,h4,b1,e2,b2⟩
    unfold aAj at a
    refine aC ?_
    rcases aJ a with ⟨c8,a⟩|⟨c8,a⟩
    ·refine aO c8 e2 (aM (aH (v:=zB true) (aI (aM (aT b0 (aT b1 ?_))))))
     obtain ⟨j3,e3,a⟩:=aD a
     refine aF (dN bY rfl o rfl rfl rfl e3) ?_
     obtain ⟨j4,h5,h6⟩:=dB.el (sz:=1) rfl o e3
     cases h6
     refine aF (bK (t:=0) cV b2 h5 rfl rfl) (aT J (aF (oM rfl rfl) (aI ?_)))
     rcases aJ a with ⟨d0,a⟩|⟨d0,a⟩
     ·refine aO d0 rfl (aS (aT c7 (aT J (cT (Kt:=K) (xs:=([n]:List Int)) (cs:=[i64 n]) (vs:=[(0,i64 n)]) bY lR rfl rfl b2 rfl (by kernel_rfl) rfl rfl rfl ⟨rfl,trivial⟩ (fun h7 h8 (h9:aK G K (aN 2 K h7 1 ([n]:List Int)::aN 2 K l m d::L) h8)=>?_)))))
      obtain ⟨d1,i0,a⟩:=aD a
      exact eI (i:=0) bY Tryz.underlying38 lR rfl rfl h9 rfl (zR _) (zR _) i0 rfl rfl rfl rfl (fun _ h=>h) (fun d2 d3 i1 (i2:aK G K (aN 2 K d2 d3 d1::L) i1)=>(aH (v:=zS d2 d1.length d3) (aI ⟨d1,true,d2,d3,a,b0,J,rfl,rfl,b1,i2⟩)))
     ·exact aL d0 rfl (aY (aC ⟨d,true,l,m,a,b0,J,c7,rfl,b1,b2⟩))
    ·exact aL c8 e2 (aY (aC ⟨d,j,l,m,a,b0,J,c7,h4,b1,b2⟩))
   refine aS (aT a0 (aF (fC rfl) (aP (v:=zB (!j)) ?_)))
   rcases aJ a with ⟨c,a⟩|⟨c,a⟩
   ·refine bU c rfl rfl (aT V (bU c rfl rfl (aT a2 (bU c rfl rfl ?_))))
    obtain ⟨e4,e5,a⟩:=aD a
    refine aF (dN bY rfl o rfl rfl rfl e5) ?_
    obtain ⟨j5,i3,i4⟩:=dB.el (sz:=1) rfl o e5
    cases i4
    exact bU c rfl rfl (aF (bK (t:=0) cV a3 i3 rfl rfl) (bU c rfl rfl (aT Z (bU c rfl rfl (aF (tU rfl rfl) (aF (bO (v:=zB (decide (n≤e4))) c rfl rfl) (aI ⟨decide (n≤e4),a,V,Z,c0,a0,a2,rfl,a3⟩)))))))
   ·exact bI c rfl rfl (bI c rfl rfl (bI c rfl rfl (bI c rfl rfl (bI c rfl rfl (bI c rfl rfl (aF (bV (v:=zB false) c rfl rfl) (aI ⟨false,a,V,Z,c0,a0,a2,rfl,a3⟩)))))))
  ·refine aL c1 rfl (cB (aV (aV ?_)))
   have i5:=g1 _ (zI a).symm
   subst i5
   have b:(aAi n d j)=some R:=b
   exact bJ (aC ⟨d,j,l,m,b,Z,c0,a0,a3⟩)
end Gv
