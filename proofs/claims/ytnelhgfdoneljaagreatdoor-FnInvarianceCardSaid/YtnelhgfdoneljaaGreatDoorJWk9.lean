/- Walks, printed by program. -/
import Derived.Test.YtnelhgfdoneljaaGreatDoorJWk7
set_option linter.all false
namespace Gv
open Gv.Hp renaming le_refl→zR
open Go.Value renaming slice→zS,bool→zB,agg→zA,tuple→zT
open Gv.Hp renaming le_trans→zL
open Go Go.Proofs Go.Proofs.Tryz
set_option maxRecDepth 20000
set_option maxHeartbeats 40000000
variable {G:tO} {K:Hp} {L:List fJ} {w:World} {a1 a4 a7 a10:Option Addr} {c2 c5 c8 c11:Nat}
theorem aIa {a b:bQ} {R:(Bool × Int)} (hm:aDA a b=some R) (q:aF G K (L) w) (Z:G.lo=0) (h3:bL K a1 c2 a.L) (h6:bL K a4 c5 a.E) (h9:bL K a7 c8 b.L) (a5:bL K a10 c11 b.E):
  Calls prog 26 ([zA (zCa a a1 c2 a4 c5),zA (zCa b a7 c8 a10 c11),Value.func (.func 22) #[] #[]]:List Value).toArray w (eC fun v w'=>v=zT #[zB R.1,i64 R.2]/\aF G K (L) w'):=by
 let d:=(zC a a1 c2 a4 c5)
 let e:=(zC b a7 c8 a10 c11)
 refine aN func26 rfl (by kernel_rfl) (by show (3:Nat)<=23;decide) ?_;unfold aDA at hm
 refine aJ (gF (v:=zA (zCa a a1 c2 a4 c5)) (vs:=d) q rfl rfl (fun j a6 r=>(gF (v:=zA (zCa b a7 c8 a10 c11)) (vs:=e) r rfl rfl (fun u a8 a9=>(aI (v:=zB false) (aI (v:=i64 0) (aH (aK (aK (bP [2,3,4] (fun f w=>∃ h,uH a b h=some R/\f 15=zB h/\aF G K (box u 29 e::box j 29 d::L) w) ?_ ?_))))))))))
 ·rintro f k ⟨h,hm,x,y⟩
  unfold uH at hm
  refine aC ?_
  rcases aL hm with ⟨l,hm⟩|⟨l,hm⟩
  ·exact aM
  ·refine bG l x (aW (aC (aK ?_)));obtain ⟨z,b0,m,i,_⟩:=aF.lendBp y .head
   replace i:aF G z (box j 29 d::L) k:=i
   obtain ⟨n,o,p,g,_⟩:=aF.lendBp i .head
   replace g:aF G n (L) k:=g
   refine cV (C:=fun w'=>∃ L',aF G n L' w') [(0,0),(1,0),(2,0),(3,0),(4,0),(5,1),(6,1),(7,0),(8,0)] Tryz_mixed (by kernel_rfl) (fun _ hg=>⟨_,aF.mono g hg⟩) (fun b1 J=>?_)
   have c:=aF.mono g J
   exact bE rfl (fun _ ⟨_,c⟩=>jQ (t:=0) (vs:=d) rE c p (aJW rfl) rfl rfl) (bE rfl (fun _ ⟨_,c⟩=>jQ (t:=0) (vs:=e) rE c (m.mono o) (aJW rfl) rfl rfl) (bE rfl (fun _ ⟨_,c⟩=>jQ (t:=0) (vs:=d) rE c p (aJW rfl) rfl rfl) (bE rfl (fun _ ⟨_,c⟩=>jQ (t:=0) (vs:=e) rE c (m.mono o) (aJW rfl) rfl rfl) (bE rfl (fun _ _=>aT (v:=Value.func (.func 22) #[] #[]) rfl) (nT rfl aM)))))
 exact aM
theorem aAK {a b:bQ} {R:(Bool × Int)} (hm:wS a b=some R) (c:aF G K (L) w) (d:G.lo=0) (e:bL K a1 c2 a.L) (g:bL K a4 c5 a.E) (h:bL K a7 c8 b.L) (i:bL K a10 c11 b.E):
  Calls prog 10 ([zA (zCa a a1 c2 a4 c5),zA (zCa b a7 c8 a10 c11)]:List Value).toArray w (eC fun v w'=>v=zT #[zB R.1,i64 R.2]/\aF G K (L) w'):=by
 exact aM
theorem tN {a:(List bD)} {t:bQ} {R:(Bool × Int)} (hm:pC a t=some R) (x:aF G K (L) w) (e:G.lo=0) (g:bL K a1 c2 a) (h:bL K a4 c5 t.L) (j:bL K a7 c8 t.E):
  Calls prog 11 ([zS a1 a.length c2,zA (zCa t a4 c5 a7 c8)]:List Value).toArray w (eC fun v w'=>v=zT #[zB R.1,i64 R.2]/\aF G K (L) w'):=by
 let c:=(zC t a4 c5 a7 c8)
 refine aN func11 rfl (by kernel_rfl) (by show (2:Nat)<=21;decide) ?_;unfold pC at hm
 refine aJ (gF (v:=zA (zCa t a4 c5 a7 c8)) (vs:=c) x rfl rfl (fun y b2 k=>(aI (v:=zB false) (aI (v:=i64 0) (aH (aK (aJ (aD (kZ (us:=c) rE k (i:=0) rfl rfl rfl rfl) (aG (v:=zS a1 a.length c2) (bX (Kt:=K) (xs:=([a]:List (List bD))) (cs:=[zS a1 a.length c2]) (vs:=[(0,zS a1 a.length c2)]) sl_84 ez_24 rfl rfl k rfl (by kernel_rfl) rfl rfl rfl ⟨⟨a1,c2,rfl,g⟩,trivial⟩ (fun l z (J:aF G K (own 24 K l 1 ([a]:List (List bD))::box y 29 c::L) z)=>?_)))))))))))
 obtain ⟨b3,m,Z,a0,a2⟩:=aF.lendSp J (Hp.le_refl _) .head
 obtain ⟨n,a3,hm⟩:=aB hm
 refine aP (vs:=[zA (zCa t a4 c5 a7 c8),zS l ([a]:List (List bD)).length 1]) call23 rfl (aBJ a3 a0 e (h.mono m) (j.mono m) Z) ?_
 rintro _ b4 ⟨rfl,a5⟩
 have a6:=a2 _ _ a5
 refine aI (v:=i64 n) (aH (aJ (aG (v:=i64 n) (aD (aFx rfl rfl) (aH ?_)))))
 rcases aL hm with ⟨o,hm⟩|⟨o,hm⟩
 ·exact aM
 ·refine bG o rfl (aW (aC (aK ?_)));obtain ⟨a8,d,p,q,b5⟩:=aF.lendBp a6 zt1
  refine cV (C:=fun w'=>∃ L',aF G a8 L' w') [(0,0),(1,0),(3,0),(4,0),(2,1),(5,0),(6,1),(7,0),(8,0)] Tryz_mixed (by kernel_rfl) (fun _ hg=>⟨_,aF.mono q hg⟩) (fun b6 a9=>?_)
  have b:=aF.mono q a9
  refine bE rfl (fun _ _=>aT (v:=zS a1 a.length c2) rfl) (bE rfl (fun _ ⟨_,b⟩=>jQ (t:=0) (vs:=c) rE b p rfl rfl rfl) (bE rfl (fun _ _=>bH (t':=1) aFg rfl rfl) (bE rfl (fun _ ⟨_,b⟩=>aU (t:=1) cR b p rfl rfl) (nT rfl ?_))));obtain ⟨b7,b0,hm⟩:=aB hm
  refine aP (vs:=[zS a1 a.length c2,zA (zCa t a4 c5 a7 c8),zS none 0 0,i64 0]) call25 rfl (aAJ b0 b e (g.mono d) (h.mono d) (j.mono d)) ?_
  rintro _ b8 ⟨b9,c0,rfl,r⟩
  refine aV (aC ⟨⟨_,r⟩,?_⟩)
  obtain ⟨c1,u,hm⟩:=aB hm
  have b1:=cA r (i:=0) rfl u
  exact bE rfl (fun _ _=>cM cS rfl b1 rfl rfl rfl u) (nT rfl aM)
theorem aAL {a6 a7:(List UInt8)} {R:Bool} (hm:wT a6 a7=some R) (hs:aF G K (L) w) (hG:G.lo=0) (h3:bL K a1 c2 a6) (h6:bL K a4 c5 a7):
  Calls prog 3 ([zS a1 a6.length c2,zS a4 a7.length c5]:List Value).toArray w (eC fun v w'=>v=zB R/\aF G K (L) w'):=by
 let c4:=zG
 refine aN func3 rfl (by kernel_rfl) (by show (2:Nat)<=128;decide) ?_;unfold wT at hm
 refine aJ (aI (v:=zB false) (aH (aK (aJ (aG (v:=zS a1 a6.length c2) (aG (v:=zS a4 a7.length c5) ?_))))));obtain ⟨r7,q8,hm⟩:=aB hm
 refine aP (vs:=[zS a1 a6.length c2,zS a4 a7.length c5]) call4 rfl (aFJ q8 hs h3 h6) ?_
 rintro _ w9 ⟨rfl,g0⟩
 refine aH ?_
 rcases aL hm with ⟨d6,hm⟩|⟨d6,hm⟩
 ·exact aM
 ·refine bG d6 rfl (aW (aC (aJ (aG (v:=zS a4 a7.length c5) ?_))));obtain ⟨n,g1,hm⟩:=aB hm
  refine aP (vs:=[zS a4 a7.length c5]) call5 rfl (aDi g1 g0 h6) ?_
  rintro _ m5 ⟨p,q,rfl,g2⟩
  refine aI (v:=zS p n.length q) (aH (aJ (aG (v:=zS a1 a6.length c2) ?_)));obtain ⟨a,g3,hm⟩:=aB hm
  refine aP (vs:=[zS a1 a6.length c2]) call6 rfl (aGK g3 g2 h3) ?_
  rintro _ m6 ⟨k,l,h,j,b,c,d,e,rfl,g4⟩
  refine aG (v:=zT #[zA (zCa a.1 k l h j),zA (zCa a.2 b c d e)]) (aD (dC rfl rfl) (aD (dC rfl rfl) (bV (vs:=c4) zeroValue29 g4 rfl (fun Z m7 g5=>(bV (vs:=c4) zeroValue29 g5 rfl (fun a0 m8 g6=>(dJ (i:=1) (ns:=(zC a.1 k l h j)) (us:=(zC a.1 k l h j)) sizeOf29 g6 rfl rfl rfl rfl rfl (eV rfl) rfl rfl (fun g7 (g8:aF G K (box a0 29 c4::box Z 29 (zC a.1 k l h j)::own 9 K k l a.1.L::own 51 K h j a.1.E::own 9 K b c a.2.L::own 51 K d e a.2.E::own 66 K p q n::L) g7)=>(dJ (i:=0) (ns:=(zC a.2 b c d e)) (us:=(zC a.2 b c d e)) sizeOf29 g8 rfl rfl rfl rfl rfl (eV rfl) rfl rfl (fun c6 (d7:aF G K (box a0 29 (zC a.2 b c d e)::box Z 29 (zC a.1 k l h j)::own 9 K k l a.1.L::own 51 K h j a.1.E::own 9 K b c a.2.L::own 51 K d e a.2.E::own 66 K p q n::L) c6)=>(aH (aJ (aD (kZ (us:=(zC a.1 k l h j)) rE d7 (i:=1) rfl rfl rfl rfl) ?_)))))))))))))
  obtain ⟨g9,a3,b4,c7⟩:=aF.giveSp d7 (Hp.le_refl _) zt2
  replace c7:aF G g9 (box a0 29 (zC a.2 b c d e)::box Z 29 (zC a.1 k l h j)::own 51 K h j a.1.E::own 9 K b c a.2.L::own 51 K d e a.2.E::own 66 K p q n::L) c6:=c7
  obtain ⟨h0,a2,b5,c8⟩:=aF.giveSp c7 a3 zt2
  replace c8:aF G h0 (box a0 29 (zC a.2 b c d e)::box Z 29 (zC a.1 k l h j)::own 9 K b c a.2.L::own 51 K d e a.2.E::own 66 K p q n::L) c6:=c8
  obtain ⟨u,h1,hm⟩:=aB hm
  refine aP (vs:=[zA (zCa a.1 k l h j)]) call7 rfl (aAe (t:=⟨a.1.N,a.1.I,a.1.L,a.1.E⟩) h1 c8 hG (b4.mono a2) b5) ?_
  rintro _ m9 ⟨a5,a9,b0,rfl,x,b6,d8⟩
  refine aG (v:=zT #[zS a9 u.1.length b0,i64 u.2]) (aD (dC rfl rfl) (aD (dC rfl rfl) (aI (v:=zS a9 u.1.length b0) (aI (v:=i64 u.2) (aH (aJ (aG (v:=zS p n.length q) (aD (kZ (us:=(zC a.1 k l h j)) rE d8 (i:=1) rfl rfl rfl rfl) ?_))))))));obtain ⟨n0,d9,h2,h4,h5⟩:=aF.lendSp d8 (zL (zL a3 a2) x) zt4
  obtain ⟨o,h7,hm⟩:=aB hm
  refine aP (vs:=[zS p n.length q,zA (zCa a.1 k l h j)]) call8 rfl (aAh h7 h4 hG h2 (b4.mono (zL (zL a2 x) d9)) (b5.mono (zL x d9))) ?_
  rintro _ n1 ⟨y,z,rfl,h8⟩
  have b7:=h5 _ _ h8
  refine aG (v:=zT #[zS y o.1.length z,i64 o.2]) (aD (dC rfl rfl) (aD (dC rfl rfl) (aI (v:=zS y o.1.length z) (aI (v:=i64 o.2) (aH (aK (aK (bP [5,6,7,8,10] (fun f w=>∃ c9,kJ n a u o c9=some R/\f 53=zB c9/\aF G a5 (own 66 K p q n::own 2 K y z o.1::box a0 29 (zC a.2 b c d e)::box Z 29 (zC a.1 k l h j)::own 9 K b c a.2.L::own 51 K d e a.2.E::L) w) ?_ ?_))))))))
  ·rintro f n2 ⟨c9,hm,h9,n3⟩
   unfold kJ at hm
   refine aC ?_
   rcases aL hm with ⟨e0,hm⟩|⟨e0,hm⟩
   ·exact aM
   ·refine bG e0 h9 (aW (aC (aK (aJ (aI (v:=i64 0) (aH (aO [5,6,7,10] (fun f w=>nN n a o=some R/\aF G a5 (own 66 K p q n::own 2 K y z o.1::box a0 29 (zC a.2 b c d e)::box Z 29 (zC a.1 k l h j)::own 9 K b c a.2.L::own 51 K d e a.2.E::L) w) ?_ ?_)))))))
    ·rintro f n4 ⟨hm,d0⟩
     unfold nN at hm
     refine aC (aJ (aD (kZ (us:=(zC a.1 k l h j)) rE d0 (i:=3) rfl rfl rfl rfl) (aD (kZ (us:=(zC a.2 b c d e)) rE d0 (i:=2) rfl rfl rfl rfl) ?_)));obtain ⟨n5,d1,i0,i1,i2⟩:=aF.lendSp d0 (zL (zL a3 a2) x) zt4
     obtain ⟨n6,d2,i3,i4,i5⟩:=aF.lendSp i1 (zL (zL (zL a3 a2) x) d1) zt4
     obtain ⟨b8,i6,hm⟩:=aB hm
     refine aP (vs:=[zA (zCa a.1 k l h j),zA (zCa a.2 b c d e)]) call10 rfl (aAK i6 i4 hG (b4.mono (zL (zL (zL a2 x) d1) d2)) (b5.mono (zL (zL x d1) d2)) (i0.mono d2) i3) ?_
     rintro _ n7 ⟨rfl,i7⟩
     have i8:=i5 _ _ i7
     have e1:=i2 _ _ i8
     refine aG (v:=zT #[zB b8.1,i64 b8.2]) (aD (dC rfl rfl) (aD (dC rfl rfl) (aI (v:=zB b8.1) (aI (v:=i64 b8.2) (aH (aJ (aG (v:=zS p n.length q) (aD (kZ (us:=(zC a.1 k l h j)) rE e1 (i:=5) rfl rfl rfl rfl) ?_))))))));obtain ⟨n8,e2,i9,j0,j1⟩:=aF.lendSp e1 (zL (zL a3 a2) x) zt2
     obtain ⟨b9,j2,hm⟩:=aB hm
     refine aP (vs:=[zS p n.length q,zA (zCa a.1 k l h j)]) call11 rfl (tN j2 j0 hG i9 (b4.mono (zL (zL a2 x) e2)) (b5.mono (zL x e2))) ?_
     rintro _ n9 ⟨rfl,j3⟩
     have e3:=j1 _ _ j3
     refine aG (v:=zT #[zB b9.1,i64 b9.2]) (aD (dC rfl rfl) (aD (dC rfl rfl) (aI (v:=zB b9.1) (aI (v:=i64 b9.2) (aH (aJ (aG (v:=zS p n.length q) (aD (kZ (us:=(zC a.2 b c d e)) rE e3 (i:=4) rfl rfl rfl rfl) ?_))))))));obtain ⟨o0,e4,j4,j5,j6⟩:=aF.lendSp e3 (zL (zL a3 a2) x) .head
     obtain ⟨o1,e5,j7,j8,j9⟩:=aF.lendSp j5 (zL (zL (zL a3 a2) x) e4) .head
     obtain ⟨o2,e6,k0,k1,k2⟩:=aF.lendSp j8 (zL (zL (zL (zL a3 a2) x) e4) e5) .head
     obtain ⟨c0,k3,hm⟩:=aB hm
     refine aP (vs:=[zS p n.length q,zA (zCa a.2 b c d e)]) call11 rfl (tN k3 k1 hG (j4.mono (zL e5 e6)) (j7.mono e6) k0) ?_
     rintro _ o3 ⟨rfl,k4⟩
     have k5:=k2 _ _ k4
     have k6:=j9 _ _ k5
     have o4:=j6 _ _ k6
     exact aG (v:=zT #[zB c0.1,i64 c0.2]) (aD (dC rfl rfl) (aD (dC rfl rfl) (aI (v:=zB c0.1) (aI (v:=i64 c0.2) (aH (aK (bP [] (fun f w=>∃ e7,gN e7=some R/\f 4=zB e7/\aF G a5 (L) w) aM aM)))))))
    obtain ⟨o5,k7,ho⟩:=aB hm
    refine eY [5,6,7,8,10] k7 (fun b1 f w=>f 12=i64 b1/\aF G a5 (own 66 K p q n::own 2 K y z o.1::box a0 29 (zC a.2 b c d e)::box Z 29 (zC a.1 k l h j)::own 9 K b c a.2.L::own 51 K d e a.2.E::L) w) aM ?_
    ·rintro b1 e8 f o6 hm hr ⟨b3,o7⟩
     unfold gP at hm
     refine aK (aJ (aY b3 (aG (v:=zS a9 u.1.length b0) (aD (bC (len:=u.1.length) bN rfl) (aD (cK rfl rfl) (aH ?_))))))
     rcases aL hm with ⟨e9,hm⟩|⟨e9,hm⟩
     ·refine aR e9 rfl (aW (aC (aK (aO [5,6,7,8,10,12] (fun f w=>qX b1=some e8/\aF G a5 (own 66 K p q n::own 2 K y z o.1::box a0 29 (zC a.2 b c d e)::box Z 29 (zC a.1 k l h j)::own 9 K b c a.2.L::own 51 K d e a.2.E::L) w) ?_ ?_))))
      ·rintro f o8 ⟨hm,k8⟩
       unfold qX at hm
       exact aC (aS (aY b3 (aD (cN rfl rfl) (aI (v:=i64 (wr (b1+1))) (aH ⟨_,(Option.some.inj hm).symm,bF,rfl,k8⟩)))))
      refine aJ (aI (v:=i64 0) (aH (aO [5,6,7,8,10,12] (fun f w=>qY b1=some e8/\aF G a5 (own 66 K p q n::own 2 K y z o.1::box a0 29 (zC a.2 b c d e)::box Z 29 (zC a.1 k l h j)::own 9 K b c a.2.L::own 51 K d e a.2.E::L) w) aM ?_)));obtain ⟨o9,k9,ho⟩:=aB hm
      refine eY [5,6,7,8,10,12] k9 (fun c1 f w=>f 13=i64 c1/\aF G a5 (own 66 K p q n::own 2 K y z o.1::box a0 29 (zC a.2 b c d e)::box Z 29 (zC a.1 k l h j)::own 9 K b c a.2.L::own 51 K d e a.2.E::L) w) aM ?_
      ·rintro c1 l0 f p0 hm hr ⟨d3,l1⟩
       unfold gO at hm
       refine aK (aJ (aY d3 (aY b3 (aD (cK rfl rfl) (aH ?_)))))
       rcases aL hm with ⟨f0,hm⟩|⟨f0,hm⟩
       ·refine aR f0 rfl (aW (aC (aK (cD (aK (bP [5,6,7,8,10,12,13] (fun f w=>∃ f1,nO c1 f1=some l0/\f 82=zB f1/\aF G a5 (own 66 K p q n::own 2 K y z o.1::box a0 29 (zC a.2 b c d e)::box Z 29 (zC a.1 k l h j)::own 9 K b c a.2.L::own 51 K d e a.2.E::L) w) aM ?_))))));obtain ⟨l2,c3,f2,m,f3⟩:=aF.lendSp l1 (zL (zL a3 a2) x) zt1
        refine mK (C:=fun w'=>aF G l2 (own 66 K p q n::box a0 29 (zC a.2 b c d e)::box Z 29 (zC a.1 k l h j)::own 9 K b c a.2.L::own 51 K d e a.2.E::L) w') Tryz_mixed (by kernel_rfl) (aF.mono m (dZ.drew _)) (cC (fun _ m=>aT (v:=zS a9 u.1.length b0) rfl) (cC (fun _ m=>aT b3) ?_));obtain ⟨l3,f4,hm⟩:=aB hm
        refine cC (fun _ m=>dM bN rfl (b6.mono c3) rfl rfl rfl f4) ?_;obtain ⟨p1,l4,l5⟩:=bL.el (sz:=1) rfl b6 f4
        cases l5
        refine cC (fun _ m=>aU (t:=0) cR m (l4.mono c3) rfl rfl) (cC (fun _ m=>aT (v:=zS a9 u.1.length b0) rfl) (cC (fun _ m=>aT d3) ?_));obtain ⟨l6,f5,hm⟩:=aB hm
        refine cC (fun _ m=>dM bN rfl (b6.mono c3) rfl rfl rfl f5) ?_;obtain ⟨p2,l7,l8⟩:=bL.el (sz:=1) rfl b6 f5
        cases l8
        refine cC (fun _ m=>aU (t:=0) cR m (l7.mono c3) rfl rfl) (cC (fun _ m=>qS rfl rfl) (cC (fun _ m=>aT (v:=zB (l3 == l6)) rfl) ?_))
        rcases aL hm with ⟨r,hm⟩|⟨r,hm⟩
        ·refine kE (g:=74) rfl rfl r (cC (fun _ m=>aT (v:=zS y o.1.length z) rfl) (kE (g:=74) rfl rfl r (cC (fun _ m=>aT b3) (kE (g:=74) rfl rfl r ?_))));obtain ⟨f6,l9,hm⟩:=aB hm
         refine aFc (vs:=[zS y o.1.length z,i64 b1]) (v:=zB f6) call9 rfl (fun _ m=>(aDB l9 m f2)) (kE (g:=74) rfl rfl r (cC (fun _ m=>aT (v:=zS y o.1.length z) rfl) (kE (g:=74) rfl rfl r (cC (fun _ m=>aT d3) (kE (g:=74) rfl rfl r ?_)))));obtain ⟨f7,m0,hm⟩:=aB hm
         refine aFc (vs:=[zS y o.1.length z,i64 c1]) (v:=zB f7) call9 rfl (fun _ m=>(aDB m0 m f2)) (kE (g:=74) rfl rfl r (cC (fun _ m=>R_neqB runUnderlying4 rfl rfl) (cC (fun _ m=>eX (v:=zB (f6 != f7)) r rfl rfl) (uV (fun p3 m1=>?_)))))
         have p4:=f3 _ _ m1
         exact aM
        ·refine jI (g:=74) rfl rfl (gS r) (jI (g:=74) rfl rfl (gS r) (jI (g:=74) rfl rfl (gS r) (jI (g:=74) rfl rfl (gS r) (jI (g:=74) rfl rfl (gS r) (jI (g:=74) rfl rfl (gS r) (jI (g:=74) rfl rfl (gS r) (cC (fun _ m=>fF (v:=zB false) r rfl rfl) (uV (fun p5 m2=>?_)))))))))
         have p6:=f3 _ _ m2
         exact aM
       ·exact aM
     ·exact aM
  refine aS (aG (v:=i64 u.2) (aD (aFx rfl rfl) (aG (v:=zB (u.2 != 0)) ?_)))
  rcases aL hm with ⟨a8,hm⟩|⟨a8,hm⟩
  ·exact dL a8 rfl rfl (dL a8 rfl rfl (aD (eX (v:=zB true) a8 rfl rfl) (aG (v:=zB true) (dL (rfl:true=true) rfl rfl (dL (rfl:true=true) rfl rfl (dL (rfl:true=true) rfl rfl (dL (rfl:true=true) rfl rfl (dL (rfl:true=true) rfl rfl (aD (eX (v:=zB true) (rfl:true=true) rfl rfl) (aH ⟨bF,true,hm,rfl,b7⟩))))))))))
  ·refine cU a8 rfl rfl (aG (v:=i64 o.2) (cU a8 rfl rfl (aD (aFx rfl rfl) (aD (fF (v:=zB (o.2 != 0)) a8 rfl rfl) (aG (v:=zB (o.2 != 0)) ?_)))))
   rcases aL hm with ⟨J,hm⟩|⟨J,hm⟩
   ·exact dL J rfl rfl (dL J rfl rfl (dL J rfl rfl (dL J rfl rfl (dL J rfl rfl (aD (eX (v:=zB true) J rfl rfl) (aH ⟨bF,true,hm,rfl,b7⟩))))))
   ·exact cU J rfl rfl (aG (v:=zS a9 u.1.length b0) (cU J rfl rfl (aD (bC (len:=u.1.length) bN rfl) (cU J rfl rfl (aD (bH (t':=0) fA rfl rfl) (cU J rfl rfl (aD (eM cR b7 (i:=3) rfl rfl rfl) (cU J rfl rfl (aD (aFx rfl rfl) (aD (fF (v:=zB ((u.1.length:Int) != a.1.N)) J rfl rfl) (aH ⟨bF,(u.1.length:Int) != a.1.N,hm,rfl,b7⟩)))))))))))
end Gv
