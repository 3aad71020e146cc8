/- Walks, printed by program. -/
import Derived.Test.YtlehiakgdejgkaaGreatDoorJWk1
import Derived.Test.YtlehiakgdejgkaaGreatDoorJWk5
import Derived.Test.YtlehiakgdejgkaaGreatDoorJWk7
import Derived.Test.YtlehiakgdejgkaaGreatDoorJWk9
import Derived.Test.YtlehiakgdejgkaaGreatDoorJWk11
import Derived.Test.YtlehiakgdejgkaaGreatDoorJT
set_option linter.all false
namespace Gv
open Go.Value renaming slice→zS,bool→zB,agg→zA,tuple→zT
open Option.some renaming inj→zI
open Gv.Hp renaming le_trans→zL
open Go Go.Proofs Go.Proofs.Tryz
set_option maxRecDepth 20000
set_option maxHeartbeats 40000000
variable {G:Env} {K:Hp} {L:List iI} {w:World} {a1:Option Addr} {c2:Nat}
theorem aFz {d2:(List UInt8)} {R:Bool} (hm:aDL d2=some R) (hs:aD G K (L) w) (hG:G.lo=0) (h3:aW K a1 c2 d2):
  Calls Tryz.prog 3 ([zS a1 d2.length c2]:List Value).toArray w (dS fun v w'=>v=zB R/\aD G K (L) w'):=by
 let f0:=zG
 let h7:=[i64 0,i64 0,zS none 0 0,zS none 0 0,zS none 0 0]
 refine iT func3 rfl (by kernel_rfl) (by show (1:Nat)<=178;decide) ?_;unfold aDL at hm
 refine bC (aT (v:=zB false) (aU (bB (bC (aR (v:=zS a1 d2.length c2) ?_)))));obtain ⟨r4,q5,hm⟩:=aB hm
 refine bO (vs:=[zS a1 d2.length c2]) call4 rfl (aHX q5 hs h3) ?_
 rintro _ w6 ⟨rfl,k0⟩
 refine aU ?_
 rcases aG hm with ⟨c8,hm⟩|⟨c8,hm⟩
 ·exact aI
 ·refine bT c8 rfl (cN (aC (bC (aR (v:=zS a1 d2.length c2) ?_))));obtain ⟨c,k1,hm⟩:=aB hm
  refine bO (vs:=[zS a1 d2.length c2]) call5 rfl (aFs k1 k0 h3) ?_
  rintro _ t7 ⟨e0,l,m,n,o,r,u,x,y,rfl,c0,e1,e2,f1,f2,k2⟩
  refine aR (v:=zT #[zA (zCa c.1 l m n o),zA (zCa c.2 r u x y)]) (aM (eC rfl rfl) (aM (eC rfl rfl) (fQ (vs:=f0) zeroValue27 k2 rfl (fun a6 t8 k3=>(fQ (vs:=f0) zeroValue27 k3 rfl (fun a7 t9 k4=>(kL (i:=1) (ns:=(zC c.1 l m n o)) (us:=(zC c.1 l m n o)) sizeOf27 k4 rfl rfl rfl rfl rfl (nI rfl) rfl rfl (fun k5 (k6:aD G e0 (box a7 27 f0::box a6 27 (zC c.1 l m n o)::L) k5)=>(kL (i:=0) (ns:=(zC c.2 r u x y)) (us:=(zC c.2 r u x y)) sizeOf27 k6 rfl rfl rfl rfl rfl (nI rfl) rfl rfl (fun k7 (f3:aD G e0 (box a7 27 (zC c.2 r u x y)::box a6 27 (zC c.1 l m n o)::L) k7)=>(aU (bC (aM (vK (us:=(zC c.1 l m n o)) mS f3 (i:=1) rfl rfl rfl rfl) (aM (vK (us:=(zC c.2 r u x y)) mS f3 (i:=0) rfl rfl rfl rfl) ?_))))))))))))))
  obtain ⟨d,k8,hm⟩:=aB hm
  refine bO (vs:=[zA (zCa c.1 l m n o),zA (zCa c.2 r u x y)]) call6 rfl (aEH k8 f3 hG e1 e2 f1 f2) ?_
  rintro _ u0 ⟨p,q,j,k,h,c45,rfl,k9⟩
  refine aR (v:=zT #[zA #[i64 d.1.S.N,i64 d.1.S.I,zS p d.1.S.L.length q,zS j d.1.S.E.length k,zS h d.1.Verdicts.length c45],i64 d.2]) (aM (eC rfl rfl) (aM (eC rfl rfl) (fQ (vs:=h7) zeroValue32 k9 rfl (fun b1 u1 l0=>(kL (i:=0) (ns:=[i64 d.1.S.N,i64 d.1.S.I,zS p d.1.S.L.length q,zS j d.1.S.E.length k,zS h d.1.Verdicts.length c45]) (us:=[i64 d.1.S.N,i64 d.1.S.I,zS p d.1.S.L.length q,zS j d.1.S.E.length k,zS h d.1.Verdicts.length c45]) sizeOf32 l0 rfl rfl rfl rfl rfl (nI rfl) rfl rfl (fun l1 (h9:aD G e0 (box b1 32 [i64 d.1.S.N,i64 d.1.S.I,zS p d.1.S.L.length q,zS j d.1.S.E.length k,zS h d.1.Verdicts.length c45]::aH 9 K p q d.1.S.L::aH 52 K j k d.1.S.E::aH 2 K h c45 d.1.Verdicts::box a7 27 (zC c.2 r u x y)::box a6 27 (zC c.1 l m n o)::L) l1)=>(aT (v:=i64 d.2) (aU (bB (bC (aR (v:=i64 d.2) (aM (aIU rfl rfl) (aU ?_)))))))))))))
  rcases aG hm with ⟨i0,hm⟩|⟨i0,hm⟩
  ·exact aI
  ·refine bT i0 rfl (cN (aC (bC (aM (vK (us:=[i64 d.1.S.N,i64 d.1.S.I,zS p d.1.S.L.length q,zS j d.1.S.E.length k,zS h d.1.Verdicts.length c45]) aFf h9 (i:=0) rfl rfl rfl rfl) ?_))));obtain ⟨u2,i1,l2,l3,l4⟩:=aD.lendSp h9 c0 (.tail .head)
   obtain ⟨u3,i2,l5,l6,l7⟩:=aD.lendSp l3 (zL c0 i1) (.tail .head)
   obtain ⟨u4,i3,l8,l9,m0⟩:=aD.lendSp l6 (zL (zL c0 i1) i2) (.tail .head)
   obtain ⟨e,m1,hm⟩:=aB hm
   refine bO (vs:=[zA #[i64 d.1.S.N,i64 d.1.S.I,zS p d.1.S.L.length q,zS j d.1.S.E.length k,zS h d.1.Verdicts.length c45]]) call8 rfl (aBW m1 l9 hG (l2.mono (zL i2 i3)) (l5.mono i3) l8) ?_
   rintro _ u5 ⟨b7,b8,b2,b3,a8,a9,rfl,m2⟩
   have m3:=m0 _ _ m2
   have m4:=l7 _ _ m3
   have m5:=l4 _ _ m4
   refine aR (v:=zT #[zA #[i64 e.1.S.N,i64 e.1.S.I,zS b7 e.1.S.L.length b8,zS b2 e.1.S.E.length b3,zS a8 e.1.Verdicts.length a9],i64 e.2]) (aM (eC rfl rfl) (aM (eC rfl rfl) (fQ (vs:=h7) zeroValue32 m5 rfl (fun d3 u6 m6=>(kL (i:=0) (ns:=[i64 e.1.S.N,i64 e.1.S.I,zS b7 e.1.S.L.length b8,zS b2 e.1.S.E.length b3,zS a8 e.1.Verdicts.length a9]) (us:=[i64 e.1.S.N,i64 e.1.S.I,zS b7 e.1.S.L.length b8,zS b2 e.1.S.E.length b3,zS a8 e.1.Verdicts.length a9]) sizeOf32 m6 rfl rfl rfl rfl rfl (nI rfl) rfl rfl (fun d4 (f4:aD G e0 (box d3 32 [i64 e.1.S.N,i64 e.1.S.I,zS b7 e.1.S.L.length b8,zS b2 e.1.S.E.length b3,zS a8 e.1.Verdicts.length a9]::aH 9 K p q d.1.S.L::aH 52 K j k d.1.S.E::aH 2 K h c45 d.1.Verdicts::aH 9 K b7 b8 e.1.S.L::aH 52 K b2 b3 e.1.S.E::aH 2 K a8 a9 e.1.Verdicts::box b1 32 [i64 d.1.S.N,i64 d.1.S.I,zS p d.1.S.L.length q,zS j d.1.S.E.length k,zS h d.1.Verdicts.length c45]::box a7 27 (zC c.2 r u x y)::box a6 27 (zC c.1 l m n o)::L) d4)=>(aT (v:=i64 e.2) (aU (bC (aM (vK (us:=[i64 d.1.S.N,i64 d.1.S.I,zS p d.1.S.L.length q,zS j d.1.S.E.length k,zS h d.1.Verdicts.length c45]) aFf f4 (i:=7) rfl rfl rfl rfl) (aM (vK (us:=[i64 e.1.S.N,i64 e.1.S.I,zS b7 e.1.S.L.length b8,zS b2 e.1.S.E.length b3,zS a8 e.1.Verdicts.length a9]) aFf f4 (i:=0) rfl rfl rfl rfl) ?_)))))))))))
   obtain ⟨m7,a4,f5,f6⟩:=aD.giveSp f4 c0 (.tail .head)
   replace f6:aD G m7 (box d3 32 [i64 e.1.S.N,i64 e.1.S.I,zS b7 e.1.S.L.length b8,zS b2 e.1.S.E.length b3,zS a8 e.1.Verdicts.length a9]::aH 52 K j k d.1.S.E::aH 2 K h c45 d.1.Verdicts::aH 9 K b7 b8 e.1.S.L::aH 52 K b2 b3 e.1.S.E::aH 2 K a8 a9 e.1.Verdicts::box b1 32 [i64 d.1.S.N,i64 d.1.S.I,zS p d.1.S.L.length q,zS j d.1.S.E.length k,zS h d.1.Verdicts.length c45]::box a7 27 (zC c.2 r u x y)::box a6 27 (zC c.1 l m n o)::L) d4:=f6
   obtain ⟨m8,a0,f7,f8⟩:=aD.giveSp f6 (zL c0 a4) (.tail .head)
   replace f8:aD G m8 (box d3 32 [i64 e.1.S.N,i64 e.1.S.I,zS b7 e.1.S.L.length b8,zS b2 e.1.S.E.length b3,zS a8 e.1.Verdicts.length a9]::aH 2 K h c45 d.1.Verdicts::aH 9 K b7 b8 e.1.S.L::aH 52 K b2 b3 e.1.S.E::aH 2 K a8 a9 e.1.Verdicts::box b1 32 [i64 d.1.S.N,i64 d.1.S.I,zS p d.1.S.L.length q,zS j d.1.S.E.length k,zS h d.1.Verdicts.length c45]::box a7 27 (zC c.2 r u x y)::box a6 27 (zC c.1 l m n o)::L) d4:=f8
   obtain ⟨m9,Z,f9,g0⟩:=aD.giveSp f8 (zL (zL c0 a4) a0) (.tail .head)
   replace g0:aD G m9 (box d3 32 [i64 e.1.S.N,i64 e.1.S.I,zS b7 e.1.S.L.length b8,zS b2 e.1.S.E.length b3,zS a8 e.1.Verdicts.length a9]::aH 9 K b7 b8 e.1.S.L::aH 52 K b2 b3 e.1.S.E::aH 2 K a8 a9 e.1.Verdicts::box b1 32 [i64 d.1.S.N,i64 d.1.S.I,zS p d.1.S.L.length q,zS j d.1.S.E.length k,zS h d.1.Verdicts.length c45]::box a7 27 (zC c.2 r u x y)::box a6 27 (zC c.1 l m n o)::L) d4:=g0
   obtain ⟨n0,z,n1,g1⟩:=aD.giveSp g0 (zL (zL (zL c0 a4) a0) Z) (.tail .head)
   replace g1:aD G n0 (box d3 32 [i64 e.1.S.N,i64 e.1.S.I,zS b7 e.1.S.L.length b8,zS b2 e.1.S.E.length b3,zS a8 e.1.Verdicts.length a9]::aH 52 K b2 b3 e.1.S.E::aH 2 K a8 a9 e.1.Verdicts::box b1 32 [i64 d.1.S.N,i64 d.1.S.I,zS p d.1.S.L.length q,zS j d.1.S.E.length k,zS h d.1.Verdicts.length c45]::box a7 27 (zC c.2 r u x y)::box a6 27 (zC c.1 l m n o)::L) d4:=g1
   obtain ⟨n2,J,n3,g2⟩:=aD.giveSp g1 (zL (zL (zL (zL c0 a4) a0) Z) z) (.tail .head)
   replace g2:aD G n2 (box d3 32 [i64 e.1.S.N,i64 e.1.S.I,zS b7 e.1.S.L.length b8,zS b2 e.1.S.E.length b3,zS a8 e.1.Verdicts.length a9]::aH 2 K a8 a9 e.1.Verdicts::box b1 32 [i64 d.1.S.N,i64 d.1.S.I,zS p d.1.S.L.length q,zS j d.1.S.E.length k,zS h d.1.Verdicts.length c45]::box a7 27 (zC c.2 r u x y)::box a6 27 (zC c.1 l m n o)::L) d4:=g2
   obtain ⟨n4,V,n5,g3⟩:=aD.giveSp g2 (zL (zL (zL (zL (zL c0 a4) a0) Z) z) J) (.tail .head)
   replace g3:aD G n4 (box d3 32 [i64 e.1.S.N,i64 e.1.S.I,zS b7 e.1.S.L.length b8,zS b2 e.1.S.E.length b3,zS a8 e.1.Verdicts.length a9]::box b1 32 [i64 d.1.S.N,i64 d.1.S.I,zS p d.1.S.L.length q,zS j d.1.S.E.length k,zS h d.1.Verdicts.length c45]::box a7 27 (zC c.2 r u x y)::box a6 27 (zC c.1 l m n o)::L) d4:=g3
   obtain ⟨c4,n6,hm⟩:=aB hm
   refine bO (vs:=[zA #[i64 d.1.S.N,i64 d.1.S.I,zS p d.1.S.L.length q,zS j d.1.S.E.length k,zS h d.1.Verdicts.length c45],zA #[i64 e.1.S.N,i64 e.1.S.I,zS b7 e.1.S.L.length b8,zS b2 e.1.S.E.length b3,zS a8 e.1.Verdicts.length a9]]) call9 rfl (aDo (a:=⟨⟨d.1.S.N,d.1.S.I,d.1.S.L,d.1.S.E⟩,d.1.Verdicts⟩) (b:=⟨⟨e.1.S.N,e.1.S.I,e.1.S.L,e.1.S.E⟩,e.1.Verdicts⟩) n6 g3 hG (f5.mono (zL (zL (zL (zL a0 Z) z) J) V)) (f7.mono (zL (zL (zL Z z) J) V)) (f9.mono (zL (zL z J) V)) (n1.mono (zL J V)) (n3.mono V) n5) ?_
   rintro _ u7 ⟨n7,i4,i5,rfl,a3,u8,e3⟩
   refine aR (v:=zT #[zB c4.1,zS i4 c4.2.1.length i5,i64 c4.2.2]) (aM (eC rfl rfl) (aM (eC rfl rfl) (aM (eC rfl rfl) (aT (v:=zB c4.1) (aT (v:=zS i4 c4.2.1.length i5) (aT (v:=i64 c4.2.2) (aU (bB (bB (aY [3,4,5] (fun f w=>∃ g4,jI c d g4=some R/\f 83=zB g4/\aD G n7 (box b1 32 [i64 d.1.S.N,i64 d.1.S.I,zS p d.1.S.L.length q,zS j d.1.S.E.length k,zS h d.1.Verdicts.length c45]::box a7 27 (zC c.2 r u x y)::box a6 27 (zC c.1 l m n o)::L) w) ?_ ?_))))))))))
   ·rintro f u9 ⟨g4,hm,i6,g5⟩
    unfold jI at hm
    refine aC ?_
    rcases aG hm with ⟨g6,hm⟩|⟨g6,hm⟩
    ·refine bP g6 i6 (bC (aT (v:=zB false) (aU ?_)));obtain rfl:=zI hm
     exact jJ (bE (nR results3 rfl ⟨rfl,(aD.weakK (aD.arr 3 [] g5 rfl) (zL (zL (zL (zL (zL (zL (zL c0 a4) a0) Z) z) J) V) a3))⟩))
    ·refine bT g6 i6 (cN (aC (bC (aM (vK (us:=(zC c.1 l m n o)) mS g5 (i:=2) rfl rfl rfl rfl) ?_))));obtain ⟨a2,n9,hm⟩:=aB hm
     refine bO (vs:=[zA (zCa c.1 l m n o),i64 3]) call11 rfl (aHq n9 g5 hG (e1.mono (zL (zL (zL (zL (zL (zL a4 a0) Z) z) J) V) a3)) (e2.mono (zL (zL (zL (zL (zL (zL a4 a0) Z) z) J) V) a3))) ?_
     rintro _ v0 ⟨c5,c1,c3,rfl,b9,o0⟩
     refine aR (v:=zT #[zS c1 a2.1.length c3,i64 a2.2]) (aM (eC rfl rfl) (aM (eC rfl rfl) (aT (v:=zS c1 a2.1.length c3) (aT (v:=i64 a2.2) (aU (bB (bC (aR (v:=i64 a2.2) (aM (aIU rfl rfl) (aU ?_))))))))))
     rcases aG hm with ⟨g7,hm⟩|⟨g7,hm⟩
     ·refine bP g7 rfl (bC (aR (v:=i64 a2.2) (aM (aHw rfl rfl) (aT (v:=zB (a2.2 == 5)) (aU ?_)))));obtain rfl:=zI hm
      exact jJ (bE (nR results3 rfl ⟨rfl,(aD.weakK (aD.arr 4 [] o0 rfl) (zL (zL (zL (zL (zL (zL (zL (zL c0 a4) a0) Z) z) J) V) a3) b9))⟩))
     ·refine bT g7 rfl (cN (aC (bB (bC (aT (v:=i64 0) (aU (aK [14] (fun f w=>aDa a2=some R/\aD G c5 (aH 24 c5 c1 c3 a2.1::L) w) ?_ ?_)))))))
      ·rintro f v1 ⟨hm,o2⟩
       unfold aDa at hm
       refine aC (bC (aR (v:=zS c1 a2.1.length c3) (aM (gU (len:=a2.1.length) aJb rfl) (aM (aHv rfl rfl) (aT (v:=zB (decide (0 < (a2.1.length:Int)))) (aU ?_))))));obtain rfl:=zI hm
       exact jJ (nR results3 rfl ⟨rfl,(aD.weakK (aD.arr 1 [] o2 rfl) (zL (zL (zL (zL (zL (zL (zL (zL c0 a4) a0) Z) z) J) V) a3) b9))⟩)
      obtain ⟨v2,o4,ho⟩:=aB hm
      refine dX [3,4,5,14] o4 (fun d5 f w=>f 16=i64 d5/\aD G c5 (aH 24 c5 c1 c3 a2.1::box b1 32 [i64 d.1.S.N,i64 d.1.S.I,zS p d.1.S.L.length q,zS j d.1.S.E.length k,zS h d.1.Verdicts.length c45]::box a7 27 (zC c.2 r u x y)::box a6 27 (zC c.1 l m n o)::L) w) aI ?_
      ·rintro d5 e4 f v3 hm hr ⟨d7,o5⟩
       unfold pP at hm
       refine bB (bC (cW d7 (aR (v:=zS c1 a2.1.length c3) (aM (gU (len:=a2.1.length) aJb rfl) (aM (pD rfl rfl) (aU ?_))))))
       rcases aG hm with ⟨i7,hm⟩|⟨i7,hm⟩
       ·refine bP i7 rfl (cN (aC (bB (aK [3,4,5,14,16] (fun f w=>aAp d5=some e4/\aD G c5 (aH 24 c5 c1 c3 a2.1::box b1 32 [i64 d.1.S.N,i64 d.1.S.I,zS p d.1.S.L.length q,zS j d.1.S.E.length k,zS h d.1.Verdicts.length c45]::box a7 27 (zC c.2 r u x y)::box a6 27 (zC c.1 l m n o)::L) w) ?_ ?_))))
        ·rintro f v4 ⟨hm,o6⟩
         unfold aAp at hm
         exact aC (bR (cW d7 (aM (rO rfl rfl) (aT (v:=i64 (wr (d5+1))) (aU ⟨_,(zI hm).symm,bD,rfl,o6⟩)))))
        refine bB ?_;obtain ⟨o7,g8,i8,b4,o8⟩:=aD.lendSp o5 (Hp.le_refl _) .head
        refine aDQ (C:=fun w'=>aD G o7 (box b1 32 [i64 d.1.S.N,i64 d.1.S.I,zS p d.1.S.L.length q,zS j d.1.S.E.length k,zS h d.1.Verdicts.length c45]::box a7 27 (zC c.2 r u x y)::box a6 27 (zC c.1 l m n o)::L) w') Tryz_mixed (by kernel_rfl) (aD.mono b4 (fO.drew _)) (fS (fun _ b4=>vK (us:=[i64 d.1.S.N,i64 d.1.S.I,zS p d.1.S.L.length q,zS j d.1.S.E.length k,zS h d.1.Verdicts.length c45]) aFf b4 (i:=0) rfl rfl rfl rfl) (fS (fun _ b4=>cX (v:=zS c1 a2.1.length c3) rfl) (fS (fun _ b4=>cX d7) ?_)))
        obtain ⟨d1,c6,hm⟩:=aB hm
        have e5:=aJU i8 c6
        refine fS (fun _ b4=>cS aJb rfl e5 rfl rfl rfl c6) ?_;obtain ⟨v5,o9,p0⟩:=aW.el (sz:=1) rfl i8 c6
        obtain ⟨p1,p2,rfl,p3⟩:=p0
        refine fS (fun _ b4=>bU (t:=0) uC b4 o9 rfl rfl) ?_;obtain ⟨b0,p4,hm⟩:=aB hm
        refine aIz (vs:=[zA #[i64 d.1.S.N,i64 d.1.S.I,zS p d.1.S.L.length q,zS j d.1.S.E.length k,zS h d.1.Verdicts.length c45],zS p1 d1.length p2]) (v:=zT #[i64 b0.1,i64 b0.2.1,i64 b0.2.2]) call12 rfl (fun _ b4=>(aFx p4 b4 hG (f5.mono (zL (zL (zL (zL (zL (zL (zL a0 Z) z) J) V) a3) b9) g8)) (f7.mono (zL (zL (zL (zL (zL (zL Z z) J) V) a3) b9) g8)) (f9.mono (zL (zL (zL (zL (zL z J) V) a3) b9) g8)) p3)) (fS (fun _ b4=>cX (v:=zT #[i64 b0.1,i64 b0.2.1,i64 b0.2.2]) rfl) (fS (fun _ b4=>eC rfl rfl) (fS (fun _ b4=>eC rfl rfl) (fS (fun _ b4=>eC rfl rfl) (fS (fun _ b4=>fP (v:=i64 b0.1) rfl) (fS (fun _ b4=>fP (v:=i64 b0.2.1) rfl) (fS (fun _ b4=>fP (v:=i64 b0.2.2) rfl) (wH (fun v6 p5=>?_)))))))))
        have p6:=o8 _ _ p5
        refine aC (bB ?_);obtain ⟨p7,e6,p8,b5,p9⟩:=aD.lendSp p6 (Hp.le_refl _) .head
        refine aDQ (C:=fun w'=>aD G p7 (box b1 32 [i64 d.1.S.N,i64 d.1.S.I,zS p d.1.S.L.length q,zS j d.1.S.E.length k,zS h d.1.Verdicts.length c45]::box a7 27 (zC c.2 r u x y)::box a6 27 (zC c.1 l m n o)::L) w') Tryz_mixed (by kernel_rfl) (aD.mono b5 (fO.drew _)) (fS (fun _ b5=>vK (us:=(zC c.1 l m n o)) mS b5 (i:=2) rfl rfl rfl rfl) (fS (fun _ b5=>vK (us:=(zC c.2 r u x y)) mS b5 (i:=1) rfl rfl rfl rfl) (fS (fun _ b5=>cX (v:=zS c1 a2.1.length c3) rfl) (fS (fun _ b5=>cX d7) (fS (fun _ b5=>cS aJb rfl e5 rfl rfl rfl c6) ?_)))))
        obtain ⟨v7,q0,q1⟩:=aW.el (sz:=1) rfl p8 c6
        obtain ⟨q2,q3,rfl,q4⟩:=q1
        refine fS (fun _ b5=>bU (t:=0) uC b5 q0 rfl rfl) ?_;obtain ⟨d8,q6,hm⟩:=aB hm
        refine aIz (vs:=[zA (zCa c.1 l m n o),zA (zCa c.2 r u x y),zS q2 d1.length q3]) (v:=zT #[i64 d8.1,i64 d8.2]) call13 rfl (fun _ b5=>(yV q6 b5 hG (e1.mono (zL (zL (zL (zL (zL (zL (zL (zL a4 a0) Z) z) J) V) a3) b9) e6)) (e2.mono (zL (zL (zL (zL (zL (zL (zL (zL a4 a0) Z) z) J) V) a3) b9) e6)) (f1.mono (zL (zL (zL (zL (zL (zL (zL (zL a4 a0) Z) z) J) V) a3) b9) e6)) (f2.mono (zL (zL (zL (zL (zL (zL (zL (zL a4 a0) Z) z) J) V) a3) b9) e6)) q4)) (fS (fun _ b5=>cX (v:=zT #[i64 d8.1,i64 d8.2]) rfl) (fS (fun _ b5=>eC rfl rfl) (fS (fun _ b5=>eC rfl rfl) (fS (fun _ b5=>fP (v:=i64 d8.1) rfl) (fS (fun _ b5=>fP (v:=i64 d8.2) rfl) (wH (fun v8 q7=>?_)))))))
        have v9:=p9 _ _ q7
        refine aC (bB (bB (aY [3,4,5,14,16,17,18] (fun f w=>∃ g9,lH c d5 d1 b0 g9=some e4/\f 142=zB g9/\aD G c5 (aH 24 c5 c1 c3 a2.1::box b1 32 [i64 d.1.S.N,i64 d.1.S.I,zS p d.1.S.L.length q,zS j d.1.S.E.length k,zS h d.1.Verdicts.length c45]::box a7 27 (zC c.2 r u x y)::box a6 27 (zC c.1 l m n o)::L) w) ?_ ?_)))
        ·rintro f w0 ⟨g9,hm,i9,h0⟩
         unfold lH at hm
         refine aC ?_
         rcases aG hm with ⟨h1,hm⟩|⟨h1,hm⟩
         ·refine bP h1 i9 (bC (aT (v:=zB false) (aU (jJ (bE (fE (bE (bE (bE ?_)))))))))
          have q8:=hr _ (zI hm).symm
          subst q8
          have hm:(some false)=some R:=ho
          clear hr ho
          obtain rfl:=zI hm
          exact fE (bE (bE (nR results3 rfl ⟨rfl,(aD.weakK (aD.arr 4 [] h0 rfl) (zL (zL (zL (zL (zL (zL (zL (zL c0 a4) a0) Z) z) J) V) a3) b9))⟩)))
         ·refine bT h1 i9 (cN (aC (bB (bB (aY [3,4,5,14,16,18] (fun f w=>∃ h2,nF c d5 d1 b0 h2=some e4/\f 153=zB h2/\aD G c5 (aH 24 c5 c1 c3 a2.1::box b1 32 [i64 d.1.S.N,i64 d.1.S.I,zS p d.1.S.L.length q,zS j d.1.S.E.length k,zS h d.1.Verdicts.length c45]::box a7 27 (zC c.2 r u x y)::box a6 27 (zC c.1 l m n o)::L) w) ?_ ?_)))))
          ·rintro f w1 ⟨h2,hm,j0,j1⟩
           unfold nF at hm
           refine aC ?_
           rcases aG hm with ⟨h4,hm⟩|⟨h4,hm⟩
           ·refine bP h4 j0 (bC (aT (v:=zB false) (aU (jJ (bE (fE (bE (bE (bE ?_)))))))))
            have r0:=hr _ (zI hm).symm
            subst r0
            have hm:(some false)=some R:=ho
            clear hr ho
            obtain rfl:=zI hm
            exact fE (bE (bE (nR results3 rfl ⟨rfl,(aD.weakK (aD.arr 4 [] j1 rfl) (zL (zL (zL (zL (zL (zL (zL (zL c0 a4) a0) Z) z) J) V) a3) b9))⟩)))
           ·refine bT h4 j0 (cN (aC (bC (aR (v:=i64 b0.2.1) (aM (aHv rfl rfl) (aU ?_))))))
            rcases aG hm with ⟨j2,hm⟩|⟨j2,hm⟩
            ·refine bP j2 rfl (bB ?_);obtain ⟨r2,e7,r3,a5,r5⟩:=aD.lendSp j1 (Hp.le_refl _) .head
             refine aDQ (C:=fun w'=>aD G r2 (box b1 32 [i64 d.1.S.N,i64 d.1.S.I,zS p d.1.S.L.length q,zS j d.1.S.E.length k,zS h d.1.Verdicts.length c45]::box a7 27 (zC c.2 r u x y)::box a6 27 (zC c.1 l m n o)::L) w') Tryz_mixed (by kernel_rfl) (aD.mono a5 (fO.drew _)) (fS (fun _ a5=>vK (us:=(zC c.1 l m n o)) mS a5 (i:=2) rfl rfl rfl rfl) (fS (fun _ a5=>vK (us:=(zC c.2 r u x y)) mS a5 (i:=1) rfl rfl rfl rfl) (fS (fun _ a5=>cX (v:=zS c1 a2.1.length c3) rfl) (fS (fun _ a5=>cX d7) (fS (fun _ a5=>cS aJb rfl e5 rfl rfl rfl c6) ?_)))))
             obtain ⟨w2,r6,r7⟩:=aW.el (sz:=1) rfl r3 c6
             obtain ⟨r8,r9,rfl,j3⟩:=r7
             refine fS (fun _ a5=>bU (t:=0) uC a5 r6 rfl rfl) (fS (fun _ a5=>cX (v:=i64 b0.2.1) rfl) (fS (fun _ a5=>aOh rfl rfl) ?_));obtain ⟨s0,j4,hm⟩:=aB hm
             obtain ⟨s1,s2,j5⟩:=Cut.ex 1 r8 r9 0
             have s3:=aW.cut' j3 j4 j5
             refine fS (fun _ a5=>aHF eM j3.room j5 rfl rfl rfl j4) ?_;obtain ⟨d9,s4,hm⟩:=aB hm
             refine aIz (vs:=[zA (zCa c.1 l m n o),zA (zCa c.2 r u x y),zS s1 s0.length s2]) (v:=zT #[i64 d9.1,i64 d9.2]) call13 rfl (fun _ a5=>(yV s4 a5 hG (e1.mono (zL (zL (zL (zL (zL (zL (zL (zL a4 a0) Z) z) J) V) a3) b9) e7)) (e2.mono (zL (zL (zL (zL (zL (zL (zL (zL a4 a0) Z) z) J) V) a3) b9) e7)) (f1.mono (zL (zL (zL (zL (zL (zL (zL (zL a4 a0) Z) z) J) V) a3) b9) e7)) (f2.mono (zL (zL (zL (zL (zL (zL (zL (zL a4 a0) Z) z) J) V) a3) b9) e7)) s3)) (fS (fun _ a5=>cX (v:=zT #[i64 d9.1,i64 d9.2]) rfl) (fS (fun _ a5=>eC rfl rfl) (fS (fun _ a5=>eC rfl rfl) (fS (fun _ a5=>fP (v:=i64 d9.1) rfl) (fS (fun _ a5=>fP (v:=i64 d9.2) rfl) (wH (fun w3 s5=>?_)))))))
             have w4:=r5 _ _ s5
             refine aC (bB (aY [3,4,5,14,16] (fun f w=>∃ h5,aAq d5 h5=some e4/\f 174=zB h5/\aD G c5 (aH 24 c5 c1 c3 a2.1::box b1 32 [i64 d.1.S.N,i64 d.1.S.I,zS p d.1.S.L.length q,zS j d.1.S.E.length k,zS h d.1.Verdicts.length c45]::box a7 27 (zC c.2 r u x y)::box a6 27 (zC c.1 l m n o)::L) w) ?_ ?_))
             ·rintro f w5 ⟨h5,hm,s6,s7⟩
              unfold aAq at hm
              refine aC ?_
              rcases aG hm with ⟨j6,hm⟩|⟨j6,hm⟩
              ·refine bP j6 s6 (bC (aT (v:=zB false) (aU (jJ (fE (bE (bE (bE ?_))))))))
               have s8:=hr _ (zI hm).symm
               subst s8
               have hm:(some false)=some R:=ho
               clear hr ho
               obtain rfl:=zI hm
               exact fE (bE (bE (nR results3 rfl ⟨rfl,(aD.weakK (aD.arr 4 [] s7 rfl) (zL (zL (zL (zL (zL (zL (zL (zL c0 a4) a0) Z) z) J) V) a3) b9))⟩)))
              ·exact aI
             exact aI
            ·exact aI
          refine bR (aR (v:=i64 b0.1) (aM (aHw rfl rfl) (aR (v:=zB (b0.1 == 0)) ?_)))
          rcases aG hm with ⟨c7,hm⟩|⟨c7,hm⟩
          ·refine nS c7 rfl rfl (aR (v:=i64 b0.2.1) (nS c7 rfl rfl (aR (v:=zS c1 a2.1.length c3) (nS c7 rfl rfl (cW d7 (nS c7 rfl rfl (aM (cS aJb rfl e5 rfl rfl rfl c6) (nS c7 rfl rfl ?_))))))));obtain ⟨w7,t0,t1⟩:=aJr (sz:=1) rfl h0 (i:=0) rfl c6
           obtain ⟨t2,t3,rfl,w8⟩:=t1
           exact aM (R_ldC (t:=0) (v:=zS t2 d1.length t3) uC t0 rfl rfl) (nS c7 rfl rfl (aM (gU (len:=d1.length) eM rfl) (nS c7 rfl rfl (aM (aIU rfl rfl) (aM (wG (v:=zB (b0.2.1 != (d1.length:Int))) c7 rfl rfl) (aU ⟨bD,b0.2.1 != (d1.length:Int),hm,rfl,h0⟩))))))
          ·exact aI
        exact aI
       ·exact aI
   refine bR (aR (v:=i64 e.2) (aM (aIU rfl rfl) (aR (v:=zB (e.2 != 0)) ?_)))
   rcases aG hm with ⟨e8,hm⟩|⟨e8,hm⟩
   ·exact aI
   ·refine fW e8 rfl rfl (aR (v:=i64 c4.2.2) (fW e8 rfl rfl (aM (aIU rfl rfl) (aM (yY (v:=zB (c4.2.2 != 0)) e8 rfl rfl) (aR (v:=zB (c4.2.2 != 0)) ?_)))))
    rcases aG hm with ⟨d6,hm⟩|⟨d6,hm⟩
    ·exact dT d6 rfl rfl (dT d6 rfl rfl (aM (wG (v:=zB true) d6 rfl rfl) (aR (v:=zB true) (dT (rfl:true=true) rfl rfl (dT (rfl:true=true) rfl rfl (dT (rfl:true=true) rfl rfl (aM (wG (v:=zB true) (rfl:true=true) rfl rfl) (aR (v:=zB true) (dT (rfl:true=true) rfl rfl (dT (rfl:true=true) rfl rfl (dT (rfl:true=true) rfl rfl (dT (rfl:true=true) rfl rfl (dT (rfl:true=true) rfl rfl (dT (rfl:true=true) rfl rfl (dT (rfl:true=true) rfl rfl (aM (wG (v:=zB true) (rfl:true=true) rfl rfl) (aU ⟨bD,true,hm,rfl,(aD.arr 1 [] e3 rfl)⟩)))))))))))))))))
    ·refine fW d6 rfl rfl (aR (v:=zB c4.1) (fW d6 rfl rfl (aM (aMs rfl) (aM (yY (v:=zB (!c4.1)) d6 rfl rfl) (aR (v:=zB (!c4.1)) ?_)))))
     rcases aG hm with ⟨c9,hm⟩|⟨c9,hm⟩
     ·exact dT c9 rfl rfl (dT c9 rfl rfl (dT c9 rfl rfl (aM (wG (v:=zB true) c9 rfl rfl) (aR (v:=zB true) (dT (rfl:true=true) rfl rfl (dT (rfl:true=true) rfl rfl (dT (rfl:true=true) rfl rfl (dT (rfl:true=true) rfl rfl (dT (rfl:true=true) rfl rfl (dT (rfl:true=true) rfl rfl (dT (rfl:true=true) rfl rfl (aM (wG (v:=zB true) (rfl:true=true) rfl rfl) (aU ⟨bD,true,hm,rfl,(aD.arr 1 [] e3 rfl)⟩)))))))))))))
     ·refine fW c9 rfl rfl (aM (vK (us:=[i64 d.1.S.N,i64 d.1.S.I,zS p d.1.S.L.length q,zS j d.1.S.E.length k,zS h d.1.Verdicts.length c45]) aFf e3 (i:=1) rfl rfl rfl rfl) (fW c9 rfl rfl ?_));obtain ⟨j7,t4,hm⟩:=aB hm
      refine bO (vs:=[zA #[i64 d.1.S.N,i64 d.1.S.I,zS p d.1.S.L.length q,zS j d.1.S.E.length k,zS h d.1.Verdicts.length c45]]) call10 rfl (yU t4 e3 hG (f5.mono (zL (zL (zL (zL (zL a0 Z) z) J) V) a3)) (f7.mono (zL (zL (zL (zL Z z) J) V) a3)) (f9.mono (zL (zL (zL z J) V) a3))) ?_
      rintro _ w9 ⟨rfl,e9⟩
      refine fW c9 rfl rfl (aM (aMs rfl) (aM (yY (v:=zB (!j7)) c9 rfl rfl) (aR (v:=zB (!j7)) ?_)))
      rcases aG hm with ⟨b6,hm⟩|⟨b6,hm⟩
      ·exact dT b6 rfl rfl (dT b6 rfl rfl (dT b6 rfl rfl (dT b6 rfl rfl (dT b6 rfl rfl (dT b6 rfl rfl (dT b6 rfl rfl (aM (wG (v:=zB true) b6 rfl rfl) (aU ⟨bD,true,hm,rfl,(aD.arr 1 [] e9 rfl)⟩))))))))
      ·exact fW b6 rfl rfl (aM (dF (t':=0) aMc rfl rfl) (fW b6 rfl rfl (aM (dF (t':=0) aAk rfl rfl) (fW b6 rfl rfl (aM (aIV lD e9 (i:=0) rfl rfl rfl) (fW b6 rfl rfl (aM (dF (t':=0) aMc rfl rfl) (fW b6 rfl rfl (aM (dF (t':=0) aAk rfl rfl) (fW b6 rfl rfl (aM (aIV lD e9 (i:=1) rfl rfl rfl) (fW b6 rfl rfl (aM (aHv rfl rfl) (aM (yY (v:=zB (decide (d.1.S.N < e.1.S.N))) b6 rfl rfl) (aU ⟨bD,decide (d.1.S.N < e.1.S.N),hm,rfl,(aD.arr 1 [] e9 rfl)⟩)))))))))))))))
end Gv
