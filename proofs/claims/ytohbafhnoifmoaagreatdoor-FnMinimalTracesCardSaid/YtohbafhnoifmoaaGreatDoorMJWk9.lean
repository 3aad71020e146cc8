/- Walks, printed by program. -/
import Derived.Test.YtohbafhnoifmoaaGreatDoorMJWk1
import Derived.Test.YtohbafhnoifmoaaGreatDoorMJWk3
import Derived.Test.YtohbafhnoifmoaaGreatDoorMJWk5
import Derived.Test.YtohbafhnoifmoaaGreatDoorMJWk7
import Derived.Test.YtohbafhnoifmoaaGreatDoorMJT
set_option linter.all false
namespace Gv
open Go.Value renaming slice→zS,bool→zB,pointer→zP,agg→zA
open Option.some renaming inj→zI
open Gv.Hp renaming le_trans→zL,le_refl→zR
open Go Go.Proofs Go.Proofs.Tryz
set_option maxRecDepth 20000
set_option maxHeartbeats 40000000
variable {G:uA} {K:Hp} {L:List iU} {w:World} {a1 a4 a7 a10 a13 a16:Option Addr} {c5 c8 c14 c17 c2 c11:Nat}
theorem aBU {t:cO} {h:Nat} {R:Bool} (e:aH G K (L) w) (h3:fJ K a1 h (zC t a4 c5 a7 c8)) (h6:cR K a4 c5 t.L) (u:cR K a7 c8 t.E) (b:aEp t=some R):
  Calls Tryz.prog 28 ([cL a1 h]:List Value).toArray w (eN fun v w'=>v=zB R/\aH G K (L) w'):=by
 refine zH func28 ?_;unfold aEp at b
 refine yW ?_;refine cQ (fun f w=>∃ k,rR t k=some R/\f 0=cL a1 h/\f 39=zB k/\aH G K (L) w) ?_ ?_
 ·rintro f g2 ⟨k,b,a2,g3,x⟩
  unfold rR at b
  refine yW ?_
  rcases aG b with ⟨a3,b⟩|⟨a3,b⟩
  ·refine yW ?_;obtain rfl:=zI b
   exact bK (aW (bM results28 rfl ⟨rfl,x⟩))
  ·refine yW ?_;refine aZ (fun f w=>aBM=some R/\aH G K (L) w) ?_ ?_
   ·rintro f g4 ⟨b,a6⟩
    unfold aBM at b
    refine yW ?_;obtain rfl:=zI b
    exact aIK results28 ⟨rfl,a6⟩
   obtain ⟨g5,a9,b⟩:=aB b
   refine cE a9 (fun (d:Int) f w=>f 0=cL a1 h/\f 3=i64 d/\aH G K (L) w) ?_ ?_
   ·exact ⟨a2,rfl,x⟩
   ·rintro d l f g6 a m ⟨n,o,y⟩
    replace a:aDN t d=some l:=a
    unfold aDN at a
    refine yW ?_
    rcases aG a with ⟨b0,a⟩|⟨b0,a⟩
    ·refine yW ?_;refine cT (yW ?_)
     obtain ⟨c,b1,a⟩:=aB a
     refine yW ?_;obtain ⟨g7,g8,b2⟩:=cR.el (sz:=3) rfl u b1
     cases b2
     refine yW ?_;refine bR (vs:=[i64 0,i64 0,i64 0]) zeroValue69 y rfl (fun j g9 b3=>(bS (i:=0) (ns:=[i64 c.F,i64 c.B,i64 c.To]) (us:=[i64 c.F,i64 c.B,i64 c.To]) sizeOf69 b3 rfl rfl rfl rfl rfl (cS rfl) rfl rfl (fun b4 (g:aH G K (box j 69 [i64 c.F,i64 c.B,i64 c.To]::L) b4)=>(yW ?_))))
     refine cQ (fun f w=>∃ p,xV t d c p=some l/\f 0=cL a1 h/\f 3=i64 d/\f 4=zP (some ⟨j,0,none⟩)/\f 87=zB p/\aH G K (box j 69 [i64 c.F,i64 c.B,i64 c.To]::L) w) ?_ ?_
     ·rintro f h0 ⟨p,a,z,J,b5,h1,q⟩
      unfold xV at a
      refine yW ?_
      rcases aG a with ⟨b6,a⟩|⟨b6,a⟩
      ·refine yW ?_;refine bK (aW (cA (aW (aW ?_))))
       have b7:=m _ (zI a).symm
       subst b7
       have b:(some false)=some R:=b
       obtain rfl:=zI b
       exact cA (aW (aW (bM results28 rfl ⟨rfl,(aH.arr 1 [] q rfl)⟩)))
      ·iterate 4 refine aIQ ?_
       refine cQ (fun f w=>∃ r,aBN d r=some l/\f 0=cL a1 h/\f 3=i64 d/\f 100=zB r/\aH G K (L) w) ?_ ?_
       ·rintro f h2 ⟨r,a,b9,h4,h5,V⟩
        unfold aBN at a
        refine yW ?_
        rcases aG a with ⟨c0,a⟩|⟨c0,a⟩
        ·refine yW ?_;refine bK (cA (aW (aW ?_)))
         have c1:=m _ (zI a).symm
         subst c1
         have b:(some false)=some R:=b
         obtain rfl:=zI b
         exact cA (aW (aW (bM results28 rfl ⟨rfl,V⟩)))
        ·refine yW ?_;exact ⟨wr (d+1),(zI a).symm,b9,rfl,V⟩
       refine yW ?_
       rcases aG a with ⟨c3,a⟩|⟨c3,a⟩
       ·refine yW ?_;obtain ⟨h7,c4,a⟩:=aB a
        refine yW ?_;obtain ⟨h8,c6,c7⟩:=cR.el (sz:=3) rfl u c4
        cases c7
        refine yW ?_;obtain ⟨i0,c9,d0,d1,d2⟩:=aH.lendB (i:=0) q rfl
        obtain ⟨d3,d4,a⟩:=aB a
        refine aS (vs:=[cL a7 ((wr (d - 1)).toNat * 3+0),cL (some ⟨j,0,none⟩) 0]) call58 (lst2 rfl b5) (aCK d1 (c6.mono c9) d0 d4) ?_
        rintro _ i1 ⟨rfl,d5⟩
        have d6:=d2 _ _ d5
        refine yW ?_;exact ⟨!d3,a,z,J,rfl,(aH.arr 1 [] d6 rfl)⟩
       ·refine yW ?_;exact ⟨false,a,z,J,rfl,(aH.arr 1 [] q rfl)⟩
     refine dF (C:=fun w'=>aH G K (box j 69 [i64 c.F,i64 c.B,i64 c.To]::L) w') bV (by kernel_rfl) (aH.mono g (dG.drew _)) (yW ?_);obtain ⟨d7,d8,a⟩:=aB a
     refine jO (vs:=[i64 c.F,i64 0,i64 (wr (t.N - 1))]) (v:=zB d7) call56 rfl (fun _ g=>(nC g d8)) (yW ?_)
     rcases aG a with ⟨d9,a⟩|⟨d9,a⟩
     ·refine yW ?_;refine dI (fun i2 e0=>(yW ?_))
      exact ⟨true,a,n,o,rfl,rfl,e0⟩
     ·refine yW ?_;obtain ⟨e1,e2,a⟩:=aB a
      refine jO (vs:=[i64 c.To,i64 0,i64 (wr (t.N - 1))]) (v:=zB e1) call56 rfl (fun _ g=>(nC g e2)) (yW ?_)
      rcases aG a with ⟨e3,a⟩|⟨e3,a⟩
      ·refine yW ?_;refine dI (fun i3 e4=>(yW ?_))
       exact ⟨true,a,n,o,rfl,rfl,e4⟩
      ·refine yW ?_;obtain ⟨Z,e5,a⟩:=aB a
       refine jO (vs:=[i64 c.B,i64 0,i64 (wr ((t.L.length:Int) - 1))]) (v:=zB Z) call56 rfl (fun _ g=>(nC g e5)) (yW ?_);refine dI (fun i4 e6=>(yW ?_))
       exact ⟨!Z,a,n,o,rfl,rfl,e6⟩
    ·refine yW ?_
     have e7:=m _ (zI a).symm
     subst e7
     have b:(aBM)=some R:=b
     refine yW ?_;exact ⟨b,y⟩
 refine dF (C:=fun w'=>aH G K (L) w') bV (by kernel_rfl) (aH.mono e (dG.drew _)) (yW ?_);obtain ⟨e8,e9,b⟩:=aB b
 refine jO (vs:=[i64 t.N,i64 1,i64 40]) (v:=zB e8) call56 rfl (fun _ e=>(nC e e9)) (yW ?_)
 rcases aG b with ⟨f0,b⟩|⟨f0,b⟩
 ·refine yW ?_;refine dI (fun i5 f1=>(yW ?_))
  exact ⟨true,b,rfl,rfl,f1⟩
 ·refine yW ?_;obtain ⟨f2,f3,b⟩:=aB b
  refine jO (vs:=[i64 t.I,i64 0,i64 (wr (t.N - 1))]) (v:=zB f2) call56 rfl (fun _ e=>(nC e f3)) (yW ?_)
  rcases aG b with ⟨f4,b⟩|⟨f4,b⟩
  ·refine yW ?_;refine dI (fun i6 f5=>(yW ?_))
   exact ⟨true,b,rfl,rfl,f5⟩
  ·refine yW ?_;obtain ⟨f6,f7,b⟩:=aB b
   refine jO (vs:=[zS a4 t.L.length c5]) (v:=zB f6) call57 rfl (fun _ e=>(aFw e h6 f7)) (yW ?_)
   rcases aG b with ⟨f8,b⟩|⟨f8,b⟩
   ·refine yW ?_;refine dI (fun i7 f9=>(yW ?_))
    exact ⟨true,b,rfl,rfl,f9⟩
   ·refine yW ?_;refine dI (fun i8 g0=>(yW ?_))
    exact ⟨decide (300 < (t.E.length:Int)),b,rfl,rfl,g0⟩
theorem aGC {a:cO} {k2:Nat} {b:cO} {a8:Nat} {R:(cO × cO × Bool)} (hs:aH G K (L) w) (h3:fJ K a1 k2 (zC a a4 c5 a7 c8)) (h6:cR K a4 c5 a.L) (h9:cR K a7 c8 a.E) (d1:fJ K a10 a8 (zC b a13 c14 a16 c17)) (d2:cR K a13 c14 b.L) (d3:cR K a16 c17 b.E) (o:aFZ a b=some R):
  Calls Tryz.prog 29 ([cL a1 k2,cL a10 a8]:List Value).toArray w (eN fun v w'=>∃ a9 b0 b1 b2 b3 b4 b5 b6,v=Value.tuple #[zA (zCa R.1 a9 b0 b1 b2),zA (zCa R.2.1 b3 b4 b5 b6),zB R.2.2]/\aH G K (aJ 9 K a9 b0 R.1.L::aJ 69 K b1 b2 R.1.E::aJ 9 K b3 b4 R.2.1.L::aJ 69 K b5 b6 R.2.1.E::L) w'):=by
 let q:=zG
 refine zH func29 ?_;unfold aFZ at o
 refine yW ?_;refine bR (vs:=q) zeroValue27 hs rfl (fun u g3 d4=>(bR (vs:=q) zeroValue27 d4 rfl (fun x g4 d5=>(yW ?_))))
 obtain ⟨c,d6,o⟩:=aB o
 refine zF call23 (yC d5 h3 h6 h9 d6) ?_
 rintro _ g5 ⟨e,h,j,k,y,z,p,rfl,g6,d7⟩
 refine yW ?_;refine bR (vs:=q) zeroValue27 d7 rfl (fun b7 g7 d8=>(bS (i:=0) (ns:=(zC c.1 e h j k)) (us:=(zC c.1 e h j k)) sizeOf27 d8 rfl rfl rfl rfl rfl (cS rfl) rfl rfl (fun d9 (e0:aH G K (box b7 27 (zC c.1 e h j k)::aJ 9 K e h c.1.L::aJ 69 K j k c.1.E::aJ 35 K y z (dC p c.2.1)::rows [2] p c.2.1::box x 27 q::box u 27 q::L) d9)=>(yW ?_))))
 obtain ⟨d,e1,o⟩:=aB o
 refine zF call23 (yC e0 d1 d2 d3 e1) ?_
 rintro _ g8 ⟨l,c45,m,n,V,Z,r,rfl,g9,e2⟩
 refine yW ?_;refine bR (vs:=q) zeroValue27 e2 rfl (fun e3 h0 e4=>(bS (i:=0) (ns:=(zC d.1 l c45 m n)) (us:=(zC d.1 l c45 m n)) sizeOf27 e4 rfl rfl rfl rfl rfl (cS rfl) rfl rfl (fun e5 (e6:aH G K (box e3 27 (zC d.1 l c45 m n)::aJ 9 K l c45 d.1.L::aJ 69 K m n d.1.E::aJ 35 K V Z (dC r d.2.1)::rows [2] r d.2.1::box b7 27 (zC c.1 e h j k)::aJ 9 K e h c.1.L::aJ 69 K j k c.1.E::aJ 35 K y z (dC p c.2.1)::rows [2] p c.2.1::box x 27 q::box u 27 q::L) e5)=>(yW ?_))))
 refine cQ (fun f w=>∃ a2,zX c d a2=some R/\f 4=zP (some ⟨u,0,none⟩)/\f 5=zP (some ⟨x,0,none⟩)/\f 6=zB a2/\aH G K (aJ 9 K l c45 d.1.L::aJ 69 K m n d.1.E::aJ 9 K e h c.1.L::aJ 69 K j k c.1.E::box x 27 (zC d.1 l c45 m n)::box u 27 (zC c.1 e h j k)::L) w) ?_ ?_
 ·rintro f h1 ⟨a2,o,e7,e8,e9,a3⟩
  unfold zX at o
  refine yW ?_;obtain rfl:=zI o
  exact bK (rZ results29 (dM (vs:=(zC c.1 e h j k)) rfl cZ a3 (i:=5) rfl e7 rfl) (dM (vs:=(zC d.1 l c45 m n)) rfl cZ a3 (i:=4) rfl e8 rfl) (gT rfl e9) ⟨e,h,j,k,l,c45,m,n,rfl,(aH.arr 6 [2,3,0,1] a3 rfl)⟩)
 obtain ⟨h2,h4,f1,f2,b8⟩:=aH.lendB (i:=0) e6 rfl
 obtain ⟨a0,f3,h5,b9,c0⟩:=aH.lendB (i:=4) f2 rfl
 refine dV (C:=fun w'=>∃ L',aH G a0 L' w') [(0,0),(1,0),(2,1),(3,1),(4,0),(5,0),(6,1),(7,1),(8,2)] bV (by kernel_rfl) (fun _ hg=>⟨_,aH.mono b9 hg⟩) (fun h7 f4=>?_)
 have J:=aH.mono b9 f4
 refine yW ?_;refine bX rfl (fun _ ⟨_,J⟩=>eU (t:=0) (vs:=(zC d.1 l c45 m n)) cZ J (f1.mono f3) rfl rfl rfl) (gX rfl ?_)
 iterate 1 refine aIQ ?_
 refine aX (aA ⟨⟨_,J⟩,?_⟩)
 refine gX rfl ?_
 iterate 1 refine aIQ ?_
 refine aX (aA ⟨⟨_,J⟩,?_⟩)
 rcases aG o with ⟨a5,o⟩|⟨a5,o⟩
 ·refine WE_vg rfl rfl rfl a5 (fun _ _=>bB (v:=zB d.2.2) rfl) (yW ?_);refine gX rfl (bS (i:=9) (ns:=(zC c.1 e h j k)) (us:=(zC c.1 e h j k)) sizeOf27 J rfl rfl rfl rfl rfl (cS rfl) rfl rfl (fun f5 (c1:aH G a0 (aJ 9 K l c45 d.1.L::aJ 69 K m n d.1.E::aJ 35 K V Z (dC r d.2.1)::rows [2] r d.2.1::aJ 9 K e h c.1.L::aJ 69 K j k c.1.E::aJ 35 K y z (dC p c.2.1)::rows [2] p c.2.1::box x 27 q::box u 27 (zC c.1 e h j k)::L) f5)=>(aX (aA ⟨⟨_,c1⟩,?_⟩))))
  refine gX rfl (bS (i:=8) (ns:=(zC d.1 l c45 m n)) (us:=(zC d.1 l c45 m n)) sizeOf27 c1 rfl rfl rfl rfl rfl (cS rfl) rfl rfl (fun f6 (c2:aH G a0 (aJ 9 K l c45 d.1.L::aJ 69 K m n d.1.E::aJ 35 K V Z (dC r d.2.1)::rows [2] r d.2.1::aJ 9 K e h c.1.L::aJ 69 K j k c.1.E::aJ 35 K y z (dC p c.2.1)::rows [2] p c.2.1::box x 27 (zC d.1 l c45 m n)::box u 27 (zC c.1 e h j k)::L) f6)=>(aX (aA ⟨⟨_,c2⟩,?_⟩))))
  have f7:=c0 _ _ c2
  have f8:=b8 _ _ f7
  refine aCl rfl (yW ?_);refine gZ (yW ?_)
  exact ⟨d.2.2,o,rfl,rfl,rfl,(aH.arr 10 [2,3,6,7] f8 rfl)⟩
 ·refine WE_off rfl rfl rfl (cJ a5) (yW ?_);refine gX rfl (bS (i:=9) (ns:=(zC c.1 e h j k)) (us:=(zC c.1 e h j k)) sizeOf27 J rfl rfl rfl rfl rfl (cS rfl) rfl rfl (fun f9 (c3:aH G a0 (aJ 9 K l c45 d.1.L::aJ 69 K m n d.1.E::aJ 35 K V Z (dC r d.2.1)::rows [2] r d.2.1::aJ 9 K e h c.1.L::aJ 69 K j k c.1.E::aJ 35 K y z (dC p c.2.1)::rows [2] p c.2.1::box x 27 q::box u 27 (zC c.1 e h j k)::L) f9)=>(aX (aA ⟨⟨_,c3⟩,?_⟩))))
  refine gX rfl (bS (i:=8) (ns:=(zC d.1 l c45 m n)) (us:=(zC d.1 l c45 m n)) sizeOf27 c3 rfl rfl rfl rfl rfl (cS rfl) rfl rfl (fun g0 (c4:aH G a0 (aJ 9 K l c45 d.1.L::aJ 69 K m n d.1.E::aJ 35 K V Z (dC r d.2.1)::rows [2] r d.2.1::aJ 9 K e h c.1.L::aJ 69 K j k c.1.E::aJ 35 K y z (dC p c.2.1)::rows [2] p c.2.1::box x 27 (zC d.1 l c45 m n)::box u 27 (zC c.1 e h j k)::L) g0)=>(aX (aA ⟨⟨_,c4⟩,?_⟩))))
  have g1:=c0 _ _ c4
  have g2:=b8 _ _ g1
  refine aCl rfl (yW ?_);refine gZ (yW ?_)
  exact ⟨false,o,rfl,rfl,rfl,(aH.arr 10 [2,3,6,7] g2 rfl)⟩
theorem aEr {d:cO} {h:Nat} {c:Int} {e:bD} {R:Int} (V:aH G K (L) w) (h3:fJ K a1 h (zC d a4 c5 a7 c8)) (Z:cR K a4 c5 d.L) (l:cR K a7 c8 d.E) (b:aFC d c e=some R):
  Calls Tryz.prog 60 ([cL a1 h,i64 c,str e]:List Value).toArray w (eN fun v w'=>v=i64 R/\aH G K (L) w'):=by
 refine zH func60 ?_;unfold aFC at b
 refine yW ?_;refine aZ (fun f w=>aBO=some R/\aH G K (L) w) ?_ ?_
 ·rintro f c9 ⟨b,a0⟩
  unfold aBO at b
  refine yW ?_;obtain rfl:=zI b
  exact aIK results60 ⟨rfl,a0⟩
 obtain ⟨d0,a3,b⟩:=aB b
 refine cE a3 (fun (g:Int) f w=>f 0=cL a1 h/\f 1=i64 c/\f 2=str e/\f 7=i64 g/\aH G K (L) w) ?_ ?_
 ·exact ⟨rfl,rfl,rfl,rfl,V⟩
 ·rintro g i f d1 a m ⟨n,o,p,q,r⟩
  replace a:aDO d c e g=some i:=a
  unfold aDO at a
  iterate 2 refine aIQ ?_
  refine cQ (fun f w=>∃ j,aBQ d c e g j=some i/\f 0=cL a1 h/\f 1=i64 c/\f 2=str e/\f 7=i64 g/\f 18=zB j/\aH G K (L) w) ?_ ?_
  ·rintro f d2 ⟨j,a,t,u,x,y,d3,z⟩
   unfold aBQ at a
   refine yW ?_
   rcases aG a with ⟨a5,a⟩|⟨a5,a⟩
   ·refine yW ?_;refine cT (yW ?_)
    refine cQ (fun f w=>∃ k,aBP d g k=some i/\f 0=cL a1 h/\f 1=i64 c/\f 2=str e/\f 7=i64 g/\f 48=zB k/\aH G K (L) w) ?_ ?_
    ·rintro f d4 ⟨k,a,a6,a8,a9,d5,d6,J⟩
     unfold aBP at a
     refine yW ?_
     rcases aG a with ⟨b0,a⟩|⟨b0,a⟩
     ·refine yW ?_;obtain ⟨b1,b2,a⟩:=aB a
      refine yW ?_;obtain ⟨d7,d8,b3⟩:=cR.el (sz:=3) rfl l b2
      cases b3
      refine yW ?_;refine bK (cA (aW (aW ?_)))
      have b4:=m _ (zI a).symm
      subst b4
      have b:(some b1.To)=some R:=b
      obtain rfl:=zI b
      exact cA (aW (aW (bM results60 rfl ⟨rfl,J⟩)))
     ·refine yW ?_;exact ⟨wr (g+1),(zI a).symm,a6,a8,a9,rfl,J⟩
    refine dF (C:=fun w'=>aH G K (L) w') bV (by kernel_rfl) (aH.mono z (dG.drew _)) (yW ?_);obtain ⟨d9,b6,a⟩:=aB a
    refine yW ?_;obtain ⟨e0,e1,b7⟩:=cR.el (sz:=3) rfl l b6
    cases b7
    refine yW ?_
    rcases aG a with ⟨b8,a⟩|⟨b8,a⟩
    ·refine yW ?_;obtain ⟨b9,c0,a⟩:=aB a
     refine yW ?_;obtain ⟨e2,e3,c1⟩:=cR.el (sz:=1) rfl Z c0
     cases c1
     refine yW ?_;refine dI (fun e4 c2=>(yW ?_))
     exact ⟨b9 == e,a,t,u,x,y,rfl,c2⟩
    ·refine yW ?_;refine dI (fun e5 c3=>(yW ?_))
     exact ⟨false,a,t,u,x,y,rfl,c3⟩
   ·refine yW ?_
    have c4:=m _ (zI a).symm
    subst c4
    have b:(aBO)=some R:=b
    refine yW ?_;exact ⟨b,z⟩
  refine yW ?_
  rcases aG a with ⟨c6,a⟩|⟨c6,a⟩
  ·refine yW ?_;exact ⟨decide (0<=c),a,n,o,p,q,rfl,r⟩
  ·refine yW ?_;exact ⟨false,a,n,o,p,q,rfl,r⟩
theorem aFa {a:cO} {k2:Nat} {b:cO} {a9:Nat} {a0:Bool} {R:((List bD) × Bool)} (hs:aH G K (L) w) (h3:fJ K a1 k2 (zC a a4 c5 a7 c8)) (h6:cR K a4 c5 a.L) (h9:cR K a7 c8 a.E) (s0:fJ K a10 a9 (zC b a13 c14 a16 c17)) (n8:cR K a13 c14 b.L) (s1:cR K a16 c17 b.E) (V:aCD a b a0=some R):
  Calls Tryz.prog 30 ([cL a1 k2,cL a10 a9,zB a0]:List Value).toArray w (eN fun v w'=>∃ n9 o0,v=Value.tuple #[zS n9 R.1.length o0,zB R.2]/\aH G K (aJ 9 K n9 o0 R.1::L) w'):=by
 refine zH func30 ?_;unfold aCD at V
 refine yW ?_;refine dV (C:=fun w'=>∃ L',aH G K L' w') [(1,0),(2,0),(3,0),(4,0),(6,0),(7,0),(8,0),(9,0),(0,1),(5,1),(10,1),(11,1),(12,0)] bV (by kernel_rfl) (fun _ hg=>⟨_,aH.mono hs hg⟩) (fun w19 s2=>?_)
 have s3:=aH.mono hs s2
 refine yW ?_;refine gX rfl (bZ (Kt:=K) (xs:=([]:List bD)) (cs:=[]) (vs:=[]) cF fL rfl rfl s3 rfl (by kernel_rfl) rfl rfl rfl trivial (fun s4 s5 (o1:aH G K (aJ 9 K s4 0 ([]:List bD)::L) s5)=>(aX (aA ⟨⟨_,o1⟩,?_⟩))))
 refine gX rfl ?_;obtain ⟨s6,s7,V⟩:=aB V
 refine iK (i:=0) cF underlying24 fL rfl rfl o1 rfl (zR _) h6 s7 rfl rfl rfl rfl (fun s8 s9 t0 (o2:aH G K (aJ 9 K s8 s9 s6::L) t0)=>(aX (aA ⟨⟨_,o2⟩,?_⟩)))
 refine gX rfl ?_;obtain ⟨c4,t1,V⟩:=aB V
 refine iK (i:=0) cF underlying24 fL rfl rfl o2 rfl (zR _) n8 t1 rfl rfl rfl rfl (fun c6 c7 t2 (o3:aH G K (aJ 9 K c6 c7 c4::L) t2)=>(aX (aA ⟨⟨_,o3⟩,?_⟩)))
 refine gX rfl ?_;obtain ⟨K38,b00,t3,t4,t5⟩:=aH.lendS (i:=0) o3 (zR _) rfl
 obtain ⟨e,t6,V⟩:=aB V
 refine zF call59 (aCJ t4 t3 t6) ?_
 rintro _ w47 ⟨j,k,rfl,t7⟩
 have o4:=t5 _ _ t7
 refine aX (aA ⟨⟨_,o4⟩,?_⟩)
 refine yW ?_;refine gZ (yW ?_)
 refine bZ (Kt:=K) (xs:=([0]:List Int)) (cs:=[i64 0]) (vs:=[(0,i64 0)]) bY fC rfl rfl o4 rfl (by kernel_rfl) rfl rfl rfl ⟨rfl,trivial⟩ (fun c9 t8 (t9:aH G K (aJ 2 K c9 1 ([0]:List Int)::aJ 9 K c6 c7 c4::aJ 9 K j k e::L) t8)=>(yW ?_));refine bZ (Kt:=K) (xs:=([0]:List Int)) (cs:=[i64 0]) (vs:=[(0,i64 0)]) bY fC rfl rfl t9 rfl (by kernel_rfl) rfl rfl rfl ⟨rfl,trivial⟩ (fun f5 u0 (u1:aH G K (aJ 2 K f5 1 ([0]:List Int)::aJ 2 K c9 1 ([0]:List Int)::aJ 9 K c6 c7 c4::aJ 9 K j k e::L) u0)=>(yW ?_))
 refine bZ (Kt:=K) (xs:=([(-1)]:List Int)) (cs:=[i64 (-1)]) (vs:=[(0,i64 (-1))]) aFQ ez_3 rfl rfl u1 rfl (by kernel_rfl) rfl rfl rfl ⟨rfl,trivial⟩ (fun l8 u2 (u3:aH G K (aJ 3 K l8 1 ([(-1)]:List Int)::aJ 2 K f5 1 ([0]:List Int)::aJ 2 K c9 1 ([0]:List Int)::aJ 9 K c6 c7 c4::aJ 9 K j k e::L) u2)=>(yW ?_));refine bZ (Kt:=K) (xs:=([([]:bD)]:List bD)) (cs:=[str ([]:bD)]) (vs:=[(0,str ([]:bD))]) cF fL rfl rfl u3 rfl (by kernel_rfl) rfl rfl rfl ⟨rfl,trivial⟩ (fun o5 u4 (u5:aH G K (aJ 9 K o5 1 ([([]:bD)]:List bD)::aJ 3 K l8 1 ([(-1)]:List Int)::aJ 2 K f5 1 ([0]:List Int)::aJ 2 K c9 1 ([0]:List Int)::aJ 9 K c6 c7 c4::aJ 9 K j k e::L) u4)=>(yW ?_))
 refine aZ (fun f w=>qR=some R/\aH G K (L) w) ?_ ?_
 ·rintro f w62 ⟨V,u6⟩
  unfold qR at V
  refine yW ?_
  have u7:=aH.nil (α:=bD) u6 9 K
  obtain rfl:=zI V
  exact bK (iO results30 rfl rfl ⟨none,0,rfl,u7⟩)
 obtain ⟨b03,u9,V⟩:=aB V
 refine cE u9 (fun s f w=>match s with|(f6,f7,f8,f9,r)=>∃ g0 g1 g2 g3 g4 g5 g6 g7,f 0=cL a1 k2/\f 1=cL a10 a9/\f 2=zB a0/\f 8=zS j e.length k/\f 9=zS g0 f6.length g1/\f 10=zS g2 f7.length g3/\f 11=zS g4 f8.length g5/\f 12=zS g6 f9.length g7/\f 13=i64 r/\aH G K (aJ 9 K g6 g7 f9::aJ 3 K g4 g5 f8::aJ 2 K g2 g3 f7::aJ 2 K g0 g1 f6::aJ 9 K j k e::L) w) ?_ ?_
 ·exact ⟨c9,1,f5,1,l8,1,o5,1,rfl,rfl,rfl,rfl,rfl,rfl,rfl,rfl,rfl,(aH.arr 5 [0,1,2,3] u5 rfl)⟩
 ·rintro ⟨f6,f7,f8,f9,r⟩ d0 f b04 y o6 ⟨g0,g1,g2,g3,g4,g5,g6,g7,v0,v1,v2,v3,v4,v5,v6,v7,v8,o7⟩
  replace y:uN a b a0 e f6 f7 f8 f9 r=some d0:=y
  unfold uN at y
  refine yW ?_
  rcases aG y with ⟨v9,y⟩|⟨v9,y⟩
  ·refine yW ?_;refine aZ (fun f w=>∃ d1 d2 d3 d4 g8 g9 h0 h1 h2 h4 h5 h7,xW r d1 d2 d3 d4=some d0/\f 0=cL a1 k2/\f 1=cL a10 a9/\f 2=zB a0/\f 8=zS j e.length k/\f 9=zS g8 d1.length g9/\f 10=zS h0 d2.length h1/\f 11=zS h2 d3.length h4/\f 12=zS h5 d4.length h7/\f 13=i64 r/\aH G K (aJ 9 K h5 h7 d4::aJ 3 K h2 h4 d3::aJ 2 K h0 h1 d2::aJ 2 K g8 g9 d1::aJ 9 K j k e::L) w) ?_ ?_
   ·rintro f b05 ⟨d1,d2,d3,d4,g8,g9,h0,h1,h2,h4,h5,h7,y,w0,w1,w2,w3,w4,w5,w6,w7,b06,w8⟩
    unfold xW at y
    refine yW ?_;exact ⟨(d1,d2,d3,d4,wr (r+1)),(zI y).symm,g8,g9,h0,h1,h2,h4,h5,h7,w0,w1,w2,w3,w4,w5,w6,w7,rfl,w8⟩
   refine yW ?_;refine aZ (fun f w=>∃ d5 d6 d7 d8 h8 i0 i1 i2 i3 i4 i5 i6,qS r d5 d6 d7 d8=some d0/\f 0=cL a1 k2/\f 1=cL a10 a9/\f 2=zB a0/\f 8=zS j e.length k/\f 9=zS h8 d5.length i0/\f 10=zS i1 d6.length i2/\f 11=zS i3 d7.length i4/\f 12=zS i5 d8.length i6/\f 13=i64 r/\aH G K (aJ 9 K i5 i6 d8::aJ 3 K i3 i4 d7::aJ 2 K i1 i2 d6::aJ 2 K h8 i0 d5::aJ 9 K j k e::L) w) ?_ ?_
   ·rintro f b07 ⟨d5,d6,d7,d8,h8,i0,i1,i2,i3,i4,i5,i6,y,w9,x0,x1,x2,x3,x4,x5,x6,x7,x8⟩
    unfold qS at y
    refine yW ?_;exact ⟨d5,d6,d7,d8,h8,i0,i1,i2,i3,i4,i5,i6,y,w9,x0,x1,x2,x3,x4,x5,x6,x7,x8⟩
   obtain ⟨b08,x9,y⟩:=aB y
   refine cE x9 (fun s f w=>match s with|(q,n,g,d,a2)=>∃ z J u x o p l m,f 0=cL a1 k2/\f 1=cL a10 a9/\f 2=zB a0/\f 8=zS j e.length k/\f 9=zS z q.length J/\f 10=zS u n.length x/\f 11=zS o g.length p/\f 12=zS l d.length m/\f 13=i64 r/\f 14=i64 a2/\aH G K (aJ 9 K l m d::aJ 3 K o p g::aJ 2 K u x n::aJ 2 K z J q::aJ 9 K j k e::L) w) ?_ ?_
   ·exact ⟨g0,g1,g2,g3,g4,g5,g6,g7,v0,v1,v2,v3,v4,v5,v6,v7,v8,rfl,o7⟩
   ·rintro ⟨q,n,g,d,a2⟩ b0 f b09 c o8 ⟨z,J,u,x,o,p,l,m,d9,e0,e1,e2,e3,e4,e5,e6,e7,i7,b1⟩
    replace c:uM a b a0 e r q n g d a2=some b0:=c
    unfold uM at c
    refine yW ?_
    rcases aG c with ⟨y0,c⟩|⟨y0,c⟩
    ·refine yW ?_;refine aZ (fun f w=>∃ e8 e9 f0 f1 i8 i9 j0 j1 j2 j3 j4 j5,lM a2 e8 e9 f0 f1=some b0/\f 0=cL a1 k2/\f 1=cL a10 a9/\f 2=zB a0/\f 8=zS j e.length k/\f 9=zS i8 e8.length i9/\f 10=zS j0 e9.length j1/\f 11=zS j2 f0.length j3/\f 12=zS j4 f1.length j5/\f 13=i64 r/\f 14=i64 a2/\aH G K (aJ 9 K j4 j5 f1::aJ 3 K j2 j3 f0::aJ 2 K j0 j1 e9::aJ 2 K i8 i9 e8::aJ 9 K j k e::L) w) ?_ ?_
     ·rintro f b10 ⟨e8,e9,f0,f1,i8,i9,j0,j1,j2,j3,j4,j5,c,y1,y2,y3,y4,y5,y6,y7,y8,y9,b11,z0⟩
      unfold lM at c
      refine yW ?_;exact ⟨(e8,e9,f0,f1,wr (a2+1)),(zI c).symm,i8,i9,j0,j1,j2,j3,j4,j5,y1,y2,y3,y4,y5,y6,y7,y8,y9,rfl,z0⟩
     refine yW ?_;refine dF (C:=fun w'=>aH G K (aJ 9 K l m d::aJ 3 K o p g::aJ 2 K u x n::aJ 2 K z J q::aJ 9 K j k e::L) w') bV (by kernel_rfl) (aH.mono b1 (dG.drew _)) (yW ?_)
     obtain ⟨z1,o9,c⟩:=aB c
     have p0:=cU b1 (i:=3) rfl o9
     refine aU (fun _ b1=>dB bY rfl p0 rfl rfl rfl o9) (yW ?_);obtain ⟨a5,f2,c⟩:=aB c
     have j6:=cU b1 (i:=4) rfl f2
     refine aU (fun _ b1=>dB cF rfl j6 rfl rfl rfl f2) (yW ?_);obtain ⟨a3,z2,c⟩:=aB c
     refine jO (vs:=[cL a1 k2,i64 z1,str a5]) (v:=i64 a3) call60 rfl (fun _ b1=>(aEr b1 h3 h6 h9 z2)) (yW ?_);refine dI (fun b12 b6=>(yW ?_))
     refine dF (C:=fun w'=>aH G K (aJ 9 K l m d::aJ 3 K o p g::aJ 2 K u x n::aJ 2 K z J q::aJ 9 K j k e::L) w') bV (by kernel_rfl) (aH.mono b6 (dG.drew _)) (yW ?_);obtain ⟨z3,p1,c⟩:=aB c
     have p2:=cU b6 (i:=2) rfl p1
     refine aU (fun _ b6=>dB bY rfl p2 rfl rfl rfl p1) ?_
     iterate 3 refine aIQ ?_
     refine aU (fun _ b6=>dB cF rfl j6 rfl rfl rfl f2) (yW ?_);obtain ⟨Z,z4,c⟩:=aB c
     refine jO (vs:=[cL a10 a9,i64 z3,str a5]) (v:=i64 Z) call60 rfl (fun _ b6=>(aEr b6 s0 n8 s1 z4)) (yW ?_);refine dI (fun b13 j7=>?_)
     iterate 3 refine aIQ ?_
     refine cQ (fun f w=>∃ l9,iZ r q n g d a2 a5 a3 Z l9=some b0/\f 0=cL a1 k2/\f 1=cL a10 a9/\f 2=zB a0/\f 8=zS j e.length k/\f 9=zS z q.length J/\f 10=zS u n.length x/\f 11=zS o g.length p/\f 12=zS l d.length m/\f 13=i64 r/\f 14=i64 a2/\f 15=i64 a3/\f 16=i64 Z/\f 82=zB l9/\aH G K (aJ 9 K l m d::aJ 3 K o p g::aJ 2 K u x n::aJ 2 K z J q::aJ 9 K j k e::L) w) ?_ ?_
     ·rintro f b14 ⟨l9,c,m0,m1,m2,m3,m4,m5,m6,m7,m8,m9,p3,p4,b15,n0⟩
      unfold iZ at c
      refine yW ?_
      rcases aG c with ⟨z5,c⟩|⟨z5,c⟩
      ·refine yW ?_;exact ⟨q,n,g,d,z,J,u,x,o,p,l,m,c,m0,m1,m2,m3,m4,m5,m6,m7,m8,m9,n0⟩
      ·iterate 5 refine aIQ ?_
       refine cQ (fun f w=>∃ n1,oC r q n g d a2 a5 a3 Z n1=some b0/\f 0=cL a1 k2/\f 1=cL a10 a9/\f 2=zB a0/\f 8=zS j e.length k/\f 9=zS z q.length J/\f 10=zS u n.length x/\f 11=zS o g.length p/\f 12=zS l d.length m/\f 13=i64 r/\f 14=i64 a2/\f 15=i64 a3/\f 16=i64 Z/\f 88=zB n1/\aH G K (aJ 9 K l m d::aJ 3 K o p g::aJ 2 K u x n::aJ 2 K z J q::aJ 9 K j k e::L) w) ?_ ?_
       ·rintro f b16 ⟨n1,c,z6,z7,z8,z9,a00,a01,p5,p6,a02,a03,a04,a05,b17,p7⟩
        unfold oC at c
        refine yW ?_
        rcases aG c with ⟨a06,c⟩|⟨a06,c⟩
        ·iterate 5 refine aIQ ?_
         refine aC (dB cF rfl j6 rfl rfl rfl f2) (yW ?_);refine bZ (Kt:=K) (xs:=([a5]:List bD)) (cs:=[str a5]) (vs:=[(0,str a5)]) cF fL rfl rfl p7 rfl (by kernel_rfl) rfl rfl rfl ⟨rfl,trivial⟩ (fun p8 a07 (a08:aH G K (aJ 9 K p8 1 ([a5]:List bD)::aJ 9 K l m d::aJ 3 K o p g::aJ 2 K u x n::aJ 2 K z J q::aJ 9 K j k e::L) a07)=>(yW ?_))
         refine aZ (fun f w=>∃ b7 j8 j9,qT b7=some b0/\f 17=zS j8 b7.length j9/\aH G K (aJ 9 K j8 j9 b7::L) w) ?_ ?_
         ·rintro f b18 ⟨b7,j8,j9,c,b19,a09⟩
          unfold qT at c
          refine yW ?_;refine bK (aW (cA (aW (aW (aW ?_)))))
          have a11:=o8 _ (zI c).symm
          subst a11
          have y:(some (.inr (.inr (b7,true))))=some d0:=y
          refine cA (aW (cA (aW (aW (aW ?_)))))
          have a12:=o6 _ (zI y).symm
          subst a12
          have V:(some (b7,true))=some R:=V
          obtain rfl:=zI V
          exact cA (aW (aW (iO results30 rfl rfl ⟨j8,j9,rfl,a09⟩)))
         obtain ⟨b20,a15,c⟩:=aB c
         refine cE a15 (fun s f w=>match s with|(b2,n2)=>∃ b8 b9,f 11=zS o g.length p/\f 12=zS l d.length m/\f 17=zS b8 b2.length b9/\f 18=i64 n2/\aH G K (aJ 9 K b8 b9 b2::aJ 9 K l m d::aJ 3 K o p g::L) w) ?_ ?_
         ·exact ⟨p8,1,p5,p6,rfl,rfl,(aH.arr 6 [0,1,2] a08 rfl)⟩
         ·rintro ⟨b2,n2⟩ a17 f b21 a6 a18 ⟨b8,b9,a19,a20,a21,b22,n3⟩
          replace a6:xX g d b2 n2=some a17:=a6
          unfold xX at a6
          refine yW ?_
          rcases aG a6 with ⟨a22,a6⟩|⟨a22,a6⟩
          ·refine yW ?_;refine cT (yW ?_)
           obtain ⟨f3,p9,a6⟩:=aB a6
           have a24:=cU n3 (i:=1) rfl p9
           refine aC (dB cF rfl a24 rfl rfl rfl p9) (yW ?_);refine bZ (Kt:=K) (xs:=([f3]:List bD)) (cs:=[str f3]) (vs:=[(0,str f3)]) cF fL rfl rfl n3 rfl (by kernel_rfl) rfl rfl rfl ⟨rfl,trivial⟩ (fun q0 q1 (a25:aH G K (aJ 9 K q0 1 ([f3]:List bD)::aJ 9 K b8 b9 b2::aJ 9 K l m d::aJ 3 K o p g::L) q1)=>(yW ?_))
           obtain ⟨q2,a26,a6⟩:=aB a6
           have a27:aH G K (aJ 9 K b8 b9 b2::aJ 9 K q0 1 ([f3]:List bD)::aJ 9 K l m d::aJ 3 K o p g::L) q1:=(aH.arr 2 [1,0] a25 rfl)
           refine dA (i:=0) cF underlying24 fL rfl rfl a27 rfl (zR _) (zR _) a26 rfl rfl rfl rfl (fun _ h=>h) (fun q3 q4 a29 (q5:aH G K (aJ 9 K q3 q4 q2::aJ 9 K l m d::aJ 3 K o p g::L) a29)=>(yW ?_));obtain ⟨a30,q6,a6⟩:=aB a6
           have a31:=cU q5 (i:=2) rfl q6
           refine aC (dB aFQ rfl a31 rfl rfl rfl q6) (yW ?_);exact ⟨(q2,a30),(zI a6).symm,q3,q4,a19,a20,rfl,rfl,q5⟩
          ·refine yW ?_
           have a32:=a18 _ (zI a6).symm
           subst a32
           have c:(qT b2)=some b0:=c
           refine yW ?_;exact ⟨b2,b8,b9,c,a21,(aH.arr 3 [0] n3 rfl)⟩
        ·refine yW ?_;refine aZ (fun f w=>∃ n4,qU r q n g d a2 a5 a3 Z n4=some b0/\f 0=cL a1 k2/\f 1=cL a10 a9/\f 2=zB a0/\f 8=zS j e.length k/\f 9=zS z q.length J/\f 10=zS u n.length x/\f 11=zS o g.length p/\f 12=zS l d.length m/\f 13=i64 r/\f 14=i64 a2/\f 15=i64 a3/\f 16=i64 Z/\f 19=zB n4/\aH G K (aJ 9 K l m d::aJ 3 K o p g::aJ 2 K u x n::aJ 2 K z J q::aJ 9 K j k e::L) w) ?_ ?_
         ·rintro f b23 ⟨n4,c,q7,q8,q9,r0,a33,a35,a36,a37,r1,r2,b24,b25,b26,r3⟩
          unfold qU at c
          refine yW ?_
          rcases aG c with ⟨a38,c⟩|⟨a38,c⟩
          ·refine yW ?_;refine bZ (Kt:=K) (xs:=([a3]:List Int)) (cs:=[i64 a3]) (vs:=[(0,i64 a3)]) bY fC rfl rfl r3 rfl (by kernel_rfl) rfl rfl rfl ⟨rfl,trivial⟩ (fun a39 a40 (a41:aH G K (aJ 2 K a39 1 ([a3]:List Int)::aJ 9 K l m d::aJ 3 K o p g::aJ 2 K u x n::aJ 2 K z J q::aJ 9 K j k e::L) a40)=>?_)
           obtain ⟨b3,a42,c⟩:=aB c
           refine dA (i:=3) bY underlying35 fC rfl rfl a41 rfl (zR _) (zR _) a42 rfl rfl rfl rfl (fun _ h=>h) (fun b4 b5 a43 (a44:aH G K (aJ 9 K l m d::aJ 3 K o p g::aJ 2 K u x n::aJ 2 K b4 b5 b3::aJ 9 K j k e::L) a43)=>(yW ?_));refine bZ (Kt:=K) (xs:=([Z]:List Int)) (cs:=[i64 Z]) (vs:=[(0,i64 Z)]) bY fC rfl rfl a44 rfl (by kernel_rfl) rfl rfl rfl ⟨rfl,trivial⟩ (fun a46 a47 (a48:aH G K (aJ 2 K a46 1 ([Z]:List Int)::aJ 9 K l m d::aJ 3 K o p g::aJ 2 K u x n::aJ 2 K b4 b5 b3::aJ 9 K j k e::L) a47)=>?_)
           obtain ⟨c0,a49,c⟩:=aB c
           refine dA (i:=2) bY underlying35 fC rfl rfl a48 rfl (zR _) (zR _) a49 rfl rfl rfl rfl (fun _ h=>h) (fun c1 c2 a51 (a52:aH G K (aJ 9 K l m d::aJ 3 K o p g::aJ 2 K c1 c2 c0::aJ 2 K b4 b5 b3::aJ 9 K j k e::L) a51)=>(yW ?_));refine bZ (Kt:=K) (xs:=([r]:List Int)) (cs:=[i64 r]) (vs:=[(0,i64 r)]) aFQ ez_3 rfl rfl a52 rfl (by kernel_rfl) rfl rfl rfl ⟨rfl,trivial⟩ (fun a54 a55 (a57:aH G K (aJ 3 K a54 1 ([r]:List Int)::aJ 9 K l m d::aJ 3 K o p g::aJ 2 K c1 c2 c0::aJ 2 K b4 b5 b3::aJ 9 K j k e::L) a55)=>?_)
           obtain ⟨k0,a58,c⟩:=aB c
           refine dA (i:=1) aFQ underlying92 ez_3 rfl rfl a57 rfl (zR _) (zR _) a58 rfl rfl rfl rfl (fun _ h=>h) (fun k1 k3 a60 (a61:aH G K (aJ 9 K l m d::aJ 3 K k1 k3 k0::aJ 2 K c1 c2 c0::aJ 2 K b4 b5 b3::aJ 9 K j k e::L) a60)=>?_)
           iterate 7 refine aIQ ?_
           refine aC (dB cF rfl j6 rfl rfl rfl f2) (yW ?_);refine bZ (Kt:=K) (xs:=([a5]:List bD)) (cs:=[str a5]) (vs:=[(0,str a5)]) cF fL rfl rfl a61 rfl (by kernel_rfl) rfl rfl rfl ⟨rfl,trivial⟩ (fun a62 a63 (a64:aH G K (aJ 9 K a62 1 ([a5]:List bD)::aJ 9 K l m d::aJ 3 K k1 k3 k0::aJ 2 K c1 c2 c0::aJ 2 K b4 b5 b3::aJ 9 K j k e::L) a63)=>?_)
           obtain ⟨r4,a65,c⟩:=aB c
           refine dA (i:=0) cF underlying24 fL rfl rfl a64 rfl (zR _) (zR _) a65 rfl rfl rfl rfl (fun _ h=>h) (fun r5 r6 a66 (a67:aH G K (aJ 9 K r5 r6 r4::aJ 3 K k1 k3 k0::aJ 2 K c1 c2 c0::aJ 2 K b4 b5 b3::aJ 9 K j k e::L) a66)=>(yW ?_));exact ⟨b3,c0,k0,r4,b4,b5,c1,c2,k1,k3,r5,r6,c,q7,q8,q9,r0,rfl,rfl,rfl,rfl,r1,r2,a67⟩
          ·refine yW ?_;exact ⟨q,n,g,d,z,J,u,x,o,p,l,m,c,q7,q8,q9,r0,a33,a35,a36,a37,r1,r2,r3⟩
         obtain ⟨b27,a68,c⟩:=aB c
         refine cE a68 (fun s f w=>match s with|(f4,c3)=>f 0=cL a1 k2/\f 1=cL a10 a9/\f 2=zB a0/\f 8=zS j e.length k/\f 9=zS z q.length J/\f 10=zS u n.length x/\f 11=zS o g.length p/\f 12=zS l d.length m/\f 13=i64 r/\f 14=i64 a2/\f 15=i64 a3/\f 16=i64 Z/\f 19=zB f4/\f 20=i64 c3/\aH G K (aJ 9 K l m d::aJ 3 K o p g::aJ 2 K u x n::aJ 2 K z J q::aJ 9 K j k e::L) w) ?_ ?_
         ·exact ⟨z6,z7,z8,z9,a00,a01,p5,p6,a02,a03,a04,a05,rfl,rfl,p7⟩
         ·rintro ⟨f4,c3⟩ r7 f b28 t a69 ⟨k4,k5,k6,k7,k8,k9,l0,l1,l2,l3,l4,l5,a70,n5,l6⟩
          replace t:xY q n a3 Z f4 c3=some r7:=t
          unfold xY at t
          refine yW ?_
          rcases aG t with ⟨a71,t⟩|⟨a71,t⟩
          ·refine yW ?_;refine cT (cQ (fun f w=>∃ l7,lN c3 l7=some r7/\f 0=cL a1 k2/\f 1=cL a10 a9/\f 2=zB a0/\f 8=zS j e.length k/\f 9=zS z q.length J/\f 10=zS u n.length x/\f 11=zS o g.length p/\f 12=zS l d.length m/\f 13=i64 r/\f 14=i64 a2/\f 15=i64 a3/\f 16=i64 Z/\f 19=zB l7/\f 20=i64 c3/\aH G K (aJ 9 K l m d::aJ 3 K o p g::aJ 2 K u x n::aJ 2 K z J q::aJ 9 K j k e::L) w) ?_ ?_)
           ·rintro f b29 ⟨l7,t,a72,a73,a74,a75,a76,a77,a78,a79,a80,a81,a82,a83,a84,b30,a85⟩
            unfold lN at t
            refine yW ?_;exact ⟨(l7,wr (c3+1)),(zI t).symm,a72,a73,a74,a75,a76,a77,a78,a79,a80,a81,a82,a83,a84,rfl,a85⟩
           refine yW ?_
           rcases aG t with ⟨a86,t⟩|⟨a86,t⟩
           ·refine yW ?_;exact ⟨true,t,k4,k5,k6,k7,k8,k9,l0,l1,l2,l3,l4,l5,rfl,n5,l6⟩
           ·refine yW ?_;obtain ⟨b31,a87,t⟩:=aB t
            refine aC (dB bY rfl p0 rfl rfl rfl a87) (yW ?_)
            rcases aG t with ⟨a88,t⟩|⟨a88,t⟩
            ·refine yW ?_;obtain ⟨a89,a90,t⟩:=aB t
             refine aC (dB bY rfl p2 rfl rfl rfl a90) (yW ?_);exact ⟨a89 == Z,t,k4,k5,k6,k7,k8,k9,l0,l1,l2,l3,l4,l5,rfl,n5,l6⟩
            ·refine yW ?_;exact ⟨false,t,k4,k5,k6,k7,k8,k9,l0,l1,l2,l3,l4,l5,rfl,n5,l6⟩
          ·refine yW ?_
           have a91:=a69 _ (zI t).symm
           subst a91
           have c:(qU r q n g d a2 a5 a3 Z f4)=some b0:=c
           refine yW ?_;exact ⟨f4,c,k4,k5,k6,k7,k8,k9,l0,l1,l2,l3,l4,l5,a70,l6⟩
       refine yW ?_
       rcases aG c with ⟨a92,c⟩|⟨a92,c⟩
       ·refine yW ?_;exact ⟨true,c,m0,m1,m2,m3,m4,m5,m6,m7,m8,m9,p3,p4,rfl,n0⟩
       ·refine yW ?_;exact ⟨decide (Z < 0),c,m0,m1,m2,m3,m4,m5,m6,m7,m8,m9,p3,p4,rfl,n0⟩
     refine yW ?_
     rcases aG c with ⟨a93,c⟩|⟨a93,c⟩
     ·refine yW ?_
      rcases aG c with ⟨a94,c⟩|⟨a94,c⟩
      ·refine yW ?_;exact ⟨true,c,d9,e0,e1,e2,e3,e4,e5,e6,e7,i7,rfl,rfl,rfl,j7⟩
      ·refine yW ?_;exact ⟨false,c,d9,e0,e1,e2,e3,e4,e5,e6,e7,i7,rfl,rfl,rfl,j7⟩
     ·refine yW ?_
      rcases aG c with ⟨a95,c⟩|⟨a95,c⟩
      ·refine yW ?_;exact ⟨!a0,c,d9,e0,e1,e2,e3,e4,e5,e6,e7,i7,rfl,rfl,rfl,j7⟩
      ·refine yW ?_;exact ⟨false,c,d9,e0,e1,e2,e3,e4,e5,e6,e7,i7,rfl,rfl,rfl,j7⟩
    ·refine yW ?_
     have a96:=o8 _ (zI c).symm
     subst a96
     have y:(qS r q n g d)=some d0:=y
     refine yW ?_;exact ⟨q,n,g,d,z,J,u,x,o,p,l,m,y,d9,e0,e1,e2,e3,e4,e5,e6,e7,b1⟩
  ·refine yW ?_
   have a97:=o6 _ (zI y).symm
   subst a97
   have V:(qR)=some R:=V
   refine yW ?_;exact ⟨V,(aH.arr 5 [] o7 rfl)⟩
theorem aDW {a b:cO} {R:(Bool × (List bD) × Int)} (hs:aH G K (L) w) (h3:cR K a1 c2 a.L) (h6:cR K a4 c5 a.E) (h9:cR K a7 c8 b.L) (a6:cR K a10 c11 b.E) (d:aAJ a b=some R):
  Calls Tryz.prog 9 ([zA (zCa a a1 c2 a4 c5),zA (zCa b a7 c8 a10 c11)]:List Value).toArray w (eN fun v w'=>∃ a8 a9,v=Value.tuple #[zB R.1,zS a8 R.2.1.length a9,i64 R.2.2]/\aH G K (aJ 9 K a8 a9 R.2.1::L) w'):=by
 let r:=(zC b a7 c8 a10 c11)
 let t:=(zC a a1 c2 a4 c5)
 let J:=zG
 refine zH func9 ?_;unfold aAJ at d
 refine yW ?_;refine fS (v:=zA (zCa a a1 c2 a4 c5)) (vs:=t) hs rfl rfl (fun k j1 b8=>(fS (v:=zA (zCa b a7 c8 a10 c11)) (vs:=r) b8 rfl rfl (fun l j2 b9=>?_)))
 iterate 7 refine aIQ ?_
 refine cQ (fun f w=>∃ V,mV a b V=some R/\f 2=zP (some ⟨k,0,none⟩)/\f 3=zP (some ⟨l,0,none⟩)/\f 17=zB V/\aH G K (box l 27 r::box k 27 t::L) w) ?_ ?_
 ·rintro f j3 ⟨V,d,c0,c1,j4,b0⟩
  unfold mV at d
  refine yW ?_
  rcases aG d with ⟨c3,d⟩|⟨c3,d⟩
  ·refine yW ?_
   have c4:=aH.nil (α:=bD) b0 9 K
   obtain rfl:=zI d
   exact bK (aW (aAf results9 rfl rfl rfl ⟨none,0,rfl,(aH.arr 3 [0] c4 rfl)⟩))
  ·refine yW ?_;obtain ⟨j5,u,c7,c9,d0⟩:=aH.lendB (i:=1) b0 rfl
   obtain ⟨j6,m,d1,d2,d3⟩:=aH.lendB (i:=0) c9 rfl
   obtain ⟨c,d4,d⟩:=aB d
   refine aS (vs:=[cL (some ⟨k,0,none⟩) 0,cL (some ⟨l,0,none⟩) 0]) call29 (lst2 c0 c1) (aGC d2 (c7.mono m) (h3.mono (zL u m)) (h6.mono (zL u m)) d1 (h9.mono (zL u m)) (a6.mono (zL u m)) d4) ?_
   rintro _ j7 ⟨e,g,h,j,n,c45,o,p,rfl,d5⟩
   have d6:=d3 _ _ d5
   have d7:=d0 _ _ d6
   refine yW ?_;refine bR (vs:=J) zeroValue27 d7 rfl (fun b1 j8 d8=>(bR (vs:=J) zeroValue27 d8 rfl (fun b2 j9 d9=>(bS (i:=1) (ns:=(zC c.1 e g h j)) (us:=(zC c.1 e g h j)) sizeOf27 d9 rfl rfl rfl rfl rfl (cS rfl) rfl rfl (fun e0 (e1:aH G K (box b2 27 J::box b1 27 (zC c.1 e g h j)::box k 27 t::box l 27 r::aJ 9 K e g c.1.L::aJ 69 K h j c.1.E::aJ 9 K n c45 c.2.1.L::aJ 69 K o p c.2.1.E::L) e0)=>(bS (i:=0) (ns:=(zC c.2.1 n c45 o p)) (us:=(zC c.2.1 n c45 o p)) sizeOf27 e1 rfl rfl rfl rfl rfl (cS rfl) rfl rfl (fun e2 (b3:aH G K (box b2 27 (zC c.2.1 n c45 o p)::box b1 27 (zC c.1 e g h j)::box k 27 t::box l 27 r::aJ 9 K e g c.1.L::aJ 69 K h j c.1.E::aJ 9 K n c45 c.2.1.L::aJ 69 K o p c.2.1.E::L) e2)=>(yW ?_))))))))
   rcases aG d with ⟨e3,d⟩|⟨e3,d⟩
   ·refine yW ?_
    have e4:=aH.nil (α:=bD) b3 9 K
    obtain rfl:=zI d
    exact bK (aW (aAf results9 rfl rfl rfl ⟨none,0,rfl,(aH.arr 9 [0] e4 rfl)⟩))
   ·refine yW ?_;obtain ⟨k0,Z,e6,e7,e8⟩:=aH.lendS (i:=4) b3 (zR _) rfl
    obtain ⟨k1,a0,e9,f0,f1⟩:=aH.lendS (i:=4) e7 Z rfl
    obtain ⟨k2,x,f2,f3,f4⟩:=aH.lendB (i:=1) f0 rfl
    obtain ⟨k3,y,f5,f6,f7⟩:=aH.lendS (i:=3) f3 (zL (zL Z a0) x) rfl
    obtain ⟨k4,z,f8,f9,g0⟩:=aH.lendS (i:=3) f6 (zL (zL (zL Z a0) x) y) rfl
    obtain ⟨k5,q,g1,g2,g3⟩:=aH.lendB (i:=0) f9 rfl
    obtain ⟨k6,g4,d⟩:=aB d
    refine zF call30 (aFa g2 (f2.mono (zL (zL y z) q)) (e6.mono (zL (zL (zL (zL a0 x) y) z) q)) (e9.mono (zL (zL (zL x y) z) q)) g1 (f5.mono (zL z q)) (f8.mono q) g4) ?_
    rintro _ k7 ⟨g5,g6,rfl,g7⟩
    have g8:=g3 _ _ g7
    have g9:=g0 _ _ g8
    have h0:=f7 _ _ g9
    have h1:=f4 _ _ h0
    have h2:=f1 _ _ h1
    have h4:=e8 _ _ h2
    refine yW ?_;obtain rfl:=zI d
    exact bK (aAf results9 rfl rfl rfl ⟨g5,g6,rfl,(aH.arr 9 [6] h4 rfl)⟩)
 refine yW ?_;obtain ⟨k8,b4,h7,h8,i0⟩:=aH.lendB (i:=1) b9 rfl
 obtain ⟨k9,i1,d⟩:=aB d
 refine zF call28 (aBU h8 h7 (h3.mono b4) (h6.mono b4) i1) ?_
 rintro _ l0 ⟨rfl,i2⟩
 have b5:=i0 _ _ i2
 refine yW ?_
 rcases aG d with ⟨i3,d⟩|⟨i3,d⟩
 ·refine yW ?_;exact ⟨true,d,rfl,rfl,rfl,(aH.arr 2 [1,0] b5 rfl)⟩
 ·refine yW ?_;obtain ⟨l1,b6,i4,i5,i6⟩:=aH.lendB (i:=1) b5 rfl
  obtain ⟨i7,i8,d⟩:=aB d
  refine zF call28 (aBU i5 i4 (h9.mono b6) (a6.mono b6) i8) ?_
  rintro _ l2 ⟨rfl,i9⟩
  have j0:=i6 _ _ i9
  refine yW ?_;exact ⟨!i7,d,rfl,rfl,rfl,j0⟩
theorem aBe {t:cO} {n:Int} {R:(cO × Int)} (hs:aH G K (L) w) (r:G.lo=0) (u:cR K a1 c2 t.L) (x:cR K a4 c5 t.E) (b:zY t n=some R):
  Calls Tryz.prog 31 ([zA (zCa t a1 c2 a4 c5),i64 n]:List Value).toArray w (eN fun v w'=>∃ y z J V,v=Value.tuple #[zA (zCa R.1 y z J V),i64 R.2]/\aH G K (aJ 9 K y z R.1.L::aJ 69 K J V R.1.E::L) w'):=by
 let c:=zG
 let j:=(zC t a1 c2 a4 c5)
 refine zH func31 ?_;unfold zY at b
 refine yW ?_;refine fS (v:=zA (zCa t a1 c2 a4 c5)) (vs:=j) hs rfl rfl (fun l w8 b0=>(bR (vs:=c) zeroValue27 b0 rfl (fun m d9 b1=>(yW ?_))))
 refine cT (yW ?_);obtain ⟨e0,b2,b⟩:=aB b
 refine zF call34 (jA b1 r u x b2) ?_
 rintro _ e1 ⟨rfl,Z⟩
 refine yW ?_
 rcases aG b with ⟨b3,b⟩|⟨b3,b⟩
 ·refine yW ?_;refine aC (dD (vs:=[]) (cs:=c) jT rfl (by kernel_rfl)) (bS (i:=0) (ns:=c) (us:=c) sizeOf27 Z rfl rfl rfl rfl rfl (cS rfl) rfl rfl (fun b4 (b5:aH G K (box m 27 c::box l 27 j::L) b4)=>(yW ?_)))
  have b6:=aH.nil (α:=bD) b5 9 K
  have a0:=aH.nil (α:=Edge) b6 69 K
  obtain rfl:=zI b
  exact bK (cA (aW (uW results31 (dM (vs:=c) rfl cZ a0 (i:=2) rfl rfl rfl) (gT rfl rfl) ⟨none,0,none,0,rfl,(aH.arr 4 [1,0] a0 rfl)⟩)))
 ·refine yW ?_;obtain ⟨e2,b9,b⟩:=aB b
  refine zF call61 (aID Z b9) ?_
  rintro _ e3 ⟨rfl,a2⟩
  refine yW ?_
  rcases aG b with ⟨c0,b⟩|⟨c0,b⟩
  ·refine yW ?_;refine aC (dD (vs:=[]) (cs:=c) jT rfl (by kernel_rfl)) (bS (i:=0) (ns:=c) (us:=c) sizeOf27 a2 rfl rfl rfl rfl rfl (cS rfl) rfl rfl (fun c1 (c3:aH G K (box m 27 c::box l 27 j::L) c1)=>(yW ?_)))
   have c4:=aH.nil (α:=bD) c3 9 K
   have a3:=aH.nil (α:=Edge) c4 69 K
   obtain rfl:=zI b
   exact bK (cA (aW (uW results31 (dM (vs:=c) rfl cZ a3 (i:=2) rfl rfl rfl) (gT rfl rfl) ⟨none,0,none,0,rfl,(aH.arr 4 [1,0] a3 rfl)⟩)))
  ·refine yW ?_;obtain ⟨a,c7,b⟩:=aB b
   refine zF call37 (iN a2 r u x c7) ?_
   rintro _ e4 ⟨k,d,e,g,h,o,p,rfl,a5,c8⟩
   refine yW ?_;refine bR (vs:=c) zeroValue27 c8 rfl (fun q e5 c9=>(bS (i:=0) (ns:=(zC a.1 d e g h)) (us:=(zC a.1 d e g h)) sizeOf27 c9 rfl rfl rfl rfl rfl (cS rfl) rfl rfl (fun d0 (a6:aH G k (box q 27 (zC a.1 d e g h)::aJ 9 K d e a.1.L::aJ 69 K g h a.1.E::aJ 35 k o p a.2.1::box m 27 c::box l 27 j::L) d0)=>(yW ?_))))
   rcases aG b with ⟨d1,b⟩|⟨d1,b⟩
   ·refine yW ?_;refine aC (dD (vs:=[]) (cs:=c) jT rfl (by kernel_rfl)) (bS (i:=4) (ns:=c) (us:=c) sizeOf27 a6 rfl rfl rfl rfl rfl (cS rfl) rfl rfl (fun d2 (d3:aH G k (box q 27 (zC a.1 d e g h)::aJ 9 K d e a.1.L::aJ 69 K g h a.1.E::aJ 35 k o p a.2.1::box m 27 c::box l 27 j::L) d2)=>(yW ?_)))
    have d4:=aH.nil (α:=bD) d3 9 K
    have a7:=aH.nil (α:=Edge) d4 69 K
    obtain rfl:=zI b
    exact bK (aW (uW results31 (dM (vs:=c) rfl cZ a7 (i:=6) rfl rfl rfl) (gT rfl rfl) ⟨none,0,none,0,rfl,(aH.weakK (aH.arr 8 [1,0] a7 rfl) a5)⟩))
   ·refine yW ?_;refine bS (i:=4) (ns:=(zC a.1 d e g h)) (us:=(zC a.1 d e g h)) sizeOf27 a6 rfl rfl rfl rfl rfl (cS rfl) rfl rfl (fun d6 (a8:aH G k (box q 27 (zC a.1 d e g h)::aJ 9 K d e a.1.L::aJ 69 K g h a.1.E::aJ 35 k o p a.2.1::box m 27 (zC a.1 d e g h)::box l 27 j::L) d6)=>(yW ?_))
    obtain rfl:=zI b
    exact bK (uW results31 (dM (vs:=(zC a.1 d e g h)) rfl cZ a8 (i:=4) rfl rfl rfl) (gT rfl rfl) ⟨d,e,g,h,rfl,(aH.weakK (aH.arr 6 [1,2] a8 rfl) a5)⟩)
theorem aCP {t:cO} {k:Int} {R:(List Edge)} (hs:aH G K (L) w) (h3:cR K a1 c2 t.L) (h6:cR K a4 c5 t.E) (c:aDf t k=some R):
  Calls Tryz.prog 32 ([zA (zCa t a1 c2 a4 c5),i64 k]:List Value).toArray w (eN fun v w'=>∃ u x,v=zS u R.length x/\aH G K (aJ 69 K u x R::L) w'):=by
 refine zH func32 ?_;unfold aDf at c
 refine yW ?_;refine fS (v:=zA (zCa t a1 c2 a4 c5)) (vs:=(zC t a1 c2 a4 c5)) hs rfl rfl (fun b7 w8 b0=>(yW ?_))
 refine aZ (fun f w=>∃ m n o,wI m=some R/\f 5=zS n m.length o/\aH G K (aJ 69 K n o m::L) w) ?_ ?_
 ·rintro f e0 ⟨m,n,o,c,e1,b1⟩
  unfold wI at c
  refine yW ?_;obtain rfl:=zI c
  exact aIK results32 ⟨n,o,rfl,b1⟩
 have b3:=aH.nil (α:=Edge) b0 69 K
 obtain ⟨e2,b4,c⟩:=aB c
 refine cE b4 (fun s f w=>match s with|(d,j)=>∃ e g,f 1=i64 k/\f 5=zS e d.length g/\f 9=zS a4 t.E.length c5/\f 10=i64 (t.E.length:Int)/\f 11=i64 j/\aH G K (aJ 69 K e g d::L) w) ?_ ?_
 ·exact ⟨none,0,rfl,rfl,rfl,rfl,rfl,(aH.arr 2 [0] b3 rfl)⟩
 ·rintro ⟨d,j⟩ y f e3 b b5 ⟨e,g,z,J,V,Z,a0,a2⟩
  replace b:aBR t k d j=some y:=b
  unfold aBR at b
  refine yW ?_
  rcases aG b with ⟨b6,b⟩|⟨b6,b⟩
  ·refine yW ?_;refine aZ (fun f w=>∃ l p q,wJ j l=some y/\f 1=i64 k/\f 5=zS p l.length q/\f 9=zS a4 t.E.length c5/\f 10=i64 (t.E.length:Int)/\f 11=i64 j/\aH G K (aJ 69 K p q l::L) w) ?_ ?_
   ·rintro f e4 ⟨l,p,q,b,b8,b9,c0,c1,e5,c3⟩
    unfold wJ at b
    refine yW ?_;exact ⟨(l,wr (j+1)),(zI b).symm,p,q,b8,b9,c0,c1,rfl,c3⟩
   refine yW ?_;obtain ⟨a,c4,b⟩:=aB b
   refine yW ?_;obtain ⟨e6,e7,c6⟩:=cR.el (sz:=3) rfl h6 c4
   cases c6
   refine yW ?_;refine bR (vs:=[i64 0,i64 0,i64 0]) zeroValue69 a2 rfl (fun r e8 c7=>(bS (i:=0) (ns:=[i64 a.F,i64 a.B,i64 a.To]) (us:=[i64 a.F,i64 a.B,i64 a.To]) sizeOf69 c7 rfl rfl rfl rfl rfl (cS rfl) rfl rfl (fun c8 (a3:aH G K (box r 69 [i64 a.F,i64 a.B,i64 a.To]::aJ 69 K e g d::L) c8)=>(yW ?_))))
   rcases aG b with ⟨c9,b⟩|⟨c9,b⟩
   ·refine yW ?_;refine bZ (Kt:=K) (xs:=([a]:List Edge)) (cs:=[i64 a.F,i64 a.B,i64 a.To]) (vs:=[(0,zA #[i64 a.F,i64 a.B,i64 a.To])]) cI fG rfl rfl a3 rfl (by kernel_rfl) rfl rfl rfl ⟨rfl,trivial⟩ (fun d0 d1 (d2:aH G K (aJ 69 K d0 1 ([a]:List Edge)::box r 69 [i64 a.F,i64 a.B,i64 a.To]::aJ 69 K e g d::L) d1)=>?_)
    obtain ⟨a5,d3,b⟩:=aB b
    refine dA (i:=1) cI underlying25 fG rfl rfl d2 rfl (zR _) (zR _) d3 rfl rfl rfl rfl (fun _ h=>h) (fun a6 a7 d4 (d5:aH G K (box r 69 [i64 a.F,i64 a.B,i64 a.To]::aJ 69 K a6 a7 a5::L) d4)=>(yW ?_));exact ⟨a5,a6,a7,b,z,rfl,V,Z,a0,(aH.arr 1 [] d5 rfl)⟩
   ·refine yW ?_;exact ⟨d,e,g,b,z,J,V,Z,a0,(aH.arr 1 [] a3 rfl)⟩
  ·refine yW ?_
   have d6:=b5 _ (zI b).symm
   subst d6
   have c:(wI d)=some R:=c
   refine yW ?_;exact ⟨d,e,g,c,J,a2⟩
end Gv
namespace Gv
open Go.Value renaming slice→zS,bool→zB,pointer→zP,agg→zA,map→zM
open Option.some renaming inj→zI
open Gv.Hp renaming le_trans→zL,le_refl→zR
open Go Go.Proofs Go.Proofs.Tryz
set_option maxRecDepth 20000
set_option maxHeartbeats 40000000
variable {G:uA} {K:Hp} {L:List iU} {w:World} {a1 a4 a7 a2 a5 a10 a3 a6 a8 a11 a14 a17 a20 a23 a13:Option Addr} {c2 c5 c8 b1 c3 c6 c11 b2 c4 c7 c12 c21 c24 c14:Nat}
theorem aFx {t:cO} {n:Int} {R:((List (List bD)) × Int)} (hs:aH G K (L) w) (hG:G.lo=0) (h3:cR K a1 c2 t.L) (h6:cR K a4 c5 t.E) (e:aDP t n=some R):
  Calls Tryz.prog 10 ([zA (zCa t a1 c2 a4 c5),i64 n]:List Value).toArray w (eN fun v w'=>∃ K' j8 j9,v=Value.tuple #[zS j8 R.1.length j9,i64 R.2]/\Hp.le K K'/\aH G K' (aJ 24 K' j8 j9 R.1::L) w'):=by
 let d6:=(zC t a1 c2 a4 c5)
 let f5:=[i64 0,i64 0,zS none 0 0]
 refine zH func10 ?_;unfold aDP at e
 refine yW ?_;refine fS (v:=zA (zCa t a1 c2 a4 c5)) (vs:=d6) hs rfl rfl (fun b7 w8 o4=>(yW ?_))
 obtain ⟨g,o5,e⟩:=aB e
 refine zF call31 (aBe o4 hG h3 h6 o5) ?_
 rintro _ w16 ⟨d7,d8,c8,c9,rfl,o6⟩
 refine yW ?_;refine bR (vs:=zG) zeroValue27 o6 rfl (fun b4 w19 o7=>(bS (i:=0) (ns:=(zC g.1 d7 d8 c8 c9)) (us:=(zC g.1 d7 d8 c8 c9)) sizeOf27 o7 rfl rfl rfl rfl rfl (cS rfl) rfl rfl (fun f6 (o8:aH G K (box b4 27 (zC g.1 d7 d8 c8 c9)::aJ 9 K d7 d8 g.1.L::aJ 69 K c8 c9 g.1.E::box b7 27 d6::L) f6)=>?_)))
 obtain ⟨o9,b3,k0,h5⟩:=aH.giveS (i:=1) o8 (zR _) rfl
 replace h5:aH G o9 (box b4 27 (zC g.1 d7 d8 c8 c9)::aJ 69 K c8 c9 g.1.E::box b7 27 d6::L) f6:=h5
 obtain ⟨p0,b0,p1,h7⟩:=aH.giveS (i:=1) h5 b3 rfl
 replace h7:aH G p0 (box b4 27 (zC g.1 d7 d8 c8 c9)::box b7 27 d6::L) f6:=h7
 obtain ⟨b5,a3,p2,f7,_⟩:=aH.lendB (i:=0) h7 rfl
 replace f7:aH G b5 (box b7 27 d6::L) f6:=f7
 refine yW ?_
 rcases aG e with ⟨p3,e⟩|⟨p3,e⟩
 ·refine yW ?_
  have p4:=aH.nil (α:=(List bD)) f7 24 b5
  obtain rfl:=zI e
  exact bK (aW (iO results10 rfl rfl ⟨b5,none,0,rfl,(zL (zL b3 b0) a3),(aH.arr 2 [0] p4 rfl)⟩))
 ·refine yW ?_;refine aC (dD (vs:=[(0,i64 0)]) (cs:=f5) aFe rfl (by kernel_rfl)) (bZ (Kt:=b5) (xs:=([⟨0,0,[]⟩]:List bT)) (cs:=f5) (vs:=[(0,zA #[i64 0,i64 0,zS none 0 0])]) lG yT rfl rfl f7 rfl (by kernel_rfl) rfl rfl rfl ⟨⟨none,0,rfl,yO _⟩,trivial⟩ (fun k1 p6 (p7:aH G b5 (aJ 65 b5 k1 1 ([⟨0,0,[]⟩]:List bT)::box b7 27 d6::L) p6)=>(yW ?_)))
  refine aZ (fun f w=>∃ x a5 b6 c45,Hp.le b5 x/\tM a5=some R/\f 8=zS b6 a5.length c45/\aH G x (aJ 65 x b6 c45 a5::L) w) ?_ ?_
  ·rintro f w47 ⟨x,a5,b6,c45,k2,e,e46,k3⟩
   unfold tM at e
   refine yW ?_
   rcases aG e with ⟨p8,e⟩|⟨p8,e⟩
   ·refine yW ?_
    have p9:=aH.nil (α:=(List bD)) k3 24 x
    obtain rfl:=zI e
    exact bK (aW (iO results10 rfl rfl ⟨x,none,0,rfl,(zL (zL (zL b3 b0) a3) k2),(aH.arr 2 [0] p9 rfl)⟩))
   ·refine yW ?_;refine aZ (fun f w=>∃ e7 f8 f9 g0,Hp.le x e7/\tL f8=some R/\f 13=zS f9 f8.length g0/\aH G e7 (aJ 24 e7 f9 g0 f8::L) w) ?_ ?_
    ·rintro f w58 ⟨e7,f8,f9,g0,q1,e,e57,q2⟩
     unfold tL at e
     refine yW ?_;obtain rfl:=zI e
     exact bK (iO results10 rfl rfl ⟨e7,f9,g0,rfl,(zL (zL (zL (zL b3 b0) a3) k2) q1),q2⟩)
    have q4:=aH.nil (α:=(List bD)) k3 24 x
    obtain ⟨a09,q5,e⟩:=aB e
    refine cE q5 (fun s f w=>match s with|(b8,g1)=>∃ b9 d0 d1,Hp.le x b9/\f 13=zS d0 b8.length d1/\f 77=zS b6 a5.length c45/\f 78=i64 (a5.length:Int)/\f 79=i64 g1/\aH G b9 (aJ 24 b9 d0 d1 b8::aJ 65 x b6 c45 a5::L) w) ?_ ?_
    ·exact ⟨x,none,0,(zR _),rfl,rfl,rfl,rfl,q4⟩
    ·rintro ⟨b8,g1⟩ q6 f w89 a6 q7 ⟨b9,d0,d1,h8,q8,k4,q9,r0,g2⟩
     replace a6:aAK a5 b8 g1=some q6:=a6
     unfold aAK at a6
     refine yW ?_
     rcases aG a6 with ⟨r1,a6⟩|⟨r1,a6⟩
     ·refine yW ?_;refine cT (yW ?_)
      obtain ⟨r,h9,a6⟩:=aB a6
      have r2:=cU g2 (i:=1) rfl h9
      refine aC (dB lG rfl r2 k4 rfl r0 h9) ?_;obtain ⟨a11,r3,r4⟩:=aFK (sz:=3) rfl g2 (i:=1) rfl h9
      obtain ⟨d2,d3,rfl,r5⟩:=r4
      refine aC (R_ldCG (t:=0) (vs:=[i64 r.a,i64 r.b,zS d2 r.trace.length d3]) ag_65 r3 rfl rfl rfl) (bR (vs:=f5) zeroValue65 g2 rfl (fun r6 a13 r7=>(bS (i:=0) (ns:=[i64 r.a,i64 r.b,zS d2 r.trace.length d3]) (us:=[i64 r.a,i64 r.b,zS d2 r.trace.length d3]) sizeOf65 r7 rfl rfl rfl rfl rfl (cS rfl) rfl rfl (fun k5 (r8:aH G b9 (box r6 65 [i64 r.a,i64 r.b,zS d2 r.trace.length d3]::aJ 24 b9 d0 d1 b8::aJ 65 x b6 c45 a5::L) k5)=>?_))))
      obtain ⟨c3,i0,a15,i1,_⟩:=aH.lendB (i:=0) r8 rfl
      replace i1:aH G c3 (aJ 24 b9 d0 d1 b8::aJ 65 x b6 c45 a5::L) k5:=i1
      refine yW ?_;refine bZ (Kt:=c3) (xs:=([r.trace]:List (List bD))) (cs:=[zS d2 r.trace.length d3]) (vs:=[(0,zS d2 r.trace.length d3)]) aEj ez_24 rfl rfl i1 rfl (by kernel_rfl) rfl rfl rfl ⟨⟨d2,d3,rfl,(r5.mono (zL h8 i0))⟩,trivial⟩ (fun r9 s0 (s1:aH G c3 (aJ 24 c3 r9 1 ([r.trace]:List (List bD))::aJ 24 b9 d0 d1 b8::aJ 65 x b6 c45 a5::L) s0)=>?_)
      obtain ⟨k6,s2,a6⟩:=aB a6
      refine yR (i:=0) c3 aEj underlying32 ez_24 rfl rfl s1 rfl i0 (zR _) s2 rfl rfl rfl rfl (fun _ _ _ h=>El.one h) (fun k7 k8 s3 (s4:aH G c3 (aJ 24 c3 k7 k8 k6::aJ 65 x b6 c45 a5::L) s3)=>(yW ?_));exact ⟨(k6,wr (g1+1)),(zI a6).symm,c3,k7,k8,(zL h8 i0),rfl,k4,q9,rfl,s4⟩
     ·refine yW ?_
      have s5:=q7 _ (zI a6).symm
      subst s5
      have e:(tL b8)=some R:=e
      refine yW ?_;exact ⟨b9,b8,d0,d1,h8,e,q8,(aH.arr 2 [0] g2 rfl)⟩
  obtain ⟨a16,s6,e⟩:=aB e
  refine cE s6 (fun s f w=>match s with|(y,a0)=>∃ b1 a7 a8,Hp.le b5 b1/\f 1=i64 n/\f 6=cL (some ⟨b4,0,none⟩) 0/\f 8=zS a7 y.length a8/\f 9=i64 a0/\aH G b1 (aJ 65 b1 a7 a8 y::L) w) ?_ ?_
  ·exact ⟨b5,k1,1,(zR _),rfl,(jS rfl),rfl,rfl,(aH.arr 2 [0] p7 rfl)⟩
  ·rintro ⟨y,a0⟩ e8 f a17 c s7 ⟨b1,a7,a8,a9,k9,l0,l1,l2,l3⟩
   replace c:aAN n g y a0=some e8:=c
   unfold aAN at c
   iterate 2 refine aIQ ?_
   refine cQ (fun f w=>∃ i2,tP n g y a0 i2=some e8/\f 1=i64 n/\f 6=cL (some ⟨b4,0,none⟩) 0/\f 8=zS a7 y.length a8/\f 9=i64 a0/\f 35=zB i2/\aH G b1 (aJ 65 b1 a7 a8 y::L) w) ?_ ?_
   ·rintro f a18 ⟨i2,c,l4,l5,i3,l6,a19,g3⟩
    unfold tP at c
    refine yW ?_
    rcases aG c with ⟨s8,c⟩|⟨s8,c⟩
    ·refine yW ?_;refine aZ (fun f w=>∃ e9 f0 g4 g5,Hp.le b1 e9/\tN a0 f0=some e8/\f 1=i64 n/\f 6=cL (some ⟨b4,0,none⟩) 0/\f 8=zS g4 f0.length g5/\f 9=i64 a0/\aH G e9 (aJ 65 e9 g4 g5 f0::L) w) ?_ ?_
     ·rintro f a20 ⟨e9,f0,g4,g5,s9,c,t0,t1,t2,a21,t3⟩
      unfold tN at c
      refine yW ?_;exact ⟨(f0,wr (a0+1)),(zI c).symm,e9,g4,g5,(zL a9 s9),t0,t1,t2,rfl,t3⟩
     refine yW ?_;obtain ⟨z,i4,c⟩:=aB c
     have t4:=cU g3 (i:=0) rfl i4
     refine aC (dB lG rfl t4 rfl rfl rfl i4) ?_;obtain ⟨a22,t5,t6⟩:=aFK (sz:=3) rfl g3 (i:=0) rfl i4
     obtain ⟨d9,e0,rfl,l7⟩:=t6
     refine aC (R_ldCG (t:=0) (vs:=[i64 z.a,i64 z.b,zS d9 z.trace.length e0]) ag_65 t5 rfl rfl rfl) (bR (vs:=f5) zeroValue65 g3 rfl (fun i5 a23 t7=>(bS (i:=0) (ns:=[i64 z.a,i64 z.b,zS d9 z.trace.length e0]) (us:=[i64 z.a,i64 z.b,zS d9 z.trace.length e0]) sizeOf65 t7 rfl rfl rfl rfl rfl (cS rfl) rfl rfl (fun i6 (t8:aH G b1 (box i5 65 [i64 z.a,i64 z.b,zS d9 z.trace.length e0]::aJ 65 b1 a7 a8 y::L) i6)=>?_))))
     obtain ⟨c0,u,t9,g6,_⟩:=aH.lendB (i:=0) t8 rfl
     replace g6:aH G c0 (aJ 65 b1 a7 a8 y::L) i6:=g6
     refine yW ?_
     rcases aG c with ⟨u0,c⟩|⟨u0,c⟩
     ·refine yW ?_
      have u1:aH G c0 (aJ 65 c0 a7 a8 y::L) i6:=aH.weak (i:=0) g6 rfl (fun _ h=>aJ.mono u h)
      refine yW ?_;exact ⟨c0,y,a7,a8,u,c,l4,l5,i3,l6,u1⟩
     ·refine yW ?_;obtain ⟨k,u2,c⟩:=aB c
      refine zF call32 (aCP g6 (k0.mono (zL (zL (zL b0 a3) a9) u)) (p1.mono (zL (zL a3 a9) u)) u2) ?_
      rintro _ u3 ⟨m,o,rfl,u4⟩
      refine yW ?_;refine aZ (fun f w=>∃ f1 f2 g7 g8,Hp.le c0 f1/\tO a0 f2=some e8/\f 1=i64 n/\f 6=cL (some ⟨b4,0,none⟩) 0/\f 8=zS g7 f2.length g8/\f 9=i64 a0/\aH G f1 (aJ 65 f1 g7 g8 f2::L) w) ?_ ?_
      ·rintro f a24 ⟨f1,f2,g7,g8,u5,c,u6,u7,u8,u9,v0⟩
       unfold tO at c
       refine yW ?_;exact ⟨f1,f2,g7,g8,(zL u u5),c,u6,u7,u8,u9,v0⟩
      have v1:aH G c0 (aJ 69 K m o k::aJ 65 c0 a7 a8 y::L) u3:=aH.weak (i:=1) u4 rfl (fun _ h=>aJ.mono u h)
      obtain ⟨a25,v2,c⟩:=aB c
      refine cE v2 (fun s f w=>match s with|(p,e1)=>∃ q J V,Hp.le c0 q/\f 1=i64 n/\f 6=cL (some ⟨b4,0,none⟩) 0/\f 8=zS J p.length V/\f 9=i64 a0/\f 10=cL (some ⟨i5,0,none⟩) 0/\f 50=zS m k.length o/\f 51=i64 (k.length:Int)/\f 52=i64 e1/\aH G q (aJ 69 K m o k::aJ 65 q J V p::L) w) ?_ ?_
      ·exact ⟨c0,a7,a8,(zR _),l4,l5,i3,l6,(jS rfl),rfl,rfl,rfl,v1⟩
      ·rintro ⟨p,e1⟩ l8 f a26 d v3 ⟨q,J,V,a2,i7,i8,v4,i9,l9,j0,m0,j1,j2⟩
       replace d:aAM g z k p e1=some l8:=d
       unfold aAM at d
       refine yW ?_
       rcases aG d with ⟨v5,d⟩|⟨v5,d⟩
       ·refine yW ?_;refine cT (yW ?_)
        obtain ⟨l,m1,d⟩:=aB d
        have v6:=cU j2 (i:=0) rfl m1
        refine aC (dB cI rfl v6 j0 rfl j1 m1) (yW ?_);refine bR (vs:=[i64 0,i64 0,i64 0]) zeroValue69 j2 rfl (fun v7 a27 v8=>(bS (i:=0) (ns:=[i64 l.F,i64 l.B,i64 l.To]) (us:=[i64 l.F,i64 l.B,i64 l.To]) sizeOf69 v8 rfl rfl rfl rfl rfl (cS rfl) rfl rfl (fun m2 (v9:aH G q (box v7 69 [i64 l.F,i64 l.B,i64 l.To]::aJ 69 K m o k::aJ 65 q J V p::L) m2)=>?_)))
        obtain ⟨c4,Z,a28,j3,_⟩:=aH.lendB (i:=0) v9 rfl
        replace j3:aH G c4 (aJ 69 K m o k::aJ 65 q J V p::L) m2:=j3
        refine yW ?_;refine cQ (fun f w=>∃ f3 f4 g9 h0,Hp.le c4 f3/\aAL e1 f4=some l8/\f 1=i64 n/\f 6=cL (some ⟨b4,0,none⟩) 0/\f 8=zS g9 f4.length h0/\f 9=i64 a0/\f 10=cL (some ⟨i5,0,none⟩) 0/\f 50=zS m k.length o/\f 51=i64 (k.length:Int)/\f 52=i64 e1/\aH G f3 (aJ 65 f3 g9 h0 f4::aJ 69 K m o k::L) w) ?_ ?_
        ·rintro f a29 ⟨f3,f4,g9,h0,w0,d,w1,w2,w3,w4,w5,w6,w7,a30,w9⟩
         unfold aAL at d
         refine yW ?_;exact ⟨(f4,wr (e1+1)),(zI d).symm,f3,g9,h0,(zL (zL a2 Z) w0),w1,w2,w3,w4,w5,w6,w7,rfl,(aH.arr 2 [1,0] w9 rfl)⟩
        refine kP (C:=fun w'=>∃ L',aH G c4 L' w') [] bV (by kernel_rfl) (fun a31 x0=>?_)
        have b2:=aH.mono j3 x0
        refine aHQ 0 ?_;refine aHQ 1 ?_
        refine aHQ 2 ?_;refine aHQ 3 ?_
        refine cY (i:=4) rfl (by kernel_rfl) ⟨_,b2⟩ (fun _ ⟨_,b2⟩=>bE (t:=2) fX b2 (t9.mono (zL a2 Z)) rfl rfl) (aHQ 6 ?_);refine cY (i:=7) rfl (by kernel_rfl) ⟨_,b2⟩ (fun _ ⟨_,b2⟩=>bE (t:=2) fX b2 (p2.mono (zL (zL (zL a9 u) a2) Z)) rfl rfl) (aHQ 8 ?_)
        refine aHQ 9 ?_;obtain ⟨c1,x1,d⟩:=aB d
        refine aHQ 10 ?_;obtain ⟨a32,x2,x3⟩:=cR.el (sz:=1) rfl k0 x1
        cases x3
        refine cY (i:=11) rfl (by kernel_rfl) ⟨_,b2⟩ (fun _ ⟨_,b2⟩=>bE (t:=0) aIB b2 (x2.mono (zL (zL (zL (zL (zL b0 a3) a9) u) a2) Z)) rfl rfl) (gY (i:=5) (j:=12) (by kernel_rfl) rfl rfl ?_ ?_)
        ·obtain ⟨x4,x5,d⟩:=aB d
         refine aS (vs:=[zS d9 z.trace.length e0]) call33 rfl (dH b2 (l7.mono (zL (zL u a2) Z)) x5) ?_
         rintro _ a33 ⟨x6,x7,rfl,m3⟩
         refine aX (aA ⟨fun _=>⟨_,m3⟩,?_⟩)
         refine cC (i:=12) (by kernel_rfl) rfl (bZ (Kt:=K) (xs:=([c1]:List bD)) (cs:=[str c1]) (vs:=[(0,str c1)]) cF fL rfl rfl m3 rfl (by kernel_rfl) rfl rfl rfl ⟨rfl,trivial⟩ (fun x8 x9 (m4:aH G c4 (aJ 9 K x8 1 ([c1]:List bD)::aJ 9 K x6 x7 x4::aJ 69 K m o k::aJ 65 q J V p::L) x9)=>(aX (aA ⟨fun _=>⟨_,m4⟩,?_⟩))))
         refine cC (i:=13) (by kernel_rfl) rfl ?_;obtain ⟨d4,y0,d⟩:=aB d
         refine dA (i:=0) cF underlying24 fL rfl rfl m4 rfl (zL (zL (zL (zL (zL (zL b3 b0) a3) a9) u) a2) Z) (zL (zL (zL (zL (zL (zL b3 b0) a3) a9) u) a2) Z) y0 rfl rfl rfl rfl (fun _ h=>h) (fun e2 e3 m5 (j4:aH G c4 (aJ 9 K e2 e3 d4::aJ 69 K m o k::aJ 65 q J V p::L) m5)=>(aX (aA ⟨fun _=>⟨_,j4⟩,?_⟩)))
         refine cY (i:=14) rfl (by kernel_rfl) ⟨_,j4⟩ (fun _ _=>dD (vs:=[(0,i64 l.To),(2,zS e2 d4.length e3)]) (cs:=[i64 l.To,i64 0,zS e2 d4.length e3]) aFe rfl (by kernel_rfl)) (cC (i:=15) (by kernel_rfl) rfl ?_);obtain ⟨c6,h1,y1,j5⟩:=aH.giveS (i:=0) j4 (zL (zL (zL (zL (zL (zL b3 b0) a3) a9) u) a2) Z) rfl
         replace j5:aH G c6 (aJ 69 K m o k::aJ 65 q J V p::L) m5:=j5
         refine bZ (Kt:=c6) (xs:=([⟨l.To,0,d4⟩]:List bT)) (cs:=[i64 l.To,i64 0,zS e2 d4.length e3]) (vs:=[(0,zA #[i64 l.To,i64 0,zS e2 d4.length e3])]) lG yT rfl rfl j5 rfl (by kernel_rfl) rfl rfl rfl ⟨⟨e2,e3,rfl,y1⟩,trivial⟩ (fun y2 y3 (m6:aH G c6 (aJ 65 c6 y2 1 ([⟨l.To,0,d4⟩]:List bT)::aJ 69 K m o k::aJ 65 q J V p::L) y3)=>(aX (aA ⟨fun _=>⟨_,(aH.weakK m6 h1)⟩,?_⟩)))
         refine cC (i:=16) (by kernel_rfl) rfl ?_;obtain ⟨m7,y4,d⟩:=aB d
         refine yR (i:=1) c6 lG underlying66 yT rfl rfl m6 rfl (zL Z h1) (zR _) y4 rfl rfl rfl rfl (fun _ _ _ h=>El.one h) (fun m8 m9 y5 (n0:aH G c6 (aJ 69 K m o k::aJ 65 c6 m8 m9 m7::L) y5)=>(aX (aA ⟨fun _=>⟨_,(aH.weakK n0 h1)⟩,?_⟩)))
         refine aHQ 17 ?_;refine dW (by kernel_rfl) (yW ?_)
         exact ⟨c6,m7,m8,m9,h1,d,i7,i8,rfl,i9,l9,j0,m0,j1,(aH.arr 2 [1,0] n0 rfl)⟩
        ·refine bZ (Kt:=K) (xs:=([c1]:List bD)) (cs:=[str c1]) (vs:=[(0,str c1)]) cF fL rfl rfl b2 rfl (by kernel_rfl) rfl rfl rfl ⟨rfl,trivial⟩ (fun n1 y6 (n2:aH G c4 (aJ 9 K n1 1 ([c1]:List bD)::aJ 69 K m o k::aJ 65 q J V p::L) y6)=>(aX (aA ⟨fun _=>⟨_,n2⟩,?_⟩)))
         refine cC (i:=5) (by kernel_rfl) rfl ?_;obtain ⟨y7,y8,d⟩:=aB d
         refine aS (vs:=[zS d9 z.trace.length e0]) call33 rfl (dH n2 (l7.mono (zL (zL u a2) Z)) y8) ?_
         rintro _ y9 ⟨z0,z1,rfl,n3⟩
         refine aX (aA ⟨fun _=>⟨_,n3⟩,?_⟩)
         refine cC (i:=13) (by kernel_rfl) rfl ?_;obtain ⟨d5,z2,d⟩:=aB d
         have z3:aH G c4 (aJ 9 K n1 1 ([c1]:List bD)::aJ 9 K z0 z1 y7::aJ 69 K m o k::aJ 65 q J V p::L) y9:=(aH.arr 2 [1,0] n3 rfl)
         refine dA (i:=0) cF underlying24 fL rfl rfl z3 rfl (zL (zL (zL (zL (zL (zL b3 b0) a3) a9) u) a2) Z) (zL (zL (zL (zL (zL (zL b3 b0) a3) a9) u) a2) Z) z2 rfl rfl rfl rfl (fun _ h=>h) (fun e4 e5 n4 (j6:aH G c4 (aJ 9 K e4 e5 d5::aJ 69 K m o k::aJ 65 q J V p::L) n4)=>(aX (aA ⟨fun _=>⟨_,j6⟩,?_⟩)))
         refine cY (i:=14) rfl (by kernel_rfl) ⟨_,j6⟩ (fun _ _=>dD (vs:=[(0,i64 l.To),(2,zS e4 d5.length e5)]) (cs:=[i64 l.To,i64 0,zS e4 d5.length e5]) aFe rfl (by kernel_rfl)) (cC (i:=15) (by kernel_rfl) rfl ?_);obtain ⟨c7,h2,z4,j7⟩:=aH.giveS (i:=0) j6 (zL (zL (zL (zL (zL (zL b3 b0) a3) a9) u) a2) Z) rfl
         replace j7:aH G c7 (aJ 69 K m o k::aJ 65 q J V p::L) n4:=j7
         refine bZ (Kt:=c7) (xs:=([⟨l.To,0,d5⟩]:List bT)) (cs:=[i64 l.To,i64 0,zS e4 d5.length e5]) (vs:=[(0,zA #[i64 l.To,i64 0,zS e4 d5.length e5])]) lG yT rfl rfl j7 rfl (by kernel_rfl) rfl rfl rfl ⟨⟨e4,e5,rfl,z4⟩,trivial⟩ (fun z5 z6 (n5:aH G c7 (aJ 65 c7 z5 1 ([⟨l.To,0,d5⟩]:List bT)::aJ 69 K m o k::aJ 65 q J V p::L) z6)=>(aX (aA ⟨fun _=>⟨_,(aH.weakK n5 h2)⟩,?_⟩)))
         refine cC (i:=16) (by kernel_rfl) rfl ?_;obtain ⟨n6,z7,d⟩:=aB d
         refine yR (i:=1) c7 lG underlying66 yT rfl rfl n5 rfl (zL Z h2) (zR _) z7 rfl rfl rfl rfl (fun _ _ _ h=>El.one h) (fun n7 n8 z8 (n9:aH G c7 (aJ 69 K m o k::aJ 65 c7 n7 n8 n6::L) z8)=>(aX (aA ⟨fun _=>⟨_,(aH.weakK n9 h2)⟩,?_⟩)))
         refine aHQ 17 ?_;refine dW (by kernel_rfl) (yW ?_)
         exact ⟨c7,n6,n7,n8,h2,d,i7,i8,rfl,i9,l9,j0,m0,j1,(aH.arr 2 [1,0] n9 rfl)⟩
       ·refine yW ?_
        have z9:=v3 _ (zI d).symm
        subst z9
        have c:(tO a0 p)=some e8:=c
        refine yW ?_;exact ⟨q,p,J,V,a2,c,i7,i8,v4,i9,(aH.arr 1 [] j2 rfl)⟩
    ·refine yW ?_
     have a00:=s7 _ (zI c).symm
     subst a00
     have e:(tM y)=some R:=e
     refine yW ?_;exact ⟨b1,y,a7,a8,a9,e,i3,g3⟩
   refine yW ?_
   rcases aG c with ⟨a01,c⟩|⟨a01,c⟩
   ·refine yW ?_;exact ⟨decide ((y.length:Int)<=200),c,k9,l0,l1,l2,rfl,l3⟩
   ·refine yW ?_;exact ⟨false,c,k9,l0,l1,l2,rfl,l3⟩
theorem aDt {j R:(List Int)} (hs:aH G K (L) w) (h3:cR K a1 c2 j) (c:aEq j=some R):
  Calls Tryz.prog 117 ([zS a1 j.length c2]:List Value).toArray w (eN fun v w'=>∃ V Z,v=zS V R.length Z/\aH G K (aJ 2 K V Z R::L) w'):=by
 refine zH func117 ?_;unfold aEq at c
 refine yW ?_;refine aEf Int Int hs ?_
 intro l w5 (b4:aH G K (fF l ([]:(List (Int × Int)))::L) w5)
 refine yW ?_;obtain ⟨b,q8,c⟩:=aB c
 refine wS (e:=(0:Int)) bY fC rfl rfl b4 rfl rfl rfl q8 rfl ?_
 intro d b6 (b7:aH G K (aJ 2 K d b.length b::fF l ([]:(List (Int × Int)))::L) b6)
 refine yW ?_;refine aZ (fun f w=>∃ u,zZ u=some R/\f 4=zS d u.length b.length/\aH G K (aJ 2 K d b.length u::L) w) ?_ ?_
 ·rintro f d8 ⟨u,c,d9,b8⟩
  unfold zZ at c
  refine yW ?_;obtain rfl:=zI c
  exact aIK results117 ⟨d,b.length,rfl,b8⟩
 obtain ⟨e0,c0,c⟩:=aB c
 refine cE c0 (fun s f w=>match s with|(m,g,o)=>f 3=zM (some l)/\f 4=zS d g.length b.length/\f 13=zS a1 j.length c2/\f 14=i64 (j.length:Int)/\f 15=i64 o/\aH G K (aJ 2 K d b.length g::fF l m::L) w) ?_ ?_
 ·exact ⟨rfl,rfl,rfl,rfl,rfl,b7⟩
 ·rintro ⟨m,g,o⟩ a0 f e1 a c1 ⟨a2,x,a3,a4,a5,p⟩
  replace a:aCE j m g o=some a0:=a
  unfold aCE at a
  refine yW ?_
  rcases aG a with ⟨c3,a⟩|⟨c3,a⟩
  ·refine yW ?_;refine cT (yW ?_)
   obtain ⟨y,c4,a⟩:=aB a
   refine yW ?_;obtain ⟨e2,e3,c5⟩:=cR.el (sz:=1) rfl h3 c4
   cases c5
   refine yW ?_;refine aC (R_look (kv:=m) (k:=y) (z:=(0:Int)) runUnderlying185 ko_2 zeroValue2 p (i:=1) rfl rfl rfl) ?_
   iterate 7 refine aIQ ?_
   refine jR (fun f w=>∃ q r,aAa g o q r=some a0/\f 3=zM (some l)/\f 4=zS d g.length b.length/\f 5=i64 o/\f 7=i64 r/\f 13=zS a1 j.length c2/\f 14=i64 (j.length:Int)/\f 15=i64 o/\aH G K (aJ 2 K d b.length g::fF l q::L) w) ?_ ?_
   ·rintro f e4 ⟨q,r,a,c6,c7,e5,e6,c8,c9,e7,a6⟩
    unfold aAa at a
    refine yW ?_;obtain ⟨e8,J,a⟩:=aB a
    have d0:=cU a6 (i:=0) rfl J
    refine aC (dB bY rfl d0 rfl rfl rfl J) ?_;obtain ⟨a7,a8,a⟩:=aB a
    refine iH (i:=0) (t:=0) (ns:=[i64 r]) (e':=(r:Int)) sizeOf2 a6 rfl (zR _) rfl rfl rfl J a8 rfl rfl (cS rfl) rfl (fun cs h=>by cases h;rfl) (fun d1 (d2:aH G K (aJ 2 K d b.length a7::fF l q::L) d1)=>(yW ?_));exact ⟨(q,a7,wr (o+1)),(zI a).symm,c6,(Eq.trans c7 (congrArg (fun n=>zS d n b.length) (gN a8))),c8,c9,rfl,d2⟩
   refine yW ?_
   rcases aG a with ⟨d3,a⟩|⟨d3,a⟩
   ·refine yW ?_;refine aC (R_lenM runUnderlying185 p (i:=1) rfl rfl) (yW ?_)
    obtain ⟨b0,d4,a⟩:=aB a
    refine aEh (i:=1) (k:=y) (v:=(m.length:Int)) runUnderlying185 ko_2 p rfl rfl rfl rfl d4 (fun d5 (d6:aH G K (aJ 2 K d b.length g::fF l b0::L) d5)=>(yW ?_));exact ⟨b0,(m.length:Int),a,a2,x,rfl,rfl,a3,a4,a5,d6⟩
   ·refine yW ?_;exact ⟨m,((iV m y).getD 0),a,a2,x,rfl,rfl,a3,a4,a5,p⟩
  ·refine yW ?_
   have d7:=c1 _ (zI a).symm
   subst d7
   have c:(zZ g)=some R:=c
   refine yW ?_;exact ⟨g,c,x,(aH.arr 2 [0] p rfl)⟩
theorem iR {c d:(List Int)} {R:Bool} (g:aH G K (L) w) (k:cR K a1 c2 c) (l:cR K a4 c5 d) (a:fR c d=some R):
  Calls Tryz.prog 119 ([zS a1 c.length c2,zS a4 d.length c5]:List Value).toArray w (eN fun v w'=>v=zB R/\aH G K (L) w'):=by
 refine zH func119 ?_;unfold fR at a
 refine yW ?_
 rcases aG a with ⟨m,a⟩|⟨m,a⟩
 ·refine yW ?_;obtain rfl:=zI a
  exact bK (aW (bM results119 rfl ⟨rfl,g⟩))
 ·refine yW ?_;refine aZ (fun f w=>eY=some R/\aH G K (L) w) ?_ ?_
  ·rintro f w9 ⟨a,o⟩
   unfold eY at a
   refine yW ?_;obtain rfl:=zI a
   exact aIK results119 ⟨rfl,o⟩
  obtain ⟨a7,q,a⟩:=aB a
  refine cE q (fun (e:Int) f w=>f 0=zS a1 c.length c2/\f 1=zS a4 d.length c5/\f 12=i64 (c.length:Int)/\f 13=i64 e/\aH G K (L) w) ?_ ?_
  ·exact ⟨rfl,rfl,rfl,rfl,g⟩
  ·rintro e r f a8 b h ⟨t,u,x,a9,i⟩
   replace b:gK c d e=some r:=b
   unfold gK at b
   refine yW ?_
   rcases aG b with ⟨y,b⟩|⟨y,b⟩
   ·refine yW ?_;refine cT (yW ?_)
    refine dF (C:=fun w'=>aH G K (L) w') bV (by kernel_rfl) (aH.mono i (dG.drew _)) (yW ?_);obtain ⟨b0,z,b⟩:=aB b
    refine yW ?_;obtain ⟨b1,b2,J⟩:=cR.el (sz:=1) rfl k z
    cases J
    refine yW ?_;obtain ⟨b3,V,b⟩:=aB b
    refine yW ?_;obtain ⟨b4,b5,Z⟩:=cR.el (sz:=1) rfl l V
    cases Z
    refine yW ?_;refine dI (fun b6 j=>(yW ?_))
    rcases aG b with ⟨a0,b⟩|⟨a0,b⟩
    ·refine yW ?_;refine bK (cA (aW (aW ?_)))
     have a2:=h _ (zI b).symm
     subst a2
     have a:(some false)=some R:=a
     obtain rfl:=zI a
     exact cA (aW (aW (bM results119 rfl ⟨rfl,j⟩)))
    ·refine yW ?_;exact ⟨wr (e+1),(zI b).symm,t,u,x,rfl,j⟩
   ·refine yW ?_
    have a5:=h _ (zI b).symm
    subst a5
    have a:(eY)=some R:=a
    refine yW ?_;exact ⟨a,i⟩
theorem aCQ {k p:(List Int)} {b:Nat} {R:Bool} (c:aH G K (L) w) (d:cR K a1 c2 k) (j:fJ K a4 b [zS a7 p.length c8]) (e:cR K a7 c8 p) (a:uO k p=some R):
  Calls Tryz.prog 149 ([zS a1 k.length c2,cL a4 b]:List Value).toArray w (eN fun v w'=>v=zB R/\aH G K (L) w'):=by
 refine zH func149 ?_;unfold uO at a
 refine yW ?_;obtain ⟨l,g,a⟩:=aB a
 refine zF call119 (iR c d e g) ?_
 rintro _ m ⟨rfl,h⟩
 refine yW ?_;obtain rfl:=zI a
 exact aIK results149 ⟨rfl,h⟩
theorem kL {c:(List (List Int))} {g:(List Int)} {d:Nat} {R:Int} (n:aH G K (L) w) (o:cR K a1 c2 c) (p:fJ K a4 d [zS a7 g.length c8]) (q:cR K a7 c8 g) (b:fI c g=some R):
  Calls Tryz.prog 148 ([zS a1 c.length c2,Value.func (.func 149) #[] #[cL a4 d]]:List Value).toArray w (eN fun v w'=>v=i64 R/\aH G K (L) w'):=by
 refine zH func148 ?_;unfold fI at b
 refine yW ?_;refine aZ (fun f w=>dS=some R/\aH G K (L) w) ?_ ?_
 ·rintro f b0 ⟨b,r⟩
  unfold dS at b
  refine yW ?_;obtain rfl:=zI b
  exact aIK results148 ⟨rfl,r⟩
 obtain ⟨b1,u,b⟩:=aB b
 refine cE u (fun (e:Int) f w=>f 0=zS a1 c.length c2/\f 1=Value.func (.func 149) #[] #[cL a4 d]/\f 7=i64 (c.length:Int)/\f 8=i64 e/\aH G K (L) w) ?_ ?_
 ·exact ⟨rfl,rfl,rfl,rfl,n⟩
 ·rintro e x f b2 a h ⟨y,z,J,b3,i⟩
  replace a:eV c g e=some x:=a
  unfold eV at a
  refine yW ?_
  rcases aG a with ⟨V,a⟩|⟨V,a⟩
  ·refine yW ?_;refine cT (yW ?_)
   obtain ⟨j,Z,a⟩:=aB a
   refine yW ?_;obtain ⟨b4,b5,a0⟩:=cR.el (sz:=1) rfl o Z
   obtain ⟨k,l,rfl,a2⟩:=a0
   refine yW ?_;obtain ⟨b6,a3,a⟩:=aB a
   refine oV (vs:=[zS k j.length l]) (caps:=[cL a4 d]) (us:=[zS k j.length l,cL a4 d]) rfl call149 rfl rfl (aCQ i a2 p q a3) ?_
   rintro _ b7 ⟨rfl,m⟩
   refine yW ?_
   rcases aG a with ⟨a5,a⟩|⟨a5,a⟩
   ·refine yW ?_;refine bK (cA (aW (aW ?_)))
    have a6:=h _ (zI a).symm
    subst a6
    have b:(some e)=some R:=b
    obtain rfl:=zI b
    exact cA (aW (aW (bM results148 rfl ⟨rfl,m⟩)))
   ·refine yW ?_;exact ⟨wr (e+1),(zI a).symm,y,z,J,rfl,m⟩
  ·refine yW ?_
   have a9:=h _ (zI a).symm
   subst a9
   have b:(dS)=some R:=b
   refine yW ?_;exact ⟨b,i⟩
theorem aEs {d:(List (List Int))} {R:(List Int)} (hs:aH G K (L) w) (m:cR K a1 c2 d) (b:aBS d=some R):
  Calls Tryz.prog 118 ([zS a1 d.length c2]:List Value).toArray w (eN fun v w'=>∃ u x,v=zS u R.length x/\aH G K (aJ 2 K u x R::L) w'):=by
 refine zH func118 ?_;unfold aBS at b
 refine yW ?_;refine aZ (fun f w=>∃ l n o,oD l=some R/\f 3=zS n l.length o/\aH G K (aJ 2 K n o l::L) w) ?_ ?_
 ·rintro f w8 ⟨l,n,o,b,e7,b2⟩
  unfold oD at b
  refine yW ?_;obtain ⟨f6,f7,b3,b4,b5⟩:=aH.lendS (i:=0) b2 (zR _) rfl
  obtain ⟨f8,b6,b⟩:=aB b
  refine zF call117 (aDt b4 b3 b6) ?_
  rintro _ f9 ⟨b7,b8,rfl,b9⟩
  have c0:=b5 _ _ b9
  refine yW ?_;obtain rfl:=zI b
  exact aIK results118 ⟨b7,b8,rfl,(aH.arr 1 [] c0 rfl)⟩
 have c3:=aH.nil (α:=Int) hs 2 K
 obtain ⟨g0,c4,b⟩:=aB b
 refine cE c4 (fun s f w=>match s with|(c,j)=>∃ e g,f 0=zS a1 d.length c2/\f 3=zS e c.length g/\f 7=zS a1 d.length c2/\f 8=i64 (d.length:Int)/\f 9=i64 j/\aH G K (aJ 2 K e g c::L) w) ?_ ?_
 ·exact ⟨none,0,rfl,rfl,rfl,rfl,rfl,c3⟩
 ·rintro ⟨c,j⟩ y f g1 a c5 ⟨e,g,z,p,J,V,Z,a0⟩
  replace a:uP d c j=some y:=a
  unfold uP at a
  refine yW ?_
  rcases aG a with ⟨c7,a⟩|⟨c7,a⟩
  ·refine yW ?_;refine cT (yW ?_)
   obtain ⟨q,c8,a⟩:=aB a
   refine yW ?_;obtain ⟨g2,g3,c9⟩:=cR.el (sz:=1) rfl m c8
   obtain ⟨r,t,rfl,d0⟩:=c9
   refine yW ?_;refine bR (vs:=[zS none 0 0]) zeroValue35 a0 rfl (fun a2 g4 d1=>(yW ?_))
   refine bS (i:=0) (ns:=[zS r q.length t]) (us:=[zS r q.length t]) sizeOf35 d1 rfl rfl rfl rfl rfl (cS rfl) rfl rfl (fun d2 (d3:aH G K (box a2 35 [zS r q.length t]::aJ 2 K e g c::L) d2)=>(yW ?_));obtain ⟨g5,a3,a⟩:=aB a
   obtain ⟨g6,g7,a4⟩:=Cut.ex 1 a1 c2 0
   have d4:=cR.cut' m a3 a4
   refine aC (aFO iA m.room a4 rfl rfl rfl a3) (aC (rC (vs:=[zP (some ⟨a2,0,none⟩)]) rfl) ?_);obtain ⟨g8,a6,d5,d6,d7⟩:=aH.lendB (i:=0) d3 rfl
   obtain ⟨d8,d9,a⟩:=aB a
   refine zF call148 (kL d6 (d4.mono a6) d5 (d0.mono a6) d9) ?_
   rintro _ g9 ⟨rfl,e0⟩
   have a7:=d7 _ _ e0
   iterate 3 refine aIQ ?_
   refine jR (fun f w=>∃ k,oE c j k=some y/\f 0=zS a1 d.length c2/\f 3=zS e c.length g/\f 6=i64 k/\f 7=zS a1 d.length c2/\f 8=i64 (d.length:Int)/\f 9=i64 j/\aH G K (aJ 2 K e g c::L) w) ?_ ?_
   ·rintro f h0 ⟨k,a,e1,h1,h2,e2,e3,h4,e4⟩
    unfold oE at a
    refine yW ?_;refine bZ (Kt:=K) (xs:=([k]:List Int)) (cs:=[i64 k]) (vs:=[(0,i64 k)]) bY fC rfl rfl e4 rfl (by kernel_rfl) rfl rfl rfl ⟨rfl,trivial⟩ (fun e5 e6 (e8:aH G K (aJ 2 K e5 1 ([k]:List Int)::aJ 2 K e g c::L) e6)=>?_)
    obtain ⟨a8,e9,a⟩:=aB a
    refine dA (i:=0) bY underlying35 fC rfl rfl e8 rfl (zR _) (zR _) e9 rfl rfl rfl rfl (fun _ h=>h) (fun a9 b0 f0 (f1:aH G K (aJ 2 K a9 b0 a8::L) f0)=>(yW ?_));exact ⟨(a8,wr (j+1)),(zI a).symm,a9,b0,e1,rfl,e2,e3,rfl,f1⟩
   refine yW ?_
   rcases aG a with ⟨f2,a⟩|⟨f2,a⟩
   ·refine yW ?_;exact ⟨j,a,z,p,rfl,J,V,Z,(aH.arr 1 [] a7 rfl)⟩
   ·refine yW ?_;exact ⟨d8,a,z,p,rfl,J,V,Z,(aH.arr 1 [] a7 rfl)⟩
  ·refine yW ?_
   have f3:=c5 _ (zI a).symm
   subst f3
   have b:(oD c)=some R:=b
   refine yW ?_;exact ⟨c,e,g,b,p,a0⟩
theorem yK {k:Int} {p:(List Int)} {b:Nat} {R:bD} (c:aH G K (L) w) (l:fJ K a1 b [zS a4 p.length c5]) (d:cR K a4 c5 p) (a:lO k p=some R):
  Calls Tryz.prog 120 ([i64 k,cL a1 b]:List Value).toArray w (eN fun v w'=>v=str R/\aH G K (L) w'):=by
 refine zH func120 ?_;unfold lO at a
 refine yW ?_;obtain ⟨m,e,a⟩:=aB a
 refine yW ?_;obtain ⟨n,o,g⟩:=cR.el (sz:=1) rfl d e
 cases g
 refine yW ?_;obtain ⟨q,h,a⟩:=aB a
 refine zF call110 (aFh c h) ?_
 rintro _ r ⟨rfl,i⟩
 refine yW ?_;obtain rfl:=zI a
 exact aIK results120 ⟨rfl,i⟩
theorem gU {d:(List Int)} {n:(List (bD × Int))} {b:Nat} {c:(List gV)} {u:(List Int)} {e:Nat} {g:Int} {R:(Int × (List Int) × (List (bD × Int)))} (hs:aH G K (aJ 2 K a2 c3 d::fF b n::aJ 141 K a5 c6 c::box b1 190 [zS a2 d.length c3,zM (some b),zS a5 c.length c6,Value.func (.func 120) #[] #[cL a7 e]]::L) w) (h9:fJ K a7 e [zS a10 u.length c11]) (a6:cR K a10 c11 u) (a:gQ d n c u g=some R):
  Calls Tryz.prog 150 ([zP (some ⟨b1,0,none⟩),i64 g]:List Value).toArray w (eN fun v w'=>∃ a0 a1,v=i64 R.1/\aH G K (aJ 2 K a0 a1 R.2.1::fF b R.2.2::aJ 141 K a5 c6 c::box b1 190 [zS a0 R.2.1.length a1,zM (some b),zS a5 c.length c6,Value.func (.func 120) #[] #[cL a7 e]]::L) w'):=by
 let x:=[zS a2 d.length c3,zM (some b),zS a5 c.length c6,Value.func (.func 120) #[] #[cL a7 e]]
 let o:=aJ 141 K a5 c6 c
 refine zH func150 ?_;unfold gQ at a
 refine yW ?_;obtain ⟨y,a8,a⟩:=aB a
 refine oV (vs:=[i64 g]) (caps:=[cL a7 e]) (us:=[i64 g,cL a7 e]) rfl call120 rfl rfl (yK hs h9 a6 a8) ?_
 rintro _ c5 ⟨rfl,J⟩
 refine yW ?_;refine aC (R_look (kv:=n) (k:=y) (z:=(0:Int)) runUnderlying137 ko_9 zeroValue2 J (i:=1) rfl rfl rfl) ?_
 iterate 7 refine aIQ ?_
 refine jR (fun f w=>∃ V q Z r t,fW V q Z=some R/\f 6=i64 V/\aH G K (aJ 2 K r t q::fF b Z::o::box b1 190 [zS r q.length t,zM (some b),zS a5 c.length c6,Value.func (.func 120) #[] #[cL a7 e]]::L) w) ?_ ?_
 ·rintro f c7 ⟨V,q,Z,r,t,a,c8,a9⟩
  unfold fW at a
  refine yW ?_;obtain rfl:=zI a
  exact aIK results150 ⟨r,t,rfl,a9⟩
 refine yW ?_
 rcases aG a with ⟨b2,a⟩|⟨b2,a⟩
 ·refine yW ?_;obtain ⟨p,b3,a⟩:=aB a
  refine aEh (i:=1) (k:=y) (v:=(d.length:Int)) runUnderlying137 ko_9 J rfl rfl rfl rfl b3 (fun b4 (b5:aH G K (aJ 2 K a2 c3 d::fF b p::o::box b1 190 x::L) b4)=>(yW ?_));refine bZ (Kt:=K) (xs:=([g]:List Int)) (cs:=[i64 g]) (vs:=[(0,i64 g)]) bY fC rfl rfl b5 rfl (by kernel_rfl) rfl rfl rfl ⟨rfl,trivial⟩ (fun b6 b7 (b8:aH G K (aJ 2 K b6 1 ([g]:List Int)::aJ 2 K a2 c3 d::fF b p::o::box b1 190 x::L) b7)=>?_)
  obtain ⟨j,b9,a⟩:=aB a
  refine dA (i:=0) bY underlying35 fC rfl rfl b8 rfl (zR _) (zR _) b9 rfl rfl rfl rfl (fun _ h=>h) (fun l m c0 (c1:aH G K (aJ 2 K l m j::fF b p::o::box b1 190 x::L) c0)=>(yW ?_));refine bS (i:=3) (ns:=[zS l j.length m]) (us:=[zS l j.length m,zM (some b),zS a5 c.length c6,Value.func (.func 120) #[] #[cL a7 e]]) sizeOf35 c1 rfl rfl rfl rfl rfl (cS rfl) rfl rfl (fun c2 (c4:aH G K (aJ 2 K l m j::fF b p::o::box b1 190 [zS l j.length m,zM (some b),zS a5 c.length c6,Value.func (.func 120) #[] #[cL a7 e]]::L) c2)=>(yW ?_))
  exact ⟨(d.length:Int),j,p,l,m,a,rfl,c4⟩
 ·refine yW ?_;exact ⟨((iV n y).getD 0),d,n,a2,c3,a,rfl,J⟩
theorem yL {c:bD} {b9:Int} {b3:(List Int)} {c0:(List (bD × Int))} {b:Nat} {m:(List gV)} {b4:(List Int)} {g:Nat} {p:Int} {c1:Nat} {R:((List Int) × (List (bD × Int)) × (List gV))} (hs:aH G K (aJ 2 K a3 c4 b3::fF b c0::aJ 141 K a6 c7 m::box b2 190 [zS a3 b3.length c4,zM (some b),zS a6 m.length c7,Value.func (.func 120) #[] #[cL a8 g]]::box b1 188 [zP (some ⟨b2,0,none⟩)]::L) w) (c2:fJ K a8 g [zS a11 b4.length c12]) (c3:cR K a11 c12 b4) (g3:fJ K a14 c1 [i64 p]) (e:lP c b9 b3 c0 m b4 p=some R):
  Calls Tryz.prog 151 ([str c,i64 b9,zP (some ⟨b1,0,none⟩),cL a14 c1]:List Value).toArray w (eN fun v w'=>∃ c5 c6 c8 c9,v=Value.tuple #[]/\aH G K (aJ 2 K c5 c6 R.1::fF b R.2.1::aJ 141 K c8 c9 R.2.2::box b2 190 [zS c5 R.1.length c6,zM (some b),zS c8 R.2.2.length c9,Value.func (.func 120) #[] #[cL a8 g]]::box b1 188 [zP (some ⟨b2,0,none⟩)]::L) w'):=by
 refine zH func151 ?_;unfold lP at e
 refine cQ (fun f w=>∃ a1 b5 a2 a4 a5 a7 a9,jX a1 b5 a2=some R/\aH G K (aJ 141 K a7 a9 a2::aJ 2 K a4 a5 a1::fF b b5::box b2 190 [zS a4 a1.length a5,zM (some b),zS a7 a2.length a9,Value.func (.func 120) #[] #[cL a8 g]]::box b1 188 [zP (some ⟨b2,0,none⟩)]::L) w) ?_ ?_
 ·rintro f g4 ⟨a1,b5,a2,a4,a5,a7,a9,e,d9⟩
  unfold jX at e
  obtain rfl:=zI e
  exact aFB results151 ⟨a4,a5,a7,a9,rfl,(aH.arr 3 [1,2,0] d9 rfl)⟩
 obtain ⟨n,o,g5,e1,b6⟩:=aH.lendB (i:=4) hs rfl
 refine kP (C:=fun w'=>∃ L',aH G n L' w') [] bV (by kernel_rfl) (fun g6 e2=>?_)
 have b0:=aH.mono e1 e2
 refine aHQ 0 ?_;refine aHQ 1 ?_
 refine aHQ 2 ?_;refine aHQ 3 ?_
 refine aHQ 5 ?_;refine aHQ 6 ?_
 refine aHQ 7 ?_;refine aHQ 8 ?_
 refine gY (i:=4) (j:=9) (by kernel_rfl) rfl rfl ?_ ?_
 ·refine aC (cV aAh b0 (i:=3) rfl rfl rfl) (aX (aA ⟨fun _=>⟨_,b0⟩,?_⟩))
  refine cC (i:=9) (by kernel_rfl) rfl ?_;obtain ⟨d,e3,e⟩:=aB e
  refine zF call150 (gU b0 (c2.mono o) (c3.mono o) e3) ?_
  rintro _ g7 ⟨q,r,rfl,b7⟩
  refine aX (aA ⟨fun _=>⟨_,b7⟩,?_⟩)
  refine cY (i:=10) rfl (by kernel_rfl) ⟨_,b7⟩ (fun _ _=>dD (vs:=[(0,i64 p),(1,str c),(2,i64 d.1)]) (cs:=[i64 p,str c,i64 d.1]) aFR rfl (by kernel_rfl)) (cC (i:=11) (by kernel_rfl) rfl (bZ (Kt:=K) (xs:=([⟨p,c,d.1⟩]:List gV)) (cs:=[i64 p,str c,i64 d.1]) (vs:=[(0,zA #[i64 p,str c,i64 d.1])]) kU oW rfl rfl b7 rfl (by kernel_rfl) rfl rfl rfl ⟨rfl,trivial⟩ (fun e4 e5 (d0:aH G n (aJ 141 K e4 1 ([⟨p,c,d.1⟩]:List gV)::aJ 2 K q r d.2.1::fF b d.2.2::aJ 141 K a6 c7 m::box b2 190 [zS q d.2.1.length r,zM (some b),zS a6 m.length c7,Value.func (.func 120) #[] #[cL a8 g]]::L) e5)=>(aX (aA ⟨fun _=>⟨_,d0⟩,?_⟩)))))
  refine cC (i:=12) (by kernel_rfl) rfl ?_;obtain ⟨t,e6,e⟩:=aB e
  refine dA (i:=2) kU underlying106 oW rfl rfl d0 rfl o o e6 rfl rfl rfl rfl (fun _ h=>h) (fun u c48 e7 (d1:aH G n (aJ 2 K q r d.2.1::fF b d.2.2::aJ 141 K u c48 t::box b2 190 [zS q d.2.1.length r,zM (some b),zS a6 m.length c7,Value.func (.func 120) #[] #[cL a8 g]]::L) e7)=>(aX (aA ⟨fun _=>⟨_,d1⟩,?_⟩)))
  refine aHQ 13 ?_;refine aHQ 14 ?_
  refine cC (i:=15) (by kernel_rfl) rfl (bS (i:=3) (ns:=[zS u t.length c48]) (us:=[zS q d.2.1.length r,zM (some b),zS u t.length c48,Value.func (.func 120) #[] #[cL a8 g]]) sizeOf106 d1 rfl rfl rfl rfl rfl (cS rfl) rfl rfl (fun e8 (d2:aH G n (aJ 2 K q r d.2.1::fF b d.2.2::aJ 141 K u c48 t::box b2 190 [zS q d.2.1.length r,zM (some b),zS u t.length c48,Value.func (.func 120) #[] #[cL a8 g]]::L) e8)=>(aX (aA ⟨fun _=>⟨_,d2⟩,?_⟩))))
  refine dW (by kernel_rfl) ?_
  have e9:=b6 _ _ d2
  refine yW ?_;exact ⟨d.2.1,d.2.2,t,q,r,u,c48,e,(aH.arr 5 [3,1,2,4,0] e9 rfl)⟩
 ·obtain ⟨a,f0,e⟩:=aB e
  refine zF call150 (gU b0 (c2.mono o) (c3.mono o) f0) ?_
  rintro _ g8 ⟨k,l,rfl,a0⟩
  refine aX (aA ⟨fun _=>⟨_,a0⟩,?_⟩)
  refine cY (i:=10) rfl (by kernel_rfl) ⟨_,a0⟩ (fun _ _=>dD (vs:=[(0,i64 p),(1,str c),(2,i64 a.1)]) (cs:=[i64 p,str c,i64 a.1]) aFR rfl (by kernel_rfl)) (gY (i:=4) (j:=11) (by kernel_rfl) rfl rfl ?_ ?_)
  ·iterate 1 refine aIQ ?_
   refine aX (aA ⟨fun _=>⟨_,a0⟩,?_⟩)
   refine cC (i:=11) (by kernel_rfl) rfl (bZ (Kt:=K) (xs:=([⟨p,c,a.1⟩]:List gV)) (cs:=[i64 p,str c,i64 a.1]) (vs:=[(0,zA #[i64 p,str c,i64 a.1])]) kU oW rfl rfl a0 rfl (by kernel_rfl) rfl rfl rfl ⟨rfl,trivial⟩ (fun f1 f2 (d3:aH G n (aJ 141 K f1 1 ([⟨p,c,a.1⟩]:List gV)::aJ 2 K k l a.2.1::fF b a.2.2::aJ 141 K a6 c7 m::box b2 190 [zS k a.2.1.length l,zM (some b),zS a6 m.length c7,Value.func (.func 120) #[] #[cL a8 g]]::L) f2)=>(aX (aA ⟨fun _=>⟨_,d3⟩,?_⟩))))
   refine cC (i:=12) (by kernel_rfl) rfl ?_;obtain ⟨x,f3,e⟩:=aB e
   refine dA (i:=2) kU underlying106 oW rfl rfl d3 rfl o o f3 rfl rfl rfl rfl (fun _ h=>h) (fun y z f4 (d4:aH G n (aJ 2 K k l a.2.1::fF b a.2.2::aJ 141 K y z x::box b2 190 [zS k a.2.1.length l,zM (some b),zS a6 m.length c7,Value.func (.func 120) #[] #[cL a8 g]]::L) f4)=>(aX (aA ⟨fun _=>⟨_,d4⟩,?_⟩)))
   refine aHQ 13 ?_;refine aHQ 14 ?_
   refine cC (i:=15) (by kernel_rfl) rfl (bS (i:=3) (ns:=[zS y x.length z]) (us:=[zS k a.2.1.length l,zM (some b),zS y x.length z,Value.func (.func 120) #[] #[cL a8 g]]) sizeOf106 d4 rfl rfl rfl rfl rfl (cS rfl) rfl rfl (fun f5 (d5:aH G n (aJ 2 K k l a.2.1::fF b a.2.2::aJ 141 K y z x::box b2 190 [zS k a.2.1.length l,zM (some b),zS y x.length z,Value.func (.func 120) #[] #[cL a8 g]]::L) f5)=>(aX (aA ⟨fun _=>⟨_,d5⟩,?_⟩))))
   refine dW (by kernel_rfl) ?_
   have f6:=b6 _ _ d5
   refine yW ?_;exact ⟨a.2.1,a.2.2,x,k,l,y,z,e,(aH.arr 5 [3,1,2,4,0] f6 rfl)⟩
  ·refine bZ (Kt:=K) (xs:=([⟨p,c,a.1⟩]:List gV)) (cs:=[i64 p,str c,i64 a.1]) (vs:=[(0,zA #[i64 p,str c,i64 a.1])]) kU oW rfl rfl a0 rfl (by kernel_rfl) rfl rfl rfl ⟨rfl,trivial⟩ (fun f7 f8 (b8:aH G n (aJ 141 K f7 1 ([⟨p,c,a.1⟩]:List gV)::aJ 2 K k l a.2.1::fF b a.2.2::aJ 141 K a6 c7 m::box b2 190 [zS k a.2.1.length l,zM (some b),zS a6 m.length c7,Value.func (.func 120) #[] #[cL a8 g]]::L) f8)=>(aX (aA ⟨fun _=>⟨_,b8⟩,?_⟩)))
   refine cC (i:=4) (by kernel_rfl) rfl ?_
   iterate 1 refine aIQ ?_
   refine aX (aA ⟨fun _=>⟨_,b8⟩,?_⟩)
   refine cC (i:=12) (by kernel_rfl) rfl ?_;obtain ⟨J,f9,e⟩:=aB e
   refine dA (i:=2) kU underlying106 oW rfl rfl b8 rfl o o f9 rfl rfl rfl rfl (fun _ h=>h) (fun V Z g0 (d6:aH G n (aJ 2 K k l a.2.1::fF b a.2.2::aJ 141 K V Z J::box b2 190 [zS k a.2.1.length l,zM (some b),zS a6 m.length c7,Value.func (.func 120) #[] #[cL a8 g]]::L) g0)=>(aX (aA ⟨fun _=>⟨_,d6⟩,?_⟩)))
   refine aHQ 13 ?_;refine aHQ 14 ?_
   refine cC (i:=15) (by kernel_rfl) rfl (bS (i:=3) (ns:=[zS V J.length Z]) (us:=[zS k a.2.1.length l,zM (some b),zS V J.length Z,Value.func (.func 120) #[] #[cL a8 g]]) sizeOf106 d6 rfl rfl rfl rfl rfl (cS rfl) rfl rfl (fun g1 (d7:aH G n (aJ 2 K k l a.2.1::fF b a.2.2::aJ 141 K V Z J::box b2 190 [zS k a.2.1.length l,zM (some b),zS V J.length Z,Value.func (.func 120) #[] #[cL a8 g]]::L) g1)=>(aX (aA ⟨fun _=>⟨_,d7⟩,?_⟩))))
   refine dW (by kernel_rfl) ?_
   have g2:=b6 _ _ d7
   refine yW ?_;exact ⟨a.2.1,a.2.2,J,k,l,V,Z,e,(aH.arr 5 [3,1,2,4,0] g2 rfl)⟩
theorem yM {k:Int} {a4:(List Int)} {b6:(List (bD × Int))} {b:Nat} {a5:(List gV)} {t:(List Int)} {n:Nat} {a7:Int} {r:Nat} {p:cO} {a9:Nat} {R:(Bool × (List Int) × (List (bD × Int)) × (List gV))} (hs:aH G K (aJ 2 K a3 c4 a4::fF b b6::aJ 141 K a6 c7 a5::box b2 190 [zS a3 a4.length c4,zM (some b),zS a6 a5.length c7,Value.func (.func 120) #[] #[cL a8 n]]::box b1 188 [zP (some ⟨b2,0,none⟩)]::L) w) (d1:fJ K a8 n [zS a11 t.length c12]) (d2:cR K a11 c12 t) (d3:fJ K a14 r [i64 a7]) (g6:fJ K a17 a9 (zC p a20 c21 a23 c24)) (b7:cR K a20 c21 p.L) (d4:cR K a23 c24 p.E) (c:lQ k a4 b6 a5 t a7 p=some R):
  Calls Tryz.prog 122 ([i64 k,Value.func (.func 151) #[] #[zP (some ⟨b1,0,none⟩),cL a14 r],cL a17 a9]:List Value).toArray w (eN fun v w'=>∃ b8 b9 c0 c1,v=zB R.1/\aH G K (aJ 2 K b8 b9 R.2.1::fF b R.2.2.1::aJ 141 K c0 c1 R.2.2.2::box b2 190 [zS b8 R.2.1.length b9,zM (some b),zS c0 R.2.2.2.length c1,Value.func (.func 120) #[] #[cL a8 n]]::box b1 188 [zP (some ⟨b2,0,none⟩)]::L) w'):=by
 let u:=[zP (some ⟨b2,0,none⟩)]
 refine zH func122 ?_;unfold lQ at c
 refine yW ?_;obtain ⟨q,d5,c⟩:=aB c
 refine zF call32 (aCP hs b7 d4 d5) ?_
 rintro _ g7 ⟨x,y,rfl,d6⟩
 refine yW ?_;refine aZ (fun f w=>∃ z b0 J V Z a0 a1,iE z b0 J=some R/\aH G K (aJ 141 K a0 a1 J::aJ 2 K V Z z::fF b b0::box b2 190 [zS V z.length Z,zM (some b),zS a0 J.length a1,Value.func (.func 120) #[] #[cL a8 n]]::box b1 188 u::L) w) ?_ ?_
 ·rintro f g8 ⟨z,b0,J,V,Z,a0,a1,c,d7⟩
  unfold iE at c
  refine yW ?_;obtain rfl:=zI c
  exact aIK results122 ⟨V,Z,a0,a1,rfl,(aH.arr 3 [1,2,0] d7 rfl)⟩
 obtain ⟨g9,d9,c⟩:=aB c
 refine cE d9 (fun s f w=>match s with|(e,o,g,a2)=>∃ h j l m,f 1=Value.func (.func 151) #[] #[zP (some ⟨b1,0,none⟩),cL a14 r]/\f 2=cL a17 a9/\f 10=zS x q.length y/\f 11=i64 (q.length:Int)/\f 12=i64 a2/\aH G K (aJ 69 K x y q::aJ 2 K h j e::fF b o::aJ 141 K l m g::box b2 190 [zS h e.length j,zM (some b),zS l g.length m,Value.func (.func 120) #[] #[cL a8 n]]::box b1 188 u::L) w) ?_ ?_
 ·exact ⟨a3,c4,a6,c7,rfl,rfl,rfl,rfl,rfl,d6⟩
 ·rintro ⟨e,o,g,a2⟩ e0 f h0 a e1 ⟨h,j,l,m,e2,e3,c2,e4,e5,b3⟩
  replace a:jY t a7 p q e o g a2=some e0:=a
  unfold jY at a
  refine yW ?_
  rcases aG a with ⟨e6,a⟩|⟨e6,a⟩
  ·refine yW ?_;refine cT (yW ?_)
   obtain ⟨d,c3,a⟩:=aB a
   have e7:=cU b3 (i:=0) rfl c3
   refine aC (dB cI rfl e7 c2 rfl e5 c3) (yW ?_);refine bR (vs:=[i64 0,i64 0,i64 0]) zeroValue69 b3 rfl (fun e8 h1 e9=>(bS (i:=0) (ns:=[i64 d.F,i64 d.B,i64 d.To]) (us:=[i64 d.F,i64 d.B,i64 d.To]) sizeOf69 e9 rfl rfl rfl rfl rfl (cS rfl) rfl rfl (fun f0 (f1:aH G K (box e8 69 [i64 d.F,i64 d.B,i64 d.To]::aJ 69 K x y q::aJ 2 K h j e::fF b o::aJ 141 K l m g::box b2 190 [zS h e.length j,zM (some b),zS l g.length m,Value.func (.func 120) #[] #[cL a8 n]]::box b1 188 u::L) f0)=>(yW ?_))))
   obtain ⟨c5,b4,h2,c6,f2⟩:=aH.lendB (i:=0) f1 rfl
   refine dV (C:=fun w'=>∃ L',aH G c5 L' w') [(0,0),(1,0),(2,0),(3,0),(4,0),(5,0),(6,0),(7,0),(8,0),(9,1)] bV (by kernel_rfl) (fun _ hg=>⟨_,aH.mono c6 hg⟩) (fun f3 f4=>?_)
   have f5:=aH.mono c6 f4
   refine yW ?_;obtain ⟨c8,f6,a⟩:=aB a
   refine yW ?_;obtain ⟨h3,h4,f7⟩:=cR.el (sz:=1) rfl b7 f6
   cases f7
   refine yW ?_;refine gX rfl ?_
   have f8:aH G c5 (aJ 2 K h j e::fF b o::aJ 141 K l m g::box b2 190 [zS h e.length j,zM (some b),zS l g.length m,Value.func (.func 120) #[] #[cL a8 n]]::box b1 188 u::aJ 69 K x y q::L) f3:=(aH.arr 6 [1,2,3,4,5,0] f5 rfl)
   obtain ⟨b5,f9,a⟩:=aB a
   refine oV (vs:=[str c8,i64 d.To]) (caps:=[zP (some ⟨b1,0,none⟩),cL a14 r]) (us:=[str c8,i64 d.To,zP (some ⟨b1,0,none⟩),cL a14 r]) rfl call151 rfl rfl (yL f8 (d1.mono b4) (d2.mono b4) (d3.mono b4) f9) ?_
   rintro _ h5 ⟨g0,g1,g2,g3,rfl,c9⟩
   refine aX (aA ⟨⟨_,c9⟩,?_⟩)
   refine gZ ?_
   have g4:=f2 _ _ c9
   refine yW ?_;exact ⟨(b5.1,b5.2.1,b5.2.2,wr (a2+1)),(zI a).symm,g0,g1,g2,g3,e2,e3,c2,e4,rfl,(aH.arr 7 [6,1,2,3,4,5] g4 rfl)⟩
  ·refine yW ?_
   have g5:=e1 _ (zI a).symm
   subst g5
   have c:(iE e o g)=some R:=c
   refine yW ?_;exact ⟨e,o,g,h,j,l,m,c,(aH.arr 4 [3,1,2] b3 rfl)⟩
theorem aBV {g2:Int} {e4:(List Int)} {k:Nat} {b9:cO} {k8:Nat} {R:(cO × (List Int) × Bool)} (hs:aH G K (L) w) (hG:G.lo=0) (h3:fJ K a1 k [zS a4 e4.length c5]) (h6:cR K a4 c5 e4) (h9:fJ K a7 k8 (zC b9 a10 c11 a13 c14)) (l3:cR K a10 c11 b9.L) (l4:cR K a13 c14 b9.E) (c:qV g2 e4 b9=some R):
  Calls Tryz.prog 121 ([i64 g2,Value.func (.func 120) #[] #[cL a1 k],Value.func (.func 122) #[] #[cL a7 k8]]:List Value).toArray w (eN fun v w'=>∃ g5 g6 g7 g8 g9 h0,v=Value.tuple #[zA (zCa R.1 g5 g6 g7 g8),zS g9 R.2.1.length h0,zB R.2.2]/\aH G K (aJ 9 K g5 g6 R.1.L::aJ 69 K g7 g8 R.1.E::aJ 2 K g9 h0 R.2.1::L) w'):=by
 let e:=zG
 refine zH func121 ?_;unfold qV at c
 refine yW ?_;refine bR (vs:=e) zeroValue27 hs rfl (fun l y5 l5=>(yW ?_))
 refine aEf bD Int l5 ?_
 intro a l6 (l7:aH G K (fF a ([]:(List (bD × Int)))::box l 27 e::L) l6)
 refine yW ?_;refine aC (dD (vs:=[(1,zM (some a)),(3,Value.func (.func 120) #[] #[cL a1 k])]) (cs:=[zS none 0 0,zM (some a),zS none 0 0,Value.func (.func 120) #[] #[cL a1 k]]) bs_190 rfl (by kernel_rfl)) (fS (v:=zA #[zS none 0 0,zM (some a),zS none 0 0,Value.func (.func 120) #[] #[cL a1 k]]) (vs:=[zS none 0 0,zM (some a),zS none 0 0,Value.func (.func 120) #[] #[cL a1 k]]) l7 rfl rfl (fun b y6 l8=>(bR (vs:=[zP none]) zeroValue188 l8 rfl (fun h y7 l9=>(bS (i:=0) (ns:=[zP (some ⟨b,0,none⟩)]) (us:=[zP (some ⟨b,0,none⟩)]) sizeOf188 l9 rfl rfl rfl rfl rfl (cS rfl) rfl rfl ?_)))))
 intro h1 (m0:aH G K (box h 188 [zP (some ⟨b,0,none⟩)]::box b 190 [zS none 0 0,zM (some a),zS none 0 0,Value.func (.func 120) #[] #[cL a1 k]]::fF a ([]:(List (bD × Int)))::box l 27 e::L) h1)
 refine yW ?_
 have m1:=aH.nil (α:=Int) m0 2 K
 have m2:=aH.nil (α:=gV) m1 141 K
 have m3:aH G K (aJ 2 K none 0 ([]:List Int)::fF a ([]:(List (bD × Int)))::aJ 141 K none 0 ([]:List gV)::box b 190 [zS none 0 0,zM (some a),zS none 0 0,Value.func (.func 120) #[] #[cL a1 k]]::box h 188 [zP (some ⟨b,0,none⟩)]::box l 27 e::L) h1:=(aH.arr 5 [1,4,0,3,2] m2 rfl)
 obtain ⟨e6,m4,c⟩:=aB c
 refine zF call150 (gU m3 h3 h6 m4) ?_
 rintro _ y8 ⟨e7,e8,rfl,m5⟩
 refine yW ?_;refine bR (vs:=[i64 0]) zeroValue3 m5 rfl (fun h2 y9 m6=>(bS (i:=0) (ns:=[i64 0]) (us:=[i64 0]) sizeOf3 m6 rfl rfl rfl rfl rfl (cS rfl) rfl rfl (fun m7 (m8:aH G K (box h2 3 [i64 0]::aJ 2 K e7 e8 e6.2.1::fF a e6.2.2::aJ 141 K none 0 ([]:List gV)::box b 190 [zS e7 e6.2.1.length e8,zM (some a),zS none 0 0,Value.func (.func 120) #[] #[cL a1 k]]::box h 188 [zP (some ⟨b,0,none⟩)]::box l 27 e::L) m7)=>(yW ?_))))
 refine aZ (fun f w=>∃ q c0 r u x y z,jC q c0 r=some R/\f 6=zP (some ⟨l,0,none⟩)/\f 9=zP (some ⟨h,0,none⟩)/\aH G K (aJ 141 K y z r::aJ 2 K u x q::fF a c0::box b 190 [zS u q.length x,zM (some a),zS y r.length z,Value.func (.func 120) #[] #[cL a1 k]]::box h 188 [zP (some ⟨b,0,none⟩)]::box l 27 e::L) w) ?_ ?_
 ·rintro f z0 ⟨q,c0,r,u,x,y,z,c,e9,f0,m9⟩
  unfold jC at c
  refine yW ?_;refine cQ (fun f w=>∃ a9 b0 J V f1 a0 a2 a3 a5,lR q a9 b0 J V=some R/\f 6=zP (some ⟨l,0,none⟩)/\f 9=zP (some ⟨h,0,none⟩)/\f 12=zP (some ⟨f1,0,none⟩)/\aH G K (aJ 69 K a3 a5 V::aJ 9 K a0 a2 J::box f1 27 [i64 a9,i64 b0,zS a0 J.length a2,zS a3 V.length a5]::aJ 141 K y z r::aJ 2 K u x q::fF a c0::box b 190 [zS u q.length x,zM (some a),zS y r.length z,Value.func (.func 120) #[] #[cL a1 k]]::box h 188 [zP (some ⟨b,0,none⟩)]::box l 27 e::L) w) ?_ ?_
  ·rintro f z1 ⟨a9,b0,J,V,f1,a0,a2,a3,a5,c,h4,n0,h5,n1⟩
   unfold lR at c
   refine yW ?_;obtain ⟨z2,h7,h8,n2,n3⟩:=aH.lendB (i:=2) n1 rfl
   obtain ⟨z3,e5,n4,n5,n6⟩:=aH.lendB (i:=5) n2 rfl
   obtain ⟨i0,c9,n7,i1,n8⟩:=aH.lendB (i:=5) n5 rfl
   refine dV (C:=fun w'=>∃ L',aH G i0 L' w') [(0,0),(1,0),(2,0),(3,0),(4,0),(5,1),(6,1),(7,1),(8,2),(9,2)] bV (by kernel_rfl) (fun _ hg=>⟨_,aH.mono i1 hg⟩) (fun z4 n9=>?_)
   have b4:=aH.mono i1 n9
   refine bX rfl (fun _ ⟨_,b4⟩=>eU (t:=0) (vs:=[i64 a9,i64 b0,zS a0 J.length a2,zS a3 V.length a5]) cZ b4 (h8.mono (zL e5 c9)) h5 rfl rfl) (bX rfl (fun _ ⟨_,b4⟩=>bE (t:=0) wW b4 n7 n0 rfl) (bX rfl (fun _ _=>dU rfl) (bX rfl (fun _ _=>bQ (t':=0) tV rfl rfl) (bX rfl (fun _ ⟨_,b4⟩=>bE (t:=0) nI b4 (n4.mono c9) rfl rfl) (gX rfl (aC (eU (t:=0) (vs:=[i64 a9,i64 b0,zS a0 J.length a2,zS a3 V.length a5]) cZ b4 (h8.mono (zL e5 c9)) h5 rfl rfl) (aX (aA ⟨⟨_,b4⟩,?_⟩))))))))
   refine gX rfl ?_;obtain ⟨z5,o0,o1,o2,o3⟩:=aH.lendS (i:=1) b4 (zL (zL h7 e5) c9) rfl
   obtain ⟨z6,o4,o5,o6,o7⟩:=aH.lendS (i:=0) o2 (zL (zL (zL h7 e5) c9) o0) rfl
   obtain ⟨z7,o8,c⟩:=aB c
   refine zF call34 (jA (t:=⟨a9,b0,J,V⟩) o6 hG (o1.mono o4) o5 o8) ?_
   rintro _ z8 ⟨rfl,o9⟩
   have p0:=o7 _ _ o9
   have i2:=o3 _ _ p0
   refine aX (aA ⟨⟨_,i2⟩,?_⟩)
   refine gX rfl (bS (i:=5) (ns:=[i64 a9,i64 b0,zS a0 J.length a2,zS a3 V.length a5]) (us:=[i64 a9,i64 b0,zS a0 J.length a2,zS a3 V.length a5]) sizeOf27 i2 rfl h4 rfl rfl rfl (cS rfl) rfl rfl (fun p1 (i3:aH G i0 (aJ 9 K a0 a2 J::aJ 69 K a3 a5 V::aJ 141 K y z r::aJ 2 K u x q::fF a c0::box l 27 [i64 a9,i64 b0,zS a0 J.length a2,zS a3 V.length a5]::L) p1)=>(aX (aA ⟨⟨_,i3⟩,?_⟩))))
   have p2:=n8 _ _ i3
   have p3:=n6 _ _ p2
   have i4:=n3 _ _ p3
   refine aCl rfl (yW ?_);refine aCl rfl (yW ?_)
   refine gZ (yW ?_);obtain rfl:=zI c
   exact bK (rZ results121 (dM (vs:=[i64 a9,i64 b0,zS a0 J.length a2,zS a3 V.length a5]) rfl cZ i4 (i:=8) rfl h4 rfl) (gT rfl rfl) (gT rfl rfl) ⟨a0,a2,a3,a5,u,x,rfl,(aH.arr 9 [3,4,6] i4 rfl)⟩)
  obtain ⟨z9,c1,f2,p5,f3⟩:=aH.lendB (i:=3) m9 rfl
  obtain ⟨p6,a6,a00,p7,f4⟩:=aH.lendB (i:=3) p5 rfl
  refine kP (C:=fun w'=>∃ L',aH G p6 L' w') [16] bV (by kernel_rfl) (fun a01 p8=>?_)
  have a8:=aH.mono p7 p8
  refine aHQ 0 ?_;refine aHQ 1 ?_
  refine aHQ 2 ?_;refine cY (i:=3) rfl (by kernel_rfl) ⟨_,a8⟩ (fun _ ⟨_,a8⟩=>bE (t:=0) nI a8 (f2.mono a6) rfl rfl) (aHQ 4 ?_)
  refine aHQ 5 ?_;refine aHQ 6 ?_
  refine aHQ 7 ?_;refine cY (i:=8) rfl (by kernel_rfl) ⟨_,a8⟩ (fun _ ⟨_,a8⟩=>bE (t:=2) aAh a8 (f2.mono a6) rfl rfl) (aHQ 10 ?_)
  refine aHQ 11 ?_;refine aHQ 12 ?_
  refine cY (i:=13) rfl (by kernel_rfl) ⟨_,a8⟩ (fun _ ⟨_,a8⟩=>bE (t:=2) aAh a8 (f2.mono a6) rfl rfl) (gY (i:=9) (j:=15) (by kernel_rfl) rfl rfl ?_ ?_)
  ·obtain ⟨a02,a03,p9,q0,q1⟩:=aH.lendS (i:=0) a8 (zL c1 a6) rfl
   obtain ⟨i5,q2,c⟩:=aB c
   refine zF call109 (oG q0 p9 q2) ?_
   rintro _ a04 ⟨i6,i7,rfl,q3⟩
   have f5:=q1 _ _ q3
   refine aX (aA ⟨fun _=>⟨_,f5⟩,?_⟩)
   refine gY (i:=14) (j:=15) (by kernel_rfl) rfl rfl ?_ ?_
   ·obtain ⟨a05,q4,q5,q6,q7⟩:=aH.lendS (i:=1) f5 (zL c1 a6) rfl
    obtain ⟨a06,q8,q9,r0,r1⟩:=aH.lendS (i:=0) q6 (zL (zL c1 a6) q4) rfl
    obtain ⟨m,r2,c⟩:=aB c
    refine zF call74 (mD r0 (q5.mono q8) q9 r2) ?_
    rintro _ a07 ⟨d0,d1,d2,d3,rfl,r3⟩
    have r4:=r1 _ _ r3
    have i8:=q7 _ _ r4
    refine aX (aA ⟨fun _=>⟨_,i8⟩,?_⟩)
    refine cC (i:=15) (by kernel_rfl) rfl (bR (vs:=e) zeroValue27 i8 rfl (fun i9 a08 j0=>(aX (aA ⟨fun _=>⟨_,j0⟩,?_⟩))))
    refine cC (i:=16) (by kernel_rfl) rfl ?_
    have r5:=f4 _ _ j0
    have r6:=f3 _ _ r5
    refine bS (i:=2) (ns:=(zC m d0 d1 d2 d3)) (us:=(zC m d0 d1 d2 d3)) sizeOf27 r6 rfl rfl rfl rfl rfl (cS rfl) rfl rfl (fun r7 (r8:aH G K (box b 190 [zS u q.length x,zM (some a),zS y r.length z,Value.func (.func 120) #[] #[cL a1 k]]::box h 188 [zP (some ⟨b,0,none⟩)]::box i9 27 (zC m d0 d1 d2 d3)::aJ 9 K i6 i7 i5::aJ 141 K y z r::aJ 9 K d0 d1 m.L::aJ 69 K d2 d3 m.E::aJ 2 K u x q::fF a c0::box l 27 e::L) r7)=>(aX (aA ⟨aCh rfl,?_⟩)))
    refine dW (by kernel_rfl) (yW ?_);exact ⟨m.N,m.I,m.L,m.E,i9,d0,d1,d2,d3,c,e9,f0,rfl,(aH.arr 9 [6,5,2,4,7,8,0,1] r8 rfl)⟩
   ·refine bR (vs:=e) zeroValue27 f5 rfl (fun j1 a09 j2=>(aX (aA ⟨fun _=>⟨_,j2⟩,?_⟩)))
    refine cC (i:=14) (by kernel_rfl) rfl ?_;obtain ⟨a11,r9,s0,s1,s2⟩:=aH.lendS (i:=2) j2 (zL c1 a6) rfl
    obtain ⟨a12,s3,s4,s5,s6⟩:=aH.lendS (i:=1) s1 (zL (zL c1 a6) r9) rfl
    obtain ⟨n,s7,c⟩:=aB c
    refine zF call74 (mD s5 (s0.mono s3) s4 s7) ?_
    rintro _ a14 ⟨d4,d5,d6,d7,rfl,s8⟩
    have s9:=s6 _ _ s8
    have j3:=s2 _ _ s9
    refine aX (aA ⟨fun _=>⟨_,j3⟩,?_⟩)
    refine cC (i:=16) (by kernel_rfl) rfl ?_
    have t0:=f4 _ _ j3
    have t1:=f3 _ _ t0
    refine bS (i:=6) (ns:=(zC n d4 d5 d6 d7)) (us:=(zC n d4 d5 d6 d7)) sizeOf27 t1 rfl rfl rfl rfl rfl (cS rfl) rfl rfl (fun t2 (t3:aH G K (box b 190 [zS u q.length x,zM (some a),zS y r.length z,Value.func (.func 120) #[] #[cL a1 k]]::box h 188 [zP (some ⟨b,0,none⟩)]::aJ 9 K i6 i7 i5::aJ 141 K y z r::aJ 9 K d4 d5 n.L::aJ 69 K d6 d7 n.E::box j1 27 (zC n d4 d5 d6 d7)::aJ 2 K u x q::fF a c0::box l 27 e::L) t2)=>(aX (aA ⟨aCh rfl,?_⟩)))
    refine dW (by kernel_rfl) (yW ?_);exact ⟨n.N,n.I,n.L,n.E,j1,d4,d5,d6,d7,c,e9,f0,rfl,(aH.arr 9 [5,4,6,3,7,8,0,1] t3 rfl)⟩
  ·refine bR (vs:=e) zeroValue27 a8 rfl (fun j4 a15 j5=>(aX (aA ⟨fun _=>⟨_,j5⟩,?_⟩)))
   refine cC (i:=9) (by kernel_rfl) rfl ?_;obtain ⟨a16,a17,t4,t5,t6⟩:=aH.lendS (i:=1) j5 (zL c1 a6) rfl
   obtain ⟨t7,t8,c⟩:=aB c
   refine zF call109 (oG t5 t4 t8) ?_
   rintro _ a18 ⟨t9,u0,rfl,u1⟩
   have j6:=t6 _ _ u1
   refine aX (aA ⟨fun _=>⟨_,j6⟩,?_⟩)
   refine cC (i:=14) (by kernel_rfl) rfl ?_;obtain ⟨a19,u2,u3,u4,u5⟩:=aH.lendS (i:=1) j6 (zL c1 a6) rfl
   obtain ⟨a20,u6,u7,u8,u9⟩:=aH.lendS (i:=0) u4 (zL (zL c1 a6) u2) rfl
   obtain ⟨o,v0,c⟩:=aB c
   refine zF call74 (mD u8 (u3.mono u6) u7 v0) ?_
   rintro _ a21 ⟨d8,d9,e0,e1,rfl,v1⟩
   have v2:=u9 _ _ v1
   have j7:=u5 _ _ v2
   refine aX (aA ⟨fun _=>⟨_,j7⟩,?_⟩)
   refine cC (i:=16) (by kernel_rfl) rfl ?_
   have v3:=f4 _ _ j7
   have v4:=f3 _ _ v3
   refine bS (i:=6) (ns:=(zC o d8 d9 e0 e1)) (us:=(zC o d8 d9 e0 e1)) sizeOf27 v4 rfl rfl rfl rfl rfl (cS rfl) rfl rfl (fun v5 (v6:aH G K (box b 190 [zS u q.length x,zM (some a),zS y r.length z,Value.func (.func 120) #[] #[cL a1 k]]::box h 188 [zP (some ⟨b,0,none⟩)]::aJ 9 K t9 u0 t7::aJ 141 K y z r::aJ 9 K d8 d9 o.L::aJ 69 K e0 e1 o.E::box j4 27 (zC o d8 d9 e0 e1)::aJ 2 K u x q::fF a c0::box l 27 e::L) v5)=>(aX (aA ⟨aCh rfl,?_⟩)))
   refine dW (by kernel_rfl) (yW ?_);exact ⟨o.N,o.I,o.L,o.E,j4,d8,d9,e0,e1,c,e9,f0,rfl,(aH.arr 9 [5,4,6,3,7,8,0,1] v6 rfl)⟩
 have v7:=aH.nil (α:=gV) m8 141 K
 obtain ⟨a22,v8,c⟩:=aB c
 refine cE v8 (fun s f w=>match s with|(b1,c7,b2,p)=>∃ c2 c3 c4 c6 Z,f 2=Value.func (.func 122) #[] #[cL a7 k8]/\f 6=zP (some ⟨l,0,none⟩)/\f 9=zP (some ⟨h,0,none⟩)/\f 10=zP (some ⟨Z,0,none⟩)/\aH G K (aJ 141 K c4 c6 b2::box Z 3 [i64 p]::aJ 2 K c2 c3 b1::fF a c7::box b 190 [zS c2 b1.length c3,zM (some a),zS c4 b2.length c6,Value.func (.func 120) #[] #[cL a1 k]]::box h 188 [zP (some ⟨b,0,none⟩)]::box l 27 e::L) w) ?_ ?_
 ·exact ⟨e7,e8,none,0,h2,rfl,rfl,rfl,rfl,(aH.arr 5 [0,1,2,3] v7 rfl)⟩
 ·rintro ⟨b1,c7,b2,p⟩ j8 f a23 g j9 ⟨c2,c3,c4,c6,Z,k0,f6,e2,f7,v9⟩
  replace g:lS e4 b9 b1 c7 b2 p=some j8:=g
  unfold lS at g
  refine yW ?_;refine dF (C:=fun w'=>aH G K (aJ 141 K c4 c6 b2::box Z 3 [i64 p]::aJ 2 K c2 c3 b1::fF a c7::box b 190 [zS c2 b1.length c3,zM (some a),zS c4 b2.length c6,Value.func (.func 120) #[] #[cL a1 k]]::box h 188 [zP (some ⟨b,0,none⟩)]::box l 27 e::L) w') bV (by kernel_rfl) (aH.mono v9 (dG.drew _)) (yW ?_)
  refine dI (fun a24 k1=>(yW ?_))
  rcases aG g with ⟨w0,g⟩|⟨w0,g⟩
  ·refine yW ?_;refine cT (yW ?_)
   obtain ⟨k3,e3,w1,w2,w3⟩:=aH.lendB (i:=1) k1 rfl
   refine kP (C:=fun w'=>∃ L',aH G k3 L' w') [] bV (by kernel_rfl) (fun w4 w5=>?_)
   have b3:=aH.mono w2 w5
   refine aHQ 0 ?_;refine aHQ 5 ?_
   refine cY (i:=8) rfl (by kernel_rfl) ⟨_,b3⟩ (fun _ _=>rC (vs:=[zP (some ⟨h,0,none⟩),zP (some ⟨Z,0,none⟩)]) (lst2 e2 f7)) (cC (i:=1) (by kernel_rfl) rfl (aC (cV wW b3 (i:=4) rfl e2 rfl) (aX (aA ⟨fun _=>⟨_,b3⟩,?_⟩))))
   refine aHQ 2 ?_;refine aHQ 3 ?_
   refine cC (i:=4) (by kernel_rfl) rfl (aC (cV nI b3 (i:=3) rfl rfl rfl) (aX (aA ⟨fun _=>⟨_,b3⟩,?_⟩)))
   obtain ⟨k4,f8,g⟩:=aB g
   have w6:=cU b3 (i:=1) rfl f8
   refine cY (i:=6) rfl (by kernel_rfl) ⟨_,b3⟩ (fun _ _=>dB bY rfl w6 rfl rfl rfl f8) (cC (i:=7) (by kernel_rfl) rfl (aC (eO (t:=0) cN b3 (i:=1) rfl f8 rfl rfl rfl) (aX (aA ⟨fun _=>⟨_,b3⟩,?_⟩))))
   refine cC (i:=9) (by kernel_rfl) rfl ?_
   have w7:aH G k3 (aJ 2 K c2 c3 b1::fF a c7::aJ 141 K c4 c6 b2::box b 190 [zS c2 b1.length c3,zM (some a),zS c4 b2.length c6,Value.func (.func 120) #[] #[cL a1 k]]::box h 188 [zP (some ⟨b,0,none⟩)]::box l 27 e::L) w4:=(aH.arr 3 [1,2,0] b3 rfl)
   obtain ⟨d,w8,g⟩:=aB g
   refine oV (vs:=[i64 k4,Value.func (.func 151) #[] #[zP (some ⟨h,0,none⟩),cL (some ⟨Z,0,none⟩) 0]]) (caps:=[cL a7 k8]) (us:=[i64 k4,Value.func (.func 151) #[] #[zP (some ⟨h,0,none⟩),cL (some ⟨Z,0,none⟩) 0],cL a7 k8]) rfl call122 rfl rfl (yM w7 (h3.mono e3) (h6.mono e3) w1 (h9.mono e3) (l3.mono e3) (l4.mono e3) w8) ?_
   rintro _ a25 ⟨b5,b6,b7,b8,rfl,k5⟩
   refine aX (aA ⟨fun _=>⟨_,k5⟩,?_⟩)
   refine aHQ 10 ?_;refine dW (by kernel_rfl) ?_
   have k6:=w3 _ _ k5
   iterate 2 refine aIQ ?_
   refine cQ (fun f w=>∃ f9,jD p d f9=some j8/\f 2=Value.func (.func 122) #[] #[cL a7 k8]/\f 6=zP (some ⟨l,0,none⟩)/\f 9=zP (some ⟨h,0,none⟩)/\f 10=zP (some ⟨Z,0,none⟩)/\f 48=zB f9/\aH G K (box Z 3 [i64 p]::aJ 2 K b5 b6 d.2.1::fF a d.2.2.1::aJ 141 K b7 b8 d.2.2.2::box b 190 [zS b5 d.2.1.length b6,zM (some a),zS b7 d.2.2.2.length b8,Value.func (.func 120) #[] #[cL a1 k]]::box h 188 [zP (some ⟨b,0,none⟩)]::box l 27 e::L) w) ?_ ?_
   ·rintro f a26 ⟨f9,g,w9,g0,x0,a27,a28,k7⟩
    unfold jD at g
    refine yW ?_
    rcases aG g with ⟨x1,g⟩|⟨x1,g⟩
    ·refine yW ?_;refine aC (dD (vs:=[]) (cs:=e) jT rfl (by kernel_rfl)) (bS (i:=6) (ns:=e) (us:=e) sizeOf27 k7 rfl g0 rfl rfl rfl (cS rfl) rfl rfl (fun x2 (x3:aH G K (box Z 3 [i64 p]::aJ 2 K b5 b6 d.2.1::fF a d.2.2.1::aJ 141 K b7 b8 d.2.2.2::box b 190 [zS b5 d.2.1.length b6,zM (some a),zS b7 d.2.2.2.length b8,Value.func (.func 120) #[] #[cL a1 k]]::box h 188 [zP (some ⟨b,0,none⟩)]::box l 27 e::L) x2)=>(yW ?_)))
     refine bK (cA (aW (aW ?_)))
     have x4:=j9 _ (zI g).symm
     subst x4
     have c:(some (⟨0,0,[],[]⟩,[],false))=some R:=c
     have x5:=aH.nil (α:=bD) x3 9 K
     have x6:=aH.nil (α:=Edge) x5 69 K
     have k9:=aH.nil (α:=Int) x6 2 K
     obtain rfl:=zI c
     exact cA (aW (aW (rZ results121 (dM (vs:=e) rfl cZ k9 (i:=9) rfl g0 rfl) (gT rfl rfl) (gT rfl rfl) ⟨none,0,none,0,none,0,rfl,(aH.arr 10 [2,1,0] k9 rfl)⟩)))
    ·refine yW ?_;refine bR (vs:=[i64 0]) zeroValue3 k7 rfl (fun g1 a29 x8=>(bS (i:=0) (ns:=[i64 p]) (us:=[i64 p]) sizeOf3 x8 rfl rfl rfl rfl rfl (cS rfl) rfl rfl (fun x9 (y0:aH G K (box g1 3 [i64 p]::box Z 3 [i64 p]::aJ 2 K b5 b6 d.2.1::fF a d.2.2.1::aJ 141 K b7 b8 d.2.2.2::box b 190 [zS b5 d.2.1.length b6,zM (some a),zS b7 d.2.2.2.length b8,Value.func (.func 120) #[] #[cL a1 k]]::box h 188 [zP (some ⟨b,0,none⟩)]::box l 27 e::L) x9)=>(yW ?_))))
     refine bS (i:=0) (ns:=[i64 (wr (p+1))]) (us:=[i64 (wr (p+1))]) sizeOf3 y0 rfl rfl rfl rfl rfl (cS rfl) rfl rfl (fun y1 (y2:aH G K (box g1 3 [i64 (wr (p+1))]::box Z 3 [i64 p]::aJ 2 K b5 b6 d.2.1::fF a d.2.2.1::aJ 141 K b7 b8 d.2.2.2::box b 190 [zS b5 d.2.1.length b6,zM (some a),zS b7 d.2.2.2.length b8,Value.func (.func 120) #[] #[cL a1 k]]::box h 188 [zP (some ⟨b,0,none⟩)]::box l 27 e::L) y1)=>(yW ?_))
     exact ⟨(d.2.1,d.2.2.1,d.2.2.2,wr (p+1)),(zI g).symm,b5,b6,b7,b8,g1,w9,g0,x0,rfl,(aH.arr 5 [4,0,2,3] y2 rfl)⟩
   refine yW ?_
   rcases aG g with ⟨y3,g⟩|⟨y3,g⟩
   ·refine yW ?_;exact ⟨true,g,k0,f6,e2,f7,rfl,k6⟩
   ·refine yW ?_;exact ⟨decide (40 < (d.2.1.length:Int)),g,k0,f6,e2,f7,rfl,k6⟩
  ·refine yW ?_
   have y4:=j9 _ (zI g).symm
   subst y4
   have c:(jC b1 c7 b2)=some R:=c
   refine yW ?_;exact ⟨b1,c7,b2,c2,c3,c4,c6,c,f6,e2,(aH.arr 2 [0] k1 rfl)⟩
end Gv
