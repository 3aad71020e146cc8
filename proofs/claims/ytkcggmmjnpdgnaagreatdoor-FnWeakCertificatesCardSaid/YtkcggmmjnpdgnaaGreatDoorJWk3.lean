/- Walks, printed by program. -/
import Derived.Test.YtkcggmmjnpdgnaaGreatDoorJWk1
set_option linter.all false
namespace Gv
open Gv.Hp renaming le_refl→zR
open Go.Value renaming slice→zS,bool→zB
open Option.some renaming inj→zI
open Go Go.Proofs Go.Proofs.Tryz
set_option maxRecDepth 20000
set_option maxHeartbeats 40000000
variable {G:uK} {K:Hp} {L:List gQ} {w:World} {a1 a4 a7 a10 a13 a16:Option Addr} {c5 c8 c2 c14 c17 c11:Nat}
theorem aGi {t:cB} {m:Nat} {R:(List Int)} (hm:aAH t=some R) (hs:aI G K (L) w) (n:dT K a1 m (zC t a4 c5 a7 c8)) (h6:bW K a4 c5 t.L) (h9:bW K a7 c8 t.E):
  Calls prog 28 ([cC a1 m]:List Value).toArray w (eV fun v w'=>∃ d1 d2,v=zS d1 R.length d2/\aI G K (aN 2 K d1 d2 R::L) w'):=by
 refine aR func28 rfl (by kernel_rfl) (by show (1:Nat)<=80;decide) ?_;unfold aAH at hm
 refine aK (aE (v:=zS none 0 0) (aG (aK (aF (v:=cC a1 m) (aD (cA rfl n) (aD (bS (k':=m+0) cT rfl n rfl) (aD (bE (t:=0) cE hs n rfl rfl) ?_)))))));obtain ⟨b,f7,hm⟩:=aC hm
 refine aHl (e:=(0:Int)) bV iD rfl rfl hs rfl rfl rfl f7 rfl (fun k f8 (f9:aI G K (aN 2 K k b.length b::L) f8)=>(aE (v:=zS k b.length b.length) (aG (aK (bT (Kt:=K) (xs:=([]:List (List Bool))) (cs:=[]) (vs:=[]) aFR aMg rfl rfl f9 rfl (by kernel_rfl) rfl rfl rfl trivial (fun d3 g0 (k6:aI G K (aN 49 K d3 0 ([]:List (List Bool))::aN 2 K k b.length b::L) g0)=>(aE (v:=zS d3 ([]:List (List Bool)).length 0) (aG (aO (aK (aE (v:=i64 0) (aG (aX [0] (fun f w=>∃ a c h j,Hp.le K a/\zX t c=some R/\f 4=zS h c.length j/\aI G a (aN 49 a h j c::L) w) ?_ ?_)))))))))))))
 ·rintro f k7 ⟨a,c,h,j,b2,hm,d4,g1⟩
  unfold zX at hm
  refine aB (aK (bT (Kt:=K) (xs:=([]:List Int)) (cs:=[]) (vs:=[]) bV iD rfl rfl g1 rfl (by kernel_rfl) rfl rfl rfl trivial (fun d5 g2 (k8:aI G a (aN 2 K d5 0 ([]:List Int)::aN 49 a h j c::L) g2)=>(aE (v:=zS d5 ([]:List Int).length 0) (aG (aK (aE (v:=i64 0) (aG (aO (aK (aE (v:=i64 0) (aG (aX [] (fun f w=>∃ b3 d6 d7,aHB b3=some R/\f 6=zS d6 b3.length d7/\aI G a (aN 2 K d6 d7 b3::L) w) eB ?_)))))))))))))
  obtain ⟨k9,g3,ho⟩:=aC hm
  refine yL [0,4] g3 (fun d b4 r f w=>∃ o p,f 6=zS o d.length p/\f 7=i64 b4/\f 8=i64 r/\aI G a (aN 2 K o p d::aN 49 a h j c::L) w) eB ?_
  ·rintro d b4 r b5 f l0 hm hr ⟨o,p,l1,l2,a2,g4⟩
   unfold jB at hm
   refine aO (aK (bC a2 (aF (v:=cC a1 m) (aD (cA rfl (n.mono b2)) (aD (bS (k':=m+0) cT rfl (n.mono b2) rfl) (aD (bE (t:=0) cE g4 (n.mono b2) rfl rfl) (aD (cV rfl rfl) (aG ?_))))))))
   rcases aH hm with ⟨d8,hm⟩|⟨d8,hm⟩
   ·refine aL d8 rfl (aW (aB (aO (aX [0,4,8] (fun f w=>∃ a3 b6 a5 a6,vZ r a3 b6=some b5/\f 6=zS a5 a3.length a6/\f 7=i64 b6/\aI G a (aN 2 K a5 a6 a3::aN 49 a h j c::L) w) ?_ ?_))))
    ·rintro f l3 ⟨a3,b6,a5,a6,hm,g5,g6,g7⟩
     unfold vZ at hm
     exact aB (aQ (bC a2 (aD (cL rfl rfl) (aE (v:=i64 (wr (r+1))) (aG ⟨_,(zI hm).symm,aM,a5,a6,g5,g6,rfl,g7⟩)))))
    refine aK (aE (v:=i64 (-1)) (aG (aO (aK (aE (v:=i64 0) (aG (aX [0,4,6,7,8] (fun f w=>∃ b7,sE d b4 r b7=some b5/\f 9=i64 b7/\aI G a (aN 2 K o p d::aN 49 a h j c::L) w) ?_ ?_)))))))
    ·rintro f l4 ⟨b7,hm,l5,l6⟩
     unfold sE at hm
     exact aB (iQ [0,4,6,8] (fun f w=>∃ d9 e0,wA d r d9 e0=some b5/\f 7=i64 d9/\f 9=i64 e0/\aI G a (aN 2 K o p d::aN 49 a h j c::L) w) eB eB)
    obtain ⟨l7,g8,ho⟩:=aC hm
    refine cP [0,4,6,7,8] g8 (fun a8 a0 f w=>f 9=i64 a8/\f 10=i64 a0/\aI G a (aN 2 K o p d::aN 49 a h j c::L) w) eB ?_
    ·rintro a8 a0 b8 f l8 hm hr ⟨l9,b9,m0⟩
     unfold sF at hm
     refine aO (aO (cH [0,4,6,7,8,9,10] (fun f w=>∃ c0,wC c d r a8 a0 c0=some b8/\f 47=zB c0/\aI G a (aN 2 K o p d::aN 49 a h j c::L) w) ?_ ?_))
     ·rintro f m1 ⟨c0,hm,g9,a9⟩
      unfold wC at hm
      refine aB ?_
      rcases aH hm with ⟨e1,hm⟩|⟨e1,hm⟩
      ·refine aL e1 g9 (aW (aB (aO (aX [0,4,6,7,8,10] (fun f w=>∃ c1,wB a0 c1=some b8/\f 9=i64 c1/\aI G a (aN 2 K o p d::aN 49 a h j c::L) w) ?_ ?_))))
       ·rintro f m2 ⟨c1,hm,h0,h1⟩
        unfold wB at hm
        exact aB (aQ (bC b9 (aD (cL rfl rfl) (aE (v:=i64 (wr (a0+1))) (aG ⟨_,(zI hm).symm,aM,h0,rfl,h1⟩)))))
       refine aO (cH [0,4,6,7,8,9,10] (fun f w=>∃ e2,aBl d a8 a0 e2=some b8/\f 65=zB e2/\aI G a (aN 2 K o p d::aN 49 a h j c::L) w) eB (aQ (bC d4 (bC a2 ?_))));obtain ⟨h2,c2,hm⟩:=aC hm
       have e3:=cQ a9 (i:=1) rfl c2
       refine aD (dL aFR rfl e3 rfl rfl rfl c2) ?_;obtain ⟨m3,h4,h5⟩:=aJt (sz:=1) rfl a9 (i:=1) rfl c2
       obtain ⟨h7,h8,rfl,e4⟩:=h5
       refine aD (aLZ (t:=0) (v:=zS h7 h2.length h8) aJV h4 rfl rfl) (bC b9 ?_);obtain ⟨i0,e5,hm⟩:=aC hm
       refine aD (cO fU rfl e4 rfl rfl rfl e5) ?_;obtain ⟨m4,i1,i2⟩:=bW.el (sz:=1) rfl e4 e5
       cases i2
       refine aD (bE (t:=0) aCH a9 i1 rfl rfl) (aF (v:=zB i0) ?_)
       rcases aH hm with ⟨u,hm⟩|⟨u,hm⟩
       ·refine bK u rfl rfl (bC d4 (bK u rfl rfl (bC b9 (bK u rfl rfl ?_))));obtain ⟨i3,e6,hm⟩:=aC hm
        refine aD (dL aFR rfl e3 rfl rfl rfl e6) (bK u rfl rfl ?_);obtain ⟨m5,i4,i5⟩:=aJt (sz:=1) rfl a9 (i:=1) rfl e6
        obtain ⟨i6,i7,rfl,e7⟩:=i5
        refine aD (aLZ (t:=0) (v:=zS i6 i3.length i7) aJV i4 rfl rfl) (bK u rfl rfl (bC a2 (bK u rfl rfl ?_)));obtain ⟨m6,e8,hm⟩:=aC hm
        refine aD (cO fU rfl e7 rfl rfl rfl e8) ?_;obtain ⟨m7,m8,i8⟩:=bW.el (sz:=1) rfl e7 e8
        cases i8
        exact eB
       ·exact eB
      ·exact eB
     exact eB
   ·exact eB
 obtain ⟨m9,i9,ho⟩:=aC hm
 refine cP [0,3] i9 (fun x b0 f w=>∃ l y z,Hp.le K l/\f 4=zS y x.length z/\f 5=i64 b0/\aI G l (aN 49 l y z x::aN 2 K k b.length b::L) w) eB ?_
 ·rintro x b0 n0 f n1 hm hr ⟨l,y,z,q,j0,c3,e9⟩
  unfold nJ at hm
  refine aO (aK (bC c3 (aF (v:=cC a1 m) (aD (cA rfl (n.mono q)) (aD (bS (k':=m+0) cT rfl (n.mono q) rfl) (aD (bE (t:=0) cE e9 (n.mono q) rfl rfl) (aD (cV rfl rfl) (aG ?_))))))))
  rcases aH hm with ⟨f0,hm⟩|⟨f0,hm⟩
  ·refine aL f0 rfl (aW (aB (aO (dA (aQ (bC j0 (aF (v:=cC a1 m) (aF (v:=zS k b.length b.length) (bC c3 ?_)))))))));obtain ⟨n2,c4,j1,j2,j3⟩:=aI.lendSp e9 q zt1
   obtain ⟨J,j4,hm⟩:=aC hm
   refine aP (vs:=[cC a1 m,zS k b.length b.length,i64 b0]) call66 rfl (aDs j4 j2 (n.mono (Hp.le_trans q c4)) (h6.mono (Hp.le_trans q c4)) (h9.mono (Hp.le_trans q c4)) j1) ?_
   rintro _ f1 ⟨V,Z,rfl,j5⟩
   have j6:=j3 _ _ j5
   have j7:aI G l (aN 4 K V Z J::aN 2 K k b.length b::aN 49 l y z x::L) f1:=(aI.arr 2 [1,0] j6 rfl)
   have j8:aI G l (rows [4] ([(V,Z)]:List (Dp.Hd (List Bool))) [J]::aN 2 K k b.length b::aN 49 l y z x::L) f1:=aI.rowsOne j7
   refine bT (Kt:=K) (xs:=dZ ([(V,Z)]:List (Dp.Hd (List Bool))) ([J]:List (List Bool))) (cs:=[zS V J.length Z]) (vs:=[(0,zS V J.length Z)]) aFR aMg rfl rfl j8 rfl (by kernel_rfl) rfl rfl rfl ⟨rfl,trivial⟩ ?_
   intro j9 f2 (k0:aI G l (aN 49 K j9 1 (dZ ([(V,Z)]:List (Dp.Hd (List Bool))) ([J]:List (List Bool)))::rows [4] ([(V,Z)]:List (Dp.Hd (List Bool))) ([J]:List (List Bool))::aN 2 K k b.length b::aN 49 l y z x::L) f2)
   obtain ⟨b1,f3,k1,_,c6,_⟩:=aI.lendD' (i:=0) k0 rfl rfl rfl
   replace c6:aI G b1 (aN 2 K k b.length b::aN 49 l y z x::L) f2:=c6
   obtain ⟨f4,k3,hm⟩:=aC hm
   exact nG (i:=1) aFR underlying91 aMg rfl rfl c6 rfl f3 k1 k3 rfl rfl rfl rfl (fun c7 c9 k4 (k5:aI G b1 (aN 2 K k b.length b::aN 49 b1 c7 c9 f4::L) k4)=>(aE (v:=zS c7 f4.length c9) (bF (bA (aB (aQ (bC c3 (aD (cL rfl rfl) (aE (v:=i64 (wr (b0+1))) (aG ⟨_,(zI hm).symm,aM,b1,c7,c9,(Hp.le_trans q f3),rfl,rfl,(aI.arr 2 [1,0] k5 rfl)⟩))))))))))
  ·exact eB
theorem aFK {t:cB} {a:Nat} {R:cB} (hm:aFZ t=some R) (h:aI G K (L) w) (j:dT K a1 a (zC t a4 c5 a7 c8)) (k:bW K a4 c5 t.L) (l:bW K a7 c8 t.E):
  Calls prog 70 ([cC a1 a]:List Value).toArray w (eV fun v w'=>∃ b c d e,v=Value.agg (zCa R b c d e)/\aI G K (aN 9 K b c R.L::aN 66 K d e R.E::L) w'):=by
 refine aR func70 rfl (by kernel_rfl) (by show (1:Nat)<=28;decide) ?_;unfold aFZ at hm
 refine aK (cI (vs:=zG) zeroValue27 h rfl (fun m n g=>(aG (aO (dI (C:=fun w'=>∃ L',aI G K L' w') [(0,0),(1,0),(2,0),(3,0),(4,0),(5,0),(6,0),(7,0),(8,0),(9,1),(10,2)] Tryz_mixed (by kernel_rfl) (fun _ hg=>⟨_,aI.mono g hg⟩) (fun o i=>?_))))))
 have p:=aI.mono g i
 exact eB
theorem oE {n low a:Int} {R:Bool} (hm:zY n low a=some R) (c:aI G K (L) w):
  Calls prog 41 ([i64 n,i64 low,i64 a]:List Value).toArray w (eV fun v w'=>v=zB R/\aI G K (L) w'):=by
 refine aR func41 rfl (by kernel_rfl) (by show (3:Nat)<=15;decide) ?_;unfold zY at hm
 exact aK (aE (v:=zB false) (aG (aO (cH [] (fun f w=>∃ b,aIE b=some R/\f 6=zB b/\aI G K (L) w) eB eB))))
theorem aEJ {a:aY} {R:Int} (hm:aEe a=some R) (d:aI G K (L) w):
  Calls prog 146 ([str a]:List Value).toArray w (eV fun v w'=>v=i64 R/\aI G K (L) w'):=by
 refine aR func146 rfl (by kernel_rfl) (by show (1:Nat)<=17;decide) ?_;unfold aEe at hm
 refine aK (aE (v:=i64 0) (aG (aO (aK (aE (v:=i64 0) (aG (aX [0] (fun f w=>aJd a=some R/\aI G K (L) w) eB ?_)))))));obtain ⟨e,b,ho⟩:=aC hm
 exact fA [0] b (fun c f w=>f 3=i64 c/\aI G K (L) w) eB eB
theorem aDt {c:UInt8} {R:Bool} (hm:aEw c=some R) (b:aI G K (L) w):
  Calls prog 171 ([Value.int .u8 (c.toNat:Int)]:List Value).toArray w (eV fun v w'=>v=zB R/\aI G K (L) w'):=by
 refine aR func171 rfl (by kernel_rfl) (by show (1:Nat)<=9;decide) ?_;unfold aEw at hm
 exact aK (aE (v:=zB false) (aG (aO (cH [] (fun f w=>∃ a,aFF a=some R/\f 2=zB a/\aI G K (L) w) eB eB))))
theorem aDu {c:UInt8} {R:Bool} (hm:aEx c=some R) (b:aI G K (L) w):
  Calls prog 172 ([Value.int .u8 (c.toNat:Int)]:List Value).toArray w (eV fun v w'=>v=zB R/\aI G K (L) w'):=by
 refine aR func172 rfl (by kernel_rfl) (by show (1:Nat)<=9;decide) ?_;unfold aEx at hm
 exact aK (aE (v:=zB false) (aG (aO (cH [] (fun f w=>∃ a,aCt a=some R/\f 2=zB a/\aI G K (L) w) eB eB))))
theorem aEK {a:aY} {R:Bool} (hm:aEf a=some R) (l:aI G K (L) w):
  Calls prog 147 ([str a]:List Value).toArray w (eV fun v w'=>v=zB R/\aI G K (L) w'):=by
 refine aR func147 rfl (by kernel_rfl) (by show (1:Nat)<=35;decide) ?_;unfold aEf at hm
 refine aK (aE (v:=zB false) (aG (aO (aO (cH [0] (fun f w=>∃ b,tN a b=some R/\f 16=zB b/\aI G K (L) w) ?_ ?_)))))
 ·rintro f m ⟨b,hm,h,n⟩
  unfold tN at hm
  refine aB ?_
  rcases aH hm with ⟨d,hm⟩|⟨d,hm⟩
  ·exact eB
  ·refine aJ d h (aW (aB (aO (aK (aE (v:=i64 0) (aG (aX [] (fun f w=>aBm=some R/\aI G K (L) w) eB ?_)))))));obtain ⟨o,i,ho⟩:=aC hm
   refine fA [0] i (fun c f w=>f 3=i64 c/\aI G K (L) w) eB ?_
   ·rintro c j f p hm hr ⟨k,q⟩
    unfold aBo at hm
    refine aO (aK (bC k (aF (v:=str a) (aD (oW runUnderlying9 rfl) (aD (cV rfl rfl) (aG ?_))))))
    rcases aH hm with ⟨e,hm⟩|⟨e,hm⟩
    ·exact aL e rfl (aW (aB (aO (dA (aO (cH [0,3] (fun f w=>∃ g,aBn c g=some j/\f 34=zB g/\aI G K (L) w) eB eB))))))
    ·exact eB
 exact eB
theorem aGj {a:aY} {R:Bool} (hm:aCU a=some R) (c:aI G K (L) w):
  Calls prog 148 ([str a]:List Value).toArray w (eV fun v w'=>v=zB R/\aI G K (L) w'):=by
 refine aR func148 rfl (by kernel_rfl) (by show (1:Nat)<=9;decide) ?_;unfold aCU at hm
 exact aK (aE (v:=zB false) (aG (aO (cH [] (fun f w=>∃ b,wD b=some R/\f 2=zB b/\aI G K (L) w) eB eB))))
theorem aGX {a:aY} {by_:UInt8} {R:(List aY)} (hm:aEy a by_=some R) (x:aI G K (L) w):
  Calls prog 149 ([str a,Value.int .u8 (by_.toNat:Int)]:List Value).toArray w (eV fun v w'=>∃ l m,v=zS l R.length m/\aI G K (aN 9 K l m R::L) w'):=by
 refine aR func149 rfl (by kernel_rfl) (by show (2:Nat)<=35;decide) ?_;unfold aEy at hm
 refine aK (aE (v:=zS none 0 0) (aG (aK (bT (Kt:=K) (xs:=([]:List aY)) (cs:=[]) (vs:=[]) dE oM rfl rfl x rfl (by kernel_rfl) rfl rfl rfl trivial (fun n y (a2:aI G K (aN 9 K n 0 ([]:List aY)::L) y)=>(aE (v:=zS n ([]:List aY).length 0) (aG (aK (aE (v:=i64 0) (aG (aO (aK (aE (v:=i64 0) (aG (aX [0] (fun f w=>∃ g o p q,yV a g o=some R/\f 5=zS p g.length q/\f 6=i64 o/\aI G K (aN 9 K p q g::L) w) eB ?_)))))))))))))))
 obtain ⟨a3,z,ho⟩:=aC hm
 refine yL [0,1] z (fun h r b f w=>∃ i j,f 5=zS i h.length j/\f 6=i64 r/\f 7=i64 b/\aI G K (aN 9 K i j h::L) w) eB ?_
 ·rintro h r b J f a4 hm hr ⟨i,j,a6,a7,t,a8⟩
  unfold aCu at hm
  refine aO (aK (bC t (aF (v:=str a) (aD (oW runUnderlying9 rfl) (aD (cV rfl rfl) (aG ?_))))))
  rcases aH hm with ⟨u,hm⟩|⟨u,hm⟩
  ·refine aL u rfl (aW (aB (aO (aX [0,1,7] (fun f w=>∃ c k d e,uN b c k=some J/\f 5=zS d c.length e/\f 6=i64 k/\aI G K (aN 9 K d e c::L) w) ?_ ?_))))
   ·rintro f a9 ⟨c,k,d,e,hm,V,Z,a0⟩
    unfold uN at hm
    exact aB (aQ (bC t (aD (cL rfl rfl) (aE (v:=i64 (wr (b+1))) (aG ⟨_,(zI hm).symm,aM,d,e,V,Z,rfl,a0⟩)))))
   exact eB
  ·exact eB
theorem aGk {c:aY} {R:(Int × Bool)} (hm:aAI c=some R) (z:aI G K (L) w):
  Calls prog 150 ([str c]:List Value).toArray w (eV fun v w'=>v=Value.tuple #[i64 R.1,zB R.2]/\aI G K (L) w'):=by
 refine aR func150 rfl (by kernel_rfl) (by show (1:Nat)<=62;decide) ?_;unfold aAI at hm
 refine aK (aE (v:=i64 0) (aE (v:=zB false) (aG (aK (aE (v:=i64 0) (aG (iQ [0] (fun f w=>∃ d,sH c d=some R/\f 4=i64 d/\aI G K (L) w) ?_ ?_)))))))
 ·rintro f J ⟨d,hm,p,V⟩
  unfold sH at hm
  refine aO (aO (cH [0,4] (fun f w=>∃ g,mM c d g=some R/\f 36=zB g/\aI G K (L) w) ?_ ?_))
  ·rintro f Z ⟨g,hm,q,a0⟩
   unfold mM at hm
   refine aB ?_
   rcases aH hm with ⟨j,hm⟩|⟨j,hm⟩
   ·exact eB
   ·refine aJ j q (aW (aB (aK (aE (v:=i64 0) (aG (aO (aK (bC p (aE (v:=i64 d) (aG (aX [4] (fun f w=>∃ h,wE d h=some R/\f 5=i64 h/\aI G K (L) w) ?_ ?_)))))))))))
    ·rintro f a1 ⟨h,hm,a2,a3⟩
     unfold wE at hm
     exact aB (iQ [] (fun f w=>∃ k,aBp k=some R/\f 5=i64 k/\aI G K (L) w) eB eB)
    obtain ⟨a4,r,ho⟩:=aC hm
    refine cP [0,4] r (fun i i32 f w=>f 5=i64 i/\f 6=i64 i32/\aI G K (L) w) eB ?_
    ·rintro i i32 a5 f a6 hm hr ⟨t,e,u⟩
     unfold sG at hm
     refine aO (aK (bC e (aF (v:=str c) (aD (oW runUnderlying9 rfl) (aD (cV rfl rfl) (aG ?_))))))
     rcases aH hm with ⟨l,hm⟩|⟨l,hm⟩
     ·refine aL l rfl (aW (aB (aO (dA (aO (aK (aF (v:=str c) (bC e ?_))))))));obtain ⟨c45,m,hm⟩:=aC hm
      refine aD (aIj runUnderlying9 rfl rfl m) ?_;obtain ⟨a7,x,hm⟩:=aC hm
      refine aP (vs:=[Value.int .u8 (c45.toNat:Int)]) call172 rfl (aDu x u) ?_
      rintro _ a8 ⟨rfl,y⟩
      refine aD (eC rfl) (aG ?_)
      rcases aH hm with ⟨n,hm⟩|⟨n,hm⟩
      ·exact eB
      ·exact aJ n rfl (aW (aB (aQ (bC t (aD (aCD rfl rfl) (aF (v:=str c) (bC e (aD (aIj runUnderlying9 rfl rfl m) (aD (aND (a:=c45) (b:=(48:UInt8)) rfl rfl) (aD (aEo runUnderlying2 rfl ⟨_,runUnderlying5⟩) (aD (cL rfl rfl) (aE (v:=i64 (wr ((wr (10 * i))+(wr ((c45 - (48:UInt8)).toNat:Int))))) (bF (bA (aB (aQ (bC e (aD (cL rfl rfl) (aE (v:=i64 (wr (i32+1))) (aG ⟨_,(zI hm).symm,aM,rfl,rfl,y⟩))))))))))))))))))))
     ·exact eB
  exact eB
 exact aO (cH [0,4] (fun f w=>∃ o,sI c o=some R/\f 14=zB o/\aI G K (L) w) eB eB)
theorem aGl {a:aY} {R:((List Int) × Bool)} (hm:aFl a=some R) (hs:aI G K (L) w):
  Calls prog 124 ([str a]:List Value).toArray w (eV fun v w'=>∃ q r,v=Value.tuple #[zS q R.1.length r,zB R.2]/\aI G K (aN 2 K q r R.1::L) w'):=by
 refine aR func124 rfl (by kernel_rfl) (by show (1:Nat)<=70;decide) ?_;unfold aFl at hm
 refine aK (aE (v:=zS none 0 0) (aE (v:=zB false) (aG (aK (aF (v:=str a) ?_)))));obtain ⟨h,q2,hm⟩:=aC hm
 refine aP (vs:=[str a]) call146 rfl (aEJ q2 hs) ?_
 rintro _ w3 ⟨rfl,b6⟩
 refine aE (v:=i64 h) (aG (aO (aK (aF (v:=i64 h) (aF (v:=str a) (aD (oW runUnderlying9 rfl) (aD (dM rfl rfl) (aG ?_))))))))
 rcases aH hm with ⟨u,hm⟩|⟨u,hm⟩
 ·exact eB
 ·refine aJ u rfl (aW (aB (aO (aO (cH [0,4] (fun f w=>∃ l,sJ a h l=some R/\f 31=zB l/\aI G K (L) w) ?_ ?_)))))
  ·rintro f b7 ⟨l,hm,a3,a4⟩
   unfold sJ at hm
   refine aB ?_
   rcases aH hm with ⟨x,hm⟩|⟨x,hm⟩
   ·exact eB
   ·refine aJ x a3 (aW (aB (aK (aF (v:=str a) (aF (v:=i64 h) (aD (cL rfl rfl) (aF (v:=str a) (aD (oW runUnderlying9 rfl) (aD (kT rfl rfl) ?_)))))))));obtain ⟨a5,a6,hm⟩:=aC hm
    refine aD (aMP runUnderlying9 rfl rfl rfl a6) ?_;obtain ⟨b,a7,hm⟩:=aC hm
    refine aP (vs:=[str a5,Value.int .u8 44]) call149 rfl (aGX (by_:=(44:UInt8)) a7 a4) ?_
    rintro _ b8 ⟨c,d,rfl,a8⟩
    refine aE (v:=zS c b.length d) (aG (aK (bT (Kt:=K) (xs:=([]:List Int)) (cs:=[]) (vs:=[]) bV iD rfl rfl a8 rfl (by kernel_rfl) rfl rfl rfl trivial (fun y a9 (b9:aI G K (aN 2 K y 0 ([]:List Int)::aN 9 K c d b::L) a9)=>(aE (v:=zS y ([]:List Int).length 0) (aG (aO (aK (aE (v:=i64 0) (aG (aX [] (fun f w=>∃ m z J,wF m=some R/\f 6=zS z m.length J/\aI G K (aN 2 K z J m::L) w) eB ?_)))))))))));obtain ⟨c0,b0,ho⟩:=aC hm
    refine cP [5] b0 (fun e n f w=>∃ j k,f 6=zS j e.length k/\f 7=i64 n/\aI G K (aN 2 K j k e::aN 9 K c d b::L) w) eB ?_
    ·rintro e n b1 f c1 hm hr ⟨j,k,c2,V,o⟩
     unfold wH at hm
     refine aO (aK (bC V (aF (v:=zS c b.length d) (aD (bX (len:=b.length) dE rfl) (aD (cV rfl rfl) (aG ?_))))))
     rcases aH hm with ⟨Z,hm⟩|⟨Z,hm⟩
     ·refine aL Z rfl (aW (aB (aO (dA (aK (aF (v:=zS c b.length d) (bC V ?_)))))));obtain ⟨b2,p,hm⟩:=aC hm
      have b3:=cQ o (i:=1) rfl p
      refine aD (dL dE rfl b3 rfl rfl rfl p) (aD (jV (t:=0) aAU o (i:=1) rfl p rfl rfl rfl) ?_);obtain ⟨g,b4,hm⟩:=aC hm
      refine aP (vs:=[str b2]) call150 rfl (aGk b4 o) ?_
      rintro _ c3 ⟨rfl,c4⟩
      exact aF (v:=Value.tuple #[i64 g.1,zB g.2]) (aD (dC rfl rfl) (aD (dC rfl rfl) (aE (v:=i64 g.1) (aE (v:=zB g.2) (aG (aO (aO (cH [5,6,7,8] (fun f w=>∃ a0,wG e n g a0=some b1/\f 61=zB a0/\aI G K (aN 2 K j k e::aN 9 K c d b::L) w) eB eB))))))))
     ·exact eB
  exact eB
theorem aGY {a:aY} {R:Bool} (hm:aEz a=some R) (b:aI G K (L) w):
  Calls prog 91 ([str a]:List Value).toArray w (eV fun v w'=>v=zB R/\aI G K (L) w'):=by
 exact eB
theorem aGZ {a:(List aY)} {R:Bool} (hm:aEA a=some R) (l:aI G K (L) w) (m:bW K a1 c2 a):
  Calls prog 42 ([zS a1 a.length c2]:List Value).toArray w (eV fun v w'=>v=zB R/\aI G K (L) w'):=by
 refine aR func42 rfl (by kernel_rfl) (by show (1:Nat)<=53;decide) ?_;unfold aEA at hm
 refine aK (aE (v:=zB false) (aG (aO (aO (cH [0] (fun f w=>∃ b,uO a b=some R/\f 17=zB b/\aI G K (L) w) ?_ ?_)))))
 ·rintro f n ⟨b,hm,h,o⟩
  unfold uO at hm
  refine aB ?_
  rcases aH hm with ⟨d,hm⟩|⟨d,hm⟩
  ·exact eB
  ·refine aJ d h (aW (aB (aO (aK (aE (v:=i64 1) (aG (aX [] (fun f w=>aCv=some R/\aI G K (L) w) eB ?_)))))));obtain ⟨p,i,ho⟩:=aC hm
   refine fA [0] i (fun c f w=>f 3=i64 c/\aI G K (L) w) eB ?_
   ·rintro c j f q hm hr ⟨k,r⟩
    unfold yW at hm
    refine aO (aK (bC k (aF (v:=zS a1 a.length c2) (aD (bX (len:=a.length) dE rfl) (aD (cV rfl rfl) (aG ?_))))))
    rcases aH hm with ⟨e,hm⟩|⟨e,hm⟩
    ·exact aL e rfl (aW (aB (aO (dA (aO (cH [0,3] (fun f w=>∃ g,rK c g=some j/\f 52=zB g/\aI G K (L) w) eB eB))))))
    ·exact eB
 exact eB
theorem lB {t:cB} {d:Nat} {R:Bool} (hm:vH t=some R) (hs:aI G K (L) w) (b:dT K a1 d (zC t a4 c5 a7 c8)) (h6:bW K a4 c5 t.L) (h:bW K a7 c8 t.E):
  Calls prog 15 ([cC a1 d]:List Value).toArray w (eV fun v w'=>v=zB R/\aI G K (L) w'):=by
 refine aR func15 rfl (by kernel_rfl) (by show (1:Nat)<=101;decide) ?_;unfold vH at hm
 refine aK (aE (v:=zB false) (aG (aO (aO (cH [0] (fun f w=>∃ l,aAq t l=some R/\f 39=zB l/\aI G K (L) w) ?_ ?_)))))
 ·rintro f b5 ⟨l,hm,J,b6⟩
  unfold aAq at hm
  refine aB ?_
  rcases aH hm with ⟨o,hm⟩|⟨o,hm⟩
  ·exact eB
  ·refine aJ o J (aW (aB (aO (aK (aE (v:=i64 0) (aG (aX [] (fun f w=>aGJ=some R/\aI G K (L) w) eB ?_)))))));obtain ⟨b7,V,ho⟩:=aC hm
   refine fA [0] V (fun e f w=>f 3=i64 e/\aI G K (L) w) eB ?_
   ·rintro e p f b8 hm hr ⟨j,k⟩
    unfold aEC at hm
    refine aO (aK (bC j (aF (v:=cC a1 d) (aD (cA rfl b) (aD (bS (k':=d+3) cM rfl b rfl) (aD (bE (t:=3) eK k b rfl rfl) (aD (bX (len:=t.E.length) cK rfl) (aD (cV rfl rfl) (aG ?_)))))))))
    rcases aH hm with ⟨q,hm⟩|⟨q,hm⟩
    ·refine aL q rfl (aW (aB (aO (dA (aK (aF (v:=cC a1 d) (aD (cA rfl b) (aD (bS (k':=d+3) cM rfl b rfl) (aD (bE (t:=3) eK k b rfl rfl) (bC j ?_))))))))));obtain ⟨a,r,hm⟩:=aC hm
     refine aD (cO cK rfl h rfl rfl rfl r) ?_;obtain ⟨b9,Z,a0⟩:=bW.el (sz:=3) rfl h r
     cases a0
     refine aD (gC (t:=0) (vs:=[i64 a.F,i64 a.B,i64 a.To]) oX k Z rfl rfl rfl) (cI (vs:=[i64 0,i64 0,i64 0]) zeroValue66 k rfl (fun m c0 a2=>(cG (i:=0) (ns:=[i64 a.F,i64 a.B,i64 a.To]) (us:=[i64 a.F,i64 a.B,i64 a.To]) sizeOf66 a2 rfl rfl rfl rfl rfl (dN rfl) rfl rfl (fun a3 (c1:aI G K (box m 66 [i64 a.F,i64 a.B,i64 a.To]::L) a3)=>(aG (aO (aO (cH [0,3,4] (fun f w=>∃ n,aBZ t e a n=some p/\f 87=zB n/\aI G K (box m 66 [i64 a.F,i64 a.B,i64 a.To]::L) w) ?_ ?_))))))))
     ·rintro f c2 ⟨n,hm,a5,u⟩
      unfold aBZ at hm
      refine aB ?_
      rcases aH hm with ⟨x,hm⟩|⟨x,hm⟩
      ·exact eB
      ·refine aJ x a5 (aW (aB (aO (cH [0,3] (fun f w=>∃ y,aEB e y=some p/\f 100=zB y/\aI G K (L) w) eB (aQ (bC j (aD (jU rfl rfl) (aF (v:=zB (decide (0 < e))) ?_))))))))
       rcases aH hm with ⟨c,hm⟩|⟨c,hm⟩
       ·refine bK c rfl rfl (aF (v:=cC a1 d) (bK c rfl rfl (aD (cA rfl b) (bK c rfl rfl (aD (bS (k':=d+3) cM rfl b rfl) (bK c rfl rfl (aD (bE (t:=3) eK u b rfl rfl) (bK c rfl rfl (bC j (bK c rfl rfl (aD (kT rfl rfl) (bK c rfl rfl ?_))))))))))));obtain ⟨c3,z,hm⟩:=aC hm
        refine aD (cO cK rfl h rfl rfl rfl z) ?_;obtain ⟨c4,a6,a8⟩:=bW.el (sz:=3) rfl h z
        cases a8
        refine bK c rfl rfl ?_;obtain ⟨c6,a9,b0,b1,c7⟩:=aI.lendBp u .head
        obtain ⟨c9,b2,hm⟩:=aC hm
        exact aP (vs:=[cC a7 ((wr (e - 1)).toNat * 3+0),cC (some ⟨m,0,none⟩) 0]) call43 rfl (aEI b2 b1 (a6.mono a9) b0) eB
       ·exact eB
     exact eB
    ·exact eB
 exact eB
theorem aAi {a:cB} {e:Nat} {b:cB} {n:Nat} {R:cB} (hm:aAr a b=some R) (hs:aI G K (L) w) (d:dT K a1 e (zC a a4 c5 a7 c8)) (h6:bW K a4 c5 a.L) (h9:bW K a7 c8 a.E) (k:dT K a10 n (zC b a13 c14 a16 c17)) (d2:bW K a13 c14 b.L) (a8:bW K a16 c17 b.E):
  Calls prog 73 ([cC a1 e,cC a10 n]:List Value).toArray w (eV fun v w'=>∃ a9 b0 b1 b2,v=Value.agg (zCa R a9 b0 b1 b2)/\aI G K (aN 9 K a9 b0 R.L::aN 66 K b1 b2 R.E::L) w'):=by
 let g:=zG
 refine aR func73 rfl (by kernel_rfl) (by show (2:Nat)<=88;decide) ?_;unfold aAr at hm
 refine aK (cI (vs:=g) zeroValue27 hs rfl (fun h h0 d3=>(aG (aK (bT (Kt:=K) (xs:=([]:List aY)) (cs:=[]) (vs:=[]) dE oM rfl rfl d3 rfl (by kernel_rfl) rfl rfl rfl trivial (fun d4 d5 (b3:aI G K (aN 9 K d4 0 ([]:List aY)::box h 27 g::L) d5)=>(aF (v:=cC a1 e) (aD (cA rfl d) (aD (bS (k':=e+2) fF rfl d rfl) (aD (bE (t:=2) oF b3 d rfl rfl) ?_))))))))));obtain ⟨J,d6,hm⟩:=aC hm
 refine nG (i:=0) dE underlying24 oM rfl rfl b3 rfl (Hp.le_refl _) h6 d6 rfl rfl rfl rfl (fun V Z d7 (b4:aI G K (aN 9 K V Z J::box h 27 g::L) d7)=>(aE (v:=zS V J.length Z) (aG (aK (aF (v:=zS V J.length Z) (aF (v:=cC a10 n) (aD (cA rfl k) (aD (bS (k':=n+2) fF rfl k rfl) (aD (bE (t:=2) oF b4 k rfl rfl) ?_)))))))));obtain ⟨j,d8,hm⟩:=aC hm
 refine nG (i:=0) dE underlying24 oM rfl rfl b4 rfl (Hp.le_refl _) d2 d8 rfl rfl rfl rfl (fun l m d9 (e0:aI G K (aN 9 K l m j::box h 27 g::L) d9)=>(aE (v:=zS l j.length m) (aG (aK (bT (Kt:=K) (xs:=([]:List Edge)) (cs:=[]) (vs:=[]) cK gP rfl rfl e0 rfl (by kernel_rfl) rfl rfl rfl trivial (fun e1 e2 (b5:aI G K (aN 66 K e1 0 ([]:List Edge)::aN 9 K l m j::box h 27 g::L) e2)=>(aF (v:=cC a1 e) (aD (cA rfl d) (aD (bS (k':=e+3) cM rfl d rfl) (aD (bE (t:=3) eK b5 d rfl rfl) ?_))))))))))
 obtain ⟨b6,e3,hm⟩:=aC hm
 refine nG (i:=0) cK underlying25 gP rfl rfl b5 rfl (Hp.le_refl _) h9 e3 rfl rfl rfl rfl (fun b7 b8 e4 (h1:aI G K (aN 66 K b7 b8 b6::aN 9 K l m j::box h 27 g::L) e4)=>(aE (v:=zS b7 b6.length b8) (aG (aO (aK (aE (v:=i64 0) (aG (aX [0,1,4,5] (fun f w=>∃ y a0 c48,yX a b j y=some R/\f 6=zS a0 y.length c48/\aI G K (aN 66 K a0 c48 y::aN 9 K l m j::box h 27 g::L) w) ?_ ?_))))))))
 ·rintro f h2 ⟨y,a0,c48,hm,h4,b9⟩
  unfold yX at hm
  refine aB (aO (dI (C:=fun w'=>∃ L',aI G K L' w') [(0,0),(1,0),(2,0),(3,0),(4,0),(5,0),(6,0),(7,0),(8,0),(9,0),(10,0),(11,0),(12,0),(13,0),(14,0),(15,1),(16,2)] Tryz_mixed (by kernel_rfl) (fun _ hg=>⟨_,aI.mono b9 hg⟩) (fun h5 e5=>?_)))
  have h7:=aI.mono b9 e5
  exact eB
 obtain ⟨h8,e6,ho⟩:=aC hm
 refine cP [0,1,4,5] e6 (fun o c0 f w=>∃ p q,f 6=zS p o.length q/\f 7=i64 c0/\aI G K (aN 66 K p q o::aN 9 K l m j::box h 27 g::L) w) eB ?_
 ·rintro o c0 i0 f i1 hm hr ⟨p,q,i2,c1,z⟩
  unfold uP at hm
  refine aO (aK (bC c1 (aF (v:=cC a10 n) (aD (cA rfl k) (aD (bS (k':=n+3) cM rfl k rfl) (aD (bE (t:=3) eK z k rfl rfl) (aD (bX (len:=b.E.length) cK rfl) (aD (cV rfl rfl) (aG ?_)))))))))
  rcases aH hm with ⟨c2,hm⟩|⟨c2,hm⟩
  ·refine aL c2 rfl (aW (aB (aO (dA (aK (aF (v:=cC a10 n) (aD (cA rfl k) (aD (bS (k':=n+3) cM rfl k rfl) (aD (bE (t:=3) eK z k rfl rfl) (bC c1 ?_))))))))));obtain ⟨c,c3,hm⟩:=aC hm
   refine aD (cO cK rfl a8 rfl rfl rfl c3) ?_;obtain ⟨i3,e7,e8⟩:=bW.el (sz:=3) rfl a8 c3
   cases e8
   refine aD (gC (t:=0) (vs:=[i64 c.F,i64 c.B,i64 c.To]) oX z e7 rfl rfl rfl) (cI (vs:=[i64 0,i64 0,i64 0]) zeroValue66 z rfl (fun a2 i4 e9=>(cG (i:=0) (ns:=[i64 c.F,i64 c.B,i64 c.To]) (us:=[i64 c.F,i64 c.B,i64 c.To]) sizeOf66 e9 rfl rfl rfl rfl rfl (dN rfl) rfl rfl (fun f0 (f1:aI G K (box a2 66 [i64 c.F,i64 c.B,i64 c.To]::aN 66 K p q o::aN 9 K l m j::box h 27 g::L) f0)=>(aG (aO ?_))))));obtain ⟨f2,a3,f3,c4,f4⟩:=aI.lendBp f1 .head
   refine dI (C:=fun w'=>∃ L',aI G f2 L' w') [(0,0),(1,0),(2,0),(3,0),(4,0),(5,0),(6,0),(7,0),(8,2)] Tryz_mixed (by kernel_rfl) (fun _ hg=>⟨_,aI.mono c4 hg⟩) (fun i5 f5=>?_)
   have r:=aI.mono c4 f5
   refine bL rfl (fun _ _=>bH (t':=0) iY rfl rfl) (bL rfl (fun _ ⟨_,r⟩=>bE (t:=0) cE r f3 rfl rfl) (bL rfl (fun _ _=>aT (v:=cC a1 e) rfl) (bL rfl (fun _ _=>cA rfl (d.mono a3)) (bL rfl (fun _ _=>bS (k':=e+0) cT rfl (d.mono a3) rfl) (bL rfl (fun _ ⟨_,r⟩=>bE (t:=0) cE r (d.mono a3) rfl rfl) (bL rfl (fun _ _=>cL rfl rfl) (bL rfl (fun _ _=>bH (t':=0) iY rfl rfl) ?_)))))))
   have f6:=f4 _ _ r
   refine yH rfl (cG (i:=0) (ns:=[i64 (wr (c.F+a.N))]) (us:=[i64 (wr (c.F+a.N)),i64 c.B,i64 c.To]) sizeOf2 f6 rfl rfl rfl rfl rfl (dN rfl) rfl rfl (fun f7 (f8:aI G K (box a2 66 [i64 (wr (c.F+a.N)),i64 c.B,i64 c.To]::aN 66 K p q o::aN 9 K l m j::box h 27 g::L) f7)=>(aG (gD (aB (aO ?_))))));obtain ⟨f9,a5,g0,c6,g1⟩:=aI.lendBp f8 .head
   refine dI (C:=fun w'=>∃ L',aI G f9 L' w') [(0,0),(1,0),(2,0),(3,0),(4,0),(5,0),(6,0),(7,0),(8,2)] Tryz_mixed (by kernel_rfl) (fun _ hg=>⟨_,aI.mono c6 hg⟩) (fun i6 g2=>?_)
   have u:=aI.mono c6 g2
   refine bL rfl (fun _ _=>bH (t':=2) gY rfl rfl) (bL rfl (fun _ ⟨_,u⟩=>bE (t:=2) cE u g0 rfl rfl) (bL rfl (fun _ _=>aT (v:=cC a1 e) rfl) (bL rfl (fun _ _=>cA rfl (d.mono a5)) (bL rfl (fun _ _=>bS (k':=e+0) cT rfl (d.mono a5) rfl) (bL rfl (fun _ ⟨_,u⟩=>bE (t:=0) cE u (d.mono a5) rfl rfl) (bL rfl (fun _ _=>cL rfl rfl) (bL rfl (fun _ _=>bH (t':=2) gY rfl rfl) ?_)))))))
   have g3:=g1 _ _ u
   refine yH rfl (cG (i:=0) (ns:=[i64 (wr (c.To+a.N))]) (us:=[i64 (wr (c.F+a.N)),i64 c.B,i64 (wr (c.To+a.N))]) sizeOf2 g3 rfl rfl rfl rfl rfl (dN rfl) rfl rfl (fun g4 (g5:aI G K (box a2 66 [i64 (wr (c.F+a.N)),i64 c.B,i64 (wr (c.To+a.N))]::aN 66 K p q o::aN 9 K l m j::box h 27 g::L) g4)=>(aG (gD (aB (aO ?_))))));obtain ⟨g6,a6,g7,c7,g8⟩:=aI.lendBp g5 .head
   refine dI (C:=fun w'=>∃ L',aI G g6 L' w') [(0,0),(1,0),(2,0),(3,0),(4,0),(5,0),(6,0),(7,0),(8,0),(9,2)] Tryz_mixed (by kernel_rfl) (fun _ hg=>⟨_,aI.mono c7 hg⟩) (fun i7 g9=>?_)
   have x:=aI.mono c7 g9
   refine bL rfl (fun _ _=>bH (t':=1) iR rfl rfl) (bL rfl (fun _ ⟨_,x⟩=>bE (t:=1) cE x g7 rfl rfl) (bL rfl (fun _ _=>aT (v:=cC a1 e) rfl) (bL rfl (fun _ _=>cA rfl (d.mono a6)) (bL rfl (fun _ _=>bS (k':=e+2) fF rfl (d.mono a6) rfl) (bL rfl (fun _ ⟨_,x⟩=>bE (t:=2) oF x (d.mono a6) rfl rfl) (bL rfl (fun _ _=>bX (len:=a.L.length) dE rfl) (bL rfl (fun _ _=>cL rfl rfl) (bL rfl (fun _ _=>bH (t':=1) iR rfl rfl) ?_))))))))
   have i8:=g8 _ _ x
   exact eB
  ·exact eB
theorem aHI {t:cB} {a:Nat} {p:(List Int)} {k:Int} {R:(List Int)} (hm:aGa t p k=some R) (hs:aI G K (L) w) (b:dT K a1 a (zC t a4 c5 a7 c8)) (h6:bW K a4 c5 t.L) (o:bW K a7 c8 t.E) (b2:bW K a10 c11 p):
  Calls prog 133 ([cC a1 a,zS a10 p.length c11,i64 k]:List Value).toArray w (eV fun v w'=>∃ q r,v=zS q R.length r/\aI G K (aN 2 K q r R::L) w'):=by
 refine aR func133 rfl (by kernel_rfl) (by show (3:Nat)<=55;decide) ?_;unfold aGa at hm
 refine aK (aE (v:=zS none 0 0) (aG (aK (bT (Kt:=K) (xs:=([]:List Int)) (cs:=[]) (vs:=[]) bV iD rfl rfl hs rfl (by kernel_rfl) rfl rfl rfl trivial (fun u a2 (b3:aI G K (aN 2 K u 0 ([]:List Int)::L) a2)=>(aE (v:=zS u ([]:List Int).length 0) (aG (aO (aK (aE (v:=i64 0) (aG (aX [] (fun f w=>∃ i x y,aDT i=some R/\f 7=zS x i.length y/\aI G K (aN 2 K x y i::L) w) eB ?_))))))))))));obtain ⟨b4,a3,ho⟩:=aC hm
 refine cP [0,1,2] a3 (fun j c f w=>∃ l m,f 7=zS l j.length m/\f 8=i64 c/\aI G K (aN 2 K l m j::L) w) eB ?_
 ·rintro j c a5 f b5 hm hr ⟨l,m,b6,n,d⟩
  unfold qO at hm
  refine aO (aK (bC n (aF (v:=cC a1 a) (aD (cA rfl b) (aD (bS (k':=a+3) cM rfl b rfl) (aD (bE (t:=3) eK d b rfl rfl) (aD (bX (len:=t.E.length) cK rfl) (aD (cV rfl rfl) (aG ?_)))))))))
  rcases aH hm with ⟨z,hm⟩|⟨z,hm⟩
  ·refine aL z rfl (aW (aB (aO (aX [0,1,2,8] (fun f w=>∃ e g h,aBq c e=some a5/\f 7=zS g e.length h/\aI G K (aN 2 K g h e::L) w) ?_ ?_))))
   ·rintro f b7 ⟨e,g,h,hm,a6,a8⟩
    unfold aBq at hm
    exact aB (aQ (bC n (aD (cL rfl rfl) (aE (v:=i64 (wr (c+1))) (aG ⟨_,(zI hm).symm,aM,g,h,a6,rfl,a8⟩)))))
   refine aK (aF (v:=cC a1 a) (aD (cA rfl b) (aD (bS (k':=a+3) cM rfl b rfl) (aD (bE (t:=3) eK d b rfl rfl) (bC n ?_)))));obtain ⟨b8,J,hm⟩:=aC hm
   refine aD (cO cK rfl o rfl rfl rfl J) ?_;obtain ⟨b9,V,a9⟩:=bW.el (sz:=3) rfl o J
   cases a9
   refine aD (bS (k':=c.toNat * 3+0) iY rfl V rfl) (aD (bE (t:=0) cE d V rfl rfl) (aF (v:=i64 k) (aD (dM rfl rfl) (aG ?_))))
   rcases aH hm with ⟨Z,hm⟩|⟨Z,hm⟩
   ·refine aL Z rfl (dI (C:=fun w'=>∃ L',aI G K L' w') [(0,0),(1,0),(2,0),(3,0),(4,0),(5,0),(6,0),(7,0),(8,0),(9,0),(10,0),(11,0),(12,0),(13,0),(14,0),(15,0),(16,0),(17,0),(18,0),(19,0),(20,0),(21,0),(22,0),(23,0),(24,1),(25,0)] Tryz_mixed (by kernel_rfl) (fun _ hg=>⟨_,aI.mono d hg⟩) (fun c0 b0=>?_))
    have c1:=aI.mono d b0
    exact eB
   ·exact eB
  ·exact eB
end Gv
namespace Gv
open Gv.Hp renaming le_refl→zR
open Go.Value renaming slice→zS,bool→zB
open Option.some renaming inj→zI
open Gv.Hp renaming le_trans→zL
open Go Go.Proofs Go.Proofs.Tryz
set_option maxRecDepth 20000
set_option maxHeartbeats 40000000
variable {G:uK} {K:Hp} {L:List gQ} {w:World} {a1 a4 a7 a10 a13 a16 a19:Option Addr} {c5 c8 c11 c14 c17 c20 c2:Nat}
theorem aCg {t:cB} {q:Nat} {p R:(List Int)} (hm:aAJ t p=some R) (hs:aI G K (L) w) (h3:dT K a1 q (zC t a4 c5 a7 c8)) (h6:bW K a4 c5 t.L) (h9:bW K a7 c8 t.E) (Z:bW K a10 c11 p):
  Calls prog 111 ([cC a1 q,zS a10 p.length c11]:List Value).toArray w (eV fun v w'=>∃ d0 d1,v=zS d0 R.length d1/\aI G K (aN 2 K d0 d1 R::L) w'):=by
 refine aR func111 rfl (by kernel_rfl) (by show (2:Nat)<=78;decide) ?_;unfold aAJ at hm
 refine aK (aE (v:=zS none 0 0) (aG (aK (bT (Kt:=K) (xs:=([]:List (List Int))) (cs:=[]) (vs:=[]) eL qL rfl rfl hs rfl (by kernel_rfl) rfl rfl rfl trivial (fun d2 f6 (k6:aI G K (aN 63 K d2 0 ([]:List (List Int))::L) f6)=>(aE (v:=zS d2 ([]:List (List Int)).length 0) (aG (aO (aK (aE (v:=i64 0) (aG (aX [1] (fun f w=>∃ b d h j,Hp.le K b/\nK p d=some R/\f 5=zS h d.length j/\aI G b (aN 63 b h j d::L) w) ?_ ?_))))))))))))
 ·rintro f k7 ⟨b,d,h,j,a2,hm,d3,f7⟩
  unfold nK at hm
  refine aB (aK (bT (Kt:=K) (xs:=([]:List Int)) (cs:=[]) (vs:=[]) bV iD rfl rfl f7 rfl (by kernel_rfl) rfl rfl rfl trivial (fun d4 f8 (k8:aI G b (aN 2 K d4 0 ([]:List Int)::aN 63 b h j d::L) f8)=>(aE (v:=zS d4 ([]:List Int).length 0) (aG (aK (aE (v:=i64 0) (aG (aO (aK (aE (v:=i64 0) (aG (aX [] (fun f w=>∃ b3 d5 d6,aED b3=some R/\f 7=zS d5 b3.length d6/\aI G b (aN 2 K d5 d6 b3::L) w) eB ?_)))))))))))))
  obtain ⟨k9,f9,ho⟩:=aC hm
  refine yL [1,5] f9 (fun e b4 o f w=>∃ k l,f 7=zS k e.length l/\f 8=i64 b4/\f 9=i64 o/\aI G b (aN 2 K k l e::aN 63 b h j d::L) w) eB ?_
  ·rintro e b4 o b5 f l0 hm hr ⟨k,l,l1,l2,a3,l3⟩
   unfold mN at hm
   refine aO (aK (bC a3 (aF (v:=zS a10 p.length c11) (aD (bX (len:=p.length) bV rfl) (aD (cV rfl rfl) (aG ?_))))))
   rcases aH hm with ⟨d7,hm⟩|⟨d7,hm⟩
   ·refine aL d7 rfl (aW (aB (aO (aX [1,5,9] (fun f w=>∃ a5 b6 a6 a8,aBr o a5 b6=some b5/\f 7=zS a6 a5.length a8/\f 8=i64 b6/\aI G b (aN 2 K a6 a8 a5::aN 63 b h j d::L) w) ?_ ?_))))
    ·rintro f l4 ⟨a5,b6,a6,a8,hm,g0,g1,g2⟩
     unfold aBr at hm
     exact aB (aQ (bC a3 (aD (cL rfl rfl) (aE (v:=i64 (wr (o+1))) (aG ⟨_,(zI hm).symm,aM,a6,a8,g0,g1,rfl,g2⟩)))))
    refine aK (aE (v:=i64 (-1)) (aG (aO (aK (aE (v:=i64 0) (aG (aX [1,5,7,8,9] (fun f w=>∃ b7,aBt e b4 o b7=some b5/\f 10=i64 b7/\aI G b (aN 2 K k l e::aN 63 b h j d::L) w) ?_ ?_)))))))
    ·rintro f l5 ⟨b7,hm,l6,l7⟩
     unfold aBt at hm
     exact aB (iQ [1,5,7,9] (fun f w=>∃ d8 d9,aBs e o d8 d9=some b5/\f 8=i64 d8/\f 10=i64 d9/\aI G b (aN 2 K k l e::aN 63 b h j d::L) w) eB eB)
    obtain ⟨l8,g3,ho⟩:=aC hm
    refine cP [1,5,7,8,9] g3 (fun a9 r f w=>f 10=i64 a9/\f 11=i64 r/\aI G b (aN 2 K k l e::aN 63 b h j d::L) w) eB ?_
    ·rintro a9 r b8 f l9 hm hr ⟨m0,b9,m1⟩
     unfold pB at hm
     refine aO (aO (cH [1,5,7,8,9,10,11] (fun f w=>∃ c0,pA p d e o a9 r c0=some b8/\f 41=zB c0/\aI G b (aN 2 K k l e::aN 63 b h j d::L) w) ?_ ?_))
     ·rintro f m2 ⟨c0,hm,g4,g5⟩
      unfold pA at hm
      refine aB ?_
      rcases aH hm with ⟨e0,hm⟩|⟨e0,hm⟩
      ·refine aL e0 g4 (aW (aB (aO (aX [1,5,7,8,9,11] (fun f w=>∃ c1,sK r c1=some b8/\f 10=i64 c1/\aI G b (aN 2 K k l e::aN 63 b h j d::L) w) ?_ ?_))))
       ·rintro f m3 ⟨c1,hm,g6,g7⟩
        unfold sK at hm
        exact aB (aQ (bC b9 (aD (cL rfl rfl) (aE (v:=i64 (wr (r+1))) (aG ⟨_,(zI hm).symm,aM,g6,rfl,g7⟩)))))
       refine aO (cH [1,5,7,8,9,10,11] (fun f w=>∃ e1,sL e a9 r e1=some b8/\f 63=zB e1/\aI G b (aN 2 K k l e::aN 63 b h j d::L) w) eB ?_);obtain ⟨g8,b0,c2,a,e2⟩:=aI.lendSp g5 (zR _) zt1
       refine dR (C:=fun w'=>aI G g8 (aN 2 K k l e::L) w') Tryz_mixed (by kernel_rfl) (aI.mono a (dQ.drew _)) (aU (fun _ a=>aT (v:=zS a10 p.length c11) rfl) (aU (fun _ a=>aT b9) ?_));obtain ⟨g9,e3,hm⟩:=aC hm
       refine aU (fun _ a=>cO bV rfl (Z.mono (zL a2 b0)) rfl rfl rfl e3) ?_;obtain ⟨m4,h0,h1⟩:=bW.el (sz:=1) rfl Z e3
       cases h1
       refine aU (fun _ a=>bE (t:=0) cE a (h0.mono (zL a2 b0)) rfl rfl) (aU (fun _ a=>aT (v:=zS a10 p.length c11) rfl) (aU (fun _ a=>aT a3) ?_));obtain ⟨h2,e4,hm⟩:=aC hm
       refine aU (fun _ a=>cO bV rfl (Z.mono (zL a2 b0)) rfl rfl rfl e4) ?_;obtain ⟨m5,h4,h5⟩:=bW.el (sz:=1) rfl Z e4
       cases h5
       refine aU (fun _ a=>bE (t:=0) cE a (h4.mono (zL a2 b0)) rfl rfl) (aU (fun _ a=>dM rfl rfl) (aU (fun _ a=>aT (v:=zB (g9 == h2)) rfl) ?_))
       rcases aH hm with ⟨c,hm⟩|⟨c,hm⟩
       ·refine bO (g:=53) rfl rfl c (aU (fun _ a=>aT d3) (bO (g:=53) rfl rfl c (aU (fun _ a=>aT b9) (bO (g:=53) rfl rfl c ?_))));obtain ⟨h7,c3,hm⟩:=aC hm
        have e5:=aGC c2 c3
        refine aU (fun _ a=>dL eL rfl e5 rfl rfl rfl c3) (bO (g:=53) rfl rfl c ?_);obtain ⟨m6,h8,i0⟩:=bW.el (sz:=1) rfl c2 c3
        obtain ⟨i1,i2,rfl,i3⟩:=i0
        refine aU (fun _ a=>bE (t:=0) vT a h8 rfl rfl) (bO (g:=53) rfl rfl c (aU (fun _ a=>aT d3) (bO (g:=53) rfl rfl c (aU (fun _ a=>aT a3) (bO (g:=53) rfl rfl c ?_)))));obtain ⟨i4,e6,hm⟩:=aC hm
        refine aU (fun _ a=>dL eL rfl e5 rfl rfl rfl e6) (bO (g:=53) rfl rfl c ?_);obtain ⟨m7,i5,i6⟩:=bW.el (sz:=1) rfl c2 e6
        obtain ⟨i7,i8,rfl,i9⟩:=i6
        refine aU (fun _ a=>bE (t:=0) vT a i5 rfl rfl) (bO (g:=53) rfl rfl c ?_);obtain ⟨e7,j0,hm⟩:=aC hm
        refine kN (vs:=[zS i1 h7.length i2,zS i7 i4.length i8]) (v:=zB e7) call108 rfl (fun _ a=>(wX j0 a i3 i9)) (aU (fun _ a=>bJ (v:=zB e7) c rfl rfl) (dU (fun m8 j1=>?_)))
        have m9:=e2 _ _ j1
        exact eB
       ·refine aV (g:=53) rfl rfl (cW c) (aV (g:=53) rfl rfl (cW c) (aV (g:=53) rfl rfl (cW c) (aV (g:=53) rfl rfl (cW c) (aV (g:=53) rfl rfl (cW c) (aV (g:=53) rfl rfl (cW c) (aV (g:=53) rfl rfl (cW c) (aV (g:=53) rfl rfl (cW c) (aV (g:=53) rfl rfl (cW c) (aU (fun _ a=>bN (v:=zB false) c rfl rfl) (dU (fun n0 j2=>?_)))))))))))
        have n1:=e2 _ _ j2
        exact eB
      ·exact eB
     exact eB
   ·exact eB
 obtain ⟨n2,j3,ho⟩:=aC hm
 refine cP [0,1] j3 (fun u b1 f w=>∃ m x y,Hp.le K m/\f 5=zS x u.length y/\f 6=i64 b1/\aI G m (aN 63 m x y u::L) w) eB ?_
 ·rintro u b1 n3 f n4 hm hr ⟨m,x,y,n,j4,c4,e8⟩
  unfold lK at hm
  refine aO (aK (bC c4 (aF (v:=cC a1 q) (aD (cA rfl (h3.mono n)) (aD (bS (k':=q+0) cT rfl (h3.mono n) rfl) (aD (bE (t:=0) cE e8 (h3.mono n) rfl rfl) (aD (cV rfl rfl) (aG ?_))))))))
  rcases aH hm with ⟨e9,hm⟩|⟨e9,hm⟩
  ·refine aL e9 rfl (aW (aB (aO (dA (aQ (bC j4 (aF (v:=cC a1 q) (aF (v:=zS a10 p.length c11) (bC c4 ?_)))))))));obtain ⟨z,j5,hm⟩:=aC hm
   refine aP (vs:=[cC a1 q,zS a10 p.length c11,i64 b1]) call133 rfl (aHI j5 e8 (h3.mono n) (h6.mono n) (h9.mono n) (Z.mono n)) ?_
   rintro _ j6 ⟨J,V,rfl,j7⟩
   have j8:aI G m (rows [2] ([(J,V)]:List (Dp.Hd (List Int))) [z]::aN 63 m x y u::L) j6:=aI.rowsOne j7
   refine bT (Kt:=K) (xs:=dZ ([(J,V)]:List (Dp.Hd (List Int))) ([z]:List (List Int))) (cs:=[zS J z.length V]) (vs:=[(0,zS J z.length V)]) eL qL rfl rfl j8 rfl (by kernel_rfl) rfl rfl rfl ⟨rfl,trivial⟩ ?_
   intro j9 f0 (k0:aI G m (aN 63 K j9 1 (dZ ([(J,V)]:List (Dp.Hd (List Int))) ([z]:List (List Int)))::rows [2] ([(J,V)]:List (Dp.Hd (List Int))) ([z]:List (List Int))::aN 63 m x y u::L) f0)
   obtain ⟨b2,f1,k1,_,c6,_⟩:=aI.lendD' (i:=0) k0 rfl rfl rfl
   replace c6:aI G b2 (aN 63 m x y u::L) f0:=c6
   obtain ⟨f2,k3,hm⟩:=aC hm
   exact nG (i:=0) eL underlying28 qL rfl rfl c6 rfl f1 k1 k3 rfl rfl rfl rfl (fun c7 c9 k4 (k5:aI G b2 (aN 63 b2 c7 c9 f2::L) k4)=>(aE (v:=zS c7 f2.length c9) (bF (bA (aB (aQ (bC c4 (aD (cL rfl rfl) (aE (v:=i64 (wr (b1+1))) (aG ⟨_,(zI hm).symm,aM,b2,c7,c9,(zL n f1),rfl,rfl,k5⟩))))))))))
  ·exact eB
theorem aGm {t:cB} {a:Nat} {R:((List Int) × Int)} (hm:aCV t=some R) (m:aI G K (L) w) (g:dT K a1 a (zC t a4 c5 a7 c8)) (u:bW K a4 c5 t.L) (x:bW K a7 c8 t.E):
  Calls prog 110 ([cC a1 a]:List Value).toArray w (eV fun v w'=>∃ n o,v=Value.tuple #[zS n R.1.length o,i64 R.2]/\aI G K (aN 2 K n o R.1::L) w'):=by
 refine aR func110 rfl (by kernel_rfl) (by show (1:Nat)<=23;decide) ?_;unfold aCV at hm
 refine aK (aE (v:=zS none 0 0) (aE (v:=i64 0) (aG (aK (aF (v:=cC a1 a) (aD (cA rfl g) (aD (bS (k':=a+0) cT rfl g rfl) (aD (bE (t:=0) cE m g rfl rfl) ?_))))))));obtain ⟨h,y,hm⟩:=aC hm
 refine aHl (e:=(0:Int)) bV iD rfl rfl m rfl rfl rfl y rfl (fun p z (b9:aI G K (aN 2 K p h.length h::L) z)=>(aE (v:=zS p h.length h.length) (aG (aK (aE (v:=i64 0) (aG (dA ?_)))))));obtain ⟨c0,J,ho⟩:=aC hm
 refine cP [0] J (fun b q f w=>∃ c d,f 4=zS c b.length d/\f 5=i64 q/\aI G K (aN 2 K c d b::L) w) eB ?_
 ·rintro b q c1 f c2 hm hr ⟨c,d,r,c3,V⟩
  unfold pC at hm
  refine aO (dA (aK (aF (v:=cC a1 a) (bC r ?_))));obtain ⟨c4,i,Z,a0,a2⟩:=aI.lendSp V (zR _) .head
  obtain ⟨j,a3,hm⟩:=aC hm
  refine aP (vs:=[cC a1 a,zS c b.length d]) call111 rfl (aCg a3 a0 (g.mono i) (u.mono i) (x.mono i) Z) ?_
  rintro _ c6 ⟨k,l,rfl,a5⟩
  have a6:=a2 _ _ a5
  refine aE (v:=zS k j.length l) (aG (aO (aK (aF (v:=zS k j.length l) (bC r ?_)))));obtain ⟨c7,a8,a9,b0,b1⟩:=aI.lendSp a6 (zR _) zt1
  obtain ⟨c9,b2,b3,b4,b5⟩:=aI.lendSp b0 a8 .head
  obtain ⟨d0,b6,hm⟩:=aC hm
  refine aP (vs:=[zS k j.length l,zS c b.length d]) call108 rfl (wX b6 b4 (a9.mono b2) b3) ?_
  rintro _ d1 ⟨rfl,b7⟩
  have b8:=b5 _ _ b7
  have d2:=b1 _ _ b8
  exact eB
theorem aBB {t:cB} {a:Nat} {R:(List Int)} (hm:aCa t=some R) (d:aI G K (L) w) (e:dT K a1 a (zC t a4 c5 a7 c8)) (g:bW K a4 c5 t.L) (h:bW K a7 c8 t.E):
  Calls prog 74 ([cC a1 a]:List Value).toArray w (eV fun v w'=>∃ b c,v=zS b R.length c/\aI G K (aN 2 K b c R::L) w'):=by
 exact eB
theorem aDv {t:cB} {a:Nat} {n:Int} {R:(List Int)} (hm:aCb t n=some R) (g:aI G K (L) w) (c:dT K a1 a (zC t a4 c5 a7 c8)) (y:bW K a4 c5 t.L) (z:bW K a7 c8 t.E):
  Calls prog 75 ([cC a1 a,i64 n]:List Value).toArray w (eV fun v w'=>∃ h i,v=zS h R.length i/\aI G K (aN 2 K h i R::L) w'):=by
 refine aR func75 rfl (by kernel_rfl) (by show (2:Nat)<=19;decide) ?_;unfold aCb at hm
 refine aK (aE (v:=zS none 0 0) (aG (aK (aF (v:=cC a1 a) (aD (cA rfl c) (aD (bS (k':=a+0) cT rfl c rfl) (aD (bE (t:=0) cE g c rfl rfl) ?_)))))));obtain ⟨b,q,hm⟩:=aC hm
 refine aHl (e:=(0:Int)) bV iD rfl rfl g rfl rfl rfl q rfl (fun j r (J:aI G K (aN 2 K j b.length b::L) r)=>(aE (v:=zS j b.length b.length) (aG (aO (aX [] (fun f w=>∃ d k l,aCw d=some R/\f 5=zS k d.length l/\aI G K (aN 2 K k l d::L) w) eB ?_)))));obtain ⟨V,u,ho⟩:=aC hm
 exact cP [0] u (fun x m f w=>∃ o p,f 1=i64 x/\f 5=zS o m.length p/\aI G K (aN 2 K o p m::L) w) eB eB
theorem aBC {a:cB} {q:Nat} {b:cB} {y:Nat} {p:(List Int)} {R:(List (List Int))} (hm:xM a b p=some R) (hs:aI G K (L) w) (r:dT K a1 q (zC a a4 c5 a7 c8)) (h6:bW K a4 c5 a.L) (h9:bW K a7 c8 a.E) (a9:dT K a10 y (zC b a13 c14 a16 c17)) (g8:bW K a13 c14 b.L) (g9:bW K a16 c17 b.E) (z:bW K a19 c20 p):
  Calls prog 76 ([cC a1 q,cC a10 y,zS a19 p.length c20]:List Value).toArray w (eV fun v w'=>∃ K' c2 c3,v=zS c2 R.length c3/\Hp.le K K'/\aI G K' (aN 63 K' c2 c3 R::L) w'):=by
 refine aR func76 rfl (by kernel_rfl) (by show (3:Nat)<=48;decide) ?_;unfold xM at hm
 refine aK (aE (v:=zS none 0 0) (aG (aK (bT (Kt:=K) (xs:=([]:List (List Int))) (cs:=[]) (vs:=[]) eL qL rfl rfl hs rfl (by kernel_rfl) rfl rfl rfl trivial (fun c4 e1 (h0:aI G K (aN 63 K c4 0 ([]:List (List Int))::L) e1)=>(aE (v:=zS c4 ([]:List (List Int)).length 0) (aG (aO (aK (aE (v:=i64 0) (aG (aX [] (fun f w=>∃ b1 b2 c6 c7,Hp.le K b1/\zZ b2=some R/\f 7=zS c6 b2.length c7/\aI G b1 (aN 63 b1 c6 c7 b2::L) w) eB ?_))))))))))))
 obtain ⟨h1,e2,ho⟩:=aC hm
 refine cP [0,1,2] e2 (fun b3 d f w=>∃ n b4 b5,Hp.le K n/\f 7=zS b4 b3.length b5/\f 8=i64 d/\aI G n (aN 63 n b4 b5 b3::L) w) eB ?_
 ·rintro b3 d c9 f h2 hm hr ⟨n,b4,b5,e,h4,J,e3⟩
  unfold lM at hm
  refine aO (aK (bC J (aF (v:=cC a1 q) (aD (cA rfl (r.mono e)) (aD (bS (k':=q+0) cT rfl (r.mono e) rfl) (aD (bE (t:=0) cE e3 (r.mono e) rfl rfl) (aD (cV rfl rfl) (aG ?_))))))))
  rcases aH hm with ⟨d0,hm⟩|⟨d0,hm⟩
  ·refine aL d0 rfl (aW (aB (aO (aX [0,1,2,8] (fun f w=>∃ u V Z a0,Hp.le n u/\aAa d V=some c9/\f 7=zS Z V.length a0/\aI G u (aN 63 u Z a0 V::L) w) ?_ ?_))))
   ·rintro f h5 ⟨u,V,Z,a0,e4,hm,e5,e6⟩
    unfold aAa at hm
    exact aB (aQ (bC J (aD (cL rfl rfl) (aE (v:=i64 (wr (d+1))) (aG ⟨_,(zI hm).symm,aM,u,Z,a0,(zL e e4),e5,rfl,e6⟩)))))
   refine aK (aE (v:=i64 0) (aG (aX [0,1,2,8] (fun f w=>∃ b6 b7 d1 d2,Hp.le n b6/\uD d b7=some c9/\f 7=zS d1 b7.length d2/\aI G b6 (aN 63 b6 d1 d2 b7::L) w) eB ?_)));obtain ⟨h7,e7,ho⟩:=aC hm
   refine cP [0,1,2,8] e7 (fun k g f w=>∃ h l m,Hp.le n h/\f 7=zS l k.length m/\f 9=i64 g/\aI G h (aN 63 h l m k::L) w) eB ?_
   ·rintro k g e8 f h8 hm hr ⟨h,l,m,j,e9,a2,c⟩
    unfold lL at hm
    refine aO (aK (bC a2 (aF (v:=cC a10 y) (aD (cA rfl (a9.mono (zL e j))) (aD (bS (k':=y+0) cT rfl (a9.mono (zL e j)) rfl) (aD (bE (t:=0) cE c (a9.mono (zL e j)) rfl rfl) (aD (cV rfl rfl) (aG ?_))))))))
    rcases aH hm with ⟨d3,hm⟩|⟨d3,hm⟩
    ·refine aL d3 rfl (aW (aB (aO (aX [0,1,2,8,9] (fun f w=>∃ x a3 a5 a6,Hp.le h x/\pX g a3=some e8/\f 7=zS a5 a3.length a6/\aI G x (aN 63 x a5 a6 a3::L) w) ?_ ?_))))
     ·rintro f i0 ⟨x,a3,a5,a6,f0,hm,f1,f2⟩
      unfold pX at hm
      exact aB (aQ (bC a2 (aD (cL rfl rfl) (aE (v:=i64 (wr (g+1))) (aG ⟨_,(zI hm).symm,aM,x,a5,a6,(zL j f0),f1,rfl,f2⟩)))))
     refine aO (dR (C:=fun w'=>aI G h (aN 63 h l m k::L) w') Tryz_mixed (by kernel_rfl) (aI.mono c (dQ.drew _)) (aU (fun _ c=>aT (v:=zS a19 p.length c20) rfl) (aU (fun _ c=>aT J) ?_)));obtain ⟨i1,d4,hm⟩:=aC hm
     refine aU (fun _ c=>cO bV rfl (z.mono (zL e j)) rfl rfl rfl d4) ?_;obtain ⟨i2,f3,f4⟩:=bW.el (sz:=1) rfl z d4
     cases f4
     refine aU (fun _ c=>bE (t:=0) cE c (f3.mono (zL e j)) rfl rfl) (aU (fun _ c=>aT (v:=zS a19 p.length c20) rfl) (aU (fun _ c=>aT (v:=cC a1 q) rfl) (aU (fun _ c=>cA rfl (r.mono (zL e j))) (aU (fun _ c=>bS (k':=q+0) cT rfl (r.mono (zL e j)) rfl) (aU (fun _ c=>bE (t:=0) cE c (r.mono (zL e j)) rfl rfl) (aU (fun _ c=>aT a2) (aU (fun _ c=>cL rfl rfl) ?_)))))));obtain ⟨i3,d5,hm⟩:=aC hm
     refine aU (fun _ c=>cO bV rfl (z.mono (zL e j)) rfl rfl rfl d5) ?_;obtain ⟨i4,f5,f6⟩:=bW.el (sz:=1) rfl z d5
     cases f6
     refine aU (fun _ c=>bE (t:=0) cE c (f5.mono (zL e j)) rfl rfl) (aU (fun _ c=>dM rfl rfl) (dU (fun i5 f7=>(aB ?_))))
     rcases aH hm with ⟨d6,hm⟩|⟨d6,hm⟩
     ·refine aL d6 rfl (aQ (bC e9 (bC J (bC a2 (bT (Kt:=K) (xs:=([d,g]:List Int)) (cs:=[i64 d,i64 g]) (vs:=[(0,i64 d),(1,i64 g)]) bV iD rfl rfl f7 rfl (by kernel_rfl) rfl rfl rfl ⟨rfl,rfl,trivial⟩ (fun o d7 (f8:aI G h (aN 2 K o 2 ([d,g]:List Int)::aN 63 h l m k::L) d7)=>?_))))))
      have f9:aI G h (rows [2] ([(o,2)]:List (Dp.Hd (List Int))) [([d,g]:List Int)]::aN 63 h l m k::L) d7:=aI.rowsOne f8
      refine bT (Kt:=K) (xs:=dZ ([(o,2)]:List (Dp.Hd (List Int))) ([([d,g]:List Int)]:List (List Int))) (cs:=[zS o ([d,g]:List Int).length 2]) (vs:=[(0,zS o ([d,g]:List Int).length 2)]) eL qL rfl rfl f9 rfl (by kernel_rfl) rfl rfl rfl ⟨rfl,trivial⟩ ?_
      intro g0 d8 (g1:aI G h (aN 63 K g0 1 (dZ ([(o,2)]:List (Dp.Hd (List Int))) ([([d,g]:List Int)]:List (List Int)))::rows [2] ([(o,2)]:List (Dp.Hd (List Int))) ([([d,g]:List Int)]:List (List Int))::aN 63 h l m k::L) d8)
      obtain ⟨a8,d9,g2,_,b8,_⟩:=aI.lendD' (i:=0) g1 rfl rfl rfl
      replace b8:aI G a8 (aN 63 h l m k::L) d8:=b8
      obtain ⟨b9,g3,hm⟩:=aC hm
      exact nG (i:=0) eL underlying28 qL rfl rfl b8 rfl d9 g2 g3 rfl rfl rfl rfl (fun c0 c1 g4 (g5:aI G a8 (aN 63 a8 c0 c1 b9::L) g4)=>(aE (v:=zS c0 b9.length c1) (bF (bA (aB ⟨aM,a8,b9,c0,c1,d9,hm,rfl,g5⟩)))))
     ·exact eB
    ·exact eB
  ·exact eB
theorem aFL {a R:(List Int)} (hm:aGb a=some R) (d:aI G K (L) w) (e:bW K a1 c2 a):
  Calls prog 112 ([zS a1 a.length c2]:List Value).toArray w (eV fun v w'=>∃ b c,v=zS b R.length c/\aI G K (aN 2 K b c R::L) w'):=by
 exact eB
theorem aHa {n:Int} {m R:(List Bool)} (hm:aAs n m=some R) (hs:aI G K (aN 4 K a1 c2 m::L) w):
  Calls prog 93 ([i64 n,zS a1 m.length c2]:List Value).toArray w (eV fun v w'=>v=Value.tuple #[]/\m.length=R.length/\aI G K (aN 4 K a1 c2 R::L) w'):=by
 refine aR func93 rfl (by kernel_rfl) (by show (2:Nat)<=59;decide) ?_;unfold aAs at hm
 refine aO (aK (aE (v:=i64 0) (aG (aX [0] (fun f w=>∃ a,sM n a=some R/\f 1=zS a1 a.length c2/\m.length=a.length/\aI G K (aN 4 K a1 c2 a::L) w) ?_ ?_))))
 ·rintro f w6 ⟨a,hm,e5,e9,f0⟩
  unfold sM at hm
  refine aB (aK (aE (v:=i64 0) (aG (aX [] (fun f w=>∃ J,aCx J=some R/\m.length=J.length/\aI G K (aN 4 K a1 c2 J::L) w) eB ?_))));obtain ⟨f1,c1,ho⟩:=aC hm
  refine cP [0] c1 (fun j b f w=>f 1=zS a1 j.length c2/\f 5=i64 b/\m.length=j.length/\aI G K (aN 4 K a1 c2 j::L) w) eB ?_
  ·rintro j b a6 f f2 hm hr ⟨f3,k,f4,f5⟩
   unfold iN at hm
   refine aO (aK (bC k (aF (v:=i64 n) (aD (cV rfl rfl) (aG ?_)))))
   rcases aH hm with ⟨a7,hm⟩|⟨a7,hm⟩
   ·refine aL a7 rfl (aW (aB (aO (aX [0,5] (fun f w=>∃ c,yY b c=some a6/\f 1=zS a1 c.length c2/\m.length=c.length/\aI G K (aN 4 K a1 c2 c::L) w) ?_ ?_))))
    ·rintro f f6 ⟨c,hm,c3,c4,c5⟩
     unfold yY at hm
     exact aB (aQ (bC k (aD (cL rfl rfl) (aE (v:=i64 (wr (b+1))) (aG ⟨_,(zI hm).symm,aM,c3,rfl,c4,c5⟩)))))
    refine aK (aE (v:=i64 0) (aG (aX [0,5] (fun f w=>∃ l,uQ b l=some a6/\f 1=zS a1 l.length c2/\m.length=l.length/\aI G K (aN 4 K a1 c2 l::L) w) eB ?_)));obtain ⟨f7,c6,ho⟩:=aC hm
    refine cP [0,5] c6 (fun o d f w=>f 1=zS a1 o.length c2/\f 6=i64 d/\m.length=o.length/\aI G K (aN 4 K a1 c2 o::L) w) eB ?_
    ·rintro o d a8 f f8 hm hr ⟨c7,p,f9,a9⟩
     unfold iM at hm
     refine aO (aK (bC p (aF (v:=i64 n) (aD (cV rfl rfl) (aG ?_)))))
     rcases aH hm with ⟨b0,hm⟩|⟨b0,hm⟩
     ·refine aL b0 rfl (aW (aB (aO (aX [0,5,6] (fun f w=>∃ e,uR d e=some a8/\f 1=zS a1 e.length c2/\m.length=e.length/\aI G K (aN 4 K a1 c2 e::L) w) ?_ ?_))))
      ·rintro f g0 ⟨e,hm,c8,c9,d0⟩
       unfold uR at hm
       exact aB (aQ (bC p (aD (cL rfl rfl) (aE (v:=i64 (wr (d+1))) (aG ⟨_,(zI hm).symm,aM,c8,rfl,c9,d0⟩)))))
      refine aO (aK (bC c7 (bC p (aF (v:=i64 n) (aD (aCD rfl rfl) (bC k (aD (cL rfl rfl) ?_)))))));obtain ⟨g1,V,hm⟩:=aC hm
      have Z:=cQ a9 (i:=0) rfl V
      refine aD (dL fU rfl Z rfl rfl rfl V) (aD (jV (t:=0) aCH a9 (i:=0) rfl V rfl rfl rfl) (aD (eC rfl) (aG ?_)))
      rcases aH hm with ⟨b1,hm⟩|⟨b1,hm⟩
      ·exact eB
      ·refine aJ b1 rfl (aW (aB (aK (aE (v:=i64 0) (aG (aX [0,5,6] (fun f w=>∃ q,uS d q=some a8/\f 1=zS a1 q.length c2/\m.length=q.length/\aI G K (aN 4 K a1 c2 q::L) w) eB ?_))))));obtain ⟨g2,d1,ho⟩:=aC hm
       refine cP [0,5,6] d1 (fun r u f w=>f 1=zS a1 r.length c2/\f 7=i64 u/\m.length=r.length/\aI G K (aN 4 K a1 c2 r::L) w) eB ?_
       ·rintro r u d2 f g3 hm hr ⟨a0,x,d3,b2⟩
        unfold iL at hm
        refine aO (aK (bC x (aF (v:=i64 n) (aD (cV rfl rfl) (aG ?_)))))
        rcases aH hm with ⟨b3,hm⟩|⟨b3,hm⟩
        ·refine aL b3 rfl (aW (aB (aO (aX [0,5,6,7] (fun f w=>∃ g,uT u g=some d2/\f 1=zS a1 g.length c2/\m.length=g.length/\aI G K (aN 4 K a1 c2 g::L) w) ?_ ?_))))
         ·rintro f g4 ⟨g,hm,d4,d5,d6⟩
          unfold uT at hm
          exact aB (aQ (bC x (aD (cL rfl rfl) (aE (v:=i64 (wr (u+1))) (aG ⟨_,(zI hm).symm,aM,d4,rfl,d5,d6⟩)))))
         refine aK (bC a0 (bC k (aF (v:=i64 n) (aD (aCD rfl rfl) (bC x (aD (cL rfl rfl) ?_))))));obtain ⟨g5,b4,hm⟩:=aC hm
         refine aD (dL fU rfl Z rfl rfl rfl b4) (aD (jV (t:=0) aCH b2 (i:=0) rfl b4 rfl rfl rfl) (aG ?_))
         rcases aH hm with ⟨b5,hm⟩|⟨b5,hm⟩
         ·refine aL b5 rfl (aQ (bC a0 (bC p (aF (v:=i64 n) (aD (aCD rfl rfl) (bC x (aD (cL rfl rfl) ?_)))))));obtain ⟨g6,b6,hm⟩:=aC hm
          refine aD (dL fU rfl Z rfl rfl rfl b6) ?_;obtain ⟨b7,a2,hm⟩:=aC hm
          exact kU (i:=0) (t:=0) (ns:=[zB true]) (e':=(true:Bool)) sizeOf4 b2 rfl (zR _) rfl rfl rfl b6 a2 rfl rfl (dN rfl) rfl (fun cs h=>by cases h;rfl) (fun d7 (d8:aI G K (aN 4 K a1 c2 b7::L) d7)=>(bF (bA (aB ⟨aM,b7,hm,(Eq.trans a0 (congrArg (fun n=>zS a1 n c2) (iC a2))),(d3.trans (iC a2)),d8⟩))))
         ·exact eB
        ·exact eB
     ·exact eB
   ·exact eB
 obtain ⟨g7,d9,ho⟩:=aC hm
 refine cP [0] d9 (fun y a3 f w=>f 1=zS a1 y.length c2/\f 4=i64 a3/\m.length=y.length/\aI G K (aN 4 K a1 c2 y::L) w) eB ?_
 ·rintro y a3 g8 f g9 hm hr ⟨b8,z,e0,b9⟩
  unfold gS at hm
  refine aO (aK (bC z (aF (v:=i64 n) (aD (cV rfl rfl) (aG ?_)))))
  rcases aH hm with ⟨c0,hm⟩|⟨c0,hm⟩
  ·refine aL c0 rfl (aW (aB (aO (dA (aQ (bC b8 (bC z (aF (v:=i64 n) (aD (aCD rfl rfl) (bC z (aD (cL rfl rfl) ?_)))))))))));obtain ⟨h0,a4,hm⟩:=aC hm
   have e1:=cQ b9 (i:=0) rfl a4
   refine aD (dL fU rfl e1 rfl rfl rfl a4) ?_;obtain ⟨e2,a5,hm⟩:=aC hm
   exact kU (i:=0) (t:=0) (ns:=[zB true]) (e':=(true:Bool)) sizeOf4 b9 rfl (zR _) rfl rfl rfl a4 a5 rfl rfl (dN rfl) rfl (fun cs h=>by cases h;rfl) (fun e3 (e4:aI G K (aN 4 K a1 c2 e2::L) e3)=>(bF (bA (aB (aQ (bC z (aD (cL rfl rfl) (aE (v:=i64 (wr (a3+1))) (aG ⟨_,(zI hm).symm,aM,(Eq.trans b8 (congrArg (fun n=>zS a1 n c2) (iC a5))),rfl,(e0.trans (iC a5)),e4⟩)))))))))
  ·exact eB
theorem aAj {t:cB} {d:Nat} {R:(List Bool)} (hm:tO t=some R) (y:aI G K (L) w) (b:dT K a1 d (zC t a4 c5 a7 c8)) (h6:bW K a4 c5 t.L) (p:bW K a7 c8 t.E):
  Calls prog 46 ([cC a1 d]:List Value).toArray w (eV fun v w'=>∃ z J,v=zS z R.length J/\aI G K (aN 4 K z J R::L) w'):=by
 refine aR func46 rfl (by kernel_rfl) (by show (1:Nat)<=57;decide) ?_;unfold tO at hm
 refine aK (aE (v:=zS none 0 0) (aG (aK (aF (v:=cC a1 d) (aD (cA rfl b) (aD (bS (k':=d+0) cT rfl b rfl) (aD (bE (t:=0) cE y b rfl rfl) (aE (v:=i64 t.N) (aG (aK (aF (v:=i64 t.N) (aF (v:=i64 t.N) (aD (aCD rfl rfl) ?_)))))))))))));obtain ⟨a,a6,hm⟩:=aC hm
 refine aHl (e:=(false:Bool)) fU ez_4 rfl rfl y rfl rfl rfl a6 rfl (fun c a8 (c4:aI G K (aN 4 K c a.length a::L) a8)=>(aE (v:=zS c a.length a.length) (aG (aO (aK (aE (v:=i64 0) (aG (aX [3] (fun f w=>∃ l,uU t l=some R/\f 4=zS c l.length a.length/\aI G K (aN 4 K c a.length l::L) w) ?_ ?_))))))))
 ·rintro f c6 ⟨l,hm,V,a9⟩
  unfold uU at hm
  refine aB (aK (aF (v:=i64 t.N) (bC V ?_)));obtain ⟨Z,b0,hm⟩:=aC hm
  refine aP (vs:=[i64 t.N,zS c l.length a.length]) call93 rfl (aHa b0 a9) ?_
  rintro _ c7 ⟨rfl,b1,b2⟩
  refine aG (aK (bC (v:=zS c Z.length a.length) (Eq.trans V (congrArg (fun n=>zS c n a.length) b1)) (aE (v:=zS c Z.length a.length) (aG ?_))));obtain rfl:=zI hm
  exact bM (bI results46 rfl ⟨c,a.length,rfl,b2⟩)
 obtain ⟨c9,b4,ho⟩:=aC hm
 refine cP [0,3] b4 (fun u j f w=>f 4=zS c u.length a.length/\f 5=i64 j/\aI G K (aN 4 K c a.length u::L) w) eB ?_
 ·rintro u j b5 f d0 hm hr ⟨a0,m,o⟩
  unfold iO at hm
  refine aO (aK (bC m (aF (v:=cC a1 d) (aD (cA rfl b) (aD (bS (k':=d+3) cM rfl b rfl) (aD (bE (t:=3) eK o b rfl rfl) (aD (bX (len:=t.E.length) cK rfl) (aD (cV rfl rfl) (aG ?_)))))))))
  rcases aH hm with ⟨c48,hm⟩|⟨c48,hm⟩
  ·refine aL c48 rfl (aW (aB (aO (aX [0,3,5] (fun f w=>∃ q,uV j q=some b5/\f 4=zS c q.length a.length/\aI G K (aN 4 K c a.length q::L) w) ?_ ?_))))
   ·rintro f d1 ⟨q,hm,b6,b7⟩
    unfold uV at hm
    exact aB (aQ (bC m (aD (cL rfl rfl) (aE (v:=i64 (wr (j+1))) (aG ⟨_,(zI hm).symm,aM,b6,rfl,b7⟩)))))
   refine aK (aF (v:=cC a1 d) (aD (cA rfl b) (aD (bS (k':=d+3) cM rfl b rfl) (aD (bE (t:=3) eK o b rfl rfl) (bC m ?_)))));obtain ⟨d2,r,hm⟩:=aC hm
   refine aD (cO cK rfl p rfl rfl rfl r) ?_;obtain ⟨d3,k,b8⟩:=bW.el (sz:=3) rfl p r
   cases b8
   refine aD (bS (k':=j.toNat * 3+1) iR rfl k rfl) (aD (bE (t:=1) cE o k rfl rfl) (aD (dM rfl rfl) (aG ?_)))
   rcases aH hm with ⟨a2,hm⟩|⟨a2,hm⟩
   ·refine aL a2 rfl (dI (C:=fun w'=>∃ L',aI G K L' w') [(0,0),(1,0),(2,0),(3,0),(4,0),(5,0),(6,0),(7,0),(8,0),(9,0),(10,0),(11,0),(12,0),(13,0),(14,0),(15,0),(16,0),(17,0),(18,0),(19,0),(20,0),(21,2)] Tryz_mixed (by kernel_rfl) (fun _ hg=>⟨_,aI.mono o hg⟩) (fun d4 b9=>?_))
    have g:=aI.mono o b9
    refine bL rfl (fun _ _=>aT a0) (bL rfl (fun _ _=>aT (v:=cC a1 d) rfl) (bL rfl (fun _ _=>cA rfl b) (bL rfl (fun _ _=>bS (k':=d+3) cM rfl b rfl) (bL rfl (fun _ ⟨_,g⟩=>bE (t:=3) eK g b rfl rfl) (bL rfl (fun _ _=>aT m) (bL rfl (fun _ _=>cO cK rfl p rfl rfl rfl r) (bL rfl (fun _ _=>bS (k':=j.toNat * 3+0) iY rfl k rfl) (bL rfl (fun _ ⟨_,g⟩=>bE (t:=0) cE g k rfl rfl) (bL rfl (fun _ _=>aT (v:=i64 t.N) rfl) (bL rfl (fun _ _=>aCD rfl rfl) (bL rfl (fun _ _=>aT (v:=cC a1 d) rfl) (bL rfl (fun _ _=>cA rfl b) (bL rfl (fun _ _=>bS (k':=d+3) cM rfl b rfl) (bL rfl (fun _ ⟨_,g⟩=>bE (t:=3) eK g b rfl rfl) (bL rfl (fun _ _=>aT m) (bL rfl (fun _ _=>cO cK rfl p rfl rfl rfl r) (bL rfl (fun _ _=>bS (k':=j.toNat * 3+2) gY rfl k rfl) (bL rfl (fun _ ⟨_,g⟩=>bE (t:=2) cE g k rfl rfl) (bL rfl (fun _ _=>cL rfl rfl) ?_)))))))))))))))))))
    obtain ⟨d5,x,hm⟩:=aC hm
    have c0:=cQ g (i:=0) rfl x
    refine bL rfl (fun _ _=>dL fU rfl c0 rfl rfl rfl x) (yH rfl ?_);obtain ⟨a3,a5,hm⟩:=aC hm
    exact kU (i:=0) (t:=0) (ns:=[zB true]) (e':=(true:Bool)) sizeOf4 g rfl (zR _) rfl rfl rfl x a5 rfl rfl (dN rfl) rfl (fun cs h=>by cases h;rfl) (fun c1 (c2:aI G K (aN 4 K c a.length a3::L) c1)=>(aG (gD (bA (aB ⟨aM,a3,hm,(Eq.trans a0 (congrArg (fun n=>zS c n a.length) (iC a5))),c2⟩)))))
   ·exact eB
  ·exact eB
theorem aEL {t:cB} {g:Nat} {j:(List Bool)} {J V:Int} {R:(List Bool)} (hm:aAK t j J V=some R) (hs:aI G K (L) w) (d:dT K a1 g (zC t a4 c5 a7 c8)) (h6:bW K a4 c5 t.L) (h9:bW K a7 c8 t.E) (o:bW K a10 c11 j):
  Calls prog 94 ([cC a1 g,zS a10 j.length c11,i64 J,i64 V]:List Value).toArray w (eV fun v w'=>∃ b7 b8,v=zS b7 R.length b8/\aI G K (aN 4 K b7 b8 R::L) w'):=by
 refine aR func94 rfl (by kernel_rfl) (by show (4:Nat)<=90;decide) ?_;unfold aAK at hm
 refine aK (aE (v:=zS none 0 0) (aG (aK (aF (v:=cC a1 g) (aD (cA rfl d) (aD (bS (k':=g+0) cT rfl d rfl) (aD (bE (t:=0) cE hs d rfl rfl) (aE (v:=i64 t.N) (aG (aK (aF (v:=i64 t.N) ?_)))))))))));obtain ⟨a,d5,hm⟩:=aC hm
 refine aHl (e:=(false:Bool)) fU ez_4 rfl rfl hs rfl rfl rfl d5 rfl (fun c d6 (g2:aI G K (aN 4 K c a.length a::L) d6)=>(aE (v:=zS c a.length a.length) (aG (aO (aK (aF (v:=i64 V) (aD (dM rfl rfl) (aG ?_))))))))
 rcases aH hm with ⟨Z,hm⟩|⟨Z,hm⟩
 ·refine aL Z rfl (aO (aK (aE (v:=i64 0) (aG (aX [] (fun f w=>∃ a0,aDU a0=some R/\f 10=zS c a0.length a.length/\aI G K (aN 4 K c a.length a0::L) w) eB ?_)))));obtain ⟨g3,d7,ho⟩:=aC hm
  refine cP [1,2,9] d7 (fun a2 a3 f w=>f 10=zS c a2.length a.length/\f 11=i64 a3/\aI G K (aN 4 K c a.length a2::L) w) eB ?_
  ·rintro a2 a3 g4 f g5 hm hr ⟨b9,p,a5⟩
   unfold jF at hm
   refine aO (aK (bC p (aF (v:=i64 t.N) (aD (cV rfl rfl) (aG ?_)))))
   rcases aH hm with ⟨c0,hm⟩|⟨c0,hm⟩
   ·refine aL c0 rfl (aW (aB (aO (dA (aQ (bC b9 (bC p (aF (v:=zS a10 j.length c11) (aF (v:=i64 J) (aF (v:=i64 t.N) (aD (aCD rfl rfl) (bC p (aD (cL rfl rfl) ?_)))))))))))));obtain ⟨c1,c2,hm⟩:=aC hm
    refine aD (cO fU rfl o rfl rfl rfl c2) ?_;obtain ⟨g6,d8,d9⟩:=bW.el (sz:=1) rfl o c2
    cases d9
    refine aD (bE (t:=0) aCH a5 d8 rfl rfl) ?_;obtain ⟨g7,a6,hm⟩:=aC hm
    have e0:=cQ a5 (i:=0) rfl a6
    refine aD (dL fU rfl e0 rfl rfl rfl a6) ?_;obtain ⟨e1,c3,hm⟩:=aC hm
    exact kU (i:=0) (t:=0) (ns:=[zB c1]) (e':=(c1:Bool)) sizeOf4 a5 rfl (zR _) rfl rfl rfl a6 c3 rfl rfl (dN rfl) rfl (fun cs h=>by cases h;rfl) (fun e2 (e3:aI G K (aN 4 K c a.length e1::L) e2)=>(bF (bA (aB (aQ (bC p (aD (cL rfl rfl) (aE (v:=i64 (wr (a3+1))) (aG ⟨_,(zI hm).symm,aM,(Eq.trans b9 (congrArg (fun n=>zS c n a.length) (iC c3))),rfl,e3⟩)))))))))
   ·exact eB
 ·refine aJ Z rfl (aW (aB (aO (aK (aE (v:=i64 0) (aG (aX [] (fun f w=>∃ a8,aDV a8=some R/\f 10=zS c a8.length a.length/\aI G K (aN 4 K c a.length a8::L) w) eB ?_)))))));obtain ⟨g8,e4,ho⟩:=aC hm
  refine cP [0,1,2,3,9] e4 (fun k l f w=>f 10=zS c k.length a.length/\f 12=i64 l/\aI G K (aN 4 K c a.length k::L) w) eB ?_
  ·rintro k l a9 f g9 hm hr ⟨h0,b0,q⟩
   unfold jH at hm
   refine aO (aK (bC b0 (aF (v:=cC a1 g) (aD (cA rfl d) (aD (bS (k':=g+3) cM rfl d rfl) (aD (bE (t:=3) eK q d rfl rfl) (aD (bX (len:=t.E.length) cK rfl) (aD (cV rfl rfl) (aG ?_)))))))))
   rcases aH hm with ⟨c4,hm⟩|⟨c4,hm⟩
   ·refine aL c4 rfl (aW (aB (aO (aX [0,1,2,3,9,12] (fun f w=>∃ r,qP l r=some a9/\f 10=zS c r.length a.length/\aI G K (aN 4 K c a.length r::L) w) ?_ ?_))))
    ·rintro f h1 ⟨r,hm,e5,e6⟩
     unfold qP at hm
     exact aB (aQ (bC b0 (aD (cL rfl rfl) (aE (v:=i64 (wr (l+1))) (aG ⟨_,(zI hm).symm,aM,e5,rfl,e6⟩)))))
    refine aK (aF (v:=cC a1 g) (aD (cA rfl d) (aD (bS (k':=g+3) cM rfl d rfl) (aD (bE (t:=3) eK q d rfl rfl) (bC b0 ?_)))));obtain ⟨b,c6,hm⟩:=aC hm
    refine aD (cO cK rfl h9 rfl rfl rfl c6) ?_;obtain ⟨h2,e7,e8⟩:=bW.el (sz:=3) rfl h9 c6
    cases e8
    refine aD (gC (t:=0) (vs:=[i64 b.F,i64 b.B,i64 b.To]) oX q e7 rfl rfl rfl) (cI (vs:=[i64 0,i64 0,i64 0]) zeroValue66 q rfl (fun m h4 e9=>(cG (i:=0) (ns:=[i64 b.F,i64 b.B,i64 b.To]) (us:=[i64 b.F,i64 b.B,i64 b.To]) sizeOf66 e9 rfl rfl rfl rfl rfl (dN rfl) rfl rfl (fun f0 (h5:aI G K (box m 66 [i64 b.F,i64 b.B,i64 b.To]::aN 4 K c a.length k::L) f0)=>(aG (aO (aO (cH [0,1,2,3,9,10,12,13] (fun f w=>∃ b1,qQ t j k l b b1=some a9/\f 71=zB b1/\aI G K (box m 66 [i64 b.F,i64 b.B,i64 b.To]::aN 4 K c a.length k::L) w) ?_ ?_))))))))
    ·rintro f h7 ⟨b1,hm,f1,h8⟩
     unfold qQ at hm
     refine aB ?_
     rcases aH hm with ⟨c7,hm⟩|⟨c7,hm⟩
     ·exact eB
     ·refine aJ c7 f1 (aW (aB (aK (aE (v:=i64 0) (aG (aX [0,1,2,3,9,12] (fun f w=>∃ b2,xN l b2=some a9/\f 10=zS c b2.length a.length/\aI G K (aN 4 K c a.length b2::L) w) eB ?_))))));obtain ⟨i0,f2,ho⟩:=aC hm
      refine cP [0,1,2,3,9,12,13] f2 (fun b3 u f w=>f 10=zS c b3.length a.length/\f 14=i64 u/\aI G K (box m 66 [i64 b.F,i64 b.B,i64 b.To]::aN 4 K c a.length b3::L) w) eB ?_
      ·rintro b3 u f3 f i1 hm hr ⟨c9,x,y⟩
       unfold jG at hm
       refine aO (aK (bC x (aF (v:=i64 t.N) (aD (cV rfl rfl) (aG ?_)))))
       rcases aH hm with ⟨d0,hm⟩|⟨d0,hm⟩
       ·refine aL d0 rfl (aW (aB (aO (aX [0,1,2,3,9,12,13,14] (fun f w=>∃ z,xO u z=some f3/\f 10=zS c z.length a.length/\aI G K (box m 66 [i64 b.F,i64 b.B,i64 b.To]::aN 4 K c a.length z::L) w) ?_ ?_))))
        ·rintro f i2 ⟨z,hm,f4,f5⟩
         unfold xO at hm
         exact aB (aQ (bC x (aD (cL rfl rfl) (aE (v:=i64 (wr (u+1))) (aG ⟨_,(zI hm).symm,aM,f4,rfl,f5⟩)))))
        refine aK (aF (v:=zS a10 j.length c11) (aD (bH (t':=2) gY rfl rfl) (aD (cR cE y (i:=0) rfl rfl rfl) (aF (v:=i64 t.N) (aD (aCD rfl rfl) (bC x (aD (cL rfl rfl) ?_)))))));obtain ⟨i3,d1,hm⟩:=aC hm
        refine aD (cO fU rfl o rfl rfl rfl d1) ?_;obtain ⟨i4,f6,f7⟩:=bW.el (sz:=1) rfl o d1
        cases f7
        refine aD (bE (t:=0) aCH y f6 rfl rfl) (aG ?_)
        rcases aH hm with ⟨d2,hm⟩|⟨d2,hm⟩
        ·refine aL d2 rfl (aQ (bC c9 (bC x ?_)));obtain ⟨i5,b4,hm⟩:=aC hm
         have f8:=cQ y (i:=1) rfl b4
         refine aD (dL fU rfl f8 rfl rfl rfl b4) ?_;obtain ⟨d3,d4,hm⟩:=aC hm
         exact kU (i:=1) (t:=0) (ns:=[zB true]) (e':=(true:Bool)) sizeOf4 y rfl (zR _) rfl rfl rfl b4 d4 rfl rfl (dN rfl) rfl (fun cs h=>by cases h;rfl) (fun f9 (g0:aI G K (box m 66 [i64 b.F,i64 b.B,i64 b.To]::aN 4 K c a.length d3::L) f9)=>(bF (bA (aB ⟨aM,d3,hm,(Eq.trans c9 (congrArg (fun n=>zS c n a.length) (iC d4))),g0⟩))))
        ·exact eB
       ·exact eB
    exact eB
   ·exact eB
theorem aEM {t:cB} {m:Nat} {R:cB} (hm:yZ t=some R) (hs:aI G K (L) w) (l:dT K a1 m (zC t a4 c5 a7 c8)) (r:bW K a4 c5 t.L) (h9:bW K a7 c8 t.E):
  Calls prog 113 ([cC a1 m]:List Value).toArray w (eV fun v w'=>∃ j8 j9 k0 k1,v=Value.agg (zCa R j8 j9 k0 k1)/\aI G K (aN 9 K j8 j9 R.L::aN 66 K k0 k1 R.E::L) w'):=by
 let a:=zG
 refine aR func113 rfl (by kernel_rfl) (by show (1:Nat)<=71;decide) ?_;unfold yZ at hm
 refine aK (cI (vs:=a) zeroValue27 hs rfl (fun b u7 n5=>(aG (aO (cH [0,2] (fun f w=>∃ d u e g f4 f5,vI t d=some R/\f 3=Value.pointer (some ⟨u,0,none⟩)/\aI G K (aN 66 K f4 f5 ([]:List Edge)::aN 9 K e g d::box u 27 [i64 t.N,i64 t.I,zS e d.length g,zS f4 ([]:List Edge).length f5]::box b 27 a::L) w) ?_ ?_)))))
 ·rintro f u8 ⟨d,u,e,g,f4,f5,hm,u9,n6⟩
  unfold vI at hm
  refine aB (aK (aF (v:=cC a1 m) ?_));obtain ⟨x,n7,hm⟩:=aC hm
  refine aP (vs:=[cC a1 m]) call46 rfl (aAj n7 n6 l r h9) ?_
  rintro _ v0 ⟨y,z,rfl,v1⟩
  refine aE (v:=zS y x.length z) (aG (aO (aK (aE (v:=i64 0) (aG (aX [2,3] (fun f w=>∃ f6 k3 k4,xP t d f6=some R/\aI G K (aN 66 K k3 k4 f6::aN 9 K e g d::box u 27 [i64 t.N,i64 t.I,zS e d.length g,zS k3 f6.length k4]::box b 27 a::L) w) eB ?_))))));obtain ⟨v2,n8,ho⟩:=aC hm
  refine cP [0,2,3,4] n8 (fun f7 e0 f w=>∃ f8 c48,f 5=i64 e0/\aI G K (aN 4 K y z x::aN 66 K f8 c48 f7::aN 9 K e g d::box u 27 [i64 t.N,i64 t.I,zS e d.length g,zS f8 f7.length c48]::box b 27 a::L) w) eB ?_
  ·rintro f7 e0 k5 f v3 hm hr ⟨f8,c48,f9,n9⟩
   unfold mA at hm
   refine aO (aK (bC f9 (aF (v:=cC a1 m) (aD (cA rfl l) (aD (bS (k':=m+0) cT rfl l rfl) (aD (bE (t:=0) cE n9 l rfl rfl) (aD (cV rfl rfl) (aG ?_))))))))
   rcases aH hm with ⟨k6,hm⟩|⟨k6,hm⟩
   ·refine aL k6 rfl (aW (aB (aO (aX [0,2,3,4,5] (fun f w=>∃ e3 e4 e5,xQ e0 e3=some k5/\aI G K (aN 66 K e4 e5 e3::aN 4 K y z x::aN 9 K e g d::box u 27 [i64 t.N,i64 t.I,zS e d.length g,zS e4 e3.length e5]::box b 27 a::L) w) ?_ ?_))))
    ·rintro f v4 ⟨e3,e4,e5,hm,o0⟩
     unfold xQ at hm
     exact aB (aQ (bC f9 (aD (cL rfl rfl) (aE (v:=i64 (wr (e0+1))) (aG ⟨_,(zI hm).symm,aM,e4,e5,rfl,(aI.arr 2 [1,0] o0 rfl)⟩)))))
    refine aK (aE (v:=i64 0) (aG (aX [0,2,3,4,5] (fun f w=>∃ g0 k7 k8,sO e0 g0=some k5/\aI G K (aN 66 K k7 k8 g0::aN 4 K y z x::aN 9 K e g d::box u 27 [i64 t.N,i64 t.I,zS e d.length g,zS k7 g0.length k8]::box b 27 a::L) w) eB ?_)));obtain ⟨v5,o1,ho⟩:=aC hm
    refine cP [0,2,3,4,5] o1 (fun g1 e1 f w=>∃ g2 g3,f 6=i64 e1/\aI G K (aN 4 K y z x::aN 66 K g2 g3 g1::aN 9 K e g d::box u 27 [i64 t.N,i64 t.I,zS e d.length g,zS g2 g1.length g3]::box b 27 a::L) w) eB ?_
    ·rintro g1 e1 k9 f v6 hm hr ⟨g2,g3,g4,l0⟩
     unfold lZ at hm
     refine aO (aK (bC g4 (aF (v:=cC a1 m) (aD (cA rfl l) (aD (bS (k':=m+2) fF rfl l rfl) (aD (bE (t:=2) oF l0 l rfl rfl) (aD (bX (len:=t.L.length) dE rfl) (aD (cV rfl rfl) (aG ?_)))))))))
     rcases aH hm with ⟨l1,hm⟩|⟨l1,hm⟩
     ·refine aL l1 rfl (aW (aB (aO (aX [0,2,3,4,5,6] (fun f w=>∃ e6 e7 e8,xR e1 e6=some k9/\aI G K (aN 66 K e7 e8 e6::aN 4 K y z x::aN 9 K e g d::box u 27 [i64 t.N,i64 t.I,zS e d.length g,zS e7 e6.length e8]::box b 27 a::L) w) ?_ ?_))))
      ·rintro f v7 ⟨e6,e7,e8,hm,o2⟩
       unfold xR at hm
       exact aB (aQ (bC g4 (aD (cL rfl rfl) (aE (v:=i64 (wr (e1+1))) (aG ⟨_,(zI hm).symm,aM,e7,e8,rfl,(aI.arr 2 [1,0] o2 rfl)⟩)))))
      refine aK (aF (v:=cC a1 m) (aF (v:=zS y x.length z) (bC f9 (bC g4 ?_))));obtain ⟨v8,g5,o3,o4,o5⟩:=aI.lendSp l0 (zR _) .head
      obtain ⟨g6,o6,hm⟩:=aC hm
      refine aP (vs:=[cC a1 m,zS y x.length z,i64 e0,i64 e1]) call94 rfl (aEL o6 o4 (l.mono g5) (r.mono g5) (h9.mono g5) o3) ?_
      rintro _ v9 ⟨g7,g8,rfl,o7⟩
      have w0:=o5 _ _ o7
      refine aE (v:=zS g7 g6.length g8) (aG (aK (aE (v:=i64 0) (aG (aX [0,2,3,4,5,6] (fun f w=>∃ g9 l2 l3,sP e1 g9=some k9/\aI G K (aN 66 K l2 l3 g9::aN 4 K y z x::aN 9 K e g d::box u 27 [i64 t.N,i64 t.I,zS e d.length g,zS l2 g9.length l3]::box b 27 a::L) w) eB ?_)))));obtain ⟨w1,o8,ho⟩:=aC hm
      refine cP [0,2,3,4,5,6,7] o8 (fun h0 e9 f w=>∃ h1 h2,f 8=i64 e9/\aI G K (aN 4 K y z x::aN 4 K g7 g8 g6::aN 66 K h1 h2 h0::aN 9 K e g d::box u 27 [i64 t.N,i64 t.I,zS e d.length g,zS h1 h0.length h2]::box b 27 a::L) w) eB ?_
      ·rintro h0 e9 o9 f w2 hm hr ⟨h1,h2,l4,p0⟩
       unfold lY at hm
       refine aO (aK (bC l4 (aF (v:=cC a1 m) (aD (cA rfl l) (aD (bS (k':=m+0) cT rfl l rfl) (aD (bE (t:=0) cE p0 l rfl rfl) (aD (cV rfl rfl) (aG ?_))))))))
       rcases aH hm with ⟨l5,hm⟩|⟨l5,hm⟩
       ·refine aL l5 rfl (aW (aB (aO (aX [0,2,3,4,5,6,7,8] (fun f w=>∃ f0 f1 f2,sQ e9 f0=some o9/\aI G K (aN 66 K f1 f2 f0::aN 4 K y z x::aN 4 K g7 g8 g6::aN 9 K e g d::box u 27 [i64 t.N,i64 t.I,zS e d.length g,zS f1 f0.length f2]::box b 27 a::L) w) ?_ ?_))))
        ·rintro f w3 ⟨f0,f1,f2,hm,p1⟩
         unfold sQ at hm
         exact aB (aQ (bC l4 (aD (cL rfl rfl) (aE (v:=i64 (wr (e9+1))) (aG ⟨_,(zI hm).symm,aM,f1,f2,rfl,(aI.arr 3 [1,2,0] p1 rfl)⟩)))))
        exact eB
       ·exact eB
     ·exact eB
   ·exact eB
 refine aMa (C:=fun w'=>∃ L',aI G K L' w') [17] Tryz_mixed (by kernel_rfl) (fun w4 p2=>?_)
 have h:=aI.mono n5 p2
 refine yN (i:=0) rfl (by kernel_rfl) ⟨_,h⟩ (fun _ _=>aT (v:=cC a1 m) rfl) (yN (i:=1) rfl (by kernel_rfl) ⟨_,h⟩ (fun _ _=>cA rfl l) (yN (i:=2) rfl (by kernel_rfl) ⟨_,h⟩ (fun _ _=>bS (k':=m+0) cT rfl l rfl) (yN (i:=3) rfl (by kernel_rfl) ⟨_,h⟩ (fun _ ⟨_,h⟩=>bE (t:=0) cE h l rfl rfl) (yN (i:=4) rfl (by kernel_rfl) ⟨_,h⟩ (fun _ _=>aT (v:=cC a1 m) rfl) (yN (i:=5) rfl (by kernel_rfl) ⟨_,h⟩ (fun _ _=>cA rfl l) (yN (i:=6) rfl (by kernel_rfl) ⟨_,h⟩ (fun _ _=>bS (k':=m+1) oC rfl l rfl) (yN (i:=7) rfl (by kernel_rfl) ⟨_,h⟩ (fun _ ⟨_,h⟩=>bE (t:=1) cE h l rfl rfl) (yN (i:=9) rfl (by kernel_rfl) ⟨_,h⟩ (fun _ _=>aT (v:=cC a1 m) rfl) (yN (i:=10) rfl (by kernel_rfl) ⟨_,h⟩ (fun _ _=>cA rfl l) (yN (i:=11) rfl (by kernel_rfl) ⟨_,h⟩ (fun _ _=>bS (k':=m+2) fF rfl l rfl) (yN (i:=12) rfl (by kernel_rfl) ⟨_,h⟩ (fun _ ⟨_,h⟩=>bE (t:=2) oF h l rfl rfl) (WA_act3 (i:=8) (j:=14) (k:=16) (by kernel_rfl) rfl rfl rfl ?_ ?_ ?_))))))))))))
 ·refine bT (Kt:=K) (xs:=([]:List aY)) (cs:=[]) (vs:=[]) dE oM rfl rfl h rfl (by kernel_rfl) rfl rfl rfl trivial (fun h4 p3 (f3:aI G K (aN 9 K h4 0 ([]:List aY)::box b 27 a::L) p3)=>(bF (aB ⟨fun _=>⟨_,f3⟩,?_⟩)))
  refine WA_act3 (i:=13) (j:=14) (k:=16) (by kernel_rfl) rfl rfl rfl ?_ ?_ ?_
  ·obtain ⟨n,p4,hm⟩:=aC hm
   refine nG (i:=0) dE underlying24 oM rfl rfl f3 rfl (zR _) r p4 rfl rfl rfl rfl (fun o p p5 (h5:aI G K (aN 9 K o p n::box b 27 a::L) p5)=>(bF (aB ⟨fun _=>⟨_,h5⟩,?_⟩)))
   refine aFh (i:=14) (j:=16) (by kernel_rfl) rfl rfl ?_ ?_
   ·refine bT (Kt:=K) (xs:=([]:List Edge)) (cs:=[]) (vs:=[]) cK gP rfl rfl h5 rfl (by kernel_rfl) rfl rfl rfl trivial (fun b0 p6 (h7:aI G K (aN 66 K b0 0 ([]:List Edge)::aN 9 K o p n::box b 27 a::L) p6)=>(bF (aB ⟨fun _=>⟨_,h7⟩,?_⟩)))
    refine yN (i:=15) rfl (by kernel_rfl) ⟨_,h7⟩ (fun _ _=>gW (vs:=[(0,i64 t.N),(1,i64 t.I),(2,zS o n.length p),(3,zS b0 ([]:List Edge).length 0)]) (cs:=[i64 t.N,i64 t.I,zS o n.length p,zS b0 ([]:List Edge).length 0]) aCG rfl (by kernel_rfl)) (gX (i:=16) (by kernel_rfl) rfl (cI (vs:=a) zeroValue27 h7 rfl (fun p7 w5 l6=>(bF (aB ⟨fun _=>⟨_,l6⟩,?_⟩)))))
    refine gX (i:=17) (by kernel_rfl) rfl (cG (i:=0) (ns:=[i64 t.N,i64 t.I,zS o n.length p,zS b0 ([]:List Edge).length 0]) (us:=[i64 t.N,i64 t.I,zS o n.length p,zS b0 ([]:List Edge).length 0]) sizeOf27 l6 rfl rfl rfl rfl rfl (dN rfl) rfl rfl (fun p8 (w6:aI G K (box p7 27 [i64 t.N,i64 t.I,zS o n.length p,zS b0 ([]:List Edge).length 0]::aN 66 K b0 0 ([]:List Edge)::aN 9 K o p n::box b 27 a::L) p8)=>(bF (aB ⟨aIV rfl,?_⟩))))
    exact vG (by kernel_rfl) eB
   ·refine cI (vs:=a) zeroValue27 h5 rfl (fun l7 w7 l8=>(bF (aB ⟨fun _=>⟨_,l8⟩,?_⟩)))
    refine gX (i:=14) (by kernel_rfl) rfl (bT (Kt:=K) (xs:=([]:List Edge)) (cs:=[]) (vs:=[]) cK gP rfl rfl l8 rfl (by kernel_rfl) rfl rfl rfl trivial (fun b1 p9 (h8:aI G K (aN 66 K b1 0 ([]:List Edge)::box l7 27 a::aN 9 K o p n::box b 27 a::L) p9)=>(bF (aB ⟨fun _=>⟨_,h8⟩,?_⟩))))
    refine yN (i:=15) rfl (by kernel_rfl) ⟨_,h8⟩ (fun _ _=>gW (vs:=[(0,i64 t.N),(1,i64 t.I),(2,zS o n.length p),(3,zS b1 ([]:List Edge).length 0)]) (cs:=[i64 t.N,i64 t.I,zS o n.length p,zS b1 ([]:List Edge).length 0]) aCG rfl (by kernel_rfl)) (gX (i:=17) (by kernel_rfl) rfl (cG (i:=1) (ns:=[i64 t.N,i64 t.I,zS o n.length p,zS b1 ([]:List Edge).length 0]) (us:=[i64 t.N,i64 t.I,zS o n.length p,zS b1 ([]:List Edge).length 0]) sizeOf27 h8 rfl rfl rfl rfl rfl (dN rfl) rfl rfl (fun q0 (w8:aI G K (aN 66 K b1 0 ([]:List Edge)::box l7 27 [i64 t.N,i64 t.I,zS o n.length p,zS b1 ([]:List Edge).length 0]::aN 9 K o p n::box b 27 a::L) q0)=>(bF (aB ⟨aIV rfl,?_⟩)))))
    exact vG (by kernel_rfl) eB
  ·refine bT (Kt:=K) (xs:=([]:List Edge)) (cs:=[]) (vs:=[]) cK gP rfl rfl f3 rfl (by kernel_rfl) rfl rfl rfl trivial (fun q q1 (i0:aI G K (aN 66 K q 0 ([]:List Edge)::aN 9 K h4 0 ([]:List aY)::box b 27 a::L) q1)=>(bF (aB ⟨fun _=>⟨_,i0⟩,?_⟩)))
   refine aFh (i:=13) (j:=16) (by kernel_rfl) rfl rfl ?_ ?_
   ·obtain ⟨b2,q2,hm⟩:=aC hm
    refine nG (i:=1) dE underlying24 oM rfl rfl i0 rfl (zR _) r q2 rfl rfl rfl rfl (fun b3 b4 q3 (i1:aI G K (aN 66 K q 0 ([]:List Edge)::aN 9 K b3 b4 b2::box b 27 a::L) q3)=>(bF (aB ⟨fun _=>⟨_,i1⟩,?_⟩)))
    refine yN (i:=15) rfl (by kernel_rfl) ⟨_,i1⟩ (fun _ _=>gW (vs:=[(0,i64 t.N),(1,i64 t.I),(2,zS b3 b2.length b4),(3,zS q ([]:List Edge).length 0)]) (cs:=[i64 t.N,i64 t.I,zS b3 b2.length b4,zS q ([]:List Edge).length 0]) aCG rfl (by kernel_rfl)) (gX (i:=16) (by kernel_rfl) rfl (cI (vs:=a) zeroValue27 i1 rfl (fun q4 w9 l9=>(bF (aB ⟨fun _=>⟨_,l9⟩,?_⟩)))))
    refine gX (i:=17) (by kernel_rfl) rfl (cG (i:=0) (ns:=[i64 t.N,i64 t.I,zS b3 b2.length b4,zS q ([]:List Edge).length 0]) (us:=[i64 t.N,i64 t.I,zS b3 b2.length b4,zS q ([]:List Edge).length 0]) sizeOf27 l9 rfl rfl rfl rfl rfl (dN rfl) rfl rfl (fun q5 (x0:aI G K (box q4 27 [i64 t.N,i64 t.I,zS b3 b2.length b4,zS q ([]:List Edge).length 0]::aN 66 K q 0 ([]:List Edge)::aN 9 K b3 b4 b2::box b 27 a::L) q5)=>(bF (aB ⟨aIV rfl,?_⟩))))
    exact vG (by kernel_rfl) eB
   ·refine cI (vs:=a) zeroValue27 i0 rfl (fun m0 x1 m1=>(bF (aB ⟨fun _=>⟨_,m1⟩,?_⟩)))
    refine gX (i:=13) (by kernel_rfl) rfl ?_;obtain ⟨b5,q6,hm⟩:=aC hm
    refine nG (i:=2) dE underlying24 oM rfl rfl m1 rfl (zR _) r q6 rfl rfl rfl rfl (fun b6 b7 q7 (i2:aI G K (box m0 27 a::aN 66 K q 0 ([]:List Edge)::aN 9 K b6 b7 b5::box b 27 a::L) q7)=>(bF (aB ⟨fun _=>⟨_,i2⟩,?_⟩)))
    refine yN (i:=15) rfl (by kernel_rfl) ⟨_,i2⟩ (fun _ _=>gW (vs:=[(0,i64 t.N),(1,i64 t.I),(2,zS b6 b5.length b7),(3,zS q ([]:List Edge).length 0)]) (cs:=[i64 t.N,i64 t.I,zS b6 b5.length b7,zS q ([]:List Edge).length 0]) aCG rfl (by kernel_rfl)) (gX (i:=17) (by kernel_rfl) rfl (cG (i:=0) (ns:=[i64 t.N,i64 t.I,zS b6 b5.length b7,zS q ([]:List Edge).length 0]) (us:=[i64 t.N,i64 t.I,zS b6 b5.length b7,zS q ([]:List Edge).length 0]) sizeOf27 i2 rfl rfl rfl rfl rfl (dN rfl) rfl rfl (fun q8 (x2:aI G K (box m0 27 [i64 t.N,i64 t.I,zS b6 b5.length b7,zS q ([]:List Edge).length 0]::aN 66 K q 0 ([]:List Edge)::aN 9 K b6 b7 b5::box b 27 a::L) q8)=>(bF (aB ⟨aIV rfl,?_⟩)))))
    exact vG (by kernel_rfl) eB
  ·refine cI (vs:=a) zeroValue27 f3 rfl (fun e2 x3 i3=>(bF (aB ⟨fun _=>⟨_,i3⟩,?_⟩)))
   refine aFh (i:=13) (j:=14) (by kernel_rfl) rfl rfl ?_ ?_
   ·obtain ⟨Z,q9,hm⟩:=aC hm
    refine nG (i:=1) dE underlying24 oM rfl rfl i3 rfl (zR _) r q9 rfl rfl rfl rfl (fun a0 a2 r0 (m2:aI G K (box e2 27 a::aN 9 K a0 a2 Z::box b 27 a::L) r0)=>(bF (aB ⟨fun _=>⟨_,m2⟩,?_⟩)))
    refine gX (i:=14) (by kernel_rfl) rfl (bT (Kt:=K) (xs:=([]:List Edge)) (cs:=[]) (vs:=[]) cK gP rfl rfl m2 rfl (by kernel_rfl) rfl rfl rfl trivial (fun b8 r1 (i4:aI G K (aN 66 K b8 0 ([]:List Edge)::box e2 27 a::aN 9 K a0 a2 Z::box b 27 a::L) r1)=>(bF (aB ⟨fun _=>⟨_,i4⟩,?_⟩))))
    refine yN (i:=15) rfl (by kernel_rfl) ⟨_,i4⟩ (fun _ _=>gW (vs:=[(0,i64 t.N),(1,i64 t.I),(2,zS a0 Z.length a2),(3,zS b8 ([]:List Edge).length 0)]) (cs:=[i64 t.N,i64 t.I,zS a0 Z.length a2,zS b8 ([]:List Edge).length 0]) aCG rfl (by kernel_rfl)) (gX (i:=17) (by kernel_rfl) rfl (cG (i:=1) (ns:=[i64 t.N,i64 t.I,zS a0 Z.length a2,zS b8 ([]:List Edge).length 0]) (us:=[i64 t.N,i64 t.I,zS a0 Z.length a2,zS b8 ([]:List Edge).length 0]) sizeOf27 i4 rfl rfl rfl rfl rfl (dN rfl) rfl rfl (fun r2 (x4:aI G K (aN 66 K b8 0 ([]:List Edge)::box e2 27 [i64 t.N,i64 t.I,zS a0 Z.length a2,zS b8 ([]:List Edge).length 0]::aN 9 K a0 a2 Z::box b 27 a::L) r2)=>(bF (aB ⟨aIV rfl,?_⟩)))))
    exact vG (by kernel_rfl) eB
   ·refine bT (Kt:=K) (xs:=([]:List Edge)) (cs:=[]) (vs:=[]) cK gP rfl rfl i3 rfl (by kernel_rfl) rfl rfl rfl trivial (fun a3 r3 (m3:aI G K (aN 66 K a3 0 ([]:List Edge)::box e2 27 a::aN 9 K h4 0 ([]:List aY)::box b 27 a::L) r3)=>(bF (aB ⟨fun _=>⟨_,m3⟩,?_⟩)))
    refine gX (i:=13) (by kernel_rfl) rfl ?_;obtain ⟨b9,r4,hm⟩:=aC hm
    refine nG (i:=2) dE underlying24 oM rfl rfl m3 rfl (zR _) r r4 rfl rfl rfl rfl (fun c0 c1 r5 (i5:aI G K (aN 66 K a3 0 ([]:List Edge)::box e2 27 a::aN 9 K c0 c1 b9::box b 27 a::L) r5)=>(bF (aB ⟨fun _=>⟨_,i5⟩,?_⟩)))
    refine yN (i:=15) rfl (by kernel_rfl) ⟨_,i5⟩ (fun _ _=>gW (vs:=[(0,i64 t.N),(1,i64 t.I),(2,zS c0 b9.length c1),(3,zS a3 ([]:List Edge).length 0)]) (cs:=[i64 t.N,i64 t.I,zS c0 b9.length c1,zS a3 ([]:List Edge).length 0]) aCG rfl (by kernel_rfl)) (gX (i:=17) (by kernel_rfl) rfl (cG (i:=1) (ns:=[i64 t.N,i64 t.I,zS c0 b9.length c1,zS a3 ([]:List Edge).length 0]) (us:=[i64 t.N,i64 t.I,zS c0 b9.length c1,zS a3 ([]:List Edge).length 0]) sizeOf27 i5 rfl rfl rfl rfl rfl (dN rfl) rfl rfl (fun r6 (x5:aI G K (aN 66 K a3 0 ([]:List Edge)::box e2 27 [i64 t.N,i64 t.I,zS c0 b9.length c1,zS a3 ([]:List Edge).length 0]::aN 9 K c0 c1 b9::box b 27 a::L) r6)=>(bF (aB ⟨aIV rfl,?_⟩)))))
    exact vG (by kernel_rfl) eB
 ·refine bT (Kt:=K) (xs:=([]:List Edge)) (cs:=[]) (vs:=[]) cK gP rfl rfl h rfl (by kernel_rfl) rfl rfl rfl trivial (fun c r7 (i6:aI G K (aN 66 K c 0 ([]:List Edge)::box b 27 a::L) r7)=>(bF (aB ⟨fun _=>⟨_,i6⟩,?_⟩)))
  refine aFh (i:=8) (j:=16) (by kernel_rfl) rfl rfl ?_ ?_
  ·refine bT (Kt:=K) (xs:=([]:List aY)) (cs:=[]) (vs:=[]) dE oM rfl rfl i6 rfl (by kernel_rfl) rfl rfl rfl trivial (fun r8 r9 (i7:aI G K (aN 9 K r8 0 ([]:List aY)::aN 66 K c 0 ([]:List Edge)::box b 27 a::L) r9)=>(bF (aB ⟨fun _=>⟨_,i7⟩,?_⟩)))
   refine aFh (i:=13) (j:=16) (by kernel_rfl) rfl rfl ?_ ?_
   ·obtain ⟨c2,s0,hm⟩:=aC hm
    refine nG (i:=0) dE underlying24 oM rfl rfl i7 rfl (zR _) r s0 rfl rfl rfl rfl (fun c3 c4 s1 (i8:aI G K (aN 9 K c3 c4 c2::aN 66 K c 0 ([]:List Edge)::box b 27 a::L) s1)=>(bF (aB ⟨fun _=>⟨_,i8⟩,?_⟩)))
    refine yN (i:=15) rfl (by kernel_rfl) ⟨_,i8⟩ (fun _ _=>gW (vs:=[(0,i64 t.N),(1,i64 t.I),(2,zS c3 c2.length c4),(3,zS c ([]:List Edge).length 0)]) (cs:=[i64 t.N,i64 t.I,zS c3 c2.length c4,zS c ([]:List Edge).length 0]) aCG rfl (by kernel_rfl)) (gX (i:=16) (by kernel_rfl) rfl (cI (vs:=a) zeroValue27 i8 rfl (fun s2 x6 m4=>(bF (aB ⟨fun _=>⟨_,m4⟩,?_⟩)))))
    refine gX (i:=17) (by kernel_rfl) rfl (cG (i:=0) (ns:=[i64 t.N,i64 t.I,zS c3 c2.length c4,zS c ([]:List Edge).length 0]) (us:=[i64 t.N,i64 t.I,zS c3 c2.length c4,zS c ([]:List Edge).length 0]) sizeOf27 m4 rfl rfl rfl rfl rfl (dN rfl) rfl rfl (fun s3 (x7:aI G K (box s2 27 [i64 t.N,i64 t.I,zS c3 c2.length c4,zS c ([]:List Edge).length 0]::aN 9 K c3 c4 c2::aN 66 K c 0 ([]:List Edge)::box b 27 a::L) s3)=>(bF (aB ⟨aIV rfl,?_⟩))))
    exact vG (by kernel_rfl) eB
   ·refine cI (vs:=a) zeroValue27 i7 rfl (fun m5 x8 m6=>(bF (aB ⟨fun _=>⟨_,m6⟩,?_⟩)))
    refine gX (i:=13) (by kernel_rfl) rfl ?_;obtain ⟨c6,s4,hm⟩:=aC hm
    refine nG (i:=1) dE underlying24 oM rfl rfl m6 rfl (zR _) r s4 rfl rfl rfl rfl (fun c7 c9 s5 (i9:aI G K (box m5 27 a::aN 9 K c7 c9 c6::aN 66 K c 0 ([]:List Edge)::box b 27 a::L) s5)=>(bF (aB ⟨fun _=>⟨_,i9⟩,?_⟩)))
    refine yN (i:=15) rfl (by kernel_rfl) ⟨_,i9⟩ (fun _ _=>gW (vs:=[(0,i64 t.N),(1,i64 t.I),(2,zS c7 c6.length c9),(3,zS c ([]:List Edge).length 0)]) (cs:=[i64 t.N,i64 t.I,zS c7 c6.length c9,zS c ([]:List Edge).length 0]) aCG rfl (by kernel_rfl)) (gX (i:=17) (by kernel_rfl) rfl (cG (i:=0) (ns:=[i64 t.N,i64 t.I,zS c7 c6.length c9,zS c ([]:List Edge).length 0]) (us:=[i64 t.N,i64 t.I,zS c7 c6.length c9,zS c ([]:List Edge).length 0]) sizeOf27 i9 rfl rfl rfl rfl rfl (dN rfl) rfl rfl (fun s6 (x9:aI G K (box m5 27 [i64 t.N,i64 t.I,zS c7 c6.length c9,zS c ([]:List Edge).length 0]::aN 9 K c7 c9 c6::aN 66 K c 0 ([]:List Edge)::box b 27 a::L) s6)=>(bF (aB ⟨aIV rfl,?_⟩)))))
    exact vG (by kernel_rfl) eB
  ·refine cI (vs:=a) zeroValue27 i6 rfl (fun j0 y0 m7=>(bF (aB ⟨fun _=>⟨_,m7⟩,?_⟩)))
   refine gX (i:=8) (by kernel_rfl) rfl (bT (Kt:=K) (xs:=([]:List aY)) (cs:=[]) (vs:=[]) dE oM rfl rfl m7 rfl (by kernel_rfl) rfl rfl rfl trivial (fun s7 s8 (m8:aI G K (aN 9 K s7 0 ([]:List aY)::box j0 27 a::aN 66 K c 0 ([]:List Edge)::box b 27 a::L) s8)=>(bF (aB ⟨fun _=>⟨_,m8⟩,?_⟩))))
   refine gX (i:=13) (by kernel_rfl) rfl ?_;obtain ⟨d0,s9,hm⟩:=aC hm
   refine nG (i:=0) dE underlying24 oM rfl rfl m8 rfl (zR _) r s9 rfl rfl rfl rfl (fun d1 d2 t0 (j1:aI G K (aN 9 K d1 d2 d0::box j0 27 a::aN 66 K c 0 ([]:List Edge)::box b 27 a::L) t0)=>(bF (aB ⟨fun _=>⟨_,j1⟩,?_⟩)))
   refine yN (i:=15) rfl (by kernel_rfl) ⟨_,j1⟩ (fun _ _=>gW (vs:=[(0,i64 t.N),(1,i64 t.I),(2,zS d1 d0.length d2),(3,zS c ([]:List Edge).length 0)]) (cs:=[i64 t.N,i64 t.I,zS d1 d0.length d2,zS c ([]:List Edge).length 0]) aCG rfl (by kernel_rfl)) (gX (i:=17) (by kernel_rfl) rfl (cG (i:=1) (ns:=[i64 t.N,i64 t.I,zS d1 d0.length d2,zS c ([]:List Edge).length 0]) (us:=[i64 t.N,i64 t.I,zS d1 d0.length d2,zS c ([]:List Edge).length 0]) sizeOf27 j1 rfl rfl rfl rfl rfl (dN rfl) rfl rfl (fun t1 (y1:aI G K (aN 9 K d1 d2 d0::box j0 27 [i64 t.N,i64 t.I,zS d1 d0.length d2,zS c ([]:List Edge).length 0]::aN 66 K c 0 ([]:List Edge)::box b 27 a::L) t1)=>(bF (aB ⟨aIV rfl,?_⟩)))))
   exact vG (by kernel_rfl) eB
 ·refine cI (vs:=a) zeroValue27 h rfl (fun J y2 j2=>(bF (aB ⟨fun _=>⟨_,j2⟩,?_⟩)))
  refine aFh (i:=8) (j:=14) (by kernel_rfl) rfl rfl ?_ ?_
  ·refine bT (Kt:=K) (xs:=([]:List aY)) (cs:=[]) (vs:=[]) dE oM rfl rfl j2 rfl (by kernel_rfl) rfl rfl rfl trivial (fun m9 t2 (j3:aI G K (aN 9 K m9 0 ([]:List aY)::box J 27 a::box b 27 a::L) t2)=>(bF (aB ⟨fun _=>⟨_,j3⟩,?_⟩)))
   refine aFh (i:=13) (j:=14) (by kernel_rfl) rfl rfl ?_ ?_
   ·obtain ⟨a5,t3,hm⟩:=aC hm
    refine nG (i:=0) dE underlying24 oM rfl rfl j3 rfl (zR _) r t3 rfl rfl rfl rfl (fun a6 a8 t4 (n0:aI G K (aN 9 K a6 a8 a5::box J 27 a::box b 27 a::L) t4)=>(bF (aB ⟨fun _=>⟨_,n0⟩,?_⟩)))
    refine gX (i:=14) (by kernel_rfl) rfl (bT (Kt:=K) (xs:=([]:List Edge)) (cs:=[]) (vs:=[]) cK gP rfl rfl n0 rfl (by kernel_rfl) rfl rfl rfl trivial (fun d3 t5 (j4:aI G K (aN 66 K d3 0 ([]:List Edge)::aN 9 K a6 a8 a5::box J 27 a::box b 27 a::L) t5)=>(bF (aB ⟨fun _=>⟨_,j4⟩,?_⟩))))
    refine yN (i:=15) rfl (by kernel_rfl) ⟨_,j4⟩ (fun _ _=>gW (vs:=[(0,i64 t.N),(1,i64 t.I),(2,zS a6 a5.length a8),(3,zS d3 ([]:List Edge).length 0)]) (cs:=[i64 t.N,i64 t.I,zS a6 a5.length a8,zS d3 ([]:List Edge).length 0]) aCG rfl (by kernel_rfl)) (gX (i:=17) (by kernel_rfl) rfl (cG (i:=2) (ns:=[i64 t.N,i64 t.I,zS a6 a5.length a8,zS d3 ([]:List Edge).length 0]) (us:=[i64 t.N,i64 t.I,zS a6 a5.length a8,zS d3 ([]:List Edge).length 0]) sizeOf27 j4 rfl rfl rfl rfl rfl (dN rfl) rfl rfl (fun t6 (y3:aI G K (aN 66 K d3 0 ([]:List Edge)::aN 9 K a6 a8 a5::box J 27 [i64 t.N,i64 t.I,zS a6 a5.length a8,zS d3 ([]:List Edge).length 0]::box b 27 a::L) t6)=>(bF (aB ⟨aIV rfl,?_⟩)))))
    exact vG (by kernel_rfl) eB
   ·refine bT (Kt:=K) (xs:=([]:List Edge)) (cs:=[]) (vs:=[]) cK gP rfl rfl j3 rfl (by kernel_rfl) rfl rfl rfl trivial (fun a9 t7 (n1:aI G K (aN 66 K a9 0 ([]:List Edge)::aN 9 K m9 0 ([]:List aY)::box J 27 a::box b 27 a::L) t7)=>(bF (aB ⟨fun _=>⟨_,n1⟩,?_⟩)))
    refine gX (i:=13) (by kernel_rfl) rfl ?_;obtain ⟨d4,t8,hm⟩:=aC hm
    refine nG (i:=1) dE underlying24 oM rfl rfl n1 rfl (zR _) r t8 rfl rfl rfl rfl (fun d5 d6 t9 (j5:aI G K (aN 66 K a9 0 ([]:List Edge)::aN 9 K d5 d6 d4::box J 27 a::box b 27 a::L) t9)=>(bF (aB ⟨fun _=>⟨_,j5⟩,?_⟩)))
    refine yN (i:=15) rfl (by kernel_rfl) ⟨_,j5⟩ (fun _ _=>gW (vs:=[(0,i64 t.N),(1,i64 t.I),(2,zS d5 d4.length d6),(3,zS a9 ([]:List Edge).length 0)]) (cs:=[i64 t.N,i64 t.I,zS d5 d4.length d6,zS a9 ([]:List Edge).length 0]) aCG rfl (by kernel_rfl)) (gX (i:=17) (by kernel_rfl) rfl (cG (i:=2) (ns:=[i64 t.N,i64 t.I,zS d5 d4.length d6,zS a9 ([]:List Edge).length 0]) (us:=[i64 t.N,i64 t.I,zS d5 d4.length d6,zS a9 ([]:List Edge).length 0]) sizeOf27 j5 rfl rfl rfl rfl rfl (dN rfl) rfl rfl (fun u0 (y4:aI G K (aN 66 K a9 0 ([]:List Edge)::aN 9 K d5 d6 d4::box J 27 [i64 t.N,i64 t.I,zS d5 d4.length d6,zS a9 ([]:List Edge).length 0]::box b 27 a::L) u0)=>(bF (aB ⟨aIV rfl,?_⟩)))))
    exact vG (by kernel_rfl) eB
  ·refine bT (Kt:=K) (xs:=([]:List Edge)) (cs:=[]) (vs:=[]) cK gP rfl rfl j2 rfl (by kernel_rfl) rfl rfl rfl trivial (fun V u1 (n2:aI G K (aN 66 K V 0 ([]:List Edge)::box J 27 a::box b 27 a::L) u1)=>(bF (aB ⟨fun _=>⟨_,n2⟩,?_⟩)))
   refine gX (i:=8) (by kernel_rfl) rfl (bT (Kt:=K) (xs:=([]:List aY)) (cs:=[]) (vs:=[]) dE oM rfl rfl n2 rfl (by kernel_rfl) rfl rfl rfl trivial (fun u2 u3 (n3:aI G K (aN 9 K u2 0 ([]:List aY)::aN 66 K V 0 ([]:List Edge)::box J 27 a::box b 27 a::L) u3)=>(bF (aB ⟨fun _=>⟨_,n3⟩,?_⟩))))
   refine gX (i:=13) (by kernel_rfl) rfl ?_;obtain ⟨d7,u4,hm⟩:=aC hm
   refine nG (i:=0) dE underlying24 oM rfl rfl n3 rfl (zR _) r u4 rfl rfl rfl rfl (fun d8 d9 u5 (j6:aI G K (aN 9 K d8 d9 d7::aN 66 K V 0 ([]:List Edge)::box J 27 a::box b 27 a::L) u5)=>(bF (aB ⟨fun _=>⟨_,j6⟩,?_⟩)))
   refine yN (i:=15) rfl (by kernel_rfl) ⟨_,j6⟩ (fun _ _=>gW (vs:=[(0,i64 t.N),(1,i64 t.I),(2,zS d8 d7.length d9),(3,zS V ([]:List Edge).length 0)]) (cs:=[i64 t.N,i64 t.I,zS d8 d7.length d9,zS V ([]:List Edge).length 0]) aCG rfl (by kernel_rfl)) (gX (i:=17) (by kernel_rfl) rfl (cG (i:=2) (ns:=[i64 t.N,i64 t.I,zS d8 d7.length d9,zS V ([]:List Edge).length 0]) (us:=[i64 t.N,i64 t.I,zS d8 d7.length d9,zS V ([]:List Edge).length 0]) sizeOf27 j6 rfl rfl rfl rfl rfl (dN rfl) rfl rfl (fun u6 (y5:aI G K (aN 9 K d8 d9 d7::aN 66 K V 0 ([]:List Edge)::box J 27 [i64 t.N,i64 t.I,zS d8 d7.length d9,zS V ([]:List Edge).length 0]::box b 27 a::L) u6)=>(bF (aB ⟨aIV rfl,?_⟩)))))
   exact vG (by kernel_rfl) eB
theorem aHJ {t:cB} {b:Nat} {R:(List Int)} (hm:aHY t=some R) (m:aI G K (L) w) (n:dT K a1 b (zC t a4 c5 a7 c8)) (o:bW K a4 c5 t.L) (p:bW K a7 c8 t.E):
  Calls prog 78 ([cC a1 b]:List Value).toArray w (eV fun v w'=>∃ h j,v=zS h R.length j/\aI G K (aN 2 K h j R::L) w'):=by
 refine aR func78 rfl (by kernel_rfl) (by show (1:Nat)<=7;decide) ?_;unfold aHY at hm
 refine aK (aE (v:=zS none 0 0) (aG (aK (aF (v:=cC a1 b) ?_))));obtain ⟨a,q,hm⟩:=aC hm
 refine aP (vs:=[cC a1 b]) call113 rfl (aEM q m n o p) ?_
 rintro _ a8 ⟨c,d,e,g,rfl,r⟩
 refine cI (vs:=zG) zeroValue27 r rfl (fun k a9 u=>(cG (i:=0) (ns:=(zC a c d e g)) (us:=(zC a c d e g)) sizeOf27 u rfl rfl rfl rfl rfl (dN rfl) rfl rfl (fun x (y:aI G K (box k 27 (zC a c d e g)::aN 9 K c d a.L::aN 66 K e g a.E::L) x)=>(aG (aK ?_)))));obtain ⟨b0,z,J,V,b1⟩:=aI.lendSp y (zR _) zt1
 obtain ⟨b2,Z,a0,a2,b3⟩:=aI.lendSp V z zt1
 obtain ⟨b4,l,a3,a5,b5⟩:=aI.lendBp a2 .head
 obtain ⟨b6,a6,hm⟩:=aC hm
 exact aP (vs:=[cC (some ⟨k,0,none⟩) 0]) call74 rfl (aBB a6 a5 a3 (J.mono (zL Z l)) (a0.mono l)) eB
theorem aDw {a:cB} {n:Nat} {b:cB} {z:Nat} {R:(List (List Int))} (hm:aCc a b=some R) (hs:aI G K (L) w) (r:dT K a1 n (zC a a4 c5 a7 c8)) (h6:bW K a4 c5 a.L) (h9:bW K a7 c8 a.E) (a5:dT K a10 z (zC b a13 c14 a16 c17)) (f2:bW K a13 c14 b.L) (f3:bW K a16 c17 b.E):
  Calls prog 32 ([cC a1 n,cC a10 z]:List Value).toArray w (eV fun v w'=>∃ K' d3 d4,v=zS d3 R.length d4/\Hp.le K K'/\aI G K' (aN 63 K' d3 d4 R::L) w'):=by
 refine aR func32 rfl (by kernel_rfl) (by show (2:Nat)<=52;decide) ?_;unfold aCc at hm
 refine aK (aE (v:=zS none 0 0) (aG (aK (aF (v:=cC a1 n) (aF (v:=cC a10 z) ?_)))));obtain ⟨c,f4,hm⟩:=aC hm
 refine aP (vs:=[cC a1 n,cC a10 z]) call73 rfl (aAi f4 hs r h6 h9 a5 f2 f3) ?_
 rintro _ k0 ⟨J,V,Z,a0,rfl,f5⟩
 refine cI (vs:=zG) zeroValue27 f5 rfl (fun b7 k1 f6=>(cG (i:=0) (ns:=(zC c J V Z a0)) (us:=(zC c J V Z a0)) sizeOf27 f6 rfl rfl rfl rfl rfl (dN rfl) rfl rfl (fun f7 (f8:aI G K (box b7 27 (zC c J V Z a0)::aN 9 K J V c.L::aN 66 K Z a0 c.E::L) f7)=>(aG (aK ?_)))));obtain ⟨k3,f9,g0,g1,g2⟩:=aI.lendSp f8 (zR _) zt1
 obtain ⟨k4,g3,g4,g5,g6⟩:=aI.lendSp g1 f9 zt1
 obtain ⟨k5,d5,g7,g8,g9⟩:=aI.lendBp g5 .head
 obtain ⟨e,h0,hm⟩:=aC hm
 refine aP (vs:=[cC (some ⟨b7,0,none⟩) 0]) call78 rfl (aHJ h0 g8 g7 (g0.mono (zL g3 d5)) (g4.mono d5)) ?_
 rintro _ k6 ⟨g,h,rfl,h1⟩
 have h2:=g9 _ _ h1
 have h4:=g6 _ _ h2
 have h5:=g2 _ _ h4
 refine aE (v:=zS g e.length h) (aG (aK (bT (Kt:=K) (xs:=([]:List (List Int))) (cs:=[]) (vs:=[]) eL qL rfl rfl h5 rfl (by kernel_rfl) rfl rfl rfl trivial (fun b8 h7 (h8:aI G K (aN 63 K b8 0 ([]:List (List Int))::aN 9 K J V c.L::aN 66 K Z a0 c.E::box b7 27 (zC c J V Z a0)::aN 2 K g h e::L) h7)=>(aE (v:=zS b8 ([]:List (List Int)).length 0) (aG (aO (aK (aE (v:=i64 0) (aG (aX [] (fun f w=>∃ b9 c0 d6 d7,Hp.le K b9/\aCy c0=some R/\f 7=zS d6 c0.length d7/\aI G b9 (aN 63 b9 d6 d7 c0::L) w) eB ?_)))))))))))
 obtain ⟨k7,i0,ho⟩:=aC hm
 refine cP [0,1,6] i0 (fun c1 j f w=>∃ u c2 c3,Hp.le K u/\f 7=zS c2 c1.length c3/\f 8=i64 j/\aI G u (aN 63 u c2 c3 c1::aN 2 K g h e::L) w) ?_ ?_
 ·exact ⟨K,b8,0,(zR _),rfl,rfl,(aI.arr 4 [0] h8 rfl)⟩
 ·rintro c1 j d8 f k8 hm hr ⟨u,c2,c3,m,k9,a6,i1⟩
  unfold rM at hm
  refine aO (aK (bC a6 (aF (v:=cC a1 n) (aD (cA rfl (r.mono m)) (aD (bS (k':=n+0) cT rfl (r.mono m) rfl) (aD (bE (t:=0) cE i1 (r.mono m) rfl rfl) (aD (cV rfl rfl) (aG ?_))))))))
  rcases aH hm with ⟨d9,hm⟩|⟨d9,hm⟩
  ·refine aL d9 rfl (aW (aB (aO (aX [0,1,6,8] (fun f w=>∃ a2 a8 a9 b0,Hp.le u a2/\aCz j a8=some d8/\f 7=zS a9 a8.length b0/\aI G a2 (aN 63 a2 a9 b0 a8::aN 2 K g h e::L) w) ?_ ?_))))
   ·rintro f l0 ⟨a2,a8,a9,b0,i2,hm,i3,i4⟩
    unfold aCz at hm
    exact aB (aQ (bC a6 (aD (cL rfl rfl) (aE (v:=i64 (wr (j+1))) (aG ⟨_,(zI hm).symm,aM,a2,a9,b0,(zL m i2),i3,rfl,i4⟩)))))
   refine aK (aE (v:=i64 0) (aG (aX [0,1,6,8] (fun f w=>∃ c4 c6 e0 e1,Hp.le u c4/\zD j c6=some d8/\f 7=zS e0 c6.length e1/\aI G c4 (aN 63 c4 e0 e1 c6::aN 2 K g h e::L) w) eB ?_)));obtain ⟨l1,i5,ho⟩:=aC hm
   refine cP [0,1,6,8] i5 (fun o k f w=>∃ l p q,Hp.le u l/\f 7=zS p o.length q/\f 9=i64 k/\aI G l (aN 63 l p q o::aN 2 K g h e::L) w) eB ?_
   ·rintro o k i6 f l2 hm hr ⟨l,p,q,x,i7,b1,d⟩
    unfold rL at hm
    refine aO (aK (bC b1 (aF (v:=cC a10 z) (aD (cA rfl (a5.mono (zL m x))) (aD (bS (k':=z+0) cT rfl (a5.mono (zL m x)) rfl) (aD (bE (t:=0) cE d (a5.mono (zL m x)) rfl rfl) (aD (cV rfl rfl) (aG ?_))))))))
    rcases aH hm with ⟨e2,hm⟩|⟨e2,hm⟩
    ·refine aL e2 rfl (aW (aB (aO (aX [0,1,6,8,9] (fun f w=>∃ a3 b2 b3 b4,Hp.le l a3/\zE k b2=some i6/\f 7=zS b3 b2.length b4/\aI G a3 (aN 63 a3 b3 b4 b2::aN 2 K g h e::L) w) ?_ ?_))))
     ·rintro f l3 ⟨a3,b2,b3,b4,i8,hm,i9,j0⟩
      unfold zE at hm
      exact aB (aQ (bC b1 (aD (cL rfl rfl) (aE (v:=i64 (wr (k+1))) (aG ⟨_,(zI hm).symm,aM,a3,b3,b4,(zL x i8),i9,rfl,j0⟩)))))
     refine aO (dR (C:=fun w'=>aI G l (aN 63 l p q o::aN 2 K g h e::L) w') Tryz_mixed (by kernel_rfl) (aI.mono d (dQ.drew _)) (aU (fun _ d=>aT (v:=zS g e.length h) rfl) (aU (fun _ d=>aT a6) ?_)));obtain ⟨l4,c7,hm⟩:=aC hm
     have e3:=cQ d (i:=1) rfl c7
     refine aU (fun _ d=>dL bV rfl e3 rfl rfl rfl c7) (aU (fun _ d=>jV (t:=0) cE d (i:=1) rfl c7 rfl rfl rfl) (aU (fun _ d=>aT (v:=zS g e.length h) rfl) (aU (fun _ d=>aT (v:=cC a1 n) rfl) (aU (fun _ d=>cA rfl (r.mono (zL m x))) (aU (fun _ d=>bS (k':=n+0) cT rfl (r.mono (zL m x)) rfl) (aU (fun _ d=>bE (t:=0) cE d (r.mono (zL m x)) rfl rfl) (aU (fun _ d=>aT b1) (aU (fun _ d=>cL rfl rfl) ?_))))))));obtain ⟨l5,e4,hm⟩:=aC hm
     refine aU (fun _ d=>dL bV rfl e3 rfl rfl rfl e4) (aU (fun _ d=>jV (t:=0) cE d (i:=1) rfl e4 rfl rfl rfl) (aU (fun _ d=>dM rfl rfl) (dU (fun l6 j1=>(aB ?_)))))
     rcases aH hm with ⟨e5,hm⟩|⟨e5,hm⟩
     ·refine aL e5 rfl (aQ (bC i7 (bC a6 (bC b1 (bT (Kt:=K) (xs:=([j,k]:List Int)) (cs:=[i64 j,i64 k]) (vs:=[(0,i64 j),(1,i64 k)]) bV iD rfl rfl j1 rfl (by kernel_rfl) rfl rfl rfl ⟨rfl,rfl,trivial⟩ (fun y e6 (j2:aI G l (aN 2 K y 2 ([j,k]:List Int)::aN 63 l p q o::aN 2 K g h e::L) e6)=>?_))))))
      have j3:aI G l (rows [2] ([(y,2)]:List (Dp.Hd (List Int))) [([j,k]:List Int)]::aN 63 l p q o::aN 2 K g h e::L) e6:=aI.rowsOne j2
      refine bT (Kt:=K) (xs:=dZ ([(y,2)]:List (Dp.Hd (List Int))) ([([j,k]:List Int)]:List (List Int))) (cs:=[zS y ([j,k]:List Int).length 2]) (vs:=[(0,zS y ([j,k]:List Int).length 2)]) eL qL rfl rfl j3 rfl (by kernel_rfl) rfl rfl rfl ⟨rfl,trivial⟩ ?_
      intro j4 e7 (j5:aI G l (aN 63 K j4 1 (dZ ([(y,2)]:List (Dp.Hd (List Int))) ([([j,k]:List Int)]:List (List Int)))::rows [2] ([(y,2)]:List (Dp.Hd (List Int))) ([([j,k]:List Int)]:List (List Int))::aN 63 l p q o::aN 2 K g h e::L) e7)
      obtain ⟨b5,e8,j6,_,c9,_⟩:=aI.lendD' (i:=0) j5 rfl rfl rfl
      replace c9:aI G b5 (aN 63 l p q o::aN 2 K g h e::L) e7:=c9
      obtain ⟨d0,j7,hm⟩:=aC hm
      exact nG (i:=0) eL underlying28 qL rfl rfl c9 rfl e8 j6 j7 rfl rfl rfl rfl (fun d1 d2 j8 (j9:aI G b5 (aN 63 b5 d1 d2 d0::aN 2 K g h e::L) j8)=>(aE (v:=zS d1 d0.length d2) (bF (bA (aB ⟨aM,b5,d0,d1,d2,e8,hm,rfl,j9⟩)))))
     ·exact eB
    ·exact eB
  ·exact eB
end Gv
