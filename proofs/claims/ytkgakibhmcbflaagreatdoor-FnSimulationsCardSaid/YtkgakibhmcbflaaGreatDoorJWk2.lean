/- Walks, printed by program. -/
import Derived.Test.YtkgakibhmcbflaaGreatDoorJWk1
set_option linter.all false
namespace Gv
open Go.Value renaming slice→zS,bool→zB,pointer→zP
open Option.some renaming inj→zI
open Gv.Hp renaming le_trans→zL,le_refl→zR
open Go Go.Proofs
set_option maxRecDepth 20000
set_option maxHeartbeats 40000000
variable {G:Env} {K:Hp} {L:List nG} {w:World} {a1 a4 a7 a10:Option Addr} {c5 c8 c11 c2:Nat}
theorem aBH {t:cD} {k:Nat} {p:(List Int)} {R:(List Bool)} (hs:aI G K (L) w) (q:fP K a1 k (zC t a4 c5 a7 c8)) (h6:bX K a4 c5 t.L) (h9:bX K a7 c8 t.E) (h2:bX K a10 c11 p) (l:tU t p=some R):
  Calls Tryz.prog 76 ([cP a1 k,zS a10 p.length c11]:List Value).toArray w (gQ fun v w'=>∃ (f4:Option Addr) (f5:Nat),v=zS f4 R.length f5∧aI G K (aR 4 K f4 f5 R::L) w'):=by
 refine aS Tryz.func76 rfl (by kernel_rfl) (by show (2:Nat)≤82;decide) ?_
 unfold tU at l
 refine aK (aF (v:=zS none 0 0) (aG (aK (aL (v:=cP a1 k) (aD (cX rfl q) (aD (cG (k':=k+0) dP rfl q rfl) (aD (bG (t:=0) bY hs q rfl rfl) ?_)))))))
 obtain ⟨a,h4,l⟩:=aC l
 refine aDY (e:=(false:Bool)) pB ez_4 rfl rfl hs rfl rfl rfl h4 rfl (fun b h5 (h7:aI G K (aR 4 K b a.length a::L) h5)=>(aF (v:=zS b a.length a.length) (aG (aO (aK (aF (v:=i64 0) (aG (aZ (fun f w=>∃ (b9:List Bool),pE t p b9=some R∧f 0=cP a1 k∧f 1=zS a10 p.length c11∧f 5=zS b b9.length a.length∧aI G K (aR 4 K b a.length b9::L) w) ?_ ?_))))))))
 ·rintro f o5 ⟨b9,l,h8,i0,i1,i2⟩
  unfold pE at l
  refine aA (aO (aK (aF (v:=zB true) (aG (aZ (fun f w=>∃ (b1:List Bool),qS b1=some R∧f 5=zS b b1.length a.length∧aI G K (aR 4 K b a.length b1::L) w) ?_ ?_)))))
  ·rintro f o6 ⟨b1,l,i3,i4⟩
   unfold qS at l
   refine aA (aK (aN i3 (aF (v:=zS b b1.length a.length) (aG ?_))))
   obtain rfl:=zI l
   exact bK (bE Tryz.results76 rfl ⟨b,a.length,rfl,i4⟩)
  obtain ⟨o7,i6,l⟩:=aC l
  refine cC i6 (fun (s:(List Bool × Bool)) f w=>match s with|(a0,d5)=>f 0=cP a1 k∧f 1=zS a10 p.length c11∧f 5=zS b a0.length a.length∧f 7=zB d5∧aI G K (aR 4 K b a.length a0::L) w) ?_ ?_
  ·exact ⟨h8,i0,i1,rfl,i2⟩
  ·rintro ⟨a0,d5⟩ c0 f o8 m i7 ⟨i8,i9,f6,j0,f7⟩
   replace m:lO t p a0 d5=some c0:=m
   unfold lO at m
   refine aO (aK (aN j0 (aG ?_)))
   rcases aH m with ⟨d6,m⟩|⟨d6,m⟩
   ·refine aM d6 rfl (aY (aA (aZ (fun f w=>∃ (b2:List Bool) (c1:Bool),aAs b2 c1=some c0∧f 0=cP a1 k∧f 1=zS a10 p.length c11∧f 5=zS b b2.length a.length∧f 7=zB c1∧aI G K (aR 4 K b a.length b2::L) w) ?_ ?_)))
    ·rintro f o9 ⟨b2,c1,m,j1,j2,j3,j4,j5⟩
     unfold aAs at m
     exact aA ⟨(b2,c1),(zI m).symm,j1,j2,j3,j4,j5⟩
    refine aK (aF (v:=zB false) (aG (aK (aF (v:=i64 0) (aG (aZ (fun f w=>∃ (b3:List Bool) (c2:Bool),vH b3 c2=some c0∧f 0=cP a1 k∧f 1=zS a10 p.length c11∧f 5=zS b b3.length a.length∧f 7=zB c2∧aI G K (aR 4 K b a.length b3::L) w) ?_ ?_))))))
    ·rintro f p0 ⟨b3,c2,m,j6,j7,j8,j9,k0⟩
     unfold vH at m
     exact bA (aA ⟨b3,c2,m,j6,j7,j8,j9,k0⟩)
    obtain ⟨p1,k1,m⟩:=aC m
    refine cC k1 (fun (s:(List Bool × Bool × Int)) f w=>match s with|(o,y,r)=>f 0=cP a1 k∧f 1=zS a10 p.length c11∧f 5=zS b o.length a.length∧f 7=zB y∧f 8=i64 r∧aI G K (aR 4 K b a.length o::L) w) ?_ ?_
    ·exact ⟨i8,i9,f6,rfl,rfl,f7⟩
    ·rintro ⟨o,y,r⟩ c3 f p2 c k3 ⟨c4,d7,c6,d8,c7,a2⟩
     replace c:kL t p o y r=some c3:=c
     unfold kL at c
     refine aO (aK (aN c7 (aN c4 (aD (cX rfl q) (aD (cG (k':=k+0) dP rfl q rfl) (aD (bG (t:=0) bY a2 q rfl rfl) (aD (cT rfl rfl) (aG ?_))))))))
     rcases aH c with ⟨d9,c⟩|⟨d9,c⟩
     ·refine aM d9 rfl (aY (aA (aO (aZ (fun f w=>∃ (b4:List Bool) (c9:Bool),lN r b4 c9=some c3∧f 0=cP a1 k∧f 1=zS a10 p.length c11∧f 5=zS b b4.length a.length∧f 7=zB c9∧f 8=i64 r∧aI G K (aR 4 K b a.length b4::L) w) ?_ ?_))))
      ·rintro f p3 ⟨b4,c9,c,k4,k5,k6,k7,k8,k9⟩
       unfold lN at c
       exact aA (aP (aN k8 (aD (cK rfl rfl) (aF (v:=i64 (wr (r+1))) (aG ⟨(b4,c9,wr (r+1)),(zI c).symm,k4,k5,k6,k7,rfl,k9⟩)))))
      refine aO (aK (aN c6 (aN c7 ?_)))
      obtain ⟨p4,b5,c⟩:=aC c
      have e0:=dZ a2 (i:=0) rfl b5
      refine aD (eM pB rfl e0 rfl rfl rfl b5) (aD (lB (t:=0) sc_4 a2 (i:=0) rfl b5 rfl rfl rfl) (aD (eR rfl) (aG ?_)))
      rcases aH c with ⟨e1,c⟩|⟨e1,c⟩
      ·exact aM e1 rfl (cA (aV (bN (aA ⟨o,y,c,c4,d7,c6,d8,c7,a2⟩))))
      ·refine aJ e1 rfl (aY (aA (aK (aF (v:=zB false) (aG (aO (aK (aF (v:=i64 0) (aG (aZ (fun f w=>∃ (e2:Bool),qT o y r e2=some c3∧f 0=cP a1 k∧f 1=zS a10 p.length c11∧f 5=zS b o.length a.length∧f 7=zB y∧f 8=i64 r∧f 9=zB e2∧aI G K (aR 4 K b a.length o::L) w) ?_ ?_))))))))))
       ·rintro f p5 ⟨e2,c,f8,f9,e3,l0,e4,l1,g0⟩
        unfold qT at c
        refine aA (aK (aN l1 (aD (eR rfl) (aG ?_))))
        rcases aH c with ⟨e5,c⟩|⟨e5,c⟩
        ·refine aM e5 rfl (aK (aN e3 (aN e4 (aD (eM pB rfl e0 rfl rfl rfl b5) ?_))))
         obtain ⟨g1,g2,c⟩:=aC c
         exact sM (i:=0) (t:=0) (ns:=[zB false]) (e':=(false:Bool)) Tryz.sizeOf4 g0 rfl (zR _) rfl rfl rfl b5 g2 rfl rfl (fO rfl) rfl (fun cs h=>by cases h;rfl) (fun l2 (l3:aI G K (aR 4 K b a.length g1::L) l2)=>(aG (aP (aF (v:=zB true) (bM (bA (aA ⟨g1,true,c,f8,f9,(Eq.trans e3 (congrArg (fun n=>zS b n a.length) (oY g2))),rfl,e4,l3⟩)))))))
        ·exact aJ e5 rfl (aY (bA (aA ⟨o,y,c,f8,f9,e3,l0,e4,g0⟩)))
       obtain ⟨p6,l4,c⟩:=aC c
       refine cC l4 (fun (s:(Bool × Int)) f w=>match s with|(a3,J)=>f 0=cP a1 k∧f 1=zS a10 p.length c11∧f 5=zS b o.length a.length∧f 7=zB y∧f 8=i64 r∧f 9=zB a3∧f 10=i64 J∧aI G K (aR 4 K b a.length o::L) w) ?_ ?_
       ·exact ⟨c4,d7,c6,d8,c7,rfl,rfl,a2⟩
       ·rintro ⟨a3,J⟩ g3 f p7 d l5 ⟨V,a5,a6,b6,a8,g4,a9,b7⟩
        replace d:jE t p o r a3 J=some g3:=d
        unfold jE at d
        refine aO (aK (aN a9 (aN V (aD (cX rfl q) (aD (cG (k':=k+3) dY rfl q rfl) (aD (bG (t:=3) jR b7 q rfl rfl) (aD (bT (len:=t.E.length) cN rfl) (aD (cT rfl rfl) (aG ?_)))))))))
        rcases aH d with ⟨e6,d⟩|⟨e6,d⟩
        ·refine aM e6 rfl (aY (aA (aO (cI (aK (aN V (aD (cX rfl q) (aD (cG (k':=k+3) dY rfl q rfl) (aD (bG (t:=3) jR b7 q rfl rfl) (aN a9 ?_))))))))))
         obtain ⟨u,g5,d⟩:=aC d
         refine aD (cU cN rfl h9 rfl rfl rfl g5) ?_
         obtain ⟨p8,l6,l7⟩:=bX.el (sz:=3) rfl h9 g5
         cases l7
         refine aD (iD (t:=0) (vs:=[i64 u.F,i64 u.B,i64 u.To]) kW b7 l6 rfl rfl rfl) (cQ (vs:=[i64 0,i64 0,i64 0]) Tryz.zeroValue51 b7 rfl (fun g6 p9 l8=>(cZ (i:=0) (ns:=[i64 u.F,i64 u.B,i64 u.To]) (us:=[i64 u.F,i64 u.B,i64 u.To]) Tryz.sizeOf51 l8 rfl rfl rfl rfl rfl (fO rfl) rfl rfl (fun l9 (d0:aI G K (box g6 51 [i64 u.F,i64 u.B,i64 u.To]::aR 4 K b a.length o::L) l9)=>(aG (dO (fun f w=>∃ (d1:Bool),kK J d1=some g3∧f 0=cP a1 k∧f 1=zS a10 p.length c11∧f 5=zS b o.length a.length∧f 7=zB y∧f 8=i64 r∧f 9=zB d1∧f 10=i64 J∧aI G K (aR 4 K b a.length o::L) w) ?_ ?_))))))
         ·rintro f q0 ⟨d1,d,m0,m1,m2,m3,m4,m5,m6,m7⟩
          unfold kK at d
          exact bA (aA (aP (aN m6 (aD (cK rfl rfl) (aF (v:=i64 (wr (J+1))) (aG ⟨(d1,wr (J+1)),(zI d).symm,m0,m1,m2,m3,m4,m5,rfl,m7⟩))))))
         refine aP (aN g4 (aL (v:=zB a3) ?_))
         rcases aH d with ⟨j,d⟩|⟨j,d⟩
         ·exact aT j rfl rfl (aT j rfl rfl (aT j rfl rfl (aT j rfl rfl (aT j rfl rfl (cE (g:=64) rfl rfl (cE (g:=64) rfl rfl (aT j rfl rfl (aT j rfl rfl (cE (g:=68) rfl rfl (cE (g:=68) rfl rfl (cE (g:=68) rfl rfl (cE (g:=68) rfl rfl (cE (g:=68) rfl rfl (aT j rfl rfl (aD (bF (v:=zB true) j rfl rfl) (aF (v:=zB true) (aG ⟨true,d,V,a5,a6,b6,a8,rfl,a9,(aI.arr 1 [] d0 rfl)⟩)))))))))))))))))
         ·refine bD j rfl rfl (aD (bL (t':=0) iY rfl rfl) (bD j rfl rfl (aD (dG bY d0 (i:=0) rfl rfl rfl) (bD j rfl rfl (aN a8 (bD j rfl rfl (aD (lA rfl rfl) (bD j rfl rfl (aL (v:=zB (u.F == r)) ?_)))))))))
          rcases aH d with ⟨Z,d⟩|⟨Z,d⟩
          ·refine bB Z rfl rfl (aN a5 (bB Z rfl rfl ?_))
           obtain ⟨q1,m8,m9,n0,n1⟩:=aI.lendB (i:=0) d0 rfl
           obtain ⟨g7,n2,d⟩:=aC d
           refine aQ (vs:=[cP (some ⟨g6,0,none⟩) 0,zS a10 p.length c11]) Tryz.call74 rfl (vT n0 m9 (h2.mono m8) n2) ?_
           rintro _ q2 ⟨rfl,n3⟩
           have d2:=n1 _ _ n3
           refine bD j rfl rfl (aD (bF (v:=zB g7) Z rfl rfl) (bD j rfl rfl (aL (v:=zB g7) ?_)))
           rcases aH d with ⟨x,d⟩|⟨x,d⟩
           ·refine bB x rfl rfl (aN a6 (bB x rfl rfl (aD (bL (t':=2) iC rfl rfl) (bB x rfl rfl (aD (dG bY d2 (i:=0) rfl rfl rfl) (bB x rfl rfl ?_))))))
            obtain ⟨d3,g8,d⟩:=aC d
            exact aD (eM pB rfl e0 rfl rfl rfl g8) (bB x rfl rfl (aD (lB (t:=0) sc_4 d2 (i:=1) rfl g8 rfl rfl rfl) (bD j rfl rfl (aD (bF (v:=zB d3) x rfl rfl) (aD (bH (v:=zB d3) j rfl rfl) (aF (v:=zB d3) (aG ⟨d3,d,V,a5,a6,b6,a8,rfl,a9,(aI.arr 1 [] d2 rfl)⟩)))))))
           ·exact aU x rfl rfl (aU x rfl rfl (aU x rfl rfl (aU x rfl rfl (aU x rfl rfl (bD j rfl rfl (aD (bH (v:=zB false) x rfl rfl) (aD (bH (v:=zB false) j rfl rfl) (aF (v:=zB false) (aG ⟨false,d,V,a5,a6,b6,a8,rfl,a9,(aI.arr 1 [] d2 rfl)⟩)))))))))
          ·exact aU Z rfl rfl (aU Z rfl rfl (bD j rfl rfl (aD (bH (v:=zB false) Z rfl rfl) (bD j rfl rfl (aL (v:=zB false) (aU (by decide:¬ false=true) rfl rfl (aU (by decide:¬ false=true) rfl rfl (aU (by decide:¬ false=true) rfl rfl (aU (by decide:¬ false=true) rfl rfl (aU (by decide:¬ false=true) rfl rfl (bD j rfl rfl (aD (bH (v:=zB false) (by decide:¬ false=true) rfl rfl) (aD (bH (v:=zB false) j rfl rfl) (aF (v:=zB false) (aG ⟨false,d,V,a5,a6,b6,a8,rfl,a9,(aI.arr 1 [] d0 rfl)⟩)))))))))))))))
        ·refine aJ e6 rfl (cA (aV (aV ?_)))
         have n4:=l5 _ (zI d).symm
         subst n4
         have c:(qT o y r a3)=some c3:=c
         exact bN (aA ⟨a3,c,V,a5,a6,b6,a8,g4,b7⟩)
     ·refine aJ d9 rfl (cA (aV (aV ?_)))
      have n5:=k3 _ (zI c).symm
      subst n5
      have m:(vH o y)=some c0:=m
      exact bN (aA ⟨o,y,m,c4,d7,c6,d8,a2⟩)
   ·refine aJ d6 rfl (cA (aV (aV ?_)))
    have n6:=i7 _ (zI m).symm
    subst n6
    have l:(qS a0)=some R:=l
    exact bN (aA ⟨a0,l,f6,f7⟩)
 obtain ⟨q3,n7,l⟩:=aC l
 refine cC n7 (fun (s:(List Bool × Int)) f w=>match s with|(b0,b8)=>f 0=cP a1 k∧f 1=zS a10 p.length c11∧f 5=zS b b0.length a.length∧f 6=i64 b8∧aI G K (aR 4 K b a.length b0::L) w) ?_ ?_
 ·exact ⟨rfl,rfl,rfl,rfl,h7⟩
 ·rintro ⟨b0,b8⟩ n8 f q4 z n9 ⟨e7,g9,e8,e9,d4⟩
  replace z:iI t b0 b8=some n8:=z
  unfold iI at z
  refine aO (aK (aN e9 (aN e7 (aD (cX rfl q) (aD (cG (k':=k+0) dP rfl q rfl) (aD (bG (t:=0) bY d4 q rfl rfl) (aD (cT rfl rfl) (aG ?_))))))))
  rcases aH z with ⟨f0,z⟩|⟨f0,z⟩
  ·refine aM f0 rfl (aY (aA (aO (cI (aP (aN e8 (aN e9 ?_)))))))
   obtain ⟨q5,f1,z⟩:=aC z
   have o0:=dZ d4 (i:=0) rfl f1
   refine aD (eM pB rfl o0 rfl rfl rfl f1) ?_
   obtain ⟨h0,h1,z⟩:=aC z
   exact sM (i:=0) (t:=0) (ns:=[zB true]) (e':=(true:Bool)) Tryz.sizeOf4 d4 rfl (zR _) rfl rfl rfl f1 h1 rfl rfl (fO rfl) rfl (fun cs h=>by cases h;rfl) (fun o1 (o2:aI G K (aR 4 K b a.length h0::L) o1)=>(bM (bA (aA (aP (aN e9 (aD (cK rfl rfl) (aF (v:=i64 (wr (b8+1))) (aG ⟨(h0,wr (b8+1)),(zI z).symm,e7,g9,(Eq.trans e8 (congrArg (fun n=>zS b n a.length) (oY h1))),rfl,o2⟩)))))))))
  ·refine aJ f0 rfl (cA (aV (aV ?_)))
   have o3:=n9 _ (zI z).symm
   subst o3
   have l:(pE t p b0)=some R:=l
   exact bN (aA ⟨b0,l,e7,g9,e8,d4⟩)
theorem aGu {t:cD} {o:Nat} {p:(List Int)} {k:Int} {R:(List Bool)} (hs:aI G K (L) w) (r:fP K a1 o (zC t a4 c5 a7 c8)) (h6:bX K a4 c5 t.L) (h9:bX K a7 c8 t.E) (e8:bX K a10 c11 p) (l:aBj t p k=some R):
  Calls Tryz.prog 131 ([cP a1 o,zS a10 p.length c11,i64 k]:List Value).toArray w (gQ fun v w'=>∃ (d0:Option Addr) (d1:Nat),v=zS d0 R.length d1∧aI G K (aR 4 K d0 d1 R::L) w'):=by
 refine aS Tryz.func131 rfl (by kernel_rfl) (by show (3:Nat)≤58;decide) ?_
 unfold aBj at l
 refine aK (aF (v:=zS none 0 0) (aG (aK (aL (v:=cP a1 o) (aD (cX rfl r) (aD (cG (k':=o+0) dP rfl r rfl) (aD (bG (t:=0) bY hs r rfl rfl) ?_)))))))
 obtain ⟨b,e9,l⟩:=aC l
 refine aDY (e:=(false:Bool)) pB ez_4 rfl rfl hs rfl rfl rfl e9 rfl (fun c f0 (d2:aI G K (aR 4 K c b.length b::L) f0)=>(aF (v:=zS c b.length b.length) (aG (aK (aL (v:=zS c b.length b.length) (aL (v:=i64 k) ?_))))))
 obtain ⟨k3,b7,l⟩:=aC l
 have b1:=dZ d2 (i:=0) rfl b7
 refine aD (eM pB rfl b1 rfl rfl rfl b7) ?_
 obtain ⟨f1,d3,l⟩:=aC l
 refine sM (i:=0) (t:=0) (ns:=[zB true]) (e':=(true:Bool)) Tryz.sizeOf4 d2 rfl (zR _) rfl rfl rfl b7 d3 rfl rfl (fO rfl) rfl (fun cs h=>by cases h;rfl) (fun f2 (f3:aI G K (aR 4 K c b.length f1::L) f2)=>(aG (aO (aK (aF (v:=zB true) (aG (aZ (fun f w=>∃ (a0:List Bool),yZ a0=some R∧f 7=zS c a0.length b.length∧aI G K (aR 4 K c b.length a0::L) w) ?_ ?_)))))))
 ·rintro f k4 ⟨a0,l,f4,f5⟩
  unfold yZ at l
  refine aA (aK (aN f4 (aF (v:=zS c a0.length b.length) (aG ?_))))
  obtain rfl:=zI l
  exact bK (bE Tryz.results131 rfl ⟨c,b.length,rfl,f5⟩)
 obtain ⟨k5,f7,l⟩:=aC l
 refine cC f7 (fun (s:(List Bool × Bool)) f w=>match s with|(J,b8)=>f 0=cP a1 o∧f 1=zS a10 p.length c11∧f 7=zS c J.length b.length∧f 8=zB b8∧aI G K (aR 4 K c b.length J::L) w) ?_ ?_
 ·exact ⟨rfl,rfl,(Eq.trans rfl (congrArg (fun n=>zS c n b.length) (oY d3))),rfl,f3⟩
 ·rintro ⟨J,b8⟩ b2 f k6 j f8 ⟨f9,g0,d4,g1,d5⟩
  replace j:oN t p J b8=some b2:=j
  unfold oN at j
  refine aO (aK (aN g1 (aG ?_)))
  rcases aH j with ⟨b9,j⟩|⟨b9,j⟩
  ·refine aM b9 rfl (aY (aA (aZ (fun f w=>∃ (a2:List Bool) (b3:Bool),aBP a2 b3=some b2∧f 0=cP a1 o∧f 1=zS a10 p.length c11∧f 7=zS c a2.length b.length∧f 8=zB b3∧aI G K (aR 4 K c b.length a2::L) w) ?_ ?_)))
   ·rintro f k7 ⟨a2,b3,j,g2,g3,g4,g5,g6⟩
    unfold aBP at j
    exact aA ⟨(a2,b3),(zI j).symm,g2,g3,g4,g5,g6⟩
   refine aK (aF (v:=zB false) (aG (aK (aF (v:=i64 0) (aG (aZ (fun f w=>∃ (a3:List Bool) (b4:Bool),zD a3 b4=some b2∧f 0=cP a1 o∧f 1=zS a10 p.length c11∧f 7=zS c a3.length b.length∧f 8=zB b4∧aI G K (aR 4 K c b.length a3::L) w) ?_ ?_))))))
   ·rintro f k8 ⟨a3,b4,j,g7,g8,g9,h0,h1⟩
    unfold zD at j
    exact bA (aA ⟨a3,b4,j,g7,g8,g9,h0,h1⟩)
   obtain ⟨k9,h2,j⟩:=aC j
   refine cC h2 (fun (s:(List Bool × Bool × Int)) f w=>match s with|(q,x,u)=>f 0=cP a1 o∧f 1=zS a10 p.length c11∧f 7=zS c q.length b.length∧f 8=zB x∧f 9=i64 u∧aI G K (aR 4 K c b.length q::L) w) ?_ ?_
   ·exact ⟨f9,g0,d4,rfl,rfl,d5⟩
   ·rintro ⟨q,x,u⟩ c0 f l0 a h4 ⟨V,a5,Z,b5,a6,a8⟩
    replace a:mC t p q x u=some c0:=a
    unfold mC at a
    refine aO (aK (aN a6 (aN V (aD (cX rfl r) (aD (cG (k':=o+3) dY rfl r rfl) (aD (bG (t:=3) jR a8 r rfl rfl) (aD (bT (len:=t.E.length) cN rfl) (aD (cT rfl rfl) (aG ?_)))))))))
    rcases aH a with ⟨c1,a⟩|⟨c1,a⟩
    ·refine aM c1 rfl (aY (aA (aO (aZ (fun f w=>∃ (a9:List Bool) (b6:Bool),rP u a9 b6=some c0∧f 0=cP a1 o∧f 1=zS a10 p.length c11∧f 7=zS c a9.length b.length∧f 8=zB b6∧f 9=i64 u∧aI G K (aR 4 K c b.length a9::L) w) ?_ ?_))))
     ·rintro f l1 ⟨a9,b6,a,h5,h7,h8,i0,i1,i2⟩
      unfold rP at a
      exact aA (aP (aN i1 (aD (cK rfl rfl) (aF (v:=i64 (wr (u+1))) (aG ⟨(a9,b6,wr (u+1)),(zI a).symm,h5,h7,h8,i0,rfl,i2⟩)))))
     refine aK (aN V (aD (cX rfl r) (aD (cG (k':=o+3) dY rfl r rfl) (aD (bG (t:=3) jR a8 r rfl rfl) (aN a6 ?_)))))
     obtain ⟨d,d6,a⟩:=aC a
     refine aD (cU cN rfl h9 rfl rfl rfl d6) ?_
     obtain ⟨l2,i3,i4⟩:=bX.el (sz:=3) rfl h9 d6
     cases i4
     refine aD (iD (t:=0) (vs:=[i64 d.F,i64 d.B,i64 d.To]) kW a8 i3 rfl rfl rfl) (cQ (vs:=[i64 0,i64 0,i64 0]) Tryz.zeroValue51 a8 rfl (fun b0 l3 i5=>(cZ (i:=0) (ns:=[i64 d.F,i64 d.B,i64 d.To]) (us:=[i64 d.F,i64 d.B,i64 d.To]) Tryz.sizeOf51 i5 rfl rfl rfl rfl rfl (fO rfl) rfl rfl (fun i6 (y:aI G K (box b0 51 [i64 d.F,i64 d.B,i64 d.To]::aR 4 K c b.length q::L) i6)=>(aG (aO (dO (fun f w=>∃ (c2:Bool),mB q x u d c2=some c0∧f 0=cP a1 o∧f 1=zS a10 p.length c11∧f 7=zS c q.length b.length∧f 8=zB x∧f 9=i64 u∧f 10=zP (some ⟨b0,0,none⟩)∧f 52=zB c2∧aI G K (box b0 51 [i64 d.F,i64 d.B,i64 d.To]::aR 4 K c b.length q::L) w) ?_ ?_)))))))
     ·rintro f l4 ⟨c2,a,d7,d8,c3,i7,d9,i8,e0,c4⟩
      unfold mB at a
      refine aA ?_
      rcases aH a with ⟨c6,a⟩|⟨c6,a⟩
      ·refine aM c6 e0 (aK (aN c3 (aD (bL (t':=2) iC i8 rfl) (aD (dG bY c4 (i:=0) rfl rfl rfl) ?_))))
       obtain ⟨l5,e1,a⟩:=aC a
       refine aD (eM pB rfl b1 rfl rfl rfl e1) ?_
       obtain ⟨e2,e3,a⟩:=aC a
       exact sM (i:=1) (t:=0) (ns:=[zB true]) (e':=(true:Bool)) Tryz.sizeOf4 c4 rfl (zR _) rfl rfl rfl e1 e3 rfl rfl (fO rfl) rfl (fun cs h=>by cases h;rfl) (fun i9 (j0:aI G K (box b0 51 [i64 d.F,i64 d.B,i64 d.To]::aR 4 K c b.length e2::L) i9)=>(aG (aP (aF (v:=zB true) (bM (bA (aA ⟨e2,true,a,d7,d8,(Eq.trans c3 (congrArg (fun n=>zS c n b.length) (oY e3))),rfl,d9,(aI.arr 1 [] j0 rfl)⟩)))))))
      ·exact aJ c6 e0 (aY (bA (aA ⟨q,x,a,d7,d8,c3,i7,d9,(aI.arr 1 [] c4 rfl)⟩)))
     refine aP (aN Z (aD (bL (t':=0) iY rfl rfl) (aD (dG bY y (i:=0) rfl rfl rfl) ?_)))
     obtain ⟨j1,e4,a⟩:=aC a
     refine aD (eM pB rfl b1 rfl rfl rfl e4) (aD (lB (t:=0) sc_4 y (i:=1) rfl e4 rfl rfl rfl) (aL (v:=zB j1) ?_))
     rcases aH a with ⟨m,a⟩|⟨m,a⟩
     ·refine bB m rfl rfl (aN Z (bB m rfl rfl (aD (bL (t':=2) iC rfl rfl) (bB m rfl rfl (aD (dG bY y (i:=0) rfl rfl rfl) (bB m rfl rfl ?_))))))
      obtain ⟨e5,e6,a⟩:=aC a
      refine aD (eM pB rfl b1 rfl rfl rfl e6) (bB m rfl rfl (aD (lB (t:=0) sc_4 y (i:=1) rfl e6 rfl rfl rfl) (bB m rfl rfl (aD (eR rfl) (aD (bF (v:=zB (!e5)) m rfl rfl) (aL (v:=zB (!e5)) ?_))))))
      rcases aH a with ⟨z,a⟩|⟨z,a⟩
      ·refine bB z rfl rfl (aN a5 (bB z rfl rfl ?_))
       obtain ⟨l6,j2,j3,j4,j5⟩:=aI.lendB (i:=0) y rfl
       obtain ⟨e7,j6,a⟩:=aC a
       refine aQ (vs:=[cP (some ⟨b0,0,none⟩) 0,zS a10 p.length c11]) Tryz.call74 rfl (vT j4 j3 (e8.mono j2) j6) ?_
       rintro _ l7 ⟨rfl,j7⟩
       have j8:=j5 _ _ j7
       exact aD (bF (v:=zB e7) z rfl rfl) (aG ⟨e7,a,V,a5,Z,b5,a6,rfl,rfl,j8⟩)
      ·exact aU z rfl rfl (aU z rfl rfl (aD (bH (v:=zB false) z rfl rfl) (aG ⟨false,a,V,a5,Z,b5,a6,rfl,rfl,y⟩)))
     ·exact aU m rfl rfl (aU m rfl rfl (aU m rfl rfl (aU m rfl rfl (aU m rfl rfl (aU m rfl rfl (aD (bH (v:=zB false) m rfl rfl) (aL (v:=zB false) (aU (by decide:¬ false=true) rfl rfl (aU (by decide:¬ false=true) rfl rfl (aD (bH (v:=zB false) (by decide:¬ false=true) rfl rfl) (aG ⟨false,a,V,a5,Z,b5,a6,rfl,rfl,y⟩)))))))))))
    ·refine aJ c1 rfl (cA (aV (aV ?_)))
     have j9:=h4 _ (zI a).symm
     subst j9
     have j:(zD q x)=some b2:=j
     exact bN (aA ⟨q,x,j,V,a5,Z,b5,a8⟩)
  ·refine aJ b9 rfl (cA (aV (aV ?_)))
   have k0:=f8 _ (zI j).symm
   subst k0
   have l:(yZ J)=some R:=l
   exact bN (aA ⟨J,l,d4,d5⟩)
theorem aEf {e:(List Int)} {n:Int} {R:(List Int)} (hs:aI G K (L) w) (o:bX K a1 c2 e) (b:aCf e n=some R):
  Calls Tryz.prog 132 ([zS a1 e.length c2,i64 n]:List Value).toArray w (gQ fun v w'=>∃ (d4:Option Addr) (d5:Nat),v=zS d4 R.length d5∧aI G K (aR 2 K d4 d5 R::L) w'):=by
 refine aS Tryz.func132 rfl (by kernel_rfl) (by show (2:Nat)≤49;decide) ?_
 unfold aCf at b
 refine aK (aF (v:=zS none 0 0) (aG (aK (cJ (Kt:=K) (xs:=([]:List Int)) (cs:=[]) (vs:=[]) bO jU rfl rfl hs rfl (by kernel_rfl) rfl rfl rfl trivial (fun a4 w5 (e8:aI G K (aR 2 K a4 0 ([]:List Int)::L) w5)=>(aF (v:=zS a4 ([]:List Int).length 0) (aG (aK (aF (v:=zB false) (aG (aO (aK (aF (v:=i64 0) (aG (aZ (fun f w=>∃ (p:List Int) (b4:Bool) (q:Option Addr) (r:Nat),aAi n p b4=some R∧f 1=i64 n∧f 5=zS q p.length r∧f 6=zB b4∧aI G K (aR 2 K q r p::L) w) ?_ ?_)))))))))))))))
 ·rintro f i6 ⟨p,b4,q,r,b,e9,d6,f0,d7⟩
  unfold aAi at b
  refine aA (lV (fun f w=>∃ (u:List Int) (x:Option Addr) (y:Nat),aAh u=some R∧f 5=zS x u.length y∧aI G K (aR 2 K x y u::L) w) ?_ ?_)
  ·rintro f i7 ⟨u,x,y,b,f1,f2⟩
   unfold aAh at b
   refine aK (aN f1 (aF (v:=zS x u.length y) (aG ?_)))
   obtain rfl:=zI b
   exact bK (bE Tryz.results132 rfl ⟨x,y,rfl,f2⟩)
  refine aK (aN f0 (aD (eR rfl) (aG ?_)))
  rcases aH b with ⟨b5,b⟩|⟨b5,b⟩
  ·refine aM b5 rfl (aP (aN d6 (aN e9 (cJ (Kt:=K) (xs:=([n]:List Int)) (cs:=[i64 n]) (vs:=[(0,i64 n)]) bO jU rfl rfl d7 rfl (by kernel_rfl) rfl rfl rfl ⟨rfl,trivial⟩ (fun f4 f5 (f6:aI G K (aR 2 K f4 1 ([n]:List Int)::aR 2 K q r p::L) f5)=>?_)))))
   obtain ⟨b6,f7,b⟩:=aC b
   exact eK (i:=0) bO Tryz.underlying40 jU rfl rfl f6 rfl (zR _) (zR _) f7 rfl rfl rfl rfl (fun _ h=>h) (fun b7 b8 f8 (f9:aI G K (aR 2 K b7 b8 b6::L) f8)=>(aF (v:=zS b7 b6.length b8) (aG ⟨b6,b7,b8,b,rfl,f9⟩)))
  ·exact aJ b5 rfl (aY (aA ⟨p,q,r,b,d6,d7⟩))
 obtain ⟨i8,g0,b⟩:=aC b
 refine cC g0 (fun (s:(List Int × Bool × Int)) f w=>match s with|(d,j,k)=>∃ (l:Option Addr) (m:Nat),f 0=zS a1 e.length c2∧f 1=i64 n∧f 5=zS l d.length m∧f 6=zB j∧f 7=i64 k∧aI G K (aR 2 K l m d::L) w) ?_ ?_
 ·exact ⟨a4,0,rfl,rfl,rfl,rfl,rfl,e8⟩
 ·rintro ⟨d,j,k⟩ b9 f i9 a g1 ⟨l,m,V,Z,c0,a0,a2,a3⟩
  replace a:qF e n d j k=some b9:=a
  unfold qF at a
  refine aO (aK (aN a2 (aN V (aD (bT (len:=e.length) bO rfl) (aD (cT rfl rfl) (aG ?_))))))
  rcases aH a with ⟨c1,a⟩|⟨c1,a⟩
  ·refine aM c1 rfl (aY (aA (aO (cI (lV (fun f w=>∃ (z:List Int) (a5:Bool) (a6:Option Addr) (a7:Nat),sS e k z a5=some b9∧f 0=zS a1 e.length c2∧f 1=i64 n∧f 5=zS a6 z.length a7∧f 6=zB a5∧f 7=i64 k∧aI G K (aR 2 K a6 a7 z::L) w) ?_ ?_)))))
   ·rintro f j0 ⟨z,a5,a6,a7,a,d8,g2,g3,g4,d9,e0⟩
    unfold sS at a
    refine aP (aN g3 (aN d8 (aN d9 ?_)))
    obtain ⟨a9,e1,a⟩:=aC a
    refine aD (cU bO rfl o rfl rfl rfl e1) ?_
    obtain ⟨j1,g5,g6⟩:=bX.el (sz:=1) rfl o e1
    cases g6
    refine aD (bG (t:=0) bY e0 g5 rfl rfl) (cJ (Kt:=K) (xs:=([a9]:List Int)) (cs:=[i64 a9]) (vs:=[(0,i64 a9)]) bO jU rfl rfl e0 rfl (by kernel_rfl) rfl rfl rfl ⟨rfl,trivial⟩ (fun g7 g8 (g9:aI G K (aR 2 K g7 1 ([a9]:List Int)::aR 2 K a6 a7 z::L) g8)=>?_))
    obtain ⟨c3,h0,a⟩:=aC a
    exact eK (i:=0) bO Tryz.underlying40 jU rfl rfl g9 rfl (zR _) (zR _) h0 rfl rfl rfl rfl (fun _ h=>h) (fun c4 c5 h1 (h2:aI G K (aR 2 K c4 c5 c3::L) h1)=>(aF (v:=zS c4 c3.length c5) (bM (bA (aA (aP (aN d9 (aD (cK rfl rfl) (aF (v:=i64 (wr (k+1))) (aG ⟨(c3,a5,wr (k+1)),(zI a).symm,c4,c5,d8,g2,rfl,g4,rfl,h2⟩))))))))))
   refine aO (dO (fun f w=>∃ (c6:Bool),wQ e n d j k c6=some b9∧f 0=zS a1 e.length c2∧f 1=i64 n∧f 5=zS l d.length m∧f 6=zB j∧f 7=i64 k∧f 24=zB c6∧aI G K (aR 2 K l m d::L) w) ?_ ?_)
   ·rintro f j2 ⟨c6,a,b0,J,c7,h4,b1,e2,b2⟩
    unfold wQ at a
    refine aA ?_
    rcases aH a with ⟨c8,a⟩|⟨c8,a⟩
    ·refine aM c8 e2 (aK (aF (v:=zB true) (aG (aK (aN b0 (aN b1 ?_))))))
     obtain ⟨j3,e3,a⟩:=aC a
     refine aD (cU bO rfl o rfl rfl rfl e3) ?_
     obtain ⟨j4,h5,h6⟩:=bX.el (sz:=1) rfl o e3
     cases h6
     refine aD (bG (t:=0) bY b2 h5 rfl rfl) (aN J (aD (sL rfl rfl) (aG ?_)))
     rcases aH a with ⟨d0,a⟩|⟨d0,a⟩
     ·refine aM d0 rfl (aP (aN c7 (aN J (cJ (Kt:=K) (xs:=([n]:List Int)) (cs:=[i64 n]) (vs:=[(0,i64 n)]) bO jU rfl rfl b2 rfl (by kernel_rfl) rfl rfl rfl ⟨rfl,trivial⟩ (fun h7 h8 (h9:aI G K (aR 2 K h7 1 ([n]:List Int)::aR 2 K l m d::L) h8)=>?_)))))
      obtain ⟨d1,i0,a⟩:=aC a
      exact eK (i:=0) bO Tryz.underlying40 jU rfl rfl h9 rfl (zR _) (zR _) i0 rfl rfl rfl rfl (fun _ h=>h) (fun d2 d3 i1 (i2:aI G K (aR 2 K d2 d3 d1::L) i1)=>(aF (v:=zS d2 d1.length d3) (aG ⟨d1,true,d2,d3,a,b0,J,rfl,rfl,b1,i2⟩)))
     ·exact aJ d0 rfl (aY (aA ⟨d,true,l,m,a,b0,J,c7,rfl,b1,b2⟩))
    ·exact aJ c8 e2 (aY (aA ⟨d,j,l,m,a,b0,J,c7,h4,b1,b2⟩))
   refine aP (aN a0 (aD (eR rfl) (aL (v:=zB (!j)) ?_)))
   rcases aH a with ⟨c,a⟩|⟨c,a⟩
   ·refine bB c rfl rfl (aN V (bB c rfl rfl (aN a2 (bB c rfl rfl ?_))))
    obtain ⟨e4,e5,a⟩:=aC a
    refine aD (cU bO rfl o rfl rfl rfl e5) ?_
    obtain ⟨j5,i3,i4⟩:=bX.el (sz:=1) rfl o e5
    cases i4
    exact bB c rfl rfl (aD (bG (t:=0) bY a3 i3 rfl rfl) (bB c rfl rfl (aN Z (bB c rfl rfl (aD (uJ rfl rfl) (aD (bF (v:=zB (decide (n≤e4))) c rfl rfl) (aG ⟨decide (n≤e4),a,V,Z,c0,a0,a2,rfl,a3⟩)))))))
   ·exact aU c rfl rfl (aU c rfl rfl (aU c rfl rfl (aU c rfl rfl (aU c rfl rfl (aU c rfl rfl (aD (bH (v:=zB false) c rfl rfl) (aG ⟨false,a,V,Z,c0,a0,a2,rfl,a3⟩)))))))
  ·refine aJ c1 rfl (cA (aV (aV ?_)))
   have i5:=g1 _ (zI a).symm
   subst i5
   have b:(aAi n d j)=some R:=b
   exact bN (aA ⟨d,j,l,m,b,Z,c0,a0,a3⟩)
theorem aFQ {t:cD} {h:Nat} {p:(List Int)} {k:Int} {R:(List Int)} (hs:aI G K (L) w) (r:fP K a1 h (zC t a4 c5 a7 c8)) (h6:bX K a4 c5 t.L) (h9:bX K a7 c8 t.E) (a0:bX K a10 c11 p) (d:aAj t p k=some R):
  Calls Tryz.prog 99 ([cP a1 h,zS a10 p.length c11,i64 k]:List Value).toArray w (gQ fun v w'=>∃ (c1:Option Addr) (c2:Nat),v=zS c1 R.length c2∧aI G K (aR 2 K c1 c2 R::L) w'):=by
 refine aS Tryz.func99 rfl (by kernel_rfl) (by show (3:Nat)≤56;decide) ?_
 unfold aAj at d
 refine aK (aF (v:=zS none 0 0) (aG (aK (aL (v:=cP a1 h) (aL (v:=zS a10 p.length c11) (aL (v:=i64 k) ?_))))))
 obtain ⟨e,e3,d⟩:=aC d
 refine aQ (vs:=[cP a1 h,zS a10 p.length c11,i64 k]) Tryz.call131 rfl (aGu hs r h6 h9 a0 e3) ?_
 rintro _ i7 ⟨j,l,rfl,e4⟩
 refine aF (v:=zS j e.length l) (aG (aK (cJ (Kt:=K) (xs:=([]:List Int)) (cs:=[]) (vs:=[]) bO jU rfl rfl e4 rfl (by kernel_rfl) rfl rfl rfl trivial (fun b1 e5 (e6:aI G K (aR 2 K b1 0 ([]:List Int)::aR 4 K j l e::L) e5)=>(aF (v:=zS b1 ([]:List Int).length 0) (aG (aO (aK (aF (v:=i64 0) (aG (aZ (fun f w=>∃ (x:List Int) (y:Option Addr) (z:Nat),xC x=some R∧f 8=zS y x.length z∧aI G K (aR 2 K y z x::L) w) ?_ ?_)))))))))))
 ·rintro f i8 ⟨x,y,z,d,e7,e8⟩
  unfold xC at d
  refine aA (aK (aN e7 (aF (v:=zS y x.length z) (aG ?_))))
  obtain rfl:=zI d
  exact bK (bE Tryz.results99 rfl ⟨y,z,rfl,e8⟩)
 obtain ⟨i9,f0,d⟩:=aC d
 refine cC f0 (fun (s:(List Int × Int)) f w=>match s with|(c,m)=>∃ (n:Option Addr) (o:Nat),f 0=cP a1 h∧f 1=zS a10 p.length c11∧f 7=zS j e.length l∧f 8=zS n c.length o∧f 9=i64 m∧aI G K (aR 2 K n o c::aR 4 K j l e::L) w) ?_ ?_
 ·exact ⟨b1,0,rfl,rfl,rfl,rfl,rfl,e6⟩
 ·rintro ⟨c,m⟩ b2 f j0 a f1 ⟨n,o,a2,b3,b4,b5,a3,J⟩
  replace a:jZ t p e c m=some b2:=a
  unfold jZ at a
  refine aO (aK (aN a3 (aN a2 (aD (cX rfl r) (aD (cG (k':=h+3) dY rfl r rfl) (aD (bG (t:=3) jR J r rfl rfl) (aD (bT (len:=t.E.length) cN rfl) (aD (cT rfl rfl) (aG ?_)))))))))
  rcases aH a with ⟨b6,a⟩|⟨b6,a⟩
  ·refine aM b6 rfl (aY (aA (aO (aZ (fun f w=>∃ (V:List Int) (a5:Option Addr) (a6:Nat),pF m V=some b2∧f 0=cP a1 h∧f 1=zS a10 p.length c11∧f 7=zS j e.length l∧f 8=zS a5 V.length a6∧f 9=i64 m∧aI G K (aR 2 K a5 a6 V::aR 4 K j l e::L) w) ?_ ?_))))
   ·rintro f j1 ⟨V,a5,a6,a,f2,f3,f4,f5,f6,f7⟩
    unfold pF at a
    exact aA (aP (aN f6 (aD (cK rfl rfl) (aF (v:=i64 (wr (m+1))) (aG ⟨(V,wr (m+1)),(zI a).symm,a5,a6,f2,f3,f4,f5,rfl,f7⟩)))))
   refine aK (aN a2 (aD (cX rfl r) (aD (cG (k':=h+3) dY rfl r rfl) (aD (bG (t:=3) jR J r rfl rfl) (aN a3 ?_)))))
   obtain ⟨b,c3,a⟩:=aC a
   refine aD (cU cN rfl h9 rfl rfl rfl c3) ?_
   obtain ⟨j2,f8,f9⟩:=bX.el (sz:=3) rfl h9 c3
   cases f9
   refine aD (iD (t:=0) (vs:=[i64 b.F,i64 b.B,i64 b.To]) kW J f8 rfl rfl rfl) (cQ (vs:=[i64 0,i64 0,i64 0]) Tryz.zeroValue51 J rfl (fun a8 j3 g0=>(cZ (i:=0) (ns:=[i64 b.F,i64 b.B,i64 b.To]) (us:=[i64 b.F,i64 b.B,i64 b.To]) Tryz.sizeOf51 g0 rfl rfl rfl rfl rfl (fO rfl) rfl rfl (fun g1 (Z:aI G K (box a8 51 [i64 b.F,i64 b.B,i64 b.To]::aR 2 K n o c::aR 4 K j l e::L) g1)=>(aG (aO (dO (fun f w=>∃ (b7:Bool),mT p c m b b7=some b2∧f 0=cP a1 h∧f 1=zS a10 p.length c11∧f 7=zS j e.length l∧f 8=zS n c.length o∧f 9=i64 m∧f 10=zP (some ⟨a8,0,none⟩)∧f 41=zB b7∧aI G K (box a8 51 [i64 b.F,i64 b.B,i64 b.To]::aR 2 K n o c::aR 4 K j l e::L) w) ?_ ?_)))))))
   ·rintro f j4 ⟨b7,a,c4,a9,c6,c7,c9,d0,d1,d2⟩
    unfold mT at a
    refine aA ?_
    rcases aH a with ⟨b8,a⟩|⟨b8,a⟩
    ·refine aM b8 d1 ?_
     obtain ⟨g2,b9,d3,d4,g3⟩:=aI.lendB (i:=0) d2 rfl
     refine dQ (C:=fun w'=>∃ L',aI G g2 L' w') [(0,0),(1,0),(2,0),(3,0),(4,0),(5,0),(6,0),(7,0),(8,0),(9,0),(10,0),(11,0),(12,1),(13,0)] bP (by kernel_rfl) (fun _ hg=>⟨_,aI.mono d4 hg⟩) (fun j5 g4=>?_)
     have u:=aI.mono d4 g4
     refine bJ rfl (fun _ _=>aW c7) (bJ rfl (fun _ _=>bL (t':=1) iZ d0 rfl) (bJ rfl (fun _ ⟨_,u⟩=>bG (t:=1) bY u d3 rfl rfl) (bJ rfl (fun _ _=>aW a9) (bJ rfl (fun _ _=>bT (len:=p.length) bO rfl) (bJ rfl (fun _ _=>R_mul rfl rfl) (bJ rfl (fun _ _=>aW a9) (bJ rfl (fun _ _=>bL (t':=2) iC d0 rfl) (bJ rfl (fun _ ⟨_,u⟩=>bG (t:=2) bY u d3 rfl rfl) ?_))))))))
     obtain ⟨g5,d5,a⟩:=aC a
     refine bJ rfl (fun _ _=>cU bO rfl (a0.mono b9) rfl rfl rfl d5) ?_
     obtain ⟨j6,g6,g7⟩:=bX.el (sz:=1) rfl a0 d5
     cases g7
     refine bJ rfl (fun _ ⟨_,u⟩=>bG (t:=0) bY u (g6.mono b9) rfl rfl) (bJ rfl (fun _ _=>cK rfl rfl) (gZ rfl ?_))
     obtain ⟨j7,j8,g8,g9,h0⟩:=aI.lendS (i:=0) u b9 rfl
     obtain ⟨d6,h1,a⟩:=aC a
     refine aQ (vs:=[zS n c.length o,i64 (wr ((wr (b.B * (p.length:Int)))+g5))]) Tryz.call132 rfl (aEf g9 g8 h1) ?_
     rintro _ j9 ⟨d7,d8,rfl,h2⟩
     have d9:=h0 _ _ h2
     refine bM (aA ⟨⟨_,d9⟩,?_⟩)
     refine bJ rfl (fun _ _=>gB (v:=zS d7 d6.length d8) rfl) (gR ?_)
     have h4:=g3 _ _ d9
     exact bA (aA ⟨d6,d7,d8,a,c4,a9,c6,rfl,c9,(aI.arr 2 [] h4 rfl)⟩)
    ·exact aJ b8 d1 (aY (bA (aA ⟨c,n,o,a,c4,a9,c6,c7,c9,(aI.arr 1 [] d2 rfl)⟩)))
   refine aP (aN b4 (aD (bL (t':=0) iY rfl rfl) (aD (dG bY Z (i:=0) rfl rfl rfl) ?_)))
   obtain ⟨h5,c0,a⟩:=aC a
   have h7:=dZ Z (i:=2) rfl c0
   refine aD (eM pB rfl h7 rfl rfl rfl c0) (aD (lB (t:=0) sc_4 Z (i:=2) rfl c0 rfl rfl rfl) (aL (v:=zB h5) ?_))
   rcases aH a with ⟨q,a⟩|⟨q,a⟩
   ·refine bB q rfl rfl (aN b3 (bB q rfl rfl ?_))
    obtain ⟨k0,h8,i0,i1,i2⟩:=aI.lendB (i:=0) Z rfl
    obtain ⟨e0,i3,a⟩:=aC a
    refine aQ (vs:=[cP (some ⟨a8,0,none⟩) 0,zS a10 p.length c11]) Tryz.call74 rfl (vT i1 i0 (a0.mono h8) i3) ?_
    rintro _ k1 ⟨rfl,i4⟩
    have i5:=i2 _ _ i4
    exact bB q rfl rfl (aD (eR rfl) (aD (bF (v:=zB (!e0)) q rfl rfl) (aG ⟨!e0,a,a2,b3,b4,b5,a3,rfl,rfl,i5⟩)))
   ·exact aU q rfl rfl (aU q rfl rfl (aU q rfl rfl (aD (bH (v:=zB false) q rfl rfl) (aG ⟨false,a,a2,b3,b4,b5,a3,rfl,rfl,Z⟩))))
  ·refine aJ b6 rfl (cA (aV (aV ?_)))
   have i6:=f1 _ (zI a).symm
   subst i6
   have d:(xC c)=some R:=d
   exact bN (aA ⟨c,n,o,d,b5,(aI.arr 2 [0] J rfl)⟩)
theorem aFR {t:cD} {k2:Nat} {p:(List Int)} {b4:Bool} {R:(List Int)} (hs:aI G K (L) w) (h3:fP K a1 k2 (zC t a4 c5 a7 c8)) (h6:bX K a4 c5 t.L) (h9:bX K a7 c8 t.E) (b8:bX K a10 c11 p) (q:aAk t p b4=some R):
  Calls Tryz.prog 67 ([cP a1 k2,zS a10 p.length c11,zB b4]:List Value).toArray w (gQ fun v w'=>∃ (j3:Option Addr) (j4:Nat),v=zS j3 R.length j4∧aI G K (aR 2 K j3 j4 R::L) w'):=by
 refine aS Tryz.func67 rfl (by kernel_rfl) (by show (3:Nat)≤96;decide) ?_
 unfold aAk at q
 refine aK (aF (v:=zS none 0 0) (aG (aK (aL (v:=cP a1 k2) (aL (v:=zS a10 p.length c11) ?_)))))
 obtain ⟨z,n7,q⟩:=aC q
 refine aQ (vs:=[cP a1 k2,zS a10 p.length c11]) Tryz.call76 rfl (aBH hs h3 h6 h9 b8 n7) ?_
 rintro _ x7 ⟨V,Z,rfl,n8⟩
 refine aF (v:=zS V z.length Z) (aG (aK (cJ (Kt:=K) (xs:=([]:List (List Int))) (cs:=[]) (vs:=[]) fD qD rfl rfl n8 rfl (by kernel_rfl) rfl rfl rfl trivial (fun e8 n9 (o0:aI G K (aR 40 K e8 0 ([]:List (List Int))::aR 4 K V Z z::L) n9)=>(aF (v:=zS e8 ([]:List (List Int)).length 0) (aG (aO (aK (aF (v:=i64 0) (aG (aZ (fun f w=>∃ (c:Hp) (j:List (List Int)) (l:Option Addr) (m:Nat),Hp.le K c∧qU p j=some R∧f 1=zS a10 p.length c11∧f 8=zS l j.length m∧aI G c (aR 40 c l m j::L) w) ?_ ?_)))))))))))
 ·rintro f x8 ⟨c,j,l,m,b5,q,o1,o2,o3⟩
  unfold qU at q
  refine aA (aK (cJ (Kt:=K) (xs:=([]:List Int)) (cs:=[]) (vs:=[]) bO jU rfl rfl o3 rfl (by kernel_rfl) rfl rfl rfl trivial (fun e9 o4 (o5:aI G c (aR 2 K e9 0 ([]:List Int)::aR 40 c l m j::L) o4)=>(aF (v:=zS e9 ([]:List Int).length 0) (aG (aK (aF (v:=i64 0) (aG (aO (aK (aF (v:=i64 0) (aG (aZ (fun f w=>∃ (c1:List Int) (c2:Option Addr) (c3:Nat),xD c1=some R∧f 11=zS c2 c1.length c3∧aI G c (aR 2 K c2 c3 c1::L) w) ?_ ?_)))))))))))))
  ·rintro f x9 ⟨c1,c2,c3,q,o6,o7⟩
   unfold xD at q
   refine aA (aK (aN o6 (aF (v:=zS c2 c1.length c3) (aG ?_))))
   obtain rfl:=zI q
   exact bK (bE Tryz.results67 rfl ⟨c2,c3,rfl,(aI.weakK o7 b5)⟩)
  obtain ⟨y0,o9,q⟩:=aC q
  refine cC o9 (fun (s:(List Int × Int × Int)) f w=>match s with|(k,J,o)=>∃ (r:Option Addr) (u:Nat),f 1=zS a10 p.length c11∧f 8=zS l j.length m∧f 11=zS r k.length u∧f 12=i64 J∧f 13=i64 o∧aI G c (aR 2 K r u k::aR 40 c l m j::L) w) ?_ ?_
  ·exact ⟨e9,0,o1,o2,rfl,rfl,rfl,o5⟩
  ·rintro ⟨k,J,o⟩ c4 f y1 d p0 ⟨r,u,j5,p1,j6,p2,j7,j8⟩
   replace d:aBm p j k J o=some c4:=d
   unfold aBm at d
   refine aO (aK (aN j7 (aN j5 (aD (bT (len:=p.length) bO rfl) (aD (cT rfl rfl) (aG ?_))))))
   rcases aH d with ⟨f0,d⟩|⟨f0,d⟩
   ·refine aM f0 rfl (aY (aA (aO (aZ (fun f w=>∃ (c6:List Int) (d4:Int) (d5:Option Addr) (d6:Nat),aBk o c6 d4=some c4∧f 1=zS a10 p.length c11∧f 8=zS l j.length m∧f 11=zS d5 c6.length d6∧f 12=i64 d4∧f 13=i64 o∧aI G c (aR 2 K d5 d6 c6::aR 40 c l m j::L) w) ?_ ?_))))
    ·rintro f y2 ⟨c6,d4,d5,d6,d,p3,p4,p5,p6,p7,p8⟩
     unfold aBk at d
     exact aA (aP (aN p7 (aD (cK rfl rfl) (aF (v:=i64 (wr (o+1))) (aG ⟨(c6,d4,wr (o+1)),(zI d).symm,d5,d6,p3,p4,p5,p6,rfl,p8⟩)))))
    refine aK (aF (v:=i64 (-1)) (aG (aO (aK (aF (v:=i64 0) (aG (aZ (fun f w=>∃ (d7:Int),xF k J o d7=some c4∧f 1=zS a10 p.length c11∧f 8=zS l j.length m∧f 11=zS r k.length u∧f 12=i64 J∧f 13=i64 o∧f 14=i64 d7∧aI G c (aR 2 K r u k::aR 40 c l m j::L) w) ?_ ?_)))))))
    ·rintro f y3 ⟨d7,d,j9,k0,k1,f1,k3,k4,k5⟩
     unfold xF at d
     refine aA (lV (fun f w=>∃ (d8:Int) (b6:Int),xE k o d8 b6=some c4∧f 1=zS a10 p.length c11∧f 8=zS l j.length m∧f 11=zS r k.length u∧f 12=i64 d8∧f 13=i64 o∧f 14=i64 b6∧aI G c (aR 2 K r u k::aR 40 c l m j::L) w) ?_ ?_)
     ·rintro f y4 ⟨d8,b6,d,p9,q0,q1,q2,q3,q4,q5⟩
      unfold xE at d
      refine aP (aN q1 (aN q4 (cJ (Kt:=K) (xs:=([b6]:List Int)) (cs:=[i64 b6]) (vs:=[(0,i64 b6)]) bO jU rfl rfl q5 rfl (by kernel_rfl) rfl rfl rfl ⟨rfl,trivial⟩ (fun q6 q7 (q8:aI G c (aR 2 K q6 1 ([b6]:List Int)::aR 2 K r u k::aR 40 c l m j::L) q7)=>?_))))
      obtain ⟨f2,q9,d⟩:=aC d
      exact eK (i:=0) bO Tryz.underlying40 jU rfl rfl q8 rfl b5 b5 q9 rfl rfl rfl rfl (fun _ h=>h) (fun f3 f4 r0 (r1:aI G c (aR 2 K f3 f4 f2::aR 40 c l m j::L) r0)=>(aF (v:=zS f3 f2.length f4) (bM (bA (aA ⟨f2,d8,f3,f4,d,p9,q0,rfl,q2,q3,r1⟩)))))
     refine aK (aN k4 (aD (cT rfl rfl) (aG ?_)))
     rcases aH d with ⟨f5,d⟩|⟨f5,d⟩
     ·exact aM f5 rfl (aK (aN f1 (aF (v:=i64 J) (aG (aP (aN f1 (aD (cK rfl rfl) (aF (v:=i64 (wr (J+1))) (aG ⟨wr (J+1),J,d,j9,k0,k1,rfl,k3,rfl,k5⟩)))))))))
     ·exact aJ f5 rfl (aY (aA ⟨J,d7,d,j9,k0,k1,f1,k3,k4,k5⟩))
    obtain ⟨y5,r2,d⟩:=aC d
    refine cC r2 (fun (s:(Int × Int)) f w=>match s with|(a3,a5)=>f 1=zS a10 p.length c11∧f 8=zS l j.length m∧f 11=zS r k.length u∧f 12=i64 J∧f 13=i64 o∧f 14=i64 a3∧f 15=i64 a5∧aI G c (aR 2 K r u k::aR 40 c l m j::L) w) ?_ ?_
    ·exact ⟨j5,p1,j6,p2,j7,rfl,rfl,j8⟩
    ·rintro ⟨a3,a5⟩ d9 f y6 a r3 ⟨k6,k7,k8,k9,f6,f7,f8,l0⟩
     replace a:aBl p j k o a3 a5=some d9:=a
     unfold aBl at a
     refine aO (aO (dO (fun f w=>∃ (f9:Bool),xI p j k o a3 a5 f9=some d9∧f 1=zS a10 p.length c11∧f 8=zS l j.length m∧f 11=zS r k.length u∧f 12=i64 J∧f 13=i64 o∧f 14=i64 a3∧f 15=i64 a5∧f 59=zB f9∧aI G c (aR 2 K r u k::aR 40 c l m j::L) w) ?_ ?_))
     ·rintro f y7 ⟨f9,a,c7,c9,g0,g1,d0,g2,e0,l1,l2⟩
      unfold xI at a
      refine aA ?_
      rcases aH a with ⟨g3,a⟩|⟨g3,a⟩
      ·refine aM g3 l1 (aY (aA (aO (aZ (fun f w=>∃ (e1:Int),xG a5 e1=some d9∧f 1=zS a10 p.length c11∧f 8=zS l j.length m∧f 11=zS r k.length u∧f 12=i64 J∧f 13=i64 o∧f 14=i64 e1∧f 15=i64 a5∧aI G c (aR 2 K r u k::aR 40 c l m j::L) w) ?_ ?_))))
       ·rintro f y8 ⟨e1,a,r4,r5,r6,r7,r8,r9,s0,s1⟩
        unfold xG at a
        exact aA (aP (aN s0 (aD (cK rfl rfl) (aF (v:=i64 (wr (a5+1))) (aG ⟨(e1,wr (a5+1)),(zI a).symm,r4,r5,r6,r7,r8,r9,rfl,s1⟩)))))
       refine aO (dO (fun f w=>∃ (g4:Bool),xH k a3 a5 g4=some d9∧f 1=zS a10 p.length c11∧f 8=zS l j.length m∧f 11=zS r k.length u∧f 12=i64 J∧f 13=i64 o∧f 14=i64 a3∧f 15=i64 a5∧f 81=zB g4∧aI G c (aR 2 K r u k::aR 40 c l m j::L) w) ?_ ?_)
       ·rintro f y9 ⟨g4,a,l3,l4,g5,l5,l6,s2,g6,l7,e2⟩
        unfold xH at a
        refine aA ?_
        rcases aH a with ⟨g7,a⟩|⟨g7,a⟩
        ·refine aM g7 l7 (aP (aN g5 (aN g6 ?_)))
         obtain ⟨l8,g8,a⟩:=aC a
         have s3:=dZ e2 (i:=0) rfl g8
         exact aD (eM bO rfl s3 rfl rfl rfl g8) (aD (lB (t:=0) bY e2 (i:=0) rfl g8 rfl rfl rfl) (aF (v:=i64 l8) (bM (bA (aA ⟨l8,a,l3,l4,g5,l5,l6,rfl,g6,e2⟩)))))
        ·exact aJ g7 l7 (aY (bA (aA ⟨a3,a,l3,l4,g5,l5,l6,s2,g6,e2⟩)))
       obtain ⟨s4,e3,g9,e,l9⟩:=aI.lendS (i:=1) l2 (zR _) rfl
       refine eL (C:=fun w'=>aI G s4 (aR 2 K r u k::L) w') bP (by kernel_rfl) (aI.mono e (dN.drew _)) (bC (fun _ e=>aW c7) (bC (fun _ e=>aW e0) ?_))
       obtain ⟨s5,m0,a⟩:=aC a
       refine bC (fun _ e=>cU bO rfl (b8.mono (zL b5 e3)) rfl rfl rfl m0) ?_
       obtain ⟨z0,s6,s7⟩:=bX.el (sz:=1) rfl b8 m0
       cases s7
       refine bC (fun _ e=>bG (t:=0) bY e (s6.mono (zL b5 e3)) rfl rfl) (bC (fun _ e=>aW c7) (bC (fun _ e=>aW d0) ?_))
       obtain ⟨s8,m1,a⟩:=aC a
       refine bC (fun _ e=>cU bO rfl (b8.mono (zL b5 e3)) rfl rfl rfl m1) ?_
       obtain ⟨z1,s9,t0⟩:=bX.el (sz:=1) rfl b8 m1
       cases t0
       refine bC (fun _ e=>bG (t:=0) bY e (s9.mono (zL b5 e3)) rfl rfl) (bC (fun _ e=>lA rfl rfl) (bC (fun _ e=>aW (v:=zB (s5 == s8)) rfl) ?_))
       rcases aH a with ⟨n,a⟩|⟨n,a⟩
       ·refine dA (g:=71) rfl rfl n (bC (fun _ e=>aW c9) (dA (g:=71) rfl rfl n (bC (fun _ e=>aW e0) (dA (g:=71) rfl rfl n ?_))))
        obtain ⟨t1,h0,a⟩:=aC a
        have m2:=aEQ g9 h0
        refine bC (fun _ e=>eM fD rfl m2 rfl rfl rfl h0) (dA (g:=71) rfl rfl n ?_)
        obtain ⟨z2,t2,t3⟩:=bX.el (sz:=1) rfl g9 h0
        obtain ⟨t4,t5,rfl,t6⟩:=t3
        refine bC (fun _ e=>bG (t:=0) sD e t2 rfl rfl) (dA (g:=71) rfl rfl n (bC (fun _ e=>aW c9) (dA (g:=71) rfl rfl n (bC (fun _ e=>aW d0) (dA (g:=71) rfl rfl n ?_)))))
        obtain ⟨t7,m3,a⟩:=aC a
        refine bC (fun _ e=>eM fD rfl m2 rfl rfl rfl m3) (dA (g:=71) rfl rfl n ?_)
        obtain ⟨z3,t8,t9⟩:=bX.el (sz:=1) rfl g9 m3
        obtain ⟨u0,u1,rfl,u2⟩:=t9
        refine bC (fun _ e=>bG (t:=0) sD e t8 rfl rfl) (dA (g:=71) rfl rfl n ?_)
        obtain ⟨h1,u3,a⟩:=aC a
        refine yW (vs:=[zS t4 t1.length t5,zS u0 t7.length u1]) (v:=zB h1) Tryz.call68 rfl (fun _ e=>(yA e t6 u2 u3)) (bC (fun _ e=>bF (v:=zB h1) n rfl rfl) (fT (fun z4 u4=>?_)))
        have u5:=l9 _ _ u4
        exact aA ⟨h1,a,c7,c9,g0,g1,d0,g2,e0,rfl,(aI.arr 2 [1,0] u5 rfl)⟩
       ·refine bQ (g:=71) rfl rfl (dC n) (bQ (g:=71) rfl rfl (dC n) (bQ (g:=71) rfl rfl (dC n) (bQ (g:=71) rfl rfl (dC n) (bQ (g:=71) rfl rfl (dC n) (bQ (g:=71) rfl rfl (dC n) (bQ (g:=71) rfl rfl (dC n) (bQ (g:=71) rfl rfl (dC n) (bQ (g:=71) rfl rfl (dC n) (bC (fun _ e=>bH (v:=zB false) n rfl rfl) (fT (fun z5 u6=>?_)))))))))))
        have u7:=l9 _ _ u6
        exact aA ⟨false,a,c7,c9,g0,g1,d0,g2,e0,rfl,(aI.arr 2 [1,0] u7 rfl)⟩
      ·refine aJ g3 l1 (cA (aV (aV ?_)))
       have u8:=r3 _ (zI a).symm
       subst u8
       have d:(xF k J o a3)=some c4:=d
       exact bN (aA ⟨a3,d,c7,c9,g0,g1,d0,g2,l2⟩)
     refine aP (aN f8 (aN f6 (aD (cT rfl rfl) (aL (v:=zB (decide (a5 < o))) ?_))))
     rcases aH a with ⟨b7,a⟩|⟨b7,a⟩
     ·exact bB b7 rfl rfl (aN f7 (bB b7 rfl rfl (aD (cT rfl rfl) (aD (bF (v:=zB (decide (a3 < 0))) b7 rfl rfl) (aG ⟨decide (a3 < 0),a,k6,k7,k8,k9,f6,f7,f8,rfl,l0⟩)))))
     ·exact aU b7 rfl rfl (aU b7 rfl rfl (aD (bH (v:=zB false) b7 rfl rfl) (aG ⟨false,a,k6,k7,k8,k9,f6,f7,f8,rfl,l0⟩)))
   ·refine aJ f0 rfl (cA (aV (aV ?_)))
    have u9:=p0 _ (zI d).symm
    subst u9
    have q:(xD k)=some R:=q
    exact bN (aA ⟨k,r,u,q,j6,(aI.arr 2 [0] j8 rfl)⟩)
 obtain ⟨z6,v0,q⟩:=aC q
 refine cC v0 (fun (s:(List (List Int) × Int)) f w=>match s with|(y,a9)=>∃ (x:Hp) (a0:Option Addr) (a2:Nat),Hp.le K x∧f 0=cP a1 k2∧f 1=zS a10 p.length c11∧f 2=zB b4∧f 7=zS V z.length Z∧f 8=zS a0 y.length a2∧f 9=i64 a9∧aI G x (aR 40 x a0 a2 y::aR 4 K V Z z::L) w) ?_ ?_
 ·exact ⟨K,e8,0,(zR _),rfl,rfl,rfl,rfl,rfl,rfl,o0⟩
 ·rintro ⟨y,a9⟩ h2 f z7 b v1 ⟨x,a0,a2,a6,e4,e5,h4,h5,h7,d1,h8⟩
  replace b:jF t p b4 z y a9=some h2:=b
  unfold jF at b
  refine aO (aK (aN d1 (aN e4 (aD (cX rfl (h3.mono a6)) (aD (cG (k':=k2+0) dP rfl (h3.mono a6) rfl) (aD (bG (t:=0) bY h8 (h3.mono a6) rfl rfl) (aD (cT rfl rfl) (aG ?_))))))))
  rcases aH b with ⟨i0,b⟩|⟨i0,b⟩
  ·refine aM i0 rfl (aY (aA (aO (cI (aK (aN e4 (aN e5 (aN d1 ?_))))))))
   obtain ⟨b9,v2,b⟩:=aC b
   refine aQ (vs:=[cP a1 k2,zS a10 p.length c11,i64 a9]) Tryz.call99 rfl (aFQ h8 (h3.mono a6) (h6.mono a6) (h9.mono a6) (b8.mono a6) v2) ?_
   rintro _ z8 ⟨d2,d3,rfl,e6⟩
   refine aF (v:=zS d2 b9.length d3) (aG (lV (fun f w=>∃ (b0:List Int) (b2:Option Addr) (b3:Nat),nN y a9 b0=some h2∧f 0=cP a1 k2∧f 1=zS a10 p.length c11∧f 2=zB b4∧f 7=zS V z.length Z∧f 8=zS a0 y.length a2∧f 9=i64 a9∧f 10=zS b2 b0.length b3∧aI G x (aR 2 K b2 b3 b0::aR 40 x a0 a2 y::aR 4 K V Z z::L) w) ?_ ?_))
   ·rintro f v3 ⟨b0,b2,b3,b,v4,v5,v6,v7,v8,v9,w0,w1⟩
    unfold nN at b
    refine aP (aN v8 (aN w0 ?_))
    have w2:aI G x (rows [2] ([(b2,b3)]:List (Dp.Hd (List Int))) [b0]::aR 40 x a0 a2 y::aR 4 K V Z z::L) v3:=aI.rowsOne w1
    refine cJ (Kt:=K) (xs:=bU ([(b2,b3)]:List (Dp.Hd (List Int))) ([b0]:List (List Int))) (cs:=[zS b2 b0.length b3]) (vs:=[(0,zS b2 b0.length b3)]) fD qD rfl rfl w2 rfl (by kernel_rfl) rfl rfl rfl ⟨rfl,trivial⟩ ?_
    intro w3 m4 (w4:aI G x (aR 40 K w3 1 (bU ([(b2,b3)]:List (Dp.Hd (List Int))) ([b0]:List (List Int)))::rows [2] ([(b2,b3)]:List (Dp.Hd (List Int))) ([b0]:List (List Int))::aR 40 x a0 a2 y::aR 4 K V Z z::L) m4)
    obtain ⟨e7,m5,w5,_,i1,_⟩:=aI.lendD' (i:=0) w4 rfl rfl rfl
    replace i1:aI G e7 (aR 40 x a0 a2 y::aR 4 K V Z z::L) m4:=i1
    obtain ⟨i2,w6,b⟩:=aC b
    exact aAr (i:=0) fD Tryz.underlying33 qD rfl rfl i1 rfl m5 w5 w6 rfl rfl rfl rfl (fun i3 i4 w7 (w8:aI G e7 (aR 40 e7 i3 i4 i2::aR 4 K V Z z::L) w7)=>(aF (v:=zS i3 i2.length i4) (bM (bA (aA (aP (aN v9 (aD (cK rfl rfl) (aF (v:=i64 (wr (a9+1))) (aG ⟨(i2,wr (a9+1)),(zI b).symm,e7,i3,i4,(zL a6 m5),v4,v5,v6,v7,rfl,rfl,w8⟩))))))))))
   refine aO (dO (fun f w=>∃ (i5:Bool),nO y a9 b9 i5=some h2∧f 0=cP a1 k2∧f 1=zS a10 p.length c11∧f 2=zB b4∧f 7=zS V z.length Z∧f 8=zS a0 y.length a2∧f 9=i64 a9∧f 10=zS d2 b9.length d3∧f 38=zB i5∧aI G x (aR 2 K d2 d3 b9::aR 40 x a0 a2 y::aR 4 K V Z z::L) w) ?_ ?_)
   ·rintro f z9 ⟨i5,b,m6,m7,m8,m9,n0,n1,n2,n3,n4⟩
    unfold nO at b
    refine aA ?_
    rcases aH b with ⟨i6,b⟩|⟨i6,b⟩
    ·refine aM i6 n3 (aP (aN n2 (cJ (Kt:=K) (xs:=([(-1)]:List Int)) (cs:=[i64 (-1)]) (vs:=[(0,i64 (-1))]) bO jU rfl rfl n4 rfl (by kernel_rfl) rfl rfl rfl ⟨rfl,trivial⟩ (fun w9 x0 (x1:aI G x (aR 2 K w9 1 ([(-1)]:List Int)::aR 2 K d2 d3 b9::aR 40 x a0 a2 y::aR 4 K V Z z::L) x0)=>?_))))
     obtain ⟨i7,x2,b⟩:=aC b
     exact eK (i:=0) bO Tryz.underlying40 jU rfl rfl x1 rfl a6 a6 x2 rfl rfl rfl rfl (fun _ h=>h) (fun i8 i9 x3 (x4:aI G x (aR 2 K i8 i9 i7::aR 40 x a0 a2 y::aR 4 K V Z z::L) x3)=>(aF (v:=zS i8 i7.length i9) (aG ⟨i7,i8,i9,b,m6,m7,m8,m9,n0,n1,rfl,x4⟩)))
    ·exact aJ i6 n3 (aY (aA ⟨b9,d2,d3,b,m6,m7,m8,m9,n0,n1,n2,n4⟩))
   refine aP (aN h4 (aL (v:=zB b4) ?_))
   rcases aH b with ⟨a8,b⟩|⟨a8,b⟩
   ·refine bB a8 rfl rfl (aN h5 (bB a8 rfl rfl (aN d1 (bB a8 rfl rfl ?_))))
    obtain ⟨n5,j0,b⟩:=aC b
    have x5:=dZ e6 (i:=2) rfl j0
    exact aD (eM pB rfl x5 rfl rfl rfl j0) (bB a8 rfl rfl (aD (lB (t:=0) sc_4 e6 (i:=2) rfl j0 rfl rfl rfl) (aD (bF (v:=zB n5) a8 rfl rfl) (aG ⟨n5,b,e4,e5,h4,h5,h7,d1,rfl,rfl,e6⟩))))
   ·exact aU a8 rfl rfl (aU a8 rfl rfl (aU a8 rfl rfl (aU a8 rfl rfl (aD (bH (v:=zB false) a8 rfl rfl) (aG ⟨false,b,e4,e5,h4,h5,h7,d1,rfl,rfl,e6⟩)))))
  ·refine aJ i0 rfl (cA (aV (aV ?_)))
   have x6:=v1 _ (zI b).symm
   subst x6
   have q:(qU p y)=some R:=q
   exact bN (aA ⟨x,y,a0,a2,a6,q,e5,h7,(aI.arr 2 [0] h8 rfl)⟩)
theorem aDh {t:cD} {h:Nat} {m:Bool} {R:(List Int)} (x:aI G K (L) w) (o:fP K a1 h (zC t a4 c5 a7 c8)) (h6:bX K a4 c5 t.L) (h9:bX K a7 c8 t.E) (b:aAX t m=some R):
  Calls Tryz.prog 34 ([cP a1 h,zB m]:List Value).toArray w (gQ fun v w'=>∃ (y:Option Addr) (z:Nat),v=zS y R.length z∧aI G K (aR 2 K y z R::L) w'):=by
 refine aS Tryz.func34 rfl (by kernel_rfl) (by show (2:Nat)≤21;decide) ?_
 unfold aAX at b
 refine aK (aF (v:=zS none 0 0) (aG (aK (aL (v:=cP a1 h) (aD (cX rfl o) (aD (cG (k':=h+0) dP rfl o rfl) (aD (bG (t:=0) bY x o rfl rfl) ?_)))))))
 obtain ⟨n,a3,b⟩:=aC b
 refine aDY (e:=(0:Int)) bO jU rfl rfl x rfl rfl rfl a3 rfl (fun p a5 (a6:aI G K (aR 2 K p n.length n::L) a5)=>(aF (v:=zS p n.length n.length) (aG (cI ?_))))
 obtain ⟨d3,a8,b⟩:=aC b
 refine cC a8 (fun (c:List Int) f w=>∃ (d:Option Addr) (g:Nat),f 0=cP a1 h∧f 1=zB m∧f 5=zS d c.length g∧aI G K (aR 2 K d g c::L) w) ?_ ?_
 ·exact ⟨p,n.length,rfl,rfl,rfl,a6⟩
 ·rintro c a9 f d4 a b0 ⟨d,g,J,V,q,b1⟩
  replace a:tV t m c=some a9:=a
  unfold tV at a
  refine cI (aK (aN J (aN q (aN V ?_))))
  obtain ⟨d5,r,b2,b3,b4⟩:=aI.lendS (i:=0) b1 (zR _) rfl
  obtain ⟨j,b5,a⟩:=aC a
  refine aQ (vs:=[cP a1 h,zS d c.length g,zB m]) Tryz.call67 rfl (aFR b3 (o.mono r) (h6.mono r) (h9.mono r) b2 b5) ?_
  rintro _ d6 ⟨k,l,rfl,b6⟩
  have b7:=b4 _ _ b6
  refine aF (v:=zS k j.length l) (aG (aO (aK (aL (v:=zS k j.length l) (aN q ?_)))))
  obtain ⟨d7,b8,b9,c0,c1⟩:=aI.lendS (i:=1) b7 (zR _) rfl
  obtain ⟨d8,c2,c3,c4,c6⟩:=aI.lendS (i:=0) c0 b8 rfl
  obtain ⟨d9,c7,a⟩:=aC a
  refine aQ (vs:=[zS k j.length l,zS d c.length g]) Tryz.call68 rfl (yA c4 (b9.mono c2) c3 c7) ?_
  rintro _ e0 ⟨rfl,c9⟩
  have d0:=c6 _ _ c9
  have Z:=c1 _ _ d0
  refine aG ?_
  rcases aH a with ⟨u,a⟩|⟨u,a⟩
  ·refine aM u rfl (aK (aN q (aF (v:=zS d c.length g) (aG (bK (aX (bS (aX ?_))))))))
   have d1:=b0 _ (zI a).symm
   subst d1
   have b:(some c)=some R:=b
   obtain rfl:=zI b
   exact bS (bE Tryz.results34 rfl ⟨d,g,rfl,(aI.arr 1 [] Z rfl)⟩)
  ·exact aJ u rfl (aY (aA (aP (aL (v:=zS k j.length l) (aF (v:=zS k j.length l) (bM (bA (aA ⟨j,(zI a).symm,k,l,J,V,rfl,(aI.arr 2 [0] Z rfl)⟩))))))))
theorem aAu {d:(List Int)} {n R:Int} (p:aI G K (L) w) (k:bX K a1 c2 d) (b:vY d n=some R):
  Calls Tryz.prog 73 ([zS a1 d.length c2,i64 n]:List Value).toArray w (gQ fun v w'=>v=i64 R∧aI G K (L) w'):=by
 refine aS Tryz.func73 rfl (by kernel_rfl) (by show (2:Nat)≤19;decide) ?_
 unfold vY at b
 refine aK (aF (v:=i64 0) (aG (aO (aK (aF (v:=i64 0) (aG (aZ (fun f w=>zF=some R∧aI G K (L) w) ?_ ?_)))))))
 ·rintro f w4 ⟨b,q⟩
  unfold zF at b
  refine aA (aK (aF (v:=i64 (-1)) (aG ?_)))
  obtain rfl:=zI b
  exact bK (bE Tryz.results73 rfl ⟨rfl,q⟩)
 obtain ⟨a2,u,b⟩:=aC b
 refine cC u (fun (c:Int) f w=>f 0=zS a1 d.length c2∧f 1=i64 n∧f 5=i64 c∧aI G K (L) w) ?_ ?_
 ·exact ⟨rfl,rfl,rfl,p⟩
 ·rintro c x f a3 a l ⟨h,m,e,g⟩
  replace a:rQ d n c=some x:=a
  unfold rQ at a
  refine aO (aK (aN e (aN h (aD (bT (len:=d.length) bO rfl) (aD (cT rfl rfl) (aG ?_))))))
  rcases aH a with ⟨i,a⟩|⟨i,a⟩
  ·refine aM i rfl (aY (aA (aO (cI (aK (aN h (aN e ?_)))))))
   obtain ⟨a4,o,a⟩:=aC a
   refine aD (cU bO rfl k rfl rfl rfl o) ?_
   obtain ⟨a5,y,z⟩:=bX.el (sz:=1) rfl k o
   cases z
   refine aD (bG (t:=0) bY g y rfl rfl) (aN m (aD (lA rfl rfl) (aG ?_)))
   rcases aH a with ⟨j,a⟩|⟨j,a⟩
   ·refine aM j rfl (aK (aN e (aF (v:=i64 c) (aG (bK (bS (aX (aX ?_))))))))
    have J:=l _ (zI a).symm
    subst J
    have b:(some c)=some R:=b
    obtain rfl:=zI b
    exact bS (aX (aX (bE Tryz.results73 rfl ⟨rfl,g⟩)))
   ·exact aJ j rfl (aY (bA (aA (aP (aN e (aD (cK rfl rfl) (aF (v:=i64 (wr (c+1))) (aG ⟨wr (c+1),(zI a).symm,h,m,rfl,g⟩))))))))
  ·refine aJ i rfl (cA (aV (aV ?_)))
   have Z:=l _ (zI a).symm
   subst Z
   have b:(zF)=some R:=b
   exact bN (aA ⟨b,g⟩)
theorem aDi {t:cD} {J:Nat} {a:(List Int)} {R:cD} (hs:aI G K (L) w) (z:fP K a1 J (zC t a4 c5 a7 c8)) (h6:bX K a4 c5 t.L) (h9:bX K a7 c8 t.E) (c0:bX K a10 c11 a) (y:yN t a=some R):
  Calls Tryz.prog 41 ([cP a1 J,zS a10 a.length c11]:List Value).toArray w (gQ fun v w'=>∃ (d0:Option Addr) (d1:Nat) (d2:Option Addr) (d3:Nat),v=Value.agg (zCa R d0 d1 d2 d3)∧aI G K (aR 9 K d0 d1 R.L::aR 51 K d2 d3 R.E::L) w'):=by
 let o:=zG
 refine aS Tryz.func41 rfl (by kernel_rfl) (by show (2:Nat)≤66;decide) ?_
 unfold yN at y
 refine aK (cQ (vs:=o) Tryz.zeroValue27 hs rfl (fun l j7 d4=>(aG (aK (aL (v:=zS a10 a.length c11) (aD (bT (len:=a.length) bO rfl) (aL (v:=zS a10 a.length c11) (aL (v:=cP a1 J) (aD (cX rfl z) (aD (cG (k':=J+1) oV rfl z rfl) (aD (bG (t:=1) bY d4 z rfl rfl) ?_)))))))))))
 obtain ⟨k,e9,y⟩:=aC y
 refine aQ (vs:=[zS a10 a.length c11,i64 t.I]) Tryz.call73 rfl (aAu d4 c0 e9) ?_
 rintro _ j8 ⟨rfl,f0⟩
 refine cJ (Kt:=K) (xs:=([]:List Edge)) (cs:=[]) (vs:=[]) cN jD rfl rfl f0 rfl (by kernel_rfl) rfl rfl rfl trivial (fun u f1 (f2:aI G K (aR 51 K u 0 ([]:List Edge)::box l 27 o::L) f1)=>(aD (nH (vs:=[(0,i64 (a.length:Int)),(1,i64 k),(3,zS u ([]:List Edge).length 0)]) (cs:=[i64 (a.length:Int),i64 k,zS none 0 0,zS u ([]:List Edge).length 0]) bs_27 rfl (by kernel_rfl)) (cQ (vs:=o) Tryz.zeroValue27 f2 rfl (fun m j9 f3=>(cZ (i:=0) (ns:=[i64 (a.length:Int),i64 k,zS none 0 0,zS u ([]:List Edge).length 0]) (us:=[i64 (a.length:Int),i64 k,zS none 0 0,zS u ([]:List Edge).length 0]) Tryz.sizeOf27 f3 rfl rfl rfl rfl rfl (fO rfl) rfl rfl (fun f4 (f5:aI G K (box m 27 [i64 (a.length:Int),i64 k,zS none 0 0,zS u ([]:List Edge).length 0]::aR 51 K u 0 ([]:List Edge)::box l 27 o::L) f4)=>(aG (aK (cJ (Kt:=K) (xs:=([]:List bI)) (cs:=[]) (vs:=[]) dM aBx rfl rfl f5 rfl (by kernel_rfl) rfl rfl rfl trivial (fun f6 f7 (d5:aI G K (aR 9 K f6 0 ([]:List bI)::box m 27 [i64 (a.length:Int),i64 k,zS none 0 0,zS u ([]:List Edge).length 0]::aR 51 K u 0 ([]:List Edge)::box l 27 o::L) f7)=>(aL (v:=cP a1 J) (aD (cX rfl z) (aD (cG (k':=J+2) gV rfl z rfl) (aD (bG (t:=2) oC d5 z rfl rfl) ?_))))))))))))))
 obtain ⟨b,f8,y⟩:=aC y
 refine aAr (i:=0) dM Tryz.underlying24 aBx rfl rfl d5 rfl (zR _) h6 f8 rfl rfl rfl rfl (fun c d f9 (g0:aI G K (aR 9 K c d b::box m 27 [i64 (a.length:Int),i64 k,zS none 0 0,zS u ([]:List Edge).length 0]::aR 51 K u 0 ([]:List Edge)::box l 27 o::L) f9)=>(aD (bL (t':=2) gV rfl rfl) (cZ (i:=1) (ns:=[zS c b.length d]) (us:=[i64 (a.length:Int),i64 k,zS c b.length d,zS u ([]:List Edge).length 0]) Tryz.sizeOf24 g0 rfl rfl rfl rfl rfl (fO rfl) rfl rfl (fun g1 (g2:aI G K (aR 9 K c d b::box m 27 [i64 (a.length:Int),i64 k,zS c b.length d,zS u ([]:List Edge).length 0]::aR 51 K u 0 ([]:List Edge)::box l 27 o::L) g1)=>(aG (aO (aK (aF (v:=i64 0) (aG (aZ (fun f w=>∃ (V:List Edge) (Z:Option Addr) (a0:Nat),aAL a k b V=some R∧f 4=zP (some ⟨l,0,none⟩)∧f 5=zP (some ⟨m,0,none⟩)∧aI G K (aR 51 K Z a0 V::aR 9 K c d b::box m 27 [i64 (a.length:Int),i64 k,zS c b.length d,zS Z V.length a0]::box l 27 o::L) w) ?_ ?_))))))))))
 ·rintro f k0 ⟨V,Z,a0,y,d6,g3,d7⟩
  unfold aAL at y
  refine aA (aK (aD (cS (us:=[i64 (a.length:Int),i64 k,zS c b.length d,zS Z V.length a0]) dB d7 (i:=2) rfl g3 rfl rfl) (cZ (i:=3) (ns:=[i64 (a.length:Int),i64 k,zS c b.length d,zS Z V.length a0]) (us:=[i64 (a.length:Int),i64 k,zS c b.length d,zS Z V.length a0]) Tryz.sizeOf27 d7 rfl d6 rfl rfl rfl (fO rfl) rfl rfl (fun g4 (d8:aI G K (aR 51 K Z a0 V::aR 9 K c d b::box m 27 [i64 (a.length:Int),i64 k,zS c b.length d,zS Z V.length a0]::box l 27 [i64 (a.length:Int),i64 k,zS c b.length d,zS Z V.length a0]::L) g4)=>(aG ?_)))))
  obtain rfl:=zI y
  exact bK (vF Tryz.results41 (oB (vs:=[i64 (a.length:Int),i64 k,zS c b.length d,zS Z V.length a0]) rfl dB d8 (i:=3) rfl d6 rfl) ⟨c,d,Z,a0,rfl,(aI.arr 4 [1,0] d8 rfl)⟩)
 obtain ⟨k1,g6,y⟩:=aC y
 refine cC g6 (fun (s:(List Edge × Int)) f w=>match s with|(n,a2)=>∃ (p:Option Addr) (q:Nat),f 0=cP a1 J∧f 1=zS a10 a.length c11∧f 4=zP (some ⟨l,0,none⟩)∧f 5=zP (some ⟨m,0,none⟩)∧f 6=i64 a2∧aI G K (aR 9 K c d b::box m 27 [i64 (a.length:Int),i64 k,zS c b.length d,zS p n.length q]::aR 51 K p q n::box l 27 o::L) w) ?_ ?_
 ·exact ⟨u,0,rfl,rfl,rfl,rfl,rfl,g2⟩
 ·rintro ⟨n,a2⟩ c1 f k3 e g7 ⟨p,q,b2,b3,c2,c3,b4,b0⟩
  replace e:qL t a n a2=some c1:=e
  unfold qL at e
  refine aO (aK (aN b4 (aN b2 (aD (cX rfl z) (aD (cG (k':=J+3) dY rfl z rfl) (aD (bG (t:=3) jR b0 z rfl rfl) (aD (bT (len:=t.E.length) cN rfl) (aD (cT rfl rfl) (aG ?_)))))))))
  rcases aH e with ⟨c4,e⟩|⟨c4,e⟩
  ·refine aM c4 rfl (aY (aA (aO (aZ (fun f w=>∃ (b1:List Edge) (b5:Option Addr) (b6:Nat),qJ a2 b1=some c1∧f 0=cP a1 J∧f 1=zS a10 a.length c11∧f 4=zP (some ⟨l,0,none⟩)∧f 5=zP (some ⟨m,0,none⟩)∧f 6=i64 a2∧aI G K (aR 51 K b5 b6 b1::aR 9 K c d b::box m 27 [i64 (a.length:Int),i64 k,zS c b.length d,zS b5 b1.length b6]::box l 27 o::L) w) ?_ ?_))))
   ·rintro f k4 ⟨b1,b5,b6,e,g8,g9,h0,h1,h2,h4⟩
    unfold qJ at e
    exact aA (aP (aN h2 (aD (cK rfl rfl) (aF (v:=i64 (wr (a2+1))) (aG ⟨(b1,wr (a2+1)),(zI e).symm,b5,b6,g8,g9,h0,h1,rfl,(aI.arr 3 [1,2,0] h4 rfl)⟩)))))
   refine aK (aN b2 (aD (cX rfl z) (aD (cG (k':=J+3) dY rfl z rfl) (aD (bG (t:=3) jR b0 z rfl rfl) (aN b4 ?_)))))
   obtain ⟨j,d9,e⟩:=aC e
   refine aD (cU cN rfl h9 rfl rfl rfl d9) ?_
   obtain ⟨k5,h5,h7⟩:=bX.el (sz:=3) rfl h9 d9
   cases h7
   refine aD (iD (t:=0) (vs:=[i64 j.F,i64 j.B,i64 j.To]) kW b0 h5 rfl rfl rfl) (cQ (vs:=[i64 0,i64 0,i64 0]) Tryz.zeroValue51 b0 rfl (fun a5 k6 h8=>(cZ (i:=0) (ns:=[i64 j.F,i64 j.B,i64 j.To]) (us:=[i64 j.F,i64 j.B,i64 j.To]) Tryz.sizeOf51 h8 rfl rfl rfl rfl rfl (fO rfl) rfl rfl (fun i0 (e0:aI G K (box a5 51 [i64 j.F,i64 j.B,i64 j.To]::aR 9 K c d b::box m 27 [i64 (a.length:Int),i64 k,zS c b.length d,zS p n.length q]::aR 51 K p q n::box l 27 o::L) i0)=>(aG (aK (aN b3 (aD (bL (t':=0) iY rfl rfl) (aD (dG bY e0 (i:=0) rfl rfl rfl) ?_)))))))))
   obtain ⟨r,i1,e⟩:=aC e
   refine aQ (vs:=[zS a10 a.length c11,i64 j.F]) Tryz.call73 rfl (aAu e0 c0 i1) ?_
   rintro _ k7 ⟨rfl,i2⟩
   refine aD (bL (t':=0) iY rfl rfl) (cZ (i:=0) (ns:=[i64 r]) (us:=[i64 r,i64 j.B,i64 j.To]) Tryz.sizeOf2 i2 rfl rfl rfl rfl rfl (fO rfl) rfl rfl (fun i3 (e1:aI G K (box a5 51 [i64 r,i64 j.B,i64 j.To]::aR 9 K c d b::box m 27 [i64 (a.length:Int),i64 k,zS c b.length d,zS p n.length q]::aR 51 K p q n::box l 27 o::L) i3)=>(aG (aK (aN b3 (aD (bL (t':=2) iC rfl rfl) (aD (dG bY e1 (i:=0) rfl rfl rfl) ?_)))))))
   obtain ⟨x,i4,e⟩:=aC e
   refine aQ (vs:=[zS a10 a.length c11,i64 j.To]) Tryz.call73 rfl (aAu e1 c0 i4) ?_
   rintro _ k8 ⟨rfl,i5⟩
   refine aD (bL (t':=2) iC rfl rfl) (cZ (i:=0) (ns:=[i64 x]) (us:=[i64 r,i64 j.B,i64 x]) Tryz.sizeOf2 i5 rfl rfl rfl rfl rfl (fO rfl) rfl rfl (fun i6 (b7:aI G K (box a5 51 [i64 r,i64 j.B,i64 x]::aR 9 K c d b::box m 27 [i64 (a.length:Int),i64 k,zS c b.length d,zS p n.length q]::aR 51 K p q n::box l 27 o::L) i6)=>(aG (aO (dO (fun f w=>∃ (c6:Bool),qK n a2 j r x c6=some c1∧f 0=cP a1 J∧f 1=zS a10 a.length c11∧f 4=zP (some ⟨l,0,none⟩)∧f 5=zP (some ⟨m,0,none⟩)∧f 6=i64 a2∧f 7=zP (some ⟨a5,0,none⟩)∧f 58=zB c6∧aI G K (box a5 51 [i64 r,i64 j.B,i64 x]::aR 9 K c d b::box m 27 [i64 (a.length:Int),i64 k,zS c b.length d,zS p n.length q]::aR 51 K p q n::box l 27 o::L) w) ?_ ?_)))))
   ·rintro f k9 ⟨c6,e,e2,e3,e4,b8,e5,i7,e6,b9⟩
    unfold qK at e
    refine aA ?_
    rcases aH e with ⟨c7,e⟩|⟨c7,e⟩
    ·refine aM c7 e6 (aP (aD (bL (t':=3) dY b8 rfl) (aD (dG jR b9 (i:=2) rfl rfl rfl) (aD (cS (us:=[i64 r,i64 j.B,i64 x]) kW b9 (i:=0) rfl i7 rfl rfl) (cJ (Kt:=K) (xs:=([⟨r,j.B,x⟩]:List Edge)) (cs:=[i64 r,i64 j.B,i64 x]) (vs:=[(0,Value.agg #[i64 r,i64 j.B,i64 x])]) cN jD rfl rfl b9 rfl (by kernel_rfl) rfl rfl rfl ⟨rfl,trivial⟩ (fun i8 i9 (j0:aI G K (aR 51 K i8 1 ([⟨r,j.B,x⟩]:List Edge)::box a5 51 [i64 r,i64 j.B,i64 x]::aR 9 K c d b::box m 27 [i64 (a.length:Int),i64 k,zS c b.length d,zS p n.length q]::aR 51 K p q n::box l 27 o::L) i9)=>?_))))))
     obtain ⟨a6,j1,e⟩:=aC e
     exact eK (i:=3) cN Tryz.underlying25 jD rfl rfl j0 rfl (zR _) (zR _) j1 rfl rfl rfl rfl (fun _ h=>h) (fun a8 a9 j2 (j3:aI G K (box a5 51 [i64 r,i64 j.B,i64 x]::aR 9 K c d b::box m 27 [i64 (a.length:Int),i64 k,zS c b.length d,zS p n.length q]::aR 51 K a8 a9 a6::box l 27 o::L) j2)=>(aD (bL (t':=3) dY b8 rfl) (cZ (i:=2) (ns:=[zS a8 a6.length a9]) (us:=[i64 (a.length:Int),i64 k,zS c b.length d,zS a8 a6.length a9]) Tryz.sizeOf25 j3 rfl rfl rfl rfl rfl (fO rfl) rfl rfl (fun j4 (j5:aI G K (box a5 51 [i64 r,i64 j.B,i64 x]::aR 9 K c d b::box m 27 [i64 (a.length:Int),i64 k,zS c b.length d,zS a8 a6.length a9]::aR 51 K a8 a9 a6::box l 27 o::L) j4)=>(bM (bA (aA ⟨a6,a8,a9,e,e2,e3,e4,b8,e5,(aI.arr 4 [3,1,2] j5 rfl)⟩)))))))
    ·exact aJ c7 e6 (aY (bA (aA ⟨n,p,q,e,e2,e3,e4,b8,e5,(aI.arr 4 [3,1,2] b9 rfl)⟩)))
   refine aP (aD (bL (t':=0) iY rfl rfl) (aD (dG bY b7 (i:=0) rfl rfl rfl) (aD (uJ rfl rfl) (aL (v:=zB (decide (0≤r))) ?_))))
   rcases aH e with ⟨a3,e⟩|⟨a3,e⟩
   ·exact bB a3 rfl rfl (aD (bL (t':=2) iC rfl rfl) (bB a3 rfl rfl (aD (dG bY b7 (i:=0) rfl rfl rfl) (bB a3 rfl rfl (aD (uJ rfl rfl) (aD (bF (v:=zB (decide (0≤x))) a3 rfl rfl) (aG ⟨decide (0≤x),e,b2,b3,c2,c3,b4,rfl,rfl,b7⟩)))))))
   ·exact aU a3 rfl rfl (aU a3 rfl rfl (aU a3 rfl rfl (aD (bH (v:=zB false) a3 rfl rfl) (aG ⟨false,e,b2,b3,c2,c3,b4,rfl,rfl,b7⟩))))
  ·refine aJ c4 rfl (cA (aV (aV ?_)))
   have j6:=g7 _ (zI e).symm
   subst j6
   have y:(aAL a k b n)=some R:=y
   exact bN (aA ⟨n,p,q,y,c2,c3,(aI.arr 3 [2,0,1] b0 rfl)⟩)
theorem aCE {t:cD} {l:Nat} {R:(List Int)} (hs:aI G K (L) w) (k:fP K a1 l (zC t a4 c5 a7 c8)) (h6:bX K a4 c5 t.L) (h9:bX K a7 c8 t.E) (j:vZ t=some R):
  Calls Tryz.prog 42 ([cP a1 l]:List Value).toArray w (gQ fun v w'=>∃ (f0:Option Addr) (f1:Nat),v=zS f0 R.length f1∧aI G K (aR 2 K f0 f1 R::L) w'):=by
 refine aS Tryz.func42 rfl (by kernel_rfl) (by show (1:Nat)≤82;decide) ?_
 unfold vZ at j
 refine aK (aF (v:=zS none 0 0) (aG (aK (aL (v:=cP a1 l) (aD (cX rfl k) (aD (cG (k':=l+0) dP rfl k rfl) (aD (bG (t:=0) bY hs k rfl rfl) ?_)))))))
 obtain ⟨b,g7,j⟩:=aC j
 refine aDY (e:=(false:Bool)) pB ez_4 rfl rfl hs rfl rfl rfl g7 rfl (fun c g8 (c6:aI G K (aR 4 K c b.length b::L) g8)=>(aF (v:=zS c b.length b.length) (aG (aK (aL (v:=zS c b.length b.length) (aL (v:=cP a1 l) (aD (cX rfl k) (aD (cG (k':=l+1) oV rfl k rfl) (aD (bG (t:=1) bY c6 k rfl rfl) ?_)))))))))
 obtain ⟨m5,c7,j⟩:=aC j
 have a3:=dZ c6 (i:=0) rfl c7
 refine aD (eM pB rfl a3 rfl rfl rfl c7) ?_
 obtain ⟨g9,f2,j⟩:=aC j
 refine sM (i:=0) (t:=0) (ns:=[zB true]) (e':=(true:Bool)) Tryz.sizeOf4 c6 rfl (zR _) rfl rfl rfl c7 f2 rfl rfl (fO rfl) rfl (fun cs h=>by cases h;rfl) (fun h0 (h1:aI G K (aR 4 K c b.length g9::L) h0)=>(aG (aO (aK (aF (v:=zB true) (aG (aZ (fun f w=>∃ (p:List Bool),uV t p=some R∧f 0=cP a1 l∧f 3=zS c p.length b.length∧aI G K (aR 4 K c b.length p::L) w) ?_ ?_)))))))
 ·rintro f m6 ⟨p,j,h2,h4,h5⟩
  unfold uV at j
  refine aA (aK (cJ (Kt:=K) (xs:=([]:List Int)) (cs:=[]) (vs:=[]) bO jU rfl rfl h5 rfl (by kernel_rfl) rfl rfl rfl trivial (fun c9 h7 (h8:aI G K (aR 2 K c9 0 ([]:List Int)::aR 4 K c b.length p::L) h7)=>(aF (v:=zS c9 ([]:List Int).length 0) (aG (aO (aK (aF (v:=i64 0) (aG (aZ (fun f w=>∃ (a5:List Int) (a6:Option Addr) (a8:Nat),zH a5=some R∧f 6=zS a6 a5.length a8∧aI G K (aR 2 K a6 a8 a5::L) w) ?_ ?_))))))))))
  ·rintro f m7 ⟨a5,a6,a8,j,i0,i1⟩
   unfold zH at j
   refine aA (aK (aN i0 (aF (v:=zS a6 a5.length a8) (aG ?_))))
   obtain rfl:=zI j
   exact bK (bE Tryz.results42 rfl ⟨a6,a8,rfl,i1⟩)
  obtain ⟨m8,i3,j⟩:=aC j
  refine cC i3 (fun (s:(List Int × Int)) f w=>match s with|(y,r)=>∃ (J:Option Addr) (V:Nat),f 0=cP a1 l∧f 3=zS c p.length b.length∧f 6=zS J y.length V∧f 7=i64 r∧aI G K (aR 2 K J V y::aR 4 K c b.length p::L) w) ?_ ?_
  ·exact ⟨c9,0,h2,h4,rfl,rfl,h8⟩
  ·rintro ⟨y,r⟩ f3 f m9 m i4 ⟨J,V,d0,d1,d2,a9,b0⟩
   replace m:rR t p y r=some f3:=m
   unfold rR at m
   refine aO (aK (aN a9 (aN d0 (aD (cX rfl k) (aD (cG (k':=l+0) dP rfl k rfl) (aD (bG (t:=0) bY b0 k rfl rfl) (aD (cT rfl rfl) (aG ?_))))))))
   rcases aH m with ⟨d3,m⟩|⟨d3,m⟩
   ·refine aM d3 rfl (aY (aA (aO (aZ (fun f w=>∃ (b1:List Int) (b7:Option Addr) (b8:Nat),uU r b1=some f3∧f 0=cP a1 l∧f 3=zS c p.length b.length∧f 6=zS b7 b1.length b8∧f 7=i64 r∧aI G K (aR 2 K b7 b8 b1::aR 4 K c b.length p::L) w) ?_ ?_))))
    ·rintro f n0 ⟨b1,b7,b8,m,i5,i6,i7,i8,i9⟩
     unfold uU at m
     exact aA (aP (aN i8 (aD (cK rfl rfl) (aF (v:=i64 (wr (r+1))) (aG ⟨(b1,wr (r+1)),(zI m).symm,b7,b8,i5,i6,i7,rfl,i9⟩)))))
    refine aK (aN d1 (aN a9 ?_))
    obtain ⟨n1,f4,m⟩:=aC m
    refine aD (eM pB rfl a3 rfl rfl rfl f4) (aD (lB (t:=0) sc_4 b0 (i:=1) rfl f4 rfl rfl rfl) (aG ?_))
    rcases aH m with ⟨d4,m⟩|⟨d4,m⟩
    ·refine aM d4 rfl (aP (aN d2 (aN a9 (cJ (Kt:=K) (xs:=([r]:List Int)) (cs:=[i64 r]) (vs:=[(0,i64 r)]) bO jU rfl rfl b0 rfl (by kernel_rfl) rfl rfl rfl ⟨rfl,trivial⟩ (fun j0 j1 (j2:aI G K (aR 2 K j0 1 ([r]:List Int)::aR 2 K J V y::aR 4 K c b.length p::L) j1)=>?_)))))
     obtain ⟨d5,j3,m⟩:=aC m
     exact eK (i:=0) bO Tryz.underlying40 jU rfl rfl j2 rfl (zR _) (zR _) j3 rfl rfl rfl rfl (fun _ h=>h) (fun d6 d7 j4 (j5:aI G K (aR 2 K d6 d7 d5::aR 4 K c b.length p::L) j4)=>(aF (v:=zS d6 d5.length d7) (bM (bA (aA ⟨d5,d6,d7,m,d0,d1,rfl,a9,j5⟩)))))
    ·exact aJ d4 rfl (aY (bA (aA ⟨y,J,V,m,d0,d1,d2,a9,b0⟩)))
   ·refine aJ d3 rfl (cA (aV (aV ?_)))
    have j6:=i4 _ (zI m).symm
    subst j6
    have j:(zH y)=some R:=j
    exact bN (aA ⟨y,J,V,j,d2,(aI.arr 2 [0] b0 rfl)⟩)
 obtain ⟨n2,j7,j⟩:=aC j
 refine cC j7 (fun (s:(List Bool × Bool)) f w=>match s with|(Z,d8)=>f 0=cP a1 l∧f 3=zS c Z.length b.length∧f 4=zB d8∧aI G K (aR 4 K c b.length Z::L) w) ?_ ?_
 ·exact ⟨rfl,(Eq.trans rfl (congrArg (fun n=>zS c n b.length) (oY f2))),rfl,h1⟩
 ·rintro ⟨Z,d8⟩ b9 f n3 o j8 ⟨f5,f6,j9,f7⟩
  replace o:xJ t Z d8=some b9:=o
  unfold xJ at o
  refine aO (aK (aN j9 (aG ?_)))
  rcases aH o with ⟨d9,o⟩|⟨d9,o⟩
  ·refine aM d9 rfl (aY (aA (aZ (fun f w=>∃ (b2:List Bool) (c0:Bool),aBQ b2 c0=some b9∧f 0=cP a1 l∧f 3=zS c b2.length b.length∧f 4=zB c0∧aI G K (aR 4 K c b.length b2::L) w) ?_ ?_)))
   ·rintro f n4 ⟨b2,c0,o,k0,k1,k3,k4⟩
    unfold aBQ at o
    exact aA ⟨(b2,c0),(zI o).symm,k0,k1,k3,k4⟩
   refine aK (aF (v:=zB false) (aG (aK (aF (v:=i64 0) (aG (aZ (fun f w=>∃ (b3:List Bool) (c1:Bool),zJ b3 c1=some b9∧f 0=cP a1 l∧f 3=zS c b3.length b.length∧f 4=zB c1∧aI G K (aR 4 K c b.length b3::L) w) ?_ ?_))))))
   ·rintro f n5 ⟨b3,c1,o,k5,k6,k7,k8⟩
    unfold zJ at o
    exact bA (aA ⟨b3,c1,o,k5,k6,k7,k8⟩)
   obtain ⟨n6,k9,o⟩:=aC o
   refine cC k9 (fun (s:(List Bool × Bool × Int)) f w=>match s with|(u,z,q)=>f 0=cP a1 l∧f 3=zS c u.length b.length∧f 4=zB z∧f 5=i64 q∧aI G K (aR 4 K c b.length u::L) w) ?_ ?_
   ·exact ⟨f5,f6,rfl,rfl,f7⟩
   ·rintro ⟨u,z,q⟩ e0 f n7 a l0 ⟨a0,b4,e1,b5,x⟩
    replace a:rS t u z q=some e0:=a
    unfold rS at a
    refine aO (aK (aN b5 (aN a0 (aD (cX rfl k) (aD (cG (k':=l+3) dY rfl k rfl) (aD (bG (t:=3) jR x k rfl rfl) (aD (bT (len:=t.E.length) cN rfl) (aD (cT rfl rfl) (aG ?_)))))))))
    rcases aH a with ⟨e2,a⟩|⟨e2,a⟩
    ·refine aM e2 rfl (aY (aA (aO (aZ (fun f w=>∃ (b6:List Bool) (c2:Bool),oO q b6 c2=some e0∧f 0=cP a1 l∧f 3=zS c b6.length b.length∧f 4=zB c2∧f 5=i64 q∧aI G K (aR 4 K c b.length b6::L) w) ?_ ?_))))
     ·rintro f n8 ⟨b6,c2,a,l1,l2,l3,l4,l5⟩
      unfold oO at a
      exact aA (aP (aN l4 (aD (cK rfl rfl) (aF (v:=i64 (wr (q+1))) (aG ⟨(b6,c2,wr (q+1)),(zI a).symm,l1,l2,l3,rfl,l5⟩)))))
     refine aO (dO (fun f w=>∃ (e3:Bool),oP t u z q e3=some e0∧f 0=cP a1 l∧f 3=zS c u.length b.length∧f 4=zB z∧f 5=i64 q∧f 53=zB e3∧aI G K (aR 4 K c b.length u::L) w) ?_ ?_)
     ·rintro f n9 ⟨e3,a,e4,e5,l6,e6,f8,c3⟩
      unfold oP at a
      refine aA ?_
      rcases aH a with ⟨e7,a⟩|⟨e7,a⟩
      ·refine aM e7 f8 (aK (aN e5 (aN e4 (aD (cX rfl k) (aD (cG (k':=l+3) dY rfl k rfl) (aD (bG (t:=3) jR c3 k rfl rfl) (aN e6 ?_)))))))
       obtain ⟨o0,f9,a⟩:=aC a
       refine aD (cU cN rfl h9 rfl rfl rfl f9) ?_
       obtain ⟨o1,g0,l7⟩:=bX.el (sz:=3) rfl h9 f9
       cases l7
       refine aD (cG (k':=q.toNat * 3+2) iC rfl g0 rfl) (aD (bG (t:=2) bY c3 g0 rfl rfl) ?_)
       obtain ⟨o2,g1,a⟩:=aC a
       refine aD (eM pB rfl a3 rfl rfl rfl g1) ?_
       obtain ⟨g2,g3,a⟩:=aC a
       exact sM (i:=0) (t:=0) (ns:=[zB true]) (e':=(true:Bool)) Tryz.sizeOf4 c3 rfl (zR _) rfl rfl rfl g1 g3 rfl rfl (fO rfl) rfl (fun cs h=>by cases h;rfl) (fun l8 (l9:aI G K (aR 4 K c b.length g2::L) l8)=>(aG (aP (aF (v:=zB true) (bM (bA (aA ⟨g2,true,a,e4,(Eq.trans e5 (congrArg (fun n=>zS c n b.length) (oY g3))),rfl,e6,l9⟩)))))))
      ·exact aJ e7 f8 (aY (bA (aA ⟨u,z,a,e4,e5,l6,e6,c3⟩)))
     refine aP (aN b4 (aN a0 (aD (cX rfl k) (aD (cG (k':=l+3) dY rfl k rfl) (aD (bG (t:=3) jR x k rfl rfl) (aN b5 ?_))))))
     obtain ⟨o3,e8,a⟩:=aC a
     refine aD (cU cN rfl h9 rfl rfl rfl e8) ?_
     obtain ⟨o4,c4,m0⟩:=bX.el (sz:=3) rfl h9 e8
     cases m0
     refine aD (cG (k':=q.toNat * 3+0) iY rfl c4 rfl) (aD (bG (t:=0) bY x c4 rfl rfl) ?_)
     obtain ⟨m1,g4,a⟩:=aC a
     refine aD (eM pB rfl a3 rfl rfl rfl g4) (aD (lB (t:=0) sc_4 x (i:=0) rfl g4 rfl rfl rfl) (aL (v:=zB m1) ?_))
     rcases aH a with ⟨d,a⟩|⟨d,a⟩
     ·refine bB d rfl rfl (aN b4 (bB d rfl rfl (aN a0 (bB d rfl rfl (aD (cX rfl k) (bB d rfl rfl (aD (cG (k':=l+3) dY rfl k rfl) (bB d rfl rfl (aD (bG (t:=3) jR x k rfl rfl) (bB d rfl rfl (aN b5 (bB d rfl rfl (aD (cU cN rfl h9 rfl rfl rfl e8) (bB d rfl rfl (aD (cG (k':=q.toNat * 3+2) iC rfl c4 rfl) (bB d rfl rfl (aD (bG (t:=2) bY x c4 rfl rfl) (bB d rfl rfl ?_))))))))))))))))))
      obtain ⟨g5,g6,a⟩:=aC a
      exact aD (eM pB rfl a3 rfl rfl rfl g6) (bB d rfl rfl (aD (lB (t:=0) sc_4 x (i:=0) rfl g6 rfl rfl rfl) (bB d rfl rfl (aD (eR rfl) (aD (bF (v:=zB (!g5)) d rfl rfl) (aG ⟨!g5,a,a0,b4,e1,b5,rfl,x⟩))))))
     ·exact aU d rfl rfl (aU d rfl rfl (aU d rfl rfl (aU d rfl rfl (aU d rfl rfl (aU d rfl rfl (aU d rfl rfl (aU d rfl rfl (aU d rfl rfl (aU d rfl rfl (aU d rfl rfl (aU d rfl rfl (aD (bH (v:=zB false) d rfl rfl) (aG ⟨false,a,a0,b4,e1,b5,rfl,x⟩)))))))))))))
    ·refine aJ e2 rfl (cA (aV (aV ?_)))
     have m2:=l0 _ (zI a).symm
     subst m2
     have o:(zJ u z)=some b9:=o
     exact bN (aA ⟨u,z,o,a0,b4,e1,x⟩)
  ·refine aJ d9 rfl (cA (aV (aV ?_)))
   have m3:=j8 _ (zI o).symm
   subst m3
   have j:(uV t Z)=some R:=j
   exact bN (aA ⟨Z,j,f5,f6,f7⟩)
theorem aHp {e:(List Bool)} {R:(List Int)} (hs:aI G K (L) w) (h3:bX K a1 c2 e) (c:aCg e=some R):
  Calls Tryz.prog 75 ([zS a1 e.length c2]:List Value).toArray w (gQ fun v w'=>∃ (a3:Option Addr) (a5:Nat),v=zS a3 R.length a5∧aI G K (aR 2 K a3 a5 R::L) w'):=by
 refine aS Tryz.func75 rfl (by kernel_rfl) (by show (1:Nat)≤21;decide) ?_
 unfold aCg at c
 refine aK (aF (v:=zS none 0 0) (aG (aK (cJ (Kt:=K) (xs:=([]:List Int)) (cs:=[]) (vs:=[]) bO jU rfl rfl hs rfl (by kernel_rfl) rfl rfl rfl trivial (fun x w5 (b1:aI G K (aR 2 K x 0 ([]:List Int)::L) w5)=>(aF (v:=zS x ([]:List Int).length 0) (aG (aO (aK (aF (v:=i64 0) (aG (aZ (fun f w=>∃ (k:List Int) (l:Option Addr) (m:Nat),aAM k=some R∧f 3=zS l k.length m∧aI G K (aR 2 K l m k::L) w) ?_ ?_))))))))))))
 ·rintro f d2 ⟨k,l,m,c,b2,b3⟩
  unfold aAM at c
  refine aA (aK (aN b2 (aF (v:=zS l k.length m) (aG ?_))))
  obtain rfl:=zI c
  exact bK (bE Tryz.results75 rfl ⟨l,m,rfl,b3⟩)
 obtain ⟨d3,b5,c⟩:=aC c
 refine cC b5 (fun (s:(List Int × Int)) f w=>match s with|(d,b)=>∃ (g:Option Addr) (j:Nat),f 0=zS a1 e.length c2∧f 3=zS g d.length j∧f 4=i64 b∧aI G K (aR 2 K g j d::L) w) ?_ ?_
 ·exact ⟨x,0,rfl,rfl,rfl,b1⟩
 ·rintro ⟨d,b⟩ a6 f d4 a b6 ⟨g,j,p,y,n,q⟩
  replace a:lW e d b=some a6:=a
  unfold lW at a
  refine aO (aK (aN n (aN p (aD (bT (len:=e.length) pB rfl) (aD (cT rfl rfl) (aG ?_))))))
  rcases aH a with ⟨z,a⟩|⟨z,a⟩
  ·refine aM z rfl (aY (aA (aO (aZ (fun f w=>∃ (o:List Int) (r:Option Addr) (u:Nat),xK b o=some a6∧f 0=zS a1 e.length c2∧f 3=zS r o.length u∧f 4=i64 b∧aI G K (aR 2 K r u o::L) w) ?_ ?_))))
   ·rintro f d5 ⟨o,r,u,a,b7,b8,b9,c0⟩
    unfold xK at a
    exact aA (aP (aN b9 (aD (cK rfl rfl) (aF (v:=i64 (wr (b+1))) (aG ⟨(o,wr (b+1)),(zI a).symm,r,u,b7,b8,rfl,c0⟩)))))
   refine aK (aN p (aN n ?_))
   obtain ⟨d6,a7,a⟩:=aC a
   refine aD (cU pB rfl h3 rfl rfl rfl a7) ?_
   obtain ⟨d7,c1,c3⟩:=bX.el (sz:=1) rfl h3 a7
   cases c3
   refine aD (bG (t:=0) sc_4 q c1 rfl rfl) (aG ?_)
   rcases aH a with ⟨J,a⟩|⟨J,a⟩
   ·refine aM J rfl (aP (aN y (aN n (cJ (Kt:=K) (xs:=([b]:List Int)) (cs:=[i64 b]) (vs:=[(0,i64 b)]) bO jU rfl rfl q rfl (by kernel_rfl) rfl rfl rfl ⟨rfl,trivial⟩ (fun c4 c5 (c6:aI G K (aR 2 K c4 1 ([b]:List Int)::aR 2 K g j d::L) c5)=>?_)))))
    obtain ⟨V,c7,a⟩:=aC a
    exact eK (i:=0) bO Tryz.underlying40 jU rfl rfl c6 rfl (zR _) (zR _) c7 rfl rfl rfl rfl (fun _ h=>h) (fun Z a0 c8 (d0:aI G K (aR 2 K Z a0 V::L) c8)=>(aF (v:=zS Z V.length a0) (bM (bA (aA ⟨V,Z,a0,a,p,rfl,n,d0⟩)))))
   ·exact aJ J rfl (aY (bA (aA ⟨d,g,j,a,p,y,n,q⟩)))
  ·refine aJ z rfl (cA (aV (aV ?_)))
   have d1:=b6 _ (zI a).symm
   subst d1
   have c:(aAM d)=some R:=c
   exact bN (aA ⟨d,g,j,c,y,q⟩)
theorem aIo {a b R:Int} (e:aI G K (L) w) (c:aFb a b=some R):
  Calls Tryz.prog 101 ([i64 a,i64 b]:List Value).toArray w (gQ fun v w'=>v=i64 R∧aI G K (L) w'):=by
 refine aS Tryz.func101 rfl (by kernel_rfl) (by show (2:Nat)≤10;decide) ?_
 unfold aFb at c
 refine aK (aF (v:=i64 0) (aG (aO (aK (aL (v:=i64 a) (aL (v:=i64 b) (aD (sL rfl rfl) (aG ?_))))))))
 rcases aH c with ⟨d,c⟩|⟨d,c⟩
 ·refine aM d rfl (aK (aL (v:=i64 a) (aF (v:=i64 a) (aG ?_))))
  obtain rfl:=zI c
  exact bK (aX (bE Tryz.results101 rfl ⟨rfl,e⟩))
 ·refine aJ d rfl (aY (aA (aK (aL (v:=i64 b) (aF (v:=i64 b) (aG ?_))))))
  obtain rfl:=zI c
  exact bK (bE Tryz.results101 rfl ⟨rfl,e⟩)
theorem aCl {p:(List Int)} {R:Int} (o:aI G K (L) w) (k:bX K a1 c2 p) (b:qG p=some R):
  Calls Tryz.prog 77 ([zS a1 p.length c2]:List Value).toArray w (gQ fun v w'=>v=i64 R∧aI G K (L) w'):=by
 refine aS Tryz.func77 rfl (by kernel_rfl) (by show (1:Nat)≤19;decide) ?_
 unfold qG at b
 refine aK (aF (v:=i64 0) (aG (aK (aF (v:=i64 0) (aG (aO (aK (aF (v:=i64 0) (aG (aZ (fun f w=>∃ (e:Int),xL e=some R∧f 3=i64 e∧aI G K (L) w) ?_ ?_))))))))))
 ·rintro f w6 ⟨e,b,q,r⟩
  unfold xL at b
  refine aA (aK (aN q (aF (v:=i64 e) (aG ?_))))
  obtain rfl:=zI b
  exact bK (bE Tryz.results77 rfl ⟨rfl,r⟩)
 obtain ⟨a5,x,b⟩:=aC b
 refine cC x (fun (s:(Int × Int)) f w=>match s with|(c,d)=>f 0=zS a1 p.length c2∧f 3=i64 c∧f 4=i64 d∧aI G K (L) w) ?_ ?_
 ·exact ⟨rfl,rfl,rfl,o⟩
 ·rintro ⟨c,d⟩ y f a6 a z ⟨g,l,h,i⟩
  replace a:mU p c d=some y:=a
  unfold mU at a
  refine aO (aK (aN h (aN g (aD (bT (len:=p.length) bO rfl) (aD (cT rfl rfl) (aG ?_))))))
  rcases aH a with ⟨j,a⟩|⟨j,a⟩
  ·refine aM j rfl (aY (aA (aO (cI (aP (aN l (aN g (aN h ?_))))))))
   obtain ⟨J,m,a⟩:=aC a
   refine aD (cU bO rfl k rfl rfl rfl m) ?_
   obtain ⟨a7,V,Z⟩:=bX.el (sz:=1) rfl k m
   cases Z
   refine aD (bG (t:=0) bY i V rfl rfl) (aD (cK rfl rfl) ?_)
   obtain ⟨n,a0,a⟩:=aC a
   refine aQ (vs:=[i64 c,i64 (wr (J+1))]) Tryz.call101 rfl (aIo i a0) ?_
   rintro _ a8 ⟨rfl,a2⟩
   exact aF (v:=i64 n) (bM (bA (aA (aP (aN h (aD (cK rfl rfl) (aF (v:=i64 (wr (d+1))) (aG ⟨(n,wr (d+1)),(zI a).symm,g,rfl,rfl,a2⟩))))))))
  ·refine aJ j rfl (cA (aV (aV ?_)))
   have a3:=z _ (zI a).symm
   subst a3
   have b:(xL c)=some R:=b
   exact bN (aA ⟨c,b,l,i⟩)
end Gv
