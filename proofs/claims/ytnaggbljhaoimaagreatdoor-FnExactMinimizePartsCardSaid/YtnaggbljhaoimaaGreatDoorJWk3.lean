/- Walks, printed by program. -/
import Derived.Test.YtnaggbljhaoimaaGreatDoorJWk1
set_option linter.all false
namespace Gv
open Gv.Hp renaming le_refl→zR
open Go.Value renaming slice→zS,bool→zB,agg→zA
open Option.some renaming inj→zI
open Go Go.Proofs Go.Proofs.Tryz
set_option maxRecDepth 20000
set_option maxHeartbeats 40000000
variable {G:vF} {K:Hp} {L:List gC} {w:World} {a1 a4 a7 a10:Option Addr} {c5 c8 c2 c11:Nat}
theorem aDT {t:aW} {d:Nat} {R:(List Int)} (hm:aBh t=some R) (hs:aD G K (L) w) (c:gE K a1 d (zC t a4 c5 a7 c8)) (h6:bK K a4 c5 t.L) (h9:bK K a7 c8 t.E):
  Calls prog 80 ([dC a1 d]:List Value).toArray w (dV fun v w'=>∃ b3 b4,v=zS b3 R.length b4/\aD G K (aM 2 K b3 b4 R::L) w'):=by
 refine aO func80 rfl (by kernel_rfl) (by show (1:Nat)<=82;decide) ?_;unfold aBh at hm
 refine aI (aH (v:=zS none 0 0) (aG (aI (aL (v:=dC a1 d) (aF (gP rfl c) (aF (gG (k':=d+0) mL rfl c rfl) (aF (bX (t:=0) eZ hs c rfl rfl) ?_)))))));obtain ⟨a,d7,hm⟩:=aB hm
 refine aCD (e:=(false:Bool)) jG ez_4 rfl rfl hs rfl rfl rfl d7 rfl (fun b d8 (u:aD G K (aM 4 K b a.length a::L) d8)=>(aH (v:=zS b a.length a.length) (aG (aI (aL (v:=zS b a.length a.length) (aL (v:=dC a1 d) (aF (gP rfl c) (aF (gG (k':=d+1) aBV rfl c rfl) (aF (bX (t:=1) eZ u c rfl rfl) ?_)))))))));obtain ⟨g4,x,hm⟩:=aB hm
 have b5:=dD u (i:=0) rfl x
 refine aF (eE jG rfl b5 rfl rfl rfl x) ?_;obtain ⟨d9,b6,hm⟩:=aB hm
 refine iB (i:=0) (t:=0) (ns:=[zB true]) (e':=(true:Bool)) sizeOf4 u rfl (zR _) rfl rfl rfl x b6 rfl rfl (eD rfl) rfl (fun cs h=>by cases h;rfl) (fun e0 (e1:aD G K (aM 4 K b a.length d9::L) e0)=>(aG (aJ (aI (aH (v:=zB true) (aG (aQ [0] (fun f w=>∃ g,xS t g=some R/\f 3=zS b g.length a.length/\aD G K (aM 4 K b a.length g::L) w) ?_ ?_)))))))
 ·rintro f g5 ⟨g,hm,g6,e2⟩
  unfold xS at hm
  refine aC (aI (dI (Kt:=K) (xs:=([]:List Int)) (cs:=[]) (vs:=[]) bC vG rfl rfl e2 rfl (by kernel_rfl) rfl rfl rfl trivial (fun b7 e3 (g7:aD G K (aM 2 K b7 0 ([]:List Int)::aM 4 K b a.length g::L) e3)=>(aH (v:=zS b7 ([]:List Int).length 0) (aG (aJ (aI (aH (v:=i64 0) (aG (aQ [] (fun f w=>∃ y b8 b9,aFu y=some R/\f 6=zS b8 y.length b9/\aD G K (aM 2 K b8 b9 y::L) w) aK ?_))))))))));obtain ⟨g8,e4,ho⟩:=aB hm
  refine bN [0,3] e4 (fun z l f w=>∃ J V,f 6=zS J z.length V/\f 7=i64 l/\aD G K (aM 2 K J V z::aM 4 K b a.length g::L) w) aK ?_
  ·rintro z l e5 f g9 hm hr ⟨J,V,h0,c0,e6⟩
   unfold tG at hm
   refine aJ (aI (aX c0 (aL (v:=dC a1 d) (aF (gP rfl c) (aF (gG (k':=d+0) mL rfl c rfl) (aF (bX (t:=0) eZ e6 c rfl rfl) (aF (cE rfl rfl) (aG ?_))))))))
   rcases aP hm with ⟨c1,hm⟩|⟨c1,hm⟩
   ·refine aR c1 rfl (aY (aC (aJ (aQ [0,3,7] (fun f w=>∃ m o p,tF l m=some e5/\f 6=zS o m.length p/\aD G K (aM 2 K o p m::aM 4 K b a.length g::L) w) ?_ ?_))))
    ·rintro f h1 ⟨m,o,p,hm,e7,e8⟩
     unfold tF at hm
     exact aC (aU (aX c0 (aF (cW rfl rfl) (aH (v:=i64 (wr (l+1))) (aG ⟨_,(zI hm).symm,bZ,o,p,e7,rfl,e8⟩)))))
    exact aK
   ·exact aK
 obtain ⟨h2,e9,ho⟩:=aB hm
 refine bN [0] e9 (fun a0 c2 f w=>f 3=zS b a0.length a.length/\f 4=zB c2/\aD G K (aM 4 K b a.length a0::L) w) ?_ ?_
 ·exact ⟨(Eq.trans rfl (congrArg (fun n=>zS b n a.length) (bW b6))),rfl,e1⟩
 ·rintro a0 c2 c3 f h4 hm hr ⟨h5,f0,h7⟩
  unfold aBg at hm
  refine aJ (aI (aX f0 (aG ?_)))
  rcases aP hm with ⟨c4,hm⟩|⟨c4,hm⟩
  ·refine aR c4 rfl (aY (aC (aQ [0] (fun f w=>∃ q a2,aCx q a2=some c3/\f 3=zS b q.length a.length/\f 4=zB a2/\aD G K (aM 4 K b a.length q::L) w) ?_ ?_)))
   ·rintro f h8 ⟨q,a2,hm,f1,f2,f3⟩
    unfold aCx at hm
    exact aC ⟨_,(zI hm).symm,bZ,f1,f2,f3⟩
   refine aI (aH (v:=zB false) (aG (aI (aH (v:=i64 0) (aG (aQ [0] (fun f w=>∃ a3 c6,aFv a3 c6=some c3/\f 3=zS b a3.length a.length/\f 4=zB c6/\aD G K (aM 4 K b a.length a3::L) w) aK ?_))))));obtain ⟨i0,f4,ho⟩:=aB hm
   refine kO [0] f4 (fun k a5 j f w=>f 3=zS b k.length a.length/\f 4=zB a5/\f 5=i64 j/\aD G K (aM 4 K b a.length k::L) w) aK ?_
   ·rintro k a5 j c7 f i1 hm hr ⟨c9,i2,a6,f5⟩
    unfold tH at hm
    refine aJ (aI (aX a6 (aL (v:=dC a1 d) (aF (gP rfl c) (aF (gG (k':=d+3) eX rfl c rfl) (aF (bX (t:=3) lX f5 c rfl rfl) (aF (bE (len:=t.E.length) cO rfl) (aF (cE rfl rfl) (aG ?_)))))))))
    rcases aP hm with ⟨d0,hm⟩|⟨d0,hm⟩
    ·refine aR d0 rfl (aY (aC (aJ (aQ [0,5] (fun f w=>∃ r a8,nC j r a8=some c7/\f 3=zS b r.length a.length/\f 4=zB a8/\aD G K (aM 4 K b a.length r::L) w) ?_ ?_))))
     ·rintro f i3 ⟨r,a8,hm,f6,f7,f8⟩
      unfold nC at hm
      exact aC (aU (aX a6 (aF (cW rfl rfl) (aH (v:=i64 (wr (j+1))) (aG ⟨_,(zI hm).symm,bZ,f6,f7,rfl,f8⟩)))))
     refine aJ (bO [0,3,4,5] (fun f w=>∃ a9,nD t k a5 j a9=some c7/\f 53=zB a9/\aD G K (aM 4 K b a.length k::L) w) ?_ ?_)
     ·rintro f i4 ⟨a9,hm,f9,b0⟩
      unfold nD at hm
      refine aC ?_
      rcases aP hm with ⟨d1,hm⟩|⟨d1,hm⟩
      ·refine aR d1 f9 (aI (aX c9 (aL (v:=dC a1 d) (aF (gP rfl c) (aF (gG (k':=d+3) eX rfl c rfl) (aF (bX (t:=3) lX b0 c rfl rfl) (aX a6 ?_)))))));obtain ⟨i5,d2,hm⟩:=aB hm
       refine aF (eC cO rfl h9 rfl rfl rfl d2) ?_;obtain ⟨i6,d3,g0⟩:=bK.el (sz:=3) rfl h9 d2
       cases g0
       refine aF (gG (k':=j.toNat * 3+2) qL rfl d3 rfl) (aF (bX (t:=2) eZ b0 d3 rfl rfl) ?_);obtain ⟨i7,d4,hm⟩:=aB hm
       refine aF (eE jG rfl b5 rfl rfl rfl d4) ?_;obtain ⟨d5,d6,hm⟩:=aB hm
       exact iB (i:=0) (t:=0) (ns:=[zB true]) (e':=(true:Bool)) sizeOf4 b0 rfl (zR _) rfl rfl rfl d4 d6 rfl rfl (eD rfl) rfl (fun cs h=>by cases h;rfl) (fun g1 (g2:aD G K (aM 4 K b a.length d5::L) g1)=>(aG (aU (aH (v:=zB true) (bG (cU (aC ⟨bZ,d5,true,hm,(Eq.trans c9 (congrArg (fun n=>zS b n a.length) (bW d6))),rfl,g2⟩)))))))
      ·exact aK
     exact aK
    ·exact aK
  ·exact aK
theorem pN {e:Edge} {a:Nat} {p:(List Int)} {R:Bool} (hm:rD e p=some R) (c:aD G K (L) w) (d:gE K a1 a [i64 e.F,i64 e.B,i64 e.To]) (g:bK K a4 c5 p):
  Calls prog 102 ([dC a1 a,zS a4 p.length c5]:List Value).toArray w (dV fun v w'=>v=zB R/\aD G K (L) w'):=by
 refine aO func102 rfl (by kernel_rfl) (by show (2:Nat)<=27;decide) ?_;unfold rD at hm
 exact aI (aH (v:=zB false) (aG (aJ (bO [] (fun f w=>∃ b,xT b=some R/\f 4=zB b/\aD G K (L) w) aK aK))))
theorem aEK {a:(List Bool)} {R:(List Int)} (hm:aAD a=some R) (r:aD G K (L) w) (J:bK K a1 c2 a):
  Calls prog 103 ([zS a1 a.length c2]:List Value).toArray w (dV fun v w'=>∃ k l,v=zS k R.length l/\aD G K (aM 2 K k l R::L) w'):=by
 refine aO func103 rfl (by kernel_rfl) (by show (1:Nat)<=21;decide) ?_;unfold aAD at hm
 refine aI (aH (v:=zS none 0 0) (aG (aI (dI (Kt:=K) (xs:=([]:List Int)) (cs:=[]) (vs:=[]) bC vG rfl rfl r rfl (by kernel_rfl) rfl rfl rfl trivial (fun m t (V:aD G K (aM 2 K m 0 ([]:List Int)::L) t)=>(aH (v:=zS m ([]:List Int).length 0) (aG (aJ (aI (aH (v:=i64 0) (aG (aQ [] (fun f w=>∃ g n o,aGu g=some R/\f 3=zS n g.length o/\aD G K (aM 2 K n o g::L) w) aK ?_))))))))))));obtain ⟨a0,u,ho⟩:=aB hm
 refine bN [0] u (fun h b f w=>∃ i j,f 3=zS i h.length j/\f 4=i64 b/\aD G K (aM 2 K i j h::L) w) aK ?_
 ·rintro h b x f a2 hm hr ⟨i,j,a3,p,a5⟩
  unfold sF at hm
  refine aJ (aI (aX p (aL (v:=zS a1 a.length c2) (aF (bE (len:=a.length) jG rfl) (aF (cE rfl rfl) (aG ?_))))))
  rcases aP hm with ⟨q,hm⟩|⟨q,hm⟩
  ·refine aR q rfl (aY (aC (aJ (aQ [0,4] (fun f w=>∃ c d e,vR b c=some x/\f 3=zS d c.length e/\aD G K (aM 2 K d e c::L) w) ?_ ?_))))
   ·rintro f a6 ⟨c,d,e,hm,y,z⟩
    unfold vR at hm
    exact aC (aU (aX p (aF (cW rfl rfl) (aH (v:=i64 (wr (b+1))) (aG ⟨_,(zI hm).symm,bZ,d,e,y,rfl,z⟩)))))
   exact aK
  ·exact aK
theorem wQ {t:aW} {j:Nat} {p:(List Int)} {R:(List Bool)} (hm:sH t p=some R) (hs:aD G K (L) w) (c:gE K a1 j (zC t a4 c5 a7 c8)) (h6:bK K a4 c5 t.L) (h9:bK K a7 c8 t.E) (e3:bK K a10 c11 p):
  Calls prog 104 ([dC a1 j,zS a10 p.length c11]:List Value).toArray w (dV fun v w'=>∃ c1 c2,v=zS c1 R.length c2/\aD G K (aM 4 K c1 c2 R::L) w'):=by
 refine aO func104 rfl (by kernel_rfl) (by show (2:Nat)<=82;decide) ?_;unfold sH at hm
 refine aI (aH (v:=zS none 0 0) (aG (aI (aL (v:=dC a1 j) (aF (gP rfl c) (aF (gG (k':=j+0) mL rfl c rfl) (aF (bX (t:=0) eZ hs c rfl rfl) ?_)))))));obtain ⟨a,e4,hm⟩:=aB hm
 refine aCD (e:=(false:Bool)) jG ez_4 rfl rfl hs rfl rfl rfl e4 rfl (fun b e5 (i1:aD G K (aM 4 K b a.length a::L) e5)=>(aH (v:=zS b a.length a.length) (aG (aJ (aI (aH (v:=i64 0) (aG (aQ [0,1] (fun f w=>∃ r,sG t p r=some R/\f 5=zS b r.length a.length/\aD G K (aM 4 K b a.length r::L) w) ?_ ?_))))))))
 ·rintro f i2 ⟨r,hm,i3,i4⟩
  unfold sG at hm
  refine aC (aJ (aI (aH (v:=zB true) (aG (aQ [] (fun f w=>∃ J,zO J=some R/\f 5=zS b J.length a.length/\aD G K (aM 4 K b a.length J::L) w) aK ?_)))));obtain ⟨i5,e6,ho⟩:=aB hm
  refine bN [0,1] e6 (fun V c3 f w=>f 5=zS b V.length a.length/\f 7=zB c3/\aD G K (aM 4 K b a.length V::L) w) aK ?_
  ·rintro V c3 c4 f i6 hm hr ⟨i7,e7,i8⟩
   unfold mB at hm
   refine aJ (aI (aX e7 (aG ?_)))
   rcases aP hm with ⟨c6,hm⟩|⟨c6,hm⟩
   ·refine aR c6 rfl (aY (aC (aQ [0,1] (fun f w=>∃ u a0,zQ u a0=some c4/\f 5=zS b u.length a.length/\f 7=zB a0/\aD G K (aM 4 K b a.length u::L) w) ?_ ?_)))
    ·rintro f i9 ⟨u,a0,hm,e8,e9,f0⟩
     unfold zQ at hm
     exact aC ⟨_,(zI hm).symm,bZ,e8,e9,f0⟩
    refine aI (aH (v:=zB false) (aG (aI (aH (v:=i64 0) (aG (aQ [0,1] (fun f w=>∃ a2 c7,aDN a2 c7=some c4/\f 5=zS b a2.length a.length/\f 7=zB c7/\aD G K (aM 4 K b a.length a2::L) w) aK ?_))))));obtain ⟨j0,f1,ho⟩:=aB hm
    refine kO [0,1] f1 (fun k a3 l f w=>f 5=zS b k.length a.length/\f 7=zB a3/\f 8=i64 l/\aD G K (aM 4 K b a.length k::L) w) aK ?_
    ·rintro k a3 l c9 f j1 hm hr ⟨a5,j2,o,a6⟩
     unfold kK at hm
     refine aJ (aI (aX o (aL (v:=dC a1 j) (aF (gP rfl c) (aF (gG (k':=j+0) mL rfl c rfl) (aF (bX (t:=0) eZ a6 c rfl rfl) (aF (cE rfl rfl) (aG ?_))))))))
     rcases aP hm with ⟨d0,hm⟩|⟨d0,hm⟩
     ·refine aR d0 rfl (aY (aC (aJ (aQ [0,1,8] (fun f w=>∃ x a8,kJ l x a8=some c9/\f 5=zS b x.length a.length/\f 7=zB a8/\aD G K (aM 4 K b a.length x::L) w) ?_ ?_))))
      ·rintro f j3 ⟨x,a8,hm,f2,f3,f4⟩
       unfold kJ at hm
       exact aC (aU (aX o (aF (cW rfl rfl) (aH (v:=i64 (wr (l+1))) (aG ⟨_,(zI hm).symm,bZ,f2,f3,rfl,f4⟩)))))
      refine aJ (aI (aX a5 (aX o ?_)));obtain ⟨j4,q,hm⟩:=aB hm
      have d1:=dD a6 (i:=0) rfl q
      refine aF (eE jG rfl d1 rfl rfl rfl q) (aF (uR (t:=0) sc_4 a6 (i:=0) rfl q rfl rfl rfl) (aF (zY rfl) (aG ?_)))
      rcases aP hm with ⟨d2,hm⟩|⟨d2,hm⟩
      ·exact aK
      ·refine bF d2 rfl (aY (aC (aI (aH (v:=zB false) (aG (aJ (aI (aH (v:=i64 0) (aG (aQ [0,1,5,7,8] (fun f w=>∃ a9,tV k a3 l a9=some c9/\f 9=zB a9/\aD G K (aM 4 K b a.length k::L) w) ?_ ?_))))))))))
       ·rintro f j5 ⟨a9,hm,f5,f6⟩
        unfold tV at hm
        refine aC (aI (aX f5 (aF (zY rfl) (aG ?_))))
        rcases aP hm with ⟨d3,hm⟩|⟨d3,hm⟩
        ·refine aR d3 rfl (aI (aX a5 (aX o (aF (eE jG rfl d1 rfl rfl rfl q) ?_))));obtain ⟨d4,d5,hm⟩:=aB hm
         exact iB (i:=0) (t:=0) (ns:=[zB false]) (e':=(false:Bool)) sizeOf4 f6 rfl (zR _) rfl rfl rfl q d5 rfl rfl (eD rfl) rfl (fun cs h=>by cases h;rfl) (fun f7 (f8:aD G K (aM 4 K b a.length d4::L) f7)=>(aG (aU (aH (v:=zB true) (bG (cU (aC ⟨bZ,d4,true,hm,(Eq.trans a5 (congrArg (fun n=>zS b n a.length) (bW d5))),rfl,f8⟩)))))))
        ·exact aK
       obtain ⟨j6,f9,ho⟩:=aB hm
       refine bN [0,1,5,7,8] f9 (fun b0 y f w=>f 9=zB b0/\f 10=i64 y/\aD G K (aM 4 K b a.length k::L) w) aK ?_
       ·rintro b0 y g0 f j7 hm hr ⟨g1,b1,z⟩
        unfold jA at hm
        refine aJ (aI (aX b1 (aL (v:=dC a1 j) (aF (gP rfl c) (aF (gG (k':=j+3) eX rfl c rfl) (aF (bX (t:=3) lX z c rfl rfl) (aF (bE (len:=t.E.length) cO rfl) (aF (cE rfl rfl) (aG ?_)))))))))
        rcases aP hm with ⟨d6,hm⟩|⟨d6,hm⟩
        ·refine aR d6 rfl (aY (aC (aJ (cB (aI (aL (v:=dC a1 j) (aF (gP rfl c) (aF (gG (k':=j+3) eX rfl c rfl) (aF (bX (t:=3) lX z c rfl rfl) (aX b1 ?_))))))))));obtain ⟨d,d7,hm⟩:=aB hm
         refine aF (eC cO rfl h9 rfl rfl rfl d7) ?_;obtain ⟨j8,g2,g3⟩:=bK.el (sz:=3) rfl h9 d7
         cases g3
         refine aF (gQ (t:=0) (vs:=[i64 d.F,i64 d.B,i64 d.To]) nU z g2 rfl rfl rfl) (bH (vs:=[i64 0,i64 0,i64 0]) zeroValue87 z rfl (fun d8 j9 g4=>(cF (i:=0) (ns:=[i64 d.F,i64 d.B,i64 d.To]) (us:=[i64 d.F,i64 d.B,i64 d.To]) sizeOf87 g4 rfl rfl rfl rfl rfl (eD rfl) rfl rfl (fun g5 (d9:aD G K (box d8 87 [i64 d.F,i64 d.B,i64 d.To]::aM 4 K b a.length k::L) g5)=>(aG (bO [0,1,5,7,8,10] (fun f w=>∃ b2,iZ y b2=some g0/\f 9=zB b2/\aD G K (aM 4 K b a.length k::L) w) ?_ ?_))))))
         ·rintro f k0 ⟨b2,hm,g6,g7⟩
          unfold iZ at hm
          exact cU (aC (aU (aX b1 (aF (cW rfl rfl) (aH (v:=i64 (wr (y+1))) (aG ⟨_,(zI hm).symm,bZ,g6,rfl,g7⟩))))))
         refine aU (aX g1 (aL (v:=zB b0) ?_))
         rcases aP hm with ⟨m,hm⟩|⟨m,hm⟩
         ·exact aK
         ·refine iR m rfl rfl (aF (bM (t':=0) qK rfl rfl) (iR m rfl rfl (aF (fF eZ d9 (i:=0) rfl rfl rfl) (iR m rfl rfl (aX o (iR m rfl rfl (aF (aKr rfl rfl) (iR m rfl rfl (aL (v:=zB (d.F == l)) ?_)))))))))
          rcases aP hm with ⟨b3,hm⟩|⟨b3,hm⟩
          ·refine gT b3 rfl rfl (aL (v:=zS a10 p.length c11) (gT b3 rfl rfl ?_));obtain ⟨k1,g8,g9,h0,k3⟩:=aD.lendBp d9 .head
           obtain ⟨k4,h1,hm⟩:=aB hm
           exact aS (vs:=[dC (some ⟨d8,0,none⟩) 0,zS a10 p.length c11]) call102 rfl (pN h1 h0 g9 (e3.mono g8)) aK
          ·exact aK
        ·exact aK
     ·exact aK
   ·exact aK
 obtain ⟨k5,h2,ho⟩:=aB hm
 refine bN [0,1] h2 (fun b4 b5 f w=>f 5=zS b b4.length a.length/\f 6=i64 b5/\aD G K (aM 4 K b a.length b4::L) w) aK ?_
 ·rintro b4 b5 k6 f k7 hm hr ⟨e0,b6,b7⟩
  unfold iH at hm
  refine aJ (aI (aX b6 (aL (v:=dC a1 j) (aF (gP rfl c) (aF (gG (k':=j+0) mL rfl c rfl) (aF (bX (t:=0) eZ b7 c rfl rfl) (aF (cE rfl rfl) (aG ?_))))))))
  rcases aP hm with ⟨e1,hm⟩|⟨e1,hm⟩
  ·refine aR e1 rfl (aY (aC (aJ (cB (aU (aX e0 (aX b6 ?_)))))));obtain ⟨k8,b8,hm⟩:=aB hm
   have h4:=dD b7 (i:=0) rfl b8
   refine aF (eE jG rfl h4 rfl rfl rfl b8) ?_;obtain ⟨h5,e2,hm⟩:=aB hm
   exact iB (i:=0) (t:=0) (ns:=[zB true]) (e':=(true:Bool)) sizeOf4 b7 rfl (zR _) rfl rfl rfl b8 e2 rfl rfl (eD rfl) rfl (fun cs h=>by cases h;rfl) (fun h7 (h8:aD G K (aM 4 K b a.length h5::L) h7)=>(bG (cU (aC (aU (aX b6 (aF (cW rfl rfl) (aH (v:=i64 (wr (b5+1))) (aG ⟨_,(zI hm).symm,bZ,(Eq.trans e0 (congrArg (fun n=>zS b n a.length) (bW e2))),rfl,h8⟩)))))))))
  ·exact aK
theorem aBw {a:(List aV)} {b:aV} {R:Int} (hm:aAE a b=some R) (e:aD G K (L) w) (g:bK K a1 c2 a):
  Calls prog 137 ([zS a1 a.length c2,str b]:List Value).toArray w (dV fun v w'=>v=i64 R/\aD G K (L) w'):=by
 refine aO func137 rfl (by kernel_rfl) (by show (2:Nat)<=19;decide) ?_;unfold aAE at hm
 refine aI (aH (v:=i64 0) (aG (aJ (aI (aH (v:=i64 0) (aG (aQ [] (fun f w=>aGv=some R/\aD G K (L) w) aK ?_)))))));obtain ⟨h,c,ho⟩:=aB hm
 exact cQ [0,1] c (fun d f w=>f 5=i64 d/\aD G K (L) w) aK aK
theorem aEL {g R:(List aV)} (hm:aCO g=some R) (hs:aD G K (L) w) (y:bK K a1 c2 g):
  Calls prog 136 ([zS a1 g.length c2]:List Value).toArray w (dV fun v w'=>∃ b1 b2,v=zS b1 R.length b2/\aD G K (aM 9 K b1 b2 R::L) w'):=by
 refine aO func136 rfl (by kernel_rfl) (by show (1:Nat)<=65;decide) ?_;unfold aCO at hm
 refine aI (aH (v:=zS none 0 0) (aG (aI (dI (Kt:=K) (xs:=([([116,97,117]:aV)]:List aV)) (cs:=[str ([116,97,117]:aV)]) (vs:=[(0,str ([116,97,117]:aV))]) gL aEo rfl rfl hs rfl (by kernel_rfl) rfl rfl rfl ⟨rfl,trivial⟩ (fun a4 w5 (f9:aD G K (aM 9 K a4 1 ([([116,97,117]:aV)]:List aV)::L) w5)=>(aH (v:=zS a4 ([([116,97,117]:aV)]:List aV).length 1) (aG (aJ (aI (aH (v:=i64 0) (aG (aQ [] (fun f w=>∃ z a8 c9,aGw z=some R/\f 3=zS a8 z.length c9/\aD G K (aM 9 K a8 c9 z::L) w) aK ?_))))))))))))
 obtain ⟨g0,d5,ho⟩:=aB hm
 refine bN [0] d5 (fun c j f w=>∃ d e,f 3=zS d c.length e/\f 4=i64 j/\aD G K (aM 9 K d e c::L) w) aK ?_
 ·rintro c j J f g1 hm hr ⟨d,e,b6,m,b7⟩
  unfold oV at hm
  refine aJ (aI (aX m (aL (v:=zS a1 g.length c2) (aF (bE (len:=g.length) gL rfl) (aF (cE rfl rfl) (aG ?_))))))
  rcases aP hm with ⟨b8,hm⟩|⟨b8,hm⟩
  ·refine aR b8 rfl (aY (aC (aJ (aQ [0,4] (fun f w=>∃ o p q,sI j o=some J/\f 3=zS p o.length q/\aD G K (aM 9 K p q o::L) w) ?_ ?_))))
   ·rintro f g2 ⟨o,p,q,hm,d6,d7⟩
    unfold sI at hm
    exact aC (aU (aX m (aF (cW rfl rfl) (aH (v:=i64 (wr (j+1))) (aG ⟨_,(zI hm).symm,bZ,p,q,d6,rfl,d7⟩)))))
   refine aJ (aI (aX b6 (aL (v:=zS a1 g.length c2) (aX m ?_))));obtain ⟨k,V,hm⟩:=aB hm
   refine aF (eC gL rfl y rfl rfl rfl V) ?_;obtain ⟨g3,b9,d8⟩:=bK.el (sz:=1) rfl y V
   cases d8
   refine aF (bX (t:=0) aHb b7 b9 rfl rfl) ?_;obtain ⟨g4,g5,d9,e0,e1⟩:=aD.lendSp b7 (zR _) .head
   obtain ⟨g6,e2,hm⟩:=aB hm
   refine aS (vs:=[zS d c.length e,str k]) call137 rfl (aBw e2 e0 d9) ?_
   rintro _ g7 ⟨rfl,e3⟩
   have g8:=e1 _ _ e3
   refine aF (R_geq rfl rfl) (aG ?_)
   rcases aP hm with ⟨c0,hm⟩|⟨c0,hm⟩
   ·exact aK
   ·refine bF c0 rfl (aY (aC (aI (aH (v:=i64 1) (aG (aJ (aQ [0,3,4] (fun f w=>∃ r,aAv c j k r=some J/\f 5=i64 r/\aD G K (aM 9 K d e c::L) w) ?_ ?_)))))))
    ·rintro f g9 ⟨r,hm,c1,e4⟩
     unfold aAv at hm
     refine aC (aI (aX b6 (dI (Kt:=K) (xs:=([([]:aV)]:List aV)) (cs:=[str ([]:aV)]) (vs:=[(0,str ([]:aV))]) gL aEo rfl rfl e4 rfl (by kernel_rfl) rfl rfl rfl ⟨rfl,trivial⟩ (fun e5 e6 (e7:aD G K (aM 9 K e5 1 ([([]:aV)]:List aV)::aM 9 K d e c::L) e6)=>?_))));obtain ⟨l,e8,hm⟩:=aB hm
     refine tR (i:=0) gL underlying24 aEo rfl rfl e7 rfl (zR _) (zR _) e8 rfl rfl rfl rfl (fun _ h=>h) (fun a b e9 (h0:aD G K (aM 9 K a b l::L) e9)=>(aH (v:=zS a l.length b) (aG (aJ (aI (aL (v:=zS a l.length b) (aF (bE (len:=l.length) gL rfl) (aF (vH rfl rfl) (aH (v:=i64 (wr ((l.length:Int) - 1))) (aG (aQ [0,4,5] (fun f w=>∃ u,aAu j k r u=some J/\f 3=zS a u.length b/\aD G K (aM 9 K a b u::L) w) ?_ ?_)))))))))))
     ·rintro f h1 ⟨u,hm,c3,a0⟩
      unfold aAu at hm
      refine aC (aU (aX c3 (aX c1 (aL (v:=zS a1 g.length c2) (aX m (aF (eC gL rfl y rfl rfl rfl V) (aF (bX (t:=0) aHb a0 b9 rfl rfl) ?_)))))));obtain ⟨h2,a2,hm⟩:=aB hm
      have f0:=dD a0 (i:=0) rfl a2
      refine aF (eE gL rfl f0 rfl rfl rfl a2) ?_;obtain ⟨c4,c5,hm⟩:=aB hm
      exact iB (i:=0) (t:=0) (ns:=[str k]) (e':=(k:aV)) sizeOf9 a0 rfl (zR _) rfl rfl rfl a2 c5 rfl rfl (eD rfl) rfl (fun cs h=>by cases h;rfl) (fun f1 (f2:aD G K (aM 9 K a b c4::L) f1)=>(bG (cU (aC ⟨bZ,c4,a,b,hm,(Eq.trans c3 (congrArg (fun n=>zS a n b) (bW c5))),f2⟩))))
     obtain ⟨h4,f3,ho⟩:=aB hm
     refine bN [0,4,5] f3 (fun a3 a5 f w=>f 3=zS a a3.length b/\f 6=i64 a5/\aD G K (aM 9 K a b a3::L) w) aK ?_
     ·rintro a3 a5 h5 f h6 hm hr ⟨a6,x,a7⟩
      unfold vS at hm
      refine aJ (aI (aX x (aX c1 (aF (aBR rfl rfl) (aG ?_)))))
      rcases aP hm with ⟨c6,hm⟩|⟨c6,hm⟩
      ·refine aR c6 rfl (aY (aC (aJ (cB (aU (aX a6 (aX x (aX a6 (aX x (aF (vH rfl rfl) ?_))))))))));obtain ⟨c7,a9,hm⟩:=aB hm
       have c8:=dD a7 (i:=0) rfl a9
       refine aF (eE gL rfl c8 rfl rfl rfl a9) (aF (uR (t:=0) aHb a7 (i:=0) rfl a9 rfl rfl rfl) ?_);obtain ⟨h7,d0,hm⟩:=aB hm
       refine aF (eE gL rfl c8 rfl rfl rfl d0) ?_;obtain ⟨f4,d1,hm⟩:=aB hm
       exact iB (i:=0) (t:=0) (ns:=[str c7]) (e':=(c7:aV)) sizeOf9 a7 rfl (zR _) rfl rfl rfl d0 d1 rfl rfl (eD rfl) rfl (fun cs h=>by cases h;rfl) (fun f5 (f6:aD G K (aM 9 K a b f4::L) f5)=>(bG (cU (aC (aU (aX x (aF (vH rfl rfl) (aH (v:=i64 (wr (a5 - 1))) (aG ⟨_,(zI hm).symm,bZ,(Eq.trans a6 (congrArg (fun n=>zS a n b) (bW d1))),rfl,f6⟩)))))))))
      ·exact aK
    obtain ⟨h8,f7,ho⟩:=aB hm
    refine cQ [0,3,4] f7 (fun b0 f w=>f 5=i64 b0/\aD G K (aM 9 K d e c::L) w) aK ?_
    ·rintro b0 f8 f h9 hm hr ⟨i0,i1⟩
     unfold sJ at hm
     exact aJ (aJ (bO [0,3,4,5] (fun f w=>∃ d2,vT b0 d2=some f8/\f 35=zB d2/\aD G K (aM 9 K d e c::L) w) aK aK))
  ·exact aK
theorem aJW {j:(List Edge)} {e:Edge} {R:(List Edge)} (hm:aEv j e=some R) (hs:aD G K (aM 87 K a1 c2 j::L) w):
  Calls prog 138 ([zS a1 j.length c2,zA #[i64 e.F,i64 e.B,i64 e.To]]:List Value).toArray w (dV fun v w'=>∃ b4 b5,v=zS b4 R.length b5/\aD G K (aM 87 K b4 b5 R::L) w'):=by
 let a:=[i64 e.F,i64 e.B,i64 e.To]
 let o:=aM 87 K a1 c2 j
 refine aO func138 rfl (by kernel_rfl) (by show (2:Nat)<=57;decide) ?_;unfold aEv at hm
 refine aI (eQ (v:=zA #[i64 e.F,i64 e.B,i64 e.To]) (vs:=a) hs rfl rfl (fun k w4 g3=>(aH (v:=zS none 0 0) (aG (aI (aL (v:=zS a1 j.length c2) (aF (bE (len:=j.length) cO rfl) (aH (v:=i64 (j.length:Int)) (aG (aJ (aQ [0,3] (fun f w=>∃ p,aCe j e p=some R/\f 5=i64 p/\aD G K (box k 87 a::o::L) w) ?_ ?_)))))))))))
 ·rintro f w8 ⟨p,hm,J,b⟩
  unfold aCe at hm
  refine aC (aJ (aJ (bO [0,3,5] (fun f w=>∃ a2,uV j e p a2=some R/\f 30=zB a2/\aD G K (box k 87 a::o::L) w) ?_ ?_)))
  ·rintro f g5 ⟨a2,hm,c8,c9⟩
   unfold uV at hm
   refine aC ?_
   rcases aP hm with ⟨b6,hm⟩|⟨b6,hm⟩
   ·exact aK
   ·refine bF b6 c8 (aY (aC (aI (aL (v:=zS a1 j.length c2) (aF (kT (vs:=[]) (cs:=[i64 0,i64 0,i64 0]) bs_87 rfl (by kernel_rfl)) (dI (Kt:=K) (xs:=([⟨0,0,0⟩]:List Edge)) (cs:=[i64 0,i64 0,i64 0]) (vs:=[(0,zA #[i64 0,i64 0,i64 0])]) cO aAb rfl rfl c9 rfl (by kernel_rfl) rfl rfl rfl ⟨rfl,trivial⟩ (fun d0 d1 (d2:aD G K (aM 87 K d0 1 ([⟨0,0,0⟩]:List Edge)::box k 87 a::o::L) d1)=>?_)))))));obtain ⟨u,d3,hm⟩:=aB hm
    refine tR (i:=1) cO underlying66 aAb rfl rfl d2 rfl (zR _) (zR _) d3 rfl rfl rfl rfl (fun _ h=>h) (fun c d d4 (g6:aD G K (box k 87 a::aM 87 K c d u::L) d4)=>(aH (v:=zS c u.length d) (aG (aJ (aI (aL (v:=zS c u.length d) (aF (bE (len:=u.length) cO rfl) (aF (vH rfl rfl) (aH (v:=i64 (wr ((u.length:Int) - 1))) (aG (aQ [3,5] (fun f w=>∃ V,aCd e p V=some R/\f 0=zS c V.length d/\aD G K (box k 87 a::aM 87 K c d V::L) w) ?_ ?_)))))))))))
    ·rintro f g7 ⟨V,hm,b7,a3⟩
     unfold aCd at hm
     refine aC (aI (aX b7 (aX J (aF (gH (us:=a) nU a3 (i:=0) rfl rfl rfl rfl) ?_))));obtain ⟨g8,a4,hm⟩:=aB hm
     have d5:=dD a3 (i:=1) rfl a4
     refine aF (eE cO rfl d5 rfl rfl rfl a4) ?_;obtain ⟨a5,b8,hm⟩:=aB hm
     refine iB (i:=1) (t:=0) (ns:=a) (e':=(⟨e.F,e.B,e.To⟩:Edge)) sizeOf87 a3 rfl (zR _) rfl rfl rfl a4 b8 rfl rfl (eD rfl) rfl (fun cs h=>by cases h;rfl) (fun d6 (d7:aD G K (box k 87 a::aM 87 K c d a5::L) d6)=>(aG (aI (aX (v:=zS c a5.length d) (Eq.trans b7 (congrArg (fun n=>zS c n d) (bW b8))) (aH (v:=zS c a5.length d) (aG ?_))))));obtain rfl:=zI hm
     exact lC (nA results138 rfl ⟨c,d,rfl,(aD.arr 1 [] d7 rfl)⟩)
    obtain ⟨g9,d9,ho⟩:=aB hm
    refine bN [3,5] d9 (fun a6 a7 f w=>f 0=zS c a6.length d/\f 6=i64 a7/\aD G K (box k 87 a::aM 87 K c d a6::L) w) aK ?_
    ·rintro a6 a7 h0 f h1 hm hr ⟨a8,a0,a9⟩
     unfold yI at hm
     refine aJ (aI (aX a0 (aX J (aF (aBR rfl rfl) (aG ?_)))))
     rcases aP hm with ⟨b9,hm⟩|⟨b9,hm⟩
     ·refine aR b9 rfl (aY (aC (aJ (cB (aU (aX a8 (aX a0 (aX a8 (aX a0 (aF (vH rfl rfl) ?_))))))))));obtain ⟨l,b0,hm⟩:=aB hm
      have c0:=dD a9 (i:=1) rfl b0
      refine aF (eE cO rfl c0 rfl rfl rfl b0) (aF (aEf (t:=0) (vs:=[i64 l.F,i64 l.B,i64 l.To]) nU a9 (i:=1) rfl b0 rfl rfl rfl rfl) ?_);obtain ⟨h2,c1,hm⟩:=aB hm
      refine aF (eE cO rfl c0 rfl rfl rfl c1) ?_;obtain ⟨e0,c3,hm⟩:=aB hm
      exact iB (i:=1) (t:=0) (ns:=[i64 l.F,i64 l.B,i64 l.To]) (e':=(⟨l.F,l.B,l.To⟩:Edge)) sizeOf87 a9 rfl (zR _) rfl rfl rfl c1 c3 rfl rfl (eD rfl) rfl (fun cs h=>by cases h;rfl) (fun e1 (e2:aD G K (box k 87 a::aM 87 K c d e0::L) e1)=>(bG (cU (aC (aU (aX a0 (aF (vH rfl rfl) (aH (v:=i64 (wr (a7 - 1))) (aG ⟨_,(zI hm).symm,bZ,(Eq.trans a8 (congrArg (fun n=>zS c n d) (bW c3))),rfl,e2⟩)))))))))
     ·exact aK
  refine rY (C:=fun w'=>aD G K (box k 87 a::o::L) w') Tryz_mixed (by kernel_rfl) (aD.mono b (eP.drew _)) (dB (fun _ b=>bL J) (dB (fun _ b=>aBR rfl rfl) (dB (fun _ b=>bL (v:=zB (decide (0 < p))) rfl) ?_)))
  rcases aP hm with ⟨m,hm⟩|⟨m,hm⟩
  ·refine jZ (g:=22) rfl rfl m (dB (fun _ b=>bL (v:=zS a1 j.length c2) rfl) (jZ (g:=22) rfl rfl m (dB (fun _ b=>bL J) (jZ (g:=22) rfl rfl m (dB (fun _ b=>vH rfl rfl) (jZ (g:=22) rfl rfl m ?_))))));obtain ⟨q,b1,hm⟩:=aB hm
   have e3:=dD b (i:=1) rfl b1
   exact dB (fun _ b=>eE cO rfl e3 rfl rfl rfl b1) (jZ (g:=22) rfl rfl m (dB (fun _ b=>aEf (t:=0) (vs:=[i64 q.F,i64 q.B,i64 q.To]) nU b (i:=1) rfl b1 rfl rfl rfl rfl) (jZ (g:=22) rfl rfl m (dB (fun _ b=>gH (us:=a) nU b (i:=0) rfl rfl rfl rfl) (jZ (g:=22) rfl rfl m (dB (fun _ b=>R_eqlG (eq_87 (x:=q) (y:=e)) rfl rfl) (dB (fun _ b=>lE (v:=zB (decide ((q:Edge)=e))) m rfl rfl) (zJ (fun h3 e4=>(aC ⟨bZ,decide ((q:Edge)=e),hm,rfl,e4⟩))))))))))
  ·exact aK
 obtain ⟨h4,e5,ho⟩:=aB hm
 refine cQ [0,3] e5 (fun z f w=>f 5=i64 z/\aD G K (box k 87 a::o::L) w) aK ?_
 ·rintro z e6 f h5 hm hr ⟨c4,c5⟩
  unfold uW at hm
  refine aJ (aJ (bO [0,3,5] (fun f w=>∃ c6,yJ z c6=some e6/\f 17=zB c6/\aD G K (box k 87 a::o::L) w) aK (aU (aX c4 (aF (aBR rfl rfl) (aL (v:=zB (decide (0 < z))) ?_))))))
  rcases aP hm with ⟨r,hm⟩|⟨r,hm⟩
  ·refine gT r rfl rfl (aL (v:=zS a1 j.length c2) (gT r rfl rfl (aX c4 (gT r rfl rfl (aF (vH rfl rfl) (gT r rfl rfl ?_))))));obtain ⟨h6,b2,hm⟩:=aB hm
   have e8:=dD c5 (i:=1) rfl b2
   refine aF (eE cO rfl e8 rfl rfl rfl b2) (gT r rfl rfl ?_);obtain ⟨h7,e9,f0,f1,f2⟩:=aD.lendBp c5 .head
   obtain ⟨h8,f3,f4,f5,f6⟩:=aD.lendSp f1 e9 .head
   obtain ⟨h9,f7,f8⟩:=bK.el (sz:=3) rfl f4 b2
   cases f8
   obtain ⟨i0,f9,hm⟩:=aB hm
   refine aS (vs:=[dC (some ⟨k,0,none⟩) 0,dC a1 ((wr (z - 1)).toNat * 3+0)]) call60 rfl (aBv f9 f5 (f0.mono f3) f7) ?_
   rintro _ i1 ⟨rfl,g0⟩
   have g1:=f6 _ _ g0
   have i2:=f2 _ _ g1
   exact aK
  ·exact aK
theorem aJc {d e:Int} {texts:(List aV)} {edges:(List Edge)} {R:aW} (hm:aAF d e texts edges=some R) (hs:aD G K (L) w) (r:bK K a1 c2 texts) (y:bK K a4 c5 edges):
  Calls prog 105 ([i64 d,i64 e,zS a1 texts.length c2,zS a4 edges.length c5]:List Value).toArray w (dV fun v w'=>∃ z J V a0,v=zA (zCa R z J V a0)/\aD G K (aM 9 K z J R.L::aM 87 K V a0 R.E::L) w'):=by
 let h:=zG
 refine aO func105 rfl (by kernel_rfl) (by show (4:Nat)<=43;decide) ?_;unfold aAF at hm
 refine aI (bH (vs:=h) zeroValue68 hs rfl (fun l w8 b4=>(aG (aI (aL (v:=i64 d) (aL (v:=i64 e) (aL (v:=zS a1 texts.length c2) ?_)))))));obtain ⟨a,b5,hm⟩:=aB hm
 refine aS (vs:=[zS a1 texts.length c2]) call136 rfl (aEL b5 b4 r) ?_
 rintro _ e8 ⟨b,c,rfl,b6⟩
 refine dI (Kt:=K) (xs:=([]:List Edge)) (cs:=[]) (vs:=[]) cO aAb rfl rfl b6 rfl (by kernel_rfl) rfl rfl rfl trivial (fun j b8 (b9:aD G K (aM 87 K j 0 ([]:List Edge)::aM 9 K b c a::box l 68 h::L) b8)=>(aF (kT (vs:=[(0,i64 d),(1,i64 e),(2,zS b a.length c),(3,zS j ([]:List Edge).length 0)]) (cs:=[i64 d,i64 e,zS b a.length c,zS j ([]:List Edge).length 0]) aFq rfl (by kernel_rfl)) (bH (vs:=h) zeroValue68 b9 rfl (fun p e9 c0=>(cF (i:=0) (ns:=[i64 d,i64 e,zS b a.length c,zS j ([]:List Edge).length 0]) (us:=[i64 d,i64 e,zS b a.length c,zS j ([]:List Edge).length 0]) sizeOf68 c0 rfl rfl rfl rfl rfl (eD rfl) rfl rfl (fun c1 (f0:aD G K (box p 68 [i64 d,i64 e,zS b a.length c,zS j ([]:List Edge).length 0]::aM 87 K j 0 ([]:List Edge)::aM 9 K b c a::box l 68 h::L) c1)=>(aG (aJ (aI (aH (v:=i64 0) (aG (aQ [8,9] (fun f w=>∃ u a2 a3,aGx d e a u=some R/\aD G K (aM 87 K a2 a3 u::box p 68 [i64 d,i64 e,zS b a.length c,zS a2 u.length a3]::aM 9 K b c a::box l 68 h::L) w) aK ?_))))))))))))
 obtain ⟨f1,c3,ho⟩:=aB hm
 refine bN [2,3,8,9] c3 (fun m a5 f w=>∃ n o,f 10=i64 a5/\aD G K (box p 68 [i64 d,i64 e,zS b a.length c,zS n m.length o]::aM 87 K n o m::aM 9 K b c a::box l 68 h::L) w) aK ?_
 ·rintro m a5 f2 f f3 hm hr ⟨n,o,a6,a7⟩
  unfold sK at hm
  refine aJ (aI (aX a6 (aL (v:=zS a4 edges.length c5) (aF (bE (len:=edges.length) cO rfl) (aF (cE rfl rfl) (aG ?_))))))
  rcases aP hm with ⟨a8,hm⟩|⟨a8,hm⟩
  ·refine aR a8 rfl (aY (aC (aJ (cB (aI (aL (v:=zS a4 edges.length c5) (aX a6 ?_)))))));obtain ⟨g,a9,hm⟩:=aB hm
   refine aF (eC cO rfl y rfl rfl rfl a9) ?_;obtain ⟨f4,c4,c6⟩:=bK.el (sz:=3) rfl y a9
   cases c6
   refine aF (gQ (t:=0) (vs:=[i64 g.F,i64 g.B,i64 g.To]) nU a7 c4 rfl rfl rfl) (bH (vs:=[i64 0,i64 0,i64 0]) zeroValue87 a7 rfl (fun c7 f5 c8=>(cF (i:=0) (ns:=[i64 g.F,i64 g.B,i64 g.To]) (us:=[i64 g.F,i64 g.B,i64 g.To]) sizeOf87 c8 rfl rfl rfl rfl rfl (eD rfl) rfl rfl (fun c9 (d0:aD G K (box c7 87 [i64 g.F,i64 g.B,i64 g.To]::box p 68 [i64 d,i64 e,zS b a.length c,zS n m.length o]::aM 87 K n o m::aM 9 K b c a::box l 68 h::L) c9)=>(aG (aJ ?_))))))
   obtain ⟨f6,x,d1,d2,d3⟩:=aD.lendBp d0 .head
   obtain ⟨d4,q,d5,b0,d6⟩:=aD.lendBp d2 .head
   refine fO (C:=fun w'=>∃ L',aD G d4 L' w') [(0,0),(1,0),(2,0),(3,0),(4,0),(5,0),(6,0),(7,1),(8,0),(9,2)] Tryz_mixed (by kernel_rfl) (fun _ hg=>⟨_,aD.mono b0 hg⟩) (fun f7 d7=>?_)
   have k:=aD.mono b0 d7
   refine bS rfl (fun _ _=>bM (t':=2) aAp rfl rfl) (bS rfl (fun _ ⟨_,k⟩=>bX (t:=2) aBU k d5 rfl rfl) (bS rfl (fun _ _=>bL (v:=zS a1 texts.length c2) rfl) (bS rfl (fun _ _=>bM (t':=1) aAo rfl rfl) (bS rfl (fun _ ⟨_,k⟩=>bX (t:=1) eZ k (d1.mono q) rfl rfl) ?_))));obtain ⟨d8,b1,hm⟩:=aB hm
   refine bS rfl (fun _ _=>eC gL rfl (r.mono (Hp.le_trans x q)) rfl rfl rfl b1) ?_;obtain ⟨f8,d9,e0⟩:=bK.el (sz:=1) rfl r b1
   cases e0
   refine bS rfl (fun _ ⟨_,k⟩=>bX (t:=0) aHb k (d9.mono (Hp.le_trans x q)) rfl rfl) (qX rfl ?_);obtain ⟨f9,g0,e1,e2,e3⟩:=aD.lendSp k (Hp.le_trans x q) zt1
   obtain ⟨g1,e4,hm⟩:=aB hm
   refine aS (vs:=[zS b a.length c,str d8]) call137 rfl (aBw e4 e2 e1) ?_
   rintro _ g2 ⟨rfl,e5⟩
   have b2:=e3 _ _ e5
   refine bG (aC ⟨⟨_,b2⟩,?_⟩)
   refine bS rfl (fun _ _=>bM (t':=1) aAo rfl rfl) ?_
   have e6:=d6 _ _ b2
   have g3:=d3 _ _ e6
   exact aK
  ·exact aK
theorem aJX {a b R:Int} (hm:aIT a b=some R) (c:aD G K (L) w):
  Calls prog 139 ([i64 a,i64 b]:List Value).toArray w (dV fun v w'=>v=i64 R/\aD G K (L) w'):=by
 exact aK
theorem aHj {p:(List Int)} {R:Int} (hm:yK p=some R) (e:aD G K (L) w) (g:bK K a1 c2 p):
  Calls prog 106 ([zS a1 p.length c2]:List Value).toArray w (dV fun v w'=>v=i64 R/\aD G K (L) w'):=by
 refine aO func106 rfl (by kernel_rfl) (by show (1:Nat)<=19;decide) ?_;unfold yK at hm
 refine aI (aH (v:=i64 0) (aG (aI (aH (v:=i64 0) (aG (aJ (aI (aH (v:=i64 0) (aG (aQ [] (fun f w=>∃ a,aEw a=some R/\f 3=i64 a/\aD G K (L) w) aK ?_))))))))));obtain ⟨h,b,ho⟩:=aB hm
 exact bN [0] b (fun c d f w=>f 3=i64 c/\f 4=i64 d/\aD G K (L) w) aK aK
theorem aBx {t:aW} {g:Nat} {p:(List Int)} {q:Bool} {R:aW} (hm:pT t p q=some R) (hs:aD G K (L) w) (j:gE K a1 g (zC t a4 c5 a7 c8)) (h6:bK K a4 c5 t.L) (h9:bK K a7 c8 t.E) (m:bK K a10 c11 p):
  Calls prog 81 ([dC a1 g,zS a10 p.length c11,zB q]:List Value).toArray w (dV fun v w'=>∃ c0 c1 c2 c3,v=zA (zCa R c0 c1 c2 c3)/\aD G K (aM 9 K c0 c1 R.L::aM 87 K c2 c3 R.E::L) w'):=by
 let c:=zG
 refine aO func81 rfl (by kernel_rfl) (by show (3:Nat)<=92;decide) ?_;unfold pT at hm
 refine aI (bH (vs:=c) zeroValue68 hs rfl (fun d j6 f0=>(aG (aI (dI (Kt:=K) (xs:=([]:List Edge)) (cs:=[]) (vs:=[]) cO aAb rfl rfl f0 rfl (by kernel_rfl) rfl rfl rfl trivial (fun c4 f1 (j7:aD G K (aM 87 K c4 0 ([]:List Edge)::box d 68 c::L) f1)=>(aH (v:=zS c4 ([]:List Edge).length 0) (aG (aJ (aI (aH (v:=i64 0) (aG (aQ [0,1,2,6] (fun f w=>∃ r b1 b2,oA t p q r=some R/\f 7=zS b1 r.length b2/\aD G K (aM 87 K b1 b2 r::box d 68 c::L) w) ?_ ?_)))))))))))))
 ·rintro f j8 ⟨r,b1,b2,hm,j9,f2⟩
  unfold oA at hm
  refine aC (qV [0,1,6] (fun f w=>∃ u b3 b4,lA t p u=some R/\f 7=zS b3 u.length b4/\aD G K (aM 87 K b3 b4 u::box d 68 c::L) w) ?_ ?_)
  ·rintro f k0 ⟨u,b3,b4,hm,k1,c6⟩
   unfold lA at hm
   refine aJ (fO (C:=fun w'=>∃ L',aD G K L' w') [(0,0),(2,0),(3,0),(4,0),(5,0),(6,0),(7,0),(8,0),(9,0),(10,0),(11,0),(12,0),(13,0),(1,1),(14,1),(15,2)] Tryz_mixed (by kernel_rfl) (fun _ hg=>⟨_,aD.mono c6 hg⟩) (fun k3 f3=>?_))
   have k4:=aD.mono c6 f3
   exact aK
  refine aI (aL (v:=zB q) (aG ?_))
  rcases aP hm with ⟨c7,hm⟩|⟨c7,hm⟩
  ·refine aR c7 rfl (aI (aL (v:=dC a1 g) (aL (v:=zS a10 p.length c11) ?_)));obtain ⟨f4,f5,hm⟩:=aB hm
   refine aS (vs:=[dC a1 g,zS a10 p.length c11]) call104 rfl (wQ f5 f2 j h6 h9 m) ?_
   rintro _ k5 ⟨f6,f7,rfl,f8⟩
   obtain ⟨k6,k7,f9,g0,g1⟩:=aD.lendSp f8 (zR _) .head
   obtain ⟨k,g2,hm⟩:=aB hm
   refine aS (vs:=[zS f6 f4.length f7]) call103 rfl (aEK g2 g0 f9) ?_
   rintro _ k8 ⟨n,o,rfl,g3⟩
   have k9:=g1 _ _ g3
   refine aH (v:=zS n k.length o) (aG (aI (aH (v:=i64 0) (aG (aQ [0,1,6] (fun f w=>∃ b5 c9 d0,xD t p b5=some R/\f 7=zS c9 b5.length d0/\aD G K (aM 87 K c9 d0 b5::box d 68 c::L) w) aK ?_)))));obtain ⟨l0,g4,ho⟩:=aB hm
   refine bN [0,1,6,10] g4 (fun x d1 f w=>∃ y z,f 7=zS y x.length z/\f 11=i64 d1/\aD G K (aM 2 K n o k::aM 87 K y z x::box d 68 c::L) w) aK ?_
   ·rintro x d1 l1 f l2 hm hr ⟨y,z,g5,b6,g6⟩
    unfold gI at hm
    refine aJ (aI (aX b6 (aL (v:=zS n k.length o) (aF (bE (len:=k.length) bC rfl) (aF (cE rfl rfl) (aG ?_))))))
    rcases aP hm with ⟨d2,hm⟩|⟨d2,hm⟩
    ·refine aR d2 rfl (aY (aC (aJ (cB ?_))));obtain ⟨b7,l,d3,d4,g7⟩:=aD.lendSp g6 (zR _) .head
     refine fO (C:=fun w'=>∃ L',aD G b7 L' w') [(0,0),(1,0),(2,0),(3,0),(4,0),(5,0),(6,0),(7,0),(8,0),(9,0),(10,0),(11,0),(12,0),(13,0),(14,0),(15,0),(16,1),(17,1),(18,0)] Tryz_mixed (by kernel_rfl) (fun _ hg=>⟨_,aD.mono d4 hg⟩) (fun l3 g8=>?_)
     have e:=aD.mono d4 g8
     refine bS rfl (fun _ _=>bL g5) (bS rfl (fun _ _=>bL (v:=zS a10 p.length c11) rfl) (bS rfl (fun _ _=>bL (v:=zS n k.length o) rfl) (bS rfl (fun _ _=>bL b6) ?_)));obtain ⟨l4,J,hm⟩:=aB hm
     have d5:=aIp d3 J
     refine bS rfl (fun _ _=>eE bC rfl d5 rfl rfl rfl J) ?_;obtain ⟨l5,d6,g9⟩:=bK.el (sz:=1) rfl d3 J
     cases g9
     refine bS rfl (fun _ ⟨_,e⟩=>bX (t:=0) eZ e d6 rfl rfl) ?_;obtain ⟨a,b8,hm⟩:=aB hm
     refine bS rfl (fun _ _=>eC bC rfl (m.mono l) rfl rfl rfl b8) ?_;obtain ⟨l6,d7,h0⟩:=bK.el (sz:=1) rfl m b8
     cases h0
     refine bS rfl (fun _ ⟨_,e⟩=>bX (t:=0) eZ e (d7.mono l) rfl rfl) (bS rfl (fun _ _=>bL (v:=zS a10 p.length c11) rfl) (bS rfl (fun _ _=>bL (v:=zS n k.length o) rfl) (bS rfl (fun _ _=>bL b6) (bS rfl (fun _ _=>eE bC rfl d5 rfl rfl rfl J) (bS rfl (fun _ ⟨_,e⟩=>bX (t:=0) eZ e d6 rfl rfl) (bS rfl (fun _ _=>eC bC rfl (m.mono l) rfl rfl rfl b8) (bS rfl (fun _ ⟨_,e⟩=>bX (t:=0) eZ e (d7.mono l) rfl rfl) (bS rfl (fun _ _=>kT (vs:=[(0,i64 a),(2,i64 a)]) (cs:=[i64 a,i64 0,i64 a]) bs_87 rfl (by kernel_rfl)) (qX rfl (dI (Kt:=K) (xs:=([⟨a,0,a⟩]:List Edge)) (cs:=[i64 a,i64 0,i64 a]) (vs:=[(0,zA #[i64 a,i64 0,i64 a])]) cO aAb rfl rfl e rfl (by kernel_rfl) rfl rfl rfl ⟨rfl,trivial⟩ (fun h1 h2 (d8:aD G b7 (aM 87 K h1 1 ([⟨a,0,a⟩]:List Edge)::aM 87 K y z x::box d 68 c::L) h2)=>(bG (aC ⟨⟨_,d8⟩,?_⟩)))))))))))))
     refine qX rfl ?_;obtain ⟨d9,h4,hm⟩:=aB hm
     refine tR (i:=0) cO underlying66 aAb rfl rfl d8 rfl l l h4 rfl rfl rfl rfl (fun _ h=>h) (fun e0 e1 h5 (e2:aD G b7 (aM 87 K e0 e1 d9::box d 68 c::L) h5)=>(bG (aC ⟨⟨_,e2⟩,?_⟩)))
     refine bS rfl (fun _ _=>lD (v:=zS e0 d9.length e1) rfl) (wY ?_)
     have l7:=g7 _ _ e2
     exact aK
    ·exact aK
  ·exact aK
 obtain ⟨l8,h7,ho⟩:=aB hm
 refine bN [0,1,2,6] h7 (fun V a0 f w=>∃ a2 a3,f 7=zS a2 V.length a3/\f 8=i64 a0/\aD G K (aM 87 K a2 a3 V::box d 68 c::L) w) aK ?_
 ·rintro V a0 h8 f l9 hm hr ⟨a2,a3,m0,b9,a5⟩
  unfold jO at hm
  refine aJ (aI (aX b9 (aL (v:=dC a1 g) (aF (gP rfl j) (aF (gG (k':=g+3) eX rfl j rfl) (aF (bX (t:=3) lX a5 j rfl rfl) (aF (bE (len:=t.E.length) cO rfl) (aF (cE rfl rfl) (aG ?_)))))))))
  rcases aP hm with ⟨e3,hm⟩|⟨e3,hm⟩
  ·refine aR e3 rfl (aY (aC (aJ (aQ [0,1,2,6,8] (fun f w=>∃ a6 a8 a9,oB a0 a6=some h8/\f 7=zS a8 a6.length a9/\aD G K (aM 87 K a8 a9 a6::box d 68 c::L) w) ?_ ?_))))
   ·rintro f m1 ⟨a6,a8,a9,hm,i0,i1⟩
    unfold oB at hm
    exact aC (aU (aX b9 (aF (cW rfl rfl) (aH (v:=i64 (wr (a0+1))) (aG ⟨_,(zI hm).symm,bZ,a8,a9,i0,rfl,i1⟩)))))
   refine aI (aL (v:=dC a1 g) (aF (gP rfl j) (aF (gG (k':=g+3) eX rfl j rfl) (aF (bX (t:=3) lX a5 j rfl rfl) (aX b9 ?_)))));obtain ⟨b,e4,hm⟩:=aB hm
   refine aF (eC cO rfl h9 rfl rfl rfl e4) ?_;obtain ⟨m2,i2,i3⟩:=bK.el (sz:=3) rfl h9 e4
   cases i3
   refine aF (gQ (t:=0) (vs:=[i64 b.F,i64 b.B,i64 b.To]) nU a5 i2 rfl rfl rfl) (bH (vs:=[i64 0,i64 0,i64 0]) zeroValue87 a5 rfl (fun e5 m3 i4=>(cF (i:=0) (ns:=[i64 b.F,i64 b.B,i64 b.To]) (us:=[i64 b.F,i64 b.B,i64 b.To]) sizeOf87 i4 rfl rfl rfl rfl rfl (eD rfl) rfl rfl (fun i5 (i6:aD G K (box e5 87 [i64 b.F,i64 b.B,i64 b.To]::aM 87 K a2 a3 V::box d 68 c::L) i5)=>(aG (aI (aL (v:=zS a10 p.length c11) ?_)))))))
   obtain ⟨m4,i7,i8,i9,j0⟩:=aD.lendBp i6 .head
   obtain ⟨m5,j1,hm⟩:=aB hm
   refine aS (vs:=[dC (some ⟨e5,0,none⟩) 0,zS a10 p.length c11]) call102 rfl (pN j1 i9 i8 (m.mono i7)) ?_
   rintro _ m6 ⟨rfl,j2⟩
   have j3:=j0 _ _ j2
   refine aF (zY rfl) (aG ?_)
   rcases aP hm with ⟨e6,hm⟩|⟨e6,hm⟩
   ·refine aR e6 rfl ?_;obtain ⟨j4,m7,m8,e7,m9⟩:=aD.lendBp j3 .head
    refine fO (C:=fun w'=>∃ L',aD G j4 L' w') [(0,0),(1,0),(2,0),(3,0),(4,0),(5,0),(6,0),(7,0),(8,0),(9,0),(10,0),(11,0),(12,0),(13,0),(14,1),(15,1),(16,0)] Tryz_mixed (by kernel_rfl) (fun _ hg=>⟨_,aD.mono e7 hg⟩) (fun n0 j5=>?_)
    have n1:=aD.mono e7 j5
    exact aK
   ·exact aK
  ·exact aK
theorem aBy {a b:(List Int)} {R:Bool} (hm:aAG a b=some R) (g:aD G K (L) w) (h:bK K a1 c2 a) (i:bK K a4 c5 b):
  Calls prog 108 ([zS a1 a.length c2,zS a4 b.length c5]:List Value).toArray w (dV fun v w'=>v=zB R/\aD G K (L) w'):=by
 refine aO func108 rfl (by kernel_rfl) (by show (2:Nat)<=26;decide) ?_;unfold aAG at hm
 refine aI (aH (v:=zB false) (aG (aJ (aI (aL (v:=zS a1 a.length c2) (aF (bE (len:=a.length) bC rfl) (aL (v:=zS a4 b.length c5) (aF (bE (len:=b.length) bC rfl) (aF (aAO rfl rfl) (aG ?_))))))))))
 rcases aP hm with ⟨c,hm⟩|⟨c,hm⟩
 ·exact aK
 ·refine bF c rfl (aY (aC (aJ (aI (aH (v:=i64 0) (aG (aQ [] (fun f w=>aGy=some R/\aD G K (L) w) aK ?_)))))));obtain ⟨j,d,ho⟩:=aB hm
  exact cQ [0,1] d (fun e f w=>f 5=i64 e/\aD G K (L) w) aK aK
theorem aDU {t:aW} {j:Nat} {p:(List Int)} {k:Int} {R:(List Bool)} (hm:aBi t p k=some R) (hs:aD G K (L) w) (d:gE K a1 j (zC t a4 c5 a7 c8)) (h6:bK K a4 c5 t.L) (h9:bK K a7 c8 t.E) (d5:bK K a10 c11 p):
  Calls prog 169 ([dC a1 j,zS a10 p.length c11,i64 k]:List Value).toArray w (dV fun v w'=>∃ b4 b5,v=zS b4 R.length b5/\aD G K (aM 4 K b4 b5 R::L) w'):=by
 refine aO func169 rfl (by kernel_rfl) (by show (3:Nat)<=58;decide) ?_;unfold aBi at hm
 refine aI (aH (v:=zS none 0 0) (aG (aI (aL (v:=dC a1 j) (aF (gP rfl d) (aF (gG (k':=j+0) mL rfl d rfl) (aF (bX (t:=0) eZ hs d rfl rfl) ?_)))))));obtain ⟨a,d6,hm⟩:=aB hm
 refine aCD (e:=(false:Bool)) jG ez_4 rfl rfl hs rfl rfl rfl d6 rfl (fun b d7 (b6:aD G K (aM 4 K b a.length a::L) d7)=>(aH (v:=zS b a.length a.length) (aG (aI (aL (v:=zS b a.length a.length) (aL (v:=i64 k) ?_))))));obtain ⟨g5,V,hm⟩:=aB hm
 have r:=dD b6 (i:=0) rfl V
 refine aF (eE jG rfl r rfl rfl rfl V) ?_;obtain ⟨d8,b7,hm⟩:=aB hm
 refine iB (i:=0) (t:=0) (ns:=[zB true]) (e':=(true:Bool)) sizeOf4 b6 rfl (zR _) rfl rfl rfl V b7 rfl rfl (eD rfl) rfl (fun cs h=>by cases h;rfl) (fun d9 (e0:aD G K (aM 4 K b a.length d8::L) d9)=>(aG (aJ (aI (aH (v:=zB true) (aG (aQ [] (fun f w=>∃ a0,aFw a0=some R/\f 7=zS b a0.length a.length/\aD G K (aM 4 K b a.length a0::L) w) aK ?_)))))));obtain ⟨g6,e1,ho⟩:=aB hm
 refine bN [0,1] e1 (fun a2 b8 f w=>f 7=zS b a2.length a.length/\f 8=zB b8/\aD G K (aM 4 K b a.length a2::L) w) ?_ ?_
 ·exact ⟨(Eq.trans rfl (congrArg (fun n=>zS b n a.length) (bW b7))),rfl,e0⟩
 ·rintro a2 b8 b9 f g7 hm hr ⟨g8,e2,g9⟩
  unfold pV at hm
  refine aJ (aI (aX e2 (aG ?_)))
  rcases aP hm with ⟨c0,hm⟩|⟨c0,hm⟩
  ·refine aR c0 rfl (aY (aC (aQ [0,1] (fun f w=>∃ u a3,aCy u a3=some b9/\f 7=zS b u.length a.length/\f 8=zB a3/\aD G K (aM 4 K b a.length u::L) w) ?_ ?_)))
   ·rintro f h0 ⟨u,a3,hm,e3,e4,e5⟩
    unfold aCy at hm
    exact aC ⟨_,(zI hm).symm,bZ,e3,e4,e5⟩
   refine aI (aH (v:=zB false) (aG (aI (aH (v:=i64 0) (aG (aQ [0,1] (fun f w=>∃ a5 c1,aFx a5 c1=some b9/\f 7=zS b a5.length a.length/\f 8=zB c1/\aD G K (aM 4 K b a.length a5::L) w) aK ?_))))));obtain ⟨h1,e6,ho⟩:=aB hm
   refine kO [0,1] e6 (fun m a6 o f w=>f 7=zS b m.length a.length/\f 8=zB a6/\f 9=i64 o/\aD G K (aM 4 K b a.length m::L) w) aK ?_
   ·rintro m a6 o c2 f h2 hm hr ⟨x,h4,a8,y⟩
    unfold nE at hm
    refine aJ (aI (aX a8 (aL (v:=dC a1 j) (aF (gP rfl d) (aF (gG (k':=j+3) eX rfl d rfl) (aF (bX (t:=3) lX y d rfl rfl) (aF (bE (len:=t.E.length) cO rfl) (aF (cE rfl rfl) (aG ?_)))))))))
    rcases aP hm with ⟨c3,hm⟩|⟨c3,hm⟩
    ·refine aR c3 rfl (aY (aC (aJ (aQ [0,1,9] (fun f w=>∃ z a9,pU o z a9=some c2/\f 7=zS b z.length a.length/\f 8=zB a9/\aD G K (aM 4 K b a.length z::L) w) ?_ ?_))))
     ·rintro f h5 ⟨z,a9,hm,e7,e8,e9⟩
      unfold pU at hm
      exact aC (aU (aX a8 (aF (cW rfl rfl) (aH (v:=i64 (wr (o+1))) (aG ⟨_,(zI hm).symm,bZ,e7,e8,rfl,e9⟩)))))
     refine aI (aL (v:=dC a1 j) (aF (gP rfl d) (aF (gG (k':=j+3) eX rfl d rfl) (aF (bX (t:=3) lX y d rfl rfl) (aX a8 ?_)))));obtain ⟨c,c4,hm⟩:=aB hm
     refine aF (eC cO rfl h9 rfl rfl rfl c4) ?_;obtain ⟨h7,f0,f1⟩:=bK.el (sz:=3) rfl h9 c4
     cases f1
     refine aF (gQ (t:=0) (vs:=[i64 c.F,i64 c.B,i64 c.To]) nU y f0 rfl rfl rfl) (bH (vs:=[i64 0,i64 0,i64 0]) zeroValue87 y rfl (fun J h8 f2=>(cF (i:=0) (ns:=[i64 c.F,i64 c.B,i64 c.To]) (us:=[i64 c.F,i64 c.B,i64 c.To]) sizeOf87 f2 rfl rfl rfl rfl rfl (eD rfl) rfl rfl (fun f3 (q:aD G K (box J 87 [i64 c.F,i64 c.B,i64 c.To]::aM 4 K b a.length m::L) f3)=>(aG (aJ (bO [0,1,7,8,9,10] (fun f w=>∃ b0,kW m a6 o c b0=some c2/\f 52=zB b0/\aD G K (box J 87 [i64 c.F,i64 c.B,i64 c.To]::aM 4 K b a.length m::L) w) ?_ ?_)))))))
     ·rintro f i0 ⟨b0,hm,f4,c6⟩
      unfold kW at hm
      refine aC ?_
      rcases aP hm with ⟨c7,hm⟩|⟨c7,hm⟩
      ·refine aR c7 f4 (aI (aX x (aF (bM (t':=2) qL rfl rfl) (aF (fF eZ c6 (i:=0) rfl rfl rfl) ?_))));obtain ⟨i1,c9,hm⟩:=aB hm
       refine aF (eE jG rfl r rfl rfl rfl c9) ?_;obtain ⟨d0,d1,hm⟩:=aB hm
       exact iB (i:=1) (t:=0) (ns:=[zB true]) (e':=(true:Bool)) sizeOf4 c6 rfl (zR _) rfl rfl rfl c9 d1 rfl rfl (eD rfl) rfl (fun cs h=>by cases h;rfl) (fun f5 (f6:aD G K (box J 87 [i64 c.F,i64 c.B,i64 c.To]::aM 4 K b a.length d0::L) f5)=>(aG (aU (aH (v:=zB true) (bG (cU (aC ⟨bZ,d0,true,hm,(Eq.trans x (congrArg (fun n=>zS b n a.length) (bW d1))),rfl,(aD.arr 1 [] f6 rfl)⟩)))))))
      ·exact aK
     refine aU (aX x (aF (bM (t':=0) qK rfl rfl) (aF (fF eZ q (i:=0) rfl rfl rfl) ?_)));obtain ⟨f7,d2,hm⟩:=aB hm
     refine aF (eE jG rfl r rfl rfl rfl d2) (aF (uR (t:=0) sc_4 q (i:=1) rfl d2 rfl rfl rfl) (aL (v:=zB f7) ?_))
     rcases aP hm with ⟨l,hm⟩|⟨l,hm⟩
     ·refine gT l rfl rfl (aX x (gT l rfl rfl (aF (bM (t':=2) qL rfl rfl) (gT l rfl rfl (aF (fF eZ q (i:=0) rfl rfl rfl) (gT l rfl rfl ?_))))));obtain ⟨d3,d4,hm⟩:=aB hm
      refine aF (eE jG rfl r rfl rfl rfl d4) (gT l rfl rfl (aF (uR (t:=0) sc_4 q (i:=1) rfl d4 rfl rfl rfl) (gT l rfl rfl (aF (zY rfl) (aF (lE (v:=zB (!d3)) l rfl rfl) (aL (v:=zB (!d3)) ?_))))))
      rcases aP hm with ⟨b1,hm⟩|⟨b1,hm⟩
      ·refine gT b1 rfl rfl (aL (v:=zS a10 p.length c11) (gT b1 rfl rfl ?_));obtain ⟨i2,f8,f9,g0,g1⟩:=aD.lendBp q .head
       obtain ⟨i3,g2,hm⟩:=aB hm
       refine aS (vs:=[dC (some ⟨J,0,none⟩) 0,zS a10 p.length c11]) call102 rfl (pN g2 g0 f9 (d5.mono f8)) ?_
       rintro _ i4 ⟨rfl,g3⟩
       have i5:=g1 _ _ g3
       exact aK
      ·exact aK
     ·exact aK
    ·exact aK
  ·exact aK
end Gv
namespace Gv
open Gv.Hp renaming le_refl→zR
open Go.Value renaming slice→zS,bool→zB,agg→zA
open Option.some renaming inj→zI
open Gv.Hp renaming le_trans→zL
open Go Go.Proofs Go.Proofs.Tryz
set_option maxRecDepth 20000
set_option maxHeartbeats 40000000
variable {G:vF} {K:Hp} {L:List gC} {w:World} {a1 a4 a7 a10 a13:Option Addr} {c2 c5 c8 c11 c14:Nat}
theorem aJY {a:(List Int)} {n:Int} {R:(List Int)} (hm:aBj a n=some R) (hs:aD G K (L) w) (y:bK K a1 c2 a):
  Calls prog 170 ([zS a1 a.length c2,i64 n]:List Value).toArray w (dV fun v w'=>∃ z J,v=zS z R.length J/\aD G K (aM 2 K z J R::L) w'):=by
 refine aO func170 rfl (by kernel_rfl) (by show (2:Nat)<=49;decide) ?_;unfold aBj at hm
 refine aI (aH (v:=zS none 0 0) (aG (aI (dI (Kt:=K) (xs:=([]:List Int)) (cs:=[]) (vs:=[]) bC vG rfl rfl hs rfl (by kernel_rfl) rfl rfl rfl trivial (fun V w5 (d0:aD G K (aM 2 K V 0 ([]:List Int)::L) w5)=>(aH (v:=zS V ([]:List Int).length 0) (aG (aI (aH (v:=zB false) (aG (aJ (aI (aH (v:=i64 0) (aG (aQ [1] (fun f w=>∃ e j k l,yM n e j=some R/\f 5=zS k e.length l/\f 6=zB j/\aD G K (aM 2 K k l e::L) w) ?_ ?_)))))))))))))))
 ·rintro f d1 ⟨e,j,k,l,hm,d2,d3,d4⟩
  unfold yM at hm
  exact aC (qV [] (fun f w=>∃ m a0 a2,yL m=some R/\f 5=zS a0 m.length a2/\aD G K (aM 2 K a0 a2 m::L) w) aK aK)
 obtain ⟨d5,b7,ho⟩:=aB hm
 refine kO [0,1] b7 (fun b o g f w=>∃ c d,f 5=zS c b.length d/\f 6=zB o/\f 7=i64 g/\aD G K (aM 2 K c d b::L) w) aK ?_
 ·rintro b o g a3 f d6 hm hr ⟨c,d,b8,d7,a5,d8⟩
  unfold jB at hm
  refine aJ (aI (aX a5 (aL (v:=zS a1 a.length c2) (aF (bE (len:=a.length) bC rfl) (aF (cE rfl rfl) (aG ?_))))))
  rcases aP hm with ⟨a6,hm⟩|⟨a6,hm⟩
  ·refine aR a6 rfl (aY (aC (aJ (cB (qV [0,1,7] (fun f w=>∃ p a7 a9 b0,oM a g p a7=some a3/\f 5=zS a9 p.length b0/\f 6=zB a7/\aD G K (aM 2 K a9 b0 p::L) w) aK (aJ (bO [0,1,5,6,7] (fun f w=>∃ q,kX a n b o g q=some a3/\f 24=zB q/\aD G K (aM 2 K c d b::L) w) ?_ ?_)))))))
   ·rintro f d9 ⟨q,hm,b9,b1⟩
    unfold kX at hm
    refine aC ?_
    rcases aP hm with ⟨b2,hm⟩|⟨b2,hm⟩
    ·refine aR b2 b9 (aI (aH (v:=zB true) (aG (aI (aL (v:=zS a1 a.length c2) (aX a5 ?_))))));obtain ⟨e0,b3,hm⟩:=aB hm
     refine aF (eC bC rfl y rfl rfl rfl b3) ?_;obtain ⟨e1,c0,c1⟩:=bK.el (sz:=1) rfl y b3
     cases c1
     refine aF (bX (t:=0) eZ b1 c0 rfl rfl) (aL (v:=i64 n) (aF (aBR rfl rfl) (aG ?_)))
     rcases aP hm with ⟨b4,hm⟩|⟨b4,hm⟩
     ·refine aR b4 rfl (aU (aX b8 (aL (v:=i64 n) (dI (Kt:=K) (xs:=([n]:List Int)) (cs:=[i64 n]) (vs:=[(0,i64 n)]) bC vG rfl rfl b1 rfl (by kernel_rfl) rfl rfl rfl ⟨rfl,trivial⟩ (fun c3 c4 (c5:aD G K (aM 2 K c3 1 ([n]:List Int)::aM 2 K c d b::L) c4)=>?_)))));obtain ⟨r,c6,hm⟩:=aB hm
      exact tR (i:=0) bC underlying105 vG rfl rfl c5 rfl (zR _) (zR _) c6 rfl rfl rfl rfl (fun _ h=>h) (fun u x c7 (c8:aD G K (aM 2 K u x r::L) c7)=>(aH (v:=zS u r.length x) (aG ⟨bZ,r,true,u,x,hm,rfl,rfl,c8⟩)))
     ·exact aK
    ·exact aK
   exact aK
  ·exact aK
theorem aCU {t:aW} {b:Nat} {p:(List Int)} {k:Int} {R:(List Int)} (hm:oN t p k=some R) (hs:aD G K (L) w) (c:gE K a1 b (zC t a4 c5 a7 c8)) (h6:bK K a4 c5 t.L) (y:bK K a7 c8 t.E) (a5:bK K a10 c11 p):
  Calls prog 140 ([dC a1 b,zS a10 p.length c11,i64 k]:List Value).toArray w (dV fun v w'=>∃ a6 a8,v=zS a6 R.length a8/\aD G K (aM 2 K a6 a8 R::L) w'):=by
 refine aO func140 rfl (by kernel_rfl) (by show (3:Nat)<=56;decide) ?_;unfold oN at hm
 refine aI (aH (v:=zS none 0 0) (aG (aI (aL (v:=dC a1 b) (aL (v:=zS a10 p.length c11) (aL (v:=i64 k) ?_))))));obtain ⟨d,b9,hm⟩:=aB hm
 refine aS (vs:=[dC a1 b,zS a10 p.length c11,i64 k]) call169 rfl (aDU b9 hs c h6 y a5) ?_
 rintro _ e3 ⟨e,h,rfl,c0⟩
 refine aH (v:=zS e d.length h) (aG (aI (dI (Kt:=K) (xs:=([]:List Int)) (cs:=[]) (vs:=[]) bC vG rfl rfl c0 rfl (by kernel_rfl) rfl rfl rfl trivial (fun a9 c1 (e4:aD G K (aM 2 K a9 0 ([]:List Int)::aM 4 K e h d::L) c1)=>(aH (v:=zS a9 ([]:List Int).length 0) (aG (aJ (aI (aH (v:=i64 0) (aG (aQ [] (fun f w=>∃ z b0 b1,aEx z=some R/\f 8=zS b0 z.length b1/\aD G K (aM 2 K b0 b1 z::L) w) aK ?_)))))))))));obtain ⟨e5,c2,ho⟩:=aB hm
 refine bN [0,1,7] c2 (fun j l f w=>∃ m n,f 8=zS m j.length n/\f 9=i64 l/\aD G K (aM 2 K m n j::aM 4 K e h d::L) w) aK ?_
 ·rintro j l b2 f e6 hm hr ⟨m,n,e7,J,o⟩
  unfold eG at hm
  refine aJ (aI (aX J (aL (v:=dC a1 b) (aF (gP rfl c) (aF (gG (k':=b+3) eX rfl c rfl) (aF (bX (t:=3) lX o c rfl rfl) (aF (bE (len:=t.E.length) cO rfl) (aF (cE rfl rfl) (aG ?_)))))))))
  rcases aP hm with ⟨b3,hm⟩|⟨b3,hm⟩
  ·refine aR b3 rfl (aY (aC (aJ (aQ [0,1,7,9] (fun f w=>∃ q r u,kB l q=some b2/\f 8=zS r q.length u/\aD G K (aM 2 K r u q::aM 4 K e h d::L) w) ?_ ?_))))
   ·rintro f e8 ⟨q,r,u,hm,c3,c4⟩
    unfold kB at hm
    exact aC (aU (aX J (aF (cW rfl rfl) (aH (v:=i64 (wr (l+1))) (aG ⟨_,(zI hm).symm,bZ,r,u,c3,rfl,c4⟩)))))
   refine aI (aL (v:=dC a1 b) (aF (gP rfl c) (aF (gG (k':=b+3) eX rfl c rfl) (aF (bX (t:=3) lX o c rfl rfl) (aX J ?_)))));obtain ⟨a,b4,hm⟩:=aB hm
   refine aF (eC cO rfl y rfl rfl rfl b4) ?_;obtain ⟨e9,c6,c7⟩:=bK.el (sz:=3) rfl y b4
   cases c7
   refine aF (gQ (t:=0) (vs:=[i64 a.F,i64 a.B,i64 a.To]) nU o c6 rfl rfl rfl) (bH (vs:=[i64 0,i64 0,i64 0]) zeroValue87 o rfl (fun V f0 c9=>(cF (i:=0) (ns:=[i64 a.F,i64 a.B,i64 a.To]) (us:=[i64 a.F,i64 a.B,i64 a.To]) sizeOf87 c9 rfl rfl rfl rfl rfl (eD rfl) rfl rfl (fun d0 (x:aD G K (box V 87 [i64 a.F,i64 a.B,i64 a.To]::aM 2 K m n j::aM 4 K e h d::L) d0)=>(aG (aJ (bO [0,1,7,8,9,10] (fun f w=>∃ a0,gX p j l a a0=some b2/\f 41=zB a0/\aD G K (box V 87 [i64 a.F,i64 a.B,i64 a.To]::aM 2 K m n j::aM 4 K e h d::L) w) ?_ ?_)))))))
   ·rintro f f1 ⟨a0,hm,d1,d2⟩
    unfold gX at hm
    refine aC ?_
    rcases aP hm with ⟨b5,hm⟩|⟨b5,hm⟩
    ·refine aR b5 d1 ?_;obtain ⟨d3,f2,f3,b6,f4⟩:=aD.lendBp d2 .head
     refine fO (C:=fun w'=>∃ L',aD G d3 L' w') [(0,0),(1,0),(2,0),(3,0),(4,0),(5,0),(6,0),(7,0),(8,0),(9,0),(10,0),(11,0),(12,1),(13,0)] Tryz_mixed (by kernel_rfl) (fun _ hg=>⟨_,aD.mono b6 hg⟩) (fun f5 d4=>?_)
     have f6:=aD.mono b6 d4
     exact aK
    ·exact aK
   refine aU (aL (v:=zS e d.length h) (aF (bM (t':=0) qK rfl rfl) (aF (fF eZ x (i:=0) rfl rfl rfl) ?_)));obtain ⟨d5,a2,hm⟩:=aB hm
   have d6:=dD x (i:=2) rfl a2
   refine aF (eE jG rfl d6 rfl rfl rfl a2) (aF (uR (t:=0) sc_4 x (i:=2) rfl a2 rfl rfl rfl) (aL (v:=zB d5) ?_))
   rcases aP hm with ⟨a3,hm⟩|⟨a3,hm⟩
   ·refine gT a3 rfl rfl (aL (v:=zS a10 p.length c11) (gT a3 rfl rfl ?_));obtain ⟨f7,d7,d8,d9,e0⟩:=aD.lendBp x .head
    obtain ⟨f8,e1,hm⟩:=aB hm
    refine aS (vs:=[dC (some ⟨V,0,none⟩) 0,zS a10 p.length c11]) call102 rfl (pN e1 d9 d8 (a5.mono d7)) ?_
    rintro _ f9 ⟨rfl,e2⟩
    have g0:=e0 _ _ e2
    exact aK
   ·exact aK
  ·exact aK
theorem aCV {t:aW} {k2:Nat} {p:(List Int)} {e2:Bool} {R:(List Int)} (hm:yN t p e2=some R) (hs:aD G K (L) w) (h3:gE K a1 k2 (zC t a4 c5 a7 c8)) (h6:bK K a4 c5 t.L) (h9:bK K a7 c8 t.E) (a5:bK K a10 c11 p):
  Calls prog 107 ([dC a1 k2,zS a10 p.length c11,zB e2]:List Value).toArray w (dV fun v w'=>∃ e5 e6,v=zS e5 R.length e6/\aD G K (aM 2 K e5 e6 R::L) w'):=by
 refine aO func107 rfl (by kernel_rfl) (by show (3:Nat)<=96;decide) ?_;unfold yN at hm
 refine aI (aH (v:=zS none 0 0) (aG (aI (aL (v:=dC a1 k2) (aL (v:=zS a10 p.length c11) ?_)))));obtain ⟨n,h1,hm⟩:=aB hm
 refine aS (vs:=[dC a1 k2,zS a10 p.length c11]) call104 rfl (wQ h1 hs h3 h6 h9 a5) ?_
 rintro _ n2 ⟨o,q,rfl,h2⟩
 refine aH (v:=zS o n.length q) (aG (aI (dI (Kt:=K) (xs:=([]:List (List Int))) (cs:=[]) (vs:=[]) mA aAU rfl rfl h2 rfl (by kernel_rfl) rfl rfl rfl trivial (fun e7 h4 (n3:aD G K (aM 105 K e7 0 ([]:List (List Int))::aM 4 K o q n::L) h4)=>(aH (v:=zS e7 ([]:List (List Int)).length 0) (aG (aJ (aI (aH (v:=i64 0) (aG (aQ [1] (fun f w=>∃ b e k l,Hp.le K b/\pF p e=some R/\f 8=zS k e.length l/\aD G b (aM 105 b k l e::L) w) ?_ ?_)))))))))))
 ·rintro f n4 ⟨b,e,k,l,b1,hm,e8,h5⟩
  unfold pF at hm
  refine aC (aI (dI (Kt:=K) (xs:=([]:List Int)) (cs:=[]) (vs:=[]) bC vG rfl rfl h5 rfl (by kernel_rfl) rfl rfl rfl trivial (fun e9 h7 (n5:aD G b (aM 2 K e9 0 ([]:List Int)::aM 105 b k l e::L) h7)=>(aH (v:=zS e9 ([]:List Int).length 0) (aG (aI (aH (v:=i64 0) (aG (aJ (aI (aH (v:=i64 0) (aG (aQ [] (fun f w=>∃ c1 f0 f1,aEy c1=some R/\f 11=zS f0 c1.length f1/\aD G b (aM 2 K f0 f1 c1::L) w) aK ?_)))))))))))))
  obtain ⟨n6,h8,ho⟩:=aB hm
  refine kO [1,8] h8 (fun j c2 a3 f w=>∃ r u,f 11=zS r j.length u/\f 12=i64 c2/\f 13=i64 a3/\aD G b (aM 2 K r u j::aM 105 b k l e::L) w) aK ?_
  ·rintro j c2 a3 c3 f n7 hm hr ⟨r,u,n8,n9,b2,o0⟩
   unfold kC at hm
   refine aJ (aI (aX b2 (aL (v:=zS a10 p.length c11) (aF (bE (len:=p.length) bC rfl) (aF (cE rfl rfl) (aG ?_))))))
   rcases aP hm with ⟨f2,hm⟩|⟨f2,hm⟩
   ·refine aR f2 rfl (aY (aC (aJ (aQ [1,8,13] (fun f w=>∃ b3 c4 b4 b5,vU a3 b3 c4=some c3/\f 11=zS b4 b3.length b5/\f 12=i64 c4/\aD G b (aM 2 K b4 b5 b3::aM 105 b k l e::L) w) ?_ ?_))))
    ·rintro f o1 ⟨b3,c4,b4,b5,hm,i0,i1,i2⟩
     unfold vU at hm
     exact aC (aU (aX b2 (aF (cW rfl rfl) (aH (v:=i64 (wr (a3+1))) (aG ⟨_,(zI hm).symm,bZ,b4,b5,i0,i1,rfl,i2⟩)))))
    refine aI (aH (v:=i64 (-1)) (aG (aJ (aI (aH (v:=i64 0) (aG (aQ [1,8,11,12,13] (fun f w=>∃ c6,vW j c2 a3 c6=some c3/\f 14=i64 c6/\aD G b (aM 2 K r u j::aM 105 b k l e::L) w) ?_ ?_)))))))
    ·rintro f o2 ⟨c6,hm,o3,o4⟩
     unfold vW at hm
     exact aC (qV [1,8,11,13] (fun f w=>∃ f3 f4,vV j a3 f3 f4=some c3/\f 12=i64 f3/\f 14=i64 f4/\aD G b (aM 2 K r u j::aM 105 b k l e::L) w) aK aK)
    obtain ⟨o5,i3,ho⟩:=aB hm
    refine bN [1,8,11,12,13] i3 (fun b6 a6 f w=>f 14=i64 b6/\f 15=i64 a6/\aD G b (aM 2 K r u j::aM 105 b k l e::L) w) aK ?_
    ·rintro b6 a6 c7 f o6 hm hr ⟨o7,c9,o8⟩
     unfold lI at hm
     refine aJ (aJ (bO [1,8,11,12,13,14,15] (fun f w=>∃ d0,lH p e j a3 b6 a6 d0=some c7/\f 59=zB d0/\aD G b (aM 2 K r u j::aM 105 b k l e::L) w) ?_ ?_))
     ·rintro f o9 ⟨d0,hm,i4,i5⟩
      unfold lH at hm
      refine aC ?_
      rcases aP hm with ⟨f5,hm⟩|⟨f5,hm⟩
      ·refine aR f5 i4 (aY (aC (aJ (aQ [1,8,11,12,13,15] (fun f w=>∃ d1,oC a6 d1=some c7/\f 14=i64 d1/\aD G b (aM 2 K r u j::aM 105 b k l e::L) w) ?_ ?_))))
       ·rintro f p0 ⟨d1,hm,i6,i7⟩
        unfold oC at hm
        exact aC (aU (aX c9 (aF (cW rfl rfl) (aH (v:=i64 (wr (a6+1))) (aG ⟨_,(zI hm).symm,bZ,i6,rfl,i7⟩)))))
       refine aJ (bO [1,8,11,12,13,14,15] (fun f w=>∃ f6,oD j b6 a6 f6=some c7/\f 81=zB f6/\aD G b (aM 2 K r u j::aM 105 b k l e::L) w) aK ?_);obtain ⟨i8,b7,d2,a,f7⟩:=aD.lendSp i5 (zR _) zt1
       refine rY (C:=fun w'=>aD G i8 (aM 2 K r u j::L) w') Tryz_mixed (by kernel_rfl) (aD.mono a (eP.drew _)) (dB (fun _ a=>bL (v:=zS a10 p.length c11) rfl) (dB (fun _ a=>bL c9) ?_));obtain ⟨i9,f8,hm⟩:=aB hm
       refine dB (fun _ a=>eC bC rfl (a5.mono (zL b1 b7)) rfl rfl rfl f8) ?_;obtain ⟨p1,j0,j1⟩:=bK.el (sz:=1) rfl a5 f8
       cases j1
       refine dB (fun _ a=>bX (t:=0) eZ a (j0.mono (zL b1 b7)) rfl rfl) (dB (fun _ a=>bL (v:=zS a10 p.length c11) rfl) (dB (fun _ a=>bL b2) ?_));obtain ⟨j2,f9,hm⟩:=aB hm
       refine dB (fun _ a=>eC bC rfl (a5.mono (zL b1 b7)) rfl rfl rfl f9) ?_;obtain ⟨p2,j3,j4⟩:=bK.el (sz:=1) rfl a5 f9
       cases j4
       refine dB (fun _ a=>bX (t:=0) eZ a (j3.mono (zL b1 b7)) rfl rfl) (dB (fun _ a=>aKr rfl rfl) (dB (fun _ a=>bL (v:=zB (i9 == j2)) rfl) ?_))
       rcases aP hm with ⟨c,hm⟩|⟨c,hm⟩
       ·refine jZ (g:=71) rfl rfl c (dB (fun _ a=>bL e8) (jZ (g:=71) rfl rfl c (dB (fun _ a=>bL c9) (jZ (g:=71) rfl rfl c ?_))));obtain ⟨j5,d3,hm⟩:=aB hm
        have g0:=aIp d2 d3
        refine dB (fun _ a=>eE mA rfl g0 rfl rfl rfl d3) (jZ (g:=71) rfl rfl c ?_);obtain ⟨p3,j6,j7⟩:=bK.el (sz:=1) rfl d2 d3
        obtain ⟨j8,j9,rfl,k0⟩:=j7
        refine dB (fun _ a=>bX (t:=0) zN a j6 rfl rfl) (jZ (g:=71) rfl rfl c (dB (fun _ a=>bL e8) (jZ (g:=71) rfl rfl c (dB (fun _ a=>bL b2) (jZ (g:=71) rfl rfl c ?_)))));obtain ⟨k1,g1,hm⟩:=aB hm
        refine dB (fun _ a=>eE mA rfl g0 rfl rfl rfl g1) (jZ (g:=71) rfl rfl c ?_);obtain ⟨p4,k3,k4⟩:=bK.el (sz:=1) rfl d2 g1
        obtain ⟨k5,k6,rfl,k7⟩:=k4
        refine dB (fun _ a=>bX (t:=0) zN a k3 rfl rfl) (jZ (g:=71) rfl rfl c ?_);obtain ⟨g2,k8,hm⟩:=aB hm
        refine aLh (vs:=[zS j8 j5.length j9,zS k5 k1.length k6]) (v:=zB g2) call108 rfl (fun _ a=>(aBy k8 a k0 k7)) (dB (fun _ a=>lE (v:=zB g2) c rfl rfl) (zJ (fun p5 k9=>?_)))
        have p6:=f7 _ _ k9
        exact aK
       ·refine jN (g:=71) rfl rfl (wV c) (jN (g:=71) rfl rfl (wV c) (jN (g:=71) rfl rfl (wV c) (jN (g:=71) rfl rfl (wV c) (jN (g:=71) rfl rfl (wV c) (jN (g:=71) rfl rfl (wV c) (jN (g:=71) rfl rfl (wV c) (jN (g:=71) rfl rfl (wV c) (jN (g:=71) rfl rfl (wV c) (dB (fun _ a=>qW (v:=zB false) c rfl rfl) (zJ (fun p7 l0=>?_)))))))))))
        have p8:=f7 _ _ l0
        exact aK
      ·exact aK
     exact aK
   ·exact aK
 obtain ⟨p9,l1,ho⟩:=aB hm
 refine bN [0,1,2,7] l1 (fun m a8 f w=>∃ d x y,Hp.le K d/\f 8=zS x m.length y/\f 9=i64 a8/\aD G d (aM 105 d x y m::aM 4 K o q n::L) w) aK ?_
 ·rintro m a8 g3 f q0 hm hr ⟨d,x,y,z,l2,d4,g4⟩
  unfold jC at hm
  refine aJ (aI (aX d4 (aL (v:=dC a1 k2) (aF (gP rfl (h3.mono z)) (aF (gG (k':=k2+0) mL rfl (h3.mono z) rfl) (aF (bX (t:=0) eZ g4 (h3.mono z) rfl rfl) (aF (cE rfl rfl) (aG ?_))))))))
  rcases aP hm with ⟨g5,hm⟩|⟨g5,hm⟩
  ·refine aR g5 rfl (aY (aC (aJ (cB (aI (aL (v:=dC a1 k2) (aL (v:=zS a10 p.length c11) (aX d4 ?_))))))));obtain ⟨b0,l3,hm⟩:=aB hm
   refine aS (vs:=[dC a1 k2,zS a10 p.length c11,i64 a8]) call140 rfl (aCU l3 g4 (h3.mono z) (h6.mono z) (h9.mono z) (a5.mono z)) ?_
   rintro _ q1 ⟨b8,b9,rfl,q2⟩
   refine aH (v:=zS b8 b0.length b9) (aG (qV [0,1,2,7,8,9] (fun f w=>∃ J V a0,mC m a8 J=some g3/\f 10=zS V J.length a0/\aD G d (aM 2 K V a0 J::aM 105 d x y m::aM 4 K o q n::L) w) ?_ ?_))
   ·rintro f l4 ⟨J,V,a0,hm,l5,l6⟩
    unfold mC at hm
    refine aU (aX l2 (aX l5 ?_))
    have l7:aD G d (rows [2] ([(V,a0)]:List (Dp.Hd (List Int))) [J]::aM 105 d x y m::aM 4 K o q n::L) l4:=aD.rowsOne l6
    refine dI (Kt:=K) (xs:=aZ ([(V,a0)]:List (Dp.Hd (List Int))) ([J]:List (List Int))) (cs:=[zS V J.length a0]) (vs:=[(0,zS V J.length a0)]) mA aAU rfl rfl l7 rfl (by kernel_rfl) rfl rfl rfl ⟨rfl,trivial⟩ ?_
    intro l8 g6 (l9:aD G d (aM 105 K l8 1 (aZ ([(V,a0)]:List (Dp.Hd (List Int))) ([J]:List (List Int)))::rows [2] ([(V,a0)]:List (Dp.Hd (List Int))) ([J]:List (List Int))::aM 105 d x y m::aM 4 K o q n::L) g6)
    obtain ⟨c0,g7,m0,_,d5,_⟩:=aD.lendD' (i:=0) l9 rfl rfl rfl
    replace d5:aD G c0 (aM 105 d x y m::aM 4 K o q n::L) g6:=d5
    obtain ⟨g8,m1,hm⟩:=aB hm
    exact aAQ (i:=0) mA underlying155 aAU rfl rfl d5 rfl g7 m0 m1 rfl rfl rfl rfl (fun d6 d7 m2 (m3:aD G c0 (aM 105 c0 d6 d7 g8::aM 4 K o q n::L) m2)=>(aH (v:=zS d6 g8.length d7) (bG (cU (aC (aU (aX d4 (aF (cW rfl rfl) (aH (v:=i64 (wr (a8+1))) (aG ⟨_,(zI hm).symm,bZ,c0,d6,d7,(zL z g7),rfl,rfl,m3⟩))))))))))
   refine aJ (bO [0,1,2,7,8,9,10] (fun f w=>∃ d8,mD m a8 b0 d8=some g3/\f 38=zB d8/\aD G d (aM 2 K b8 b9 b0::aM 105 d x y m::aM 4 K o q n::L) w) ?_ ?_)
   ·rintro f q3 ⟨d8,hm,m4,m5⟩
    unfold mD at hm
    refine aC ?_
    rcases aP hm with ⟨g9,hm⟩|⟨g9,hm⟩
    ·refine aR g9 m4 (aU (aL (v:=zS b8 b0.length b9) (dI (Kt:=K) (xs:=([(-1)]:List Int)) (cs:=[i64 (-1)]) (vs:=[(0,i64 (-1))]) bC vG rfl rfl m5 rfl (by kernel_rfl) rfl rfl rfl ⟨rfl,trivial⟩ (fun m6 m7 (m8:aD G d (aM 2 K m6 1 ([(-1)]:List Int)::aM 2 K b8 b9 b0::aM 105 d x y m::aM 4 K o q n::L) m7)=>?_))));obtain ⟨d9,m9,hm⟩:=aB hm
     exact tR (i:=0) bC underlying105 vG rfl rfl m8 rfl z z m9 rfl rfl rfl rfl (fun _ h=>h) (fun e0 e1 n0 (n1:aD G d (aM 2 K e0 e1 d9::aM 105 d x y m::aM 4 K o q n::L) n0)=>(aH (v:=zS e0 d9.length e1) (aG ⟨bZ,d9,e0,e1,hm,rfl,n1⟩)))
    ·exact aK
   exact aK
  ·exact aK
theorem aEM {t:aW} {a:Nat} {g:Bool} {R:(List Int)} (hm:aAH t g=some R) (m:aD G K (L) w) (h:gE K a1 a (zC t a4 c5 a7 c8)) (r:bK K a4 c5 t.L) (u:bK K a7 c8 t.E):
  Calls prog 82 ([dC a1 a,zB g]:List Value).toArray w (dV fun v w'=>∃ n o,v=zS n R.length o/\aD G K (aM 2 K n o R::L) w'):=by
 refine aO func82 rfl (by kernel_rfl) (by show (2:Nat)<=21;decide) ?_;unfold aAH at hm
 refine aI (aH (v:=zS none 0 0) (aG (aI (aL (v:=dC a1 a) (aF (gP rfl h) (aF (gG (k':=a+0) mL rfl h rfl) (aF (bX (t:=0) eZ m h rfl rfl) ?_)))))));obtain ⟨i,x,hm⟩:=aB hm
 refine aCD (e:=(0:Int)) bC vG rfl rfl m rfl rfl rfl x rfl (fun p y (b9:aD G K (aM 2 K p i.length i::L) y)=>(aH (v:=zS p i.length i.length) (aG (cB ?_))));obtain ⟨c0,z,ho⟩:=aB hm
 refine cQ [0,1] z (fun b f w=>∃ c d,f 5=zS c b.length d/\aD G K (aM 2 K c d b::L) w) aK ?_
 ·rintro b c1 f c2 hm hr ⟨c,d,q,J⟩
  unfold vX at hm
  refine cB (aI (aL (v:=dC a1 a) (aX q (aL (v:=zB g) ?_))));obtain ⟨c3,j,V,a0,a2⟩:=aD.lendSp J (zR _) .head
  obtain ⟨k,a3,hm⟩:=aB hm
  refine aS (vs:=[dC a1 a,zS c b.length d,zB g]) call107 rfl (aCV a3 a0 (h.mono j) (r.mono j) (u.mono j) V) ?_
  rintro _ c4 ⟨l,c45,rfl,a5⟩
  have a6:=a2 _ _ a5
  refine aH (v:=zS l k.length c45) (aG (aJ (aI (aL (v:=zS l k.length c45) (aX q ?_)))));obtain ⟨c6,a8,a9,b0,b1⟩:=aD.lendSp a6 (zR _) zt1
  obtain ⟨c7,b2,b3,b4,b5⟩:=aD.lendSp b0 a8 .head
  obtain ⟨c9,b6,hm⟩:=aB hm
  refine aS (vs:=[zS l k.length c45,zS c b.length d]) call108 rfl (aBy b6 b4 (a9.mono b2) b3) ?_
  rintro _ d0 ⟨rfl,b7⟩
  have b8:=b5 _ _ b7
  have d1:=b1 _ _ b8
  exact aK
theorem aId {t:aW} {b:Nat} {c:Bool} {R:aW} (hm:aBk t c=some R) (hs:aD G K (L) w) (o:gE K a1 b (zC t a4 c5 a7 c8)) (p:bK K a4 c5 t.L) (q:bK K a7 c8 t.E):
  Calls prog 62 ([dC a1 b,zB c]:List Value).toArray w (dV fun v w'=>∃ r u x y,v=zA (zCa R r u x y)/\aD G K (aM 9 K r u R.L::aM 87 K x y R.E::L) w'):=by
 let j:=zG
 refine aO func62 rfl (by kernel_rfl) (by show (2:Nat)<=14;decide) ?_;unfold aBk at hm
 refine aI (bH (vs:=j) zeroValue68 hs rfl (fun a6 f2 a8=>(aG (aI (aL (v:=dC a1 b) (aL (v:=dC a1 b) ?_))))));obtain ⟨z,a9,hm⟩:=aB hm
 refine aS (vs:=[dC a1 b]) call80 rfl (aDT a9 a8 o p q) ?_
 rintro _ f3 ⟨J,V,rfl,b0⟩
 obtain ⟨f4,k,b1,b2,b3⟩:=aD.lendSp b0 (zR _) .head
 obtain ⟨a,b4,hm⟩:=aB hm
 refine aS (vs:=[dC a1 b,zS J z.length V]) call79 rfl (aEJ b4 b2 (o.mono k) (p.mono k) (q.mono k) b1) ?_
 rintro _ f5 ⟨d,e,g,h,rfl,b5⟩
 have b6:=b3 _ _ b5
 refine bH (vs:=j) zeroValue68 b6 rfl (fun l f6 b7=>(cF (i:=0) (ns:=(zC a d e g h)) (us:=(zC a d e g h)) sizeOf68 b7 rfl rfl rfl rfl rfl (eD rfl) rfl rfl (fun b8 (b9:aD G K (box l 68 (zC a d e g h)::aM 2 K J V z::aM 9 K d e a.L::aM 87 K g h a.E::box a6 68 j::L) b8)=>(aG (aI (aL (v:=zB c) ?_))))));obtain ⟨f7,c0,c1,c2,c3⟩:=aD.lendSp b9 (zR _) zt2
 obtain ⟨f8,c4,c6,c7,c9⟩:=aD.lendSp c2 c0 zt2
 obtain ⟨f9,a0,d0,d1,d2⟩:=aD.lendBp c7 .head
 obtain ⟨d3,d4,hm⟩:=aB hm
 refine aS (vs:=[dC (some ⟨l,0,none⟩) 0,zB c]) call82 rfl (aEM d4 d1 d0 (c1.mono (zL c4 a0)) (c6.mono a0)) ?_
 rintro _ g0 ⟨d5,d6,rfl,d7⟩
 have d8:=d2 _ _ d7
 have d9:=c9 _ _ d8
 have e0:=c3 _ _ d9
 refine aL (v:=zB c) ?_;obtain ⟨g1,a2,e1,e2,g2⟩:=aD.lendSp e0 (zR _) .head
 obtain ⟨g3,a3,e3,e4,g4⟩:=aD.lendSp e2 a2 .head
 obtain ⟨g5,m,e5,e6,g6⟩:=aD.lendBp e4 .head
 obtain ⟨g7,n,e7,e8,e9⟩:=aD.lendSp e6 (zL (zL a2 a3) m) .head
 obtain ⟨g8,f0,hm⟩:=aB hm
 refine aS (vs:=[dC (some ⟨l,0,none⟩) 0,zS d5 d3.length d6,zB c]) call81 rfl (aBx f0 e8 (e5.mono n) (e1.mono (zL (zL a3 m) n)) (e3.mono (zL m n)) e7) ?_
 rintro _ g9 ⟨h0,h1,h2,h4,rfl,f1⟩
 have h5:=e9 _ _ f1
 exact aK
theorem aDV {t:aW} {a:Nat} {kind:Int} {R:aW} (hm:xE t kind=some R) (g:aD G K (L) w) (h:gE K a1 a (zC t a4 c5 a7 c8)) (i:bK K a4 c5 t.L) (j:bK K a7 c8 t.E):
  Calls prog 39 ([dC a1 a,i64 kind]:List Value).toArray w (dV fun v w'=>∃ b c d e,v=zA (zCa R b c d e)/\aD G K (aM 9 K b c R.L::aM 87 K d e R.E::L) w'):=by
 exact aK
theorem aBz {n:bB} {J:Nat} {kind:Int} {R:bB} (hm:tI n kind=some R) (hs:aD G K (L) w) (h3:gE K a1 J [zS a4 n.Parts.length c5,zS a7 n.Meetings.length c8,zS a10 n.Allowed.length c11,zS a13 n.Hidden.length c14]) (h6:bK K a4 c5 n.Parts) (h9:bK K a7 c8 n.Meetings) (e3:bK K a10 c11 n.Allowed) (e4:bK K a13 c14 n.Hidden):
  Calls prog 16 ([dC a1 J,i64 kind]:List Value).toArray w (dV fun v w'=>∃ K' c0 c1 c2 c3 c4 c6 c7 c9,v=zA #[zS c0 R.Parts.length c1,zS c2 R.Meetings.length c3,zS c4 R.Allowed.length c6,zS c7 R.Hidden.length c9]/\Hp.le K K'/\aD G K' (aM 68 K' c0 c1 R.Parts::aM 73 K c2 c3 R.Meetings::aM 9 K c4 c6 R.Allowed::aM 9 K c7 c9 R.Hidden::L) w'):=by
 let p:=[zS none 0 0,zS none 0 0,zS none 0 0,zS none 0 0]
 refine aO func16 rfl (by kernel_rfl) (by show (2:Nat)<=29;decide) ?_;unfold tI at hm
 refine aI (bH (vs:=p) zeroValue31 hs rfl (fun u h0 e5=>(aG (aI (aL (v:=dC a1 J) ?_)))));obtain ⟨a,e6,hm⟩:=aB hm
 refine aS (vs:=[dC a1 J]) call38 rfl (aFD e6 e5 h3 h6 h9 e3 e4) ?_
 rintro _ h1 ⟨a5,b,c,d,e,g,h,j,k,rfl,m,e7⟩
 refine bH (vs:=p) zeroValue31 e7 rfl (fun x h2 e8=>(cF (i:=0) (ns:=[zS b a.Parts.length c,zS d a.Meetings.length e,zS g a.Allowed.length h,zS j a.Hidden.length k]) (us:=[zS b a.Parts.length c,zS d a.Meetings.length e,zS g a.Allowed.length h,zS j a.Hidden.length k]) sizeOf31 e8 rfl rfl rfl rfl rfl (eD rfl) rfl rfl (fun e9 (h4:aD G a5 (box x 31 [zS b a.Parts.length c,zS d a.Meetings.length e,zS g a.Allowed.length h,zS j a.Hidden.length k]::aM 68 a5 b c a.Parts::aM 73 K d e a.Meetings::aM 9 K g h a.Allowed::aM 9 K j k a.Hidden::box u 31 p::L) e9)=>(aG (aJ (aI (aH (v:=i64 0) (aG (aQ [4,5] (fun f w=>∃ y l,Hp.le a5 y/\xF a l=some R/\aD G y (box x 31 [zS b l.length c,zS d a.Meetings.length e,zS g a.Allowed.length h,zS j a.Hidden.length k]::aM 68 y b c l::aM 73 K d e a.Meetings::aM 9 K g h a.Allowed::aM 9 K j k a.Hidden::box u 31 p::L) w) ?_ ?_)))))))))
 ·rintro f h5 ⟨y,l,f0,hm,d0⟩
  unfold xF at hm
  refine aC (aI (aF (gH (us:=[zS b l.length c,zS d a.Meetings.length e,zS g a.Allowed.length h,zS j a.Hidden.length k]) qN d0 (i:=0) rfl rfl rfl rfl) (cF (i:=5) (ns:=[zS b l.length c,zS d a.Meetings.length e,zS g a.Allowed.length h,zS j a.Hidden.length k]) (us:=[zS b l.length c,zS d a.Meetings.length e,zS g a.Allowed.length h,zS j a.Hidden.length k]) sizeOf31 d0 rfl rfl rfl rfl rfl (eD rfl) rfl rfl (fun f1 (d1:aD G y (box x 31 [zS b l.length c,zS d a.Meetings.length e,zS g a.Allowed.length h,zS j a.Hidden.length k]::aM 68 y b c l::aM 73 K d e a.Meetings::aM 9 K g h a.Allowed::aM 9 K j k a.Hidden::box u 31 [zS b l.length c,zS d a.Meetings.length e,zS g a.Allowed.length h,zS j a.Hidden.length k]::L) f1)=>(aG ?_)))))
  obtain rfl:=zI hm
  exact lC (aIn results16 (vI (vs:=[zS b l.length c,zS d a.Meetings.length e,zS g a.Allowed.length h,zS j a.Hidden.length k]) rfl qN d1 (i:=5) rfl rfl rfl) ⟨y,b,c,d,e,g,h,j,k,rfl,(zL m f0),(aD.arr 6 [1,2,3,4] d1 rfl)⟩)
 obtain ⟨h7,f3,ho⟩:=aB hm
 refine bN [0,1,4,5] f3 (fun q a6 f w=>∃ V,Hp.le a5 V/\f 6=i64 a6/\aD G V (box x 31 [zS b q.length c,zS d a.Meetings.length e,zS g a.Allowed.length h,zS j a.Hidden.length k]::aM 68 V b c q::aM 73 K d e a.Meetings::aM 9 K g h a.Allowed::aM 9 K j k a.Hidden::box u 31 p::L) w) aK ?_
 ·rintro q a6 h8 f i0 hm hr ⟨V,o,a8,d2⟩
  unfold iI at hm
  refine aJ (aI (aX a8 (aF (bM (t':=0) vJ rfl rfl) (aF (fF aGm d2 (i:=0) rfl rfl rfl) (aF (bE (len:=q.length) qM rfl) (aF (cE rfl rfl) (aG ?_)))))))
  rcases aP hm with ⟨d3,hm⟩|⟨d3,hm⟩
  ·refine aR d3 rfl (aY (aC (aJ (cB ?_))));obtain ⟨f4,z,f5,d4,f6⟩:=aD.lendBp d2 .head
   refine fO (C:=fun w'=>∃ L',aD G f4 L' w') [(0,0),(1,0),(2,0),(3,0),(4,0),(5,0),(6,0),(7,0),(8,0),(9,0),(10,1),(11,0),(12,2)] Tryz_mixed (by kernel_rfl) (fun _ hg=>⟨_,aD.mono d4 hg⟩) (fun i1 f7=>?_)
   have a2:=aD.mono d4 f7
   refine bS rfl (fun _ _=>bM (t':=0) vJ rfl rfl) (bS rfl (fun _ ⟨_,a2⟩=>bX (t:=0) aGm a2 f5 rfl rfl) (bS rfl (fun _ _=>bL a8) (bS rfl (fun _ _=>bL (v:=dC a1 J) rfl) (bS rfl (fun _ _=>gP rfl (h3.mono (zL (zL m o) z))) (bS rfl (fun _ _=>gG (k':=J+0) vJ rfl (h3.mono (zL (zL m o) z)) rfl) (bS rfl (fun _ ⟨_,a2⟩=>bX (t:=0) aGm a2 (h3.mono (zL (zL m o) z)) rfl rfl) (bS rfl (fun _ _=>bL a8) ?_)))))));obtain ⟨i2,d5,hm⟩:=aB hm
   refine bS rfl (fun _ _=>eC qM rfl (h6.mono (zL (zL m o) z)) rfl rfl rfl d5) ?_;obtain ⟨i3,f8,f9⟩:=bK.el (sz:=4) rfl h6 d5
   obtain ⟨i4,i5,i6,i7,rfl,g0,g1⟩:=f9
   refine bS rfl (fun _ _=>bL (v:=i64 kind) rfl) (qX rfl ?_);obtain ⟨r,g2,hm⟩:=aB hm
   refine aS (vs:=[dC a4 (a6.toNat * 4+0),i64 kind]) call39 rfl (aDV g2 a2 (f8.mono (zL (zL m o) z)) (g0.mono (zL (zL m o) z)) (g1.mono (zL (zL m o) z))) ?_
   rintro _ d6 ⟨d7,d8,b1,b2,rfl,b3⟩
   refine bG (aC ⟨⟨_,b3⟩,?_⟩)
   obtain ⟨i8,b4,hm⟩:=aB hm
   have g3:=dD b3 (i:=2) rfl b4
   refine bS rfl (fun _ _=>eE qM rfl g3 rfl rfl rfl b4) ?_
   have g4:=f6 _ _ b3
   refine WE_s rfl ?_;obtain ⟨g5,b5,g6,b6⟩:=aD.giveSp g4 (zL m o) zt1
   replace b6:aD G g5 (box x 31 [zS b q.length c,zS d a.Meetings.length e,zS g a.Allowed.length h,zS j a.Hidden.length k]::aM 87 K b1 b2 r.E::aM 68 V b c q::aM 73 K d e a.Meetings::aM 9 K g h a.Allowed::aM 9 K j k a.Hidden::box u 31 p::L) d6:=b6
   obtain ⟨a0,b7,g7,b8⟩:=aD.giveSp b6 (zL (zL m o) b5) zt1
   replace b8:aD G a0 (box x 31 [zS b q.length c,zS d a.Meetings.length e,zS g a.Allowed.length h,zS j a.Hidden.length k]::aM 68 V b c q::aM 73 K d e a.Meetings::aM 9 K g h a.Allowed::aM 9 K j k a.Hidden::box u 31 p::L) d6:=b8
   obtain ⟨b9,d9,hm⟩:=aB hm
   refine WO_stE (i:=1) (ns:=(zC r d7 d8 b1 b2)) (e':=(⟨r.N,r.I,r.L,r.E⟩:aW)) sizeOf68 b8 rfl (zL b5 b7) rfl rfl rfl b4 d9 rfl ⟨d7,d8,b1,b2,rfl,(g6.mono b7),g7⟩ (fun e0 (g8:aD G a0 (box x 31 [zS b q.length c,zS d a.Meetings.length e,zS g a.Allowed.length h,zS j a.Hidden.length k]::aM 68 a0 b c b9::aM 73 K d e a.Meetings::aM 9 K g h a.Allowed::aM 9 K j k a.Hidden::box u 31 p::L) e0)=>?_)
   have g9:aD G a0 (box x 31 [zS b b9.length c,zS d a.Meetings.length e,zS g a.Allowed.length h,zS j a.Hidden.length k]::aM 68 a0 b c b9::aM 73 K d e a.Meetings::aM 9 K g h a.Allowed::aM 9 K j k a.Hidden::box u 31 p::L) e0:=by rw [←(bW d9)];exact g8
   exact aG (wY (cU (aC (aU (aX a8 (aF (cW rfl rfl) (aH (v:=i64 (wr (a6+1))) (aG ⟨_,(zI hm).symm,bZ,a0,(zL (zL o b5) b7),rfl,g9⟩))))))))
  ·exact aK
theorem yS {n:bB} {kind:Int} {R:(bB × Int)} (hm:pG n kind=some R) (hs:aD G K (L) w) (J:bK K a1 c2 n.Parts) (V:bK K a4 c5 n.Meetings) (h9:bK K a7 c8 n.Allowed) (a2:bK K a10 c11 n.Hidden):
  Calls prog 5 ([zA #[zS a1 n.Parts.length c2,zS a4 n.Meetings.length c5,zS a7 n.Allowed.length c8,zS a10 n.Hidden.length c11],i64 kind]:List Value).toArray w (dV fun v w'=>∃ r a3 a5 a6 a8 a9 b0 b1 b2,v=Value.tuple #[zA #[zS a3 R.1.Parts.length a5,zS a6 R.1.Meetings.length a8,zS a9 R.1.Allowed.length b0,zS b1 R.1.Hidden.length b2],i64 R.2]/\Hp.le K r/\aD G r (aM 68 r a3 a5 R.1.Parts::aM 73 K a6 a8 R.1.Meetings::aM 9 K a9 b0 R.1.Allowed::aM 9 K b1 b2 R.1.Hidden::L) w'):=by
 let b:=[zS none 0 0,zS none 0 0,zS none 0 0,zS none 0 0]
 let t:=[zS a1 n.Parts.length c2,zS a4 n.Meetings.length c5,zS a7 n.Allowed.length c8,zS a10 n.Hidden.length c11]
 refine aO func5 rfl (by kernel_rfl) (by show (2:Nat)<=15;decide) ?_;unfold pG at hm
 refine aI (eQ (v:=zA #[zS a1 n.Parts.length c2,zS a4 n.Meetings.length c5,zS a7 n.Allowed.length c8,zS a10 n.Hidden.length c11]) (vs:=t) hs rfl rfl (fun o f0 b9=>(bH (vs:=b) zeroValue31 b9 rfl (fun p f1 c0=>(aH (v:=i64 0) (aG (aJ (aI ?_))))))));obtain ⟨f2,q,c1,c3,c4⟩:=aD.lendBp c0 zt1
 obtain ⟨f3,c6,hm⟩:=aB hm
 refine aS (vs:=[dC (some ⟨o,0,none⟩) 0]) call14 rfl (aGG c6 c3 c1 (J.mono q) (V.mono q) (h9.mono q) (a2.mono q)) ?_
 rintro _ f4 ⟨rfl,c7⟩
 have b3:=c4 _ _ c7
 refine aF (zY rfl) (aG ?_)
 rcases aP hm with ⟨u,hm⟩|⟨u,hm⟩
 ·refine aR u rfl (aI (aF (kT (vs:=[]) (cs:=b) aKD rfl (by kernel_rfl)) (cF (i:=1) (ns:=b) (us:=b) sizeOf31 b3 rfl rfl rfl rfl rfl (eD rfl) rfl rfl (fun c9 (d0:aD G K (box o 31 t::box p 31 b::L) c9)=>(aH (v:=i64 1) (aG ?_))))))
  have d1:=aD.nil (α:=aW) d0 68 K
  have d2:=aD.nil (α:=aT) d1 73 K
  have d3:=aD.nil (α:=aV) d2 9 K
  have b4:=aD.nil (α:=aV) d3 9 K
  obtain rfl:=zI hm
  exact lC (jU (aER results5 (vI (vs:=b) rfl qN b4 (i:=5) rfl rfl rfl) (aGT rfl rfl) ⟨K,none,0,none,0,none,0,none,0,rfl,(zR _),(aD.arr 6 [3,2,1,0] b4 rfl)⟩))
 ·refine bF u rfl (aY (aC (aJ (aI (aL (v:=i64 kind) ?_)))));obtain ⟨f5,d5,hm⟩:=aB hm
  refine aS (vs:=[i64 kind]) call15 rfl (aEI d5 b3) ?_
  rintro _ d6 ⟨rfl,b5⟩
  refine aF (zY rfl) (aG ?_)
  rcases aP hm with ⟨x,hm⟩|⟨x,hm⟩
  ·refine aR x rfl (aI (aF (kT (vs:=[]) (cs:=b) aKD rfl (by kernel_rfl)) (cF (i:=1) (ns:=b) (us:=b) sizeOf31 b5 rfl rfl rfl rfl rfl (eD rfl) rfl rfl (fun d7 (d8:aD G K (box o 31 t::box p 31 b::L) d7)=>(aH (v:=i64 2) (aG ?_))))))
   have d9:=aD.nil (α:=aW) d8 68 K
   have e0:=aD.nil (α:=aT) d9 73 K
   have e1:=aD.nil (α:=aV) e0 9 K
   have b6:=aD.nil (α:=aV) e1 9 K
   obtain rfl:=zI hm
   exact lC (jU (aER results5 (vI (vs:=b) rfl qN b6 (i:=5) rfl rfl rfl) (aGT rfl rfl) ⟨K,none,0,none,0,none,0,none,0,rfl,(zR _),(aD.arr 6 [3,2,1,0] b6 rfl)⟩))
  ·refine bF x rfl (aY (aC (aI (aL (v:=i64 kind) ?_))));obtain ⟨e3,m,e4,y,_⟩:=aD.lendBp b5 .head
   replace y:aD G e3 (box p 31 b::L) d6:=y
   obtain ⟨a,e5,hm⟩:=aB hm
   refine aS (vs:=[dC (some ⟨o,0,none⟩) 0,i64 kind]) call16 (lst2 (elp_b rfl) rfl) (aBz e5 y e4 (J.mono m) (V.mono m) (h9.mono m) (a2.mono m)) ?_
   rintro _ f6 ⟨z,c,d,e,g,h,j,k,l,rfl,e6,e7⟩
   refine cF (i:=4) (ns:=[zS c a.Parts.length d,zS e a.Meetings.length g,zS h a.Allowed.length j,zS k a.Hidden.length l]) (us:=[zS c a.Parts.length d,zS e a.Meetings.length g,zS h a.Allowed.length j,zS k a.Hidden.length l]) sizeOf31 e7 rfl rfl rfl rfl rfl (eD rfl) rfl rfl (fun e8 (b7:aD G z (aM 68 z c d a.Parts::aM 73 K e g a.Meetings::aM 9 K h j a.Allowed::aM 9 K k l a.Hidden::box p 31 [zS c a.Parts.length d,zS e a.Meetings.length g,zS h a.Allowed.length j,zS k a.Hidden.length l]::L) e8)=>(aH (v:=i64 0) (aG ?_)))
   obtain rfl:=zI hm
   exact lC (aER results5 (vI (vs:=[zS c a.Parts.length d,zS e a.Meetings.length g,zS h a.Allowed.length j,zS k a.Hidden.length l]) rfl qN b7 (i:=4) rfl rfl rfl) (aGT rfl rfl) ⟨z,c,d,e,g,h,j,k,l,rfl,(zL m e6),(aD.arr 5 [0,1,2,3] b7 rfl)⟩)
theorem aCW {a R:(List aV)} (hm:rF a=some R) (J:aD G K (L) w) (o:bK K a1 c2 a):
  Calls prog 19 ([zS a1 a.length c2]:List Value).toArray w (dV fun v w'=>∃ p q,v=zS p R.length q/\aD G K (aM 9 K p q R::L) w'):=by
 refine aO func19 rfl (by kernel_rfl) (by show (1:Nat)<=22;decide) ?_;unfold rF at hm
 refine aI (aH (v:=zS none 0 0) (aG (aI (aL (v:=zS a1 a.length c2) (aF (bE (len:=a.length) gL rfl) ?_)))));obtain ⟨b,V,hm⟩:=aB hm
 refine aCD (e:=([]:aV)) gL aEo rfl rfl J rfl rfl rfl V rfl (fun c w7 (b0:aD G K (aM 9 K c b.length b::L) w7)=>(aH (v:=zS c b.length b.length) (aG (aJ (aI (aH (v:=i64 0) (aG (aQ [] (fun f w=>∃ g,aEz g=some R/\f 3=zS c g.length b.length/\aD G K (aM 9 K c b.length g::L) w) aK ?_))))))));obtain ⟨b1,a2,ho⟩:=aB hm
 refine bN [0] a2 (fun j k f w=>f 3=zS c j.length b.length/\f 4=i64 k/\aD G K (aM 9 K c b.length j::L) w) aK ?_
 ·rintro j k b2 f b3 hm hr ⟨r,d,l⟩
  unfold vY at hm
  refine aJ (aI (aX d (aL (v:=zS a1 a.length c2) (aF (bE (len:=a.length) gL rfl) (aF (cE rfl rfl) (aG ?_))))))
  rcases aP hm with ⟨u,hm⟩|⟨u,hm⟩
  ·refine aR u rfl (aY (aC (aJ (cB (aU (aX r (aX d (aL (v:=zS a1 a.length c2) (aX d ?_)))))))));obtain ⟨x,y,hm⟩:=aB hm
   refine aF (eC gL rfl o rfl rfl rfl y) ?_;obtain ⟨b4,a3,a4⟩:=bK.el (sz:=1) rfl o y
   cases a4
   refine aF (bX (t:=0) aHb l a3 rfl rfl) ?_;obtain ⟨b5,m,hm⟩:=aB hm
   have a5:=dD l (i:=0) rfl m
   refine aF (eE gL rfl a5 rfl rfl rfl m) ?_;obtain ⟨a7,z,hm⟩:=aB hm
   exact iB (i:=0) (t:=0) (ns:=[str x]) (e':=(x:aV)) sizeOf9 l rfl (zR _) rfl rfl rfl m z rfl rfl (eD rfl) rfl (fun cs h=>by cases h;rfl) (fun a8 (a9:aD G K (aM 9 K c b.length a7::L) a8)=>(bG (cU (aC (aU (aX d (aF (cW rfl rfl) (aH (v:=i64 (wr (k+1))) (aG ⟨_,(zI hm).symm,bZ,(Eq.trans r (congrArg (fun n=>zS c n b.length) (bW z))),rfl,a9⟩)))))))))
  ·exact aK
theorem aFE {a R:Edge} (hm:aIU a=some R) (b:aD G K (L) w):
  Calls prog 83 ([zA #[i64 a.F,i64 a.B,i64 a.To]]:List Value).toArray w (dV fun v w'=>v=zA #[i64 R.F,i64 R.B,i64 R.To]/\aD G K (L) w'):=by
 exact aK
theorem aJd {a R:(List Edge)} (hm:aCP a=some R) (hs:aD G K (L) w) (p:bK K a1 c2 a):
  Calls prog 63 ([zS a1 a.length c2]:List Value).toArray w (dV fun v w'=>∃ q r,v=zS q R.length r/\aD G K (aM 87 K q r R::L) w'):=by
 refine aO func63 rfl (by kernel_rfl) (by show (1:Nat)<=23;decide) ?_;unfold aCP at hm
 refine aI (aH (v:=zS none 0 0) (aG (aI (aL (v:=zS a1 a.length c2) (aF (bE (len:=a.length) sl_56 rfl) ?_)))));obtain ⟨b,q5,hm⟩:=aB hm
 refine aCD (e:=(⟨0,0,0⟩:Edge)) cO aAb rfl rfl hs rfl rfl rfl q5 rfl (fun c w7 (b3:aD G K (aM 87 K c b.length b::L) w7)=>(aH (v:=zS c b.length b.length) (aG (aJ (aI (aH (v:=i64 0) (aG (aQ [] (fun f w=>∃ k,aGz k=some R/\f 3=zS c k.length b.length/\aD G K (aM 87 K c b.length k::L) w) aK ?_))))))));obtain ⟨b4,a4,ho⟩:=aB hm
 refine bN [0] a4 (fun l m f w=>f 3=zS c l.length b.length/\f 4=i64 m/\aD G K (aM 87 K c b.length l::L) w) aK ?_
 ·rintro l m b5 f b6 hm hr ⟨u,j,x⟩
  unfold aAx at hm
  refine aJ (aI (aX j (aL (v:=zS a1 a.length c2) (aF (bE (len:=a.length) sl_56 rfl) (aF (cE rfl rfl) (aG ?_))))))
  rcases aP hm with ⟨y,hm⟩|⟨y,hm⟩
  ·refine aR y rfl (aY (aC (aJ (cB (aU (aX u (aX j (aL (v:=zS a1 a.length c2) (aX j ?_)))))))));obtain ⟨d,z,hm⟩:=aB hm
   refine aF (eC sl_56 rfl p rfl rfl rfl z) ?_;obtain ⟨b7,a5,a7⟩:=bK.el (sz:=3) rfl p z
   cases a7
   refine aF (gQ (t:=0) (vs:=[i64 d.F,i64 d.B,i64 d.To]) ag_110 x a5 rfl rfl rfl) ?_;obtain ⟨g,a8,hm⟩:=aB hm
   refine aS (vs:=[zA #[i64 d.F,i64 d.B,i64 d.To]]) call83 rfl (aFE a8 x) ?_
   rintro _ b8 ⟨rfl,J⟩
   obtain ⟨b9,o,hm⟩:=aB hm
   have a9:=dD J (i:=0) rfl o
   refine aF (eE cO rfl a9 rfl rfl rfl o) ?_;obtain ⟨b0,V,hm⟩:=aB hm
   exact iB (i:=0) (t:=0) (ns:=[i64 g.F,i64 g.B,i64 g.To]) (e':=(⟨g.F,g.B,g.To⟩:Edge)) sizeOf87 J rfl (zR _) rfl rfl rfl o V rfl rfl (eD rfl) rfl (fun cs h=>by cases h;rfl) (fun b1 (b2:aD G K (aM 87 K c b.length b0::L) b1)=>(bG (cU (aC (aU (aX j (aF (cW rfl rfl) (aH (v:=i64 (wr (m+1))) (aG ⟨_,(zI hm).symm,bZ,(Eq.trans u (congrArg (fun n=>zS c n b.length) (bW V))),rfl,b2⟩)))))))))
  ·exact aK
theorem aGH {a R:aW} (hm:aIu a=some R) (g:aD G K (L) w) (h:bK K a1 c2 a.L) (i:bK K a4 c5 a.E):
  Calls prog 40 ([zA (zCa a a1 c2 a4 c5)]:List Value).toArray w (dV fun v w'=>∃ b c d e,v=zA (zCa R b c d e)/\aD G K (aM 9 K b c R.L::aM 87 K d e R.E::L) w'):=by
 exact aK
theorem aFF {a R:(List aW)} (hm:aEA a=some R) (hs:aD G K (L) w) (z:bK K a1 c2 a):
  Calls prog 17 ([zS a1 a.length c2]:List Value).toArray w (dV fun v w'=>∃ J V r,v=zS J R.length V/\List.length r=List.length R/\aD G K (aM 68 K J V (aZ r R)::rows [9,87] r R::L) w'):=by
 refine aO func17 rfl (by kernel_rfl) (by show (1:Nat)<=23;decide) ?_;unfold aEA at hm
 refine aI (aH (v:=zS none 0 0) (aG (aI (aL (v:=zS a1 a.length c2) (aF (bE (len:=a.length) sl_22 rfl) ?_)))));obtain ⟨b,q5,hm⟩:=aB hm
 refine WO_mkD (tys:=[9,87]) (hd:=(((none,0),(none,0)):Dp.Hd aW)) qM aIQ rfl rfl hs rfl rfl rfl q5 rfl (aMp _) ?_
 intro d w7 (b6:aD G K (aM 68 K d b.length (aZ (List.replicate (a.length:Int).toNat (((none,0),(none,0)):Dp.Hd aW)) b)::rows [9,87] (List.replicate (a.length:Int).toNat (((none,0),(none,0)):Dp.Hd aW)) b::L) w7)
 refine aH (v:=zS d b.length b.length) (aG (aJ (aI (aH (v:=i64 0) (aG (aQ [] (fun f w=>∃ m u,aHE m=some R/\f 3=zS d m.length b.length/\List.length u=List.length m/\aD G K (aM 68 K d b.length (aZ u m)::rows [9,87] u m::L) w) aK ?_))))));obtain ⟨c9,b7,ho⟩:=aB hm
 refine bN [0] b7 (fun g i32 f w=>∃ c,f 3=zS d g.length b.length/\f 4=i64 i32/\List.length c=List.length g/\aD G K (aM 68 K d b.length (aZ c g)::rows [9,87] c g::L) w) ?_ ?_
 ·exact ⟨(List.replicate (a.length:Int).toNat (((none,0),(none,0)):Dp.Hd aW)),rfl,rfl,(aKz (hd:=(((none,0),(none,0)):Dp.Hd aW)) q5).2.1,b6⟩
 ·rintro g i32 d0 f d1 hm hr ⟨c,a2,o,p,a3⟩
  unfold aCf at hm
  refine aJ (aI (aX o (aL (v:=zS a1 a.length c2) (aF (bE (len:=a.length) sl_22 rfl) (aF (cE rfl rfl) (aG ?_))))))
  rcases aP hm with ⟨a4,hm⟩|⟨a4,hm⟩
  ·refine aR a4 rfl (aY (aC (aJ (cB (aU (aX a2 (aX o (aL (v:=zS a1 a.length c2) (aX o ?_)))))))));obtain ⟨e,a5,hm⟩:=aB hm
   refine aF (eC sl_22 rfl z rfl rfl rfl a5) ?_;obtain ⟨d2,b8,b9⟩:=bK.el (sz:=4) rfl z a5
   obtain ⟨a7,a8,a9,b0,rfl,c0,c1⟩:=b9
   refine aF (gQ (t:=0) (vs:=(zC e a7 a8 a9 b0)) ag_58 a3 b8 rfl rfl rfl) ?_;obtain ⟨x,c3,hm⟩:=aB hm
   refine aS (vs:=[zA (zCa e a7 a8 a9 b0)]) call40 rfl (aGH c3 a3 c0 c1) ?_
   rintro _ c4 ⟨h,j,k,l,rfl,b1⟩
   obtain ⟨d3,q,hm⟩:=aB hm
   obtain ⟨⟨⟨d4,d5⟩,⟨d6,d7⟩⟩,b2⟩:=aLm p q
   have c5:=dD b1 (i:=2) rfl (sX p q b2)
   refine aF (eE qM rfl c5 rfl rfl rfl q) ?_
   have c6:aD G K (aM 9 K h j x.L::aM 87 K k l x.E::aM 68 K d b.length (aZ c g)::rows [9,87] c g::L) c4:=b1
   obtain ⟨b3,y,hm⟩:=aB hm
   refine WO_stD (i:=0) (tys:=[9,87]) (hd':=(((h,j),(k,l)):Dp.Hd aW)) (e':=(x:aW)) (hds:=c) sizeOf68 c6 p rfl rfl rfl rfl rfl q b2 y rfl ?_
   intro c7 (c8:aD G K (aM 68 K d b.length (aZ (List.set c i32.toNat ((h,j),(k,l))) b3)::rows [9,87] (List.set c i32.toNat ((h,j),(k,l))) b3::L) c7)
   exact bG (cU (aC (aU (aX o (aF (cW rfl rfl) (aH (v:=i64 (wr (i32+1))) (aG ⟨_,(zI hm).symm,bZ,(List.set c i32.toNat ((h,j),(k,l))),(Eq.trans a2 (congrArg (fun n=>zS d n b.length) (bW y))),rfl,(set_len (hd:=(((h,j),(k,l)):Dp.Hd aW)) p y),c8⟩)))))))
  ·exact aK
theorem aCX {a R:aT} (hm:aEB a=some R) (b:aD G K (L) w):
  Calls prog 41 ([zA #[str a.Left,str a.Right,str a.Result]]:List Value).toArray w (dV fun v w'=>v=zA #[str R.Left,str R.Right,str R.Result]/\aD G K (L) w'):=by
 exact aK
theorem aCl {a R:(List aT)} (hm:vZ a=some R) (hs:aD G K (L) w) (p:bK K a1 c2 a):
  Calls prog 18 ([zS a1 a.length c2]:List Value).toArray w (dV fun v w'=>∃ q r,v=zS q R.length r/\aD G K (aM 73 K q r R::L) w'):=by
 refine aO func18 rfl (by kernel_rfl) (by show (1:Nat)<=23;decide) ?_;unfold vZ at hm
 refine aI (aH (v:=zS none 0 0) (aG (aI (aL (v:=zS a1 a.length c2) (aF (bE (len:=a.length) sl_23 rfl) ?_)))));obtain ⟨b,q5,hm⟩:=aB hm
 refine aCD (e:=(⟨[],[],[]⟩:aT)) sV aKE rfl rfl hs rfl rfl rfl q5 rfl (fun c w7 (b3:aD G K (aM 73 K c b.length b::L) w7)=>(aH (v:=zS c b.length b.length) (aG (aJ (aI (aH (v:=i64 0) (aG (aQ [] (fun f w=>∃ k,aDO k=some R/\f 3=zS c k.length b.length/\aD G K (aM 73 K c b.length k::L) w) aK ?_))))))));obtain ⟨b4,a4,ho⟩:=aB hm
 refine bN [0] a4 (fun l m f w=>f 3=zS c l.length b.length/\f 4=i64 m/\aD G K (aM 73 K c b.length l::L) w) aK ?_
 ·rintro l m b5 f b6 hm hr ⟨u,j,x⟩
  unfold tW at hm
  refine aJ (aI (aX j (aL (v:=zS a1 a.length c2) (aF (bE (len:=a.length) sl_23 rfl) (aF (cE rfl rfl) (aG ?_))))))
  rcases aP hm with ⟨y,hm⟩|⟨y,hm⟩
  ·refine aR y rfl (aY (aC (aJ (cB (aU (aX u (aX j (aL (v:=zS a1 a.length c2) (aX j ?_)))))))));obtain ⟨d,z,hm⟩:=aB hm
   refine aF (eC sl_23 rfl p rfl rfl rfl z) ?_;obtain ⟨b7,a5,a7⟩:=bK.el (sz:=3) rfl p z
   cases a7
   refine aF (gQ (t:=0) (vs:=[str d.Left,str d.Right,str d.Result]) ag_61 x a5 rfl rfl rfl) ?_;obtain ⟨g,a8,hm⟩:=aB hm
   refine aS (vs:=[zA #[str d.Left,str d.Right,str d.Result]]) call41 rfl (aCX a8 x) ?_
   rintro _ b8 ⟨rfl,J⟩
   obtain ⟨b9,o,hm⟩:=aB hm
   have a9:=dD J (i:=0) rfl o
   refine aF (eE sV rfl a9 rfl rfl rfl o) ?_;obtain ⟨b0,V,hm⟩:=aB hm
   exact iB (i:=0) (t:=0) (ns:=[str g.Left,str g.Right,str g.Result]) (e':=(⟨g.Left,g.Right,g.Result⟩:aT)) sizeOf73 J rfl (zR _) rfl rfl rfl o V rfl rfl (eD rfl) rfl (fun cs h=>by cases h;rfl) (fun b1 (b2:aD G K (aM 73 K c b.length b0::L) b1)=>(bG (cU (aC (aU (aX j (aF (cW rfl rfl) (aH (v:=i64 (wr (m+1))) (aG ⟨_,(zI hm).symm,bZ,(Eq.trans u (congrArg (fun n=>zS c n b.length) (bW V))),rfl,b2⟩)))))))))
  ·exact aK
theorem oE {a R:bB} (hm:oO a=some R) (hs:aD G K (L) w) (h3:bK K a1 c2 a.Parts) (h6:bK K a4 c5 a.Meetings) (h9:bK K a7 c8 a.Allowed) (b8:bK K a10 c11 a.Hidden):
  Calls prog 6 ([zA #[zS a1 a.Parts.length c2,zS a4 a.Meetings.length c5,zS a7 a.Allowed.length c8,zS a10 a.Hidden.length c11]]:List Value).toArray w (dV fun v w'=>∃ n o l p q r t u x,v=zA #[zS n R.Parts.length o,zS p R.Meetings.length q,zS r R.Allowed.length t,zS u R.Hidden.length x]/\List.length l=List.length R.Parts/\aD G K (aM 68 K n o (aZ l R.Parts)::rows [9,87] l R.Parts::aM 73 K p q R.Meetings::aM 9 K r t R.Allowed::aM 9 K u x R.Hidden::L) w'):=by
 let m:=[zS a1 a.Parts.length c2,zS a4 a.Meetings.length c5,zS a7 a.Allowed.length c8,zS a10 a.Hidden.length c11]
 let e:=[zS none 0 0,zS none 0 0,zS none 0 0,zS none 0 0]
 refine aO func6 rfl (by kernel_rfl) (by show (1:Nat)<=21;decide) ?_;unfold oO at hm
 refine aI (eQ (v:=zA #[zS a1 a.Parts.length c2,zS a4 a.Meetings.length c5,zS a7 a.Allowed.length c8,zS a10 a.Hidden.length c11]) (vs:=m) hs rfl rfl (fun y b9 a9=>(bH (vs:=e) zeroValue31 a9 rfl (fun z c0 b0=>(aG (aI (bH (vs:=e) zeroValue31 b0 rfl (fun J c1 V=>(aG (aI (aF (bM (t':=0) fa_26_0 rfl rfl) (aF (fF sc_22 V (i:=2) rfl rfl rfl) ?_))))))))))));obtain ⟨b,b1,hm⟩:=aB hm
 refine aS (vs:=[zS a1 a.Parts.length c2]) call17 rfl (aFF b1 V h3) ?_
 rintro _ c3 ⟨c,d,g,rfl,c4,b2⟩
 refine aF (bM (t':=0) vJ rfl rfl) (cF (i:=2) (ns:=[zS c b.length d]) (us:=[zS c b.length d,zS none 0 0,zS none 0 0,zS none 0 0]) sizeOf28 b2 rfl rfl rfl rfl rfl (eD rfl) rfl rfl (fun b3 (a0:aD G K (aM 68 K c d (aZ g b)::rows [9,87] g b::box J 31 [zS c b.length d,zS none 0 0,zS none 0 0,zS none 0 0]::box z 31 e::box y 26 m::L) b3)=>(aG (aI (aF (bM (t':=1) fa_26_1 rfl rfl) (aF (fF sc_23 a0 (i:=4) rfl rfl rfl) ?_))))))
 obtain ⟨h,b4,hm⟩:=aB hm
 refine aS (vs:=[zS a4 a.Meetings.length c5]) call18 rfl (aCl b4 a0 h6) ?_
 rintro _ c6 ⟨j,k,rfl,b5⟩
 refine aF (bM (t':=1) aEW rfl rfl) (cF (i:=3) (ns:=[zS j h.length k]) (us:=[zS c b.length d,zS j h.length k,zS none 0 0,zS none 0 0]) sizeOf29 b5 rfl rfl rfl rfl rfl (eD rfl) rfl rfl (fun b6 (a2:aD G K (aM 73 K j k h::aM 68 K c d (aZ g b)::rows [9,87] g b::box J 31 [zS c b.length d,zS j h.length k,zS none 0 0,zS none 0 0]::box z 31 e::box y 26 m::L) b6)=>(aG (aI (aF (bM (t':=2) fa_26_2 rfl rfl) (aF (fF aBU a2 (i:=5) rfl rfl rfl) ?_))))))
 obtain ⟨c7,b7,hm⟩:=aB hm
 exact aS (vs:=[zS a7 a.Allowed.length c8]) call19 rfl (aCW b7 a2 h9) aK
theorem aFT {t:aW} {k:Int} {R:Bool} (hm:pW t k=some R) (a:aD G K (L) w) (b:bK K a1 c2 t.L) (c:bK K a4 c5 t.E):
  Calls prog 65 ([zA (zCa t a1 c2 a4 c5),i64 k]:List Value).toArray w (dV fun v w'=>v=zB R/\aD G K (L) w'):=by
 exact aK
theorem aLx {i many:Int} {R:Bool} (hm:aIv i many=some R) (a:aD G K (L) w):
  Calls prog 67 ([i64 i,i64 many]:List Value).toArray w (dV fun v w'=>v=zB R/\aD G K (L) w'):=by
 exact aK
end Gv
