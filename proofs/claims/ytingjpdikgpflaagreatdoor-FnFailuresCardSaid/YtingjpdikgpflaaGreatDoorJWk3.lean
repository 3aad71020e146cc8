/- Walks, printed by program. -/
import Derived.Test.YtingjpdikgpflaaGreatDoorJWk1
set_option linter.all false
namespace Gv
open Go.Value renaming slice→zS,bool→zB
open Option.some renaming inj→zI
open Gv.Hp renaming le_trans→zL,le_refl→zR
open Go Go.Proofs Go.Proofs.Tryz
set_option maxRecDepth 20000
set_option maxHeartbeats 40000000
variable {G:qN} {K:Hp} {L:List gH} {w:World} {a1 a4 a7 a10:Option Addr} {c5 c8 c11 c2:Nat}
theorem aGl {t:cI} {m:Nat} {p:(List Int)} {k:Int} {R:(List Bool)} (hm:aDW t p k=some R) (hs:aJ G K (L) w) (j:eY K a1 m (zC t a4 c5 a7 c8)) (h6:cF K a4 c5 t.L) (h9:cF K a7 c8 t.E) (e0:cF K a10 c11 p):
  Calls prog 170 ([cS a1 m,zS a10 p.length c11,i64 k]:List Value).toArray w (eH fun v w'=>∃ c0 c1,v=zS c0 R.length c1/\aJ G K (aN 4 K c0 c1 R::L) w'):=by
 refine aS func170 rfl (by kernel_rfl) (by show (3:Nat)<=58;decide) ?_;unfold aDW at hm
 refine aK (aD (v:=zS none 0 0) (aG (aK (aF (v:=cS a1 m) (aC (cM rfl j) (aC (bU (k':=m+0) fW rfl j rfl) (aC (bG (t:=0) cQ hs j rfl rfl) ?_)))))));obtain ⟨a,e1,hm⟩:=aB hm
 refine aDh (e:=(false:Bool)) eM ez_4 rfl rfl hs rfl rfl rfl e1 rfl (fun b e2 (c2:aJ G K (aN 4 K b a.length a::L) e2)=>(aD (v:=zS b a.length a.length) (aG (aK (aF (v:=zS b a.length a.length) (aF (v:=i64 k) ?_))))));obtain ⟨i1,a8,hm⟩:=aB hm
 have a0:=cX c2 (i:=0) rfl a8
 refine aC (dD eM rfl a0 rfl rfl rfl a8) ?_;obtain ⟨e3,c3,hm⟩:=aB hm
 refine jL (i:=0) (t:=0) (ns:=[zB true]) (e':=(true:Bool)) sizeOf4 c2 rfl (zR _) rfl rfl rfl a8 c3 rfl rfl (cY rfl) rfl (fun cs h=>by cases h;rfl) (fun e4 (e5:aJ G K (aN 4 K b a.length e3::L) e4)=>(aG (aO (aK (aD (v:=zB true) (aG (aW [] (fun f w=>∃ x,tS x=some R/\f 7=zS b x.length a.length/\aJ G K (aN 4 K b a.length x::L) w) ?_ ?_)))))))
 ·rintro f i2 ⟨x,hm,e6,e7⟩
  unfold tS at hm
  refine aA (aK (aY e6 (aD (v:=zS b x.length a.length) (aG ?_))));obtain rfl:=zI hm
  exact bH (bI results170 rfl ⟨b,a.length,rfl,e7⟩)
 obtain ⟨i3,e9,ho⟩:=aB hm
 refine cJ [0,1] e9 (fun y c4 f w=>f 7=zS b y.length a.length/\f 8=zB c4/\aJ G K (aN 4 K b a.length y::L) w) ?_ ?_
 ·exact ⟨(Eq.trans rfl (congrArg (fun n=>zS b n a.length) (iM c3))),rfl,e5⟩
 ·rintro y c4 a9 f i4 hm hr ⟨c6,f0,c7⟩
  unfold aDq at hm
  refine aO (aK (aY f0 (aG ?_)))
  rcases aH hm with ⟨b0,hm⟩|⟨b0,hm⟩
  ·refine aL b0 rfl (aU (aA (aW [0,1] (fun f w=>∃ a2 b1,aAm a2 b1=some a9/\f 7=zS b a2.length a.length/\f 8=zB b1/\aJ G K (aN 4 K b a.length a2::L) w) ?_ ?_)))
   ·rintro f i5 ⟨a2,b1,hm,f1,f2,f3⟩
    unfold aAm at hm
    exact aA ⟨_,(zI hm).symm,aM,f1,f2,f3⟩
   refine aK (aD (v:=zB false) (aG (aK (aD (v:=i64 0) (aG (aW [0,1] (fun f w=>∃ z a3,tT z a3=some a9/\f 7=zS b z.length a.length/\f 8=zB a3/\aJ G K (aN 4 K b a.length z::L) w) ?_ ?_))))))
   ·rintro f i6 ⟨z,a3,hm,f4,f5,f6⟩
    unfold tT at hm
    exact aX (aA ⟨aM,z,a3,hm,f4,f5,f6⟩)
   obtain ⟨i7,f7,ho⟩:=aB hm
   refine jO [0,1] f7 (fun l r V f w=>f 7=zS b l.length a.length/\f 8=zB r/\f 9=i64 V/\aJ G K (aN 4 K b a.length l::L) w) ?_ ?_
   ·exact ⟨c6,rfl,rfl,c7⟩
   ·rintro l r V c9 f i8 hm hr ⟨u,d0,b2,Z⟩
    unfold aDp at hm
    refine aO (aK (aY b2 (aF (v:=cS a1 m) (aC (cM rfl j) (aC (bU (k':=m+3) cU rfl j rfl) (aC (bG (t:=3) eS Z j rfl rfl) (aC (bO (len:=t.E.length) cL rfl) (aC (cG rfl rfl) (aG ?_)))))))))
    rcases aH hm with ⟨b3,hm⟩|⟨b3,hm⟩
    ·refine aL b3 rfl (aU (aA (aO (aW [0,1,9] (fun f w=>∃ a5 b4,tU V a5 b4=some c9/\f 7=zS b a5.length a.length/\f 8=zB b4/\aJ G K (aN 4 K b a.length a5::L) w) ?_ ?_))))
     ·rintro f i9 ⟨a5,b4,hm,f8,f9,g0⟩
      unfold tU at hm
      exact aA (aP (aY b2 (aC (cE rfl rfl) (aD (v:=i64 (wr (V+1))) (aG ⟨_,(zI hm).symm,aM,f8,f9,rfl,g0⟩)))))
     refine aK (aF (v:=cS a1 m) (aC (cM rfl j) (aC (bU (k':=m+3) cU rfl j rfl) (aC (bG (t:=3) eS Z j rfl rfl) (aY b2 ?_)))));obtain ⟨c,d1,hm⟩:=aB hm
     refine aC (cT cL rfl h9 rfl rfl rfl d1) ?_;obtain ⟨j0,g1,g2⟩:=cF.el (sz:=3) rfl h9 d1
     cases g2
     refine aC (eI (t:=0) (vs:=[i64 c.F,i64 c.B,i64 c.To]) kD Z g1 rfl rfl rfl) (bZ (vs:=[i64 0,i64 0,i64 0]) zeroValue66 Z rfl (fun a6 j1 g3=>(cA (i:=0) (ns:=[i64 c.F,i64 c.B,i64 c.To]) (us:=[i64 c.F,i64 c.B,i64 c.To]) sizeOf66 g3 rfl rfl rfl rfl rfl (cY rfl) rfl rfl (fun g4 (o:aJ G K (box a6 66 [i64 c.F,i64 c.B,i64 c.To]::aN 4 K b a.length l::L) g4)=>(aG (aO (cP [0,1,7,8,9,10] (fun f w=>∃ b5,oW l r V c b5=some c9/\f 52=zB b5/\aJ G K (box a6 66 [i64 c.F,i64 c.B,i64 c.To]::aN 4 K b a.length l::L) w) ?_ ?_)))))))
     ·rintro f j2 ⟨b5,hm,d2,b6⟩
      unfold oW at hm
      refine aA ?_
      rcases aH hm with ⟨b7,hm⟩|⟨b7,hm⟩
      ·refine aL b7 d2 (aK (aY u (aC (bT (t':=2) gD rfl rfl) (aC (dC cQ b6 (i:=0) rfl rfl rfl) ?_))));obtain ⟨j3,d3,hm⟩:=aB hm
       refine aC (dD eM rfl a0 rfl rfl rfl d3) ?_;obtain ⟨d4,d5,hm⟩:=aB hm
       exact jL (i:=1) (t:=0) (ns:=[zB true]) (e':=(true:Bool)) sizeOf4 b6 rfl (zR _) rfl rfl rfl d3 d5 rfl rfl (cY rfl) rfl (fun cs h=>by cases h;rfl) (fun g5 (g6:aJ G K (box a6 66 [i64 c.F,i64 c.B,i64 c.To]::aN 4 K b a.length d4::L) g5)=>(aG (aP (aD (v:=zB true) (bB (aX (aA ⟨aM,d4,true,hm,(Eq.trans u (congrArg (fun n=>zS b n a.length) (iM d5))),rfl,(aJ.arr 1 [] g6 rfl)⟩)))))))
      ·exact aI b7 d2 (aU (aX (aA ⟨aM,l,r,hm,u,d0,(aJ.arr 1 [] b6 rfl)⟩)))
     refine aP (aY u (aC (bT (t':=0) gP rfl rfl) (aC (dC cQ o (i:=0) rfl rfl rfl) ?_)));obtain ⟨g7,d6,hm⟩:=aB hm
     refine aC (dD eM rfl a0 rfl rfl rfl d6) (aC (gX (t:=0) aAU o (i:=1) rfl d6 rfl rfl rfl) (aF (v:=zB g7) ?_))
     rcases aH hm with ⟨d,hm⟩|⟨d,hm⟩
     ·refine bF d rfl rfl (aY u (bF d rfl rfl (aC (bT (t':=2) gD rfl rfl) (bF d rfl rfl (aC (dC cQ o (i:=0) rfl rfl rfl) (bF d rfl rfl ?_))))));obtain ⟨d7,d8,hm⟩:=aB hm
      refine aC (dD eM rfl a0 rfl rfl rfl d8) (bF d rfl rfl (aC (gX (t:=0) aAU o (i:=1) rfl d8 rfl rfl rfl) (bF d rfl rfl (aC (dE rfl) (aC (bL (v:=zB (!d7)) d rfl rfl) (aF (v:=zB (!d7)) ?_))))))
      rcases aH hm with ⟨q,hm⟩|⟨q,hm⟩
      ·refine bF q rfl rfl (aF (v:=zS a10 p.length c11) (bF q rfl rfl ?_));obtain ⟨j4,g8,g9,h0,h1⟩:=aJ.lendBp o .head
       obtain ⟨d9,h2,hm⟩:=aB hm
       refine aR (vs:=[cS (some ⟨a6,0,none⟩) 0,zS a10 p.length c11]) call88 rfl (qC h2 h0 g9 (e0.mono g8)) ?_
       rintro _ j5 ⟨rfl,h4⟩
       have h5:=h1 _ _ h4
       exact aC (bL (v:=zB d9) q rfl rfl) (aG ⟨aM,d9,hm,rfl,h5⟩)
      ·exact aV q rfl rfl (aV q rfl rfl (aC (bP (v:=zB false) q rfl rfl) (aG ⟨aM,false,hm,rfl,o⟩)))
     ·exact aV d rfl rfl (aV d rfl rfl (aV d rfl rfl (aV d rfl rfl (aV d rfl rfl (aV d rfl rfl (aC (bP (v:=zB false) d rfl rfl) (aF (v:=zB false) (aV (by decide:¬ false=true) rfl rfl (aV (by decide:¬ false=true) rfl rfl (aC (bP (v:=zB false) (by decide:¬ false=true) rfl rfl) (aG ⟨aM,false,hm,rfl,o⟩)))))))))))
    ·refine aI b3 rfl (bV (aT (aT ?_)))
     have h7:=hr _ (zI hm).symm
     subst h7
     have hm:(tT l r)=some a9:=ho
     clear hr ho
     exact bJ (aA ⟨aM,l,r,hm,u,d0,Z⟩)
  ·refine aI b0 rfl (bV (aT (aT ?_)))
   have h8:=hr _ (zI hm).symm
   subst h8
   have hm:(tS y)=some R:=ho
   clear hr ho
   exact bJ (aA ⟨aM,y,hm,c6,c7⟩)
theorem aFG {t:cI} {d:Nat} {p:(List Int)} {k:Int} {R:(List Int)} (hm:aCg t p k=some R) (hs:aJ G K (L) w) (j:eY K a1 d (zC t a4 c5 a7 c8)) (h6:cF K a4 c5 t.L) (h9:cF K a7 c8 t.E) (V:cF K a10 c11 p):
  Calls prog 136 ([cS a1 d,zS a10 p.length c11,i64 k]:List Value).toArray w (eH fun v w'=>∃ b5 b6,v=zS b5 R.length b6/\aJ G K (aN 2 K b5 b6 R::L) w'):=by
 refine aS func136 rfl (by kernel_rfl) (by show (3:Nat)<=56;decide) ?_;unfold aCg at hm
 refine aK (aD (v:=zS none 0 0) (aG (aK (aF (v:=cS a1 d) (aF (v:=zS a10 p.length c11) (aF (v:=i64 k) ?_))))));obtain ⟨l,d3,hm⟩:=aB hm
 refine aR (vs:=[cS a1 d,zS a10 p.length c11,i64 k]) call170 rfl (aGl d3 hs j h6 h9 V) ?_
 rintro _ g9 ⟨m,n,rfl,d4⟩
 refine aD (v:=zS m l.length n) (aG (aK (cB (Kt:=K) (xs:=([]:List Int)) (cs:=[]) (vs:=[]) cC iV rfl rfl d4 rfl (by kernel_rfl) rfl rfl rfl trivial (fun a5 d5 (d6:aJ G K (aN 2 K a5 0 ([]:List Int)::aN 4 K m n l::L) d5)=>(aD (v:=zS a5 ([]:List Int).length 0) (aG (aO (aK (aD (v:=i64 0) (aG (aW [] (fun f w=>∃ q r u,rC q=some R/\f 8=zS r q.length u/\aJ G K (aN 2 K r u q::L) w) ?_ ?_)))))))))))
 ·rintro f h0 ⟨q,r,u,hm,d7,d8⟩
  unfold rC at hm
  refine aA (aK (aY d7 (aD (v:=zS r q.length u) (aG ?_))));obtain rfl:=zI hm
  exact bH (bI results136 rfl ⟨r,u,rfl,d8⟩)
 obtain ⟨h1,e0,ho⟩:=aB hm
 refine cJ [0,1,7] e0 (fun b x f w=>∃ e h,f 8=zS e b.length h/\f 9=i64 x/\aJ G K (aN 2 K e h b::aN 4 K m n l::L) w) ?_ ?_
 ·exact ⟨a5,0,rfl,rfl,d6⟩
 ·rintro b x b7 f h2 hm hr ⟨e,h,a6,a8,y⟩
  unfold aCf at hm
  refine aO (aK (aY a8 (aF (v:=cS a1 d) (aC (cM rfl j) (aC (bU (k':=d+3) cU rfl j rfl) (aC (bG (t:=3) eS y j rfl rfl) (aC (bO (len:=t.E.length) cL rfl) (aC (cG rfl rfl) (aG ?_)))))))))
  rcases aH hm with ⟨a9,hm⟩|⟨a9,hm⟩
  ·refine aL a9 rfl (aU (aA (aO (aW [0,1,7,9] (fun f w=>∃ Z a0 a2,rD x Z=some b7/\f 8=zS a0 Z.length a2/\aJ G K (aN 2 K a0 a2 Z::aN 4 K m n l::L) w) ?_ ?_))))
   ·rintro f h4 ⟨Z,a0,a2,hm,e1,e2⟩
    unfold rD at hm
    exact aA (aP (aY a8 (aC (cE rfl rfl) (aD (v:=i64 (wr (x+1))) (aG ⟨_,(zI hm).symm,aM,a0,a2,e1,rfl,e2⟩)))))
   refine aK (aF (v:=cS a1 d) (aC (cM rfl j) (aC (bU (k':=d+3) cU rfl j rfl) (aC (bG (t:=3) eS y j rfl rfl) (aY a8 ?_)))));obtain ⟨a,b8,hm⟩:=aB hm
   refine aC (cT cL rfl h9 rfl rfl rfl b8) ?_;obtain ⟨h5,e3,e4⟩:=cF.el (sz:=3) rfl h9 b8
   cases e4
   refine aC (eI (t:=0) (vs:=[i64 a.F,i64 a.B,i64 a.To]) kD y e3 rfl rfl rfl) (bZ (vs:=[i64 0,i64 0,i64 0]) zeroValue66 y rfl (fun b0 h7 e5=>(cA (i:=0) (ns:=[i64 a.F,i64 a.B,i64 a.To]) (us:=[i64 a.F,i64 a.B,i64 a.To]) sizeOf66 e5 rfl rfl rfl rfl rfl (cY rfl) rfl rfl (fun e6 (z:aJ G K (box b0 66 [i64 a.F,i64 a.B,i64 a.To]::aN 2 K e h b::aN 4 K m n l::L) e6)=>(aG (aO (cP [0,1,7,8,9,10] (fun f w=>∃ b1,rE p b x a b1=some b7/\f 41=zB b1/\aJ G K (box b0 66 [i64 a.F,i64 a.B,i64 a.To]::aN 2 K e h b::aN 4 K m n l::L) w) ?_ ?_)))))))
   ·rintro f h8 ⟨b1,hm,b9,c0⟩
    unfold rE at hm
    refine aA ?_
    rcases aH hm with ⟨b2,hm⟩|⟨b2,hm⟩
    ·refine aL b2 b9 ?_;obtain ⟨e7,b3,c1,c2,e8⟩:=aJ.lendBp c0 .head
     refine dT (C:=fun w'=>∃ L',aJ G e7 L' w') [(0,0),(1,0),(2,0),(3,0),(4,0),(5,0),(6,0),(7,0),(8,0),(9,0),(10,0),(11,0),(12,1),(13,0)] bY (by kernel_rfl) (fun _ hg=>⟨_,aJ.mono c2 hg⟩) (fun i0 e9=>?_)
     have o:=aJ.mono c2 e9
     refine bQ rfl (fun _ _=>bA a6) (bQ rfl (fun _ _=>bT (t':=1) hQ rfl rfl) (bQ rfl (fun _ ⟨_,o⟩=>bG (t:=1) cQ o c1 rfl rfl) (bQ rfl (fun _ _=>bA (v:=zS a10 p.length c11) rfl) (bQ rfl (fun _ _=>bO (len:=p.length) cC rfl) (bQ rfl (fun _ _=>yR rfl rfl) (bQ rfl (fun _ _=>bA (v:=zS a10 p.length c11) rfl) (bQ rfl (fun _ _=>bT (t':=2) gD rfl rfl) (bQ rfl (fun _ ⟨_,o⟩=>bG (t:=2) cQ o c1 rfl rfl) ?_))))))))
     obtain ⟨f0,c3,hm⟩:=aB hm
     refine bQ rfl (fun _ _=>cT cC rfl (V.mono b3) rfl rfl rfl c3) ?_;obtain ⟨i1,f1,f2⟩:=cF.el (sz:=1) rfl V c3
     cases f2
     refine bQ rfl (fun _ ⟨_,o⟩=>bG (t:=0) cQ o (f1.mono b3) rfl rfl) (bQ rfl (fun _ _=>cE rfl rfl) (jE rfl ?_));obtain ⟨i2,i3,f3,f4,f5⟩:=aJ.lendSp o b3 .head
     obtain ⟨c4,f6,hm⟩:=aB hm
     refine aR (vs:=[zS e b.length h,i64 (wr ((wr (a.B * (p.length:Int)))+f0))]) call171 rfl (aDJ f6 f4 f3) ?_
     rintro _ i4 ⟨c6,c7,rfl,f7⟩
     have c9:=f5 _ _ f7
     refine bB (aA ⟨⟨_,c9⟩,?_⟩)
     refine bQ rfl (fun _ _=>cZ (v:=zS c6 c4.length c7) rfl) (iO ?_)
     have f8:=e8 _ _ c9
     exact aX (aA ⟨aM,c4,c6,c7,hm,rfl,(aJ.arr 2 [] f8 rfl)⟩)
    ·exact aI b2 b9 (aU (aX (aA ⟨aM,b,e,h,hm,a6,(aJ.arr 1 [] c0 rfl)⟩)))
   refine aP (aF (v:=zS m l.length n) (aC (bT (t':=0) gP rfl rfl) (aC (dC cQ z (i:=0) rfl rfl rfl) ?_)));obtain ⟨f9,b4,hm⟩:=aB hm
   have g0:=cX z (i:=2) rfl b4
   refine aC (dD eM rfl g0 rfl rfl rfl b4) (aC (gX (t:=0) aAU z (i:=2) rfl b4 rfl rfl rfl) (aF (v:=zB f9) ?_))
   rcases aH hm with ⟨c,hm⟩|⟨c,hm⟩
   ·refine bF c rfl rfl (aF (v:=zS a10 p.length c11) (bF c rfl rfl ?_));obtain ⟨i5,g1,g2,g3,g4⟩:=aJ.lendBp z .head
    obtain ⟨d0,g5,hm⟩:=aB hm
    refine aR (vs:=[cS (some ⟨b0,0,none⟩) 0,zS a10 p.length c11]) call88 rfl (qC g5 g3 g2 (V.mono g1)) ?_
    rintro _ i6 ⟨rfl,g6⟩
    have g7:=g4 _ _ g6
    exact bF c rfl rfl (aC (dE rfl) (aC (bL (v:=zB (!d0)) c rfl rfl) (aG ⟨aM,!d0,hm,rfl,g7⟩)))
   ·exact aV c rfl rfl (aV c rfl rfl (aV c rfl rfl (aC (bP (v:=zB false) c rfl rfl) (aG ⟨aM,false,hm,rfl,z⟩))))
  ·refine aI a9 rfl (bV (aT (aT ?_)))
   have g8:=hr _ (zI hm).symm
   subst g8
   have hm:(rC b)=some R:=ho
   clear hr ho
   exact bJ (aA ⟨aM,b,e,h,hm,a6,(aJ.arr 2 [0] y rfl)⟩)
theorem aFH {t:cI} {k2:Nat} {p:(List Int)} {c4:Bool} {R:(List Int)} (hm:aCj t p c4=some R) (hs:aJ G K (L) w) (h3:eY K a1 k2 (zC t a4 c5 a7 c8)) (h6:cF K a4 c5 t.L) (h9:cF K a7 c8 t.E) (b3:cF K a10 c11 p):
  Calls prog 91 ([cS a1 k2,zS a10 p.length c11,zB c4]:List Value).toArray w (eH fun v w'=>∃ h2 h4,v=zS h2 R.length h4/\aJ G K (aN 2 K h2 h4 R::L) w'):=by
 refine aS func91 rfl (by kernel_rfl) (by show (3:Nat)<=96;decide) ?_;unfold aCj at hm
 refine aK (aD (v:=zS none 0 0) (aG (aK (aF (v:=cS a1 k2) (aF (v:=zS a10 p.length c11) ?_)))));obtain ⟨n,k0,hm⟩:=aB hm
 refine aR (vs:=[cS a1 k2,zS a10 p.length c11]) call90 rfl (aAc k0 hs h3 h6 h9 b3) ?_
 rintro _ r4 ⟨o,q,rfl,k1⟩
 refine aD (v:=zS o n.length q) (aG (aK (cB (Kt:=K) (xs:=([]:List (List Int))) (cs:=[]) (vs:=[]) kU aBT rfl rfl k1 rfl (by kernel_rfl) rfl rfl rfl trivial (fun d8 k3 (k4:aJ G K (aN 56 K d8 0 ([]:List (List Int))::aN 4 K o q n::L) k3)=>(aD (v:=zS d8 ([]:List (List Int)).length 0) (aG (aO (aK (aD (v:=i64 0) (aG (aW [1] (fun f w=>∃ a j k l,Hp.le K a/\pJ p j=some R/\f 8=zS k j.length l/\aJ G a (aN 56 a k l j::L) w) ?_ ?_)))))))))))
 ·rintro f r5 ⟨a,j,k,l,a9,hm,h5,k5⟩
  unfold pJ at hm
  refine aA (aK (cB (Kt:=K) (xs:=([]:List Int)) (cs:=[]) (vs:=[]) cC iV rfl rfl k5 rfl (by kernel_rfl) rfl rfl rfl trivial (fun d9 k6 (k7:aJ G a (aN 2 K d9 0 ([]:List Int)::aN 56 a k l j::L) k6)=>(aD (v:=zS d9 ([]:List Int).length 0) (aG (aK (aD (v:=i64 0) (aG (aO (aK (aD (v:=i64 0) (aG (aW [] (fun f w=>∃ b7 b8 b9,rF b7=some R/\f 11=zS b8 b7.length b9/\aJ G a (aN 2 K b8 b9 b7::L) w) ?_ ?_)))))))))))))
  ·rintro f r6 ⟨b7,b8,b9,hm,k8,k9⟩
   unfold rF at hm
   refine aA (aK (aY k8 (aD (v:=zS b8 b7.length b9) (aG ?_))));obtain rfl:=zI hm
   exact bH (bI results91 rfl ⟨b8,b9,rfl,(aJ.weakK k9 a9)⟩)
  obtain ⟨r7,l1,ho⟩:=aB hm
  refine jO [1,8] l1 (fun d a0 a2 f w=>∃ r u,f 11=zS r d.length u/\f 12=i64 a0/\f 13=i64 a2/\aJ G a (aN 2 K r u d::aN 56 a k l j::L) w) ?_ ?_
  ·exact ⟨d9,0,rfl,rfl,rfl,k7⟩
  ·rintro d a0 a2 c6 f r8 hm hr ⟨r,u,e0,e1,c0,h7⟩
   unfold aCi at hm
   refine aO (aK (aY c0 (aF (v:=zS a10 p.length c11) (aC (bO (len:=p.length) cC rfl) (aC (cG rfl rfl) (aG ?_))))))
   rcases aH hm with ⟨e2,hm⟩|⟨e2,hm⟩
   ·refine aL e2 rfl (aU (aA (aO (aW [1,8,13] (fun f w=>∃ c7 e3 c9 d0,xX a2 c7 e3=some c6/\f 11=zS c9 c7.length d0/\f 12=i64 e3/\aJ G a (aN 2 K c9 d0 c7::aN 56 a k l j::L) w) ?_ ?_))))
    ·rintro f r9 ⟨c7,e3,c9,d0,hm,l2,l3,l4⟩
     unfold xX at hm
     exact aA (aP (aY c0 (aC (cE rfl rfl) (aD (v:=i64 (wr (a2+1))) (aG ⟨_,(zI hm).symm,aM,c9,d0,l2,l3,rfl,l4⟩)))))
    refine aK (aD (v:=i64 (-1)) (aG (aO (aK (aD (v:=i64 0) (aG (aW [1,8,11,12,13] (fun f w=>∃ d1,rH d a0 a2 d1=some c6/\f 14=i64 d1/\aJ G a (aN 2 K r u d::aN 56 a k l j::L) w) ?_ ?_)))))))
    ·rintro f s0 ⟨d1,hm,h8,i0⟩
     unfold rH at hm
     refine aA (oO [1,8,11,13] (fun f w=>∃ d2 b0,rG d a2 d2 b0=some c6/\f 12=i64 d2/\f 14=i64 b0/\aJ G a (aN 2 K r u d::aN 56 a k l j::L) w) ?_ ?_)
     ·rintro f s1 ⟨d2,b0,hm,l5,l6,l7⟩
      unfold rG at hm
      refine aP (aY e0 (aY l6 (cB (Kt:=K) (xs:=([b0]:List Int)) (cs:=[i64 b0]) (vs:=[(0,i64 b0)]) cC iV rfl rfl l7 rfl (by kernel_rfl) rfl rfl rfl ⟨rfl,trivial⟩ (fun l8 l9 (m0:aJ G a (aN 2 K l8 1 ([b0]:List Int)::aN 2 K r u d::aN 56 a k l j::L) l9)=>?_))));obtain ⟨e4,m1,hm⟩:=aB hm
      exact dG (i:=0) cC underlying56 iV rfl rfl m0 rfl a9 a9 m1 rfl rfl rfl rfl (fun _ h=>h) (fun e5 e6 m2 (m3:aJ G a (aN 2 K e5 e6 e4::aN 56 a k l j::L) m2)=>(aD (v:=zS e5 e4.length e6) (bB (aX (aA ⟨aM,e4,d2,e5,e6,hm,rfl,l5,m3⟩)))))
     refine aK (aY h8 (aC (cG rfl rfl) (aG ?_)))
     rcases aH hm with ⟨e7,hm⟩|⟨e7,hm⟩
     ·exact aL e7 rfl (aK (aY e1 (aD (v:=i64 a0) (aG (aP (aY e1 (aC (cE rfl rfl) (aD (v:=i64 (wr (a0+1))) (aG ⟨aM,wr (a0+1),a0,hm,rfl,rfl,i0⟩)))))))))
     ·exact aI e7 rfl (aU (aA ⟨aM,a0,d1,hm,e1,h8,i0⟩))
    obtain ⟨s2,m4,ho⟩:=aB hm
    refine cJ [1,8,11,12,13] m4 (fun a3 b1 f w=>f 14=i64 a3/\f 15=i64 b1/\aJ G a (aN 2 K r u d::aN 56 a k l j::L) w) ?_ ?_
    ·exact ⟨rfl,rfl,h7⟩
    ·rintro a3 b1 e8 f s3 hm hr ⟨e9,c1,i1⟩
     unfold aCh at hm
     refine aO (aO (cP [1,8,11,12,13,14,15] (fun f w=>∃ f0,rK p j d a2 a3 b1 f0=some e8/\f 59=zB f0/\aJ G a (aN 2 K r u d::aN 56 a k l j::L) w) ?_ ?_))
     ·rintro f s4 ⟨f0,hm,i2,i3⟩
      unfold rK at hm
      refine aA ?_
      rcases aH hm with ⟨f1,hm⟩|⟨f1,hm⟩
      ·refine aL f1 i2 (aU (aA (aO (aW [1,8,11,12,13,15] (fun f w=>∃ f2,rI b1 f2=some e8/\f 14=i64 f2/\aJ G a (aN 2 K r u d::aN 56 a k l j::L) w) ?_ ?_))))
       ·rintro f s5 ⟨f2,hm,m5,m6⟩
        unfold rI at hm
        exact aA (aP (aY c1 (aC (cE rfl rfl) (aD (v:=i64 (wr (b1+1))) (aG ⟨_,(zI hm).symm,aM,m5,rfl,m6⟩)))))
       refine aO (cP [1,8,11,12,13,14,15] (fun f w=>∃ f3,rJ d a3 b1 f3=some e8/\f 81=zB f3/\aJ G a (aN 2 K r u d::aN 56 a k l j::L) w) ?_ ?_)
       ·rintro f s6 ⟨f3,hm,i4,d3⟩
        unfold rJ at hm
        refine aA ?_
        rcases aH hm with ⟨f4,hm⟩|⟨f4,hm⟩
        ·refine aL f4 i4 (aP (aY e0 (aY c1 ?_)));obtain ⟨i5,f5,hm⟩:=aB hm
         have m7:=cX d3 (i:=0) rfl f5
         exact aC (dD cC rfl m7 rfl rfl rfl f5) (aC (gX (t:=0) cQ d3 (i:=0) rfl f5 rfl rfl rfl) (aD (v:=i64 i5) (bB (aX (aA ⟨aM,i5,hm,rfl,d3⟩)))))
        ·exact aI f4 i4 (aU (aX (aA ⟨aM,a3,hm,e9,d3⟩)))
       obtain ⟨m8,d4,f6,b,i6⟩:=aJ.lendSp i3 (zR _) zt1
       refine dO (C:=fun w'=>aJ G m8 (aN 2 K r u d::L) w') bY (by kernel_rfl) (aJ.mono b (dK.drew _)) (bD (fun _ b=>bA (v:=zS a10 p.length c11) rfl) (bD (fun _ b=>bA c1) ?_));obtain ⟨m9,i7,hm⟩:=aB hm
       refine bD (fun _ b=>cT cC rfl (b3.mono (zL a9 d4)) rfl rfl rfl i7) ?_;obtain ⟨s7,n0,n1⟩:=cF.el (sz:=1) rfl b3 i7
       cases n1
       refine bD (fun _ b=>bG (t:=0) cQ b (n0.mono (zL a9 d4)) rfl rfl) (bD (fun _ b=>bA (v:=zS a10 p.length c11) rfl) (bD (fun _ b=>bA c0) ?_));obtain ⟨n2,i8,hm⟩:=aB hm
       refine bD (fun _ b=>cT cC rfl (b3.mono (zL a9 d4)) rfl rfl rfl i8) ?_;obtain ⟨s8,n3,n4⟩:=cF.el (sz:=1) rfl b3 i8
       cases n4
       refine bD (fun _ b=>bG (t:=0) cQ b (n3.mono (zL a9 d4)) rfl rfl) (bD (fun _ b=>fA rfl rfl) (bD (fun _ b=>bA (v:=zB (m9 == n2)) rfl) ?_))
       rcases aH hm with ⟨c,hm⟩|⟨c,hm⟩
       ·refine bW (g:=71) rfl rfl c (bD (fun _ b=>bA h5) (bW (g:=71) rfl rfl c (bD (fun _ b=>bA c1) (bW (g:=71) rfl rfl c ?_))));obtain ⟨n5,f7,hm⟩:=aB hm
        have i9:=aAS f6 f7
        refine bD (fun _ b=>dD kU rfl i9 rfl rfl rfl f7) (bW (g:=71) rfl rfl c ?_);obtain ⟨s9,n6,n7⟩:=cF.el (sz:=1) rfl f6 f7
        obtain ⟨n8,n9,rfl,o0⟩:=n7
        refine bD (fun _ b=>bG (t:=0) aEx b n6 rfl rfl) (bW (g:=71) rfl rfl c (bD (fun _ b=>bA h5) (bW (g:=71) rfl rfl c (bD (fun _ b=>bA c0) (bW (g:=71) rfl rfl c ?_)))));obtain ⟨o1,j0,hm⟩:=aB hm
        refine bD (fun _ b=>dD kU rfl i9 rfl rfl rfl j0) (bW (g:=71) rfl rfl c ?_);obtain ⟨t0,o2,o3⟩:=cF.el (sz:=1) rfl f6 j0
        obtain ⟨o4,o5,rfl,o6⟩:=o3
        refine bD (fun _ b=>bG (t:=0) aEx b o2 rfl rfl) (bW (g:=71) rfl rfl c ?_);obtain ⟨f8,o7,hm⟩:=aB hm
        refine lU (vs:=[zS n8 n5.length n9,zS o4 o1.length o5]) (v:=zB f8) call46 rfl (fun _ b=>(nU o7 b o0 o6)) (bD (fun _ b=>bL (v:=zB f8) c rfl rfl) (dS (fun t1 o8=>?_)))
        have o9:=i6 _ _ o8
        exact aA ⟨aM,f8,hm,rfl,(aJ.arr 2 [1,0] o9 rfl)⟩
       ·refine bE (g:=71) rfl rfl (dL c) (bE (g:=71) rfl rfl (dL c) (bE (g:=71) rfl rfl (dL c) (bE (g:=71) rfl rfl (dL c) (bE (g:=71) rfl rfl (dL c) (bE (g:=71) rfl rfl (dL c) (bE (g:=71) rfl rfl (dL c) (bE (g:=71) rfl rfl (dL c) (bE (g:=71) rfl rfl (dL c) (bD (fun _ b=>bP (v:=zB false) c rfl rfl) (dS (fun t2 p0=>?_)))))))))))
        have p1:=i6 _ _ p0
        exact aA ⟨aM,false,hm,rfl,(aJ.arr 2 [1,0] p1 rfl)⟩
      ·refine aI f1 i2 (bV (aT (aT ?_)))
       have p2:=hr _ (zI hm).symm
       subst p2
       have hm:(rH d a0 a2 a3)=some c6:=ho
       clear hr ho
       exact bJ (aA ⟨aM,a3,hm,e9,i3⟩)
     refine aP (aY c1 (aY c0 (aC (cG rfl rfl) (aF (v:=zB (decide (b1 < a2))) ?_))))
     rcases aH hm with ⟨b2,hm⟩|⟨b2,hm⟩
     ·exact bF b2 rfl rfl (aY e9 (bF b2 rfl rfl (aC (cG rfl rfl) (aC (bL (v:=zB (decide (a3 < 0))) b2 rfl rfl) (aG ⟨aM,decide (a3 < 0),hm,rfl,i1⟩)))))
     ·exact aV b2 rfl rfl (aV b2 rfl rfl (aC (bP (v:=zB false) b2 rfl rfl) (aG ⟨aM,false,hm,rfl,i1⟩)))
   ·refine aI e2 rfl (bV (aT (aT ?_)))
    have p3:=hr _ (zI hm).symm
    subst p3
    have hm:(rF d)=some R:=ho
    clear hr ho
    exact bJ (aA ⟨aM,d,r,u,hm,e0,(aJ.arr 2 [0] h7 rfl)⟩)
 obtain ⟨t3,p4,ho⟩:=aB hm
 refine cJ [0,1,2,7] p4 (fun m b4 f w=>∃ e x y,Hp.le K e/\f 8=zS x m.length y/\f 9=i64 b4/\aJ G e (aN 56 e x y m::aN 4 K o q n::L) w) ?_ ?_
 ·exact ⟨K,d8,0,(zR _),rfl,rfl,k4⟩
 ·rintro m b4 j1 f t4 hm hr ⟨e,x,y,z,j2,d5,f9⟩
  unfold aBw at hm
  refine aO (aK (aY d5 (aF (v:=cS a1 k2) (aC (cM rfl (h3.mono z)) (aC (bU (k':=k2+0) fW rfl (h3.mono z) rfl) (aC (bG (t:=0) cQ f9 (h3.mono z) rfl rfl) (aC (cG rfl rfl) (aG ?_))))))))
  rcases aH hm with ⟨g0,hm⟩|⟨g0,hm⟩
  ·refine aL g0 rfl (aU (aA (aO (cN (aK (aF (v:=cS a1 k2) (aF (v:=zS a10 p.length c11) (aY d5 ?_))))))));obtain ⟨b5,p5,hm⟩:=aB hm
   refine aR (vs:=[cS a1 k2,zS a10 p.length c11,i64 b4]) call136 rfl (aFG p5 f9 (h3.mono z) (h6.mono z) (h9.mono z) (b3.mono z)) ?_
   rintro _ t5 ⟨c2,c3,rfl,d6⟩
   refine aD (v:=zS c2 b5.length c3) (aG (oO [0,1,2,7,8,9] (fun f w=>∃ Z a5 a6,pK m b4 Z=some j1/\f 10=zS a5 Z.length a6/\aJ G e (aN 2 K a5 a6 Z::aN 56 e x y m::aN 4 K o q n::L) w) ?_ ?_))
   ·rintro f p6 ⟨Z,a5,a6,hm,p7,p8⟩
    unfold pK at hm
    refine aP (aY j2 (aY p7 ?_))
    have p9:aJ G e (rows [2] ([(a5,a6)]:List (Dp.Hd (List Int))) [Z]::aN 56 e x y m::aN 4 K o q n::L) p6:=aJ.rowsOne p8
    refine cB (Kt:=K) (xs:=dB ([(a5,a6)]:List (Dp.Hd (List Int))) ([Z]:List (List Int))) (cs:=[zS a5 Z.length a6]) (vs:=[(0,zS a5 Z.length a6)]) kU aBT rfl rfl p9 rfl (by kernel_rfl) rfl rfl rfl ⟨rfl,trivial⟩ ?_
    intro q0 j3 (q1:aJ G e (aN 56 K q0 1 (dB ([(a5,a6)]:List (Dp.Hd (List Int))) ([Z]:List (List Int)))::rows [2] ([(a5,a6)]:List (Dp.Hd (List Int))) ([Z]:List (List Int))::aN 56 e x y m::aN 4 K o q n::L) j3)
    obtain ⟨d7,j4,q2,_,g1,_⟩:=aJ.lendD' (i:=0) q1 rfl rfl rfl
    replace g1:aJ G d7 (aN 56 e x y m::aN 4 K o q n::L) j3:=g1
    obtain ⟨j5,q3,hm⟩:=aB hm
    exact kP (i:=0) kU underlying46 aBT rfl rfl g1 rfl j4 q2 q3 rfl rfl rfl rfl (fun g2 g3 q4 (q5:aJ G d7 (aN 56 d7 g2 g3 j5::aN 4 K o q n::L) q4)=>(aD (v:=zS g2 j5.length g3) (bB (aX (aA (aP (aY d5 (aC (cE rfl rfl) (aD (v:=i64 (wr (b4+1))) (aG ⟨_,(zI hm).symm,aM,d7,g2,g3,(zL z j4),rfl,rfl,q5⟩))))))))))
   refine aO (cP [0,1,2,7,8,9,10] (fun f w=>∃ g4,pL m b4 b5 g4=some j1/\f 38=zB g4/\aJ G e (aN 2 K c2 c3 b5::aN 56 e x y m::aN 4 K o q n::L) w) ?_ ?_)
   ·rintro f t6 ⟨g4,hm,j6,j7⟩
    unfold pL at hm
    refine aA ?_
    rcases aH hm with ⟨g5,hm⟩|⟨g5,hm⟩
    ·refine aL g5 j6 (aP (aF (v:=zS c2 b5.length c3) (cB (Kt:=K) (xs:=([(-1)]:List Int)) (cs:=[i64 (-1)]) (vs:=[(0,i64 (-1))]) cC iV rfl rfl j7 rfl (by kernel_rfl) rfl rfl rfl ⟨rfl,trivial⟩ (fun q6 q7 (q8:aJ G e (aN 2 K q6 1 ([(-1)]:List Int)::aN 2 K c2 c3 b5::aN 56 e x y m::aN 4 K o q n::L) q7)=>?_))));obtain ⟨g6,q9,hm⟩:=aB hm
     exact dG (i:=0) cC underlying56 iV rfl rfl q8 rfl z z q9 rfl rfl rfl rfl (fun _ h=>h) (fun g7 g8 r0 (r1:aJ G e (aN 2 K g7 g8 g6::aN 56 e x y m::aN 4 K o q n::L) r0)=>(aD (v:=zS g7 g6.length g8) (aG ⟨aM,g6,g7,g8,hm,rfl,r1⟩)))
    ·exact aI g5 j6 (aU (aA ⟨aM,b5,c2,c3,hm,rfl,j7⟩))
   refine aP (aF (v:=zB c4) (aF (v:=zB c4) ?_))
   rcases aH hm with ⟨V,hm⟩|⟨V,hm⟩
   ·refine bF V rfl rfl (aF (v:=zS o n.length q) (bF V rfl rfl (aY d5 (bF V rfl rfl ?_))));obtain ⟨j8,g9,hm⟩:=aB hm
    have r2:=cX d6 (i:=2) rfl g9
    exact aC (dD eM rfl r2 rfl rfl rfl g9) (bF V rfl rfl (aC (gX (t:=0) aAU d6 (i:=2) rfl g9 rfl rfl rfl) (aC (bL (v:=zB j8) V rfl rfl) (aG ⟨aM,j8,hm,rfl,d6⟩))))
   ·exact aV V rfl rfl (aV V rfl rfl (aV V rfl rfl (aV V rfl rfl (aC (bP (v:=zB false) V rfl rfl) (aG ⟨aM,false,hm,rfl,d6⟩)))))
  ·refine aI g0 rfl (bV (aT (aT ?_)))
   have r3:=hr _ (zI hm).symm
   subst r3
   have hm:(pJ p m)=some R:=ho
   clear hr ho
   exact bJ (aA ⟨aM,e,m,x,y,z,hm,j2,(aJ.arr 2 [0] f9 rfl)⟩)
theorem aHf {t:cI} {d:Nat} {j:Bool} {R:(List Int)} (hm:aFv t j=some R) (p:aJ G K (L) w) (k:eY K a1 d (zC t a4 c5 a7 c8)) (x:cF K a4 c5 t.L) (y:cF K a7 c8 t.E):
  Calls prog 42 ([cS a1 d,zB j]:List Value).toArray w (eH fun v w'=>∃ q r,v=zS q R.length r/\aJ G K (aN 2 K q r R::L) w'):=by
 refine aS func42 rfl (by kernel_rfl) (by show (2:Nat)<=21;decide) ?_;unfold aFv at hm
 refine aK (aD (v:=zS none 0 0) (aG (aK (aF (v:=cS a1 d) (aC (cM rfl k) (aC (bU (k':=d+0) fW rfl k rfl) (aC (bG (t:=0) cQ p k rfl rfl) ?_)))))));obtain ⟨h,z,hm⟩:=aB hm
 refine aDh (e:=(0:Int)) cC iV rfl rfl p rfl rfl rfl z rfl (fun l V (Z:aJ G K (aN 2 K l h.length h::L) V)=>(aD (v:=zS l h.length h.length) (aG (cN ?_))));obtain ⟨c4,a0,ho⟩:=aB hm
 refine dM [0,1] a0 (fun a f w=>∃ b c,f 5=zS b a.length c/\aJ G K (aN 2 K b c a::L) w) ?_ ?_
 ·exact ⟨l,h.length,rfl,Z⟩
 ·rintro a c6 f c7 hm hr ⟨b,c,m,a2⟩
  unfold aEN at hm
  refine cN (aK (aF (v:=cS a1 d) (aY m (aF (v:=zB j) ?_))));obtain ⟨c9,n,a3,a5,a6⟩:=aJ.lendSp a2 (zR _) .head
  obtain ⟨i,a8,hm⟩:=aB hm
  refine aR (vs:=[cS a1 d,zS b a.length c,zB j]) call91 rfl (aFH a8 a5 (k.mono n) (x.mono n) (y.mono n) a3) ?_
  rintro _ d0 ⟨g,c45,rfl,a9⟩
  have b0:=a6 _ _ a9
  refine aD (v:=zS g i.length c45) (aG (aO (aK (aF (v:=zS g i.length c45) (aY m ?_)))));obtain ⟨d1,b1,b2,b3,b4⟩:=aJ.lendSp b0 (zR _) zt1
  obtain ⟨d2,b5,b6,b7,b8⟩:=aJ.lendSp b3 b1 .head
  obtain ⟨d3,b9,hm⟩:=aB hm
  refine aR (vs:=[zS g i.length c45,zS b a.length c]) call46 rfl (nU b9 b7 (b2.mono b5) b6) ?_
  rintro _ d4 ⟨rfl,c0⟩
  have c1:=b8 _ _ c0
  have u:=b4 _ _ c1
  refine aG ?_
  rcases aH hm with ⟨o,hm⟩|⟨o,hm⟩
  ·refine aL o rfl (aK (aY m (aD (v:=zS b a.length c) (aG (bH (aQ (bM (aQ ?_))))))))
   have c2:=hr _ (zI hm).symm
   subst c2
   have hm:(some a)=some R:=ho
   clear hr ho
   obtain rfl:=zI hm
   exact bM (bI results42 rfl ⟨b,c,rfl,(aJ.arr 1 [] u rfl)⟩)
  ·exact aI o rfl (aU (aA (aP (aF (v:=zS g i.length c45) (aD (v:=zS g i.length c45) (bB (aX (aA ⟨_,(zI hm).symm,aM,g,c45,rfl,(aJ.arr 2 [0] u rfl)⟩))))))))
theorem aBE {t:cI} {c:Nat} {d:Bool} {R:cI} (hm:aAW t d=some R) (hs:aJ G K (L) w) (V:eY K a1 c (zC t a4 c5 a7 c8)) (Z:cF K a4 c5 t.L) (h9:cF K a7 c8 t.E):
  Calls prog 16 ([cS a1 c,zB d]:List Value).toArray w (eH fun v w'=>∃ a2 a3 a5 a6,v=Value.agg (zCa R a2 a3 a5 a6)/\aJ G K (aN 9 K a2 a3 R.L::aN 66 K a5 a6 R.E::L) w'):=by
 let p:=zG
 refine aS func16 rfl (by kernel_rfl) (by show (2:Nat)<=14;decide) ?_;unfold aAW at hm
 refine aK (bZ (vs:=p) zeroValue27 hs rfl (fun a8 g7 b7=>(aG (aK (aF (v:=cS a1 c) (aF (v:=cS a1 c) ?_))))));obtain ⟨q,b8,hm⟩:=aB hm
 refine aR (vs:=[cS a1 c]) call38 rfl (vR b8 b7 V Z h9) ?_
 rintro _ g8 ⟨r,u,rfl,b9⟩
 obtain ⟨g9,x,c0,c1,c2⟩:=aJ.lendSp b9 (zR _) .head
 obtain ⟨a,c3,hm⟩:=aB hm
 refine aR (vs:=[cS a1 c,zS r q.length u]) call37 rfl (yF c3 c1 (V.mono x) (Z.mono x) (h9.mono x) c0) ?_
 rintro _ h0 ⟨e,g,h,j,rfl,c4⟩
 have c6:=c2 _ _ c4
 refine bZ (vs:=p) zeroValue27 c6 rfl (fun o h1 c7=>(cA (i:=0) (ns:=(zC a e g h j)) (us:=(zC a e g h j)) sizeOf27 c7 rfl rfl rfl rfl rfl (cY rfl) rfl rfl (fun c9 (d0:aJ G K (box o 27 (zC a e g h j)::aN 2 K r u q::aN 9 K e g a.L::aN 66 K h j a.E::box a8 27 p::L) c9)=>(aG (aK (aF (v:=zB d) ?_))))));obtain ⟨h2,d1,d2,d3,d4⟩:=aJ.lendSp d0 (zR _) zt2
 obtain ⟨h4,d5,d6,d7,d8⟩:=aJ.lendSp d3 d1 zt2
 obtain ⟨h5,a9,d9,e0,e1⟩:=aJ.lendBp d7 .head
 obtain ⟨b0,e2,hm⟩:=aB hm
 refine aR (vs:=[cS (some ⟨o,0,none⟩) 0,zB d]) call42 rfl (aHf e2 e0 d9 (d2.mono (zL d5 a9)) (d6.mono a9)) ?_
 rintro _ h7 ⟨b1,b2,rfl,e3⟩
 have e4:=e1 _ _ e3
 have e5:=d8 _ _ e4
 have e6:=d4 _ _ e5
 refine aF (v:=zB d) ?_;obtain ⟨h8,b3,e7,e8,e9⟩:=aJ.lendSp e6 (zR _) .head
 obtain ⟨i0,b4,f0,f1,f2⟩:=aJ.lendSp e8 b3 .head
 obtain ⟨i1,y,f3,f4,f5⟩:=aJ.lendBp f1 .head
 obtain ⟨i2,z,f6,f7,f8⟩:=aJ.lendSp f4 (zL (zL b3 b4) y) .head
 obtain ⟨b,f9,hm⟩:=aB hm
 refine aR (vs:=[cS (some ⟨o,0,none⟩) 0,zS b1 b0.length b2,zB d]) call41 rfl (yG f9 f7 (f3.mono z) (e7.mono (zL (zL b4 y) z)) (f0.mono (zL y z)) f6) ?_
 rintro _ i3 ⟨k,l,m,n,rfl,g0⟩
 have g1:=f8 _ _ g0
 have g2:=f5 _ _ g1
 have g3:=f2 _ _ g2
 have g4:=e9 _ _ g3
 refine cA (i:=7) (ns:=(zC b k l m n)) (us:=(zC b k l m n)) sizeOf27 g4 rfl rfl rfl rfl rfl (cY rfl) rfl rfl (fun g5 (b5:aJ G K (aN 9 K e g a.L::aN 66 K h j a.E::box o 27 (zC a e g h j)::aN 2 K b1 b2 b0::aN 9 K k l b.L::aN 66 K m n b.E::aN 2 K r u q::box a8 27 (zC b k l m n)::L) g5)=>(aG ?_));obtain rfl:=zI hm
 exact bH (pD results16 (fK (vs:=(zC b k l m n)) rfl cV b5 (i:=7) rfl rfl rfl) ⟨k,l,m,n,rfl,(aJ.arr 8 [4,5] b5 rfl)⟩)
theorem aGm {n:Int} {m R:(List Bool)} (hm:aDX n m=some R) (hs:aJ G K (aN 4 K a1 c2 m::L) w):
  Calls prog 172 ([i64 n,zS a1 m.length c2]:List Value).toArray w (eH fun v w'=>v=Value.tuple #[]/\m.length=R.length/\aJ G K (aN 4 K a1 c2 R::L) w'):=by
 refine aS func172 rfl (by kernel_rfl) (by show (2:Nat)<=59;decide) ?_;unfold aDX at hm
 refine aO (aK (aD (v:=i64 0) (aG (aW [0] (fun f w=>∃ l,rL n l=some R/\f 1=zS a1 l.length c2/\m.length=l.length/\aJ G K (aN 4 K a1 c2 l::L) w) ?_ ?_))))
 ·rintro f w6 ⟨l,hm,e5,d1,d2⟩
  unfold rL at hm
  refine aA (aK (aD (v:=i64 0) (aG (aW [] (fun f w=>∃ x,tV x=some R/\m.length=x.length/\aJ G K (aN 4 K a1 c2 x::L) w) ?_ ?_))))
  ·rintro f g9 ⟨x,hm,d3,d4⟩
   unfold tV at hm
   obtain rfl:=zI hm
   exact aHV results172 ⟨rfl,d3,d4⟩
  obtain ⟨h0,d6,ho⟩:=aB hm
  refine cJ [0] d6 (fun c d f w=>f 1=zS a1 c.length c2/\f 5=i64 d/\m.length=c.length/\aJ G K (aN 4 K a1 c2 c::L) w) ?_ ?_
  ·exact ⟨e5,rfl,d1,d2⟩
  ·rintro c d a4 f h1 hm hr ⟨d7,y,c3,c4⟩
   unfold aDt at hm
   refine aO (aK (aY y (aF (v:=i64 n) (aC (cG rfl rfl) (aG ?_)))))
   rcases aH hm with ⟨a5,hm⟩|⟨a5,hm⟩
   ·refine aL a5 rfl (aU (aA (aO (aW [0,5] (fun f w=>∃ o,aAn d o=some a4/\f 1=zS a1 o.length c2/\m.length=o.length/\aJ G K (aN 4 K a1 c2 o::L) w) ?_ ?_))))
    ·rintro f h2 ⟨o,hm,d8,d9,e0⟩
     unfold aAn at hm
     exact aA (aP (aY y (aC (cE rfl rfl) (aD (v:=i64 (wr (d+1))) (aG ⟨_,(zI hm).symm,aM,d8,rfl,d9,e0⟩)))))
    refine aK (aD (v:=i64 0) (aG (aW [0,5] (fun f w=>∃ e,tW d e=some a4/\f 1=zS a1 e.length c2/\m.length=e.length/\aJ G K (aN 4 K a1 c2 e::L) w) ?_ ?_)))
    ·rintro f h3 ⟨e,hm,e1,e2,e3⟩
     unfold tW at hm
     exact aX (aA ⟨aM,e,hm,e1,e2,e3⟩)
    obtain ⟨h4,e4,ho⟩:=aB hm
    refine cJ [0,5] e4 (fun a g f w=>f 1=zS a1 a.length c2/\f 6=i64 g/\m.length=a.length/\aJ G K (aN 4 K a1 c2 a::L) w) ?_ ?_
    ·exact ⟨d7,rfl,c3,c4⟩
    ·rintro a g a6 f h5 hm hr ⟨z,V,a7,p⟩
     unfold aDs at hm
     refine aO (aK (aY V (aF (v:=i64 n) (aC (cG rfl rfl) (aG ?_)))))
     rcases aH hm with ⟨a8,hm⟩|⟨a8,hm⟩
     ·refine aL a8 rfl (aU (aA (aO (aW [0,5,6] (fun f w=>∃ q,tX g q=some a6/\f 1=zS a1 q.length c2/\m.length=q.length/\aJ G K (aN 4 K a1 c2 q::L) w) ?_ ?_))))
      ·rintro f h6 ⟨q,hm,e6,e7,e8⟩
       unfold tX at hm
       exact aA (aP (aY V (aC (cE rfl rfl) (aD (v:=i64 (wr (g+1))) (aG ⟨_,(zI hm).symm,aM,e6,rfl,e7,e8⟩)))))
      refine aO (aK (aY z (aY V (aF (v:=i64 n) (aC (yR rfl rfl) (aY y (aC (cE rfl rfl) ?_)))))));obtain ⟨h7,a9,hm⟩:=aB hm
      have b0:=cX p (i:=0) rfl a9
      refine aC (dD eM rfl b0 rfl rfl rfl a9) (aC (gX (t:=0) aAU p (i:=0) rfl a9 rfl rfl rfl) (aC (dE rfl) (aG ?_)))
      rcases aH hm with ⟨b1,hm⟩|⟨b1,hm⟩
      ·exact aL b1 rfl (bV (aT (bJ (aA ⟨aM,a,hm,z,a7,p⟩))))
      ·refine aI b1 rfl (aU (aA (aK (aD (v:=i64 0) (aG (aW [0,5,6] (fun f w=>∃ j,tY g j=some a6/\f 1=zS a1 j.length c2/\m.length=j.length/\aJ G K (aN 4 K a1 c2 j::L) w) ?_ ?_))))))
       ·rintro f h8 ⟨j,hm,e9,f0,f1⟩
        unfold tY at hm
        exact aX (aA ⟨aM,j,hm,e9,f0,f1⟩)
       obtain ⟨h9,f2,ho⟩:=aB hm
       refine cJ [0,5,6] f2 (fun b Z f w=>f 1=zS a1 b.length c2/\f 7=i64 Z/\m.length=b.length/\aJ G K (aN 4 K a1 c2 b::L) w) ?_ ?_
       ·exact ⟨z,rfl,a7,p⟩
       ·rintro b Z f3 f i0 hm hr ⟨r,a0,b2,a2⟩
        unfold aDr at hm
        refine aO (aK (aY a0 (aF (v:=i64 n) (aC (cG rfl rfl) (aG ?_)))))
        rcases aH hm with ⟨b3,hm⟩|⟨b3,hm⟩
        ·refine aL b3 rfl (aU (aA (aO (aW [0,5,6,7] (fun f w=>∃ u,tZ Z u=some f3/\f 1=zS a1 u.length c2/\m.length=u.length/\aJ G K (aN 4 K a1 c2 u::L) w) ?_ ?_))))
         ·rintro f i1 ⟨u,hm,f4,f5,f6⟩
          unfold tZ at hm
          exact aA (aP (aY a0 (aC (cE rfl rfl) (aD (v:=i64 (wr (Z+1))) (aG ⟨_,(zI hm).symm,aM,f4,rfl,f5,f6⟩)))))
         refine aK (aY r (aY y (aF (v:=i64 n) (aC (yR rfl rfl) (aY a0 (aC (cE rfl rfl) ?_))))));obtain ⟨i2,c5,hm⟩:=aB hm
         refine aC (dD eM rfl b0 rfl rfl rfl c5) (aC (gX (t:=0) aAU a2 (i:=0) rfl c5 rfl rfl rfl) (aG ?_))
         rcases aH hm with ⟨b4,hm⟩|⟨b4,hm⟩
         ·refine aL b4 rfl (aP (aY r (aY V (aF (v:=i64 n) (aC (yR rfl rfl) (aY a0 (aC (cE rfl rfl) ?_)))))));obtain ⟨i3,c6,hm⟩:=aB hm
          refine aC (dD eM rfl b0 rfl rfl rfl c6) ?_;obtain ⟨c7,b5,hm⟩:=aB hm
          exact jL (i:=0) (t:=0) (ns:=[zB true]) (e':=(true:Bool)) sizeOf4 a2 rfl (zR _) rfl rfl rfl c6 b5 rfl rfl (cY rfl) rfl (fun cs h=>by cases h;rfl) (fun f7 (f8:aJ G K (aN 4 K a1 c2 c7::L) f7)=>(bB (aX (aA ⟨aM,c7,hm,(Eq.trans r (congrArg (fun n=>zS a1 n c2) (iM b5))),(b2.trans (iM b5)),f8⟩))))
         ·exact aI b4 rfl (aU (aX (aA ⟨aM,b,hm,r,b2,a2⟩)))
        ·refine aI b3 rfl (bV (aT (aT ?_)))
         have f9:=hr _ (zI hm).symm
         subst f9
         have hm:(tY g b)=some a6:=ho
         clear hr ho
         exact bJ (aA ⟨aM,b,hm,r,b2,a2⟩)
     ·refine aI a8 rfl (bV (aT (aT ?_)))
      have g0:=hr _ (zI hm).symm
      subst g0
      have hm:(tW d a)=some a4:=ho
      clear hr ho
      exact bJ (aA ⟨aM,a,hm,z,a7,p⟩)
   ·refine aI a5 rfl (bV (aT (aT ?_)))
    have g1:=hr _ (zI hm).symm
    subst g1
    have hm:(tV c)=some R:=ho
    clear hr ho
    exact bJ (aA ⟨aM,c,hm,c3,c4⟩)
 obtain ⟨i4,g2,ho⟩:=aB hm
 refine cJ [0] g2 (fun k b6 f w=>f 1=zS a1 k.length c2/\f 4=i64 b6/\m.length=k.length/\aJ G K (aN 4 K a1 c2 k::L) w) ?_ ?_
 ·exact ⟨rfl,rfl,rfl,hs⟩
 ·rintro k b6 i5 f i6 hm hr ⟨b7,a3,c8,b8⟩
  unfold aCk at hm
  refine aO (aK (aY a3 (aF (v:=i64 n) (aC (cG rfl rfl) (aG ?_)))))
  rcases aH hm with ⟨b9,hm⟩|⟨b9,hm⟩
  ·refine aL b9 rfl (aU (aA (aO (cN (aP (aY b7 (aY a3 (aF (v:=i64 n) (aC (yR rfl rfl) (aY a3 (aC (cE rfl rfl) ?_)))))))))));obtain ⟨i7,c0,hm⟩:=aB hm
   have g3:=cX b8 (i:=0) rfl c0
   refine aC (dD eM rfl g3 rfl rfl rfl c0) ?_;obtain ⟨g4,c1,hm⟩:=aB hm
   exact jL (i:=0) (t:=0) (ns:=[zB true]) (e':=(true:Bool)) sizeOf4 b8 rfl (zR _) rfl rfl rfl c0 c1 rfl rfl (cY rfl) rfl (fun cs h=>by cases h;rfl) (fun g5 (g6:aJ G K (aN 4 K a1 c2 g4::L) g5)=>(bB (aX (aA (aP (aY a3 (aC (cE rfl rfl) (aD (v:=i64 (wr (b6+1))) (aG ⟨_,(zI hm).symm,aM,(Eq.trans b7 (congrArg (fun n=>zS a1 n c2) (iM c1))),rfl,(c8.trans (iM c1)),g6⟩)))))))))
  ·refine aI b9 rfl (bV (aT (aT ?_)))
   have g7:=hr _ (zI hm).symm
   subst g7
   have hm:(rL n k)=some R:=ho
   clear hr ho
   exact bJ (aA ⟨aM,k,hm,b7,c8,b8⟩)
theorem aGn {t:cI} {d:Nat} {R:(List Bool)} (hm:aDY t=some R) (V:aJ G K (L) w) (b:eY K a1 d (zC t a4 c5 a7 c8)) (h6:cF K a4 c5 t.L) (q:cF K a7 c8 t.E):
  Calls prog 137 ([cS a1 d]:List Value).toArray w (eH fun v w'=>∃ Z a0,v=zS Z R.length a0/\aJ G K (aN 4 K Z a0 R::L) w'):=by
 refine aS func137 rfl (by kernel_rfl) (by show (1:Nat)<=57;decide) ?_;unfold aDY at hm
 refine aK (aD (v:=zS none 0 0) (aG (aK (aF (v:=cS a1 d) (aC (cM rfl b) (aC (bU (k':=d+0) fW rfl b rfl) (aC (bG (t:=0) cQ V b rfl rfl) (aD (v:=i64 t.N) (aG (aK (aF (v:=i64 t.N) (aF (v:=i64 t.N) (aC (yR rfl rfl) ?_)))))))))))));obtain ⟨a,a8,hm⟩:=aB hm
 refine aDh (e:=(false:Bool)) eM ez_4 rfl rfl V rfl rfl rfl a8 rfl (fun c a9 (b0:aJ G K (aN 4 K c a.length a::L) a9)=>(aD (v:=zS c a.length a.length) (aG (aO (aK (aD (v:=i64 0) (aG (aW [3] (fun f w=>∃ o,uA t o=some R/\f 4=zS c o.length a.length/\aJ G K (aN 4 K c a.length o::L) w) ?_ ?_))))))))
 ·rintro f c9 ⟨o,hm,a2,b1⟩
  unfold uA at hm
  refine aA (aK (aF (v:=i64 t.N) (aY a2 ?_)));obtain ⟨a3,b2,hm⟩:=aB hm
  refine aR (vs:=[i64 t.N,zS c o.length a.length]) call172 rfl (aGm b2 b1) ?_
  rintro _ d0 ⟨rfl,b3,b4⟩
  refine aG (aK (aY (v:=zS c a3.length a.length) (Eq.trans a2 (congrArg (fun n=>zS c n a.length) b3)) (aD (v:=zS c a3.length a.length) (aG ?_))));obtain rfl:=zI hm
  exact bH (bI results137 rfl ⟨c,a.length,rfl,b4⟩)
 obtain ⟨d1,b6,ho⟩:=aB hm
 refine cJ [0,3] b6 (fun l j f w=>f 4=zS c l.length a.length/\f 5=i64 j/\aJ G K (aN 4 K c a.length l::L) w) ?_ ?_
 ·exact ⟨rfl,rfl,b0⟩
 ·rintro l j b7 f d2 hm hr ⟨r,p,k⟩
  unfold aDu at hm
  refine aO (aK (aY p (aF (v:=cS a1 d) (aC (cM rfl b) (aC (bU (k':=d+3) cU rfl b rfl) (aC (bG (t:=3) eS k b rfl rfl) (aC (bO (len:=t.E.length) cL rfl) (aC (cG rfl rfl) (aG ?_)))))))))
  rcases aH hm with ⟨c48,hm⟩|⟨c48,hm⟩
  ·refine aL c48 rfl (aU (aA (aO (aW [0,3,5] (fun f w=>∃ u,uB j u=some b7/\f 4=zS c u.length a.length/\aJ G K (aN 4 K c a.length u::L) w) ?_ ?_))))
   ·rintro f d3 ⟨u,hm,b8,b9⟩
    unfold uB at hm
    exact aA (aP (aY p (aC (cE rfl rfl) (aD (v:=i64 (wr (j+1))) (aG ⟨_,(zI hm).symm,aM,b8,rfl,b9⟩)))))
   refine aK (aF (v:=cS a1 d) (aC (cM rfl b) (aC (bU (k':=d+3) cU rfl b rfl) (aC (bG (t:=3) eS k b rfl rfl) (aY p ?_)))));obtain ⟨d4,x,hm⟩:=aB hm
   refine aC (cT cL rfl q rfl rfl rfl x) ?_;obtain ⟨d5,m,c0⟩:=cF.el (sz:=3) rfl q x
   cases c0
   refine aC (bU (k':=j.toNat * 3+1) hQ rfl m rfl) (aC (bG (t:=1) cQ k m rfl rfl) (aC (fA rfl rfl) (aG ?_)))
   rcases aH hm with ⟨y,hm⟩|⟨y,hm⟩
   ·refine aL y rfl (dT (C:=fun w'=>∃ L',aJ G K L' w') [(0,0),(1,0),(2,0),(3,0),(4,0),(5,0),(6,0),(7,0),(8,0),(9,0),(10,0),(11,0),(12,0),(13,0),(14,0),(15,0),(16,0),(17,0),(18,0),(19,0),(20,0),(21,2)] bY (by kernel_rfl) (fun _ hg=>⟨_,aJ.mono k hg⟩) (fun d6 c1=>?_))
    have g:=aJ.mono k c1
    refine bQ rfl (fun _ _=>bA r) (bQ rfl (fun _ _=>bA (v:=cS a1 d) rfl) (bQ rfl (fun _ _=>cM rfl b) (bQ rfl (fun _ _=>bU (k':=d+3) cU rfl b rfl) (bQ rfl (fun _ ⟨_,g⟩=>bG (t:=3) eS g b rfl rfl) (bQ rfl (fun _ _=>bA p) (bQ rfl (fun _ _=>cT cL rfl q rfl rfl rfl x) (bQ rfl (fun _ _=>bU (k':=j.toNat * 3+0) gP rfl m rfl) (bQ rfl (fun _ ⟨_,g⟩=>bG (t:=0) cQ g m rfl rfl) (bQ rfl (fun _ _=>bA (v:=i64 t.N) rfl) (bQ rfl (fun _ _=>yR rfl rfl) (bQ rfl (fun _ _=>bA (v:=cS a1 d) rfl) (bQ rfl (fun _ _=>cM rfl b) (bQ rfl (fun _ _=>bU (k':=d+3) cU rfl b rfl) (bQ rfl (fun _ ⟨_,g⟩=>bG (t:=3) eS g b rfl rfl) (bQ rfl (fun _ _=>bA p) (bQ rfl (fun _ _=>cT cL rfl q rfl rfl rfl x) (bQ rfl (fun _ _=>bU (k':=j.toNat * 3+2) gD rfl m rfl) (bQ rfl (fun _ ⟨_,g⟩=>bG (t:=2) cQ g m rfl rfl) (bQ rfl (fun _ _=>cE rfl rfl) ?_)))))))))))))))))))
    obtain ⟨d7,z,hm⟩:=aB hm
    have c2:=cX g (i:=0) rfl z
    refine bQ rfl (fun _ _=>dD eM rfl c2 rfl rfl rfl z) (aGh rfl ?_);obtain ⟨a5,a6,hm⟩:=aB hm
    exact jL (i:=0) (t:=0) (ns:=[zB true]) (e':=(true:Bool)) sizeOf4 g rfl (zR _) rfl rfl rfl z a6 rfl rfl (cY rfl) rfl (fun cs h=>by cases h;rfl) (fun c3 (c4:aJ G K (aN 4 K c a.length a5::L) c3)=>(aG (iO (aX (aA ⟨aM,a5,hm,(Eq.trans r (congrArg (fun n=>zS c n a.length) (iM a6))),c4⟩)))))
   ·exact aI y rfl (aU (aX (aA ⟨aM,l,hm,r,k⟩)))
  ·refine aI c48 rfl (bV (aT (aT ?_)))
   have c6:=hr _ (zI hm).symm
   subst c6
   have hm:(uA t l)=some R:=ho
   clear hr ho
   exact bJ (aA ⟨aM,l,hm,r,k⟩)
theorem aHg {t:cI} {l:Nat} {m:(List Bool)} {a3 u:Int} {R:(List Bool)} (hm:aFw t m a3 u=some R) (hs:aJ G K (L) w) (j:eY K a1 l (zC t a4 c5 a7 c8)) (h6:cF K a4 c5 t.L) (h9:cF K a7 c8 t.E) (p:cF K a10 c11 m):
  Calls prog 138 ([cS a1 l,zS a10 m.length c11,i64 a3,i64 u]:List Value).toArray w (eH fun v w'=>∃ d1 d2,v=zS d1 R.length d2/\aJ G K (aN 4 K d1 d2 R::L) w'):=by
 refine aS func138 rfl (by kernel_rfl) (by show (4:Nat)<=90;decide) ?_;unfold aFw at hm
 refine aK (aD (v:=zS none 0 0) (aG (aK (aF (v:=cS a1 l) (aC (cM rfl j) (aC (bU (k':=l+0) fW rfl j rfl) (aC (bG (t:=0) cQ hs j rfl rfl) (aD (v:=i64 t.N) (aG (aK (aF (v:=i64 t.N) ?_)))))))))));obtain ⟨a,e5,hm⟩:=aB hm
 refine aDh (e:=(false:Bool)) eM ez_4 rfl rfl hs rfl rfl rfl e5 rfl (fun b e6 (d3:aJ G K (aN 4 K b a.length a::L) e6)=>(aD (v:=zS b a.length a.length) (aG (aO (aK (aF (v:=i64 u) (aC (fA rfl rfl) (aG ?_))))))))
 rcases aH hm with ⟨b4,hm⟩|⟨b4,hm⟩
 ·refine aL b4 rfl (aO (aK (aD (v:=i64 0) (aG (aW [] (fun f w=>∃ x,wK x=some R/\f 10=zS b x.length a.length/\aJ G K (aN 4 K b a.length x::L) w) ?_ ?_)))))
  ·rintro f i7 ⟨x,hm,e7,e8⟩
   unfold wK at hm
   refine aA (aK (aY e7 (aD (v:=zS b x.length a.length) (aG ?_))));obtain rfl:=zI hm
   exact bH (aQ (bI results138 rfl ⟨b,a.length,rfl,e8⟩))
  obtain ⟨i8,f0,ho⟩:=aB hm
  refine cJ [1,2,9] f0 (fun y b5 f w=>f 10=zS b y.length a.length/\f 11=i64 b5/\aJ G K (aN 4 K b a.length y::L) w) ?_ ?_
  ·exact ⟨rfl,rfl,d3⟩
  ·rintro y b5 i9 f j0 hm hr ⟨b6,a5,a6⟩
   unfold aEO at hm
   refine aO (aK (aY a5 (aF (v:=i64 t.N) (aC (cG rfl rfl) (aG ?_)))))
   rcases aH hm with ⟨b7,hm⟩|⟨b7,hm⟩
   ·refine aL b7 rfl (aU (aA (aO (cN (aP (aY b6 (aY a5 (aF (v:=zS a10 m.length c11) (aF (v:=i64 a3) (aF (v:=i64 t.N) (aC (yR rfl rfl) (aY a5 (aC (cE rfl rfl) ?_)))))))))))));obtain ⟨d4,d5,hm⟩:=aB hm
    refine aC (cT eM rfl p rfl rfl rfl d5) ?_;obtain ⟨j1,f1,f2⟩:=cF.el (sz:=1) rfl p d5
    cases f2
    refine aC (bG (t:=0) aAU a6 f1 rfl rfl) ?_;obtain ⟨j2,b8,hm⟩:=aB hm
    have f3:=cX a6 (i:=0) rfl b8
    refine aC (dD eM rfl f3 rfl rfl rfl b8) ?_;obtain ⟨f4,d6,hm⟩:=aB hm
    exact jL (i:=0) (t:=0) (ns:=[zB d4]) (e':=(d4:Bool)) sizeOf4 a6 rfl (zR _) rfl rfl rfl b8 d6 rfl rfl (cY rfl) rfl (fun cs h=>by cases h;rfl) (fun f5 (f6:aJ G K (aN 4 K b a.length f4::L) f5)=>(bB (aX (aA (aP (aY a5 (aC (cE rfl rfl) (aD (v:=i64 (wr (b5+1))) (aG ⟨_,(zI hm).symm,aM,(Eq.trans b6 (congrArg (fun n=>zS b n a.length) (iM d6))),rfl,f6⟩)))))))))
   ·refine aI b7 rfl (bV (aT (aT ?_)))
    have f7:=hr _ (zI hm).symm
    subst f7
    have hm:(wK y)=some R:=ho
    clear hr ho
    exact bJ (aA ⟨aM,y,hm,b6,a6⟩)
 ·refine aI b4 rfl (aU (aA (aO (aK (aD (v:=i64 0) (aG (aW [] (fun f w=>∃ z,wL z=some R/\f 10=zS b z.length a.length/\aJ G K (aN 4 K b a.length z::L) w) ?_ ?_)))))))
  ·rintro f j3 ⟨z,hm,f8,f9⟩
   unfold wL at hm
   refine aA (aK (aY f8 (aD (v:=zS b z.length a.length) (aG ?_))));obtain rfl:=zI hm
   exact bH (bI results138 rfl ⟨b,a.length,rfl,f9⟩)
  obtain ⟨j4,g1,ho⟩:=aB hm
  refine cJ [0,1,2,3,9] g1 (fun k o f w=>f 10=zS b k.length a.length/\f 12=i64 o/\aJ G K (aN 4 K b a.length k::L) w) ?_ ?_
  ·exact ⟨rfl,rfl,d3⟩
  ·rintro k o a8 f j5 hm hr ⟨b9,c0,V⟩
   unfold aEQ at hm
   refine aO (aK (aY c0 (aF (v:=cS a1 l) (aC (cM rfl j) (aC (bU (k':=l+3) cU rfl j rfl) (aC (bG (t:=3) eS V j rfl rfl) (aC (bO (len:=t.E.length) cL rfl) (aC (cG rfl rfl) (aG ?_)))))))))
   rcases aH hm with ⟨c1,hm⟩|⟨c1,hm⟩
   ·refine aL c1 rfl (aU (aA (aO (aW [0,1,2,3,9,12] (fun f w=>∃ a9,wM o a9=some a8/\f 10=zS b a9.length a.length/\aJ G K (aN 4 K b a.length a9::L) w) ?_ ?_))))
    ·rintro f j6 ⟨a9,hm,g2,g3⟩
     unfold wM at hm
     exact aA (aP (aY c0 (aC (cE rfl rfl) (aD (v:=i64 (wr (o+1))) (aG ⟨_,(zI hm).symm,aM,g2,rfl,g3⟩)))))
    refine aK (aF (v:=cS a1 l) (aC (cM rfl j) (aC (bU (k':=l+3) cU rfl j rfl) (aC (bG (t:=3) eS V j rfl rfl) (aY c0 ?_)))));obtain ⟨c,d7,hm⟩:=aB hm
    refine aC (cT cL rfl h9 rfl rfl rfl d7) ?_;obtain ⟨j7,g4,g5⟩:=cF.el (sz:=3) rfl h9 d7
    cases g5
    refine aC (eI (t:=0) (vs:=[i64 c.F,i64 c.B,i64 c.To]) kD V g4 rfl rfl rfl) (bZ (vs:=[i64 0,i64 0,i64 0]) zeroValue66 V rfl (fun Z j8 g6=>(cA (i:=0) (ns:=[i64 c.F,i64 c.B,i64 c.To]) (us:=[i64 c.F,i64 c.B,i64 c.To]) sizeOf66 g6 rfl rfl rfl rfl rfl (cY rfl) rfl rfl (fun g7 (a0:aJ G K (box Z 66 [i64 c.F,i64 c.B,i64 c.To]::aN 4 K b a.length k::L) g7)=>(aG (aO (aO (cP [0,1,2,3,9,10,12,13] (fun f w=>∃ c2,wP t m k o c c2=some a8/\f 71=zB c2/\aJ G K (box Z 66 [i64 c.F,i64 c.B,i64 c.To]::aN 4 K b a.length k::L) w) ?_ ?_))))))))
    ·rintro f j9 ⟨c2,hm,d8,d9⟩
     unfold wP at hm
     refine aA ?_
     rcases aH hm with ⟨c3,hm⟩|⟨c3,hm⟩
     ·exact aL c3 d8 (bV (aT (bJ (aA ⟨aM,k,hm,b9,(aJ.arr 1 [] d9 rfl)⟩))))
     ·refine aI c3 d8 (aU (aA (aK (aD (v:=i64 0) (aG (aW [0,1,2,3,9,12] (fun f w=>∃ a2,wN o a2=some a8/\f 10=zS b a2.length a.length/\aJ G K (aN 4 K b a.length a2::L) w) ?_ ?_))))))
      ·rintro f k0 ⟨a2,hm,g8,g9⟩
       unfold wN at hm
       exact aX (aA ⟨aM,a2,hm,g8,g9⟩)
      obtain ⟨k1,h0,ho⟩:=aB hm
      refine cJ [0,1,2,3,9,12,13] h0 (fun q b0 f w=>f 10=zS b q.length a.length/\f 14=i64 b0/\aJ G K (box Z 66 [i64 c.F,i64 c.B,i64 c.To]::aN 4 K b a.length q::L) w) ?_ ?_
      ·exact ⟨b9,rfl,d9⟩
      ·rintro q b0 h1 f k3 hm hr ⟨b1,b2,r⟩
       unfold aEP at hm
       refine aO (aK (aY b2 (aF (v:=i64 t.N) (aC (cG rfl rfl) (aG ?_)))))
       rcases aH hm with ⟨c4,hm⟩|⟨c4,hm⟩
       ·refine aL c4 rfl (aU (aA (aO (aW [0,1,2,3,9,12,13,14] (fun f w=>∃ b3,wO b0 b3=some h1/\f 10=zS b b3.length a.length/\aJ G K (box Z 66 [i64 c.F,i64 c.B,i64 c.To]::aN 4 K b a.length b3::L) w) ?_ ?_))))
        ·rintro f k4 ⟨b3,hm,h2,h4⟩
         unfold wO at hm
         exact aA (aP (aY b2 (aC (cE rfl rfl) (aD (v:=i64 (wr (b0+1))) (aG ⟨_,(zI hm).symm,aM,h2,rfl,h4⟩)))))
        refine aK (aF (v:=zS a10 m.length c11) (aC (bT (t':=2) gD rfl rfl) (aC (dC cQ r (i:=0) rfl rfl rfl) (aF (v:=i64 t.N) (aC (yR rfl rfl) (aY b2 (aC (cE rfl rfl) ?_)))))));obtain ⟨k5,e0,hm⟩:=aB hm
        refine aC (cT eM rfl p rfl rfl rfl e0) ?_;obtain ⟨k6,h5,h7⟩:=cF.el (sz:=1) rfl p e0
        cases h7
        refine aC (bG (t:=0) aAU r h5 rfl rfl) (aG ?_)
        rcases aH hm with ⟨c6,hm⟩|⟨c6,hm⟩
        ·refine aL c6 rfl (aP (aY b1 (aY b2 ?_)));obtain ⟨k7,c7,hm⟩:=aB hm
         have h8:=cX r (i:=1) rfl c7
         refine aC (dD eM rfl h8 rfl rfl rfl c7) ?_;obtain ⟨e1,e2,hm⟩:=aB hm
         exact jL (i:=1) (t:=0) (ns:=[zB true]) (e':=(true:Bool)) sizeOf4 r rfl (zR _) rfl rfl rfl c7 e2 rfl rfl (cY rfl) rfl (fun cs h=>by cases h;rfl) (fun i0 (i1:aJ G K (box Z 66 [i64 c.F,i64 c.B,i64 c.To]::aN 4 K b a.length e1::L) i0)=>(bB (aX (aA ⟨aM,e1,hm,(Eq.trans b1 (congrArg (fun n=>zS b n a.length) (iM e2))),i1⟩))))
        ·exact aI c6 rfl (aU (aX (aA ⟨aM,q,hm,b1,r⟩)))
       ·refine aI c4 rfl (bV (aT (aT ?_)))
        have i2:=hr _ (zI hm).symm
        subst i2
        have hm:(wN o q)=some a8:=ho
        clear hr ho
        exact bJ (aA ⟨aM,q,hm,b1,(aJ.arr 1 [] r rfl)⟩)
    refine aP (aC (bT (t':=1) hQ rfl rfl) (aC (dC cQ a0 (i:=0) rfl rfl rfl) (aF (v:=i64 u) (aC (qQ rfl rfl) (aF (v:=zB (c.B != u)) ?_)))))
    rcases aH hm with ⟨d,hm⟩|⟨d,hm⟩
    ·exact bC d rfl rfl (bC d rfl rfl (bC d rfl rfl (bC d rfl rfl (bC d rfl rfl (bC d rfl rfl (bC d rfl rfl (bC d rfl rfl (bC d rfl rfl (bC d rfl rfl (aC (bL (v:=zB true) d rfl rfl) (aG ⟨aM,true,hm,rfl,a0⟩)))))))))))
    ·refine bK d rfl rfl (aF (v:=zS a10 m.length c11) (bK d rfl rfl (aF (v:=i64 a3) (bK d rfl rfl (aF (v:=i64 t.N) (bK d rfl rfl (aC (yR rfl rfl) (bK d rfl rfl (aC (bT (t':=0) gP rfl rfl) (bK d rfl rfl (aC (dC cQ a0 (i:=0) rfl rfl rfl) (bK d rfl rfl (aC (cE rfl rfl) (bK d rfl rfl ?_))))))))))))));obtain ⟨e3,e4,hm⟩:=aB hm
     refine aC (cT eM rfl p rfl rfl rfl e4) ?_;obtain ⟨k8,i3,i4⟩:=cF.el (sz:=1) rfl p e4
     cases i4
     exact bK d rfl rfl (aC (bG (t:=0) aAU a0 i3 rfl rfl) (bK d rfl rfl (aC (dE rfl) (aC (bP (v:=zB (!e3)) d rfl rfl) (aG ⟨aM,!e3,hm,rfl,a0⟩)))))
   ·refine aI c1 rfl (bV (aT (aT ?_)))
    have i5:=hr _ (zI hm).symm
    subst i5
    have hm:(wL k)=some R:=ho
    clear hr ho
    exact bJ (aA ⟨aM,k,hm,b9,V⟩)
theorem aEk {t:cI} {n:Nat} {R:cI} (hm:aAo t=some R) (hs:aJ G K (L) w) (m:eY K a1 n (zC t a4 c5 a7 c8)) (Z:cF K a4 c5 t.L) (h9:cF K a7 c8 t.E):
  Calls prog 92 ([cS a1 n]:List Value).toArray w (eH fun v w'=>∃ m5 m6 m7 m8,v=Value.agg (zCa R m5 m6 m7 m8)/\aJ G K (aN 9 K m5 m6 R.L::aN 66 K m7 m8 R.E::L) w'):=by
 let a:=zG
 refine aS func92 rfl (by kernel_rfl) (by show (1:Nat)<=71;decide) ?_;unfold aAo at hm
 refine aK (bZ (vs:=a) zeroValue27 hs rfl (fun b y7 p0=>(aG (aO (cP [0,2] (fun f w=>∃ c u d e g6 g7,rM t c=some R/\f 3=Value.pointer (some ⟨u,0,none⟩)/\aJ G K (aN 66 K g6 g7 ([]:List Edge)::aN 9 K d e c::box u 27 [i64 t.N,i64 t.I,zS d c.length e,zS g6 ([]:List Edge).length g7]::box b 27 a::L) w) ?_ ?_)))))
 ·rintro f y8 ⟨c,u,d,e,g6,g7,hm,i9,p1⟩
  unfold rM at hm
  refine aA (aK (aF (v:=cS a1 n) ?_));obtain ⟨x,p2,hm⟩:=aB hm
  refine aR (vs:=[cS a1 n]) call137 rfl (aGn p2 p1 m Z h9) ?_
  rintro _ y9 ⟨y,z,rfl,p3⟩
  refine aD (v:=zS y x.length z) (aG (aO (aK (aD (v:=i64 0) (aG (aW [2,3] (fun f w=>∃ a3 a5 a6,oD t c a3=some R/\aJ G K (aN 66 K a5 a6 a3::aN 9 K d e c::box u 27 [i64 t.N,i64 t.I,zS d c.length e,zS a5 a3.length a6]::box b 27 a::L) w) ?_ ?_))))))
  ·rintro f z0 ⟨a3,a5,a6,hm,m9⟩
   unfold oD at hm
   refine aA (aK (aC (dI (us:=[i64 t.N,i64 t.I,zS d c.length e,zS a5 a3.length a6]) cV m9 (i:=2) rfl i9 rfl rfl) (cA (i:=3) (ns:=[i64 t.N,i64 t.I,zS d c.length e,zS a5 a3.length a6]) (us:=[i64 t.N,i64 t.I,zS d c.length e,zS a5 a3.length a6]) sizeOf27 m9 rfl rfl rfl rfl rfl (cY rfl) rfl rfl (fun p4 (n0:aJ G K (aN 66 K a5 a6 a3::aN 9 K d e c::box u 27 [i64 t.N,i64 t.I,zS d c.length e,zS a5 a3.length a6]::box b 27 [i64 t.N,i64 t.I,zS d c.length e,zS a5 a3.length a6]::L) p4)=>(aG ?_)))))
   obtain rfl:=zI hm
   exact bH (pD results92 (fK (vs:=[i64 t.N,i64 t.I,zS d c.length e,zS a5 a3.length a6]) rfl cV n0 (i:=3) rfl rfl rfl) ⟨d,e,a5,a6,rfl,(aJ.arr 4 [1,0] n0 rfl)⟩)
  obtain ⟨z1,p6,ho⟩:=aB hm
  refine cJ [0,2,3,4] p6 (fun f9 a0 f w=>∃ g0 c48,f 5=i64 a0/\aJ G K (aN 4 K y z x::aN 66 K g0 c48 f9::aN 9 K d e c::box u 27 [i64 t.N,i64 t.I,zS d c.length e,zS g0 f9.length c48]::box b 27 a::L) w) ?_ ?_
  ·exact ⟨g6,g7,rfl,p3⟩
  ·rintro f9 a0 j0 f z2 hm hr ⟨g0,c48,g8,j1⟩
   unfold aAH at hm
   refine aO (aK (aY g8 (aF (v:=cS a1 n) (aC (cM rfl m) (aC (bU (k':=n+0) fW rfl m rfl) (aC (bG (t:=0) cQ j1 m rfl rfl) (aC (cG rfl rfl) (aG ?_))))))))
   rcases aH hm with ⟨j2,hm⟩|⟨j2,hm⟩
   ·refine aL j2 rfl (aU (aA (aO (aW [0,2,3,4,5] (fun f w=>∃ g9 h0 h1,tB a0 g9=some j0/\aJ G K (aN 66 K h0 h1 g9::aN 4 K y z x::aN 9 K d e c::box u 27 [i64 t.N,i64 t.I,zS d c.length e,zS h0 g9.length h1]::box b 27 a::L) w) ?_ ?_))))
    ·rintro f z3 ⟨g9,h0,h1,hm,p7⟩
     unfold tB at hm
     exact aA (aP (aY g8 (aC (cE rfl rfl) (aD (v:=i64 (wr (a0+1))) (aG ⟨_,(zI hm).symm,aM,h0,h1,rfl,(aJ.arr 2 [1,0] p7 rfl)⟩)))))
    refine aK (aD (v:=i64 0) (aG (aW [0,2,3,4,5] (fun f w=>∃ g1 h2 h4,oE a0 g1=some j0/\aJ G K (aN 66 K h2 h4 g1::aN 4 K y z x::aN 9 K d e c::box u 27 [i64 t.N,i64 t.I,zS d c.length e,zS h2 g1.length h4]::box b 27 a::L) w) ?_ ?_)))
    ·rintro f z4 ⟨g1,h2,h4,hm,p8⟩
     unfold oE at hm
     exact aX (aA ⟨aM,g1,h2,h4,hm,p8⟩)
    obtain ⟨z5,p9,ho⟩:=aB hm
    refine cJ [0,2,3,4,5] p9 (fun g2 a2 f w=>∃ g3 g4,f 6=i64 a2/\aJ G K (aN 4 K y z x::aN 66 K g3 g4 g2::aN 9 K d e c::box u 27 [i64 t.N,i64 t.I,zS d c.length e,zS g3 g2.length g4]::box b 27 a::L) w) ?_ ?_
    ·exact ⟨g0,c48,rfl,j1⟩
    ·rintro g2 a2 j3 f z6 hm hr ⟨g3,g4,h5,j4⟩
     unfold aAG at hm
     refine aO (aK (aY h5 (aF (v:=cS a1 n) (aC (cM rfl m) (aC (bU (k':=n+2) eU rfl m rfl) (aC (bG (t:=2) eR j4 m rfl rfl) (aC (bO (len:=t.L.length) bX rfl) (aC (cG rfl rfl) (aG ?_)))))))))
     rcases aH hm with ⟨j5,hm⟩|⟨j5,hm⟩
     ·refine aL j5 rfl (aU (aA (aO (aW [0,2,3,4,5,6] (fun f w=>∃ h7 h8 i0,tC a2 h7=some j3/\aJ G K (aN 66 K h8 i0 h7::aN 4 K y z x::aN 9 K d e c::box u 27 [i64 t.N,i64 t.I,zS d c.length e,zS h8 h7.length i0]::box b 27 a::L) w) ?_ ?_))))
      ·rintro f z7 ⟨h7,h8,i0,hm,q0⟩
       unfold tC at hm
       exact aA (aP (aY h5 (aC (cE rfl rfl) (aD (v:=i64 (wr (a2+1))) (aG ⟨_,(zI hm).symm,aM,h8,i0,rfl,(aJ.arr 2 [1,0] q0 rfl)⟩)))))
      refine aK (aF (v:=cS a1 n) (aF (v:=zS y x.length z) (aY g8 (aY h5 ?_))));obtain ⟨z8,j6,q1,q2,q3⟩:=aJ.lendSp j4 (zR _) .head
      obtain ⟨f2,q4,hm⟩:=aB hm
      refine aR (vs:=[cS a1 n,zS y x.length z,i64 a0,i64 a2]) call138 rfl (aHg q4 q2 (m.mono j6) (Z.mono j6) (h9.mono j6) q1) ?_
      rintro _ z9 ⟨f3,f4,rfl,q5⟩
      have q6:=q3 _ _ q5
      refine aD (v:=zS f3 f2.length f4) (aG (aK (aD (v:=i64 0) (aG (aW [0,2,3,4,5,6] (fun f w=>∃ g5 i1 i2,oF a2 g5=some j3/\aJ G K (aN 66 K i1 i2 g5::aN 4 K y z x::aN 9 K d e c::box u 27 [i64 t.N,i64 t.I,zS d c.length e,zS i1 g5.length i2]::box b 27 a::L) w) ?_ ?_)))))
      ·rintro f a00 ⟨g5,i1,i2,hm,q7⟩
       unfold oF at hm
       exact aX (aA ⟨aM,g5,i1,i2,hm,q7⟩)
      obtain ⟨a01,q8,ho⟩:=aB hm
      refine cJ [0,2,3,4,5,6,7] q8 (fun b0 a8 f w=>∃ b9 c0,f 8=i64 a8/\aJ G K (aN 4 K y z x::aN 4 K f3 f4 f2::aN 66 K b9 c0 b0::aN 9 K d e c::box u 27 [i64 t.N,i64 t.I,zS d c.length e,zS b9 b0.length c0]::box b 27 a::L) w) ?_ ?_
      ·exact ⟨g3,g4,rfl,q6⟩
      ·rintro b0 a8 q9 f a02 hm hr ⟨b9,c0,i3,f5⟩
       unfold aAF at hm
       refine aO (aK (aY i3 (aF (v:=cS a1 n) (aC (cM rfl m) (aC (bU (k':=n+0) fW rfl m rfl) (aC (bG (t:=0) cQ f5 m rfl rfl) (aC (cG rfl rfl) (aG ?_))))))))
       rcases aH hm with ⟨j7,hm⟩|⟨j7,hm⟩
       ·refine aL j7 rfl (aU (aA (aO (aW [0,2,3,4,5,6,7,8] (fun f w=>∃ i4 i5 i6,oG a8 i4=some q9/\aJ G K (aN 66 K i5 i6 i4::aN 4 K y z x::aN 4 K f3 f4 f2::aN 9 K d e c::box u 27 [i64 t.N,i64 t.I,zS d c.length e,zS i5 i4.length i6]::box b 27 a::L) w) ?_ ?_))))
        ·rintro f a03 ⟨i4,i5,i6,hm,r0⟩
         unfold oG at hm
         exact aA (aP (aY i3 (aC (cE rfl rfl) (aD (v:=i64 (wr (a8+1))) (aG ⟨_,(zI hm).symm,aM,i5,i6,rfl,(aJ.arr 3 [1,2,0] r0 rfl)⟩)))))
        refine aK (aF (v:=zS f3 f2.length f4) (aY i3 ?_));obtain ⟨a04,j8,hm⟩:=aB hm
        have r1:=cX f5 (i:=1) rfl j8
        refine aC (dD eM rfl r1 rfl rfl rfl j8) (aC (gX (t:=0) aAU f5 (i:=1) rfl j8 rfl rfl rfl) (aG ?_))
        rcases aH hm with ⟨j9,hm⟩|⟨j9,hm⟩
        ·refine aL j9 rfl (aP (aC (bT (t':=3) cU i9 rfl) (aC (dC eS f5 (i:=4) rfl rfl rfl) (aY g8 (aY h5 (aY i3 (aC (dF (vs:=[(0,i64 a0),(1,i64 a2),(2,i64 a8)]) (cs:=[i64 a0,i64 a2,i64 a8]) aDl rfl (by kernel_rfl)) (cB (Kt:=K) (xs:=([⟨a0,a2,a8⟩]:List Edge)) (cs:=[i64 a0,i64 a2,i64 a8]) (vs:=[(0,Value.agg #[i64 a0,i64 a2,i64 a8])]) cL gC rfl rfl f5 rfl (by kernel_rfl) rfl rfl rfl ⟨rfl,trivial⟩ (fun r2 r3 (r4:aJ G K (aN 66 K r2 1 ([⟨a0,a2,a8⟩]:List Edge)::aN 4 K y z x::aN 4 K f3 f4 f2::aN 66 K b9 c0 b0::aN 9 K d e c::box u 27 [i64 t.N,i64 t.I,zS d c.length e,zS b9 b0.length c0]::box b 27 a::L) r3)=>?_)))))))))
         obtain ⟨f6,r5,hm⟩:=aB hm
         exact dG (i:=2) cL underlying25 gC rfl rfl r4 rfl (zR _) (zR _) r5 rfl rfl rfl rfl (fun _ h=>h) (fun f7 f8 r6 (r7:aJ G K (aN 4 K y z x::aN 4 K f3 f4 f2::aN 66 K f7 f8 f6::aN 9 K d e c::box u 27 [i64 t.N,i64 t.I,zS d c.length e,zS b9 b0.length c0]::box b 27 a::L) r6)=>(aC (bT (t':=3) cU i9 rfl) (cA (i:=4) (ns:=[zS f7 f6.length f8]) (us:=[i64 t.N,i64 t.I,zS d c.length e,zS f7 f6.length f8]) sizeOf25 r7 rfl rfl rfl rfl rfl (cY rfl) rfl rfl (fun r8 (r9:aJ G K (aN 4 K y z x::aN 4 K f3 f4 f2::aN 66 K f7 f8 f6::aN 9 K d e c::box u 27 [i64 t.N,i64 t.I,zS d c.length e,zS f7 f6.length f8]::box b 27 a::L) r8)=>(bB (aX (aA ⟨aM,f6,f7,f8,hm,(aJ.arr 3 [2,0,1] r9 rfl)⟩)))))))
        ·exact aI j9 rfl (aU (aX (aA ⟨aM,b0,b9,c0,hm,(aJ.arr 3 [2,0,1] f5 rfl)⟩)))
       ·refine aI j7 rfl (bV (aT (aT ?_)))
        have s0:=hr _ (zI hm).symm
        subst s0
        have hm:(oF a2 b0)=some j3:=ho
        clear hr ho
        exact bJ (aA ⟨aM,b0,b9,c0,hm,(aJ.arr 3 [2,0] f5 rfl)⟩)
     ·refine aI j5 rfl (bV (aT (aT ?_)))
      have s1:=hr _ (zI hm).symm
      subst s1
      have hm:(oE a0 g2)=some j0:=ho
      clear hr ho
      exact bJ (aA ⟨aM,g2,g3,g4,hm,(aJ.arr 2 [1,0] j4 rfl)⟩)
   ·refine aI j2 rfl (bV (aT (aT ?_)))
    have s2:=hr _ (zI hm).symm
    subst s2
    have hm:(oD t c f9)=some R:=ho
    clear hr ho
    exact bJ (aA ⟨aM,f9,g0,c48,hm,(aJ.arr 1 [] j1 rfl)⟩)
 refine xJ (C:=fun w'=>∃ L',aJ G K L' w') [17] bY (by kernel_rfl) (fun a05 s3=>?_)
 have l:=aJ.mono p0 s3
 refine dZ (i:=0) rfl (by kernel_rfl) ⟨_,l⟩ (fun _ _=>bA (v:=cS a1 n) rfl) (dZ (i:=1) rfl (by kernel_rfl) ⟨_,l⟩ (fun _ _=>cM rfl m) (dZ (i:=2) rfl (by kernel_rfl) ⟨_,l⟩ (fun _ _=>bU (k':=n+0) fW rfl m rfl) (dZ (i:=3) rfl (by kernel_rfl) ⟨_,l⟩ (fun _ ⟨_,l⟩=>bG (t:=0) cQ l m rfl rfl) (dZ (i:=4) rfl (by kernel_rfl) ⟨_,l⟩ (fun _ _=>bA (v:=cS a1 n) rfl) (dZ (i:=5) rfl (by kernel_rfl) ⟨_,l⟩ (fun _ _=>cM rfl m) (dZ (i:=6) rfl (by kernel_rfl) ⟨_,l⟩ (fun _ _=>bU (k':=n+1) mR rfl m rfl) (dZ (i:=7) rfl (by kernel_rfl) ⟨_,l⟩ (fun _ ⟨_,l⟩=>bG (t:=1) cQ l m rfl rfl) (dZ (i:=9) rfl (by kernel_rfl) ⟨_,l⟩ (fun _ _=>bA (v:=cS a1 n) rfl) (dZ (i:=10) rfl (by kernel_rfl) ⟨_,l⟩ (fun _ _=>cM rfl m) (dZ (i:=11) rfl (by kernel_rfl) ⟨_,l⟩ (fun _ _=>bU (k':=n+2) eU rfl m rfl) (dZ (i:=12) rfl (by kernel_rfl) ⟨_,l⟩ (fun _ ⟨_,l⟩=>bG (t:=2) eR l m rfl rfl) (WA_act3 (i:=8) (j:=14) (k:=16) (by kernel_rfl) rfl rfl rfl ?_ ?_ ?_))))))))))))
 ·refine cB (Kt:=K) (xs:=([]:List aZ)) (cs:=[]) (vs:=[]) bX iA rfl rfl l rfl (by kernel_rfl) rfl rfl rfl trivial (fun k0 s4 (i7:aJ G K (aN 9 K k0 0 ([]:List aZ)::box b 27 a::L) s4)=>(bB (aA ⟨fun _=>⟨_,i7⟩,?_⟩)))
  refine WA_act3 (i:=13) (j:=14) (k:=16) (by kernel_rfl) rfl rfl rfl ?_ ?_ ?_
  ·obtain ⟨o,s5,hm⟩:=aB hm
   refine kP (i:=0) bX underlying24 iA rfl rfl i7 rfl (zR _) Z s5 rfl rfl rfl rfl (fun p q s6 (k1:aJ G K (aN 9 K p q o::box b 27 a::L) s6)=>(bB (aA ⟨fun _=>⟨_,k1⟩,?_⟩)))
   refine lV (i:=14) (j:=16) (by kernel_rfl) rfl rfl ?_ ?_
   ·refine cB (Kt:=K) (xs:=([]:List Edge)) (cs:=[]) (vs:=[]) cL gC rfl rfl k1 rfl (by kernel_rfl) rfl rfl rfl trivial (fun c1 s7 (k3:aJ G K (aN 66 K c1 0 ([]:List Edge)::aN 9 K p q o::box b 27 a::L) s7)=>(bB (aA ⟨fun _=>⟨_,k3⟩,?_⟩)))
    refine dZ (i:=15) rfl (by kernel_rfl) ⟨_,k3⟩ (fun _ _=>dF (vs:=[(0,i64 t.N),(1,i64 t.I),(2,zS p o.length q),(3,zS c1 ([]:List Edge).length 0)]) (cs:=[i64 t.N,i64 t.I,zS p o.length q,zS c1 ([]:List Edge).length 0]) mQ rfl (by kernel_rfl)) (cK (i:=16) (by kernel_rfl) rfl (bZ (vs:=a) zeroValue27 k3 rfl (fun n1 a06 n2=>(bB (aA ⟨fun _=>⟨_,n2⟩,?_⟩)))))
    refine cK (i:=17) (by kernel_rfl) rfl (cA (i:=0) (ns:=[i64 t.N,i64 t.I,zS p o.length q,zS c1 ([]:List Edge).length 0]) (us:=[i64 t.N,i64 t.I,zS p o.length q,zS c1 ([]:List Edge).length 0]) sizeOf27 n2 rfl rfl rfl rfl rfl (cY rfl) rfl rfl (fun s8 (s9:aJ G K (box n1 27 [i64 t.N,i64 t.I,zS p o.length q,zS c1 ([]:List Edge).length 0]::aN 66 K c1 0 ([]:List Edge)::aN 9 K p q o::box b 27 a::L) s8)=>(bB (aA ⟨aDQ rfl,?_⟩))))
    exact gU (by kernel_rfl) (aA ⟨aM,o,n1,p,q,c1,0,hm,rfl,(aJ.arr 3 [1,2,0] s9 rfl)⟩)
   ·refine bZ (vs:=a) zeroValue27 k1 rfl (fun k4 a07 n3=>(bB (aA ⟨fun _=>⟨_,n3⟩,?_⟩)))
    refine cK (i:=14) (by kernel_rfl) rfl (cB (Kt:=K) (xs:=([]:List Edge)) (cs:=[]) (vs:=[]) cL gC rfl rfl n3 rfl (by kernel_rfl) rfl rfl rfl trivial (fun c2 t0 (k5:aJ G K (aN 66 K c2 0 ([]:List Edge)::box k4 27 a::aN 9 K p q o::box b 27 a::L) t0)=>(bB (aA ⟨fun _=>⟨_,k5⟩,?_⟩))))
    refine dZ (i:=15) rfl (by kernel_rfl) ⟨_,k5⟩ (fun _ _=>dF (vs:=[(0,i64 t.N),(1,i64 t.I),(2,zS p o.length q),(3,zS c2 ([]:List Edge).length 0)]) (cs:=[i64 t.N,i64 t.I,zS p o.length q,zS c2 ([]:List Edge).length 0]) mQ rfl (by kernel_rfl)) (cK (i:=17) (by kernel_rfl) rfl (cA (i:=1) (ns:=[i64 t.N,i64 t.I,zS p o.length q,zS c2 ([]:List Edge).length 0]) (us:=[i64 t.N,i64 t.I,zS p o.length q,zS c2 ([]:List Edge).length 0]) sizeOf27 k5 rfl rfl rfl rfl rfl (cY rfl) rfl rfl (fun t1 (t2:aJ G K (aN 66 K c2 0 ([]:List Edge)::box k4 27 [i64 t.N,i64 t.I,zS p o.length q,zS c2 ([]:List Edge).length 0]::aN 9 K p q o::box b 27 a::L) t1)=>(bB (aA ⟨aDQ rfl,?_⟩)))))
    exact gU (by kernel_rfl) (aA ⟨aM,o,k4,p,q,c2,0,hm,rfl,(aJ.arr 3 [0,2,1] t2 rfl)⟩)
  ·refine cB (Kt:=K) (xs:=([]:List Edge)) (cs:=[]) (vs:=[]) cL gC rfl rfl i7 rfl (by kernel_rfl) rfl rfl rfl trivial (fun r t3 (k6:aJ G K (aN 66 K r 0 ([]:List Edge)::aN 9 K k0 0 ([]:List aZ)::box b 27 a::L) t3)=>(bB (aA ⟨fun _=>⟨_,k6⟩,?_⟩)))
   refine lV (i:=13) (j:=16) (by kernel_rfl) rfl rfl ?_ ?_
   ·obtain ⟨c3,t4,hm⟩:=aB hm
    refine kP (i:=1) bX underlying24 iA rfl rfl k6 rfl (zR _) Z t4 rfl rfl rfl rfl (fun c4 c6 t5 (k7:aJ G K (aN 66 K r 0 ([]:List Edge)::aN 9 K c4 c6 c3::box b 27 a::L) t5)=>(bB (aA ⟨fun _=>⟨_,k7⟩,?_⟩)))
    refine dZ (i:=15) rfl (by kernel_rfl) ⟨_,k7⟩ (fun _ _=>dF (vs:=[(0,i64 t.N),(1,i64 t.I),(2,zS c4 c3.length c6),(3,zS r ([]:List Edge).length 0)]) (cs:=[i64 t.N,i64 t.I,zS c4 c3.length c6,zS r ([]:List Edge).length 0]) mQ rfl (by kernel_rfl)) (cK (i:=16) (by kernel_rfl) rfl (bZ (vs:=a) zeroValue27 k7 rfl (fun n4 a08 n5=>(bB (aA ⟨fun _=>⟨_,n5⟩,?_⟩)))))
    refine cK (i:=17) (by kernel_rfl) rfl (cA (i:=0) (ns:=[i64 t.N,i64 t.I,zS c4 c3.length c6,zS r ([]:List Edge).length 0]) (us:=[i64 t.N,i64 t.I,zS c4 c3.length c6,zS r ([]:List Edge).length 0]) sizeOf27 n5 rfl rfl rfl rfl rfl (cY rfl) rfl rfl (fun t6 (t7:aJ G K (box n4 27 [i64 t.N,i64 t.I,zS c4 c3.length c6,zS r ([]:List Edge).length 0]::aN 66 K r 0 ([]:List Edge)::aN 9 K c4 c6 c3::box b 27 a::L) t6)=>(bB (aA ⟨aDQ rfl,?_⟩))))
    exact gU (by kernel_rfl) (aA ⟨aM,c3,n4,c4,c6,r,0,hm,rfl,(aJ.arr 3 [1,2,0] t7 rfl)⟩)
   ·refine bZ (vs:=a) zeroValue27 k6 rfl (fun k8 a09 n6=>(bB (aA ⟨fun _=>⟨_,n6⟩,?_⟩)))
    refine cK (i:=13) (by kernel_rfl) rfl ?_;obtain ⟨c7,t8,hm⟩:=aB hm
    refine kP (i:=2) bX underlying24 iA rfl rfl n6 rfl (zR _) Z t8 rfl rfl rfl rfl (fun c9 d0 t9 (k9:aJ G K (box k8 27 a::aN 66 K r 0 ([]:List Edge)::aN 9 K c9 d0 c7::box b 27 a::L) t9)=>(bB (aA ⟨fun _=>⟨_,k9⟩,?_⟩)))
    refine dZ (i:=15) rfl (by kernel_rfl) ⟨_,k9⟩ (fun _ _=>dF (vs:=[(0,i64 t.N),(1,i64 t.I),(2,zS c9 c7.length d0),(3,zS r ([]:List Edge).length 0)]) (cs:=[i64 t.N,i64 t.I,zS c9 c7.length d0,zS r ([]:List Edge).length 0]) mQ rfl (by kernel_rfl)) (cK (i:=17) (by kernel_rfl) rfl (cA (i:=0) (ns:=[i64 t.N,i64 t.I,zS c9 c7.length d0,zS r ([]:List Edge).length 0]) (us:=[i64 t.N,i64 t.I,zS c9 c7.length d0,zS r ([]:List Edge).length 0]) sizeOf27 k9 rfl rfl rfl rfl rfl (cY rfl) rfl rfl (fun u0 (u1:aJ G K (box k8 27 [i64 t.N,i64 t.I,zS c9 c7.length d0,zS r ([]:List Edge).length 0]::aN 66 K r 0 ([]:List Edge)::aN 9 K c9 d0 c7::box b 27 a::L) u0)=>(bB (aA ⟨aDQ rfl,?_⟩)))))
    exact gU (by kernel_rfl) (aA ⟨aM,c7,k8,c9,d0,r,0,hm,rfl,(aJ.arr 3 [1,2,0] u1 rfl)⟩)
  ·refine bZ (vs:=a) zeroValue27 i7 rfl (fun d1 a10 l0=>(bB (aA ⟨fun _=>⟨_,l0⟩,?_⟩)))
   refine lV (i:=13) (j:=14) (by kernel_rfl) rfl rfl ?_ ?_
   ·obtain ⟨b1,u2,hm⟩:=aB hm
    refine kP (i:=1) bX underlying24 iA rfl rfl l0 rfl (zR _) Z u2 rfl rfl rfl rfl (fun b2 b3 u3 (n7:aJ G K (box d1 27 a::aN 9 K b2 b3 b1::box b 27 a::L) u3)=>(bB (aA ⟨fun _=>⟨_,n7⟩,?_⟩)))
    refine cK (i:=14) (by kernel_rfl) rfl (cB (Kt:=K) (xs:=([]:List Edge)) (cs:=[]) (vs:=[]) cL gC rfl rfl n7 rfl (by kernel_rfl) rfl rfl rfl trivial (fun d2 u4 (l1:aJ G K (aN 66 K d2 0 ([]:List Edge)::box d1 27 a::aN 9 K b2 b3 b1::box b 27 a::L) u4)=>(bB (aA ⟨fun _=>⟨_,l1⟩,?_⟩))))
    refine dZ (i:=15) rfl (by kernel_rfl) ⟨_,l1⟩ (fun _ _=>dF (vs:=[(0,i64 t.N),(1,i64 t.I),(2,zS b2 b1.length b3),(3,zS d2 ([]:List Edge).length 0)]) (cs:=[i64 t.N,i64 t.I,zS b2 b1.length b3,zS d2 ([]:List Edge).length 0]) mQ rfl (by kernel_rfl)) (cK (i:=17) (by kernel_rfl) rfl (cA (i:=1) (ns:=[i64 t.N,i64 t.I,zS b2 b1.length b3,zS d2 ([]:List Edge).length 0]) (us:=[i64 t.N,i64 t.I,zS b2 b1.length b3,zS d2 ([]:List Edge).length 0]) sizeOf27 l1 rfl rfl rfl rfl rfl (cY rfl) rfl rfl (fun u5 (u6:aJ G K (aN 66 K d2 0 ([]:List Edge)::box d1 27 [i64 t.N,i64 t.I,zS b2 b1.length b3,zS d2 ([]:List Edge).length 0]::aN 9 K b2 b3 b1::box b 27 a::L) u5)=>(bB (aA ⟨aDQ rfl,?_⟩)))))
    exact gU (by kernel_rfl) (aA ⟨aM,b1,d1,b2,b3,d2,0,hm,rfl,(aJ.arr 3 [0,2,1] u6 rfl)⟩)
   ·refine cB (Kt:=K) (xs:=([]:List Edge)) (cs:=[]) (vs:=[]) cL gC rfl rfl l0 rfl (by kernel_rfl) rfl rfl rfl trivial (fun b4 u7 (n8:aJ G K (aN 66 K b4 0 ([]:List Edge)::box d1 27 a::aN 9 K k0 0 ([]:List aZ)::box b 27 a::L) u7)=>(bB (aA ⟨fun _=>⟨_,n8⟩,?_⟩)))
    refine cK (i:=13) (by kernel_rfl) rfl ?_;obtain ⟨d3,u8,hm⟩:=aB hm
    refine kP (i:=2) bX underlying24 iA rfl rfl n8 rfl (zR _) Z u8 rfl rfl rfl rfl (fun d4 d5 u9 (l2:aJ G K (aN 66 K b4 0 ([]:List Edge)::box d1 27 a::aN 9 K d4 d5 d3::box b 27 a::L) u9)=>(bB (aA ⟨fun _=>⟨_,l2⟩,?_⟩)))
    refine dZ (i:=15) rfl (by kernel_rfl) ⟨_,l2⟩ (fun _ _=>dF (vs:=[(0,i64 t.N),(1,i64 t.I),(2,zS d4 d3.length d5),(3,zS b4 ([]:List Edge).length 0)]) (cs:=[i64 t.N,i64 t.I,zS d4 d3.length d5,zS b4 ([]:List Edge).length 0]) mQ rfl (by kernel_rfl)) (cK (i:=17) (by kernel_rfl) rfl (cA (i:=1) (ns:=[i64 t.N,i64 t.I,zS d4 d3.length d5,zS b4 ([]:List Edge).length 0]) (us:=[i64 t.N,i64 t.I,zS d4 d3.length d5,zS b4 ([]:List Edge).length 0]) sizeOf27 l2 rfl rfl rfl rfl rfl (cY rfl) rfl rfl (fun v0 (v1:aJ G K (aN 66 K b4 0 ([]:List Edge)::box d1 27 [i64 t.N,i64 t.I,zS d4 d3.length d5,zS b4 ([]:List Edge).length 0]::aN 9 K d4 d5 d3::box b 27 a::L) v0)=>(bB (aA ⟨aDQ rfl,?_⟩)))))
    exact gU (by kernel_rfl) (aA ⟨aM,d3,d1,d4,d5,b4,0,hm,rfl,(aJ.arr 3 [0,2,1] v1 rfl)⟩)
 ·refine cB (Kt:=K) (xs:=([]:List Edge)) (cs:=[]) (vs:=[]) cL gC rfl rfl l rfl (by kernel_rfl) rfl rfl rfl trivial (fun g v2 (l3:aJ G K (aN 66 K g 0 ([]:List Edge)::box b 27 a::L) v2)=>(bB (aA ⟨fun _=>⟨_,l3⟩,?_⟩)))
  refine lV (i:=8) (j:=16) (by kernel_rfl) rfl rfl ?_ ?_
  ·refine cB (Kt:=K) (xs:=([]:List aZ)) (cs:=[]) (vs:=[]) bX iA rfl rfl l3 rfl (by kernel_rfl) rfl rfl rfl trivial (fun v3 v4 (l4:aJ G K (aN 9 K v3 0 ([]:List aZ)::aN 66 K g 0 ([]:List Edge)::box b 27 a::L) v4)=>(bB (aA ⟨fun _=>⟨_,l4⟩,?_⟩)))
   refine lV (i:=13) (j:=16) (by kernel_rfl) rfl rfl ?_ ?_
   ·obtain ⟨d6,v5,hm⟩:=aB hm
    refine kP (i:=0) bX underlying24 iA rfl rfl l4 rfl (zR _) Z v5 rfl rfl rfl rfl (fun d7 d8 v6 (l5:aJ G K (aN 9 K d7 d8 d6::aN 66 K g 0 ([]:List Edge)::box b 27 a::L) v6)=>(bB (aA ⟨fun _=>⟨_,l5⟩,?_⟩)))
    refine dZ (i:=15) rfl (by kernel_rfl) ⟨_,l5⟩ (fun _ _=>dF (vs:=[(0,i64 t.N),(1,i64 t.I),(2,zS d7 d6.length d8),(3,zS g ([]:List Edge).length 0)]) (cs:=[i64 t.N,i64 t.I,zS d7 d6.length d8,zS g ([]:List Edge).length 0]) mQ rfl (by kernel_rfl)) (cK (i:=16) (by kernel_rfl) rfl (bZ (vs:=a) zeroValue27 l5 rfl (fun n9 a11 o0=>(bB (aA ⟨fun _=>⟨_,o0⟩,?_⟩)))))
    refine cK (i:=17) (by kernel_rfl) rfl (cA (i:=0) (ns:=[i64 t.N,i64 t.I,zS d7 d6.length d8,zS g ([]:List Edge).length 0]) (us:=[i64 t.N,i64 t.I,zS d7 d6.length d8,zS g ([]:List Edge).length 0]) sizeOf27 o0 rfl rfl rfl rfl rfl (cY rfl) rfl rfl (fun v7 (v8:aJ G K (box n9 27 [i64 t.N,i64 t.I,zS d7 d6.length d8,zS g ([]:List Edge).length 0]::aN 9 K d7 d8 d6::aN 66 K g 0 ([]:List Edge)::box b 27 a::L) v7)=>(bB (aA ⟨aDQ rfl,?_⟩))))
    exact gU (by kernel_rfl) (aA ⟨aM,d6,n9,d7,d8,g,0,hm,rfl,(aJ.arr 3 [2,1,0] v8 rfl)⟩)
   ·refine bZ (vs:=a) zeroValue27 l4 rfl (fun l6 a12 o1=>(bB (aA ⟨fun _=>⟨_,o1⟩,?_⟩)))
    refine cK (i:=13) (by kernel_rfl) rfl ?_;obtain ⟨d9,v9,hm⟩:=aB hm
    refine kP (i:=1) bX underlying24 iA rfl rfl o1 rfl (zR _) Z v9 rfl rfl rfl rfl (fun e0 e1 w0 (l7:aJ G K (box l6 27 a::aN 9 K e0 e1 d9::aN 66 K g 0 ([]:List Edge)::box b 27 a::L) w0)=>(bB (aA ⟨fun _=>⟨_,l7⟩,?_⟩)))
    refine dZ (i:=15) rfl (by kernel_rfl) ⟨_,l7⟩ (fun _ _=>dF (vs:=[(0,i64 t.N),(1,i64 t.I),(2,zS e0 d9.length e1),(3,zS g ([]:List Edge).length 0)]) (cs:=[i64 t.N,i64 t.I,zS e0 d9.length e1,zS g ([]:List Edge).length 0]) mQ rfl (by kernel_rfl)) (cK (i:=17) (by kernel_rfl) rfl (cA (i:=0) (ns:=[i64 t.N,i64 t.I,zS e0 d9.length e1,zS g ([]:List Edge).length 0]) (us:=[i64 t.N,i64 t.I,zS e0 d9.length e1,zS g ([]:List Edge).length 0]) sizeOf27 l7 rfl rfl rfl rfl rfl (cY rfl) rfl rfl (fun w1 (w2:aJ G K (box l6 27 [i64 t.N,i64 t.I,zS e0 d9.length e1,zS g ([]:List Edge).length 0]::aN 9 K e0 e1 d9::aN 66 K g 0 ([]:List Edge)::box b 27 a::L) w1)=>(bB (aA ⟨aDQ rfl,?_⟩)))))
    exact gU (by kernel_rfl) (aA ⟨aM,d9,l6,e0,e1,g,0,hm,rfl,(aJ.arr 3 [2,1,0] w2 rfl)⟩)
  ·refine bZ (vs:=a) zeroValue27 l3 rfl (fun i8 a13 o2=>(bB (aA ⟨fun _=>⟨_,o2⟩,?_⟩)))
   refine cK (i:=8) (by kernel_rfl) rfl (cB (Kt:=K) (xs:=([]:List aZ)) (cs:=[]) (vs:=[]) bX iA rfl rfl o2 rfl (by kernel_rfl) rfl rfl rfl trivial (fun w3 w4 (o3:aJ G K (aN 9 K w3 0 ([]:List aZ)::box i8 27 a::aN 66 K g 0 ([]:List Edge)::box b 27 a::L) w4)=>(bB (aA ⟨fun _=>⟨_,o3⟩,?_⟩))))
   refine cK (i:=13) (by kernel_rfl) rfl ?_;obtain ⟨e2,w5,hm⟩:=aB hm
   refine kP (i:=0) bX underlying24 iA rfl rfl o3 rfl (zR _) Z w5 rfl rfl rfl rfl (fun e3 e4 w6 (l8:aJ G K (aN 9 K e3 e4 e2::box i8 27 a::aN 66 K g 0 ([]:List Edge)::box b 27 a::L) w6)=>(bB (aA ⟨fun _=>⟨_,l8⟩,?_⟩)))
   refine dZ (i:=15) rfl (by kernel_rfl) ⟨_,l8⟩ (fun _ _=>dF (vs:=[(0,i64 t.N),(1,i64 t.I),(2,zS e3 e2.length e4),(3,zS g ([]:List Edge).length 0)]) (cs:=[i64 t.N,i64 t.I,zS e3 e2.length e4,zS g ([]:List Edge).length 0]) mQ rfl (by kernel_rfl)) (cK (i:=17) (by kernel_rfl) rfl (cA (i:=1) (ns:=[i64 t.N,i64 t.I,zS e3 e2.length e4,zS g ([]:List Edge).length 0]) (us:=[i64 t.N,i64 t.I,zS e3 e2.length e4,zS g ([]:List Edge).length 0]) sizeOf27 l8 rfl rfl rfl rfl rfl (cY rfl) rfl rfl (fun w7 (w8:aJ G K (aN 9 K e3 e4 e2::box i8 27 [i64 t.N,i64 t.I,zS e3 e2.length e4,zS g ([]:List Edge).length 0]::aN 66 K g 0 ([]:List Edge)::box b 27 a::L) w7)=>(bB (aA ⟨aDQ rfl,?_⟩)))))
   exact gU (by kernel_rfl) (aA ⟨aM,e2,i8,e3,e4,g,0,hm,rfl,(aJ.arr 3 [2,0,1] w8 rfl)⟩)
 ·refine bZ (vs:=a) zeroValue27 l rfl (fun V a14 l9=>(bB (aA ⟨fun _=>⟨_,l9⟩,?_⟩)))
  refine lV (i:=8) (j:=14) (by kernel_rfl) rfl rfl ?_ ?_
  ·refine cB (Kt:=K) (xs:=([]:List aZ)) (cs:=[]) (vs:=[]) bX iA rfl rfl l9 rfl (by kernel_rfl) rfl rfl rfl trivial (fun o4 w9 (m0:aJ G K (aN 9 K o4 0 ([]:List aZ)::box V 27 a::box b 27 a::L) w9)=>(bB (aA ⟨fun _=>⟨_,m0⟩,?_⟩)))
   refine lV (i:=13) (j:=14) (by kernel_rfl) rfl rfl ?_ ?_
   ·obtain ⟨b5,x0,hm⟩:=aB hm
    refine kP (i:=0) bX underlying24 iA rfl rfl m0 rfl (zR _) Z x0 rfl rfl rfl rfl (fun b6 b7 x1 (o5:aJ G K (aN 9 K b6 b7 b5::box V 27 a::box b 27 a::L) x1)=>(bB (aA ⟨fun _=>⟨_,o5⟩,?_⟩)))
    refine cK (i:=14) (by kernel_rfl) rfl (cB (Kt:=K) (xs:=([]:List Edge)) (cs:=[]) (vs:=[]) cL gC rfl rfl o5 rfl (by kernel_rfl) rfl rfl rfl trivial (fun e5 x2 (m1:aJ G K (aN 66 K e5 0 ([]:List Edge)::aN 9 K b6 b7 b5::box V 27 a::box b 27 a::L) x2)=>(bB (aA ⟨fun _=>⟨_,m1⟩,?_⟩))))
    refine dZ (i:=15) rfl (by kernel_rfl) ⟨_,m1⟩ (fun _ _=>dF (vs:=[(0,i64 t.N),(1,i64 t.I),(2,zS b6 b5.length b7),(3,zS e5 ([]:List Edge).length 0)]) (cs:=[i64 t.N,i64 t.I,zS b6 b5.length b7,zS e5 ([]:List Edge).length 0]) mQ rfl (by kernel_rfl)) (cK (i:=17) (by kernel_rfl) rfl (cA (i:=2) (ns:=[i64 t.N,i64 t.I,zS b6 b5.length b7,zS e5 ([]:List Edge).length 0]) (us:=[i64 t.N,i64 t.I,zS b6 b5.length b7,zS e5 ([]:List Edge).length 0]) sizeOf27 m1 rfl rfl rfl rfl rfl (cY rfl) rfl rfl (fun x3 (x4:aJ G K (aN 66 K e5 0 ([]:List Edge)::aN 9 K b6 b7 b5::box V 27 [i64 t.N,i64 t.I,zS b6 b5.length b7,zS e5 ([]:List Edge).length 0]::box b 27 a::L) x3)=>(bB (aA ⟨aDQ rfl,?_⟩)))))
    exact gU (by kernel_rfl) (aA ⟨aM,b5,V,b6,b7,e5,0,hm,rfl,x4⟩)
   ·refine cB (Kt:=K) (xs:=([]:List Edge)) (cs:=[]) (vs:=[]) cL gC rfl rfl m0 rfl (by kernel_rfl) rfl rfl rfl trivial (fun b8 x5 (o6:aJ G K (aN 66 K b8 0 ([]:List Edge)::aN 9 K o4 0 ([]:List aZ)::box V 27 a::box b 27 a::L) x5)=>(bB (aA ⟨fun _=>⟨_,o6⟩,?_⟩)))
    refine cK (i:=13) (by kernel_rfl) rfl ?_;obtain ⟨e6,x6,hm⟩:=aB hm
    refine kP (i:=1) bX underlying24 iA rfl rfl o6 rfl (zR _) Z x6 rfl rfl rfl rfl (fun e7 e8 x7 (m2:aJ G K (aN 66 K b8 0 ([]:List Edge)::aN 9 K e7 e8 e6::box V 27 a::box b 27 a::L) x7)=>(bB (aA ⟨fun _=>⟨_,m2⟩,?_⟩)))
    refine dZ (i:=15) rfl (by kernel_rfl) ⟨_,m2⟩ (fun _ _=>dF (vs:=[(0,i64 t.N),(1,i64 t.I),(2,zS e7 e6.length e8),(3,zS b8 ([]:List Edge).length 0)]) (cs:=[i64 t.N,i64 t.I,zS e7 e6.length e8,zS b8 ([]:List Edge).length 0]) mQ rfl (by kernel_rfl)) (cK (i:=17) (by kernel_rfl) rfl (cA (i:=2) (ns:=[i64 t.N,i64 t.I,zS e7 e6.length e8,zS b8 ([]:List Edge).length 0]) (us:=[i64 t.N,i64 t.I,zS e7 e6.length e8,zS b8 ([]:List Edge).length 0]) sizeOf27 m2 rfl rfl rfl rfl rfl (cY rfl) rfl rfl (fun x8 (x9:aJ G K (aN 66 K b8 0 ([]:List Edge)::aN 9 K e7 e8 e6::box V 27 [i64 t.N,i64 t.I,zS e7 e6.length e8,zS b8 ([]:List Edge).length 0]::box b 27 a::L) x8)=>(bB (aA ⟨aDQ rfl,?_⟩)))))
    exact gU (by kernel_rfl) (aA ⟨aM,e6,V,e7,e8,b8,0,hm,rfl,x9⟩)
  ·refine cB (Kt:=K) (xs:=([]:List Edge)) (cs:=[]) (vs:=[]) cL gC rfl rfl l9 rfl (by kernel_rfl) rfl rfl rfl trivial (fun a9 y0 (o7:aJ G K (aN 66 K a9 0 ([]:List Edge)::box V 27 a::box b 27 a::L) y0)=>(bB (aA ⟨fun _=>⟨_,o7⟩,?_⟩)))
   refine cK (i:=8) (by kernel_rfl) rfl (cB (Kt:=K) (xs:=([]:List aZ)) (cs:=[]) (vs:=[]) bX iA rfl rfl o7 rfl (by kernel_rfl) rfl rfl rfl trivial (fun y1 y2 (o8:aJ G K (aN 9 K y1 0 ([]:List aZ)::aN 66 K a9 0 ([]:List Edge)::box V 27 a::box b 27 a::L) y2)=>(bB (aA ⟨fun _=>⟨_,o8⟩,?_⟩))))
   refine cK (i:=13) (by kernel_rfl) rfl ?_;obtain ⟨e9,y3,hm⟩:=aB hm
   refine kP (i:=0) bX underlying24 iA rfl rfl o8 rfl (zR _) Z y3 rfl rfl rfl rfl (fun f0 f1 y4 (m3:aJ G K (aN 9 K f0 f1 e9::aN 66 K a9 0 ([]:List Edge)::box V 27 a::box b 27 a::L) y4)=>(bB (aA ⟨fun _=>⟨_,m3⟩,?_⟩)))
   refine dZ (i:=15) rfl (by kernel_rfl) ⟨_,m3⟩ (fun _ _=>dF (vs:=[(0,i64 t.N),(1,i64 t.I),(2,zS f0 e9.length f1),(3,zS a9 ([]:List Edge).length 0)]) (cs:=[i64 t.N,i64 t.I,zS f0 e9.length f1,zS a9 ([]:List Edge).length 0]) mQ rfl (by kernel_rfl)) (cK (i:=17) (by kernel_rfl) rfl (cA (i:=2) (ns:=[i64 t.N,i64 t.I,zS f0 e9.length f1,zS a9 ([]:List Edge).length 0]) (us:=[i64 t.N,i64 t.I,zS f0 e9.length f1,zS a9 ([]:List Edge).length 0]) sizeOf27 m3 rfl rfl rfl rfl rfl (cY rfl) rfl rfl (fun y5 (y6:aJ G K (aN 9 K f0 f1 e9::aN 66 K a9 0 ([]:List Edge)::box V 27 [i64 t.N,i64 t.I,zS f0 e9.length f1,zS a9 ([]:List Edge).length 0]::box b 27 a::L) y5)=>(bB (aA ⟨aDQ rfl,?_⟩)))))
   exact gU (by kernel_rfl) (aA ⟨aM,e9,V,f0,f1,a9,0,hm,rfl,(aJ.arr 2 [1,0] y6 rfl)⟩)
end Gv
namespace Gv
open Go.Value renaming slice→zS,bool→zB,pointer→zP,agg→zA
open Option.some renaming inj→zI
open Gv.Hp renaming le_trans→zL,le_refl→zR
open Go Go.Proofs Go.Proofs.Tryz
set_option maxRecDepth 20000
set_option maxHeartbeats 40000000
variable {G:qN} {K:Hp} {L:List gH} {w:World} {a1 a4 a7 a10 a2 a5:Option Addr} {c5 c8 c11 c2 b1 c3 c6:Nat}
theorem aHh {t:cI} {b:Nat} {R:(List Int)} (hm:aFx t=some R) (m:aJ G K (L) w) (n:eY K a1 b (zC t a4 c5 a7 c8)) (o:cF K a4 c5 t.L) (p:cF K a7 c8 t.E):
  Calls prog 43 ([cS a1 b]:List Value).toArray w (eH fun v w'=>∃ h j,v=zS h R.length j/\aJ G K (aN 2 K h j R::L) w'):=by
 refine aS func43 rfl (by kernel_rfl) (by show (1:Nat)<=7;decide) ?_;unfold aFx at hm
 refine aK (aD (v:=zS none 0 0) (aG (aK (aF (v:=cS a1 b) ?_))));obtain ⟨a,q,hm⟩:=aB hm
 refine aR (vs:=[cS a1 b]) call92 rfl (aEk q m n o p) ?_
 rintro _ a9 ⟨c,d,e,g,rfl,r⟩
 refine bZ (vs:=zG) zeroValue27 r rfl (fun k b0 u=>(cA (i:=0) (ns:=(zC a c d e g)) (us:=(zC a c d e g)) sizeOf27 u rfl rfl rfl rfl rfl (cY rfl) rfl rfl (fun x (y:aJ G K (box k 27 (zC a c d e g)::aN 9 K c d a.L::aN 66 K e g a.E::L) x)=>(aG (aK ?_)))));obtain ⟨b1,z,V,Z,b2⟩:=aJ.lendSp y (zR _) zt1
 obtain ⟨b3,a0,a2,a3,b4⟩:=aJ.lendSp Z z zt1
 obtain ⟨b5,l,a5,a6,b6⟩:=aJ.lendBp a3 .head
 obtain ⟨b7,a8,hm⟩:=aB hm
 exact aR (vs:=[cS (some ⟨k,0,none⟩) 0]) call40 rfl (aCG a8 a6 a5 (V.mono (zL a0 l)) (a2.mono l)) aHU
theorem aGo {t:cI} {b:Nat} {R:cI} (hm:aDZ t=some R) (hs:aJ G K (L) w) (n:eY K a1 b (zC t a4 c5 a7 c8)) (o:cF K a4 c5 t.L) (p:cF K a7 c8 t.E):
  Calls prog 17 ([cS a1 b]:List Value).toArray w (eH fun v w'=>∃ q r u x,v=zA (zCa R q r u x)/\aJ G K (aN 9 K q r R.L::aN 66 K u x R.E::L) w'):=by
 let h:=zG
 refine aS func17 rfl (by kernel_rfl) (by show (1:Nat)<=10;decide) ?_;unfold aDZ at hm
 refine aK (bZ (vs:=h) zeroValue27 hs rfl (fun a5 f1 a6=>(aG (aK (aF (v:=cS a1 b) (aF (v:=cS a1 b) ?_))))));obtain ⟨y,a8,hm⟩:=aB hm
 refine aR (vs:=[cS a1 b]) call38 rfl (vR a8 a6 n o p) ?_
 rintro _ f2 ⟨z,V,rfl,a9⟩
 obtain ⟨f3,j,b0,b1,b2⟩:=aJ.lendSp a9 (zR _) .head
 obtain ⟨a,b3,hm⟩:=aB hm
 refine aR (vs:=[cS a1 b,zS z y.length V]) call37 rfl (yF b3 b1 (n.mono j) (o.mono j) (p.mono j) b0) ?_
 rintro _ f4 ⟨c,d,e,g,rfl,b4⟩
 have b5:=b2 _ _ b4
 refine bZ (vs:=h) zeroValue27 b5 rfl (fun k f5 b6=>(cA (i:=0) (ns:=(zC a c d e g)) (us:=(zC a c d e g)) sizeOf27 b6 rfl rfl rfl rfl rfl (cY rfl) rfl rfl (fun b7 (b8:aJ G K (box k 27 (zC a c d e g)::aN 2 K z V y::aN 9 K c d a.L::aN 66 K e g a.E::box a5 27 h::L) b7)=>(aG (aK ?_)))));obtain ⟨f6,b9,c0,c1,c2⟩:=aJ.lendSp b8 (zR _) zt2
 obtain ⟨f7,c3,c4,c6,c7⟩:=aJ.lendSp c1 b9 zt2
 obtain ⟨f8,Z,c9,d0,d1⟩:=aJ.lendBp c6 .head
 obtain ⟨d2,d3,hm⟩:=aB hm
 refine aR (vs:=[cS (some ⟨k,0,none⟩) 0]) call43 rfl (aHh d3 d0 c9 (c0.mono (zL c3 Z)) (c4.mono Z)) ?_
 rintro _ f9 ⟨d4,d5,rfl,d6⟩
 have d7:=d1 _ _ d6
 have d8:=c7 _ _ d7
 have d9:=c2 _ _ d8
 obtain ⟨g0,a0,e0,e1,g1⟩:=aJ.lendSp d9 (zR _) .head
 obtain ⟨g2,a2,e2,e3,g3⟩:=aJ.lendSp e1 a0 .head
 obtain ⟨g4,l,e4,e5,g5⟩:=aJ.lendBp e3 .head
 obtain ⟨g6,m,e6,e7,e8⟩:=aJ.lendSp e5 (zL (zL a0 a2) l) .head
 obtain ⟨g7,e9,hm⟩:=aB hm
 refine aR (vs:=[cS (some ⟨k,0,none⟩) 0,zS d4 d2.length d5,zB false]) call41 rfl (yG e9 e7 (e4.mono m) (e0.mono (zL (zL a2 l) m)) (e2.mono (zL l m)) e6) ?_
 rintro _ g8 ⟨g9,h0,h1,h2,rfl,f0⟩
 have h4:=e8 _ _ f0
 exact aHU
theorem aGp {t:cI} {d:Nat} {c:(List Int)} {R:(List Bool)} (hm:aEa t c=some R) (q:aJ G K (L) w) (g:eY K a1 d (zC t a4 c5 a7 c8)) (h6:cF K a4 c5 t.L) (h9:cF K a7 c8 t.E) (r:cF K a10 c11 c):
  Calls prog 93 ([cS a1 d,zS a10 c.length c11]:List Value).toArray w (eH fun v w'=>∃ u x,v=zS u R.length x/\aJ G K (aN 4 K u x R::L) w'):=by
 refine aS func93 rfl (by kernel_rfl) (by show (2:Nat)<=25;decide) ?_;unfold aEa at hm
 refine aK (aD (v:=zS none 0 0) (aG (aK (aF (v:=cS a1 d) (aC (cM rfl g) (aC (bU (k':=d+0) fW rfl g rfl) (aC (bG (t:=0) cQ q g rfl rfl) ?_)))))));obtain ⟨a,Z,hm⟩:=aB hm
 refine aDh (e:=(false:Bool)) eM ez_4 rfl rfl q rfl rfl rfl Z rfl (fun b a0 (b3:aJ G K (aN 4 K b a.length a::L) a0)=>(aD (v:=zS b a.length a.length) (aG (aO (aK (aD (v:=i64 0) (aG (aW [] (fun f w=>∃ j,uC j=some R/\f 5=zS b j.length a.length/\aJ G K (aN 4 K b a.length j::L) w) aHU ?_))))))));obtain ⟨b4,a2,ho⟩:=aB hm
 refine cJ [1] a2 (fun k l f w=>f 5=zS b k.length a.length/\f 6=i64 l/\aJ G K (aN 4 K b a.length k::L) w) aHU ?_
 ·rintro k l b5 f b6 hm hr ⟨y,m,o⟩
  unfold aDv at hm
  refine aO (aK (aY m (aF (v:=zS a10 c.length c11) (aC (bO (len:=c.length) cC rfl) (aC (cG rfl rfl) (aG ?_))))))
  rcases aH hm with ⟨c45,hm⟩|⟨c45,hm⟩
  ·refine aL c45 rfl (aU (aA (aO (cN (aP (aY y (aF (v:=zS a10 c.length c11) (aY m ?_))))))));obtain ⟨b7,z,hm⟩:=aB hm
   refine aC (cT cC rfl r rfl rfl rfl z) ?_;obtain ⟨b8,a3,a5⟩:=cF.el (sz:=1) rfl r z
   cases a5
   refine aC (bG (t:=0) cQ o a3 rfl rfl) ?_;obtain ⟨b9,p,hm⟩:=aB hm
   have a6:=cX o (i:=0) rfl p
   refine aC (dD eM rfl a6 rfl rfl rfl p) ?_;obtain ⟨a8,V,hm⟩:=aB hm
   exact jL (i:=0) (t:=0) (ns:=[zB true]) (e':=(true:Bool)) sizeOf4 o rfl (zR _) rfl rfl rfl p V rfl rfl (cY rfl) rfl (fun cs h=>by cases h;rfl) (fun a9 (b0:aJ G K (aN 4 K b a.length a8::L) a9)=>(bB (aX (aA (aP (aY m (aC (cE rfl rfl) (aD (v:=i64 (wr (l+1))) (aG ⟨_,(zI hm).symm,aM,(Eq.trans y (congrArg (fun n=>zS b n a.length) (iM V))),rfl,b0⟩)))))))))
  ·exact aHU
theorem aBF {t:cI} {d:Nat} {b R:(List Bool)} (hm:aAX t b=some R) (hs:aJ G K (aN 4 K a10 c11 b::L) w) (e:eY K a1 d (zC t a4 c5 a7 c8)) (h6:cF K a4 c5 t.L) (h9:cF K a7 c8 t.E):
  Calls prog 94 ([cS a1 d,zS a10 b.length c11]:List Value).toArray w (eH fun v w'=>v=Value.tuple #[]/\b.length=R.length/\aJ G K (aN 4 K a10 c11 R::L) w'):=by
 refine aS func94 rfl (by kernel_rfl) (by show (2:Nat)<=46;decide) ?_;unfold aAX at hm
 refine aK (aD (v:=zB true) (aG (aW [] (fun f w=>∃ p,uD p=some R/\b.length=p.length/\aJ G K (aN 4 K a10 c11 p::L) w) aHU ?_)));obtain ⟨d9,b5,ho⟩:=aB hm
 refine cJ [0] b5 (fun l a3 f w=>f 1=zS a10 l.length c11/\f 4=zB a3/\b.length=l.length/\aJ G K (aN 4 K a10 c11 l::L) w) aHU ?_
 ·rintro l a3 a5 f e0 hm hr ⟨e1,b6,e2,e3⟩
  unfold aDx at hm
  refine aO (aK (aY b6 (aG ?_)))
  rcases aH hm with ⟨a6,hm⟩|⟨a6,hm⟩
  ·refine aL a6 rfl (aU (aA (aW [0] (fun f w=>∃ g q,aAp g q=some a5/\f 1=zS a10 g.length c11/\f 4=zB q/\b.length=g.length/\aJ G K (aN 4 K a10 c11 g::L) w) ?_ ?_)))
   ·rintro f e4 ⟨g,q,hm,b7,b8,b9,c0⟩
    unfold aAp at hm
    exact aA ⟨_,(zI hm).symm,aM,b7,b8,b9,c0⟩
   refine aK (aD (v:=zB false) (aG (aK (aD (v:=i64 0) (aG (aW [0] (fun f w=>∃ m a8,uE m a8=some a5/\f 1=zS a10 m.length c11/\f 4=zB a8/\b.length=m.length/\aJ G K (aN 4 K a10 c11 m::L) w) aHU ?_))))));obtain ⟨e5,c1,ho⟩:=aB hm
   refine jO [0] c1 (fun c r j f w=>f 1=zS a10 c.length c11/\f 4=zB r/\f 5=i64 j/\b.length=c.length/\aJ G K (aN 4 K a10 c11 c::L) w) aHU ?_
   ·rintro c r j a9 f e6 hm hr ⟨b0,e7,u,e8,o⟩
    unfold aDw at hm
    refine aO (aK (aY u (aF (v:=cS a1 d) (aC (cM rfl e) (aC (bU (k':=d+3) cU rfl e rfl) (aC (bG (t:=3) eS o e rfl rfl) (aC (bO (len:=t.E.length) cL rfl) (aC (cG rfl rfl) (aG ?_)))))))))
    rcases aH hm with ⟨b1,hm⟩|⟨b1,hm⟩
    ·refine aL b1 rfl (aU (aA (aO (aW [0,5] (fun f w=>∃ k x,uF j k x=some a9/\f 1=zS a10 k.length c11/\f 4=zB x/\b.length=k.length/\aJ G K (aN 4 K a10 c11 k::L) w) ?_ ?_))))
     ·rintro f e9 ⟨k,x,hm,c2,c3,c4,c6⟩
      unfold uF at hm
      exact aA (aP (aY u (aC (cE rfl rfl) (aD (v:=i64 (wr (j+1))) (aG ⟨_,(zI hm).symm,aM,c2,c3,rfl,c4,c6⟩)))))
     refine aK (aF (v:=cS a1 d) (aC (cM rfl e) (aC (bU (k':=d+3) cU rfl e rfl) (aC (bG (t:=3) eS o e rfl rfl) (aY u ?_)))));obtain ⟨a,b2,hm⟩:=aB hm
     refine aC (cT cL rfl h9 rfl rfl rfl b2) ?_;obtain ⟨f0,c7,c9⟩:=cF.el (sz:=3) rfl h9 b2
     cases c9
     refine aC (eI (t:=0) (vs:=[i64 a.F,i64 a.B,i64 a.To]) kD o c7 rfl rfl rfl) (bZ (vs:=[i64 0,i64 0,i64 0]) zeroValue66 o rfl (fun y f1 d0=>(cA (i:=0) (ns:=[i64 a.F,i64 a.B,i64 a.To]) (us:=[i64 a.F,i64 a.B,i64 a.To]) sizeOf66 d0 rfl rfl rfl rfl rfl (cY rfl) rfl rfl (fun d1 (f2:aJ G K (box y 66 [i64 a.F,i64 a.B,i64 a.To]::aN 4 K a10 c11 c::L) d1)=>(aG (aO (cP [0,1,4,5,6] (fun f w=>∃ z,oX c r j a z=some a9/\f 41=zB z/\b.length=c.length/\aJ G K (box y 66 [i64 a.F,i64 a.B,i64 a.To]::aN 4 K a10 c11 c::L) w) ?_ ?_)))))))
     ·rintro f f3 ⟨z,hm,d2,d3,V⟩
      unfold oX at hm
      refine aA ?_
      rcases aH hm with ⟨b3,hm⟩|⟨b3,hm⟩
      ·refine aL b3 d2 (aK (aY b0 (aC (bT (t':=2) gD rfl rfl) (aC (dC cQ V (i:=0) rfl rfl rfl) ?_))));obtain ⟨f4,Z,hm⟩:=aB hm
       have d4:=cX V (i:=1) rfl Z
       refine aC (dD eM rfl d4 rfl rfl rfl Z) ?_;obtain ⟨b4,a0,hm⟩:=aB hm
       exact jL (i:=1) (t:=0) (ns:=[zB true]) (e':=(true:Bool)) sizeOf4 V rfl (zR _) rfl rfl rfl Z a0 rfl rfl (cY rfl) rfl (fun cs h=>by cases h;rfl) (fun d5 (d6:aJ G K (box y 66 [i64 a.F,i64 a.B,i64 a.To]::aN 4 K a10 c11 b4::L) d5)=>(aG (aP (aD (v:=zB true) (bB (aX (aA ⟨aM,b4,true,hm,(Eq.trans b0 (congrArg (fun n=>zS a10 n c11) (iM a0))),rfl,(d3.trans (iM a0)),(aJ.arr 1 [] d6 rfl)⟩)))))))
      ·exact aHU
     exact aHU
    ·exact aHU
  ·exact aHU
theorem aCH {a:(List Bool)} {R:(List Int)} (hm:aCW a=some R) (r:aJ G K (L) w) (V:cF K a1 c2 a):
  Calls prog 95 ([zS a1 a.length c2]:List Value).toArray w (eH fun v w'=>∃ k l,v=zS k R.length l/\aJ G K (aN 2 K k l R::L) w'):=by
 refine aS func95 rfl (by kernel_rfl) (by show (1:Nat)<=21;decide) ?_;unfold aCW at hm
 refine aK (aD (v:=zS none 0 0) (aG (aK (cB (Kt:=K) (xs:=([]:List Int)) (cs:=[]) (vs:=[]) cC iV rfl rfl r rfl (by kernel_rfl) rfl rfl rfl trivial (fun m t (Z:aJ G K (aN 2 K m 0 ([]:List Int)::L) t)=>(aD (v:=zS m ([]:List Int).length 0) (aG (aO (aK (aD (v:=i64 0) (aG (aW [] (fun f w=>∃ g n o,wQ g=some R/\f 3=zS n g.length o/\aJ G K (aN 2 K n o g::L) w) aHU ?_))))))))))));obtain ⟨a0,u,ho⟩:=aB hm
 refine cJ [0] u (fun h b f w=>∃ i j,f 3=zS i h.length j/\f 4=i64 b/\aJ G K (aN 2 K i j h::L) w) aHU ?_
 ·rintro h b x f a2 hm hr ⟨i,j,a3,p,a5⟩
  unfold aER at hm
  refine aO (aK (aY p (aF (v:=zS a1 a.length c2) (aC (bO (len:=a.length) eM rfl) (aC (cG rfl rfl) (aG ?_))))))
  rcases aH hm with ⟨q,hm⟩|⟨q,hm⟩
  ·refine aL q rfl (aU (aA (aO (aW [0,4] (fun f w=>∃ c d e,wR b c=some x/\f 3=zS d c.length e/\aJ G K (aN 2 K d e c::L) w) ?_ ?_))))
   ·rintro f a6 ⟨c,d,e,hm,y,z⟩
    unfold wR at hm
    exact aA (aP (aY p (aC (cE rfl rfl) (aD (v:=i64 (wr (b+1))) (aG ⟨_,(zI hm).symm,aM,d,e,y,rfl,z⟩)))))
   exact aHU
  ·exact aHU
theorem aGq {t:cI} {a:Nat} {R:(List Int)} (hm:aAY t=some R) (i:aJ G K (L) w) (d:eY K a1 a (zC t a4 c5 a7 c8)) (j:cF K a4 c5 t.L) (k:cF K a7 c8 t.E):
  Calls prog 44 ([cS a1 a]:List Value).toArray w (eH fun v w'=>∃ l m,v=zS l R.length m/\aJ G K (aN 2 K l m R::L) w'):=by
 refine aS func44 rfl (by kernel_rfl) (by show (1:Nat)<=16;decide) ?_;unfold aAY at hm
 refine aK (aD (v:=zS none 0 0) (aG (aK (aF (v:=cS a1 a) (aF (v:=cS a1 a) (aC (cM rfl d) (aC (bU (k':=a+1) mR rfl d rfl) (aC (bG (t:=1) cQ i d rfl rfl) (cB (Kt:=K) (xs:=([t.I]:List Int)) (cs:=[i64 t.I]) (vs:=[(0,i64 t.I)]) cC iV rfl rfl i rfl (by kernel_rfl) rfl rfl rfl ⟨rfl,trivial⟩ (fun g o (p:aJ G K (aN 2 K g 1 ([t.I]:List Int)::L) o)=>?_))))))))));obtain ⟨a6,h,q,r,u⟩:=aJ.lendSp p (zR _) .head
 obtain ⟨e,x,hm⟩:=aB hm
 refine aR (vs:=[cS a1 a,zS g ([t.I]:List Int).length 1]) call93 rfl (aGp x r (d.mono h) (j.mono h) (k.mono h) q) ?_
 rintro _ y ⟨b,c,rfl,z⟩
 have V:=u _ _ z
 refine aD (v:=zS b e.length c) (aG (aK (aF (v:=cS a1 a) (aF (v:=zS b e.length c) ?_))))
 have Z:aJ G K (aN 4 K b c e::aN 2 K g 1 ([t.I]:List Int)::L) y:=(aJ.arr 2 [1,0] V rfl)
 obtain ⟨a0,a2,hm⟩:=aB hm
 refine aR (vs:=[cS a1 a,zS b e.length c]) call94 rfl (aBF a2 Z d j k) ?_
 rintro _ a8 ⟨rfl,a3,a5⟩
 refine aG (aK (aY (v:=zS b a0.length c) (Eq.trans rfl (congrArg (fun n=>zS b n c) a3)) ?_));obtain ⟨a9,b0,b1,b2,b3⟩:=aJ.lendSp a5 (zR _) .head
 exact aHU
theorem aHC {a:(List Int)} {n:Int} {R:Bool} (hm:aGT a n=some R) (d:aJ G K (L) w) (e:cF K a1 c2 a):
  Calls prog 96 ([zS a1 a.length c2,i64 n]:List Value).toArray w (eH fun v w'=>v=zB R/\aJ G K (L) w'):=by
 refine aS func96 rfl (by kernel_rfl) (by show (2:Nat)<=18;decide) ?_;unfold aGT at hm
 refine aK (aD (v:=zB false) (aG (aO (aK (aD (v:=i64 0) (aG (aW [] (fun f w=>zV=some R/\aJ G K (L) w) aHU ?_)))))));obtain ⟨g,b,ho⟩:=aB hm
 exact dM [0,1] b (fun c f w=>f 5=i64 c/\aJ G K (L) w) aHU aHU
theorem aHi {t:cI} {c:Nat} {o:(List Int)} {x:Int} {R:(List Int)} (hm:aFy t o x=some R) (y:aJ G K (L) w) (d:eY K a1 c (zC t a4 c5 a7 c8)) (h6:cF K a4 c5 t.L) (p:cF K a7 c8 t.E) (d0:cF K a10 c11 o):
  Calls prog 45 ([cS a1 c,zS a10 o.length c11,i64 x]:List Value).toArray w (eH fun v w'=>∃ z V,v=zS z R.length V/\aJ G K (aN 2 K z V R::L) w'):=by
 refine aS func45 rfl (by kernel_rfl) (by show (3:Nat)<=60;decide) ?_;unfold aFy at hm
 refine aK (aD (v:=zS none 0 0) (aG (aK (aF (v:=cS a1 c) (aC (cM rfl d) (aC (bU (k':=c+0) fW rfl d rfl) (aC (bG (t:=0) cQ y d rfl rfl) ?_)))))));obtain ⟨a,b2,hm⟩:=aB hm
 refine aDh (e:=(false:Bool)) eM ez_4 rfl rfl y rfl rfl rfl b2 rfl (fun b b3 (d1:aJ G K (aN 4 K b a.length a::L) b3)=>(aD (v:=zS b a.length a.length) (aG (aO (aK (aD (v:=i64 0) (aG (aW [0] (fun f w=>∃ j,wS t j=some R/\f 7=zS b j.length a.length/\aJ G K (aN 4 K b a.length j::L) w) ?_ ?_))))))))
 ·rintro f d2 ⟨j,hm,Z,b4⟩
  unfold wS at hm
  refine aA (aK (aF (v:=cS a1 c) (aY Z ?_)));obtain ⟨b5,b6,hm⟩:=aB hm
  refine aR (vs:=[cS a1 c,zS b j.length a.length]) call94 rfl (aBF b6 b4 d h6 p) ?_
  rintro _ d3 ⟨rfl,b7,b8⟩
  refine aG (aK (aY (v:=zS b b5.length a.length) (Eq.trans Z (congrArg (fun n=>zS b n a.length) b7)) ?_));obtain ⟨d4,d5,d6,d7,d8⟩:=aJ.lendSp b8 (zR _) .head
  exact aHU
 obtain ⟨d9,b9,ho⟩:=aB hm
 refine cJ [0,1,2] b9 (fun k g f w=>f 7=zS b k.length a.length/\f 8=i64 g/\aJ G K (aN 4 K b a.length k::L) w) aHU ?_
 ·rintro k g a0 f e0 hm hr ⟨a2,q,c0⟩
  unfold aES at hm
  refine aO (aK (aY q (aF (v:=cS a1 c) (aC (cM rfl d) (aC (bU (k':=c+3) cU rfl d rfl) (aC (bG (t:=3) eS c0 d rfl rfl) (aC (bO (len:=t.E.length) cL rfl) (aC (cG rfl rfl) (aG ?_)))))))))
  rcases aH hm with ⟨a3,hm⟩|⟨a3,hm⟩
  ·refine aL a3 rfl (aU (aA (aO (aW [0,1,2,8] (fun f w=>∃ l,wT g l=some a0/\f 7=zS b l.length a.length/\aJ G K (aN 4 K b a.length l::L) w) ?_ ?_))))
   ·rintro f e1 ⟨l,hm,c1,c2⟩
    unfold wT at hm
    exact aA (aP (aY q (aC (cE rfl rfl) (aD (v:=i64 (wr (g+1))) (aG ⟨_,(zI hm).symm,aM,c1,rfl,c2⟩)))))
   refine aO (cP [0,1,2,7,8] (fun f w=>∃ r,wU t k g r=some a0/\f 44=zB r/\aJ G K (aN 4 K b a.length k::L) w) ?_ ?_)
   ·rintro f e2 ⟨r,hm,c3,m⟩
    unfold wU at hm
    refine aA ?_
    rcases aH hm with ⟨a5,hm⟩|⟨a5,hm⟩
    ·refine aL a5 c3 (aP (aY a2 (aF (v:=cS a1 c) (aC (cM rfl d) (aC (bU (k':=c+3) cU rfl d rfl) (aC (bG (t:=3) eS m d rfl rfl) (aY q ?_)))))));obtain ⟨e3,a6,hm⟩:=aB hm
     refine aC (cT cL rfl p rfl rfl rfl a6) ?_;obtain ⟨e4,a8,c4⟩:=cF.el (sz:=3) rfl p a6
     cases c4
     refine aC (bU (k':=g.toNat * 3+2) gD rfl a8 rfl) (aC (bG (t:=2) cQ m a8 rfl rfl) ?_);obtain ⟨e5,u,hm⟩:=aB hm
     have c6:=cX m (i:=0) rfl u
     refine aC (dD eM rfl c6 rfl rfl rfl u) ?_;obtain ⟨a9,b0,hm⟩:=aB hm
     exact jL (i:=0) (t:=0) (ns:=[zB true]) (e':=(true:Bool)) sizeOf4 m rfl (zR _) rfl rfl rfl u b0 rfl rfl (cY rfl) rfl (fun cs h=>by cases h;rfl) (fun c7 (c9:aJ G K (aN 4 K b a.length a9::L) c7)=>(bB (aX (aA ⟨aM,a9,hm,(Eq.trans a2 (congrArg (fun n=>zS b n a.length) (iM b0))),c9⟩))))
    ·exact aHU
   exact aHU
  ·exact aHU
theorem yH {t:cI} {y:Nat} {R:(cI × (List (List Int)) × Bool)} (hm:aAI t=some R) (hs:aJ G K (L) w) (h3:eY K a1 y (zC t a4 c5 a7 c8)) (h6:cF K a4 c5 t.L) (h9:cF K a7 c8 t.E):
  Calls prog 18 ([cS a1 y]:List Value).toArray w (eH fun v w'=>∃ g4 g5 g6 g7 g8 g9 e1,v=Value.tuple #[zA (zCa R.1 g4 g5 g6 g7),zS g8 R.2.1.length g9,zB R.2.2]/\List.length e1=List.length R.2.1/\aJ G K (aN 9 K g4 g5 R.1.L::aN 66 K g6 g7 R.1.E::aN 56 K g8 g9 (dB e1 R.2.1)::rows [2] e1 R.2.1::L) w'):=by
 let a:=zG
 let h0:=aN 56 K none 0 (dB ([]:List (Dp.Hd (List Int))) ([]:List (List Int)))
 refine aS func18 rfl (by kernel_rfl) (by show (1:Nat)<=88;decide) ?_;unfold aAI at hm
 refine aK (bZ (vs:=a) zeroValue27 hs rfl (fun d r2 j9=>(aD (v:=zS none 0 0) (aD (v:=zB false) (aG (aK (aF (v:=cS a1 y) ?_)))))));obtain ⟨q,k0,hm⟩:=aB hm
 refine aR (vs:=[cS a1 y]) call44 rfl (aGq k0 j9 h3 h6 h9) ?_
 rintro _ k1 ⟨r,u,rfl,k3⟩
 have k4:aJ G K (rows [2] ([(r,u)]:List (Dp.Hd (List Int))) [q]::box d 27 a::L) k1:=aJ.rowsOne k3
 refine cB (Kt:=K) (xs:=dB ([(r,u)]:List (Dp.Hd (List Int))) ([q]:List (List Int))) (cs:=[zS r q.length u]) (vs:=[(0,zS r q.length u)]) kU aBT rfl rfl k4 rfl (by kernel_rfl) rfl rfl rfl ⟨rfl,trivial⟩ ?_
 intro c0 k5 (k6:aJ G K (aN 56 K c0 1 (dB ([(r,u)]:List (Dp.Hd (List Int))) ([q]:List (List Int)))::rows [2] ([(r,u)]:List (Dp.Hd (List Int))) ([q]:List (List Int))::box d 27 a::L) k5)
 refine aD (v:=zS c0 ([q]:List (List Int)).length 1) (aG (aK (cB (Kt:=K) (xs:=([]:List Edge)) (cs:=[]) (vs:=[]) cL gC rfl rfl k6 rfl (by kernel_rfl) rfl rfl rfl trivial ?_)))
 intro e2 k7 (k8:aJ G K (aN 66 K e2 0 ([]:List Edge)::aN 56 K c0 1 (dB ([(r,u)]:List (Dp.Hd (List Int))) ([q]:List (List Int)))::rows [2] ([(r,u)]:List (Dp.Hd (List Int))) ([q]:List (List Int))::box d 27 a::L) k7)
 refine aD (v:=zS e2 ([]:List Edge).length 0) (aG (aO (aK (aD (v:=i64 0) (aG (aW [0,2] (fun f w=>∃ a8 e3 h1 h2 e4 h4 h5,wV t a8 e3=some R/\f 5=zS h1 a8.length h2/\f 6=zS h4 e3.length h5/\List.length e4=List.length a8/\aJ G K (aN 66 K h4 h5 e3::aN 56 K h1 h2 (dB e4 a8)::rows [2] e4 a8::box d 27 a::L) w) aHU ?_))))));obtain ⟨r3,k9,ho⟩:=aB hm
 refine jO [0,2] k9 (fun z a9 x f w=>∃ c1 c2 b0 c3 c4,f 5=zS c1 z.length c2/\f 6=zS c3 a9.length c4/\f 7=i64 x/\List.length b0=List.length z/\aJ G K (aN 66 K c3 c4 a9::aN 56 K c1 c2 (dB b0 z)::rows [2] b0 z::box d 27 a::L) w) ?_ ?_
 ·exact ⟨c0,1,([(r,u)]:List (Dp.Hd (List Int))),e2,0,rfl,rfl,rfl,rfl,k8⟩
 ·rintro z a9 x b1 f r4 hm hr ⟨c1,c2,b0,c3,c4,h7,l0,e5,l1,l2⟩
  unfold aDy at hm
  refine aO (aK (aY e5 (aY h7 (aC (bO (len:=z.length) kU rfl) (aC (cG rfl rfl) (aG ?_))))))
  rcases aH hm with ⟨e6,hm⟩|⟨e6,hm⟩
  ·refine aL e6 rfl (aU (aA (aO (aW [0,2,7] (fun f w=>∃ a2 c6 c7 c9 b2 d0 d1,aAZ x a2 c6=some b1/\f 5=zS c7 a2.length c9/\f 6=zS d0 c6.length d1/\List.length b2=List.length a2/\aJ G K (aN 66 K d0 d1 c6::aN 56 K c7 c9 (dB b2 a2)::rows [2] b2 a2::box d 27 a::L) w) ?_ ?_))))
   ·rintro f r5 ⟨a2,c6,c7,c9,b2,d0,d1,hm,l3,l4,l5,l6⟩
    unfold aAZ at hm
    exact aA (aP (aY e5 (aC (cE rfl rfl) (aD (v:=i64 (wr (x+1))) (aG ⟨_,(zI hm).symm,aM,c7,c9,b2,d0,d1,l3,l4,rfl,l5,l6⟩)))))
   refine aK (aD (v:=i64 1) (aG (aW [0,2,7] (fun f w=>∃ b3 e7 h8 i0 e8 i1 i2,wW x b3 e7=some b1/\f 5=zS h8 b3.length i0/\f 6=zS i1 e7.length i2/\List.length e8=List.length b3/\aJ G K (aN 66 K i1 i2 e7::aN 56 K h8 i0 (dB e8 b3)::rows [2] e8 b3::box d 27 a::L) w) aHU ?_)));obtain ⟨r6,l7,ho⟩:=aB hm
   refine jO [0,2,7] l7 (fun b e V f w=>∃ m n c k l,f 5=zS m b.length n/\f 6=zS k e.length l/\f 8=i64 V/\List.length c=List.length b/\aJ G K (aN 66 K k l e::aN 56 K m n (dB c b)::rows [2] c b::box d 27 a::L) w) aHU ?_
   ·rintro b e V d2 f r7 hm hr ⟨m,n,c,k,l,a0,i3,e9,o,b4⟩
    unfold aEU at hm
    refine aO (aK (aY e9 (aF (v:=cS a1 y) (aC (cM rfl h3) (aC (bU (k':=y+2) eU rfl h3 rfl) (aC (bG (t:=2) eR b4 h3 rfl rfl) (aC (bO (len:=t.L.length) bX rfl) (aC (cG rfl rfl) (aG ?_)))))))))
    rcases aH hm with ⟨f0,hm⟩|⟨f0,hm⟩
    ·refine aL f0 rfl (aU (aA (aO (aW [0,2,7,8] (fun f w=>∃ a3 d3 d4 d5 b5 d6 d7,wX V a3 d3=some d2/\f 5=zS d4 a3.length d5/\f 6=zS d6 d3.length d7/\List.length b5=List.length a3/\aJ G K (aN 66 K d6 d7 d3::aN 56 K d4 d5 (dB b5 a3)::rows [2] b5 a3::box d 27 a::L) w) ?_ ?_))))
     ·rintro f r8 ⟨a3,d3,d4,d5,b5,d6,d7,hm,l8,l9,m0,m1⟩
      unfold wX at hm
      exact aA (aP (aY e9 (aC (cE rfl rfl) (aD (v:=i64 (wr (V+1))) (aG ⟨_,(zI hm).symm,aM,d4,d5,b5,d6,d7,l8,l9,rfl,m0,m1⟩)))))
     refine aK (aF (v:=cS a1 y) (aY a0 (aY e5 ?_)));obtain ⟨m2,b6,hm⟩:=aB hm
     obtain ⟨⟨m3,m4⟩,f1⟩:=get_hd o b6
     have i4:=cX b4 (i:=1) rfl (aEt o b6 f1)
     refine aC (dD kU rfl i4 rfl rfl rfl b6) (aC (gX (t:=0) aEx b4 (i:=1) rfl (aEt o b6 f1) rfl rfl rfl) (aY e9 ?_));obtain ⟨r9,f2,s0,m5,m6,m7⟩:=aJ.lendD' (i:=1) b4 o rfl rfl
     obtain ⟨j,m8,hm⟩:=aB hm
     refine aR (vs:=[cS a1 y,zS m3 m2.length m4,i64 V]) call45 rfl (aHi m8 m6 (h3.mono f2) (h6.mono f2) (h9.mono f2) (rd_row (m5 _ _ _ f1 (ix_at b6)))) ?_
     rintro _ s1 ⟨g,h,rfl,m9⟩
     have s2:=m7 _ _ m9
     refine aD (v:=zS g j.length h) (aG (aO (aK (aF (v:=zS g j.length h) (aC (bO (len:=j.length) cC rfl) (aC (fA rfl rfl) (aG ?_)))))))
     rcases aH hm with ⟨i5,hm⟩|⟨i5,hm⟩
     ·exact aHU
     ·refine aI i5 rfl (aU (aA (aK (aD (v:=i64 (-1)) (aG (aO (aK (aD (v:=i64 0) (aG (aW [0,2,5,6,7,8,9] (fun f w=>∃ f3,wZ x b e V j f3=some d2/\f 10=i64 f3/\aJ G K (aN 56 K m n (dB c b)::rows [2] c b::aN 2 K g h j::aN 66 K k l e::box d 27 a::L) w) ?_ ?_))))))))))
      ·rintro f i6 ⟨f3,hm,n0,i7⟩
       unfold wZ at hm
       refine aA (oO [0,2,6,7,8] (fun f w=>∃ p f4 b7 b8 Z,wY x e V p f4=some d2/\f 5=zS b7 p.length b8/\f 10=i64 f4/\List.length Z=List.length p/\aJ G K (aN 56 K b7 b8 (dB Z p)::rows [2] Z p::aN 66 K k l e::box d 27 a::L) w) ?_ ?_)
       ·rintro f s3 ⟨p,f4,b7,b8,Z,hm,s4,s5,s6,n1⟩
        unfold wY at hm
        refine aO (aK (aY i3 (aC (bO (len:=e.length) cL rfl) (aC (fA rfl rfl) (aG ?_)))))
        rcases aH hm with ⟨i8,hm⟩|⟨i8,hm⟩
        ·refine aL i8 rfl (aK (aC (dF (vs:=[]) (cs:=a) mQ rfl (by kernel_rfl)) (cA (i:=3) (ns:=a) (us:=a) sizeOf27 n1 rfl rfl rfl rfl rfl (cY rfl) rfl rfl (fun i9 (n2:aJ G K (aN 56 K b7 b8 (dB Z p)::rows [2] Z p::aN 66 K k l e::box d 27 a::L) i9)=>(aD (v:=zS none 0 0) (aD (v:=zB false) (aG (bH (aQ (bM (aQ (aQ (aQ ?_)))))))))))))
         have n3:=hr _ (zI hm).symm
         subst n3
         have hm:(some (.inr (.inr (⟨0,0,[],[]⟩,[],false))))=some b1:=ho
         clear hr ho
         refine bM (aQ (bM (aQ (aQ (aQ ?_)))))
         have n4:=hr _ (zI hm).symm
         subst n4
         have hm:(some (⟨0,0,[],[]⟩,[],false))=some R:=ho
         clear hr ho
         have n5:=aJ.nil (α:=aZ) n2 9 K
         have n6:=aJ.nil (α:=Edge) n5 66 K
         have j0:aJ G K (h0::rows [2] ([]:List (Dp.Hd (List Int))) ([]:List (List Int))::aN 66 K none 0 ([]:List Edge)::aN 9 K none 0 ([]:List aZ)::aN 56 K b7 b8 (dB Z p)::rows [2] Z p::aN 66 K k l e::box d 27 a::L) i9:=aJ.nil (α:=Cells _) (aJ.rowsNil (α:=(List Int)) (tys:=[2]) n6) 56 K
         obtain rfl:=zI hm
         exact bM (aQ (aQ (aAR results18 (fK (vs:=a) rfl cV j0 (i:=7) rfl rfl rfl) (mO rfl rfl) (mO rfl rfl) ⟨none,0,none,0,none,0,([]:List (Dp.Hd (List Int))),rfl,rfl,(aJ.arr 8 [3,2,0,1] j0 rfl)⟩)))
        ·exact aHU
       refine aK (aY n0 (aC (cG rfl rfl) (aG ?_)))
       rcases aH hm with ⟨j1,hm⟩|⟨j1,hm⟩
       ·refine aL j1 rfl (aO (aK (aY a0 (aC (bO (len:=b.length) kU rfl) (aC (fA rfl rfl) (aG ?_))))))
        rcases aH hm with ⟨f5,hm⟩|⟨f5,hm⟩
        ·refine aL f5 rfl (aK (aC (dF (vs:=[]) (cs:=a) mQ rfl (by kernel_rfl)) (cA (i:=4) (ns:=a) (us:=a) sizeOf27 i7 rfl rfl rfl rfl rfl (cY rfl) rfl rfl (fun j2 (n8:aJ G K (aN 56 K m n (dB c b)::rows [2] c b::aN 2 K g h j::aN 66 K k l e::box d 27 a::L) j2)=>(aD (v:=zS none 0 0) (aD (v:=zB false) (aG (bH (aQ (aQ (bM (aQ (aQ (aQ ?_))))))))))))))
         have n9:=hr _ (zI hm).symm
         subst n9
         have hm:(some (.inr (.inr (⟨0,0,[],[]⟩,[],false))))=some b1:=ho
         clear hr ho
         refine bM (aQ (bM (aQ (aQ (aQ ?_)))))
         have o0:=hr _ (zI hm).symm
         subst o0
         have hm:(some (⟨0,0,[],[]⟩,[],false))=some R:=ho
         clear hr ho
         have o1:=aJ.nil (α:=aZ) n8 9 K
         have o2:=aJ.nil (α:=Edge) o1 66 K
         have j3:aJ G K (h0::rows [2] ([]:List (Dp.Hd (List Int))) ([]:List (List Int))::aN 66 K none 0 ([]:List Edge)::aN 9 K none 0 ([]:List aZ)::aN 56 K m n (dB c b)::rows [2] c b::aN 2 K g h j::aN 66 K k l e::box d 27 a::L) j2:=aJ.nil (α:=Cells _) (aJ.rowsNil (α:=(List Int)) (tys:=[2]) o2) 56 K
         obtain rfl:=zI hm
         exact bM (aQ (aQ (aAR results18 (fK (vs:=a) rfl cV j3 (i:=8) rfl rfl rfl) (mO rfl rfl) (mO rfl rfl) ⟨none,0,none,0,none,0,([]:List (Dp.Hd (List Int))),rfl,rfl,(aJ.arr 9 [3,2,0,1] j3 rfl)⟩)))
        ·refine aI f5 rfl (aU (aA (aK (aY a0 (aC (bO (len:=b.length) kU rfl) (aD (v:=i64 (b.length:Int)) (aG (aP (aY a0 (aF (v:=zS g j.length h) ?_))))))))))
         have o4:aJ G K (aN 2 K g h j::aN 56 K m n (dB c b)::rows [2] c b::aN 66 K k l e::box d 27 a::L) i6:=(aJ.arr 3 [2,0,1] i7 rfl)
         have o5:aJ G K (rows [2] ([(g,h)]:List (Dp.Hd (List Int))) [j]::aN 56 K m n (dB c b)::rows [2] c b::aN 66 K k l e::box d 27 a::L) i6:=aJ.rowsOne o4
         refine cB (Kt:=K) (xs:=dB ([(g,h)]:List (Dp.Hd (List Int))) ([j]:List (List Int))) (cs:=[zS g j.length h]) (vs:=[(0,zS g j.length h)]) kU aBT rfl rfl o5 rfl (by kernel_rfl) rfl rfl rfl ⟨rfl,trivial⟩ ?_
         intro o6 o7 (o8:aJ G K (aN 56 K o6 1 (dB ([(g,h)]:List (Dp.Hd (List Int))) ([j]:List (List Int)))::rows [2] ([(g,h)]:List (Dp.Hd (List Int))) ([j]:List (List Int))::aN 56 K m n (dB c b)::rows [2] c b::aN 66 K k l e::box d 27 a::L) o7)
         obtain ⟨d8,j4,hm⟩:=aB hm
         refine WO_appD (i:=0) (tys:=[2]) (hds:=c) (hds2:=([(g,h)]:List (Dp.Hd (List Int)))) kU underlying46 aBT rfl rfl o8 o rfl rfl rfl j4 rfl rfl rfl rfl ?_
         intro f6 f7 o9 (p0:aJ G K (aN 56 K f6 f7 (dB (c++([(g,h)]:List (Dp.Hd (List Int)))) d8)::rows [2] (c++([(g,h)]:List (Dp.Hd (List Int)))) d8::aN 66 K k l e::box d 27 a::L) o9)
         exact aD (v:=zS f6 d8.length f7) (aG ⟨aM,d8,(b.length:Int),f6,f7,(c++([(g,h)]:List (Dp.Hd (List Int)))),hm,rfl,rfl,(app_len o rfl j4),p0⟩)
       ·exact aHU
      obtain ⟨s7,p1,ho⟩:=aB hm
      refine cJ [0,2,5,6,7,8,9] p1 (fun b9 a5 f w=>f 10=i64 b9/\f 11=i64 a5/\aJ G K (aN 56 K m n (dB c b)::rows [2] c b::aN 2 K g h j::aN 66 K k l e::box d 27 a::L) w) aHU ?_
      ·rintro b9 a5 p2 f s8 hm hr ⟨j5,d9,f8⟩
       unfold aET at hm
       refine aO (aK (aY d9 (aY a0 (aC (bO (len:=b.length) kU rfl) (aC (cG rfl rfl) (aG ?_))))))
       rcases aH hm with ⟨f9,hm⟩|⟨f9,hm⟩
       ·refine aL f9 rfl (aU (aA (aO (aW [0,2,5,6,7,8,9,11] (fun f w=>∃ g0,xA a5 g0=some p2/\f 10=i64 g0/\aJ G K (aN 56 K m n (dB c b)::rows [2] c b::aN 2 K g h j::aN 66 K k l e::box d 27 a::L) w) ?_ ?_))))
        ·rintro f s9 ⟨g0,hm,p3,p4⟩
         unfold xA at hm
         exact aA (aP (aY d9 (aC (cE rfl rfl) (aD (v:=i64 (wr (a5+1))) (aG ⟨_,(zI hm).symm,aM,p3,rfl,p4⟩)))))
        refine aK (aY a0 (aY d9 ?_));obtain ⟨p5,e0,hm⟩:=aB hm
        refine aC (dD kU rfl i4 rfl rfl rfl e0) ?_;obtain ⟨⟨p6,p7⟩,j6⟩:=get_hd o e0
        refine aC (gX (t:=0) aEx f8 (i:=0) rfl (aEt o e0 j6) rfl rfl rfl) (aF (v:=zS g j.length h) ?_);obtain ⟨t0,p8,t1,p9,q0,q1⟩:=aJ.lendD' (i:=0) f8 o rfl rfl
        obtain ⟨t2,q2,q3,q4,q5⟩:=aJ.lendSp q0 p8 .head
        obtain ⟨t3,q6,hm⟩:=aB hm
        refine aR (vs:=[zS p6 p5.length p7,zS g j.length h]) call46 rfl (nU q6 q4 ((rd_row (p9 _ _ _ j6 (ix_at e0))).mono q2) q3) ?_
        rintro _ t4 ⟨rfl,q7⟩
        have q8:=q5 _ _ q7
        have j7:=q1 _ _ q8
        refine aG ?_
        rcases aH hm with ⟨g1,hm⟩|⟨g1,hm⟩
        ·exact aL g1 rfl (aP (aY d9 (aD (v:=i64 a5) (bB (aX (aA ⟨aM,a5,hm,rfl,j7⟩))))))
        ·exact aI g1 rfl (aU (aX (aA ⟨aM,b9,hm,j5,j7⟩)))
       ·refine aI f9 rfl (bV (aT (aT ?_)))
        have q9:=hr _ (zI hm).symm
        subst q9
        have hm:(wZ x b e V j b9)=some d2:=ho
        clear hr ho
        exact bJ (aA ⟨aM,b9,hm,j5,f8⟩)
    ·refine aI f0 rfl (bV (aT (aT ?_)))
     have r0:=hr _ (zI hm).symm
     subst r0
     have hm:(wW x b e)=some b1:=ho
     clear hr ho
     exact bJ (aA ⟨aM,b,e,m,n,c,k,l,hm,a0,i3,o,b4⟩)
  ·refine aI e6 rfl (bV (aT (aT ?_)))
   have r1:=hr _ (zI hm).symm
   subst r1
   have hm:(wV t z a9)=some R:=ho
   clear hr ho
   exact bJ (aA ⟨aM,z,a9,c1,c2,b0,c3,c4,hm,h7,l0,l1,l2⟩)
theorem aHD {t:cI} {a:Nat} {R:cI} (hm:aGU t=some R) (h:aJ G K (L) w) (j:eY K a1 a (zC t a4 c5 a7 c8)) (k:cF K a4 c5 t.L) (l:cF K a7 c8 t.E):
  Calls prog 19 ([cS a1 a]:List Value).toArray w (eH fun v w'=>∃ b c d e,v=zA (zCa R b c d e)/\aJ G K (aN 9 K b c R.L::aN 66 K d e R.E::L) w'):=by
 refine aS func19 rfl (by kernel_rfl) (by show (1:Nat)<=28;decide) ?_;unfold aGU at hm
 refine aK (bZ (vs:=zG) zeroValue27 h rfl (fun m n g=>(aG (aO (dT (C:=fun w'=>∃ L',aJ G K L' w') [(0,0),(1,0),(2,0),(3,0),(4,0),(5,0),(6,0),(7,0),(8,0),(9,1),(10,2)] bY (by kernel_rfl) (fun _ hg=>⟨_,aJ.mono g hg⟩) (fun o i=>?_))))))
 have p:=aJ.mono g i
 exact aHU
theorem yI {a:(List UInt8)} {b c:Int} {R:(Int × Int × Int)} (hm:uG a b c=some R) (e:aJ G K (box b1 73 [zS a2 a.length c3,i64 b,Value.int .u64 c]::L) w) (g:cF K a2 c3 a):
  Calls prog 36 ([zP (some ⟨b1,0,none⟩)]:List Value).toArray w (eH fun v w'=>v=i64 R.1/\aJ G K (box b1 73 [zS a2 a.length c3,i64 R.2.1,Value.int .u64 R.2.2]::L) w'):=by
 refine aS func36 rfl (by kernel_rfl) (by show (1:Nat)<=62;decide) ?_;unfold uG at hm
 exact aK (aD (v:=i64 0) (aG (aK (aD (v:=i64 0) (aG (oO [0] (fun f w=>∃ d,oH a b c d=some R/\f 3=i64 d/\aJ G K (box b1 73 [zS a2 a.length c3,i64 b,Value.int .u64 c]::L) w) aHU aHU))))))
theorem cW {a:(List UInt8)} {b c n:Int} {R:(Int × Int × Int)} (hm:dJ a b c n=some R) (i:aJ G K (box b1 73 [zS a2 a.length c3,i64 b,Value.int .u64 c]::L) w) (j:cF K a2 c3 a):
  Calls prog 14 ([zP (some ⟨b1,0,none⟩),i64 n]:List Value).toArray w (eH fun v w'=>v=i64 R.1/\aJ G K (box b1 73 [zS a2 a.length c3,i64 R.2.1,Value.int .u64 R.2.2]::L) w'):=by
 refine aS func14 rfl (by kernel_rfl) (by show (2:Nat)<=20;decide) ?_;unfold dJ at hm
 refine aK (aD (v:=i64 0) (aG (aO (aK (aF (v:=i64 n) (aC (aBL rfl rfl) (aG ?_)))))))
 rcases aH hm with ⟨d,hm⟩|⟨d,hm⟩
 ·exact aHU
 ·refine aI d rfl (aU (aA (aK (aF (v:=zP (some ⟨b1,0,none⟩)) ?_))));obtain ⟨k,l,hm⟩:=aB hm
  refine aR (vs:=[zP (some ⟨b1,0,none⟩)]) call36 rfl (yI l i j) ?_
  rintro _ m ⟨rfl,o⟩
  exact aD (v:=i64 k.1) (aG (oO [1] (fun f w=>∃ e g h,oI n e g h=some R/\f 5=i64 e/\aJ G K (box b1 73 [zS a2 a.length c3,i64 g,Value.int .u64 h]::L) w) aHU aHU))
theorem sU {a:(List UInt8)} {b c n:Int} {R:(Bool × Int × Int)} (hm:rN a b c n=some R) (d:aJ G K (box b1 73 [zS a2 a.length c3,i64 b,Value.int .u64 c]::L) w) (e:cF K a2 c3 a):
  Calls prog 34 ([zP (some ⟨b1,0,none⟩),i64 n]:List Value).toArray w (eH fun v w'=>v=zB R.1/\aJ G K (box b1 73 [zS a2 a.length c3,i64 R.2.1,Value.int .u64 R.2.2]::L) w'):=by
 exact aHU
theorem aDe {a:(List UInt8)} {n o:Int} {R:((List aZ) × Int × Int)} (hm:xY a n o=some R) (hs:aJ G K (box b1 73 [zS a2 a.length c3,i64 n,Value.int .u64 o]::L) w) (h4:cF K a2 c3 a):
  Calls prog 81 ([zP (some ⟨b1,0,none⟩)]:List Value).toArray w (eH fun v w'=>∃ y z,v=zS y R.1.length z/\aJ G K (aN 9 K y z R.1::box b1 73 [zS a2 a.length c3,i64 R.2.1,Value.int .u64 R.2.2]::L) w'):=by
 let V:=box b1 73 [zS a2 a.length c3,i64 n,Value.int .u64 o]
 refine aS func81 rfl (by kernel_rfl) (by show (1:Nat)<=35;decide) ?_;unfold xY at hm
 refine aK (aD (v:=zS none 0 0) (aG (aK (cB (Kt:=K) (xs:=([([116,97,117]:aZ)]:List aZ)) (cs:=[str ([116,97,117]:aZ)]) (vs:=[(0,str ([116,97,117]:aZ))]) bX iA rfl rfl hs rfl (by kernel_rfl) rfl rfl rfl ⟨rfl,trivial⟩ (fun p w6 (b5:aJ G K (aN 9 K p 1 ([([116,97,117]:aZ)]:List aZ)::V::L) w6)=>(aD (v:=zS p ([([116,97,117]:aZ)]:List aZ).length 1) (aG (aK (cB (Kt:=K) (xs:=([([97]:aZ),([98]:aZ),([99]:aZ),([103,101,116,40,48,41]:aZ),([103,101,116,40,49,41]:aZ)]:List aZ)) (cs:=[str ([97]:aZ),str ([98]:aZ),str ([99]:aZ),str ([103,101,116,40,48,41]:aZ),str ([103,101,116,40,49,41]:aZ)]) (vs:=[(0,str ([97]:aZ)),(1,str ([98]:aZ)),(2,str ([99]:aZ)),(3,str ([103,101,116,40,48,41]:aZ)),(4,str ([103,101,116,40,49,41]:aZ))]) bX iA rfl rfl b5 rfl (by kernel_rfl) rfl rfl rfl ⟨rfl,rfl,rfl,rfl,rfl,trivial⟩ (fun b w9 (c1:aJ G K (aN 9 K b 5 ([([97]:aZ),([98]:aZ),([99]:aZ),([103,101,116,40,48,41]:aZ),([103,101,116,40,49,41]:aZ)]:List aZ)::aN 9 K p 1 ([([116,97,117]:aZ)]:List aZ)::V::L) w9)=>(aD (v:=zS b ([([97]:aZ),([98]:aZ),([99]:aZ),([103,101,116,40,48,41]:aZ),([103,101,116,40,49,41]:aZ)]:List aZ).length 5) (aG (aO (aK (aD (v:=i64 0) (aG (aW [] (fun f w=>∃ h c d q r,mT h c d=some R/\f 3=zS q h.length r/\aJ G K (aN 9 K q r h::box b1 73 [zS a2 a.length c3,i64 c,Value.int .u64 d]::L) w) ?_ ?_)))))))))))))))))
 ·rintro f c2 ⟨h,c,d,q,r,hm,c4,c5⟩
  unfold mT at hm
  exact aA (oO [] (fun f w=>∃ t Z a0,mS c d t=some R/\f 3=zS Z t.length a0/\aJ G K (aN 9 K Z a0 t::box b1 73 [zS a2 a.length c3,i64 c,Value.int .u64 d]::L) w) aHU aHU)
 obtain ⟨c6,b7,ho⟩:=aB hm
 refine uW [0,4] b7 (fun a1 a3 e g f w=>∃ i j,f 3=zS i e.length j/\f 5=i64 g/\aJ G K (aN 9 K b 5 ([([97]:aZ),([98]:aZ),([99]:aZ),([103,101,116,40,48,41]:aZ),([103,101,116,40,49,41]:aZ)]:List aZ)::aN 9 K i j e::box b1 73 [zS a2 a.length c3,i64 a1,Value.int .u64 a3]::L) w) aHU ?_
 ·rintro a1 a3 e g a4 f c7 hm hr ⟨i,j,c8,a6,c9⟩
  unfold zW at hm
  refine aO (aK (aY a6 (aF (v:=zS b ([([97]:aZ),([98]:aZ),([99]:aZ),([103,101,116,40,48,41]:aZ),([103,101,116,40,49,41]:aZ)]:List aZ).length 5) (aC (bO (len:=([([97]:aZ),([98]:aZ),([99]:aZ),([103,101,116,40,48,41]:aZ),([103,101,116,40,49,41]:aZ)]:List aZ).length) bX rfl) (aC (cG rfl rfl) (aG ?_))))))
  rcases aH hm with ⟨a7,hm⟩|⟨a7,hm⟩
  ·refine aL a7 rfl (aU (aA (aO (aW [0,4,5] (fun f w=>∃ u x k l m,mU g u x k=some a4/\f 3=zS l k.length m/\aJ G K (aN 9 K l m k::aN 9 K b 5 ([([97]:aZ),([98]:aZ),([99]:aZ),([103,101,116,40,48,41]:aZ),([103,101,116,40,49,41]:aZ)]:List aZ)::box b1 73 [zS a2 a.length c3,i64 u,Value.int .u64 x]::L) w) ?_ ?_))))
   ·rintro f d0 ⟨u,x,k,l,m,hm,b8,b9⟩
    unfold mU at hm
    exact aA (aP (aY a6 (aC (cE rfl rfl) (aD (v:=i64 (wr (g+1))) (aG ⟨_,(zI hm).symm,aM,l,m,b8,rfl,(aJ.arr 2 [1,0] b9 rfl)⟩)))))
   exact aO (cP [0,3,4,5] (fun f w=>∃ a9 b0 b2,mV e g a9 b0 b2=some a4/\f 20=zB b2/\aJ G K (aN 9 K b 5 ([([97]:aZ),([98]:aZ),([99]:aZ),([103,101,116,40,48,41]:aZ),([103,101,116,40,49,41]:aZ)]:List aZ)::aN 9 K i j e::box b1 73 [zS a2 a.length c3,i64 a9,Value.int .u64 b0]::L) w) aHU aHU)
  ·exact aHU
theorem aDf {a:(List UInt8)} {c d:Int} {b:(List Int)} {R:(Int × Int × Int)} (hm:xZ a c d b=some R) (e:aJ G K (box b1 73 [zS a2 a.length c3,i64 c,Value.int .u64 d]::L) w) (g:cF K a2 c3 a) (h:cF K a5 c6 b):
  Calls prog 82 ([zP (some ⟨b1,0,none⟩),zS a5 b.length c6]:List Value).toArray w (eH fun v w'=>v=i64 R.1/\aJ G K (box b1 73 [zS a2 a.length c3,i64 R.2.1,Value.int .u64 R.2.2]::L) w'):=by
 exact aHU
theorem aFI {b:(List UInt8)} {f5 f6:Int} {R:(cI × Int × Int)} (hm:aCn b f5 f6=some R) (hs:aJ G K (box b1 73 [zS a2 b.length c3,i64 f5,Value.int .u64 f6]::L) w) (o:cF K a2 c3 b):
  Calls prog 33 ([zP (some ⟨b1,0,none⟩)]:List Value).toArray w (eH fun v w'=>∃ j7 j8 j9 k0,v=zA (zCa R.1 j7 j8 j9 k0)/\aJ G K (aN 9 K j7 j8 R.1.L::aN 66 K j9 k0 R.1.E::box b1 73 [zS a2 b.length c3,i64 R.2.1,Value.int .u64 R.2.2]::L) w'):=by
 let e:=zG
 refine aS func33 rfl (by kernel_rfl) (by show (1:Nat)<=125;decide) ?_;unfold aCn at hm
 refine aK (bZ (vs:=e) zeroValue27 hs rfl (fun g w6 l9=>(aG (aK (aF (v:=zP (some ⟨b1,0,none⟩)) ?_)))))
 have m0:aJ G K (box b1 73 [zS a2 b.length c3,i64 f5,Value.int .u64 f6]::box g 27 e::L) w6:=(aJ.arr 2 [1,0] l9 rfl)
 obtain ⟨j,m1,hm⟩:=aB hm
 refine aR (vs:=[zP (some ⟨b1,0,none⟩),i64 4]) call14 rfl (cW m1 m0 o) ?_
 rintro _ v7 ⟨rfl,m2⟩
 refine aC (cE rfl rfl) (aD (v:=i64 (wr (1+j.1))) (aG (aK (aF (v:=i64 (wr (1+j.1))) (aF (v:=zP (some ⟨b1,0,none⟩)) (aF (v:=i64 (wr (1+j.1))) (aC (iK rfl rfl) ?_)))))));obtain ⟨p,m3,hm⟩:=aB hm
 refine aR (vs:=[zP (some ⟨b1,0,none⟩),i64 (wr (7 - (wr (1+j.1))))]) call14 rfl (cW m3 m2 o) ?_
 rintro _ v8 ⟨rfl,m4⟩
 refine aC (cE rfl rfl) (aD (v:=i64 (wr ((wr (1+j.1))+p.1))) (aG (aK (aF (v:=zP (some ⟨b1,0,none⟩)) ?_))));obtain ⟨a,m5,hm⟩:=aB hm
 refine aR (vs:=[zP (some ⟨b1,0,none⟩)]) call81 rfl (aDe m5 m4 o) ?_
 rintro _ v9 ⟨c,d,rfl,m6⟩
 refine aD (v:=zS c a.1.length d) (aG (aK (cB (Kt:=K) (xs:=([]:List Int)) (cs:=[]) (vs:=[]) cC iV rfl rfl m6 rfl (by kernel_rfl) rfl rfl rfl trivial (fun f7 m7 (m8:aJ G K (aN 2 K f7 0 ([]:List Int)::aN 9 K c d a.1::box b1 73 [zS a2 b.length c3,i64 a.2.1,Value.int .u64 a.2.2]::box g 27 e::L) m7)=>(aD (v:=zS f7 ([]:List Int).length 0) (aG (aO (aK (aD (v:=i64 0) (aG (aW [0,2,3,4,5] (fun f w=>∃ c2 c4 k l m,pM b j p a c2 c4 k=some R/\f 6=zS l k.length m/\aJ G K (aN 2 K l m k::aN 9 K c d a.1::box b1 73 [zS a2 b.length c3,i64 c2,Value.int .u64 c4]::box g 27 e::L) w) ?_ ?_)))))))))))
 ·rintro f w0 ⟨c2,c4,k,l,m,hm,k1,m9⟩
  unfold pM at hm
  refine aA (aK (cB (Kt:=K) (xs:=([]:List Edge)) (cs:=[]) (vs:=[]) cL gC rfl rfl m9 rfl (by kernel_rfl) rfl rfl rfl trivial (fun d0 k2 (n0:aJ G K (aN 66 K d0 0 ([]:List Edge)::aN 2 K l m k::aN 9 K c d a.1::box b1 73 [zS a2 b.length c3,i64 c2,Value.int .u64 c4]::box g 27 e::L) k2)=>(aD (v:=zS d0 ([]:List Edge).length 0) (aG (aO (aK (aF (v:=zP (some ⟨b1,0,none⟩)) (aF (v:=i64 (wr (1+j.1))) (aC (yR rfl rfl) (aC (cE rfl rfl) ?_)))))))))))
  have n1:aJ G K (box b1 73 [zS a2 b.length c3,i64 c2,Value.int .u64 c4]::aN 66 K d0 0 ([]:List Edge)::aN 2 K l m k::aN 9 K c d a.1::box g 27 e::L) k2:=(aJ.arr 4 [3,0,1,2] n0 rfl)
  obtain ⟨n2,n3,hm⟩:=aB hm
  refine aR (vs:=[zP (some ⟨b1,0,none⟩),i64 (wr (2+(wr (2 * (wr (1+j.1))))))]) call14 rfl (cW n3 n1 o) ?_
  rintro _ w1 ⟨rfl,n4⟩
  refine aD (v:=i64 n2.1) (aG (aW [0,2,4,5] (fun f w=>∃ d1 d2 a7 b3 c48,rP b j p a d1 d2 a7=some R/\f 8=zS b3 a7.length c48/\aJ G K (aN 66 K b3 c48 a7::box b1 73 [zS a2 b.length c3,i64 d1,Value.int .u64 d2]::aN 9 K c d a.1::box g 27 e::L) w) ?_ ?_))
  ·rintro f n5 ⟨d1,d2,a7,b3,c48,hm,k3,n6⟩
   unfold rP at hm
   refine aA (oO [0,2,4,5] (fun f w=>∃ k4 k5 f8 k6 k7,rO b j p a k4 k5 f8=some R/\f 8=zS k6 f8.length k7/\aJ G K (aN 66 K k6 k7 f8::box b1 73 [zS a2 b.length c3,i64 k4,Value.int .u64 k5]::aN 9 K c d a.1::box g 27 e::L) w) aHU (aK (aF (v:=zP (some ⟨b1,0,none⟩)) ?_)))
   have n7:aJ G K (box b1 73 [zS a2 b.length c3,i64 d1,Value.int .u64 d2]::aN 66 K b3 c48 a7::aN 9 K c d a.1::box g 27 e::L) n5:=(aJ.arr 2 [1,0] n6 rfl)
   obtain ⟨k8,n8,hm⟩:=aB hm
   refine aR (vs:=[zP (some ⟨b1,0,none⟩),i64 3]) call34 rfl (sU n8 n7 o) ?_
   rintro _ w2 ⟨rfl,k9⟩
   refine aG ?_
   rcases aH hm with ⟨f9,hm⟩|⟨f9,hm⟩
   ·refine aL f9 rfl (aP (aY k3 (aF (v:=zP (some ⟨b1,0,none⟩)) (aF (v:=i64 (wr ((wr (1+j.1))+p.1))) ?_))));obtain ⟨b4,n9,hm⟩:=aB hm
    refine aR (vs:=[zP (some ⟨b1,0,none⟩),i64 (wr ((wr (1+j.1))+p.1))]) call14 rfl (cW n9 k9 o) ?_
    rintro _ w3 ⟨rfl,o0⟩
    refine aF (v:=zP (some ⟨b1,0,none⟩)) (aF (v:=zS c a.1.length d) (aC (bO (len:=a.1.length) bX rfl) ?_));obtain ⟨b6,o1,hm⟩:=aB hm
    refine aR (vs:=[zP (some ⟨b1,0,none⟩),i64 (a.1.length:Int)]) call14 rfl (cW o1 o0 o) ?_
    rintro _ w4 ⟨rfl,o2⟩
    refine aF (v:=zP (some ⟨b1,0,none⟩)) (aF (v:=i64 (wr ((wr (1+j.1))+p.1))) ?_);obtain ⟨u,o3,hm⟩:=aB hm
    refine aR (vs:=[zP (some ⟨b1,0,none⟩),i64 (wr ((wr (1+j.1))+p.1))]) call14 rfl (cW o3 o2 o) ?_
    rintro _ w5 ⟨rfl,o4⟩
    refine aC (dF (vs:=[(0,i64 b4.1),(1,i64 b6.1),(2,i64 u.1)]) (cs:=[i64 b4.1,i64 b6.1,i64 u.1]) aDl rfl (by kernel_rfl)) (cB (Kt:=K) (xs:=([⟨b4.1,b6.1,u.1⟩]:List Edge)) (cs:=[i64 b4.1,i64 b6.1,i64 u.1]) (vs:=[(0,zA #[i64 b4.1,i64 b6.1,i64 u.1])]) cL gC rfl rfl o4 rfl (by kernel_rfl) rfl rfl rfl ⟨rfl,trivial⟩ (fun o5 o6 (o7:aJ G K (aN 66 K o5 1 ([⟨b4.1,b6.1,u.1⟩]:List Edge)::box b1 73 [zS a2 b.length c3,i64 u.2.1,Value.int .u64 u.2.2]::aN 66 K b3 c48 a7::aN 9 K c d a.1::box g 27 e::L) o6)=>?_))
    obtain ⟨g0,o8,hm⟩:=aB hm
    exact dG (i:=1) cL underlying25 gC rfl rfl o7 rfl (zR _) (zR _) o8 rfl rfl rfl rfl (fun _ h=>h) (fun g1 g2 o9 (p0:aJ G K (box b1 73 [zS a2 b.length c3,i64 u.2.1,Value.int .u64 u.2.2]::aN 66 K g1 g2 g0::aN 9 K c d a.1::box g 27 e::L) o9)=>(aD (v:=zS g1 g0.length g2) (aG ⟨aM,u.2.1,u.2.2,g0,g1,g2,hm,rfl,(aJ.arr 2 [1,0] p0 rfl)⟩)))
   ·exact aI f9 rfl (aU (aA ⟨aM,k8.2.1,k8.2.2,a7,b3,c48,hm,k3,(aJ.arr 2 [1,0] k9 rfl)⟩))
  obtain ⟨w7,p1,ho⟩:=aB hm
  refine uW [0,2,3,4,5,6] p1 (fun d3 d4 c5 b7 f w=>∃ c6 c7,f 8=zS c6 c5.length c7/\f 9=i64 b7/\aJ G K (box b1 73 [zS a2 b.length c3,i64 d3,Value.int .u64 d4]::aN 66 K c6 c7 c5::aN 2 K l m k::aN 9 K c d a.1::box g 27 e::L) w) ?_ ?_
  ·exact ⟨d0,0,rfl,rfl,n4⟩
  ·rintro d3 d4 c5 b7 g3 f w8 hm hr ⟨c6,c7,l0,l1,l2⟩
   unfold aBx at hm
   refine aO (aK (aY l1 (aC (kC rfl rfl) (aG ?_))))
   rcases aH hm with ⟨g4,hm⟩|⟨g4,hm⟩
   ·refine aL g4 rfl (aU (aA (aO (aW [0,2,3,4,5,6,9] (fun f w=>∃ g5 g6 d5 d6 d7,yA b7 g5 g6 d5=some g3/\f 8=zS d6 d5.length d7/\aJ G K (aN 66 K d6 d7 d5::box b1 73 [zS a2 b.length c3,i64 g5,Value.int .u64 g6]::aN 2 K l m k::aN 9 K c d a.1::box g 27 e::L) w) ?_ ?_))))
    ·rintro f w9 ⟨g5,g6,d5,d6,d7,hm,p2,p3⟩
     unfold yA at hm
     exact aA (aP (aY l1 (aC (iK rfl rfl) (aD (v:=i64 (wr (b7 - 1))) (aG ⟨_,(zI hm).symm,aM,d6,d7,p2,rfl,(aJ.arr 2 [1,0] p3 rfl)⟩)))))
    refine aK (aF (v:=zP (some ⟨b1,0,none⟩)) (aF (v:=i64 (wr (1+j.1))) ?_));obtain ⟨l3,p4,hm⟩:=aB hm
    refine aR (vs:=[zP (some ⟨b1,0,none⟩),i64 (wr (1+j.1))]) call14 rfl (cW p4 l2 o) ?_
    rintro _ x0 ⟨rfl,p5⟩
    refine aD (v:=i64 l3.1) (aG (aK (aF (v:=zP (some ⟨b1,0,none⟩)) (aF (v:=zS c a.1.length d) (aC (bO (len:=a.1.length) bX rfl) ?_)))));obtain ⟨Z,p6,hm⟩:=aB hm
    refine aR (vs:=[zP (some ⟨b1,0,none⟩),i64 (a.1.length:Int)]) call14 rfl (cW p6 p5 o) ?_
    rintro _ x1 ⟨rfl,p7⟩
    refine aD (v:=i64 Z.1) (aG (aK (aF (v:=zP (some ⟨b1,0,none⟩)) (aF (v:=i64 (wr (1+j.1))) ?_))));obtain ⟨l4,p8,hm⟩:=aB hm
    refine aR (vs:=[zP (some ⟨b1,0,none⟩),i64 (wr (1+j.1))]) call14 rfl (cW p8 p7 o) ?_
    rintro _ x2 ⟨rfl,p9⟩
    refine aD (v:=i64 l4.1) (aG (aK (aD (v:=i64 0) (aG (aW [0,2,3,4,5,6,9] (fun f w=>∃ d8 d9 c8 e0 e1,rQ b7 d8 d9 c8=some g3/\f 8=zS e0 c8.length e1/\aJ G K (aN 66 K e0 e1 c8::box b1 73 [zS a2 b.length c3,i64 d8,Value.int .u64 d9]::aN 2 K l m k::aN 9 K c d a.1::box g 27 e::L) w) ?_ ?_)))))
    ·rintro f x3 ⟨d8,d9,c8,e0,e1,hm,q0,q1⟩
     unfold rQ at hm
     exact aX (aA ⟨aM,d8,d9,c8,e0,e1,hm,q0,q1⟩)
    obtain ⟨x4,q2,ho⟩:=aB hm
    refine uW [0,2,3,4,5,6,9,10,11,12] q2 (fun q r n x f w=>∃ y z,f 8=zS y n.length z/\f 13=i64 x/\aJ G K (box b1 73 [zS a2 b.length c3,i64 q,Value.int .u64 r]::aN 66 K y z n::aN 2 K l m k::aN 9 K c d a.1::box g 27 e::L) w) ?_ ?_
    ·exact ⟨c6,c7,l0,rfl,p9⟩
    ·rintro q r n x g7 f x5 hm hr ⟨y,z,g8,e2,c9⟩
     unfold aCm at hm
     refine aO (aK (aY e2 (aF (v:=i64 (wr ((wr (1+j.1))+p.1))) (aC (cG rfl rfl) (aG ?_)))))
     rcases aH hm with ⟨g9,hm⟩|⟨g9,hm⟩
     ·refine aL g9 rfl (aU (aA (aO (aW [0,2,3,4,5,6,9,10,11,12,13] (fun f w=>∃ h0 h1 e3 e4 e5,rR x h0 h1 e3=some g7/\f 8=zS e4 e3.length e5/\aJ G K (box b1 73 [zS a2 b.length c3,i64 h0,Value.int .u64 h1]::aN 66 K e4 e5 e3::aN 2 K l m k::aN 9 K c d a.1::box g 27 e::L) w) ?_ ?_))))
      ·rintro f x6 ⟨h0,h1,e3,e4,e5,hm,q3,q4⟩
       unfold rR at hm
       exact aA (aP (aY e2 (aC (cE rfl rfl) (aD (v:=i64 (wr (x+1))) (aG ⟨_,(zI hm).symm,aM,e4,e5,q3,rfl,q4⟩)))))
      refine aO (aK (aY k1 (aY e2 ?_)));obtain ⟨x7,h2,hm⟩:=aB hm
      have l5:=cX c9 (i:=2) rfl h2
      refine aC (dD cC rfl l5 rfl rfl rfl h2) (aC (gX (t:=0) cQ c9 (i:=2) rfl h2 rfl rfl rfl) (aF (v:=i64 l3.1) (aC (qQ rfl rfl) (aG ?_))))
      rcases aH hm with ⟨h3,hm⟩|⟨h3,hm⟩
      ·exact aL h3 rfl (bV (aT (bJ (aA ⟨aM,q,r,n,y,z,hm,g8,c9⟩))))
      ·refine aI h3 rfl (aU (aA (aK (cB (Kt:=K) (xs:=([]:List Int)) (cs:=[]) (vs:=[]) cC iV rfl rfl c9 rfl (by kernel_rfl) rfl rfl rfl trivial (fun h5 q5 (q6:aJ G K (aN 2 K h5 0 ([]:List Int)::box b1 73 [zS a2 b.length c3,i64 q,Value.int .u64 r]::aN 66 K y z n::aN 2 K l m k::aN 9 K c d a.1::box g 27 e::L) q5)=>(aD (v:=zS h5 ([]:List Int).length 0) (aG (aO (aK (aD (v:=i64 0) (aG (aW [0,2,3,4,5,6,8,9,10,11,12,13] (fun f w=>∃ a8 b8 b9,rS b Z q r n x a8=some g7/\f 14=zS b8 a8.length b9/\aJ G K (aN 2 K b8 b9 a8::box b1 73 [zS a2 b.length c3,i64 q,Value.int .u64 r]::aN 66 K y z n::aN 2 K l m k::aN 9 K c d a.1::box g 27 e::L) w) ?_ ?_))))))))))))
       ·rintro f x8 ⟨a8,b8,b9,hm,q7,q8⟩
        unfold rS at hm
        refine aA (aP (aY g8 (aY e2 (aF (v:=i64 Z.1) (aF (v:=zP (some ⟨b1,0,none⟩)) (aY q7 ?_))))));obtain ⟨x9,q9,r0,r1,r2⟩:=aJ.lendSp q8 (zR _) .head
        obtain ⟨V,r3,hm⟩:=aB hm
        refine aR (vs:=[zP (some ⟨b1,0,none⟩),zS b8 a8.length b9]) call82 rfl (aDf r3 r1 (o.mono q9) r0) ?_
        rintro _ y0 ⟨rfl,r4⟩
        have r5:=r2 _ _ r4
        refine aC (dF (vs:=[(0,i64 x),(1,i64 Z.1),(2,i64 V.1)]) (cs:=[i64 x,i64 Z.1,i64 V.1]) aDl rfl (by kernel_rfl)) (cB (Kt:=K) (xs:=([⟨x,Z.1,V.1⟩]:List Edge)) (cs:=[i64 x,i64 Z.1,i64 V.1]) (vs:=[(0,zA #[i64 x,i64 Z.1,i64 V.1])]) cL gC rfl rfl r5 rfl (by kernel_rfl) rfl rfl rfl ⟨rfl,trivial⟩ (fun r6 r7 (r8:aJ G K (aN 66 K r6 1 ([⟨x,Z.1,V.1⟩]:List Edge)::aN 2 K b8 b9 a8::box b1 73 [zS a2 b.length c3,i64 V.2.1,Value.int .u64 V.2.2]::aN 66 K y z n::aN 2 K l m k::aN 9 K c d a.1::box g 27 e::L) r7)=>?_))
        obtain ⟨h6,s0,hm⟩:=aB hm
        exact dG (i:=2) cL underlying25 gC rfl rfl r8 rfl (zR _) (zR _) s0 rfl rfl rfl rfl (fun _ h=>h) (fun h7 h8 s1 (s2:aJ G K (aN 2 K b8 b9 a8::box b1 73 [zS a2 b.length c3,i64 V.2.1,Value.int .u64 V.2.2]::aN 66 K h7 h8 h6::aN 2 K l m k::aN 9 K c d a.1::box g 27 e::L) s1)=>(aD (v:=zS h7 h6.length h8) (bB (aX (aA ⟨aM,V.2.1,V.2.2,h6,h7,h8,hm,rfl,(aJ.arr 1 [] s2 rfl)⟩)))))
       obtain ⟨y1,s3,ho⟩:=aB hm
       refine cJ [0,2,3,4,5,6,8,9,10,11,12,13] s3 (fun a9 a1 f w=>∃ c0 c1,f 14=zS c0 a9.length c1/\f 15=i64 a1/\aJ G K (aN 2 K c0 c1 a9::box b1 73 [zS a2 b.length c3,i64 q,Value.int .u64 r]::aN 66 K y z n::aN 2 K l m k::aN 9 K c d a.1::box g 27 e::L) w) ?_ ?_
       ·exact ⟨h5,0,rfl,rfl,q6⟩
       ·rintro a9 a1 s4 f y2 hm hr ⟨c0,c1,h9,e6,e7⟩
        unfold aCl at hm
        refine aO (aK (aY e6 (aF (v:=i64 (wr ((wr (1+j.1))+p.1))) (aC (cG rfl rfl) (aG ?_)))))
        rcases aH hm with ⟨i0,hm⟩|⟨i0,hm⟩
        ·refine aL i0 rfl (aU (aA (aO (aW [0,2,3,4,5,6,8,9,10,11,12,13,15] (fun f w=>∃ e8 e9 f0,rT a1 e8=some s4/\f 14=zS e9 e8.length f0/\aJ G K (aN 2 K e9 f0 e8::box b1 73 [zS a2 b.length c3,i64 q,Value.int .u64 r]::aN 66 K y z n::aN 2 K l m k::aN 9 K c d a.1::box g 27 e::L) w) ?_ ?_))))
         ·rintro f y3 ⟨e8,e9,f0,hm,s5,s6⟩
          unfold rT at hm
          exact aA (aP (aY e6 (aC (cE rfl rfl) (aD (v:=i64 (wr (a1+1))) (aG ⟨_,(zI hm).symm,aM,e9,f0,s5,rfl,s6⟩)))))
         refine aK (aY k1 (aY e6 ?_));obtain ⟨y4,l6,hm⟩:=aB hm
         refine aC (dD cC rfl l5 rfl rfl rfl l6) (aC (gX (t:=0) cQ e7 (i:=3) rfl l6 rfl rfl rfl) (aF (v:=i64 l4.1) (aC (fA rfl rfl) (aG ?_))))
         rcases aH hm with ⟨i1,hm⟩|⟨i1,hm⟩
         ·refine aL i1 rfl (aP (aY h9 (aY e6 (cB (Kt:=K) (xs:=([a1]:List Int)) (cs:=[i64 a1]) (vs:=[(0,i64 a1)]) cC iV rfl rfl e7 rfl (by kernel_rfl) rfl rfl rfl ⟨rfl,trivial⟩ (fun s7 s8 (s9:aJ G K (aN 2 K s7 1 ([a1]:List Int)::aN 2 K c0 c1 a9::box b1 73 [zS a2 b.length c3,i64 q,Value.int .u64 r]::aN 66 K y z n::aN 2 K l m k::aN 9 K c d a.1::box g 27 e::L) s8)=>?_)))));obtain ⟨i2,t0,hm⟩:=aB hm
          exact dG (i:=0) cC underlying56 iV rfl rfl s9 rfl (zR _) (zR _) t0 rfl rfl rfl rfl (fun _ h=>h) (fun i3 i4 t1 (t2:aJ G K (aN 2 K i3 i4 i2::box b1 73 [zS a2 b.length c3,i64 q,Value.int .u64 r]::aN 66 K y z n::aN 2 K l m k::aN 9 K c d a.1::box g 27 e::L) t1)=>(aD (v:=zS i3 i2.length i4) (bB (aX (aA ⟨aM,i2,i3,i4,hm,rfl,t2⟩)))))
         ·exact aI i1 rfl (aU (aX (aA ⟨aM,a9,c0,c1,hm,h9,e7⟩)))
        ·refine aI i0 rfl (bV (aT (aT ?_)))
         have t3:=hr _ (zI hm).symm
         subst t3
         have hm:(rS b Z q r n x a9)=some g7:=ho
         clear hr ho
         exact bJ (aA ⟨aM,a9,c0,c1,hm,h9,e7⟩)
     ·refine aI g9 rfl (bV (aT (aT ?_)))
      have t4:=hr _ (zI hm).symm
      subst t4
      have hm:(rQ b7 q r n)=some g3:=ho
      clear hr ho
      exact bJ (aA ⟨aM,q,r,n,y,z,hm,g8,(aJ.arr 2 [1,0] c9 rfl)⟩)
   ·refine aI g4 rfl (bV (aT (aT ?_)))
    have t5:=hr _ (zI hm).symm
    subst t5
    have hm:(rP b j p a d3 d4 c5)=some R:=ho
    clear hr ho
    exact bJ (aA ⟨aM,d3,d4,c5,c6,c7,hm,l0,(aJ.arr 3 [1,0] l2 rfl)⟩)
 obtain ⟨y5,t6,ho⟩:=aB hm
 refine uW [0,2,3,4,5] t6 (fun a3 a4 a5 a6 f w=>∃ b0 b2,f 6=zS b0 a5.length b2/\f 7=i64 a6/\aJ G K (aN 2 K b0 b2 a5::aN 9 K c d a.1::box b1 73 [zS a2 b.length c3,i64 a3,Value.int .u64 a4]::box g 27 e::L) w) ?_ ?_
 ·exact ⟨f7,0,rfl,rfl,m8⟩
 ·rintro a3 a4 a5 a6 t7 f t8 hm hr ⟨b0,b2,i5,f1,i6⟩
  unfold aBy at hm
  refine aO (aK (aY f1 (aF (v:=i64 (wr ((wr (1+j.1))+p.1))) (aC (cG rfl rfl) (aG ?_)))))
  rcases aH hm with ⟨i7,hm⟩|⟨i7,hm⟩
  ·refine aL i7 rfl (aU (aA (aO (aW [0,2,3,4,5,7] (fun f w=>∃ i8 i9 f2 f3 f4,pN a6 i8 i9 f2=some t7/\f 6=zS f3 f2.length f4/\aJ G K (aN 2 K f3 f4 f2::aN 9 K c d a.1::box b1 73 [zS a2 b.length c3,i64 i8,Value.int .u64 i9]::box g 27 e::L) w) ?_ ?_))))
   ·rintro f y6 ⟨i8,i9,f2,f3,f4,hm,t9,u0⟩
    unfold pN at hm
    exact aA (aP (aY f1 (aC (cE rfl rfl) (aD (v:=i64 (wr (a6+1))) (aG ⟨_,(zI hm).symm,aM,f3,f4,t9,rfl,u0⟩)))))
   refine aK (aY f1 (aF (v:=i64 (wr (1+j.1))) (aC (cG rfl rfl) (aG ?_))))
   rcases aH hm with ⟨j0,hm⟩|⟨j0,hm⟩
   ·refine aL j0 rfl (aP (aY i5 (aY f1 (cB (Kt:=K) (xs:=([a6]:List Int)) (cs:=[i64 a6]) (vs:=[(0,i64 a6)]) cC iV rfl rfl i6 rfl (by kernel_rfl) rfl rfl rfl ⟨rfl,trivial⟩ (fun u1 u2 (u3:aJ G K (aN 2 K u1 1 ([a6]:List Int)::aN 2 K b0 b2 a5::aN 9 K c d a.1::box b1 73 [zS a2 b.length c3,i64 a3,Value.int .u64 a4]::box g 27 e::L) u2)=>?_)))));obtain ⟨j1,u4,hm⟩:=aB hm
    exact dG (i:=0) cC underlying56 iV rfl rfl u3 rfl (zR _) (zR _) u4 rfl rfl rfl rfl (fun _ h=>h) (fun j2 j3 u5 (u6:aJ G K (aN 2 K j2 j3 j1::aN 9 K c d a.1::box b1 73 [zS a2 b.length c3,i64 a3,Value.int .u64 a4]::box g 27 e::L) u5)=>(aD (v:=zS j2 j1.length j3) (bB (aX (aA ⟨aM,a3,a4,j1,j2,j3,hm,rfl,u6⟩)))))
   ·refine aI j0 rfl (aP (aY i5 (aF (v:=zP (some ⟨b1,0,none⟩)) (aF (v:=i64 (wr (1+j.1))) ?_))))
    have u7:aJ G K (box b1 73 [zS a2 b.length c3,i64 a3,Value.int .u64 a4]::aN 2 K b0 b2 a5::aN 9 K c d a.1::box g 27 e::L) t8:=(aJ.arr 3 [2,0,1] i6 rfl)
    obtain ⟨a0,u8,hm⟩:=aB hm
    refine aR (vs:=[zP (some ⟨b1,0,none⟩),i64 (wr (1+j.1))]) call14 rfl (cW u8 u7 o) ?_
    rintro _ y7 ⟨rfl,u9⟩
    refine cB (Kt:=K) (xs:=([a0.1]:List Int)) (cs:=[i64 a0.1]) (vs:=[(0,i64 a0.1)]) cC iV rfl rfl u9 rfl (by kernel_rfl) rfl rfl rfl ⟨rfl,trivial⟩ (fun v0 v1 (v2:aJ G K (aN 2 K v0 1 ([a0.1]:List Int)::box b1 73 [zS a2 b.length c3,i64 a0.2.1,Value.int .u64 a0.2.2]::aN 2 K b0 b2 a5::aN 9 K c d a.1::box g 27 e::L) v1)=>?_);obtain ⟨j4,v3,hm⟩:=aB hm
    exact dG (i:=1) cC underlying56 iV rfl rfl v2 rfl (zR _) (zR _) v3 rfl rfl rfl rfl (fun _ h=>h) (fun j5 j6 v4 (v5:aJ G K (box b1 73 [zS a2 b.length c3,i64 a0.2.1,Value.int .u64 a0.2.2]::aN 2 K j5 j6 j4::aN 9 K c d a.1::box g 27 e::L) v4)=>(aD (v:=zS j5 j4.length j6) (bB (aX (aA ⟨aM,a0.2.1,a0.2.2,j4,j5,j6,hm,rfl,(aJ.arr 3 [1,2,0] v5 rfl)⟩)))))
  ·refine aI i7 rfl (bV (aT (aT ?_)))
   have v6:=hr _ (zI hm).symm
   subst v6
   have hm:(pM b j p a a3 a4 a5)=some R:=ho
   clear hr ho
   exact bJ (aA ⟨aM,a3,a4,a5,b0,b2,hm,i5,i6⟩)
end Gv
