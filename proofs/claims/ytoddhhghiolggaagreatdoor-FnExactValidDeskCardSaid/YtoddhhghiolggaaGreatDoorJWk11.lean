/- Walks, printed by program. -/
import Derived.Test.YtoddhhghiolggaaGreatDoorJWk9
set_option linter.all false
namespace Gv
open Gv.Hp renaming le_refl→zR
open Go.Value renaming slice→zS,bool→zB,agg→zA
open Go Go.Proofs Go.Proofs.Tryz
set_option maxRecDepth 20000
set_option maxHeartbeats 40000000
variable {G:kE} {K:Hp} {L:List eT} {w:World} {a1 a4 a7 a10 a13 a16 a19 a22 a25 a28 a31 a34 a37 a40 a43 a46:Option Addr} {c2 c5 c8 c11 c14 c17 c20 c23 c26 c29 c32 c35 c38 c41 c44 c47:Nat}
theorem aEb {k:Kept} {R:Bool} (hm:qX k=some R) (q:aG G K (L) w) (hG:G.lo=0) (r:aY K a1 c2 k.S.L) (t:aY K a4 c5 k.S.E) (h9:aY K a7 c8 k.Formula) (u:aY K a10 c11 k.Source.Definitions) (x:aY K a13 c14 k.Source.Components) (y:aY K a16 c17 k.Source.Meetings) (z:aY K a19 c20 k.Source.Allowed) (J:aY K a22 c23 k.Source.Hidden):
  Calls prog 12 ([zA #[str k.Name,i64 k.Kind,i64 k.S.N,i64 k.S.I,zS a1 k.S.L.length c2,zS a4 k.S.E.length c5,zS a7 k.Formula.length c8,zS a10 k.Source.Definitions.length c11,zS a13 k.Source.Components.length c14,zS a16 k.Source.Meetings.length c17,zS a19 k.Source.Allowed.length c20,zS a22 k.Source.Hidden.length c23]]:List Value).toArray w (cK fun v w'=>v=zB R/\aG G K (L) w'):=by
 let e:=[str k.Name,i64 k.Kind,i64 k.S.N,i64 k.S.I,zS a1 k.S.L.length c2,zS a4 k.S.E.length c5,zS a7 k.Formula.length c8,zS a10 k.Source.Definitions.length c11,zS a13 k.Source.Components.length c14,zS a16 k.Source.Meetings.length c17,zS a19 k.Source.Allowed.length c20,zS a22 k.Source.Hidden.length c23]
 refine aM func12 rfl (by kernel_rfl) (by show (1:Nat)<=71;decide) ?_;unfold qX at hm
 refine aK (eR (v:=zA #[str k.Name,i64 k.Kind,i64 k.S.N,i64 k.S.I,zS a1 k.S.L.length c2,zS a4 k.S.E.length c5,zS a7 k.Formula.length c8,zS a10 k.Source.Definitions.length c11,zS a13 k.Source.Components.length c14,zS a16 k.Source.Meetings.length c17,zS a19 k.Source.Allowed.length c20,zS a22 k.Source.Hidden.length c23]) (vs:=e) q rfl rfl (fun V a8 g=>(aH (v:=zB false) (aL (aI (aK (aC (bI (t':=0) aIN rfl rfl) (aC (dH nK g (i:=0) rfl rfl rfl) ?_))))))))
 obtain ⟨a9,Z,hm⟩:=aB hm
 refine aW (vs:=[str k.Name]) call17 rfl (aDv Z g) ?_
 rintro _ b0 ⟨rfl,a⟩
 refine aC (vB rfl) (aL ?_)
 rcases aJ hm with ⟨h,hm⟩|⟨h,hm⟩
 ·exact aE
 ·refine aP h rfl (aU (aF (aI (fY (C:=fun w'=>aG G K (box V 48 e::L) w') Tryz_mixed (by kernel_rfl) (aG.mono a (eG.drew _)) (bD (fun _ a=>bI (t':=2) aGu rfl rfl) (bD (fun _ a=>kH (us:=(zC k.S a1 c2 a4 c5)) ag_40 a (i:=0) rfl rfl rfl rfl) (bD (fun _ a=>aCG (vs:=[]) (cs:=zG) bs_40 rfl (by kernel_rfl)) ?_)))))));obtain ⟨j,a0,hm⟩:=aB hm
  refine iM (vs:=[zA (zCa k.S a1 c2 a4 c5),zA zGa]) (v:=zB j) call18 rfl (fun _ a=>(aGk (b:=⟨0,0,[],[]⟩) a0 a r t (kF (α:=aN) _) (kF (α:=Edge) _))) (bD (fun _ a=>bI (t':=6) aEr rfl rfl) (bD (fun _ a=>dH aOk a (i:=0) rfl rfl rfl) (bD (fun _ a=>aV (len:=k.Formula.length) rX rfl) (bD (fun _ a=>dS rfl rfl) (bD (fun _ a=>bI (t':=7) aEs rfl rfl) (bD (fun _ a=>kH (us:=[zS a10 k.Source.Definitions.length c11,zS a13 k.Source.Components.length c14,zS a16 k.Source.Meetings.length c17,zS a19 k.Source.Allowed.length c20,zS a22 k.Source.Hidden.length c23]) ag_46 a (i:=0) rfl rfl rfl rfl) (bD (fun _ a=>aCG (vs:=[]) (cs:=[zS none 0 0,zS none 0 0,zS none 0 0,zS none 0 0,zS none 0 0]) bs_46 rfl (by kernel_rfl)) ?_)))))))
  obtain ⟨l,a2,hm⟩:=aB hm
  refine iM (vs:=[zA #[zS a10 k.Source.Definitions.length c11,zS a13 k.Source.Components.length c14,zS a16 k.Source.Meetings.length c17,zS a19 k.Source.Allowed.length c20,zS a22 k.Source.Hidden.length c23],zA #[zS none 0 0,zS none 0 0,zS none 0 0,zS none 0 0,zS none 0 0]]) (v:=zB l) call19 rfl (fun _ a=>(aDd (b:=⟨[],[],[],[],[]⟩) a2 a u x y z J (kF (α:=Definition) _) (kF (α:=aX) _) (kF (α:=bB) _) (kF (α:=aN) _) (kF (α:=aN) _))) (bD (fun _ a=>eO (v:=zB j) rfl) (bD (fun _ a=>eO (v:=zB ((k.Formula.length:Int) == 0)) rfl) (bD (fun _ a=>eO (v:=zB l) rfl) (vE (fun b1 a3=>(aF (aI (aK (aC (bI (t':=1) aLH rfl rfl) (aC (dH iK a3 (i:=0) rfl rfl rfl) (aL (bK (aK (aC (dS rfl rfl) (aH (v:=zB (k.Kind == 1)) (aL ?_))))))))))))))))
  rcases aJ hm with ⟨c,hm⟩|⟨c,hm⟩
  ·exact aS c rfl (aI (aZ [] (fun f w=>∃ m,qW m=some R/\f 2=zB m/\aG G K (L) w) aE aE))
  ·refine aP c rfl (aK (aC (dS rfl rfl) (aH (v:=zB (k.Kind == 2)) (aL ?_))))
   rcases aJ hm with ⟨d,hm⟩|⟨d,hm⟩
   ·exact aS d rfl (aI (aZ [] (fun f w=>∃ n,nA n=some R/\f 2=zB n/\aG G K (L) w) aE aE))
   ·refine aP d rfl (aK (aC (dS rfl rfl) (aH (v:=zB (k.Kind == 3)) (aL ?_))))
    rcases aJ hm with ⟨o,hm⟩|⟨o,hm⟩
    ·exact aS o rfl (aI (aZ [] (fun f w=>∃ p,nB p=some R/\f 2=zB p/\aG G K (L) w) aE aE))
    ·exact aE
theorem aEc {d:vI} {R:Bool} (hm:uU d=some R) (hs:aG G K (L) w) (hG:G.lo=0) (Z:aY K a1 c2 d.Kept):
  Calls prog 7 ([zA #[zS a1 d.Kept.length c2]]:List Value).toArray w (cK fun v w'=>v=zB R/\aG G K (L) w'):=by
 let J:=[zS a1 d.Kept.length c2]
 refine aM func7 rfl (by kernel_rfl) (by show (1:Nat)<=37;decide) ?_;unfold uU at hm
 refine aK (eR (v:=zA #[zS a1 d.Kept.length c2]) (vs:=J) hs rfl rfl (fun V w5 b2=>(aH (v:=zB false) (aL (aI (aK (aC (bI (t':=0) aEt rfl rfl) (aC (dH aMd b2 (i:=0) rfl rfl rfl) (aC (aV (len:=d.Kept.length) aBE rfl) (aO (v:=i64 0) (aL (aQ [1] (fun f w=>aCk d=some R/\aG G K (box V 29 J::L) w) aE ?_))))))))))));obtain ⟨d2,b3,ho⟩:=aB hm
 refine bP [1,6,7] b3 (fun e f w=>f 8=i64 e/\aG G K (box V 29 J::L) w) aE ?_
 ·rintro e b5 f d3 hm hr ⟨a2,a3⟩
  unfold qZ at hm
  refine aK (aC (dR a2 rfl) (aL (aI ?_)))
  rcases aJ hm with ⟨a4,hm⟩|⟨a4,hm⟩
  ·refine aS a4 rfl (aU (aF (aI (bK (aK (bO a2 ?_))))));obtain ⟨a,a5,hm⟩:=aB hm
   refine aC (cL aBE rfl Z rfl rfl a2 a5) ?_;obtain ⟨d4,b6,b7⟩:=aY.el (sz:=12) rfl Z a5
   obtain ⟨h,j,k,l,m,n,o,p,q,c45,r,c48,u,x,y,z,rfl,b8,b9,c0,c1,c3,c4,c5,c6⟩:=b7
   refine aC (dU (t:=0) (vs:=[str a.Name,i64 a.Kind,i64 a.S.N,i64 a.S.I,zS h a.S.L.length j,zS k a.S.E.length l,zS m a.Formula.length n,zS o a.Source.Definitions.length p,zS q a.Source.Components.length c45,zS r a.Source.Meetings.length c48,zS u a.Source.Allowed.length x,zS y a.Source.Hidden.length z]) aOl a3 b6 rfl rfl rfl) (eA (vs:=[str ([]:aN),i64 0,i64 0,i64 0,zS none 0 0,zS none 0 0,zS none 0 0,zS none 0 0,zS none 0 0,zS none 0 0,zS none 0 0,zS none 0 0]) zeroValue48 a3 rfl (fun a6 d5 c7=>(aH (v:=i64 e) (eY (i:=0) (ns:=[str a.Name,i64 a.Kind,i64 a.S.N,i64 a.S.I,zS h a.S.L.length j,zS k a.S.E.length l,zS m a.Formula.length n,zS o a.Source.Definitions.length p,zS q a.Source.Components.length c45,zS r a.Source.Meetings.length c48,zS u a.Source.Allowed.length x,zS y a.Source.Hidden.length z]) (us:=[str a.Name,i64 a.Kind,i64 a.S.N,i64 a.S.I,zS h a.S.L.length j,zS k a.S.E.length l,zS m a.Formula.length n,zS o a.Source.Definitions.length p,zS q a.Source.Components.length c45,zS r a.Source.Meetings.length c48,zS u a.Source.Allowed.length x,zS y a.Source.Hidden.length z]) sizeOf48 c7 rfl rfl rfl rfl rfl (kI rfl) rfl rfl (fun c8 (b:aG G K (box a6 48 [str a.Name,i64 a.Kind,i64 a.S.N,i64 a.S.I,zS h a.S.L.length j,zS k a.S.E.length l,zS m a.Formula.length n,zS o a.Source.Definitions.length p,zS q a.Source.Components.length c45,zS r a.Source.Meetings.length c48,zS u a.Source.Allowed.length x,zS y a.Source.Hidden.length z]::box V 29 J::L) c8)=>(aL (aI (aZ [1,6,7,8] (fun f w=>∃ a7,qY e a7=some b5/\f 31=zB a7/\aG G K (box V 29 J::L) w) aE (fY (C:=fun w'=>aG G K (box a6 48 [str a.Name,i64 a.Kind,i64 a.S.N,i64 a.S.I,zS h a.S.L.length j,zS k a.S.E.length l,zS m a.Formula.length n,zS o a.Source.Definitions.length p,zS q a.Source.Components.length c45,zS r a.Source.Meetings.length c48,zS u a.Source.Allowed.length x,zS y a.Source.Hidden.length z]::box V 29 J::L) w') Tryz_mixed (by kernel_rfl) (aG.mono b (eG.drew _)) (bD (fun _ b=>kH (us:=[str a.Name,i64 a.Kind,i64 a.S.N,i64 a.S.I,zS h a.S.L.length j,zS k a.S.E.length l,zS m a.Formula.length n,zS o a.Source.Definitions.length p,zS q a.Source.Components.length c45,zS r a.Source.Meetings.length c48,zS u a.Source.Allowed.length x,zS y a.Source.Hidden.length z]) aOl b (i:=0) rfl rfl rfl rfl) ?_))))))))))
   obtain ⟨a8,c9,hm⟩:=aB hm
   refine iM (vs:=[zA #[str a.Name,i64 a.Kind,i64 a.S.N,i64 a.S.I,zS h a.S.L.length j,zS k a.S.E.length l,zS m a.Formula.length n,zS o a.Source.Definitions.length p,zS q a.Source.Components.length c45,zS r a.Source.Meetings.length c48,zS u a.Source.Allowed.length x,zS y a.Source.Hidden.length z]]) (v:=zB a8) call12 rfl (fun _ b=>(aEb c9 b hG b8 b9 c0 c1 c3 c4 c5 c6)) (bD (fun _ b=>vB rfl) (bD (fun _ b=>bE (v:=zB (!a8)) rfl) ?_))
   rcases aJ hm with ⟨a0,hm⟩|⟨a0,hm⟩
   ·exact aE
   ·refine iI (g:=16) rfl rfl (lH a0) (bD (fun _ b=>bE (v:=i64 e) rfl) (iI (g:=16) rfl rfl (lH a0) (bD (fun _ b=>aKJ rfl rfl) (iI (g:=16) rfl rfl (lH a0) (bD (fun _ b=>bE (v:=zB (decide (0 < e))) rfl) ?_)))))
    rcases aJ hm with ⟨c,hm⟩|⟨c,hm⟩
    ·refine iI (g:=19) rfl rfl c (bD (fun _ b=>bI (t':=0) aIN rfl rfl) (iI (g:=19) rfl rfl c (bD (fun _ b=>dH nK b (i:=0) rfl rfl rfl) (iI (g:=19) rfl rfl c (bD (fun _ b=>bI (t':=0) aEt rfl rfl) (iI (g:=19) rfl rfl c (bD (fun _ b=>dH aMd b (i:=1) rfl rfl rfl) (iI (g:=19) rfl rfl c (bD (fun _ b=>bE (v:=i64 e) rfl) (iI (g:=19) rfl rfl c (bD (fun _ b=>jI rfl rfl) (iI (g:=19) rfl rfl c ?_))))))))))));obtain ⟨d6,a9,hm⟩:=aB hm
     refine bD (fun _ b=>cL aBE rfl Z rfl rfl rfl a9) ?_;obtain ⟨d7,d8,d0⟩:=aY.el (sz:=12) rfl Z a9
     obtain ⟨d9,e0,e1,e2,e3,e4,e5,e6,e7,e8,e9,f0,f1,f2,f3,f4,rfl,f5,f6,f7,f8,f9,g0,g1,g2⟩:=d0
     exact aE
    ·exact aE
  ·exact aE
theorem aKt {a b:(List aN)} {R:Bool} (hm:rA a b=some R) (g:aG G K (L) w) (h:aY K a1 c2 a) (i:aY K a4 c5 b):
  Calls prog 118 ([zS a1 a.length c2,zS a4 b.length c5]:List Value).toArray w (cK fun v w'=>v=zB R/\aG G K (L) w'):=by
 refine aM func118 rfl (by kernel_rfl) (by show (2:Nat)<=26;decide) ?_;unfold rA at hm
 refine aK (aH (v:=zB false) (aL (aI (aK (aO (v:=zS a1 a.length c2) (aC (aV (len:=a.length) cX rfl) (aO (v:=zS a4 b.length c5) (aC (aV (len:=b.length) cX rfl) (aC (rW rfl rfl) (aL ?_))))))))))
 rcases aJ hm with ⟨c,hm⟩|⟨c,hm⟩
 ·exact aE
 ·refine aP c rfl (aU (aF (aI (aK (aH (v:=i64 0) (aL (aQ [] (fun f w=>aFY=some R/\aG G K (L) w) aE ?_)))))));obtain ⟨j,d,ho⟩:=aB hm
  exact bP [0,1] d (fun e f w=>f 5=i64 e/\aG G K (L) w) aE aE
theorem aNJ {a b:Edge} {R:Bool} (hm:aJn a b=some R) (c:aG G K (L) w):
  Calls prog 164 ([zA #[i64 a.F,i64 a.B,i64 a.To],zA #[i64 b.F,i64 b.B,i64 b.To]]:List Value).toArray w (cK fun v w'=>v=zB R/\aG G K (L) w'):=by
 exact aE
theorem aMI {a b:(List Edge)} {R:Bool} (hm:aDW a b=some R) (g:aG G K (L) w) (h:aY K a1 c2 a) (i:aY K a4 c5 b):
  Calls prog 119 ([zS a1 a.length c2,zS a4 b.length c5]:List Value).toArray w (cK fun v w'=>v=zB R/\aG G K (L) w'):=by
 refine aM func119 rfl (by kernel_rfl) (by show (2:Nat)<=27;decide) ?_;unfold aDW at hm
 refine aK (aH (v:=zB false) (aL (aI (aK (aO (v:=zS a1 a.length c2) (aC (aV (len:=a.length) aBC rfl) (aO (v:=zS a4 b.length c5) (aC (aV (len:=b.length) aBC rfl) (aC (rW rfl rfl) (aL ?_))))))))))
 rcases aJ hm with ⟨c,hm⟩|⟨c,hm⟩
 ·exact aE
 ·refine aP c rfl (aU (aF (aI (aK (aH (v:=i64 0) (aL (aQ [] (fun f w=>aJo=some R/\aG G K (L) w) aE ?_)))))));obtain ⟨j,d,ho⟩:=aB hm
  exact bP [0,1] d (fun e f w=>f 5=i64 e/\aG G K (L) w) aE aE
theorem aPe {a b:hJ} {R:Bool} (hm:aLK a b=some R) (c:aG G K (L) w) (d:aY K a1 c2 a.L) (e:aY K a4 c5 a.E) (g:aY K a7 c8 b.L) (h:aY K a10 c11 b.E):
  Calls prog 62 ([zA (zCa a a1 c2 a4 c5),zA (zCa b a7 c8 a10 c11)]:List Value).toArray w (cK fun v w'=>v=zB R/\aG G K (L) w'):=by
 exact aE
theorem aNK {a b:bH} {R:Bool} (hm:aJp a b=some R) (c:aG G K (L) w):
  Calls prog 120 ([zA #[i64 a.Kind,i64 a.Variable,str a.B,zB a.Not],zA #[i64 b.Kind,i64 b.Variable,str b.B,zB b.Not]]:List Value).toArray w (cK fun v w'=>v=zB R/\aG G K (L) w'):=by
 exact aE
theorem aMJ {a b:(List bH)} {R:Bool} (hm:aGH a b=some R) (g:aG G K (L) w) (h:aY K a1 c2 a) (i:aY K a4 c5 b):
  Calls prog 63 ([zS a1 a.length c2,zS a4 b.length c5]:List Value).toArray w (cK fun v w'=>v=zB R/\aG G K (L) w'):=by
 refine aM func63 rfl (by kernel_rfl) (by show (2:Nat)<=27;decide) ?_;unfold aGH at hm
 refine aK (aH (v:=zB false) (aL (aI (aK (aO (v:=zS a1 a.length c2) (aC (aV (len:=a.length) rX rfl) (aO (v:=zS a4 b.length c5) (aC (aV (len:=b.length) rX rfl) (aC (rW rfl rfl) (aL ?_))))))))))
 rcases aJ hm with ⟨c,hm⟩|⟨c,hm⟩
 ·exact aE
 ·refine aP c rfl (aU (aF (aI (aK (aH (v:=i64 0) (aL (aQ [] (fun f w=>aJq=some R/\aG G K (L) w) aE ?_)))))));obtain ⟨j,d,ho⟩:=aB hm
  exact bP [0,1] d (fun e f w=>f 5=i64 e/\aG G K (L) w) aE aE
theorem aNL {a b:aR} {R:Bool} (hm:aJr a b=some R) (c:aG G K (L) w):
  Calls prog 289 ([zA #[i64 a.Kind,i64 a.Value],zA #[i64 b.Kind,i64 b.Value]]:List Value).toArray w (cK fun v w'=>v=zB R/\aG G K (L) w'):=by
 exact aE
theorem aMK {a b:(List aR)} {R:Bool} (hm:aGI a b=some R) (g:aG G K (L) w) (h:aY K a1 c2 a) (i:aY K a4 c5 b):
  Calls prog 282 ([zS a1 a.length c2,zS a4 b.length c5]:List Value).toArray w (cK fun v w'=>v=zB R/\aG G K (L) w'):=by
 refine aM func282 rfl (by kernel_rfl) (by show (2:Nat)<=27;decide) ?_;unfold aGI at hm
 refine aK (aH (v:=zB false) (aL (aI (aK (aO (v:=zS a1 a.length c2) (aC (aV (len:=a.length) nL rfl) (aO (v:=zS a4 b.length c5) (aC (aV (len:=b.length) nL rfl) (aC (rW rfl rfl) (aL ?_))))))))))
 rcases aJ hm with ⟨c,hm⟩|⟨c,hm⟩
 ·exact aE
 ·refine aP c rfl (aU (aF (aI (aK (aH (v:=i64 0) (aL (aQ [] (fun f w=>aJs=some R/\aG G K (L) w) aE ?_)))))));obtain ⟨j,d,ho⟩:=aB hm
  exact bP [0,1] d (fun e f w=>f 5=i64 e/\aG G K (L) w) aE aE
theorem aLy {a b:(List (List aR))} {R:Bool} (hm:aEM a b=some R) (g:aG G K (L) w) (h:aY K a1 c2 a) (i:aY K a4 c5 b):
  Calls prog 265 ([zS a1 a.length c2,zS a4 b.length c5]:List Value).toArray w (cK fun v w'=>v=zB R/\aG G K (L) w'):=by
 refine aM func265 rfl (by kernel_rfl) (by show (2:Nat)<=27;decide) ?_;unfold aEM at hm
 refine aK (aH (v:=zB false) (aL (aI (aK (aO (v:=zS a1 a.length c2) (aC (aV (len:=a.length) mK rfl) (aO (v:=zS a4 b.length c5) (aC (aV (len:=b.length) mK rfl) (aC (rW rfl rfl) (aL ?_))))))))))
 rcases aJ hm with ⟨c,hm⟩|⟨c,hm⟩
 ·exact aE
 ·refine aP c rfl (aU (aF (aI (aK (aH (v:=i64 0) (aL (aQ [] (fun f w=>aHu=some R/\aG G K (L) w) aE ?_)))))));obtain ⟨j,d,ho⟩:=aB hm
  exact bP [0,1] d (fun e f w=>f 5=i64 e/\aG G K (L) w) aE aE
theorem aNM {a b:bG} {R:Bool} (hm:aJt a b=some R) (c:aG G K (L) w) (d:aY K a1 c2 a.Arguments) (e:aY K a4 c5 b.Arguments):
  Calls prog 236 ([zA #[i64 a.Kind,i64 a.Number,str a.Name,zS a1 a.Arguments.length c2],zA #[i64 b.Kind,i64 b.Number,str b.Name,zS a4 b.Arguments.length c5]]:List Value).toArray w (cK fun v w'=>v=zB R/\aG G K (L) w'):=by
 exact aE
theorem aML {a b:(List bG)} {R:Bool} (hm:aGJ a b=some R) (g:aG G K (L) w) (h:aY K a1 c2 a) (i:aY K a4 c5 b):
  Calls prog 202 ([zS a1 a.length c2,zS a4 b.length c5]:List Value).toArray w (cK fun v w'=>v=zB R/\aG G K (L) w'):=by
 refine aM func202 rfl (by kernel_rfl) (by show (2:Nat)<=27;decide) ?_;unfold aGJ at hm
 refine aK (aH (v:=zB false) (aL (aI (aK (aO (v:=zS a1 a.length c2) (aC (aV (len:=a.length) rY rfl) (aO (v:=zS a4 b.length c5) (aC (aV (len:=b.length) rY rfl) (aC (rW rfl rfl) (aL ?_))))))))))
 rcases aJ hm with ⟨c,hm⟩|⟨c,hm⟩
 ·exact aE
 ·refine aP c rfl (aU (aF (aI (aK (aH (v:=i64 0) (aL (aQ [] (fun f w=>aJu=some R/\aG G K (L) w) aE ?_)))))));obtain ⟨j,d,ho⟩:=aB hm
  exact bP [0,1] d (fun e f w=>f 5=i64 e/\aG G K (L) w) aE aE
theorem aHg {a b:Definition} {R:Bool} (hm:wW a b=some R) (c:aG G K (L) w) (d:aY K a1 c2 a.Body) (e:aY K a4 c5 b.Body):
  Calls prog 165 ([zA #[str a.Name,i64 a.Parameters,zS a1 a.Body.length c2],zA #[str b.Name,i64 b.Parameters,zS a4 b.Body.length c5]]:List Value).toArray w (cK fun v w'=>v=zB R/\aG G K (L) w'):=by
 exact aE
theorem aGn {a b:(List Definition)} {R:Bool} (hm:uA a b=some R) (g:aG G K (L) w) (h:aY K a1 c2 a) (i:aY K a4 c5 b):
  Calls prog 121 ([zS a1 a.length c2,zS a4 b.length c5]:List Value).toArray w (cK fun v w'=>v=zB R/\aG G K (L) w'):=by
 refine aM func121 rfl (by kernel_rfl) (by show (2:Nat)<=27;decide) ?_;unfold uA at hm
 refine aK (aH (v:=zB false) (aL (aI (aK (aO (v:=zS a1 a.length c2) (aC (aV (len:=a.length) qD rfl) (aO (v:=zS a4 b.length c5) (aC (aV (len:=b.length) qD rfl) (aC (rW rfl rfl) (aL ?_))))))))))
 rcases aJ hm with ⟨c,hm⟩|⟨c,hm⟩
 ·exact aE
 ·refine aP c rfl (aU (aF (aI (aK (aH (v:=i64 0) (aL (aQ [] (fun f w=>aCl=some R/\aG G K (L) w) aE ?_)))))));obtain ⟨j,d,ho⟩:=aB hm
  exact bP [0,1] d (fun e f w=>f 5=i64 e/\aG G K (L) w) aE aE
theorem aLz {a b:(List Int)} {R:Bool} (hm:aCm a b=some R) (g:aG G K (L) w) (h:aY K a1 c2 a) (i:aY K a4 c5 b):
  Calls prog 203 ([zS a1 a.length c2,zS a4 b.length c5]:List Value).toArray w (cK fun v w'=>v=zB R/\aG G K (L) w'):=by
 refine aM func203 rfl (by kernel_rfl) (by show (2:Nat)<=26;decide) ?_;unfold aCm at hm
 refine aK (aH (v:=zB false) (aL (aI (aK (aO (v:=zS a1 a.length c2) (aC (aV (len:=a.length) fI rfl) (aO (v:=zS a4 b.length c5) (aC (aV (len:=b.length) fI rfl) (aC (rW rfl rfl) (aL ?_))))))))))
 rcases aJ hm with ⟨c,hm⟩|⟨c,hm⟩
 ·exact aE
 ·refine aP c rfl (aU (aF (aI (aK (aH (v:=i64 0) (aL (aQ [] (fun f w=>aHv=some R/\aG G K (L) w) aE ?_)))))));obtain ⟨j,d,ho⟩:=aB hm
  exact bP [0,1] d (fun e f w=>f 5=i64 e/\aG G K (L) w) aE aE
theorem aIn {a b:aX} {R:Bool} (hm:zN a b=some R) (c:aG G K (L) w) (d:aY K a1 c2 a.Values) (e:aY K a4 c5 b.Values):
  Calls prog 166 ([zA #[i64 a.Definition,zS a1 a.Values.length c2],zA #[i64 b.Definition,zS a4 b.Values.length c5]]:List Value).toArray w (cK fun v w'=>v=zB R/\aG G K (L) w'):=by
 exact aE
theorem aHh {a b:(List aX)} {R:Bool} (hm:wX a b=some R) (g:aG G K (L) w) (h:aY K a1 c2 a) (i:aY K a4 c5 b):
  Calls prog 122 ([zS a1 a.length c2,zS a4 b.length c5]:List Value).toArray w (cK fun v w'=>v=zB R/\aG G K (L) w'):=by
 refine aM func122 rfl (by kernel_rfl) (by show (2:Nat)<=27;decide) ?_;unfold wX at hm
 refine aK (aH (v:=zB false) (aL (aI (aK (aO (v:=zS a1 a.length c2) (aC (aV (len:=a.length) xH rfl) (aO (v:=zS a4 b.length c5) (aC (aV (len:=b.length) xH rfl) (aC (rW rfl rfl) (aL ?_))))))))))
 rcases aJ hm with ⟨c,hm⟩|⟨c,hm⟩
 ·exact aE
 ·refine aP c rfl (aU (aF (aI (aK (aH (v:=i64 0) (aL (aQ [] (fun f w=>aCY=some R/\aG G K (L) w) aE ?_)))))));obtain ⟨j,d,ho⟩:=aB hm
  exact bP [0,1] d (fun e f w=>f 5=i64 e/\aG G K (L) w) aE aE
theorem aKu {a b:bB} {R:Bool} (hm:aCZ a b=some R) (c:aG G K (L) w):
  Calls prog 167 ([zA #[str a.Left,str a.Right,str a.Result],zA #[str b.Left,str b.Right,str b.Result]]:List Value).toArray w (cK fun v w'=>v=zB R/\aG G K (L) w'):=by
 exact aE
theorem aJM {a b:(List bB)} {R:Bool} (hm:aBm a b=some R) (g:aG G K (L) w) (h:aY K a1 c2 a) (i:aY K a4 c5 b):
  Calls prog 123 ([zS a1 a.length c2,zS a4 b.length c5]:List Value).toArray w (cK fun v w'=>v=zB R/\aG G K (L) w'):=by
 refine aM func123 rfl (by kernel_rfl) (by show (2:Nat)<=27;decide) ?_;unfold aBm at hm
 refine aK (aH (v:=zB false) (aL (aI (aK (aO (v:=zS a1 a.length c2) (aC (aV (len:=a.length) vJ rfl) (aO (v:=zS a4 b.length c5) (aC (aV (len:=b.length) vJ rfl) (aC (rW rfl rfl) (aL ?_))))))))))
 rcases aJ hm with ⟨c,hm⟩|⟨c,hm⟩
 ·exact aE
 ·refine aP c rfl (aU (aF (aI (aK (aH (v:=i64 0) (aL (aQ [] (fun f w=>aFk=some R/\aG G K (L) w) aE ?_)))))));obtain ⟨j,d,ho⟩:=aB hm
  exact bP [0,1] d (fun e f w=>f 5=i64 e/\aG G K (L) w) aE aE
theorem aLA {a b:bL} {R:Bool} (hm:aEN a b=some R) (c:aG G K (L) w) (d:aY K a1 c2 a.Definitions) (e:aY K a4 c5 a.Components) (g:aY K a7 c8 a.Meetings) (h:aY K a10 c11 a.Allowed) (i:aY K a13 c14 a.Hidden) (j:aY K a16 c17 b.Definitions) (k:aY K a19 c20 b.Components) (l:aY K a22 c23 b.Meetings) (m:aY K a25 c26 b.Allowed) (n:aY K a28 c29 b.Hidden):
  Calls prog 64 ([zA #[zS a1 a.Definitions.length c2,zS a4 a.Components.length c5,zS a7 a.Meetings.length c8,zS a10 a.Allowed.length c11,zS a13 a.Hidden.length c14],zA #[zS a16 b.Definitions.length c17,zS a19 b.Components.length c20,zS a22 b.Meetings.length c23,zS a25 b.Allowed.length c26,zS a28 b.Hidden.length c29]]:List Value).toArray w (cK fun v w'=>v=zB R/\aG G K (L) w'):=by
 exact aE
theorem aNN {a b:Kept} {R:Bool} (hm:aJv a b=some R) (c:aG G K (L) w) (d:aY K a1 c2 a.S.L) (e:aY K a4 c5 a.S.E) (g:aY K a7 c8 a.Formula) (h:aY K a10 c11 a.Source.Definitions) (i:aY K a13 c14 a.Source.Components) (j:aY K a16 c17 a.Source.Meetings) (k:aY K a19 c20 a.Source.Allowed) (l:aY K a22 c23 a.Source.Hidden) (m:aY K a25 c26 b.S.L) (n:aY K a28 c29 b.S.E) (o:aY K a31 c32 b.Formula) (p:aY K a34 c35 b.Source.Definitions) (q:aY K a37 c38 b.Source.Components) (r:aY K a40 c41 b.Source.Meetings) (t:aY K a43 c44 b.Source.Allowed) (u:aY K a46 c47 b.Source.Hidden):
  Calls prog 25 ([zA #[str a.Name,i64 a.Kind,i64 a.S.N,i64 a.S.I,zS a1 a.S.L.length c2,zS a4 a.S.E.length c5,zS a7 a.Formula.length c8,zS a10 a.Source.Definitions.length c11,zS a13 a.Source.Components.length c14,zS a16 a.Source.Meetings.length c17,zS a19 a.Source.Allowed.length c20,zS a22 a.Source.Hidden.length c23],zA #[str b.Name,i64 b.Kind,i64 b.S.N,i64 b.S.I,zS a25 b.S.L.length c26,zS a28 b.S.E.length c29,zS a31 b.Formula.length c32,zS a34 b.Source.Definitions.length c35,zS a37 b.Source.Components.length c38,zS a40 b.Source.Meetings.length c41,zS a43 b.Source.Allowed.length c44,zS a46 b.Source.Hidden.length c47]]:List Value).toArray w (cK fun v w'=>v=zB R/\aG G K (L) w'):=by
 exact aE
theorem aMM {a b:(List Kept)} {R:Bool} (hm:aGK a b=some R) (hs:aG G K (L) w) (g:aY K a1 c2 a) (h:aY K a4 c5 b):
  Calls prog 13 ([zS a1 a.length c2,zS a4 b.length c5]:List Value).toArray w (cK fun v w'=>v=zB R/\aG G K (L) w'):=by
 refine aM func13 rfl (by kernel_rfl) (by show (2:Nat)<=27;decide) ?_;unfold aGK at hm
 refine aK (aH (v:=zB false) (aL (aI (aK (aO (v:=zS a1 a.length c2) (aC (aV (len:=a.length) aBE rfl) (aO (v:=zS a4 b.length c5) (aC (aV (len:=b.length) aBE rfl) (aC (rW rfl rfl) (aL ?_))))))))))
 rcases aJ hm with ⟨i,hm⟩|⟨i,hm⟩
 ·exact aE
 ·refine aP i rfl (aU (aF (aI (aK (aH (v:=i64 0) (aL (aQ [] (fun f w=>aJw=some R/\aG G K (L) w) aE ?_)))))));obtain ⟨b1,n,ho⟩:=aB hm
  refine bP [0,1] n (fun j f w=>f 5=i64 j/\aG G K (L) w) aE ?_
  ·rintro j b2 f b3 hm hr ⟨e,d⟩
   unfold wY at hm
   refine aI (aK (bO e (aO (v:=zS a1 a.length c2) (aC (aV (len:=a.length) aBE rfl) (aC (dR rfl rfl) (aL ?_))))))
   rcases aJ hm with ⟨k,hm⟩|⟨k,hm⟩
   ·refine aS k rfl (aU (aF (aI (bK (aI (fY (C:=fun w'=>aG G K (L) w') Tryz_mixed (by kernel_rfl) (aG.mono d (eG.drew _)) (bD (fun _ d=>bE (v:=zS a1 a.length c2) rfl) (bD (fun _ d=>bE e) ?_))))))));obtain ⟨c,l,hm⟩:=aB hm
    refine bD (fun _ d=>cL aBE rfl g rfl rfl rfl l) ?_;obtain ⟨b4,o,p⟩:=aY.el (sz:=12) rfl g l
    obtain ⟨q,r,u,x,y,z,J,V,Z,a0,a2,a3,a5,a6,a7,a8,rfl,b5,b6,b7,b8,b9,c0,c1,c3⟩:=p
    refine bD (fun _ d=>dU (t:=0) (vs:=[str c.Name,i64 c.Kind,i64 c.S.N,i64 c.S.I,zS q c.S.L.length r,zS u c.S.E.length x,zS y c.Formula.length z,zS J c.Source.Definitions.length V,zS Z c.Source.Components.length a0,zS a2 c.Source.Meetings.length a3,zS a5 c.Source.Allowed.length a6,zS a7 c.Source.Hidden.length a8]) aOl d o rfl rfl rfl) (bD (fun _ d=>bE (v:=zS a4 b.length c5) rfl) (bD (fun _ d=>bE e) ?_))
    obtain ⟨c4,m,hm⟩:=aB hm
    refine bD (fun _ d=>cL aBE rfl h rfl rfl rfl m) ?_;obtain ⟨c6,c8,a9⟩:=aY.el (sz:=12) rfl h m
    obtain ⟨c9,d0,d1,d2,d3,d4,d5,d6,d7,d8,d9,e0,e1,e2,e3,e4,rfl,e5,e6,e7,e8,e9,f0,f1,f2⟩:=a9
    exact aE
   ·exact aE
end Gv
namespace Gv
open Gv.Hp renaming le_refl→zR
open Go.Value renaming slice→zS,bool→zB,agg→zA
open Gv.Hp renaming le_trans→zL
open Go Go.Proofs Go.Proofs.Tryz
set_option maxRecDepth 20000
set_option maxHeartbeats 40000000
variable {G:kE} {K:Hp} {L:List eT} {w:World} {a1 a4:Option Addr} {c2 c5:Nat}
theorem aHE {a b:vI} {R:Bool} (hm:aJx a b=some R) (c:aG G K (L) w) (d:aY K a1 c2 a.Kept) (e:aY K a4 c5 b.Kept):
  Calls prog 8 ([zA #[zS a1 a.Kept.length c2],zA #[zS a4 b.Kept.length c5]]:List Value).toArray w (cK fun v w'=>v=zB R/\aG G K (L) w'):=by
 exact aE
theorem uY {e:vI} {R:Bool} (hm:oA e=some R) (hs:aG G K (L) w) (hG:G.lo=0) (n:aY K a1 c2 e.Kept):
  Calls prog 3 ([zA #[zS a1 e.Kept.length c2]]:List Value).toArray w (cK fun v w'=>v=zB R/\aG G K (L) w'):=by
 let d:=[zS a1 e.Kept.length c2]
 let u:=[zA #[zS a1 e.Kept.length c2]]
 refine aM func3 rfl (by kernel_rfl) (by show (1:Nat)<=27;decide) ?_;unfold oA at hm
 refine aK (eR (v:=zA #[zS a1 e.Kept.length c2]) (vs:=d) hs rfl rfl (fun x w5 a3=>(aH (v:=zB false) (aL (aK (aH (v:=i64 1048576) (aL (aK (aC (kH (us:=d) ag_24 a3 (i:=0) rfl rfl rfl rfl) (aO (v:=i64 1048576) ?_))))))))));obtain ⟨r7,q8,hm⟩:=aB hm
 refine aW (vs:=[zA #[zS a1 e.Kept.length c2],i64 1048576]) call4 rfl (aHx q8 a3 n) ?_
 rintro _ w9 ⟨rfl,a5⟩
 refine aH (v:=i64 r7) (aL (aI (aK (aO (v:=i64 r7) (aC (dR rfl rfl) (aL ?_))))))
 rcases aJ hm with ⟨a6,hm⟩|⟨a6,hm⟩
 ·exact aE
 ·refine aP a6 rfl (aU (aF (aK (aC (kH (us:=d) ag_24 a5 (i:=0) rfl rfl rfl rfl) ?_))));obtain ⟨g,c0,hm⟩:=aB hm
  refine aW (vs:=u) call6 rfl (zQ c0 a5 n) ?_
  rintro _ f8 ⟨o,h,j,rfl,p,c1⟩
  obtain ⟨f9,g0,c3,c4,c5⟩:=aG.lendSp c1 (Hp.le_refl _) .head
  obtain ⟨a7,c6,hm⟩:=aB hm
  refine aW (vs:=[zA #[zS h g.Kept.length j]]) call5 rfl (aDY c6 c4 c3) ?_
  rintro _ g1 ⟨rfl,c7⟩
  have a8:=c5 _ _ c7
  refine aH (v:=zB a7) (aL (aK (aC (kH (us:=d) ag_24 a8 (i:=1) rfl rfl rfl rfl) ?_)));obtain ⟨a,c8,hm⟩:=aB hm
  refine aW (vs:=u) call6 rfl (zQ c8 a8 (n.mono p)) ?_
  rintro _ g2 ⟨a9,b,c,rfl,y,c9⟩
  refine eA (vs:=[zS none 0 0]) zeroValue29 c9 rfl (fun b0 g3 d0=>(eY (i:=0) (ns:=[zS b a.Kept.length c]) (us:=[zS b a.Kept.length c]) sizeOf29 d0 rfl rfl rfl rfl rfl (kI rfl) rfl rfl (fun d1 (b1:aG G a9 (box b0 29 [zS b a.Kept.length c]::aT 48 a9 b c a.Kept::aT 48 o h j g.Kept::box x 24 d::L) d1)=>(aL (aK (aC (kH (us:=[zS b a.Kept.length c]) ag_29 b1 (i:=0) rfl rfl rfl rfl) ?_))))));obtain ⟨g4,g5,d2,d3,d4⟩:=aG.lendSp b1 (Hp.le_refl _) zt1
  obtain ⟨b2,d5,hm⟩:=aB hm
  refine aW (vs:=[zA #[zS b a.Kept.length c]]) call7 rfl (aEc d5 d3 hG d2) ?_
  rintro _ z ⟨rfl,d6⟩
  have d7:=d4 _ _ d6
  refine aH (v:=zB b2) (aL (aI (aK (aO (v:=zB b2) (aO (v:=zB a7) (aC (R_neqB runUnderlying4 rfl rfl) (aL ?_)))))))
  rcases aJ hm with ⟨b3,hm⟩|⟨b3,hm⟩
  ·exact aE
  ·refine aP b3 rfl (aU (aF (aI (aI ?_))));obtain ⟨d8,J,d9,V⟩:=aG.giveSp d7 (Hp.le_refl _) .head
   replace V:aG G d8 (box b0 29 [zS b a.Kept.length c]::aT 48 o h j g.Kept::box x 24 d::L) z:=V
   obtain ⟨e0,q,e1,Z,_⟩:=aG.lendBp V .head
   replace Z:aG G e0 (aT 48 o h j g.Kept::box x 24 d::L) z:=Z
   obtain ⟨b5,k,e2,r,_⟩:=aG.lendBp Z zt1
   replace r:aG G b5 (aT 48 o h j g.Kept::L) z:=r
   refine mJ (C:=fun w'=>∃ L',aG G b5 L' w') [(0,0),(1,0),(2,1),(3,1),(4,0)] Tryz_mixed (by kernel_rfl) (fun _ hg=>⟨_,aG.mono r hg⟩) (fun g6 e3=>?_)
   have l:=aG.mono r e3
   refine dI rfl (fun _ ⟨_,l⟩=>dU (t:=0) (vs:=[zS b a.Kept.length c]) ag_29 l (e1.mono k) (elp_b rfl) rfl rfl) (dI rfl (fun _ ⟨_,l⟩=>dU (t:=0) (vs:=d) ag_24 l e2 (elp_b rfl) rfl rfl) (vG rfl ?_));obtain ⟨e4,e5,hm⟩:=aB hm
   refine aW (vs:=u) call6 rfl (zQ e5 l (n.mono (zL (zL (zL (zL p y) J) q) k))) ?_
   rintro _ g7 ⟨g8,e6,e7,rfl,m,b6⟩
   refine bY (aF ⟨⟨_,(aG.weakK b6 m)⟩,?_⟩)
   refine vG rfl ?_;obtain ⟨g9,e8,e9,f0,f1⟩:=aG.lendSp b6 (Hp.le_refl _) .head
   obtain ⟨h0,f2,hm⟩:=aB hm
   refine aW (vs:=[zA #[zS b a.Kept.length c],zA #[zS e6 e4.Kept.length e7]]) call8 rfl (aHE f2 f0 (d9.mono (zL (zL (zL q k) m) e8)) e9) ?_
   rintro _ h1 ⟨rfl,f3⟩
   have a0:=f1 _ _ f3
   refine bY (aF ⟨⟨_,(aG.weakK a0 m)⟩,?_⟩)
   refine dI rfl (fun _ _=>vB rfl) (WE_nil (aF ?_))
   rcases aJ hm with ⟨a2,hm⟩|⟨a2,hm⟩
   ·refine aS a2 rfl (aK (aH (v:=zB false) (aL ?_)));obtain rfl:=Option.some.inj hm
    exact aIA (aOC (aKc results3 rfl ⟨rfl,(aG.weakK (aG.arr 2 [] a0 rfl) (zL (zL (zL (zL (zL p y) J) q) k) m))⟩))
   ·refine aP a2 rfl (aU (aF (aK (aH (v:=zB true) (aL ?_)))));obtain rfl:=Option.some.inj hm
    exact aIA (aKc results3 rfl ⟨rfl,(aG.weakK (aG.arr 2 [] a0 rfl) (zL (zL (zL (zL (zL p y) J) q) k) m))⟩)
end Gv
