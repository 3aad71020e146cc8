/- Walks, printed by program. -/
import Derived.Test.YtlehiakgdejgkaaGreatDoorJWk1
import Derived.Test.YtlehiakgdejgkaaGreatDoorJWk5
import Derived.Test.YtlehiakgdejgkaaGreatDoorJT
set_option linter.all false
namespace Gv
open Go.Value renaming slice→zS,bool→zB,pointer→zP,agg→zA,map→zM
open Option.some renaming inj→zI
open Gv.Hp renaming le_trans→zL,le_refl→zR
open Go Go.Proofs Go.Proofs.Tryz
set_option maxRecDepth 20000
set_option maxHeartbeats 40000000
variable {G:Env} {K Kf:Hp} {L:List iI} {w:World} {a1 a4 a7 a10 a13 a2 a5 a6 a9 a11 a14 a17 a20 a23 a26 a29 a32 a35:Option Addr} {c2 c5 c8 c11 b1 c3 c6 b4 b5 c7 c10 c18 c21 c27 c30 c33 c36:Nat}
theorem vO {o:bZ} {R:pV} (hm:oK o=some R) (i:aD G K (L) w) (j:aW K a1 c2 o.t.L) (k:aW K a4 c5 o.t.E) (l:aW K a7 c8 o.p.L) (m:aW K a10 c11 o.p.E):
  Calls Tryz.prog 36 ([zA #[i64 o.t.N,i64 o.t.I,zS a1 o.t.L.length c2,zS a4 o.t.E.length c5,i64 o.p.N,i64 o.p.I,zS a7 o.p.L.length c8,zS a10 o.p.E.length c11]]:List Value).toArray w (dS fun v w'=>∃ c d a e g b,v=zA #[zS c R.leave.length d,zS e R.stay.length g]/\List.length a=List.length R.leave/\List.length b=List.length R.stay/\aD G K (aH 113 K c d (aP a R.leave)::rows [4] a R.leave::aH 113 K e g (aP b R.stay)::rows [4] b R.stay::L) w'):=by
 refine cM func36 ?_;unfold oK at hm
 refine aF ?_;refine oE fun n q r=>?_
 refine iN fun u x h=>?_;refine aF ?_
 obtain ⟨y,z,J,V,Z⟩:=aD.lendBp h (.tail .head)
 refine wI [(0,0),(2,0),(1,1),(3,1),(4,0),(5,2)] fun a0 a2=>?_;exact aI
theorem aAQ {a:Int} {p:pV} {b:Nat} {c:Int} {d:Nat} {R:Bool} (hm:tT a p c=some R) (e:aD G K (L) w) (g:cT K a1 b [zS a4 p.leave.length c5,zS a7 p.stay.length c8]) (h:aW K a4 c5 p.leave) (i:aW K a7 c8 p.stay) (j:cT K a10 d [i64 c]):
  Calls Tryz.prog 80 ([i64 a,cD a1 b,cD a10 d]:List Value).toArray w (dS fun v w'=>v=zB R/\aD G K (L) w'):=by
 exact aI
theorem uN {d:(List Int)} {a:pV} {b:Nat} {e:Int} {c:Nat} {R:Int} (hm:eY d a e=some R) (u:aD G K (L) w) (i:aW K a1 c2 d) (j:cT K a4 b [zS a7 a.leave.length c8,zS a10 a.stay.length c11]) (k:aW K a7 c8 a.leave) (l:aW K a10 c11 a.stay) (m:cT K a13 c [i64 e]):
  Calls Tryz.prog 72 ([zS a1 d.length c2,Value.func (.func 80) #[] #[cD a4 b,cD a13 c]]:List Value).toArray w (dS fun v w'=>v=i64 R/\aD G K (L) w'):=by
 refine cM func72 ?_;unfold eY at hm
 refine aF ?_;refine aK [] (fun f w=>lV=some R/\aD G K (L) w) aI ?_
 obtain ⟨x,n,ho⟩:=aB hm
 refine dX [0,1,7] n (fun g f w=>f 8=i64 g/\aD G K (L) w) aI ?_
 ·rintro g y f z hm hr ⟨J,o⟩
  unfold cY at hm
  refine aF ?_
  rcases aG hm with ⟨p,hm⟩|⟨p,hm⟩
  ·refine aF ?_;refine cA (aF ?_)
   obtain ⟨h,q,hm⟩:=aB hm
   refine aF ?_;obtain ⟨V,Z,r⟩:=aW.el (sz:=1) rfl i q
   cases r
   refine aF ?_;obtain ⟨a0,t,hm⟩:=aB hm
   exact fR (vs:=[i64 h]) (caps:=[cD a4 b,cD a13 c]) (us:=[i64 h,cD a4 b,cD a13 c]) rfl call80 rfl rfl (aAQ t o j k l m) aI
  ·exact aI
theorem kA {b:(List Int)} {a:pV} {c:Nat} {d:Int} {e:Nat} {R:Bool} (hm:eG b a d=some R) (g:aD G K (L) w) (h:aW K a1 c2 b) (i:cT K a4 c [zS a7 a.leave.length c8,zS a10 a.stay.length c11]) (j:aW K a7 c8 a.leave) (k:aW K a10 c11 a.stay) (l:cT K a13 e [i64 d]):
  Calls Tryz.prog 24 ([zS a1 b.length c2,Value.func (.func 80) #[] #[cD a4 c,cD a13 e]]:List Value).toArray w (dS fun v w'=>v=zB R/\aD G K (L) w'):=by
 exact aI
theorem aAR {a:Int} {p:pV} {b:Nat} {c:Int} {d:Nat} {R:Bool} (hm:tU a p c=some R) (e:aD G K (L) w) (g:cT K a1 b [zS a4 p.leave.length c5,zS a7 p.stay.length c8]) (h:aW K a4 c5 p.leave) (i:aW K a7 c8 p.stay) (j:cT K a10 d [i64 c]):
  Calls Tryz.prog 81 ([i64 a,cD a1 b,cD a10 d]:List Value).toArray w (dS fun v w'=>v=zB R/\aD G K (L) w'):=by
 exact aI
theorem uO {d:(List Int)} {a:pV} {b:Nat} {e:Int} {c:Nat} {R:Int} (hm:eZ d a e=some R) (u:aD G K (L) w) (i:aW K a1 c2 d) (j:cT K a4 b [zS a7 a.leave.length c8,zS a10 a.stay.length c11]) (k:aW K a7 c8 a.leave) (l:aW K a10 c11 a.stay) (m:cT K a13 c [i64 e]):
  Calls Tryz.prog 72 ([zS a1 d.length c2,Value.func (.func 81) #[] #[cD a4 b,cD a13 c]]:List Value).toArray w (dS fun v w'=>v=i64 R/\aD G K (L) w'):=by
 refine cM func72 ?_;unfold eZ at hm
 refine aF ?_;refine aK [] (fun f w=>lW=some R/\aD G K (L) w) aI ?_
 obtain ⟨x,n,ho⟩:=aB hm
 refine dX [0,1,7] n (fun g f w=>f 8=i64 g/\aD G K (L) w) aI ?_
 ·rintro g y f z hm hr ⟨J,o⟩
  unfold cZ at hm
  refine aF ?_
  rcases aG hm with ⟨p,hm⟩|⟨p,hm⟩
  ·refine aF ?_;refine cA (aF ?_)
   obtain ⟨h,q,hm⟩:=aB hm
   refine aF ?_;obtain ⟨V,Z,r⟩:=aW.el (sz:=1) rfl i q
   cases r
   refine aF ?_;obtain ⟨a0,t,hm⟩:=aB hm
   exact fR (vs:=[i64 h]) (caps:=[cD a4 b,cD a13 c]) (us:=[i64 h,cD a4 b,cD a13 c]) rfl call81 rfl rfl (aAR t o j k l m) aI
  ·exact aI
theorem kC {b:(List Int)} {a:pV} {c:Nat} {d:Int} {e:Nat} {R:Bool} (hm:eH b a d=some R) (g:aD G K (L) w) (h:aW K a1 c2 b) (i:cT K a4 c [zS a7 a.leave.length c8,zS a10 a.stay.length c11]) (j:aW K a7 c8 a.leave) (k:aW K a10 c11 a.stay) (l:cT K a13 e [i64 d]):
  Calls Tryz.prog 24 ([zS a1 b.length c2,Value.func (.func 81) #[] #[cD a4 c,cD a13 e]]:List Value).toArray w (dS fun v w'=>v=zB R/\aD G K (L) w'):=by
 exact aI
theorem rA {j:pV} {c:(List Int)} {y R:Int} (hm:jH j c y=some R) (hs:aD G K (L) w) (g:aW K a1 c2 j.leave) (h:aW K a4 c5 j.stay) (i:aW K a7 c8 c):
  Calls Tryz.prog 37 ([zA #[zS a1 j.leave.length c2,zS a4 j.stay.length c5],zS a7 c.length c8,i64 y]:List Value).toArray w (dS fun v w'=>v=i64 R/\aD G K (L) w'):=by
 refine cM func37 ?_;unfold jH at hm
 refine aF ?_;refine oE fun k a9 b0=>?_
 refine oE fun l b1 m=>?_;refine aF ?_
 rcases aG hm with ⟨n,hm⟩|⟨n,hm⟩
 ·exact aI
 ·refine aF ?_;refine cA ?_
  iterate 3 refine cE ?_
  refine aM (fF (vs:=[zP (some ⟨k,0,none⟩),zP (some ⟨l,0,none⟩)]) rfl) ?_;obtain ⟨b2,d,o,p,q⟩:=aD.lendBp m (.tail .head)
  obtain ⟨b3,a,r,t,u⟩:=aD.lendBp p .head
  obtain ⟨b4,x,hm⟩:=aB hm
  refine cC call24 (kA x t (i.mono (zL d a)) (o.mono a) (g.mono (zL d a)) (h.mono (zL d a)) r) ?_
  rintro _ b5 ⟨rfl,z⟩
  have J:=u _ _ z
  have V:=q _ _ J
  refine aF ?_
  rcases aG hm with ⟨Z,hm⟩|⟨Z,hm⟩
  ·exact aI
  ·iterate 4 refine cE ?_
   refine aM (fF (vs:=[zP (some ⟨k,0,none⟩),zP (some ⟨l,0,none⟩)]) rfl) ?_;obtain ⟨b6,e,a0,a2,b7⟩:=aD.lendBp V .head
   obtain ⟨b8,b,a3,a5,b9⟩:=aD.lendBp a2 .head
   obtain ⟨c0,a6,hm⟩:=aB hm
   exact cC call24 (kC a6 a5 (i.mono (zL e b)) (a0.mono b) (g.mono (zL e b)) (h.mono (zL e b)) a3) aI
theorem oV {a R:(List Int)} (hm:iZ a=some R) (t:aD G K (L) w) (b:aW K a1 c2 a):
  Calls Tryz.prog 95 ([zS a1 a.length c2]:List Value).toArray w (dS fun v w'=>∃ c d,v=zS c R.length d/\aD G K (aH 2 K c d R::L) w'):=by
 refine cM func95 ?_;unfold iZ at hm
 iterate 9 refine cE ?_
 refine aM (aPe iX rfl rfl) (aF ?_)
 rcases aOp b with ⟨h,j,k⟩|l
 ·subst h;subst j;subst k
  refine aQa rfl ?_
  replace hm:(some [])=some R:=hm
  exact aI
 ·refine aQb (Eq.trans rfl (congrArg zB l)) (aF ?_);refine lI ([]:List Int) fun u x m=>?_
  refine aF ?_;obtain ⟨n,o,hm⟩:=aB hm
  refine aKI (i:=0) iX underlying30 aEW rfl rfl m rfl (zR _) b o rfl rfl rfl rfl (fun e g p (q:aD G K (aH 2 K e g n::L) p)=>(aF ?_));obtain rfl:=zI hm
  exact st_E results95 ⟨e,g,rfl,q⟩
theorem lC {t:aS} {p R:(List Int)} (hm:iG t p=some R) (hs:aD G K (L) w) (h3:aW K a1 c2 t.L) (h6:aW K a4 c5 t.E) (h9:aW K a7 c8 p):
  Calls Tryz.prog 49 ([zA (zCa t a1 c2 a4 c5),zS a7 p.length c8]:List Value).toArray w (dS fun v w'=>∃ a2 a3,v=zS a2 R.length a3/\aD G K (aH 2 K a2 a3 R::L) w'):=by
 let c:=(zC t a1 c2 a4 c5)
 refine cM func49 ?_;unfold iG at hm
 refine aF ?_;refine oE fun d f4 b9=>?_
 refine aF ?_;obtain ⟨f5,c0,hm⟩:=aB hm
 refine cC call95 (oV c0 b9 h9) ?_
 rintro _ f6 ⟨f7,f8,rfl,f9⟩
 refine aF ?_;refine aK [] (fun f w=>∃ g a b,wA g=some R/\f 5=zS a g.length b/\aD G K (aH 2 K a b g::L) w) ?_ ?_
 ·rintro f g0 ⟨g,a,b,hm,c1,c3⟩
  unfold wA at hm
  refine aF ?_;obtain ⟨c4,c6,hm⟩:=aB hm
  refine cC call97 (aHV c3 c6) ?_
  rintro _ g1 ⟨rfl,c7,c9⟩
  iterate 4 refine cE ?_
  refine cW (v:=zS a c4.length b) (Eq.trans c1 (congrArg (fun n=>zS a n b) c7)) (aF ?_);obtain rfl:=zI hm
  exact st_E results49 ⟨a,b,rfl,c9⟩
 obtain ⟨g2,d1,ho⟩:=aB hm
 refine bV [2] d1 (fun q h f w=>∃ r u,f 5=zS r q.length u/\f 6=i64 h/\aD G K (aH 2 K r u q::box d 27 c::L) w) aI ?_
 ·rintro q h a5 f g3 hm hr ⟨r,u,g4,g5,d2⟩
  unfold qG at hm
  refine aF ?_
  rcases aG hm with ⟨d3,hm⟩|⟨d3,hm⟩
  ·refine aF ?_;refine aK [2,6] (fun f w=>∃ i j k,wB h i=some a5/\f 5=zS j i.length k/\aD G K (aH 2 K j k i::box d 27 c::L) w) ?_ ?_
   ·rintro f g6 ⟨i,j,k,hm,d4,d5⟩
    unfold wB at hm
    refine aF ?_;exact ⟨_,(zI hm).symm,bD,j,k,d4,rfl,d5⟩
   refine aF ?_;obtain ⟨g7,x,a6,d6,d7⟩:=aD.lendSp d2 (zR _) .head
   obtain ⟨g8,e,g9,h0,d8⟩:=aD.lendBp d6 .head
   refine wI [(0,0),(1,0),(2,0),(3,0),(4,0),(8,0),(5,1),(6,1),(7,0)] fun h1 h2=>?_;refine aF ?_
   obtain ⟨d9,y,hm⟩:=aB hm
   have e0:=aJU (a6.mono e) y
   refine cI rfl (fun _ _=>cS iX rfl e0 rfl rfl rfl y) ?_;obtain ⟨h4,h5,e1⟩:=aW.el (sz:=1) rfl (a6.mono e) y
   cases e1
   refine aF ?_;refine eQ rfl (lI ([d9]:List Int) fun h7 h8 a8=>?_)
   refine aL (aC ⟨⟨_,a8⟩,?_⟩)
   refine eQ rfl ?_;obtain ⟨i0,a9,e2,e3,e4⟩:=aD.lendSp a8 (zL x e) .head
   obtain ⟨b0,e5,hm⟩:=aB hm
   refine cC call77 (aFt e5 e3 (h3.mono (zL (zL x e) a9)) (h6.mono (zL (zL x e) a9)) e2) ?_
   rintro _ i1 ⟨b1,b2,rfl,e6⟩
   have b3:=e4 _ _ e6
   refine aL (aC ⟨⟨_,b3⟩,?_⟩)
   refine aF ?_;refine yO ?_
   have e7:=d8 _ _ b3
   have i2:=d7 _ _ e7
   refine aF ?_;refine aK [2,6] (fun f w=>∃ z b4 b5,aBw h z=some a5/\f 5=zS b4 z.length b5/\aD G K (aH 2 K b4 b5 z::box d 27 c::L) w) aI ?_
   obtain ⟨i3,e8,ho⟩:=aB hm
   refine bV [2,6,23,24] e8 (fun J V f w=>∃ Z a0,f 5=zS Z J.length a0/\f 25=i64 V/\aD G K (aH 2 K Z a0 J::box d 27 c::aH 2 K b1 b2 b0::L) w) aI ?_
   ·rintro J V e9 f i4 hm hr ⟨Z,a0,i5,i6,i7⟩
    unfold mW at hm
    refine aF ?_
    rcases aG hm with ⟨f0,hm⟩|⟨f0,hm⟩
    ·refine aF ?_;refine aK [2,6,23,24,25] (fun f w=>∃ l m o,qD V l=some e9/\f 5=zS m l.length o/\aD G K (aH 2 K m o l::box d 27 c::aH 2 K b1 b2 b0::L) w) ?_ ?_
     ·rintro f i8 ⟨l,m,o,hm,f1,f2⟩
      unfold qD at hm
      refine aF ?_;exact ⟨_,(zI hm).symm,bD,m,o,f1,rfl,f2⟩
     exact aI
    ·exact aI
  ·exact aI
theorem xD {a:bG} {R:aJ} (hm:oZ a=some R) (b:aD G K (L) w) (c:G.lo=0) (d:aW K a1 c2 a.states):
  Calls Tryz.prog 50 ([zA #[zS a1 a.states.length c2,i64 a.y]]:List Value).toArray w (dS fun v w'=>v=str R/\aD G K (L) w'):=by
 exact aI
theorem sX {b R:(List Edge)} (hm:dA b=some R) (hs:aD G K (aH 52 K a1 c2 b::L) w):
  Calls Tryz.prog 108 ([zS a1 b.length c2]:List Value).toArray w (dS fun v w'=>∃ J V,v=zS J R.length V/\aD G K (aH 52 K J V R::L) w'):=by
 refine cM func108 ?_;unfold dA at hm
 refine aF ?_
 rcases aG hm with ⟨c3,hm⟩|⟨c3,hm⟩
 ·exact aI
 ·refine aF ?_;refine aK [0] (fun f w=>kQ b=some R/\aD G K (aH 52 K a1 c2 b::L) w) aI ?_
  obtain ⟨e8,b7,ho⟩:=aB hm
  refine dX [0] b7 (fun d f w=>f 3=i64 d/\aD G K (aH 52 K a1 c2 b::L) w) aI ?_
  ·rintro d Z f e9 hm hr ⟨f0,e⟩
   unfold cO at hm
   refine aF ?_
   rcases aG hm with ⟨b8,hm⟩|⟨b8,hm⟩
   ·refine aF ?_;refine aK [0] (fun f w=>dP d=some Z/\f 3=i64 d/\aD G K (aH 52 K a1 c2 b::L) w) ?_ ?_
    ·rintro f f1 ⟨hm,f2,b9⟩
     unfold dP at hm
     refine aF ?_;exact ⟨_,(zI hm).symm,bD,rfl,b9⟩
    refine aF ?_;refine aLO ?_
    refine aF ?_;obtain ⟨c0,a0,hm⟩:=aB hm
    have c:=bS e (i:=0) rfl a0
    refine fS (fun _ e=>cS iY rfl c rfl rfl rfl a0) (aF ?_);obtain ⟨c1,c4,hm⟩:=aB hm
    refine fS (fun _ e=>cS iY rfl c rfl rfl rfl c4) (aF ?_);refine fS (fun _ e=>R_eqlG (eq_52 (x:=c0) (y:=c1)) rfl rfl) (wH (fun f3 c5=>(aF ?_)))
    rcases aG hm with ⟨c6,hm⟩|⟨c6,hm⟩
    ·refine aF ?_;obtain ⟨f4,g,hm⟩:=aB hm
     have j:=pS c5 (i:=0) rfl
     obtain ⟨f5,f6,k⟩:=Cut.ex 3 a1 c2 d
     refine aM (aBb iY j k rfl rfl rfl g) (aF ?_);refine aK [] (fun f w=>∃ l m,gA l m=some Z/\f 0=zS a1 l.length c2/\f 3=i64 m/\aD G K (aH 52 K a1 c2 l::L) w) ?_ ?_
     ·rintro f f7 ⟨l,m,hm,c7,f8,a2⟩
      unfold gA at hm
      refine aF ?_;obtain ⟨f9,c8,hm⟩:=aB hm
      have c9:=pS a2 (i:=0) rfl
      obtain ⟨g0,g1,a3⟩:=Cut.ex 3 a1 c2 m
      refine aM (aBb iY c9 a3 rfl rfl rfl c8) ?_;obtain ⟨a4,a5,hm⟩:=aB hm
      refine aKP iY aHH rfl a2 (i:=0) rfl a3 rfl rfl a5 (fun a6 (a7:aD G K (aH 52 K a1 c2 a4::L) a6)=>?_)
      iterate 4 refine cE ?_
      refine cW (v:=zS a1 a4.length c2) (Eq.trans c7 (congrArg (fun n=>zS a1 n c2) (aJN a5))) (aF ?_);obtain ⟨a8,a9,hm⟩:=aB hm
      have d0:=pS a7 (i:=0) rfl
      obtain ⟨d1,d2,b0⟩:=Cut.ex 3 a1 c2 0
      refine aM (aHF iY d0 b0 rfl rfl rfl a9) (aF ?_);refine jJ (fE (bE (bE (bE ?_))))
      have d3:=hr _ (zI hm).symm
      subst d3
      have hm:(some a8)=some R:=ho
      clear hr ho
      have g2:aD G K (aH 52 K d1 d2 a8::L) a6:=aD.cutP a7 (i:=0) rfl a9 b0
      exact aI
     obtain ⟨g3,d4,ho⟩:=aB hm
     refine lK [4] d4 (fun p q r f w=>f 0=zS a1 p.length c2/\f 3=i64 q/\f 5=i64 r/\aD G K (aH 52 K a1 c2 p::L) w) aI ?_
     ·rintro p q r d5 f g4 hm hr ⟨d6,g5,g6,u⟩
      unfold kR at hm
      refine aF ?_
      rcases aG hm with ⟨d7,hm⟩|⟨d7,hm⟩
      ·refine aF ?_;refine aK [4,5] (fun f w=>∃ o z,dQ r o z=some d5/\f 0=zS a1 o.length c2/\f 3=i64 z/\aD G K (aH 52 K a1 c2 o::L) w) ?_ ?_
       ·rintro f g7 ⟨o,z,hm,d8,d9,e0⟩
        unfold dQ at hm
        refine aF ?_;exact ⟨_,(zI hm).symm,bD,d8,d9,rfl,e0⟩
       refine aF ?_;refine aLO ?_
       refine aF ?_;obtain ⟨g8,b1,hm⟩:=aB hm
       obtain ⟨a,e1,hm⟩:=aB hm
       refine fS (fun _ u=>aJW iY c k g j rfl rfl rfl b1 rfl) (aF ?_);obtain ⟨g9,e2,hm⟩:=aB hm
       obtain ⟨e3,h0,hm⟩:=aB hm
       refine fS (fun _ u=>aJW iY c k g j rfl rfl rfl e2 rfl) (aF ?_);refine fS (fun _ u=>R_neqG (eq_52 (x:=a) (y:=e3)) rfl rfl) (wH (fun h1 b2=>(aF ?_)))
       rcases aG hm with ⟨e4,hm⟩|⟨e4,hm⟩
       ·refine aF ?_;refine aM (aJW iY c k g j rfl rfl rfl b1 rfl) (aM (R_ldOG (t:=0) (vs:=[i64 a.F,i64 a.B,i64 a.To]) ag_52 b2 (i:=0) rfl e1 rfl rfl rfl rfl) ?_)
        obtain ⟨h2,b3,hm⟩:=aB hm
        refine aM (cS iY rfl c rfl rfl rfl b3) ?_;obtain ⟨b4,b5,hm⟩:=aB hm
        refine oO (i:=0) (t:=0) (ns:=[i64 a.F,i64 a.B,i64 a.To]) (e':=(⟨a.F,a.B,a.To⟩:Edge)) sizeOf52 b2 rfl (zR _) rfl rfl rfl b3 b5 rfl rfl (nI rfl) rfl (fun cs h=>by cases h;rfl) (fun e5 (e6:aD G K (aH 52 K a1 c2 b4::L) e5)=>(aF ?_));exact ⟨bD,b4,wr (q+1),hm,(Eq.trans d6 (congrArg (fun n=>zS a1 n c2) (jM b5))),rfl,e6⟩
       ·exact aI
      ·exact aI
    ·exact aI
   ·exact aI
theorem mP {a R:(List aJ)} (hm:eF a=some R) (hs:aD G K (aH 9 K a1 c2 a::L) w):
  Calls Tryz.prog 105 ([zS a1 a.length c2]:List Value).toArray w (dS fun v w'=>∃ u x,v=zS u R.length x/\aD G K (aH 9 K u x R::L) w'):=by
 refine cM func105 ?_;unfold eF at hm
 refine aF ?_
 rcases aG hm with ⟨c3,hm⟩|⟨c3,hm⟩
 ·exact aI
 ·refine aF ?_;refine aK [0] (fun f w=>nM a=some R/\aD G K (aH 9 K a1 c2 a::L) w) aI ?_
  obtain ⟨e3,b5,ho⟩:=aB hm
  refine dX [0] b5 (fun c f w=>f 3=i64 c/\aD G K (aH 9 K a1 c2 a::L) w) aI ?_
  ·rintro c y f e4 hm hr ⟨e5,m⟩
   unfold dK at hm
   refine aF ?_
   rcases aG hm with ⟨b6,hm⟩|⟨b6,hm⟩
   ·refine aF ?_;refine aK [0] (fun f w=>fA c=some y/\f 3=i64 c/\aD G K (aH 9 K a1 c2 a::L) w) ?_ ?_
    ·rintro f e6 ⟨hm,e7,b7⟩
     unfold fA at hm
     refine aF ?_;exact ⟨_,(zI hm).symm,bD,rfl,b7⟩
    refine aF ?_;refine aLO ?_
    refine aF ?_;obtain ⟨e8,z,hm⟩:=aB hm
    have b:=bS m (i:=0) rfl z
    refine fS (fun _ m=>cS eM rfl b rfl rfl rfl z) (aF ?_);obtain ⟨e9,b8,hm⟩:=aB hm
    refine fS (fun _ m=>cS eM rfl b rfl rfl rfl b8) (aF ?_);refine wH (fun f0 b9=>(aF ?_))
    rcases aG hm with ⟨c0,hm⟩|⟨c0,hm⟩
    ·refine aF ?_;obtain ⟨f1,d,hm⟩:=aB hm
     have e:=pS b9 (i:=0) rfl
     obtain ⟨f2,f3,g⟩:=Cut.ex 1 a1 c2 c
     refine aM (aBb eM e g rfl rfl rfl d) (aF ?_);refine aK [] (fun f w=>∃ j k,fB j k=some y/\f 0=zS a1 j.length c2/\f 3=i64 k/\aD G K (aH 9 K a1 c2 j::L) w) ?_ ?_
     ·rintro f f4 ⟨j,k,hm,c1,f5,J⟩
      unfold fB at hm
      refine aF ?_;obtain ⟨f6,c4,hm⟩:=aB hm
      have c5:=pS J (i:=0) rfl
      obtain ⟨f7,f8,V⟩:=Cut.ex 1 a1 c2 k
      refine aM (aBb eM c5 V rfl rfl rfl c4) ?_;obtain ⟨Z,a0,hm⟩:=aB hm
      refine aKP eM aGf rfl J (i:=0) rfl V rfl rfl a0 (fun a2 (a3:aD G K (aH 9 K a1 c2 Z::L) a2)=>?_)
      iterate 4 refine cE ?_
      refine cW (v:=zS a1 Z.length c2) (Eq.trans c1 (congrArg (fun n=>zS a1 n c2) (aJN a0))) (aF ?_);obtain ⟨a4,a5,hm⟩:=aB hm
      have c6:=pS a3 (i:=0) rfl
      obtain ⟨c7,c8,a6⟩:=Cut.ex 1 a1 c2 0
      refine aM (aHF eM c6 a6 rfl rfl rfl a5) (aF ?_);refine jJ (fE (bE (bE (bE ?_))))
      have c9:=hr _ (zI hm).symm
      subst c9
      have hm:(some a4)=some R:=ho
      clear hr ho
      have f9:aD G K (aH 9 K c7 c8 a4::L) a2:=aD.cutP a3 (i:=0) rfl a5 a6
      exact aI
     obtain ⟨g0,d0,ho⟩:=aB hm
     refine lK [4] d0 (fun o p q f w=>f 0=zS a1 o.length c2/\f 3=i64 p/\f 5=i64 q/\aD G K (aH 9 K a1 c2 o::L) w) aI ?_
     ·rintro o p q d1 f g1 hm hr ⟨d2,g2,g3,a7⟩
      unfold dJ at hm
      refine aF ?_
      rcases aG hm with ⟨d3,hm⟩|⟨d3,hm⟩
      ·refine aF ?_;refine aK [4,5] (fun f w=>∃ l r,dI q l r=some d1/\f 0=zS a1 l.length c2/\f 3=i64 r/\aD G K (aH 9 K a1 c2 l::L) w) ?_ ?_
       ·rintro f g4 ⟨l,r,hm,d4,d5,d6⟩
        unfold dI at hm
        refine aF ?_;exact ⟨_,(zI hm).symm,bD,d4,d5,rfl,d6⟩
       refine aF ?_;refine aLO ?_
       refine aF ?_;obtain ⟨g5,a8,hm⟩:=aB hm
       obtain ⟨a9,d7,hm⟩:=aB hm
       refine fS (fun _ a7=>aJW eM b g d e rfl rfl rfl a8 rfl) (aF ?_);obtain ⟨g6,d8,hm⟩:=aB hm
       obtain ⟨g7,g8,hm⟩:=aB hm
       refine fS (fun _ a7=>aJW eM b g d e rfl rfl rfl d8 rfl) (aF ?_);refine wH (fun g9 b0=>(aF ?_))
       rcases aG hm with ⟨d9,hm⟩|⟨d9,hm⟩
       ·refine aF ?_;refine aM (aJW eM b g d e rfl rfl rfl a8 rfl) (aM (yC (t:=0) sc_9 b0 (i:=0) rfl d7 rfl rfl rfl) ?_)
        obtain ⟨h0,b1,hm⟩:=aB hm
        refine aM (cS eM rfl b rfl rfl rfl b1) ?_;obtain ⟨b2,b3,hm⟩:=aB hm
        refine oO (i:=0) (t:=0) (ns:=[str a9]) (e':=(a9:aJ)) sizeOf9 b0 rfl (zR _) rfl rfl rfl b1 b3 rfl rfl (nI rfl) rfl (fun cs h=>by cases h;rfl) (fun e0 (e1:aD G K (aH 9 K a1 c2 b2::L) e0)=>(aF ?_));exact ⟨bD,b2,wr (p+1),hm,(Eq.trans d2 (congrArg (fun n=>zS a1 n c2) (jM b3))),rfl,e1⟩
       ·exact aI
      ·exact aI
    ·exact aI
   ·exact aI
theorem nP {a:(List aJ)} {b:aJ} {R:Int} (hm:dL a b=some R) (e:aD G K (L) w) (g:aW K a1 c2 a):
  Calls Tryz.prog 106 ([zS a1 a.length c2,str b]:List Value).toArray w (dS fun v w'=>v=i64 R/\aD G K (L) w'):=by
 refine cM func106 ?_;unfold dL at hm
 refine aF ?_;refine aK [] (fun f w=>oS=some R/\aD G K (L) w) aI ?_
 obtain ⟨h,c,ho⟩:=aB hm
 exact dX [0,1,7] c (fun d f w=>f 8=i64 d/\aD G K (L) w) aI aI
theorem jO {a b:Int} {labels:(List aJ)} {arcs:(List fD)} {R:aS} (hm:aEu a b labels arcs=some R) (hs:aD G K (L) w) (h3:aW K a1 c2 labels) (h6:aW K a4 c5 arcs):
  Calls Tryz.prog 56 ([i64 a,i64 b,zS a1 labels.length c2,zS a4 arcs.length c5]:List Value).toArray w (dS fun v w'=>∃ Z a0 a2 a3,v=zA (zCa R Z a0 a2 a3)/\aD G K (aH 9 K Z a0 R.L::aH 52 K a2 a3 R.E::L) w'):=by
 let h:=zG
 refine cM func56 ?_;unfold aEu at hm
 refine aF ?_;refine iN fun j w8 e9=>?_
 refine aF ?_;refine lI ([([116,97,117]:aJ)]:List aJ) fun f0 f1 b1=>?_
 refine aF ?_;obtain ⟨n,b2,hm⟩:=aB hm
 refine aKI (i:=0) eM underlying24 aGf rfl rfl b1 rfl (zR _) h3 b2 rfl rfl rfl rfl (fun d e b3 (f2:aD G K (aH 9 K d e n::box j 27 h::L) b3)=>(aM (cK (vs:=[(0,i64 a),(1,i64 b),(2,zS d n.length e)]) (cs:=[i64 a,i64 b,zS d n.length e,zS none 0 0]) aMF rfl (by kernel_rfl)) (iN fun o f3 f4=>?_)));refine gM fun b4 f5=>?_
 refine aF ?_
 have b5:aD G K (aH 9 K d e n::box o 27 [i64 a,i64 b,zS d n.length e,zS none 0 0]::box j 27 h::L) b4:=lY
 obtain ⟨a5,b6,hm⟩:=aB hm
 refine cC call103 (lib_SortStr b5 b6) ?_
 rintro _ b8 ⟨rfl,b9,c0⟩
 have c1:aD G K (aH 9 K d e a5::box o 27 [i64 a,i64 b,zS d a5.length e,zS none 0 0]::box j 27 h::L) b8:=by rw [←b9];exact c0
 refine aF ?_;obtain ⟨g,c3,hm⟩:=aB hm
 refine cC call105 (mP c3 c1) ?_
 rintro _ f6 ⟨k,l,rfl,f7⟩
 refine aF ?_;refine gM fun f8 c4=>?_
 refine aF ?_;refine aK [8,9] (fun f w=>∃ r p q,aHR a b g r=some R/\aD G K (aH 52 K p q r::aH 9 K k l g::box o 27 [i64 a,i64 b,zS k g.length l,zS p r.length q]::box j 27 h::L) w) ?_ ?_
 ·rintro f f9 ⟨r,p,q,hm,c6⟩
  unfold aHR at hm
  refine aF ?_;obtain ⟨a6,c7,hm⟩:=aB hm
  refine cC call107 (lib_SortEdge c6 c7) ?_
  rintro _ c8 ⟨rfl,c9,d0⟩
  have g0:aD G K (aH 52 K p q a6::aH 9 K k l g::box o 27 [i64 a,i64 b,zS k g.length l,zS p a6.length q]::box j 27 h::L) c8:=by rw [←c9];exact d0
  exact aI
 have g1:=aD.nil (α:=Edge) c4 52 K
 obtain ⟨g2,d1,ho⟩:=aB hm
 refine bV [8,9,25,26] d1 (fun x a7 f w=>∃ y z,f 27=i64 a7/\aD G K (aH 52 K y z x::aH 9 K k l g::box o 27 [i64 a,i64 b,zS k g.length l,zS y x.length z]::box j 27 h::L) w) aI ?_
 ·rintro x a7 g3 f g4 hm hr ⟨y,z,g5,g6⟩
  unfold aCG at hm
  refine aF ?_
  rcases aG hm with ⟨d2,hm⟩|⟨d2,hm⟩
  ·refine aF ?_;refine cA (aF ?_)
   obtain ⟨m,d3,hm⟩:=aB hm
   refine aF ?_;obtain ⟨g7,g8,d4⟩:=aW.el (sz:=3) rfl h6 d3
   cases d4
   refine aF ?_;refine iN fun g9 h0 h1=>?_
   refine gM fun h2 d5=>?_;refine aF ?_
   obtain ⟨h4,d6,J,d7,h5⟩:=aD.lendBp d5 .head
   obtain ⟨h7,u,d8,h8,d9⟩:=aD.lendBp d7 (.tail (.tail .head))
   refine wI [(0,0),(1,0),(2,0),(3,0),(4,0),(5,0),(6,0),(7,0),(9,0),(10,0),(8,1),(11,0),(12,1),(13,1),(14,0),(15,2)] fun h9 c=>?_;refine aF ?_
   refine cI rfl (fun _ ⟨_,c⟩=>bU (t:=0) lD c (J.mono u) rfl rfl) (cI rfl (fun _ _=>dF (t':=2) vU rfl rfl) (cI rfl (fun _ ⟨_,c⟩=>bU (t:=2) uC c d8 rfl rfl) (cI rfl (fun _ _=>dF (t':=1) aQw rfl rfl) (cI rfl (fun _ ⟨_,c⟩=>bU (t:=1) sc_9 c (J.mono u) rfl rfl) (cI rfl (fun _ _=>dF (t':=2) aQx rfl rfl) (cI rfl (fun _ ⟨_,c⟩=>bU (t:=2) lD c (J.mono u) rfl rfl) (eQ rfl ?_)))))));obtain ⟨i0,i1,e0,e1,e2⟩:=aD.lendSp c (zL d6 u) (.tail .head)
   obtain ⟨V,e3,hm⟩:=aB hm
   refine cC call106 (nP e3 e1 e0) ?_
   rintro _ i2 ⟨rfl,e4⟩
   have e5:=e2 _ _ e4
   refine aL (aC ⟨⟨_,e5⟩,?_⟩)
   refine cI rfl (fun _ _=>cK (vs:=[(0,i64 m.from_),(1,i64 V),(2,i64 m.to_)]) (cs:=[i64 m.from_,i64 V,i64 m.to_]) aJa rfl (by kernel_rfl)) (eQ rfl (lI ([⟨m.from_,V,m.to_⟩]:List Edge) fun i3 i4 e6=>?_));refine aL (aC ⟨⟨_,e6⟩,?_⟩)
   refine eQ rfl ?_;obtain ⟨i5,i6,hm⟩:=aB hm
   refine aGF fun i7 i8 i9 a8=>?_;refine aL (aC ⟨⟨_,a8⟩,?_⟩)
   refine aF ?_
   have j0:=d9 _ _ a8
   exact aI
  ·exact aI
theorem nG {arcs:(List fD)} {R:(List aJ)} (hm:aAy arcs=some R) (j:aD G K (L) w) (m:aW K a1 c2 arcs):
  Calls Tryz.prog 102 ([zS a1 arcs.length c2]:List Value).toArray w (dS fun v w'=>∃ b c,v=zS b R.length c/\aD G K (aH 9 K b c R::L) w'):=by
 refine cM func102 ?_;unfold aAy at hm
 refine aF ?_;refine aK [] (fun f w=>∃ a d e,aJg a=some R/\f 3=zS d a.length e/\aD G K (aH 9 K d e a::L) w) aI ?_
 have n:=aD.nil (α:=aJ) j 9 K
 obtain ⟨o,k,ho⟩:=aB hm
 exact bV [6,7] k (fun g l f w=>∃ h i,f 3=zS h g.length i/\f 8=i64 l/\aD G K (aH 9 K h i g::L) w) aI aI
theorem aAC {t:aS} {a:(List Int)} {b:aJ} {R:(List Int)} (hm:iJ t a b=some R) (g:aD G K (L) w) (h:aW K a1 c2 t.L) (i:aW K a4 c5 t.E) (j:aW K a7 c8 a):
  Calls Tryz.prog 55 ([zA (zCa t a1 c2 a4 c5),zS a7 a.length c8,str b]:List Value).toArray w (dS fun v w'=>∃ c d,v=zS c R.length d/\aD G K (aH 2 K c d R::L) w'):=by
 refine cM func55 ?_;unfold iJ at hm
 refine aF ?_;refine oE fun k l e=>?_
 refine aF ?_;obtain ⟨m,n,o,p,q⟩:=aD.lendBp e .head
 refine wI [(0,0),(1,0),(2,0),(3,0),(4,1),(5,1),(6,0)] fun r u=>?_;exact aI
theorem aAr {t:aS} {R:(List fD)} (hm:aAz t=some R) (hs:aD G K (L) w) (q:aW K a1 c2 t.L) (r:aW K a4 c5 t.E):
  Calls Tryz.prog 57 ([zA (zCa t a1 c2 a4 c5)]:List Value).toArray w (dS fun v w'=>∃ k l,v=zS k R.length l/\aD G K (aH 154 K k l R::L) w'):=by
 refine cM func57 ?_;unfold aAz at hm
 refine aF ?_;refine oE fun u w8 x=>?_
 refine aF ?_;refine aK [] (fun f w=>∃ c m n,aJh c=some R/\f 3=zS m c.length n/\aD G K (aH 154 K m n c::L) w) aI ?_
 have b0:=aD.nil (α:=fD) x 154 K
 obtain ⟨b1,y,ho⟩:=aB hm
 refine bV [1,7,8] y (fun d o f w=>∃ e g,f 3=zS e d.length g/\f 9=i64 o/\aD G K (aH 154 K e g d::box u 27 (zC t a1 c2 a4 c5)::L) w) aI ?_
 ·rintro d o b2 f b3 hm hr ⟨e,g,b4,b5,b6⟩
  unfold aAa at hm
  refine aF ?_
  rcases aG hm with ⟨z,hm⟩|⟨z,hm⟩
  ·refine aF ?_;refine cA (aF ?_)
   obtain ⟨b,J,hm⟩:=aB hm
   refine aF ?_;obtain ⟨b8,b9,V⟩:=aW.el (sz:=3) rfl r J
   cases V
   refine aF ?_;refine iN fun c0 c1 c3=>?_
   refine gM fun c4 Z=>?_;refine aF ?_
   obtain ⟨c6,c7,h,a0,c8⟩:=aD.lendBp Z .head
   obtain ⟨c9,i,a2,d0,a3⟩:=aD.lendBp a0 (.tail .head)
   refine wI [(0,0),(1,0),(2,0),(3,0),(4,0),(5,0),(6,0),(7,0),(8,0),(9,0),(10,0),(11,0),(12,1),(13,1),(14,0)] fun d1 a=>?_;refine aF ?_
   refine cI rfl (fun _ ⟨_,a⟩=>bU (t:=0) lD a (h.mono i) rfl rfl) (cI rfl (fun _ _=>dF (t':=2) vU rfl rfl) (cI rfl (fun _ ⟨_,a⟩=>bU (t:=2) uC a a2 rfl rfl) (cI rfl (fun _ _=>dF (t':=1) aDv rfl rfl) (cI rfl (fun _ ⟨_,a⟩=>bU (t:=1) lD a (h.mono i) rfl rfl) ?_))));obtain ⟨j,a5,hm⟩:=aB hm
   refine aF ?_;obtain ⟨d2,d3,a6⟩:=aW.el (sz:=1) rfl q a5
   cases a6
   refine aF ?_;refine cI rfl (fun _ ⟨_,a⟩=>bU (t:=2) lD a (h.mono i) rfl rfl) (cI rfl (fun _ _=>cK (vs:=[(0,i64 b.F),(1,str j),(2,i64 b.To)]) (cs:=[i64 b.F,str j,i64 b.To]) aHK rfl (by kernel_rfl)) (eQ rfl (lI ([⟨b.F,j,b.To⟩]:List fD) fun d4 d5 a7=>?_)))
   refine aL (aC ⟨⟨_,a7⟩,?_⟩)
   refine eQ rfl ?_;obtain ⟨d6,d7,hm⟩:=aB hm
   refine aGF fun d8 d9 e0 p=>?_;refine aL (aC ⟨⟨_,p⟩,?_⟩)
   refine aF ?_;refine yO ?_
   have e1:=a3 _ _ p
   exact aI
  ·exact aI
theorem eU {d:(List bG)} {g:(List (aJ × Int))} {c:Nat} {b:(List fD)} {a:bG} {R:(Int × (List bG) × (List (aJ × Int)))} (hm:cP d g b a=some R) (hs:aD G K (aH 100 Kf a2 c3 d::jP c g::aH 154 K a5 c6 b::box b1 151 [zS a2 d.length c3,zM (some c),zS a5 b.length c6,Value.func (.func 50) #[] #[]]::L) w) (hG:G.lo=0) (a9:Hp.le Kf K) (o:aW Kf a7 c8 a.states):
  Calls Tryz.prog 100 ([zP (some ⟨b1,0,none⟩),zA #[zS a7 a.states.length c8,i64 a.y]]:List Value).toArray w (dS fun v w'=>∃ p q,v=i64 R.1/\aD G K (aH 100 Kf p q R.2.1::jP c R.2.2::aH 154 K a5 c6 b::box b1 151 [zS p R.2.1.length q,zM (some c),zS a5 b.length c6,Value.func (.func 50) #[] #[]]::L) w'):=by
 let e:=[zS a7 a.states.length c8,i64 a.y]
 refine cM func100 ?_;unfold cP at hm
 refine aF ?_;refine oE fun b0 d9 b2=>?_
 refine aF ?_;obtain ⟨e0,b3,b4,b5,b6⟩:=aD.lendBp b2 .head
 obtain ⟨e1,r,e2,e3,b7⟩:=aD.lendBp b5 (.tail (.tail (.tail .head)))
 refine wI [(0,0),(1,0),(2,0),(3,0),(4,0),(5,1),(6,0)] fun e4 j=>?_;refine aF ?_
 refine cI rfl (fun _ ⟨_,j⟩=>nA (t:=0) (vs:=e) aJx j (b4.mono r) rfl rfl rfl) (eQ rfl ?_);obtain ⟨u,b8,hm⟩:=aB hm
 refine fR (vs:=[zA #[zS a7 a.states.length c8,i64 a.y]]) (caps:=[]) (us:=[zA #[zS a7 a.states.length c8,i64 a.y]]) rfl call50 rfl rfl (xD b8 j hG (o.mono (zL (zL a9 b3) r))) ?_
 rintro _ e5 ⟨rfl,x⟩
 refine aL (aC ⟨⟨_,x⟩,?_⟩)
 refine aF ?_;refine yO ?_
 have b9:=b7 _ _ x
 have J:=b6 _ _ b9
 refine aF ?_;refine aM (aPd (kv:=g) (k:=u) (z:=(0:Int)) runUnderlying149 ko_9 zeroValue2 J (i:=3) rfl rfl rfl) ?_
 iterate 7 refine cE ?_
 refine mZ [] (fun f w=>∃ V l Z a0 a1,fL V l Z=some R/\f 6=i64 V/\aD G K (aH 100 Kf a0 a1 l::box b1 151 [zS a0 l.length a1,zM (some c),zS a5 b.length c6,Value.func (.func 50) #[] #[]]::jP c Z::aH 154 K a5 c6 b::L) w) aI (aF ?_)
 rcases aG hm with ⟨c0,hm⟩|⟨c0,hm⟩
 ·refine aF ?_;obtain ⟨m,c1,hm⟩:=aB hm
  refine aHE (i:=3) (k:=u) (v:=(d.length:Int)) runUnderlying149 ko_9 J rfl rfl rfl rfl c1 (fun c2 (c4:aD G K (box b0 100 e::box b1 151 [zS a2 d.length c3,zM (some c),zS a5 b.length c6,Value.func (.func 50) #[] #[]]::aH 100 Kf a2 c3 d::jP c m::aH 154 K a5 c6 b::L) c2)=>(aF ?_));obtain ⟨e6,e7,c5,c7,e8⟩:=aD.lendBp c4 .head
  obtain ⟨a3,c9,e9,f0,d0⟩:=aD.lendBp c7 .head
  refine wI [(0,0),(1,0),(2,0),(3,0),(4,0),(5,1),(6,1),(7,1),(8,2),(9,2),(10,2)] fun f1 n=>?_;refine aF ?_
  refine eQ rfl (aM (nA (t:=0) (vs:=e) aJx n (c5.mono c9) rfl rfl rfl) (aL (aC ⟨⟨_,n⟩,?_⟩)))
  refine eQ rfl (eR (Kt:=Kf) (xs:=([a]:List bG)) (cs:=e) (vs:=[(0,zA #[zS a7 a.states.length c8,i64 a.y])]) aKR ez_100 rfl rfl n rfl (by kernel_rfl) rfl rfl rfl ⟨⟨a7,c8,rfl,o⟩,trivial⟩ (fun d1 d2 (a4:aD G a3 (aH 100 Kf d1 1 ([a]:List bG)::aH 100 Kf a2 c3 d::jP c m::aH 154 K a5 c6 b::L) d2)=>(aL (aC ⟨⟨_,a4⟩,?_⟩))))
  refine eQ rfl ?_;obtain ⟨d3,d4,hm⟩:=aB hm
  refine aDs (i:=0) Kf aKR underlying104 ez_100 rfl rfl a4 rfl (zR _) (zR _) d4 rfl rfl rfl rfl (fun _ _ _ h=>El.one h) (fun d5 d6 d7 (a6:aD G a3 (aH 100 Kf d5 d6 d3::jP c m::aH 154 K a5 c6 b::L) d7)=>(aL (aC ⟨⟨_,a6⟩,?_⟩)))
  have f2:=d0 _ _ a6
  exact aI
 ·exact aI
theorem rB {a:aJ} {next:bG} {e:(List bG)} {q:(List (aJ × Int))} {b:Nat} {g:(List fD)} {p:Int} {r:Nat} {R:((List bG) × (List (aJ × Int)) × (List fD))} (hm:eT a next e q g p=some R) (hs:aD G K (aH 100 Kf a6 c7 e::jP b q::aH 154 K a9 c10 g::box b5 151 [zS a6 e.length c7,zM (some b),zS a9 g.length c10,Value.func (.func 50) #[] #[]]::box b4 148 [zP (some ⟨b5,0,none⟩)]::L) w) (u:G.lo=0) (x:Hp.le Kf K) (z:aW Kf a1 c2 next.states) (d3:cT K a11 r [i64 p]):
  Calls Tryz.prog 101 ([str a,zA #[zS a1 next.states.length c2,i64 next.y],zP (some ⟨b4,0,none⟩),cD a11 r]:List Value).toArray w (dS fun v w'=>∃ J V Z a0,v=Value.tuple #[]/\aD G K (aH 100 Kf J V R.1::jP b R.2.1::aH 154 K Z a0 R.2.2::box b5 151 [zS J R.1.length V,zM (some b),zS Z R.2.2.length a0,Value.func (.func 50) #[] #[]]::box b4 148 [zP (some ⟨b5,0,none⟩)]::L) w'):=by
 refine cM func101 ?_;unfold eT at hm
 refine aF ?_;refine oE fun d4 d5 b7=>?_
 refine aF ?_;refine aY [] (fun f w=>∃ h a2 k a3 a4 a5 a7,lS h a2 k=some R/\aD G K (aH 154 K a5 a7 k::aH 100 Kf a3 a4 h::jP b a2::box b5 151 [zS a3 h.length a4,zM (some b),zS a5 k.length a7,Value.func (.func 50) #[] #[]]::box b4 148 [zP (some ⟨b5,0,none⟩)]::L) w) aI ?_
 obtain ⟨d6,a8,b8,b9,d7⟩:=aD.lendBp b7 .head
 obtain ⟨c0,l,d8,c1,m⟩:=aD.lendBp b9 (.tail (.tail (.tail (.tail .head))))
 refine oD (C:=fun w'=>∃ L',aD G c0 L' w') [] Tryz_mixed (by kernel_rfl) (fun d9 c3=>?_)
 have c:=aD.mono c1 c3
 refine eV 0 ?_;refine eV 1 ?_
 refine eV 2 ?_;refine eV 3 ?_
 refine eV 5 ?_;refine eV 6 ?_
 refine eV 7 ?_;refine gD (i:=8) rfl (by kernel_rfl) ⟨_,c⟩ (fun _ ⟨_,c⟩=>nA (t:=0) (vs:=[zS a1 next.states.length c2,i64 next.y]) aJx c (b8.mono l) rfl rfl rfl) (mR (i:=4) (j:=9) (by kernel_rfl) rfl rfl ?_ ?_)
 ·iterate 1 refine cE ?_
  refine aL (aC ⟨fun _=>⟨_,c⟩,?_⟩)
  refine aQ (i:=9) (by kernel_rfl) rfl ?_;obtain ⟨n,c4,hm⟩:=aB hm
  refine cC call100 (eU (Kf:=Kf) c4 c u (zL (zL x a8) l) z) ?_
  rintro _ e0 ⟨e1,e2,rfl,b0⟩
  refine aL (aC ⟨fun _=>⟨_,b0⟩,?_⟩)
  refine gD (i:=10) rfl (by kernel_rfl) ⟨_,b0⟩ (fun _ _=>cK (vs:=[(0,i64 p),(1,str a),(2,i64 n.1)]) (cs:=[i64 p,str a,i64 n.1]) aHK rfl (by kernel_rfl)) (aQ (i:=11) (by kernel_rfl) rfl (lI ([⟨p,a,n.1⟩]:List fD) fun e3 e4 c5=>?_));refine aL (aC ⟨fun _=>⟨_,c5⟩,?_⟩)
  refine aQ (i:=12) (by kernel_rfl) rfl ?_;obtain ⟨e5,e6,hm⟩:=aB hm
  refine aGF fun e7 e8 e9 c6=>?_;refine aL (aC ⟨fun _=>⟨_,c6⟩,?_⟩)
  refine eV 13 ?_;refine eV 14 ?_
  refine aQ (i:=15) (by kernel_rfl) rfl (gM fun f0 b1=>?_);refine aL (aC ⟨fun _=>⟨_,b1⟩,?_⟩)
  refine eX (by kernel_rfl) ?_
  have f1:=m _ _ b1
  exact aI
 ·obtain ⟨d,c8,hm⟩:=aB hm
  refine cC call100 (eU (Kf:=Kf) c8 c u (zL (zL x a8) l) z) ?_
  rintro _ f2 ⟨f3,f4,rfl,o⟩
  refine aL (aC ⟨fun _=>⟨_,o⟩,?_⟩)
  refine gD (i:=10) rfl (by kernel_rfl) ⟨_,o⟩ (fun _ _=>cK (vs:=[(0,i64 p),(1,str a),(2,i64 d.1)]) (cs:=[i64 p,str a,i64 d.1]) aHK rfl (by kernel_rfl)) (mR (i:=4) (j:=11) (by kernel_rfl) rfl rfl ?_ ?_)
  ·iterate 1 refine cE ?_
   refine aL (aC ⟨fun _=>⟨_,o⟩,?_⟩)
   refine aQ (i:=11) (by kernel_rfl) rfl (lI ([⟨p,a,d.1⟩]:List fD) fun f5 f6 c9=>?_);refine aL (aC ⟨fun _=>⟨_,c9⟩,?_⟩)
   refine aQ (i:=12) (by kernel_rfl) rfl ?_;obtain ⟨f7,f8,hm⟩:=aB hm
   refine aGF fun f9 g0 g1 d0=>?_;refine aL (aC ⟨fun _=>⟨_,d0⟩,?_⟩)
   refine eV 13 ?_;refine eV 14 ?_
   refine aQ (i:=15) (by kernel_rfl) rfl (gM fun g2 b2=>?_);refine aL (aC ⟨fun _=>⟨_,b2⟩,?_⟩)
   refine eX (by kernel_rfl) ?_
   have g3:=m _ _ b2
   exact aI
  ·refine lI ([⟨p,a,d.1⟩]:List fD) fun g4 g5 b3=>?_;refine aL (aC ⟨fun _=>⟨_,b3⟩,?_⟩)
   refine aQ (i:=4) (by kernel_rfl) rfl ?_
   iterate 1 refine cE ?_
   refine aL (aC ⟨fun _=>⟨_,b3⟩,?_⟩)
   refine aQ (i:=12) (by kernel_rfl) rfl ?_;obtain ⟨g6,g7,hm⟩:=aB hm
   refine aGF fun g8 g9 h0 d1=>?_;refine aL (aC ⟨fun _=>⟨_,d1⟩,?_⟩)
   refine eV 13 ?_;refine eV 14 ?_
   refine aQ (i:=15) (by kernel_rfl) rfl (gM fun h1 b6=>?_);refine aL (aC ⟨fun _=>⟨_,b6⟩,?_⟩)
   refine eX (by kernel_rfl) ?_
   have h2:=m _ _ b6
   exact aI
theorem xE {q:bG} {r:(List bG)} {a2:(List (aJ × Int))} {a:Nat} {u:(List fD)} {c9:Int} {a3:Nat} {p:pV} {d0:Nat} {b:bZ} {d1:Nat} {R:(Bool × (List bG) × (List (aJ × Int)) × (List fD))} (hm:lM q r a2 u c9 p b=some R) (hs:aD G K (aH 100 Kf a6 c7 r::jP a a2::aH 154 K a9 c10 u::box b5 151 [zS a6 r.length c7,zM (some a),zS a9 u.length c10,Value.func (.func 50) #[] #[]]::box b4 148 [zP (some ⟨b5,0,none⟩)]::L) w) (hG:G.lo=0) (d2:Hp.le Kf K) (h3:aW K a1 c2 q.states) (f0:cT K a11 a3 [i64 c9]) (h6:cT K a14 d0 [zS a17 p.leave.length c18,zS a20 p.stay.length c21]) (f1:aW K a17 c18 p.leave) (f2:aW K a20 c21 p.stay) (f3:cT K a23 d1 [i64 b.t.N,i64 b.t.I,zS a26 b.t.L.length c27,zS a29 b.t.E.length c30,i64 b.p.N,i64 b.p.I,zS a32 b.p.L.length c33,zS a35 b.p.E.length c36]) (b6:aW K a26 c27 b.t.L) (f4:aW K a29 c30 b.t.E) (f5:aW K a32 c33 b.p.L) (f6:aW K a35 c36 b.p.E):
  Calls Tryz.prog 54 ([zA #[zS a1 q.states.length c2,i64 q.y],Value.func (.func 101) #[] #[zP (some ⟨b4,0,none⟩),cD a11 a3],cD a14 d0,cD a23 d1]:List Value).toArray w (dS fun v w'=>∃ K' d4 d5 d6 d7,v=zB R.1/\Hp.le K K'/\aD G K' (aH 100 K' d4 d5 R.2.1::jP a R.2.2.1::aH 154 K d6 d7 R.2.2.2::box b5 151 [zS d4 R.2.1.length d5,zM (some a),zS d6 R.2.2.2.length d7,Value.func (.func 50) #[] #[]]::box b4 148 [zP (some ⟨b5,0,none⟩)]::L) w'):=by
 let n:=[zS a1 q.states.length c2,i64 q.y]
 let m:=[zP (some ⟨b5,0,none⟩)]
 let d8:=[zS a6 r.length c7,zM (some a),zS a9 u.length c10,Value.func (.func 50) #[] #[]]
 refine cM func54 ?_;unfold lM at hm
 refine aF ?_;refine oE fun o h7 f7=>?_
 refine aF ?_;obtain ⟨h8,f8,hm⟩:=aB hm
 refine cC call37 (rA f8 f7 f1 f2 h3) ?_
 rintro _ d9 ⟨rfl,e0⟩
 refine aF ?_
 rcases aG hm with ⟨c45,hm⟩|⟨c45,hm⟩
 ·refine aF ?_
  have h9:aD G K (box o 100 n::aH 100 K a6 c7 r::jP a a2::aH 154 K a9 c10 u::box b5 151 d8::box b4 148 m::L) d9:=aD.weak (i:=1) e0 rfl (fun _ h=>aH.mono d2 h)
  exact aI
 ·refine aF ?_;obtain ⟨i0,e1,hm⟩:=aB hm
  obtain ⟨i1,i2,e2⟩:=Cut.ex 1 a26 c27 1
  have f9:=aW.cut' b6 e1 e2
  refine aM (aBb eM b6.room e2 rfl rfl rfl e1) (aF ?_);refine aK [] (fun f w=>∃ b8 b9 e3 c0 e4 e5 e6 e7,Hp.le K b8/\rH b9 e3 c0=some R/\aD G b8 (aH 154 K e6 e7 c0::aH 100 b8 e4 e5 b9::jP a e3::box b5 151 [zS e4 b9.length e5,zM (some a),zS e6 c0.length e7,Value.func (.func 50) #[] #[]]::box b4 148 m::L) w) aI ?_
  have i3:aD G K (box o 100 n::aH 100 K a6 c7 r::jP a a2::aH 154 K a9 c10 u::box b5 151 d8::box b4 148 m::L) d9:=aD.weak (i:=1) e0 rfl (fun _ h=>aH.mono d2 h)
  obtain ⟨i4,g0,ho⟩:=aB hm
  refine rV [1,3,4,20,21] g0 (fun c J d c1 f w=>∃ x e g j k,Hp.le K x/\f 22=i64 c1/\aD G x (box o 100 n::aH 100 x e g c::jP a J::aH 154 K j k d::box b5 151 [zS e c.length g,zM (some a),zS j d.length k,Value.func (.func 50) #[] #[]]::box b4 148 m::L) w) aI ?_
  ·rintro c J d c1 g1 f i5 hm hr ⟨x,e,g,j,k,l,i6,g2⟩
   unfold gK at hm
   refine aF ?_
   rcases aG hm with ⟨g3,hm⟩|⟨g3,hm⟩
   ·refine aF ?_;refine aK [1,3,4,20,21,22] (fun f w=>∃ V a4 c3 a5 a7 a8 b0 b1,Hp.le x V/\gJ c1 a4 c3 a5=some g1/\aD G V (aH 154 K b0 b1 a5::aH 100 V a7 a8 a4::box o 100 n::jP a c3::box b5 151 [zS a7 a4.length a8,zM (some a),zS b0 a5.length b1,Value.func (.func 50) #[] #[]]::box b4 148 m::L) w) ?_ ?_
    ·rintro f i7 ⟨V,a4,c3,a5,a7,a8,b0,b1,g4,hm,i8⟩
     unfold gJ at hm
     refine aF ?_;exact ⟨_,(zI hm).symm,bD,V,a7,a8,b0,b1,(zL l g4),rfl,lY⟩
    refine aF ?_;obtain ⟨c4,g5,hm⟩:=aB hm
    refine aF ?_;obtain ⟨i9,j0,g6⟩:=aW.el (sz:=1) rfl f9 g5
    cases g6
    refine aF ?_;obtain ⟨Z,g7,hm⟩:=aB hm
    refine cC call55 (aAC g7 g2 (b6.mono l) (f4.mono l) (h3.mono l)) ?_
    rintro _ j1 ⟨b2,b3,rfl,c5⟩
    refine aF ?_
    rcases aG hm with ⟨g8,hm⟩|⟨g8,hm⟩
    ·refine aF ?_;refine aM (nA (t:=4) (vs:=(zC b.p a32 c33 a35 c36)) mS c5 (f3.mono l) rfl rfl rfl) (aM (dF (t':=1) aMG rfl rfl) (aM (aIV lD c5 (i:=1) rfl rfl rfl) (aR (v:=str c4) ?_)))
     obtain ⟨a0,g9,hm⟩:=aB hm
     refine cC call35 (iK g9 c5 (f5.mono l) (f6.mono l)) ?_
     rintro _ c6 ⟨rfl,h0⟩
     refine aM (cK (vs:=[(0,zS b2 Z.length b3),(1,i64 a0)]) (cs:=[zS b2 Z.length b3,i64 a0]) aMH rfl (by kernel_rfl)) ?_;obtain ⟨z,e8,h1,c8⟩:=aD.giveSp h0 l .head
     replace c8:aD G z (box o 100 n::aH 100 x e g c::jP a J::aH 154 K j k d::box b5 151 [zS e c.length g,zM (some a),zS j d.length k,Value.func (.func 50) #[] #[]]::box b4 148 m::L) c6:=c8
     have j2:aD G z (box o 100 n::aH 100 z e g c::jP a J::aH 154 K j k d::box b5 151 [zS e c.length g,zM (some a),zS j d.length k,Value.func (.func 50) #[] #[]]::box b4 148 m::L) c6:=aD.weak (i:=1) c8 rfl (fun _ h=>aH.mono e8 h)
     have h2:aD G z (aH 100 z e g c::jP a J::aH 154 K j k d::box b5 151 [zS e c.length g,zM (some a),zS j d.length k,Value.func (.func 50) #[] #[]]::box b4 148 m::box o 100 n::L) c6:=lY
     obtain ⟨j3,h4,hm⟩:=aB hm
     exact fR (vs:=[str c4,zA #[zS b2 Z.length b3,i64 a0]]) (caps:=[zP (some ⟨b4,0,none⟩),cD a11 a3]) (us:=[str c4,zA #[zS b2 Z.length b3,i64 a0],zP (some ⟨b4,0,none⟩),cD a11 a3]) rfl call101 rfl rfl (rB (Kf:=z) (next:=⟨Z,a0⟩) h4 h2 hG (zR _) h1 (f0.mono (zL l e8))) aI
    ·exact aI
   ·exact aI
end Gv
namespace Gv
open Go.Value renaming slice→zS,bool→zB,pointer→zP,agg→zA,map→zM
open Option.some renaming inj→zI
open Gv.Hp renaming le_trans→zL,le_refl→zR
open Go Go.Proofs Go.Proofs.Tryz
set_option maxRecDepth 20000
set_option maxHeartbeats 40000000
variable {G:Env} {K:Hp} {L:List iI} {w:World} {a1 a4 a7 a10 a13 a16 a19 a22 a25:Option Addr} {c2 c8 c11 c17 c20 c23 c26 c5 c14:Nat}
theorem tK {first:bG} {b5:pV} {k5:Nat} {c:bZ} {d0:Nat} {R:(aS × (List bG) × Bool)} (hm:gL first b5 c=some R) (hs:aD G K (L) w) (hG:G.lo=0) (h3:aW K a1 c2 first.states) (h6:cT K a4 k5 [zS a7 b5.leave.length c8,zS a10 b5.stay.length c11]) (h9:aW K a7 c8 b5.leave) (h5:aW K a10 c11 b5.stay) (h7:cT K a13 d0 [i64 c.t.N,i64 c.t.I,zS a16 c.t.L.length c17,zS a19 c.t.E.length c20,i64 c.p.N,i64 c.p.I,zS a22 c.p.L.length c23,zS a25 c.p.E.length c26]) (h8:aW K a16 c17 c.t.L) (i0:aW K a19 c20 c.t.E) (i1:aW K a22 c23 c.p.L) (i2:aW K a25 c26 c.p.E):
  Calls Tryz.prog 53 ([zA #[zS a1 first.states.length c2,i64 first.y],Value.func (.func 50) #[] #[],Value.func (.func 54) #[] #[cD a4 k5,cD a13 d0]]:List Value).toArray w (dS fun v w'=>∃ K' f1 f2 f3 f4 f5 f6,v=Value.tuple #[zA (zCa R.1 f1 f2 f3 f4),zS f5 R.2.1.length f6,zB R.2.2]/\Hp.le K K'/\aD G K' (aH 9 K f1 f2 R.1.L::aH 52 K f3 f4 R.1.E::aH 100 K' f5 f6 R.2.1::L) w'):=by
 let m:=zG
 refine cM func53 ?_;unfold gL at hm
 refine aF ?_;refine oE fun f7 r7 r8=>?_
 refine iN fun n r9 i3=>?_;refine aF ?_
 refine aHD aJ Int i3 ?_
 intro a i4 (s0:aD G K (jP a ([]:(List (aJ × Int)))::box n 27 m::box f7 100 [zS a1 first.states.length c2,i64 first.y]::L) i4)
 iterate 1 refine cE ?_
 refine aM (cK (vs:=[(1,zM (some a)),(3,Value.func (.func 50) #[] #[])]) (cs:=[zS none 0 0,zM (some a),zS none 0 0,Value.func (.func 50) #[] #[]]) bs_151 rfl (by kernel_rfl)) (oE fun b s1 s2=>?_);refine iN fun d s3 s4=>?_
 refine gM fun i5 i6=>?_;refine aF ?_
 have i7:=aD.nil (α:=bG) i6 100 K
 have s5:=aD.nil (α:=fD) i7 154 K
 have i8:aD G K (aH 100 K none 0 ([]:List bG)::jP a ([]:(List (aJ × Int)))::aH 154 K none 0 ([]:List fD)::box b 151 [zS none 0 0,zM (some a),zS none 0 0,Value.func (.func 50) #[] #[]]::box d 148 [zP (some ⟨b,0,none⟩)]::box n 27 m::box f7 100 [zS a1 first.states.length c2,i64 first.y]::L) i5:=lY
 obtain ⟨s6,i9,hm⟩:=aB hm
 refine cC call100 (eU (Kf:=K) i9 i8 hG (Hp.le_refl _) h3) ?_
 rintro _ s7 ⟨s8,s9,rfl,t0⟩
 refine aF ?_;refine iN fun t1 t2 t3=>?_
 refine gM fun t4 j0=>?_;refine aF ?_
 refine aK [6,9] (fun f w=>∃ a8 a2 d1 a9 b6 b7 b8 b9,Hp.le K a8/\gP a2 d1 a9=some R/\aD G a8 (aH 154 K b8 b9 a9::aH 100 a8 b6 b7 a2::jP a d1::box b 151 [zS b6 a2.length b7,zM (some a),zS b8 a9.length b9,Value.func (.func 50) #[] #[]]::box d 148 [zP (some ⟨b,0,none⟩)]::box n 27 m::L) w) ?_ ?_
 ·rintro f t5 ⟨a8,a2,d1,a9,b6,b7,b8,b9,k,hm,j1⟩
  unfold gP at hm
  refine aF ?_;refine aY [6,9] (fun f w=>∃ b0 b1 a3 a5 d5 c0 c1 c3 c4,kE a2 b0 b1 a3 a5=some R/\f 12=zP (some ⟨d5,0,none⟩)/\aD G a8 (aH 52 K c3 c4 a5::aH 9 K c0 c1 a3::box d5 27 [i64 b0,i64 b1,zS c0 a3.length c1,zS c3 a5.length c4]::aH 154 K b8 b9 a9::aH 100 a8 b6 b7 a2::jP a d1::box b 151 [zS b6 a2.length b7,zM (some a),zS b8 a9.length b9,Value.func (.func 50) #[] #[]]::box d 148 [zP (some ⟨b,0,none⟩)]::box n 27 m::L) w) ?_ ?_
  ·rintro f t6 ⟨b0,b1,a3,a5,d5,c0,c1,c3,c4,hm,f8,j2⟩
   unfold kE at hm
   refine aF ?_;obtain ⟨t7,f9,g0,j3,t8⟩:=aD.lendBp j2 (.tail (.tail .head))
   obtain ⟨t9,d2,j4,j5,u0⟩:=aD.lendBp j3 (.tail (.tail (.tail (.tail (.tail .head)))))
   obtain ⟨u1,c5,j6,u2,u3⟩:=aD.lendBp j5 (.tail (.tail (.tail (.tail (.tail .head)))))
   refine wI [(0,0),(1,0),(2,0),(3,0),(4,0),(5,1),(6,1),(7,1),(8,2),(9,2)] fun u4 o=>?_;refine cI rfl (fun _ ⟨_,o⟩=>nA (t:=0) (vs:=[i64 b0,i64 b1,zS c0 a3.length c1,zS c3 a5.length c4]) mS o (g0.mono (zL d2 c5)) f8 rfl rfl) (cI rfl (fun _ ⟨_,o⟩=>bU (t:=0) sc_148 o j6 rfl rfl) (cI rfl (fun _ _=>aOW rfl) (cI rfl (fun _ _=>dF (t':=0) aQy rfl rfl) (cI rfl (fun _ ⟨_,o⟩=>bU (t:=0) sc_104 o (j4.mono c5) rfl rfl) (eQ rfl (aM (nA (t:=0) (vs:=[i64 b0,i64 b1,zS c0 a3.length c1,zS c3 a5.length c4]) mS o (g0.mono (zL d2 c5)) f8 rfl rfl) (aL (aC ⟨⟨_,o⟩,?_⟩))))))))
   refine eQ rfl ?_;obtain ⟨u5,j7,j8,j9,k0⟩:=aD.lendSp o (zL (zL (zL k f9) d2) c5) (.tail .head)
   obtain ⟨u6,k1,k2,k3,k4⟩:=aD.lendSp j9 (zL (zL (zL (zL k f9) d2) c5) j7) .head
   obtain ⟨u7,k6,hm⟩:=aB hm
   refine cC call48 (uM (t:=⟨b0,b1,a3,a5⟩) k6 k3 hG (j8.mono k1) k2) ?_
   rintro _ u8 ⟨rfl,k7⟩
   have k8:=k4 _ _ k7
   have u9:=k0 _ _ k8
   exact aI
  obtain ⟨v0,Z,d6,k9,d7⟩:=aD.lendBp j1 (.tail (.tail (.tail .head)))
  obtain ⟨l0,e,v1,l1,d8⟩:=aD.lendBp k9 (.tail (.tail (.tail .head)))
  refine oD (C:=fun w'=>∃ L',aD G l0 L' w') [16] Tryz_mixed (by kernel_rfl) (fun v2 l2=>?_)
  have l:=aD.mono l1 l2
  refine eV 0 ?_;refine eV 1 ?_
  refine eV 2 ?_;refine gD (i:=3) rfl (by kernel_rfl) ⟨_,l⟩ (fun _ ⟨_,l⟩=>bU (t:=0) sc_104 l (d6.mono e) rfl rfl) (eV 4 ?_)
  refine eV 5 ?_;refine eV 6 ?_
  refine eV 7 ?_;refine gD (i:=8) rfl (by kernel_rfl) ⟨_,l⟩ (fun _ ⟨_,l⟩=>bU (t:=2) aJy l (d6.mono e) rfl rfl) (eV 10 ?_)
  refine eV 11 ?_;refine eV 12 ?_
  refine gD (i:=13) rfl (by kernel_rfl) ⟨_,l⟩ (fun _ ⟨_,l⟩=>bU (t:=2) aJy l (d6.mono e) rfl rfl) (mR (i:=9) (j:=15) (by kernel_rfl) rfl rfl ?_ ?_)
  ·obtain ⟨v3,v4,l3,l4,l5⟩:=aD.lendSp l (zL (zL k Z) e) .head
   obtain ⟨v5,l6,hm⟩:=aB hm
   refine cC call102 (nG l6 l4 l3) ?_
   rintro _ v6 ⟨v7,v8,rfl,l7⟩
   have g1:=l5 _ _ l7
   refine aL (aC ⟨fun _=>⟨_,g1⟩,?_⟩)
   refine mR (i:=14) (j:=15) (by kernel_rfl) rfl rfl ?_ ?_
   ·obtain ⟨v9,l8,l9,m0,m1⟩:=aD.lendSp g1 (zL (zL k Z) e) (.tail .head)
    obtain ⟨w0,m2,m3,m4,m5⟩:=aD.lendSp m0 (zL (zL (zL k Z) e) l8) .head
    obtain ⟨w1,m6,hm⟩:=aB hm
    refine cC call56 (jO m6 m4 (l9.mono m2) m3) ?_
    rintro _ w2 ⟨w3,w4,w5,w6,rfl,m7⟩
    have m8:=m5 _ _ m7
    have m9:=m1 _ _ m8
    refine aL (aC ⟨fun _=>⟨_,m9⟩,?_⟩)
    refine aQ (i:=15) (by kernel_rfl) rfl (iN fun w7 w8 g2=>?_);refine aL (aC ⟨fun _=>⟨_,g2⟩,?_⟩)
    refine aQ (i:=16) (by kernel_rfl) rfl ?_
    have n0:=d8 _ _ g2
    have w9:=d7 _ _ n0
    refine gM fun x0 x1=>?_;refine aL (aC ⟨aJs rfl,?_⟩)
    exact eX (by kernel_rfl) aI
   ·refine iN fun x2 x3 g3=>?_;refine aL (aC ⟨fun _=>⟨_,g3⟩,?_⟩)
    refine aQ (i:=14) (by kernel_rfl) rfl ?_;obtain ⟨x4,n1,n2,n3,n4⟩:=aD.lendSp g3 (zL (zL k Z) e) (.tail (.tail .head))
    obtain ⟨x5,n5,n6,n7,n8⟩:=aD.lendSp n3 (zL (zL (zL k Z) e) n1) (.tail .head)
    obtain ⟨x6,n9,hm⟩:=aB hm
    refine cC call56 (jO n9 n7 (n2.mono n5) n6) ?_
    rintro _ x7 ⟨x8,x9,y0,y1,rfl,o0⟩
    have o1:=n8 _ _ o0
    have g4:=n4 _ _ o1
    refine aL (aC ⟨fun _=>⟨_,g4⟩,?_⟩)
    refine aQ (i:=16) (by kernel_rfl) rfl ?_
    have o2:=d8 _ _ g4
    have y2:=d7 _ _ o2
    refine gM fun y3 y4=>?_;refine aL (aC ⟨aJs rfl,?_⟩)
    exact eX (by kernel_rfl) aI
  ·refine iN fun y5 y6 g5=>?_;refine aL (aC ⟨fun _=>⟨_,g5⟩,?_⟩)
   refine aQ (i:=9) (by kernel_rfl) rfl ?_;obtain ⟨y7,y8,o3,o4,o5⟩:=aD.lendSp g5 (zL (zL k Z) e) (.tail .head)
   obtain ⟨y9,o6,hm⟩:=aB hm
   refine cC call102 (nG o6 o4 o3) ?_
   rintro _ z0 ⟨z1,z2,rfl,o7⟩
   have g6:=o5 _ _ o7
   refine aL (aC ⟨fun _=>⟨_,g6⟩,?_⟩)
   refine aQ (i:=14) (by kernel_rfl) rfl ?_;obtain ⟨z3,o8,o9,p0,p1⟩:=aD.lendSp g6 (zL (zL k Z) e) (.tail .head)
   obtain ⟨z4,p2,p3,p4,p5⟩:=aD.lendSp p0 (zL (zL (zL k Z) e) o8) .head
   obtain ⟨z5,p6,hm⟩:=aB hm
   refine cC call56 (jO p6 p4 (o9.mono p2) p3) ?_
   rintro _ z6 ⟨z7,z8,z9,a00,rfl,p7⟩
   have p8:=p5 _ _ p7
   have g7:=p1 _ _ p8
   refine aL (aC ⟨fun _=>⟨_,g7⟩,?_⟩)
   refine aQ (i:=16) (by kernel_rfl) rfl ?_
   have p9:=d8 _ _ g7
   have a01:=d7 _ _ p9
   refine gM fun a02 a03=>?_;refine aL (aC ⟨aJs rfl,?_⟩)
   exact eX (by kernel_rfl) aI
 have a04:=aD.nil (α:=fD) j0 154 K
 obtain ⟨a05,q0,ho⟩:=aB hm
 refine rV [2,6,9] q0 (fun q c6 r d9 f w=>∃ c7 u x z J b2,Hp.le K c7/\f 10=zP (some ⟨b2,0,none⟩)/\aD G c7 (aH 154 K z J r::box b2 3 [i64 d9]::aH 100 c7 u x q::jP a c6::box b 151 [zS u q.length x,zM (some a),zS z r.length J,Value.func (.func 50) #[] #[]]::box d 148 [zP (some ⟨b,0,none⟩)]::box n 27 m::L) w) aI ?_
 ·rintro q c6 r d9 q1 f a06 hm hr ⟨c7,u,x,z,J,b2,V,g8,a07⟩
  unfold bY at hm
  refine aF ?_;refine aLO ?_
  refine aF ?_;refine wH (fun q2 q3=>(aF ?_))
  rcases aG hm with ⟨q4,hm⟩|⟨q4,hm⟩
  ·refine aF ?_;refine cA (aF ?_)
   obtain ⟨a6,g,g9,e0,_⟩:=aD.lendBp q3 (.tail .head)
   replace e0:aD G a6 (aH 154 K z J r::aH 100 c7 u x q::jP a c6::box b 151 [zS u q.length x,zM (some a),zS z r.length J,Value.func (.func 50) #[] #[]]::box d 148 [zP (some ⟨b,0,none⟩)]::box n 27 m::L) q2:=e0
   refine oD (C:=fun w'=>∃ L',aD G a6 L' w') [] Tryz_mixed (by kernel_rfl) (fun h0 q5=>?_)
   have a0:=aD.mono e0 q5
   refine eV 0 ?_;refine eV 5 ?_
   refine gD (i:=8) rfl (by kernel_rfl) ⟨_,a0⟩ (fun _ _=>fF (vs:=[zP (some ⟨d,0,none⟩),cD (some ⟨b2,0,none⟩) 0]) (lst2 rfl (mQ g8))) (aQ (i:=1) (by kernel_rfl) rfl ?_)
   iterate 1 refine cE ?_
   refine aL (aC ⟨fun _=>⟨_,a0⟩,?_⟩)
   refine eV 2 ?_;refine eV 3 ?_
   refine aQ (i:=4) (by kernel_rfl) rfl ?_
   iterate 1 refine cE ?_
   refine aL (aC ⟨fun _=>⟨_,a0⟩,?_⟩)
   obtain ⟨b3,e1,hm⟩:=aB hm
   have q6:=bS a0 (i:=1) rfl e1
   refine gD (i:=6) rfl (by kernel_rfl) ⟨_,a0⟩ (fun _ _=>cS aKR rfl q6 rfl rfl rfl e1) (aQ (i:=7) (by kernel_rfl) rfl ?_);obtain ⟨a08,q7,q8⟩:=aJr (sz:=2) rfl a0 (i:=1) rfl e1
   obtain ⟨e2,e3,rfl,q9⟩:=q8
   refine aM (aMz (t:=0) (vs:=[zS e2 b3.states.length e3,i64 b3.y]) aJx q7 rfl rfl rfl) (aL (aC ⟨fun _=>⟨_,a0⟩,?_⟩))
   refine aQ (i:=9) (by kernel_rfl) rfl ?_
   have a09:aD G a6 (aH 154 K z J r::aH 100 a6 u x q::jP a c6::box b 151 [zS u q.length x,zM (some a),zS z r.length J,Value.func (.func 50) #[] #[]]::box d 148 [zP (some ⟨b,0,none⟩)]::box n 27 m::L) h0:=aD.weak (i:=1) a0 rfl (fun _ h=>aH.mono g h)
   have r0:aD G a6 (aH 100 a6 u x q::jP a c6::aH 154 K z J r::box b 151 [zS u q.length x,zM (some a),zS z r.length J,Value.func (.func 50) #[] #[]]::box d 148 [zP (some ⟨b,0,none⟩)]::box n 27 m::L) h0:=lY
   obtain ⟨b4,r1,hm⟩:=aB hm
   refine fR (vs:=[zA #[zS e2 b3.states.length e3,i64 b3.y],Value.func (.func 101) #[] #[zP (some ⟨d,0,none⟩),cD (some ⟨b2,0,none⟩) 0]]) (caps:=[cD a4 k5,cD a13 d0]) (us:=[zA #[zS e2 b3.states.length e3,i64 b3.y],Value.func (.func 101) #[] #[zP (some ⟨d,0,none⟩),cD (some ⟨b2,0,none⟩) 0],cD a4 k5,cD a13 d0]) rfl call54 rfl rfl (xE (Kf:=a6) r1 r0 hG (Hp.le_refl _) (q9.mono g) g9 (h6.mono (zL V g)) (h9.mono (zL V g)) (h5.mono (zL V g)) (h7.mono (zL V g)) (h8.mono (zL V g)) (i0.mono (zL V g)) (i1.mono (zL V g)) (i2.mono (zL V g))) ?_
   rintro _ a11 ⟨e4,e5,e6,e7,e8,rfl,e9,r2⟩
   refine aL (aC ⟨fun _=>⟨_,(aD.weakK r2 e9)⟩,?_⟩)
   refine eV 10 ?_;refine eX (by kernel_rfl) ?_
   iterate 2 refine cE ?_
   refine aY [2,6,9,10] (fun f w=>∃ f0,gQ d9 b4 f0=some q1/\f 48=zB f0/\aD G e4 (aH 100 e4 e5 e6 b4.2.1::jP a b4.2.2.1::aH 154 K e7 e8 b4.2.2.2::box b 151 [zS e5 b4.2.1.length e6,zM (some a),zS e7 b4.2.2.2.length e8,Value.func (.func 50) #[] #[]]::box d 148 [zP (some ⟨b,0,none⟩)]::box n 27 m::L) w) ?_ ?_
   ·rintro f a12 ⟨f0,hm,a14,r3⟩
    unfold gQ at hm
    refine aF ?_
    rcases aG hm with ⟨r4,hm⟩|⟨r4,hm⟩
    ·exact aI
    ·refine aF ?_;refine aM (bU (t:=0) sc_3 r3 (g9.mono e9) (mQ g8) rfl) (aU (bR (iN fun r5 a15 a17=>?_)))
     refine gM fun a18 a20=>?_;refine aF ?_
     refine gM fun a21 a23=>?_;refine aF ?_
     exact ⟨_,(zI hm).symm,bD,e4,e5,e6,e7,e8,r5,(zL (zL V g) e9),rfl,lY⟩
   exact aI
  ·exact aI
theorem aAS {o:bZ} {R:(aZ × Bool)} (hm:oT o=some R) (hs:aD G K (L) w) (hG:G.lo=0) (h3:aW K a1 c2 o.t.L) (h6:aW K a4 c5 o.t.E) (h9:aW K a7 c8 o.p.L) (k4:aW K a10 c11 o.p.E):
  Calls Tryz.prog 18 ([zA #[i64 o.t.N,i64 o.t.I,zS a1 o.t.L.length c2,zS a4 o.t.E.length c5,i64 o.p.N,i64 o.p.I,zS a7 o.p.L.length c8,zS a10 o.p.E.length c11]]:List Value).toArray w (dS fun v w'=>∃ k5 k6 k7 k8 k9 l0,v=Value.tuple #[zA #[i64 R.1.S.N,i64 R.1.S.I,zS k5 R.1.S.L.length k6,zS k7 R.1.S.E.length k8,zS k9 R.1.Verdicts.length l0],zB R.2]/\aD G K (aH 9 K k5 k6 R.1.S.L::aH 52 K k7 k8 R.1.S.E::aH 2 K k9 l0 R.1.Verdicts::L) w'):=by
 let c:=[i64 0,i64 0,zS none 0 0,zS none 0 0,zS none 0 0]
 let d0:=[i64 o.t.N,i64 o.t.I,zS a1 o.t.L.length c2,zS a4 o.t.E.length c5,i64 o.p.N,i64 o.p.I,zS a7 o.p.L.length c8,zS a10 o.p.E.length c11]
 refine iT func18 rfl (by kernel_rfl) (by show (1:Nat)<=65;decide) ?_;unfold oT at hm
 refine bC (aHx (v:=zA #[i64 o.t.N,i64 o.t.I,zS a1 o.t.L.length c2,zS a4 o.t.E.length c5,i64 o.p.N,i64 o.p.I,zS a7 o.p.L.length c8,zS a10 o.p.E.length c11]) (vs:=d0) hs rfl rfl (fun d1 w14 o6=>(fQ (vs:=c) zeroValue32 o6 rfl (fun e w17 l1=>(aT (v:=zB false) (aU (bC (aM (vK (us:=d0) ag_56 l1 (i:=1) rfl rfl rfl rfl) ?_))))))));obtain ⟨b,o7,hm⟩:=aB hm
 refine bO (vs:=[zA #[i64 o.t.N,i64 o.t.I,zS a1 o.t.L.length c2,zS a4 o.t.E.length c5,i64 o.p.N,i64 o.p.I,zS a7 o.p.L.length c8,zS a10 o.p.E.length c11]]) call36 rfl (vO o7 l1 h3 h6 h9 k4) ?_
 rintro _ w29 ⟨m,n,b1,g,k,a8,rfl,o8,o9,p0⟩
 refine fQ (vs:=[zS none 0 0,zS none 0 0]) zeroValue84 p0 rfl (fun c9 w32 p1=>(kL (i:=0) (ns:=[zS m b.leave.length n,zS g b.stay.length k]) (us:=[zS m b.leave.length n,zS g b.stay.length k]) sizeOf84 p1 rfl rfl rfl rfl rfl (nI rfl) rfl rfl (fun p2 (p3:aD G K (box c9 84 [zS m b.leave.length n,zS g b.stay.length k]::aH 113 K m n (aP b1 b.leave)::rows [4] b1 b.leave::aH 113 K g k (aP a8 b.stay)::rows [4] a8 b.stay::box e 32 c::box d1 56 d0::L) p2)=>(aU (bB (aY [1,2,4] (fun f w=>∃ b0 c0 b7 b8,pB o b b0=some R/\f 5=zP (some ⟨c0,0,none⟩)/\aD G K (aH 2 K b7 b8 b0::box c0 100 [zS b7 b0.length b8,i64 o.p.I]::box c9 84 [zS m b.leave.length n,zS g b.stay.length k]::aH 113 K m n (aP b1 b.leave)::rows [4] b1 b.leave::aH 113 K g k (aP a8 b.stay)::rows [4] a8 b.stay::box e 32 c::box d1 56 d0::L) w) ?_ ?_))))))
 ·rintro f g7 ⟨b0,c0,b7,b8,hm,p4,l2⟩
  unfold pB at hm
  refine aC (bC (aT (v:=Value.func (.func 50) #[] #[]) (aU (bC (aM (vK (us:=[zS b7 b0.length b8,i64 o.p.I]) aJx l2 (i:=1) rfl p4 rfl rfl) (aR (v:=Value.func (.func 50) #[] #[]) (aM (fF (vs:=[zP (some ⟨c9,0,none⟩),zP (some ⟨d1,0,none⟩)]) rfl) ?_)))))));obtain ⟨p5,a9,p6,i0⟩:=aD.giveSp l2 (Hp.le_refl _) .head
  replace i0:aD G p5 (box c0 100 [zS b7 b0.length b8,i64 o.p.I]::box c9 84 [zS m b.leave.length n,zS g b.stay.length k]::aH 113 K m n (aP b1 b.leave)::rows [4] b1 b.leave::aH 113 K g k (aP a8 b.stay)::rows [4] a8 b.stay::box e 32 c::box d1 56 d0::L) g7:=i0
  obtain ⟨p7,a0,l3,_,i1,_⟩:=aD.lendD' (i:=2) i0 o8 rfl rfl
  replace i1:aD G p7 (box c0 100 [zS b7 b0.length b8,i64 o.p.I]::box c9 84 [zS m b.leave.length n,zS g b.stay.length k]::aH 113 K g k (aP a8 b.stay)::rows [4] a8 b.stay::box e 32 c::box d1 56 d0::L) g7:=i1
  obtain ⟨p8,x,l4,_,i2,_⟩:=aD.lendD' (i:=2) i1 o9 rfl rfl
  replace i2:aD G p8 (box c0 100 [zS b7 b0.length b8,i64 o.p.I]::box c9 84 [zS m b.leave.length n,zS g b.stay.length k]::box e 32 c::box d1 56 d0::L) g7:=i2
  obtain ⟨p9,l,l5,i3,_⟩:=aD.lendBp i2 (.tail .head)
  replace i3:aD G p9 (box c0 100 [zS b7 b0.length b8,i64 o.p.I]::box e 32 c::box d1 56 d0::L) g7:=i3
  obtain ⟨q0,d,h2,i4,_⟩:=aD.lendBp i3 (.tail (.tail .head))
  replace i4:aD G q0 (box c0 100 [zS b7 b0.length b8,i64 o.p.I]::box e 32 c::L) g7:=i4
  obtain ⟨a,q1,hm⟩:=aB hm
  refine bO (vs:=[zA #[zS b7 b0.length b8,i64 o.p.I],Value.func (.func 50) #[] #[],Value.func (.func 54) #[] #[cD (some ⟨c9,0,none⟩) 0,cD (some ⟨d1,0,none⟩) 0]]) call53 rfl (tK (first:=⟨b0,o.p.I⟩) q1 i4 hG (p6.mono (zL (zL (zL a0 x) l) d)) (l5.mono d) (l3.mono (zL (zL x l) d)) (l4.mono (zL l d)) h2 (h3.mono (zL (zL (zL (zL a9 a0) x) l) d)) (h6.mono (zL (zL (zL (zL a9 a0) x) l) d)) (h9.mono (zL (zL (zL (zL a9 a0) x) l) d)) (k4.mono (zL (zL (zL (zL a9 a0) x) l) d))) ?_
  rintro _ w73 ⟨z,b2,b3,b4,b5,c1,c3,rfl,J,q2⟩
  refine aR (v:=Value.tuple #[zA (zCa a.1 b2 b3 b4 b5),zS c1 a.2.1.length c3,zB a.2.2]) (aM (eC rfl rfl) (aM (eC rfl rfl) (aM (eC rfl rfl) (fQ (vs:=zG) zeroValue27 q2 rfl (fun g8 w76 q3=>(kL (i:=0) (ns:=(zC a.1 b2 b3 b4 b5)) (us:=(zC a.1 b2 b3 b4 b5)) sizeOf27 q3 rfl rfl rfl rfl rfl (nI rfl) rfl rfl (fun q4 (l6:aD G z (box g8 27 (zC a.1 b2 b3 b4 b5)::aH 9 K b2 b3 a.1.L::aH 52 K b4 b5 a.1.E::aH 100 z c1 c3 a.2.1::box c0 100 [zS b7 b0.length b8,i64 o.p.I]::box e 32 c::L) q4)=>(aT (v:=zS c1 a.2.1.length c3) (aT (v:=zB a.2.2) (aU (bB (bC (aR (v:=zB a.2.2) (aM (aMs rfl) (aU ?_)))))))))))))))
  rcases aG hm with ⟨i5,hm⟩|⟨i5,hm⟩
  ·refine bP i5 rfl (bC (aM (cK (vs:=[]) (cs:=c) aJY rfl (by kernel_rfl)) (kL (i:=5) (ns:=c) (us:=c) sizeOf32 l6 rfl rfl rfl rfl rfl (nI rfl) rfl rfl (fun q5 (q6:aD G z (box g8 27 (zC a.1 b2 b3 b4 b5)::aH 9 K b2 b3 a.1.L::aH 52 K b4 b5 a.1.E::aH 100 z c1 c3 a.2.1::box c0 100 [zS b7 b0.length b8,i64 o.p.I]::box e 32 c::L) q5)=>(aT (v:=zB false) (aU ?_))))))
   have q7:=aD.nil (α:=aJ) q6 9 K
   have q8:=aD.nil (α:=Edge) q7 52 K
   have l7:=aD.nil (α:=Int) q8 2 K
   obtain rfl:=zI hm
   exact jJ (bE (aDt results18 (pR (vs:=c) rfl aFf l7 (i:=8) rfl rfl rfl) (aBX rfl rfl) ⟨none,0,none,0,none,0,rfl,(aD.weakK (aD.arr 9 [2,1,0] l7 rfl) (zL (zL (zL (zL (zL a9 a0) x) l) d) J))⟩))
  ·refine bT i5 rfl (cN (aC (bB (aY [2,4,8] (fun f w=>∃ c4 c6 V Z e0 a2 a3 a5 a6,pA b a c4 c6 V Z=some R/\f 10=zP (some ⟨e0,0,none⟩)/\aD G z (aH 52 K a5 a6 Z::aH 9 K a2 a3 V::box e0 32 [i64 c4,i64 c6,zS a2 V.length a3,zS a5 Z.length a6,zS none 0 0]::aH 100 z c1 c3 a.2.1::box e 32 c::L) w) ?_ ?_))))
   ·rintro f w97 ⟨c4,c6,V,Z,e0,a2,a3,a5,a6,hm,i6,r0⟩
    unfold pA at hm
    refine aC (bB (bC (aR (v:=zS c1 a.2.1.length c3) (aM (gU (len:=a.2.1.length) aKR rfl) (aR (v:=i64 0) (aU (aK [2,10] (fun f w=>∃ d2 d3 d4,vM c4 c6 V Z d2=some R/\aD G z (aH 2 K d3 d4 d2::aH 52 K a5 a6 Z::aH 9 K a2 a3 V::box e0 32 [i64 c4,i64 c6,zS a2 V.length a3,zS a5 Z.length a6,zS d3 d2.length d4]::box e 32 c::L) w) ?_ ?_)))))))
    ·rintro f a22 ⟨d2,d3,d4,hm,l8⟩
     unfold vM at hm
     refine aC (bC (aM (vK (us:=[i64 c4,i64 c6,zS a2 V.length a3,zS a5 Z.length a6,zS d3 d2.length d4]) aFf l8 (i:=3) rfl i6 rfl rfl) (kL (i:=4) (ns:=[i64 c4,i64 c6,zS a2 V.length a3,zS a5 Z.length a6,zS d3 d2.length d4]) (us:=[i64 c4,i64 c6,zS a2 V.length a3,zS a5 Z.length a6,zS d3 d2.length d4]) sizeOf32 l8 rfl rfl rfl rfl rfl (nI rfl) rfl rfl (fun r1 (l9:aD G z (aH 2 K d3 d4 d2::aH 52 K a5 a6 Z::aH 9 K a2 a3 V::box e0 32 [i64 c4,i64 c6,zS a2 V.length a3,zS a5 Z.length a6,zS d3 d2.length d4]::box e 32 [i64 c4,i64 c6,zS a2 V.length a3,zS a5 Z.length a6,zS d3 d2.length d4]::L) r1)=>(aT (v:=zB true) (aU ?_))))))
     obtain rfl:=zI hm
     exact jJ (aDt results18 (pR (vs:=[i64 c4,i64 c6,zS a2 V.length a3,zS a5 Z.length a6,zS d3 d2.length d4]) rfl aFf l9 (i:=4) rfl rfl rfl) (aBX rfl rfl) ⟨a2,a3,a5,a6,d3,d4,rfl,(aD.weakK (aD.arr 5 [2,1,0] l9 rfl) (zL (zL (zL (zL (zL a9 a0) x) l) d) J))⟩)
    have a23:=aD.nil (α:=Int) r0 2 K
    obtain ⟨a24,r3,ho⟩:=aB hm
    refine bV [2,4,10,46,47] r3 (fun e1 m0 f w=>∃ e2 e3,f 48=i64 m0/\aD G z (aH 2 K e2 e3 e1::aH 52 K a5 a6 Z::aH 9 K a2 a3 V::box e0 32 [i64 c4,i64 c6,zS a2 V.length a3,zS a5 Z.length a6,zS e2 e1.length e3]::aH 100 z c1 c3 a.2.1::box e 32 c::L) w) aI ?_
    ·rintro e1 m0 a26 f a27 hm hr ⟨e2,e3,m1,i7⟩
     unfold jB at hm
     refine bC (aM (pD m1 rfl) (aU (bB ?_)))
     rcases aG hm with ⟨m2,hm⟩|⟨m2,hm⟩
     ·refine bP m2 rfl (cN (aC (bB (cA (bC ?_)))));obtain ⟨d5,i8,hm⟩:=aB hm
      have r4:=bS i7 (i:=4) rfl i8
      refine aM (cS aKR rfl r4 rfl rfl m1 i8) ?_;obtain ⟨a28,r5,r6⟩:=aJr (sz:=2) rfl i7 (i:=4) rfl i8
      obtain ⟨g9,h0,rfl,r7⟩:=r6
      refine aM (aMz (t:=0) (vs:=[zS g9 d5.states.length h0,i64 d5.y]) aJx r5 rfl rfl rfl) (fQ (vs:=[zS none 0 0,i64 0]) zeroValue100 i7 rfl (fun r8 a29 r9=>(kL (i:=0) (ns:=[zS g9 d5.states.length h0,i64 d5.y]) (us:=[zS g9 d5.states.length h0,i64 d5.y]) sizeOf100 r9 rfl rfl rfl rfl rfl (nI rfl) rfl rfl (fun s0 (s1:aD G z (box r8 100 [zS g9 d5.states.length h0,i64 d5.y]::aH 2 K e2 e3 e1::aH 52 K a5 a6 Z::aH 9 K a2 a3 V::box e0 32 [i64 c4,i64 c6,zS a2 V.length a3,zS a5 Z.length a6,zS e2 e1.length e3]::aH 100 z c1 c3 a.2.1::box e 32 c::L) s0)=>(aU ?_)))))
      obtain ⟨a30,e4,m3,s2,a31⟩:=aD.lendBp s1 .head
      obtain ⟨i9,d9,s3,m4,s4⟩:=aD.lendBp s2 (.tail (.tail (.tail .head)))
      refine aIB (C:=fun w'=>∃ L',aD G i9 L' w') [(0,0),(1,0),(2,0),(3,0),(4,0),(5,0),(6,0),(7,1),(8,1),(9,1),(10,0),(11,2)] Tryz_mixed (by kernel_rfl) (fun _ hg=>⟨_,aD.mono m4 hg⟩) (fun a32 s5=>?_)
      have d6:=aD.mono m4 s5
      refine cI rfl (fun _ _=>dF (t':=4) aIG i6 rfl) (cI rfl (fun _ ⟨_,d6⟩=>bU (t:=4) aDi d6 s3 rfl rfl) (cI rfl (fun _ ⟨_,d6⟩=>nA (t:=0) (vs:=[zS m b.leave.length n,zS g b.stay.length k]) ag_84 d6 (l5.mono (zL (zL (zL d J) e4) d9)) (mQ rfl) rfl rfl) (cI rfl (fun _ _=>dF (t':=0) aQv rfl rfl) (cI rfl (fun _ ⟨_,d6⟩=>bU (t:=0) aDi d6 (m3.mono d9) rfl rfl) (cI rfl (fun _ _=>dF (t':=1) aMG rfl rfl) (cI rfl (fun _ ⟨_,d6⟩=>bU (t:=1) lD d6 (m3.mono d9) rfl rfl) (eQ rfl ?_)))))))
      obtain ⟨h4,s6,hm⟩:=aB hm
      refine bO (vs:=[zA #[zS m b.leave.length n,zS g b.stay.length k],zS g9 d5.states.length h0,i64 d5.y]) call37 rfl (rA s6 d6 (l3.mono (zL (zL (zL (zL (zL x l) d) J) e4) d9)) (l4.mono (zL (zL (zL (zL l d) J) e4) d9)) (r7.mono (zL e4 d9))) ?_
      rintro _ a33 ⟨rfl,m5⟩
      refine aL (aC ⟨⟨_,m5⟩,?_⟩)
      refine eQ rfl (eR (Kt:=K) (xs:=([h4]:List Int)) (cs:=[i64 h4]) (vs:=[(0,i64 h4)]) iX aEW rfl rfl m5 rfl (by kernel_rfl) rfl rfl rfl ⟨rfl,trivial⟩ (fun s7 s8 (m6:aD G i9 (aH 2 K s7 1 ([h4]:List Int)::aH 2 K e2 e3 e1::aH 52 K a5 a6 Z::aH 9 K a2 a3 V::aH 100 z c1 c3 a.2.1::box e 32 c::L) s8)=>(aL (aC ⟨⟨_,m6⟩,?_⟩))))
      refine eQ rfl ?_;obtain ⟨s9,t0,hm⟩:=aB hm
      refine rR (i:=0) iX underlying30 aEW rfl rfl m6 rfl (zL (zL (zL (zL (zL (zL (zL a9 a0) x) l) d) J) e4) d9) (zL (zL (zL (zL (zL (zL (zL a9 a0) x) l) d) J) e4) d9) t0 rfl rfl rfl rfl (fun _ h=>h) (fun t1 t2 t3 (m7:aD G i9 (aH 2 K t1 t2 s9::aH 52 K a5 a6 Z::aH 9 K a2 a3 V::aH 100 z c1 c3 a.2.1::box e 32 c::L) t3)=>(aL (aC ⟨⟨_,m7⟩,?_⟩)))
      refine cI rfl (fun _ _=>dF (t':=4) aIG i6 rfl) ?_
      have a34:=s4 _ _ m7
      exact aI
     ·exact aI
   obtain ⟨t4,c7,m8,t5,j0⟩:=aD.lendBp l6 .head
   refine oD (C:=fun w'=>∃ L',aD G t4 L' w') [10] Tryz_mixed (by kernel_rfl) (fun a35 t6=>?_)
   have b9:=aD.mono t5 t6
   refine gD (i:=0) rfl (by kernel_rfl) ⟨_,b9⟩ (fun _ _=>dF (t':=0) aAk rfl rfl) (gD (i:=1) rfl (by kernel_rfl) ⟨_,b9⟩ (fun _ ⟨_,b9⟩=>bU (t:=0) lD b9 m8 rfl rfl) (gD (i:=2) rfl (by kernel_rfl) ⟨_,b9⟩ (fun _ _=>gE (k':=0+0) aIE (mQ rfl) (h2.mono (zL J c7)) rfl) (gD (i:=3) rfl (by kernel_rfl) ⟨_,b9⟩ (fun _ _=>gE (k':=0+2) vU rfl (h2.mono (zL J c7)) rfl) (gD (i:=4) rfl (by kernel_rfl) ⟨_,b9⟩ (fun _ ⟨_,b9⟩=>bU (t:=2) uC b9 (h2.mono (zL J c7)) rfl rfl) (gD (i:=5) rfl (by kernel_rfl) ⟨_,b9⟩ (fun _ ⟨_,b9⟩=>nA (t:=0) (vs:=(zC a.1 b2 b3 b4 b5)) mS b9 m8 rfl rfl rfl) (mR (i:=6) (j:=9) (by kernel_rfl) rfl rfl ?_ ?_))))))
   ·obtain ⟨a36,t7,t8,t9,u0⟩:=aD.lendSp b9 (zL (zL (zL (zL (zL (zL a9 a0) x) l) d) J) c7) .head
    obtain ⟨a37,u1,u2,u3,u4⟩:=aD.lendSp t9 (zL (zL (zL (zL (zL (zL (zL a9 a0) x) l) d) J) c7) t7) .head
    obtain ⟨h5,u5,hm⟩:=aB hm
    refine bO (vs:=[zA (zCa a.1 b2 b3 b4 b5)]) call57 rfl (aAr u5 u3 (t8.mono u1) u2) ?_
    rintro _ a39 ⟨h7,h8,rfl,u6⟩
    have u7:=u4 _ _ u6
    have j1:=u0 _ _ u7
    refine aL (aC ⟨fun _=>⟨_,j1⟩,?_⟩)
    refine mR (i:=7) (j:=9) (by kernel_rfl) rfl rfl ?_ ?_
    ·obtain ⟨a40,u8,u9,v0,v1⟩:=aD.lendSp j1 (zL (zL (zL (zL (zL (zL a9 a0) x) l) d) J) c7) (.tail (.tail .head))
     obtain ⟨q,v2,hm⟩:=aB hm
     refine bO (vs:=[i64 a.1.N,i64 0,zS a1 o.t.L.length c2,zS h7 h5.length h8]) call56 rfl (jO v2 v0 (h3.mono (zL (zL (zL (zL (zL (zL (zL a9 a0) x) l) d) J) c7) u8)) u9) ?_
     rintro _ a41 ⟨e5,e6,e7,e8,rfl,v3⟩
     have j2:=v1 _ _ v3
     refine aL (aC ⟨fun _=>⟨_,j2⟩,?_⟩)
     refine gD (i:=8) rfl (by kernel_rfl) ⟨_,j2⟩ (fun _ _=>cK (vs:=[(0,zA (zCa q e5 e6 e7 e8))]) (cs:=[i64 q.N,i64 q.I,zS e5 q.L.length e6,zS e7 q.E.length e8,zS none 0 0]) aJY rfl (by kernel_rfl)) (aQ (i:=9) (by kernel_rfl) rfl (fQ (vs:=c) zeroValue32 j2 rfl (fun v4 a42 m9=>(aL (aC ⟨fun _=>⟨_,m9⟩,?_⟩)))))
     refine aQ (i:=10) (by kernel_rfl) rfl ?_
     have v5:=j0 _ _ m9
     refine kL (i:=1) (ns:=[i64 q.N,i64 q.I,zS e5 q.L.length e6,zS e7 q.E.length e8,zS none 0 0]) (us:=[i64 q.N,i64 q.I,zS e5 q.L.length e6,zS e7 q.E.length e8,zS none 0 0]) sizeOf32 v5 rfl rfl rfl rfl rfl (nI rfl) rfl rfl (fun v6 (a43:aD G z (box g8 27 (zC a.1 b2 b3 b4 b5)::box v4 32 [i64 q.N,i64 q.I,zS e5 q.L.length e6,zS e7 q.E.length e8,zS none 0 0]::aH 154 K h7 h8 h5::aH 9 K e5 e6 q.L::aH 52 K e7 e8 q.E::aH 9 K b2 b3 a.1.L::aH 52 K b4 b5 a.1.E::aH 100 z c1 c3 a.2.1::box c0 100 [zS b7 b0.length b8,i64 o.p.I]::box e 32 c::L) v6)=>(aL (aC ⟨aJs rfl,?_⟩)))
     exact eX (by kernel_rfl) aI
    ·refine fQ (vs:=c) zeroValue32 j1 rfl (fun v7 a44 n0=>(aL (aC ⟨fun _=>⟨_,n0⟩,?_⟩)))
     refine aQ (i:=7) (by kernel_rfl) rfl ?_;obtain ⟨a45,v8,v9,w0,w1⟩:=aD.lendSp n0 (zL (zL (zL (zL (zL (zL a9 a0) x) l) d) J) c7) (.tail (.tail (.tail .head)))
     obtain ⟨r,w2,hm⟩:=aB hm
     refine bO (vs:=[i64 a.1.N,i64 0,zS a1 o.t.L.length c2,zS h7 h5.length h8]) call56 rfl (jO w2 w0 (h3.mono (zL (zL (zL (zL (zL (zL (zL a9 a0) x) l) d) J) c7) v8)) v9) ?_
     rintro _ a46 ⟨e9,f0,f1,f2,rfl,w3⟩
     have j3:=w1 _ _ w3
     refine aL (aC ⟨fun _=>⟨_,j3⟩,?_⟩)
     refine gD (i:=8) rfl (by kernel_rfl) ⟨_,j3⟩ (fun _ _=>cK (vs:=[(0,zA (zCa r e9 f0 f1 f2))]) (cs:=[i64 r.N,i64 r.I,zS e9 r.L.length f0,zS f1 r.E.length f2,zS none 0 0]) aJY rfl (by kernel_rfl)) (aQ (i:=10) (by kernel_rfl) rfl ?_)
     have w4:=j0 _ _ j3
     refine kL (i:=4) (ns:=[i64 r.N,i64 r.I,zS e9 r.L.length f0,zS f1 r.E.length f2,zS none 0 0]) (us:=[i64 r.N,i64 r.I,zS e9 r.L.length f0,zS f1 r.E.length f2,zS none 0 0]) sizeOf32 w4 rfl rfl rfl rfl rfl (nI rfl) rfl rfl (fun w5 (a47:aD G z (box g8 27 (zC a.1 b2 b3 b4 b5)::aH 154 K h7 h8 h5::aH 9 K e9 f0 r.L::aH 52 K f1 f2 r.E::box v7 32 [i64 r.N,i64 r.I,zS e9 r.L.length f0,zS f1 r.E.length f2,zS none 0 0]::aH 9 K b2 b3 a.1.L::aH 52 K b4 b5 a.1.E::aH 100 z c1 c3 a.2.1::box c0 100 [zS b7 b0.length b8,i64 o.p.I]::box e 32 c::L) w5)=>(aL (aC ⟨aJs rfl,?_⟩)))
     exact eX (by kernel_rfl) aI
   ·refine fQ (vs:=c) zeroValue32 b9 rfl (fun w6 a48 n1=>(aL (aC ⟨fun _=>⟨_,n1⟩,?_⟩)))
    refine aQ (i:=6) (by kernel_rfl) rfl ?_;obtain ⟨a49,w7,w8,w9,x0⟩:=aD.lendSp n1 (zL (zL (zL (zL (zL (zL a9 a0) x) l) d) J) c7) (.tail .head)
    obtain ⟨a50,x1,x2,x3,x4⟩:=aD.lendSp w9 (zL (zL (zL (zL (zL (zL (zL a9 a0) x) l) d) J) c7) w7) (.tail .head)
    obtain ⟨n2,x5,hm⟩:=aB hm
    refine bO (vs:=[zA (zCa a.1 b2 b3 b4 b5)]) call57 rfl (aAr x5 x3 (w8.mono x1) x2) ?_
    rintro _ a51 ⟨n3,n4,rfl,x6⟩
    have x7:=x4 _ _ x6
    have n5:=x0 _ _ x7
    refine aL (aC ⟨fun _=>⟨_,n5⟩,?_⟩)
    refine aQ (i:=7) (by kernel_rfl) rfl ?_;obtain ⟨a52,x8,x9,y0,y1⟩:=aD.lendSp n5 (zL (zL (zL (zL (zL (zL a9 a0) x) l) d) J) c7) (.tail (.tail .head))
    obtain ⟨u,y2,hm⟩:=aB hm
    refine bO (vs:=[i64 a.1.N,i64 0,zS a1 o.t.L.length c2,zS n3 n2.length n4]) call56 rfl (jO y2 y0 (h3.mono (zL (zL (zL (zL (zL (zL (zL a9 a0) x) l) d) J) c7) x8)) x9) ?_
    rintro _ a53 ⟨f3,f4,f5,f6,rfl,y3⟩
    have j4:=y1 _ _ y3
    refine aL (aC ⟨fun _=>⟨_,j4⟩,?_⟩)
    refine gD (i:=8) rfl (by kernel_rfl) ⟨_,j4⟩ (fun _ _=>cK (vs:=[(0,zA (zCa u f3 f4 f5 f6))]) (cs:=[i64 u.N,i64 u.I,zS f3 u.L.length f4,zS f5 u.E.length f6,zS none 0 0]) aJY rfl (by kernel_rfl)) (aQ (i:=10) (by kernel_rfl) rfl ?_)
    have y4:=j0 _ _ j4
    refine kL (i:=6) (ns:=[i64 u.N,i64 u.I,zS f3 u.L.length f4,zS f5 u.E.length f6,zS none 0 0]) (us:=[i64 u.N,i64 u.I,zS f3 u.L.length f4,zS f5 u.E.length f6,zS none 0 0]) sizeOf32 y4 rfl rfl rfl rfl rfl (nI rfl) rfl rfl (fun y5 (a54:aD G z (box g8 27 (zC a.1 b2 b3 b4 b5)::aH 154 K n3 n4 n2::aH 9 K f3 f4 u.L::aH 52 K f5 f6 u.E::aH 9 K b2 b3 a.1.L::aH 52 K b4 b5 a.1.E::box w6 32 [i64 u.N,i64 u.I,zS f3 u.L.length f4,zS f5 u.E.length f6,zS none 0 0]::aH 100 z c1 c3 a.2.1::box c0 100 [zS b7 b0.length b8,i64 o.p.I]::box e 32 c::L) y5)=>(aL (aC ⟨aJs rfl,?_⟩)))
    exact eX (by kernel_rfl) aI
 obtain ⟨j5,d7,j6,y6,j7⟩:=aD.lendBp p3 (.tail (.tail (.tail (.tail (.tail (.tail .head))))))
 refine oD (C:=fun w'=>∃ L',aD G j5 L' w') [12] Tryz_mixed (by kernel_rfl) (fun a55 y7=>?_)
 have b6:=aD.mono y6 y7
 refine gD (i:=0) rfl (by kernel_rfl) ⟨_,b6⟩ (fun _ _=>dF (t':=0) aIE rfl rfl) (gD (i:=1) rfl (by kernel_rfl) ⟨_,b6⟩ (fun _ ⟨_,b6⟩=>nA (t:=0) (vs:=(zC o.t a1 c2 a4 c5)) mS b6 j6 rfl rfl rfl) (gD (i:=2) rfl (by kernel_rfl) ⟨_,b6⟩ (fun _ _=>dF (t':=0) aIE rfl rfl) (gD (i:=3) rfl (by kernel_rfl) ⟨_,b6⟩ (fun _ _=>dF (t':=1) aGG rfl rfl) (gD (i:=4) rfl (by kernel_rfl) ⟨_,b6⟩ (fun _ ⟨_,b6⟩=>bU (t:=1) lD b6 j6 rfl rfl) (gD (i:=7) rfl (by kernel_rfl) ⟨_,b6⟩ (fun _ _=>dF (t':=4) aIF rfl rfl) (gD (i:=8) rfl (by kernel_rfl) ⟨_,b6⟩ (fun _ _=>dF (t':=5) aGG rfl rfl) (gD (i:=9) rfl (by kernel_rfl) ⟨_,b6⟩ (fun _ ⟨_,b6⟩=>bU (t:=5) lD b6 j6 rfl rfl) (mR (i:=5) (j:=11) (by kernel_rfl) rfl rfl ?_ ?_))))))))
 ·refine eR (Kt:=K) (xs:=([o.t.I]:List Int)) (cs:=[i64 o.t.I]) (vs:=[(0,i64 o.t.I)]) iX aEW rfl rfl b6 rfl (by kernel_rfl) rfl rfl rfl ⟨rfl,trivial⟩ (fun h1 y8 (j8:aD G j5 (aH 2 K h1 1 ([o.t.I]:List Int)::box c9 84 [zS m b.leave.length n,zS g b.stay.length k]::aH 113 K m n (aP b1 b.leave)::rows [4] b1 b.leave::aH 113 K g k (aP a8 b.stay)::rows [4] a8 b.stay::box e 32 c::L) y8)=>(aL (aC ⟨fun _=>⟨_,j8⟩,?_⟩)))
  refine mR (i:=6) (j:=11) (by kernel_rfl) rfl rfl ?_ ?_
  ·obtain ⟨a56,n6,y9,z0,z1⟩:=aD.lendSp j8 d7 .head
   obtain ⟨f7,z2,hm⟩:=aB hm
   refine bO (vs:=[zA (zCa o.t a1 c2 a4 c5),zS h1 ([o.t.I]:List Int).length 1]) call49 rfl (lC z2 z0 (h3.mono (zL d7 n6)) (h6.mono (zL d7 n6)) y9) ?_
   rintro _ a57 ⟨f8,f9,rfl,z3⟩
   have j9:=z1 _ _ z3
   refine aL (aC ⟨fun _=>⟨_,j9⟩,?_⟩)
   refine gD (i:=10) rfl (by kernel_rfl) ⟨_,j9⟩ (fun _ _=>cK (vs:=[(0,zS f8 f7.length f9),(1,i64 o.p.I)]) (cs:=[zS f8 f7.length f9,i64 o.p.I]) aMH rfl (by kernel_rfl)) (aQ (i:=11) (by kernel_rfl) rfl (fQ (vs:=[zS none 0 0,i64 0]) zeroValue100 j9 rfl (fun z4 a58 n7=>(aL (aC ⟨fun _=>⟨_,n7⟩,?_⟩)))))
   refine aQ (i:=12) (by kernel_rfl) rfl ?_
   have z5:=j7 _ _ n7
   refine kL (i:=1) (ns:=[zS f8 f7.length f9,i64 o.p.I]) (us:=[zS f8 f7.length f9,i64 o.p.I]) sizeOf100 z5 rfl rfl rfl rfl rfl (nI rfl) rfl rfl (fun z6 (a59:aD G K (box d1 56 d0::box z4 100 [zS f8 f7.length f9,i64 o.p.I]::aH 2 K h1 1 ([o.t.I]:List Int)::aH 2 K f8 f9 f7::box c9 84 [zS m b.leave.length n,zS g b.stay.length k]::aH 113 K m n (aP b1 b.leave)::rows [4] b1 b.leave::aH 113 K g k (aP a8 b.stay)::rows [4] a8 b.stay::box e 32 c::L) z6)=>(aL (aC ⟨aJs rfl,?_⟩)))
   exact eX (by kernel_rfl) aI
  ·refine fQ (vs:=[zS none 0 0,i64 0]) zeroValue100 j8 rfl (fun z7 a60 n8=>(aL (aC ⟨fun _=>⟨_,n8⟩,?_⟩)))
   refine aQ (i:=6) (by kernel_rfl) rfl ?_;obtain ⟨a61,n9,z8,z9,a00⟩:=aD.lendSp n8 d7 (.tail .head)
   obtain ⟨g0,a01,hm⟩:=aB hm
   refine bO (vs:=[zA (zCa o.t a1 c2 a4 c5),zS h1 ([o.t.I]:List Int).length 1]) call49 rfl (lC a01 z9 (h3.mono (zL d7 n9)) (h6.mono (zL d7 n9)) z8) ?_
   rintro _ a62 ⟨g1,g2,rfl,a02⟩
   have k0:=a00 _ _ a02
   refine aL (aC ⟨fun _=>⟨_,k0⟩,?_⟩)
   refine gD (i:=10) rfl (by kernel_rfl) ⟨_,k0⟩ (fun _ _=>cK (vs:=[(0,zS g1 g0.length g2),(1,i64 o.p.I)]) (cs:=[zS g1 g0.length g2,i64 o.p.I]) aMH rfl (by kernel_rfl)) (aQ (i:=12) (by kernel_rfl) rfl ?_)
   have a03:=j7 _ _ k0
   refine kL (i:=3) (ns:=[zS g1 g0.length g2,i64 o.p.I]) (us:=[zS g1 g0.length g2,i64 o.p.I]) sizeOf100 a03 rfl rfl rfl rfl rfl (nI rfl) rfl rfl (fun a04 (a63:aD G K (box d1 56 d0::aH 2 K h1 1 ([o.t.I]:List Int)::aH 2 K g1 g2 g0::box z7 100 [zS g1 g0.length g2,i64 o.p.I]::box c9 84 [zS m b.leave.length n,zS g b.stay.length k]::aH 113 K m n (aP b1 b.leave)::rows [4] b1 b.leave::aH 113 K g k (aP a8 b.stay)::rows [4] a8 b.stay::box e 32 c::L) a04)=>(aL (aC ⟨aJs rfl,?_⟩)))
   exact eX (by kernel_rfl) aI
 ·refine fQ (vs:=[zS none 0 0,i64 0]) zeroValue100 b6 rfl (fun o0 a64 o1=>(aL (aC ⟨fun _=>⟨_,o1⟩,?_⟩)))
  refine aQ (i:=5) (by kernel_rfl) rfl (eR (Kt:=K) (xs:=([o.t.I]:List Int)) (cs:=[i64 o.t.I]) (vs:=[(0,i64 o.t.I)]) iX aEW rfl rfl o1 rfl (by kernel_rfl) rfl rfl rfl ⟨rfl,trivial⟩ (fun k1 a05 (o2:aD G j5 (aH 2 K k1 1 ([o.t.I]:List Int)::box o0 100 [zS none 0 0,i64 0]::box c9 84 [zS m b.leave.length n,zS g b.stay.length k]::aH 113 K m n (aP b1 b.leave)::rows [4] b1 b.leave::aH 113 K g k (aP a8 b.stay)::rows [4] a8 b.stay::box e 32 c::L) a05)=>(aL (aC ⟨fun _=>⟨_,o2⟩,?_⟩))))
  refine aQ (i:=6) (by kernel_rfl) rfl ?_;obtain ⟨a65,o3,a06,a07,a08⟩:=aD.lendSp o2 d7 .head
  obtain ⟨g3,a09,hm⟩:=aB hm
  refine bO (vs:=[zA (zCa o.t a1 c2 a4 c5),zS k1 ([o.t.I]:List Int).length 1]) call49 rfl (lC a09 a07 (h3.mono (zL d7 o3)) (h6.mono (zL d7 o3)) a06) ?_
  rintro _ a66 ⟨g4,g5,rfl,a11⟩
  have k2:=a08 _ _ a11
  refine aL (aC ⟨fun _=>⟨_,k2⟩,?_⟩)
  refine gD (i:=10) rfl (by kernel_rfl) ⟨_,k2⟩ (fun _ _=>cK (vs:=[(0,zS g4 g3.length g5),(1,i64 o.p.I)]) (cs:=[zS g4 g3.length g5,i64 o.p.I]) aMH rfl (by kernel_rfl)) (aQ (i:=12) (by kernel_rfl) rfl ?_)
  have a12:=j7 _ _ k2
  refine kL (i:=3) (ns:=[zS g4 g3.length g5,i64 o.p.I]) (us:=[zS g4 g3.length g5,i64 o.p.I]) sizeOf100 a12 rfl rfl rfl rfl rfl (nI rfl) rfl rfl (fun a13 (a68:aD G K (box d1 56 d0::aH 2 K k1 1 ([o.t.I]:List Int)::aH 2 K g4 g5 g3::box o0 100 [zS g4 g3.length g5,i64 o.p.I]::box c9 84 [zS m b.leave.length n,zS g b.stay.length k]::aH 113 K m n (aP b1 b.leave)::rows [4] b1 b.leave::aH 113 K g k (aP a8 b.stay)::rows [4] a8 b.stay::box e 32 c::L) a13)=>(aL (aC ⟨aJs rfl,?_⟩)))
  exact eX (by kernel_rfl) aI
theorem aEH {t p:aS} {R:(aZ × Int)} (hm:vD t p=some R) (hs:aD G K (L) w) (c:G.lo=0) (d:aW K a1 c2 t.L) (e:aW K a4 c5 t.E) (g:aW K a7 c8 p.L) (h:aW K a10 c11 p.E):
  Calls Tryz.prog 6 ([zA (zCa t a1 c2 a4 c5),zA (zCa p a7 c8 a10 c11)]:List Value).toArray w (dS fun v w'=>∃ j k l m n q,v=Value.tuple #[zA #[i64 R.1.S.N,i64 R.1.S.I,zS j R.1.S.L.length k,zS l R.1.S.E.length m,zS n R.1.Verdicts.length q],i64 R.2]/\aD G K (aH 9 K j k R.1.S.L::aH 52 K l m R.1.S.E::aH 2 K n q R.1.Verdicts::L) w'):=by
 let b:=[i64 0,i64 0,zS none 0 0,zS none 0 0,zS none 0 0]
 refine cM func6 ?_;unfold vD at hm
 refine aF ?_;refine oE fun b9 c0 c1=>?_
 refine oE fun c3 c4 c6=>?_;refine iN fun c7 c9 V=>?_
 refine aF ?_;obtain ⟨d0,Z,hm⟩:=aB hm
 refine cC call17 (yT Z V c d e g h) ?_
 rintro _ d1 ⟨rfl,a0⟩
 refine aF ?_
 rcases aG hm with ⟨a2,hm⟩|⟨a2,hm⟩
 ·iterate 3 refine cE ?_
  refine aM (cK (vs:=[]) (cs:=b) aJY rfl (by kernel_rfl)) (aF ?_);refine gM fun d2 a3=>?_
  refine aF ?_
  have a5:=aD.nil (α:=aJ) a3 9 K
  have a6:=aD.nil (α:=Edge) a5 52 K
  have a8:=aD.nil (α:=Int) a6 2 K
  obtain rfl:=zI hm
  exact jJ (bE (aDt results6 (pR (vs:=b) rfl aFf a8 (i:=3) rfl rfl rfl) (aBX rfl rfl) ⟨none,0,none,0,none,0,rfl,lY⟩))
 ·iterate 7 refine cE ?_
  refine aM (cK (vs:=[(0,zA (zCa t a1 c2 a4 c5)),(1,zA (zCa p a7 c8 a10 c11))]) (cs:=[i64 t.N,i64 t.I,zS a1 t.L.length c2,zS a4 t.E.length c5,i64 p.N,i64 p.I,zS a7 p.L.length c8,zS a10 p.E.length c11]) bs_56 rfl (by kernel_rfl)) ?_;obtain ⟨a,b0,hm⟩:=aB hm
  refine cC call18 (aAS (o:=⟨t,p⟩) b0 a0 c d e g h) ?_
  rintro _ d3 ⟨r,u,x,y,z,J,rfl,d4⟩
  refine aF ?_;refine iN fun d5 d6 d7=>?_
  refine gM fun d8 d9=>?_;refine aF ?_
  rcases aG hm with ⟨c48,hm⟩|⟨c48,hm⟩
  ·iterate 3 refine cE ?_
   refine aM (cK (vs:=[]) (cs:=b) aJY rfl (by kernel_rfl)) (gM fun e0 b1=>?_);refine aF ?_
   have b2:=aD.nil (α:=aJ) b1 9 K
   have b3:=aD.nil (α:=Edge) b2 52 K
   have b4:=aD.nil (α:=Int) b3 2 K
   obtain rfl:=zI hm
   exact jJ (bE (aDt results6 (pR (vs:=b) rfl aFf b4 (i:=7) rfl rfl rfl) (aBX rfl rfl) ⟨none,0,none,0,none,0,rfl,lY⟩))
  ·refine aF ?_;refine gM fun e1 b6=>?_
   refine aF ?_;obtain rfl:=zI hm
   exact jJ (aDt results6 (pR (vs:=[i64 a.1.S.N,i64 a.1.S.I,zS r a.1.S.L.length u,zS x a.1.S.E.length y,zS z a.1.Verdicts.length J]) rfl aFf b6 (i:=4) rfl rfl rfl) (aBX rfl rfl) ⟨r,u,x,y,z,J,rfl,lY⟩)
theorem aKl {d:aS} {g:Nat} {b:Int} {c:aJ} {R:Int} (hm:aIK d b c=some R) (l:aD G K (L) w) (m:cT K a1 g (zC d a4 c5 a7 c8)) (n:aW K a4 c5 d.L) (o:aW K a7 c8 d.E):
  Calls Tryz.prog 63 ([cD a1 g,i64 b,str c]:List Value).toArray w (dS fun v w'=>v=i64 R/\aD G K (L) w'):=by
 refine cM func63 ?_;unfold aIK at hm
 refine aF ?_;refine aK [] (fun f w=>aMK=some R/\aD G K (L) w) aI ?_
 obtain ⟨p,j,ho⟩:=aB hm
 refine dX [0,1,2] j (fun a f w=>f 7=i64 a/\aD G K (L) w) aI ?_
 ·rintro a h f q hm hr ⟨r,t⟩
  unfold wZ at hm
  iterate 2 refine cE ?_
  refine aY [0,1,2,7] (fun f w=>∃ e,aEv d b c a e=some h/\f 18=zB e/\aD G K (L) w) ?_ ?_
  ·rintro f u ⟨e,hm,x,y⟩
   unfold aEv at hm
   refine aF ?_
   rcases aG hm with ⟨k,hm⟩|⟨k,hm⟩
   ·refine aF ?_;refine cA (aF ?_)
    exact aY [0,1,2,7] (fun f w=>∃ i,aGM d a i=some h/\f 48=zB i/\aD G K (L) w) aI aI
   ·exact aI
  exact aI
theorem aGS {t:aS} {a:Nat} {p:aS} {b:Nat} {e:Edge} {c:Nat} {q R:Int} (hm:aKh t p e q=some R) (d:aD G K (L) w) (g:cT K a1 a (zC t a4 c5 a7 c8)) (h:aW K a4 c5 t.L) (i:aW K a7 c8 t.E) (j:cT K a10 b (zC p a13 c14 a16 c17)) (k:aW K a13 c14 p.L) (l:aW K a16 c17 p.E) (m:cT K a19 c [i64 e.F,i64 e.B,i64 e.To]):
  Calls Tryz.prog 109 ([cD a1 a,cD a10 b,cD a19 c,i64 q]:List Value).toArray w (dS fun v w'=>v=i64 R/\aD G K (L) w'):=by
 exact aI
theorem aHp {t:aS} {k2:Nat} {p:aS} {a6:Nat} {R:(List Bool)} (hm:aEw t p=some R) (hs:aD G K (L) w) (h3:cT K a1 k2 (zC t a4 c5 a7 c8)) (h6:aW K a4 c5 t.L) (h9:aW K a7 c8 t.E) (c4:cT K a10 a6 (zC p a13 c14 a16 c17)) (c6:aW K a13 c14 p.L) (c7:aW K a16 c17 p.E):
  Calls Tryz.prog 58 ([cD a1 k2,cD a10 a6]:List Value).toArray w (dS fun v w'=>∃ a9 b0,v=zS a9 R.length b0/\aD G K (aH 4 K a9 b0 R::L) w'):=by
 refine cM func58 ?_;unfold aEw at hm
 refine aF ?_;refine wI [(0,0),(1,0),(2,0),(3,0),(4,0),(5,0),(6,0),(7,0),(8,0),(9,1),(10,0)] fun g2 c9=>?_
 refine aF ?_;refine eQ rfl ?_
 obtain ⟨a,d0,hm⟩:=aB hm
 refine aLu (e:=(false:Bool)) mF ez_4 rfl rfl c9 rfl rfl rfl d0 rfl (fun b d1 (d2:aD G K (aH 4 K b a.length a::L) d1)=>(aL (aC ⟨⟨_,d2⟩,?_⟩)))
 refine aF ?_;refine yO (aF ?_)
 refine aK [] (fun f w=>∃ u,aFQ u=some R/\f 5=zS b u.length a.length/\aD G K (aH 4 K b a.length u::L) w) aI ?_;obtain ⟨g3,d3,ho⟩:=aB hm
 refine bV [0,1] d3 (fun x b1 f w=>f 5=zS b x.length a.length/\f 6=zB b1/\aD G K (aH 4 K b a.length x::L) w) aI ?_
 ·rintro x b1 b2 f g4 hm hr ⟨g5,g6,g7⟩
  unfold aBx at hm
  refine aF ?_
  rcases aG hm with ⟨d4,hm⟩|⟨d4,hm⟩
  ·refine aF ?_;refine aK [0,1] (fun f w=>∃ j y,aFR j y=some b2/\f 5=zS b j.length a.length/\f 6=zB y/\aD G K (aH 4 K b a.length j::L) w) ?_ ?_
   ·rintro f g8 ⟨j,y,hm,d5,d6,d7⟩
    unfold aFR at hm
    refine aF ?_;exact ⟨_,(zI hm).symm,bD,d5,d6,d7⟩
   refine aF ?_;refine aK [0,1] (fun f w=>∃ z b3,aJi z b3=some b2/\f 5=zS b z.length a.length/\f 6=zB b3/\aD G K (aH 4 K b a.length z::L) w) aI ?_
   obtain ⟨g9,d8,ho⟩:=aB hm
   refine lK [0,1] d8 (fun J b4 k f w=>f 5=zS b J.length a.length/\f 6=zB b4/\f 7=i64 k/\aD G K (aH 4 K b a.length J::L) w) aI ?_
   ·rintro J b4 k b5 f h0 hm hr ⟨h1,h2,h4,h5⟩
    unfold aAb at hm
    refine aF ?_
    rcases aG hm with ⟨d9,hm⟩|⟨d9,hm⟩
    ·refine aF ?_;refine aK [0,1,7] (fun f w=>∃ l V,aFS k l V=some b5/\f 5=zS b l.length a.length/\f 6=zB V/\aD G K (aH 4 K b a.length l::L) w) ?_ ?_
     ·rintro f h7 ⟨l,V,hm,e0,e1,e2⟩
      unfold aFS at hm
      refine aF ?_;exact ⟨_,(zI hm).symm,bD,e0,e1,rfl,e2⟩
     refine aF ?_;obtain ⟨c,e3,hm⟩:=aB hm
     refine aF ?_;obtain ⟨h8,i0,e4⟩:=aW.el (sz:=3) rfl h9 e3
     cases e4
     refine aF ?_;refine iN fun m i1 i2=>?_
     refine gM fun i3 i4=>?_;refine aF ?_
     refine aK [0,1,7] (fun f w=>∃ Z b6,aJj k Z b6=some b5/\f 5=zS b Z.length a.length/\f 6=zB b6/\aD G K (aH 4 K b a.length Z::L) w) aI ?_;obtain ⟨i5,e5,ho⟩:=aB hm
     refine lK [0,1,7,8] e5 (fun g a0 o f w=>f 5=zS b g.length a.length/\f 6=zB a0/\f 9=i64 o/\aD G K (box m 52 [i64 c.F,i64 c.B,i64 c.To]::aH 4 K b a.length g::L) w) aI ?_
     ·rintro g a0 o b7 f i6 hm hr ⟨e6,i7,i8,i9⟩
      unfold vE at hm
      refine aF ?_
      rcases aG hm with ⟨e7,hm⟩|⟨e7,hm⟩
      ·refine aF ?_;refine aK [0,1,7,8,9] (fun f w=>∃ q a2,mB o q a2=some b7/\f 5=zS b q.length a.length/\f 6=zB a2/\aD G K (box m 52 [i64 c.F,i64 c.B,i64 c.To]::aH 4 K b a.length q::L) w) ?_ ?_
       ·rintro f j0 ⟨q,a2,hm,e8,e9,f0⟩
        unfold mB at hm
        refine aF ?_;exact ⟨_,(zI hm).symm,bD,e8,e9,rfl,f0⟩
       refine aF ?_;refine aLO ?_
       refine aF ?_;refine wH (fun j1 b8=>(aF ?_))
       obtain ⟨j2,r,hm⟩:=aB hm
       have b9:=bS b8 (i:=1) rfl r
       refine aM (cS mF rfl b9 rfl rfl rfl r) (aF ?_)
       rcases aG hm with ⟨f1,hm⟩|⟨f1,hm⟩
       ·exact aI
       ·refine aF ?_;obtain ⟨j3,d,f2,f3,f4⟩:=aD.lendBp b8 .head
        obtain ⟨j4,f5,hm⟩:=aB hm
        refine cC call109 (aGS f5 f3 (h3.mono d) (h6.mono d) (h9.mono d) (c4.mono d) (c6.mono d) (c7.mono d) f2) ?_
        rintro _ j5 ⟨rfl,f6⟩
        have j6:=f4 _ _ f6
        refine aF ?_;refine aY [0,1,5,6,7,8,9,10] (fun f w=>∃ a3,rI p c g a0 o a3=some b7/\f 79=zB a3/\aD G K (box m 52 [i64 c.F,i64 c.B,i64 c.To]::aH 4 K b a.length g::L) w) ?_ ?_
        ·rintro f j7 ⟨a3,hm,j8,f7⟩
         unfold rI at hm
         refine aF ?_
         rcases aG hm with ⟨f8,hm⟩|⟨f8,hm⟩
         ·iterate 5 refine cE ?_
          refine aM (cS mF rfl b9 rfl rfl rfl r) ?_;obtain ⟨c0,c1,hm⟩:=aB hm
          refine oO (i:=1) (t:=0) (ns:=[zB true]) (e':=(true:Bool)) sizeOf4 f7 rfl (Hp.le_refl _) rfl rfl rfl r c1 rfl rfl (nI rfl) rfl (fun cs h=>by cases h;rfl) (fun f9 (g0:aD G K (box m 52 [i64 c.F,i64 c.B,i64 c.To]::aH 4 K b a.length c0::L) f9)=>(aF ?_));exact ⟨bD,c0,true,hm,(Eq.trans e6 (congrArg (fun n=>zS b n a.length) (jM c1))),rfl,g0⟩
         ·exact aI
        exact aI
      ·exact aI
    ·exact aI
  ·exact aI
theorem aJk {t:aS} {j:Nat} {k:Int} {R:(List Edge)} (hm:aHT t k=some R) (y:aD G K (L) w) (z:cT K a1 j (zC t a4 c5 a7 c8)) (J:aW K a4 c5 t.L) (V:aW K a7 c8 t.E):
  Calls Tryz.prog 110 ([cD a1 j,i64 k]:List Value).toArray w (dS fun v w'=>∃ l m,v=zS l R.length m/\aD G K (aH 52 K l m R::L) w'):=by
 refine cM func110 ?_;unfold aHT at hm
 refine aF ?_;refine lI ([]:List Edge) fun Z a0 a2=>?_
 refine aF ?_;refine aK [] (fun f w=>∃ d n o,aHS d=some R/\f 5=zS n d.length o/\aD G K (aH 52 K n o d::L) w) aI ?_
 obtain ⟨a3,p,ho⟩:=aB hm
 refine bV [0,1] p (fun e g f w=>∃ h i,f 5=zS h e.length i/\f 6=i64 g/\aD G K (aH 52 K h i e::L) w) aI ?_
 ·rintro e g q f a5 hm hr ⟨h,i,a6,a8,a9⟩
  unfold aCI at hm
  refine aF ?_
  rcases aG hm with ⟨r,hm⟩|⟨r,hm⟩
  ·refine aF ?_;refine aK [0,1,6] (fun f w=>∃ a b c,aCH g a=some q/\f 5=zS b a.length c/\aD G K (aH 52 K b c a::L) w) ?_ ?_
   ·rintro f b0 ⟨a,b,c,hm,u,x⟩
    unfold aCH at hm
    refine aF ?_;exact ⟨_,(zI hm).symm,bD,b,c,u,rfl,x⟩
   exact aI
  ·exact aI
end Gv
