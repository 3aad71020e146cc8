/- Walks, printed by program. -/
import Derived.Test.YtokmmhfhaoanmaaGreatDoorJWk1
set_option linter.all false
namespace Gv
open Gv.Hp renaming le_refl→zR
open Go.Value renaming slice→zS,bool→zB
open Option.some renaming inj→zI
open Gv.Hp renaming le_trans→zL
open Go Go.Proofs Go.Proofs.Tryz
set_option maxRecDepth 20000
set_option maxHeartbeats 40000000
variable {G:mL} {K Kf:Hp} {L:List eU} {w:World} {a1 a4 a7 a10 a13 a16 a3:Option Addr} {c2 c5 c8 c11 c14 c17 c4:Nat}
theorem aMg {a:(List aH)} {R:Bool} (hm:zY a=some R) (d:aD G K (L) w) (e:aW K a1 c2 a):
  Calls prog 104 ([zS a1 a.length c2]:List Value).toArray w (cN fun v w'=>v=zB R/\aD G K (L) w'):=by
 refine cC func104 ?_;unfold zY at hm
 refine aC ?_;refine aI [] (fun f w=>aHw=some R/\aD G K (L) w) aF ?_
 obtain ⟨g,b,ho⟩:=aB hm
 exact bL [0] b (fun c f w=>f 3=i64 c/\aD G K (L) w) aF aF
theorem aOr {a:(List aH)} {R:Bool} (hm:aAU a=some R) (g:aD G K (L) w) (h:aW K a1 c2 a):
  Calls prog 64 ([zS a1 a.length c2]:List Value).toArray w (cN fun v w'=>v=zB R/\aD G K (L) w'):=by
 refine cC func64 ?_;unfold aAU at hm
 iterate 7 refine cV ?_
 refine bC [0] (fun f w=>∃ b,vQ a b=some R/\f 11=zB b/\aD G K (L) w) ?_ ?_
 ·rintro f i ⟨b,hm,j,k⟩
  unfold vQ at hm
  refine aC ?_
  rcases aG hm with ⟨c,hm⟩|⟨c,hm⟩
  ·exact aF
  ·refine aC ?_;refine aI [] (fun f w=>aKe=some R/\aD G K (L) w) aF ?_
   obtain ⟨l,d,ho⟩:=aB hm
   exact bL [0] d (fun e f w=>f 3=i64 e/\aD G K (L) w) aF aF
 exact aF
theorem aOs {s_:aR} {a:Nat} {R:Int} (hm:aGM s_=some R) (b:aD G K (L) w) (c:eM K a1 a [zS a4 s_.Definitions.length c5,zS a7 s_.Components.length c8,zS a10 s_.Meetings.length c11,zS a13 s_.Allowed.length c14,zS a16 s_.Hidden.length c17]) (d:aW K a4 c5 s_.Definitions) (e:aW K a7 c8 s_.Components) (g:aW K a10 c11 s_.Meetings) (h:aW K a13 c14 s_.Allowed) (i:aW K a16 c17 s_.Hidden):
  Calls prog 29 ([fL a1 a]:List Value).toArray w (cN fun v w'=>v=i64 R/\aD G K (L) w'):=by
 exact aF
theorem aMh {s_:aR} {a:Nat} {R:Bool} (hm:aLN s_=some R) (b:aD G K (L) w) (c:eM K a1 a [zS a4 s_.Definitions.length c5,zS a7 s_.Components.length c8,zS a10 s_.Meetings.length c11,zS a13 s_.Allowed.length c14,zS a16 s_.Hidden.length c17]) (d:aW K a4 c5 s_.Definitions) (e:aW K a7 c8 s_.Components) (g:aW K a10 c11 s_.Meetings) (h:aW K a13 c14 s_.Allowed) (i:aW K a16 c17 s_.Hidden):
  Calls prog 13 ([fL a1 a]:List Value).toArray w (cN fun v w'=>v=zB R/\aD G K (L) w'):=by
 exact aF
theorem sE {a R:(List Int)} (hm:rR a=some R) (d:aD G K (L) w) (e:aW K a1 c2 a):
  Calls prog 67 ([zS a1 a.length c2]:List Value).toArray w (cN fun v w'=>∃ b c,v=zS b R.length c/\aD G K (aJ 2 K b c R::L) w'):=by
 exact aF
theorem sF {n R:(List GPoint)} (hm:zZ n=some R) (hs:aD G K (L) w) (h3:aW K a1 c2 n):
  Calls prog 65 ([zS a1 n.length c2]:List Value).toArray w (cN fun v w'=>∃ o u x,v=zS u R.length x/\Hp.le K o/\aD G o (aJ 123 o u x R::L) w'):=by
 refine cC func65 ?_;unfold zZ at hm
 refine aC ?_;refine fQ (Kt:=K) (xs:=([]:List GPoint)) (cs:=[]) (vs:=[]) jQ oT rfl rfl hs rfl (by kernel_rfl) rfl rfl rfl trivial (fun a4 w5 (c5:aD G K (aJ 123 K a4 0 ([]:List GPoint)::L) w5)=>(aC ?_))
 refine aI [] (fun f w=>∃ p q y z,Hp.le K p/\aNR q=some R/\f 3=zS y q.length z/\aD G p (aJ 123 p y z q::L) w) aF ?_;obtain ⟨c6,b0,ho⟩:=aB hm
 refine bJ [0] b0 (fun e J f w=>∃ c g j,Hp.le K c/\f 3=zS g e.length j/\f 4=i64 J/\aD G c (aJ 123 c g j e::L) w) aF ?_
 ·rintro e J c7 f c8 hm hr ⟨c,g,j,r,c9,d0,d1⟩
  unfold aBO at hm
  refine aC ?_
  rcases aG hm with ⟨b1,hm⟩|⟨b1,hm⟩
  ·refine aC ?_;refine bI (aKG [(0,0),(1,0),(2,0),(3,0),(4,0),(5,0),(6,0),(7,0),(8,0),(9,0),(10,0),(11,0),(12,0),(13,0),(14,0),(15,0),(16,1),(17,0),(18,1),(19,1),(20,0)] fun d2 b2=>?_)
   refine aC ?_;obtain ⟨a,b3,hm⟩:=aB hm
   refine aC ?_;obtain ⟨d3,d4,b4⟩:=aW.el (sz:=3) rfl h3 b3
   obtain ⟨d5,d6,rfl,b5⟩:=b4
   refine aC ?_;refine lM rfl ?_
   obtain ⟨d,b6,hm⟩:=aB hm
   refine dQ call67 (sE b6 b2 (b5.mono r)) ?_
   rintro _ b7 ⟨k,l,rfl,V⟩
   refine bQ (aM ⟨⟨_,V⟩,?_⟩)
   refine fM rfl (fun _ _=>gW (vs:=[(0,i64 a.Definition),(1,i64 a.Part),(2,zS k d.length l)]) (cs:=[i64 a.Definition,i64 a.Part,zS k d.length l]) aIk rfl (by kernel_rfl)) (lM rfl ?_);obtain ⟨b,m,b8,t⟩:=aD.giveSp V r .head
   replace t:aD G b (aJ 123 c g j e::L) b7:=t
   refine fQ (Kt:=b) (xs:=([⟨a.Definition,a.Part,d⟩]:List GPoint)) (cs:=[i64 a.Definition,i64 a.Part,zS k d.length l]) (vs:=[(0,Value.agg #[i64 a.Definition,i64 a.Part,zS k d.length l])]) jQ oT rfl rfl t rfl (by kernel_rfl) rfl rfl rfl ⟨⟨k,l,rfl,b8⟩,trivial⟩ (fun b9 c0 (a0:aD G b (aJ 123 b b9 1 ([⟨a.Definition,a.Part,d⟩]:List GPoint)::aJ 123 c g j e::L) c0)=>(bQ (aM ⟨⟨_,(aD.weakK a0 m)⟩,?_⟩)))
   refine lM rfl ?_;obtain ⟨c1,c3,hm⟩:=aB hm
   refine sO (i:=0) b jQ underlying52 oT rfl rfl a0 rfl m (zR _) c3 rfl rfl rfl rfl (fun _ _ _ h=>El.one h) (fun a2 a3 c4 (a5:aD G b (aJ 123 b a2 a3 c1::L) c4)=>(bQ (aM ⟨⟨_,(aD.weakK a5 m)⟩,?_⟩)))
   refine aC ?_;refine yX (aC ?_)
   exact ⟨_,(zI hm).symm,bO,b,a2,a3,(zL r m),rfl,rfl,a5⟩
  ·exact aF
theorem aMi {a b:(List Int)} {R:Int} (hm:uI a b=some R) (h:aD G K (L) w) (i:aW K a1 c2 a) (j:aW K a4 c5 b):
  Calls prog 105 ([zS a1 a.length c2,zS a4 b.length c5]:List Value).toArray w (cN fun v w'=>v=i64 R/\aD G K (L) w'):=by
 refine cC func105 ?_;unfold uI at hm
 refine aC ?_;refine aI [0,1] (fun f w=>wX a b=some R/\aD G K (L) w) aF ?_
 obtain ⟨k,e,ho⟩:=aB hm
 refine bL [0,1] e (fun c f w=>f 5=i64 c/\aD G K (L) w) aF ?_
 ·rintro c g f l hm hr ⟨m,n⟩
  unfold jR at hm
  iterate 2 refine cV ?_
  exact bC [0,1,5] (fun f w=>∃ d,nF a b c d=some g/\f 15=zB d/\aD G K (L) w) aF aF
theorem aFd {a:GPoint} {c:Nat} {b:GPoint} {d:Nat} {R:Int} (hm:uJ a b=some R) (h:aD G K (L) w) (i:eM K a1 c [i64 a.Definition,i64 a.Part,zS a4 a.Values.length c5]) (j:aW K a4 c5 a.Values) (k:eM K a7 d [i64 b.Definition,i64 b.Part,zS a10 b.Values.length c11]) (l:aW K a10 c11 b.Values):
  Calls prog 66 ([fL a1 c,fL a7 d]:List Value).toArray w (cN fun v w'=>v=i64 R/\aD G K (L) w'):=by
 refine cC func66 ?_;unfold uJ at hm
 refine aC ?_;refine aKG [(0,0),(1,0),(2,0),(3,0),(4,0),(5,0),(6,0),(7,0),(8,1),(9,0)] fun m n=>?_
 refine aC ?_;refine lM rfl (vJ ([a.Definition,a.Part]:List Int) fun o p e=>?_)
 refine bQ (aM ⟨⟨_,e⟩,?_⟩)
 refine aC ?_;refine yX (aC ?_)
 refine aKG [(0,0),(1,0),(2,0),(3,0),(4,0),(5,0),(6,0),(7,0),(8,1),(9,0)] fun q r=>?_;refine aC ?_
 refine lM rfl (vJ ([b.Definition,b.Part]:List Int) fun t u g=>?_);refine bQ (aM ⟨⟨_,g⟩,?_⟩)
 refine aC ?_;exact yX aF
theorem aEi {a0 R:(List GPoint)} (hm:aDr a0=some R) (hs:aD G K (L) w) (h3:aW K a1 c2 a0):
  Calls prog 30 ([zS a1 a0.length c2]:List Value).toArray w (cN fun v w'=>∃ K' b7 b8,v=zS b7 R.length b8/\Hp.le K K'/\aD G K' (aJ 123 K' b7 b8 R::L) w'):=by
 let b9:=[i64 0,i64 0,zS none 0 0]
 refine cC func30 ?_;unfold aDr at hm
 refine aC ?_;obtain ⟨b,q5,hm⟩:=aB hm
 refine dQ call65 (sF q5 hs h3) ?_
 rintro _ j1 ⟨a,c,d,rfl,j2,d9⟩
 refine aC ?_;refine fQ (Kt:=a) (xs:=([]:List GPoint)) (cs:=[]) (vs:=[]) jQ oT rfl rfl d9 rfl (by kernel_rfl) rfl rfl rfl trivial (fun e0 e1 (j3:aD G a (aJ 123 a e0 0 ([]:List GPoint)::aJ 123 a c d b::L) e1)=>(aC ?_))
 refine aI [] (fun f w=>∃ a3 c0 c1,aLO a3=some R/\f 4=zS c0 a3.length c1/\aD G a (aJ 123 a c0 c1 a3::L) w) aF ?_;obtain ⟨j4,e2,ho⟩:=aB hm
 refine bJ [3] e2 (fun j p f w=>∃ k l,f 4=zS k j.length l/\f 5=i64 p/\aD G a (aJ 123 a k l j::aJ 123 a c d b::L) w) aF ?_
 ·rintro j p a4 f j5 hm hr ⟨k,l,j6,j7,j8⟩
  unfold nX at hm
  refine aC ?_
  rcases aG hm with ⟨e3,hm⟩|⟨e3,hm⟩
  ·refine aC ?_;refine aI [3,5] (fun f w=>∃ q r u,aCN p q=some a4/\f 4=zS r q.length u/\aD G a (aJ 123 a r u q::aJ 123 a c d b::L) w) ?_ ?_
   ·rintro f j9 ⟨q,r,u,hm,e4,e5⟩
    unfold aCN at hm
    refine aC ?_;exact ⟨_,(zI hm).symm,bO,r,u,e4,rfl,e5⟩
   refine aC ?_;refine aI [3,4,5] (fun f w=>∃ x,aCP b j p x=some a4/\f 6=i64 x/\aD G a (aJ 123 a k l j::aJ 123 a c d b::L) w) ?_ ?_
   ·rintro f k0 ⟨x,hm,k1,e6⟩
    unfold aCP at hm
    iterate 4 refine cV ?_
    refine aL (gW (vs:=[]) (cs:=b9) aIk rfl (by kernel_rfl)) (fQ (Kt:=a) (xs:=([⟨0,0,[]⟩]:List GPoint)) (cs:=b9) (vs:=[(0,Value.agg #[i64 0,i64 0,zS none 0 0])]) jQ oT rfl rfl e6 rfl (by kernel_rfl) rfl rfl rfl ⟨⟨none,0,rfl,wT _⟩,trivial⟩ (fun e7 e8 (e9:aD G a (aJ 123 a e7 1 ([⟨0,0,[]⟩]:List GPoint)::aJ 123 a k l j::aJ 123 a c d b::L) e8)=>?_));obtain ⟨f0,f1,hm⟩:=aB hm
    refine sO (i:=0) a jQ underlying52 oT rfl rfl e9 rfl (zR _) (zR _) f1 rfl rfl rfl rfl (fun _ _ _ h=>El.one h) (fun e g f2 (k2:aD G a (aJ 123 a e g f0::aJ 123 a c d b::L) f2)=>(aC ?_));refine aI [3,5,6] (fun f w=>∃ y,aCO b p x y=some a4/\f 4=zS e y.length g/\aD G a (aJ 123 a e g y::aJ 123 a c d b::L) w) ?_ ?_
    ·rintro f k3 ⟨y,hm,f3,z⟩
     unfold aCO at hm
     refine aC ?_;obtain ⟨m,a5,hm⟩:=aB hm
     have f4:=cG z (i:=1) rfl a5
     refine aL (dG jQ rfl f4 rfl rfl rfl a5) ?_;obtain ⟨k4,f5,f6⟩:=oS (sz:=3) rfl z (i:=1) rfl a5
     obtain ⟨a6,a7,rfl,f7⟩:=f6
     refine aL (R_ldCG (t:=0) (vs:=[i64 m.Definition,i64 m.Part,zS a6 m.Values.length a7]) xN f5 rfl rfl rfl) ?_;obtain ⟨k5,a9,hm⟩:=aB hm
     have f8:=cG z (i:=0) rfl a9
     refine aL (dG jQ rfl f8 rfl rfl rfl a9) ?_;obtain ⟨c3,c4,hm⟩:=aB hm
     refine aPh (i:=0) (ns:=[i64 m.Definition,i64 m.Part,zS a6 m.Values.length a7]) (e':=(m:GPoint)) sizeOf123 z rfl (zR _) rfl rfl rfl a9 c4 rfl ⟨a6,a7,rfl,f7⟩ (fun f9 (g0:aD G a (aJ 123 a e g c3::aJ 123 a c d b::L) f9)=>(aC ?_));exact ⟨bO,c3,e,g,hm,(Eq.trans f3 (congrArg (fun n=>zS e n g) (fB c4))),g0⟩
    obtain ⟨k6,g1,ho⟩:=aB hm
    refine bJ [3,5,6] g1 (fun b0 c5 f w=>f 4=zS e b0.length g/\f 7=i64 c5/\aD G a (aJ 123 a e g b0::aJ 123 a c d b::L) w) aF ?_
    ·rintro b0 c5 k7 f k8 hm hr ⟨g2,k9,b1⟩
     unfold nW at hm
     refine aC ?_
     rcases aG hm with ⟨g3,hm⟩|⟨g3,hm⟩
     ·refine aC ?_;refine bI (aC ?_)
      obtain ⟨o,b2,hm⟩:=aB hm
      have c6:=cG b1 (i:=0) rfl b2
      refine aL (dG jQ rfl c6 rfl rfl rfl b2) ?_;obtain ⟨l0,g4,g5⟩:=oS (sz:=3) rfl b1 (i:=0) rfl b2
      obtain ⟨b3,b4,rfl,g6⟩:=g5
      refine aL (R_ldCG (t:=0) (vs:=[i64 o.Definition,i64 o.Part,zS b3 o.Values.length b4]) xN g4 rfl rfl rfl) ?_;obtain ⟨l1,c7,hm⟩:=aB hm
      refine aL (dG jQ rfl c6 rfl rfl rfl c7) ?_;obtain ⟨g7,c8,hm⟩:=aB hm
      refine aPh (i:=0) (ns:=[i64 o.Definition,i64 o.Part,zS b3 o.Values.length b4]) (e':=(o:GPoint)) sizeOf123 b1 rfl (zR _) rfl rfl rfl c7 c8 rfl ⟨b3,b4,rfl,g6⟩ (fun g8 (g9:aD G a (aJ 123 a e g g7::aJ 123 a c d b::L) g8)=>(aC ?_));exact ⟨_,(zI hm).symm,bO,(Eq.trans g2 (congrArg (fun n=>zS e n g) (fB c8))),rfl,g9⟩
     ·exact aF
   obtain ⟨l2,h0,ho⟩:=aB hm
   refine bL [3,4,5] h0 (fun J f w=>f 6=i64 J/\aD G a (aJ 123 a k l j::aJ 123 a c d b::L) w) aF ?_
   ·rintro J h1 f l3 hm hr ⟨l4,h2⟩
    unfold rA at hm
    refine aC ?_;refine bC [3,4,5,6] (fun f w=>∃ d0,aAa J d0=some h1/\f 31=zB d0/\aD G a (aJ 123 a k l j::aJ 123 a c d b::L) w) aF ?_
    obtain ⟨l5,h4,d1,h5,d2⟩:=aD.lendSp h2 (zR _) .head
    obtain ⟨l6,d3,d4,V,d5⟩:=aD.lendSp h5 h4 .head
    refine aIi ?_;refine aC ?_
    rcases aG hm with ⟨h6,hm⟩|⟨h6,hm⟩
    ·refine aC ?_;obtain ⟨l7,b5,hm⟩:=aB hm
     have h7:=aLy d4 b5
     refine rO (fun _ V=>dG jQ rfl h7 rfl rfl rfl b5) (aC ?_);obtain ⟨l8,b6,hm⟩:=aB hm
     have h8:=aLy (d1.mono d3) b6
     refine rO (fun _ V=>dG jQ rfl h8 rfl rfl rfl b6) (aC ?_);obtain ⟨l9,h9,i0⟩:=aW.el (sz:=3) rfl d4 b5
     obtain ⟨m0,m1,rfl,i1⟩:=i0
     obtain ⟨m2,i2,i3⟩:=aW.el (sz:=3) rfl (d1.mono d3) b6
     obtain ⟨m3,m4,rfl,i4⟩:=i3
     obtain ⟨i5,i6,hm⟩:=aB hm
     refine qW (vs:=[fL c (p.toNat * 3+0),fL k ((wr (J - 1)).toNat * 3+0)]) (v:=i64 i5) call66 rfl (fun _ V=>(aFd i6 V h9 i1 i2 i4)) (aC ?_);refine sJ (fun m5 i7=>?_)
     have i8:=d5 _ _ i7
     have m6:=d2 _ _ i8
     exact aF
    ·refine aC ?_;refine sJ (fun m7 i9=>?_)
     have j0:=d5 _ _ i9
     have m8:=d2 _ _ j0
     exact aF
  ·exact aF
theorem aHH {s_:aR} {y:Nat} {R:(List GPoint)} (hm:aDU s_=some R) (hs:aD G K (L) w) (h3:eM K a1 y [zS a4 s_.Definitions.length c5,zS a7 s_.Components.length c8,zS a10 s_.Meetings.length c11,zS a13 s_.Allowed.length c14,zS a16 s_.Hidden.length c17]) (h6:aW K a4 c5 s_.Definitions) (h9:aW K a7 c8 s_.Components) (d6:aW K a10 c11 s_.Meetings) (d7:aW K a13 c14 s_.Allowed) (d8:aW K a16 c17 s_.Hidden):
  Calls prog 31 ([fL a1 y]:List Value).toArray w (cN fun v w'=>∃ p z J,v=zS z R.length J/\Hp.le K p/\aD G p (aJ 123 p z J R::L) w'):=by
 refine cC func31 ?_;unfold aDU at hm
 refine aC ?_;refine fQ (Kt:=K) (xs:=([]:List GPoint)) (cs:=[]) (vs:=[]) jQ oT rfl rfl hs rfl (by kernel_rfl) rfl rfl rfl trivial (fun b0 b1 (d9:aD G K (aJ 123 K b0 0 ([]:List GPoint)::L) b1)=>(aC ?_))
 refine aI [] (fun f w=>∃ q r V a0,Hp.le K q/\aKf r=some R/\f 3=zS V r.length a0/\aD G q (aJ 123 q V a0 r::L) w) aF ?_;obtain ⟨e0,b2,ho⟩:=aB hm
 refine bJ [0] b2 (fun d a2 f w=>∃ b e g,Hp.le K b/\f 3=zS e d.length g/\f 4=i64 a2/\aD G b (aJ 123 b e g d::L) w) aF ?_
 ·rintro d a2 e1 f e2 hm hr ⟨b,e,g,t,e3,e4,e5⟩
  unfold vR at hm
  refine aC ?_
  rcases aG hm with ⟨b3,hm⟩|⟨b3,hm⟩
  ·refine aC ?_;refine bI (aC ?_)
   obtain ⟨a,b4,hm⟩:=aB hm
   refine aC ?_;obtain ⟨e6,e7,b5⟩:=aW.el (sz:=2) rfl h9 b4
   obtain ⟨k,l,rfl,b6⟩:=b5
   refine aC ?_;refine pO fun m e8 e9=>?_
   refine nB fun b7 b8=>?_;refine aC ?_
   have a3:aD G b (box m 92 [i64 a.Definition,zS k a.Values.length l]::aJ 123 b e g d::L) b7:=b8
   refine uD (C:=fun w'=>∃ L',aD G b (box m 92 [i64 a.Definition,zS k a.Values.length l]::L') w') [(0,0),(1,0),(2,0),(3,0),(4,0),(5,1),(6,0),(7,1),(8,1),(9,0)] Tryz_mixed (by kernel_rfl) (fun _ hg=>⟨_,aD.mono a3 hg⟩) (fun f0 b9=>?_)
   have c0:=aD.mono a3 b9
   refine aC ?_;refine lM rfl ?_
   obtain ⟨j,c1,hm⟩:=aB hm
   refine dQ call67 (sE c1 c0 (b6.mono t)) ?_
   rintro _ c2 ⟨n,o,rfl,c3⟩
   refine bQ (aM ⟨⟨_,nC⟩,?_⟩)
   refine fM rfl (fun _ _=>gW (vs:=[(0,i64 a.Definition),(2,zS n j.length o)]) (cs:=[i64 a.Definition,i64 0,zS n j.length o]) aIk rfl (by kernel_rfl)) (lM rfl ?_);obtain ⟨c,u,c4,x⟩:=aD.giveSp c3 t .head
   replace x:aD G c (box m 92 [i64 a.Definition,zS k a.Values.length l]::aJ 123 b e g d::L) c2:=x
   refine fQ (Kt:=c) (xs:=([⟨a.Definition,0,j⟩]:List GPoint)) (cs:=[i64 a.Definition,i64 0,zS n j.length o]) (vs:=[(0,Value.agg #[i64 a.Definition,i64 0,zS n j.length o])]) jQ oT rfl rfl x rfl (by kernel_rfl) rfl rfl rfl ⟨⟨n,o,rfl,c4⟩,trivial⟩ (fun c6 c7 (c9:aD G c (aJ 123 c c6 1 ([⟨a.Definition,0,j⟩]:List GPoint)::box m 92 [i64 a.Definition,zS k a.Values.length l]::aJ 123 b e g d::L) c7)=>(bQ (aM ⟨⟨_,nC⟩,?_⟩)))
   refine lM rfl ?_;obtain ⟨d0,d1,hm⟩:=aB hm
   refine sO (i:=1) c jQ underlying52 oT rfl rfl c9 rfl u (zR _) d1 rfl rfl rfl rfl (fun _ _ _ h=>El.one h) (fun a5 a6 d2 (d3:aD G c (box m 92 [i64 a.Definition,zS k a.Values.length l]::aJ 123 c a5 a6 d0::L) d2)=>(bQ (aM ⟨⟨_,(aD.weakK d3 u)⟩,?_⟩)))
   refine aC ?_;refine yX (aC ?_)
   exact ⟨_,(zI hm).symm,bO,c,a5,a6,(zL t u),rfl,rfl,nC⟩
  ·exact aF
theorem aAC {a:(List aH)} {s_:aH} {R:Int} (hm:pT a s_=some R) (d:aD G K (L) w) (e:aW K a1 c2 a):
  Calls prog 70 ([zS a1 a.length c2,str s_]:List Value).toArray w (cN fun v w'=>v=i64 R/\aD G K (L) w'):=by
 refine cC func70 ?_;unfold pT at hm
 refine aC ?_;refine aI [] (fun f w=>aLP=some R/\aD G K (L) w) aF ?_
 obtain ⟨g,b,ho⟩:=aB hm
 exact bL [0,1] b (fun c f w=>f 5=i64 c/\aD G K (L) w) aF aF
theorem aQD {n:Int} {R:aH} (hm:aIt n=some R) (hs:aD G K (L) w):
  Calls prog 278 ([i64 n]:List Value).toArray w (cN fun v w'=>v=str R/\aD G K (L) w'):=by
 refine cC func278 ?_;unfold aIt at hm
 refine aC ?_
 rcases aG hm with ⟨x,hm⟩|⟨x,hm⟩
 ·exact aF
 ·refine aC ?_;refine vJ ([]:List UInt8) fun a3 w4 a9=>?_
  refine aC ?_;refine aI [0] (fun f w=>∃ c k l,aER n c=some R/\f 3=zS k c.length l/\aD G K (aJ 5 K k l c::L) w) ?_ ?_
  ·rintro f b0 ⟨c,k,l,hm,e9,b2⟩
   unfold aER at hm
   iterate 1 refine cV ?_
   refine sH [] (fun f w=>∃ a d e,aBP a=some R/\f 3=zS d a.length e/\aD G K (aJ 5 K d e a::L) w) ?_ ?_
   ·rintro f b3 ⟨a,d,e,hm,b4,b5⟩
    unfold aBP at hm
    refine aC ?_;refine vJ ([]:List UInt8) fun b6 b7 b8=>?_
    refine aC ?_;refine aI [] (fun f w=>∃ g m o,aIs g=some R/\f 6=zS m g.length o/\aD G K (aJ 5 K m o g::L) w) ?_ ?_
    ·rintro f b9 ⟨g,m,o,hm,c0,y⟩
     unfold aIs at hm
     refine aC ?_;refine aL (R_convBSO underlying206 underlying5 underlying9 y (i:=0) rfl rfl rfl) (aC ?_)
     obtain rfl:=zI hm
     exact st_E results278 ⟨rfl,nC⟩
    obtain ⟨c2,J,ho⟩:=aB hm
    exact bJ [3] J (fun q V f w=>∃ r t,f 6=zS r q.length t/\f 7=i64 V/\aD G K (aJ 5 K r t q::aJ 5 K d e a::L) w) aF aF
   exact aF
  obtain ⟨c3,a0,ho⟩:=aB hm
  refine bJ [0] a0 (fun b p f w=>∃ h j,f 3=zS h b.length j/\f 4=i64 p/\aD G K (aJ 5 K h j b::L) w) aF ?_
  ·rintro b p a1 f c4 hm hr ⟨h,j,c5,c6,c7⟩
   unfold aBQ at hm
   refine aC ?_
   rcases aG hm with ⟨a2,hm⟩|⟨a2,hm⟩
   ·refine aC ?_;refine bI (aC ?_)
    obtain ⟨c9,a4,hm⟩:=aB hm
    refine aL (R_rem rfl rfl a4) ?_
    iterate 3 refine cV ?_
    exact sH [0,3,4] (fun f w=>∃ u,aES b p u=some a1/\f 5=i64 u/\aD G K (aJ 5 K h j b::L) w) aF aF
   ·exact aF
theorem aPD {a:(List Int)} {R:aH} (hm:aFW a=some R) (k:aD G K (L) w) (l:aW K a1 c2 a):
  Calls prog 226 ([zS a1 a.length c2]:List Value).toArray w (cN fun v w'=>v=str R/\aD G K (L) w'):=by
 refine cC func226 ?_;unfold aFW at hm
 refine aC ?_
 rcases aG hm with ⟨g,hm⟩|⟨g,hm⟩
 ·exact aF
 ·refine aC ?_;refine aI [] (fun f w=>∃ c,aLQ c=some R/\f 3=str c/\aD G K (L) w) aF ?_
  obtain ⟨m,h,ho⟩:=aB hm
  refine bJ [0] h (fun d b f w=>f 3=str d/\f 4=i64 b/\aD G K (L) w) aF ?_
  ·rintro d b i f n hm hr ⟨o,p,q⟩
   unfold rB at hm
   refine aC ?_
   rcases aG hm with ⟨j,hm⟩|⟨j,hm⟩
   ·refine aC ?_;exact bI (sH [0,4] (fun f w=>∃ e,aCR a b e=some i/\f 3=str e/\aD G K (L) w) aF aF)
   ·exact aF
theorem aIO {b:aH} {a:(List Int)} {R:aH} (hm:aFX b a=some R) (c:aD G K (L) w) (d:aW K a1 c2 a):
  Calls prog 170 ([str b,zS a1 a.length c2]:List Value).toArray w (cN fun v w'=>v=str R/\aD G K (L) w'):=by
 exact aF
theorem aOt {b:Bool} {R:Int} (hm:lJ b=some R) (a:aD G K (L) w):
  Calls prog 315 ([zB b]:List Value).toArray w (cN fun v w'=>v=i64 R/\aD G K (L) w'):=by
 exact aF
theorem aKr {e:(List aP)} {k R:Int} (hm:aIw e k=some R) (g:aD G K (L) w) (h:aW K a1 c2 e):
  Calls prog 316 ([zS a1 e.length c2,i64 k]:List Value).toArray w (cN fun v w'=>v=i64 R/\aD G K (L) w'):=by
 refine cC func316 ?_;unfold aIw at hm
 refine aC ?_;refine aI [] (fun f w=>∃ a,aIu a=some R/\f 1=i64 a/\aD G K (L) w) aF ?_
 obtain ⟨i,b,ho⟩:=aB hm
 exact bJ [0] b (fun c d f w=>f 1=i64 c/\f 5=i64 d/\aD G K (L) w) aF aF
theorem aSm {op a b R:Int} (hm:aET op a b=some R) (n:aD G K (L) w):
  Calls prog 317 ([i64 op,i64 a,i64 b]:List Value).toArray w (cN fun v w'=>v=i64 R/\aD G K (L) w'):=by
 refine cC func317 ?_;unfold aET at hm
 refine aC ?_;refine bI (aC ?_)
 rcases aG hm with ⟨e,hm⟩|⟨e,hm⟩
 ·exact aF
 ·refine aC ?_
  rcases aG hm with ⟨g,hm⟩|⟨g,hm⟩
  ·exact aF
  ·refine aC ?_
   rcases aG hm with ⟨h,hm⟩|⟨h,hm⟩
   ·exact aF
   ·refine aC ?_
    rcases aG hm with ⟨i,hm⟩|⟨i,hm⟩
    ·exact aF
    ·refine aC ?_
     rcases aG hm with ⟨j,hm⟩|⟨j,hm⟩
     ·exact aF
     ·refine aC ?_
      rcases aG hm with ⟨k,hm⟩|⟨k,hm⟩
      ·exact aF
      ·refine aC ?_
       rcases aG hm with ⟨l,hm⟩|⟨l,hm⟩
       ·exact aF
       ·refine aC ?_
        rcases aG hm with ⟨m,hm⟩|⟨m,hm⟩
        ·iterate 2 refine cV ?_
         exact bC [] (fun f w=>∃ c,aKM c=some R/\f 6=i64 c/\aD G K (L) w) aF aF
        ·iterate 5 refine cV ?_
         exact bC [] (fun f w=>∃ d,aKN d=some R/\f 6=i64 d/\aD G K (L) w) aF aF
theorem aIP {rec_:(List aP)->(List Int)->Int->Option Int} (d:∀ {G:mL} {K:Hp} {L:List eU} {w:World} {e:(List aP)} {a1:Option Addr} {c2:Nat} {a:(List Int)} {a4:Option Addr} {c5:Nat} {k:Int} {R:Int} (hm:rec_ e a k=some R) (g:aD G K (L) w) (b:aW K a1 c2 e) (c:aW K a4 c5 a),
  Calls prog 277 ([zS a1 e.length c2,zS a4 a.length c5,i64 k]:List Value).toArray w (cN fun v w'=>v=i64 R/\aD G K (L) w'))
  {G:mL} {K:Hp} {L:List eU} {w:World} {e:(List aP)} {a1:Option Addr} {c2:Nat} {a:(List Int)} {a4:Option Addr} {c5:Nat} {k:Int} {R:Int} (hm:uK rec_ e a k=some R) (g:aD G K (L) w) (b:aW K a1 c2 e) (c:aW K a4 c5 a):
  Calls prog 277 ([zS a1 e.length c2,zS a4 a.length c5,i64 k]:List Value).toArray w (cN fun v w'=>v=i64 R/\aD G K (L) w'):=by
 refine cC func277 ?_;unfold uK at hm
 refine aC ?_;obtain ⟨u,h,hm⟩:=aB hm
 refine aC ?_;obtain ⟨x,y,i⟩:=aW.el (sz:=2) rfl b h
 cases i
 refine aC ?_;refine bI (aC ?_)
 rcases aG hm with ⟨j,hm⟩|⟨j,hm⟩
 ·exact aF
 ·refine aC ?_
  rcases aG hm with ⟨l,hm⟩|⟨l,hm⟩
  ·exact aF
  ·refine aC ?_
   rcases aG hm with ⟨m,hm⟩|⟨m,hm⟩
   ·refine aC ?_;obtain ⟨z,n,hm⟩:=aB hm
    exact dQ call277 (d n g b c) aF
   ·refine aC ?_;obtain ⟨J,o,hm⟩:=aB hm
    refine dQ call277 (d o g b c) ?_
    rintro _ V ⟨rfl,p⟩
    refine aC ?_;obtain ⟨a0,q,hm⟩:=aB hm
    refine dQ call316 (aKr q p b) ?_
    rintro _ a2 ⟨rfl,r⟩
    obtain ⟨a3,t,hm⟩:=aB hm
    exact dQ call277 (d t r b c) aF
theorem aIQ (n:Nat):∀ {G:mL} {K:Hp} {L:List eU} {w:World} {e:(List aP)} {a1:Option Addr} {c2:Nat} {a:(List Int)} {a4:Option Addr} {c5:Nat} {k:Int} {R:Int} (hm:uL n e a k=some R) (b:aD G K (L) w) (c:aW K a1 c2 e) (d:aW K a4 c5 a),
  Calls prog 277 ([zS a1 e.length c2,zS a4 a.length c5,i64 k]:List Value).toArray w (cN fun v w'=>v=i64 R/\aD G K (L) w'):=by
 induction n with
 |zero=>
  intro G K L w e a1 c2 a a4 c5 k R hm b c d
  unfold uL at hm
  cases hm
 |succ n ih=>
  intro G K L w e a1 c2 a a4 c5 k R hm b c d
  exact aIP (rec_:=uL n) (fun hm b c d=>ih hm b c d) hm b c d
theorem aSn {e:(List aP)} {values:(List Int)} {k R:Int} (hm:aSk e values k=some R) (hs:aD G K (L) w) (h3:aW K a1 c2 e) (h6:aW K a4 c5 values):
  Calls prog 277 ([zS a1 e.length c2,zS a4 values.length c5,i64 k]:List Value).toArray w (cN fun v w'=>v=i64 R/\aD G K (L) w'):=aIQ 100000 hm hs h3 h6
theorem aIR {e:(List aP)} {a:(List Int)} {R:Int} (hm:aAV e a=some R) (b:aD G K (L) w) (c:aW K a1 c2 e) (d:aW K a4 c5 a):
  Calls prog 223 ([zS a1 e.length c2,zS a4 a.length c5]:List Value).toArray w (cN fun v w'=>v=i64 R/\aD G K (L) w'):=by
 exact aF
theorem aEj {a:(List (List aP))} {b R:(List Int)} (hm:aDs a b=some R) (m:aD G K (L) w) (n:aW K a1 c2 a) (o:aW K a4 c5 b):
  Calls prog 220 ([zS a1 a.length c2,zS a4 b.length c5]:List Value).toArray w (cN fun v w'=>∃ d e,v=zS d R.length e/\aD G K (aJ 2 K d e R::L) w'):=by
 refine cC func220 ?_;unfold aDs at hm
 refine aC ?_;refine vJ ([]:List Int) fun p q r=>?_
 refine aC ?_;refine aI [] (fun f w=>∃ c g h,aLR c=some R/\f 5=zS g c.length h/\aD G K (aJ 2 K g h c::L) w) aF ?_
 obtain ⟨t,l,ho⟩:=aB hm
 exact bJ [0,1] l (fun i i32 f w=>∃ j k,f 5=zS j i.length k/\f 6=i64 i32/\aD G K (aJ 2 K j k i::L) w) aF aF
theorem aIS {a b:(List Int)} {R:Bool} (hm:aDt a b=some R) (g:aD G K (L) w) (h:aW K a1 c2 a) (i:aW K a4 c5 b):
  Calls prog 111 ([zS a1 a.length c2,zS a4 b.length c5]:List Value).toArray w (cN fun v w'=>v=zB R/\aD G K (L) w'):=by
 refine cC func111 ?_;unfold aDt at hm
 refine aC ?_
 rcases aG hm with ⟨c,hm⟩|⟨c,hm⟩
 ·exact aF
 ·refine aC ?_;refine aI [] (fun f w=>aLS=some R/\aD G K (L) w) aF ?_
  obtain ⟨j,d,ho⟩:=aB hm
  exact bL [0,1] d (fun e f w=>f 5=i64 e/\aD G K (L) w) aF aF
theorem aCq {a:GPoint} {c:Nat} {b:GPoint} {d:Nat} {R:Bool} (hm:pU a b=some R) (g:aD G K (L) w) (h:eM K a1 c [i64 a.Definition,i64 a.Part,zS a4 a.Values.length c5]) (i:aW K a4 c5 a.Values) (j:eM K a7 d [i64 b.Definition,i64 b.Part,zS a10 b.Values.length c11]) (k:aW K a10 c11 b.Values):
  Calls prog 69 ([fL a1 c,fL a7 d]:List Value).toArray w (cN fun v w'=>v=zB R/\aD G K (L) w'):=by
 refine cC func69 ?_;unfold pU at hm
 refine aC ?_;exact bC [] (fun f w=>∃ e,nY e=some R/\f 4=zB e/\aD G K (L) w) aF aF
theorem aGd {b:(List bF)} {x_:bF} {R:(List bF)} (hm:yA b x_=some R) (hs:aD G K (aJ 155 Kf a1 c2 b::L) w) (n:Hp.le Kf K) (o:aW Kf a3 c4 x_.Next.Values):
  Calls prog 221 ([zS a1 b.length c2,Value.agg #[str x_.B,i64 x_.Next.Definition,i64 x_.Next.Part,zS a3 x_.Next.Values.length c4]]:List Value).toArray w (cN fun v w'=>∃ p q,v=zS p R.length q/\aD G K (aJ 155 Kf p q R::L) w'):=by
 let c:=[str x_.B,i64 x_.Next.Definition,i64 x_.Next.Part,zS a3 x_.Next.Values.length c4]
 refine cC func221 ?_;unfold yA at hm
 refine aC ?_;refine sL fun d w7 d2=>?_
 refine aC ?_;refine aI [0,3] (fun f w=>tG b x_=some R/\aD G K (box d 155 c::aJ 155 Kf a1 c2 b::L) w) ?_ ?_
 ·rintro f w9 ⟨hm,a0⟩
  unfold tG at hm
  refine aC ?_;refine fQ (Kt:=Kf) (xs:=([x_]:List bF)) (cs:=c) (vs:=[(0,Value.agg #[str x_.B,i64 x_.Next.Definition,i64 x_.Next.Part,zS a3 x_.Next.Values.length c4])]) aAQ aNd rfl rfl a0 rfl (by kernel_rfl) rfl rfl rfl ⟨⟨a3,c4,rfl,o⟩,trivial⟩ (fun a2 a4 (a5:aD G K (aJ 155 Kf a2 1 ([x_]:List bF)::box d 155 c::aJ 155 Kf a1 c2 b::L) a4)=>?_)
  obtain ⟨a6,a7,hm⟩:=aB hm
  refine sO (i:=1) Kf aAQ underlying151 aNd rfl rfl a5 rfl (zR _) (zR _) a7 rfl rfl rfl rfl (fun _ _ _ h=>El.one h) (fun r u a8 (d4:aD G K (box d 155 c::aJ 155 Kf r u a6::L) a8)=>(aC ?_));obtain rfl:=zI hm
  exact st_E results221 ⟨r,u,rfl,nC⟩
 obtain ⟨d5,b0,ho⟩:=aB hm
 refine bL [0,3] b0 (fun e f w=>f 5=i64 e/\aD G K (box d 155 c::aJ 155 Kf a1 c2 b::L) w) aF ?_
 ·rintro e b1 f d6 hm hr ⟨d7,b2⟩
  unfold tH at hm
  refine aC ?_
  rcases aG hm with ⟨b3,hm⟩|⟨b3,hm⟩
  ·refine aC ?_;refine bI (aC ?_)
   refine bC [0,3,5] (fun f w=>∃ x,aAb b e x=some b1/\f 27=zB x/\aD G K (box d 155 c::aJ 155 Kf a1 c2 b::L) w) aF ?_;obtain ⟨d8,y,z,b4,J⟩:=aD.lendBp b2 .head
   obtain ⟨d9,k,l,a,V⟩:=aD.lendSp b4 (zL n y) .head
   refine aIi ?_;refine aC ?_
   obtain ⟨b5,g,hm⟩:=aB hm
   have j:=aLy l g
   refine rO (fun _ a=>dG aAQ rfl j rfl rfl rfl g) (rO (fun _ a=>aRR (k':=e.toNat * 4+0) aLF j rfl rfl) ?_);obtain ⟨e0,e1,b7⟩:=aW.el (sz:=4) rfl l g
   obtain ⟨e2,e3,rfl,e4⟩:=b7
   refine aC ?_;refine rO (fun _ a=>lD (t:=0) sc_9 a (z.mono k) rfl rfl) (rO (fun _ a=>R_eqlS rfl rfl) (rO (fun _ a=>qT (v:=zB (b5.B == x_.B)) rfl) ?_))
   rcases aG hm with ⟨b8,hm⟩|⟨b8,hm⟩
   ·iterate 5 refine cV ?_
    refine rO (fun _ a=>dG aAQ rfl j rfl rfl rfl g) ?_
    iterate 1 refine cV ?_
    refine rO (fun _ a=>aRR (k':=e.toNat * 4+1) aLG j rfl rfl) (aC ?_);obtain ⟨e5,b9,c0⟩:=aW.el (sz:=4) rfl l g
    obtain ⟨e6,e7,rfl,c1⟩:=c0
    obtain ⟨c3,c5,hm⟩:=aB hm
    refine qW (vs:=[fL a1 (e.toNat * 4+1),fL (some ⟨d,0,none⟩) (0+1)]) (v:=zB c3) call69 rfl (fun _ a=>(aCq c5 a (eM.sub (t:=1) (m:=3) b9 rfl) c1 (eM.sub (t:=1) (m:=3) (z.mono k) rfl) (o.mono (zL (zL n y) k)))) (aC ?_);refine sJ (fun e8 c6=>?_)
    have c7:=V _ _ c6
    have e9:=J _ _ c7
    exact aF
   ·refine aC ?_;refine sJ (fun f0 c8=>?_)
    have c9:=V _ _ c8
    have f1:=J _ _ c9
    exact aF
  ·exact aF
end Gv
namespace Gv
open Gv.Hp renaming le_refl→zR
open Go.Value renaming slice→zS,bool→zB
open Option.some renaming inj→zI
open Gv.Hp renaming le_trans→zL
open Go Go.Proofs Go.Proofs.Tryz
set_option maxRecDepth 20000
set_option maxHeartbeats 40000000
variable {G:mL} {K Kf:Hp} {L:List eU} {w:World} {a1 a4 a7 a10 a13 a16 a3:Option Addr} {c2 c5 c8 c11 c14 c17 c4:Nat}
theorem aCr {rec_:(List Definition)->Int->Int->(List Int)->(List bF)->Option (List bF)} (ih:∀ {G:mL} {K:Hp} {L:List eU} {w:World} {Kf:Hp} {j:(List Definition)} {a1:Option Addr} {c2:Nat} {d:Int} {part:Int} {e:(List Int)} {a4:Option Addr} {c5:Nat} {out:(List bF)} {a7:Option Addr} {c8:Nat} {R:(List bF)} (hm:rec_ j d part e out=some R) (hs:aD G K (aJ 155 Kf a7 c8 out::L) w) (z:Hp.le Kf K) (V:aW K a1 c2 j) (x:aW K a4 c5 e),
  Calls prog 166 ([zS a1 j.length c2,i64 d,i64 part,zS a4 e.length c5,zS a7 out.length c8]:List Value).toArray w (cN fun v w'=>∃ K' b9 c0,v=zS b9 R.length c0/\Hp.le K K'/\aD G K' (aJ 155 K' b9 c0 R::L) w'))
  {G:mL} {K:Hp} {L:List eU} {w:World} {Kf:Hp} {j:(List Definition)} {a1:Option Addr} {c2:Nat} {d:Int} {part:Int} {e:(List Int)} {a4:Option Addr} {c5:Nat} {out:(List bF)} {a7:Option Addr} {c8:Nat} {R:(List bF)} (hm:bK rec_ j d part e out=some R) (hs:aD G K (aJ 155 Kf a7 c8 out::L) w) (z:Hp.le Kf K) (V:aW K a1 c2 j) (x:aW K a4 c5 e):
  Calls prog 166 ([zS a1 j.length c2,i64 d,i64 part,zS a4 e.length c5,zS a7 out.length c8]:List Value).toArray w (cN fun v w'=>∃ K' b9 c0,v=zS b9 R.length c0/\Hp.le K K'/\aD G K' (aJ 155 K' b9 c0 R::L) w'):=by
 let g1:=[zS a1 j.length c2,i64 d,i64 (wr (part+1)),zS a4 e.length c5,zS a7 out.length c8]
 let J:=aJ 155 K a7 c8 out
 let c1:=aJ 155 Kf a7 c8 out
 refine iS func166 rfl (by kernel_rfl) (by show (5:Nat)<=125;decide) ?_;unfold bK at hm
 refine dR (cW (v:=zS none 0 0) (cX (dR (bD (v:=zS a1 j.length c2) (bD (v:=i64 d) ?_)))));obtain ⟨e9,g2,hm⟩:=aB hm
 refine aL (xT aRb rfl V rfl rfl rfl g2) ?_;obtain ⟨q4,g3,i4⟩:=aW.el (sz:=3) rfl V g2
 obtain ⟨a3,a5,rfl,a6⟩:=i4
 refine aL (aOT (k':=d.toNat * 3+2) aOH rfl g3 rfl) (aL (lD (t:=2) sc_88 hs g3 rfl rfl) (cW (v:=zS a3 e9.Body.length a5) (cX (dR (bD (v:=zS a3 e9.Body.length a5) (bD (v:=i64 part) ?_))))));obtain ⟨a,g4,hm⟩:=aB hm
 refine aL (xT aLD rfl a6 rfl rfl rfl g4) ?_;obtain ⟨q5,i5,i6⟩:=aW.el (sz:=4) rfl a6 g4
 obtain ⟨b,c,rfl,d9⟩:=i6
 refine aL (pL (t:=0) (vs:=[i64 a.Kind,i64 a.Number,str a.Name,zS b a.Arguments.length c]) aSc hs i5 rfl rfl rfl) (pM (vs:=[i64 0,i64 0,str ([]:aH),zS none 0 0]) zeroValue186 hs rfl (fun g q6 i7=>(tB (i:=0) (ns:=[i64 a.Kind,i64 a.Number,str a.Name,zS b a.Arguments.length c]) (us:=[i64 a.Kind,i64 a.Number,str a.Name,zS b a.Arguments.length c]) sizeOf186 i7 rfl rfl rfl rfl rfl (xM rfl) rfl rfl (fun b2 (y:aD G K (box g 186 [i64 a.Kind,i64 a.Number,str a.Name,zS b a.Arguments.length c]::c1::L) b2)=>(cX (gG (dR (bD (v:=zS a7 out.length c8) (aL (vB (len:=out.length) aAQ rfl) (aL (R_gtr rfl rfl) (cX ?_)))))))))))
 rcases aG hm with ⟨e0,hm⟩|⟨e0,hm⟩
 ·refine dS e0 rfl (dR (bD (v:=zS a7 out.length c8) (cW (v:=zS a7 out.length c8) (cX ?_))))
  have q7:aD G K (box g 186 [i64 a.Kind,i64 a.Number,str a.Name,zS b a.Arguments.length c]::J::L) b2:=aD.weak (i:=1) y rfl (fun _ h=>aJ.mono z h)
  exact aF
 ·refine eK e0 rfl (kB (aM (gG (dR (aL (eR (t':=0) aIj rfl rfl) (aL (vE aFu y (i:=0) rfl rfl rfl) (cX (aI [] (fun f w=>∃ e1 e2 g5 g6,Hp.le K e1/\wY e2=some R/\f 4=zS g5 e2.length g6/\aD G e1 (aJ 155 e1 g5 g6 e2::L) w) aF (dR (aL (aHZ rfl rfl) (cW (v:=zB (a.Kind == 1)) (cX ?_))))))))))))
  rcases aG hm with ⟨e3,hm⟩|⟨e3,hm⟩
  ·refine dS e3 rfl (dR (bD (v:=i64 d) (bD (v:=i64 part) (aL (nM rfl rfl) (bD (v:=zS a4 e.length c5) ?_)))));obtain ⟨b3,i8,hm⟩:=aB hm
   refine cI (vs:=[zS a4 e.length c5]) call67 rfl (sE i8 y x) ?_
   rintro _ q8 ⟨b4,b5,rfl,i9⟩
   refine aL (gW (vs:=[(0,i64 d),(1,i64 (wr (part+1))),(2,zS b4 b3.length b5)]) (cs:=[i64 d,i64 (wr (part+1)),zS b4 b3.length b5]) aIk rfl (by kernel_rfl)) (pM (vs:=[i64 0,i64 0,zS none 0 0]) zeroValue123 i9 rfl (fun a8 q9 j0=>(tB (i:=0) (ns:=[i64 d,i64 (wr (part+1)),zS b4 b3.length b5]) (us:=[i64 d,i64 (wr (part+1)),zS b4 b3.length b5]) sizeOf123 j0 rfl rfl rfl rfl rfl (xM rfl) rfl rfl (fun j1 (e4:aD G K (box a8 123 [i64 d,i64 (wr (part+1)),zS b4 b3.length b5]::aJ 2 K b4 b5 b3::box g 186 [i64 a.Kind,i64 a.Number,str a.Name,zS b a.Arguments.length c]::c1::L) j1)=>(cX (sH [3,4,12,13] (fun f w=>∃ l m k n o,nG e out a l m k=some R/\aD G K (aJ 2 K n o k::box a8 123 [i64 l,i64 m,zS n k.length o]::box g 186 [i64 a.Kind,i64 a.Number,str a.Name,zS b a.Arguments.length c]::c1::L) w) ?_ ?_))))))
   ·rintro f j2 ⟨l,m,k,n,o,hm,j3⟩
    unfold nG at hm
    refine gG ?_
    have g7:aD G K (box a8 123 [i64 l,i64 m,zS n k.length o]::box g 186 [i64 a.Kind,i64 a.Number,str a.Name,zS b a.Arguments.length c]::aJ 2 K n o k::c1::L) j2:=(aD.arr 3 [1,2,0] j3 rfl)
    refine uD (C:=fun w'=>∃ L',aD G K (box a8 123 [i64 l,i64 m,zS n k.length o]::box g 186 [i64 a.Kind,i64 a.Number,str a.Name,zS b a.Arguments.length c]::L') w') [(0,0),(1,0),(2,0),(3,0),(4,0),(5,0),(8,0),(6,1),(7,1),(9,0),(10,1),(11,0)] Tryz_mixed (by kernel_rfl) (fun _ hg=>⟨_,aD.mono g7 hg⟩) (fun r0 j4=>?_)
    have a9:=aD.mono g7 j4
    refine fM rfl (fun _ _=>qT (v:=zS a7 out.length c8) rfl) (fM rfl (fun _ _=>eR (t':=2) aPi rfl rfl) (fM rfl (fun _ ⟨_,a9⟩=>vE sc_9 a9 (i:=1) rfl rfl rfl) (fM rfl (fun _ _=>eR (t':=3) aFN rfl rfl) (fM rfl (fun _ ⟨_,a9⟩=>vE aNc a9 (i:=1) rfl rfl rfl) (fM rfl (fun _ _=>qT (v:=zS a4 e.length c5) rfl) (fM rfl (fun _ ⟨_,a9⟩=>aFr (us:=[i64 l,i64 m,zS n k.length o]) xN a9 (i:=0) rfl rfl rfl rfl) (lM rfl ?_)))))))
    obtain ⟨d0,j5,hm⟩:=aB hm
    refine cI (vs:=[zS b a.Arguments.length c,zS a4 e.length c5]) call220 rfl (aEj j5 a9 d9 x) ?_
    rintro _ r1 ⟨d1,d2,rfl,g8⟩
    refine bQ (aM ⟨⟨_,(aD.arr 3 [1,2,0] g8 rfl)⟩,?_⟩)
    refine lM rfl ?_;obtain ⟨r2,r3,j6,j7,j8⟩:=aD.lendSp g8 (zR _) .head
    obtain ⟨d3,j9,hm⟩:=aB hm
    refine cI (vs:=[str a.Name,zS d1 d0.length d2]) call170 rfl (aIO j9 j7 j6) ?_
    rintro _ e5 ⟨rfl,k0⟩
    have g9:=j8 _ _ k0
    refine bQ (aM ⟨⟨_,(aD.arr 3 [1,2,0] g9 rfl)⟩,?_⟩)
    refine fM rfl (fun _ _=>gW (vs:=[(0,str d3),(1,Value.agg #[i64 l,i64 m,zS n k.length o])]) (cs:=[str d3,i64 l,i64 m,zS n k.length o]) bs_155 rfl (by kernel_rfl)) (lM rfl ?_);obtain ⟨b6,h0,k1,e6⟩:=aD.giveSp g9 (zR _) zt3
    replace e6:aD G b6 (aJ 2 K d1 d2 d0::box a8 123 [i64 l,i64 m,zS n k.length o]::box g 186 [i64 a.Kind,i64 a.Number,str a.Name,zS b a.Arguments.length c]::c1::L) e5:=e6
    have k2:aD G b6 (aJ 2 K d1 d2 d0::box a8 123 [i64 l,i64 m,zS n k.length o]::box g 186 [i64 a.Kind,i64 a.Number,str a.Name,zS b a.Arguments.length c]::aJ 155 b6 a7 c8 out::L) e5:=aD.weak (i:=3) e6 rfl (fun _ h=>aJ.mono (zL z h0) h)
    have k3:aD G b6 (aJ 155 b6 a7 c8 out::aJ 2 K d1 d2 d0::box a8 123 [i64 l,i64 m,zS n k.length o]::box g 186 [i64 a.Kind,i64 a.Number,str a.Name,zS b a.Arguments.length c]::L) e5:=(aD.arr 4 [3,0,1,2] k2 rfl)
    obtain ⟨k4,k5,hm⟩:=aB hm
    refine cI (vs:=[zS a7 out.length c8,Value.agg #[str d3,i64 l,i64 m,zS n k.length o]]) call221 rfl (aGd (Kf:=b6) (x_:=⟨d3,⟨l,m,k⟩⟩) k5 k3 (zR _) k1) ?_
    rintro _ r4 ⟨k6,k7,rfl,k8⟩
    refine bQ (aM ⟨⟨_,(aD.weakK (aD.arr 4 [2,3,0,1] k8 rfl) h0)⟩,?_⟩)
    exact fM rfl (fun _ _=>yV (v:=zS k6 k4.length k7) rfl) (yX aF)
   refine dR (bD (v:=zS a3 e9.Body.length a5) (bD (v:=i64 part) (aL (nM rfl rfl) ?_)));obtain ⟨k9,d4,hm⟩:=aB hm
   refine aL (xT aLD rfl a6 rfl rfl rfl d4) ?_;obtain ⟨r5,b7,l0⟩:=aW.el (sz:=4) rfl a6 d4
   obtain ⟨l1,l2,rfl,l3⟩:=l0
   refine aL (aOT (k':=(wr (part+1)).toNat * 4+0) aIj rfl b7 rfl) (aL (lD (t:=0) aFu e4 b7 rfl rfl) (aL (aHZ rfl rfl) (cX ?_)))
   rcases aG hm with ⟨h1,hm⟩|⟨h1,hm⟩
   ·refine dS h1 rfl (uD (C:=fun w'=>∃ L',aD G K L' w') [(0,0),(1,0),(2,0),(3,0),(4,0),(5,0),(6,0),(7,0),(8,0),(9,0),(10,0),(11,0),(12,0),(13,1),(14,0),(15,2)] Tryz_mixed (by kernel_rfl) (fun _ hg=>⟨_,aD.mono e4 hg⟩) (fun r6 l4=>?_))
    have c3:=aD.mono e4 l4
    refine fM rfl (fun _ _=>qT (v:=zS a3 e9.Body.length a5) rfl) (fM rfl (fun _ _=>qT (v:=i64 part) rfl) (fM rfl (fun _ _=>nM rfl rfl) (fM rfl (fun _ _=>xT aLD rfl a6 rfl rfl rfl d4) (fM rfl (fun _ _=>aOT (k':=(wr (part+1)).toNat * 4+1) aLE rfl b7 rfl) (fM rfl (fun _ ⟨_,c3⟩=>lD (t:=1) aFu c3 b7 rfl rfl) (fM rfl (fun _ _=>qT (v:=zS a3 e9.Body.length a5) rfl) (fM rfl (fun _ _=>qT (v:=i64 part) rfl) (fM rfl (fun _ _=>nM rfl rfl) (fM rfl (fun _ _=>xT aLD rfl a6 rfl rfl rfl d4) (fM rfl (fun _ _=>aOT (k':=(wr (part+1)).toNat * 4+3) aFN rfl b7 rfl) (fM rfl (fun _ ⟨_,c3⟩=>lD (t:=3) aNc c3 b7 rfl rfl) (fM rfl (fun _ _=>qT (v:=zS a4 e.length c5) rfl) (lM rfl ?_)))))))))))))
    obtain ⟨r7,l5,hm⟩:=aB hm
    exact cI (vs:=[zS l1 k9.Arguments.length l2,zS a4 e.length c5]) call220 rfl (aEj l5 c3 l3 x) aF
   ·exact aF
  ·refine eK e3 rfl (dR (aL (aHZ rfl rfl) (cW (v:=zB (a.Kind == 2)) (cX ?_))))
   rcases aG hm with ⟨e7,hm⟩|⟨e7,hm⟩
   ·refine dS e7 rfl (dR (bD (v:=zS a1 j.length c2) (bD (v:=i64 d) (bD (v:=i64 part) (aL (nM rfl rfl) (bD (v:=zS a4 e.length c5) (bD (v:=zS a7 out.length c8) ?_)))))))
    have l6:aD G K (box g 186 [i64 a.Kind,i64 a.Number,str a.Name,zS b a.Arguments.length c]::J::L) b2:=aD.weak (i:=1) y rfl (fun _ h=>aJ.mono z h)
    have l7:aD G K (J::box g 186 [i64 a.Kind,i64 a.Number,str a.Name,zS b a.Arguments.length c]::L) b2:=(aD.arr 2 [1,0] l6 rfl)
    obtain ⟨e8,l8,hm⟩:=aB hm
    refine cI (vs:=g1) call166 rfl (ih (Kf:=K) l8 l7 (zR _) V x) ?_
    rintro _ r8 ⟨l9,f0,f1,rfl,d5,m0⟩
    refine cW (v:=zS f0 e8.length f1) (cX (dR (bD (v:=zS a1 j.length c2) (bD (v:=i64 d) (bD (v:=zS a3 e9.Body.length a5) (bD (v:=i64 part) (aL (nM rfl rfl) ?_)))))));obtain ⟨m1,m2,hm⟩:=aB hm
    refine cI (vs:=[zS a3 e9.Body.length a5,i64 (wr (part+1))]) call222 rfl (aKq m2 m0 (a6.mono d5)) ?_
    rintro _ r9 ⟨rfl,m3⟩
    refine bD (v:=zS a4 e.length c5) (bD (v:=zS f0 e8.length f1) ?_);obtain ⟨m4,m5,hm⟩:=aB hm
    refine cI (vs:=[zS a1 j.length c2,i64 d,i64 m1,zS a4 e.length c5,zS f0 e8.length f1]) call166 rfl (ih (Kf:=l9) m5 m3 (zR _) (V.mono d5) (x.mono d5)) ?_
    rintro _ s0 ⟨m6,h2,h4,rfl,m7,m8⟩
    refine cW (v:=zS h2 m4.length h4) (cX ?_);obtain rfl:=zI hm
    exact aDC (kS (dX (dX (aRJ results166 rfl ⟨m6,h2,h4,rfl,(zL d5 m7),(aD.arr 2 [0] m8 rfl)⟩))))
   ·refine eK e7 rfl (dR (aL (aHZ rfl rfl) (cW (v:=zB (a.Kind == 3)) (cX ?_))))
    rcases aG hm with ⟨f2,hm⟩|⟨f2,hm⟩
    ·refine dS f2 rfl (dR (aL (eR (t':=3) aFN rfl rfl) (aL (vE aNc y (i:=0) rfl rfl rfl) ?_)));obtain ⟨n0,h5,hm⟩:=aB hm
     refine aL (xT aPj rfl d9 rfl rfl rfl h5) ?_;obtain ⟨s1,n1,n2⟩:=aW.el (sz:=1) rfl d9 h5
     obtain ⟨n3,n4,rfl,n5⟩:=n2
     refine aL (lD (t:=0) sc_274 y n1 rfl rfl) (bD (v:=zS a4 e.length c5) ?_);obtain ⟨s2,n6,hm⟩:=aB hm
     refine cI (vs:=[zS n3 n0.length n4,zS a4 e.length c5]) call223 rfl (aIR n6 y n5 x) ?_
     rintro _ f3 ⟨rfl,h7⟩
     refine aL (R_neq rfl rfl) (cX ?_)
     rcases aG hm with ⟨f4,hm⟩|⟨f4,hm⟩
     ·refine dS f4 rfl (dR (bD (v:=zS a1 j.length c2) (bD (v:=i64 d) (bD (v:=i64 part) (aL (nM rfl rfl) (bD (v:=zS a4 e.length c5) (bD (v:=zS a7 out.length c8) ?_)))))))
      have n7:aD G K (box g 186 [i64 a.Kind,i64 a.Number,str a.Name,zS b a.Arguments.length c]::J::L) f3:=aD.weak (i:=1) h7 rfl (fun _ h=>aJ.mono z h)
      have n8:aD G K (J::box g 186 [i64 a.Kind,i64 a.Number,str a.Name,zS b a.Arguments.length c]::L) f3:=(aD.arr 2 [1,0] n7 rfl)
      obtain ⟨s3,n9,hm⟩:=aB hm
      exact cI (vs:=g1) call166 rfl (ih (Kf:=K) n9 n8 (zR _) V x) aF
     ·refine eK f4 rfl ?_
      have s4:aD G K (box g 186 [i64 a.Kind,i64 a.Number,str a.Name,zS b a.Arguments.length c]::J::L) f3:=aD.weak (i:=1) h7 rfl (fun _ h=>aJ.mono z h)
      exact aF
    ·refine eK f2 rfl (dR (aL (aHZ rfl rfl) (cW (v:=zB (a.Kind == 4)) (cX ?_))))
     rcases aG hm with ⟨f5,hm⟩|⟨f5,hm⟩
     ·refine dS f5 rfl (dR (cW (v:=i64 0) (cX (aI [] (fun f w=>∃ c4 c6 d6 d7,Hp.le K c4/\wZ c6=some R/\f 4=zS d6 c6.length d7/\aD G c4 (aJ 155 c4 d6 d7 c6::L) w) ?_ ?_))))
      ·rintro f s5 ⟨c4,c6,d6,d7,o0,hm,o1,o2⟩
       unfold wZ at hm
       exact iU (aM ⟨bO,c4,c6,d6,d7,o0,hm,o1,o2⟩)
      have s6:aD G K (box g 186 [i64 a.Kind,i64 a.Number,str a.Name,zS b a.Arguments.length c]::J::L) b2:=aD.weak (i:=1) y rfl (fun _ h=>aJ.mono z h)
      obtain ⟨s7,o3,ho⟩:=aB hm
      refine bJ [0,1,2,3,12] o3 (fun p b0 f w=>∃ q r u,Hp.le K q/\f 4=zS r p.length u/\f 14=i64 b0/\aD G q (box g 186 [i64 a.Kind,i64 a.Number,str a.Name,zS b a.Arguments.length c]::aJ 155 q r u p::L) w) aF ?_
      ·rintro p b0 s8 f s9 hm hr ⟨q,r,u,b1,h8,f6,f7⟩
       unfold jS at hm
       refine gG (dR (kH f6 (aL (eR (t':=1) aLE rfl rfl) (aL (vE aFu f7 (i:=0) rfl rfl rfl) (aL (R_leq rfl rfl) (cX ?_))))))
       rcases aG hm with ⟨f8,hm⟩|⟨f8,hm⟩
       ·refine dS f8 rfl (kB (aM (gG (bI (eN (bD (v:=zS a1 j.length c2) (bD (v:=i64 d) (bD (v:=i64 part) (aL (nM rfl rfl) (bD (v:=zS a4 e.length c5) ?_))))))))));obtain ⟨o4,o5,hm⟩:=aB hm
        refine cI (vs:=[zS a4 e.length c5]) call67 rfl (sE o5 f7 (x.mono b1)) ?_
        rintro _ t0 ⟨o6,o7,rfl,o8⟩
        refine kH f6 (fQ (Kt:=K) (xs:=([b0]:List Int)) (cs:=[i64 b0]) (vs:=[(0,i64 b0)]) xU ez_2 rfl rfl o8 rfl (by kernel_rfl) rfl rfl rfl ⟨rfl,trivial⟩ (fun o9 p0 (p1:aD G q (aJ 2 K o9 1 ([b0]:List Int)::aJ 2 K o6 o7 o4::box g 186 [i64 a.Kind,i64 a.Number,str a.Name,zS b a.Arguments.length c]::aJ 155 q r u p::L) p0)=>?_));obtain ⟨h9,p2,hm⟩:=aB hm
        refine aLt (i:=0) xU underlying68 ez_2 rfl rfl p1 rfl b1 b1 p2 rfl rfl rfl rfl (fun _ h=>h) (fun i0 i1 d8 (p3:aD G q (aJ 2 K i0 i1 h9::box g 186 [i64 a.Kind,i64 a.Number,str a.Name,zS b a.Arguments.length c]::aJ 155 q r u p::L) d8)=>(kH h8 ?_));obtain ⟨b8,f9,p4,g0⟩:=aD.giveSp p3 b1 .head
        replace g0:aD G b8 (box g 186 [i64 a.Kind,i64 a.Number,str a.Name,zS b a.Arguments.length c]::aJ 155 q r u p::L) d8:=g0
        have p5:aD G b8 (box g 186 [i64 a.Kind,i64 a.Number,str a.Name,zS b a.Arguments.length c]::aJ 155 b8 r u p::L) d8:=aD.weak (i:=1) g0 rfl (fun _ h=>aJ.mono f9 h)
        have p6:aD G b8 (aJ 155 b8 r u p::box g 186 [i64 a.Kind,i64 a.Number,str a.Name,zS b a.Arguments.length c]::L) d8:=(aD.arr 2 [1,0] p5 rfl)
        obtain ⟨p7,p8,hm⟩:=aB hm
        refine cI (vs:=[zS a1 j.length c2,i64 d,i64 (wr (part+1)),zS i0 h9.length i1,zS r p.length u]) call166 rfl (ih (Kf:=b8) p8 p6 (zR _) (V.mono (zL b1 f9)) p4) ?_
        rintro _ t1 ⟨p9,i2,i3,rfl,q0,q1⟩
        exact cW (v:=zS i2 p7.length i3) (bQ (iU (aM (eN (kH f6 (aL (nM rfl rfl) (cW (v:=i64 (wr (b0+1))) (cX ⟨_,(zI hm).symm,bO,p9,i2,i3,(zL (zL b1 f9) q0),rfl,rfl,(aD.arr 2 [1,0] q1 rfl)⟩))))))))
       ·refine eK f8 rfl (aHY (uC (uC ?_)))
        have q2:=hr _ (zI hm).symm
        subst q2
        have hm:(wZ p)=some R:=ho
        clear hr ho
        exact aBH (aM ⟨bO,q,p,r,u,b1,hm,h8,(aD.arr 1 [] f7 rfl)⟩)
     ·refine eK f5 rfl ?_
      have q3:aD G K (box g 186 [i64 a.Kind,i64 a.Number,str a.Name,zS b a.Arguments.length c]::J::L) b2:=aD.weak (i:=1) y rfl (fun _ h=>aJ.mono z h)
      exact kB (iU (aM ⟨bO,K,out,a7,c8,(zR _),hm,rfl,(aD.arr 1 [] q3 rfl)⟩))
theorem aCs (n:Nat):∀ {G:mL} {K:Hp} {L:List eU} {w:World} {Kf:Hp} {a:(List Definition)} {a1:Option Addr} {c2:Nat} {d:Int} {part:Int} {b:(List Int)} {a4:Option Addr} {c5:Nat} {out:(List bF)} {a7:Option Addr} {c8:Nat} {R:(List bF)} (hm:bT n a d part b out=some R) (c:aD G K (aJ 155 Kf a7 c8 out::L) w) (e:Hp.le Kf K) (g:aW K a1 c2 a) (h:aW K a4 c5 b),
  Calls prog 166 ([zS a1 a.length c2,i64 d,i64 part,zS a4 b.length c5,zS a7 out.length c8]:List Value).toArray w (cN fun v w'=>∃ i j k,v=zS j R.length k/\Hp.le K i/\aD G i (aJ 155 i j k R::L) w'):=by
 induction n with
 |zero=>
  intro G K L w Kf a a1 c2 d part b a4 c5 out a7 c8 R hm c e g h
  unfold bT at hm
  cases hm
 |succ n ih=>
  intro G K L w Kf a a1 c2 d part b a4 c5 out a7 c8 R hm c e g h
  exact aCr (rec_:=bT n) (fun hm c e g h=>ih hm c e g h) hm c e g h
theorem aMj {list:(List Definition)} {d part:Int} {values:(List Int)} {out R:(List bF)} (hm:aGN list d part values out=some R) (hs:aD G K (aJ 155 Kf a7 c8 out::L) w) (hKf:Hp.le Kf K) (h3:aW K a1 c2 list) (h6:aW K a4 c5 values):
  Calls prog 166 ([zS a1 list.length c2,i64 d,i64 part,zS a4 values.length c5,zS a7 out.length c8]:List Value).toArray w (cN fun v w'=>∃ K' ra1 rc1,v=zS ra1 R.length rc1/\Hp.le K K'/\aD G K' (aJ 155 K' ra1 rc1 R::L) w'):=aCs 100000 hm hs hKf h3 h6
theorem aFe {a:(List Definition)} {p:GPoint} {c:Nat} {R:((List bF) × Bool)} (hm:rC a p=some R) (k:aD G K (L) w) (l:aW K a1 c2 a) (m:eM K a4 c [i64 p.Definition,i64 p.Part,zS a7 p.Values.length c8]) (n:aW K a7 c8 p.Values):
  Calls prog 106 ([zS a1 a.length c2,fL a4 c]:List Value).toArray w (cN fun v w'=>∃ b d e,v=Value.tuple #[zS d R.1.length e,zB R.2]/\Hp.le K b/\aD G b (aJ 155 b d e R.1::L) w'):=by
 refine cC func106 ?_;unfold rC at hm
 refine aC ?_;refine aKG [(0,0),(1,0),(2,0),(3,0),(4,0),(5,0),(6,0),(7,0),(8,0),(9,0),(10,0),(11,0),(12,0),(13,1),(14,1),(15,0)] fun o g=>?_
 refine aC ?_;refine lM rfl (fQ (Kt:=K) (xs:=([]:List bF)) (cs:=[]) (vs:=[]) aAQ aNd rfl rfl g rfl (by kernel_rfl) rfl rfl rfl trivial (fun h i (j:aD G K (aJ 155 K h 0 ([]:List bF)::L) i)=>(bQ (aM ⟨⟨_,j⟩,?_⟩))))
 exact lM rfl aF
theorem aIT {s_:aH} {R:Int} (hm:aDu s_=some R) (c:aD G K (L) w):
  Calls prog 167 ([str s_]:List Value).toArray w (cN fun v w'=>v=i64 R/\aD G K (L) w'):=by
 refine cC func167 ?_;unfold aDu at hm
 refine aC ?_;refine aI [0] (fun f w=>aLT s_=some R/\aD G K (L) w) aF ?_
 obtain ⟨d,a,ho⟩:=aB hm
 exact bL [0] a (fun b f w=>f 3=i64 b/\aD G K (L) w) aF aF
theorem pI {s_ R:aH} (hm:kV s_=some R) (a:aD G K (L) w):
  Calls prog 107 ([str s_]:List Value).toArray w (cN fun v w'=>v=str R/\aD G K (L) w'):=by
 exact aF
theorem aEk {a b:(List GPoint)} {R:Bool} (hm:aAW a b=some R) (g:aD G K (L) w) (h:aW K a1 c2 a) (i:aW K a4 c5 b):
  Calls prog 33 ([zS a1 a.length c2,zS a4 b.length c5]:List Value).toArray w (cN fun v w'=>v=zB R/\aD G K (L) w'):=by
 refine cC func33 ?_;unfold aAW at hm
 refine aC ?_
 rcases aG hm with ⟨c,hm⟩|⟨c,hm⟩
 ·exact aF
 ·refine aC ?_;refine aI [] (fun f w=>aLU=some R/\aD G K (L) w) aF ?_
  obtain ⟨j,d,ho⟩:=aB hm
  exact bL [0,1] d (fun e f w=>f 5=i64 e/\aD G K (L) w) aF aF
theorem aEl {s_:aR} {a:Nat} {b R:aH} (hm:aFY s_ b=some R) (c:aD G K (L) w) (d:eM K a1 a [zS a4 s_.Definitions.length c5,zS a7 s_.Components.length c8,zS a10 s_.Meetings.length c11,zS a13 s_.Allowed.length c14,zS a16 s_.Hidden.length c17]) (e:aW K a4 c5 s_.Definitions) (g:aW K a7 c8 s_.Components) (h:aW K a10 c11 s_.Meetings) (i:aW K a13 c14 s_.Allowed) (j:aW K a16 c17 s_.Hidden):
  Calls prog 109 ([fL a1 a,str b]:List Value).toArray w (cN fun v w'=>v=str R/\aD G K (L) w'):=by
 exact aF
theorem aHI {s_:aH} {by_:UInt8} {R:(List aH)} (hm:aDV s_ by_=some R) (z:aD G K (L) w):
  Calls prog 224 ([str s_,Value.int .u8 (by_.toNat:Int)]:List Value).toArray w (cN fun v w'=>∃ k l,v=zS k R.length l/\aD G K (aJ 9 K k l R::L) w'):=by
 refine cC func224 ?_;unfold aDV at hm
 refine aC ?_;refine vJ ([]:List aH) fun J V a0=>?_
 refine aC ?_;refine aI [0] (fun f w=>∃ d m n o,aFz s_ d m=some R/\f 5=zS n d.length o/\f 6=i64 m/\aD G K (aJ 9 K n o d::L) w) aF ?_
 obtain ⟨a2,q,ho⟩:=aB hm
 refine nO [0,1] q (fun e p g f w=>∃ h i,f 5=zS h e.length i/\f 6=i64 p/\f 7=i64 g/\aD G K (aJ 9 K h i e::L) w) aF ?_
 ·rintro e p g r f a3 hm hr ⟨h,i,a4,a6,a7,a8⟩
  unfold aBt at hm
  iterate 5 refine cV ?_
  refine aL (aDE runUnderlying9 rfl) (aC ?_)
  rcases aG hm with ⟨t,hm⟩|⟨t,hm⟩
  ·refine aC ?_;refine aI [0,1,7] (fun f w=>∃ a j b c,rY g a j=some r/\f 5=zS b a.length c/\f 6=i64 j/\aD G K (aJ 9 K b c a::L) w) ?_ ?_
   ·rintro f a9 ⟨a,j,b,c,hm,u,x,y⟩
    unfold rY at hm
    refine aC ?_;exact ⟨_,(zI hm).symm,bO,b,c,u,x,rfl,y⟩
   exact aF
  ·exact aF
theorem aGe {s_:aH} {R:(Int × Bool)} (hm:aBR s_=some R) (t:aD G K (L) w):
  Calls prog 225 ([str s_]:List Value).toArray w (cN fun v w'=>v=Value.tuple #[i64 R.1,zB R.2]/\aD G K (L) w'):=by
 refine cC func225 ?_;unfold aBR at hm
 iterate 11 refine cV ?_
 refine sH [0] (fun f w=>∃ c,tI s_ c=some R/\f 4=i64 c/\aD G K (L) w) ?_ ?_
 ·rintro f u ⟨c,hm,x,y⟩
  unfold tI at hm
  iterate 2 refine cV ?_
  refine bC [0,4] (fun f w=>∃ d,kW s_ c d=some R/\f 36=zB d/\aD G K (L) w) ?_ ?_
  ·rintro f z ⟨d,hm,J,V⟩
   unfold kW at hm
   refine aC ?_
   rcases aG hm with ⟨k,hm⟩|⟨k,hm⟩
   ·exact aF
   ·refine aC ?_;refine aI [4] (fun f w=>∃ e,aAc c e=some R/\f 5=i64 e/\aD G K (L) w) ?_ ?_
    ·rintro f a0 ⟨e,hm,a1,a2⟩
     unfold aAc at hm
     iterate 1 refine cV ?_
     exact sH [] (fun f w=>∃ h,aDW h=some R/\f 5=i64 h/\aD G K (L) w) aF aF
    obtain ⟨a3,l,ho⟩:=aB hm
    refine bJ [0,4] l (fun g i32 f w=>f 5=i64 g/\f 6=i64 i32/\aD G K (L) w) aF ?_
    ·rintro g i32 a4 f a5 hm hr ⟨a6,m,n⟩
     unfold pV at hm
     iterate 5 refine cV ?_
     refine aL (aDE runUnderlying9 rfl) (aC ?_)
     rcases aG hm with ⟨o,hm⟩|⟨o,hm⟩
     ·refine aC ?_;refine bI (aC ?_)
      obtain ⟨c45,i,hm⟩:=aB hm
      refine aL (R_ixS runUnderlying9 rfl rfl i) ?_;obtain ⟨a7,p,hm⟩:=aB hm
      refine dQ call163 (aHE p n) ?_
      rintro _ a8 ⟨rfl,q⟩
      refine aC ?_
      rcases aG hm with ⟨r,hm⟩|⟨r,hm⟩
      ·exact aF
      ·iterate 8 refine cV ?_
       exact aL (R_ixS runUnderlying9 rfl rfl i) (aL (aTc (a:=c45) (b:=(48:UInt8)) rfl rfl) (aL (aTa runUnderlying2 rfl ⟨_,runUnderlying5⟩) (aL (nM rfl rfl) (cW (v:=i64 (wr ((wr (10 * g))+(wr ((c45 - (48:UInt8)).toNat:Int))))) (bQ (iU (aM (eN (kH m (aL (nM rfl rfl) (cW (v:=i64 (wr (i32+1))) (cX ⟨_,(zI hm).symm,bO,rfl,rfl,q⟩))))))))))))
     ·exact aF
  exact aF
 iterate 1 refine cV ?_
 exact bC [0,4] (fun f w=>∃ j,aAd s_ j=some R/\f 14=zB j/\aD G K (L) w) aF aF
theorem aBf {s_:aH} {R:((List Int) × Bool)} (hm:yB s_=some R) (t:aD G K (L) w):
  Calls prog 168 ([str s_]:List Value).toArray w (cN fun v w'=>∃ h j,v=Value.tuple #[zS h R.1.length j,zB R.2]/\aD G K (aJ 2 K h j R.1::L) w'):=by
 refine cC func168 ?_;unfold yB at hm
 refine aC ?_;obtain ⟨u,x,hm⟩:=aB hm
 refine dQ call167 (aIT x t) ?_
 rintro _ w3 ⟨rfl,a8⟩
 iterate 8 refine cV ?_
 refine aL (aDE runUnderlying9 rfl) (aC ?_)
 rcases aG hm with ⟨y,hm⟩|⟨y,hm⟩
 ·exact aF
 ·iterate 5 refine cV ?_
  refine bC [0,4] (fun f w=>∃ d,tK s_ u d=some R/\f 31=zB d/\aD G K (L) w) ?_ ?_
  ·rintro f a9 ⟨d,hm,b0,z⟩
   unfold tK at hm
   refine aC ?_
   rcases aG hm with ⟨J,hm⟩|⟨J,hm⟩
   ·exact aF
   ·iterate 9 refine cV ?_
    refine aL (aDE runUnderlying9 rfl) (aC ?_);obtain ⟨b1,V,hm⟩:=aB hm
    refine aL (R_slSLH runUnderlying9 rfl rfl rfl V) ?_;obtain ⟨k,a0,hm⟩:=aB hm
    refine dQ call224 (aHI (by_:=(44:UInt8)) a0 z) ?_
    rintro _ b2 ⟨l,m,rfl,b3⟩
    refine aC ?_;refine vJ ([]:List Int) fun b4 b5 b6=>?_
    refine aC ?_;refine aI [] (fun f w=>∃ e n o,aIx e=some R/\f 6=zS n e.length o/\aD G K (aJ 2 K n o e::L) w) aF ?_
    obtain ⟨b7,a1,ho⟩:=aB hm
    refine bJ [5] a1 (fun a g f w=>∃ b c,f 6=zS b a.length c/\f 7=i64 g/\aD G K (aJ 2 K b c a::aJ 9 K l m k::L) w) aF ?_
    ·rintro a g a2 f b8 hm hr ⟨b,c,b9,c0,p⟩
     unfold tJ at hm
     refine aC ?_
     rcases aG hm with ⟨a3,hm⟩|⟨a3,hm⟩
     ·refine aC ?_;refine bI (aC ?_)
      obtain ⟨c1,q,hm⟩:=aB hm
      have a4:=cG p (i:=1) rfl q
      refine aL (dG sP rfl a4 rfl rfl rfl q) (aC ?_);obtain ⟨a5,a6,hm⟩:=aB hm
      refine dQ call225 (aGe a6 p) ?_
      rintro _ c2 ⟨rfl,c3⟩
      iterate 9 refine cV ?_
      exact bC [5,6,7,8] (fun f w=>∃ r,aAe a g a5 r=some a2/\f 61=zB r/\aD G K (aJ 2 K b c a::aJ 9 K l m k::L) w) aF aF
     ·exact aF
  exact aF
theorem aGf {rec_:(List aT)->aH->aH->Option aH} (i:∀ {G:mL} {K:Hp} {L:List eU} {w:World} {c:(List aT)} {a1:Option Addr} {c2:Nat} {a:aH} {b:aH} {R:aH} (hm:rec_ c a b=some R) (e:aD G K (L) w) (g:aW K a1 c2 c),
  Calls prog 169 ([zS a1 c.length c2,str a,str b]:List Value).toArray w (cN fun v w'=>v=str R/\aD G K (L) w'))
  {G:mL} {K:Hp} {L:List eU} {w:World} {c:(List aT)} {a1:Option Addr} {c2:Nat} {a:aH} {b:aH} {R:aH} (hm:tL rec_ c a b=some R) (e:aD G K (L) w) (g:aW K a1 c2 c):
  Calls prog 169 ([zS a1 c.length c2,str a,str b]:List Value).toArray w (cN fun v w'=>v=str R/\aD G K (L) w'):=by
 refine cC func169 ?_;unfold tL at hm
 refine aC ?_
 rcases aG hm with ⟨j,hm⟩|⟨j,hm⟩
 ·refine aC ?_;obtain ⟨o,k,hm⟩:=aB hm
  exact dQ call169 (i k e g) aF
 ·refine aC ?_;refine aI [] (fun f w=>aGO=some R/\aD G K (L) w) aF ?_
  obtain ⟨p,l,ho⟩:=aB hm
  refine bL [0,1,2] l (fun d f w=>f 7=i64 d/\aD G K (L) w) aF ?_
  ·rintro d m f q hm hr ⟨r,t⟩
   unfold uM at hm
   refine aC ?_
   rcases aG hm with ⟨n,hm⟩|⟨n,hm⟩
   ·refine aC ?_;refine bI ?_
    iterate 1 refine cV ?_
    exact bC [0,1,2,7] (fun f w=>∃ h,aCW c d h=some m/\f 36=zB h/\aD G K (L) w) aF aF
   ·exact aF
theorem aGg (n:Nat):∀ {G:mL} {K:Hp} {L:List eU} {w:World} {c:(List aT)} {a1:Option Addr} {c2:Nat} {a:aH} {b:aH} {R:aH} (hm:tM n c a b=some R) (d:aD G K (L) w) (e:aW K a1 c2 c),
  Calls prog 169 ([zS a1 c.length c2,str a,str b]:List Value).toArray w (cN fun v w'=>v=str R/\aD G K (L) w'):=by
 induction n with
 |zero=>
  intro G K L w c a1 c2 a b R hm d e
  unfold tM at hm
  cases hm
 |succ n ih=>
  intro G K L w c a1 c2 a b R hm d e
  exact aGf (rec_:=tM n) (fun hm d e=>ih hm d e) hm d e
theorem aIU {list:(List aT)} {a b R:aH} (hm:aJC list a b=some R) (hs:aD G K (L) w) (h3:aW K a1 c2 list):
  Calls prog 169 ([zS a1 list.length c2,str a,str b]:List Value).toArray w (cN fun v w'=>v=str R/\aD G K (L) w'):=aGg 100000 hm hs h3
theorem aIV {s_:aR} {d:Nat} {a b R:aH} (hm:aFZ s_ a b=some R) (k:aD G K (L) w) (h3:eM K a1 d [zS a4 s_.Definitions.length c5,zS a7 s_.Components.length c8,zS a10 s_.Meetings.length c11,zS a13 s_.Allowed.length c14,zS a16 s_.Hidden.length c17]) (h6:aW K a4 c5 s_.Definitions) (h9:aW K a7 c8 s_.Components) (l:aW K a10 c11 s_.Meetings) (b4:aW K a13 c14 s_.Allowed) (b5:aW K a16 c17 s_.Hidden):
  Calls prog 110 ([fL a1 d,str a,str b]:List Value).toArray w (cN fun v w'=>v=str R/\aD G K (L) w'):=by
 refine cC func110 ?_;unfold aFZ at hm
 refine aC ?_;obtain ⟨e,m,hm⟩:=aB hm
 refine dQ call168 (aBf m k) ?_
 rintro _ b6 ⟨n,o,rfl,p⟩
 refine aC ?_;obtain ⟨b7,q,hm⟩:=aB hm
 refine dQ call168 (aBf q p) ?_
 rintro _ b8 ⟨b9,c0,rfl,r⟩
 refine aC ?_;obtain ⟨c1,t,u,x,y⟩:=aD.lendSp r (zR _) zt1
 obtain ⟨c2,z,J,V,a0⟩:=aD.lendSp x t .head
 obtain ⟨c3,a2,hm⟩:=aB hm
 refine dQ call111 (aIS a2 V (u.mono z) J) ?_
 rintro _ c4 ⟨rfl,a3⟩
 have a5:=a0 _ _ a3
 have c:=y _ _ a5
 refine aC ?_
 rcases aG hm with ⟨a6,hm⟩|⟨a6,hm⟩
 ·exact aF
 ·refine aC ?_;refine aIi ?_
  refine aC ?_;obtain ⟨g,a8,hm⟩:=aB hm
  refine qW (vs:=[str a]) (v:=str g) call107 rfl (fun _ c=>(pI a8 c)) (aC ?_);obtain ⟨h,a9,hm⟩:=aB hm
  refine qW (vs:=[str b]) (v:=str h) call107 rfl (fun _ c=>(pI a9 c)) ?_;obtain ⟨i,b0,hm⟩:=aB hm
  refine qW (vs:=[zS a10 s_.Meetings.length c11,str g,str h]) (v:=str i) call169 rfl (fun _ c=>(aIU b0 c l)) (aC ?_);refine sJ (fun c6 c7=>?_)
  iterate 3 refine cV ?_
  exact bC [7,11] (fun f w=>∃ j,aCX e i j=some R/\f 45=zB j/\aD G K (aJ 2 K n o e.1::L) w) aF aF
theorem aBg {a:(List aN)} {x_:aN} {R:(List aN)} (hm:yC a x_=some R) (hs:aD G K (aJ 105 Kf a1 c2 a::L) w) (b0:Hp.le Kf K) (p:aW Kf a3 c4 x_.State):
  Calls prog 108 ([zS a1 a.length c2,Value.agg #[str x_.B,i64 x_.First,i64 x_.Second,zS a3 x_.State.length c4]]:List Value).toArray w (cN fun v w'=>∃ j k,v=zS j R.length k/\aD G K (aJ 105 Kf j k R::L) w'):=by
 let b:=[str x_.B,i64 x_.First,i64 x_.Second,zS a3 x_.State.length c4]
 refine cC func108 ?_;unfold yC at hm
 refine aC ?_;refine sL fun c w7 b2=>?_
 refine aC ?_;refine aI [0,3] (fun f w=>tN a x_=some R/\aD G K (box c 105 b::aJ 105 Kf a1 c2 a::L) w) ?_ ?_
 ·rintro f w9 ⟨hm,q⟩
  unfold tN at hm
  refine aC ?_;refine fQ (Kt:=Kf) (xs:=([x_]:List aN)) (cs:=b) (vs:=[(0,Value.agg #[str x_.B,i64 x_.First,i64 x_.Second,zS a3 x_.State.length c4])]) aFv aNe rfl rfl q rfl (by kernel_rfl) rfl rfl rfl ⟨⟨a3,c4,rfl,p⟩,trivial⟩ (fun r u (x:aD G K (aJ 105 Kf r 1 ([x_]:List aN)::box c 105 b::aJ 105 Kf a1 c2 a::L) u)=>?_)
  obtain ⟨y,z,hm⟩:=aB hm
  refine sO (i:=1) Kf aFv underlying101 aNe rfl rfl x rfl (zR _) (zR _) z rfl rfl rfl rfl (fun _ _ _ h=>El.one h) (fun l m J (b4:aD G K (box c 105 b::aJ 105 Kf l m y::L) J)=>(aC ?_));obtain rfl:=zI hm
  exact st_E results108 ⟨l,m,rfl,nC⟩
 obtain ⟨b5,a0,ho⟩:=aB hm
 refine bL [0,3] a0 (fun e f w=>f 5=i64 e/\aD G K (box c 105 b::aJ 105 Kf a1 c2 a::L) w) aF ?_
 ·rintro e a2 f b7 hm hr ⟨b8,n⟩
  unfold tO at hm
  refine aC ?_
  rcases aG hm with ⟨a4,hm⟩|⟨a4,hm⟩
  ·refine aC ?_;refine bI (aC ?_)
   obtain ⟨d,g,hm⟩:=aB hm
   have a5:=cG n (i:=1) rfl g
   refine aL (dG aFv rfl a5 rfl rfl rfl g) ?_;obtain ⟨b9,a6,a7⟩:=oS (sz:=4) rfl n (i:=1) rfl g
   obtain ⟨a8,c45,rfl,c0⟩:=a7
   refine aL (R_ldCG (t:=0) (vs:=[str d.B,i64 d.First,i64 d.Second,zS a8 d.State.length c45]) ag_105 a6 rfl rfl rfl) (pO fun c1 c3 c5=>?_);refine nB fun c6 c7=>?_
   iterate 3 refine cV ?_
   exact bC [0,3,5] (fun f w=>∃ o,pW a e o=some a2/\f 42=zB o/\aD G K (box c 105 b::aJ 105 Kf a1 c2 a::L) w) aF aF
  ·exact aF
end Gv
