/- Walks, printed by program. -/
import Derived.Test.YtiipffjapfalhaaGreatDoorJWk1
set_option linter.all false
namespace Gv
open Gv.Hp renaming le_refl→zR
open Go.Value renaming slice→zS,bool→zB,agg→zA
open Option.some renaming inj→zI
open Gv.Hp renaming le_trans→zL
open Go Go.Proofs Go.Proofs.Tryz
set_option maxRecDepth 20000
set_option maxHeartbeats 40000000
variable {G:nX} {K Kf:Hp} {L:List fJ} {w:World} {a1 a4 a7 a10 a13 a16 a3:Option Addr} {c2 c5 c8 c11 c14 c17 c4:Nat}
theorem aMP {a:(List aO)} {R:Bool} (hm:aAp a=some R) (d:aF G K (L) w) (e:bK K a1 c2 a):
  Calls prog 103 ([zS a1 a.length c2]:List Value).toArray w (dD fun v w'=>v=zB R/\aF G K (L) w'):=by
 refine aBe func103 ?_;unfold aAp at hm
 refine tD ?_;refine aQ [] (fun f w=>aHV=some R/\aF G K (L) w) aL ?_
 obtain ⟨g,b,ho⟩:=aB hm
 exact cE [0] b (fun c f w=>f 3=i64 c/\aF G K (L) w) aL aL
theorem aPb {a:(List aO)} {R:Bool} (hm:aBs a=some R) (g:aF G K (L) w) (h:bK K a1 c2 a):
  Calls prog 69 ([zS a1 a.length c2]:List Value).toArray w (dD fun v w'=>v=zB R/\aF G K (L) w'):=by
 refine aBe func69 ?_;unfold aBs at hm
 iterate 7 refine aBL ?_
 refine bQ [0] (fun f w=>∃ b,wK a b=some R/\f 11=zB b/\aF G K (L) w) ?_ ?_
 ·rintro f i ⟨b,hm,j,k⟩
  unfold wK at hm
  refine tD ?_
  rcases aM hm with ⟨c,hm⟩|⟨c,hm⟩
  ·exact aL
  ·refine tD ?_;refine aQ [] (fun f w=>aKL=some R/\aF G K (L) w) aL ?_
   obtain ⟨l,d,ho⟩:=aB hm
   exact cE [0] d (fun e f w=>f 3=i64 e/\aF G K (L) w) aL aL
 exact aL
theorem aPc {s_:bE} {a:Nat} {R:Int} (hm:aHn s_=some R) (b:aF G K (L) w) (c:eU K a1 a [zS a4 s_.Definitions.length c5,zS a7 s_.Components.length c8,zS a10 s_.Meetings.length c11,zS a13 s_.Allowed.length c14,zS a16 s_.Hidden.length c17]) (d:bK K a4 c5 s_.Definitions) (e:bK K a7 c8 s_.Components) (g:bK K a10 c11 s_.Meetings) (h:bK K a13 c14 s_.Allowed) (i:bK K a16 c17 s_.Hidden):
  Calls prog 41 ([dS a1 a]:List Value).toArray w (dD fun v w'=>v=i64 R/\aF G K (L) w'):=by
 exact aL
theorem aMQ {s_:bE} {a:Nat} {R:Bool} (hm:aMw s_=some R) (b:aF G K (L) w) (c:eU K a1 a [zS a4 s_.Definitions.length c5,zS a7 s_.Components.length c8,zS a10 s_.Meetings.length c11,zS a13 s_.Allowed.length c14,zS a16 s_.Hidden.length c17]) (d:bK K a4 c5 s_.Definitions) (e:bK K a7 c8 s_.Components) (g:bK K a10 c11 s_.Meetings) (h:bK K a13 c14 s_.Allowed) (i:bK K a16 c17 s_.Hidden):
  Calls prog 17 ([dS a1 a]:List Value).toArray w (dD fun v w'=>v=zB R/\aF G K (L) w'):=by
 exact aL
theorem aJp {a b:(List Int)} {R:Bool} (hm:aEb a b=some R) (g:aF G K (L) w) (h:bK K a1 c2 a) (i:bK K a4 c5 b):
  Calls prog 75 ([zS a1 a.length c2,zS a4 b.length c5]:List Value).toArray w (dD fun v w'=>v=zB R/\aF G K (L) w'):=by
 refine aBe func75 ?_;unfold aEb at hm
 refine tD ?_
 rcases aM hm with ⟨c,hm⟩|⟨c,hm⟩
 ·exact aL
 ·refine tD ?_;refine aQ [] (fun f w=>aMx=some R/\aF G K (L) w) aL ?_
  obtain ⟨j,d,ho⟩:=aB hm
  exact cE [0,1] d (fun e f w=>f 5=i64 e/\aF G K (L) w) aL aL
theorem aDf {a:GPoint} {c:Nat} {b:GPoint} {d:Nat} {R:Bool} (hm:qA a b=some R) (g:aF G K (L) w) (h:eU K a1 c [i64 a.Definition,i64 a.Part,zS a4 a.Values.length c5]) (i:bK K a4 c5 a.Values) (j:eU K a7 d [i64 b.Definition,i64 b.Part,zS a10 b.Values.length c11]) (k:bK K a10 c11 b.Values):
  Calls prog 46 ([dS a1 c,dS a7 d]:List Value).toArray w (dD fun v w'=>v=zB R/\aF G K (L) w'):=by
 refine aBe func46 ?_;unfold qA at hm
 refine tD ?_;exact bQ [] (fun f w=>∃ e,oK e=some R/\f 4=zB e/\aF G K (L) w) aL aL
theorem aEN {a b:(List GPoint)} {R:Bool} (hm:aBt a b=some R) (g:aF G K (L) w) (h:bK K a1 c2 a) (i:bK K a4 c5 b):
  Calls prog 19 ([zS a1 a.length c2,zS a4 b.length c5]:List Value).toArray w (dD fun v w'=>v=zB R/\aF G K (L) w'):=by
 refine aBe func19 ?_;unfold aBt at hm
 refine tD ?_
 rcases aM hm with ⟨c,hm⟩|⟨c,hm⟩
 ·exact aL
 ·refine tD ?_;refine aQ [] (fun f w=>aMy=some R/\aF G K (L) w) aL ?_
  obtain ⟨j,d,ho⟩:=aB hm
  exact cE [0,1] d (fun e f w=>f 5=i64 e/\aF G K (L) w) aL aL
theorem xD {a R:(List Int)} (hm:wL a=some R) (d:aF G K (L) w) (e:bK K a1 c2 a):
  Calls prog 70 ([zS a1 a.length c2]:List Value).toArray w (dD fun v w'=>∃ b c,v=zS b R.length c/\aF G K (aP 2 K b c R::L) w'):=by
 exact aL
theorem aIg {s_:bE} {y:Nat} {R:(List GPoint)} (hm:aEF s_=some R) (hs:aF G K (L) w) (h3:eU K a1 y [zS a4 s_.Definitions.length c5,zS a7 s_.Components.length c8,zS a10 s_.Meetings.length c11,zS a13 s_.Allowed.length c14,zS a16 s_.Hidden.length c17]) (h6:bK K a4 c5 s_.Definitions) (h9:bK K a7 c8 s_.Components) (d6:bK K a10 c11 s_.Meetings) (d7:bK K a13 c14 s_.Allowed) (d8:bK K a16 c17 s_.Hidden):
  Calls prog 42 ([dS a1 y]:List Value).toArray w (dD fun v w'=>∃ p z J,v=zS z R.length J/\Hp.le K p/\aF G p (aP 97 p z J R::L) w'):=by
 refine aBe func42 ?_;unfold aEF at hm
 refine tD ?_;refine dU (Kt:=K) (xs:=([]:List GPoint)) (cs:=[]) (vs:=[]) gR aDb rfl rfl hs rfl (by kernel_rfl) rfl rfl rfl trivial (fun b0 b1 (d9:aF G K (aP 97 K b0 0 ([]:List GPoint)::L) b1)=>(tD ?_))
 refine aQ [] (fun f w=>∃ q r V a0,Hp.le K q/\aKM r=some R/\f 3=zS V r.length a0/\aF G q (aP 97 q V a0 r::L) w) aL ?_;obtain ⟨e0,b2,ho⟩:=aB hm
 refine cA [0] b2 (fun d a2 f w=>∃ b e g,Hp.le K b/\f 3=zS e d.length g/\f 4=i64 a2/\aF G b (aP 97 b e g d::L) w) aL ?_
 ·rintro d a2 e1 f e2 hm hr ⟨b,e,g,t,e3,e4,e5⟩
  unfold wM at hm
  refine tD ?_
  rcases aM hm with ⟨b3,hm⟩|⟨b3,hm⟩
  ·refine tD ?_;refine bT (tD ?_)
   obtain ⟨a,b4,hm⟩:=aB hm
   refine tD ?_;obtain ⟨e6,e7,b5⟩:=bK.el (sz:=2) rfl h9 b4
   obtain ⟨k,l,rfl,b6⟩:=b5
   refine tD ?_;refine aGf fun m e8 e9=>?_
   refine aFe fun b7 b8=>?_;refine tD ?_
   have a3:aF G b (box m 103 [i64 a.Definition,zS k a.Values.length l]::aP 97 b e g d::L) b7:=b8
   refine iC (C:=fun w'=>∃ L',aF G b (box m 103 [i64 a.Definition,zS k a.Values.length l]::L') w') [(0,0),(1,0),(2,0),(3,0),(4,0),(5,1),(6,0),(7,1),(8,1),(9,0)] Tryz_mixed (by kernel_rfl) (fun _ hg=>⟨_,aF.mono a3 hg⟩) (fun f0 b9=>?_)
   have c0:=aF.mono a3 b9
   refine tD ?_;refine nT rfl ?_
   obtain ⟨j,c1,hm⟩:=aB hm
   refine aCO call70 (xD c1 c0 (b6.mono t)) ?_
   rintro _ c2 ⟨n,o,rfl,c3⟩
   refine bN (aD ⟨⟨_,aDq⟩,?_⟩)
   refine bW rfl (fun _ _=>jE (vs:=[(0,i64 a.Definition),(2,zS n j.length o)]) (cs:=[i64 a.Definition,i64 0,zS n j.length o]) aPS rfl (by kernel_rfl)) (nT rfl ?_);obtain ⟨c,u,c4,x⟩:=aF.giveSp c3 t .head
   replace x:aF G c (box m 103 [i64 a.Definition,zS k a.Values.length l]::aP 97 b e g d::L) c2:=x
   refine dU (Kt:=c) (xs:=([⟨a.Definition,0,j⟩]:List GPoint)) (cs:=[i64 a.Definition,i64 0,zS n j.length o]) (vs:=[(0,zA #[i64 a.Definition,i64 0,zS n j.length o])]) gR aDb rfl rfl x rfl (by kernel_rfl) rfl rfl rfl ⟨⟨n,o,rfl,c4⟩,trivial⟩ (fun c6 c7 (c9:aF G c (aP 97 c c6 1 ([⟨a.Definition,0,j⟩]:List GPoint)::box m 103 [i64 a.Definition,zS k a.Values.length l]::aP 97 b e g d::L) c7)=>(bN (aD ⟨⟨_,aDq⟩,?_⟩)))
   refine nT rfl ?_;obtain ⟨d0,d1,hm⟩:=aB hm
   refine xP (i:=1) c gR underlying56 aDb rfl rfl c9 rfl u (zR _) d1 rfl rfl rfl rfl (fun _ _ _ h=>El.one h) (fun a5 a6 d2 (d3:aF G c (box m 103 [i64 a.Definition,zS k a.Values.length l]::aP 97 c a5 a6 d0::L) d2)=>(bN (aD ⟨⟨_,(aF.weakK d3 u)⟩,?_⟩)))
   refine tD ?_;refine aCP (tD ?_)
   exact ⟨_,(zI hm).symm,bZ,c,a5,a6,(zL t u),rfl,rfl,aDq⟩
  ·exact aL
theorem sX {n R:(List GPoint)} (hm:aAq n=some R) (hs:aF G K (L) w) (h3:bK K a1 c2 n):
  Calls prog 47 ([zS a1 n.length c2]:List Value).toArray w (dD fun v w'=>∃ o u x,v=zS u R.length x/\Hp.le K o/\aF G o (aP 97 o u x R::L) w'):=by
 refine aBe func47 ?_;unfold aAq at hm
 refine tD ?_;refine dU (Kt:=K) (xs:=([]:List GPoint)) (cs:=[]) (vs:=[]) gR aDb rfl rfl hs rfl (by kernel_rfl) rfl rfl rfl trivial (fun a4 w5 (c5:aF G K (aP 97 K a4 0 ([]:List GPoint)::L) w5)=>(tD ?_))
 refine aQ [] (fun f w=>∃ p q y z,Hp.le K p/\aOC q=some R/\f 3=zS y q.length z/\aF G p (aP 97 p y z q::L) w) aL ?_;obtain ⟨c6,b0,ho⟩:=aB hm
 refine cA [0] b0 (fun e J f w=>∃ c g j,Hp.le K c/\f 3=zS g e.length j/\f 4=i64 J/\aF G c (aP 97 c g j e::L) w) aL ?_
 ·rintro e J c7 f c8 hm hr ⟨c,g,j,r,c9,d0,d1⟩
  unfold aCq at hm
  refine tD ?_
  rcases aM hm with ⟨b1,hm⟩|⟨b1,hm⟩
  ·refine tD ?_;refine bT (st_w [(0,0),(1,0),(2,0),(3,0),(4,0),(5,0),(6,0),(7,0),(8,0),(9,0),(10,0),(11,0),(12,0),(13,0),(14,0),(15,0),(16,1),(17,0),(18,1),(19,1),(20,0)] fun d2 b2=>?_)
   refine tD ?_;obtain ⟨a,b3,hm⟩:=aB hm
   refine tD ?_;obtain ⟨d3,d4,b4⟩:=bK.el (sz:=3) rfl h3 b3
   obtain ⟨d5,d6,rfl,b5⟩:=b4
   refine tD ?_;refine nT rfl ?_
   obtain ⟨d,b6,hm⟩:=aB hm
   refine aCO call70 (xD b6 b2 (b5.mono r)) ?_
   rintro _ b7 ⟨k,l,rfl,V⟩
   refine bN (aD ⟨⟨_,V⟩,?_⟩)
   refine bW rfl (fun _ _=>jE (vs:=[(0,i64 a.Definition),(1,i64 a.Part),(2,zS k d.length l)]) (cs:=[i64 a.Definition,i64 a.Part,zS k d.length l]) aPS rfl (by kernel_rfl)) (nT rfl ?_);obtain ⟨b,m,b8,t⟩:=aF.giveSp V r .head
   replace t:aF G b (aP 97 c g j e::L) b7:=t
   refine dU (Kt:=b) (xs:=([⟨a.Definition,a.Part,d⟩]:List GPoint)) (cs:=[i64 a.Definition,i64 a.Part,zS k d.length l]) (vs:=[(0,zA #[i64 a.Definition,i64 a.Part,zS k d.length l])]) gR aDb rfl rfl t rfl (by kernel_rfl) rfl rfl rfl ⟨⟨k,l,rfl,b8⟩,trivial⟩ (fun b9 c0 (a0:aF G b (aP 97 b b9 1 ([⟨a.Definition,a.Part,d⟩]:List GPoint)::aP 97 c g j e::L) c0)=>(bN (aD ⟨⟨_,(aF.weakK a0 m)⟩,?_⟩)))
   refine nT rfl ?_;obtain ⟨c1,c3,hm⟩:=aB hm
   refine xP (i:=0) b gR underlying56 aDb rfl rfl a0 rfl m (zR _) c3 rfl rfl rfl rfl (fun _ _ _ h=>El.one h) (fun a2 a3 c4 (a5:aF G b (aP 97 b a2 a3 c1::L) c4)=>(bN (aD ⟨⟨_,(aF.weakK a5 m)⟩,?_⟩)))
   refine tD ?_;refine aCP (tD ?_)
   exact ⟨_,(zI hm).symm,bZ,b,a2,a3,(zL r m),rfl,rfl,a5⟩
  ·exact aL
theorem aAW {a:(List aO)} {s_:aO} {R:Int} (hm:qB a s_=some R) (d:aF G K (L) w) (e:bK K a1 c2 a):
  Calls prog 72 ([zS a1 a.length c2,str s_]:List Value).toArray w (dD fun v w'=>v=i64 R/\aF G K (L) w'):=by
 refine aBe func72 ?_;unfold qB at hm
 refine tD ?_;refine aQ [] (fun f w=>aMz=some R/\aF G K (L) w) aL ?_
 obtain ⟨g,b,ho⟩:=aB hm
 exact cE [0,1] b (fun c f w=>f 5=i64 c/\aF G K (L) w) aL aL
theorem aRp {n:Int} {R:aO} (hm:aIU n=some R) (hs:aF G K (L) w):
  Calls prog 243 ([i64 n]:List Value).toArray w (dD fun v w'=>v=str R/\aF G K (L) w'):=by
 refine aBe func243 ?_;unfold aIU at hm
 refine tD ?_
 rcases aM hm with ⟨x,hm⟩|⟨x,hm⟩
 ·exact aL
 ·refine tD ?_;refine aIs ([]:List UInt8) fun a3 w4 a9=>?_
  refine tD ?_;refine aQ [0] (fun f w=>∃ c k l,aFv n c=some R/\f 3=zS k c.length l/\aF G K (aP 5 K k l c::L) w) ?_ ?_
  ·rintro f b0 ⟨c,k,l,hm,e9,b2⟩
   unfold aFv at hm
   iterate 1 refine aBL ?_
   refine rB [] (fun f w=>∃ a d e,aCr a=some R/\f 3=zS d a.length e/\aF G K (aP 5 K d e a::L) w) ?_ ?_
   ·rintro f b3 ⟨a,d,e,hm,b4,b5⟩
    unfold aCr at hm
    refine tD ?_;refine aIs ([]:List UInt8) fun b6 b7 b8=>?_
    refine tD ?_;refine aQ [] (fun f w=>∃ g m o,aIT g=some R/\f 6=zS m g.length o/\aF G K (aP 5 K m o g::L) w) ?_ ?_
    ·rintro f b9 ⟨g,m,o,hm,c0,y⟩
     unfold aIT at hm
     refine tD ?_;refine aC (aRM underlying140 underlying5 underlying9 y (i:=0) rfl rfl rfl) (tD ?_)
     obtain rfl:=zI hm
     exact st_E results243 ⟨rfl,aDq⟩
    obtain ⟨c2,J,ho⟩:=aB hm
    exact cA [3] J (fun q V f w=>∃ r t,f 6=zS r q.length t/\f 7=i64 V/\aF G K (aP 5 K r t q::aP 5 K d e a::L) w) aL aL
   exact aL
  obtain ⟨c3,a0,ho⟩:=aB hm
  refine cA [0] a0 (fun b p f w=>∃ h j,f 3=zS h b.length j/\f 4=i64 p/\aF G K (aP 5 K h j b::L) w) aL ?_
  ·rintro b p a1 f c4 hm hr ⟨h,j,c5,c6,c7⟩
   unfold aCs at hm
   refine tD ?_
   rcases aM hm with ⟨a2,hm⟩|⟨a2,hm⟩
   ·refine tD ?_;refine bT (tD ?_)
    obtain ⟨c9,a4,hm⟩:=aB hm
    refine aC (R_rem rfl rfl a4) ?_
    iterate 3 refine aBL ?_
    exact rB [0,3,4] (fun f w=>∃ u,aFw b p u=some a1/\f 5=i64 u/\aF G K (aP 5 K h j b::L) w) aL aL
   ·exact aL
theorem aQr {a:(List Int)} {R:aO} (hm:aGt a=some R) (k:aF G K (L) w) (l:bK K a1 c2 a):
  Calls prog 207 ([zS a1 a.length c2]:List Value).toArray w (dD fun v w'=>v=str R/\aF G K (L) w'):=by
 refine aBe func207 ?_;unfold aGt at hm
 refine tD ?_
 rcases aM hm with ⟨g,hm⟩|⟨g,hm⟩
 ·exact aL
 ·refine tD ?_;refine aQ [] (fun f w=>∃ c,aMA c=some R/\f 3=str c/\aF G K (L) w) aL ?_
  obtain ⟨m,h,ho⟩:=aB hm
  refine cA [0] h (fun d b f w=>f 3=str d/\f 4=i64 b/\aF G K (L) w) aL ?_
  ·rintro d b i f n hm hr ⟨o,p,q⟩
   unfold rH at hm
   refine tD ?_
   rcases aM hm with ⟨j,hm⟩|⟨j,hm⟩
   ·refine tD ?_;exact bT (rB [0,4] (fun f w=>∃ e,aDF a b e=some i/\f 3=str e/\aF G K (L) w) aL aL)
   ·exact aL
theorem aJq {b:aO} {a:(List Int)} {R:aO} (hm:aGu b a=some R) (c:aF G K (L) w) (d:bK K a1 c2 a):
  Calls prog 154 ([str b,zS a1 a.length c2]:List Value).toArray w (dD fun v w'=>v=str R/\aF G K (L) w'):=by
 exact aL
theorem aPd {b:Bool} {R:Int} (hm:lX b=some R) (a:aF G K (L) w):
  Calls prog 285 ([zB b]:List Value).toArray w (dD fun v w'=>v=i64 R/\aF G K (L) w'):=by
 exact aL
theorem aKX {e:(List aW)} {k R:Int} (hm:aIX e k=some R) (g:aF G K (L) w) (h:bK K a1 c2 e):
  Calls prog 286 ([zS a1 e.length c2,i64 k]:List Value).toArray w (dD fun v w'=>v=i64 R/\aF G K (L) w'):=by
 refine aBe func286 ?_;unfold aIX at hm
 refine tD ?_;refine aQ [] (fun f w=>∃ a,aIV a=some R/\f 1=i64 a/\aF G K (L) w) aL ?_
 obtain ⟨i,b,ho⟩:=aB hm
 exact cA [0] b (fun c d f w=>f 1=i64 c/\f 5=i64 d/\aF G K (L) w) aL aL
theorem aTg {op a b R:Int} (hm:aFx op a b=some R) (n:aF G K (L) w):
  Calls prog 287 ([i64 op,i64 a,i64 b]:List Value).toArray w (dD fun v w'=>v=i64 R/\aF G K (L) w'):=by
 refine aBe func287 ?_;unfold aFx at hm
 refine tD ?_;refine bT (tD ?_)
 rcases aM hm with ⟨e,hm⟩|⟨e,hm⟩
 ·exact aL
 ·refine tD ?_
  rcases aM hm with ⟨g,hm⟩|⟨g,hm⟩
  ·exact aL
  ·refine tD ?_
   rcases aM hm with ⟨h,hm⟩|⟨h,hm⟩
   ·exact aL
   ·refine tD ?_
    rcases aM hm with ⟨i,hm⟩|⟨i,hm⟩
    ·exact aL
    ·refine tD ?_
     rcases aM hm with ⟨j,hm⟩|⟨j,hm⟩
     ·exact aL
     ·refine tD ?_
      rcases aM hm with ⟨k,hm⟩|⟨k,hm⟩
      ·exact aL
      ·refine tD ?_
       rcases aM hm with ⟨l,hm⟩|⟨l,hm⟩
       ·exact aL
       ·refine tD ?_
        rcases aM hm with ⟨m,hm⟩|⟨m,hm⟩
        ·iterate 2 refine aBL ?_
         exact bQ [] (fun f w=>∃ c,aLt c=some R/\f 6=i64 c/\aF G K (L) w) aL aL
        ·iterate 5 refine aBL ?_
         exact bQ [] (fun f w=>∃ d,aLu d=some R/\f 6=i64 d/\aF G K (L) w) aL aL
theorem aJr {rec_:(List aW)->(List Int)->Int->Option Int} (d:∀ {G:nX} {K:Hp} {L:List fJ} {w:World} {e:(List aW)} {a1:Option Addr} {c2:Nat} {a:(List Int)} {a4:Option Addr} {c5:Nat} {k:Int} {R:Int} (hm:rec_ e a k=some R) (g:aF G K (L) w) (b:bK K a1 c2 e) (c:bK K a4 c5 a),
  Calls prog 242 ([zS a1 e.length c2,zS a4 a.length c5,i64 k]:List Value).toArray w (dD fun v w'=>v=i64 R/\aF G K (L) w'))
  {G:nX} {K:Hp} {L:List fJ} {w:World} {e:(List aW)} {a1:Option Addr} {c2:Nat} {a:(List Int)} {a4:Option Addr} {c5:Nat} {k:Int} {R:Int} (hm:vB rec_ e a k=some R) (g:aF G K (L) w) (b:bK K a1 c2 e) (c:bK K a4 c5 a):
  Calls prog 242 ([zS a1 e.length c2,zS a4 a.length c5,i64 k]:List Value).toArray w (dD fun v w'=>v=i64 R/\aF G K (L) w'):=by
 refine aBe func242 ?_;unfold vB at hm
 refine tD ?_;obtain ⟨u,h,hm⟩:=aB hm
 refine tD ?_;obtain ⟨x,y,i⟩:=bK.el (sz:=2) rfl b h
 cases i
 refine tD ?_;refine bT (tD ?_)
 rcases aM hm with ⟨j,hm⟩|⟨j,hm⟩
 ·exact aL
 ·refine tD ?_
  rcases aM hm with ⟨l,hm⟩|⟨l,hm⟩
  ·exact aL
  ·refine tD ?_
   rcases aM hm with ⟨m,hm⟩|⟨m,hm⟩
   ·refine tD ?_;obtain ⟨z,n,hm⟩:=aB hm
    exact aCO call242 (d n g b c) aL
   ·refine tD ?_;obtain ⟨J,o,hm⟩:=aB hm
    refine aCO call242 (d o g b c) ?_
    rintro _ V ⟨rfl,p⟩
    refine tD ?_;obtain ⟨a0,q,hm⟩:=aB hm
    refine aCO call286 (aKX q p b) ?_
    rintro _ a2 ⟨rfl,r⟩
    obtain ⟨a3,t,hm⟩:=aB hm
    exact aCO call242 (d t r b c) aL
theorem aJs (n:Nat):∀ {G:nX} {K:Hp} {L:List fJ} {w:World} {e:(List aW)} {a1:Option Addr} {c2:Nat} {a:(List Int)} {a4:Option Addr} {c5:Nat} {k:Int} {R:Int} (hm:vC n e a k=some R) (b:aF G K (L) w) (c:bK K a1 c2 e) (d:bK K a4 c5 a),
  Calls prog 242 ([zS a1 e.length c2,zS a4 a.length c5,i64 k]:List Value).toArray w (dD fun v w'=>v=i64 R/\aF G K (L) w'):=by
 induction n with
 |zero=>
  intro G K L w e a1 c2 a a4 c5 k R hm b c d
  unfold vC at hm
  cases hm
 |succ n ih=>
  intro G K L w e a1 c2 a a4 c5 k R hm b c d
  exact aJr (rec_:=vC n) (fun hm b c d=>ih hm b c d) hm b c d
theorem aTh {e:(List aW)} {values:(List Int)} {k R:Int} (hm:aTe e values k=some R) (hs:aF G K (L) w) (h3:bK K a1 c2 e) (h6:bK K a4 c5 values):
  Calls prog 242 ([zS a1 e.length c2,zS a4 values.length c5,i64 k]:List Value).toArray w (dD fun v w'=>v=i64 R/\aF G K (L) w'):=aJs 100000 hm hs h3 h6
theorem aJt {e:(List aW)} {a:(List Int)} {R:Int} (hm:aBu e a=some R) (b:aF G K (L) w) (c:bK K a1 c2 e) (d:bK K a4 c5 a):
  Calls prog 204 ([zS a1 e.length c2,zS a4 a.length c5]:List Value).toArray w (dD fun v w'=>v=i64 R/\aF G K (L) w'):=by
 exact aL
theorem aEO {a:(List (List aW))} {b R:(List Int)} (hm:aEc a b=some R) (m:aF G K (L) w) (n:bK K a1 c2 a) (o:bK K a4 c5 b):
  Calls prog 201 ([zS a1 a.length c2,zS a4 b.length c5]:List Value).toArray w (dD fun v w'=>∃ d e,v=zS d R.length e/\aF G K (aP 2 K d e R::L) w'):=by
 refine aBe func201 ?_;unfold aEc at hm
 refine tD ?_;refine aIs ([]:List Int) fun p q r=>?_
 refine tD ?_;refine aQ [] (fun f w=>∃ c g h,aMB c=some R/\f 5=zS g c.length h/\aF G K (aP 2 K g h c::L) w) aL ?_
 obtain ⟨t,l,ho⟩:=aB hm
 exact cA [0,1] l (fun i i32 f w=>∃ j k,f 5=zS j i.length k/\f 6=i64 i32/\aF G K (aP 2 K j k i::L) w) aL aL
theorem aGz {b:(List bR)} {x_:bR} {R:(List bR)} (hm:yX b x_=some R) (hs:aF G K (aP 176 Kf a1 c2 b::L) w) (n:Hp.le Kf K) (o:bK Kf a3 c4 x_.Next.Values):
  Calls prog 202 ([zS a1 b.length c2,zA #[str x_.B,i64 x_.Next.Definition,i64 x_.Next.Part,zS a3 x_.Next.Values.length c4]]:List Value).toArray w (dD fun v w'=>∃ p q,v=zS p R.length q/\aF G K (aP 176 Kf p q R::L) w'):=by
 let c:=[str x_.B,i64 x_.Next.Definition,i64 x_.Next.Part,zS a3 x_.Next.Values.length c4]
 refine aBe func202 ?_;unfold yX at hm
 refine tD ?_;refine aGh fun d w7 d2=>?_
 refine tD ?_;refine aQ [0,3] (fun f w=>tU b x_=some R/\aF G K (box d 176 c::aP 176 Kf a1 c2 b::L) w) ?_ ?_
 ·rintro f w9 ⟨hm,a0⟩
  unfold tU at hm
  refine tD ?_;refine dU (Kt:=Kf) (xs:=([x_]:List bR)) (cs:=c) (vs:=[(0,zA #[str x_.B,i64 x_.Next.Definition,i64 x_.Next.Part,zS a3 x_.Next.Values.length c4])]) mM aNH rfl rfl a0 rfl (by kernel_rfl) rfl rfl rfl ⟨⟨a3,c4,rfl,o⟩,trivial⟩ (fun a2 a4 (a5:aF G K (aP 176 Kf a2 1 ([x_]:List bR)::box d 176 c::aP 176 Kf a1 c2 b::L) a4)=>?_)
  obtain ⟨a6,a7,hm⟩:=aB hm
  refine xP (i:=1) Kf mM underlying172 aNH rfl rfl a5 rfl (zR _) (zR _) a7 rfl rfl rfl rfl (fun _ _ _ h=>El.one h) (fun r u a8 (d4:aF G K (box d 176 c::aP 176 Kf r u a6::L) a8)=>(tD ?_));obtain rfl:=zI hm
  exact st_E results202 ⟨r,u,rfl,aDq⟩
 obtain ⟨d5,b0,ho⟩:=aB hm
 refine cE [0,3] b0 (fun e f w=>f 5=i64 e/\aF G K (box d 176 c::aP 176 Kf a1 c2 b::L) w) aL ?_
 ·rintro e b1 f d6 hm hr ⟨d7,b2⟩
  unfold tV at hm
  refine tD ?_
  rcases aM hm with ⟨b3,hm⟩|⟨b3,hm⟩
  ·refine tD ?_;refine bT (tD ?_)
   refine bQ [0,3,5] (fun f w=>∃ x,aAr b e x=some b1/\f 27=zB x/\aF G K (box d 176 c::aP 176 Kf a1 c2 b::L) w) aL ?_;obtain ⟨d8,y,z,b4,J⟩:=aF.lendBp b2 .head
   obtain ⟨d9,k,l,a,V⟩:=aF.lendSp b4 (zL n y) .head
   refine aRj ?_;refine tD ?_
   obtain ⟨b5,g,hm⟩:=aB hm
   have j:=aJX l g
   refine bU (fun _ a=>dH mM rfl j rfl rfl rfl g) (bU (fun _ a=>sZ (k':=e.toNat * 4+0) sC j rfl rfl) ?_);obtain ⟨e0,e1,b7⟩:=bK.el (sz:=4) rfl l g
   obtain ⟨e2,e3,rfl,e4⟩:=b7
   refine tD ?_;refine bU (fun _ a=>cD (t:=0) pE a (z.mono k) rfl rfl) (bU (fun _ a=>aLh rfl rfl) (bU (fun _ a=>bM (v:=zB (b5.B == x_.B)) rfl) ?_))
   rcases aM hm with ⟨b8,hm⟩|⟨b8,hm⟩
   ·iterate 5 refine aBL ?_
    refine bU (fun _ a=>dH mM rfl j rfl rfl rfl g) ?_
    iterate 1 refine aBL ?_
    refine bU (fun _ a=>sZ (k':=e.toNat * 4+1) wD j rfl rfl) (tD ?_);obtain ⟨e5,b9,c0⟩:=bK.el (sz:=4) rfl l g
    obtain ⟨e6,e7,rfl,c1⟩:=c0
    obtain ⟨c3,c5,hm⟩:=aB hm
    refine pL (vs:=[dS a1 (e.toNat * 4+1),dS (some ⟨d,0,none⟩) (0+1)]) (v:=zB c3) call46 rfl (fun _ a=>(aDf c5 a (eU.sub (t:=1) (m:=3) b9 rfl) c1 (eU.sub (t:=1) (m:=3) (z.mono k) rfl) (o.mono (zL (zL n y) k)))) (tD ?_);refine pU (fun e8 c6=>?_)
    have c7:=V _ _ c6
    have e9:=J _ _ c7
    exact aL
   ·refine tD ?_;refine pU (fun f0 c8=>?_)
    have c9:=V _ _ c8
    have f1:=J _ _ c9
    exact aL
  ·exact aL
theorem aDg {rec_:(List Definition)->Int->Int->(List Int)->(List bR)->Option (List bR)} (ih:∀ {G:nX} {K:Hp} {L:List fJ} {w:World} {Kf:Hp} {j:(List Definition)} {a1:Option Addr} {c2:Nat} {d:Int} {part:Int} {e:(List Int)} {a4:Option Addr} {c5:Nat} {out:(List bR)} {a7:Option Addr} {c8:Nat} {R:(List bR)} (hm:rec_ j d part e out=some R) (hs:aF G K (aP 176 Kf a7 c8 out::L) w) (z:Hp.le Kf K) (V:bK K a1 c2 j) (x:bK K a4 c5 e),
  Calls prog 150 ([zS a1 j.length c2,i64 d,i64 part,zS a4 e.length c5,zS a7 out.length c8]:List Value).toArray w (dD fun v w'=>∃ K' b9 c0,v=zS b9 R.length c0/\Hp.le K K'/\aF G K' (aP 176 K' b9 c0 R::L) w'))
  {G:nX} {K:Hp} {L:List fJ} {w:World} {Kf:Hp} {j:(List Definition)} {a1:Option Addr} {c2:Nat} {d:Int} {part:Int} {e:(List Int)} {a4:Option Addr} {c5:Nat} {out:(List bR)} {a7:Option Addr} {c8:Nat} {R:(List bR)} (hm:bV rec_ j d part e out=some R) (hs:aF G K (aP 176 Kf a7 c8 out::L) w) (z:Hp.le Kf K) (V:bK K a1 c2 j) (x:bK K a4 c5 e):
  Calls prog 150 ([zS a1 j.length c2,i64 d,i64 part,zS a4 e.length c5,zS a7 out.length c8]:List Value).toArray w (dD fun v w'=>∃ K' b9 c0,v=zS b9 R.length c0/\Hp.le K K'/\aF G K' (aP 176 K' b9 c0 R::L) w'):=by
 let g1:=[zS a1 j.length c2,i64 d,i64 (wr (part+1)),zS a4 e.length c5,zS a7 out.length c8]
 let J:=aP 176 K a7 c8 out
 let c1:=aP 176 Kf a7 c8 out
 refine aN func150 rfl (by kernel_rfl) (by show (5:Nat)<=125;decide) ?_;unfold bV at hm
 refine aK (aG (v:=zS none 0 0) (aH (aK (aI (v:=zS a1 j.length c2) (aI (v:=i64 d) ?_)))));obtain ⟨e9,g2,hm⟩:=aB hm
 refine aC (dQ yQ rfl V rfl rfl rfl g2) ?_;obtain ⟨q4,g3,i4⟩:=bK.el (sz:=3) rfl V g2
 obtain ⟨a3,a5,rfl,a6⟩:=i4
 refine aC (fV (k':=d.toNat * 3+2) wC rfl g3 rfl) (aC (cD (t:=2) aKH hs g3 rfl rfl) (aG (v:=zS a3 e9.Body.length a5) (aH (aK (aI (v:=zS a3 e9.Body.length a5) (aI (v:=i64 part) ?_))))));obtain ⟨a,g4,hm⟩:=aB hm
 refine aC (dQ yP rfl a6 rfl rfl rfl g4) ?_;obtain ⟨q5,i5,i6⟩:=bK.el (sz:=4) rfl a6 g4
 obtain ⟨b,c,rfl,d9⟩:=i6
 refine aC (eQ (t:=0) (vs:=[i64 a.Kind,i64 a.Number,str a.Name,zS b a.Arguments.length c]) aHf hs i5 rfl rfl rfl) (cN (vs:=[i64 0,i64 0,str ([]:aO),zS none 0 0]) zeroValue159 hs rfl (fun g q6 i7=>(dT (i:=0) (ns:=[i64 a.Kind,i64 a.Number,str a.Name,zS b a.Arguments.length c]) (us:=[i64 a.Kind,i64 a.Number,str a.Name,zS b a.Arguments.length c]) sizeOf159 i7 rfl rfl rfl rfl rfl (fW rfl) rfl rfl (fun b2 (y:aF G K (box g 159 [i64 a.Kind,i64 a.Number,str a.Name,zS b a.Arguments.length c]::c1::L) b2)=>(aH (aJ (aK (aI (v:=zS a7 out.length c8) (aC (bD (len:=out.length) mM rfl) (aC (aIx rfl rfl) (aH ?_)))))))))))
 rcases aM hm with ⟨e0,hm⟩|⟨e0,hm⟩
 ·refine aU e0 rfl (aK (aI (v:=zS a7 out.length c8) (aG (v:=zS a7 out.length c8) (aH ?_))))
  have q7:aF G K (box g 159 [i64 a.Kind,i64 a.Number,str a.Name,zS b a.Arguments.length c]::J::L) b2:=aF.weak (i:=1) y rfl (fun _ h=>aP.mono z h)
  exact aL
 ·refine aR e0 rfl (bA (aD (aJ (aK (aC (bG (t':=0) sB rfl rfl) (aC (cX kQ y (i:=0) rfl rfl rfl) (aH (aQ [] (fun f w=>∃ e1 e2 g5 g6,Hp.le K e1/\xT e2=some R/\f 4=zS g5 e2.length g6/\aF G e1 (aP 176 e1 g5 g6 e2::L) w) aL (aK (aC (jA rfl rfl) (aG (v:=zB (a.Kind == 1)) (aH ?_))))))))))))
  rcases aM hm with ⟨e3,hm⟩|⟨e3,hm⟩
  ·refine aU e3 rfl (aK (aI (v:=i64 d) (aI (v:=i64 part) (aC (cP rfl rfl) (aI (v:=zS a4 e.length c5) ?_)))));obtain ⟨b3,i8,hm⟩:=aB hm
   refine aT (vs:=[zS a4 e.length c5]) call70 rfl (xD i8 y x) ?_
   rintro _ q8 ⟨b4,b5,rfl,i9⟩
   refine aC (jE (vs:=[(0,i64 d),(1,i64 (wr (part+1))),(2,zS b4 b3.length b5)]) (cs:=[i64 d,i64 (wr (part+1)),zS b4 b3.length b5]) aPS rfl (by kernel_rfl)) (cN (vs:=[i64 0,i64 0,zS none 0 0]) zeroValue97 i9 rfl (fun a8 q9 j0=>(dT (i:=0) (ns:=[i64 d,i64 (wr (part+1)),zS b4 b3.length b5]) (us:=[i64 d,i64 (wr (part+1)),zS b4 b3.length b5]) sizeOf97 j0 rfl rfl rfl rfl rfl (fW rfl) rfl rfl (fun j1 (e4:aF G K (box a8 97 [i64 d,i64 (wr (part+1)),zS b4 b3.length b5]::aP 2 K b4 b5 b3::box g 159 [i64 a.Kind,i64 a.Number,str a.Name,zS b a.Arguments.length c]::c1::L) j1)=>(aH (rB [3,4,12,13] (fun f w=>∃ l m k n o,nY e out a l m k=some R/\aF G K (aP 2 K n o k::box a8 97 [i64 l,i64 m,zS n k.length o]::box g 159 [i64 a.Kind,i64 a.Number,str a.Name,zS b a.Arguments.length c]::c1::L) w) ?_ ?_))))))
   ·rintro f j2 ⟨l,m,k,n,o,hm,j3⟩
    unfold nY at hm
    refine aJ ?_
    have g7:aF G K (box a8 97 [i64 l,i64 m,zS n k.length o]::box g 159 [i64 a.Kind,i64 a.Number,str a.Name,zS b a.Arguments.length c]::aP 2 K n o k::c1::L) j2:=(aF.arr 3 [1,2,0] j3 rfl)
    refine iC (C:=fun w'=>∃ L',aF G K (box a8 97 [i64 l,i64 m,zS n k.length o]::box g 159 [i64 a.Kind,i64 a.Number,str a.Name,zS b a.Arguments.length c]::L') w') [(0,0),(1,0),(2,0),(3,0),(4,0),(5,0),(8,0),(6,1),(7,1),(9,0),(10,1),(11,0)] Tryz_mixed (by kernel_rfl) (fun _ hg=>⟨_,aF.mono g7 hg⟩) (fun r0 j4=>?_)
    have a9:=aF.mono g7 j4
    refine bW rfl (fun _ _=>bM (v:=zS a7 out.length c8) rfl) (bW rfl (fun _ _=>bG (t':=2) aMf rfl rfl) (bW rfl (fun _ ⟨_,a9⟩=>cX pE a9 (i:=1) rfl rfl rfl) (bW rfl (fun _ _=>bG (t':=3) wB rfl rfl) (bW rfl (fun _ ⟨_,a9⟩=>cX aFV a9 (i:=1) rfl rfl rfl) (bW rfl (fun _ _=>bM (v:=zS a4 e.length c5) rfl) (bW rfl (fun _ ⟨_,a9⟩=>jB (us:=[i64 l,i64 m,zS n k.length o]) aBh a9 (i:=0) rfl rfl rfl rfl) (nT rfl ?_)))))))
    obtain ⟨d0,j5,hm⟩:=aB hm
    refine aT (vs:=[zS b a.Arguments.length c,zS a4 e.length c5]) call201 rfl (aEO j5 a9 d9 x) ?_
    rintro _ r1 ⟨d1,d2,rfl,g8⟩
    refine bN (aD ⟨⟨_,(aF.arr 3 [1,2,0] g8 rfl)⟩,?_⟩)
    refine nT rfl ?_;obtain ⟨r2,r3,j6,j7,j8⟩:=aF.lendSp g8 (zR _) .head
    obtain ⟨d3,j9,hm⟩:=aB hm
    refine aT (vs:=[str a.Name,zS d1 d0.length d2]) call154 rfl (aJq j9 j7 j6) ?_
    rintro _ e5 ⟨rfl,k0⟩
    have g9:=j8 _ _ k0
    refine bN (aD ⟨⟨_,(aF.arr 3 [1,2,0] g9 rfl)⟩,?_⟩)
    refine bW rfl (fun _ _=>jE (vs:=[(0,str d3),(1,zA #[i64 l,i64 m,zS n k.length o])]) (cs:=[str d3,i64 l,i64 m,zS n k.length o]) bs_176 rfl (by kernel_rfl)) (nT rfl ?_);obtain ⟨b6,h0,k1,e6⟩:=aF.giveSp g9 (zR _) zt3
    replace e6:aF G b6 (aP 2 K d1 d2 d0::box a8 97 [i64 l,i64 m,zS n k.length o]::box g 159 [i64 a.Kind,i64 a.Number,str a.Name,zS b a.Arguments.length c]::c1::L) e5:=e6
    have k2:aF G b6 (aP 2 K d1 d2 d0::box a8 97 [i64 l,i64 m,zS n k.length o]::box g 159 [i64 a.Kind,i64 a.Number,str a.Name,zS b a.Arguments.length c]::aP 176 b6 a7 c8 out::L) e5:=aF.weak (i:=3) e6 rfl (fun _ h=>aP.mono (zL z h0) h)
    have k3:aF G b6 (aP 176 b6 a7 c8 out::aP 2 K d1 d2 d0::box a8 97 [i64 l,i64 m,zS n k.length o]::box g 159 [i64 a.Kind,i64 a.Number,str a.Name,zS b a.Arguments.length c]::L) e5:=(aF.arr 4 [3,0,1,2] k2 rfl)
    obtain ⟨k4,k5,hm⟩:=aB hm
    refine aT (vs:=[zS a7 out.length c8,zA #[str d3,i64 l,i64 m,zS n k.length o]]) call202 rfl (aGz (Kf:=b6) (x_:=⟨d3,⟨l,m,k⟩⟩) k5 k3 (zR _) k1) ?_
    rintro _ r4 ⟨k6,k7,rfl,k8⟩
    refine bN (aD ⟨⟨_,(aF.weakK (aF.arr 4 [2,3,0,1] k8 rfl) h0)⟩,?_⟩)
    exact bW rfl (fun _ _=>jH (v:=zS k6 k4.length k7) rfl) (aCP aL)
   refine aK (aI (v:=zS a3 e9.Body.length a5) (aI (v:=i64 part) (aC (cP rfl rfl) ?_)));obtain ⟨k9,d4,hm⟩:=aB hm
   refine aC (dQ yP rfl a6 rfl rfl rfl d4) ?_;obtain ⟨r5,b7,l0⟩:=bK.el (sz:=4) rfl a6 d4
   obtain ⟨l1,l2,rfl,l3⟩:=l0
   refine aC (fV (k':=(wr (part+1)).toNat * 4+0) sB rfl b7 rfl) (aC (cD (t:=0) kQ e4 b7 rfl rfl) (aC (jA rfl rfl) (aH ?_)))
   rcases aM hm with ⟨h1,hm⟩|⟨h1,hm⟩
   ·refine aU h1 rfl (iC (C:=fun w'=>∃ L',aF G K L' w') [(0,0),(1,0),(2,0),(3,0),(4,0),(5,0),(6,0),(7,0),(8,0),(9,0),(10,0),(11,0),(12,0),(13,1),(14,0),(15,2)] Tryz_mixed (by kernel_rfl) (fun _ hg=>⟨_,aF.mono e4 hg⟩) (fun r6 l4=>?_))
    have c3:=aF.mono e4 l4
    refine bW rfl (fun _ _=>bM (v:=zS a3 e9.Body.length a5) rfl) (bW rfl (fun _ _=>bM (v:=i64 part) rfl) (bW rfl (fun _ _=>cP rfl rfl) (bW rfl (fun _ _=>dQ yP rfl a6 rfl rfl rfl d4) (bW rfl (fun _ _=>fV (k':=(wr (part+1)).toNat * 4+1) aII rfl b7 rfl) (bW rfl (fun _ ⟨_,c3⟩=>cD (t:=1) kQ c3 b7 rfl rfl) (bW rfl (fun _ _=>bM (v:=zS a3 e9.Body.length a5) rfl) (bW rfl (fun _ _=>bM (v:=i64 part) rfl) (bW rfl (fun _ _=>cP rfl rfl) (bW rfl (fun _ _=>dQ yP rfl a6 rfl rfl rfl d4) (bW rfl (fun _ _=>fV (k':=(wr (part+1)).toNat * 4+3) wB rfl b7 rfl) (bW rfl (fun _ ⟨_,c3⟩=>cD (t:=3) aFV c3 b7 rfl rfl) (bW rfl (fun _ _=>bM (v:=zS a4 e.length c5) rfl) (nT rfl ?_)))))))))))))
    obtain ⟨r7,l5,hm⟩:=aB hm
    exact aT (vs:=[zS l1 k9.Arguments.length l2,zS a4 e.length c5]) call201 rfl (aEO l5 c3 l3 x) aL
   ·exact aL
  ·refine aR e3 rfl (aK (aC (jA rfl rfl) (aG (v:=zB (a.Kind == 2)) (aH ?_))))
   rcases aM hm with ⟨e7,hm⟩|⟨e7,hm⟩
   ·refine aU e7 rfl (aK (aI (v:=zS a1 j.length c2) (aI (v:=i64 d) (aI (v:=i64 part) (aC (cP rfl rfl) (aI (v:=zS a4 e.length c5) (aI (v:=zS a7 out.length c8) ?_)))))))
    have l6:aF G K (box g 159 [i64 a.Kind,i64 a.Number,str a.Name,zS b a.Arguments.length c]::J::L) b2:=aF.weak (i:=1) y rfl (fun _ h=>aP.mono z h)
    have l7:aF G K (J::box g 159 [i64 a.Kind,i64 a.Number,str a.Name,zS b a.Arguments.length c]::L) b2:=(aF.arr 2 [1,0] l6 rfl)
    obtain ⟨e8,l8,hm⟩:=aB hm
    refine aT (vs:=g1) call150 rfl (ih (Kf:=K) l8 l7 (zR _) V x) ?_
    rintro _ r8 ⟨l9,f0,f1,rfl,d5,m0⟩
    refine aG (v:=zS f0 e8.length f1) (aH (aK (aI (v:=zS a1 j.length c2) (aI (v:=i64 d) (aI (v:=zS a3 e9.Body.length a5) (aI (v:=i64 part) (aC (cP rfl rfl) ?_)))))));obtain ⟨m1,m2,hm⟩:=aB hm
    refine aT (vs:=[zS a3 e9.Body.length a5,i64 (wr (part+1))]) call203 rfl (aKW m2 m0 (a6.mono d5)) ?_
    rintro _ r9 ⟨rfl,m3⟩
    refine aI (v:=zS a4 e.length c5) (aI (v:=zS f0 e8.length f1) ?_);obtain ⟨m4,m5,hm⟩:=aB hm
    refine aT (vs:=[zS a1 j.length c2,i64 d,i64 m1,zS a4 e.length c5,zS f0 e8.length f1]) call150 rfl (ih (Kf:=l9) m5 m3 (zR _) (V.mono d5) (x.mono d5)) ?_
    rintro _ s0 ⟨m6,h2,h4,rfl,m7,m8⟩
    refine aG (v:=zS h2 m4.length h4) (aH ?_);obtain rfl:=zI hm
    exact aCe (aCf (lT (lT (aIw results150 rfl ⟨m6,h2,h4,rfl,(zL d5 m7),(aF.arr 2 [0] m8 rfl)⟩))))
   ·refine aR e7 rfl (aK (aC (jA rfl rfl) (aG (v:=zB (a.Kind == 3)) (aH ?_))))
    rcases aM hm with ⟨f2,hm⟩|⟨f2,hm⟩
    ·refine aU f2 rfl (aK (aC (bG (t':=3) wB rfl rfl) (aC (cX aFV y (i:=0) rfl rfl rfl) ?_)));obtain ⟨n0,h5,hm⟩:=aB hm
     refine aC (dQ aAd rfl d9 rfl rfl rfl h5) ?_;obtain ⟨s1,n1,n2⟩:=bK.el (sz:=1) rfl d9 h5
     obtain ⟨n3,n4,rfl,n5⟩:=n2
     refine aC (cD (t:=0) aPO y n1 rfl rfl) (aI (v:=zS a4 e.length c5) ?_);obtain ⟨s2,n6,hm⟩:=aB hm
     refine aT (vs:=[zS n3 n0.length n4,zS a4 e.length c5]) call204 rfl (aJt n6 y n5 x) ?_
     rintro _ f3 ⟨rfl,h7⟩
     refine aC (aBf rfl rfl) (aH ?_)
     rcases aM hm with ⟨f4,hm⟩|⟨f4,hm⟩
     ·refine aU f4 rfl (aK (aI (v:=zS a1 j.length c2) (aI (v:=i64 d) (aI (v:=i64 part) (aC (cP rfl rfl) (aI (v:=zS a4 e.length c5) (aI (v:=zS a7 out.length c8) ?_)))))))
      have n7:aF G K (box g 159 [i64 a.Kind,i64 a.Number,str a.Name,zS b a.Arguments.length c]::J::L) f3:=aF.weak (i:=1) h7 rfl (fun _ h=>aP.mono z h)
      have n8:aF G K (J::box g 159 [i64 a.Kind,i64 a.Number,str a.Name,zS b a.Arguments.length c]::L) f3:=(aF.arr 2 [1,0] n7 rfl)
      obtain ⟨s3,n9,hm⟩:=aB hm
      exact aT (vs:=g1) call150 rfl (ih (Kf:=K) n9 n8 (zR _) V x) aL
     ·refine aR f4 rfl ?_
      have s4:aF G K (box g 159 [i64 a.Kind,i64 a.Number,str a.Name,zS b a.Arguments.length c]::J::L) f3:=aF.weak (i:=1) h7 rfl (fun _ h=>aP.mono z h)
      exact aL
    ·refine aR f2 rfl (aK (aC (jA rfl rfl) (aG (v:=zB (a.Kind == 4)) (aH ?_))))
     rcases aM hm with ⟨f5,hm⟩|⟨f5,hm⟩
     ·refine aU f5 rfl (aK (aG (v:=i64 0) (aH (aQ [] (fun f w=>∃ c4 c6 d6 d7,Hp.le K c4/\xU c6=some R/\f 4=zS d6 c6.length d7/\aF G c4 (aP 176 c4 d6 d7 c6::L) w) ?_ ?_))))
      ·rintro f s5 ⟨c4,c6,d6,d7,o0,hm,o1,o2⟩
       unfold xU at hm
       exact bX (aD ⟨bZ,c4,c6,d6,d7,o0,hm,o1,o2⟩)
      have s6:aF G K (box g 159 [i64 a.Kind,i64 a.Number,str a.Name,zS b a.Arguments.length c]::J::L) b2:=aF.weak (i:=1) y rfl (fun _ h=>aP.mono z h)
      obtain ⟨s7,o3,ho⟩:=aB hm
      refine cA [0,1,2,3,12] o3 (fun p b0 f w=>∃ q r u,Hp.le K q/\f 4=zS r p.length u/\f 14=i64 b0/\aF G q (box g 159 [i64 a.Kind,i64 a.Number,str a.Name,zS b a.Arguments.length c]::aP 176 q r u p::L) w) aL ?_
      ·rintro p b0 s8 f s9 hm hr ⟨q,r,u,b1,h8,f6,f7⟩
       unfold kE at hm
       refine aJ (aK (aZ f6 (aC (bG (t':=1) aII rfl rfl) (aC (cX kQ f7 (i:=0) rfl rfl rfl) (aC (R_leq rfl rfl) (aH ?_))))))
       rcases aM hm with ⟨f8,hm⟩|⟨f8,hm⟩
       ·refine aU f8 rfl (bA (aD (aJ (bT (aX (aI (v:=zS a1 j.length c2) (aI (v:=i64 d) (aI (v:=i64 part) (aC (cP rfl rfl) (aI (v:=zS a4 e.length c5) ?_))))))))));obtain ⟨o4,o5,hm⟩:=aB hm
        refine aT (vs:=[zS a4 e.length c5]) call70 rfl (xD o5 f7 (x.mono b1)) ?_
        rintro _ t0 ⟨o6,o7,rfl,o8⟩
        refine aZ f6 (dU (Kt:=K) (xs:=([b0]:List Int)) (cs:=[i64 b0]) (vs:=[(0,i64 b0)]) fZ aIG rfl rfl o8 rfl (by kernel_rfl) rfl rfl rfl ⟨rfl,trivial⟩ (fun o9 p0 (p1:aF G q (aP 2 K o9 1 ([b0]:List Int)::aP 2 K o6 o7 o4::box g 159 [i64 a.Kind,i64 a.Number,str a.Name,zS b a.Arguments.length c]::aP 176 q r u p::L) p0)=>?_));obtain ⟨h9,p2,hm⟩:=aB hm
        refine xO (i:=0) fZ underlying29 aIG rfl rfl p1 rfl b1 b1 p2 rfl rfl rfl rfl (fun _ h=>h) (fun i0 i1 d8 (p3:aF G q (aP 2 K i0 i1 h9::box g 159 [i64 a.Kind,i64 a.Number,str a.Name,zS b a.Arguments.length c]::aP 176 q r u p::L) d8)=>(aZ h8 ?_));obtain ⟨b8,f9,p4,g0⟩:=aF.giveSp p3 b1 .head
        replace g0:aF G b8 (box g 159 [i64 a.Kind,i64 a.Number,str a.Name,zS b a.Arguments.length c]::aP 176 q r u p::L) d8:=g0
        have p5:aF G b8 (box g 159 [i64 a.Kind,i64 a.Number,str a.Name,zS b a.Arguments.length c]::aP 176 b8 r u p::L) d8:=aF.weak (i:=1) g0 rfl (fun _ h=>aP.mono f9 h)
        have p6:aF G b8 (aP 176 b8 r u p::box g 159 [i64 a.Kind,i64 a.Number,str a.Name,zS b a.Arguments.length c]::L) d8:=(aF.arr 2 [1,0] p5 rfl)
        obtain ⟨p7,p8,hm⟩:=aB hm
        refine aT (vs:=[zS a1 j.length c2,i64 d,i64 (wr (part+1)),zS i0 h9.length i1,zS r p.length u]) call150 rfl (ih (Kf:=b8) p8 p6 (zR _) (V.mono (zL b1 f9)) p4) ?_
        rintro _ t1 ⟨p9,i2,i3,rfl,q0,q1⟩
        exact aG (v:=zS i2 p7.length i3) (bN (bX (aD (aX (aZ f6 (aC (cP rfl rfl) (aG (v:=i64 (wr (b0+1))) (aH ⟨_,(zI hm).symm,bZ,p9,i2,i3,(zL (zL b1 f9) q0),rfl,rfl,(aF.arr 2 [1,0] q1 rfl)⟩))))))))
       ·refine aR f8 rfl (tP (gF (gF ?_)))
        have q2:=hr _ (zI hm).symm
        subst q2
        have hm:(xU p)=some R:=ho
        clear hr ho
        exact nF (aD ⟨bZ,q,p,r,u,b1,hm,h8,(aF.arr 1 [] f7 rfl)⟩)
     ·refine aR f5 rfl ?_
      have q3:aF G K (box g 159 [i64 a.Kind,i64 a.Number,str a.Name,zS b a.Arguments.length c]::J::L) b2:=aF.weak (i:=1) y rfl (fun _ h=>aP.mono z h)
      exact bA (bX (aD ⟨bZ,K,out,a7,c8,(zR _),hm,rfl,(aF.arr 1 [] q3 rfl)⟩))
theorem aDh (n:Nat):∀ {G:nX} {K:Hp} {L:List fJ} {w:World} {Kf:Hp} {a:(List Definition)} {a1:Option Addr} {c2:Nat} {d:Int} {part:Int} {b:(List Int)} {a4:Option Addr} {c5:Nat} {out:(List bR)} {a7:Option Addr} {c8:Nat} {R:(List bR)} (hm:cG n a d part b out=some R) (c:aF G K (aP 176 Kf a7 c8 out::L) w) (e:Hp.le Kf K) (g:bK K a1 c2 a) (h:bK K a4 c5 b),
  Calls prog 150 ([zS a1 a.length c2,i64 d,i64 part,zS a4 b.length c5,zS a7 out.length c8]:List Value).toArray w (dD fun v w'=>∃ i j k,v=zS j R.length k/\Hp.le K i/\aF G i (aP 176 i j k R::L) w'):=by
 induction n with
 |zero=>
  intro G K L w Kf a a1 c2 d part b a4 c5 out a7 c8 R hm c e g h
  unfold cG at hm
  cases hm
 |succ n ih=>
  intro G K L w Kf a a1 c2 d part b a4 c5 out a7 c8 R hm c e g h
  exact aDg (rec_:=cG n) (fun hm c e g h=>ih hm c e g h) hm c e g h
theorem aMR {list:(List Definition)} {d part:Int} {values:(List Int)} {out R:(List bR)} (hm:aHo list d part values out=some R) (hs:aF G K (aP 176 Kf a7 c8 out::L) w) (hKf:Hp.le Kf K) (h3:bK K a1 c2 list) (h6:bK K a4 c5 values):
  Calls prog 150 ([zS a1 list.length c2,i64 d,i64 part,zS a4 values.length c5,zS a7 out.length c8]:List Value).toArray w (dD fun v w'=>∃ K' ra1 rc1,v=zS ra1 R.length rc1/\Hp.le K K'/\aF G K' (aP 176 K' ra1 rc1 R::L) w'):=aDh 100000 hm hs hKf h3 h6
theorem aFG {a:(List Definition)} {p:GPoint} {c:Nat} {R:((List bR) × Bool)} (hm:rI a p=some R) (k:aF G K (L) w) (l:bK K a1 c2 a) (m:eU K a4 c [i64 p.Definition,i64 p.Part,zS a7 p.Values.length c8]) (n:bK K a7 c8 p.Values):
  Calls prog 104 ([zS a1 a.length c2,dS a4 c]:List Value).toArray w (dD fun v w'=>∃ b d e,v=Value.tuple #[zS d R.1.length e,zB R.2]/\Hp.le K b/\aF G b (aP 176 b d e R.1::L) w'):=by
 refine aBe func104 ?_;unfold rI at hm
 refine tD ?_;refine st_w [(0,0),(1,0),(2,0),(3,0),(4,0),(5,0),(6,0),(7,0),(8,0),(9,0),(10,0),(11,0),(12,0),(13,1),(14,1),(15,0)] fun o g=>?_
 refine tD ?_;refine nT rfl (dU (Kt:=K) (xs:=([]:List bR)) (cs:=[]) (vs:=[]) mM aNH rfl rfl g rfl (by kernel_rfl) rfl rfl rfl trivial (fun h i (j:aF G K (aP 176 K h 0 ([]:List bR)::L) i)=>(bN (aD ⟨⟨_,j⟩,?_⟩))))
 exact nT rfl aL
end Gv
namespace Gv
open Gv.Hp renaming le_refl→zR
open Go.Value renaming slice→zS,bool→zB,tuple→zT
open Option.some renaming inj→zI
open Gv.Hp renaming le_trans→zL
open Go Go.Proofs Go.Proofs.Tryz
set_option maxRecDepth 20000
set_option maxHeartbeats 40000000
variable {G:nX} {K Kf:Hp} {L:List fJ} {w:World} {a1 a4 a7 a10 a13 a16 a3 a19:Option Addr} {c5 c8 c11 c14 c17 c2 c4 c20:Nat}
theorem aJu {s_:aO} {R:Int} (hm:aEd s_=some R) (c:aF G K (L) w):
  Calls prog 151 ([str s_]:List Value).toArray w (dD fun v w'=>v=i64 R/\aF G K (L) w'):=by
 refine aBe func151 ?_;unfold aEd at hm
 refine tD ?_;refine aQ [0] (fun f w=>aMC s_=some R/\aF G K (L) w) aL ?_
 obtain ⟨d,a,ho⟩:=aB hm
 exact cE [0] a (fun b f w=>f 3=i64 b/\aF G K (L) w) aL aL
theorem pQ {s_ R:aO} (hm:lG s_=some R) (a:aF G K (L) w):
  Calls prog 105 ([str s_]:List Value).toArray w (dD fun v w'=>v=str R/\aF G K (L) w'):=by
 exact aL
theorem aEP {s_:bE} {a:Nat} {b R:aO} (hm:aGv s_ b=some R) (c:aF G K (L) w) (d:eU K a1 a [zS a4 s_.Definitions.length c5,zS a7 s_.Components.length c8,zS a10 s_.Meetings.length c11,zS a13 s_.Allowed.length c14,zS a16 s_.Hidden.length c17]) (e:bK K a4 c5 s_.Definitions) (g:bK K a7 c8 s_.Components) (h:bK K a10 c11 s_.Meetings) (i:bK K a13 c14 s_.Allowed) (j:bK K a16 c17 s_.Hidden):
  Calls prog 107 ([dS a1 a,str b]:List Value).toArray w (dD fun v w'=>v=str R/\aF G K (L) w'):=by
 exact aL
theorem aIh {s_:aO} {by_:UInt8} {R:(List aO)} (hm:aEG s_ by_=some R) (z:aF G K (L) w):
  Calls prog 205 ([str s_,Value.int .u8 (by_.toNat:Int)]:List Value).toArray w (dD fun v w'=>∃ k l,v=zS k R.length l/\aF G K (aP 9 K k l R::L) w'):=by
 refine aBe func205 ?_;unfold aEG at hm
 refine tD ?_;refine aIs ([]:List aO) fun J V a0=>?_
 refine tD ?_;refine aQ [0] (fun f w=>∃ d m n o,aGa s_ d m=some R/\f 5=zS n d.length o/\f 6=i64 m/\aF G K (aP 9 K n o d::L) w) aL ?_
 obtain ⟨a2,q,ho⟩:=aB hm
 refine iE [0,1] q (fun e p g f w=>∃ h i,f 5=zS h e.length i/\f 6=i64 p/\f 7=i64 g/\aF G K (aP 9 K h i e::L) w) aL ?_
 ·rintro e p g r f a3 hm hr ⟨h,i,a4,a6,a7,a8⟩
  unfold aBR at hm
  iterate 5 refine aBL ?_
  refine aC (aEn runUnderlying9 rfl) (tD ?_)
  rcases aM hm with ⟨t,hm⟩|⟨t,hm⟩
  ·refine tD ?_;refine aQ [0,1,7] (fun f w=>∃ a j b c,sO g a j=some r/\f 5=zS b a.length c/\f 6=i64 j/\aF G K (aP 9 K b c a::L) w) ?_ ?_
   ·rintro f a9 ⟨a,j,b,c,hm,u,x,y⟩
    unfold sO at hm
    refine tD ?_;exact ⟨_,(zI hm).symm,bZ,b,c,u,x,rfl,y⟩
   exact aL
  ·exact aL
theorem aGA {s_:aO} {R:(Int × Bool)} (hm:aCt s_=some R) (t:aF G K (L) w):
  Calls prog 206 ([str s_]:List Value).toArray w (dD fun v w'=>v=zT #[i64 R.1,zB R.2]/\aF G K (L) w'):=by
 refine aBe func206 ?_;unfold aCt at hm
 iterate 11 refine aBL ?_
 refine rB [0] (fun f w=>∃ c,tW s_ c=some R/\f 4=i64 c/\aF G K (L) w) ?_ ?_
 ·rintro f u ⟨c,hm,x,y⟩
  unfold tW at hm
  iterate 2 refine aBL ?_
  refine bQ [0,4] (fun f w=>∃ d,lH s_ c d=some R/\f 36=zB d/\aF G K (L) w) ?_ ?_
  ·rintro f z ⟨d,hm,J,V⟩
   unfold lH at hm
   refine tD ?_
   rcases aM hm with ⟨k,hm⟩|⟨k,hm⟩
   ·exact aL
   ·refine tD ?_;refine aQ [4] (fun f w=>∃ e,aAs c e=some R/\f 5=i64 e/\aF G K (L) w) ?_ ?_
    ·rintro f a0 ⟨e,hm,a1,a2⟩
     unfold aAs at hm
     iterate 1 refine aBL ?_
     exact rB [] (fun f w=>∃ h,aEH h=some R/\f 5=i64 h/\aF G K (L) w) aL aL
    obtain ⟨a3,l,ho⟩:=aB hm
    refine cA [0,4] l (fun g i32 f w=>f 5=i64 g/\f 6=i64 i32/\aF G K (L) w) aL ?_
    ·rintro g i32 a4 f a5 hm hr ⟨a6,m,n⟩
     unfold qC at hm
     iterate 5 refine aBL ?_
     refine aC (aEn runUnderlying9 rfl) (tD ?_)
     rcases aM hm with ⟨o,hm⟩|⟨o,hm⟩
     ·refine tD ?_;refine bT (tD ?_)
      obtain ⟨c45,i,hm⟩:=aB hm
      refine aC (R_ixS runUnderlying9 rfl rfl i) ?_;obtain ⟨a7,p,hm⟩:=aB hm
      refine aCO call147 (aId p n) ?_
      rintro _ a8 ⟨rfl,q⟩
      refine tD ?_
      rcases aM hm with ⟨r,hm⟩|⟨r,hm⟩
      ·exact aL
      ·iterate 8 refine aBL ?_
       exact aC (R_ixS runUnderlying9 rfl rfl i) (aC (aTX (a:=c45) (b:=(48:UInt8)) rfl rfl) (aC (aTV runUnderlying2 rfl ⟨_,runUnderlying5⟩) (aC (cP rfl rfl) (aG (v:=i64 (wr ((wr (10 * g))+(wr ((c45 - (48:UInt8)).toNat:Int))))) (bN (bX (aD (aX (aZ m (aC (cP rfl rfl) (aG (v:=i64 (wr (i32+1))) (aH ⟨_,(zI hm).symm,bZ,rfl,rfl,q⟩))))))))))))
     ·exact aL
  exact aL
 iterate 1 refine aBL ?_
 exact bQ [0,4] (fun f w=>∃ j,aAt s_ j=some R/\f 14=zB j/\aF G K (L) w) aL aL
theorem aBD {s_:aO} {R:((List Int) × Bool)} (hm:yY s_=some R) (t:aF G K (L) w):
  Calls prog 152 ([str s_]:List Value).toArray w (dD fun v w'=>∃ h j,v=zT #[zS h R.1.length j,zB R.2]/\aF G K (aP 2 K h j R.1::L) w'):=by
 refine aBe func152 ?_;unfold yY at hm
 refine tD ?_;obtain ⟨u,x,hm⟩:=aB hm
 refine aCO call151 (aJu x t) ?_
 rintro _ w3 ⟨rfl,a8⟩
 iterate 8 refine aBL ?_
 refine aC (aEn runUnderlying9 rfl) (tD ?_)
 rcases aM hm with ⟨y,hm⟩|⟨y,hm⟩
 ·exact aL
 ·iterate 5 refine aBL ?_
  refine bQ [0,4] (fun f w=>∃ d,tY s_ u d=some R/\f 31=zB d/\aF G K (L) w) ?_ ?_
  ·rintro f a9 ⟨d,hm,b0,z⟩
   unfold tY at hm
   refine tD ?_
   rcases aM hm with ⟨J,hm⟩|⟨J,hm⟩
   ·exact aL
   ·iterate 9 refine aBL ?_
    refine aC (aEn runUnderlying9 rfl) (tD ?_);obtain ⟨b1,V,hm⟩:=aB hm
    refine aC (R_slSLH runUnderlying9 rfl rfl rfl V) ?_;obtain ⟨k,a0,hm⟩:=aB hm
    refine aCO call205 (aIh (by_:=(44:UInt8)) a0 z) ?_
    rintro _ b2 ⟨l,m,rfl,b3⟩
    refine tD ?_;refine aIs ([]:List Int) fun b4 b5 b6=>?_
    refine tD ?_;refine aQ [] (fun f w=>∃ e n o,aIY e=some R/\f 6=zS n e.length o/\aF G K (aP 2 K n o e::L) w) aL ?_
    obtain ⟨b7,a1,ho⟩:=aB hm
    refine cA [5] a1 (fun a g f w=>∃ b c,f 6=zS b a.length c/\f 7=i64 g/\aF G K (aP 2 K b c a::aP 9 K l m k::L) w) aL ?_
    ·rintro a g a2 f b8 hm hr ⟨b,c,b9,c0,p⟩
     unfold tX at hm
     refine tD ?_
     rcases aM hm with ⟨a3,hm⟩|⟨a3,hm⟩
     ·refine tD ?_;refine bT (tD ?_)
      obtain ⟨c1,q,hm⟩:=aB hm
      have a4:=cR p (i:=1) rfl q
      refine aC (dH fM rfl a4 rfl rfl rfl q) (tD ?_);obtain ⟨a5,a6,hm⟩:=aB hm
      refine aCO call206 (aGA a6 p) ?_
      rintro _ c2 ⟨rfl,c3⟩
      iterate 9 refine aBL ?_
      exact bQ [5,6,7,8] (fun f w=>∃ r,aAu a g a5 r=some a2/\f 61=zB r/\aF G K (aP 2 K b c a::aP 9 K l m k::L) w) aL aL
     ·exact aL
  exact aL
theorem aGB {rec_:(List bB)->aO->aO->Option aO} (i:∀ {G:nX} {K:Hp} {L:List fJ} {w:World} {c:(List bB)} {a1:Option Addr} {c2:Nat} {a:aO} {b:aO} {R:aO} (hm:rec_ c a b=some R) (e:aF G K (L) w) (g:bK K a1 c2 c),
  Calls prog 153 ([zS a1 c.length c2,str a,str b]:List Value).toArray w (dD fun v w'=>v=str R/\aF G K (L) w'))
  {G:nX} {K:Hp} {L:List fJ} {w:World} {c:(List bB)} {a1:Option Addr} {c2:Nat} {a:aO} {b:aO} {R:aO} (hm:tZ rec_ c a b=some R) (e:aF G K (L) w) (g:bK K a1 c2 c):
  Calls prog 153 ([zS a1 c.length c2,str a,str b]:List Value).toArray w (dD fun v w'=>v=str R/\aF G K (L) w'):=by
 refine aBe func153 ?_;unfold tZ at hm
 refine tD ?_
 rcases aM hm with ⟨j,hm⟩|⟨j,hm⟩
 ·refine tD ?_;obtain ⟨o,k,hm⟩:=aB hm
  exact aCO call153 (i k e g) aL
 ·refine tD ?_;refine aQ [] (fun f w=>aHp=some R/\aF G K (L) w) aL ?_
  obtain ⟨p,l,ho⟩:=aB hm
  refine cE [0,1,2] l (fun d f w=>f 7=i64 d/\aF G K (L) w) aL ?_
  ·rintro d m f q hm hr ⟨r,t⟩
   unfold vD at hm
   refine tD ?_
   rcases aM hm with ⟨n,hm⟩|⟨n,hm⟩
   ·refine tD ?_;refine bT ?_
    iterate 1 refine aBL ?_
    exact bQ [0,1,2,7] (fun f w=>∃ h,aDI c d h=some m/\f 36=zB h/\aF G K (L) w) aL aL
   ·exact aL
theorem aGC (n:Nat):∀ {G:nX} {K:Hp} {L:List fJ} {w:World} {c:(List bB)} {a1:Option Addr} {c2:Nat} {a:aO} {b:aO} {R:aO} (hm:uA n c a b=some R) (d:aF G K (L) w) (e:bK K a1 c2 c),
  Calls prog 153 ([zS a1 c.length c2,str a,str b]:List Value).toArray w (dD fun v w'=>v=str R/\aF G K (L) w'):=by
 induction n with
 |zero=>
  intro G K L w c a1 c2 a b R hm d e
  unfold uA at hm
  cases hm
 |succ n ih=>
  intro G K L w c a1 c2 a b R hm d e
  exact aGB (rec_:=uA n) (fun hm d e=>ih hm d e) hm d e
theorem aJv {list:(List bB)} {a b R:aO} (hm:aKg list a b=some R) (hs:aF G K (L) w) (h3:bK K a1 c2 list):
  Calls prog 153 ([zS a1 list.length c2,str a,str b]:List Value).toArray w (dD fun v w'=>v=str R/\aF G K (L) w'):=aGC 100000 hm hs h3
theorem aJw {s_:bE} {d:Nat} {a b R:aO} (hm:aGw s_ a b=some R) (k:aF G K (L) w) (h3:eU K a1 d [zS a4 s_.Definitions.length c5,zS a7 s_.Components.length c8,zS a10 s_.Meetings.length c11,zS a13 s_.Allowed.length c14,zS a16 s_.Hidden.length c17]) (h6:bK K a4 c5 s_.Definitions) (h9:bK K a7 c8 s_.Components) (l:bK K a10 c11 s_.Meetings) (b4:bK K a13 c14 s_.Allowed) (b5:bK K a16 c17 s_.Hidden):
  Calls prog 108 ([dS a1 d,str a,str b]:List Value).toArray w (dD fun v w'=>v=str R/\aF G K (L) w'):=by
 refine aBe func108 ?_;unfold aGw at hm
 refine tD ?_;obtain ⟨e,m,hm⟩:=aB hm
 refine aCO call152 (aBD m k) ?_
 rintro _ b6 ⟨n,o,rfl,p⟩
 refine tD ?_;obtain ⟨b7,q,hm⟩:=aB hm
 refine aCO call152 (aBD q p) ?_
 rintro _ b8 ⟨b9,c0,rfl,r⟩
 refine tD ?_;obtain ⟨c1,t,u,x,y⟩:=aF.lendSp r (zR _) zt1
 obtain ⟨c2,z,J,V,a0⟩:=aF.lendSp x t .head
 obtain ⟨c3,a2,hm⟩:=aB hm
 refine aCO call75 (aJp a2 V (u.mono z) J) ?_
 rintro _ c4 ⟨rfl,a3⟩
 have a5:=a0 _ _ a3
 have c:=y _ _ a5
 refine tD ?_
 rcases aM hm with ⟨a6,hm⟩|⟨a6,hm⟩
 ·exact aL
 ·refine tD ?_;refine aRj ?_
  refine tD ?_;obtain ⟨g,a8,hm⟩:=aB hm
  refine pL (vs:=[str a]) (v:=str g) call105 rfl (fun _ c=>(pQ a8 c)) (tD ?_);obtain ⟨h,a9,hm⟩:=aB hm
  refine pL (vs:=[str b]) (v:=str h) call105 rfl (fun _ c=>(pQ a9 c)) ?_;obtain ⟨i,b0,hm⟩:=aB hm
  refine pL (vs:=[zS a10 s_.Meetings.length c11,str g,str h]) (v:=str i) call153 rfl (fun _ c=>(aJv b0 c l)) (tD ?_);refine pU (fun c6 c7=>?_)
  iterate 3 refine aBL ?_
  exact bQ [7,11] (fun f w=>∃ j,aDJ e i j=some R/\f 45=zB j/\aF G K (aP 2 K n o e.1::L) w) aL aL
theorem aBE {a:(List bC)} {x_:bC} {R:(List bC)} (hm:yZ a x_=some R) (hs:aF G K (aP 127 Kf a1 c2 a::L) w) (b0:Hp.le Kf K) (p:bK Kf a3 c4 x_.State):
  Calls prog 106 ([zS a1 a.length c2,Value.agg #[str x_.B,i64 x_.First,i64 x_.Second,zS a3 x_.State.length c4]]:List Value).toArray w (dD fun v w'=>∃ j k,v=zS j R.length k/\aF G K (aP 127 Kf j k R::L) w'):=by
 let b:=[str x_.B,i64 x_.First,i64 x_.Second,zS a3 x_.State.length c4]
 refine aBe func106 ?_;unfold yZ at hm
 refine tD ?_;refine aGh fun c w7 b2=>?_
 refine tD ?_;refine aQ [0,3] (fun f w=>uB a x_=some R/\aF G K (box c 127 b::aP 127 Kf a1 c2 a::L) w) ?_ ?_
 ·rintro f w9 ⟨hm,q⟩
  unfold uB at hm
  refine tD ?_;refine dU (Kt:=Kf) (xs:=([x_]:List bC)) (cs:=b) (vs:=[(0,Value.agg #[str x_.B,i64 x_.First,i64 x_.Second,zS a3 x_.State.length c4])]) yI aNI rfl rfl q rfl (by kernel_rfl) rfl rfl rfl ⟨⟨a3,c4,rfl,p⟩,trivial⟩ (fun r u (x:aF G K (aP 127 Kf r 1 ([x_]:List bC)::box c 127 b::aP 127 Kf a1 c2 a::L) u)=>?_)
  obtain ⟨y,z,hm⟩:=aB hm
  refine xP (i:=1) Kf yI underlying123 aNI rfl rfl x rfl (zR _) (zR _) z rfl rfl rfl rfl (fun _ _ _ h=>El.one h) (fun l m J (b4:aF G K (box c 127 b::aP 127 Kf l m y::L) J)=>(tD ?_));obtain rfl:=zI hm
  exact st_E results106 ⟨l,m,rfl,aDq⟩
 obtain ⟨b5,a0,ho⟩:=aB hm
 refine cE [0,3] a0 (fun e f w=>f 5=i64 e/\aF G K (box c 127 b::aP 127 Kf a1 c2 a::L) w) aL ?_
 ·rintro e a2 f b7 hm hr ⟨b8,n⟩
  unfold uC at hm
  refine tD ?_
  rcases aM hm with ⟨a4,hm⟩|⟨a4,hm⟩
  ·refine tD ?_;refine bT (tD ?_)
   obtain ⟨d,g,hm⟩:=aB hm
   have a5:=cR n (i:=1) rfl g
   refine aC (dH yI rfl a5 rfl rfl rfl g) ?_;obtain ⟨b9,a6,a7⟩:=yH (sz:=4) rfl n (i:=1) rfl g
   obtain ⟨a8,c45,rfl,c0⟩:=a7
   refine aC (R_ldCG (t:=0) (vs:=[str d.B,i64 d.First,i64 d.Second,zS a8 d.State.length c45]) aSV a6 rfl rfl rfl) (aGf fun c1 c3 c5=>?_);refine aFe fun c6 c7=>?_
   iterate 3 refine aBL ?_
   exact bQ [0,3,5] (fun f w=>∃ o,qD a e o=some a2/\f 42=zB o/\aF G K (box c 127 b::aP 127 Kf a1 c2 a::L) w) aL aL
  ·exact aL
theorem aIi {s_:bE} {k2:Nat} {a3:(List GPoint)} {R:((List bC) × Bool)} (hm:rJ s_ a3=some R) (hs:aF G K (L) w) (h3:eU K a1 k2 [zS a4 s_.Definitions.length c5,zS a7 s_.Components.length c8,zS a10 s_.Meetings.length c11,zS a13 s_.Allowed.length c14,zS a16 s_.Hidden.length c17]) (h6:bK K a4 c5 s_.Definitions) (h9:bK K a7 c8 s_.Components) (j9:bK K a10 c11 s_.Meetings) (f4:bK K a13 c14 s_.Allowed) (k0:bK K a16 c17 s_.Hidden) (k1:bK K a19 c20 a3):
  Calls prog 71 ([dS a1 k2,zS a19 a3.length c20]:List Value).toArray w (dD fun v w'=>∃ K' o6 o7,v=zT #[zS o6 R.1.length o7,zB R.2]/\Hp.le K K'/\aF G K' (aP 127 K' o6 o7 R.1::L) w'):=by
 refine aBe func71 ?_;unfold rJ at hm
 refine tD ?_;refine dU (Kt:=K) (xs:=([]:List bC)) (cs:=[]) (vs:=[]) yI aNI rfl rfl hs rfl (by kernel_rfl) rfl rfl rfl trivial (fun a5 t4 (t5:aF G K (aP 127 K a5 0 ([]:List bC)::L) t4)=>(tD ?_))
 refine dU (Kt:=K) (xs:=([]:List (List bR))) (cs:=[]) (vs:=[]) vW aNJ rfl rfl t5 rfl (by kernel_rfl) rfl rfl rfl trivial (fun o8 t6 (t7:aF G K (aP 172 K o8 0 ([]:List (List bR))::aP 127 K a5 0 ([]:List bC)::L) t6)=>(tD ?_));refine aQ [0,1,6] (fun f w=>∃ a b c d,Hp.le K a/\lJ s_ a3 b=some R/\f 7=zS c b.length d/\aF G a (aP 172 a c d b::aP 127 K a5 0 ([]:List bC)::L) w) ?_ ?_
 ·rintro f t8 ⟨a,b,c,d,g,hm,e33,t9⟩
  unfold lJ at hm
  refine tD ?_;refine aQ [0,1,7] (fun f w=>∃ c9 f5 k4 k5,Hp.le a c9/\nL s_ a3 b f5=some R/\f 6=zS k4 f5.length k5/\aF G c9 (aP 127 c9 k4 k5 f5::aP 172 a c d b::L) w) ?_ ?_
  ·rintro f w42 ⟨c9,f5,k4,k5,o,hm,e41,b17⟩
   unfold nL at hm
   refine tD ?_;refine aQ [] (fun f w=>∃ d7 f6 f7 c48,Hp.le c9 d7/\wN f6=some R/\f 6=zS f7 f6.length c48/\aF G d7 (aP 127 d7 f7 c48 f6::L) w) ?_ ?_
   ·rintro f w50 ⟨d7,f6,f7,c48,u0,hm,e49,u1⟩
    unfold wN at hm
    refine tD ?_;obtain rfl:=zI hm
    exact aCe (aNy results71 rfl rfl ⟨d7,f7,c48,rfl,(zL (zL g o) u0),u1⟩)
   obtain ⟨b20,u3,ho⟩:=aB hm
   refine cA [0,1,7] u3 (fun d8 a6 f w=>∃ b2 f8 f9,Hp.le c9 b2/\f 6=zS f8 d8.length f9/\f 15=i64 a6/\aF G b2 (aP 127 b2 f8 f9 d8::aP 172 a c d b::L) w) aL ?_
   ·rintro d8 a6 k6 f w75 hm hr ⟨b2,f8,f9,j,u4,e74,b23⟩
    unfold nK at hm
    refine tD ?_
    rcases aM hm with ⟨u5,hm⟩|⟨u5,hm⟩
    ·refine tD ?_;refine aQ [0,1,7,15] (fun f w=>∃ d9 g0 g1 g2,Hp.le b2 d9/\aBS a6 g0=some k6/\f 6=zS g1 g0.length g2/\aF G d9 (aP 127 d9 g1 g2 g0::aP 172 a c d b::L) w) ?_ ?_
     ·rintro f w95 ⟨d9,g0,g1,g2,u6,hm,u7,u8⟩
      unfold aBS at hm
      refine tD ?_;exact ⟨_,(zI hm).symm,bZ,d9,g1,g2,(zL j u6),u7,rfl,u8⟩
     refine tD ?_;refine aQ [0,1,7,15] (fun f w=>∃ k7 k8 o9 p0,Hp.le b2 k7/\wO a6 k8=some k6/\f 6=zS o9 k8.length p0/\aF G k7 (aP 127 k7 o9 p0 k8::aP 172 a c d b::L) w) aL ?_
     obtain ⟨b25,u9,ho⟩:=aB hm
     refine cA [0,1,7,15] u9 (fun e0 a8 f w=>∃ b3 g3 g4,Hp.le b2 b3/\f 6=zS g3 e0.length g4/\f 16=i64 a8/\aF G b3 (aP 127 b3 g3 g4 e0::aP 172 a c d b::L) w) aL ?_
     ·rintro e0 a8 k9 f b26 hm hr ⟨b3,g3,g4,k,v0,b27,v1⟩
      unfold lI at hm
      refine tD ?_
      rcases aM hm with ⟨v2,hm⟩|⟨v2,hm⟩
      ·refine tD ?_;refine aQ [0,1,7,15,16] (fun f w=>∃ e1 g5 g6 g7,Hp.le b3 e1/\aBT a8 g5=some k9/\f 6=zS g6 g5.length g7/\aF G e1 (aP 127 e1 g6 g7 g5::aP 172 a c d b::L) w) ?_ ?_
       ·rintro f b28 ⟨e1,g5,g6,g7,v3,hm,v4,v5⟩
        unfold aBT at hm
        refine tD ?_;exact ⟨_,(zI hm).symm,bZ,e1,g6,g7,(zL k v3),v4,rfl,v5⟩
       refine tD ?_;refine aQ [0,1,7,15,16] (fun f w=>∃ l0 l1 p1 p2,Hp.le b3 l0/\wP a8 l1=some k9/\f 6=zS p1 l1.length p2/\aF G l0 (aP 127 l0 p1 p2 l1::aP 172 a c d b::L) w) aL ?_
       obtain ⟨b29,v6,ho⟩:=aB hm
       refine cA [0,1,7,15,16] v6 (fun e2 d0 f w=>∃ b4 g8 g9,Hp.le b3 b4/\f 6=zS g8 e2.length g9/\f 17=i64 d0/\aF G b4 (aP 127 b4 g8 g9 e2::aP 172 a c d b::L) w) aL ?_
       ·rintro e2 d0 l2 f b30 hm hr ⟨b4,g8,g9,l,v7,b31,l3⟩
        unfold jR at hm
        refine tD ?_;obtain ⟨l4,c0,hm⟩:=aB hm
        have d1:=cR l3 (i:=1) rfl c0
        refine aC (dH vW rfl d1 rfl rfl rfl c0) ?_;obtain ⟨b32,v8,v9⟩:=yH (sz:=1) rfl l3 (i:=1) rfl c0
        obtain ⟨w0,w1,rfl,b33⟩:=v9
        refine aC (aHR (t:=0) (v:=zS w0 l4.length w1) aCQ v8 rfl rfl) (tD ?_)
        rcases aM hm with ⟨w2,hm⟩|⟨w2,hm⟩
        ·refine tD ?_;refine aQ [0,1,7,15,16,17] (fun f w=>∃ e3 h0 h1 h2,Hp.le b4 e3/\aBU d0 h0=some l2/\f 6=zS h1 h0.length h2/\aF G e3 (aP 127 e3 h1 h2 h0::aP 172 a c d b::L) w) ?_ ?_
         ·rintro f b34 ⟨e3,h0,h1,h2,w3,hm,w4,w5⟩
          unfold aBU at hm
          refine tD ?_;exact ⟨_,(zI hm).symm,bZ,e3,h1,h2,(zL l w3),w4,rfl,w5⟩
         refine tD ?_;refine aQ [0,1,7,15,16,17] (fun f w=>∃ l5 l6 p3 p4,Hp.le b4 l5/\wQ d0 l6=some l2/\f 6=zS p3 l6.length p4/\aF G l5 (aP 127 l5 p3 p4 l6::aP 172 a c d b::L) w) aL ?_
         obtain ⟨b35,w6,ho⟩:=aB hm
         refine cA [0,1,7,15,16,17] w6 (fun p h4 f w=>∃ q u x,Hp.le b4 q/\f 6=zS u p.length x/\f 18=i64 h4/\aF G q (aP 127 q u x p::aP 172 a c d b::L) w) aL ?_
         ·rintro p h4 p5 f b36 hm hr ⟨q,u,x,m,p6,b37,l7⟩
          unfold jD at hm
          iterate 2 refine aBL ?_
          refine bQ [0,1,6,7,15,16,17,18] (fun f w=>∃ l8,pG s_ a3 b a6 a8 d0 l4 p h4 l8=some p5/\f 133=zB l8/\aF G q (aP 127 q u x p::aP 172 a c d b::L) w) ?_ ?_
          ·rintro f b38 ⟨l8,hm,b39,p7⟩
           unfold pG at hm
           refine tD ?_
           rcases aM hm with ⟨w7,hm⟩|⟨w7,hm⟩
           ·refine tD ?_;refine aQ [0,1,7,15,16,17,18] (fun f w=>∃ e4 h5 h7 h8,Hp.le q e4/\wR h4 h5=some p5/\f 6=zS h7 h5.length h8/\aF G e4 (aP 127 e4 h7 h8 h5::aP 172 a c d b::L) w) ?_ ?_
            ·rintro f b40 ⟨e4,h5,h7,h8,w8,hm,w9,x0⟩
             unfold wR at hm
             refine tD ?_;exact ⟨_,(zI hm).symm,bZ,e4,h7,h8,(zL m w8),w9,rfl,x0⟩
            refine tD ?_;obtain ⟨b41,d2,p8,i0,x1⟩:=aF.lendSp p7 (zL (zL (zL (zL o j) k) l) m) zt1
            refine aRj ?_
            iterate 3 refine aBL ?_
            refine bU (fun _ i0=>dH vW rfl d1 rfl rfl rfl c0) ?_;obtain ⟨b42,b43,x2⟩:=bK.el (sz:=1) rfl p8 c0
            obtain ⟨b44,b45,rfl,x3⟩:=x2
            refine tD ?_;obtain ⟨b5,p9,hm⟩:=aB hm
            refine tD ?_;obtain ⟨b46,b47,x4⟩:=bK.el (sz:=4) rfl x3 p9
            obtain ⟨b48,b49,rfl,b50⟩:=x4
            refine tD ?_;obtain ⟨x5,i1,hm⟩:=aB hm
            refine bU (fun _ i0=>dH vW rfl d1 rfl rfl rfl i1) ?_;obtain ⟨b51,b52,x6⟩:=bK.el (sz:=1) rfl p8 i1
            obtain ⟨b53,b54,rfl,x7⟩:=x6
            refine tD ?_;obtain ⟨b6,q0,hm⟩:=aB hm
            refine tD ?_;obtain ⟨b55,b56,x8⟩:=bK.el (sz:=4) rfl x7 q0
            obtain ⟨b57,b58,rfl,b59⟩:=x8
            refine tD ?_;obtain ⟨x9,y0,hm⟩:=aB hm
            refine pL (vs:=[dS a1 k2,str b5.B,str b6.B]) (v:=str x9) call108 rfl (fun _ i0=>(aJw y0 i0 (h3.mono (zL (zL (zL (zL (zL (zL g o) j) k) l) m) d2)) (h6.mono (zL (zL (zL (zL (zL (zL g o) j) k) l) m) d2)) (h9.mono (zL (zL (zL (zL (zL (zL g o) j) k) l) m) d2)) (j9.mono (zL (zL (zL (zL (zL (zL g o) j) k) l) m) d2)) (f4.mono (zL (zL (zL (zL (zL (zL g o) j) k) l) m) d2)) (k0.mono (zL (zL (zL (zL (zL (zL g o) j) k) l) m) d2)))) (tD ?_)
            refine pU (fun b60 y1=>?_)
            have y2:=x1 _ _ y1
            refine tD ?_
            rcases aM hm with ⟨y3,hm⟩|⟨y3,hm⟩
            ·refine tD ?_;exact ⟨bZ,q,p,u,x,(zR _),hm,p6,aDq⟩
            ·refine tD ?_;obtain ⟨b61,y4,hm⟩:=aB hm
             refine aCO call47 (sX y4 y2 (k1.mono (zL (zL (zL (zL (zL g o) j) k) l) m))) ?_
             rintro _ b62 ⟨i2,c1,c2,rfl,y,i3⟩
             iterate 9 refine aBL ?_
             refine aC (dH vW rfl d1 rfl rfl rfl c0) ?_;obtain ⟨b63,y5,y6⟩:=yH (sz:=1) rfl i3 (i:=1) rfl c0
             obtain ⟨y7,y8,rfl,y9⟩:=y6
             refine aC (aHR (t:=0) (v:=zS y7 l4.length y8) aCQ y5 rfl rfl) (tD ?_);obtain ⟨b64,z0,z1⟩:=bK.el (sz:=4) rfl y9 p9
             obtain ⟨l9,m0,rfl,z2⟩:=z1
             refine tD ?_;refine aC (eQ (t:=1) (vs:=[i64 b5.Next.Definition,i64 b5.Next.Part,zS l9 b5.Next.Values.length m0]) aBh i3 (z0.mono (zL (zL (zL (zL (zL o j) k) l) m) y)) rfl rfl rfl) ?_
             obtain ⟨b65,m1,hm⟩:=aB hm
             have q1:=cR i3 (i:=0) rfl m1
             refine aC (dH gR rfl q1 rfl rfl rfl m1) ?_;obtain ⟨q2,m2,hm⟩:=aB hm
             refine aPL (i:=0) (ns:=[i64 b5.Next.Definition,i64 b5.Next.Part,zS l9 b5.Next.Values.length m0]) (e':=(b5.Next:GPoint)) sizeOf97 i3 rfl (zR _) rfl rfl rfl m1 m2 rfl ⟨l9,m0,rfl,(z2.mono (zL (zL (zL (zL (zL o j) k) l) m) y))⟩ (fun z3 (m3:aF G i2 (aP 97 i2 c1 c2 q2::aP 172 a c d b::aP 127 q u x p::L) z3)=>?_)
             iterate 4 refine aBL ?_
             refine aZ (v:=zS c1 q2.length c2) (Eq.trans rfl (congrArg (fun n=>zS c1 n c2) (bS m2))) ?_
             iterate 3 refine aBL ?_
             refine aC (dH vW rfl d1 rfl rfl rfl i1) ?_;obtain ⟨b66,z4,z5⟩:=yH (sz:=1) rfl m3 (i:=1) rfl i1
             obtain ⟨z6,z7,rfl,z8⟩:=z5
             refine aC (aHR (t:=0) (v:=zS z6 x5.length z7) aCQ z4 rfl rfl) (tD ?_);obtain ⟨b67,z9,a00⟩:=bK.el (sz:=4) rfl z8 q0
             obtain ⟨m4,m5,rfl,a01⟩:=a00
             refine tD ?_;refine aC (eQ (t:=1) (vs:=[i64 b6.Next.Definition,i64 b6.Next.Part,zS m4 b6.Next.Values.length m5]) aBh m3 (z9.mono (zL (zL (zL (zL (zL o j) k) l) m) y)) rfl rfl rfl) ?_
             obtain ⟨b68,q3,hm⟩:=aB hm
             refine aC (dH gR rfl q1 rfl rfl rfl q3) ?_;obtain ⟨q4,q5,hm⟩:=aB hm
             refine aPL (i:=0) (ns:=[i64 b6.Next.Definition,i64 b6.Next.Part,zS m4 b6.Next.Values.length m5]) (e':=(b6.Next:GPoint)) sizeOf97 m3 rfl (zR _) rfl rfl rfl q3 q5 rfl ⟨m4,m5,rfl,(a01.mono (zL (zL (zL (zL (zL o j) k) l) m) y))⟩ (fun a02 (a03:aF G i2 (aP 97 i2 c1 c2 q4::aP 172 a c d b::aP 127 q u x p::L) a02)=>(tD ?_));obtain ⟨m6,a04,hm⟩:=aB hm
             refine aCO call107 (aEP a04 a03 (h3.mono (zL (zL (zL (zL (zL (zL g o) j) k) l) m) y)) (h6.mono (zL (zL (zL (zL (zL (zL g o) j) k) l) m) y)) (h9.mono (zL (zL (zL (zL (zL (zL g o) j) k) l) m) y)) (j9.mono (zL (zL (zL (zL (zL (zL g o) j) k) l) m) y)) (f4.mono (zL (zL (zL (zL (zL (zL g o) j) k) l) m) y)) (k0.mono (zL (zL (zL (zL (zL (zL g o) j) k) l) m) y))) ?_
             rintro _ a05 ⟨rfl,a06⟩
             iterate 2 refine aBL ?_
             refine aZ (v:=zS c1 q4.length c2) (Eq.trans (Eq.trans rfl (congrArg (fun n=>zS c1 n c2) (bS m2))) (congrArg (fun n=>zS c1 n c2) (bS q5))) ?_;obtain ⟨a07,q6,a08,m7⟩:=aF.giveSp a06 (zR _) .head
             replace m7:aF G a07 (aP 172 a c d b::aP 127 q u x p::L) a05:=m7
             obtain ⟨m8,a09,hm⟩:=aB hm
             refine aCO call47 (sX a09 m7 a08) ?_
             rintro _ m9 ⟨b69,q7,q8,rfl,q9,a11⟩
             refine aC (jE (vs:=[(0,str m6),(1,i64 a6),(2,i64 a8),(3,zS q7 m8.length q8)]) (cs:=[str m6,i64 a6,i64 a8,zS q7 m8.length q8]) aSW rfl (by kernel_rfl)) ?_;obtain ⟨c3,r0,a12,n0⟩:=aF.giveSp a11 (zR _) .head
             replace n0:aF G c3 (aP 172 a c d b::aP 127 q u x p::L) m9:=n0
             have b70:aF G c3 (aP 172 a c d b::aP 127 c3 u x p::L) m9:=aF.weak (i:=1) n0 rfl (fun _ h=>aP.mono (zL (zL (zL y q6) q9) r0) h)
             have a14:aF G c3 (aP 127 c3 u x p::aP 172 a c d b::L) m9:=aDq
             obtain ⟨a15,a17,hm⟩:=aB hm
             refine aCO call106 (aBE (Kf:=c3) (x_:=⟨m6,a6,a8,m8⟩) a17 a14 (zR _) a12) ?_
             rintro _ b71 ⟨a18,a20,rfl,a21⟩
             refine tD ?_;exact ⟨bZ,c3,a15,a18,a20,(zL (zL (zL y q6) q9) r0),hm,rfl,a21⟩
           ·refine tD ?_
            have a23:=hr _ (zI hm).symm
            subst a23
            have hm:(wQ d0 p)=some l2:=ho
            clear hr ho
            refine tD ?_;exact ⟨bZ,q,p,u,x,m,hm,p6,p7⟩
          refine tD ?_;obtain ⟨a24,r1,hm⟩:=aB hm
          refine aC (dH vW rfl d1 rfl rfl rfl r1) ?_;obtain ⟨b72,a26,a27⟩:=yH (sz:=1) rfl l7 (i:=1) rfl r1
          obtain ⟨a28,a29,rfl,b73⟩:=a27
          refine aC (aHR (t:=0) (v:=zS a28 a24.length a29) aCQ a26 rfl rfl) (tD ?_)
          rcases aM hm with ⟨a30,hm⟩|⟨a30,hm⟩
          ·refine tD ?_;exact ⟨bZ,decide ((p.length:Int)<=200),hm,rfl,l7⟩
          ·refine tD ?_;exact ⟨bZ,false,hm,rfl,l7⟩
        ·refine tD ?_
         have a32:=hr _ (zI hm).symm
         subst a32
         have hm:(wP a8 e2)=some k9:=ho
         clear hr ho
         refine tD ?_;exact ⟨bZ,b4,e2,g8,g9,l,hm,v7,l3⟩
      ·refine tD ?_
       have a33:=hr _ (zI hm).symm
       subst a33
       have hm:(wO a6 e0)=some k6:=ho
       clear hr ho
       refine tD ?_;exact ⟨bZ,b3,e0,g3,g4,k,hm,v0,v1⟩
    ·refine tD ?_
     have a34:=hr _ (zI hm).symm
     subst a34
     have hm:(wN d8)=some R:=ho
     clear hr ho
     refine tD ?_;exact ⟨bZ,b2,d8,f8,f9,j,hm,u4,aDq⟩
  have a35:aF G a (aP 172 a c d b::aP 127 a a5 0 ([]:List bC)::L) t8:=aF.weak (i:=1) t9 rfl (fun _ h=>aP.mono g h)
  obtain ⟨b74,a36,ho⟩:=aB hm
  refine cA [0,1,7] a36 (fun e5 a9 f w=>∃ b0 e6 e7,Hp.le a b0/\f 6=zS e6 e5.length e7/\f 11=i64 a9/\aF G b0 (aP 172 a c d b::aP 127 b0 e6 e7 e5::L) w) ?_ ?_
  ·exact ⟨a,a5,0,(zR _),rfl,rfl,a35⟩
  ·rintro e5 a9 n1 f b75 hm hr ⟨b0,e6,e7,J,r2,b76,a37⟩
   unfold qH at hm
   refine tD ?_
   rcases aM hm with ⟨a38,hm⟩|⟨a38,hm⟩
   ·refine tD ?_;refine aQ [0,1,7,11] (fun f w=>∃ e8 i4 i5 i6,Hp.le b0 e8/\aAv a9 i4=some n1/\f 6=zS i5 i4.length i6/\aF G e8 (aP 127 e8 i5 i6 i4::aP 172 a c d b::L) w) ?_ ?_
    ·rintro f b77 ⟨e8,i4,i5,i6,a40,hm,a41,b78⟩
     unfold aAv at hm
     refine tD ?_;exact ⟨_,(zI hm).symm,bZ,e8,i5,i6,(zL J a40),a41,rfl,aDq⟩
    refine tD ?_;refine aQ [0,1,7,11] (fun f w=>∃ e9 f0 i7 i8,Hp.le b0 e9/\qE a9 f0=some n1/\f 6=zS i7 f0.length i8/\aF G e9 (aP 127 e9 i7 i8 f0::aP 172 a c d b::L) w) ?_ ?_
    ·rintro f b79 ⟨e9,f0,i7,i8,a42,hm,a43,a44⟩
     unfold qE at hm
     refine tD ?_;exact ⟨bZ,e9,f0,i7,i8,a42,hm,a43,a44⟩
    obtain ⟨b80,a45,ho⟩:=aB hm
    refine cA [0,1,7,11] a45 (fun r i9 f w=>∃ z V a0,Hp.le b0 z/\f 6=zS V r.length a0/\f 12=i64 i9/\aF G z (aP 172 a c d b::aP 127 z V a0 r::L) w) ?_ ?_
    ·exact ⟨b0,e6,e7,(zR _),r2,rfl,a37⟩
    ·rintro r i9 r3 f b81 hm hr ⟨z,V,a0,a2,r4,b82,n2⟩
     unfold qG at hm
     refine tD ?_;obtain ⟨r5,f1,hm⟩:=aB hm
     have r6:=cR n2 (i:=0) rfl f1
     refine aC (dH vW rfl r6 rfl rfl rfl f1) ?_;obtain ⟨b83,a46,a48⟩:=yH (sz:=1) rfl n2 (i:=0) rfl f1
     obtain ⟨a49,a50,rfl,b84⟩:=a48
     refine aC (aHR (t:=0) (v:=zS a49 r5.length a50) aCQ a46 rfl rfl) (tD ?_)
     rcases aM hm with ⟨a51,hm⟩|⟨a51,hm⟩
     ·refine tD ?_;refine aQ [0,1,7,11,12] (fun f w=>∃ f2 j0 j1 j2,Hp.le z f2/\qF i9 j0=some r3/\f 6=zS j1 j0.length j2/\aF G f2 (aP 172 a c d b::aP 127 f2 j1 j2 j0::L) w) ?_ ?_
      ·rintro f b85 ⟨f2,j0,j1,j2,a52,hm,a53,a54⟩
       unfold qF at hm
       refine tD ?_;exact ⟨_,(zI hm).symm,bZ,f2,j1,j2,(zL a2 a52),a53,rfl,a54⟩
      iterate 4 refine aBL ?_
      refine aC (dH vW rfl r6 rfl rfl rfl f1) ?_;obtain ⟨b86,a55,a56⟩:=yH (sz:=1) rfl n2 (i:=0) rfl f1
      obtain ⟨a57,a58,rfl,a59⟩:=a56
      refine aC (aHR (t:=0) (v:=zS a57 r5.length a58) aCQ a55 rfl rfl) (tD ?_);obtain ⟨e,a60,hm⟩:=aB hm
      refine tD ?_;obtain ⟨b87,b88,a61⟩:=bK.el (sz:=4) rfl a59 a60
      obtain ⟨b7,b8,rfl,a62⟩:=a61
      refine tD ?_;refine aGf fun d3 b89 b90=>?_
      refine aFe fun b91 j3=>?_;refine tD ?_
      refine bQ [0,1,6,7,11,12,13] (fun f w=>∃ n3,jS s_ a3 a9 r i9 e n3=some r3/\f 81=zB n3/\aF G z (box d3 176 [str e.B,i64 e.Next.Definition,i64 e.Next.Part,zS b7 e.Next.Values.length b8]::aP 172 a c d b::aP 127 z V a0 r::L) w) ?_ ?_
      ·rintro f b92 ⟨n3,hm,b93,a63⟩
       unfold jS at hm
       refine tD ?_
       rcases aM hm with ⟨a64,hm⟩|⟨a64,hm⟩
       ·refine tD ?_;exact ⟨bZ,z,r,V,a0,(zR _),hm,r4,aDq⟩
       ·refine tD ?_;obtain ⟨b94,a65,hm⟩:=aB hm
        refine aCO call47 (sX a65 a63 (k1.mono (zL (zL g J) a2))) ?_
        rintro _ b95 ⟨r7,n4,n5,rfl,b1,r8⟩
        refine tD ?_;obtain ⟨b96,n6,hm⟩:=aB hm
        have a66:=cR r8 (i:=0) rfl n6
        refine aC (dH gR rfl a66 rfl rfl rfl n6) ?_;obtain ⟨r9,s0,hm⟩:=aB hm
        refine aPL (i:=0) (ns:=[i64 e.Next.Definition,i64 e.Next.Part,zS b7 e.Next.Values.length b8]) (e':=(e.Next:GPoint)) sizeOf97 r8 rfl (zR _) rfl rfl rfl n6 s0 rfl ⟨b7,b8,rfl,(a62.mono (zL (zL J a2) b1))⟩ (fun a67 (a68:aF G r7 (aP 97 r7 n4 n5 r9::box d3 176 [str e.B,i64 e.Next.Definition,i64 e.Next.Part,zS b7 e.Next.Values.length b8]::aP 172 a c d b::aP 127 z V a0 r::L) a67)=>(tD ?_));obtain ⟨n7,a69,hm⟩:=aB hm
        refine aCO call107 (aEP a69 a68 (h3.mono (zL (zL (zL g J) a2) b1)) (h6.mono (zL (zL (zL g J) a2) b1)) (h9.mono (zL (zL (zL g J) a2) b1)) (j9.mono (zL (zL (zL g J) a2) b1)) (f4.mono (zL (zL (zL g J) a2) b1)) (k0.mono (zL (zL (zL g J) a2) b1))) ?_
        rintro _ a71 ⟨rfl,a72⟩
        iterate 1 refine aBL ?_
        refine aZ (v:=zS n4 r9.length n5) (Eq.trans rfl (congrArg (fun n=>zS n4 n n5) (bS s0))) ?_;obtain ⟨a73,s1,a74,n8⟩:=aF.giveSp a72 (zR _) .head
        replace n8:aF G a73 (box d3 176 [str e.B,i64 e.Next.Definition,i64 e.Next.Part,zS b7 e.Next.Values.length b8]::aP 172 a c d b::aP 127 z V a0 r::L) a71:=n8
        obtain ⟨n9,a75,hm⟩:=aB hm
        refine aCO call47 (sX a75 n8 a74) ?_
        rintro _ o0 ⟨b97,s2,s3,rfl,s4,a76⟩
        refine aC (jE (vs:=[(0,str n7),(1,i64 a9),(2,i64 (-1)),(3,zS s2 n9.length s3)]) (cs:=[str n7,i64 a9,i64 (-1),zS s2 n9.length s3]) aSW rfl (by kernel_rfl)) ?_;obtain ⟨c4,s5,a77,o1⟩:=aF.giveSp a76 (zR _) .head
        replace o1:aF G c4 (box d3 176 [str e.B,i64 e.Next.Definition,i64 e.Next.Part,zS b7 e.Next.Values.length b8]::aP 172 a c d b::aP 127 z V a0 r::L) o0:=o1
        have b98:aF G c4 (box d3 176 [str e.B,i64 e.Next.Definition,i64 e.Next.Part,zS b7 e.Next.Values.length b8]::aP 172 a c d b::aP 127 c4 V a0 r::L) o0:=aF.weak (i:=2) o1 rfl (fun _ h=>aP.mono (zL (zL (zL b1 s1) s4) s5) h)
        have a78:aF G c4 (aP 127 c4 V a0 r::box d3 176 [str e.B,i64 e.Next.Definition,i64 e.Next.Part,zS b7 e.Next.Values.length b8]::aP 172 a c d b::L) o0:=aDq
        obtain ⟨a79,a80,hm⟩:=aB hm
        refine aCO call106 (aBE (Kf:=c4) (x_:=⟨n7,a9,(-1),n9⟩) a80 a78 (zR _) a77) ?_
        rintro _ b99 ⟨a81,a82,rfl,c00⟩
        refine tD ?_;exact ⟨bZ,c4,a79,a81,a82,(zL (zL (zL b1 s1) s4) s5),hm,rfl,aDq⟩
      refine aRj ?_;refine tD ?_
      rcases aM hm with ⟨a83,hm⟩|⟨a83,hm⟩
      ·refine tD ?_;obtain ⟨s6,a84,hm⟩:=aB hm
       refine pL (vs:=[str e.B]) (v:=str s6) call105 rfl (fun _ j3=>(pQ a84 j3)) (tD ?_);obtain ⟨s7,a85,hm⟩:=aB hm
       refine pL (vs:=[zS a13 s_.Allowed.length c14,str s6]) (v:=i64 s7) call72 rfl (fun _ j3=>(aAW a85 j3 (f4.mono (zL (zL g J) a2)))) (tD ?_);refine pU (fun c01 a86=>(tD ?_))
       exact ⟨bZ,decide (s7 < 0),hm,rfl,a86⟩
      ·refine tD ?_;refine pU (fun c02 a87=>(tD ?_))
       exact ⟨bZ,false,hm,rfl,a87⟩
     ·refine tD ?_
      have a88:=hr _ (zI hm).symm
      subst a88
      have hm:(qE a9 r)=some n1:=ho
      clear hr ho
      refine tD ?_;exact ⟨bZ,z,r,V,a0,a2,hm,r4,aDq⟩
   ·refine tD ?_
    have a89:=hr _ (zI hm).symm
    subst a89
    have hm:(nL s_ a3 b e5)=some R:=ho
    clear hr ho
    refine tD ?_;exact ⟨bZ,b0,e5,e6,e7,J,hm,r2,aDq⟩
 obtain ⟨c03,a90,ho⟩:=aB hm
 refine cA [0,1,6] a90 (fun c6 s8 f w=>∃ c7 d4 d5,Hp.le K c7/\f 7=zS d4 c6.length d5/\f 8=i64 s8/\aF G c7 (aP 172 c7 d4 d5 c6::aP 127 K a5 0 ([]:List bC)::L) w) ?_ ?_
 ·exact ⟨K,o8,0,(zR _),rfl,rfl,t7⟩
 ·rintro c6 s8 c04 f c05 hm hr ⟨c7,d4,d5,d6,a91,c06,a93⟩
  unfold lK at hm
  refine tD ?_
  rcases aM hm with ⟨a94,hm⟩|⟨a94,hm⟩
  ·refine tD ?_;refine bT (tD ?_)
   refine st_w [(0,0),(1,0),(2,0),(3,0),(4,0),(5,0),(6,0),(7,1),(8,0),(9,0),(10,0),(11,0),(12,0)] fun c07 a95=>?_;refine tD ?_
   obtain ⟨c08,a96,hm⟩:=aB hm
   refine tD ?_;obtain ⟨c09,a97,a98⟩:=bK.el (sz:=3) rfl k1 a96
   obtain ⟨c10,c12,rfl,a99⟩:=a98
   refine nT rfl ?_;obtain ⟨j4,b00,hm⟩:=aB hm
   refine aCO call104 (aFG b00 a95 (h6.mono d6) (a97.mono d6) (a99.mono d6)) ?_
   rintro _ b01 ⟨s9,o2,o3,rfl,j5,o4⟩
   refine bN (aD ⟨⟨_,(aF.weakK o4 j5)⟩,?_⟩)
   refine tD ?_;refine aCP (tD ?_)
   rcases aM hm with ⟨b02,hm⟩|⟨b02,hm⟩
   ·refine tD ?_;refine aCe (lT (aCf (lT (lT ?_))))
    have b03:=hr _ (zI hm).symm
    subst b03
    have hm:(some ([],false))=some R:=ho
    clear hr ho
    have c13:=aF.nil (α:=bC) o4 127 s9
    obtain rfl:=zI hm
    exact aCf (lT (lT (aNy results71 rfl rfl ⟨s9,none,0,rfl,(zL d6 j5),aDq⟩)))
   ·refine tD ?_;obtain ⟨b9,t0,b05,o5⟩:=aF.giveSp o4 (zR _) .head
    replace o5:aF G b9 (aP 172 c7 d4 d5 c6::aP 127 K a5 0 ([]:List bC)::L) b01:=o5
    refine dU (Kt:=b9) (xs:=([j4.1]:List (List bR))) (cs:=[zS o2 j4.1.length o3]) (vs:=[(0,zS o2 j4.1.length o3)]) vW aNJ rfl rfl o5 rfl (by kernel_rfl) rfl rfl rfl ⟨⟨o2,o3,rfl,b05⟩,trivial⟩ (fun b06 b07 (b08:aF G b9 (aP 172 b9 b06 1 ([j4.1]:List (List bR))::aP 172 c7 d4 d5 c6::aP 127 K a5 0 ([]:List bC)::L) b07)=>?_);obtain ⟨b09,b10,hm⟩:=aB hm
    refine xP (i:=0) b9 vW underlying171 aNJ rfl rfl b08 rfl (zL j5 t0) (zR _) b10 rfl rfl rfl rfl (fun _ _ _ h=>El.one h) (fun t1 t2 b11 (b12:aF G b9 (aP 172 b9 t1 t2 b09::aP 127 K a5 0 ([]:List bC)::L) b11)=>(tD ?_));exact ⟨_,(zI hm).symm,bZ,b9,t1,t2,(zL (zL d6 j5) t0),rfl,rfl,b12⟩
  ·refine tD ?_
   have b13:=hr _ (zI hm).symm
   subst b13
   have hm:(lJ s_ a3 c6)=some R:=ho
   clear hr ho
   refine tD ?_;exact ⟨bZ,c7,c6,d4,d5,d6,hm,a91,a93⟩
theorem aIj {s_:bE} {k2:Nat} {q:(List GPoint)} {R:((List aO) × (List (List GPoint)) × Bool)} (hm:yK s_ q=some R) (hs:aF G K (L) w) (h3:eU K a1 k2 [zS a4 s_.Definitions.length c5,zS a7 s_.Components.length c8,zS a10 s_.Meetings.length c11,zS a13 s_.Allowed.length c14,zS a16 s_.Hidden.length c17]) (h6:bK K a4 c5 s_.Definitions) (h9:bK K a7 c8 s_.Components) (c2:bK K a10 c11 s_.Meetings) (c3:bK K a13 c14 s_.Allowed) (c4:bK K a16 c17 s_.Hidden) (c6:bK K a19 c20 q):
  Calls prog 43 ([dS a1 k2,zS a19 q.length c20]:List Value).toArray w (dD fun v w'=>∃ r a3 a5 a6 a8,v=zT #[zS a3 R.1.length a5,zS a6 R.2.1.length a8,zB R.2.2]/\Hp.le K r/\aF G r (aP 9 K a3 a5 R.1::aP 56 r a6 a8 R.2.1::L) w'):=by
 refine aBe func43 ?_;unfold yK at hm
 refine tD ?_;obtain ⟨c,c7,hm⟩:=aB hm
 refine aCO call71 (aIi c7 hs h3 h6 h9 c2 c3 c4 c6) ?_
 rintro _ e7 ⟨a,e,g,rfl,e8,e9⟩
 refine tD ?_;refine aIs ([]:List aO) fun c9 f0 d0=>?_
 refine tD ?_;refine dU (Kt:=a) (xs:=([]:List (List GPoint))) (cs:=[]) (vs:=[]) qV aMm rfl rfl d0 rfl (by kernel_rfl) rfl rfl rfl trivial (fun d1 d2 (f1:aF G a (aP 56 a d1 0 ([]:List (List GPoint))::aP 9 K c9 0 ([]:List aO)::aP 127 a e g c.1::L) d2)=>(tD ?_))
 refine aQ [8] (fun f w=>∃ u x a9 b0 b1 b2,aKN c u x=some R/\f 9=zS a9 u.length b0/\f 10=zS b1 x.length b2/\aF G a (aP 56 a b1 b2 x::aP 9 K a9 b0 u::L) w) aL ?_;obtain ⟨f2,d3,ho⟩:=aB hm
 refine iE [7,8] d3 (fun y j k f w=>∃ z J l m,f 9=zS z y.length J/\f 10=zS l j.length m/\f 11=i64 k/\aF G a (aP 56 a l m j::aP 9 K z J y::aP 127 a e g c.1::L) w) aL ?_
 ·rintro y j k f3 f f4 hm hr ⟨z,J,l,m,f5,f6,f7,b3⟩
  unfold sP at hm
  refine tD ?_
  rcases aM hm with ⟨d4,hm⟩|⟨d4,hm⟩
  ·refine tD ?_;refine bT (tD ?_)
   obtain ⟨b,d,hm⟩:=aB hm
   have n:=cR b3 (i:=2) rfl d
   refine aC (dH yI rfl n rfl rfl rfl d) (aC (sZ (k':=k.toNat * 4+0) aPU n rfl rfl) ?_);obtain ⟨f8,d5,d6⟩:=yH (sz:=4) rfl b3 (i:=2) rfl d
   obtain ⟨f9,g0,rfl,g1⟩:=d6
   refine aC (aHR (t:=0) (v:=str b.B) pE d5 rfl rfl) (aIs ([b.B]:List aO) fun g2 g3 g4=>?_);obtain ⟨b4,g5,hm⟩:=aB hm
   refine st_p fun V a0 g6 b5=>?_
   iterate 7 refine aBL ?_
   refine aC (dH yI rfl n rfl rfl rfl d) (aC (sZ (k':=k.toNat * 4+3) aPV n rfl rfl) ?_);obtain ⟨g7,d7,d8⟩:=yH (sz:=4) rfl b5 (i:=2) rfl d
   obtain ⟨o,p,rfl,d9⟩:=d8
   refine aC (aHR (t:=3) (v:=zS o b.State.length p) aHT d7 rfl rfl) (dU (Kt:=a) (xs:=([b.State]:List (List GPoint))) (cs:=[zS o b.State.length p]) (vs:=[(0,zS o b.State.length p)]) qV aMm rfl rfl b5 rfl (by kernel_rfl) rfl rfl rfl ⟨⟨o,p,rfl,d9⟩,trivial⟩ (fun e0 e1 (e2:aF G a (aP 56 a e0 1 ([b.State]:List (List GPoint))::aP 56 a l m j::aP 9 K V a0 b4::aP 127 a e g c.1::L) e1)=>?_));obtain ⟨e3,e4,hm⟩:=aB hm
   refine xP (i:=0) a qV underlying52 aMm rfl rfl e2 rfl (zR _) (zR _) e4 rfl rfl rfl rfl (fun _ _ _ h=>El.one h) (fun b6 b7 e5 (e6:aF G a (aP 56 a b6 b7 e3::aP 9 K V a0 b4::aP 127 a e g c.1::L) e5)=>(tD ?_));exact ⟨_,(zI hm).symm,bZ,V,a0,b6,b7,rfl,rfl,rfl,e6⟩
  ·exact aL
theorem aJx {a:(List aO)} {b:aO} {R:((List aO) × Int)} (hm:aKh a b=some R) (e:aF G K (aP 9 K a1 c2 a::L) w):
  Calls prog 44 ([zS a1 a.length c2,str b]:List Value).toArray w (dD fun v w'=>∃ c d,v=zT #[zS c R.1.length d,i64 R.2]/\aF G K (aP 9 K c d R.1::L) w'):=by
 exact aL
end Gv
