/- Walks, printed by program. -/
import Derived.Test.YtiipffjapfalhaaGreatDoorJWk9
set_option linter.all false
namespace Gv
open Gv.Hp renaming le_refl→zR
open Go.Value renaming slice→zS,bool→zB,agg→zA
open Option.some renaming inj→zI
open Go Go.Proofs Go.Proofs.Tryz
set_option maxRecDepth 20000
set_option maxHeartbeats 40000000
variable {G:nX} {K:Hp} {L:List fJ} {w:World} {a1 a4 a7 a10 a13 a16 a19 a22 a25 a28 a5 a9 a11:Option Addr} {c2 c5 c8 c11 c14 c17 c20 c23 c26 c29 c6 c10 c12:Nat}
theorem aQv {a b:(List aW)} {R:Bool} (hm:aKm a b=some R) (g:aF G K (L) w) (h:bK K a1 c2 a) (i:bK K a4 c5 b):
  Calls prog 239 ([zS a1 a.length c2,zS a4 b.length c5]:List Value).toArray w (dD fun v w'=>v=zB R/\aF G K (L) w'):=by
 refine aBe func239 ?_;unfold aKm at hm
 refine tD ?_
 rcases aM hm with ⟨c,hm⟩|⟨c,hm⟩
 ·exact aL
 ·refine tD ?_;refine aQ [] (fun f w=>aMK=some R/\aF G K (L) w) aL ?_
  obtain ⟨j,d,ho⟩:=aB hm
  exact cE [0,1] d (fun e f w=>f 5=i64 e/\aF G K (L) w) aL aL
theorem aPi {a b:(List (List aW))} {R:Bool} (hm:aHz a b=some R) (g:aF G K (L) w) (h:bK K a1 c2 a) (i:bK K a4 c5 b):
  Calls prog 195 ([zS a1 a.length c2,zS a4 b.length c5]:List Value).toArray w (dD fun v w'=>v=zB R/\aF G K (L) w'):=by
 refine aBe func195 ?_;unfold aHz at hm
 refine tD ?_
 rcases aM hm with ⟨c,hm⟩|⟨c,hm⟩
 ·exact aL
 ·refine tD ?_;refine aQ [] (fun f w=>aKT=some R/\aF G K (L) w) aL ?_
  obtain ⟨j,d,ho⟩:=aB hm
  exact cE [0,1] d (fun e f w=>f 5=i64 e/\aF G K (L) w) aL aL
theorem aRu {a b:Part} {R:Bool} (hm:aML a b=some R) (c:aF G K (L) w) (d:bK K a1 c2 a.Arguments) (e:bK K a4 c5 b.Arguments):
  Calls prog 143 ([zA #[i64 a.Kind,i64 a.Number,str a.Name,zS a1 a.Arguments.length c2],zA #[i64 b.Kind,i64 b.Number,str b.Name,zS a4 b.Arguments.length c5]]:List Value).toArray w (dD fun v w'=>v=zB R/\aF G K (L) w'):=by
 exact aL
theorem aQw {a b:(List Part)} {R:Bool} (hm:aKn a b=some R) (g:aF G K (L) w) (h:bK K a1 c2 a) (i:bK K a4 c5 b):
  Calls prog 95 ([zS a1 a.length c2,zS a4 b.length c5]:List Value).toArray w (dD fun v w'=>v=zB R/\aF G K (L) w'):=by
 refine aBe func95 ?_;unfold aKn at hm
 refine tD ?_
 rcases aM hm with ⟨c,hm⟩|⟨c,hm⟩
 ·exact aL
 ·refine tD ?_;refine aQ [] (fun f w=>aMM=some R/\aF G K (L) w) aL ?_
  obtain ⟨j,d,ho⟩:=aB hm
  exact cE [0,1] d (fun e f w=>f 5=i64 e/\aF G K (L) w) aL aL
theorem aKB {a b:Definition} {R:Bool} (hm:aAQ a b=some R) (c:aF G K (L) w) (d:bK K a1 c2 a.Body) (e:bK K a4 c5 b.Body):
  Calls prog 59 ([zA #[str a.Name,i64 a.Parameters,zS a1 a.Body.length c2],zA #[str b.Name,i64 b.Parameters,zS a4 b.Body.length c5]]:List Value).toArray w (dD fun v w'=>v=zB R/\aF G K (L) w'):=by
 exact aL
theorem aJD {a b:(List Definition)} {R:Bool} (hm:yB a b=some R) (g:aF G K (L) w) (h:bK K a1 c2 a) (i:bK K a4 c5 b):
  Calls prog 30 ([zS a1 a.length c2,zS a4 b.length c5]:List Value).toArray w (dD fun v w'=>v=zB R/\aF G K (L) w'):=by
 refine aBe func30 ?_;unfold yB at hm
 refine tD ?_
 rcases aM hm with ⟨c,hm⟩|⟨c,hm⟩
 ·exact aL
 ·refine tD ?_;refine aQ [] (fun f w=>aEL=some R/\aF G K (L) w) aL ?_
  obtain ⟨j,d,ho⟩:=aB hm
  exact cE [0,1] d (fun e f w=>f 5=i64 e/\aF G K (L) w) aL aL
theorem aLF {a b:aY} {R:Bool} (hm:aCa a b=some R) (c:aF G K (L) w) (d:bK K a1 c2 a.Values) (e:bK K a4 c5 b.Values):
  Calls prog 60 ([zA #[i64 a.Definition,zS a1 a.Values.length c2],zA #[i64 b.Definition,zS a4 b.Values.length c5]]:List Value).toArray w (dD fun v w'=>v=zB R/\aF G K (L) w'):=by
 exact aL
theorem aKC {a b:(List aY)} {R:Bool} (hm:aAR a b=some R) (g:aF G K (L) w) (h:bK K a1 c2 a) (i:bK K a4 c5 b):
  Calls prog 31 ([zS a1 a.length c2,zS a4 b.length c5]:List Value).toArray w (dD fun v w'=>v=zB R/\aF G K (L) w'):=by
 refine aBe func31 ?_;unfold aAR at hm
 refine tD ?_
 rcases aM hm with ⟨c,hm⟩|⟨c,hm⟩
 ·exact aL
 ·refine tD ?_;refine aQ [] (fun f w=>aFC=some R/\aF G K (L) w) aL ?_
  obtain ⟨j,d,ho⟩:=aB hm
  exact cE [0,1] d (fun e f w=>f 5=i64 e/\aF G K (L) w) aL aL
theorem aNU {a b:bB} {R:Bool} (hm:aFD a b=some R) (c:aF G K (L) w):
  Calls prog 61 ([zA #[str a.Left,str a.Right,str a.Result],zA #[str b.Left,str b.Right,str b.Result]]:List Value).toArray w (dD fun v w'=>v=zB R/\aF G K (L) w'):=by
 exact aL
theorem aMY {a b:(List bB)} {R:Bool} (hm:aDV a b=some R) (g:aF G K (L) w) (h:bK K a1 c2 a) (i:bK K a4 c5 b):
  Calls prog 32 ([zS a1 a.length c2,zS a4 b.length c5]:List Value).toArray w (dD fun v w'=>v=zB R/\aF G K (L) w'):=by
 refine aBe func32 ?_;unfold aDV at hm
 refine tD ?_
 rcases aM hm with ⟨c,hm⟩|⟨c,hm⟩
 ·exact aL
 ·refine tD ?_;refine aQ [] (fun f w=>aHZ=some R/\aF G K (L) w) aL ?_
  obtain ⟨j,d,ho⟩:=aB hm
  exact cE [0,1] d (fun e f w=>f 5=i64 e/\aF G K (L) w) aL aL
theorem aNV {a b:(List aO)} {R:Bool} (hm:zN a b=some R) (g:aF G K (L) w) (h:bK K a1 c2 a) (i:bK K a4 c5 b):
  Calls prog 33 ([zS a1 a.length c2,zS a4 b.length c5]:List Value).toArray w (dD fun v w'=>v=zB R/\aF G K (L) w'):=by
 refine aBe func33 ?_;unfold zN at hm
 refine tD ?_
 rcases aM hm with ⟨c,hm⟩|⟨c,hm⟩
 ·exact aL
 ·refine tD ?_;refine aQ [] (fun f w=>aJj=some R/\aF G K (L) w) aL ?_
  obtain ⟨j,d,ho⟩:=aB hm
  exact cE [0,1] d (fun e f w=>f 5=i64 e/\aF G K (L) w) aL aL
theorem aIn {a b:bE} {R:Bool} (hm:aHA a b=some R) (c:aF G K (L) w) (d:bK K a1 c2 a.Definitions) (e:bK K a4 c5 a.Components) (g:bK K a7 c8 a.Meetings) (h:bK K a10 c11 a.Allowed) (i:bK K a13 c14 a.Hidden) (j:bK K a16 c17 b.Definitions) (k:bK K a19 c20 b.Components) (l:bK K a22 c23 b.Meetings) (m:bK K a25 c26 b.Allowed) (n:bK K a28 c29 b.Hidden):
  Calls prog 9 ([zA #[zS a1 a.Definitions.length c2,zS a4 a.Components.length c5,zS a7 a.Meetings.length c8,zS a10 a.Allowed.length c11,zS a13 a.Hidden.length c14],zA #[zS a16 b.Definitions.length c17,zS a19 b.Components.length c20,zS a22 b.Meetings.length c23,zS a25 b.Allowed.length c26,zS a28 b.Hidden.length c29]]:List Value).toArray w (dD fun v w'=>v=zB R/\aF G K (L) w'):=by
 exact aL
theorem lZ {k:Int} {R:aO} (hm:lY k=some R) (o:aF G K (L) w):
  Calls prog 62 ([i64 k]:List Value).toArray w (dD fun v w'=>v=str R/\aF G K (L) w'):=by
 refine aBe func62 ?_;unfold lY at hm
 refine tD ?_
 rcases aM hm with ⟨d,hm⟩|⟨d,hm⟩
 ·exact aL
 ·refine tD ?_;refine aQ [] (fun f w=>∃ a,aGe a=some R/\f 3=str a/\aF G K (L) w) aL ?_
  obtain ⟨p,e,ho⟩:=aB hm
  refine cA [] e (fun b c f w=>f 0=i64 b/\f 3=str c/\aF G K (L) w) aL ?_
  ·rintro b c q f r hm hr ⟨t,u,x⟩
   unfold aCb at hm
   refine tD ?_
   rcases aM hm with ⟨g,hm⟩|⟨g,hm⟩
   ·refine tD ?_;refine bT (tD ?_)
    obtain ⟨h,j,hm⟩:=aB hm
    refine aC (R_rem rfl rfl j) ?_
    iterate 1 refine aBL ?_
    refine aC (aRN runUnderlying5 rfl ⟨_,runUnderlying3⟩) (aIs ([(UInt8.ofInt (wr (48+h)))]:List UInt8) fun y z l=>?_);refine aC (aRM underlying140 underlying5 underlying9 l (i:=0) rfl rfl rfl) (tD ?_)
    obtain ⟨J,m,hm⟩:=aB hm
    refine aC (aKE rfl rfl m) (tD ?_);obtain ⟨V,n,hm⟩:=aB hm
    refine aC (R_quo rfl rfl n) (tD ?_);exact ⟨_,(zI hm).symm,bZ,rfl,rfl,aDq⟩
   ·exact aL
theorem aGI {a:(List aW)} {k:Int} {R:(Int × (List aW))} (hm:aCy a k=some R) (hs:aF G K (aP 275 K a1 c2 a::L) w):
  Calls prog 144 ([zS a1 a.length c2,i64 k]:List Value).toArray w (dD fun v w'=>v=i64 R.1/\a.length=R.2.length/\aF G K (aP 275 K a1 c2 R.2::L) w'):=by
 refine aBe func144 ?_;unfold aCy at hm
 refine tD ?_;refine aQ [] (fun f w=>∃ o j,aJk o j=some R/\f 1=i64 o/\a.length=j.length/\aF G K (aP 275 K a1 c2 j::L) w) aL ?_
 obtain ⟨a8,x,ho⟩:=aB hm
 refine iE [] x (fun c b d f w=>f 0=zS a1 c.length c2/\f 1=i64 b/\f 5=i64 d/\a.length=c.length/\aF G K (aP 275 K a1 c2 c::L) w) aL ?_
 ·rintro c b d a9 f b0 hm hr ⟨p,b1,b2,y,q⟩
  unfold uO at hm
  refine tD ?_
  rcases aM hm with ⟨z,hm⟩|⟨z,hm⟩
  ·refine tD ?_;refine bT (tD ?_)
   obtain ⟨J,l,hm⟩:=aB hm
   have e:=cR q (i:=0) rfl l
   refine aC (dH vV rfl e rfl rfl rfl l) (aC (sZ (k':=d.toNat * 2+0) aMh e rfl rfl) ?_);obtain ⟨r,g,hm⟩:=aB hm
   refine lW (i:=0) (t:=0) (ns:=[i64 b]) (e':=(⟨b,J.Value⟩:aW)) sizeOf2 q rfl (zR _) rfl rfl rfl l g rfl rfl (fW rfl) rfl (fun cs h=>by cases h;rfl) (fun V (a0:aF G K (aP 275 K a1 c2 r::L) V)=>?_)
   iterate 11 refine aBL ?_
   refine aZ (v:=zS a1 r.length c2) (Eq.trans p (congrArg (fun n=>zS a1 n c2) (bS g))) (tD ?_);obtain ⟨a2,u,hm⟩:=aB hm
   refine aC (dH vV rfl e rfl rfl rfl u) (aC (sZ (k':=d.toNat * 2+1) aPN e rfl rfl) ?_);obtain ⟨a3,m,hm⟩:=aB hm
   refine lW (i:=0) (t:=1) (ns:=[i64 (wr (b+1))]) (e':=(⟨a2.Kind,wr (b+1)⟩:aW)) sizeOf2 a0 rfl (zR _) rfl rfl rfl u m rfl rfl (fW rfl) rfl (fun cs h=>by cases h;rfl) (fun a5 (a6:aF G K (aP 275 K a1 c2 a3::L) a5)=>(tD ?_));exact ⟨_,(zI hm).symm,bZ,(Eq.trans (Eq.trans p (congrArg (fun n=>zS a1 n c2) (bS g))) (congrArg (fun n=>zS a1 n c2) (bS m))),rfl,rfl,((y.trans (bS g)).trans (bS m)),a6⟩
  ·exact aL
theorem aFL {a:(List (List aW))} {b:List (Dp.Hd (List aW))} {k:Int} {R:(Int × (List (List aW)))} (hm:aAT a k=some R) (hs:aF G K (aP 225 K a1 c2 (aV b a)::rows [275] b a::L) w) (b1:List.length b=List.length a):
  Calls prog 96 ([zS a1 a.length c2,i64 k]:List Value).toArray w (dD fun v w'=>v=i64 R.1/\a.length=R.2.length/\aF G K (aP 225 K a1 c2 (aV b R.2)::rows [275] b R.2::L) w'):=by
 refine aBe func96 ?_;unfold aAT at hm
 refine tD ?_;refine aQ [] (fun f w=>∃ o g,aIa o g=some R/\f 1=i64 o/\List.length b=List.length g/\a.length=g.length/\aF G K (aP 225 K a1 c2 (aV b g)::rows [275] b g::L) w) aL ?_
 obtain ⟨b2,z,ho⟩:=aB hm
 refine iE [] z (fun c p d f w=>f 0=zS a1 c.length c2/\f 1=i64 p/\f 5=i64 d/\List.length b=List.length c/\a.length=c.length/\aF G K (aP 225 K a1 c2 (aV b c)::rows [275] b c::L) w) aL ?_
 ·rintro c p d b3 f q hm hr ⟨J,V,b4,h,a0,m⟩
  unfold sJ at hm
  refine tD ?_
  rcases aM hm with ⟨c48,hm⟩|⟨c48,hm⟩
  ·refine tD ?_;refine bT (tD ?_)
   obtain ⟨r,e,hm⟩:=aB hm
   obtain ⟨⟨u,x⟩,j⟩:=aFU h e
   have a2:=cR m (i:=0) rfl (nG h e j)
   refine aC (dH aAd rfl a2 rfl rfl rfl e) (aC (aEm (t:=0) aPO m (i:=0) rfl (nG h e j) rfl rfl rfl) (aZ V ?_))
   have b5:aF G K (aP 225 K a1 c2 (aV b c)::rows [275] ((b).eraseIdx d.toNat) ((c).eraseIdx d.toNat)::aP 275 K u x r::L) q:=aF.focusR (i:=0) m rfl rfl j e
   have a3:aF G K (aP 275 K u x r::aP 225 K a1 c2 (aV b c)::rows [275] ((b).eraseIdx d.toNat) ((c).eraseIdx d.toNat)::L) q:=aDq
   obtain ⟨b6,a4,hm⟩:=aB hm
   refine aCO call144 (aGI a4 a3) ?_
   rintro _ a5 ⟨rfl,a7,a8⟩
   obtain ⟨y,l,hm⟩:=aB hm
   have a9:aF G K (aP 225 K a1 c2 (aV b y)::rows [275] b y::L) a5:=aF.unfocusR (tys:=[275]) a8 h j e a7 l
   refine tD ?_;exact ⟨_,(zI hm).symm,bZ,(Eq.trans J (congrArg (fun n=>zS a1 n c2) (bS l))),rfl,rfl,(h.trans (bS l)),(a0.trans (bS l)),a9⟩
  ·exact aL
theorem aGJ {a:(List Part)} {b:List (Dp.Hd Part)} {k:Int} {R:(Int × (List Part))} (hm:aCz a k=some R) (hs:aF G K (aP 159 K a1 c2 (aV b a)::rows [225,275] b a::L) w) (d6:List.length b=List.length a):
  Calls prog 63 ([zS a1 a.length c2,i64 k]:List Value).toArray w (dD fun v w'=>v=i64 R.1/\a.length=R.2.length/\aF G K (aP 159 K a1 c2 (aV b R.2)::rows [225,275] b R.2::L) w'):=by
 refine aBe func63 ?_;unfold aCz at hm
 refine tD ?_;refine aQ [] (fun f w=>∃ k5 u,aJl k5 u=some R/\f 1=i64 k5/\List.length b=List.length u/\a.length=u.length/\aF G K (aP 159 K a1 c2 (aV b u)::rows [225,275] b u::L) w) aL ?_
 obtain ⟨d7,c1,ho⟩:=aB hm
 refine iE [] c1 (fun r o c f w=>f 0=zS a1 r.length c2/\f 1=i64 o/\f 5=i64 c/\List.length b=List.length r/\a.length=r.length/\aF G K (aP 159 K a1 c2 (aV b r)::rows [225,275] b r::L) w) aL ?_
 ·rintro r o c d8 f d9 hm hr ⟨x,e0,e1,j,c3,b1⟩
  unfold uP at hm
  refine tD ?_
  rcases aM hm with ⟨c48,hm⟩|⟨c48,hm⟩
  ·refine tD ?_;refine bT (tD ?_)
   obtain ⟨a3,y,hm⟩:=aB hm
   obtain ⟨⟨⟨z,J⟩,l⟩,p⟩:=aFU j y
   have m:=cR b1 (i:=0) rfl (nG j y p)
   refine aC (dH yP rfl m rfl rfl rfl y) (aC (sZ (k':=c.toNat * 4+0) sB m rfl rfl) ?_);obtain ⟨a4,d,hm⟩:=aB hm
   refine aNF (i:=0) (t:=0) (ns:=[i64 o]) (e':=(⟨o,a3.Number,a3.Name,a3.Arguments⟩:Part)) sizeOf2 b1 j rfl rfl rfl rfl rfl y p d rfl rfl (fW rfl) rfl rfl rfl (fun c4 (c5:aF G K (aP 159 K a1 c2 (aV b a4)::rows [225,275] b a4::L) c4)=>?_)
   iterate 11 refine aBL ?_
   refine aZ (v:=zS a1 a4.length c2) (Eq.trans x (congrArg (fun n=>zS a1 n c2) (bS d))) (tD ?_);obtain ⟨a5,b2,hm⟩:=aB hm
   refine aC (dH yP rfl m rfl rfl rfl b2) (aC (sZ (k':=c.toNat * 4+1) aII m rfl rfl) ?_);obtain ⟨a7,g,hm⟩:=aB hm
   refine aNF (i:=0) (t:=1) (ns:=[i64 (wr (o+1))]) (e':=(⟨a5.Kind,wr (o+1),a5.Name,a5.Arguments⟩:Part)) sizeOf2 c5 (j.trans (bS d)) rfl rfl rfl rfl rfl b2 p g rfl rfl (fW rfl) rfl rfl rfl (fun c6 (c7:aF G K (aP 159 K a1 c2 (aV b a7)::rows [225,275] b a7::L) c6)=>?_)
   iterate 11 refine aBL ?_
   refine aZ (v:=zS a1 a7.length c2) (Eq.trans (Eq.trans x (congrArg (fun n=>zS a1 n c2) (bS d))) (congrArg (fun n=>zS a1 n c2) (bS g))) (tD ?_);obtain ⟨b3,c8,hm⟩:=aB hm
   refine aCO call62 (lZ c8 c7) ?_
   rintro _ e2 ⟨rfl,c9⟩
   obtain ⟨a8,b4,hm⟩:=aB hm
   refine aC (dH yP rfl m rfl rfl rfl b4) (aC (sZ (k':=c.toNat * 4+2) aMf m rfl rfl) ?_);obtain ⟨e,q,hm⟩:=aB hm
   refine aNF (i:=0) (t:=2) (ns:=[str b3]) (e':=(⟨a8.Kind,a8.Number,b3,a8.Arguments⟩:Part)) sizeOf9 c9 ((j.trans (bS d)).trans (bS g)) rfl rfl rfl rfl rfl b4 p q rfl rfl (fW rfl) rfl rfl rfl (fun V (b5:aF G K (aP 159 K a1 c2 (aV b e)::rows [225,275] b e::L) V)=>?_)
   iterate 10 refine aBL ?_
   refine aZ (v:=zS a1 e.length c2) (Eq.trans (Eq.trans (Eq.trans x (congrArg (fun n=>zS a1 n c2) (bS d))) (congrArg (fun n=>zS a1 n c2) (bS g))) (congrArg (fun n=>zS a1 n c2) (bS q))) (tD ?_);obtain ⟨h,a0,hm⟩:=aB hm
   refine aC (dH yP rfl m rfl rfl rfl a0) (aC (sZ (k':=c.toNat * 4+3) wB m rfl rfl) (aC (aEm (t:=3) aFV b5 (i:=0) rfl (nG (((j.trans (bS d)).trans (bS g)).trans (bS q)) a0 p) rfl rfl rfl) (aI (v:=i64 (wr ((wr ((wr (o+1))+1))+1))) ?_)))
   have d0:aF G K (aP 159 K a1 c2 (aV b e)::rows [225,275] ((b).eraseIdx c.toNat) ((e).eraseIdx c.toNat)::aP 225 K z J (aV l h.Arguments)::aFo [275] l h.Arguments::L) V:=aF.arr 4 [3,2,0,1] (aF.rowOut (i:=1) b5 rfl p (ix_at a0)) rfl
   obtain ⟨b6,b7⟩:=aF.openL (i:=3) d0 rfl
   replace b7:aF G K (aP 159 K a1 c2 (aV b e)::rows [225,275] ((b).eraseIdx c.toNat) ((e).eraseIdx c.toNat)::aP 225 K z J (aV l h.Arguments)::rows [275] l h.Arguments::L) V:=b7
   have d1:aF G K (aP 225 K z J (aV l h.Arguments)::rows [275] l h.Arguments::aP 159 K a1 c2 (aV b e)::rows [225,275] ((b).eraseIdx c.toNat) ((e).eraseIdx c.toNat)::L) V:=aDq
   obtain ⟨a9,d2,hm⟩:=aB hm
   refine aCO call96 (aFL d2 d1 b6) ?_
   rintro _ b8 ⟨rfl,b9,d3⟩
   obtain ⟨c0,a2,hm⟩:=aB hm
   have e3:aF G K (aP 225 K z J (aV l a9.2)::aFo [275] l a9.2::aP 159 K a1 c2 (aV b e)::rows [225,275] ((b).eraseIdx c.toNat) ((e).eraseIdx c.toNat)::L) b8:=aF.closeL (i:=1) d3 rfl (b6.trans b9)
   have d4:aF G K (aP 159 K a1 c2 (aV b c0)::rows [225,275] b c0::L) b8:=aF.unfocusS (tys:=[225,275]) (x':=(⟨h.Kind,h.Number,h.Name,a9.2⟩:Part)) aDq (((j.trans (bS d)).trans (bS g)).trans (bS q)) p a0 (aVV b9) a2
   refine tD ?_;exact ⟨_,(zI hm).symm,bZ,(Eq.trans (Eq.trans (Eq.trans (Eq.trans x (congrArg (fun n=>zS a1 n c2) (bS d))) (congrArg (fun n=>zS a1 n c2) (bS g))) (congrArg (fun n=>zS a1 n c2) (bS q))) (congrArg (fun n=>zS a1 n c2) (bS a2))),rfl,rfl,((((j.trans (bS d)).trans (bS g)).trans (bS q)).trans (bS a2)),((((c3.trans (bS d)).trans (bS g)).trans (bS q)).trans (bS a2)),d4⟩
  ·exact aL
theorem aBa {a:(List Definition)} {b:List (Dp.Hd Definition)} {k:Int} {R:(Int × (List Definition))} (hm:oY a k=some R) (hs:aF G K (aP 101 K a1 c2 (aV b a)::rows [159,225,275] b a::L) w) (d0:List.length b=List.length a):
  Calls prog 34 ([zS a1 a.length c2,i64 k]:List Value).toArray w (dD fun v w'=>v=i64 R.1/\a.length=R.2.length/\aF G K (aP 101 K a1 c2 (aV b R.2)::rows [159,225,275] b R.2::L) w'):=by
 refine aBe func34 ?_;unfold oY at hm
 refine tD ?_;refine aQ [] (fun f w=>∃ k5 q,aCA k5 q=some R/\f 1=i64 k5/\List.length b=List.length q/\a.length=q.length/\aF G K (aP 101 K a1 c2 (aV b q)::rows [159,225,275] b q::L) w) aL ?_
 obtain ⟨d1,b7,ho⟩:=aB hm
 refine iE [] b7 (fun m r c f w=>f 0=zS a1 m.length c2/\f 1=i64 r/\f 5=i64 c/\List.length b=List.length m/\a.length=m.length/\aF G K (aP 101 K a1 c2 (aV b m)::rows [159,225,275] b m::L) w) aL ?_
 ·rintro m r c d2 f d3 hm hr ⟨a0,d4,d5,j,b8,b9⟩
  unfold lN at hm
  refine tD ?_
  rcases aM hm with ⟨c48,hm⟩|⟨c48,hm⟩
  ·refine tD ?_;refine bT (tD ?_)
   obtain ⟨a5,c0,hm⟩:=aB hm
   refine aCO call62 (lZ c0 b9) ?_
   rintro _ d6 ⟨rfl,a7⟩
   obtain ⟨a8,u,hm⟩:=aB hm
   obtain ⟨⟨⟨x,y⟩,g⟩,o⟩:=aFU j u
   have p:=cR a7 (i:=0) rfl (nG j u o)
   refine aC (dH yQ rfl p rfl rfl rfl u) (aC (sZ (k':=c.toNat * 3+0) aMi p rfl rfl) ?_);obtain ⟨a2,e,hm⟩:=aB hm
   refine aNF (i:=0) (t:=0) (ns:=[str a5]) (e':=(⟨a5,a8.Parameters,a8.Body⟩:Definition)) sizeOf9 a7 j rfl rfl rfl rfl rfl u o e rfl rfl (fW rfl) rfl rfl rfl (fun c1 (c3:aF G K (aP 101 K a1 c2 (aV b a2)::rows [159,225,275] b a2::L) c1)=>?_)
   iterate 11 refine aBL ?_
   refine aZ (v:=zS a1 a2.length c2) (Eq.trans a0 (congrArg (fun n=>zS a1 n c2) (bS e))) (tD ?_);obtain ⟨a9,b0,hm⟩:=aB hm
   refine aC (dH yQ rfl p rfl rfl rfl b0) (aC (sZ (k':=c.toNat * 3+1) aMg p rfl rfl) ?_);obtain ⟨d,l,hm⟩:=aB hm
   refine aNF (i:=0) (t:=1) (ns:=[i64 (wr (r+1))]) (e':=(⟨a9.Name,wr (r+1),a9.Body⟩:Definition)) sizeOf2 c3 (j.trans (bS e)) rfl rfl rfl rfl rfl b0 o l rfl rfl (fW rfl) rfl rfl rfl (fun z (b1:aF G K (aP 101 K a1 c2 (aV b d)::rows [159,225,275] b d::L) z)=>?_)
   iterate 10 refine aBL ?_
   refine aZ (v:=zS a1 d.length c2) (Eq.trans (Eq.trans a0 (congrArg (fun n=>zS a1 n c2) (bS e))) (congrArg (fun n=>zS a1 n c2) (bS l))) (tD ?_);obtain ⟨h,J,hm⟩:=aB hm
   refine aC (dH yQ rfl p rfl rfl rfl J) (aC (sZ (k':=c.toNat * 3+2) wC p rfl rfl) (aC (aEm (t:=2) aKH b1 (i:=0) rfl (nG ((j.trans (bS e)).trans (bS l)) J o) rfl rfl rfl) (aI (v:=i64 (wr ((wr (r+1))+1))) ?_)))
   have c4:aF G K (aP 101 K a1 c2 (aV b d)::rows [159,225,275] ((b).eraseIdx c.toNat) ((d).eraseIdx c.toNat)::aP 159 K x y (aV g h.Body)::aFo [225,275] g h.Body::L) z:=aF.arr 4 [3,2,0,1] (aF.rowOut (i:=1) b1 rfl o (ix_at J)) rfl
   obtain ⟨b2,b3⟩:=aF.openL (i:=3) c4 rfl
   replace b3:aF G K (aP 101 K a1 c2 (aV b d)::rows [159,225,275] ((b).eraseIdx c.toNat) ((d).eraseIdx c.toNat)::aP 159 K x y (aV g h.Body)::rows [225,275] g h.Body::L) z:=b3
   have c5:aF G K (aP 159 K x y (aV g h.Body)::rows [225,275] g h.Body::aP 101 K a1 c2 (aV b d)::rows [159,225,275] ((b).eraseIdx c.toNat) ((d).eraseIdx c.toNat)::L) z:=aDq
   obtain ⟨a3,c6,hm⟩:=aB hm
   refine aCO call63 (aGJ c6 c5 b2) ?_
   rintro _ b4 ⟨rfl,b5,c7⟩
   obtain ⟨b6,V,hm⟩:=aB hm
   have d7:aF G K (aP 159 K x y (aV g a3.2)::aFo [225,275] g a3.2::aP 101 K a1 c2 (aV b d)::rows [159,225,275] ((b).eraseIdx c.toNat) ((d).eraseIdx c.toNat)::L) b4:=aF.closeL (i:=1) c7 rfl (b2.trans b5)
   have c8:aF G K (aP 101 K a1 c2 (aV b b6)::rows [159,225,275] b b6::L) b4:=aF.unfocusS (tys:=[159,225,275]) (x':=(⟨h.Name,h.Parameters,a3.2⟩:Definition)) aDq ((j.trans (bS e)).trans (bS l)) o J (aNG b5) V
   refine tD ?_;exact ⟨_,(zI hm).symm,bZ,(Eq.trans (Eq.trans (Eq.trans a0 (congrArg (fun n=>zS a1 n c2) (bS e))) (congrArg (fun n=>zS a1 n c2) (bS l))) (congrArg (fun n=>zS a1 n c2) (bS V))),rfl,rfl,(((j.trans (bS e)).trans (bS l)).trans (bS V)),(((b8.trans (bS e)).trans (bS l)).trans (bS V)),c8⟩
  ·exact aL
theorem aBb {a:(List Int)} {k:Int} {R:(Int × (List Int))} (hm:vK a k=some R) (J:aF G K (aP 2 K a1 c2 a::L) w):
  Calls prog 11 ([zS a1 a.length c2,i64 k]:List Value).toArray w (dD fun v w'=>v=i64 R.1/\a.length=R.2.length/\aF G K (aP 2 K a1 c2 R.2::L) w'):=by
 refine aBe func11 ?_;unfold vK at hm
 refine tD ?_;refine aQ [] (fun f w=>∃ j d,aCU j d=some R/\f 1=i64 j/\a.length=d.length/\aF G K (aP 2 K a1 c2 d::L) w) aL ?_
 obtain ⟨V,o,ho⟩:=aB hm
 refine iE [] o (fun b c l f w=>f 0=zS a1 b.length c2/\f 1=i64 c/\f 5=i64 l/\a.length=b.length/\aF G K (aP 2 K a1 c2 b::L) w) aL ?_
 ·rintro b c l a0 f a2 hm hr ⟨p,a3,a5,q,m⟩
  unfold yD at hm
  refine tD ?_
  rcases aM hm with ⟨r,hm⟩|⟨r,hm⟩
  ·refine tD ?_;refine bT (tD ?_)
   obtain ⟨a6,e,hm⟩:=aB hm
   have u:=cR m (i:=0) rfl e
   refine aC (dH fZ rfl u rfl rfl rfl e) ?_;obtain ⟨x,g,hm⟩:=aB hm
   refine lW (i:=0) (t:=0) (ns:=[i64 c]) (e':=(c:Int)) sizeOf2 m rfl (zR _) rfl rfl rfl e g rfl rfl (fW rfl) rfl (fun cs h=>by cases h;rfl) (fun y (z:aF G K (aP 2 K a1 c2 x::L) y)=>(tD ?_));exact ⟨_,(zI hm).symm,bZ,(Eq.trans p (congrArg (fun n=>zS a1 n c2) (bS g))),rfl,rfl,(q.trans (bS g)),z⟩
  ·exact aL
theorem aBn {a:(List aY)} {b:List (Dp.Hd aY)} {k:Int} {R:(Int × (List aY))} (hm:qL a k=some R) (hs:aF G K (aP 103 K a1 c2 (aV b a)::rows [2] b a::L) w) (b5:List.length b=List.length a):
  Calls prog 35 ([zS a1 a.length c2,i64 k]:List Value).toArray w (dD fun v w'=>v=i64 R.1/\a.length=R.2.length/\aF G K (aP 103 K a1 c2 (aV b R.2)::rows [2] b R.2::L) w'):=by
 refine aBe func35 ?_;unfold qL at hm
 refine tD ?_;refine aQ [] (fun f w=>∃ y j,aDc y j=some R/\f 1=i64 y/\List.length b=List.length j/\a.length=j.length/\aF G K (aP 103 K a1 c2 (aV b j)::rows [2] b j::L) w) aL ?_
 obtain ⟨b6,a4,ho⟩:=aB hm
 refine iE [] a4 (fun g l c f w=>f 0=zS a1 g.length c2/\f 1=i64 l/\f 5=i64 c/\List.length b=List.length g/\a.length=g.length/\aF G K (aP 103 K a1 c2 (aV b g)::rows [2] b g::L) w) aL ?_
 ·rintro g l c b7 f b8 hm hr ⟨z,b9,c0,h,a5,J⟩
  unfold mH at hm
  refine tD ?_
  rcases aM hm with ⟨c48,hm⟩|⟨c48,hm⟩
  ·refine tD ?_;refine bT (tD ?_)
   obtain ⟨a7,o,hm⟩:=aB hm
   obtain ⟨⟨V,a0⟩,m⟩:=aFU h o
   have p:=cR J (i:=0) rfl (nG h o m)
   refine aC (dH aCj rfl p rfl rfl rfl o) (aC (sZ (k':=c.toNat * 2+0) aIJ p rfl rfl) ?_);obtain ⟨d,e,hm⟩:=aB hm
   refine aNF (i:=0) (t:=0) (ns:=[i64 l]) (e':=(⟨l,a7.Values⟩:aY)) sizeOf2 J h rfl rfl rfl rfl rfl o m e rfl rfl (fW rfl) rfl rfl rfl (fun u (a2:aF G K (aP 103 K a1 c2 (aV b d)::rows [2] b d::L) u)=>?_)
   iterate 10 refine aBL ?_
   refine aZ (v:=zS a1 d.length c2) (Eq.trans z (congrArg (fun n=>zS a1 n c2) (bS e))) (tD ?_);obtain ⟨x,q,hm⟩:=aB hm
   refine aC (dH aCj rfl p rfl rfl rfl q) (aC (sZ (k':=c.toNat * 2+1) aMk p rfl rfl) (aC (aEm (t:=1) aMe a2 (i:=0) rfl (nG (h.trans (bS e)) q m) rfl rfl rfl) (aI (v:=i64 (wr (l+1))) ?_)))
   have c1:aF G K (aP 103 K a1 c2 (aV b d)::rows [2] ((b).eraseIdx c.toNat) ((d).eraseIdx c.toNat)::aP 2 K V a0 x.Values::L) u:=aF.arr 3 [2,1,0] (aF.rowOut (i:=1) a2 rfl m (ix_at q)) rfl
   have a8:aF G K (aP 2 K V a0 x.Values::aP 103 K a1 c2 (aV b d)::rows [2] ((b).eraseIdx c.toNat) ((d).eraseIdx c.toNat)::L) u:=aDq
   obtain ⟨a9,b0,hm⟩:=aB hm
   refine aCO call11 (aBb b0 a8) ?_
   rintro _ b1 ⟨rfl,b2,c3⟩
   obtain ⟨a3,r,hm⟩:=aB hm
   have b3:aF G K (aP 103 K a1 c2 (aV b a3)::rows [2] b a3::L) b1:=aF.unfocusS (tys:=[2]) (x':=(⟨x.Definition,a9.2⟩:aY)) aDq (h.trans (bS e)) m q (aOU b2) r
   refine tD ?_;exact ⟨_,(zI hm).symm,bZ,(Eq.trans (Eq.trans z (congrArg (fun n=>zS a1 n c2) (bS e))) (congrArg (fun n=>zS a1 n c2) (bS r))),rfl,rfl,((h.trans (bS e)).trans (bS r)),((a5.trans (bS e)).trans (bS r)),b3⟩
  ·exact aL
theorem aDp {a:(List bB)} {k:Int} {R:(Int × (List bB))} (hm:uQ a k=some R) (hs:aF G K (aP 105 K a1 c2 a::L) w):
  Calls prog 36 ([zS a1 a.length c2,i64 k]:List Value).toArray w (dD fun v w'=>v=i64 R.1/\a.length=R.2.length/\aF G K (aP 105 K a1 c2 R.2::L) w'):=by
 refine aBe func36 ?_;unfold uQ at hm
 refine tD ?_;refine aQ [] (fun f w=>∃ p j,aFE p j=some R/\f 1=i64 p/\a.length=j.length/\aF G K (aP 105 K a1 c2 j::L) w) aL ?_
 obtain ⟨c4,a6,ho⟩:=aB hm
 refine iE [] a6 (fun e q c f w=>f 0=zS a1 e.length c2/\f 1=i64 q/\f 5=i64 c/\a.length=e.length/\aF G K (aP 105 K a1 c2 e::L) w) aL ?_
 ·rintro e q c c5 f c6 hm hr ⟨l,c7,c8,a7,a8⟩
  unfold oZ at hm
  refine tD ?_
  rcases aM hm with ⟨a9,hm⟩|⟨a9,hm⟩
  ·refine tD ?_;refine bT (tD ?_)
   obtain ⟨r,b0,hm⟩:=aB hm
   refine aCO call62 (lZ b0 a8) ?_
   rintro _ c9 ⟨rfl,u⟩
   obtain ⟨x,m,hm⟩:=aB hm
   have b:=cR u (i:=0) rfl m
   refine aC (dH yR rfl b rfl rfl rfl m) (aC (sZ (k':=c.toNat * 3+0) aIK b rfl rfl) ?_);obtain ⟨y,d,hm⟩:=aB hm
   refine lW (i:=0) (t:=0) (ns:=[str r]) (e':=(⟨r,x.Right,x.Result⟩:bB)) sizeOf9 u rfl (zR _) rfl rfl rfl m d rfl rfl (fW rfl) rfl (fun cs h=>by cases h;rfl) (fun b1 (b2:aF G K (aP 105 K a1 c2 y::L) b1)=>?_)
   iterate 11 refine aBL ?_
   refine aZ (v:=zS a1 y.length c2) (Eq.trans l (congrArg (fun n=>zS a1 n c2) (bS d))) (tD ?_);obtain ⟨z,b3,hm⟩:=aB hm
   refine aCO call62 (lZ b3 b2) ?_
   rintro _ d0 ⟨rfl,b4⟩
   obtain ⟨J,V,hm⟩:=aB hm
   refine aC (dH yR rfl b rfl rfl rfl V) (aC (sZ (k':=c.toNat * 3+1) aIL b rfl rfl) ?_);obtain ⟨a0,g,hm⟩:=aB hm
   refine lW (i:=0) (t:=1) (ns:=[str z]) (e':=(⟨J.Left,z,J.Result⟩:bB)) sizeOf9 b4 rfl (zR _) rfl rfl rfl V g rfl rfl (fW rfl) rfl (fun cs h=>by cases h;rfl) (fun b5 (b6:aF G K (aP 105 K a1 c2 a0::L) b5)=>?_)
   iterate 11 refine aBL ?_
   refine aZ (v:=zS a1 a0.length c2) (Eq.trans (Eq.trans l (congrArg (fun n=>zS a1 n c2) (bS d))) (congrArg (fun n=>zS a1 n c2) (bS g))) (tD ?_);obtain ⟨a2,b7,hm⟩:=aB hm
   refine aCO call62 (lZ b7 b6) ?_
   rintro _ d1 ⟨rfl,b8⟩
   obtain ⟨a3,a5,hm⟩:=aB hm
   refine aC (dH yR rfl b rfl rfl rfl a5) (aC (sZ (k':=c.toNat * 3+2) aUp b rfl rfl) ?_);obtain ⟨b9,o,hm⟩:=aB hm
   refine lW (i:=0) (t:=2) (ns:=[str a2]) (e':=(⟨a3.Left,a3.Right,a2⟩:bB)) sizeOf9 b8 rfl (zR _) rfl rfl rfl a5 o rfl rfl (fW rfl) rfl (fun cs h=>by cases h;rfl) (fun c0 (c1:aF G K (aP 105 K a1 c2 b9::L) c0)=>(tD ?_));exact ⟨_,(zI hm).symm,bZ,(Eq.trans (Eq.trans (Eq.trans l (congrArg (fun n=>zS a1 n c2) (bS d))) (congrArg (fun n=>zS a1 n c2) (bS g))) (congrArg (fun n=>zS a1 n c2) (bS o))),rfl,rfl,(((a7.trans (bS d)).trans (bS g)).trans (bS o)),c1⟩
  ·exact aL
theorem aEV {a:(List aO)} {k:Int} {R:(Int × (List aO))} (hm:sW a k=some R) (hs:aF G K (aP 9 K a1 c2 a::L) w):
  Calls prog 37 ([zS a1 a.length c2,i64 k]:List Value).toArray w (dD fun v w'=>v=i64 R.1/\a.length=R.2.length/\aF G K (aP 9 K a1 c2 R.2::L) w'):=by
 refine aBe func37 ?_;unfold sW at hm
 refine tD ?_;refine aQ [] (fun f w=>∃ g c,aBC g c=some R/\f 1=i64 g/\a.length=c.length/\aF G K (aP 9 K a1 c2 c::L) w) aL ?_
 obtain ⟨a3,p,ho⟩:=aB hm
 refine iE [] p (fun b j l f w=>f 0=zS a1 b.length c2/\f 1=i64 j/\f 5=i64 l/\a.length=b.length/\aF G K (aP 9 K a1 c2 b::L) w) aL ?_
 ·rintro b j l a5 f a6 hm hr ⟨q,a7,a8,r,u⟩
  unfold vL at hm
  refine tD ?_
  rcases aM hm with ⟨x,hm⟩|⟨x,hm⟩
  ·refine tD ?_;refine bT (tD ?_)
   obtain ⟨m,y,hm⟩:=aB hm
   refine aCO call62 (lZ y u) ?_
   rintro _ a9 ⟨rfl,o⟩
   obtain ⟨b0,d,hm⟩:=aB hm
   have z:=cR o (i:=0) rfl d
   refine aC (dH fM rfl z rfl rfl rfl d) ?_;obtain ⟨J,e,hm⟩:=aB hm
   refine lW (i:=0) (t:=0) (ns:=[str m]) (e':=(m:aO)) sizeOf9 o rfl (zR _) rfl rfl rfl d e rfl rfl (fW rfl) rfl (fun cs h=>by cases h;rfl) (fun V (a0:aF G K (aP 9 K a1 c2 J::L) V)=>(tD ?_));exact ⟨_,(zI hm).symm,bZ,(Eq.trans q (congrArg (fun n=>zS a1 n c2) (bS e))),rfl,rfl,(r.trans (bS e)),a0⟩
  ·exact aL
theorem aFM {j:(List Definition)} {a:List (Dp.Hd Definition)} {d:(List aY)} {c:List (Dp.Hd aY)} {i:(List bB)} {e g:(List aO)} {k:Int} {R:(Int × (List Definition) × (List aY) × (List bB) × (List aO) × (List aO))} (hm:aAU j d i e g k=some R) (hs:aF G K (aP 101 K a1 c2 (aV a j)::rows [159,225,275] a j::aP 103 K a5 c6 (aV c d)::rows [2] c d::aP 105 K a9 c10 i::aP 9 K a11 c12 e::aP 9 K a13 c14 g::L) w) (x:List.length a=List.length j) (y:List.length c=List.length d):
  Calls prog 10 ([zA #[zS a1 j.length c2,zS a5 d.length c6,zS a9 i.length c10,zS a11 e.length c12,zS a13 g.length c14],i64 k]:List Value).toArray w (dD fun v w'=>v=i64 R.1/\j.length=R.2.1.length/\d.length=R.2.2.1.length/\i.length=R.2.2.2.1.length/\e.length=R.2.2.2.2.1.length/\g.length=R.2.2.2.2.2.length/\aF G K (aP 101 K a1 c2 (aV a R.2.1)::rows [159,225,275] a R.2.1::aP 103 K a5 c6 (aV c R.2.2.1)::rows [2] c R.2.2.1::aP 105 K a9 c10 R.2.2.2.1::aP 9 K a11 c12 R.2.2.2.2.1::aP 9 K a13 c14 R.2.2.2.2.2::L) w'):=by
 let l:=aP 9 K a11 c12 e
 let m:=aP 9 K a13 c14 g
 let o:=aP 105 K a9 c10 i
 let q:=aP 103 K a5 c6 (aV c d)
 refine aBe func10 ?_;unfold aAU at hm
 refine tD ?_;refine aGh fun n z b6=>?_
 refine tD ?_
 have J:aF G K (aP 101 K a1 c2 (aV a j)::rows [159,225,275] a j::box n 36 [zS a1 j.length c2,zS a5 d.length c6,zS a9 i.length c10,zS a11 e.length c12,zS a13 g.length c14]::q::rows [2] c d::o::l::m::L) z:=aDq
 obtain ⟨b,V,hm⟩:=aB hm
 refine aCO call34 (aBa V J x) ?_
 rintro _ r ⟨rfl,a0,a2⟩
 have b7:aF G K (aP 101 K a1 c2 (aV a b.2)::rows [159,225,275] a b.2::box n 36 [zS a1 b.2.length c2,zS a5 d.length c6,zS a9 i.length c10,zS a11 e.length c12,zS a13 g.length c14]::q::rows [2] c d::o::l::m::L) r:=by rw [←a0];exact a2
 refine tD ?_
 have a3:aF G K (q::rows [2] c d::aP 101 K a1 c2 (aV a b.2)::rows [159,225,275] a b.2::box n 36 [zS a1 b.2.length c2,zS a5 d.length c6,zS a9 i.length c10,zS a11 e.length c12,zS a13 g.length c14]::o::l::m::L) r:=aDq
 obtain ⟨h,a4,hm⟩:=aB hm
 refine aCO call35 (aBn a4 a3 y) ?_
 rintro _ t ⟨rfl,a6,a7⟩
 have b8:aF G K (aP 103 K a5 c6 (aV c h.2)::rows [2] c h.2::aP 101 K a1 c2 (aV a b.2)::rows [159,225,275] a b.2::box n 36 [zS a1 b.2.length c2,zS a5 h.2.length c6,zS a9 i.length c10,zS a11 e.length c12,zS a13 g.length c14]::o::l::m::L) t:=by rw [←a6];exact a7
 refine tD ?_
 have a8:aF G K (o::aP 103 K a5 c6 (aV c h.2)::rows [2] c h.2::aP 101 K a1 c2 (aV a b.2)::rows [159,225,275] a b.2::box n 36 [zS a1 b.2.length c2,zS a5 h.2.length c6,zS a9 i.length c10,zS a11 e.length c12,zS a13 g.length c14]::l::m::L) t:=aDq
 obtain ⟨p,b0,hm⟩:=aB hm
 refine aCO call36 (aDp b0 a8) ?_
 rintro _ u ⟨rfl,b1,b2⟩
 have b9:aF G K (aP 105 K a9 c10 p.2::aP 103 K a5 c6 (aV c h.2)::rows [2] c h.2::aP 101 K a1 c2 (aV a b.2)::rows [159,225,275] a b.2::box n 36 [zS a1 b.2.length c2,zS a5 h.2.length c6,zS a9 p.2.length c10,zS a11 e.length c12,zS a13 g.length c14]::l::m::L) u:=by rw [←b1];exact b2
 refine tD ?_
 have b3:aF G K (l::aP 105 K a9 c10 p.2::aP 103 K a5 c6 (aV c h.2)::rows [2] c h.2::aP 101 K a1 c2 (aV a b.2)::rows [159,225,275] a b.2::box n 36 [zS a1 b.2.length c2,zS a5 h.2.length c6,zS a9 p.2.length c10,zS a11 e.length c12,zS a13 g.length c14]::m::L) u:=aDq
 obtain ⟨c0,b4,hm⟩:=aB hm
 exact aCO call37 (aEV b4 b3) aL
theorem aFN {a:(List Int)} {k R:Int} (hm:vM a k=some R) (g:aF G K (L) w) (h:bK K a1 c2 a):
  Calls prog 12 ([zS a1 a.length c2,i64 k]:List Value).toArray w (dD fun v w'=>v=i64 R/\aF G K (L) w'):=by
 refine aBe func12 ?_;unfold vM at hm
 refine tD ?_;refine aQ [] (fun f w=>∃ b,aIb b=some R/\f 1=i64 b/\aF G K (L) w) aL ?_
 obtain ⟨i,c,ho⟩:=aB hm
 exact cA [0] c (fun d e f w=>f 1=i64 d/\f 5=i64 e/\aF G K (L) w) aL aL
end Gv
namespace Gv
open Gv.Hp renaming le_refl→zR
open Go.Value renaming slice→zS,bool→zB,agg→zA
open Gv.Hp renaming le_trans→zL
open Go Go.Proofs Go.Proofs.Tryz
set_option maxRecDepth 20000
set_option maxHeartbeats 40000000
variable {G:nX} {K:Hp} {L:List fJ} {w:World} {a1 a4 a7 a10 a13:Option Addr} {c2 c5 c8 c11 c14:Nat}
theorem pK {b:bE} {R:Bool} (hm:kA b=some R) (hs:aF G K (L) w) (hG:G.lo=0) (h3:bK K a1 c2 b.Definitions) (h6:bK K a4 c5 b.Components) (h9:bK K a7 c8 b.Meetings) (c7:bK K a10 c11 b.Allowed) (c9:bK K a13 c14 b.Hidden):
  Calls prog 3 ([zA #[zS a1 b.Definitions.length c2,zS a4 b.Components.length c5,zS a7 b.Meetings.length c8,zS a10 b.Allowed.length c11,zS a13 b.Hidden.length c14]]:List Value).toArray w (dD fun v w'=>v=zB R/\aF G K (L) w'):=by
 let a0:=[zS a1 b.Definitions.length c2,zS a4 b.Components.length c5,zS a7 b.Meetings.length c8,zS a10 b.Allowed.length c11,zS a13 b.Hidden.length c14]
 let d3:=[zA #[zS a1 b.Definitions.length c2,zS a4 b.Components.length c5,zS a7 b.Meetings.length c8,zS a10 b.Allowed.length c11,zS a13 b.Hidden.length c14]]
 refine aN func3 rfl (by kernel_rfl) (by show (1:Nat)<=96;decide) ?_;unfold kA at hm
 refine aK (fO (v:=zA #[zS a1 b.Definitions.length c2,zS a4 b.Components.length c5,zS a7 b.Meetings.length c8,zS a10 b.Allowed.length c11,zS a13 b.Hidden.length c14]) (vs:=a0) hs rfl rfl (fun c0 w17 h2=>(aG (v:=zB false) (aH (aK (aG (v:=i64 1048576) (aH (aK (aC (jB (us:=a0) aRV h2 (i:=0) rfl rfl rfl rfl) (aI (v:=i64 1048576) ?_))))))))));obtain ⟨h4,k7,hm⟩:=aB hm
 refine aT (vs:=[zA #[zS a1 b.Definitions.length c2,zS a4 b.Components.length c5,zS a7 b.Meetings.length c8,zS a10 b.Allowed.length c11,zS a13 b.Hidden.length c14],i64 1048576]) call4 rfl (aIc k7 h2 h3 h6 h9 c7 c9) ?_
 rintro _ w21 ⟨rfl,h5⟩
 refine aG (v:=i64 h4) (aH (aJ (aK (aI (v:=i64 h4) (aC (cK rfl rfl) (aH ?_))))))
 rcases aM hm with ⟨h7,hm⟩|⟨h7,hm⟩
 ·exact aL
 ·refine aR h7 rfl (bA (aD (aK (aC (jB (us:=a0) aRV h5 (i:=0) rfl rfl rfl rfl) ?_))));obtain ⟨a2,k8,hm⟩:=aB hm
  refine aT (vs:=d3) call6 rfl (sL k8 h5 h3 h6 h9 c7 c9) ?_
  rintro _ w41 ⟨h8,i0,i1,i2,i3,i4,i5,i6,i7,i8,i9,j0,rfl,k9,l0,l1⟩
  obtain ⟨K43,f0,l2,a49,l3,l4⟩:=aF.lendD' (i:=0) l1 k9 rfl rfl
  obtain ⟨K49,d4,l5,a51,l6,l7⟩:=aF.lendD' (i:=0) l3 l0 rfl rfl
  obtain ⟨K55,d5,l8,l9,m0⟩:=aF.lendSp l6 (zL f0 d4) .head
  obtain ⟨K60,d6,m1,m2,m3⟩:=aF.lendSp l9 (zL (zL f0 d4) d5) .head
  obtain ⟨K65,d7,m4,m5,m6⟩:=aF.lendSp m2 (zL (zL (zL f0 d4) d5) d6) .head
  obtain ⟨c,m7,hm⟩:=aB hm
  refine aT (vs:=[zA #[zS h8 a2.Definitions.length i0,zS i2 a2.Components.length i3,zS i5 a2.Meetings.length i6,zS i7 a2.Allowed.length i8,zS i9 a2.Hidden.length j0]]) call5 rfl (xE m7 m5 (l2.mono (zL (zL (zL d4 d5) d6) d7)) (l5.mono (zL (zL d5 d6) d7)) (l8.mono (zL d6 d7)) (m1.mono d7) m4) ?_
  rintro _ w74 ⟨J,V,rfl,m8⟩
  have m9:=m6 _ _ m8
  have n0:=m3 _ _ m9
  have n1:=m0 _ _ n0
  have n2:=l7 _ _ n1
  have j1:=l4 _ _ n2
  refine aI (v:=Value.tuple #[zS J c.1.length V,i64 c.2]) (aC (bP rfl rfl) (aC (bP rfl rfl) (aG (v:=zS J c.1.length V) (aG (v:=i64 c.2) (aH (aK (aC (jB (us:=a0) aRV j1 (i:=8) rfl rfl rfl rfl) ?_)))))));obtain ⟨a,n3,hm⟩:=aB hm
  refine aT (vs:=d3) call6 rfl (sL n3 j1 h3 h6 h9 c7 c9) ?_
  rintro _ w97 ⟨k,l,b2,m,o,b3,p,q,r,u,x,y,rfl,f1,f2,n4⟩
  refine cN (vs:=[zS none 0 0,zS none 0 0,zS none 0 0,zS none 0 0,zS none 0 0]) zeroValue36 n4 rfl (fun d8 a57 n5=>(dT (i:=0) (ns:=[zS k a.Definitions.length l,zS m a.Components.length o,zS p a.Meetings.length q,zS r a.Allowed.length u,zS x a.Hidden.length y]) (us:=[zS k a.Definitions.length l,zS m a.Components.length o,zS p a.Meetings.length q,zS r a.Allowed.length u,zS x a.Hidden.length y]) sizeOf36 n5 rfl rfl rfl rfl rfl (fW rfl) rfl rfl (fun n6 (j2:aF G K (box d8 36 [zS k a.Definitions.length l,zS m a.Components.length o,zS p a.Meetings.length q,zS r a.Allowed.length u,zS x a.Hidden.length y]::aP 101 K k l (aV b2 a.Definitions)::rows [159,225,275] b2 a.Definitions::aP 103 K m o (aV b3 a.Components)::rows [2] b3 a.Components::aP 105 K p q a.Meetings::aP 9 K r u a.Allowed::aP 9 K x y a.Hidden::aP 101 K h8 i0 (aV i1 a2.Definitions)::rows [159,225,275] i1 a2.Definitions::aP 103 K i2 i3 (aV i4 a2.Components)::rows [2] i4 a2.Components::aP 105 K i5 i6 a2.Meetings::aP 9 K i7 i8 a2.Allowed::aP 9 K i9 j0 a2.Hidden::aP 2 K J V c.1::box c0 27 a0::L) n6)=>(aH (aK (aC (jB (us:=[zS k a.Definitions.length l,zS m a.Components.length o,zS p a.Meetings.length q,zS r a.Allowed.length u,zS x a.Hidden.length y]) aMp j2 (i:=0) rfl rfl rfl rfl) ?_))))))
  obtain ⟨a58,f3,n7,a59,n8,n9⟩:=aF.lendD' (i:=1) j2 f1 rfl rfl
  obtain ⟨a60,d9,o0,a61,o1,o2⟩:=aF.lendD' (i:=1) n8 f2 rfl rfl
  obtain ⟨a62,e0,o3,o4,o5⟩:=aF.lendSp o1 (zL f3 d9) zt1
  obtain ⟨a63,e1,o6,o7,o8⟩:=aF.lendSp o4 (zL (zL f3 d9) e0) zt1
  obtain ⟨a64,e2,o9,p0,p1⟩:=aF.lendSp o7 (zL (zL (zL f3 d9) e0) e1) zt1
  obtain ⟨d,p2,hm⟩:=aB hm
  refine aT (vs:=[zA #[zS k a.Definitions.length l,zS m a.Components.length o,zS p a.Meetings.length q,zS r a.Allowed.length u,zS x a.Hidden.length y]]) call7 rfl (pJ p2 p0 hG (n7.mono (zL (zL (zL d9 e0) e1) e2)) (o0.mono (zL (zL e0 e1) e2)) (o3.mono (zL e1 e2)) (o6.mono e2) o9) ?_
  rintro _ a65 ⟨e,h,rfl,p3⟩
  have p4:=p1 _ _ p3
  have p5:=o8 _ _ p4
  have p6:=o5 _ _ p5
  have p7:=o2 _ _ p6
  have p8:=n9 _ _ p7
  refine aI (v:=Value.tuple #[zS e d.1.length h,i64 d.2]) (aC (bP rfl rfl) (aC (bP rfl rfl) (aG (v:=zS e d.1.length h) (aG (v:=i64 d.2) (aH (aJ (aJ (bQ [1,4,5,6,7,8] (fun f w=>∃ f4,gD b c a d f4=some R/\f 40=zB f4/\aF G K (aP 101 K k l (aV b2 a.Definitions)::rows [159,225,275] b2 a.Definitions::aP 103 K m o (aV b3 a.Components)::rows [2] b3 a.Components::aP 105 K p q a.Meetings::aP 9 K r u a.Allowed::aP 9 K x y a.Hidden::aP 2 K e h d.1::box d8 36 [zS k a.Definitions.length l,zS m a.Components.length o,zS p a.Meetings.length q,zS r a.Allowed.length u,zS x a.Hidden.length y]::aP 2 K J V c.1::box c0 27 a0::L) w) ?_ ?_))))))))
  ·rintro f a66 ⟨f4,hm,p9,q0⟩
   unfold gD at hm
   refine aD ?_
   rcases aM hm with ⟨j3,hm⟩|⟨j3,hm⟩
   ·exact aL
   ·refine aR j3 p9 (bA (aD (aJ (aJ ?_))));obtain ⟨a67,a5,q1,q2,q3⟩:=aF.lendBp q0 zt8
    obtain ⟨q4,a3,q5,j4,q6⟩:=aF.lendBp q2 zt9
    refine iC (C:=fun w'=>∃ L',aF G q4 L' w') [(0,0),(1,0),(2,1),(3,1),(4,0)] Tryz_mixed (by kernel_rfl) (fun _ hg=>⟨_,aF.mono j4 hg⟩) (fun a68 q7=>?_)
    have d0:=aF.mono j4 q7
    refine bW rfl (fun _ ⟨_,d0⟩=>eQ (t:=0) (vs:=[zS k a.Definitions.length l,zS m a.Components.length o,zS p a.Meetings.length q,zS r a.Allowed.length u,zS x a.Hidden.length y]) aMp d0 (q1.mono a3) rfl rfl rfl) (bW rfl (fun _ ⟨_,d0⟩=>eQ (t:=0) (vs:=a0) aRV d0 q5 rfl rfl rfl) (nT rfl ?_));obtain ⟨j,q8,hm⟩:=aB hm
    refine aT (vs:=d3) call6 rfl (sL q8 d0 (h3.mono (zL a5 a3)) (h6.mono (zL a5 a3)) (h9.mono (zL a5 a3)) (c7.mono (zL a5 a3)) (c9.mono (zL a5 a3))) ?_
    rintro _ a69 ⟨f5,f6,e3,f7,f8,e4,f9,g0,g1,g2,g3,g4,rfl,q9,r0,j5⟩
    refine bN (aD ⟨⟨_,j5⟩,?_⟩)
    refine nT rfl ?_;obtain ⟨a70,c1,r1,a71,r2,r3⟩:=aF.lendD' (i:=7) j5 f1 rfl rfl
    obtain ⟨a73,b5,r4,a74,r5,r6⟩:=aF.lendD' (i:=7) r2 f2 rfl rfl
    obtain ⟨a75,b6,r7,r8,r9⟩:=aF.lendSp r5 (zL (zL (zL a5 a3) c1) b5) zt7
    obtain ⟨a76,b7,s0,s1,s2⟩:=aF.lendSp r8 (zL (zL (zL (zL a5 a3) c1) b5) b6) zt7
    obtain ⟨a77,b8,s3,s4,s5⟩:=aF.lendSp s1 (zL (zL (zL (zL (zL a5 a3) c1) b5) b6) b7) zt7
    obtain ⟨a78,b4,s6,a79,s7,s8⟩:=aF.lendD' (i:=0) s4 q9 rfl rfl
    obtain ⟨a80,a6,s9,a81,t0,t1⟩:=aF.lendD' (i:=0) s7 r0 rfl rfl
    obtain ⟨a82,a8,t2,t3,t4⟩:=aF.lendSp t0 (zL (zL (zL (zL (zL (zL (zL (zL a5 a3) c1) b5) b6) b7) b8) b4) a6) .head
    obtain ⟨a84,a9,t5,t6,t7⟩:=aF.lendSp t3 (zL (zL (zL (zL (zL (zL (zL (zL (zL a5 a3) c1) b5) b6) b7) b8) b4) a6) a8) .head
    obtain ⟨a85,b0,t8,t9,u0⟩:=aF.lendSp t6 (zL (zL (zL (zL (zL (zL (zL (zL (zL (zL a5 a3) c1) b5) b6) b7) b8) b4) a6) a8) a9) .head
    obtain ⟨a86,u1,hm⟩:=aB hm
    refine aT (vs:=[zA #[zS k a.Definitions.length l,zS m a.Components.length o,zS p a.Meetings.length q,zS r a.Allowed.length u,zS x a.Hidden.length y],zA #[zS f5 j.Definitions.length f6,zS f7 j.Components.length f8,zS f9 j.Meetings.length g0,zS g1 j.Allowed.length g2,zS g3 j.Hidden.length g4]]) call9 rfl (aIn u1 t9 (r1.mono (zL (zL (zL (zL (zL (zL (zL (zL b5 b6) b7) b8) b4) a6) a8) a9) b0)) (r4.mono (zL (zL (zL (zL (zL (zL (zL b6 b7) b8) b4) a6) a8) a9) b0)) (r7.mono (zL (zL (zL (zL (zL (zL b7 b8) b4) a6) a8) a9) b0)) (s0.mono (zL (zL (zL (zL (zL b8 b4) a6) a8) a9) b0)) (s3.mono (zL (zL (zL (zL b4 a6) a8) a9) b0)) (s6.mono (zL (zL (zL a6 a8) a9) b0)) (s9.mono (zL (zL a8 a9) b0)) (t2.mono (zL a9 b0)) (t5.mono b0) t8) ?_
    rintro _ u2 ⟨rfl,u3⟩
    have u4:=u0 _ _ u3
    have u5:=t7 _ _ u4
    have u6:=t4 _ _ u5
    have u7:=t1 _ _ u6
    have u8:=s8 _ _ u7
    have u9:=s5 _ _ u8
    have v0:=s2 _ _ u9
    have v1:=r9 _ _ v0
    have v2:=r6 _ _ v1
    have j6:=r3 _ _ v2
    refine bN (aD ⟨⟨_,j6⟩,?_⟩)
    refine bW rfl (fun _ _=>tC rfl) (aCP ?_)
    have v3:=q6 _ _ j6
    have j7:=q3 _ _ v3
    refine aD ?_
    rcases aM hm with ⟨j8,hm⟩|⟨j8,hm⟩
    ·exact aL
    ·refine aR j8 rfl (bA (aD (aK (aG (v:=i64 1) (aH (aK (aC (jB (us:=[zS k a.Definitions.length l,zS m a.Components.length o,zS p a.Meetings.length q,zS r a.Allowed.length u,zS x a.Hidden.length y]) aMp j7 (i:=0) rfl rfl rfl rfl) (aI (v:=i64 1) ?_))))))))
     have v4:aF G K (aP 101 K k l (aV b2 a.Definitions)::rows [159,225,275] b2 a.Definitions::aP 103 K m o (aV b3 a.Components)::rows [2] b3 a.Components::aP 105 K p q a.Meetings::aP 9 K r u a.Allowed::aP 9 K x y a.Hidden::box d8 36 [zS k a.Definitions.length l,zS m a.Components.length o,zS p a.Meetings.length q,zS r a.Allowed.length u,zS x a.Hidden.length y]::box c0 27 a0::aP 101 K f5 f6 (aV e3 j.Definitions)::rows [159,225,275] e3 j.Definitions::aP 103 K f7 f8 (aV e4 j.Components)::rows [2] e4 j.Components::aP 105 K f9 g0 j.Meetings::aP 9 K g1 g2 j.Allowed::aP 9 K g3 g4 j.Hidden::aP 2 K e h d.1::aP 2 K J V c.1::L) u2:=(aF.arr 9 [2,3,4,5,6,7,8,0,1] j7 rfl)
     obtain ⟨z,v5,hm⟩:=aB hm
     refine aT (vs:=[zA #[zS k a.Definitions.length l,zS m a.Components.length o,zS p a.Meetings.length q,zS r a.Allowed.length u,zS x a.Hidden.length y],i64 1]) call10 rfl (aFM v5 v4 f1 f2) ?_
     rintro _ v6 ⟨rfl,v7,v8,v9,w0,w1,w2⟩
     have w3:aF G K (aP 101 K k l (aV b2 z.2.1)::rows [159,225,275] b2 z.2.1::aP 103 K m o (aV b3 z.2.2.1)::rows [2] b3 z.2.2.1::aP 105 K p q z.2.2.2.1::aP 9 K r u z.2.2.2.2.1::aP 9 K x y z.2.2.2.2.2::box d8 36 [zS k z.2.1.length l,zS m z.2.2.1.length o,zS p z.2.2.2.1.length q,zS r z.2.2.2.2.1.length u,zS x z.2.2.2.2.2.length y]::box c0 27 a0::aP 101 K f5 f6 (aV e3 j.Definitions)::rows [159,225,275] e3 j.Definitions::aP 103 K f7 f8 (aV e4 j.Components)::rows [2] e4 j.Components::aP 105 K f9 g0 j.Meetings::aP 9 K g1 g2 j.Allowed::aP 9 K g3 g4 j.Hidden::aP 2 K e h d.1::aP 2 K J V c.1::L) v6:=by rw [←v7,←v8,←v9,←w0,←w1];exact w2
     refine aG (v:=i64 z.1) (aH (aJ (aJ (bQ [1,4,5,7] (fun f w=>∃ g5,eT b c d g5=some R/\f 61=zB g5/\aF G K (box c0 27 a0::aP 2 K e h d.1::aP 2 K J V c.1::L) w) ?_ ?_))))
     ·rintro f w4 ⟨g5,hm,w5,w6⟩
      unfold eT at hm
      refine aD ?_
      rcases aM hm with ⟨j9,hm⟩|⟨j9,hm⟩
      ·exact aL
      ·refine aR j9 w5 (bA (aD (aK (aG (v:=i64 1) (aH (aK (aI (v:=zS e d.1.length h) (aI (v:=i64 1) ?_))))))))
       have w7:aF G K (aP 2 K e h d.1::box c0 27 a0::aP 2 K J V c.1::L) w4:=(aF.arr 2 [1,0] w6 rfl)
       obtain ⟨b9,w8,hm⟩:=aB hm
       refine aT (vs:=[zS e d.1.length h,i64 1]) call11 rfl (aBb w8 w7) ?_
       rintro _ a88 ⟨rfl,k0,w9⟩
       refine aG (v:=i64 b9.1) (aH (aK (aG (v:=i64 1) (aH (aK (aZ (v:=zS e b9.2.length h) (Eq.trans rfl (congrArg (fun n=>zS e n h) k0)) (aI (v:=i64 1) ?_)))))));obtain ⟨a89,a90,x0,x1,x2⟩:=aF.lendSp w9 (Hp.le_refl _) .head
       obtain ⟨g6,x3,hm⟩:=aB hm
       refine aT (vs:=[zS e b9.2.length h,i64 1]) call12 rfl (aFN x3 x1 x0) ?_
       rintro _ a92 ⟨rfl,x4⟩
       have k1:=x2 _ _ x4
       refine aG (v:=i64 g6) (aH (aJ (aK (aI (v:=i64 g6) (aC (cK rfl rfl) (aH ?_))))))
       rcases aM hm with ⟨k2,hm⟩|⟨k2,hm⟩
       ·exact aL
       ·refine aR k2 rfl (bA (aD (aJ (aK (aI (v:=i64 g6) (aI (v:=i64 b9.1) (aC (aBf rfl rfl) (aH ?_))))))))
        rcases aM hm with ⟨k3,hm⟩|⟨k3,hm⟩
        ·exact aL
        ·refine aR k3 rfl (bA (aD (aK (aC (jB (us:=a0) aRV k1 (i:=1) rfl rfl rfl rfl) ?_))));obtain ⟨d1,x5,hm⟩:=aB hm
         refine aT (vs:=d3) call6 rfl (sL x5 k1 h3 h6 h9 c7 c9) ?_
         rintro _ a94 ⟨x6,x7,a96,x8,x9,a97,y0,y1,y2,y3,y4,y5,rfl,y6,y7,y8⟩
         obtain ⟨a98,g7,y9,a99,z0,z1⟩:=aF.lendD' (i:=0) y8 y6 rfl rfl
         obtain ⟨b00,e5,z2,b01,z3,z4⟩:=aF.lendD' (i:=0) z0 y7 rfl rfl
         obtain ⟨b02,e6,z5,z6,z7⟩:=aF.lendSp z3 (zL g7 e5) .head
         obtain ⟨b03,e7,z8,z9,a00⟩:=aF.lendSp z6 (zL (zL g7 e5) e6) .head
         obtain ⟨b04,e8,a01,a02,a03⟩:=aF.lendSp z9 (zL (zL (zL g7 e5) e6) e7) .head
         obtain ⟨d2,a04,hm⟩:=aB hm
         refine aT (vs:=[zA #[zS x6 d1.Definitions.length x7,zS x8 d1.Components.length x9,zS y0 d1.Meetings.length y1,zS y2 d1.Allowed.length y3,zS y4 d1.Hidden.length y5]]) call7 rfl (pJ a04 a02 hG (y9.mono (zL (zL (zL e5 e6) e7) e8)) (z2.mono (zL (zL e6 e7) e8)) (z5.mono (zL e7 e8)) (z8.mono e8) a01) ?_
         rintro _ b05 ⟨g8,g9,rfl,a05⟩
         have a06:=a03 _ _ a05
         have a07:=a00 _ _ a06
         have a08:=z7 _ _ a07
         have a09:=z4 _ _ a08
         have a11:=z1 _ _ a09
         refine aI (v:=Value.tuple #[zS g8 d2.1.length g9,i64 d2.2]) (aC (bP rfl rfl) (aC (bP rfl rfl) (aG (v:=zS g8 d2.1.length g9) (aG (v:=i64 d2.2) (aH (aJ (aJ (bQ [7,10] (fun f w=>∃ h0,gC b9 h0=some R/\f 87=zB h0/\aF G K (aP 2 K e h b9.2::L) w) ?_ ?_))))))))
         ·rintro f b06 ⟨h0,hm,a12,a14⟩
          unfold gC at hm
          refine aD ?_
          rcases aM hm with ⟨k4,hm⟩|⟨k4,hm⟩
          ·exact aL
          ·refine aR k4 a12 (bA (aD (aK (aG (v:=i64 1) (aH (aK (aZ (v:=zS e b9.2.length h) (Eq.trans rfl (congrArg (fun n=>zS e n h) k0)) (aI (v:=i64 1) ?_))))))));obtain ⟨b07,b08,b09,b10,b11⟩:=aF.lendSp a14 (Hp.le_refl _) .head
           exact aL
         refine aX (aI (v:=zS g8 d2.1.length g9) (aI (v:=zS J c.1.length V) ?_));obtain ⟨b12,a15,b13,a16,b14⟩:=aF.lendSp a11 (Hp.le_refl _) zt7
         obtain ⟨b15,b17,b18,b19,b20⟩:=aF.lendSp a16 a15 zt9
         exact aL
     refine aX (aI (v:=i64 z.1) (aC (cK rfl rfl) (aI (v:=zB (decide (z.1 < 0))) ?_)))
     rcases aM hm with ⟨e9,hm⟩|⟨e9,hm⟩
     ·exact aL
     ·refine aAb e9 rfl rfl (aI (v:=zS e d.1.length h) (aAb e9 rfl rfl (aI (v:=zS J c.1.length V) (aAb e9 rfl rfl ?_))));obtain ⟨b21,a17,a18,a19,a20⟩:=aF.lendSp w3 (Hp.le_refl _) (.tail (.tail (.tail (.tail zt12))))
      obtain ⟨b22,a21,a22,a23,a24⟩:=aF.lendSp a19 a17 (.tail (.tail (.tail (.tail zt12))))
      obtain ⟨b23,a25,hm⟩:=aB hm
      refine aT (vs:=[zS e d.1.length h,zS J c.1.length V]) call8 rfl (aCW a25 a23 (a18.mono a21) a22) ?_
      rintro _ b24 ⟨rfl,a26⟩
      have a28:=a24 _ _ a26
      have b25:=a20 _ _ a28
      exact aL
  refine aX (aI (v:=zS e d.1.length h) (aI (v:=zS J c.1.length V) ?_));obtain ⟨b26,a29,a30,a32,a33⟩:=aF.lendSp p8 (Hp.le_refl _) zt7
  obtain ⟨b27,a34,a36,a38,a40⟩:=aF.lendSp a32 a29 (.tail (.tail (.tail zt12)))
  obtain ⟨a41,a42,hm⟩:=aB hm
  refine aT (vs:=[zS e d.1.length h,zS J c.1.length V]) call8 rfl (aCW a42 a38 (a30.mono a34) a36) ?_
  rintro _ b28 ⟨rfl,a43⟩
  have a44:=a40 _ _ a43
  have k5:=a33 _ _ a44
  refine aC (tC rfl) (aI (v:=zB (!a41)) ?_)
  rcases aM hm with ⟨b1,hm⟩|⟨b1,hm⟩
  ·exact aLX b1 rfl rfl (aLX b1 rfl rfl (aLX b1 rfl rfl (aC (aAa (v:=zB true) b1 rfl rfl) (aH ⟨bZ,true,hm,rfl,(aF.arr 17 [2,3,4,5,6,7,8,0,9,1] k5 rfl)⟩))))
  ·exact aAb b1 rfl rfl (aI (v:=i64 d.2) (aAb b1 rfl rfl (aI (v:=i64 c.2) (aAb b1 rfl rfl (aC (aBf rfl rfl) (aC (aCg (v:=zB (d.2 != c.2)) b1 rfl rfl) (aH ⟨bZ,d.2 != c.2,hm,rfl,(aF.arr 17 [2,3,4,5,6,7,8,0,9,1] k5 rfl)⟩)))))))
end Gv
