/- Walks, printed by program. -/
import Derived.Test.YtiipffjapfalhaaGreatDoorJLW
set_option linter.all false
namespace Gv
open Gv.Hp renaming le_refl→zR
open Go.Value renaming slice→zS,bool→zB
open Go Go.Proofs Go.Proofs.Tryz
set_option maxRecDepth 20000
set_option maxHeartbeats 40000000
variable {G:nX} {K:Hp} {L:List fJ} {w:World} {a1 a4 a7 a10 a13:Option Addr} {c2 c5 c8 c11 c14:Nat}
theorem aLx {a:(List aO)} {R:((List Int) × Bool)} (hm:wE a=some R) (k:aF G K (L) w) (n:G.lo=0) (o:bK K a1 c2 a):
  Calls prog 178 ([zS a1 a.length c2]:List Value).toArray w (dD fun v w'=>∃ c d,v=Value.tuple #[zS c R.1.length d,zB R.2]/\aF G K (aP 2 K c d R.1::L) w'):=by
 refine aBe func178 ?_;unfold wE at hm
 refine tD ?_;refine aQ [] (fun f w=>∃ b e g,aGm b=some R/\f 4=zS e b.length g/\aF G K (aP 2 K e g b::L) w) aL ?_
 have p:=aF.nil (α:=Int) k 2 K
 obtain ⟨q,l,ho⟩:=aB hm
 exact cA [9,10] l (fun h m f w=>∃ i j,f 4=zS i h.length j/\f 11=i64 m/\aF G K (aP 2 K i j h::L) w) aL aL
theorem aKU {n low a:Int} {R:Bool} (hm:jC n low a=some R) (c:aF G K (L) w):
  Calls prog 112 ([i64 n,i64 low,i64 a]:List Value).toArray w (dD fun v w'=>v=zB R/\aF G K (L) w'):=by
 refine aBe func112 ?_;unfold jC at hm
 iterate 6 refine aBL ?_
 exact bQ [] (fun f w=>∃ b,aIM b=some R/\f 6=zB b/\aF G K (L) w) aL aL
theorem aQh {n:Int} {R:Bool} (hm:aDZ n=some R) (a:aF G K (L) w):
  Calls prog 219 ([i64 n]:List Value).toArray w (dD fun v w'=>v=zB R/\aF G K (L) w'):=by
 exact aL
theorem aDe {n:Int} {R:Bool} (hm:aEv n=some R) (a:aF G K (L) w):
  Calls prog 218 ([i64 n]:List Value).toArray w (dD fun v w'=>v=zB R/\aF G K (L) w'):=by
 exact aL
theorem uT {s_:(List Int)} {R:Int} (hm:gP s_=some R) (k:aF G K (L) w) (c:bK K a1 c2 s_):
  Calls prog 252 ([zS a1 s_.length c2,Value.func (.func 218) #[] #[]]:List Value).toArray w (dD fun v w'=>v=i64 R/\aF G K (L) w'):=by
 refine aBe func252 ?_;unfold gP at hm
 refine tD ?_;refine aQ [] (fun f w=>mB=some R/\aF G K (L) w) aL ?_
 obtain ⟨l,d,ho⟩:=aB hm
 refine cE [0,1,7] d (fun a f w=>f 8=i64 a/\aF G K (L) w) aL ?_
 ·rintro a m f n hm hr ⟨o,e⟩
  unfold eF at hm
  refine tD ?_
  rcases aM hm with ⟨g,hm⟩|⟨g,hm⟩
  ·refine tD ?_;refine bT (tD ?_)
   obtain ⟨b,h,hm⟩:=aB hm
   refine tD ?_;obtain ⟨p,q,i⟩:=bK.el (sz:=1) rfl c h
   cases i
   refine tD ?_;obtain ⟨r,j,hm⟩:=aB hm
   exact pT (vs:=[i64 b]) (caps:=[]) (us:=[i64 b]) rfl call218 rfl rfl (aDe j e) aL
  ·exact aL
theorem sK {s_:(List Int)} {R:Bool} (hm:iT s_=some R) (a:aF G K (L) w) (b:bK K a1 c2 s_):
  Calls prog 217 ([zS a1 s_.length c2,Value.func (.func 218) #[] #[]]:List Value).toArray w (dD fun v w'=>v=zB R/\aF G K (L) w'):=by
 exact aL
theorem aNM {a:(List Int)} {R:Bool} (hm:aCl a=some R) (b:aF G K (L) w) (c:bK K a1 c2 a):
  Calls prog 162 ([zS a1 a.length c2]:List Value).toArray w (dD fun v w'=>v=zB R/\aF G K (L) w'):=by
 exact aL
theorem aQi {c:UInt8} {R:Bool} (hm:aKc c=some R) (b:aF G K (L) w):
  Calls prog 211 ([Value.int .u8 (c.toNat:Int)]:List Value).toArray w (dD fun v w'=>v=zB R/\aF G K (L) w'):=by
 refine aBe func211 ?_;unfold aKc at hm
 iterate 6 refine aBL ?_
 exact bQ [] (fun f w=>∃ a,aHi a=some R/\f 2=zB a/\aF G K (L) w) aL aL
theorem aKV {s_:aO} {R:Bool} (hm:aGn s_=some R) (i:aF G K (L) w):
  Calls prog 157 ([str s_]:List Value).toArray w (dD fun v w'=>v=zB R/\aF G K (L) w'):=by
 refine aBe func157 ?_;unfold aGn at hm
 iterate 9 refine aBL ?_
 refine aC (aEn runUnderlying9 rfl) (tD ?_);refine aQ [0] (fun f w=>aFs s_=some R/\aF G K (L) w) ?_ ?_
 ·rintro f j ⟨hm,k⟩
  unfold aFs at hm
  iterate 2 refine aBL ?_
  exact bQ [] (fun f w=>∃ c,aIN c=some R/\f 2=zB c/\aF G K (L) w) aL aL
 obtain ⟨l,g,ho⟩:=aB hm
 refine cE [0,6] g (fun a f w=>f 7=i64 a/\aF G K (L) w) aL ?_
 ·rintro a d f m hm hr ⟨n,o⟩
  unfold yS at hm
  refine tD ?_
  rcases aM hm with ⟨h,hm⟩|⟨h,hm⟩
  ·refine tD ?_;refine bT ?_
   iterate 7 refine aBL ?_
   refine bQ [0,3,6,7] (fun f w=>∃ b,qW s_ a b=some d/\f 4=zB b/\aF G K (L) w) ?_ ?_
   ·rintro f p ⟨b,hm,q,r⟩
    unfold qW at hm
    iterate 2 refine aBL ?_
    exact bQ [0,6,7] (fun f w=>∃ e,aCm a e=some d/\f 32=zB e/\aF G K (L) w) aL aL
   exact aL
  ·exact aL
theorem aOW {s_:aO} {R:Bool} (hm:pF s_=some R) (b:aF G K (L) w):
  Calls prog 163 ([str s_]:List Value).toArray w (dD fun v w'=>v=zB R/\aF G K (L) w'):=by
 refine aBe func163 ?_;unfold pF at hm
 iterate 6 refine aBL ?_
 exact bQ [] (fun f w=>∃ a,aBN a=some R/\f 2=zB a/\aF G K (L) w) aL aL
theorem aRn {c:(List Int)} {d R:aO} (hm:aEw c d=some R) (q:aF G K (L) w) (hG:G.lo=0) (r:bK K a1 c2 c):
  Calls prog 187 ([zS a1 c.length c2,str d]:List Value).toArray w (dD fun v w'=>v=str R/\aF G K (L) w'):=by
 refine aBe func187 ?_;unfold aEw at hm
 refine tD ?_;obtain ⟨a,u,hm⟩:=aB hm
 refine aLZ (e:=([]:aO)) fM aKx rfl rfl q rfl rfl rfl u rfl (fun b x (b0:aF G K (aP 9 K b a.length a::L) x)=>(tD ?_));refine aQ [1] (fun f w=>∃ g,aIO d g=some R/\f 5=zS b g.length a.length/\aF G K (aP 9 K b a.length g::L) w) aL ?_
 obtain ⟨b1,y,ho⟩:=aB hm
 refine cA [1,11,12] y (fun j l f w=>f 5=zS b j.length a.length/\f 13=i64 l/\aF G K (aP 9 K b a.length j::L) w) aL ?_
 ·rintro j l b2 f b3 hm hr ⟨z,b4,J⟩
  unfold aCn at hm
  refine tD ?_
  rcases aM hm with ⟨V,hm⟩|⟨V,hm⟩
  ·refine tD ?_;refine bT (tD ?_)
   obtain ⟨b5,a0,hm⟩:=aB hm
   refine tD ?_;obtain ⟨b6,b7,a2⟩:=bK.el (sz:=1) rfl r a0
   cases a2
   refine tD ?_;obtain ⟨m,a3,hm⟩:=aB hm
   refine aCO call84 (aFF J a3) ?_
   rintro _ b8 ⟨rfl,o⟩
   obtain ⟨b9,k,hm⟩:=aB hm
   have a4:=cR o (i:=0) rfl k
   refine aC (dH fM rfl a4 rfl rfl rfl k) ?_;obtain ⟨a5,p,hm⟩:=aB hm
   refine lW (i:=0) (t:=0) (ns:=[str m]) (e':=(m:aO)) sizeOf9 o rfl (Hp.le_refl _) rfl rfl rfl k p rfl rfl (fW rfl) rfl (fun cs h=>by cases h;rfl) (fun a7 (a8:aF G K (aP 9 K b a.length a5::L) a7)=>(tD ?_));exact ⟨_,(Option.some.inj hm).symm,bZ,(Eq.trans z (congrArg (fun n=>zS b n a.length) (bS p))),rfl,a8⟩
  ·exact aL
theorem aAV {b:aO} {a:(List Int)} {R:(aO × Bool)} (hm:yT b a=some R) (e:aF G K (L) w) (g:G.lo=0) (h:bK K a1 c2 a):
  Calls prog 181 ([str b,zS a1 a.length c2]:List Value).toArray w (dD fun v w'=>v=Value.tuple #[str R.1,zB R.2]/\aF G K (L) w'):=by
 refine aBe func181 ?_;unfold yT at hm
 refine tD ?_;refine bT (tD ?_)
 rcases aM hm with ⟨d,hm⟩|⟨d,hm⟩
 ·exact aL
 ·iterate 2 refine aBL ?_
  exact bQ [0,1] (fun f w=>∃ c,aAe b a c=some R/\f 12=zB c/\aF G K (L) w) aL aL
theorem vN {s_ a:aO} {R:Bool} (hm:gX s_ a=some R) (c:aF G K (L) w):
  Calls prog 279 ([str s_,str a]:List Value).toArray w (dD fun v w'=>v=zB R/\aF G K (L) w'):=by
 refine aBe func279 ?_;unfold gX at hm
 iterate 6 refine aBL ?_
 exact bQ [] (fun f w=>∃ b,fX b=some R/\f 4=zB b/\aF G K (L) w) aL aL
theorem uU {s_ a R:aO} (hm:jN s_ a=some R) (b:aF G K (L) w):
  Calls prog 231 ([str s_,str a]:List Value).toArray w (dD fun v w'=>v=str R/\aF G K (L) w'):=by
 exact aL
theorem aFf {s_ a R:aO} (hm:oH s_ a=some R) (b:aF G K (L) w):
  Calls prog 180 ([str s_,str a]:List Value).toArray w (dD fun v w'=>v=str R/\aF G K (L) w'):=by
 exact aL
theorem vO {s_:aO} {R:(aO × (List Int) × Bool)} (hm:oI s_=some R) (i:aF G K (L) w) (j:G.lo=0):
  Calls prog 125 ([str s_]:List Value).toArray w (dD fun v w'=>∃ d e,v=Value.tuple #[str R.1,zS d R.2.1.length e,zB R.2.2]/\aF G K (aP 2 K d e R.2.1::L) w'):=by
 refine aBe func125 ?_;unfold oI at hm
 refine tD ?_;obtain ⟨g,k,hm⟩:=aB hm
 refine aCO call177 (lib_Cut i k) ?_
 rintro _ r ⟨rfl,t⟩
 iterate 14 refine aBL ?_
 refine rB [0,5] (fun f w=>∃ a b c,lF s_ g a=some R/\f 8=zS b a.length c/\aF G K (aP 2 K b c a::L) w) ?_ ?_
 ·rintro f u ⟨a,b,c,hm,x,l⟩
  unfold lF at hm
  refine tD ?_;obtain ⟨y,z,m,n,o⟩:=aF.lendSp l (Hp.le_refl _) .head
  obtain ⟨J,p,hm⟩:=aB hm
  refine aCO call181 (aAV p n j m) ?_
  rintro _ V ⟨rfl,q⟩
  have a0:=o _ _ q
  iterate 8 refine aBL ?_
  exact bQ [5,8] (fun f w=>∃ h,pW g a h=some R/\f 40=zB h/\aF G K (aP 2 K b c a::L) w) aL aL
 exact aL
theorem aQj {s_:aO} {R:Bool} (hm:aKd s_=some R) (a:aF G K (L) w) (b:G.lo=0):
  Calls prog 175 ([str s_]:List Value).toArray w (dD fun v w'=>v=zB R/\aF G K (L) w'):=by
 exact aL
theorem aQk {a:(List aW)} {left R:Int} (hm:aGo a left=some R) (b:aF G K (L) w) (c:bK K a1 c2 a):
  Calls prog 196 ([zS a1 a.length c2,i64 left]:List Value).toArray w (dD fun v w'=>v=i64 R/\aF G K (L) w'):=by
 exact aL
theorem aOX {a:(List (List aW))} {left R:Int} (hm:aHj a left=some R) (h:aF G K (L) w) (i:bK K a1 c2 a):
  Calls prog 145 ([zS a1 a.length c2,i64 left]:List Value).toArray w (dD fun v w'=>v=i64 R/\aF G K (L) w'):=by
 refine aBe func145 ?_;unfold aHj at hm
 refine tD ?_
 rcases aM hm with ⟨c,hm⟩|⟨c,hm⟩
 ·exact aL
 ·refine tD ?_;refine aQ [] (fun f w=>∃ b,aKI b=some R/\f 1=i64 b/\aF G K (L) w) aL ?_
  obtain ⟨j,d,ho⟩:=aB hm
  exact cA [0] d (fun e g f w=>f 1=i64 e/\f 5=i64 g/\aF G K (L) w) aL aL
theorem aRo {a:Part} {left R:Int} (hm:aIP a left=some R) (b:aF G K (L) w) (c:bK K a1 c2 a.Arguments):
  Calls prog 97 ([Value.agg #[i64 a.Kind,i64 a.Number,str a.Name,zS a1 a.Arguments.length c2],i64 left]:List Value).toArray w (dD fun v w'=>v=i64 R/\aF G K (L) w'):=by
 exact aL
theorem aQl {a:(List Part)} {left R:Int} (hm:aKe a left=some R) (h:aF G K (L) w) (i:bK K a1 c2 a):
  Calls prog 64 ([zS a1 a.length c2,i64 left]:List Value).toArray w (dD fun v w'=>v=i64 R/\aF G K (L) w'):=by
 refine aBe func64 ?_;unfold aKe at hm
 refine tD ?_
 rcases aM hm with ⟨c,hm⟩|⟨c,hm⟩
 ·exact aL
 ·refine tD ?_;refine aQ [] (fun f w=>∃ b,aMr b=some R/\f 1=i64 b/\aF G K (L) w) aL ?_
  obtain ⟨j,d,ho⟩:=aB hm
  exact cA [0] d (fun e g f w=>f 1=i64 e/\f 5=i64 g/\aF G K (L) w) aL aL
theorem aKy {a:Definition} {left R:Int} (hm:tQ a left=some R) (b:aF G K (L) w) (c:bK K a1 c2 a.Body):
  Calls prog 38 ([Value.agg #[str a.Name,i64 a.Parameters,zS a1 a.Body.length c2],i64 left]:List Value).toArray w (dD fun v w'=>v=i64 R/\aF G K (L) w'):=by
 exact aL
theorem aJm {a:(List Definition)} {left R:Int} (hm:xQ a left=some R) (h:aF G K (L) w) (i:bK K a1 c2 a):
  Calls prog 13 ([zS a1 a.length c2,i64 left]:List Value).toArray w (dD fun v w'=>v=i64 R/\aF G K (L) w'):=by
 refine aBe func13 ?_;unfold xQ at hm
 refine tD ?_
 rcases aM hm with ⟨c,hm⟩|⟨c,hm⟩
 ·exact aL
 ·refine tD ?_;refine aQ [] (fun f w=>∃ b,aEx b=some R/\f 1=i64 b/\aF G K (L) w) aL ?_
  obtain ⟨j,d,ho⟩:=aB hm
  exact cA [0] d (fun e g f w=>f 1=i64 e/\f 5=i64 g/\aF G K (L) w) aL aL
theorem aOY {a:(List Int)} {left R:Int} (hm:aLr a left=some R) (b:aF G K (L) w) (c:bK K a1 c2 a):
  Calls prog 65 ([zS a1 a.length c2,i64 left]:List Value).toArray w (dD fun v w'=>v=i64 R/\aF G K (L) w'):=by
 exact aL
theorem aLy {a:aY} {left R:Int} (hm:wF a left=some R) (b:aF G K (L) w) (c:bK K a1 c2 a.Values):
  Calls prog 39 ([Value.agg #[i64 a.Definition,zS a1 a.Values.length c2],i64 left]:List Value).toArray w (dD fun v w'=>v=i64 R/\aF G K (L) w'):=by
 exact aL
theorem aKz {a:(List aY)} {left R:Int} (hm:aAf a left=some R) (h:aF G K (L) w) (i:bK K a1 c2 a):
  Calls prog 14 ([zS a1 a.length c2,i64 left]:List Value).toArray w (dD fun v w'=>v=i64 R/\aF G K (L) w'):=by
 refine aBe func14 ?_;unfold aAf at hm
 refine tD ?_
 rcases aM hm with ⟨c,hm⟩|⟨c,hm⟩
 ·exact aL
 ·refine tD ?_;refine aQ [] (fun f w=>∃ b,aFt b=some R/\f 1=i64 b/\aF G K (L) w) aL ?_
  obtain ⟨j,d,ho⟩:=aB hm
  exact cA [0] d (fun e g f w=>f 1=i64 e/\f 5=i64 g/\aF G K (L) w) aL aL
theorem aNN {a:bB} {left R:Int} (hm:aCo a left=some R) (b:aF G K (L) w):
  Calls prog 40 ([Value.agg #[str a.Left,str a.Right,str a.Result],i64 left]:List Value).toArray w (dD fun v w'=>v=i64 R/\aF G K (L) w'):=by
 exact aL
theorem aMN {a:(List bB)} {left R:Int} (hm:aDt a left=some R) (h:aF G K (L) w) (i:bK K a1 c2 a):
  Calls prog 15 ([zS a1 a.length c2,i64 left]:List Value).toArray w (dD fun v w'=>v=i64 R/\aF G K (L) w'):=by
 refine aBe func15 ?_;unfold aDt at hm
 refine tD ?_
 rcases aM hm with ⟨c,hm⟩|⟨c,hm⟩
 ·exact aL
 ·refine tD ?_;refine aQ [] (fun f w=>∃ b,aHU b=some R/\f 1=i64 b/\aF G K (L) w) aL ?_
  obtain ⟨j,d,ho⟩:=aB hm
  exact cA [0] d (fun e g f w=>f 1=i64 e/\f 5=i64 g/\aF G K (L) w) aL aL
theorem aNO {a:(List aO)} {left R:Int} (hm:aCp a left=some R) (h:aF G K (L) w) (i:bK K a1 c2 a):
  Calls prog 16 ([zS a1 a.length c2,i64 left]:List Value).toArray w (dD fun v w'=>v=i64 R/\aF G K (L) w'):=by
 refine aBe func16 ?_;unfold aCp at hm
 refine tD ?_
 rcases aM hm with ⟨c,hm⟩|⟨c,hm⟩
 ·exact aL
 ·refine tD ?_;refine aQ [] (fun f w=>∃ b,aIQ b=some R/\f 1=i64 b/\aF G K (L) w) aL ?_
  obtain ⟨j,d,ho⟩:=aB hm
  exact cA [0] d (fun e g f w=>f 1=i64 e/\f 5=i64 g/\aF G K (L) w) aL aL
theorem aIc {a:bE} {left R:Int} (hm:aHk a left=some R) (b:aF G K (L) w) (c:bK K a1 c2 a.Definitions) (d:bK K a4 c5 a.Components) (e:bK K a7 c8 a.Meetings) (g:bK K a10 c11 a.Allowed) (h:bK K a13 c14 a.Hidden):
  Calls prog 4 ([Value.agg #[zS a1 a.Definitions.length c2,zS a4 a.Components.length c5,zS a7 a.Meetings.length c8,zS a10 a.Allowed.length c11,zS a13 a.Hidden.length c14],i64 left]:List Value).toArray w (dD fun v w'=>v=i64 R/\aF G K (L) w'):=by
 exact aL
theorem aOZ {c:UInt8} {R:Bool} (hm:aEy c=some R) (b:aF G K (L) w):
  Calls prog 146 ([Value.int .u8 (c.toNat:Int)]:List Value).toArray w (dD fun v w'=>v=zB R/\aF G K (L) w'):=by
 refine aBe func146 ?_;unfold aEy at hm
 iterate 6 refine aBL ?_
 exact bQ [] (fun f w=>∃ a,aFY a=some R/\f 2=zB a/\aF G K (L) w) aL aL
theorem aId {c:UInt8} {R:Bool} (hm:aEz c=some R) (b:aF G K (L) w):
  Calls prog 147 ([Value.int .u8 (c.toNat:Int)]:List Value).toArray w (dD fun v w'=>v=zB R/\aF G K (L) w'):=by
 refine aBe func147 ?_;unfold aEz at hm
 iterate 6 refine aBL ?_
 exact bQ [] (fun f w=>∃ a,aFZ a=some R/\f 2=zB a/\aF G K (L) w) aL aL
theorem aQm {s_:aO} {R:Bool} (hm:yU s_=some R) (i:aF G K (L) w):
  Calls prog 98 ([str s_]:List Value).toArray w (dD fun v w'=>v=zB R/\aF G K (L) w'):=by
 refine aBe func98 ?_;unfold yU at hm
 iterate 7 refine aBL ?_
 refine bQ [0] (fun f w=>∃ a,rF s_ a=some R/\f 16=zB a/\aF G K (L) w) ?_ ?_
 ·rintro f j ⟨a,hm,k,l⟩
  unfold rF at hm
  refine tD ?_
  rcases aM hm with ⟨d,hm⟩|⟨d,hm⟩
  ·exact aL
  ·refine tD ?_;refine aQ [] (fun f w=>aHl=some R/\aF G K (L) w) aL ?_
   obtain ⟨m,e,ho⟩:=aB hm
   refine cE [0] e (fun b f w=>f 3=i64 b/\aF G K (L) w) aL ?_
   ·rintro b g f n hm hr ⟨o,p⟩
    unfold aAh at hm
    iterate 5 refine aBL ?_
    refine aC (aEn runUnderlying9 rfl) (tD ?_)
    rcases aM hm with ⟨h,hm⟩|⟨h,hm⟩
    ·refine tD ?_;refine bT ?_
     iterate 1 refine aBL ?_
     exact bQ [0,3] (fun f w=>∃ c,aDu b c=some g/\f 34=zB c/\aF G K (L) w) aL aL
    ·exact aL
 exact aL
theorem aMO {n low a:Int} {R:Bool} (hm:tF n low a=some R) (c:aF G K (L) w):
  Calls prog 99 ([i64 n,i64 low,i64 a]:List Value).toArray w (dD fun v w'=>v=zB R/\aF G K (L) w'):=by
 refine aBe func99 ?_;unfold tF at hm
 iterate 6 refine aBL ?_
 exact bQ [] (fun f w=>∃ b,aLs b=some R/\f 6=zB b/\aF G K (L) w) aL aL
theorem aNP {p:Part} {a:Nat} {R:Int} (hm:yV p=some R) (c:aF G K (L) w) (d:eU K a1 a [i64 p.Kind,i64 p.Number,str p.Name,zS a4 p.Arguments.length c5]) (e:bK K a4 c5 p.Arguments):
  Calls prog 197 ([dS a1 a]:List Value).toArray w (dD fun v w'=>v=i64 R/\aF G K (L) w'):=by
 refine aBe func197 ?_;unfold yV at hm
 refine tD ?_;exact bT (rB [6] (fun f w=>∃ b,tR p b=some R/\f 7=zB b/\aF G K (L) w) aL aL)
theorem aIe {a:(List Part)} {R:Bool} (hm:aEA a=some R) (i:aF G K (L) w) (j:bK K a1 c2 a):
  Calls prog 148 ([zS a1 a.length c2]:List Value).toArray w (dD fun v w'=>v=zB R/\aF G K (L) w'):=by
 refine aBe func148 ?_;unfold aEA at hm
 iterate 7 refine aBL ?_
 refine bQ [0] (fun f w=>∃ b,wG a b=some R/\f 12=zB b/\aF G K (L) w) ?_ ?_
 ·rintro f k ⟨b,hm,l,m⟩
  unfold wG at hm
  refine tD ?_
  rcases aM hm with ⟨d,hm⟩|⟨d,hm⟩
  ·exact aL
  ·refine tD ?_;refine aQ [] (fun f w=>∃ c,aKJ c=some R/\f 3=i64 c/\aF G K (L) w) aL ?_
   obtain ⟨n,e,ho⟩:=aB hm
   exact cA [0] e (fun g h f w=>f 3=i64 g/\f 4=i64 h/\aF G K (L) w) aL aL
 exact aL
end Gv
namespace Gv
open Gv.Hp renaming le_refl→zR
open Go.Value renaming slice→zS,bool→zB
open Go Go.Proofs Go.Proofs.Tryz
set_option maxRecDepth 20000
set_option maxHeartbeats 40000000
variable {G:nX} {K:Hp} {L:List fJ} {w:World} {a1 a4 a7 a10 a13 a16:Option Addr} {c5 c2 c8 c11 c14 c17:Nat}
theorem aJn {p:Part} {b:Nat} {R:Bool} (hm:aGp p=some R) (k:aF G K (L) w) (l:eU K a1 b [i64 p.Kind,i64 p.Number,str p.Name,zS a4 p.Arguments.length c5]) (m:bK K a4 c5 p.Arguments):
  Calls prog 198 ([dS a1 b]:List Value).toArray w (dD fun v w'=>v=zB R/\aF G K (L) w'):=by
 refine aBe func198 ?_;unfold aGp at hm
 refine tD ?_;refine bT (rB [0,6] (fun f w=>∃ a,aAj p a=some R/\f 7=zB a/\aF G K (L) w) ?_ ?_)
 ·rintro f n ⟨a,hm,o,q⟩
  unfold aAj at hm
  rcases aM hm with ⟨g,hm⟩|⟨g,hm⟩
  ·iterate 2 refine aBL ?_
   exact bQ [] (fun f w=>∃ c,aAi c=some R/\f 2=zB c/\aF G K (L) w) aL aL
  ·refine tD ?_
   rcases aM hm with ⟨h,hm⟩|⟨h,hm⟩
   ·exact aL
   ·refine tD ?_
    rcases aM hm with ⟨i,hm⟩|⟨i,hm⟩
    ·iterate 2 refine aBL ?_
     exact bQ [] (fun f w=>∃ d,aDv d=some R/\f 2=zB d/\aF G K (L) w) aL aL
    ·refine tD ?_
     rcases aM hm with ⟨j,hm⟩|⟨j,hm⟩
     ·iterate 2 refine aBL ?_
      exact bQ [] (fun f w=>∃ e,aDw e=some R/\f 2=zB e/\aF G K (L) w) aL aL
     ·exact aL
 exact aL
theorem aKW {a:(List Part)} {b R:Int} (hm:aGq a b=some R) (h:aF G K (L) w) (i:bK K a1 c2 a):
  Calls prog 203 ([zS a1 a.length c2,i64 b]:List Value).toArray w (dD fun v w'=>v=i64 R/\aF G K (L) w'):=by
 refine aBe func203 ?_;unfold aGq at hm
 refine tD ?_;refine aQ [] (fun f w=>∃ c,aIR c=some R/\f 1=i64 c/\aF G K (L) w) aL ?_
 obtain ⟨j,d,ho⟩:=aB hm
 exact cA [0] d (fun e g f w=>f 1=i64 e/\f 5=i64 g/\aF G K (L) w) aL aL
theorem aIf {d:Definition} {e:Nat} {part R:Int} (hm:aBp d part=some R) (n:aF G K (L) w) (o:eU K a1 e [str d.Name,i64 d.Parameters,zS a4 d.Body.length c5]) (p:bK K a4 c5 d.Body):
  Calls prog 199 ([dS a1 e,i64 part]:List Value).toArray w (dD fun v w'=>v=i64 R/\aF G K (L) w'):=by
 refine aBe func199 ?_;unfold aBp at hm
 refine tD ?_;refine aQ [] (fun f w=>∃ g,aKK g=some R/\f 5=i64 g/\aF G K (L) w) aL ?_
 obtain ⟨q,j,ho⟩:=aB hm
 refine cA [0,1] j (fun b a f w=>f 5=i64 b/\f 6=i64 a/\aF G K (L) w) aL ?_
 ·rintro b a h f r hm hr ⟨t,u,x⟩
  unfold lB at hm
  refine tD ?_
  rcases aM hm with ⟨k,hm⟩|⟨k,hm⟩
  ·refine tD ?_;refine aQ [0,1,6] (fun f w=>∃ c,wH a c=some h/\f 5=i64 c/\aF G K (L) w) ?_ ?_
   ·rintro f y ⟨c,hm,l,m⟩
    unfold wH at hm
    refine tD ?_;exact ⟨_,(Option.some.inj hm).symm,bZ,l,rfl,m⟩
   iterate 1 refine aBL ?_
   exact bQ [0,1,5,6] (fun f w=>∃ i,aBQ b a i=some h/\f 34=zB i/\aF G K (L) w) aL aL
  ·exact aL
theorem aQn {t:aW} {a:Nat} {b:Int} {R:Bool} (hm:aKf t b=some R) (c:aF G K (L) w) (d:eU K a1 a [i64 t.Kind,i64 t.Value]):
  Calls prog 240 ([dS a1 a,i64 b]:List Value).toArray w (dD fun v w'=>v=zB R/\aF G K (L) w'):=by
 exact aL
theorem aPa {t:aW} {a:Nat} {R:Int} (hm:aEB t=some R) (b:aF G K (L) w) (c:eU K a1 a [i64 t.Kind,i64 t.Value]):
  Calls prog 241 ([dS a1 a]:List Value).toArray w (dD fun v w'=>v=i64 R/\aF G K (L) w'):=by
 exact aL
theorem aTf {e:(List aW)} {c d:Int} {R:Bool} (hm:aMs e c d=some R) (m:aF G K (L) w) (n:bK K a1 c2 e):
  Calls prog 200 ([zS a1 e.length c2,i64 c,i64 d]:List Value).toArray w (dD fun v w'=>v=zB R/\aF G K (L) w'):=by
 refine aBe func200 ?_;unfold aMs at hm
 refine tD ?_
 rcases aM hm with ⟨i,hm⟩|⟨i,hm⟩
 ·exact aL
 ·refine tD ?_;refine aQ [] (fun f w=>∃ g,aQe g=some R/\f 7=i64 g/\aF G K (L) w) aL ?_
  obtain ⟨o,j,ho⟩:=aB hm
  refine cA [0,1] j (fun a b f w=>f 7=i64 a/\f 8=i64 b/\aF G K (L) w) aL ?_
  ·rintro a b k f p hm hr ⟨q,r,t⟩
   unfold aEC at hm
   refine tD ?_
   rcases aM hm with ⟨l,hm⟩|⟨l,hm⟩
   ·refine tD ?_;refine bT ?_
    iterate 2 refine aBL ?_
    exact bQ [0,1,7,8] (fun f w=>∃ h,aHm e a b h=some k/\f 28=zB h/\aF G K (L) w) aL aL
   ·exact aL
theorem aNQ {h:(List Definition)} {d:Definition} {m:Nat} {b R:Int} (hm:yW h d b=some R) (hs:aF G K (L) w) (h3:bK K a1 c2 h) (p:eU K a4 m [str d.Name,i64 d.Parameters,zS a7 d.Body.length c8]) (n:bK K a7 c8 d.Body):
  Calls prog 149 ([zS a1 h.length c2,dS a4 m,i64 b]:List Value).toArray w (dD fun v w'=>v=i64 R/\aF G K (L) w'):=by
 refine aBe func149 ?_;unfold yW at hm
 refine tD ?_;obtain ⟨a,q,hm⟩:=aB hm
 refine tD ?_;obtain ⟨b6,b7,r⟩:=bK.el (sz:=4) rfl n q
 obtain ⟨c,e,rfl,t⟩:=r
 refine tD ?_;refine aGf fun g b8 b9=>?_
 refine aFe fun c0 u=>?_;refine tD ?_
 obtain ⟨c1,x,y,z,J⟩:=aF.lendBp u .head
 obtain ⟨c3,V,hm⟩:=aB hm
 refine aCO call198 (aJn V z y (t.mono x)) ?_
 rintro _ c4 ⟨rfl,a0⟩
 have c5:=J _ _ a0
 refine tD ?_
 rcases aM hm with ⟨a2,hm⟩|⟨a2,hm⟩
 ·exact aL
 ·iterate 5 refine aBL ?_
  refine bQ [0,1,2,7] (fun f w=>∃ i,pY h d b a i=some R/\f 28=zB i/\aF G K (box g 159 [i64 a.Kind,i64 a.Number,str a.Name,zS c a.Arguments.length e]::L) w) ?_ ?_
  ·rintro f c6 ⟨i,hm,c7,c9⟩
   unfold pY at hm
   refine tD ?_
   rcases aM hm with ⟨a3,hm⟩|⟨a3,hm⟩
   ·exact aL
   ·iterate 5 refine aBL ?_
    refine bQ [0,1,2,7] (fun f w=>∃ j,jQ h d b a j=some R/\f 51=zB j/\aF G K (box g 159 [i64 a.Kind,i64 a.Number,str a.Name,zS c a.Arguments.length e]::L) w) ?_ ?_
    ·rintro f d0 ⟨j,hm,d1,d2⟩
     unfold jQ at hm
     refine tD ?_
     rcases aM hm with ⟨c45,hm⟩|⟨c45,hm⟩
     ·exact aL
     ·refine tD ?_;refine aQ [1,2,7,8] (fun f w=>jP d b a=some R/\aF G K (box g 159 [i64 a.Kind,i64 a.Number,str a.Name,zS c a.Arguments.length e]::L) w) ?_ ?_
      ·rintro f d3 ⟨hm,d4⟩
       unfold jP at hm
       iterate 3 refine aBL ?_
       refine bQ [1,2,7,8] (fun f w=>∃ k,nH d b a k=some R/\f 102=zB k/\aF G K (box g 159 [i64 a.Kind,i64 a.Number,str a.Name,zS c a.Arguments.length e]::L) w) ?_ ?_
       ·rintro f d5 ⟨k,hm,d6,a5⟩
        unfold nH at hm
        refine tD ?_
        rcases aM hm with ⟨a6,hm⟩|⟨a6,hm⟩
        ·exact aL
        ·refine tD ?_;obtain ⟨a8,a9,hm⟩:=aB hm
         refine aCO call199 (aIf a9 a5 p n) ?_
         rintro _ d7 ⟨rfl,d8⟩
         iterate 5 refine aBL ?_
         refine bQ [7,8,9] (fun f w=>∃ l,pX a a8 l=some R/\f 112=zB l/\aF G K (box g 159 [i64 a.Kind,i64 a.Number,str a.Name,zS c a.Arguments.length e]::L) w) ?_ ?_
         ·rintro f d9 ⟨l,hm,e0,e1⟩
          unfold pX at hm
          refine tD ?_
          rcases aM hm with ⟨b0,hm⟩|⟨b0,hm⟩
          ·exact aL
          ·refine tD ?_;refine aQ [] (fun f w=>aED=some R/\aF G K (L) w) aL ?_
           obtain ⟨e2,b1,ho⟩:=aB hm
           exact cE [7,8,9] b1 (fun b2 f w=>f 10=i64 b2/\aF G K (box g 159 [i64 a.Kind,i64 a.Number,str a.Name,zS c a.Arguments.length e]::L) w) aL aL
         exact aL
       exact aL
      refine tD ?_
      rcases aM hm with ⟨b3,hm⟩|⟨b3,hm⟩
      ·iterate 2 refine aBL ?_
       exact bQ [1,2,7,8] (fun f w=>∃ o,tT d b a o=some R/\f 69=zB o/\aF G K (box g 159 [i64 a.Kind,i64 a.Number,str a.Name,zS c a.Arguments.length e]::L) w) aL aL
      ·exact aL
    exact aL
  exact aL
theorem aQo {a:(List Definition)} {d:Definition} {b:Nat} {R:(Int × Int)} (hm:aEa a d=some R) (c:aF G K (L) w) (k:bK K a1 c2 a) (l:eU K a4 b [str d.Name,i64 d.Parameters,zS a7 d.Body.length c8]) (e:bK K a7 c8 d.Body):
  Calls prog 100 ([zS a1 a.length c2,dS a4 b]:List Value).toArray w (dD fun v w'=>v=Value.tuple #[i64 R.1,i64 R.2]/\aF G K (L) w'):=by
 refine aBe func100 ?_;unfold aEa at hm
 refine tD ?_;obtain ⟨m,g,hm⟩:=aB hm
 refine aCO call148 (aIe g c e) ?_
 rintro _ n ⟨rfl,o⟩
 refine tD ?_
 rcases aM hm with ⟨h,hm⟩|⟨h,hm⟩
 ·exact aL
 ·refine tD ?_;refine aQ [] (fun f w=>aMt=some R/\aF G K (L) w) aL ?_
  obtain ⟨p,i,ho⟩:=aB hm
  exact cE [0,1] i (fun j f w=>f 6=i64 j/\aF G K (L) w) aL aL
theorem aQp {a:(List Definition)} {R:Bool} (hm:aBq a=some R) (p:aF G K (L) w) (q:bK K a1 c2 a):
  Calls prog 66 ([zS a1 a.length c2]:List Value).toArray w (dD fun v w'=>v=zB R/\aF G K (L) w'):=by
 refine aBe func66 ?_;unfold aBq at hm
 iterate 7 refine aBL ?_
 refine bQ [0] (fun f w=>∃ c,uY a c=some R/\f 15=zB c/\aF G K (L) w) ?_ ?_
 ·rintro f r ⟨c,hm,t,u⟩
  unfold uY at hm
  refine tD ?_
  rcases aM hm with ⟨g,hm⟩|⟨g,hm⟩
  ·exact aL
  ·refine tD ?_;refine aQ [0] (fun f w=>aAl a=some R/\aF G K (L) w) ?_ ?_
   ·rintro f x ⟨hm,y⟩
    unfold aAl at hm
    refine tD ?_;refine aQ [] (fun f w=>aMu=some R/\aF G K (L) w) aL ?_
    obtain ⟨z,h,ho⟩:=aB hm
    exact cE [0] h (fun i f w=>f 5=i64 i/\aF G K (L) w) aL aL
   obtain ⟨J,j,ho⟩:=aB hm
   refine cE [0] j (fun b f w=>f 3=i64 b/\aF G K (L) w) aL ?_
   ·rintro b d f V hm hr ⟨a0,a2⟩
    unfold aAn at hm
    refine tD ?_
    rcases aM hm with ⟨k,hm⟩|⟨k,hm⟩
    ·refine tD ?_;refine aQ [0,3] (fun f w=>aDy b=some d/\aF G K (L) w) ?_ ?_
     ·rintro f a3 ⟨hm,l⟩
      unfold aDy at hm
      refine tD ?_;exact ⟨_,(Option.some.inj hm).symm,bZ,rfl,l⟩
     iterate 2 refine aBL ?_
     refine bQ [0,3] (fun f w=>∃ e,aAm a b e=some d/\f 37=zB e/\aF G K (L) w) ?_ ?_
     ·rintro f a4 ⟨e,hm,a5,a6⟩
      unfold aAm at hm
      refine tD ?_
      rcases aM hm with ⟨m,hm⟩|⟨m,hm⟩
      ·exact aL
      ·refine tD ?_;refine aQ [0,3] (fun f w=>aDz b=some d/\aF G K (L) w) aL ?_
       obtain ⟨a7,n,ho⟩:=aB hm
       exact cE [0,3] n (fun o f w=>f 4=i64 o/\aF G K (L) w) aL aL
     exact aL
    ·exact aL
 exact aL
theorem aQq {a:(List Int)} {R:Bool} (hm:aGr a=some R) (d:aF G K (L) w) (e:bK K a1 c2 a):
  Calls prog 101 ([zS a1 a.length c2]:List Value).toArray w (dD fun v w'=>v=zB R/\aF G K (L) w'):=by
 refine aBe func101 ?_;unfold aGr at hm
 refine tD ?_;refine aQ [] (fun f w=>aMv=some R/\aF G K (L) w) aL ?_
 obtain ⟨g,b,ho⟩:=aB hm
 exact cE [0] b (fun c f w=>f 3=i64 c/\aF G K (L) w) aL aL
theorem aJo {s_:bE} {c:Nat} {R:Bool} (hm:sD s_=some R) (r:aF G K (L) w) (t:eU K a1 c [zS a4 s_.Definitions.length c5,zS a7 s_.Components.length c8,zS a10 s_.Meetings.length c11,zS a13 s_.Allowed.length c14,zS a16 s_.Hidden.length c17]) (u:bK K a4 c5 s_.Definitions) (g:bK K a7 c8 s_.Components) (x:bK K a10 c11 s_.Meetings) (y:bK K a13 c14 s_.Allowed) (z:bK K a16 c17 s_.Hidden):
  Calls prog 67 ([dS a1 c]:List Value).toArray w (dD fun v w'=>v=zB R/\aF G K (L) w'):=by
 refine aBe func67 ?_;unfold sD at hm
 iterate 7 refine aBL ?_
 refine bQ [0] (fun f w=>∃ a,nJ s_ a=some R/\f 18=zB a/\aF G K (L) w) ?_ ?_
 ·rintro f J ⟨a,hm,V,a0⟩
  unfold nJ at hm
  refine tD ?_
  rcases aM hm with ⟨h,hm⟩|⟨h,hm⟩
  ·exact aL
  ·refine tD ?_;refine aQ [] (fun f w=>aEE=some R/\aF G K (L) w) aL ?_
   obtain ⟨a2,i,ho⟩:=aB hm
   refine cE [0] i (fun b f w=>f 3=i64 b/\aF G K (L) w) aL ?_
   ·rintro b j f a3 hm hr ⟨a5,a6⟩
    unfold nI at hm
    refine tD ?_
    rcases aM hm with ⟨k,hm⟩|⟨k,hm⟩
    ·refine tD ?_;refine bT (tD ?_)
     obtain ⟨l,m,hm⟩:=aB hm
     refine tD ?_;obtain ⟨a8,a9,n⟩:=bK.el (sz:=2) rfl g m
     obtain ⟨b0,b1,rfl,b2⟩:=n
     refine tD ?_;refine aGf fun b3 b4 b5=>?_
     refine aFe fun b6 d=>?_;refine tD ?_
     refine aRj ?_;refine tD ?_
     obtain ⟨o,p,hm⟩:=aB hm
     refine pL (vs:=[i64 l.Definition,i64 0,i64 (wr ((s_.Definitions.length:Int) - 1))]) (v:=zB o) call99 rfl (fun _ d=>(aMO p d)) (tD ?_);refine pU (fun b7 b8=>(tD ?_))
     rcases aM hm with ⟨q,hm⟩|⟨q,hm⟩
     ·exact aL
     ·refine tD ?_;exact bQ [0,3] (fun f w=>∃ e,rG b e=some j/\f 63=zB e/\aF G K (L) w) aL aL
    ·exact aL
 exact aL
theorem aNR {s_:aO} {R:Bool} (hm:oJ s_=some R) (b:aF G K (L) w):
  Calls prog 102 ([str s_]:List Value).toArray w (dD fun v w'=>v=zB R/\aF G K (L) w'):=by
 refine aBe func102 ?_;unfold oJ at hm
 iterate 6 refine aBL ?_
 exact bQ [] (fun f w=>∃ a,aAo a=some R/\f 2=zB a/\aF G K (L) w) aL aL
theorem aLz {c:(List bB)} {R:Bool} (hm:wI c=some R) (z:aF G K (L) w) (k:bK K a1 c2 c):
  Calls prog 68 ([zS a1 c.length c2]:List Value).toArray w (dD fun v w'=>v=zB R/\aF G K (L) w'):=by
 refine aBe func68 ?_;unfold wI at hm
 refine tD ?_
 rcases aM hm with ⟨l,hm⟩|⟨l,hm⟩
 ·exact aL
 ·refine tD ?_;refine aQ [] (fun f w=>aGs=some R/\aF G K (L) w) aL ?_
  obtain ⟨J,m,ho⟩:=aB hm
  refine cE [0] m (fun b f w=>f 3=i64 b/\aF G K (L) w) aL ?_
  ·rintro b d f V hm hr ⟨a0,a2⟩
   unfold nA at hm
   refine tD ?_
   rcases aM hm with ⟨n,hm⟩|⟨n,hm⟩
   ·refine tD ?_;refine aQ [0,3] (fun f w=>uZ b=some d/\aF G K (L) w) ?_ ?_
    ·rintro f a3 ⟨hm,o⟩
     unfold uZ at hm
     refine tD ?_;exact ⟨_,(Option.some.inj hm).symm,bZ,rfl,o⟩
    refine tD ?_;obtain ⟨a,p,hm⟩:=aB hm
    refine tD ?_;obtain ⟨a4,a5,q⟩:=bK.el (sz:=3) rfl k p
    cases q
    refine tD ?_;refine aGf fun e a6 a7=>?_
    refine aFe fun a8 a9=>?_
    iterate 4 refine aBL ?_
    refine bQ [0,3,4] (fun f w=>∃ g,jJ c b a g=some d/\f 41=zB g/\aF G K (box e 105 [str a.Left,str a.Right,str a.Result]::L) w) ?_ ?_
    ·rintro f b0 ⟨g,hm,b1,b2⟩
     unfold jJ at hm
     refine tD ?_
     rcases aM hm with ⟨r,hm⟩|⟨r,hm⟩
     ·exact aL
     ·refine tD ?_;refine bQ [0,3,4] (fun f w=>∃ h,jI c b a h=some d/\f 76=zB h/\aF G K (box e 105 [str a.Left,str a.Right,str a.Result]::L) w) ?_ ?_
      ·rintro f b3 ⟨h,hm,b4,b5⟩
       unfold jI at hm
       refine tD ?_
       rcases aM hm with ⟨t,hm⟩|⟨t,hm⟩
       ·exact aL
       ·refine tD ?_;refine aQ [0,3] (fun f w=>aBr b=some d/\aF G K (L) w) aL ?_
        obtain ⟨b6,u,ho⟩:=aB hm
        refine cE [0,3,4] u (fun i f w=>f 5=i64 i/\aF G K (box e 105 [str a.Left,str a.Right,str a.Result]::L) w) aL ?_
        ·rintro i x f b7 hm hr ⟨b8,b9⟩
         unfold pZ at hm
         refine tD ?_
         rcases aM hm with ⟨y,hm⟩|⟨y,hm⟩
         ·refine tD ?_;refine bT (tD ?_)
          exact bQ [0,3,4,5] (fun f w=>∃ j,vA i j=some x/\f 100=zB j/\aF G K (box e 105 [str a.Left,str a.Right,str a.Result]::L) w) aL aL
         ·exact aL
      exact aL
    exact aL
   ·exact aL
end Gv
