/- Walks, printed by program. -/
import Derived.Test.YtokmmhfhaoanmaaGreatDoorJLW
set_option linter.all false
namespace Gv
open Gv.Hp renaming le_refl→zR
open Go.Value renaming slice→zS,bool→zB
open Go Go.Proofs Go.Proofs.Tryz
set_option maxRecDepth 20000
set_option maxHeartbeats 40000000
variable {G:mL} {K:Hp} {L:List eU} {w:World} {a1 a4 a7 a10 a13:Option Addr} {c2 c5 c8 c11 c14:Nat}
theorem aKR {a:(List aH)} {R:((List Int) × Bool)} (hm:vK a=some R) (k:aD G K (L) w) (n:G.lo=0) (o:aW K a1 c2 a):
  Calls prog 142 ([zS a1 a.length c2]:List Value).toArray w (cN fun v w'=>∃ c d,v=Value.tuple #[zS c R.1.length d,zB R.2]/\aD G K (aJ 2 K c d R.1::L) w'):=by
 refine cC func142 ?_;unfold vK at hm
 refine aC ?_;refine aI [] (fun f w=>∃ b e g,aFP b=some R/\f 4=zS e b.length g/\aD G K (aJ 2 K e g b::L) w) aF ?_
 have p:=aD.nil (α:=Int) k 2 K
 obtain ⟨q,l,ho⟩:=aB hm
 exact bJ [9,10] l (fun h m f w=>∃ i j,f 4=zS i h.length j/\f 11=i64 m/\aD G K (aJ 2 K i j h::L) w) aF aF
theorem aKo {n low a:Int} {R:Bool} (hm:iO n low a=some R) (c:aD G K (L) w):
  Calls prog 115 ([i64 n,i64 low,i64 a]:List Value).toArray w (cN fun v w'=>v=zB R/\aD G K (L) w'):=by
 refine cC func115 ?_;unfold iO at hm
 iterate 6 refine cV ?_
 exact bC [] (fun f w=>∃ b,aIl b=some R/\f 6=zB b/\aD G K (L) w) aF aF
theorem aPt {n:Int} {R:Bool} (hm:aDp n=some R) (a:aD G K (L) w):
  Calls prog 237 ([i64 n]:List Value).toArray w (cN fun v w'=>v=zB R/\aD G K (L) w'):=by
 exact aF
theorem aCp {n:Int} {R:Bool} (hm:aDK n=some R) (a:aD G K (L) w):
  Calls prog 236 ([i64 n]:List Value).toArray w (cN fun v w'=>v=zB R/\aD G K (L) w'):=by
 exact aF
theorem tY {s_:(List Int)} {R:Int} (hm:gD s_=some R) (k:aD G K (L) w) (c:aW K a1 c2 s_):
  Calls prog 286 ([zS a1 s_.length c2,Value.func (.func 236) #[] #[]]:List Value).toArray w (cN fun v w'=>v=i64 R/\aD G K (L) w'):=by
 refine cC func286 ?_;unfold gD at hm
 refine aC ?_;refine aI [] (fun f w=>lO=some R/\aD G K (L) w) aF ?_
 obtain ⟨l,d,ho⟩:=aB hm
 refine bL [0,1,7] d (fun a f w=>f 8=i64 a/\aD G K (L) w) aF ?_
 ·rintro a m f n hm hr ⟨o,e⟩
  unfold dZ at hm
  refine aC ?_
  rcases aG hm with ⟨g,hm⟩|⟨g,hm⟩
  ·refine aC ?_;refine bI (aC ?_)
   obtain ⟨b,h,hm⟩:=aB hm
   refine aC ?_;obtain ⟨p,q,i⟩:=aW.el (sz:=1) rfl c h
   cases i
   refine aC ?_;obtain ⟨r,j,hm⟩:=aB hm
   exact lL (vs:=[i64 b]) (caps:=[]) (us:=[i64 b]) rfl call236 rfl rfl (aCp j e) aF
  ·exact aF
theorem rV {s_:(List Int)} {R:Bool} (hm:iH s_=some R) (a:aD G K (L) w) (b:aW K a1 c2 s_):
  Calls prog 235 ([zS a1 s_.length c2,Value.func (.func 236) #[] #[]]:List Value).toArray w (cN fun v w'=>v=zB R/\aD G K (L) w'):=by
 exact aF
theorem aNh {a:(List Int)} {R:Bool} (hm:aBJ a=some R) (b:aD G K (L) w) (c:aW K a1 c2 a):
  Calls prog 177 ([zS a1 a.length c2]:List Value).toArray w (cN fun v w'=>v=zB R/\aD G K (L) w'):=by
 exact aF
theorem aPu {c:UInt8} {R:Bool} (hm:aJy c=some R) (b:aD G K (L) w):
  Calls prog 230 ([Value.int .u8 (c.toNat:Int)]:List Value).toArray w (cN fun v w'=>v=zB R/\aD G K (L) w'):=by
 refine cC func230 ?_;unfold aJy at hm
 iterate 6 refine cV ?_
 exact bC [] (fun f w=>∃ a,aGH a=some R/\f 2=zB a/\aD G K (L) w) aF aF
theorem aKp {s_:aH} {R:Bool} (hm:aFQ s_=some R) (i:aD G K (L) w):
  Calls prog 173 ([str s_]:List Value).toArray w (cN fun v w'=>v=zB R/\aD G K (L) w'):=by
 refine cC func173 ?_;unfold aFQ at hm
 iterate 9 refine cV ?_
 refine aL (aDE runUnderlying9 rfl) (aC ?_);refine aI [0] (fun f w=>aEO s_=some R/\aD G K (L) w) ?_ ?_
 ·rintro f j ⟨hm,k⟩
  unfold aEO at hm
  iterate 2 refine cV ?_
  exact bC [] (fun f w=>∃ c,aIm c=some R/\f 2=zB c/\aD G K (L) w) aF aF
 obtain ⟨l,g,ho⟩:=aB hm
 refine bL [0,6] g (fun a f w=>f 7=i64 a/\aD G K (L) w) aF ?_
 ·rintro a d f m hm hr ⟨n,o⟩
  unfold xV at hm
  refine aC ?_
  rcases aG hm with ⟨h,hm⟩|⟨h,hm⟩
  ·refine aC ?_;refine bI ?_
   iterate 7 refine cV ?_
   refine bC [0,3,6,7] (fun f w=>∃ b,qN s_ a b=some d/\f 4=zB b/\aD G K (L) w) ?_ ?_
   ·rintro f p ⟨b,hm,q,r⟩
    unfold qN at hm
    iterate 2 refine cV ?_
    exact bC [0,6,7] (fun f w=>∃ e,aBK a e=some d/\f 32=zB e/\aD G K (L) w) aF aF
   exact aF
  ·exact aF
theorem aOm {s_:aH} {R:Bool} (hm:oU s_=some R) (b:aD G K (L) w):
  Calls prog 178 ([str s_]:List Value).toArray w (cN fun v w'=>v=zB R/\aD G K (L) w'):=by
 refine cC func178 ?_;unfold oU at hm
 iterate 6 refine cV ?_
 exact bC [] (fun f w=>∃ a,aBp a=some R/\f 2=zB a/\aD G K (L) w) aF aF
theorem aQB {c:(List Int)} {d R:aH} (hm:aDL c d=some R) (q:aD G K (L) w) (hG:G.lo=0) (r:aW K a1 c2 c):
  Calls prog 206 ([zS a1 c.length c2,str d]:List Value).toArray w (cN fun v w'=>v=str R/\aD G K (L) w'):=by
 refine cC func206 ?_;unfold aDL at hm
 refine aC ?_;obtain ⟨a,u,hm⟩:=aB hm
 refine aOV (e:=([]:aH)) sP ez_9 rfl rfl q rfl rfl rfl u rfl (fun b x (b0:aD G K (aJ 9 K b a.length a::L) x)=>(aC ?_));refine aI [1] (fun f w=>∃ g,aIn d g=some R/\f 5=zS b g.length a.length/\aD G K (aJ 9 K b a.length g::L) w) aF ?_
 obtain ⟨b1,y,ho⟩:=aB hm
 refine bJ [1,11,12] y (fun j l f w=>f 5=zS b j.length a.length/\f 13=i64 l/\aD G K (aJ 9 K b a.length j::L) w) aF ?_
 ·rintro j l b2 f b3 hm hr ⟨z,b4,J⟩
  unfold aBL at hm
  refine aC ?_
  rcases aG hm with ⟨V,hm⟩|⟨V,hm⟩
  ·refine aC ?_;refine bI (aC ?_)
   obtain ⟨b5,a0,hm⟩:=aB hm
   refine aC ?_;obtain ⟨b6,b7,a2⟩:=aW.el (sz:=1) rfl r a0
   cases a2
   refine aC ?_;obtain ⟨m,a3,hm⟩:=aB hm
   refine dQ call135 (aFc J a3) ?_
   rintro _ b8 ⟨rfl,o⟩
   obtain ⟨b9,k,hm⟩:=aB hm
   have a4:=cG o (i:=0) rfl k
   refine aL (dG sP rfl a4 rfl rfl rfl k) ?_;obtain ⟨a5,p,hm⟩:=aB hm
   refine qU (i:=0) (t:=0) (ns:=[str m]) (e':=(m:aH)) sizeOf9 o rfl (Hp.le_refl _) rfl rfl rfl k p rfl rfl (xM rfl) rfl (fun cs h=>by cases h;rfl) (fun a7 (a8:aD G K (aJ 9 K b a.length a5::L) a7)=>(aC ?_));exact ⟨_,(Option.some.inj hm).symm,bO,(Eq.trans z (congrArg (fun n=>zS b n a.length) (fB p))),rfl,a8⟩
  ·exact aF
theorem aAB {b:aH} {a:(List Int)} {R:(aH × Bool)} (hm:xW b a=some R) (e:aD G K (L) w) (g:G.lo=0) (h:aW K a1 c2 a):
  Calls prog 145 ([str b,zS a1 a.length c2]:List Value).toArray w (cN fun v w'=>v=Value.tuple #[str R.1,zB R.2]/\aD G K (L) w'):=by
 refine cC func145 ?_;unfold xW at hm
 refine aC ?_;refine bI (aC ?_)
 rcases aG hm with ⟨d,hm⟩|⟨d,hm⟩
 ·exact aF
 ·iterate 2 refine cV ?_
  exact bC [0,1] (fun f w=>∃ c,zD b a c=some R/\f 12=zB c/\aD G K (L) w) aF aF
theorem uT {s_ a:aH} {R:Bool} (hm:gM s_ a=some R) (c:aD G K (L) w):
  Calls prog 272 ([str s_,str a]:List Value).toArray w (cN fun v w'=>v=zB R/\aD G K (L) w'):=by
 refine cC func272 ?_;unfold gM at hm
 iterate 6 refine cV ?_
 exact bC [] (fun f w=>∃ b,fT b=some R/\f 4=zB b/\aD G K (L) w) aF aF
theorem tZ {s_ a R:aH} (hm:jB s_ a=some R) (b:aD G K (L) w):
  Calls prog 205 ([str s_,str a]:List Value).toArray w (cN fun v w'=>v=str R/\aD G K (L) w'):=by
 exact aF
theorem aEE {s_ a R:aH} (hm:nT s_ a=some R) (b:aD G K (L) w):
  Calls prog 144 ([str s_,str a]:List Value).toArray w (cN fun v w'=>v=str R/\aD G K (L) w'):=by
 exact aF
theorem uU {s_:aH} {R:(aH × (List Int) × Bool)} (hm:nU s_=some R) (i:aD G K (L) w) (j:G.lo=0):
  Calls prog 88 ([str s_]:List Value).toArray w (cN fun v w'=>∃ d e,v=Value.tuple #[str R.1,zS d R.2.1.length e,zB R.2.2]/\aD G K (aJ 2 K d e R.2.1::L) w'):=by
 refine cC func88 ?_;unfold nU at hm
 refine aC ?_;obtain ⟨g,k,hm⟩:=aB hm
 refine dQ call141 (lib_Cut i k) ?_
 rintro _ r ⟨rfl,t⟩
 iterate 14 refine cV ?_
 refine sH [0,5] (fun f w=>∃ a b c,kU s_ g a=some R/\f 8=zS b a.length c/\aD G K (aJ 2 K b c a::L) w) ?_ ?_
 ·rintro f u ⟨a,b,c,hm,x,l⟩
  unfold kU at hm
  refine aC ?_;obtain ⟨y,z,m,n,o⟩:=aD.lendSp l (Hp.le_refl _) .head
  obtain ⟨J,p,hm⟩:=aB hm
  refine dQ call145 (aAB p n j m) ?_
  rintro _ V ⟨rfl,q⟩
  have a0:=o _ _ q
  iterate 8 refine cV ?_
  exact bC [5,8] (fun f w=>∃ h,pP g a h=some R/\f 40=zB h/\aD G K (aJ 2 K b c a::L) w) aF aF
 exact aF
theorem aPv {s_:aH} {R:Bool} (hm:aJz s_=some R) (a:aD G K (L) w) (b:G.lo=0):
  Calls prog 129 ([str s_]:List Value).toArray w (cN fun v w'=>v=zB R/\aD G K (L) w'):=by
 exact aF
theorem aPw {a:(List aP)} {left R:Int} (hm:aFR a left=some R) (b:aD G K (L) w) (c:aW K a1 c2 a):
  Calls prog 215 ([zS a1 a.length c2,i64 left]:List Value).toArray w (cN fun v w'=>v=i64 R/\aD G K (L) w'):=by
 exact aF
theorem aOn {a:(List (List aP))} {left R:Int} (hm:aGI a left=some R) (h:aD G K (L) w) (i:aW K a1 c2 a):
  Calls prog 161 ([zS a1 a.length c2,i64 left]:List Value).toArray w (cN fun v w'=>v=i64 R/\aD G K (L) w'):=by
 refine cC func161 ?_;unfold aGI at hm
 refine aC ?_
 rcases aG hm with ⟨c,hm⟩|⟨c,hm⟩
 ·exact aF
 ·refine aC ?_;refine aI [] (fun f w=>∃ b,aKb b=some R/\f 1=i64 b/\aD G K (L) w) aF ?_
  obtain ⟨j,d,ho⟩:=aB hm
  exact bJ [0] d (fun e g f w=>f 1=i64 e/\f 5=i64 g/\aD G K (L) w) aF aF
theorem aQC {a:Part} {left R:Int} (hm:aIo a left=some R) (b:aD G K (L) w) (c:aW K a1 c2 a.Arguments):
  Calls prog 98 ([Value.agg #[i64 a.Kind,i64 a.Number,str a.Name,zS a1 a.Arguments.length c2],i64 left]:List Value).toArray w (cN fun v w'=>v=i64 R/\aD G K (L) w'):=by
 exact aF
theorem aPx {a:(List Part)} {left R:Int} (hm:aJA a left=some R) (h:aD G K (L) w) (i:aW K a1 c2 a):
  Calls prog 59 ([zS a1 a.length c2,i64 left]:List Value).toArray w (cN fun v w'=>v=i64 R/\aD G K (L) w'):=by
 refine cC func59 ?_;unfold aJA at hm
 refine aC ?_
 rcases aG hm with ⟨c,hm⟩|⟨c,hm⟩
 ·exact aF
 ·refine aC ?_;refine aI [] (fun f w=>∃ b,aLI b=some R/\f 1=i64 b/\aD G K (L) w) aF ?_
  obtain ⟨j,d,ho⟩:=aB hm
  exact bJ [0] d (fun e g f w=>f 1=i64 e/\f 5=i64 g/\aD G K (L) w) aF aF
theorem aJT {a:Definition} {left R:Int} (hm:tC a left=some R) (b:aD G K (L) w) (c:aW K a1 c2 a.Body):
  Calls prog 26 ([Value.agg #[str a.Name,i64 a.Parameters,zS a1 a.Body.length c2],i64 left]:List Value).toArray w (cN fun v w'=>v=i64 R/\aD G K (L) w'):=by
 exact aF
theorem aIL {a:(List Definition)} {left R:Int} (hm:wU a left=some R) (h:aD G K (L) w) (i:aW K a1 c2 a):
  Calls prog 9 ([zS a1 a.length c2,i64 left]:List Value).toArray w (cN fun v w'=>v=i64 R/\aD G K (L) w'):=by
 refine cC func9 ?_;unfold wU at hm
 refine aC ?_
 rcases aG hm with ⟨c,hm⟩|⟨c,hm⟩
 ·exact aF
 ·refine aC ?_;refine aI [] (fun f w=>∃ b,aDM b=some R/\f 1=i64 b/\aD G K (L) w) aF ?_
  obtain ⟨j,d,ho⟩:=aB hm
  exact bJ [0] d (fun e g f w=>f 1=i64 e/\f 5=i64 g/\aD G K (L) w) aF aF
theorem aOo {a:(List Int)} {left R:Int} (hm:aKK a left=some R) (b:aD G K (L) w) (c:aW K a1 c2 a):
  Calls prog 60 ([zS a1 a.length c2,i64 left]:List Value).toArray w (cN fun v w'=>v=i64 R/\aD G K (L) w'):=by
 exact aF
theorem aKS {a:aZ} {left R:Int} (hm:vL a left=some R) (b:aD G K (L) w) (c:aW K a1 c2 a.Values):
  Calls prog 27 ([Value.agg #[i64 a.Definition,zS a1 a.Values.length c2],i64 left]:List Value).toArray w (cN fun v w'=>v=i64 R/\aD G K (L) w'):=by
 exact aF
theorem aJU {a:(List aZ)} {left R:Int} (hm:zF a left=some R) (h:aD G K (L) w) (i:aW K a1 c2 a):
  Calls prog 10 ([zS a1 a.length c2,i64 left]:List Value).toArray w (cN fun v w'=>v=i64 R/\aD G K (L) w'):=by
 refine cC func10 ?_;unfold zF at hm
 refine aC ?_
 rcases aG hm with ⟨c,hm⟩|⟨c,hm⟩
 ·exact aF
 ·refine aC ?_;refine aI [] (fun f w=>∃ b,aEP b=some R/\f 1=i64 b/\aD G K (L) w) aF ?_
  obtain ⟨j,d,ho⟩:=aB hm
  exact bJ [0] d (fun e g f w=>f 1=i64 e/\f 5=i64 g/\aD G K (L) w) aF aF
theorem aNi {a:aT} {left R:Int} (hm:aBM a left=some R) (b:aD G K (L) w):
  Calls prog 28 ([Value.agg #[str a.Left,str a.Right,str a.Result],i64 left]:List Value).toArray w (cN fun v w'=>v=i64 R/\aD G K (L) w'):=by
 exact aF
theorem aMe {a:(List aT)} {left R:Int} (hm:aCE a left=some R) (h:aD G K (L) w) (i:aW K a1 c2 a):
  Calls prog 11 ([zS a1 a.length c2,i64 left]:List Value).toArray w (cN fun v w'=>v=i64 R/\aD G K (L) w'):=by
 refine cC func11 ?_;unfold aCE at hm
 refine aC ?_
 rcases aG hm with ⟨c,hm⟩|⟨c,hm⟩
 ·exact aF
 ·refine aC ?_;refine aI [] (fun f w=>∃ b,aHv b=some R/\f 1=i64 b/\aD G K (L) w) aF ?_
  obtain ⟨j,d,ho⟩:=aB hm
  exact bJ [0] d (fun e g f w=>f 1=i64 e/\f 5=i64 g/\aD G K (L) w) aF aF
theorem aNj {a:(List aH)} {left R:Int} (hm:aBN a left=some R) (h:aD G K (L) w) (i:aW K a1 c2 a):
  Calls prog 12 ([zS a1 a.length c2,i64 left]:List Value).toArray w (cN fun v w'=>v=i64 R/\aD G K (L) w'):=by
 refine cC func12 ?_;unfold aBN at hm
 refine aC ?_
 rcases aG hm with ⟨c,hm⟩|⟨c,hm⟩
 ·exact aF
 ·refine aC ?_;refine aI [] (fun f w=>∃ b,aIp b=some R/\f 1=i64 b/\aD G K (L) w) aF ?_
  obtain ⟨j,d,ho⟩:=aB hm
  exact bJ [0] d (fun e g f w=>f 1=i64 e/\f 5=i64 g/\aD G K (L) w) aF aF
theorem aHD {a:aR} {left R:Int} (hm:aGJ a left=some R) (b:aD G K (L) w) (c:aW K a1 c2 a.Definitions) (d:aW K a4 c5 a.Components) (e:aW K a7 c8 a.Meetings) (g:aW K a10 c11 a.Allowed) (h:aW K a13 c14 a.Hidden):
  Calls prog 4 ([Value.agg #[zS a1 a.Definitions.length c2,zS a4 a.Components.length c5,zS a7 a.Meetings.length c8,zS a10 a.Allowed.length c11,zS a13 a.Hidden.length c14],i64 left]:List Value).toArray w (cN fun v w'=>v=i64 R/\aD G K (L) w'):=by
 exact aF
theorem aOp {c:UInt8} {R:Bool} (hm:aDN c=some R) (b:aD G K (L) w):
  Calls prog 162 ([Value.int .u8 (c.toNat:Int)]:List Value).toArray w (cN fun v w'=>v=zB R/\aD G K (L) w'):=by
 refine cC func162 ?_;unfold aDN at hm
 iterate 6 refine cV ?_
 exact bC [] (fun f w=>∃ a,aFx a=some R/\f 2=zB a/\aD G K (L) w) aF aF
theorem aHE {c:UInt8} {R:Bool} (hm:aDO c=some R) (b:aD G K (L) w):
  Calls prog 163 ([Value.int .u8 (c.toNat:Int)]:List Value).toArray w (cN fun v w'=>v=zB R/\aD G K (L) w'):=by
 refine cC func163 ?_;unfold aDO at hm
 iterate 6 refine cV ?_
 exact bC [] (fun f w=>∃ a,aFy a=some R/\f 2=zB a/\aD G K (L) w) aF aF
theorem aPy {s_:aH} {R:Bool} (hm:xX s_=some R) (i:aD G K (L) w):
  Calls prog 99 ([str s_]:List Value).toArray w (cN fun v w'=>v=zB R/\aD G K (L) w'):=by
 refine cC func99 ?_;unfold xX at hm
 iterate 7 refine cV ?_
 refine bC [0] (fun f w=>∃ a,qY s_ a=some R/\f 16=zB a/\aD G K (L) w) ?_ ?_
 ·rintro f j ⟨a,hm,k,l⟩
  unfold qY at hm
  refine aC ?_
  rcases aG hm with ⟨d,hm⟩|⟨d,hm⟩
  ·exact aF
  ·refine aC ?_;refine aI [] (fun f w=>aGK=some R/\aD G K (L) w) aF ?_
   obtain ⟨m,e,ho⟩:=aB hm
   refine bL [0] e (fun b f w=>f 3=i64 b/\aD G K (L) w) aF ?_
   ·rintro b g f n hm hr ⟨o,p⟩
    unfold zJ at hm
    iterate 5 refine cV ?_
    refine aL (aDE runUnderlying9 rfl) (aC ?_)
    rcases aG hm with ⟨h,hm⟩|⟨h,hm⟩
    ·refine aC ?_;refine bI ?_
     iterate 1 refine cV ?_
     exact bC [0,3] (fun f w=>∃ c,aCF b c=some g/\f 34=zB c/\aD G K (L) w) aF aF
    ·exact aF
 exact aF
theorem aMf {n low a:Int} {R:Bool} (hm:sT n low a=some R) (c:aD G K (L) w):
  Calls prog 100 ([i64 n,i64 low,i64 a]:List Value).toArray w (cN fun v w'=>v=zB R/\aD G K (L) w'):=by
 refine cC func100 ?_;unfold sT at hm
 iterate 6 refine cV ?_
 exact bC [] (fun f w=>∃ b,aKL b=some R/\f 6=zB b/\aD G K (L) w) aF aF
theorem aNk {p:Part} {a:Nat} {R:Int} (hm:xY p=some R) (c:aD G K (L) w) (d:eM K a1 a [i64 p.Kind,i64 p.Number,str p.Name,zS a4 p.Arguments.length c5]) (e:aW K a4 c5 p.Arguments):
  Calls prog 216 ([fL a1 a]:List Value).toArray w (cN fun v w'=>v=i64 R/\aD G K (L) w'):=by
 refine cC func216 ?_;unfold xY at hm
 refine aC ?_;exact bI (sH [6] (fun f w=>∃ b,tD p b=some R/\f 7=zB b/\aD G K (L) w) aF aF)
theorem aHF {a:(List Part)} {R:Bool} (hm:aDP a=some R) (i:aD G K (L) w) (j:aW K a1 c2 a):
  Calls prog 164 ([zS a1 a.length c2]:List Value).toArray w (cN fun v w'=>v=zB R/\aD G K (L) w'):=by
 refine cC func164 ?_;unfold aDP at hm
 iterate 7 refine cV ?_
 refine bC [0] (fun f w=>∃ b,vM a b=some R/\f 12=zB b/\aD G K (L) w) ?_ ?_
 ·rintro f k ⟨b,hm,l,m⟩
  unfold vM at hm
  refine aC ?_
  rcases aG hm with ⟨d,hm⟩|⟨d,hm⟩
  ·exact aF
  ·refine aC ?_;refine aI [] (fun f w=>∃ c,aKc c=some R/\f 3=i64 c/\aD G K (L) w) aF ?_
   obtain ⟨n,e,ho⟩:=aB hm
   exact bJ [0] e (fun g h f w=>f 3=i64 g/\f 4=i64 h/\aD G K (L) w) aF aF
 exact aF
end Gv
namespace Gv
open Gv.Hp renaming le_refl→zR
open Go.Value renaming slice→zS,bool→zB
open Go Go.Proofs Go.Proofs.Tryz
set_option maxRecDepth 20000
set_option maxHeartbeats 40000000
variable {G:mL} {K:Hp} {L:List eU} {w:World} {a1 a4 a7 a10 a13 a16:Option Addr} {c5 c2 c8 c11 c14 c17:Nat}
theorem aIM {p:Part} {b:Nat} {R:Bool} (hm:aFS p=some R) (k:aD G K (L) w) (l:eM K a1 b [i64 p.Kind,i64 p.Number,str p.Name,zS a4 p.Arguments.length c5]) (m:aW K a4 c5 p.Arguments):
  Calls prog 217 ([fL a1 b]:List Value).toArray w (cN fun v w'=>v=zB R/\aD G K (L) w'):=by
 refine cC func217 ?_;unfold aFS at hm
 refine aC ?_;refine bI (sH [0,6] (fun f w=>∃ a,zO p a=some R/\f 7=zB a/\aD G K (L) w) ?_ ?_)
 ·rintro f n ⟨a,hm,o,q⟩
  unfold zO at hm
  rcases aG hm with ⟨g,hm⟩|⟨g,hm⟩
  ·iterate 2 refine cV ?_
   exact bC [] (fun f w=>∃ c,zN c=some R/\f 2=zB c/\aD G K (L) w) aF aF
  ·refine aC ?_
   rcases aG hm with ⟨h,hm⟩|⟨h,hm⟩
   ·exact aF
   ·refine aC ?_
    rcases aG hm with ⟨i,hm⟩|⟨i,hm⟩
    ·iterate 2 refine cV ?_
     exact bC [] (fun f w=>∃ d,aCG d=some R/\f 2=zB d/\aD G K (L) w) aF aF
    ·refine aC ?_
     rcases aG hm with ⟨j,hm⟩|⟨j,hm⟩
     ·iterate 2 refine cV ?_
      exact bC [] (fun f w=>∃ e,aCH e=some R/\f 2=zB e/\aD G K (L) w) aF aF
     ·exact aF
 exact aF
theorem aKq {a:(List Part)} {b R:Int} (hm:aFT a b=some R) (h:aD G K (L) w) (i:aW K a1 c2 a):
  Calls prog 222 ([zS a1 a.length c2,i64 b]:List Value).toArray w (cN fun v w'=>v=i64 R/\aD G K (L) w'):=by
 refine cC func222 ?_;unfold aFT at hm
 refine aC ?_;refine aI [] (fun f w=>∃ c,aIq c=some R/\f 1=i64 c/\aD G K (L) w) aF ?_
 obtain ⟨j,d,ho⟩:=aB hm
 exact bJ [0] d (fun e g f w=>f 1=i64 e/\f 5=i64 g/\aD G K (L) w) aF aF
theorem aHG {d:Definition} {e:Nat} {part R:Int} (hm:aAR d part=some R) (n:aD G K (L) w) (o:eM K a1 e [str d.Name,i64 d.Parameters,zS a4 d.Body.length c5]) (p:aW K a4 c5 d.Body):
  Calls prog 218 ([fL a1 e,i64 part]:List Value).toArray w (cN fun v w'=>v=i64 R/\aD G K (L) w'):=by
 refine cC func218 ?_;unfold aAR at hm
 refine aC ?_;refine aI [] (fun f w=>∃ g,aKd g=some R/\f 5=i64 g/\aD G K (L) w) aF ?_
 obtain ⟨q,j,ho⟩:=aB hm
 refine bJ [0,1] j (fun b a f w=>f 5=i64 b/\f 6=i64 a/\aD G K (L) w) aF ?_
 ·rintro b a h f r hm hr ⟨t,u,x⟩
  unfold kR at hm
  refine aC ?_
  rcases aG hm with ⟨k,hm⟩|⟨k,hm⟩
  ·refine aC ?_;refine aI [0,1,6] (fun f w=>∃ c,vN a c=some h/\f 5=i64 c/\aD G K (L) w) ?_ ?_
   ·rintro f y ⟨c,hm,l,m⟩
    unfold vN at hm
    refine aC ?_;exact ⟨_,(Option.some.inj hm).symm,bO,l,rfl,m⟩
   iterate 1 refine cV ?_
   exact bC [0,1,5,6] (fun f w=>∃ i,aBs b a i=some h/\f 34=zB i/\aD G K (L) w) aF aF
  ·exact aF
theorem aPz {t:aP} {a:Nat} {b:Int} {R:Bool} (hm:aJB t b=some R) (c:aD G K (L) w) (d:eM K a1 a [i64 t.Kind,i64 t.Value]):
  Calls prog 275 ([fL a1 a,i64 b]:List Value).toArray w (cN fun v w'=>v=zB R/\aD G K (L) w'):=by
 exact aF
theorem aOq {t:aP} {a:Nat} {R:Int} (hm:aDQ t=some R) (b:aD G K (L) w) (c:eM K a1 a [i64 t.Kind,i64 t.Value]):
  Calls prog 276 ([fL a1 a]:List Value).toArray w (cN fun v w'=>v=i64 R/\aD G K (L) w'):=by
 exact aF
theorem aSl {e:(List aP)} {c d:Int} {R:Bool} (hm:aLJ e c d=some R) (m:aD G K (L) w) (n:aW K a1 c2 e):
  Calls prog 219 ([zS a1 e.length c2,i64 c,i64 d]:List Value).toArray w (cN fun v w'=>v=zB R/\aD G K (L) w'):=by
 refine cC func219 ?_;unfold aLJ at hm
 refine aC ?_
 rcases aG hm with ⟨i,hm⟩|⟨i,hm⟩
 ·exact aF
 ·refine aC ?_;refine aI [] (fun f w=>∃ g,aPq g=some R/\f 7=i64 g/\aD G K (L) w) aF ?_
  obtain ⟨o,j,ho⟩:=aB hm
  refine bJ [0,1] j (fun a b f w=>f 7=i64 a/\f 8=i64 b/\aD G K (L) w) aF ?_
  ·rintro a b k f p hm hr ⟨q,r,t⟩
   unfold aDR at hm
   refine aC ?_
   rcases aG hm with ⟨l,hm⟩|⟨l,hm⟩
   ·refine aC ?_;refine bI ?_
    iterate 2 refine cV ?_
    exact bC [0,1,7,8] (fun f w=>∃ h,aGL e a b h=some k/\f 28=zB h/\aD G K (L) w) aF aF
   ·exact aF
theorem aNl {h:(List Definition)} {d:Definition} {m:Nat} {b R:Int} (hm:xZ h d b=some R) (hs:aD G K (L) w) (h3:aW K a1 c2 h) (p:eM K a4 m [str d.Name,i64 d.Parameters,zS a7 d.Body.length c8]) (n:aW K a7 c8 d.Body):
  Calls prog 165 ([zS a1 h.length c2,fL a4 m,i64 b]:List Value).toArray w (cN fun v w'=>v=i64 R/\aD G K (L) w'):=by
 refine cC func165 ?_;unfold xZ at hm
 refine aC ?_;obtain ⟨a,q,hm⟩:=aB hm
 refine aC ?_;obtain ⟨b6,b7,r⟩:=aW.el (sz:=4) rfl n q
 obtain ⟨c,e,rfl,t⟩:=r
 refine aC ?_;refine pO fun g b8 b9=>?_
 refine nB fun c0 u=>?_;refine aC ?_
 obtain ⟨c1,x,y,z,J⟩:=aD.lendBp u .head
 obtain ⟨c3,V,hm⟩:=aB hm
 refine dQ call217 (aIM V z y (t.mono x)) ?_
 rintro _ c4 ⟨rfl,a0⟩
 have c5:=J _ _ a0
 refine aC ?_
 rcases aG hm with ⟨a2,hm⟩|⟨a2,hm⟩
 ·exact aF
 ·iterate 5 refine cV ?_
  refine bC [0,1,2,7] (fun f w=>∃ i,pR h d b a i=some R/\f 28=zB i/\aD G K (box g 186 [i64 a.Kind,i64 a.Number,str a.Name,zS c a.Arguments.length e]::L) w) ?_ ?_
  ·rintro f c6 ⟨i,hm,c7,c9⟩
   unfold pR at hm
   refine aC ?_
   rcases aG hm with ⟨a3,hm⟩|⟨a3,hm⟩
   ·exact aF
   ·iterate 5 refine cV ?_
    refine bC [0,1,2,7] (fun f w=>∃ j,jF h d b a j=some R/\f 51=zB j/\aD G K (box g 186 [i64 a.Kind,i64 a.Number,str a.Name,zS c a.Arguments.length e]::L) w) ?_ ?_
    ·rintro f d0 ⟨j,hm,d1,d2⟩
     unfold jF at hm
     refine aC ?_
     rcases aG hm with ⟨c45,hm⟩|⟨c45,hm⟩
     ·exact aF
     ·refine aC ?_;refine aI [1,2,7,8] (fun f w=>jE d b a=some R/\aD G K (box g 186 [i64 a.Kind,i64 a.Number,str a.Name,zS c a.Arguments.length e]::L) w) ?_ ?_
      ·rintro f d3 ⟨hm,d4⟩
       unfold jE at hm
       iterate 3 refine cV ?_
       refine bC [1,2,7,8] (fun f w=>∃ k,mN d b a k=some R/\f 102=zB k/\aD G K (box g 186 [i64 a.Kind,i64 a.Number,str a.Name,zS c a.Arguments.length e]::L) w) ?_ ?_
       ·rintro f d5 ⟨k,hm,d6,a5⟩
        unfold mN at hm
        refine aC ?_
        rcases aG hm with ⟨a6,hm⟩|⟨a6,hm⟩
        ·exact aF
        ·refine aC ?_;obtain ⟨a8,a9,hm⟩:=aB hm
         refine dQ call218 (aHG a9 a5 p n) ?_
         rintro _ d7 ⟨rfl,d8⟩
         iterate 5 refine cV ?_
         refine bC [7,8,9] (fun f w=>∃ l,pQ a a8 l=some R/\f 112=zB l/\aD G K (box g 186 [i64 a.Kind,i64 a.Number,str a.Name,zS c a.Arguments.length e]::L) w) ?_ ?_
         ·rintro f d9 ⟨l,hm,e0,e1⟩
          unfold pQ at hm
          refine aC ?_
          rcases aG hm with ⟨b0,hm⟩|⟨b0,hm⟩
          ·exact aF
          ·refine aC ?_;refine aI [] (fun f w=>aDS=some R/\aD G K (L) w) aF ?_
           obtain ⟨e2,b1,ho⟩:=aB hm
           exact bL [7,8,9] b1 (fun b2 f w=>f 10=i64 b2/\aD G K (box g 186 [i64 a.Kind,i64 a.Number,str a.Name,zS c a.Arguments.length e]::L) w) aF aF
         exact aF
       exact aF
      refine aC ?_
      rcases aG hm with ⟨b3,hm⟩|⟨b3,hm⟩
      ·iterate 2 refine cV ?_
       exact bC [1,2,7,8] (fun f w=>∃ o,tF d b a o=some R/\f 69=zB o/\aD G K (box g 186 [i64 a.Kind,i64 a.Number,str a.Name,zS c a.Arguments.length e]::L) w) aF aF
      ·exact aF
    exact aF
  exact aF
theorem aPA {a:(List Definition)} {d:Definition} {b:Nat} {R:(Int × Int)} (hm:aDq a d=some R) (c:aD G K (L) w) (k:aW K a1 c2 a) (l:eM K a4 b [str d.Name,i64 d.Parameters,zS a7 d.Body.length c8]) (e:aW K a7 c8 d.Body):
  Calls prog 101 ([zS a1 a.length c2,fL a4 b]:List Value).toArray w (cN fun v w'=>v=Value.tuple #[i64 R.1,i64 R.2]/\aD G K (L) w'):=by
 refine cC func101 ?_;unfold aDq at hm
 refine aC ?_;obtain ⟨m,g,hm⟩:=aB hm
 refine dQ call164 (aHF g c e) ?_
 rintro _ n ⟨rfl,o⟩
 refine aC ?_
 rcases aG hm with ⟨h,hm⟩|⟨h,hm⟩
 ·exact aF
 ·refine aC ?_;refine aI [] (fun f w=>aLK=some R/\aD G K (L) w) aF ?_
  obtain ⟨p,i,ho⟩:=aB hm
  exact bL [0,1] i (fun j f w=>f 6=i64 j/\aD G K (L) w) aF aF
theorem aPB {a:(List Definition)} {R:Bool} (hm:aAS a=some R) (p:aD G K (L) w) (q:aW K a1 c2 a):
  Calls prog 61 ([zS a1 a.length c2]:List Value).toArray w (cN fun v w'=>v=zB R/\aD G K (L) w'):=by
 refine cC func61 ?_;unfold aAS at hm
 iterate 7 refine cV ?_
 refine bC [0] (fun f w=>∃ c,uF a c=some R/\f 15=zB c/\aD G K (L) w) ?_ ?_
 ·rintro f r ⟨c,hm,t,u⟩
  unfold uF at hm
  refine aC ?_
  rcases aG hm with ⟨g,hm⟩|⟨g,hm⟩
  ·exact aF
  ·refine aC ?_;refine aI [0] (fun f w=>zU a=some R/\aD G K (L) w) ?_ ?_
   ·rintro f x ⟨hm,y⟩
    unfold zU at hm
    refine aC ?_;refine aI [] (fun f w=>aLL=some R/\aD G K (L) w) aF ?_
    obtain ⟨z,h,ho⟩:=aB hm
    exact bL [0] h (fun i f w=>f 5=i64 i/\aD G K (L) w) aF aF
   obtain ⟨J,j,ho⟩:=aB hm
   refine bL [0] j (fun b f w=>f 3=i64 b/\aD G K (L) w) aF ?_
   ·rintro b d f V hm hr ⟨a0,a2⟩
    unfold zW at hm
    refine aC ?_
    rcases aG hm with ⟨k,hm⟩|⟨k,hm⟩
    ·refine aC ?_;refine aI [0,3] (fun f w=>aCJ b=some d/\aD G K (L) w) ?_ ?_
     ·rintro f a3 ⟨hm,l⟩
      unfold aCJ at hm
      refine aC ?_;exact ⟨_,(Option.some.inj hm).symm,bO,rfl,l⟩
     iterate 2 refine cV ?_
     refine bC [0,3] (fun f w=>∃ e,zV a b e=some d/\f 37=zB e/\aD G K (L) w) ?_ ?_
     ·rintro f a4 ⟨e,hm,a5,a6⟩
      unfold zV at hm
      refine aC ?_
      rcases aG hm with ⟨m,hm⟩|⟨m,hm⟩
      ·exact aF
      ·refine aC ?_;refine aI [0,3] (fun f w=>aCK b=some d/\aD G K (L) w) aF ?_
       obtain ⟨a7,n,ho⟩:=aB hm
       exact bL [0,3] n (fun o f w=>f 4=i64 o/\aD G K (L) w) aF aF
     exact aF
    ·exact aF
 exact aF
theorem aPC {a:(List Int)} {R:Bool} (hm:aFU a=some R) (d:aD G K (L) w) (e:aW K a1 c2 a):
  Calls prog 102 ([zS a1 a.length c2]:List Value).toArray w (cN fun v w'=>v=zB R/\aD G K (L) w'):=by
 refine cC func102 ?_;unfold aFU at hm
 refine aC ?_;refine aI [] (fun f w=>aLM=some R/\aD G K (L) w) aF ?_
 obtain ⟨g,b,ho⟩:=aB hm
 exact bL [0] b (fun c f w=>f 3=i64 c/\aD G K (L) w) aF aF
theorem aIN {s_:aR} {c:Nat} {R:Bool} (hm:rQ s_=some R) (r:aD G K (L) w) (t:eM K a1 c [zS a4 s_.Definitions.length c5,zS a7 s_.Components.length c8,zS a10 s_.Meetings.length c11,zS a13 s_.Allowed.length c14,zS a16 s_.Hidden.length c17]) (u:aW K a4 c5 s_.Definitions) (g:aW K a7 c8 s_.Components) (x:aW K a10 c11 s_.Meetings) (y:aW K a13 c14 s_.Allowed) (z:aW K a16 c17 s_.Hidden):
  Calls prog 62 ([fL a1 c]:List Value).toArray w (cN fun v w'=>v=zB R/\aD G K (L) w'):=by
 refine cC func62 ?_;unfold rQ at hm
 iterate 7 refine cV ?_
 refine bC [0] (fun f w=>∃ a,mP s_ a=some R/\f 18=zB a/\aD G K (L) w) ?_ ?_
 ·rintro f J ⟨a,hm,V,a0⟩
  unfold mP at hm
  refine aC ?_
  rcases aG hm with ⟨h,hm⟩|⟨h,hm⟩
  ·exact aF
  ·refine aC ?_;refine aI [] (fun f w=>aDT=some R/\aD G K (L) w) aF ?_
   obtain ⟨a2,i,ho⟩:=aB hm
   refine bL [0] i (fun b f w=>f 3=i64 b/\aD G K (L) w) aF ?_
   ·rintro b j f a3 hm hr ⟨a5,a6⟩
    unfold mO at hm
    refine aC ?_
    rcases aG hm with ⟨k,hm⟩|⟨k,hm⟩
    ·refine aC ?_;refine bI (aC ?_)
     obtain ⟨l,m,hm⟩:=aB hm
     refine aC ?_;obtain ⟨a8,a9,n⟩:=aW.el (sz:=2) rfl g m
     obtain ⟨b0,b1,rfl,b2⟩:=n
     refine aC ?_;refine pO fun b3 b4 b5=>?_
     refine nB fun b6 d=>?_;refine aC ?_
     refine aIi ?_;refine aC ?_
     obtain ⟨o,p,hm⟩:=aB hm
     refine qW (vs:=[i64 l.Definition,i64 0,i64 (wr ((s_.Definitions.length:Int) - 1))]) (v:=zB o) call100 rfl (fun _ d=>(aMf p d)) (aC ?_);refine sJ (fun b7 b8=>(aC ?_))
     rcases aG hm with ⟨q,hm⟩|⟨q,hm⟩
     ·exact aF
     ·refine aC ?_;exact bC [0,3] (fun f w=>∃ e,qZ b e=some j/\f 63=zB e/\aD G K (L) w) aF aF
    ·exact aF
 exact aF
theorem aNm {s_:aH} {R:Bool} (hm:nV s_=some R) (b:aD G K (L) w):
  Calls prog 103 ([str s_]:List Value).toArray w (cN fun v w'=>v=zB R/\aD G K (L) w'):=by
 refine cC func103 ?_;unfold nV at hm
 iterate 6 refine cV ?_
 exact bC [] (fun f w=>∃ a,zX a=some R/\f 2=zB a/\aD G K (L) w) aF aF
theorem aKT {c:(List aT)} {R:Bool} (hm:vO c=some R) (z:aD G K (L) w) (k:aW K a1 c2 c):
  Calls prog 63 ([zS a1 c.length c2]:List Value).toArray w (cN fun v w'=>v=zB R/\aD G K (L) w'):=by
 refine cC func63 ?_;unfold vO at hm
 refine aC ?_
 rcases aG hm with ⟨l,hm⟩|⟨l,hm⟩
 ·exact aF
 ·refine aC ?_;refine aI [] (fun f w=>aFV=some R/\aD G K (L) w) aF ?_
  obtain ⟨J,m,ho⟩:=aB hm
  refine bL [0] m (fun b f w=>f 3=i64 b/\aD G K (L) w) aF ?_
  ·rintro b d f V hm hr ⟨a0,a2⟩
   unfold mF at hm
   refine aC ?_
   rcases aG hm with ⟨n,hm⟩|⟨n,hm⟩
   ·refine aC ?_;refine aI [0,3] (fun f w=>uG b=some d/\aD G K (L) w) ?_ ?_
    ·rintro f a3 ⟨hm,o⟩
     unfold uG at hm
     refine aC ?_;exact ⟨_,(Option.some.inj hm).symm,bO,rfl,o⟩
    refine aC ?_;obtain ⟨a,p,hm⟩:=aB hm
    refine aC ?_;obtain ⟨a4,a5,q⟩:=aW.el (sz:=3) rfl k p
    cases q
    refine aC ?_;refine pO fun e a6 a7=>?_
    refine nB fun a8 a9=>?_
    iterate 4 refine cV ?_
    refine bC [0,3,4] (fun f w=>∃ g,iW c b a g=some d/\f 41=zB g/\aD G K (box e 94 [str a.Left,str a.Right,str a.Result]::L) w) ?_ ?_
    ·rintro f b0 ⟨g,hm,b1,b2⟩
     unfold iW at hm
     refine aC ?_
     rcases aG hm with ⟨r,hm⟩|⟨r,hm⟩
     ·exact aF
     ·refine aC ?_;refine bC [0,3,4] (fun f w=>∃ h,iV c b a h=some d/\f 76=zB h/\aD G K (box e 94 [str a.Left,str a.Right,str a.Result]::L) w) ?_ ?_
      ·rintro f b3 ⟨h,hm,b4,b5⟩
       unfold iV at hm
       refine aC ?_
       rcases aG hm with ⟨t,hm⟩|⟨t,hm⟩
       ·exact aF
       ·refine aC ?_;refine aI [0,3] (fun f w=>aAT b=some d/\aD G K (L) w) aF ?_
        obtain ⟨b6,u,ho⟩:=aB hm
        refine bL [0,3,4] u (fun i f w=>f 5=i64 i/\aD G K (box e 94 [str a.Left,str a.Right,str a.Result]::L) w) aF ?_
        ·rintro i x f b7 hm hr ⟨b8,b9⟩
         unfold pS at hm
         refine aC ?_
         rcases aG hm with ⟨y,hm⟩|⟨y,hm⟩
         ·refine aC ?_;refine bI (aC ?_)
          exact bC [0,3,4,5] (fun f w=>∃ j,uH i j=some x/\f 100=zB j/\aD G K (box e 94 [str a.Left,str a.Right,str a.Result]::L) w) aF aF
         ·exact aF
      exact aF
    exact aF
   ·exact aF
end Gv
