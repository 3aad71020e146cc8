/- Walks, printed by program. -/
import Derived.Test.YtffnhnhfedmjcaaGreatDoorJLW
set_option linter.all false
namespace Gv
open Gv.Hp renaming le_refl→zR
open Go.Value renaming slice→zS,bool→zB
open Option.some renaming inj→zI
open Go Go.Proofs Go.Proofs.Tryz
set_option maxRecDepth 20000
set_option maxHeartbeats 40000000
variable {G:yU} {K:Hp} {L:List jN} {w:World} {a1 a4 a7 a2:Option Addr} {c2 c5 c8 b1 c3:Nat}
theorem aMM {c:(List Int)} {d R:aH} (hm:aFv c d=some R) (q:aD G K (L) w) (hG:G.lo=0) (r:bE K a1 c2 c):
  Calls prog 42 ([zS a1 c.length c2,str d]:List Value).toArray w (eQ fun v w'=>v=str R/\aD G K (L) w'):=by
 refine aFe func42 ?_;unfold aFv at hm
 refine aCk ?_;obtain ⟨a,u,hm⟩:=aB hm
 refine aNb (e:=([]:aH)) fJ aFs rfl rfl q rfl rfl rfl u rfl (fun b x (b0:aD G K (aG 9 K b a.length a::L) x)=>(aCk ?_));refine aU [1] (fun f w=>∃ g,aGS d g=some R/\f 5=zS b g.length a.length/\aD G K (aG 9 K b a.length g::L) w) aP ?_
 obtain ⟨b1,y,ho⟩:=aB hm
 refine cQ [1,11,12] y (fun j l f w=>f 5=zS b j.length a.length/\f 13=i64 l/\aD G K (aG 9 K b a.length j::L) w) aP ?_
 ·rintro j l b2 f b3 hm hr ⟨z,b4,J⟩
  unfold aCL at hm
  refine aCk ?_
  rcases aS hm with ⟨V,hm⟩|⟨V,hm⟩
  ·refine aCk ?_;refine dE (aCk ?_)
   obtain ⟨b5,a0,hm⟩:=aB hm
   refine aCk ?_;obtain ⟨b6,b7,a2⟩:=bE.el (sz:=1) rfl r a0
   cases a2
   refine aCk ?_;obtain ⟨m,a3,hm⟩:=aB hm
   refine aED call87 (aKs J a3) ?_
   rintro _ b8 ⟨rfl,o⟩
   obtain ⟨b9,k,hm⟩:=aB hm
   have a4:=dJ o (i:=0) rfl k
   refine aF (fI fJ rfl a4 rfl rfl rfl k) ?_;obtain ⟨a5,p,hm⟩:=aB hm
   refine pO (i:=0) (t:=0) (ns:=[str m]) (e':=(m:aH)) sizeOf9 o rfl (zR _) rfl rfl rfl k p rfl rfl (dM rfl) rfl (fun cs h=>by cases h;rfl) (fun a7 (a8:aD G K (aG 9 K b a.length a5::L) a7)=>(aCk ?_));exact ⟨_,(zI hm).symm,cE,(Eq.trans z (congrArg (fun n=>zS b n a.length) (iS p))),rfl,a8⟩
  ·exact aP
theorem aLE {c:UInt8} {R:Bool} (hm:aHD c=some R) (b:aD G K (L) w):
  Calls prog 167 ([Value.int .u8 (c.toNat:Int)]:List Value).toArray w (eQ fun v w'=>v=zB R/\aD G K (L) w'):=by
 refine aFe func167 ?_;unfold aHD at hm
 iterate 6 refine aFl ?_
 exact cI [] (fun f w=>∃ a,aGb a=some R/\f 2=zB a/\aD G K (L) w) aP aP
theorem aMN {s_:aH} {R:Bool} (hm:aGU s_=some R) (i:aD G K (L) w):
  Calls prog 123 ([str s_]:List Value).toArray w (eQ fun v w'=>v=zB R/\aD G K (L) w'):=by
 refine aFe func123 ?_;unfold aGU at hm
 iterate 9 refine aFl ?_
 refine aF (aPr runUnderlying9 rfl) (aCk ?_);refine aU [0] (fun f w=>aEM s_=some R/\aD G K (L) w) ?_ ?_
 ·rintro f j ⟨hm,k⟩
  unfold aEM at hm
  iterate 2 refine aFl ?_
  exact cI [] (fun f w=>∃ c,aGT c=some R/\f 2=zB c/\aD G K (L) w) aP aP
 obtain ⟨l,g,ho⟩:=aB hm
 refine gI [0,6] g (fun a f w=>f 7=i64 a/\aD G K (L) w) aP ?_
 ·rintro a d f m hm hr ⟨n,o⟩
  unfold aBe at hm
  refine aCk ?_
  rcases aS hm with ⟨h,hm⟩|⟨h,hm⟩
  ·refine aCk ?_;refine dE ?_
   iterate 7 refine aFl ?_
   refine cI [0,3,6,7] (fun f w=>∃ b,uS s_ a b=some d/\f 4=zB b/\aD G K (L) w) ?_ ?_
   ·rintro f p ⟨b,hm,q,r⟩
    unfold uS at hm
    iterate 2 refine aFl ?_
    exact cI [0,6,7] (fun f w=>∃ e,aCM a e=some d/\f 32=zB e/\aD G K (L) w) aP aP
   exact aP
  ·exact aP
theorem aKC {s_:aH} {R:Bool} (hm:vA s_=some R) (b:aD G K (L) w):
  Calls prog 79 ([str s_]:List Value).toArray w (eQ fun v w'=>v=zB R/\aD G K (L) w'):=by
 refine aFe func79 ?_;unfold vA at hm
 iterate 6 refine aFl ?_
 exact cI [] (fun f w=>∃ a,aCB a=some R/\f 2=zB a/\aD G K (L) w) aP aP
theorem aMO {n low a:Int} {R:Bool} (hm:wA n low a=some R) (c:aD G K (L) w):
  Calls prog 34 ([i64 n,i64 low,i64 a]:List Value).toArray w (eQ fun v w'=>v=zB R/\aD G K (L) w'):=by
 refine aFe func34 ?_;unfold wA at hm
 iterate 6 refine aFl ?_
 exact cI [] (fun f w=>∃ b,aGV b=some R/\f 6=zB b/\aD G K (L) w) aP aP
theorem aLF {n:Int} {R:Bool} (hm:aJI n=some R) (a:aD G K (L) w):
  Calls prog 232 ([i64 n]:List Value).toArray w (eQ fun v w'=>v=zB R/\aD G K (L) w'):=by
 exact aP
theorem aDt {n:Int} {R:Bool} (hm:aEj n=some R) (a:aD G K (L) w):
  Calls prog 231 ([i64 n]:List Value).toArray w (eQ fun v w'=>v=zB R/\aD G K (L) w'):=by
 exact aP
theorem yH {s_:(List Int)} {R:Int} (hm:jE s_=some R) (k:aD G K (L) w) (c:bE K a1 c2 s_):
  Calls prog 248 ([zS a1 s_.length c2,Value.func (.func 231) #[] #[]]:List Value).toArray w (eQ fun v w'=>v=i64 R/\aD G K (L) w'):=by
 refine aFe func248 ?_;unfold jE at hm
 refine aCk ?_;refine aU [] (fun f w=>pI=some R/\aD G K (L) w) aP ?_
 obtain ⟨l,d,ho⟩:=aB hm
 refine gI [0,1,7] d (fun a f w=>f 8=i64 a/\aD G K (L) w) aP ?_
 ·rintro a m f n hm hr ⟨o,e⟩
  unfold eX at hm
  refine aCk ?_
  rcases aS hm with ⟨g,hm⟩|⟨g,hm⟩
  ·refine aCk ?_;refine dE (aCk ?_)
   obtain ⟨b,h,hm⟩:=aB hm
   refine aCk ?_;obtain ⟨p,q,i⟩:=bE.el (sz:=1) rfl c h
   cases i
   refine aCk ?_;obtain ⟨r,j,hm⟩:=aB hm
   exact eE (vs:=[i64 b]) (caps:=[]) (us:=[i64 b]) rfl call231 rfl rfl (aDt j e) aP
  ·exact aP
theorem wG {s_:(List Int)} {R:Bool} (hm:lA s_=some R) (a:aD G K (L) w) (b:bE K a1 c2 s_):
  Calls prog 230 ([zS a1 s_.length c2,Value.func (.func 231) #[] #[]]:List Value).toArray w (eQ fun v w'=>v=zB R/\aD G K (L) w'):=by
 exact aP
theorem aJK {a:(List Int)} {R:Bool} (hm:aEN a=some R) (b:aD G K (L) w) (c:bE K a1 c2 a):
  Calls prog 175 ([zS a1 a.length c2]:List Value).toArray w (eQ fun v w'=>v=zB R/\aD G K (L) w'):=by
 exact aP
theorem aHd {b:aH} {a:(List Int)} {R:(aH × Bool)} (hm:aCn b a=some R) (e:aD G K (L) w) (g:G.lo=0) (h:bE K a1 c2 a):
  Calls prog 135 ([str b,zS a1 a.length c2]:List Value).toArray w (eQ fun v w'=>v=Value.tuple #[str R.1,zB R.2]/\aD G K (L) w'):=by
 refine aFe func135 ?_;unfold aCn at hm
 refine aCk ?_;refine dE (aCk ?_)
 rcases aS hm with ⟨d,hm⟩|⟨d,hm⟩
 ·exact aP
 ·iterate 2 refine aFl ?_
  exact cI [0,1] (fun f w=>∃ c,aBC b a c=some R/\f 12=zB c/\aD G K (L) w) aP aP
theorem aIv {a:(List aH)} {R:((List Int) × Bool)} (hm:aAr a=some R) (k:aD G K (L) w) (n:G.lo=0) (o:bE K a1 c2 a):
  Calls prog 149 ([zS a1 a.length c2]:List Value).toArray w (eQ fun v w'=>∃ c d,v=Value.tuple #[zS c R.1.length d,zB R.2]/\aD G K (aG 2 K c d R.1::L) w'):=by
 refine aFe func149 ?_;unfold aAr at hm
 refine aCk ?_;refine aU [] (fun f w=>∃ b e g,aFw b=some R/\f 4=zS e b.length g/\aD G K (aG 2 K e g b::L) w) aP ?_
 have p:=aD.nil (α:=Int) k 2 K
 obtain ⟨q,l,ho⟩:=aB hm
 exact cQ [9,10] l (fun h m f w=>∃ i j,f 4=zS i h.length j/\f 11=i64 m/\aD G K (aG 2 K i j h::L) w) aP aP
theorem zY {s_ a:aH} {R:Bool} (hm:jV s_ a=some R) (c:aD G K (L) w):
  Calls prog 243 ([str s_,str a]:List Value).toArray w (eQ fun v w'=>v=zB R/\aD G K (L) w'):=by
 refine aFe func243 ?_;unfold jV at hm
 iterate 6 refine aFl ?_
 exact cI [] (fun f w=>∃ b,iO b=some R/\f 4=zB b/\aD G K (L) w) aP aP
theorem yI {s_ a R:aH} (hm:mH s_ a=some R) (b:aD G K (L) w):
  Calls prog 192 ([str s_,str a]:List Value).toArray w (eQ fun v w'=>v=str R/\aD G K (L) w'):=by
 exact aP
theorem aEC {s_ a R:aH} (hm:sC s_ a=some R) (b:aD G K (L) w):
  Calls prog 151 ([str s_,str a]:List Value).toArray w (eQ fun v w'=>v=str R/\aD G K (L) w'):=by
 exact aP
theorem aCu {s_:aH} {R:(aH × (List Int) × Bool)} (hm:mV s_=some R) (i:aD G K (L) w) (j:G.lo=0):
  Calls prog 98 ([str s_]:List Value).toArray w (eQ fun v w'=>∃ d e,v=Value.tuple #[str R.1,zS d R.2.1.length e,zB R.2.2]/\aD G K (aG 2 K d e R.2.1::L) w'):=by
 refine aFe func98 ?_;unfold mV at hm
 refine aCk ?_;obtain ⟨g,k,hm⟩:=aB hm
 refine aED call148 (lib_Cut i k) ?_
 rintro _ r ⟨rfl,t⟩
 iterate 14 refine aFl ?_
 refine tS [0,5] (fun f w=>∃ a b c,lI s_ g a=some R/\f 8=zS b a.length c/\aD G K (aG 2 K b c a::L) w) ?_ ?_
 ·rintro f u ⟨a,b,c,hm,x,l⟩
  unfold lI at hm
  refine aCk ?_;obtain ⟨y,z,m,n,o⟩:=aD.lendSp l (zR _) .head
  obtain ⟨J,p,hm⟩:=aB hm
  refine aED call135 (aHd p n j m) ?_
  rintro _ V ⟨rfl,q⟩
  have a0:=o _ _ q
  iterate 8 refine aFl ?_
  exact cI [5,8] (fun f w=>∃ h,mM g a h=some R/\f 40=zB h/\aD G K (aG 2 K b c a::L) w) aP aP
 exact aP
theorem aLG {s_:aH} {R:Bool} (hm:aDV s_=some R) (a:aD G K (L) w) (b:G.lo=0):
  Calls prog 76 ([str s_]:List Value).toArray w (eQ fun v w'=>v=zB R/\aD G K (L) w'):=by
 exact aP
theorem aIe {a b:(List UInt8)} {R:Bool} (hm:aGW a b=some R) (d:aD G K (L) w) (e:bE K a1 c2 a) (g:bE K a4 c5 b):
  Calls prog 4 ([zS a1 a.length c2,zS a4 b.length c5]:List Value).toArray w (eQ fun v w'=>v=zB R/\aD G K (L) w'):=by
 refine aFe func4 ?_;unfold aGW at hm
 iterate 6 refine aFl ?_
 exact cI [] (fun f w=>∃ c,aEO c=some R/\f 4=zB c/\aD G K (L) w) aP aP
theorem aHe {a:(List UInt8)} {R:(Int × Int)} (hm:aJJ a=some R) (c:aD G K (L) w) (d:bE K a1 c2 a):
  Calls prog 12 ([zS a1 a.length c2]:List Value).toArray w (eQ fun v w'=>∃ b,v=Value.pointer (some ⟨b,0,none⟩)/\aD G K (box b 67 [zS a1 a.length c2,i64 R.1,Value.int .u64 R.2]::L) w'):=by
 exact aP
theorem aEr {a:(List aH)} {s_:aH} {R:Int} (hm:aDW a s_=some R) (d:aD G K (L) w) (e:bE K a1 c2 a):
  Calls prog 72 ([zS a1 a.length c2,str s_]:List Value).toArray w (eQ fun v w'=>v=i64 R/\aD G K (L) w'):=by
 refine aFe func72 ?_;unfold aDW at hm
 refine aCk ?_;refine aU [] (fun f w=>aJc=some R/\aD G K (L) w) aP ?_
 obtain ⟨g,b,ho⟩:=aB hm
 exact gI [0,1] b (fun c f w=>f 5=i64 c/\aD G K (L) w) aP aP
theorem aHf {q R:(List aH)} (hm:aFx q=some R) (hs:aD G K (L) w) (h3:bE K a1 c2 q):
  Calls prog 71 ([zS a1 q.length c2]:List Value).toArray w (eQ fun v w'=>∃ J V,v=zS J R.length V/\aD G K (aG 9 K J V R::L) w'):=by
 refine aFe func71 ?_;unfold aFx at hm
 refine aCk ?_;refine aKc ([([116,97,117]:aH)]:List aH) fun a4 w5 e7=>?_
 refine aCk ?_;refine aU [] (fun f w=>∃ r a8 c9,aJd r=some R/\f 3=zS a8 r.length c9/\aD G K (aG 9 K a8 c9 r::L) w) aP ?_
 obtain ⟨e8,b7,ho⟩:=aB hm
 refine cQ [0] b7 (fun c g f w=>∃ d e,f 3=zS d c.length e/\f 4=i64 g/\aD G K (aG 9 K d e c::L) w) aP ?_
 ·rintro c g u f e9 hm hr ⟨d,e,f0,f1,b8⟩
  unfold vB at hm
  refine aCk ?_
  rcases aS hm with ⟨b9,hm⟩|⟨b9,hm⟩
  ·refine aCk ?_;refine aU [0,4] (fun f w=>∃ j k l,zD g j=some u/\f 3=zS k j.length l/\aD G K (aG 9 K k l j::L) w) ?_ ?_
   ·rintro f f2 ⟨j,k,l,hm,c0,c1⟩
    unfold zD at hm
    refine aCk ?_;exact ⟨_,(zI hm).symm,cE,k,l,c0,rfl,c1⟩
   refine aCk ?_;obtain ⟨m,c3,hm⟩:=aB hm
   refine aCk ?_;obtain ⟨f3,f4,c4⟩:=bE.el (sz:=1) rfl h3 c3
   cases c4
   refine aCk ?_;obtain ⟨f5,f6,c5,c6,c7⟩:=aD.lendSp b8 (zR _) .head
   obtain ⟨f7,c8,hm⟩:=aB hm
   refine aED call72 (aEr c8 c6 c5) ?_
   rintro _ f8 ⟨rfl,d0⟩
   have f9:=c7 _ _ d0
   refine aCk ?_
   rcases aS hm with ⟨d1,hm⟩|⟨d1,hm⟩
   ·exact aP
   ·refine aCk ?_;refine aU [0,3,4] (fun f w=>∃ o,aDF c g m o=some u/\f 5=i64 o/\aD G K (aG 9 K d e c::L) w) ?_ ?_
    ·rintro f g0 ⟨o,hm,g1,g2⟩
     unfold aDF at hm
     refine aCk ?_;refine aKc ([([]:aH)]:List aH) fun g3 g4 g5=>?_
     obtain ⟨g6,g7,hm⟩:=aB hm
     refine aMq fun a b g8 g9=>?_;refine aCk ?_
     refine aU [0,4,5] (fun f w=>∃ p,aDE g m o p=some u/\f 3=zS a p.length b/\aD G K (aG 9 K a b p::L) w) ?_ ?_
     ·rintro f h0 ⟨p,hm,d2,a3⟩
      unfold aDE at hm
      refine aCk ?_;obtain ⟨h1,x,hm⟩:=aB hm
      have d3:=dJ a3 (i:=0) rfl x
      refine aF (fI fJ rfl d3 rfl rfl rfl x) ?_;obtain ⟨a5,a6,hm⟩:=aB hm
      refine pO (i:=0) (t:=0) (ns:=[str m]) (e':=(m:aH)) sizeOf9 a3 rfl (zR _) rfl rfl rfl x a6 rfl rfl (dM rfl) rfl (fun cs h=>by cases h;rfl) (fun d4 (d5:aD G K (aG 9 K a b a5::L) d4)=>(aCk ?_));exact ⟨cE,a5,a,b,hm,(Eq.trans d2 (congrArg (fun n=>zS a n b) (iS a6))),d5⟩
     obtain ⟨h2,d6,ho⟩:=aB hm
     refine cQ [0,4,5] d6 (fun y a7 f w=>f 3=zS a y.length b/\f 6=i64 a7/\aD G K (aG 9 K a b y::L) w) aP ?_
     ·rintro y a7 h4 f h5 hm hr ⟨d7,h6,a9⟩
      unfold aBD at hm
      refine aCk ?_
      rcases aS hm with ⟨d8,hm⟩|⟨d8,hm⟩
      ·refine aCk ?_;refine dE (aCk ?_)
       obtain ⟨b0,b1,hm⟩:=aB hm
       have b2:=dJ a9 (i:=0) rfl b1
       refine aF (fI fJ rfl b2 rfl rfl rfl b1) (aCk ?_);obtain ⟨h7,b3,hm⟩:=aB hm
       refine aF (fI fJ rfl b2 rfl rfl rfl b3) ?_;obtain ⟨d9,b4,hm⟩:=aB hm
       refine pO (i:=0) (t:=0) (ns:=[str b0]) (e':=(b0:aH)) sizeOf9 a9 rfl (zR _) rfl rfl rfl b3 b4 rfl rfl (dM rfl) rfl (fun cs h=>by cases h;rfl) (fun e0 (e1:aD G K (aG 9 K a b d9::L) e0)=>(aCk ?_));exact ⟨_,(zI hm).symm,cE,(Eq.trans d7 (congrArg (fun n=>zS a n b) (iS b4))),rfl,e1⟩
      ·exact aP
    obtain ⟨h8,e2,ho⟩:=aB hm
    refine gI [0,3,4] e2 (fun z f w=>f 5=i64 z/\aD G K (aG 9 K d e c::L) w) aP ?_
    ·rintro z e3 f h9 hm hr ⟨i0,i1⟩
     unfold zF at hm
     refine aCk ?_;exact cI [0,3,4,5] (fun f w=>∃ b5,aBE z b5=some e3/\f 35=zB b5/\aD G K (aG 9 K d e c::L) w) aP aP
  ·exact aP
theorem aHg {a:Edge} {c:Nat} {b:Edge} {d:Nat} {R:Bool} (hm:aHE a b=some R) (e:aD G K (L) w) (g:fK K a1 c [i64 a.F,i64 a.B,i64 a.To]) (h:fK K a4 d [i64 b.F,i64 b.B,i64 b.To]):
  Calls prog 121 ([cX a1 c,cX a4 d]:List Value).toArray w (eQ fun v w'=>v=zB R/\aD G K (L) w'):=by
 exact aP
theorem aMP {c:(List Edge)} {e:Edge} {R:(List Edge)} (hm:aGX c e=some R) (hs:aD G K (aG 72 K a1 c2 c::L) w):
  Calls prog 73 ([zS a1 c.length c2,Value.agg #[i64 e.F,i64 e.B,i64 e.To]]:List Value).toArray w (eQ fun v w'=>∃ z J,v=zS z R.length J/\aD G K (aG 72 K z J R::L) w'):=by
 let d:=[i64 e.F,i64 e.B,i64 e.To]
 refine aFe func73 ?_;unfold aGX at hm
 refine aCk ?_;refine aKb fun g w4 e9=>?_
 refine aCk ?_;refine aU [0,3] (fun f w=>∃ k,aEQ c e k=some R/\f 5=i64 k/\aD G K (box g 72 d::aG 72 K a1 c2 c::L) w) ?_ ?_
 ·rintro f w8 ⟨k,hm,e7,m⟩
  unfold aEQ at hm
  refine aCk ?_;refine cI [0,3,5] (fun f w=>∃ o,aBf c e k o=some R/\f 30=zB o/\aD G K (box g 72 d::aG 72 K a1 c2 c::L) w) ?_ ?_
  ·rintro f f2 ⟨o,hm,f3,f4⟩
   unfold aBf at hm
   refine aCk ?_
   rcases aS hm with ⟨b4,hm⟩|⟨b4,hm⟩
   ·exact aP
   ·iterate 6 refine aFl ?_
    refine aF (jU (vs:=[]) (cs:=[i64 0,i64 0,i64 0]) aLz rfl (by kernel_rfl)) (aKc ([⟨0,0,0⟩]:List Edge) fun f5 f6 f7=>?_);obtain ⟨f8,f9,hm⟩:=aB hm
    refine aMq fun a b g0 g1=>?_;refine aCk ?_
    refine aU [3,5] (fun f w=>∃ l,aEP e k l=some R/\f 0=zS a l.length b/\aD G K (box g 72 d::aG 72 K a b l::L) w) ?_ ?_
    ·rintro f g2 ⟨l,hm,b5,V⟩
     unfold aEP at hm
     refine aCk ?_;obtain ⟨g3,p,hm⟩:=aB hm
     have b6:=dJ V (i:=1) rfl p
     refine aF (fI eI rfl b6 rfl rfl rfl p) ?_;obtain ⟨a0,a2,hm⟩:=aB hm
     refine pO (i:=1) (t:=0) (ns:=d) (e':=(⟨e.F,e.B,e.To⟩:Edge)) sizeOf72 V rfl (zR _) rfl rfl rfl p a2 rfl rfl (dM rfl) rfl (fun cs h=>by cases h;rfl) (fun b7 (g4:aD G K (box g 72 d::aG 72 K a b a0::L) b7)=>?_)
     iterate 4 refine aFl ?_
     refine bH (v:=zS a a0.length b) (Eq.trans b5 (congrArg (fun n=>zS a n b) (iS a2))) (aCk ?_);obtain rfl:=zI hm
     exact aMD results73 ⟨a,b,rfl,aKa⟩
    obtain ⟨g5,b9,ho⟩:=aB hm
    refine cQ [3,5] b9 (fun q a3 f w=>f 0=zS a q.length b/\f 6=i64 a3/\aD G K (box g 72 d::aG 72 K a b q::L) w) aP ?_
    ·rintro q a3 g6 f g7 hm hr ⟨c0,g8,a4⟩
     unfold aCN at hm
     refine aCk ?_
     rcases aS hm with ⟨c1,hm⟩|⟨c1,hm⟩
     ·refine aCk ?_;refine dE (aCk ?_)
      obtain ⟨j,a5,hm⟩:=aB hm
      have a6:=dJ a4 (i:=1) rfl a5
      refine aF (fI eI rfl a6 rfl rfl rfl a5) (aCk ?_);obtain ⟨g9,a7,hm⟩:=aB hm
      refine aF (fI eI rfl a6 rfl rfl rfl a7) ?_;obtain ⟨c3,a8,hm⟩:=aB hm
      refine pO (i:=1) (t:=0) (ns:=[i64 j.F,i64 j.B,i64 j.To]) (e':=(⟨j.F,j.B,j.To⟩:Edge)) sizeOf72 a4 rfl (zR _) rfl rfl rfl a7 a8 rfl rfl (dM rfl) rfl (fun cs h=>by cases h;rfl) (fun c4 (c5:aD G K (box g 72 d::aG 72 K a b c3::L) c4)=>(aCk ?_));exact ⟨_,(zI hm).symm,cE,(Eq.trans c0 (congrArg (fun n=>zS a n b) (iS a8))),rfl,c5⟩
     ·exact aP
  refine aME ?_;refine aCk ?_
  rcases aS hm with ⟨c6,hm⟩|⟨c6,hm⟩
  ·refine aCk ?_;obtain ⟨a9,b0,hm⟩:=aB hm
   have c7:=dJ m (i:=1) rfl b0
   refine cJ (fun _ m=>fI eI rfl c7 rfl rfl rfl b0) (aCk ?_);refine cJ (fun _ m=>R_eqlG (eq_72 (x:=a9) (y:=e)) rfl rfl) (aCk ?_)
   refine aAf (fun h0 c8=>(aCk ?_));exact ⟨cE,decide ((a9:Edge)=e),hm,rfl,c8⟩
  ·exact aP
 obtain ⟨h1,c9,ho⟩:=aB hm
 refine gI [0,3] c9 (fun r f w=>f 5=i64 r/\aD G K (box g 72 d::aG 72 K a1 c2 c::L) w) aP ?_
 ·rintro r d0 f h2 hm hr ⟨h3,b1⟩
  unfold aBg at hm
  iterate 2 refine aFl ?_
  refine cI [0,3,5] (fun f w=>∃ b2,aCO r b2=some d0/\f 17=zB b2/\aD G K (box g 72 d::aG 72 K a1 c2 c::L) w) aP (aCk ?_)
  rcases aS hm with ⟨d1,hm⟩|⟨d1,hm⟩
  ·refine aCk ?_;obtain ⟨h4,u,hm⟩:=aB hm
   have d2:=dJ b1 (i:=1) rfl u
   refine aF (fI eI rfl d2 rfl rfl rfl u) (aCk ?_);obtain ⟨h5,d3,d4,d5,d6⟩:=aD.lendBp b1 .head
   obtain ⟨h6,d7,d8,d9,e0⟩:=aD.lendSp d5 d3 .head
   obtain ⟨h7,e1,e2⟩:=bE.el (sz:=3) rfl d8 u
   cases e2
   obtain ⟨h8,e3,hm⟩:=aB hm
   refine aED call121 (aHg e3 d9 (d4.mono d7) e1) ?_
   rintro _ h9 ⟨rfl,e4⟩
   have e5:=e0 _ _ e4
   have i0:=d6 _ _ e5
   exact aP
  ·exact aP
theorem qY {a b:Int} {texts:(List aH)} {edges:(List Edge)} {R:bA} (hm:zJ a b texts edges=some R) (hs:aD G K (L) w) (l:bE K a1 c2 texts) (h6:bE K a4 c5 edges):
  Calls prog 31 ([i64 a,i64 b,zS a1 texts.length c2,zS a4 edges.length c5]:List Value).toArray w (eQ fun v w'=>∃ m n o p,v=Value.agg (zCa R m n o p)/\aD G K (aG 9 K m n R.L::aG 72 K o p R.E::L) w'):=by
 refine aFe func31 ?_;unfold zJ at hm
 refine aCk ?_;refine aFm fun q w8 a2=>?_
 refine aCk ?_;obtain ⟨c,a3,hm⟩:=aB hm
 refine aED call71 (aHf a3 a2 l) ?_
 rintro _ c8 ⟨d,e,rfl,c9⟩
 refine aKc ([]:List Edge) fun r d0 d1=>?_;refine aF (jU (vs:=[(0,i64 a),(1,i64 b),(2,zS d c.length e),(3,zS r ([]:List Edge).length 0)]) (cs:=[i64 a,i64 b,zS d c.length e,zS r ([]:List Edge).length 0]) aEJ rfl (by kernel_rfl)) (aFm fun u d2 d3=>?_)
 refine aJz fun d4 d5=>?_;refine aCk ?_
 refine aU [8,9] (fun f w=>∃ g x y,aJe a b c g=some R/\aD G K (aG 72 K x y g::box u 35 [i64 a,i64 b,zS d c.length e,zS x g.length y]::aG 9 K d e c::box q 35 zG::L) w) aP ?_;obtain ⟨d6,a5,ho⟩:=aB hm
 refine cQ [2,3,8,9] a5 (fun h z f w=>∃ i j,f 10=i64 z/\aD G K (box u 35 [i64 a,i64 b,zS d c.length e,zS i h.length j]::aG 72 K i j h::aG 9 K d e c::box q 35 zG::L) w) aP ?_
 ·rintro h z d7 f d8 hm hr ⟨i,j,d9,e0⟩
  unfold zH at hm
  refine aCk ?_
  rcases aS hm with ⟨a6,hm⟩|⟨a6,hm⟩
  ·refine aCk ?_;refine dE (aCk ?_)
   obtain ⟨e1,a7,hm⟩:=aB hm
   refine aCk ?_;obtain ⟨e2,e3,a8⟩:=bE.el (sz:=3) rfl h6 a7
   cases a8
   refine aCk ?_;refine aFm fun e4 e5 e6=>?_
   refine aJz fun e7 a9=>?_;refine aCk ?_
   obtain ⟨e8,b0,b1,b2,b3⟩:=aD.lendBp a9 .head
   obtain ⟨e9,J,f0,f1,b4⟩:=aD.lendBp b2 .head
   refine aKg [(0,0),(1,0),(2,0),(3,0),(4,0),(5,0),(6,0),(7,1),(8,0),(9,2)] fun f2 k=>?_;refine aCk ?_
   refine bB rfl (fun _ ⟨_,k⟩=>bG (t:=1) eG k (b1.mono J) rfl rfl) ?_;obtain ⟨f3,b5,hm⟩:=aB hm
   refine aCk ?_;obtain ⟨f4,f5,b6⟩:=bE.el (sz:=1) rfl l b5
   cases b6
   refine aCk ?_;refine jZ rfl ?_
   obtain ⟨f6,f7,b8,b9,c0⟩:=aD.lendSp k (Hp.le_trans b0 J) zt1
   obtain ⟨f8,c1,hm⟩:=aB hm
   refine aED call72 (aEr c1 b9 b8) ?_
   rintro _ f9 ⟨rfl,c3⟩
   have V:=c0 _ _ c3
   refine aR (aC ⟨⟨_,V⟩,?_⟩)
   refine aCk ?_
   have c4:=b4 _ _ V
   have g0:=b3 _ _ c4
   exact aP
  ·exact aP
theorem aEs {t:bA} {n:Nat} {R:bA} (hm:aDX t=some R) (hs:aD G K (L) w) (h3:fK K a1 n (zC t a4 c5 a7 c8)) (z:bE K a4 c5 t.L) (J:bE K a7 c8 t.E):
  Calls prog 32 ([cX a1 n]:List Value).toArray w (eQ fun v w'=>∃ o p q r,v=Value.agg (zCa R o p q r)/\aD G K (aG 9 K o p R.L::aG 72 K q r R.E::L) w'):=by
 refine aFe func32 ?_;unfold aDX at hm
 refine aCk ?_;refine aFm fun u b4 b5=>?_
 refine aCk ?_;refine aKc ([([116,97,117]:aH)]:List aH) fun b6 b7 b8=>?_
 refine aCk ?_;refine aKc ([]:List Edge) fun b9 c0 c1=>?_
 refine aCk ?_;refine aU [0,2] (fun f w=>∃ a b c d e g,aDG t a b=some R/\f 3=zS c a.length d/\f 4=zS e b.length g/\aD G K (aG 72 K e g b::aG 9 K c d a::box u 35 zG::L) w) ?_ ?_
 ·rintro f c2 ⟨a,b,c,d,e,g,hm,c3,c4,c6⟩
  unfold aDG at hm
  refine aCk ?_;refine aKg [(0,0),(1,0),(2,0),(3,0),(4,0),(5,0),(6,0),(7,0),(8,0),(9,0),(10,1),(11,2)] fun c7 c9=>?_
  exact aP
 obtain ⟨d0,V,ho⟩:=aB hm
 refine vX [0,2] V (fun h i x f w=>∃ j k l m,f 3=zS j h.length k/\f 4=zS l i.length m/\f 5=i64 x/\aD G K (aG 72 K l m i::aG 9 K j k h::box u 35 zG::L) w) aP ?_
 ·rintro h i x d1 f d2 hm hr ⟨j,k,l,m,d3,d4,d5,d6⟩
  unfold vC at hm
  refine aCk ?_
  rcases aS hm with ⟨a0,hm⟩|⟨a0,hm⟩
  ·refine aCk ?_;refine dE (aCk ?_)
   obtain ⟨d7,a2,hm⟩:=aB hm
   refine aCk ?_;obtain ⟨d8,d9,a3⟩:=bE.el (sz:=3) rfl J a2
   cases a3
   refine aCk ?_;refine aFm fun e0 e1 e2=>?_
   refine aJz fun e3 a5=>?_;refine aCk ?_
   obtain ⟨e4,e5,e6,e7,a6⟩:=aD.lendBp a5 .head
   refine aKg [(0,0),(1,0),(2,0),(3,0),(4,0),(5,0),(6,0),(7,0),(8,0),(9,1),(10,1),(11,0)] fun e8 e9=>?_;refine aCk ?_
   obtain ⟨a8,a9,hm⟩:=aB hm
   refine aCk ?_;obtain ⟨f0,f1,b0⟩:=bE.el (sz:=1) rfl z a9
   cases b0
   refine aCk ?_;refine jZ rfl (aKc ([a8]:List aH) fun f2 f3 b1=>?_)
   refine aR (aC ⟨⟨_,b1⟩,?_⟩)
   refine jZ rfl ?_;obtain ⟨f4,f5,hm⟩:=aB hm
   refine aMq fun f6 f7 f8 y=>?_;refine aR (aC ⟨⟨_,y⟩,?_⟩)
   refine aCk ?_;refine qE ?_
   have f9:=a6 _ _ y
   exact aP
  ·exact aP
theorem aHh {a:(List Int)} {R:(Bool × (List Int))} (hm:aFy a=some R) (hs:aD G K (aG 2 K a1 c2 a::L) w):
  Calls prog 16 ([zS a1 a.length c2]:List Value).toArray w (eQ fun v w'=>v=zB R.1/\a.length=R.2.length/\aD G K (aG 2 K a1 c2 R.2::L) w'):=by
 let c:=aG 2 K a1 c2 a
 refine aFe func16 ?_;unfold aFy at hm
 refine aCk ?_;refine aU [0] (fun f w=>∃ e,aDK a e=some R/\f 3=i64 e/\aD G K (c::L) w) ?_ ?_
 ·rintro f w5 ⟨e,hm,e4,d6⟩
  unfold aDK at hm
  refine aCk ?_
  rcases aS hm with ⟨c7,hm⟩|⟨c7,hm⟩
  ·exact aP
  ·refine aCk ?_;refine aU [0,3] (fun f w=>∃ m,aDI a e m=some R/\f 4=i64 m/\aD G K (c::L) w) ?_ ?_
   ·rintro f d7 ⟨m,hm,d8,u⟩
    unfold aDI at hm
    refine aCk ?_;obtain ⟨x,g,hm⟩:=aB hm
    have b:=dJ u (i:=0) rfl g
    refine aF (fI bR rfl b rfl rfl rfl g) (aCk ?_);obtain ⟨y,b1,hm⟩:=aB hm
    refine aF (fI bR rfl b rfl rfl rfl b1) ?_
    iterate 1 refine aFl ?_
    refine aF (fI bR rfl b rfl rfl rfl g) ?_;obtain ⟨z,d,hm⟩:=aB hm
    refine pO (i:=0) (t:=0) (ns:=[i64 y]) (e':=(y:Int)) sizeOf2 u rfl (zR _) rfl rfl rfl g d rfl rfl (dM rfl) rfl (fun cs h=>by cases h;rfl) (fun b2 (b3:aD G K (aG 2 K a1 c2 z::L) b2)=>?_)
    iterate 4 refine aFl ?_
    refine bH (v:=zS a1 z.length c2) (Eq.trans rfl (congrArg (fun n=>zS a1 n c2) (iS d))) (aCk ?_);obtain ⟨d9,J,hm⟩:=aB hm
    refine aF (fI bR rfl b rfl rfl rfl J) ?_;obtain ⟨V,j,hm⟩:=aB hm
    refine pO (i:=0) (t:=0) (ns:=[i64 x]) (e':=(x:Int)) sizeOf2 b3 rfl (zR _) rfl rfl rfl J j rfl rfl (dM rfl) rfl (fun cs h=>by cases h;rfl) (fun b4 (b5:aD G K (aG 2 K a1 c2 V::L) b4)=>?_)
    iterate 11 refine aFl ?_
    refine bH (v:=zS a1 V.length c2) (Eq.trans (Eq.trans rfl (congrArg (fun n=>zS a1 n c2) (iS d))) (congrArg (fun n=>zS a1 n c2) (iS j))) (aCk ?_);refine aU [] (fun f w=>∃ o,aJf o=some R/\a.length=o.length/\aD G K (aG 2 K a1 c2 o::L) w) aP ?_
    obtain ⟨e0,b6,ho⟩:=aB hm
    refine vX [] b6 (fun k a0 a2 f w=>f 0=zS a1 k.length c2/\f 6=i64 a0/\f 7=i64 a2/\a.length=k.length/\aD G K (aG 2 K a1 c2 k::L) w) ?_ ?_
    ·exact ⟨(Eq.trans (Eq.trans rfl (congrArg (fun n=>zS a1 n c2) (iS d))) (congrArg (fun n=>zS a1 n c2) (iS j))),rfl,rfl,((iS d).trans (iS j)),b5⟩
    ·rintro k a0 a2 e1 f e2 hm hr ⟨a3,e3,e5,b7,b8⟩
     unfold aDH at hm
     refine aCk ?_
     rcases aS hm with ⟨b9,hm⟩|⟨b9,hm⟩
     ·refine aCk ?_;refine dE (aCk ?_)
      obtain ⟨a4,p,hm⟩:=aB hm
      refine aF (fI bR rfl b rfl rfl rfl p) (aCk ?_);obtain ⟨a5,c0,hm⟩:=aB hm
      refine aF (fI bR rfl b rfl rfl rfl c0) ?_
      iterate 1 refine aFl ?_
      refine aF (fI bR rfl b rfl rfl rfl p) ?_;obtain ⟨a6,l,hm⟩:=aB hm
      refine pO (i:=0) (t:=0) (ns:=[i64 a5]) (e':=(a5:Int)) sizeOf2 b8 rfl (zR _) rfl rfl rfl p l rfl rfl (dM rfl) rfl (fun cs h=>by cases h;rfl) (fun c1 (c3:aD G K (aG 2 K a1 c2 a6::L) c1)=>?_)
      iterate 4 refine aFl ?_
      refine bH (v:=zS a1 a6.length c2) (Eq.trans a3 (congrArg (fun n=>zS a1 n c2) (iS l))) (aCk ?_);obtain ⟨e6,a7,hm⟩:=aB hm
      refine aF (fI bR rfl b rfl rfl rfl a7) ?_;obtain ⟨c4,q,hm⟩:=aB hm
      refine pO (i:=0) (t:=0) (ns:=[i64 a4]) (e':=(a4:Int)) sizeOf2 c3 rfl (zR _) rfl rfl rfl a7 q rfl rfl (dM rfl) rfl (fun cs h=>by cases h;rfl) (fun c5 (c6:aD G K (aG 2 K a1 c2 c4::L) c5)=>(aCk ?_));exact ⟨_,(zI hm).symm,cE,(Eq.trans (Eq.trans a3 (congrArg (fun n=>zS a1 n c2) (iS l))) (congrArg (fun n=>zS a1 n c2) (iS q))),rfl,rfl,((b7.trans (iS l)).trans (iS q)),c6⟩
     ·exact aP
   obtain ⟨e7,c8,ho⟩:=aB hm
   refine gI [0,3] c8 (fun a8 f w=>f 4=i64 a8/\aD G K (c::L) w) aP ?_
   ·rintro a8 e8 f e9 hm hr ⟨f0,c9⟩
    unfold aDJ at hm
    refine aCk ?_;refine aME ?_
    refine aCk ?_;obtain ⟨f1,d0,hm⟩:=aB hm
    have f2:=dJ c9 (i:=0) rfl d0
    exact aP
 obtain ⟨f3,d1,ho⟩:=aB hm
 refine gI [0] d1 (fun r f w=>f 3=i64 r/\aD G K (c::L) w) aP ?_
 ·rintro r d2 f f4 hm hr ⟨f5,f6⟩
  unfold aDM at hm
  refine aCk ?_;exact cI [0,3] (fun f w=>∃ a9,aDL r a9=some d2/\f 25=zB a9/\aD G K (c::L) w) aP aP
theorem aEt {a:(List UInt8)} {b c:Int} {R:(Int × Int × Int)} (hm:wN a b c=some R) (e:aD G K (box b1 67 [zS a2 a.length c3,i64 b,Value.int .u64 c]::L) w) (g:bE K a2 c3 a):
  Calls prog 33 ([Value.pointer (some ⟨b1,0,none⟩)]:List Value).toArray w (eQ fun v w'=>v=i64 R.1/\aD G K (box b1 67 [zS a2 a.length c3,i64 R.2.1,Value.int .u64 R.2.2]::L) w'):=by
 refine aFe func33 ?_;unfold wN at hm
 iterate 10 refine aFl ?_
 exact tS [0] (fun f w=>∃ d,tW a b c d=some R/\f 3=i64 d/\aD G K (box b1 67 [zS a2 a.length c3,i64 b,Value.int .u64 c]::L) w) aP aP
end Gv
namespace Gv
open Gv.Hp renaming le_refl→zR
open Go.Value renaming slice→zS,bool→zB,pointer→zP
open Gv.Hp renaming le_trans→zL
open Go Go.Proofs Go.Proofs.Tryz
set_option maxRecDepth 20000
set_option maxHeartbeats 40000000
variable {G:yU} {K:Hp} {L:List jN} {w:World} {b1 c3 c6:Nat} {a2 a5:Option Addr}
theorem gT {a:(List UInt8)} {b c n:Int} {R:(Int × Int × Int)} (hm:gP a b c n=some R) (h:aD G K (box b1 67 [zS a2 a.length c3,i64 b,Value.int .u64 c]::L) w) (i:bE K a2 c3 a):
  Calls prog 15 ([zP (some ⟨b1,0,none⟩),i64 n]:List Value).toArray w (eQ fun v w'=>v=i64 R.1/\aD G K (box b1 67 [zS a2 a.length c3,i64 R.2.1,Value.int .u64 R.2.2]::L) w'):=by
 refine aFe func15 ?_;unfold gP at hm
 refine aCk ?_
 rcases aS hm with ⟨j,hm⟩|⟨j,hm⟩
 ·exact aP
 ·refine aCk ?_;obtain ⟨l,k,hm⟩:=aB hm
  refine aED call33 (aEt k h i) ?_
  rintro _ m ⟨rfl,o⟩
  iterate 3 refine aFl ?_
  exact tS [1] (fun f w=>∃ d e g,tX n d e g=some R/\f 5=i64 d/\aD G K (box b1 67 [zS a2 a.length c3,i64 e,Value.int .u64 g]::L) w) aP aP
theorem aDu {a:(List UInt8)} {c d:Int} {b:(List Int)} {R:(Int × Int × Int)} (hm:aBF a c d b=some R) (e:aD G K (box b1 67 [zS a2 a.length c3,i64 c,Value.int .u64 d]::L) w) (g:bE K a2 c3 a) (h:bE K a5 c6 b):
  Calls prog 28 ([zP (some ⟨b1,0,none⟩),zS a5 b.length c6]:List Value).toArray w (eQ fun v w'=>v=i64 R.1/\aD G K (box b1 67 [zS a2 a.length c3,i64 R.2.1,Value.int .u64 R.2.2]::L) w'):=by
 exact aP
theorem xE {a:(List UInt8)} {b c:Int} {R:(Int × Int × Int)} (hm:pZ a b c=some R) (e:aD G K (aG 5 K a2 c3 a::box b1 67 [zS a2 a.length c3,i64 b,Value.int .u64 c]::L) w):
  Calls prog 33 ([zP (some ⟨b1,0,none⟩)]:List Value).toArray w (eQ fun v w'=>v=i64 R.1/\aD G K (aG 5 K a2 c3 a::box b1 67 [zS a2 a.length c3,i64 R.2.1,Value.int .u64 R.2.2]::L) w'):=by
 refine aFe func33 ?_;unfold pZ at hm
 iterate 10 refine aFl ?_
 exact tS [0] (fun f w=>∃ d,aAh a b c d=some R/\f 3=i64 d/\aD G K (aG 5 K a2 c3 a::box b1 67 [zS a2 a.length c3,i64 b,Value.int .u64 c]::L) w) aP aP
theorem iA {a:(List UInt8)} {b c n:Int} {R:(Int × Int × Int)} (hm:lV a b c n=some R) (h:aD G K (aG 5 K a2 c3 a::box b1 67 [zS a2 a.length c3,i64 b,Value.int .u64 c]::L) w):
  Calls prog 15 ([zP (some ⟨b1,0,none⟩),i64 n]:List Value).toArray w (eQ fun v w'=>v=i64 R.1/\aD G K (aG 5 K a2 c3 a::box b1 67 [zS a2 a.length c3,i64 R.2.1,Value.int .u64 R.2.2]::L) w'):=by
 refine aFe func15 ?_;unfold lV at hm
 refine aCk ?_
 rcases aS hm with ⟨i,hm⟩|⟨i,hm⟩
 ·exact aP
 ·refine aCk ?_;obtain ⟨k,j,hm⟩:=aB hm
  refine aED call33 (xE j h) ?_
  rintro _ l ⟨rfl,m⟩
  iterate 3 refine aFl ?_
  exact tS [1] (fun f w=>∃ d e g,aAi n d e g=some R/\f 5=i64 d/\aD G K (aG 5 K a2 c3 a::box b1 67 [zS a2 a.length c3,i64 e,Value.int .u64 g]::L) w) aP aP
theorem aGB {a:(List UInt8)} {b c n:Int} {R:(Int × (List UInt8) × Int × Int)} (hm:aFz a b c n=some R) (j:aD G K (aG 5 K a2 c3 a::box b1 67 [zS a2 a.length c3,i64 b,Value.int .u64 c]::L) w):
  Calls prog 15 ([zP (some ⟨b1,0,none⟩),i64 n]:List Value).toArray w (eQ fun v w'=>∃ d e,v=i64 R.1/\aD G K (aG 5 K d e R.2.1::box b1 67 [zS d R.2.1.length e,i64 R.2.2.1,Value.int .u64 R.2.2.2]::L) w'):=by
 refine aFe func15 ?_;unfold aFz at hm
 refine aCk ?_
 rcases aS hm with ⟨k,hm⟩|⟨k,hm⟩
 ·exact aP
 ·refine aCk ?_;obtain ⟨m,l,hm⟩:=aB hm
  refine aED call33 (xE l j) ?_
  rintro _ o ⟨rfl,p⟩
  iterate 3 refine aFl ?_
  exact tS [1] (fun f w=>∃ g h i,aAj a n g h i=some R/\f 5=i64 g/\aD G K (aG 5 K a2 c3 a::box b1 67 [zS a2 a.length c3,i64 h,Value.int .u64 i]::L) w) aP aP
theorem aIw {a:(List UInt8)} {y z:Int} {R:(bA × (List UInt8) × Int × Int)} (hm:aHZ a y z=some R) (hs:aD G K (aG 5 K a2 c3 a::box b1 67 [zS a2 a.length c3,i64 y,Value.int .u64 z]::L) w):
  Calls prog 14 ([zP (some ⟨b1,0,none⟩)]:List Value).toArray w (eQ fun v w'=>∃ b7 b8 b9 c0 c1 c2,v=Value.agg (zCa R.1 b7 b8 b9 c0)/\aD G K (aG 9 K b7 b8 R.1.L::aG 72 K b9 c0 R.1.E::aG 5 K c1 c2 R.2.1::box b1 67 [zS c1 R.2.1.length c2,i64 R.2.2.1,Value.int .u64 R.2.2.2]::L) w'):=by
 let c:=zG
 let e:=aG 5 K a2 c3 a
 refine aFe func14 ?_;unfold aHZ at hm
 refine aCk ?_;refine aFm fun g w5 l2=>?_
 refine aCk ?_;refine aKc ([([116,97,117]:aH),([97]:aH),([103,101,116,40,48,41]:aH),([103,101,116,40,49,41]:aH),([112,117,116,40,48,41]:aH),([112,117,116,40,49,41]:aH)]:List aH) fun b w8 l3=>?_
 refine aCk ?_
 have d8:aD G K (e::box b1 67 [zS a2 a.length c3,i64 y,Value.int .u64 z]::aG 9 K b 6 ([([116,97,117]:aH),([97]:aH),([103,101,116,40,48,41]:aH),([103,101,116,40,49,41]:aH),([112,117,116,40,48,41]:aH),([112,117,116,40,49,41]:aH)]:List aH)::box g 35 c::L) w8:=aKa
 obtain ⟨d,d9,hm⟩:=aB hm
 refine aED call15 (iA d9 d8) ?_
 rintro _ l4 ⟨rfl,l5⟩
 iterate 2 refine aFl ?_
 refine aF (jU (vs:=[(0,i64 (wr (1+d.1))),(2,zS b ([([116,97,117]:aH),([97]:aH),([103,101,116,40,48,41]:aH),([103,101,116,40,49,41]:aH),([112,117,116,40,48,41]:aH),([112,117,116,40,49,41]:aH)]:List aH).length 6)]) (cs:=[i64 (wr (1+d.1)),i64 0,zS b ([([116,97,117]:aH),([97]:aH),([103,101,116,40,48,41]:aH),([103,101,116,40,49,41]:aH),([112,117,116,40,48,41]:aH),([112,117,116,40,49,41]:aH)]:List aH).length 6,zS none 0 0]) aEJ rfl (by kernel_rfl)) (aFm fun J l6 l7=>?_)
 refine aJz fun l8 l9=>?_;refine aCk ?_
 refine aKc ([]:List Edge) fun e0 e1 m0=>?_;refine aCk ?_
 have e2:aD G K (e::box b1 67 [zS a2 a.length c3,i64 d.2.1,Value.int .u64 d.2.2]::aG 72 K e0 0 ([]:List Edge)::box J 35 [i64 (wr (1+d.1)),i64 0,zS b ([([116,97,117]:aH),([97]:aH),([103,101,116,40,48,41]:aH),([103,101,116,40,49,41]:aH),([112,117,116,40,48,41]:aH),([112,117,116,40,49,41]:aH)]:List aH).length 6,zS none 0 0]::aG 9 K b 6 ([([116,97,117]:aH),([97]:aH),([103,101,116,40,48,41]:aH),([103,101,116,40,49,41]:aH),([112,117,116,40,48,41]:aH),([112,117,116,40,49,41]:aH)]:List aH)::box g 35 c::L) e1:=aKa
 obtain ⟨m1,e3,hm⟩:=aB hm
 refine aED call15 (iA e3 e2) ?_
 rintro _ m2 ⟨rfl,m3⟩
 refine aCk ?_;refine aU [0,2,3,4] (fun f w=>∃ l m h n o,aCp a d l m h=some R/\f 5=zS n h.length o/\aD G K (aG 72 K n o h::e::box b1 67 [zS a2 a.length c3,i64 l,Value.int .u64 m]::box J 35 [i64 (wr (1+d.1)),i64 0,zS b ([([116,97,117]:aH),([97]:aH),([103,101,116,40,48,41]:aH),([103,101,116,40,49,41]:aH),([112,117,116,40,48,41]:aH),([112,117,116,40,49,41]:aH)]:List aH).length 6,zS none 0 0]::aG 9 K b 6 ([([116,97,117]:aH),([97]:aH),([103,101,116,40,48,41]:aH),([103,101,116,40,49,41]:aH),([112,117,116,40,48,41]:aH),([112,117,116,40,49,41]:aH)]:List aH)::box g 35 c::L) w) ?_ ?_
 ·rintro f m4 ⟨l,m,h,n,o,hm,m5,e4⟩
  unfold aCp at hm
  refine aCk ?_;refine cI [2] (fun f w=>∃ r u p q V a0 x a1 a3 a4 a5,aCo a r u p q V a0=some R/\f 7=zP (some ⟨x,0,none⟩)/\aD G K (aG 72 K a4 a5 q::aG 9 K a1 a3 p::box x 35 [i64 r,i64 u,zS a1 p.length a3,zS a4 q.length a5]::e::box b1 67 [zS a2 a.length c3,i64 V,Value.int .u64 a0]::box g 35 c::L) w) ?_ ?_
  ·rintro f m6 ⟨r,u,p,q,V,a0,x,a1,a3,a4,a5,hm,e5,e6⟩
   unfold aCo at hm
   refine aCk ?_;obtain ⟨m7,e7,e8,e9,m8⟩:=aD.lendSp e6 (Hp.le_refl _) zt1
   obtain ⟨m9,f0,f1,f2,n0⟩:=aD.lendSp e9 e7 .head
   obtain ⟨n1,c4,f3,f4,n2⟩:=aD.lendBp f2 .head
   obtain ⟨n3,f5,hm⟩:=aB hm
   exact aQ (vs:=[cX (some ⟨x,0,none⟩) 0]) call32 (lst1 e5) (aEs (t:=⟨r,u,p,q⟩) f5 f4 f3 (e8.mono (zL f0 c4)) (f1.mono c4)) aP
  obtain ⟨a6,k,n4,f6,a8⟩:=aD.lendBp e4 zt3
  refine pY (C:=fun w'=>∃ L',aD G a6 L' w') [10] Tryz_mixed (by kernel_rfl) (fun f7 f8=>?_)
  have n5:=aD.mono f6 f8
  refine aGy 0 ?_;refine aGy 1 ?_
  refine aGy 2 ?_;refine aGy 3 ?_
  refine aGy 4 ?_;refine aGy 6 ?_
  refine aGy 7 ?_;refine oT (i:=5) (j:=9) (by kernel_rfl) rfl rfl ?_ ?_
  ·have f9:aD G a6 (e::box b1 67 [zS a2 a.length c3,i64 l,Value.int .u64 m]::aG 72 K n o h::aG 9 K b 6 ([([116,97,117]:aH),([97]:aH),([103,101,116,40,48,41]:aH),([103,101,116,40,49,41]:aH),([112,117,116,40,48,41]:aH),([112,117,116,40,49,41]:aH)]:List aH)::box g 35 c::L) f7:=aKa
   obtain ⟨n6,g0,hm⟩:=aB hm
   refine aED call15 (iA g0 f9) ?_
   rintro _ n7 ⟨rfl,c5⟩
   refine aR (aC ⟨fun _=>⟨_,c5⟩,?_⟩)
   refine oT (i:=8) (j:=9) (by kernel_rfl) rfl rfl ?_ ?_
   ·obtain ⟨n8,g1,g2,g3,g4⟩:=aD.lendSp c5 k zt3
    obtain ⟨n9,g5,g6,g7,g8⟩:=aD.lendSp g3 (zL k g1) zt2
    obtain ⟨o0,g9,hm⟩:=aB hm
    refine aED call31 (qY g9 g7 (g2.mono g5) g6) ?_
    rintro _ o1 ⟨o2,o3,o4,o5,rfl,h0⟩
    have h1:=g8 _ _ h0
    have h2:=g4 _ _ h1
    refine aR (aC ⟨fun _=>⟨_,h2⟩,?_⟩)
    refine bI (i:=9) (by kernel_rfl) rfl (aFm fun o6 o7 c6=>?_);refine aR (aC ⟨fun _=>⟨_,c6⟩,?_⟩)
    refine bI (i:=10) (by kernel_rfl) rfl ?_
    have o8:=a8 _ _ c6
    refine aJz fun o9 p0=>?_;refine aR (aC ⟨aCe rfl,?_⟩)
    exact iC (by kernel_rfl) aP
   ·refine aFm fun p1 p2 c7=>?_;refine aR (aC ⟨fun _=>⟨_,c7⟩,?_⟩)
    refine bI (i:=8) (by kernel_rfl) rfl ?_;obtain ⟨p3,h3,h4,h5,h6⟩:=aD.lendSp c7 k zt4
    obtain ⟨p4,h7,h8,h9,i0⟩:=aD.lendSp h5 (zL k h3) zt3
    obtain ⟨p5,i1,hm⟩:=aB hm
    refine aED call31 (qY i1 h9 (h4.mono h7) h8) ?_
    rintro _ p6 ⟨p7,p8,p9,q0,rfl,i2⟩
    have i3:=i0 _ _ i2
    have c8:=h6 _ _ i3
    refine aR (aC ⟨fun _=>⟨_,c8⟩,?_⟩)
    refine bI (i:=10) (by kernel_rfl) rfl ?_
    have q1:=a8 _ _ c8
    refine aJz fun q2 q3=>?_;refine aR (aC ⟨aCe rfl,?_⟩)
    exact iC (by kernel_rfl) aP
  ·refine aFm fun i4 i5 i6=>?_;refine aR (aC ⟨fun _=>⟨_,i6⟩,?_⟩)
   refine bI (i:=5) (by kernel_rfl) rfl ?_
   have i7:aD G a6 (e::box b1 67 [zS a2 a.length c3,i64 l,Value.int .u64 m]::box i4 35 c::aG 72 K n o h::aG 9 K b 6 ([([116,97,117]:aH),([97]:aH),([103,101,116,40,48,41]:aH),([103,101,116,40,49,41]:aH),([112,117,116,40,48,41]:aH),([112,117,116,40,49,41]:aH)]:List aH)::box g 35 c::L) i5:=aKa
   obtain ⟨q4,i8,hm⟩:=aB hm
   refine aED call15 (iA i8 i7) ?_
   rintro _ q5 ⟨rfl,c9⟩
   refine aR (aC ⟨fun _=>⟨_,c9⟩,?_⟩)
   refine bI (i:=8) (by kernel_rfl) rfl ?_;obtain ⟨q6,i9,j0,j1,j2⟩:=aD.lendSp c9 k zt4
   obtain ⟨q7,j3,j4,j5,j6⟩:=aD.lendSp j1 (zL k i9) zt3
   obtain ⟨q8,j7,hm⟩:=aB hm
   refine aED call31 (qY j7 j5 (j0.mono j3) j4) ?_
   rintro _ q9 ⟨r0,r1,r2,r3,rfl,j8⟩
   have j9:=j6 _ _ j8
   have d0:=j2 _ _ j9
   refine aR (aC ⟨fun _=>⟨_,d0⟩,?_⟩)
   refine bI (i:=10) (by kernel_rfl) rfl ?_
   have r4:=a8 _ _ d0
   refine aJz fun r5 r6=>?_;refine aR (aC ⟨aCe rfl,?_⟩)
   exact iC (by kernel_rfl) aP
 obtain ⟨r7,k0,ho⟩:=aB hm
 refine rZ [0,2,3,4] k0 (fun d1 d2 a9 d3 f w=>∃ b0 b2,f 5=zS b0 a9.length b2/\f 6=i64 d3/\aD G K (e::box b1 67 [zS a2 a.length c3,i64 d1,Value.int .u64 d2]::aG 72 K b0 b2 a9::box J 35 [i64 (wr (1+d.1)),i64 0,zS b ([([116,97,117]:aH),([97]:aH),([103,101,116,40,48,41]:aH),([103,101,116,40,49,41]:aH),([112,117,116,40,48,41]:aH),([112,117,116,40,49,41]:aH)]:List aH).length 6,zS none 0 0]::aG 9 K b 6 ([([116,97,117]:aH),([97]:aH),([103,101,116,40,48,41]:aH),([103,101,116,40,49,41]:aH),([112,117,116,40,48,41]:aH),([112,117,116,40,49,41]:aH)]:List aH)::box g 35 c::L) w) aP ?_
 ·rintro d1 d2 a9 d3 r8 f r9 hm hr ⟨b0,b2,s0,s1,k1⟩
  unfold aFA at hm
  refine aCk ?_
  rcases aS hm with ⟨k2,hm⟩|⟨k2,hm⟩
  ·refine aCk ?_;refine dE ?_
   obtain ⟨s2,s3,s4,s5,k3⟩:=aD.lendBp k1 zt3
   refine aKg [(0,0),(1,0),(2,0),(3,0),(5,0),(7,0),(8,0),(9,0),(4,1),(6,1),(10,1),(11,0),(12,1),(13,1),(14,0)] fun s6 k4=>?_;refine aCk ?_
   refine jZ rfl ?_;obtain ⟨b3,k5,hm⟩:=aB hm
   refine aED call15 (iA k5 k4) ?_
   rintro _ s7 ⟨rfl,d4⟩
   refine aR (aC ⟨⟨_,d4⟩,?_⟩)
   refine jZ rfl ?_;obtain ⟨b5,k6,hm⟩:=aB hm
   refine aED call15 (iA k6 d4) ?_
   rintro _ s8 ⟨rfl,d5⟩
   refine aR (aC ⟨⟨_,d5⟩,?_⟩)
   refine jZ rfl ?_;obtain ⟨b6,k7,hm⟩:=aB hm
   refine aED call15 (iA k7 d5) ?_
   rintro _ s9 ⟨rfl,k8⟩
   refine aR (aC ⟨⟨_,k8⟩,?_⟩)
   refine bB rfl (fun _ _=>jU (vs:=[(0,i64 b3.1),(1,i64 b5.1),(2,i64 b6.1)]) (cs:=[i64 b3.1,i64 b5.1,i64 b6.1]) aLz rfl (by kernel_rfl)) (jZ rfl (aKc ([⟨b3.1,b5.1,b6.1⟩]:List Edge) fun t0 t1 k9=>?_));refine aR (aC ⟨⟨_,k9⟩,?_⟩)
   refine jZ rfl ?_;obtain ⟨t2,t3,hm⟩:=aB hm
   refine aMq fun t4 t5 t6 d6=>?_;refine aR (aC ⟨⟨_,d6⟩,?_⟩)
   refine aCk ?_;refine qE ?_
   have t7:=k3 _ _ d6
   exact aP
  ·exact aP
theorem xF {a:(List UInt8)} {y z:Int} {R:(bA × Int × Int)} (hm:qA a y z=some R) (hs:aD G K (box b1 67 [zS a2 a.length c3,i64 y,Value.int .u64 z]::L) w) (g:bE K a2 c3 a):
  Calls prog 14 ([zP (some ⟨b1,0,none⟩)]:List Value).toArray w (eQ fun v w'=>∃ b7 b8 b9 c0,v=Value.agg (zCa R.1 b7 b8 b9 c0)/\aD G K (aG 9 K b7 b8 R.1.L::aG 72 K b9 c0 R.1.E::box b1 67 [zS a2 a.length c3,i64 R.2.1,Value.int .u64 R.2.2]::L) w'):=by
 let c:=zG
 refine aFe func14 ?_;unfold qA at hm
 refine aCk ?_;refine aFm fun h w6 l1=>?_
 refine aCk ?_;refine aKc ([([116,97,117]:aH),([97]:aH),([103,101,116,40,48,41]:aH),([103,101,116,40,49,41]:aH),([112,117,116,40,48,41]:aH),([112,117,116,40,49,41]:aH)]:List aH) fun b w9 l2=>?_
 refine aCk ?_
 have d6:aD G K (box b1 67 [zS a2 a.length c3,i64 y,Value.int .u64 z]::aG 9 K b 6 ([([116,97,117]:aH),([97]:aH),([103,101,116,40,48,41]:aH),([103,101,116,40,49,41]:aH),([112,117,116,40,48,41]:aH),([112,117,116,40,49,41]:aH)]:List aH)::box h 35 c::L) w9:=aKa
 obtain ⟨d,d7,hm⟩:=aB hm
 refine aED call15 (gT d7 d6 g) ?_
 rintro _ l3 ⟨rfl,l4⟩
 iterate 2 refine aFl ?_
 refine aF (jU (vs:=[(0,i64 (wr (1+d.1))),(2,zS b ([([116,97,117]:aH),([97]:aH),([103,101,116,40,48,41]:aH),([103,101,116,40,49,41]:aH),([112,117,116,40,48,41]:aH),([112,117,116,40,49,41]:aH)]:List aH).length 6)]) (cs:=[i64 (wr (1+d.1)),i64 0,zS b ([([116,97,117]:aH),([97]:aH),([103,101,116,40,48,41]:aH),([103,101,116,40,49,41]:aH),([112,117,116,40,48,41]:aH),([112,117,116,40,49,41]:aH)]:List aH).length 6,zS none 0 0]) aEJ rfl (by kernel_rfl)) (aFm fun J l5 l6=>?_)
 refine aJz fun l7 l8=>?_;refine aCk ?_
 refine aKc ([]:List Edge) fun d8 d9 l9=>?_;refine aCk ?_
 have e0:aD G K (box b1 67 [zS a2 a.length c3,i64 d.2.1,Value.int .u64 d.2.2]::aG 72 K d8 0 ([]:List Edge)::box J 35 [i64 (wr (1+d.1)),i64 0,zS b ([([116,97,117]:aH),([97]:aH),([103,101,116,40,48,41]:aH),([103,101,116,40,49,41]:aH),([112,117,116,40,48,41]:aH),([112,117,116,40,49,41]:aH)]:List aH).length 6,zS none 0 0]::aG 9 K b 6 ([([116,97,117]:aH),([97]:aH),([103,101,116,40,48,41]:aH),([103,101,116,40,49,41]:aH),([112,117,116,40,48,41]:aH),([112,117,116,40,49,41]:aH)]:List aH)::box h 35 c::L) d9:=aKa
 obtain ⟨m0,e1,hm⟩:=aB hm
 refine aED call15 (gT e1 e0 g) ?_
 rintro _ m1 ⟨rfl,m2⟩
 refine aCk ?_;refine aU [0,2,3,4] (fun f w=>∃ l m k n o,tL a d l m k=some R/\f 5=zS n k.length o/\aD G K (aG 72 K n o k::box b1 67 [zS a2 a.length c3,i64 l,Value.int .u64 m]::box J 35 [i64 (wr (1+d.1)),i64 0,zS b ([([116,97,117]:aH),([97]:aH),([103,101,116,40,48,41]:aH),([103,101,116,40,49,41]:aH),([112,117,116,40,48,41]:aH),([112,117,116,40,49,41]:aH)]:List aH).length 6,zS none 0 0]::aG 9 K b 6 ([([116,97,117]:aH),([97]:aH),([103,101,116,40,48,41]:aH),([103,101,116,40,49,41]:aH),([112,117,116,40,48,41]:aH),([112,117,116,40,49,41]:aH)]:List aH)::box h 35 c::L) w) ?_ ?_
 ·rintro f m3 ⟨l,m,k,n,o,hm,m4,e2⟩
  unfold tL at hm
  refine aCk ?_;refine cI [2] (fun f w=>∃ r u p q V a0 x a1 a3 a4 c45,tK r u p q V a0=some R/\f 7=zP (some ⟨x,0,none⟩)/\aD G K (aG 72 K a4 c45 q::aG 9 K a1 a3 p::box x 35 [i64 r,i64 u,zS a1 p.length a3,zS a4 q.length c45]::box b1 67 [zS a2 a.length c3,i64 V,Value.int .u64 a0]::box h 35 c::L) w) ?_ ?_
  ·rintro f m5 ⟨r,u,p,q,V,a0,x,a1,a3,a4,c45,hm,e3,e4⟩
   unfold tK at hm
   refine aCk ?_;obtain ⟨m6,e5,e6,e7,m7⟩:=aD.lendSp e4 (Hp.le_refl _) zt1
   obtain ⟨m8,e8,e9,f0,m9⟩:=aD.lendSp e7 e5 .head
   obtain ⟨n0,c1,f1,f2,n1⟩:=aD.lendBp f0 .head
   obtain ⟨n2,f3,hm⟩:=aB hm
   exact aQ (vs:=[cX (some ⟨x,0,none⟩) 0]) call32 (lst1 e3) (aEs (t:=⟨r,u,p,q⟩) f3 f2 f1 (e6.mono (zL e8 c1)) (e9.mono c1)) aP
  obtain ⟨a5,e,n3,f4,a6⟩:=aD.lendBp e2 zt2
  refine pY (C:=fun w'=>∃ L',aD G a5 L' w') [10] Tryz_mixed (by kernel_rfl) (fun f5 f6=>?_)
  have n4:=aD.mono f4 f6
  refine aGy 0 ?_;refine aGy 1 ?_
  refine aGy 2 ?_;refine aGy 3 ?_
  refine aGy 4 ?_;refine aGy 6 ?_
  refine aGy 7 ?_;refine oT (i:=5) (j:=9) (by kernel_rfl) rfl rfl ?_ ?_
  ·have f7:aD G a5 (box b1 67 [zS a2 a.length c3,i64 l,Value.int .u64 m]::aG 72 K n o k::aG 9 K b 6 ([([116,97,117]:aH),([97]:aH),([103,101,116,40,48,41]:aH),([103,101,116,40,49,41]:aH),([112,117,116,40,48,41]:aH),([112,117,116,40,49,41]:aH)]:List aH)::box h 35 c::L) f5:=aKa
   obtain ⟨n5,f8,hm⟩:=aB hm
   refine aED call15 (gT f8 f7 (g.mono e)) ?_
   rintro _ n6 ⟨rfl,c2⟩
   refine aR (aC ⟨fun _=>⟨_,c2⟩,?_⟩)
   refine oT (i:=8) (j:=9) (by kernel_rfl) rfl rfl ?_ ?_
   ·obtain ⟨n7,f9,g0,g1,g2⟩:=aD.lendSp c2 e zt2
    obtain ⟨n8,g3,g4,g5,g6⟩:=aD.lendSp g1 (zL e f9) zt1
    obtain ⟨n9,g7,hm⟩:=aB hm
    refine aED call31 (qY g7 g5 (g0.mono g3) g4) ?_
    rintro _ o0 ⟨o1,o2,o3,o4,rfl,g8⟩
    have g9:=g6 _ _ g8
    have h0:=g2 _ _ g9
    refine aR (aC ⟨fun _=>⟨_,h0⟩,?_⟩)
    refine bI (i:=9) (by kernel_rfl) rfl (aFm fun o5 o6 c4=>?_);refine aR (aC ⟨fun _=>⟨_,c4⟩,?_⟩)
    refine bI (i:=10) (by kernel_rfl) rfl ?_
    have o7:=a6 _ _ c4
    refine aJz fun o8 o9=>?_;refine aR (aC ⟨aCe rfl,?_⟩)
    exact iC (by kernel_rfl) aP
   ·refine aFm fun p0 p1 c5=>?_;refine aR (aC ⟨fun _=>⟨_,c5⟩,?_⟩)
    refine bI (i:=8) (by kernel_rfl) rfl ?_;obtain ⟨p2,h1,h2,h3,h5⟩:=aD.lendSp c5 e zt3
    obtain ⟨p3,h6,h7,h8,h9⟩:=aD.lendSp h3 (zL e h1) zt2
    obtain ⟨p4,i0,hm⟩:=aB hm
    refine aED call31 (qY i0 h8 (h2.mono h6) h7) ?_
    rintro _ p5 ⟨p6,p7,p8,p9,rfl,i1⟩
    have i2:=h9 _ _ i1
    have c6:=h5 _ _ i2
    refine aR (aC ⟨fun _=>⟨_,c6⟩,?_⟩)
    refine bI (i:=10) (by kernel_rfl) rfl ?_
    have q0:=a6 _ _ c6
    refine aJz fun q1 q2=>?_;refine aR (aC ⟨aCe rfl,?_⟩)
    exact iC (by kernel_rfl) aP
  ·refine aFm fun i3 i4 i5=>?_;refine aR (aC ⟨fun _=>⟨_,i5⟩,?_⟩)
   refine bI (i:=5) (by kernel_rfl) rfl ?_
   have i6:aD G a5 (box b1 67 [zS a2 a.length c3,i64 l,Value.int .u64 m]::box i3 35 c::aG 72 K n o k::aG 9 K b 6 ([([116,97,117]:aH),([97]:aH),([103,101,116,40,48,41]:aH),([103,101,116,40,49,41]:aH),([112,117,116,40,48,41]:aH),([112,117,116,40,49,41]:aH)]:List aH)::box h 35 c::L) i4:=aKa
   obtain ⟨q3,i7,hm⟩:=aB hm
   refine aED call15 (gT i7 i6 (g.mono e)) ?_
   rintro _ q4 ⟨rfl,c7⟩
   refine aR (aC ⟨fun _=>⟨_,c7⟩,?_⟩)
   refine bI (i:=8) (by kernel_rfl) rfl ?_;obtain ⟨q5,i8,i9,j0,j1⟩:=aD.lendSp c7 e zt3
   obtain ⟨q6,j2,j3,j4,j5⟩:=aD.lendSp j0 (zL e i8) zt2
   obtain ⟨q7,j6,hm⟩:=aB hm
   refine aED call31 (qY j6 j4 (i9.mono j2) j3) ?_
   rintro _ q8 ⟨q9,r0,r1,r2,rfl,j7⟩
   have j8:=j5 _ _ j7
   have c8:=j1 _ _ j8
   refine aR (aC ⟨fun _=>⟨_,c8⟩,?_⟩)
   refine bI (i:=10) (by kernel_rfl) rfl ?_
   have r3:=a6 _ _ c8
   refine aJz fun r4 r5=>?_;refine aR (aC ⟨aCe rfl,?_⟩)
   exact iC (by kernel_rfl) aP
 obtain ⟨r6,j9,ho⟩:=aB hm
 refine rZ [0,2,3,4] j9 (fun c9 d0 a7 d1 f w=>∃ a9 b0,f 5=zS a9 a7.length b0/\f 6=i64 d1/\aD G K (box b1 67 [zS a2 a.length c3,i64 c9,Value.int .u64 d0]::aG 72 K a9 b0 a7::box J 35 [i64 (wr (1+d.1)),i64 0,zS b ([([116,97,117]:aH),([97]:aH),([103,101,116,40,48,41]:aH),([103,101,116,40,49,41]:aH),([112,117,116,40,48,41]:aH),([112,117,116,40,49,41]:aH)]:List aH).length 6,zS none 0 0]::aG 9 K b 6 ([([116,97,117]:aH),([97]:aH),([103,101,116,40,48,41]:aH),([103,101,116,40,49,41]:aH),([112,117,116,40,48,41]:aH),([112,117,116,40,49,41]:aH)]:List aH)::box h 35 c::L) w) aP ?_
 ·rintro c9 d0 a7 d1 r7 f r8 hm hr ⟨a9,b0,r9,s0,k0⟩
  unfold pJ at hm
  refine aCk ?_
  rcases aS hm with ⟨k1,hm⟩|⟨k1,hm⟩
  ·refine aCk ?_;refine dE ?_
   obtain ⟨s1,b2,s2,s3,k2⟩:=aD.lendBp k0 zt2
   refine aKg [(0,0),(1,0),(2,0),(3,0),(5,0),(7,0),(8,0),(9,0),(4,1),(6,1),(10,1),(11,0),(12,1),(13,1),(14,0)] fun s4 k3=>?_;refine aCk ?_
   refine jZ rfl ?_;obtain ⟨b3,k4,hm⟩:=aB hm
   refine aED call15 (gT k4 k3 (g.mono b2)) ?_
   rintro _ s5 ⟨rfl,d2⟩
   refine aR (aC ⟨⟨_,d2⟩,?_⟩)
   refine jZ rfl ?_;obtain ⟨b4,k5,hm⟩:=aB hm
   refine aED call15 (gT k5 d2 (g.mono b2)) ?_
   rintro _ s6 ⟨rfl,d3⟩
   refine aR (aC ⟨⟨_,d3⟩,?_⟩)
   refine jZ rfl ?_;obtain ⟨b6,k6,hm⟩:=aB hm
   refine aED call15 (gT k6 d3 (g.mono b2)) ?_
   rintro _ s7 ⟨rfl,k7⟩
   refine aR (aC ⟨⟨_,k7⟩,?_⟩)
   refine bB rfl (fun _ _=>jU (vs:=[(0,i64 b3.1),(1,i64 b4.1),(2,i64 b6.1)]) (cs:=[i64 b3.1,i64 b4.1,i64 b6.1]) aLz rfl (by kernel_rfl)) (jZ rfl (aKc ([⟨b3.1,b4.1,b6.1⟩]:List Edge) fun s8 s9 k8=>?_));refine aR (aC ⟨⟨_,k8⟩,?_⟩)
   refine jZ rfl ?_;obtain ⟨t0,t1,hm⟩:=aB hm
   refine aMq fun t2 t3 t4 d4=>?_;refine aR (aC ⟨⟨_,d4⟩,?_⟩)
   refine aCk ?_;refine qE ?_
   have t5:=k2 _ _ d4
   exact aP
  ·exact aP
theorem aBT {a:(List UInt8)} {b c n:Int} {R:(Bool × Int × Int)} (hm:aBG a b c n=some R) (d:aD G K (box b1 67 [zS a2 a.length c3,i64 b,Value.int .u64 c]::L) w) (e:bE K a2 c3 a):
  Calls prog 29 ([zP (some ⟨b1,0,none⟩),i64 n]:List Value).toArray w (eQ fun v w'=>v=zB R.1/\aD G K (box b1 67 [zS a2 a.length c3,i64 R.2.1,Value.int .u64 R.2.2]::L) w'):=by
 exact aP
theorem aDv {a:(List UInt8)} {u x:Int} {y:Bool} {R:((List aH) × Int × Int)} (hm:tY a u x y=some R) (hs:aD G K (box b1 67 [zS a2 a.length c3,i64 u,Value.int .u64 x]::L) w) (z:bE K a2 c3 a):
  Calls prog 30 ([zP (some ⟨b1,0,none⟩),zB y]:List Value).toArray w (eQ fun v w'=>∃ J V,v=zS J R.1.length V/\aD G K (aG 9 K J V R.1::box b1 67 [zS a2 a.length c3,i64 R.2.1,Value.int .u64 R.2.2]::L) w'):=by
 refine aFe func30 ?_;unfold tY at hm
 refine aCk ?_;refine aKc ([([97]:aH),([98]:aH),([103,101,116]:aH),([109,111,118,101]:aH),([112,97,105,114]:aH),([112,117,116]:aH)]:List aH) fun h w6 c5=>?_
 refine aCk ?_;refine aKc ([]:List aH) fun a8 w9 c8=>?_
 refine aCk ?_;refine aU [] (fun f w=>∃ p a0 a1 a3 a4,aER p a0 a1=some R/\f 6=zS a3 p.length a4/\aD G K (aG 9 K a3 a4 p::box b1 67 [zS a2 a.length c3,i64 a0,Value.int .u64 a1]::L) w) aP ?_
 obtain ⟨c9,b4,ho⟩:=aB hm
 refine rZ [0,1,5] b4 (fun j k b l f w=>∃ d e,f 6=zS d b.length e/\f 7=i64 l/\aD G K (aG 9 K d e b::aG 9 K h 6 ([([97]:aH),([98]:aH),([103,101,116]:aH),([109,111,118,101]:aH),([112,97,105,114]:aH),([112,117,116]:aH)]:List aH)::box b1 67 [zS a2 a.length c3,i64 j,Value.int .u64 k]::L) w) aP ?_
 ·rintro j k b l a6 f a7 hm hr ⟨d,e,d0,d1,d2⟩
  unfold lC at hm
  refine aCk ?_
  rcases aS hm with ⟨b5,hm⟩|⟨b5,hm⟩
  ·refine aCk ?_;refine aU [0,1,5,7] (fun f w=>∃ q r m n o,sD l q r m=some a6/\f 6=zS n m.length o/\aD G K (aG 9 K n o m::aG 9 K h 6 ([([97]:aH),([98]:aH),([103,101,116]:aH),([109,111,118,101]:aH),([112,97,105,114]:aH),([112,117,116]:aH)]:List aH)::box b1 67 [zS a2 a.length c3,i64 q,Value.int .u64 r]::L) w) ?_ ?_
   ·rintro f d3 ⟨q,r,m,n,o,hm,b6,b7⟩
    unfold sD at hm
    refine aCk ?_;exact ⟨_,(Option.some.inj hm).symm,cE,n,o,b6,rfl,b7⟩
   iterate 1 refine aFl ?_
   refine cI [0,1,5,6,7] (fun f w=>∃ a9 b0 b2,oV b l a9 b0 b2=some a6/\f 29=zB b2/\aD G K (aG 9 K d e b::aG 9 K h 6 ([([97]:aH),([98]:aH),([103,101,116]:aH),([109,111,118,101]:aH),([112,97,105,114]:aH),([112,117,116]:aH)]:List aH)::box b1 67 [zS a2 a.length c3,i64 a9,Value.int .u64 b0]::L) w) aP (aCk ?_)
   rcases aS hm with ⟨c,hm⟩|⟨c,hm⟩
   ·refine aCk ?_
    have b8:aD G K (box b1 67 [zS a2 a.length c3,i64 j,Value.int .u64 k]::aG 9 K d e b::aG 9 K h 6 ([([97]:aH),([98]:aH),([103,101,116]:aH),([109,111,118,101]:aH),([112,97,105,114]:aH),([112,117,116]:aH)]:List aH)::L) a7:=aKa
    obtain ⟨b3,b9,hm⟩:=aB hm
    refine aED call15 (gT b9 b8 z) ?_
    rintro _ d4 ⟨rfl,d5⟩
    refine aCk ?_
    rcases aS hm with ⟨t,hm⟩|⟨t,hm⟩
    ·exact aP
    ·refine aCk ?_;exact aFp (aLp c) rfl rfl (aFp (aLp c) rfl rfl (yV t rfl rfl (aF (aAn (v:=zB false) (aLp c) rfl rfl) (aF (aAn (v:=zB false) t rfl rfl) (aI ⟨cE,b3.2.1,b3.2.2,false,hm,rfl,aKa⟩)))))
   ·refine aCk ?_;refine rX (aJB c) rfl rfl (aJ (v:=zP (some ⟨b1,0,none⟩)) (rX (aJB c) rfl rfl ?_))
    have c0:aD G K (box b1 67 [zS a2 a.length c3,i64 j,Value.int .u64 k]::aG 9 K d e b::aG 9 K h 6 ([([97]:aH),([98]:aH),([103,101,116]:aH),([109,111,118,101]:aH),([112,97,105,114]:aH),([112,117,116]:aH)]:List aH)::L) a7:=aKa
    obtain ⟨i,c1,hm⟩:=aB hm
    refine aED call29 (aBT c1 c0 z) ?_
    rintro _ d6 ⟨rfl,d7⟩
    refine aCk ?_;exact aF (xV (v:=zB i.1) (aJB c) rfl rfl) (aF (aAn (v:=zB i.1) (by decide:¬ false=true) rfl rfl) (aI ⟨cE,i.2.1,i.2.2,i.1,hm,rfl,aKa⟩))
  ·exact aP
theorem aFF {b:(List UInt8)} {a9 b0:Int} {R:(aO × Int × Int)} (hm:aCP b a9 b0=some R) (hs:aD G K (box b1 67 [zS a2 b.length c3,i64 a9,Value.int .u64 b0]::L) w) (y:bE K a2 c3 b):
  Calls prog 13 ([zP (some ⟨b1,0,none⟩)]:List Value).toArray w (eQ fun v w'=>∃ K' c5 c6 c7 c8 c9 d0 d1 d2,v=Value.agg #[zS c5 R.1.Parts.length c6,zS c7 R.1.Meetings.length c8,zS c9 R.1.Allowed.length d0,zS d1 R.1.Hidden.length d2]/\Hp.le K K'/\aD G K' (aG 35 K' c5 c6 R.1.Parts::aG 69 K c7 c8 R.1.Meetings::aG 9 K c9 d0 R.1.Allowed::aG 9 K d1 d2 R.1.Hidden::box b1 67 [zS a2 b.length c3,i64 R.2.1,Value.int .u64 R.2.2]::L) w'):=by
 let d:=[zS none 0 0,zS none 0 0,zS none 0 0,zS none 0 0]
 let d3:=box b1 67 [zS a2 b.length c3,i64 a9,Value.int .u64 b0]
 refine aFe func13 ?_;unfold aCP at hm
 refine aCk ?_;refine aFm fun e w6 e1=>?_
 refine aCk ?_;refine cZ (Kt:=K) (xs:=([]:List bA)) (cs:=[]) (vs:=[]) lU aEL rfl rfl e1 rfl (by kernel_rfl) rfl rfl rfl trivial (fun r w9 (i3:aD G K (aG 35 K r 0 ([]:List bA)::box e 28 d::d3::L) w9)=>(aF (jU (vs:=[(0,zS r ([]:List bA).length 0)]) (cs:=[zS r ([]:List bA).length 0,zS none 0 0,zS none 0 0,zS none 0 0]) bs_28 rfl (by kernel_rfl)) (aFm fun g i4 i5=>?_)))
 refine aJz fun i6 i7=>?_;refine aCk ?_
 refine aKc ([1,2,2,2,3,3,4]:List Int) fun i8 e3 e4=>?_;obtain ⟨e5,e6,e7,i9,e8⟩:=aD.lendSp e4 (Hp.le_refl _) .head
 have e9:aD G e5 (d3::box g 28 [zS r ([]:List bA).length 0,zS none 0 0,zS none 0 0,zS none 0 0]::aG 35 K r 0 ([]:List bA)::box e 28 d::L) e3:=aKa
 obtain ⟨j0,f0,hm⟩:=aB hm
 refine aED call28 (aDu f0 e9 (y.mono e6) e7) ?_
 rintro _ j1 ⟨rfl,f1⟩
 have j2:=e8 _ _ f1
 refine aCk ?_;refine aU [0,2,3] (fun f w=>∃ m z J c n o,Hp.le K m/\aBH b z J c=some R/\aD G m (aG 35 m n o c::box b1 67 [zS a2 b.length c3,i64 z,Value.int .u64 J]::box g 28 [zS n c.length o,zS none 0 0,zS none 0 0,zS none 0 0]::box e 28 d::L) w) ?_ ?_
 ·rintro f f2 ⟨m,z,J,c,n,o,d4,hm,j3⟩
  unfold aBH at hm
  iterate 1 refine aFl ?_
  refine tS [0,2,3] (fun f w=>∃ b3 b4 V b6 b7,uA b c b3 b4 V=some R/\aD G m (aG 69 K b6 b7 V::aG 35 m n o c::box b1 67 [zS a2 b.length c3,i64 b3,Value.int .u64 b4]::box g 28 [zS n c.length o,zS b6 V.length b7,zS none 0 0,zS none 0 0]::box e 28 d::L) w) ?_ ?_
  ·rintro f j4 ⟨b3,b4,V,b6,b7,hm,j5⟩
   unfold uA at hm
   refine tS [0,2,3] (fun f w=>∃ a0 a1 t u x,tZ b c a0 a1 t=some R/\aD G m (aG 69 K u x t::aG 35 m n o c::box b1 67 [zS a2 b.length c3,i64 a0,Value.int .u64 a1]::box g 28 [zS n c.length o,zS u t.length x,zS none 0 0,zS none 0 0]::box e 28 d::L) w) ?_ ?_
   ·rintro f f3 ⟨a0,a1,t,u,x,hm,j6⟩
    unfold tZ at hm
    refine aCk ?_
    have f4:aD G m (box b1 67 [zS a2 b.length c3,i64 a0,Value.int .u64 a1]::aG 69 K u x t::aG 35 m n o c::box g 28 [zS n c.length o,zS u t.length x,zS none 0 0,zS none 0 0]::box e 28 d::L) f3:=aKa
    obtain ⟨j7,f5,hm⟩:=aB hm
    exact aED call30 (aDv f5 f4 (y.mono d4)) aP
   exact aP
  refine aCk ?_
  have f6:aD G m (box b1 67 [zS a2 b.length c3,i64 z,Value.int .u64 J]::aG 35 m n o c::box g 28 [zS n c.length o,zS none 0 0,zS none 0 0,zS none 0 0]::box e 28 d::L) f2:=aKa
  obtain ⟨d5,f7,hm⟩:=aB hm
  refine aED call29 (aBT f7 f6 (y.mono d4)) ?_
  rintro _ j8 ⟨rfl,j9⟩
  refine aCk ?_
  rcases aS hm with ⟨f8,hm⟩|⟨f8,hm⟩
  ·iterate 4 refine aFl ?_
   refine aF (jU (vs:=[(0,str ([97]:aH)),(1,str ([97]:aH)),(2,str ([112,97,105,114]:aH))]) (cs:=[str ([97]:aH),str ([97]:aH),str ([112,97,105,114]:aH)]) bs_69 rfl (by kernel_rfl)) (aKc ([⟨([97]:aH),([97]:aH),([112,97,105,114]:aH)⟩]:List bK) fun f9 g0 g1=>?_)
   have k0:=aD.nil (α:=bK) g1 69 K
   obtain ⟨k1,k2,hm⟩:=aB hm
   have k3:aD G m (aG 69 K f9 1 ([⟨([97]:aH),([97]:aH),([112,97,105,114]:aH)⟩]:List bK)::aG 69 K none 0 ([]:List bK)::box b1 67 [zS a2 b.length c3,i64 d5.2.1,Value.int .u64 d5.2.2]::aG 35 m n o c::box g 28 [zS n c.length o,zS none 0 0,zS none 0 0,zS none 0 0]::box e 28 d::L) g0:=aKa
   exact aP
  ·exact aP
 obtain ⟨k4,g2,ho⟩:=aB hm
 refine rZ [0,2,3] g2 (fun a3 a4 j d6 f w=>∃ p k l,Hp.le K p/\f 4=i64 d6/\aD G p (box b1 67 [zS a2 b.length c3,i64 a3,Value.int .u64 a4]::box g 28 [zS k j.length l,zS none 0 0,zS none 0 0,zS none 0 0]::aG 35 p k l j::box e 28 d::L) w) ?_ ?_
 ·exact ⟨K,r,0,(Hp.le_refl _),rfl,aKa⟩
 ·rintro a3 a4 j d6 k5 f g3 hm hr ⟨p,k,l,a5,k6,k7⟩
  unfold xX at hm
  refine aCk ?_
  rcases aS hm with ⟨g4,hm⟩|⟨g4,hm⟩
  ·refine aCk ?_;refine dE ?_
   have d7:aD G p (box g 28 [zS k j.length l,zS none 0 0,zS none 0 0,zS none 0 0]::box b1 67 [zS a2 b.length c3,i64 a3,Value.int .u64 a4]::aG 35 p k l j::box e 28 d::L) g3:=aKa
   refine dG (C:=fun w'=>∃ L',aD G p (box g 28 [zS k j.length l,zS none 0 0,zS none 0 0,zS none 0 0]::L') w') [(0,0),(1,0),(2,0),(3,1),(4,1),(5,1),(6,0),(7,2)] Tryz_mixed (by kernel_rfl) (fun _ hg=>⟨_,aD.mono d7 hg⟩) (fun g5 g6=>?_)
   have k8:=aD.mono d7 g6
   refine aCk ?_;refine jZ rfl ?_
   have g7:aD G p (box b1 67 [zS a2 b.length c3,i64 a3,Value.int .u64 a4]::box g 28 [zS k j.length l,zS none 0 0,zS none 0 0,zS none 0 0]::aG 35 p k l j::box e 28 d::L) g5:=aKa
   obtain ⟨a,g8,hm⟩:=aB hm
   refine aED call14 (xF g8 g7 (y.mono a5)) ?_
   rintro _ d8 ⟨b8,b9,a6,a7,rfl,g9⟩
   refine aR (aC ⟨⟨_,aKa⟩,?_⟩)
   refine jZ rfl ?_;obtain ⟨h0,c0,h1,c1⟩:=aD.giveSp g9 a5 .head
   replace c1:aD G h0 (aG 72 K a6 a7 a.1.E::box b1 67 [zS a2 b.length c3,i64 a.2.1,Value.int .u64 a.2.2]::box g 28 [zS k j.length l,zS none 0 0,zS none 0 0,zS none 0 0]::aG 35 p k l j::box e 28 d::L) d8:=c1
   obtain ⟨q,c2,h2,c4⟩:=aD.giveSp c1 (zL a5 c0) .head
   replace c4:aD G q (box b1 67 [zS a2 b.length c3,i64 a.2.1,Value.int .u64 a.2.2]::box g 28 [zS k j.length l,zS none 0 0,zS none 0 0,zS none 0 0]::aG 35 p k l j::box e 28 d::L) d8:=c4
   refine cZ (Kt:=q) (xs:=([⟨a.1.N,a.1.I,a.1.L,a.1.E⟩]:List bA)) (cs:=(zC a.1 b8 b9 a6 a7)) (vs:=[(0,Value.agg (zCa a.1 b8 b9 a6 a7))]) lU aEL rfl rfl c4 rfl (by kernel_rfl) rfl rfl rfl ⟨⟨b8,b9,a6,a7,rfl,(h1.mono c2),h2⟩,trivial⟩ (fun h3 h5 (h6:aD G q (aG 35 q h3 1 ([⟨a.1.N,a.1.I,a.1.L,a.1.E⟩]:List bA)::box b1 67 [zS a2 b.length c3,i64 a.2.1,Value.int .u64 a.2.2]::box g 28 [zS k j.length l,zS none 0 0,zS none 0 0,zS none 0 0]::aG 35 p k l j::box e 28 d::L) h5)=>(aR (aC ⟨⟨_,aKa⟩,?_⟩)))
   refine jZ rfl ?_;obtain ⟨h7,h8,hm⟩:=aB hm
   refine aIQ (i:=2) q lU underlying24 aEL rfl rfl h6 rfl (zL c0 c2) (Hp.le_refl _) h8 rfl rfl rfl rfl (fun _ _ _ h=>El.one h) (fun d9 e0 h9 (k9:aD G q (box b1 67 [zS a2 b.length c3,i64 a.2.1,Value.int .u64 a.2.2]::box g 28 [zS k j.length l,zS none 0 0,zS none 0 0,zS none 0 0]::aG 35 q d9 e0 h7::box e 28 d::L) h9)=>(aR (aC ⟨⟨_,aKa⟩,?_⟩)))
   refine aCk ?_;refine WE_s rfl (aJz fun l0 i0=>?_)
   refine aCk ?_;refine qE (aCk ?_)
   exact ⟨_,(Option.some.inj hm).symm,cE,q,d9,e0,(zL (zL a5 c0) c2),rfl,i0⟩
  ·exact aP
end Gv
