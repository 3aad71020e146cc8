/- Walks, printed by program. -/
import Derived.Test.YtcoeckcjdpbbkaaGreatDoorJLW
set_option linter.all false
namespace Gv
open Go.Value renaming slice→zS,bool→zB
open Option.some renaming inj→zI
open Gv.Hp renaming le_refl→zR
open Go Go.Proofs Go.Proofs.Tryz
set_option maxRecDepth 20000
set_option maxHeartbeats 40000000
variable {G:Env} {K:Hp} {L:List gV} {w:World} {a1 a4 a7:Option Addr} {c2 c5 c8:Nat}
theorem aJf {a:(List aH)} {R:((List Int) × Bool)} (hm:zJ a=some R) (k:aD G K (L) w) (n:G.lo=0) (o:aN K a1 c2 a):
  Calls prog 173 ([zS a1 a.length c2]:List Value).toArray w (dS fun v w'=>∃ c d,v=Value.tuple #[zS c R.1.length d,zB R.2]/\aD G K (aF 2 K c d R.1::L) w'):=by
 refine cH func173 ?_;unfold zJ at hm
 refine aC ?_;refine aK [] (fun f w=>∃ b e g,aFY b=some R/\f 4=zS e b.length g/\aD G K (aF 2 K e g b::L) w) aJ ?_
 have p:=aD.nil (α:=Int) k 2 K
 obtain ⟨q,l,ho⟩:=aB hm
 exact bQ [9,10] l (fun h m f w=>∃ i j,f 4=zS i h.length j/\f 11=i64 m/\aD G K (aF 2 K i j h::L) w) aJ aJ
theorem aMC {c:UInt8} {R:Bool} (hm:aIm c=some R) (b:aD G K (L) w):
  Calls prog 165 ([Value.int .u8 (c.toNat:Int)]:List Value).toArray w (dS fun v w'=>v=zB R/\aD G K (L) w'):=by
 refine cH func165 ?_;unfold aIm at hm
 iterate 6 refine cO ?_
 exact aW [] (fun f w=>∃ a,aGH a=some R/\f 2=zB a/\aD G K (L) w) aJ aJ
theorem aOb {a:aH} {R:Bool} (hm:aHI a=some R) (j:aD G K (L) w):
  Calls prog 128 ([str a]:List Value).toArray w (dS fun v w'=>v=zB R/\aD G K (L) w'):=by
 refine cH func128 ?_;unfold aHI at hm
 iterate 9 refine cO ?_
 refine aL (aEe runUnderlying9 rfl) (aC ?_);refine aK [0] (fun f w=>aFe a=some R/\aD G K (L) w) ?_ ?_
 ·rintro f k ⟨hm,l⟩
  unfold aFe at hm
  iterate 2 refine cO ?_
  exact aW [] (fun f w=>∃ d,aHH d=some R/\f 2=zB d/\aD G K (L) w) aJ aJ
 obtain ⟨m,h,ho⟩:=aB hm
 refine bY [0,6] h (fun b f w=>f 7=i64 b/\aD G K (L) w) aJ ?_
 ·rintro b e f n hm hr ⟨o,p⟩
  unfold aAU at hm
  refine aC ?_
  rcases aI hm with ⟨i,hm⟩|⟨i,hm⟩
  ·refine aC ?_;refine cR ?_
   iterate 7 refine cO ?_
   refine aW [0,3,6,7] (fun f w=>∃ c,uI a b c=some e/\f 4=zB c/\aD G K (L) w) ?_ ?_
   ·rintro f q ⟨c,hm,r,t⟩
    unfold uI at hm
    iterate 2 refine cO ?_
    exact aW [0,6,7] (fun f w=>∃ g,aCQ b g=some e/\f 32=zB g/\aD G K (L) w) aJ aJ
   exact aJ
  ·exact aJ
theorem aLu {a:aH} {R:Bool} (hm:aCo a=some R) (c:aD G K (L) w):
  Calls prog 82 ([str a]:List Value).toArray w (dS fun v w'=>v=zB R/\aD G K (L) w'):=by
 refine cH func82 ?_;unfold aCo at hm
 iterate 6 refine cO ?_
 exact aW [] (fun f w=>∃ b,aCC b=some R/\f 2=zB b/\aD G K (L) w) aJ aJ
theorem aOc {n low a:Int} {R:Bool} (hm:zN n low a=some R) (c:aD G K (L) w):
  Calls prog 125 ([i64 n,i64 low,i64 a]:List Value).toArray w (dS fun v w'=>v=zB R/\aD G K (L) w'):=by
 refine cH func125 ?_;unfold zN at hm
 iterate 6 refine cO ?_
 exact aW [] (fun f w=>∃ b,aHJ b=some R/\f 6=zB b/\aD G K (L) w) aJ aJ
theorem aMD {n:Int} {R:Bool} (hm:aKr n=some R) (a:aD G K (L) w):
  Calls prog 229 ([i64 n]:List Value).toArray w (dS fun v w'=>v=zB R/\aD G K (L) w'):=by
 exact aJ
theorem aDw {n:Int} {R:Bool} (hm:aEl n=some R) (a:aD G K (L) w):
  Calls prog 228 ([i64 n]:List Value).toArray w (dS fun v w'=>v=zB R/\aD G K (L) w'):=by
 exact aJ
theorem xU {a:(List Int)} {R:Int} (hm:fW a=some R) (l:aD G K (L) w) (d:aN K a1 c2 a):
  Calls prog 84 ([zS a1 a.length c2,Value.func (.func 228) #[] #[]]:List Value).toArray w (dS fun v w'=>v=i64 R/\aD G K (L) w'):=by
 refine cH func84 ?_;unfold fW at hm
 refine aC ?_;refine aK [] (fun f w=>oH=some R/\aD G K (L) w) aJ ?_
 obtain ⟨m,e,ho⟩:=aB hm
 refine bY [0,1,7] e (fun b f w=>f 8=i64 b/\aD G K (L) w) aJ ?_
 ·rintro b n f o hm hr ⟨p,g⟩
  unfold dF at hm
  refine aC ?_
  rcases aI hm with ⟨h,hm⟩|⟨h,hm⟩
  ·refine aC ?_;refine cR (aC ?_)
   obtain ⟨c,i,hm⟩:=aB hm
   refine aC ?_;obtain ⟨q,r,j⟩:=aN.el (sz:=1) rfl d i
   cases j
   refine aC ?_;obtain ⟨t,k,hm⟩:=aB hm
   exact eR (vs:=[i64 c]) (caps:=[]) (us:=[i64 c]) rfl call228 rfl rfl (aDw k g) aJ
  ·exact aJ
theorem vJ {a:(List Int)} {R:Bool} (hm:iT a=some R) (b:aD G K (L) w) (c:aN K a1 c2 a):
  Calls prog 196 ([zS a1 a.length c2,Value.func (.func 228) #[] #[]]:List Value).toArray w (dS fun v w'=>v=zB R/\aD G K (L) w'):=by
 exact aJ
theorem aKt {a:(List Int)} {R:Bool} (hm:aFf a=some R) (b:aD G K (L) w) (c:aN K a1 c2 a):
  Calls prog 207 ([zS a1 a.length c2]:List Value).toArray w (dS fun v w'=>v=zB R/\aD G K (L) w'):=by
 exact aJ
theorem aOd {c:(List Int)} {d R:aH} (hm:aHL c d=some R) (q:aD G K (L) w) (hG:G.lo=0) (r:aN K a1 c2 c):
  Calls prog 208 ([zS a1 c.length c2,str d]:List Value).toArray w (dS fun v w'=>v=str R/\aD G K (L) w'):=by
 refine cH func208 ?_;unfold aHL at hm
 refine aC ?_;obtain ⟨a,u,hm⟩:=aB hm
 refine aKR (e:=([]:aH)) qX ez_9 rfl rfl q rfl rfl rfl u rfl (fun b x (a9:aD G K (aF 9 K b a.length a::L) x)=>(aC ?_));refine aK [1] (fun f w=>∃ g,aHK d g=some R/\f 5=zS b g.length a.length/\aD G K (aF 9 K b a.length g::L) w) aJ ?_
 obtain ⟨b0,y,ho⟩:=aB hm
 refine bQ [1,11,12] y (fun j l f w=>f 5=zS b j.length a.length/\f 13=i64 l/\aD G K (aF 9 K b a.length j::L) w) aJ ?_
 ·rintro j l b1 f b2 hm hr ⟨z,b3,J⟩
  unfold aCR at hm
  refine aC ?_
  rcases aI hm with ⟨V,hm⟩|⟨V,hm⟩
  ·refine aC ?_;refine cR (aC ?_)
   obtain ⟨b4,Z,hm⟩:=aB hm
   refine aC ?_;obtain ⟨b5,b6,a0⟩:=aN.el (sz:=1) rfl r Z
   cases a0
   refine aC ?_;obtain ⟨m,a2,hm⟩:=aB hm
   refine cG call223 (aLf J a2) ?_
   rintro _ b7 ⟨rfl,o⟩
   obtain ⟨b8,k,hm⟩:=aB hm
   have a3:=bC o (i:=0) rfl k
   refine aL (bV qX rfl a3 rfl rfl rfl k) ?_;obtain ⟨a4,p,hm⟩:=aB hm
   refine nU (i:=0) (t:=0) (ns:=[str m]) (e':=(m:aH)) sizeOf9 o rfl (zR _) rfl rfl rfl k p rfl rfl (lS rfl) rfl (fun cs h=>by cases h;rfl) (fun a5 (a7:aD G K (aF 9 K b a.length a4::L) a5)=>(aC ?_));exact ⟨_,(zI hm).symm,aR,(Eq.trans z (congrArg (fun n=>zS b n a.length) (lD p))),rfl,a7⟩
  ·exact aJ
theorem aHU {b:aH} {a:(List Int)} {R:(aH × Bool)} (hm:aFZ b a=some R) (e:aD G K (L) w) (g:G.lo=0) (h:aN K a1 c2 a):
  Calls prog 176 ([str b,zS a1 a.length c2]:List Value).toArray w (dS fun v w'=>v=Value.tuple #[str R.1,zB R.2]/\aD G K (L) w'):=by
 refine cH func176 ?_;unfold aFZ at hm
 refine aC ?_;refine cR (aC ?_)
 rcases aI hm with ⟨d,hm⟩|⟨d,hm⟩
 ·exact aJ
 ·iterate 2 refine cO ?_
  exact aW [0,1] (fun f w=>∃ c,aBp b a c=some R/\f 12=zB c/\aD G K (L) w) aJ aJ
theorem yS {a b:aH} {R:Bool} (hm:gJ a b=some R) (d:aD G K (L) w):
  Calls prog 227 ([str a,str b]:List Value).toArray w (dS fun v w'=>v=zB R/\aD G K (L) w'):=by
 refine cH func227 ?_;unfold gJ at hm
 iterate 6 refine cO ?_
 exact aW [] (fun f w=>∃ c,fE c=some R/\f 4=zB c/\aD G K (L) w) aJ aJ
theorem xV {a b R:aH} (hm:kD a b=some R) (c:aD G K (L) w):
  Calls prog 206 ([str a,str b]:List Value).toArray w (dS fun v w'=>v=str R/\aD G K (L) w'):=by
 exact aJ
theorem aEX {a b R:aH} (hm:qY a b=some R) (c:aD G K (L) w):
  Calls prog 175 ([str a,str b]:List Value).toArray w (dS fun v w'=>v=str R/\aD G K (L) w'):=by
 exact aJ
theorem aKu {d:aH} {R:(aH × (List Int) × Bool)} (hm:xC d=some R) (j:aD G K (L) w) (k:G.lo=0):
  Calls prog 142 ([str d]:List Value).toArray w (dS fun v w'=>∃ e g,v=Value.tuple #[str R.1,zS e R.2.1.length g,zB R.2.2]/\aD G K (aF 2 K e g R.2.1::L) w'):=by
 refine cH func142 ?_;unfold xC at hm
 refine aC ?_;obtain ⟨h,l,hm⟩:=aB hm
 refine cG call172 (lib_Cut j l) ?_
 rintro _ t ⟨rfl,u⟩
 iterate 14 refine cO ?_
 refine sV [0,5] (fun f w=>∃ a b c,mY d h a=some R/\f 8=zS b a.length c/\aD G K (aF 2 K b c a::L) w) ?_ ?_
 ·rintro f x ⟨a,b,c,hm,y,m⟩
  unfold mY at hm
  refine aC ?_;obtain ⟨z,J,n,o,p⟩:=aD.lendSp m (zR _) .head
  obtain ⟨V,q,hm⟩:=aB hm
  refine cG call176 (aHU q o k n) ?_
  rintro _ Z ⟨rfl,r⟩
  have a0:=p _ _ r
  iterate 8 refine cO ?_
  exact aW [5,8] (fun f w=>∃ i,pK h a i=some R/\f 40=zB i/\aD G K (aF 2 K b c a::L) w) aJ aJ
 exact aJ
theorem aME {a:aH} {R:Bool} (hm:aGa a=some R) (b:aD G K (L) w) (c:G.lo=0):
  Calls prog 126 ([str a]:List Value).toArray w (dS fun v w'=>v=zB R/\aD G K (L) w'):=by
 exact aJ
theorem aIR {a b:(List UInt8)} {R:Bool} (hm:aHM a b=some R) (d:aD G K (L) w) (e:aN K a1 c2 a) (g:aN K a4 c5 b):
  Calls prog 4 ([zS a1 a.length c2,zS a4 b.length c5]:List Value).toArray w (dS fun v w'=>v=zB R/\aD G K (L) w'):=by
 refine cH func4 ?_;unfold aHM at hm
 iterate 6 refine cO ?_
 exact aW [] (fun f w=>∃ c,aFg c=some R/\f 4=zB c/\aD G K (L) w) aJ aJ
theorem aHV {a:(List UInt8)} {R:(Int × Int)} (hm:aKs a=some R) (c:aD G K (L) w) (d:aN K a1 c2 a):
  Calls prog 12 ([zS a1 a.length c2]:List Value).toArray w (dS fun v w'=>∃ b,v=Value.pointer (some ⟨b,0,none⟩)/\aD G K (box b 88 [zS a1 a.length c2,i64 R.1,Value.int .u64 R.2]::L) w'):=by
 exact aJ
theorem aEH {a:(List aH)} {b:aH} {R:Int} (hm:yE a b=some R) (e:aD G K (L) w) (g:aN K a1 c2 a):
  Calls prog 88 ([zS a1 a.length c2,str b]:List Value).toArray w (dS fun v w'=>v=i64 R/\aD G K (L) w'):=by
 refine cH func88 ?_;unfold yE at hm
 refine aC ?_;refine aK [] (fun f w=>aJL=some R/\aD G K (L) w) aJ ?_
 obtain ⟨h,c,ho⟩:=aB hm
 exact bY [0,1] c (fun d f w=>f 5=i64 d/\aD G K (L) w) aJ aJ
theorem aHW {q R:(List aH)} (hm:aCp q=some R) (hs:aD G K (L) w) (h3:aN K a1 c2 q):
  Calls prog 87 ([zS a1 q.length c2]:List Value).toArray w (dS fun v w'=>∃ J V,v=zS J R.length V/\aD G K (aF 9 K J V R::L) w'):=by
 refine cH func87 ?_;unfold aCp at hm
 refine aC ?_;refine nW ([([116,97,117]:aH)]:List aH) fun a4 w5 e6=>?_
 refine aC ?_;refine aK [] (fun f w=>∃ r Z c9,aJM r=some R/\f 3=zS Z r.length c9/\aD G K (aF 9 K Z c9 r::L) w) aJ ?_
 obtain ⟨e7,b6,ho⟩:=aB hm
 refine bQ [0] b6 (fun c g f w=>∃ d e,f 3=zS d c.length e/\f 4=i64 g/\aD G K (aF 9 K d e c::L) w) aJ ?_
 ·rintro c g u f e8 hm hr ⟨d,e,e9,f0,b7⟩
  unfold jJ at hm
  refine aC ?_
  rcases aI hm with ⟨b8,hm⟩|⟨b8,hm⟩
  ·refine aC ?_;refine aK [0,4] (fun f w=>∃ j k l,qZ g j=some u/\f 3=zS k j.length l/\aD G K (aF 9 K k l j::L) w) ?_ ?_
   ·rintro f f1 ⟨j,k,l,hm,b9,c0⟩
    unfold qZ at hm
    refine aC ?_;exact ⟨_,(zI hm).symm,aR,k,l,b9,rfl,c0⟩
   refine aC ?_;obtain ⟨m,c1,hm⟩:=aB hm
   refine aC ?_;obtain ⟨f2,f3,c3⟩:=aN.el (sz:=1) rfl h3 c1
   cases c3
   refine aC ?_;obtain ⟨f4,f5,c4,c5,c6⟩:=aD.lendSp b7 (zR _) .head
   obtain ⟨f6,c7,hm⟩:=aB hm
   refine cG call88 (aEH c7 c5 c4) ?_
   rintro _ f7 ⟨rfl,c8⟩
   have f8:=c6 _ _ c8
   refine aC ?_
   rcases aI hm with ⟨d0,hm⟩|⟨d0,hm⟩
   ·exact aJ
   ·refine aC ?_;refine aK [0,3,4] (fun f w=>∃ o,aBr c g m o=some u/\f 5=i64 o/\aD G K (aF 9 K d e c::L) w) ?_ ?_
    ·rintro f f9 ⟨o,hm,g0,g1⟩
     unfold aBr at hm
     refine aC ?_;refine nW ([([]:aH)]:List aH) fun g2 g3 g4=>?_
     obtain ⟨g5,g6,hm⟩:=aB hm
     refine aIw fun a b g7 g8=>?_;refine aC ?_
     refine aK [0,4,5] (fun f w=>∃ p,aBq g m o p=some u/\f 3=zS a p.length b/\aD G K (aF 9 K a b p::L) w) ?_ ?_
     ·rintro f g9 ⟨p,hm,d1,a2⟩
      unfold aBq at hm
      refine aC ?_;obtain ⟨h0,x,hm⟩:=aB hm
      have d2:=bC a2 (i:=0) rfl x
      refine aL (bV qX rfl d2 rfl rfl rfl x) ?_;obtain ⟨a3,a5,hm⟩:=aB hm
      refine nU (i:=0) (t:=0) (ns:=[str m]) (e':=(m:aH)) sizeOf9 a2 rfl (zR _) rfl rfl rfl x a5 rfl rfl (lS rfl) rfl (fun cs h=>by cases h;rfl) (fun d3 (d4:aD G K (aF 9 K a b a3::L) d3)=>(aC ?_));exact ⟨aR,a3,a,b,hm,(Eq.trans d1 (congrArg (fun n=>zS a n b) (lD a5))),d4⟩
     obtain ⟨h1,d5,ho⟩:=aB hm
     refine bQ [0,4,5] d5 (fun y a6 f w=>f 3=zS a y.length b/\f 6=i64 a6/\aD G K (aF 9 K a b y::L) w) aJ ?_
     ·rintro y a6 h2 f h4 hm hr ⟨d6,h5,a7⟩
      unfold uL at hm
      refine aC ?_
      rcases aI hm with ⟨d7,hm⟩|⟨d7,hm⟩
      ·refine aC ?_;refine cR (aC ?_)
       obtain ⟨a9,b0,hm⟩:=aB hm
       have b1:=bC a7 (i:=0) rfl b0
       refine aL (bV qX rfl b1 rfl rfl rfl b0) (aC ?_);obtain ⟨h6,b2,hm⟩:=aB hm
       refine aL (bV qX rfl b1 rfl rfl rfl b2) ?_;obtain ⟨d8,b3,hm⟩:=aB hm
       refine nU (i:=0) (t:=0) (ns:=[str a9]) (e':=(a9:aH)) sizeOf9 a7 rfl (zR _) rfl rfl rfl b2 b3 rfl rfl (lS rfl) rfl (fun cs h=>by cases h;rfl) (fun d9 (e0:aD G K (aF 9 K a b d8::L) d9)=>(aC ?_));exact ⟨_,(zI hm).symm,aR,(Eq.trans d6 (congrArg (fun n=>zS a n b) (lD b3))),rfl,e0⟩
      ·exact aJ
    obtain ⟨h7,e1,ho⟩:=aB hm
    refine bY [0,3,4] e1 (fun z f w=>f 5=i64 z/\aD G K (aF 9 K d e c::L) w) aJ ?_
    ·rintro z e2 f h8 hm hr ⟨h9,i0⟩
     unfold mO at hm
     refine aC ?_;exact aW [0,3,4,5] (fun f w=>∃ b4,yF z b4=some e2/\f 35=zB b4/\aD G K (aF 9 K d e c::L) w) aJ aJ
  ·exact aJ
theorem aEI {a:Edge} {c:Nat} {b:Edge} {d:Nat} {R:Bool} (hm:aGb a b=some R) (e:aD G K (L) w) (g:bZ K a1 c [i64 a.F,i64 a.B,i64 a.To]) (h:bZ K a4 d [i64 b.F,i64 b.B,i64 b.To]):
  Calls prog 105 ([bR a1 c,bR a4 d]:List Value).toArray w (dS fun v w'=>v=zB R/\aD G K (L) w'):=by
 exact aJ
theorem aOe {c:(List Edge)} {e:Edge} {R:(List Edge)} (hm:aHN c e=some R) (hs:aD G K (aF 90 K a1 c2 c::L) w):
  Calls prog 89 ([zS a1 c.length c2,Value.agg #[i64 e.F,i64 e.B,i64 e.To]]:List Value).toArray w (dS fun v w'=>∃ z J,v=zS z R.length J/\aD G K (aF 90 K z J R::L) w'):=by
 let d:=[i64 e.F,i64 e.B,i64 e.To]
 refine cH func89 ?_;unfold aHN at hm
 refine aC ?_;refine oZ fun g w4 e8=>?_
 refine aC ?_;refine aK [0,3] (fun f w=>∃ k,aFi c e k=some R/\f 5=i64 k/\aD G K (box g 90 d::aF 90 K a1 c2 c::L) w) ?_ ?_
 ·rintro f w8 ⟨k,hm,e7,m⟩
  unfold aFi at hm
  refine aC ?_;refine aW [0,3,5] (fun f w=>∃ o,aAV c e k o=some R/\f 30=zB o/\aD G K (box g 90 d::aF 90 K a1 c2 c::L) w) ?_ ?_
  ·rintro f f1 ⟨o,hm,f2,f3⟩
   unfold aAV at hm
   refine aC ?_
   rcases aI hm with ⟨b2,hm⟩|⟨b2,hm⟩
   ·exact aJ
   ·iterate 6 refine cO ?_
    refine aL (jZ (vs:=[]) (cs:=[i64 0,i64 0,i64 0]) aMu rfl (by kernel_rfl)) (nW ([⟨0,0,0⟩]:List Edge) fun f4 f5 f6=>?_);obtain ⟨f7,f8,hm⟩:=aB hm
    refine aIw fun a b f9 g0=>?_;refine aC ?_
    refine aK [3,5] (fun f w=>∃ l,aFh e k l=some R/\f 0=zS a l.length b/\aD G K (box g 90 d::aF 90 K a b l::L) w) ?_ ?_
    ·rintro f g1 ⟨l,hm,b4,V⟩
     unfold aFh at hm
     refine aC ?_;obtain ⟨g2,p,hm⟩:=aB hm
     have b5:=bC V (i:=1) rfl p
     refine aL (bV eU rfl b5 rfl rfl rfl p) ?_;obtain ⟨Z,a0,hm⟩:=aB hm
     refine nU (i:=1) (t:=0) (ns:=d) (e':=(⟨e.F,e.B,e.To⟩:Edge)) sizeOf90 V rfl (zR _) rfl rfl rfl p a0 rfl rfl (lS rfl) rfl (fun cs h=>by cases h;rfl) (fun b6 (g3:aD G K (box g 90 d::aF 90 K a b Z::L) b6)=>?_)
     iterate 4 refine cO ?_
     refine gN (v:=zS a Z.length b) (Eq.trans b4 (congrArg (fun n=>zS a n b) (lD a0))) (aC ?_);obtain rfl:=zI hm
     exact st_E results89 ⟨a,b,rfl,lI⟩
    obtain ⟨g4,b8,ho⟩:=aB hm
    refine bQ [3,5] b8 (fun q a2 f w=>f 0=zS a q.length b/\f 6=i64 a2/\aD G K (box g 90 d::aF 90 K a b q::L) w) aJ ?_
    ·rintro q a2 g5 f g6 hm hr ⟨b9,g7,a3⟩
     unfold aCS at hm
     refine aC ?_
     rcases aI hm with ⟨c0,hm⟩|⟨c0,hm⟩
     ·refine aC ?_;refine cR (aC ?_)
      obtain ⟨j,a4,hm⟩:=aB hm
      have a5:=bC a3 (i:=1) rfl a4
      refine aL (bV eU rfl a5 rfl rfl rfl a4) (aC ?_);obtain ⟨g8,a6,hm⟩:=aB hm
      refine aL (bV eU rfl a5 rfl rfl rfl a6) ?_;obtain ⟨c1,a7,hm⟩:=aB hm
      refine nU (i:=1) (t:=0) (ns:=[i64 j.F,i64 j.B,i64 j.To]) (e':=(⟨j.F,j.B,j.To⟩:Edge)) sizeOf90 a3 rfl (zR _) rfl rfl rfl a6 a7 rfl rfl (lS rfl) rfl (fun cs h=>by cases h;rfl) (fun c3 (c4:aD G K (box g 90 d::aF 90 K a b c1::L) c3)=>(aC ?_));exact ⟨_,(zI hm).symm,aR,(Eq.trans b9 (congrArg (fun n=>zS a n b) (lD a7))),rfl,c4⟩
     ·exact aJ
  refine aEi ?_;refine aC ?_
  rcases aI hm with ⟨c5,hm⟩|⟨c5,hm⟩
  ·refine aC ?_;obtain ⟨a8,a9,hm⟩:=aB hm
   have c6:=bC m (i:=1) rfl a9
   refine jN (fun _ m=>bV eU rfl c6 rfl rfl rfl a9) (aC ?_);refine jN (fun _ m=>R_eqlG (eq_90 (x:=a8) (y:=e)) rfl rfl) (aC ?_)
   refine oS (fun g9 c7=>(aC ?_));exact ⟨aR,decide ((a8:Edge)=e),hm,rfl,c7⟩
  ·exact aJ
 obtain ⟨h0,c8,ho⟩:=aB hm
 refine bY [0,3] c8 (fun r f w=>f 5=i64 r/\aD G K (box g 90 d::aF 90 K a1 c2 c::L) w) aJ ?_
 ·rintro r c9 f h1 hm hr ⟨h2,b0⟩
  unfold aAW at hm
  iterate 2 refine cO ?_
  refine aW [0,3,5] (fun f w=>∃ b1,aCT r b1=some c9/\f 17=zB b1/\aD G K (box g 90 d::aF 90 K a1 c2 c::L) w) aJ (aC ?_)
  rcases aI hm with ⟨d0,hm⟩|⟨d0,hm⟩
  ·refine aC ?_;obtain ⟨h3,u,hm⟩:=aB hm
   have d1:=bC b0 (i:=1) rfl u
   refine aL (bV eU rfl d1 rfl rfl rfl u) (aC ?_);obtain ⟨h4,d2,d3,d4,d5⟩:=aD.lendBp b0 .head
   obtain ⟨h5,d6,d7,d8,d9⟩:=aD.lendSp d4 d2 .head
   obtain ⟨h6,e0,e1⟩:=aN.el (sz:=3) rfl d7 u
   cases e1
   obtain ⟨h7,e2,hm⟩:=aB hm
   refine cG call105 (aEI e2 d8 (d3.mono d6) e0) ?_
   rintro _ h8 ⟨rfl,e3⟩
   have e4:=d9 _ _ e3
   have h9:=d5 _ _ e4
   exact aJ
  ·exact aJ
theorem aEJ {a b:Int} {texts:(List aH)} {edges:(List Edge)} {R:aP} (hm:qG a b texts edges=some R) (hs:aD G K (L) w) (l:aN K a1 c2 texts) (Z:aN K a4 c5 edges):
  Calls prog 39 ([i64 a,i64 b,zS a1 texts.length c2,zS a4 edges.length c5]:List Value).toArray w (dS fun v w'=>∃ m n o p,v=Value.agg (zCa R m n o p)/\aD G K (aF 9 K m n R.L::aF 90 K o p R.E::L) w'):=by
 refine cH func39 ?_;unfold qG at hm
 refine aC ?_;refine kK fun q w8 a0=>?_
 refine aC ?_;obtain ⟨c,a2,hm⟩:=aB hm
 refine cG call87 (aHW a2 a0 l) ?_
 rintro _ c7 ⟨d,e,rfl,c8⟩
 refine nW ([]:List Edge) fun r c9 d0=>?_;refine aL (jZ (vs:=[(0,i64 a),(1,i64 b),(2,zS d c.length e),(3,zS r ([]:List Edge).length 0)]) (cs:=[i64 a,i64 b,zS d c.length e,zS r ([]:List Edge).length 0]) aJH rfl (by kernel_rfl)) (kK fun u d1 d2=>?_)
 refine kZ fun d3 d4=>?_;refine aC ?_
 refine aK [8,9] (fun f w=>∃ g x y,aJN a b c g=some R/\aD G K (aF 90 K x y g::box u 27 [i64 a,i64 b,zS d c.length e,zS x g.length y]::aF 9 K d e c::box q 27 zG::L) w) aJ ?_;obtain ⟨d5,a3,ho⟩:=aB hm
 refine bQ [2,3,8,9] a3 (fun h z f w=>∃ i j,f 10=i64 z/\aD G K (box u 27 [i64 a,i64 b,zS d c.length e,zS i h.length j]::aF 90 K i j h::aF 9 K d e c::box q 27 zG::L) w) aJ ?_
 ·rintro h z d6 f d7 hm hr ⟨i,j,d8,d9⟩
  unfold mP at hm
  refine aC ?_
  rcases aI hm with ⟨a5,hm⟩|⟨a5,hm⟩
  ·refine aC ?_;refine cR (aC ?_)
   obtain ⟨e0,a6,hm⟩:=aB hm
   refine aC ?_;obtain ⟨e1,e2,a7⟩:=aN.el (sz:=3) rfl Z a6
   cases a7
   refine aC ?_;refine kK fun e3 e4 e5=>?_
   refine kZ fun e6 a8=>?_;refine aC ?_
   obtain ⟨e7,a9,b0,b1,b2⟩:=aD.lendBp a8 .head
   obtain ⟨e8,J,e9,f0,b3⟩:=aD.lendBp b1 .head
   refine wW [(0,0),(1,0),(2,0),(3,0),(4,0),(5,0),(6,0),(7,1),(8,0),(9,2)] fun f1 k=>?_;refine aC ?_
   refine bN rfl (fun _ ⟨_,k⟩=>dQ (t:=1) oG k (b0.mono J) rfl rfl) ?_;obtain ⟨f2,b4,hm⟩:=aB hm
   refine aC ?_;obtain ⟨f3,f4,b5⟩:=aN.el (sz:=1) rfl l b4
   cases b5
   refine aC ?_;refine fF rfl ?_
   obtain ⟨f5,f6,b6,b8,b9⟩:=aD.lendSp k (Hp.le_trans a9 J) zt1
   obtain ⟨f7,c0,hm⟩:=aB hm
   refine cG call88 (aEH c0 b8 b6) ?_
   rintro _ f8 ⟨rfl,c1⟩
   have V:=b9 _ _ c1
   refine aM (aG ⟨⟨_,V⟩,?_⟩)
   refine aC ?_
   have c3:=b3 _ _ V
   have f9:=b2 _ _ c3
   exact aJ
  ·exact aJ
theorem aHX {t:aP} {n:Nat} {R:aP} (hm:aGc t=some R) (hs:aD G K (L) w) (h3:bZ K a1 n (zC t a4 c5 a7 c8)) (z:aN K a4 c5 t.L) (J:aN K a7 c8 t.E):
  Calls prog 40 ([bR a1 n]:List Value).toArray w (dS fun v w'=>∃ o p q r,v=Value.agg (zCa R o p q r)/\aD G K (aF 9 K o p R.L::aF 90 K q r R.E::L) w'):=by
 refine cH func40 ?_;unfold aGc at hm
 refine aC ?_;refine kK fun u b3 b4=>?_
 refine aC ?_;refine nW ([([116,97,117]:aH)]:List aH) fun b5 b6 b7=>?_
 refine aC ?_;refine nW ([]:List Edge) fun b8 b9 c0=>?_
 refine aC ?_;refine aK [0,2] (fun f w=>∃ a b c d e g,aDJ t a b=some R/\f 3=zS c a.length d/\f 4=zS e b.length g/\aD G K (aF 90 K e g b::aF 9 K c d a::box u 27 zG::L) w) ?_ ?_
 ·rintro f c1 ⟨a,b,c,d,e,g,hm,c2,c3,c4⟩
  unfold aDJ at hm
  refine aC ?_;refine wW [(0,0),(1,0),(2,0),(3,0),(4,0),(5,0),(6,0),(7,0),(8,0),(9,0),(10,1),(11,2)] fun c6 c7=>?_
  exact aJ
 obtain ⟨c9,V,ho⟩:=aB hm
 refine mW [0,2] V (fun h i x f w=>∃ j k l m,f 3=zS j h.length k/\f 4=zS l i.length m/\f 5=i64 x/\aD G K (aF 90 K l m i::aF 9 K j k h::box u 27 zG::L) w) aJ ?_
 ·rintro h i x d0 f d1 hm hr ⟨j,k,l,m,d2,d3,d4,d5⟩
  unfold yG at hm
  refine aC ?_
  rcases aI hm with ⟨Z,hm⟩|⟨Z,hm⟩
  ·refine aC ?_;refine cR (aC ?_)
   obtain ⟨d6,a0,hm⟩:=aB hm
   refine aC ?_;obtain ⟨d7,d8,a2⟩:=aN.el (sz:=3) rfl J a0
   cases a2
   refine aC ?_;refine kK fun d9 e0 e1=>?_
   refine kZ fun e2 a3=>?_;refine aC ?_
   obtain ⟨e3,e4,e5,e6,a5⟩:=aD.lendBp a3 .head
   refine wW [(0,0),(1,0),(2,0),(3,0),(4,0),(5,0),(6,0),(7,0),(8,0),(9,1),(10,1),(11,0)] fun e7 e8=>?_;refine aC ?_
   obtain ⟨a6,a8,hm⟩:=aB hm
   refine aC ?_;obtain ⟨e9,f0,a9⟩:=aN.el (sz:=1) rfl z a8
   cases a9
   refine aC ?_;refine fF rfl (nW ([a6]:List aH) fun f1 f2 b0=>?_)
   refine aM (aG ⟨⟨_,b0⟩,?_⟩)
   refine fF rfl ?_;obtain ⟨f3,f4,hm⟩:=aB hm
   refine aIw fun f5 f6 f7 y=>?_;refine aM (aG ⟨⟨_,y⟩,?_⟩)
   refine aC ?_;refine jE ?_
   have f8:=a5 _ _ y
   exact aJ
  ·exact aJ
theorem aFH {t:aP} {a:Nat} {R:aP} (hm:aGd t=some R) (g:aD G K (L) w) (h:bZ K a1 a (zC t a4 c5 a7 c8)) (i:aN K a4 c5 t.L) (j:aN K a7 c8 t.E):
  Calls prog 16 ([bR a1 a]:List Value).toArray w (dS fun v w'=>∃ b c d e,v=Value.agg (zCa R b c d e)/\aD G K (aF 9 K b c R.L::aF 90 K d e R.E::L) w'):=by
 refine cH func16 ?_;unfold aGd at hm
 refine aC ?_;refine kK fun k l m=>?_
 refine aC ?_;refine wW [(0,0),(1,0),(2,0),(3,0),(4,0),(5,0),(6,0),(7,0),(8,0),(9,1),(10,2)] fun n o=>?_
 exact aJ
theorem aPN {n low a:Int} {R:Bool} (hm:aBs n low a=some R) (c:aD G K (L) w):
  Calls prog 103 ([i64 n,i64 low,i64 a]:List Value).toArray w (dS fun v w'=>v=zB R/\aD G K (L) w'):=by
 refine cH func103 ?_;unfold aBs at hm
 iterate 6 refine cO ?_
 exact aW [] (fun f w=>∃ b,aJd b=some R/\f 6=zB b/\aD G K (L) w) aJ aJ
theorem aLv {c:UInt8} {R:Bool} (hm:aEm c=some R) (b:aD G K (L) w):
  Calls prog 218 ([Value.int .u8 (c.toNat:Int)]:List Value).toArray w (dS fun v w'=>v=zB R/\aD G K (L) w'):=by
 refine cH func218 ?_;unfold aEm at hm
 iterate 6 refine cO ?_
 exact aW [] (fun f w=>∃ a,aFB a=some R/\f 2=zB a/\aD G K (L) w) aJ aJ
theorem aHj {c:UInt8} {R:Bool} (hm:aEn c=some R) (b:aD G K (L) w):
  Calls prog 219 ([Value.int .u8 (c.toNat:Int)]:List Value).toArray w (dS fun v w'=>v=zB R/\aD G K (L) w'):=by
 refine cH func219 ?_;unfold aEn at hm
 iterate 6 refine cO ?_
 exact aW [] (fun f w=>∃ a,aFC a=some R/\f 2=zB a/\aD G K (L) w) aJ aJ
theorem aMF {a:aH} {R:Bool} (hm:aDS a=some R) (j:aD G K (L) w):
  Calls prog 200 ([str a]:List Value).toArray w (dS fun v w'=>v=zB R/\aD G K (L) w'):=by
 refine cH func200 ?_;unfold aDS at hm
 iterate 7 refine cO ?_
 refine aW [0] (fun f w=>∃ b,uM a b=some R/\f 16=zB b/\aD G K (L) w) ?_ ?_
 ·rintro f k ⟨b,hm,l,m⟩
  unfold uM at hm
  refine aC ?_
  rcases aI hm with ⟨e,hm⟩|⟨e,hm⟩
  ·exact aJ
  ·refine aC ?_;refine aK [] (fun f w=>aGI=some R/\aD G K (L) w) aJ ?_
   obtain ⟨n,g,ho⟩:=aB hm
   refine bY [0] g (fun c f w=>f 3=i64 c/\aD G K (L) w) aJ ?_
   ·rintro c h f o hm hr ⟨p,q⟩
    unfold aBt at hm
    iterate 5 refine cO ?_
    refine aL (aEe runUnderlying9 rfl) (aC ?_)
    rcases aI hm with ⟨i,hm⟩|⟨i,hm⟩
    ·refine aC ?_;refine cR ?_
     iterate 1 refine cO ?_
     exact aW [0,3] (fun f w=>∃ d,aDK c d=some h/\f 34=zB d/\aD G K (L) w) aJ aJ
    ·exact aJ
 exact aJ
theorem aKv {a:aH} {R:Bool} (hm:aAX a=some R) (c:aD G K (L) w):
  Calls prog 169 ([str a]:List Value).toArray w (dS fun v w'=>v=zB R/\aD G K (L) w'):=by
 refine cH func169 ?_;unfold aAX at hm
 iterate 6 refine cO ?_
 exact aW [] (fun f w=>∃ b,aBu b=some R/\f 2=zB b/\aD G K (L) w) aJ aJ
end Gv
namespace Gv
open Go.Value renaming slice→zS,bool→zB
open Option.some renaming inj→zI
open Go Go.Proofs Go.Proofs.Tryz
set_option maxRecDepth 20000
set_option maxHeartbeats 40000000
variable {G:Env} {K:Hp} {L:List gV} {w:World} {a1 a4 a7 a10 a13:Option Addr} {c2 c5 c8 c11 c14:Nat}
theorem aHY {a:aH} {R:Int} (hm:aDT a=some R) (d:aD G K (L) w):
  Calls prog 170 ([str a]:List Value).toArray w (dS fun v w'=>v=i64 R/\aD G K (L) w'):=by
 refine cH func170 ?_;unfold aDT at hm
 refine aC ?_;refine aK [0] (fun f w=>aJO a=some R/\aD G K (L) w) aJ ?_
 obtain ⟨e,b,ho⟩:=aB hm
 exact bY [0] b (fun c f w=>f 3=i64 c/\aD G K (L) w) aJ aJ
theorem aHk {d:aH} {by_:UInt8} {R:(List aH)} (hm:aEo d by_=some R) (J:aD G K (L) w):
  Calls prog 201 ([str d,Value.int .u8 (by_.toNat:Int)]:List Value).toArray w (dS fun v w'=>∃ l m,v=zS l R.length m/\aD G K (aF 9 K l m R::L) w'):=by
 refine cH func201 ?_;unfold aEo at hm
 refine aC ?_;refine nW ([]:List aH) fun V Z a0=>?_
 refine aC ?_;refine aK [0] (fun f w=>∃ e n o p,aFD d e n=some R/\f 5=zS o e.length p/\f 6=i64 n/\aD G K (aF 9 K o p e::L) w) aJ ?_
 obtain ⟨a2,r,ho⟩:=aB hm
 refine mW [0,1] r (fun g q h f w=>∃ i j,f 5=zS i g.length j/\f 6=i64 q/\f 7=i64 h/\aD G K (aF 9 K i j g::L) w) aJ ?_
 ·rintro g q h t f a3 hm hr ⟨i,j,a4,a6,a7,a8⟩
  unfold aCD at hm
  iterate 5 refine cO ?_
  refine aL (aEe runUnderlying9 rfl) (aC ?_)
  rcases aI hm with ⟨u,hm⟩|⟨u,hm⟩
  ·refine aC ?_;refine aK [0,1,7] (fun f w=>∃ a k b c,vQ h a k=some t/\f 5=zS b a.length c/\f 6=i64 k/\aD G K (aF 9 K b c a::L) w) ?_ ?_
   ·rintro f a9 ⟨a,k,b,c,hm,x,y,z⟩
    unfold vQ at hm
    refine aC ?_;exact ⟨_,(zI hm).symm,aR,b,c,x,y,rfl,z⟩
   exact aJ
  ·exact aJ
theorem aGk {c:aH} {R:(Int × Bool)} (hm:aAY c=some R) (u:aD G K (L) w):
  Calls prog 202 ([str c]:List Value).toArray w (dS fun v w'=>v=Value.tuple #[i64 R.1,zB R.2]/\aD G K (L) w'):=by
 refine cH func202 ?_;unfold aAY at hm
 iterate 11 refine cO ?_
 refine sV [0] (fun f w=>∃ d,sZ c d=some R/\f 4=i64 d/\aD G K (L) w) ?_ ?_
 ·rintro f x ⟨d,hm,y,z⟩
  unfold sZ at hm
  iterate 2 refine cO ?_
  refine aW [0,4] (fun f w=>∃ e,mZ c d e=some R/\f 36=zB e/\aD G K (L) w) ?_ ?_
  ·rintro f J ⟨e,hm,V,Z⟩
   unfold mZ at hm
   refine aC ?_
   rcases aI hm with ⟨l,hm⟩|⟨l,hm⟩
   ·exact aJ
   ·refine aC ?_;refine aK [4] (fun f w=>∃ g,aBv d g=some R/\f 5=i64 g/\aD G K (L) w) ?_ ?_
    ·rintro f a0 ⟨g,hm,a1,a2⟩
     unfold aBv at hm
     iterate 1 refine cO ?_
     exact sV [] (fun f w=>∃ i,aEp i=some R/\f 5=i64 i/\aD G K (L) w) aJ aJ
    obtain ⟨a3,m,ho⟩:=aB hm
    refine bQ [0,4] m (fun h i32 f w=>f 5=i64 h/\f 6=i64 i32/\aD G K (L) w) aJ ?_
    ·rintro h i32 a4 f a5 hm hr ⟨a6,n,o⟩
     unfold sY at hm
     iterate 5 refine cO ?_
     refine aL (aEe runUnderlying9 rfl) (aC ?_)
     rcases aI hm with ⟨p,hm⟩|⟨p,hm⟩
     ·refine aC ?_;refine cR (aC ?_)
      obtain ⟨c45,j,hm⟩:=aB hm
      refine aL (R_ixS runUnderlying9 rfl rfl j) ?_;obtain ⟨a7,q,hm⟩:=aB hm
      refine cG call219 (aHj q o) ?_
      rintro _ a8 ⟨rfl,r⟩
      refine aC ?_
      rcases aI hm with ⟨t,hm⟩|⟨t,hm⟩
      ·exact aJ
      ·iterate 8 refine cO ?_
       exact aL (R_ixS runUnderlying9 rfl rfl j) (aL (aQJ (a:=c45) (b:=(48:UInt8)) rfl rfl) (aL (aJw runUnderlying2 rfl ⟨_,runUnderlying5⟩) (aL (uW rfl rfl) (bH (v:=i64 (wr ((wr (10 * h))+(wr ((c45 - (48:UInt8)).toNat:Int))))) (aM (iP (aG (cK (gN n (aL (uW rfl rfl) (bH (v:=i64 (wr (i32+1))) (bF ⟨_,(zI hm).symm,aR,rfl,rfl,r⟩))))))))))))
     ·exact aJ
  exact aJ
 iterate 1 refine cO ?_
 exact aW [0,4] (fun f w=>∃ k,xD c k=some R/\f 14=zB k/\aD G K (L) w) aJ aJ
theorem aKw {d:aH} {R:((List Int) × Bool)} (hm:aFj d=some R) (u:aD G K (L) w):
  Calls prog 171 ([str d]:List Value).toArray w (dS fun v w'=>∃ j k,v=Value.tuple #[zS j R.1.length k,zB R.2]/\aD G K (aF 2 K j k R.1::L) w'):=by
 refine cH func171 ?_;unfold aFj at hm
 refine aC ?_;obtain ⟨x,y,hm⟩:=aB hm
 refine cG call170 (aHY y u) ?_
 rintro _ w3 ⟨rfl,a8⟩
 iterate 8 refine cO ?_
 refine aL (aEe runUnderlying9 rfl) (aC ?_)
 rcases aI hm with ⟨z,hm⟩|⟨z,hm⟩
 ·exact aJ
 ·iterate 5 refine cO ?_
  refine aW [0,4] (fun f w=>∃ e,tA d x e=some R/\f 31=zB e/\aD G K (L) w) ?_ ?_
  ·rintro f a9 ⟨e,hm,b0,J⟩
   unfold tA at hm
   refine aC ?_
   rcases aI hm with ⟨V,hm⟩|⟨V,hm⟩
   ·exact aJ
   ·iterate 9 refine cO ?_
    refine aL (aEe runUnderlying9 rfl) (aC ?_);obtain ⟨b1,Z,hm⟩:=aB hm
    refine aL (R_slSLH runUnderlying9 rfl rfl rfl Z) ?_;obtain ⟨l,a0,hm⟩:=aB hm
    refine cG call201 (aHk (by_:=(44:UInt8)) a0 J) ?_
    rintro _ b2 ⟨m,n,rfl,b3⟩
    refine aC ?_;refine nW ([]:List Int) fun b4 b5 b6=>?_
    refine aC ?_;refine aK [] (fun f w=>∃ g o p,aEq g=some R/\f 6=zS o g.length p/\aD G K (aF 2 K o p g::L) w) aJ ?_
    obtain ⟨b7,a1,ho⟩:=aB hm
    refine bQ [5] a1 (fun a h f w=>∃ b c,f 6=zS b a.length c/\f 7=i64 h/\aD G K (aF 2 K b c a::aF 9 K m n l::L) w) aJ ?_
    ·rintro a h a2 f b8 hm hr ⟨b,c,b9,c0,q⟩
     unfold xE at hm
     refine aC ?_
     rcases aI hm with ⟨a3,hm⟩|⟨a3,hm⟩
     ·refine aC ?_;refine cR (aC ?_)
      obtain ⟨c1,r,hm⟩:=aB hm
      have a4:=bC q (i:=1) rfl r
      refine aL (bV qX rfl a4 rfl rfl rfl r) (aC ?_);obtain ⟨a5,a6,hm⟩:=aB hm
      refine cG call202 (aGk a6 q) ?_
      rintro _ c2 ⟨rfl,c3⟩
      iterate 9 refine cO ?_
      exact aW [5,6,7,8] (fun f w=>∃ t,aBw a h a5 t=some a2/\f 61=zB t/\aD G K (aF 2 K b c a::aF 9 K m n l::L) w) aJ aJ
     ·exact aJ
  exact aJ
theorem aLw {a:aH} {R:Bool} (hm:aGJ a=some R) (b:aD G K (L) w):
  Calls prog 141 ([str a]:List Value).toArray w (dS fun v w'=>v=zB R/\aD G K (L) w'):=by
 exact aJ
theorem aLx {a:(List aH)} {R:Bool} (hm:aEr a=some R) (j:aD G K (L) w) (k:aN K a1 c2 a):
  Calls prog 104 ([zS a1 a.length c2]:List Value).toArray w (dS fun v w'=>v=zB R/\aD G K (L) w'):=by
 refine cH func104 ?_;unfold aEr at hm
 iterate 7 refine cO ?_
 refine aW [0] (fun f w=>∃ b,vS a b=some R/\f 17=zB b/\aD G K (L) w) ?_ ?_
 ·rintro f l ⟨b,hm,m,n⟩
  unfold vS at hm
  refine aC ?_
  rcases aI hm with ⟨e,hm⟩|⟨e,hm⟩
  ·exact aJ
  ·refine aC ?_;refine aK [] (fun f w=>aII=some R/\aD G K (L) w) aJ ?_
   obtain ⟨o,g,ho⟩:=aB hm
   refine bY [0] g (fun c f w=>f 3=i64 c/\aD G K (L) w) aJ ?_
   ·rintro c h f p hm hr ⟨q,r⟩
    unfold zO at hm
    refine aC ?_
    rcases aI hm with ⟨i,hm⟩|⟨i,hm⟩
    ·refine aC ?_;refine cR (aC ?_)
     exact aW [0,3] (fun f w=>∃ d,vR c d=some h/\f 52=zB d/\aD G K (L) w) aJ aJ
    ·exact aJ
 exact aJ
theorem aPO {t:aP} {e:Nat} {R:Bool} (hm:aJP t=some R) (hs:aD G K (L) w) (h3:bZ K a1 e (zC t a4 c5 a7 c8)) (h6:aN K a4 c5 t.L) (g:aN K a7 c8 t.E):
  Calls prog 49 ([bR a1 e]:List Value).toArray w (dS fun v w'=>v=zB R/\aD G K (L) w'):=by
 refine cH func49 ?_;unfold aJP at hm
 refine aC ?_;refine aW [0] (fun f w=>∃ c,aAH t c=some R/\f 39=zB c/\aD G K (L) w) ?_ ?_
 ·rintro f a5 ⟨c,hm,a6,a8⟩
  unfold aAH at hm
  refine aC ?_
  rcases aI hm with ⟨j,hm⟩|⟨j,hm⟩
  ·exact aJ
  ·refine aC ?_;refine aK [] (fun f w=>aMz=some R/\aD G K (L) w) aJ ?_
   obtain ⟨a9,k,ho⟩:=aB hm
   refine bY [0] k (fun a f w=>f 3=i64 a/\aD G K (L) w) aJ ?_
   ·rintro a h f b0 hm hr ⟨b1,b2⟩
    unfold aEs at hm
    refine aC ?_
    rcases aI hm with ⟨l,hm⟩|⟨l,hm⟩
    ·refine aC ?_;refine cR (aC ?_)
     obtain ⟨b,m,hm⟩:=aB hm
     refine aC ?_;obtain ⟨b3,b4,n⟩:=aN.el (sz:=3) rfl g m
     cases n
     refine aC ?_;refine kK fun o b5 b6=>?_
     refine kZ fun b7 b8=>?_;refine aC ?_
     refine aW [0,3,4] (fun f w=>∃ d,aCq t a b d=some h/\f 87=zB d/\aD G K (box o 90 [i64 b.F,i64 b.B,i64 b.To]::L) w) ?_ ?_
     ·rintro f b9 ⟨d,hm,c0,p⟩
      unfold aCq at hm
      refine aC ?_
      rcases aI hm with ⟨q,hm⟩|⟨q,hm⟩
      ·exact aJ
      ·iterate 4 refine cO ?_
       refine aW [0,3] (fun f w=>∃ i,aGK a i=some h/\f 100=zB i/\aD G K (L) w) aJ (aC ?_)
       rcases aI hm with ⟨r,hm⟩|⟨r,hm⟩
       ·refine aC ?_;obtain ⟨c1,u,hm⟩:=aB hm
        refine aC ?_;obtain ⟨c2,x,y⟩:=aN.el (sz:=3) rfl g u
        cases y
        refine aC ?_;obtain ⟨c3,z,J,V,c4⟩:=aD.lendBp p .head
        obtain ⟨c6,Z,hm⟩:=aB hm
        exact cG call105 (aEI Z V (x.mono z) J) aJ
       ·exact aJ
     exact aJ
    ·exact aJ
 exact aJ
theorem aKx {t:aP} {b:Nat} {R:Bool} (hm:aCU t=some R) (h:aD G K (L) w) (i:bZ K a1 b (zC t a4 c5 a7 c8)) (j:aN K a4 c5 t.L) (k:aN K a7 c8 t.E):
  Calls prog 50 ([bR a1 b]:List Value).toArray w (dS fun v w'=>v=zB R/\aD G K (L) w'):=by
 refine cH func50 ?_;unfold aCU at hm
 refine aC ?_;refine aK [] (fun f w=>aHO=some R/\aD G K (L) w) aJ ?_
 obtain ⟨l,d,ho⟩:=aB hm
 refine bY [0] d (fun a f w=>f 3=i64 a/\aD G K (L) w) aJ ?_
 ·rintro a e f m hm hr ⟨n,o⟩
  unfold xF at hm
  refine aC ?_
  rcases aI hm with ⟨g,hm⟩|⟨g,hm⟩
  ·refine aC ?_;refine cR (aC ?_)
   exact aW [0,3] (fun f w=>∃ c,tB a c=some e/\f 65=zB c/\aD G K (L) w) aJ aJ
  ·exact aJ
theorem aEK {t:aP} {a:Nat} {R:Bool} (hm:aCr t=some R) (c:aD G K (L) w) (d:bZ K a1 a (zC t a4 c5 a7 c8)) (e:aN K a4 c5 t.L) (g:aN K a7 c8 t.E):
  Calls prog 19 ([bR a1 a]:List Value).toArray w (dS fun v w'=>v=zB R/\aD G K (L) w'):=by
 refine cH func19 ?_;unfold aCr at hm
 iterate 6 refine cO ?_
 exact aW [] (fun f w=>∃ b,aDM b=some R/\f 2=zB b/\aD G K (L) w) aJ aJ
theorem aLy {a:(List Int)} {low c:Int} {R:Bool} (hm:aEt a low c=some R) (i:aD G K (L) w) (j:aN K a1 c2 a):
  Calls prog 90 ([zS a1 a.length c2,i64 low,i64 c]:List Value).toArray w (dS fun v w'=>v=zB R/\aD G K (L) w'):=by
 refine cH func90 ?_;unfold aEt at hm
 refine aC ?_;refine aK [] (fun f w=>aIJ=some R/\aD G K (L) w) aJ ?_
 obtain ⟨k,e,ho⟩:=aB hm
 refine bY [0,1,2] e (fun b f w=>f 7=i64 b/\aD G K (L) w) aJ ?_
 ·rintro b g f l hm hr ⟨m,n⟩
  unfold zU at hm
  refine aC ?_
  rcases aI hm with ⟨h,hm⟩|⟨h,hm⟩
  ·refine aC ?_;refine cR (aC ?_)
   exact aW [0,1,2,7] (fun f w=>∃ d,zQ b d=some g/\f 37=zB d/\aD G K (L) w) aJ aJ
  ·exact aJ
theorem aJU {a:(List aH)} {R:Bool} (hm:aBx a=some R) (d:aD G K (L) w) (e:aN K a1 c2 a):
  Calls prog 133 ([zS a1 a.length c2]:List Value).toArray w (dS fun v w'=>v=zB R/\aD G K (L) w'):=by
 refine cH func133 ?_;unfold aBx at hm
 refine aC ?_;refine aK [] (fun f w=>aHh=some R/\aD G K (L) w) aJ ?_
 obtain ⟨g,b,ho⟩:=aB hm
 exact bY [0] b (fun c f w=>f 3=i64 c/\aD G K (L) w) aJ aJ
theorem aLz {a:(List aH)} {R:Bool} (hm:aEu a=some R) (g:aD G K (L) w) (h:aN K a1 c2 a):
  Calls prog 91 ([zS a1 a.length c2]:List Value).toArray w (dS fun v w'=>v=zB R/\aD G K (L) w'):=by
 refine cH func91 ?_;unfold aEu at hm
 iterate 7 refine cO ?_
 refine aW [0] (fun f w=>∃ b,zW a b=some R/\f 11=zB b/\aD G K (L) w) ?_ ?_
 ·rintro f i ⟨b,hm,j,k⟩
  unfold zW at hm
  refine aC ?_
  rcases aI hm with ⟨c,hm⟩|⟨c,hm⟩
  ·exact aJ
  ·refine aC ?_;refine aK [] (fun f w=>aIK=some R/\aD G K (L) w) aJ ?_
   obtain ⟨l,d,ho⟩:=aB hm
   exact bY [0] d (fun e f w=>f 3=i64 e/\aD G K (L) w) aJ aJ
 exact aJ
theorem aPP {p:aO} {a:Nat} {R:Bool} (hm:aIn p=some R) (b:aD G K (L) w) (d:bZ K a1 a (zE p a4 c5 a7 c8 a10 c11 a13 c14)) (e:aN K a4 c5 p.S.L) (g:aN K a7 c8 p.S.E) (j:aN K a10 c11 p.M) (k:aN K a13 c14 p.C):
  Calls prog 42 ([bR a1 a]:List Value).toArray w (dS fun v w'=>v=zB R/\aD G K (L) w'):=by
 refine cH func42 ?_;unfold aIn at hm
 refine aC ?_;refine aW [] (fun f w=>∃ c,aEv c=some R/\f 2=zB c/\aD G K (L) w) aJ (aEi ?_)
 refine aC ?_;obtain ⟨h,i,hm⟩:=aB hm
 exact aDG (vs:=[bR a1 (a+0)]) (v:=zB h) call19 rfl (fun _ b=>(aEK i b (bZ.sub (t:=0) (m:=4) d rfl) e g)) aJ
theorem aFI {t:aP} {j:Nat} {k:Int} {R:(List Edge)} (hm:aGe t k=some R) (y:aD G K (L) w) (z:bZ K a1 j (zC t a4 c5 a7 c8)) (J:aN K a4 c5 t.L) (V:aN K a7 c8 t.E):
  Calls prog 93 ([bR a1 j,i64 k]:List Value).toArray w (dS fun v w'=>∃ l m,v=zS l R.length m/\aD G K (aF 90 K l m R::L) w'):=by
 refine cH func93 ?_;unfold aGe at hm
 refine aC ?_;refine nW ([]:List Edge) fun Z a0 a2=>?_
 refine aC ?_;refine aK [] (fun f w=>∃ d n o,aHP d=some R/\f 5=zS n d.length o/\aD G K (aF 90 K n o d::L) w) aJ ?_
 obtain ⟨a3,p,ho⟩:=aB hm
 refine bQ [0,1] p (fun e g f w=>∃ h i,f 5=zS h e.length i/\f 6=i64 g/\aD G K (aF 90 K h i e::L) w) aJ ?_
 ·rintro e g q f a5 hm hr ⟨h,i,a6,a8,a9⟩
  unfold aCW at hm
  refine aC ?_
  rcases aI hm with ⟨r,hm⟩|⟨r,hm⟩
  ·refine aC ?_;refine aK [0,1,6] (fun f w=>∃ a b c,aCV g a=some q/\f 5=zS b a.length c/\aD G K (aF 90 K b c a::L) w) ?_ ?_
   ·rintro f b0 ⟨a,b,c,hm,u,x⟩
    unfold aCV at hm
    refine aC ?_;exact ⟨_,(zI hm).symm,aR,b,c,u,rfl,x⟩
   exact aJ
  ·exact aJ
theorem aMG {t:aP} {j:Nat} {k l:Int} {R:(List Int)} (hm:aGf t k l=some R) (J:aD G K (L) w) (V:bZ K a1 j (zC t a4 c5 a7 c8)) (Z:aN K a4 c5 t.L) (h9:aN K a7 c8 t.E):
  Calls prog 136 ([bR a1 j,i64 k,i64 l]:List Value).toArray w (dS fun v w'=>∃ m n,v=zS m R.length n/\aD G K (aF 2 K m n R::L) w'):=by
 refine cH func136 ?_;unfold aGf at hm
 refine aC ?_;refine nW ([]:List Int) fun a2 a3 a5=>?_
 refine aC ?_;refine aK [] (fun f w=>∃ i o p,aGL i=some R/\f 7=zS o i.length p/\aD G K (aF 2 K o p i::L) w) aJ ?_
 obtain ⟨a6,u,ho⟩:=aB hm
 refine bQ [0,1,2] u (fun a b f w=>∃ c d,f 7=zS c a.length d/\f 8=i64 b/\aD G K (aF 2 K c d a::L) w) aJ ?_
 ·rintro a b q f a8 hm hr ⟨c,d,a9,b0,b1⟩
  unfold aBz at hm
  refine aC ?_
  rcases aI hm with ⟨x,hm⟩|⟨x,hm⟩
  ·refine aC ?_;refine aK [0,1,2,8] (fun f w=>∃ e g h,aBy b e=some q/\f 7=zS g e.length h/\aD G K (aF 2 K g h e::L) w) ?_ ?_
   ·rintro f b2 ⟨e,g,h,hm,y,z⟩
    unfold aBy at hm
    refine aC ?_;exact ⟨_,(zI hm).symm,aR,g,h,y,rfl,z⟩
   iterate 1 refine cO ?_
   exact aW [0,1,2,7,8] (fun f w=>∃ r,aDN t a b r=some q/\f 40=zB r/\aD G K (aF 2 K c d a::L) w) aJ aJ
  ·exact aJ
theorem aGP {d:aP} {a:Nat} {k:Int} {b:aH} {R:(Int × Bool)} (hm:aJQ d k b=some R) (c:aD G K (L) w) (e:bZ K a1 a (zC d a4 c5 a7 c8)) (g:aN K a4 c5 d.L) (h:aN K a7 c8 d.E):
  Calls prog 94 ([bR a1 a,i64 k,str b]:List Value).toArray w (dS fun v w'=>v=Value.tuple #[i64 R.1,zB R.2]/\aD G K (L) w'):=by
 exact aJ
end Gv
