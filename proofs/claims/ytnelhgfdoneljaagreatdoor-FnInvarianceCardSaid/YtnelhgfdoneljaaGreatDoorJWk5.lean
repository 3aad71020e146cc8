/- Walks, printed by program. -/
import Derived.Test.YtnelhgfdoneljaaGreatDoorJWk3
set_option linter.all false
namespace Gv
open Gv.Hp renaming le_refl→zR
open Go.Value renaming slice→zS,bool→zB,agg→zA,tuple→zT
open Option.some renaming inj→zI
open Gv.Hp renaming le_trans→zL
open Go Go.Proofs Go.Proofs.Tryz
set_option maxRecDepth 20000
set_option maxHeartbeats 40000000
variable {G:tO} {K Kf:Hp} {L:List fJ} {w:World} {a1 a4 a7:Option Addr} {c2 c5 c8:Nat}
theorem aHZ {t:bQ} {R:Bool} (hm:rT t=some R) (y:aF G K (L) w) (hG:G.lo=0) (k:bL K a1 c2 t.L) (l:bL K a4 c5 t.E):
  Calls prog 21 ([zA (zCa t a1 c2 a4 c5)]:List Value).toArray w (eC fun v w'=>v=zB R/\aF G K (L) w'):=by
 let b:=(zC t a1 c2 a4 c5)
 refine aN func21 rfl (by kernel_rfl) (by show (1:Nat)<=109;decide) ?_;unfold rT at hm
 refine aJ (gF (v:=zA (zCa t a1 c2 a4 c5)) (vs:=b) y rfl rfl (fun c w8 b8=>(aI (v:=zB false) (aH (aK (aK (bP [1] (fun f w=>∃ g,nY t g=some R/\f 30=zB g/\aF G K (box c 29 b::L) w) ?_ ?_)))))))
 ·rintro f b9 ⟨g,hm,z,J⟩
  unfold nY at hm
  refine aC ?_
  rcases aL hm with ⟨m,hm⟩|⟨m,hm⟩
  ·exact aM
  ·refine bG m z (aW (aC (aK (aJ (aD (bH (t':=2) pM rfl rfl) (aD (eM aCV J (i:=0) rfl rfl rfl) (aD (bC (len:=t.L.length) fD rfl) (aG (v:=i64 0) (aH (aO [1] (fun f w=>yM t=some R/\aF G K (box c 29 b::L) w) ?_ ?_))))))))))
   ·rintro f c0 ⟨hm,Z⟩
    unfold yM at hm
    refine aC (aK (aJ (aD (bH (t':=3) fK rfl rfl) (aD (eM oJ Z (i:=0) rfl rfl rfl) (aD (bC (len:=t.E.length) cP rfl) (aG (v:=i64 0) (aH (aO [] (fun f w=>aFG=some R/\aF G K (L) w) aM ?_))))))));obtain ⟨c1,a0,ho⟩:=aB hm
    refine eY [1,65,66] a0 (fun d f w=>f 67=i64 d/\aF G K (box c 29 b::L) w) aM ?_
    ·rintro d a2 f c3 hm hr ⟨h,n⟩
     unfold uB at hm
     refine aJ (aD (cK h rfl) (aH (aK ?_)))
     rcases aL hm with ⟨o,hm⟩|⟨o,hm⟩
     ·refine aR o rfl (aW (aC (aK (cD (aJ (aY h ?_))))));obtain ⟨a,p,hm⟩:=aB hm
      refine aD (dM cP rfl l rfl rfl h p) ?_;obtain ⟨c4,a3,a5⟩:=bL.el (sz:=3) rfl l p
      cases a5
      exact aD (jQ (t:=0) (vs:=[i64 a.F,i64 a.B,i64 a.To]) tE n a3 rfl rfl rfl) (bV (vs:=[i64 0,i64 0,i64 0]) zeroValue51 n rfl (fun a6 c6 a7=>(aI (v:=i64 d) (dJ (i:=0) (ns:=[i64 a.F,i64 a.B,i64 a.To]) (us:=[i64 a.F,i64 a.B,i64 a.To]) sizeOf51 a7 rfl rfl rfl rfl rfl (eV rfl) rfl rfl (fun a8 (c7:aF G K (box a6 51 [i64 a.F,i64 a.B,i64 a.To]::box c 29 b::L) a8)=>(aH (aK (bP [1,65,66,67] (fun f w=>∃ q,nX d q=some a2/\f 107=zB q/\aF G K (box c 29 b::L) w) aM aM))))))))
     ·exact aM
   obtain ⟨c8,a9,ho⟩:=aB hm
   refine eY [1,32,33] a9 (fun e f w=>f 34=i64 e/\aF G K (box c 29 b::L) w) aM ?_
   ·rintro e b0 f c9 hm hr ⟨j,b1⟩
    unfold uC at hm
    refine aJ (aD (cK j rfl) (aH (aK ?_)))
    rcases aL hm with ⟨r,hm⟩|⟨r,hm⟩
    ·refine aR r rfl (aW (aC (aK (cD (aJ (aY j ?_))))));obtain ⟨b2,u,hm⟩:=aB hm
     refine aD (dM fD rfl k rfl rfl j u) ?_;obtain ⟨d0,b3,b4⟩:=bL.el (sz:=1) rfl k u
     cases b4
     exact aD (aU (t:=0) aFW b1 b3 rfl rfl) (aI (v:=i64 e) (aI (v:=str b2) (aH (aK (bP [1,32,33,34] (fun f w=>∃ x,qN e x=some b0/\f 62=zB x/\aF G K (box c 29 b::L) w) aM aM)))))
    ·exact aM
 exact aM
theorem aER {a:(List (List Int))} {R:(List Int)} (hm:aAn a=some R) (d:aF G K (L) w) (e:Hp.le Kf K) (g:bL Kf a1 c2 a):
  Calls prog 45 ([zS a1 a.length c2]:List Value).toArray w (eC fun v w'=>∃ b c,v=zS b R.length c/\bL Kf b c R/\aF G K (L) w'):=by
 exact aM
theorem aFL {n:Int} {R:(List Int)} (hm:aGE n=some R) (g:aF G K (L) w):
  Calls prog 71 ([i64 n]:List Value).toArray w (eC fun v w'=>∃ c d,v=zS c R.length d/\aF G K (own 2 K c d R::L) w'):=by
 refine aN func71 rfl (by kernel_rfl) (by show (1:Nat)<=5;decide) ?_;unfold aGE at hm
 refine aJ (aI (v:=zS none 0 0) (aH (aJ (aG (v:=i64 n) ?_))));obtain ⟨a,h,hm⟩:=aB hm
 refine xD (e:=(0:Int)) bN kQ rfl rfl g rfl rfl rfl h rfl (fun b i (j:aF G K (own 2 K b a.length a::L) i)=>(aI (v:=zS b a.length a.length) (aH ?_)));obtain rfl:=zI hm
 exact tC (pJ results71 rfl ⟨b,a.length,rfl,j⟩)
theorem aJK {j R:(List Int)} (hm:aED j=some R) (hs:aF G K (L) w) (y:bL K a1 c2 j):
  Calls prog 112 ([zS a1 j.length c2]:List Value).toArray w (eC fun v w'=>∃ J Z,v=zS J R.length Z/\aF G K (own 2 K J Z R::L) w'):=by
 refine aN func112 rfl (by kernel_rfl) (by show (1:Nat)<=39;decide) ?_;unfold aED at hm
 refine aJ (aI (v:=zS none 0 0) (aH (aJ (aLu Int Int hs ?_))))
 intro c w5 (b1:aF G K (mpo c ([]:(List (Int × Int)))::L) w5)
 refine aI (v:=Value.map (some c)) (aH (aJ (aG (v:=zS a1 j.length c2) (aD (bC (len:=j.length) bN rfl) ?_))));obtain ⟨a,q8,hm⟩:=aB hm
 refine xD (e:=(0:Int)) bN kQ rfl rfl b1 rfl rfl rfl q8 rfl ?_
 intro d b3 (c7:aF G K (own 2 K d a.length a::mpo c ([]:(List (Int × Int)))::L) b3)
 refine aI (v:=zS d a.length a.length) (aH (aK (aJ (aG (v:=zS a1 j.length c2) (aD (bC (len:=j.length) bN rfl) (aG (v:=i64 0) (aH (aO [] (fun f w=>∃ u,aHI u=some R/\f 4=zS d u.length a.length/\aF G K (own 2 K d a.length u::L) w) aM ?_))))))));obtain ⟨c8,b4,ho⟩:=aB hm
 refine oI [3,13,14] b4 (fun b l m f w=>f 4=zS d l.length a.length/\f 15=i64 m/\aF G K (own 2 K d a.length l::mpo c b::L) w) aM ?_
 ·rintro b l m b5 f c9 hm hr ⟨a0,p,q⟩
  unfold pH at hm
  refine aJ (aD (cK p rfl) (aH (aK ?_)))
  rcases aL hm with ⟨a2,hm⟩|⟨a2,hm⟩
  ·refine aR a2 rfl (aW (aC (aK (cD (aJ (aY p ?_))))));obtain ⟨g,a3,hm⟩:=aB hm
   refine aD (dM bN rfl y rfl rfl p a3) ?_;obtain ⟨d0,b6,b7⟩:=bL.el (sz:=1) rfl y a3
   cases b7
   refine aD (aU (t:=0) cR q b6 rfl rfl) (aI (v:=i64 m) (aI (v:=i64 g) (aH (aJ (aG (v:=Value.map (some c)) (aG (v:=i64 g) (aD (R_look (kv:=b) (k:=g) (z:=(0:Int)) runUnderlying179 ko_2 zeroValue2 q (i:=1) rfl rfl rfl) (aG (v:=zT #[i64 ((jG b g).getD 0),zB ((jG b g).isSome)]) (aD (dC rfl rfl) (aD (dC rfl rfl) (aI (v:=i64 ((jG b g).getD 0)) (aI (v:=zB ((jG b g).isSome)) (aH (gT [3,4,5,13,14,15] (fun f w=>∃ r o,zO l m r o=some b5/\f 7=i64 o/\aF G K (own 2 K d a.length l::mpo c r::L) w) ?_ ?_))))))))))))))
   ·rintro f d1 ⟨r,o,hm,b8,a4⟩
    unfold zO at hm
    refine aS (aY a0 (aG (v:=i64 m) (aY b8 ?_)));obtain ⟨d2,x,hm⟩:=aB hm
    have b9:=cA a4 (i:=0) rfl x
    refine aD (cM bN rfl b9 rfl rfl rfl x) ?_;obtain ⟨c0,a5,hm⟩:=aB hm
    exact gA (i:=0) (t:=0) (ns:=[i64 o]) (e':=(o:Int)) sizeOf2 a4 rfl (zR _) rfl rfl rfl x a5 rfl rfl (eV rfl) rfl (fun cs h=>by cases h;rfl) (fun c1 (c3:aF G K (own 2 K d a.length c0::mpo c r::L) c1)=>(aV (cH (aC (aS (aD (cN p rfl) (aG (v:=i64 (wr (m+1))) (aH ⟨_,(zI hm).symm,bF,(Eq.trans a0 (congrArg (fun n=>zS d n a.length) (eL a5))),rfl,c3⟩))))))))
   refine aJ (aG (v:=zB ((jG b g).isSome)) (aD (aDH rfl) (aH ?_)))
   rcases aL hm with ⟨a6,hm⟩|⟨a6,hm⟩
   ·refine aR a6 rfl (aJ (aG (v:=Value.map (some c)) (aD (R_lenM runUnderlying179 q (i:=1) rfl rfl) (aI (v:=i64 (b.length:Int)) (aH (aS (aG (v:=Value.map (some c)) (aG (v:=i64 g) (aG (v:=i64 (b.length:Int)) ?_)))))))));obtain ⟨a7,c4,hm⟩:=aB hm
    exact aIy (i:=1) (k:=g) (v:=(b.length:Int)) runUnderlying179 ko_2 q rfl rfl rfl rfl c4 (fun c5 (c6:aF G K (own 2 K d a.length l::mpo c a7::L) c5)=>(aH ⟨bF,a7,(b.length:Int),hm,rfl,c6⟩))
   ·exact aM
  ·exact aM
theorem mC {a b:(List Int)} {R:Bool} (hm:dR a b=some R) (g:aF G K (L) w) (h:bL K a1 c2 a) (i:bL K a4 c5 b):
  Calls prog 72 ([zS a1 a.length c2,zS a4 b.length c5]:List Value).toArray w (eC fun v w'=>v=zB R/\aF G K (L) w'):=by
 refine aN func72 rfl (by kernel_rfl) (by show (2:Nat)<=26;decide) ?_;unfold dR at hm
 refine aJ (aI (v:=zB false) (aH (aK (aJ (aG (v:=zS a1 a.length c2) (aD (bC (len:=a.length) bN rfl) (aG (v:=zS a4 b.length c5) (aD (bC (len:=b.length) bN rfl) (aD (aFx rfl rfl) (aH ?_))))))))))
 rcases aL hm with ⟨c,hm⟩|⟨c,hm⟩
 ·exact aM
 ·refine bG c rfl (aW (aC (aK (aJ (aG (v:=zS a1 a.length c2) (aD (bC (len:=a.length) bN rfl) (aG (v:=i64 0) (aH (aO [] (fun f w=>nC=some R/\aF G K (L) w) aM ?_)))))))));obtain ⟨j,d,ho⟩:=aB hm
  exact eY [0,1,12] d (fun e f w=>f 13=i64 e/\aF G K (L) w) aM aM
theorem aAd {k p:(List Int)} {a:Nat} {R:Bool} (hm:aAo k p=some R) (b:aF G K (L) w) (c:bL K a1 c2 k) (d:dT K a4 a [zS a7 p.length c8]) (e:bL K a7 c8 p):
  Calls prog 111 ([zS a1 k.length c2,bY a4 a]:List Value).toArray w (eC fun v w'=>v=zB R/\aF G K (L) w'):=by
 exact aM
theorem iR {a:(List (List Int))} {d:(List Int)} {b:Nat} {R:Int} (hm:cX a d=some R) (y:aF G K (L) w) (e:bL K a1 c2 a) (n:dT K a4 b [zS a7 d.length c8]) (o:bL K a7 c8 d):
  Calls prog 110 ([zS a1 a.length c2,Value.func (.func 111) #[] #[bY a4 b]]:List Value).toArray w (eC fun v w'=>v=i64 R/\aF G K (L) w'):=by
 refine aN func110 rfl (by kernel_rfl) (by show (2:Nat)<=19;decide) ?_;unfold cX at hm
 refine aJ (aI (v:=i64 0) (aH (aK (aJ (aG (v:=zS a1 a.length c2) (aD (bC (len:=a.length) iG rfl) (aG (v:=i64 0) (aH (aO [] (fun f w=>jH=some R/\aF G K (L) w) aM ?_)))))))));obtain ⟨z,p,ho⟩:=aB hm
 refine eY [0,1,7] p (fun c f w=>f 8=i64 c/\aF G K (L) w) aM ?_
 ·rintro c J f Z hm hr ⟨g,h⟩
  unfold bW at hm
  refine aJ (aD (cK g rfl) (aH (aK ?_)))
  rcases aL hm with ⟨i,hm⟩|⟨i,hm⟩
  ·refine aR i rfl (aW (aC (aK (cD (aJ (aY g (aI (v:=i64 c) (aH (aJ (aG (v:=Value.func (.func 111) #[] #[bY a4 b]) (aG (v:=zS a1 a.length c2) (aG (v:=i64 c) ?_))))))))))));obtain ⟨j,k,hm⟩:=aB hm
   refine aD (dM iG rfl e rfl rfl rfl k) ?_;obtain ⟨a0,q,r⟩:=bL.el (sz:=1) rfl e k
   obtain ⟨l,m,rfl,u⟩:=r
   refine aD (aU (t:=0) vU h q rfl rfl) ?_;obtain ⟨a2,x,hm⟩:=aB hm
   exact mT (vs:=[zS l j.length m]) (caps:=[bY a4 b]) (us:=[zS l j.length m,bY a4 b]) rfl call111 rfl rfl (aAd x h u n o) aM
  ·exact aM
theorem aCq {a:(List (List Int))} {R:(List Int)} (hm:wK a=some R) (hs:aF G K (L) w) (g:bL K a1 c2 a):
  Calls prog 75 ([zS a1 a.length c2]:List Value).toArray w (eC fun v w'=>∃ o p,v=zS o R.length p/\aF G K (own 2 K o p R::L) w'):=by
 refine aN func75 rfl (by kernel_rfl) (by show (1:Nat)<=29;decide) ?_;unfold wK at hm
 refine aJ (aI (v:=zS none 0 0) (aH (aJ (aI (v:=zS none 0 0) (aH (aK (aJ (aG (v:=zS a1 a.length c2) (aD (bC (len:=a.length) iG rfl) (aG (v:=i64 0) (aH (aO [] (fun f w=>∃ h q r,aAp h=some R/\f 3=zS q h.length r/\aF G K (own 2 K q r h::L) w) aM ?_))))))))))))
 have c3:=aF.nil (α:=Int) hs 2 K
 obtain ⟨c4,a3,ho⟩:=aB hm
 refine bO [0,7,8] a3 (fun b c f w=>∃ d e,f 3=zS d b.length e/\f 9=i64 c/\aF G K (own 2 K d e b::L) w) aM ?_
 ·rintro b c a4 f c5 hm hr ⟨d,e,c7,j,u⟩
  unfold iZ at hm
  refine aJ (aD (cK j rfl) (aH (aK ?_)))
  rcases aL hm with ⟨x,hm⟩|⟨x,hm⟩
  ·refine aR x rfl (aW (aC (aK (cD (aJ (aY j ?_))))));obtain ⟨k,y,hm⟩:=aB hm
   refine aD (dM iG rfl g rfl rfl j y) ?_;obtain ⟨c8,a6,a7⟩:=bL.el (sz:=1) rfl g y
   obtain ⟨l,m,rfl,a8⟩:=a7
   refine aD (aU (t:=0) vU u a6 rfl rfl) (bV (vs:=[zS none 0 0]) zeroValue32 u rfl (fun n c9 a9=>(aI (v:=i64 c) (dJ (i:=0) (ns:=[zS l k.length m]) (us:=[zS l k.length m]) sizeOf32 a9 rfl rfl rfl rfl rfl (eV rfl) rfl rfl (fun b0 (b1:aF G K (box n 32 [zS l k.length m]::own 2 K d e b::L) b0)=>(aH (aJ (aG (v:=zS a1 a.length c2) (aG (v:=i64 c) ?_)))))))));obtain ⟨b2,z,hm⟩:=aB hm
   obtain ⟨b3,b4,J⟩:=Cut.ex 1 a1 c2 0
   have b5:=bL.cut' g z J
   refine aD (aIB iG g.room J rfl rfl rfl z) (aD (pK (vs:=[Value.pointer (some ⟨n,0,none⟩)]) rfl) ?_);obtain ⟨d0,Z,b6,b7,b8⟩:=aF.lendBp b1 .head
   obtain ⟨b9,c0,hm⟩:=aB hm
   refine aP (vs:=[zS b3 b2.length b4,Value.func (.func 111) #[] #[bY (some ⟨n,0,none⟩) 0]]) call110 rfl (iR c0 b7 (b5.mono Z) b6 (a8.mono Z)) ?_
   rintro _ d1 ⟨rfl,c1⟩
   have d2:=b8 _ _ c1
   exact aI (v:=i64 b9) (aH (gT [0,3,7,8,9] (fun f w=>∃ a0,uN b c a0=some a4/\f 6=i64 a0/\aF G K (own 2 K d e b::L) w) aM aM))
  ·exact aM
theorem eJ {a R:(List Int)} (hm:dD a=some R) (hs:aF G K (own 2 K a1 c2 a::L) w):
  Calls prog 74 ([zS a1 a.length c2]:List Value).toArray w (eC fun v w'=>∃ a3 a4,v=zS a3 R.length a4/\aF G K (own 2 K a3 a4 R::L) w'):=by
 refine aN func74 rfl (by kernel_rfl) (by show (1:Nat)<=61;decide) ?_;unfold dD at hm
 refine aJ (aI (v:=zS none 0 0) (aH (aK (aJ (aG (v:=zS a1 a.length c2) (aD (bC (len:=a.length) bN rfl) (aD (cK rfl rfl) (aH ?_))))))))
 rcases aL hm with ⟨c3,hm⟩|⟨c3,hm⟩
 ·exact aM
 ·refine bG c3 rfl (aW (aC (aK (aJ (aI (v:=i64 1) (aH (aO [0] (fun f w=>lW a=some R/\aF G K (own 2 K a1 c2 a::L) w) aM ?_)))))));obtain ⟨f3,d5,ho⟩:=aB hm
  refine eY [0] d5 (fun d f w=>f 3=i64 d/\aF G K (own 2 K a1 c2 a::L) w) aM ?_
  ·rintro d a6 f f4 hm hr ⟨m,b⟩
   unfold dP at hm
   refine aK (aJ (aY m (aG (v:=zS a1 a.length c2) (aD (bC (len:=a.length) bN rfl) (aD (cK rfl rfl) (aH ?_))))))
   rcases aL hm with ⟨a7,hm⟩|⟨a7,hm⟩
   ·refine aR a7 rfl (aW (aC (aK (aO [0] (fun f w=>eR d=some a6/\f 3=i64 d/\aF G K (own 2 K a1 c2 a::L) w) ?_ ?_))))
    ·rintro f f5 ⟨hm,d6,d7⟩
     unfold eR at hm
     exact aC (aS (aY d6 (aD (cN rfl rfl) (aI (v:=i64 (wr (d+1))) (aH ⟨_,(zI hm).symm,bF,rfl,d7⟩)))))
    refine aK (mK (C:=fun w'=>aF G K (own 2 K a1 c2 a::L) w') Tryz_mixed (by kernel_rfl) (aF.mono b (dZ.drew _)) (cC (fun _ b=>aT (v:=zS a1 a.length c2) rfl) (cC (fun _ b=>aT m) ?_)));obtain ⟨f6,Z,hm⟩:=aB hm
    have e:=cA b (i:=0) rfl Z
    refine cC (fun _ b=>cM bN rfl e rfl rfl rfl Z) (cC (fun _ b=>lA (t:=0) cR b (i:=0) rfl Z rfl rfl rfl) (cC (fun _ b=>aT (v:=zS a1 a.length c2) rfl) (cC (fun _ b=>aT m) (cC (fun _ b=>oH rfl rfl) ?_))));obtain ⟨f7,a8,hm⟩:=aB hm
    refine cC (fun _ b=>cM bN rfl e rfl rfl rfl a8) (cC (fun _ b=>lA (t:=0) cR b (i:=0) rfl a8 rfl rfl rfl) (cC (fun _ b=>qS rfl rfl) (uV (fun f8 d8=>(aC ?_)))))
    rcases aL hm with ⟨a9,hm⟩|⟨a9,hm⟩
    ·refine aR a9 rfl (aJ (aG (v:=zS a1 a.length c2) (aY m ?_)));obtain ⟨g,o,hm⟩:=aB hm
     have p:=sH d8 (i:=0) rfl
     obtain ⟨j,k,q⟩:=Cut.ex 1 a1 c2 d
     refine aD (aEh bN p q rfl rfl rfl o) (aI (v:=zS j g.length k) (aH (aK (aJ (aI (v:=i64 1) (aH (aO [] (fun f w=>∃ r u,eS r u=some a6/\f 0=zS a1 r.length c2/\f 3=i64 u/\aF G K (own 2 K a1 c2 r::L) w) ?_ ?_)))))))
     ·rintro f f9 ⟨r,u,hm,b0,b1,b2⟩
      unfold eS at hm
      refine aC (aJ (aY b0 (aY b1 ?_)));obtain ⟨g0,d9,hm⟩:=aB hm
      have e0:=sH b2 (i:=0) rfl
      obtain ⟨g1,g2,b3⟩:=Cut.ex 1 a1 c2 u
      refine aD (aEh bN e0 b3 rfl rfl rfl d9) ?_;obtain ⟨b4,b5,hm⟩:=aB hm
      refine aHf bN kQ rfl b2 (i:=0) rfl b3 rfl rfl b5 (fun b6 (b7:aF G K (own 2 K a1 c2 b4::L) b6)=>(aH (aJ (aY (v:=zS a1 b4.length c2) (Eq.trans b0 (congrArg (fun n=>zS a1 n c2) (aGj b5))) (aY b1 ?_)))));obtain ⟨a0,b8,hm⟩:=aB hm
      have e1:=sH b7 (i:=0) rfl
      obtain ⟨b9,c0,c1⟩:=Cut.ex 1 a1 c2 0
      refine aD (aIB bN e1 c1 rfl rfl rfl b8) (aI (v:=zS b9 a0.length c0) (aH (tC (aCR (mG (mG (mG ?_)))))))
      have e2:=hr _ (zI hm).symm
      subst e2
      have hm:(some a0)=some R:=ho
      clear hr ho
      have g3:aF G K (own 2 K b9 c0 a0::L) b6:=aF.cutP b7 (i:=0) rfl b8 c1
      exact aM
     obtain ⟨g4,e3,ho⟩:=aB hm
     refine oI [4] e3 (fun x y z f w=>f 0=zS a1 x.length c2/\f 3=i64 y/\f 5=i64 z/\aF G K (own 2 K a1 c2 x::L) w) aM ?_
     ·rintro x y z e4 f g5 hm hr ⟨c4,c5,l,c⟩
      unfold dO at hm
      refine aK (aJ (aY l (aG (v:=zS j g.length k) (aD (bC (len:=g.length) bN rfl) (aD (cK rfl rfl) (aH ?_))))))
      rcases aL hm with ⟨c6,hm⟩|⟨c6,hm⟩
      ·refine aR c6 rfl (aW (aC (aK (aO [4,5] (fun f w=>∃ J a2,dN z J a2=some e4/\f 0=zS a1 J.length c2/\f 3=i64 a2/\aF G K (own 2 K a1 c2 J::L) w) ?_ ?_))))
       ·rintro f g6 ⟨J,a2,hm,e5,e6,e7⟩
        unfold dN at hm
        exact aC (aS (aY l (aD (cN rfl rfl) (aI (v:=i64 (wr (z+1))) (aH ⟨_,(zI hm).symm,bF,e5,e6,rfl,e7⟩)))))
       refine aK (mK (C:=fun w'=>aF G K (own 2 K a1 c2 x::L) w') Tryz_mixed (by kernel_rfl) (aF.mono c (dZ.drew _)) (cC (fun _ c=>aT (v:=zS j g.length k) rfl) (cC (fun _ c=>aT l) ?_)));obtain ⟨g7,c7,hm⟩:=aB hm
       obtain ⟨c8,c9,hm⟩:=aB hm
       refine cC (fun _ c=>aGs bN e q o p rfl rfl rfl c7 rfl) (cC (fun _ c=>lA (t:=0) cR c (i:=0) rfl c9 rfl rfl rfl) (cC (fun _ c=>aT (v:=zS j g.length k) rfl) (cC (fun _ c=>aT l) (cC (fun _ c=>oH rfl rfl) ?_))));obtain ⟨g8,e8,hm⟩:=aB hm
       obtain ⟨g9,e9,hm⟩:=aB hm
       refine cC (fun _ c=>aGs bN e q o p rfl rfl rfl e8 rfl) (cC (fun _ c=>lA (t:=0) cR c (i:=0) rfl e9 rfl rfl rfl) (cC (fun _ c=>aFx rfl rfl) (uV (fun h0 d0=>(aC ?_)))))
       rcases aL hm with ⟨d1,hm⟩|⟨d1,hm⟩
       ·refine aR d1 rfl (aJ (aY c4 (aY c5 (aG (v:=zS j g.length k) (aY l (aD (aGs bN e q o p rfl rfl rfl c7 rfl) (aD (lA (t:=0) cR d0 (i:=0) rfl c9 rfl rfl rfl) ?_)))))));obtain ⟨h1,d2,hm⟩:=aB hm
        refine aD (cM bN rfl e rfl rfl rfl d2) ?_;obtain ⟨d3,d4,hm⟩:=aB hm
        exact gA (i:=0) (t:=0) (ns:=[i64 c8]) (e':=(c8:Int)) sizeOf2 d0 rfl (zR _) rfl rfl rfl d2 d4 rfl rfl (eV rfl) rfl (fun cs h=>by cases h;rfl) (fun f0 (f1:aF G K (own 2 K a1 c2 d3::L) f0)=>(aH (aS (aY c5 (aD (cN rfl rfl) (aI (v:=i64 (wr (y+1))) (aV (cH (aC ⟨bF,d3,wr (y+1),hm,(Eq.trans c4 (congrArg (fun n=>zS a1 n c2) (eL d4))),rfl,f1⟩)))))))))
       ·exact aM
      ·exact aM
    ·exact aM
   ·exact aM
theorem aCr {t:bQ} {p R:(List Int)} (hm:wL t p=some R) (hs:aF G K (L) w) (h3:bL K a1 c2 t.L) (h6:bL K a4 c5 t.E) (h9:bL K a7 c8 p):
  Calls prog 47 ([zA (zCa t a1 c2 a4 c5),zS a7 p.length c8]:List Value).toArray w (eC fun v w'=>∃ j2 j3,v=zS j2 R.length j3/\aF G K (own 2 K j2 j3 R::L) w'):=by
 let Z:=(zC t a1 c2 a4 c5)
 refine aN func47 rfl (by kernel_rfl) (by show (2:Nat)<=84;decide) ?_;unfold wL at hm
 refine aJ (gF (v:=zA (zCa t a1 c2 a4 c5)) (vs:=Z) hs rfl rfl (fun a0 v2 j4=>(aI (v:=zS none 0 0) (aH (aJ (aD (bH (t':=0) fA rfl rfl) (aD (eM cR j4 (i:=0) rfl rfl rfl) ?_)))))));obtain ⟨b,j5,hm⟩:=aB hm
 refine aIu (tys:=[2]) (hd:=((none,0):Dp.Hd (List Int))) iG aBg rfl rfl j4 rfl rfl rfl j5 rfl (aGq _) ?_
 intro c n0 (n1:aF G K (own 32 K c b.length (aX (List.replicate t.N.toNat ((none,0):Dp.Hd (List Int))) b)::rows [2] (List.replicate t.N.toNat ((none,0):Dp.Hd (List Int))) b::box a0 29 Z::L) n0)
 refine aI (v:=zS c b.length b.length) (aH (aK (aJ (aG (v:=zS a7 p.length c8) (aD (bC (len:=p.length) bN rfl) (aG (v:=i64 0) (aH (aO [1,2] (fun f w=>∃ d k,uS t p d=some R/\f 5=zS c d.length b.length/\List.length k=List.length d/\aF G K (own 32 K c b.length (aX k d)::rows [2] k d::box a0 29 Z::L) w) ?_ ?_))))))))
 ·rintro f v3 ⟨d,k,hm,v4,v5,j6⟩
  unfold uS at hm
  refine aC (aJ (aD (bH (t':=0) fA rfl rfl) (aD (eM cR j6 (i:=2) rfl rfl rfl) ?_)));obtain ⟨e,j7,hm⟩:=aB hm
  refine aIu (tys:=[2]) (hd:=((none,0):Dp.Hd (List Int))) iG aBg rfl rfl j6 rfl rfl rfl j7 rfl (aGq _) ?_
  intro l n2 (j8:aF G K (own 32 K l e.length (aX (List.replicate t.N.toNat ((none,0):Dp.Hd (List Int))) e)::rows [2] (List.replicate t.N.toNat ((none,0):Dp.Hd (List Int))) e::own 32 K c b.length (aX k d)::rows [2] k d::box a0 29 Z::L) n2)
  refine aI (v:=zS l e.length e.length) (aH (aK (aJ (aD (bH (t':=3) fK rfl rfl) (aD (eM oJ j8 (i:=4) rfl rfl rfl) (aD (bC (len:=t.E.length) cP rfl) (aG (v:=i64 0) (aH (aO [5] (fun f w=>∃ q r,uQ d q=some R/\f 8=zS l q.length e.length/\List.length r=List.length q/\aF G K (own 32 K l e.length (aX r q)::rows [2] r q::own 32 K c b.length (aX k d)::rows [2] k d::L) w) ?_ ?_)))))))))
  ·rintro f v6 ⟨q,r,hm,n3,e1,v7⟩
   unfold uQ at hm
   refine aC (aK (aJ (aY n3 (aD (bC (len:=q.length) iG rfl) (aG (v:=i64 0) (aH (aO [] (fun f w=>∃ b6 e2,uO b6=some R/\f 5=zS c b6.length b.length/\List.length e2=List.length b6/\aF G K (own 32 K c b.length (aX e2 b6)::rows [2] e2 b6::L) w) ?_ ?_)))))))
   ·rintro f v8 ⟨b6,e2,hm,n4,n5,n6⟩
    unfold uO at hm
    refine aC (aJ (aY n4 ?_));obtain ⟨v9,w0,n7,w1,n8,n9⟩:=aF.lendD' (i:=0) n6 n5 rfl rfl
    obtain ⟨o0,o1,hm⟩:=aB hm
    refine aP (vs:=[zS c b6.length b.length]) call75 rfl (aCq o1 n8 n7) ?_
    rintro _ w2 ⟨j9,k0,rfl,o2⟩
    have o3:=n9 _ _ o2
    refine aI (v:=zS j9 o0.length k0) (aH ?_);obtain rfl:=zI hm
    exact tC (pJ results47 rfl ⟨j9,k0,rfl,(aF.arr 2 [] o3 rfl)⟩)
   obtain ⟨w3,o5,ho⟩:=aB hm
   refine oI [62,63] o5 (fun J e3 x f w=>∃ u,f 5=zS c J.length b.length/\f 64=i64 x/\List.length u=List.length J/\aF G K (own 32 K l e.length (aX r q)::rows [2] (List.drop e3 r) (List.drop e3 q)::own 32 K c b.length (aX u J)::rows [2] u J::L) w) aM ?_
   ·rintro J e3 x o6 f o7 hm hr ⟨u,e4,e5,b1,g1⟩
    unfold jA at hm
    refine aJ (aD (cK e5 rfl) (aH (aK ?_)))
    rcases aL hm with ⟨k1,hm⟩|⟨k1,hm⟩
    ·refine aR k1 rfl (aW (aC (aK (cD (aJ (aY e5 ?_))))));obtain ⟨e6,d6,hm⟩:=aB hm
     obtain ⟨⟨b2,b3⟩,g2⟩:=aHb e1 d6
     have o8:=cA g1 (i:=0) rfl (kP e1 d6 g2)
     refine aD (cM iG rfl o8 rfl rfl e5 d6) (aD (lA (t:=0) vU g1 (i:=0) rfl (kP e1 d6 g2) rfl rfl rfl) ?_);obtain ⟨z,o9,hm⟩:=aB hm
     have p0:aF G K (own 2 K b2 b3 e6::own 32 K l e.length (aX r q)::rows [2] (List.drop z r) (List.drop z q)::own 32 K c b.length (aX u J)::rows [2] u J::L) o7:=aF.eatR (i:=0) (g:=e3) g1 rfl rfl e1 g2 d6 o9
     refine aI (v:=i64 x) (aI (v:=zS b2 e6.length b3) (aH (aJ (aG (v:=zS b2 e6.length b3) ?_))));obtain ⟨g3,p1,hm⟩:=aB hm
     refine aP (vs:=[zS b2 e6.length b3]) call73 rfl (aEG p0 p1) ?_
     rintro _ w4 ⟨rfl,p2,p3⟩
     refine aH (bP [62,63,64] (fun f w=>∃ d2 d7,uP x z d2=some o6/\f 5=zS c d2.length b.length/\List.length d7=List.length d2/\aF G K (own 32 K l e.length (aX r q)::rows [2] (List.drop z r) (List.drop z q)::own 32 K c b.length (aX d7 d2)::rows [2] d7 d2::L) w) ?_ ?_)
     ·rintro f w5 ⟨d2,d7,hm,p4,p5,p6⟩
      unfold uP at hm
      exact cH (aC (aS (aD (cN e5 rfl) (aG (v:=i64 (wr (x+1))) (aH ⟨_,(zI hm).symm,bF,d7,p4,rfl,p5,p6⟩)))))
     refine xJ (C:=fun w'=>∃ L',aF G K L' w') [10] Tryz_mixed (by kernel_rfl) (fun w6 p7=>?_)
     have a3:=aF.mono p3 p7
     refine fY (i:=0) rfl (by kernel_rfl) ⟨_,a3⟩ (fun _ _=>aT e4) (fY (i:=1) rfl (by kernel_rfl) ⟨_,a3⟩ (fun _ _=>aT (v:=i64 x) rfl) (fY (i:=2) rfl (by kernel_rfl) ⟨_,a3⟩ (fun _ _=>aT e4) (fY (i:=3) rfl (by kernel_rfl) ⟨_,a3⟩ (fun _ _=>aT (v:=i64 x) rfl) ?_)));obtain ⟨e7,a5,hm⟩:=aB hm
     obtain ⟨⟨e8,e9⟩,b7⟩:=aHb b1 a5
     have g4:=cA a3 (i:=3) rfl (kP b1 a5 b7)
     refine fY (i:=4) rfl (by kernel_rfl) ⟨_,a3⟩ (fun _ _=>cM iG rfl g4 rfl rfl rfl a5) (fY (i:=6) rfl (by kernel_rfl) ⟨_,a3⟩ (fun _ _=>aT (v:=zS b2 g3.length b3) (Eq.trans rfl (congrArg (fun n=>zS b2 n b3) p2))) (aCa (i:=5) (j:=7) (by kernel_rfl) rfl rfl ?_ ?_))
     ·refine aD (lA (t:=0) vU a3 (i:=3) rfl (kP b1 a5 b7) rfl rfl rfl) (aV (aC ⟨fun _=>⟨_,a3⟩,?_⟩))
      refine dQ (i:=7) (by kernel_rfl) rfl ?_;obtain ⟨k2,p8,hm⟩:=aB hm
      refine aP (vs:=[zS b2 g3.length b3]) call74 rfl (eJ p8 a3) ?_
      rintro _ k3 ⟨k4,k5,rfl,k6⟩
      refine aV (aC ⟨fun _=>⟨_,k6⟩,?_⟩)
      refine dQ (i:=8) (by kernel_rfl) rfl ?_
      have p9:aF G K (own 32 K c b.length (aX u J)::rows [2] ((u).eraseIdx x.toNat) ((J).eraseIdx x.toNat)::own 2 K e8 e9 e7::own 2 K k4 k5 k2::own 32 K l e.length (aX r q)::rows [2] (List.drop z r) (List.drop z q)::L) k3:=aF.focusR (i:=3) k6 rfl rfl b7 a5
      obtain ⟨g5,q0,hm⟩:=aB hm
      have q1:aF G K (own 2 K k4 k5 k2::own 32 K c b.length (aX u J)::rows [2] ((u).eraseIdx x.toNat) ((J).eraseIdx x.toNat)::own 2 K e8 e9 e7::own 32 K l e.length (aX r q)::rows [2] (List.drop z r) (List.drop z q)::L) k3:=(aF.arr 4 [3,0,1,2] p9 rfl)
      refine eQ (i:=2) bN underlying32 kQ rfl rfl q1 rfl (zR _) (zR _) q0 rfl rfl rfl rfl (fun _ h=>h) (fun b8 b9 k7 (g6:aF G K (own 32 K c b.length (aX u J)::rows [2] ((u).eraseIdx x.toNat) ((J).eraseIdx x.toNat)::own 2 K b8 b9 g5::own 32 K l e.length (aX r q)::rows [2] (List.drop z r) (List.drop z q)::L) k7)=>(aV (aC ⟨fun _=>⟨_,g6⟩,?_⟩)))
      refine fY (i:=9) rfl (by kernel_rfl) ⟨_,g6⟩ (fun _ _=>cM iG rfl g4 rfl rfl rfl a5) (dQ (i:=10) (by kernel_rfl) rfl ?_)
      have q2:aF G K (own 2 K b8 b9 g5::own 32 K c b.length (aX u J)::rows [2] ((u).eraseIdx x.toNat) ((J).eraseIdx x.toNat)::own 32 K l e.length (aX r q)::rows [2] (List.drop z r) (List.drop z q)::L) k7:=(aF.arr 3 [2,0,1] g6 rfl)
      obtain ⟨g7,g8,hm⟩:=aB hm
      refine aHg (i:=0) (tys:=[2]) (hd':=(b8,b9)) (e':=g5) (hds:=u) sizeOf32 q2 b1 rfl rfl rfl rfl rfl a5 b7 g8 rfl ?_
      intro q3 (q4:aF G K (own 32 K c b.length (aX (List.set u x.toNat (b8,b9)) g7)::rows [2] (List.set u x.toNat (b8,b9)) g7::own 32 K l e.length (aX r q)::rows [2] (List.drop z r) (List.drop z q)::L) q3)
      refine aV (aC ⟨no_c rfl,?_⟩)
      exact pL (by kernel_rfl) (aC ⟨bF,g7,(List.set u x.toNat (b8,b9)),hm,(Eq.trans e4 (congrArg (fun n=>zS c n b.length) (eL g8))),(aDt (hd:=((b8,b9):Dp.Hd (List Int))) b1 g8),(aF.arr 4 [2,3,0,1] q4 rfl)⟩)
     ·obtain ⟨k8,q5,hm⟩:=aB hm
      refine aP (vs:=[zS b2 g3.length b3]) call74 rfl (eJ q5 a3) ?_
      rintro _ k9 ⟨l0,l1,rfl,f0⟩
      refine aV (aC ⟨fun _=>⟨_,f0⟩,?_⟩)
      refine dQ (i:=5) (by kernel_rfl) rfl (aD (lA (t:=0) vU f0 (i:=3) rfl (kP b1 a5 b7) rfl rfl rfl) (aV (aC ⟨fun _=>⟨_,f0⟩,?_⟩)))
      refine dQ (i:=8) (by kernel_rfl) rfl ?_
      have q6:aF G K (own 32 K c b.length (aX u J)::rows [2] ((u).eraseIdx x.toNat) ((J).eraseIdx x.toNat)::own 2 K e8 e9 e7::own 2 K l0 l1 k8::own 32 K l e.length (aX r q)::rows [2] (List.drop z r) (List.drop z q)::L) k9:=aF.focusR (i:=3) f0 rfl rfl b7 a5
      obtain ⟨g9,q7,hm⟩:=aB hm
      have q8:aF G K (own 2 K l0 l1 k8::own 32 K c b.length (aX u J)::rows [2] ((u).eraseIdx x.toNat) ((J).eraseIdx x.toNat)::own 2 K e8 e9 e7::own 32 K l e.length (aX r q)::rows [2] (List.drop z r) (List.drop z q)::L) k9:=(aF.arr 4 [3,0,1,2] q6 rfl)
      refine eQ (i:=2) bN underlying32 kQ rfl rfl q8 rfl (zR _) (zR _) q7 rfl rfl rfl rfl (fun _ h=>h) (fun c0 c1 l2 (h0:aF G K (own 32 K c b.length (aX u J)::rows [2] ((u).eraseIdx x.toNat) ((J).eraseIdx x.toNat)::own 2 K c0 c1 g9::own 32 K l e.length (aX r q)::rows [2] (List.drop z r) (List.drop z q)::L) l2)=>(aV (aC ⟨fun _=>⟨_,h0⟩,?_⟩)))
      refine fY (i:=9) rfl (by kernel_rfl) ⟨_,h0⟩ (fun _ _=>cM iG rfl g4 rfl rfl rfl a5) (dQ (i:=10) (by kernel_rfl) rfl ?_)
      have q9:aF G K (own 2 K c0 c1 g9::own 32 K c b.length (aX u J)::rows [2] ((u).eraseIdx x.toNat) ((J).eraseIdx x.toNat)::own 32 K l e.length (aX r q)::rows [2] (List.drop z r) (List.drop z q)::L) l2:=(aF.arr 3 [2,0,1] h0 rfl)
      obtain ⟨h1,h2,hm⟩:=aB hm
      refine aHg (i:=0) (tys:=[2]) (hd':=(c0,c1)) (e':=g9) (hds:=u) sizeOf32 q9 b1 rfl rfl rfl rfl rfl a5 b7 h2 rfl ?_
      intro r0 (r1:aF G K (own 32 K c b.length (aX (List.set u x.toNat (c0,c1)) h1)::rows [2] (List.set u x.toNat (c0,c1)) h1::own 32 K l e.length (aX r q)::rows [2] (List.drop z r) (List.drop z q)::L) r0)
      refine aV (aC ⟨no_c rfl,?_⟩)
      exact pL (by kernel_rfl) (aC ⟨bF,h1,(List.set u x.toNat (c0,c1)),hm,(Eq.trans e4 (congrArg (fun n=>zS c n b.length) (eL h2))),(aDt (hd:=((c0,c1):Dp.Hd (List Int))) b1 h2),(aF.arr 4 [2,3,0,1] r1 rfl)⟩)
    ·exact aM
  obtain ⟨w7,r2,ho⟩:=aB hm
  refine bO [1,2,5,33,34] r2 (fun y f1 f w=>∃ o,f 8=zS l y.length e.length/\f 35=i64 f1/\List.length o=List.length y/\aF G K (own 32 K l e.length (aX o y)::rows [2] o y::own 32 K c b.length (aX k d)::rows [2] k d::box a0 29 Z::L) w) ?_ ?_
  ·exact ⟨(List.replicate t.N.toNat ((none,0):Dp.Hd (List Int))),rfl,rfl,(aAS (hd:=((none,0):Dp.Hd (List Int))) j7).2.1,j8⟩
  ·rintro y f1 r3 f w8 hm hr ⟨o,f2,h4,b4,l3⟩
   unfold jB at hm
   refine aJ (aD (cK h4 rfl) (aH (aK ?_)))
   rcases aL hm with ⟨l4,hm⟩|⟨l4,hm⟩
   ·refine aR l4 rfl (aW (aC (aK (cD (aJ ?_)))));obtain ⟨a,l5,hm⟩:=aB hm
    refine aD (dM cP rfl h6 rfl rfl h4 l5) ?_;obtain ⟨w9,r4,r5⟩:=bL.el (sz:=3) rfl h6 l5
    cases r5
    refine aD (jQ (t:=0) (vs:=[i64 a.F,i64 a.B,i64 a.To]) tE l3 r4 rfl rfl rfl) (bV (vs:=[i64 0,i64 0,i64 0]) zeroValue51 l3 rfl (fun d8 x0 r6=>(dJ (i:=0) (ns:=[i64 a.F,i64 a.B,i64 a.To]) (us:=[i64 a.F,i64 a.B,i64 a.To]) sizeOf51 r6 rfl rfl rfl rfl rfl (eV rfl) rfl rfl (fun r7 (r8:aF G K (box d8 51 [i64 a.F,i64 a.B,i64 a.To]::own 32 K l e.length (aX o y)::rows [2] o y::own 32 K c b.length (aX k d)::rows [2] k d::box a0 29 Z::L) r7)=>(aH (bP [1,2,5,33,34,35] (fun f w=>∃ d3 d9,uR f1 d3=some r3/\f 8=zS l d3.length e.length/\List.length d9=List.length d3/\aF G K (own 32 K l e.length (aX d9 d3)::rows [2] d9 d3::own 32 K c b.length (aX k d)::rows [2] k d::box a0 29 Z::L) w) ?_ ?_))))))
    ·rintro f x1 ⟨d3,d9,hm,r9,s0,s1⟩
     unfold uR at hm
     exact cH (aC (aS (aD (cN h4 rfl) (aG (v:=i64 (wr (f1+1))) (aH ⟨_,(zI hm).symm,bF,d9,r9,rfl,s0,s1⟩)))))
    obtain ⟨x2,d4,f3,s2,l6⟩:=aF.lendBp r8 .head
    obtain ⟨b0,a8,s3,s4,l7⟩:=aF.lendBp s2 zt4
    refine xJ (C:=fun w'=>∃ L',aF G b0 L' w') [22] Tryz_mixed (by kernel_rfl) (fun x3 s5=>?_)
    have m:=aF.mono s4 s5
    refine fY (i:=0) rfl (by kernel_rfl) ⟨_,m⟩ (fun _ _=>aT f2) (fY (i:=1) rfl (by kernel_rfl) ⟨_,m⟩ (fun _ _=>bH (t':=0) uJ rfl rfl) (fY (i:=2) rfl (by kernel_rfl) ⟨_,m⟩ (fun _ ⟨_,m⟩=>aU (t:=0) cR m (f3.mono a8) rfl rfl) (fY (i:=3) rfl (by kernel_rfl) ⟨_,m⟩ (fun _ _=>aT f2) (fY (i:=4) rfl (by kernel_rfl) ⟨_,m⟩ (fun _ _=>bH (t':=0) uJ rfl rfl) (fY (i:=5) rfl (by kernel_rfl) ⟨_,m⟩ (fun _ ⟨_,m⟩=>aU (t:=0) cR m (f3.mono a8) rfl rfl) ?_)))))
    obtain ⟨f4,a6,hm⟩:=aB hm
    obtain ⟨⟨f5,f6⟩,c3⟩:=aHb b4 a6
    have h5:=cA m (i:=0) rfl (kP b4 a6 c3)
    refine fY (i:=6) rfl (by kernel_rfl) ⟨_,m⟩ (fun _ _=>cM iG rfl h5 rfl rfl rfl a6) (fY (i:=8) rfl (by kernel_rfl) ⟨_,m⟩ (fun _ _=>bH (t':=1) aCc rfl rfl) (fY (i:=9) rfl (by kernel_rfl) ⟨_,m⟩ (fun _ ⟨_,m⟩=>aU (t:=1) cR m (f3.mono a8) rfl rfl) (fY (i:=10) rfl (by kernel_rfl) ⟨_,m⟩ (fun _ _=>bH (t':=0) fA rfl rfl) (fY (i:=11) rfl (by kernel_rfl) ⟨_,m⟩ (fun _ ⟨_,m⟩=>aU (t:=0) cR m s3 rfl rfl) (fY (i:=12) rfl (by kernel_rfl) ⟨_,m⟩ (fun _ _=>R_mul rfl rfl) (fY (i:=13) rfl (by kernel_rfl) ⟨_,m⟩ (fun _ _=>aT (v:=zS a7 p.length c8) rfl) (fY (i:=14) rfl (by kernel_rfl) ⟨_,m⟩ (fun _ _=>bH (t':=2) uK rfl rfl) (fY (i:=15) rfl (by kernel_rfl) ⟨_,m⟩ (fun _ ⟨_,m⟩=>aU (t:=2) cR m (f3.mono a8) rfl rfl) ?_))))))))
    obtain ⟨a2,l8,hm⟩:=aB hm
    refine fY (i:=16) rfl (by kernel_rfl) ⟨_,m⟩ (fun _ _=>dM bN rfl (h9.mono (zL d4 a8)) rfl rfl rfl l8) ?_;obtain ⟨x4,s6,s7⟩:=bL.el (sz:=1) rfl h9 l8
    cases s7
    refine fY (i:=17) rfl (by kernel_rfl) ⟨_,m⟩ (fun _ ⟨_,m⟩=>aU (t:=0) cR m (s6.mono (zL d4 a8)) rfl rfl) (fY (i:=18) rfl (by kernel_rfl) ⟨_,m⟩ (fun _ _=>cN rfl rfl) (aCa (i:=7) (j:=19) (by kernel_rfl) rfl rfl ?_ ?_))
    ·refine aD (lA (t:=0) vU m (i:=0) rfl (kP b4 a6 c3) rfl rfl rfl) (aV (aC ⟨fun _=>⟨_,m⟩,?_⟩))
     refine dQ (i:=19) (by kernel_rfl) rfl (bX (Kt:=K) (xs:=([wr ((wr (a.B * t.N))+a2)]:List Int)) (cs:=[i64 (wr ((wr (a.B * t.N))+a2))]) (vs:=[(0,i64 (wr ((wr (a.B * t.N))+a2)))]) bN kQ rfl rfl m rfl (by kernel_rfl) rfl rfl rfl ⟨rfl,trivial⟩ ?_)
     intro h7 h8 (l9:aF G b0 (own 2 K h7 1 ([wr ((wr (a.B * t.N))+a2)]:List Int)::own 32 K l e.length (aX o y)::rows [2] o y::own 32 K c b.length (aX k d)::rows [2] k d::L) h8)
     refine aV (aC ⟨fun _=>⟨_,l9⟩,?_⟩)
     refine dQ (i:=20) (by kernel_rfl) rfl ?_
     have s8:aF G b0 (own 32 K l e.length (aX o y)::rows [2] ((o).eraseIdx a.F.toNat) ((y).eraseIdx a.F.toNat)::own 2 K f5 f6 f4::own 2 K h7 1 ([wr ((wr (a.B * t.N))+a2)]:List Int)::own 32 K c b.length (aX k d)::rows [2] k d::L) h8:=aF.focusR (i:=1) l9 rfl rfl c3 a6
     obtain ⟨i0,s9,hm⟩:=aB hm
     have t0:aF G b0 (own 2 K h7 1 ([wr ((wr (a.B * t.N))+a2)]:List Int)::own 32 K l e.length (aX o y)::rows [2] ((o).eraseIdx a.F.toNat) ((y).eraseIdx a.F.toNat)::own 2 K f5 f6 f4::own 32 K c b.length (aX k d)::rows [2] k d::L) h8:=(aF.arr 4 [3,0,1,2] s8 rfl)
     refine eQ (i:=2) bN underlying32 kQ rfl rfl t0 rfl (zL d4 a8) (zL d4 a8) s9 rfl rfl rfl rfl (fun _ h=>h) (fun c4 c6 m0 (i1:aF G b0 (own 32 K l e.length (aX o y)::rows [2] ((o).eraseIdx a.F.toNat) ((y).eraseIdx a.F.toNat)::own 2 K c4 c6 i0::own 32 K c b.length (aX k d)::rows [2] k d::L) m0)=>(aV (aC ⟨fun _=>⟨_,i1⟩,?_⟩)))
     refine fY (i:=21) rfl (by kernel_rfl) ⟨_,i1⟩ (fun _ _=>cM iG rfl h5 rfl rfl rfl a6) (dQ (i:=22) (by kernel_rfl) rfl ?_)
     have t1:=l7 _ _ i1
     have t2:=l6 _ _ t1
     have t3:aF G K (own 2 K c4 c6 i0::box d8 51 [i64 a.F,i64 a.B,i64 a.To]::box a0 29 Z::own 32 K l e.length (aX o y)::rows [2] ((o).eraseIdx a.F.toNat) ((y).eraseIdx a.F.toNat)::own 32 K c b.length (aX k d)::rows [2] k d::L) m0:=(aF.arr 5 [4,0,1,2,3] t2 rfl)
     obtain ⟨i2,i3,hm⟩:=aB hm
     refine aHg (i:=2) (tys:=[2]) (hd':=(c4,c6)) (e':=i0) (hds:=o) sizeOf32 t3 b4 rfl rfl rfl rfl rfl a6 c3 i3 rfl ?_
     intro t4 (t5:aF G K (own 32 K l e.length (aX (List.set o a.F.toNat (c4,c6)) i2)::rows [2] (List.set o a.F.toNat (c4,c6)) i2::box d8 51 [i64 a.F,i64 a.B,i64 a.To]::box a0 29 Z::own 32 K c b.length (aX k d)::rows [2] k d::L) t4)
     refine aV (aC ⟨no_c rfl,?_⟩)
     exact pL (by kernel_rfl) (aC ⟨bF,i2,(List.set o a.F.toNat (c4,c6)),hm,(Eq.trans f2 (congrArg (fun n=>zS l n e.length) (eL i3))),(aDt (hd:=((c4,c6):Dp.Hd (List Int))) b4 i3),(aF.arr 6 [0,1,4,5,3] t5 rfl)⟩)
    ·refine bX (Kt:=K) (xs:=([wr ((wr (a.B * t.N))+a2)]:List Int)) (cs:=[i64 (wr ((wr (a.B * t.N))+a2))]) (vs:=[(0,i64 (wr ((wr (a.B * t.N))+a2)))]) bN kQ rfl rfl m rfl (by kernel_rfl) rfl rfl rfl ⟨rfl,trivial⟩ ?_
     intro i4 i5 (f7:aF G b0 (own 2 K i4 1 ([wr ((wr (a.B * t.N))+a2)]:List Int)::own 32 K l e.length (aX o y)::rows [2] o y::own 32 K c b.length (aX k d)::rows [2] k d::L) i5)
     refine aV (aC ⟨fun _=>⟨_,f7⟩,?_⟩)
     refine dQ (i:=7) (by kernel_rfl) rfl (aD (lA (t:=0) vU f7 (i:=1) rfl (kP b4 a6 c3) rfl rfl rfl) (aV (aC ⟨fun _=>⟨_,f7⟩,?_⟩)))
     refine dQ (i:=20) (by kernel_rfl) rfl ?_
     have t6:aF G b0 (own 32 K l e.length (aX o y)::rows [2] ((o).eraseIdx a.F.toNat) ((y).eraseIdx a.F.toNat)::own 2 K f5 f6 f4::own 2 K i4 1 ([wr ((wr (a.B * t.N))+a2)]:List Int)::own 32 K c b.length (aX k d)::rows [2] k d::L) i5:=aF.focusR (i:=1) f7 rfl rfl c3 a6
     obtain ⟨i6,t7,hm⟩:=aB hm
     have t8:aF G b0 (own 2 K i4 1 ([wr ((wr (a.B * t.N))+a2)]:List Int)::own 32 K l e.length (aX o y)::rows [2] ((o).eraseIdx a.F.toNat) ((y).eraseIdx a.F.toNat)::own 2 K f5 f6 f4::own 32 K c b.length (aX k d)::rows [2] k d::L) i5:=(aF.arr 4 [3,0,1,2] t6 rfl)
     refine eQ (i:=2) bN underlying32 kQ rfl rfl t8 rfl (zL d4 a8) (zL d4 a8) t7 rfl rfl rfl rfl (fun _ h=>h) (fun c7 c9 m1 (i7:aF G b0 (own 32 K l e.length (aX o y)::rows [2] ((o).eraseIdx a.F.toNat) ((y).eraseIdx a.F.toNat)::own 2 K c7 c9 i6::own 32 K c b.length (aX k d)::rows [2] k d::L) m1)=>(aV (aC ⟨fun _=>⟨_,i7⟩,?_⟩)))
     refine fY (i:=21) rfl (by kernel_rfl) ⟨_,i7⟩ (fun _ _=>cM iG rfl h5 rfl rfl rfl a6) (dQ (i:=22) (by kernel_rfl) rfl ?_)
     have t9:=l7 _ _ i7
     have u0:=l6 _ _ t9
     have u1:aF G K (own 2 K c7 c9 i6::box d8 51 [i64 a.F,i64 a.B,i64 a.To]::box a0 29 Z::own 32 K l e.length (aX o y)::rows [2] ((o).eraseIdx a.F.toNat) ((y).eraseIdx a.F.toNat)::own 32 K c b.length (aX k d)::rows [2] k d::L) m1:=(aF.arr 5 [4,0,1,2,3] u0 rfl)
     obtain ⟨i8,i9,hm⟩:=aB hm
     refine aHg (i:=2) (tys:=[2]) (hd':=(c7,c9)) (e':=i6) (hds:=o) sizeOf32 u1 b4 rfl rfl rfl rfl rfl a6 c3 i9 rfl ?_
     intro u2 (u3:aF G K (own 32 K l e.length (aX (List.set o a.F.toNat (c7,c9)) i8)::rows [2] (List.set o a.F.toNat (c7,c9)) i8::box d8 51 [i64 a.F,i64 a.B,i64 a.To]::box a0 29 Z::own 32 K c b.length (aX k d)::rows [2] k d::L) u2)
     refine aV (aC ⟨no_c rfl,?_⟩)
     exact pL (by kernel_rfl) (aC ⟨bF,i8,(List.set o a.F.toNat (c7,c9)),hm,(Eq.trans f2 (congrArg (fun n=>zS l n e.length) (eL i9))),(aDt (hd:=((c7,c9):Dp.Hd (List Int))) b4 i9),(aF.arr 6 [0,1,4,5,3] u3 rfl)⟩)
   ·exact aM
 obtain ⟨x5,u4,ho⟩:=aB hm
 refine bO [1,2,16,17] u4 (fun d0 b5 f w=>∃ a9,f 5=zS c d0.length b.length/\f 18=i64 b5/\List.length a9=List.length d0/\aF G K (own 32 K c b.length (aX a9 d0)::rows [2] a9 d0::box a0 29 Z::L) w) ?_ ?_
 ·exact ⟨(List.replicate t.N.toNat ((none,0):Dp.Hd (List Int))),rfl,rfl,(aAS (hd:=((none,0):Dp.Hd (List Int))) j5).2.1,n1⟩
 ·rintro d0 b5 x6 f x7 hm hr ⟨a9,m2,f8,f9,m3⟩
  unfold jC at hm
  refine aJ (aD (cK f8 rfl) (aH (aK ?_)))
  rcases aL hm with ⟨m4,hm⟩|⟨m4,hm⟩
  ·refine aR m4 rfl (aW (aC (aK (cD (aJ (aY f8 ?_))))));obtain ⟨d1,m5,hm⟩:=aB hm
   refine aD (dM bN rfl h9 rfl rfl f8 m5) ?_;obtain ⟨x8,u5,u6⟩:=bL.el (sz:=1) rfl h9 m5
   cases u6
   refine aD (aU (t:=0) cR m3 u5 rfl rfl) (aI (v:=i64 b5) (aI (v:=i64 d1) (aH (aS (aY m2 (aG (v:=i64 b5) (aG (v:=i64 d1) (bX (Kt:=K) (xs:=([d1]:List Int)) (cs:=[i64 d1]) (vs:=[(0,i64 d1)]) bN kQ rfl rfl m3 rfl (by kernel_rfl) rfl rfl rfl ⟨rfl,trivial⟩ (fun d5 u7 (m6:aF G K (own 2 K d5 1 ([d1]:List Int)::own 32 K c b.length (aX a9 d0)::rows [2] a9 d0::box a0 29 Z::L) u7)=>?_)))))))));obtain ⟨x9,g0,hm⟩:=aB hm
   obtain ⟨⟨y0,y1⟩,m7⟩:=aHb f9 g0
   have u8:=cA m6 (i:=1) rfl (kP f9 g0 m7)
   refine aD (cM iG rfl u8 rfl rfl rfl g0) ?_;obtain ⟨m8,j0,hm⟩:=aB hm
   refine WO_stD (i:=0) (tys:=[2]) (hd':=(d5,1)) (e':=([d1]:List Int)) (hds:=a9) sizeOf32 m6 f9 rfl rfl rfl rfl rfl g0 m7 j0 rfl ?_
   intro u9 (v0:aF G K (own 32 K c b.length (aX (List.set a9 b5.toNat (d5,1)) m8)::rows [2] (List.set a9 b5.toNat (d5,1)) m8::box a0 29 Z::L) u9)
   exact aV (cH (aC (aS (aD (cN f8 rfl) (aG (v:=i64 (wr (b5+1))) (aH ⟨_,(zI hm).symm,bF,(List.set a9 b5.toNat (d5,1)),(Eq.trans m2 (congrArg (fun n=>zS c n b.length) (eL j0))),rfl,(aDt (hd:=((d5,1):Dp.Hd (List Int))) f9 j0),v0⟩))))))
  ·exact aM
theorem aFM {n:Int} {a:bQ} {R:(List (List Int))} (hm:aGF n a=some R) (hs:aF G K (L) w) (h3:bL K a1 c2 a.L) (h6:bL K a4 c5 a.E):
  Calls prog 46 ([i64 n,Value.func (.func 47) #[zA (zCa a a1 c2 a4 c5)] #[]]:List Value).toArray w (eC fun v w'=>∃ a6 a7 z,v=zS a6 R.length a7/\List.length z=List.length R/\aF G K (own 32 K a6 a7 (aX z R)::rows [2] z R::L) w'):=by
 refine aN func46 rfl (by kernel_rfl) (by show (2:Nat)<=28;decide) ?_;unfold aGF at hm
 refine aJ (aI (v:=zS none 0 0) (aH (aJ (aG (v:=i64 n) ?_))));obtain ⟨l,q8,hm⟩:=aB hm
 refine aP (vs:=[i64 n]) call71 rfl (aFL q8 hs) ?_
 rintro _ b7 ⟨m,o,rfl,b8⟩
 have b9:aF G K (rows [2] ([(m,o)]:List (Dp.Hd (List Int))) [l]::L) b7:=aF.rowsOne b8
 refine bX (Kt:=K) (xs:=aX ([(m,o)]:List (Dp.Hd (List Int))) ([l]:List (List Int))) (cs:=[zS m l.length o]) (vs:=[(0,zS m l.length o)]) iG aBg rfl rfl b9 rfl (by kernel_rfl) rfl rfl rfl ⟨rfl,trivial⟩ ?_
 intro J c0 (c1:aF G K (own 32 K J 1 (aX ([(m,o)]:List (Dp.Hd (List Int))) ([l]:List (List Int)))::rows [2] ([(m,o)]:List (Dp.Hd (List Int))) ([l]:List (List Int))::L) c0)
 refine aI (v:=zS J ([l]:List (List Int)).length 1) (aH (cD ?_));obtain ⟨f2,c3,ho⟩:=aB hm
 refine eY [1] c3 (fun e f w=>∃ h j b,f 5=zS h e.length j/\List.length b=List.length e/\aF G K (own 32 K h j (aX b e)::rows [2] b e::L) w) ?_ ?_
 ·exact ⟨J,1,([(m,o)]:List (Dp.Hd (List Int))),rfl,rfl,c1⟩
 ·rintro e f3 f f4 hm hr ⟨h,j,b,x,k,Z⟩
  unfold zQ at hm
  refine cD (aJ (aY x (aY x (aD (bC (len:=e.length) iG rfl) (aD (oH rfl rfl) ?_)))));obtain ⟨p,q,hm⟩:=aB hm
  obtain ⟨⟨r,u⟩,y⟩:=aHb k q
  have c4:=cA Z (i:=0) rfl (kP k q y)
  refine aD (cM iG rfl c4 rfl rfl rfl q) (aD (lA (t:=0) vU Z (i:=0) rfl (kP k q y) rfl rfl rfl) (aI (v:=zS r p.length u) (aH (aJ (aG (v:=Value.func (.func 47) #[zA (zCa a a1 c2 a4 c5)] #[]) (aG (v:=zS r p.length u) ?_))))));obtain ⟨f5,a8,f6,c6,c7,c8⟩:=aF.lendD' (i:=0) Z k rfl rfl
  obtain ⟨g,c9,hm⟩:=aB hm
  refine WO_callvB (bs:=[zA (zCa a a1 c2 a4 c5)]) (vs:=[zS r p.length u]) (caps:=[]) (us:=[zA (zCa a a1 c2 a4 c5),zS r p.length u]) rfl call47 rfl rfl (aCr c9 c7 (h3.mono a8) (h6.mono a8) (rd_row (c6 _ _ _ y (ix_at q)))) ?_
  rintro _ f7 ⟨c,d,rfl,d0⟩
  have d1:=c8 _ _ d0
  refine aI (v:=zS c g.length d) (aH (aK (aJ (aG (v:=zS r p.length u) (aG (v:=zS c g.length d) ?_)))));obtain ⟨f8,d2,f9,d3,d4,d5⟩:=aF.lendD' (i:=0) d1 k rfl rfl
  obtain ⟨g0,d6,d7,d8,d9⟩:=aF.lendSp d4 d2 .head
  obtain ⟨g1,e0,hm⟩:=aB hm
  refine aP (vs:=[zS r p.length u,zS c g.length d]) call72 rfl (mC e0 d8 ((rd_row (d3 _ _ _ y (ix_at q))).mono d6) d7) ?_
  rintro _ b0 ⟨rfl,e1⟩
  have e2:=d9 _ _ e1
  have b1:=d5 _ _ e2
  refine aH ?_
  rcases aL hm with ⟨a0,hm⟩|⟨a0,hm⟩
  ·refine aR a0 rfl (aJ (aY x (aI (v:=zS h e.length j) (aH (tC (mG (aCR (mG ?_))))))))
   have e3:=hr _ (zI hm).symm
   subst e3
   have hm:(some e)=some R:=ho
   clear hr ho
   obtain rfl:=zI hm
   exact aCR (pJ results46 rfl ⟨h,j,b,rfl,k,(aF.arr 3 [0,1] b1 rfl)⟩)
  ·refine bG a0 rfl (aW (aC (aS (aY x (aG (v:=zS c g.length d) ?_)))))
   have e5:aF G K (own 2 K c d g::own 32 K h j (aX b e)::rows [2] b e::L) b0:=(aF.arr 3 [2,0,1] b1 rfl)
   have e6:aF G K (rows [2] ([(c,d)]:List (Dp.Hd (List Int))) [g]::own 32 K h j (aX b e)::rows [2] b e::L) b0:=aF.rowsOne e5
   refine bX (Kt:=K) (xs:=aX ([(c,d)]:List (Dp.Hd (List Int))) ([g]:List (List Int))) (cs:=[zS c g.length d]) (vs:=[(0,zS c g.length d)]) iG aBg rfl rfl e6 rfl (by kernel_rfl) rfl rfl rfl ⟨rfl,trivial⟩ ?_
   intro e7 e8 (e9:aF G K (own 32 K e7 1 (aX ([(c,d)]:List (Dp.Hd (List Int))) ([g]:List (List Int)))::rows [2] ([(c,d)]:List (Dp.Hd (List Int))) ([g]:List (List Int))::own 32 K h j (aX b e)::rows [2] b e::L) e8)
   obtain ⟨a2,b2,hm⟩:=aB hm
   refine WO_appD (i:=0) (tys:=[2]) (hds:=b) (hds2:=([(c,d)]:List (Dp.Hd (List Int)))) iG underlying81 aBg rfl rfl e9 k rfl rfl rfl b2 rfl rfl rfl rfl ?_
   intro a3 a5 f0 (f1:aF G K (own 32 K a3 a5 (aX (b++([(c,d)]:List (Dp.Hd (List Int)))) a2)::rows [2] (b++([(c,d)]:List (Dp.Hd (List Int)))) a2::L) f0)
   exact aI (v:=zS a3 a2.length a5) (aV (cH (aC ⟨_,(zI hm).symm,bF,a3,a5,(b++([(c,d)]:List (Dp.Hd (List Int)))),rfl,(app_len k rfl b2),f1⟩)))
theorem aCs {t:bQ} {R:(List Int)} (hm:pQ t=some R) (g:aF G K (L) w) (h:bL K a1 c2 t.L) (j:bL K a4 c5 t.E):
  Calls prog 22 ([zA (zCa t a1 c2 a4 c5)]:List Value).toArray w (eC fun v w'=>∃ a c d,v=zS c R.length d/\Hp.le K a/\bL a c d R/\aF G a (L) w'):=by
 let e:=(zC t a1 c2 a4 c5)
 refine aN func22 rfl (by kernel_rfl) (by show (1:Nat)<=9;decide) ?_;unfold pQ at hm
 refine aJ (gF (v:=zA (zCa t a1 c2 a4 c5)) (vs:=e) g rfl rfl (fun n o b=>(aI (v:=zS none 0 0) (aH (aJ (aD (bH (t':=0) fA rfl rfl) (aD (eM cR b (i:=0) rfl rfl rfl) (aD (kZ (us:=e) rE b (i:=0) rfl rfl rfl rfl) (aD (aLA (bs:=[zA (zCa t a1 c2 a4 c5)]) (vs:=[]) rfl rfl) ?_)))))))));obtain ⟨p,k,hm⟩:=aB hm
 refine aP (vs:=[i64 t.N,Value.func (.func 47) #[zA (zCa t a1 c2 a4 c5)] #[]]) call46 rfl (aFM k b h j) ?_
 rintro _ q ⟨r,u,x,rfl,l,m⟩
 obtain ⟨y,z,J,_,Z,_⟩:=aF.lendD' (i:=0) m l rfl rfl
 exact aM
theorem aAe {t:bQ} {R:((List Int) × Int)} (hm:qC t=some R) (d:aF G K (L) w) (e:G.lo=0) (g:bL K a1 c2 t.L) (h:bL K a4 c5 t.E):
  Calls prog 7 ([zA (zCa t a1 c2 a4 c5)]:List Value).toArray w (eC fun v w'=>∃ a b c,v=zT #[zS b R.1.length c,i64 R.2]/\Hp.le K a/\bL a b c R.1/\aF G a (L) w'):=by
 exact aM
theorem aAf {n:bD} {R:Int} (hm:kM n=some R) (d:aF G K (L) w):
  Calls prog 113 ([zA #[i64 n.Kind,i64 n.Variable,str n.B,zB n.Not]]:List Value).toArray w (eC fun v w'=>v=i64 R/\aF G K (L) w'):=by
 refine aN func113 rfl (by kernel_rfl) (by show (1:Nat)<=13;decide) ?_;unfold kM at hm
 refine aJ (gF (v:=zA #[i64 n.Kind,i64 n.Variable,str n.B,zB n.Not]) (vs:=[i64 n.Kind,i64 n.Variable,str n.B,zB n.Not]) d rfl rfl (fun h j e=>(aI (v:=i64 0) (aH (aK (aJ (aD (bH (t':=0) aCb rfl rfl) (aD (eM cR e (i:=0) rfl rfl rfl) (aH (cD (gT [4] (fun f w=>∃ a,lX n a=some R/\f 5=zB a/\aF G K (L) w) ?_ ?_)))))))))))
 ·rintro f k ⟨a,hm,g,l⟩
  unfold lX at hm
  rcases aL hm with ⟨b,hm⟩|⟨b,hm⟩
  ·exact aM
  ·exact bG b g (gT [] (fun f w=>∃ c,jK c=some R/\f 8=zB c/\aF G K (L) w) aM aM)
 exact aM
theorem aIK {a:(List bD)} {R:Bool} (hm:aDe a=some R) (g:aF G K (L) w) (h:bL K a1 c2 a):
  Calls prog 77 ([zS a1 a.length c2]:List Value).toArray w (eC fun v w'=>v=zB R/\aF G K (L) w'):=by
 refine aN func77 rfl (by kernel_rfl) (by show (1:Nat)<=22;decide) ?_;unfold aDe at hm
 refine aJ (aI (v:=zB false) (aH (aJ (aI (v:=i64 1) (aH (aK (aJ (aG (v:=zS a1 a.length c2) (aD (bC (len:=a.length) tD rfl) (aG (v:=i64 0) (aH (aO [] (fun f w=>∃ b,aGG b=some R/\f 3=i64 b/\aF G K (L) w) aM ?_))))))))))));obtain ⟨i,c,ho⟩:=aB hm
 exact bO [6,7] c (fun d e f w=>f 3=i64 d/\f 8=i64 e/\aF G K (L) w) aM aM
theorem pV {n:bD} {R:Bool} (hm:kH n=some R) (b:aF G K (L) w):
  Calls prog 91 ([zA #[i64 n.Kind,i64 n.Variable,str n.B,zB n.Not]]:List Value).toArray w (eC fun v w'=>v=zB R/\aF G K (L) w'):=by
 refine aN func91 rfl (by kernel_rfl) (by show (1:Nat)<=11;decide) ?_;unfold kH at hm
 exact aJ (gF (v:=zA #[i64 n.Kind,i64 n.Variable,str n.B,zB n.Not]) (vs:=[i64 n.Kind,i64 n.Variable,str n.B,zB n.Not]) b rfl rfl (fun c d e=>(aI (v:=zB false) (aH (aK (bP [] (fun f w=>∃ a,nD a=some R/\f 2=zB a/\aF G K (L) w) aM aM))))))
theorem sY {a b:aQ} {R:(aQ × Bool)} (hm:iJ a b=some R) (c:aF G K (L) w):
  Calls prog 153 ([str a,str b]:List Value).toArray w (eC fun v w'=>v=zT #[str R.1,zB R.2]/\aF G K (L) w'):=by
 exact aM
theorem oA {a b:aQ} {R:(aQ × Bool)} (hm:kS a b=some R) (c:aF G K (L) w):
  Calls prog 124 ([str a,str b]:List Value).toArray w (eC fun v w'=>v=zT #[str R.1,zB R.2]/\aF G K (L) w'):=by
 exact aM
theorem aHq {a:aQ} {R:Bool} (hm:vN a=some R) (d:aF G K (L) w) (g:G.lo=0):
  Calls prog 114 ([str a]:List Value).toArray w (eC fun v w'=>v=zB R/\aF G K (L) w'):=by
 refine aN func114 rfl (by kernel_rfl) (by show (1:Nat)<=23;decide) ?_;unfold vN at hm
 refine aJ (aI (v:=zB false) (aH (aJ (aG (v:=str a) ?_))));obtain ⟨b,e,hm⟩:=aB hm
 refine aP (vs:=[str a,str ([42]:aQ)]) call124 rfl (oA e d) ?_
 rintro _ h ⟨rfl,i⟩
 exact aG (v:=zT #[str b.1,zB b.2]) (aD (dC rfl rfl) (aD (dC rfl rfl) (aI (v:=str b.1) (aI (v:=zB b.2) (aH (aK (bP [] (fun f w=>∃ c,oW c=some R/\f 2=zB c/\aF G K (L) w) aM aM)))))))
theorem aES {n:bD} {R:Bool} (hm:kN n=some R) (e:aF G K (L) w) (h:G.lo=0):
  Calls prog 78 ([zA #[i64 n.Kind,i64 n.Variable,str n.B,zB n.Not]]:List Value).toArray w (eC fun v w'=>v=zB R/\aF G K (L) w'):=by
 let a:=[i64 n.Kind,i64 n.Variable,str n.B,zB n.Not]
 refine aN func78 rfl (by kernel_rfl) (by show (1:Nat)<=16;decide) ?_;unfold kN at hm
 refine aJ (gF (v:=zA #[i64 n.Kind,i64 n.Variable,str n.B,zB n.Not]) (vs:=a) e rfl rfl (fun j k b=>(aI (v:=zB false) (aH (aK (aJ (aD (kZ (us:=a) aFA b (i:=0) rfl rfl rfl rfl) ?_)))))));obtain ⟨l,g,hm⟩:=aB hm
 refine aP (vs:=[zA #[i64 n.Kind,i64 n.Variable,str n.B,zB n.Not]]) call91 rfl (pV g b) ?_
 rintro _ m ⟨rfl,o⟩
 refine aH ?_
 rcases aL hm with ⟨c,hm⟩|⟨c,hm⟩
 ·exact aM
 ·exact bG c rfl (aW (aC (aK (bP [] (fun f w=>∃ d,pS d=some R/\f 2=zB d/\aF G K (L) w) aM aM))))
end Gv
namespace Gv
open Gv.Hp renaming le_refl→zR
open Go.Value renaming slice→zS,bool→zB,pointer→zP,agg→zA
open Option.some renaming inj→zI
open Go Go.Proofs Go.Proofs.Tryz
set_option maxRecDepth 20000
set_option maxHeartbeats 40000000
variable {G:tO} {K:Hp} {L:List fJ} {w:World} {a1 a4 a7 a10 a13 a16 a19 a22 a25 a28:Option Addr} {c2 c5 c8 c11 c14 c20 c23 c26 c17:Nat}
theorem aAC {n:bD} {R:Bool} (hm:jV n=some R) (b:aF G K (L) w):
  Calls prog 94 ([zA #[i64 n.Kind,i64 n.Variable,str n.B,zB n.Not]]:List Value).toArray w (eC fun v w'=>v=zB R/\aF G K (L) w'):=by
 refine aN func94 rfl (by kernel_rfl) (by show (1:Nat)<=11;decide) ?_;unfold jV at hm
 exact aJ (gF (v:=zA #[i64 n.Kind,i64 n.Variable,str n.B,zB n.Not]) (vs:=[i64 n.Kind,i64 n.Variable,str n.B,zB n.Not]) b rfl rfl (fun c d e=>(aI (v:=zB false) (aH (aK (bP [] (fun f w=>∃ a,qW a=some R/\f 2=zB a/\aF G K (L) w) aM aM))))))
theorem aFv {n:bD} {R:Bool} (hm:oX n=some R) (c:aF G K (L) w):
  Calls prog 79 ([zA #[i64 n.Kind,i64 n.Variable,str n.B,zB n.Not]]:List Value).toArray w (eC fun v w'=>v=zB R/\aF G K (L) w'):=by
 let a:=[i64 n.Kind,i64 n.Variable,str n.B,zB n.Not]
 refine aN func79 rfl (by kernel_rfl) (by show (1:Nat)<=16;decide) ?_;unfold oX at hm
 exact aJ (gF (v:=zA #[i64 n.Kind,i64 n.Variable,str n.B,zB n.Not]) (vs:=a) c rfl rfl (fun d e g=>(aI (v:=zB false) (aH (aK (aK (bP [1] (fun f w=>∃ b,nE n b=some R/\f 9=zB b/\aF G K (box d 66 a::L) w) aM aM)))))))
theorem aGL {a:(List bD)} {k R:Int} (hm:pT a k=some R) (g:aF G K (L) w) (h:bL K a1 c2 a):
  Calls prog 115 ([zS a1 a.length c2,i64 k]:List Value).toArray w (eC fun v w'=>v=i64 R/\aF G K (L) w'):=by
 refine aN func115 rfl (by kernel_rfl) (by show (2:Nat)<=19;decide) ?_;unfold pT at hm
 refine aJ (aI (v:=i64 0) (aH (aK (aJ (aI (v:=i64 1) (aH (aO [] (fun f w=>∃ b,aAq b=some R/\f 1=i64 b/\aF G K (L) w) aM ?_)))))));obtain ⟨i,c,ho⟩:=aB hm
 exact bO [0] c (fun d e f w=>f 1=i64 d/\f 5=i64 e/\aF G K (L) w) aM aM
theorem aFN {a:(List bD)} {k R:Int} (hm:uD a k=some R) (i:aF G K (L) w) (j:bL K a1 c2 a):
  Calls prog 80 ([zS a1 a.length c2,i64 k]:List Value).toArray w (eC fun v w'=>v=i64 R/\aF G K (L) w'):=by
 refine aN func80 rfl (by kernel_rfl) (by show (2:Nat)<=38;decide) ?_;unfold uD at hm
 refine aJ (aI (v:=i64 0) (aH (aK (aJ (aG (v:=i64 k) (aD (oH rfl rfl) (aI (v:=i64 (wr (k - 1))) (aH (aO [] (fun f w=>aHJ=some R/\aF G K (L) w) aM ?_)))))))));obtain ⟨l,e,ho⟩:=aB hm
 refine eY [0,1] e (fun b f w=>f 5=i64 b/\aF G K (L) w) aM ?_
 ·rintro b g f m hm hr ⟨h,n⟩
  unfold vO at hm
  refine aK (aJ (aY h (aD (R_geq rfl rfl) (aH ?_))))
  rcases aL hm with ⟨c,hm⟩|⟨c,hm⟩
  ·exact aR c rfl (aW (aC (aK (cD (aK (bP [0,1,5] (fun f w=>∃ d,rU b d=some g/\f 36=zB d/\aF G K (L) w) aM aM))))))
  ·exact aM
theorem aFw {b:(List bD)} {R:Bool} (hm:lY b=some R) (z:aF G K (L) w) (J:G.lo=0) (g:bL K a1 c2 b):
  Calls prog 50 ([zS a1 b.length c2]:List Value).toArray w (eC fun v w'=>v=zB R/\aF G K (L) w'):=by
 refine aN func50 rfl (by kernel_rfl) (by show (1:Nat)<=47;decide) ?_;unfold lY at hm
 refine aJ (aI (v:=zB false) (aH (aK (aK (bP [0] (fun f w=>∃ d,nF b d=some R/\f 13=zB d/\aF G K (L) w) ?_ ?_)))))
 ·rintro f Z ⟨d,hm,n,a0⟩
  unfold nF at hm
  refine aC ?_
  rcases aL hm with ⟨h,hm⟩|⟨h,hm⟩
  ·exact aM
  ·refine bG h n (aW (aC (aK (aJ (aG (v:=zS a1 b.length c2) (aD (bC (len:=b.length) tD rfl) (aG (v:=i64 0) (aH (aO [] (fun f w=>aCm=some R/\aF G K (L) w) aM ?_)))))))));obtain ⟨a2,o,ho⟩:=aB hm
   refine eY [0,14,15] o (fun c f w=>f 16=i64 c/\aF G K (L) w) aM ?_
   ·rintro c p f a3 hm hr ⟨e,j⟩
    unfold gL at hm
    refine aJ (aD (cK e rfl) (aH (aK ?_)))
    rcases aL hm with ⟨k,hm⟩|⟨k,hm⟩
    ·refine aR k rfl (aW (aC (aK (cD (aJ (aY e ?_))))));obtain ⟨a,l,hm⟩:=aB hm
     refine aD (dM tD rfl g rfl rfl e l) ?_;obtain ⟨a4,q,r⟩:=bL.el (sz:=4) rfl g l
     cases r
     exact aD (jQ (t:=0) (vs:=[i64 a.Kind,i64 a.Variable,str a.B,zB a.Not]) aFA j q rfl rfl rfl) (bV (vs:=[i64 0,i64 0,str ([]:aQ),zB false]) zeroValue66 j rfl (fun u a5 x=>(aI (v:=i64 c) (dJ (i:=0) (ns:=[i64 a.Kind,i64 a.Variable,str a.B,zB a.Not]) (us:=[i64 a.Kind,i64 a.Variable,str a.B,zB a.Not]) sizeOf66 x rfl rfl rfl rfl rfl (eV rfl) rfl rfl (fun y (a6:aF G K (box u 66 [i64 a.Kind,i64 a.Variable,str a.B,zB a.Not]::L) y)=>(aH (aK (bP [0,14,15,16] (fun f w=>∃ m,gK c m=some p/\f 45=zB m/\aF G K (L) w) aM aM))))))))
    ·exact aM
 exact aM
theorem xF {a:(List bD)} {R:Bool} (hm:xT a=some R) (b:aF G K (L) w) (c:G.lo=0) (d:bL K a1 c2 a):
  Calls prog 49 ([zS a1 a.length c2]:List Value).toArray w (eC fun v w'=>v=zB R/\aF G K (L) w'):=by
 exact aM
theorem mD {a:(List (List bD))} {R:Int} (hm:cG a=some R) (r:aF G K (L) w) (l:G.lo=0) (c:bL K a1 c2 a):
  Calls prog 76 ([zS a1 a.length c2,Value.func (.func 49) #[] #[]]:List Value).toArray w (eC fun v w'=>v=i64 R/\aF G K (L) w'):=by
 refine aN func76 rfl (by kernel_rfl) (by show (2:Nat)<=19;decide) ?_;unfold cG at hm
 refine aJ (aI (v:=i64 0) (aH (aK (aJ (aG (v:=zS a1 a.length c2) (aD (bC (len:=a.length) sl_84 rfl) (aG (v:=i64 0) (aH (aO [] (fun f w=>gE=some R/\aF G K (L) w) aM ?_)))))))));obtain ⟨u,m,ho⟩:=aB hm
 refine eY [0,1,7] m (fun b f w=>f 8=i64 b/\aF G K (L) w) aM ?_
 ·rintro b x f y hm hr ⟨d,e⟩
  unfold bR at hm
  refine aJ (aD (cK d rfl) (aH (aK ?_)))
  rcases aL hm with ⟨g,hm⟩|⟨g,hm⟩
  ·refine aR g rfl (aW (aC (aK (cD (aJ (aY d (aI (v:=i64 b) (aH (aJ (aG (v:=Value.func (.func 49) #[] #[]) (aG (v:=zS a1 a.length c2) (aG (v:=i64 b) ?_))))))))))));obtain ⟨h,i,hm⟩:=aB hm
   refine aD (dM sl_84 rfl c rfl rfl rfl i) ?_;obtain ⟨z,n,o⟩:=bL.el (sz:=1) rfl c i
   obtain ⟨j,k,rfl,p⟩:=o
   refine aD (aU (t:=0) sc_24 e n rfl rfl) ?_;obtain ⟨J,q,hm⟩:=aB hm
   exact mT (vs:=[zS j h.length k]) (caps:=[]) (us:=[zS j h.length k]) rfl call49 rfl rfl (xF q e l p) aM
  ·exact aM
theorem kV {a:(List (List bD))} {R:Bool} (hm:dX a=some R) (b:aF G K (L) w) (c:G.lo=0) (d:bL K a1 c2 a):
  Calls prog 48 ([zS a1 a.length c2,Value.func (.func 49) #[] #[]]:List Value).toArray w (eC fun v w'=>v=zB R/\aF G K (L) w'):=by
 exact aM
theorem aBJ {t:bQ} {a:(List (List bD))} {R:Int} (hm:qO t a=some R) (c:aF G K (L) w) (d:G.lo=0) (e:bL K a1 c2 t.L) (g:bL K a4 c5 t.E) (h:bL K a7 c8 a):
  Calls prog 23 ([zA (zCa t a1 c2 a4 c5),zS a7 a.length c8]:List Value).toArray w (eC fun v w'=>v=i64 R/\aF G K (L) w'):=by
 refine aN func23 rfl (by kernel_rfl) (by show (2:Nat)<=12;decide) ?_;unfold qO at hm
 exact aJ (gF (v:=zA (zCa t a1 c2 a4 c5)) (vs:=(zC t a1 c2 a4 c5)) c rfl rfl (fun i j k=>(aI (v:=i64 0) (aH (aK (aK (bP [] (fun f w=>∃ b,xU b=some R/\f 11=zB b/\aF G K (L) w) aM aM)))))))
theorem aCJ {a:(List Bool)} {R:(List Int)} (hm:aBu a=some R) (q:aF G K (L) w) (y:bL K a1 c2 a):
  Calls prog 24 ([zS a1 a.length c2]:List Value).toArray w (eC fun v w'=>∃ k l,v=zS k R.length l/\aF G K (own 2 K k l R::L) w'):=by
 refine aN func24 rfl (by kernel_rfl) (by show (1:Nat)<=20;decide) ?_;unfold aBu at hm
 refine aJ (aI (v:=zS none 0 0) (aH (aJ (aI (v:=zS none 0 0) (aH (aK (aJ (aG (v:=zS a1 a.length c2) (aD (bC (len:=a.length) cS rfl) (aG (v:=i64 0) (aH (aO [] (fun f w=>∃ g m n,aHK g=some R/\f 3=zS m g.length n/\aF G K (own 2 K m n g::L) w) aM ?_))))))))))))
 have z:=aF.nil (α:=Int) q 2 K
 obtain ⟨J,r,ho⟩:=aB hm
 refine bO [6,7] r (fun h b f w=>∃ i j,f 3=zS i h.length j/\f 8=i64 b/\aF G K (own 2 K i j h::L) w) aM ?_
 ·rintro h b t f Z hm hr ⟨i,j,a0,o,a2⟩
  unfold rV at hm
  refine aJ (aD (cK o rfl) (aH (aK ?_)))
  rcases aL hm with ⟨p,hm⟩|⟨p,hm⟩
  ·refine aR p rfl (aW (aC (aK (aO [6,7,8] (fun f w=>∃ c d e,zU b c=some t/\f 3=zS d c.length e/\aF G K (own 2 K d e c::L) w) ?_ ?_))))
   ·rintro f a3 ⟨c,d,e,hm,u,x⟩
    unfold zU at hm
    exact aC (aS (aD (cN o rfl) (aG (v:=i64 (wr (b+1))) (aH ⟨_,(zI hm).symm,bF,d,e,u,rfl,x⟩))))
   exact aM
  ·exact aM
theorem fC {x_:(List Bool)} {h:Int} {R:(List Bool)} (hm:eZ x_ h=some R) (hs:aF G K (L) w) (h3:bL K a1 c2 x_):
  Calls prog 116 ([zS a1 x_.length c2,i64 h]:List Value).toArray w (eC fun v w'=>∃ t u,v=zS t R.length u/\aF G K (own 4 K t u R::L) w'):=by
 refine aN func116 rfl (by kernel_rfl) (by show (2:Nat)<=48;decide) ?_;unfold eZ at hm
 refine aJ (aI (v:=zS none 0 0) (aH (gT [0,1] (fun f w=>fO x_ h=some R/\aF G K (L) w) ?_ ?_)))
 ·rintro f w4 ⟨hm,a9⟩
  unfold fO at hm
  refine aJ (aG (v:=zS a1 x_.length c2) (aD (bC (len:=x_.length) cS rfl) (aD (aGZ runUnderlying95 rfl ⟨_,runUnderlying3⟩) (aG (v:=i64 h) (aD (aGZ runUnderlying95 rfl ⟨_,runUnderlying3⟩) ?_)))));obtain ⟨c,q7,hm⟩:=aB hm
  refine aP (vs:=[Value.int .u64 (kX (x_.length:Int)),Value.int .u64 (kX h)]) call151 rfl (lib_Mul a9 q7) ?_
  rintro _ w8 ⟨rfl,x⟩
  refine aG (v:=Value.tuple #[Value.int .u64 c.1,Value.int .u64 c.2]) (aD (dC rfl rfl) (aD (dC rfl rfl) (aI (v:=Value.int .u64 c.1) (aI (v:=Value.int .u64 c.2) (aH (gT [0,6] (fun f w=>fN x_ c=some R/\aF G K (L) w) ?_ ?_))))))
  ·rintro f d5 ⟨hm,b1⟩
   unfold fN at hm
   refine aJ (aG (v:=Value.int .u64 c.2) (aD (aLn runUnderlying3 rfl ⟨_,runUnderlying95⟩) ?_));obtain ⟨a,b2,hm⟩:=aB hm
   refine xD (e:=(false:Bool)) cS aFu rfl rfl b1 rfl rfl rfl b2 rfl (fun b b3 (y:aF G K (own 4 K b a.length a::L) b3)=>(aI (v:=zS b a.length a.length) (aH (aJ (aG (v:=zS b a.length a.length) (aG (v:=zS a1 x_.length c2) ?_))))));obtain ⟨b4,z,hm⟩:=aB hm
   refine aLw cS rfl y (i:=0) rfl Cut.whole rfl rfl rfl (aJZ _ _ _) aIA (aLx rfl y h3) z (fun b5 (b6:aF G K (own 4 K b a.length b4::L) b5)=>(aI (v:=i64 ((Nat.min x_.length a.length):Int)) (aH (aK (aO [] (fun f w=>∃ j,fL j=some R/\f 7=zS b j.length a.length/\aF G K (own 4 K b a.length j::L) w) ?_ ?_)))))
   ·rintro f d6 ⟨j,hm,b7,b8⟩
    unfold fL at hm
    refine aC (aJ (aY b7 (aI (v:=zS b j.length a.length) (aH ?_))));obtain rfl:=zI hm
    exact tC (pJ results116 rfl ⟨b,a.length,rfl,b8⟩)
   obtain ⟨d7,c0,ho⟩:=aB hm
   refine bO [] c0 (fun k l f w=>f 7=zS b k.length a.length/\f 8=i64 l/\aF G K (own 4 K b a.length k::L) w) ?_ ?_
   ·exact ⟨(Eq.trans rfl (congrArg (fun n=>zS b n a.length) (aGj z))),rfl,b6⟩
   ·rintro k l d8 f d9 hm hr ⟨m,o,J⟩
    unfold fM at hm
    refine aK (aJ (aY o (aY m (aD (bC (len:=k.length) cS rfl) (aD (cK rfl rfl) (aH ?_))))))
    rcases aL hm with ⟨q,hm⟩|⟨q,hm⟩
    ·refine aR q rfl (aW (aC (cD (cV (C:=fun w'=>∃ L',aF G K L' w') [(0,0),(1,0),(2,0),(3,0),(4,0),(5,0),(6,0),(7,1),(8,0),(9,0)] Tryz_mixed (by kernel_rfl) (fun _ hg=>⟨_,aF.mono J hg⟩) (fun e0 c1=>?_)))))
     have p:=aF.mono J c1
     refine bE rfl (fun _ _=>aT o) (bE rfl (fun _ _=>aT m) (bE rfl (fun _ _=>aT o) ?_));obtain ⟨c3,c4,hm⟩:=aB hm
     have c5:=sH p (i:=0) rfl
     obtain ⟨e1,e2,Z⟩:=Cut.ex 1 b a.length l
     refine bE rfl (fun _ _=>aEh cS c5 Z rfl rfl rfl c4) (bE rfl (fun _ _=>aT m) (bE rfl (fun _ _=>aT o) ?_));obtain ⟨c6,a0,hm⟩:=aB hm
     have c7:=sH p (i:=0) rfl
     obtain ⟨e3,e4,a2⟩:=Cut.ex 1 b a.length 0
     refine bE rfl (fun _ _=>aIB cS c7 a2 rfl rfl rfl a0) (nT rfl ?_);obtain ⟨c8,a3,hm⟩:=aB hm
     refine aLw cS rfl p (i:=0) rfl Z rfl rfl rfl (aJZ _ _ _) aIA (aMI rfl p (i:=0) rfl a0 a2) a3 (fun c9 (a4:aF G K (own 4 K b a.length c8::L) c9)=>(aV (aC ⟨⟨_,a4⟩,?_⟩)))
     exact bE rfl (fun _ _=>cN rfl rfl) (bE rfl (fun _ _=>eE (v:=i64 (wr (l+((Nat.min c6.length c3.length):Int)))) rfl) (xI (cH (aC ⟨_,(zI hm).symm,bF,(Eq.trans m (congrArg (fun n=>zS b n a.length) (aGj a3))),rfl,a4⟩))))
    ·refine bG q rfl (aCA (kY (kY ?_)))
     have d0:=hr _ (zI hm).symm
     subst d0
     have hm:(fL k)=some R:=ho
     exact aM
  refine aK (bP [0,6] (fun f w=>∃ r,eF x_ c r=some R/\f 26=zB r/\aF G K (L) w) ?_ ?_)
  ·rintro f e5 ⟨r,hm,d1,d2⟩
   unfold eF at hm
   refine aC ?_
   rcases aL hm with ⟨a5,hm⟩|⟨a5,hm⟩
   ·exact aM
   ·exact bG a5 d1 (aW (aC ⟨bF,hm,d2⟩))
  refine aS (aG (v:=Value.int .u64 c.1) (aD (aBX rfl rfl) (aG (v:=zB (decide (0 < c.1))) ?_)))
  rcases aL hm with ⟨d,hm⟩|⟨d,hm⟩
  ·exact dL d rfl rfl (dL d rfl rfl (aD (eX (v:=zB true) d rfl rfl) (aH ⟨bF,true,hm,rfl,x⟩)))
  ·exact cU d rfl rfl (aG (v:=Value.int .u64 c.2) (cU d rfl rfl (aD (aBX rfl rfl) (aD (fF (v:=zB (decide (9223372036854775807 < c.2))) d rfl rfl) (aH ⟨bF,decide (9223372036854775807 < c.2),hm,rfl,x⟩)))))
 refine aJ (aG (v:=i64 h) (aD (cK rfl rfl) (aH ?_)))
 rcases aL hm with ⟨a6,hm⟩|⟨a6,hm⟩
 ·exact aM
 ·exact bG a6 rfl (aW (aC ⟨bF,hm,hs⟩))
theorem aDP {g:(List bM)} {R:((List (List Int)) × (List Bool))} (hm:aBv g=some R) (hs:aF G K (L) w) (h3:bL K a1 c2 g):
  Calls prog 81 ([zS a1 g.length c2]:List Value).toArray w (eC fun v w'=>∃ g7 g8 e4 g9 h0 h1,v=zP (some ⟨h1,0,none⟩)/\List.length e4=List.length R.1/\aF G K (own 32 K g7 g8 (aX e4 R.1)::rows [2] e4 R.1::own 4 K g9 h0 R.2::box h1 148 [zS a1 g.length c2,zS g7 R.1.length g8,zS g9 R.2.length h0]::L) w'):=by
 refine aN func81 rfl (by kernel_rfl) (by show (1:Nat)<=51;decide) ?_;unfold aBv at hm
 refine aJ (aI (v:=zP none) (aH (aK (bP [0] (fun f w=>∃ x5 a p b c d4 d e,yP g x5 a=some R/\f 3=zP (some ⟨p,0,none⟩)/\List.length d4=List.length x5/\aF G K (own 4 K d e a::own 32 K b c (aX d4 x5)::rows [2] d4 x5::box p 148 [zS a1 g.length c2,zS b x5.length c,zS d a.length e]::L) w) ?_ ?_))))
 ·rintro f p3 ⟨x5,a,p,b,c,d4,d,e,hm,h2,p4,p5⟩
  unfold yP at hm
  refine aC (aK (aJ (aG (v:=zS a1 g.length c2) (aD (bC (len:=g.length) vV rfl) (aG (v:=i64 0) (aH (aO [3] (fun f w=>∃ c1 e5,aFH a c1=some R/\List.length e5=List.length c1/\aF G K (own 4 K d e a::own 32 K b c (aX e5 c1)::rows [2] e5 c1::box p 148 [zS a1 g.length c2,zS b c1.length c,zS d a.length e]::L) w) aM ?_)))))));obtain ⟨p6,k1,ho⟩:=aB hm
  refine bO [3,18,19] k1 (fun a3 o f w=>∃ b0,f 20=i64 o/\List.length b0=List.length a3/\aF G K (own 4 K d e a::own 32 K b c (aX b0 a3)::rows [2] b0 a3::box p 148 [zS a1 g.length c2,zS b a3.length c,zS d a.length e]::L) w) aM ?_
  ·rintro a3 o h4 f p7 hm hr ⟨b0,d5,p8,h5⟩
   unfold lD at hm
   refine aJ (aD (cK d5 rfl) (aH (aK ?_)))
   rcases aL hm with ⟨h6,hm⟩|⟨h6,hm⟩
   ·refine aR h6 rfl (aW (aC (aK (aO [3,18,19,20] (fun f w=>∃ b1 c3,yN o b1=some h4/\List.length c3=List.length b1/\aF G K (own 4 K d e a::own 32 K b c (aX c3 b1)::rows [2] c3 b1::box p 148 [zS a1 g.length c2,zS b b1.length c,zS d a.length e]::L) w) ?_ ?_))))
    ·rintro f p9 ⟨b1,c3,hm,k2,k3⟩
     unfold yN at hm
     exact aC (aS (aD (cN d5 rfl) (aG (v:=i64 (wr (o+1))) (aH ⟨_,(zI hm).symm,bF,c3,rfl,k2,k3⟩))))
    refine aJ (aY d5 ?_);obtain ⟨r,h7,hm⟩:=aB hm
    refine aD (dM vV rfl h3 rfl rfl d5 h7) ?_;obtain ⟨q0,k4,k5⟩:=bL.el (sz:=3) rfl h3 h7
    obtain ⟨d6,d7,rfl,h8⟩:=k5
    refine aD (jQ (t:=0) (vs:=[i64 r.Owner,i64 r.Priority,zS d6 r.Next.length d7]) ag_117 h5 k4 rfl rfl rfl) (bV (vs:=[i64 0,i64 0,zS none 0 0]) zeroValue117 h5 rfl (fun k6 q1 k7=>(aI (v:=i64 o) (dJ (i:=0) (ns:=[i64 r.Owner,i64 r.Priority,zS d6 r.Next.length d7]) (us:=[i64 r.Owner,i64 r.Priority,zS d6 r.Next.length d7]) sizeOf117 k7 rfl rfl rfl rfl rfl (eV rfl) rfl rfl (fun k8 (k9:aF G K (box k6 117 [i64 r.Owner,i64 r.Priority,zS d6 r.Next.length d7]::own 4 K d e a::own 32 K b c (aX b0 a3)::rows [2] b0 a3::box p 148 [zS a1 g.length c2,zS b a3.length c,zS d a.length e]::L) k8)=>(aH (aJ (aD (bH (t':=2) aEk rfl rfl) (aD (eM vU k9 (i:=0) rfl rfl rfl) (aD (bC (len:=r.Next.length) bN rfl) (aG (v:=i64 0) (aH (aO [3,18,19,20] (fun f w=>∃ c4 e6,aCI o c4=some h4/\List.length e6=List.length c4/\aF G K (own 4 K d e a::own 32 K b c (aX e6 c4)::rows [2] e6 c4::box p 148 [zS a1 g.length c2,zS b c4.length c,zS d a.length e]::L) w) aM ?_)))))))))))))
    obtain ⟨q2,l0,ho⟩:=aB hm
    refine bO [3,4,18,19,20,26,27] l0 (fun l d8 f w=>∃ k,f 28=i64 d8/\List.length k=List.length l/\aF G K (own 4 K d e a::own 32 K b c (aX k l)::rows [2] k l::box p 148 [zS a1 g.length c2,zS b l.length c,zS d a.length e]::L) w) aM ?_
    ·rintro l d8 l1 f q3 hm hr ⟨k,e7,a4,h9⟩
     unfold lC at hm
     refine aJ (aD (cK e7 rfl) (aH (aK ?_)))
     rcases aL hm with ⟨i0,hm⟩|⟨i0,hm⟩
     ·refine aR i0 rfl (aW (aC (aK (cD (aJ ?_)))));obtain ⟨m,i1,hm⟩:=aB hm
      refine aD (dM bN rfl h8 rfl rfl e7 i1) ?_;obtain ⟨q4,l2,l3⟩:=bL.el (sz:=1) rfl h8 i1
      cases l3
      refine aD (aU (t:=0) cR h9 l2 rfl rfl) (aI (v:=i64 m) (aH (bP [3,4,18,19,20,26,27,28] (fun f w=>∃ b2 c5,yO d8 b2=some l1/\List.length c5=List.length b2/\aF G K (own 4 K d e a::own 32 K b c (aX c5 b2)::rows [2] c5 b2::box p 148 [zS a1 g.length c2,zS b b2.length c,zS d a.length e]::L) w) ?_ ?_)))
      ·rintro f q5 ⟨b2,c5,hm,l4,l5⟩
       unfold yO at hm
       exact cH (aC (aS (aD (cN e7 rfl) (aG (v:=i64 (wr (d8+1))) (aH ⟨_,(zI hm).symm,bF,c5,rfl,l4,l5⟩)))))
      obtain ⟨z,d9,i2,l6,i3⟩:=aF.lendBp h9 zt3
      refine xJ (C:=fun w'=>∃ L',aF G z L' w') [16] Tryz_mixed (by kernel_rfl) (fun q6 l7=>?_)
      have n:=aF.mono l6 l7
      refine fY (i:=0) rfl (by kernel_rfl) ⟨_,n⟩ (fun _ _=>aT h2) (fY (i:=1) rfl (by kernel_rfl) ⟨_,n⟩ (fun _ _=>aIq rfl) (fY (i:=2) rfl (by kernel_rfl) ⟨_,n⟩ (fun _ _=>bH (t':=1) aEl rfl rfl) (fY (i:=3) rfl (by kernel_rfl) ⟨_,n⟩ (fun _ ⟨_,n⟩=>aU (t:=1) sc_81 n i2 rfl rfl) (fY (i:=4) rfl (by kernel_rfl) ⟨_,n⟩ (fun _ _=>aT (v:=i64 m) rfl) (fY (i:=5) rfl (by kernel_rfl) ⟨_,n⟩ (fun _ _=>aT h2) (fY (i:=6) rfl (by kernel_rfl) ⟨_,n⟩ (fun _ _=>aIq rfl) (fY (i:=7) rfl (by kernel_rfl) ⟨_,n⟩ (fun _ _=>bH (t':=1) aEl rfl rfl) (fY (i:=8) rfl (by kernel_rfl) ⟨_,n⟩ (fun _ ⟨_,n⟩=>aU (t:=1) sc_81 n i2 rfl rfl) (fY (i:=9) rfl (by kernel_rfl) ⟨_,n⟩ (fun _ _=>aT (v:=i64 m) rfl) ?_)))))))))
      obtain ⟨e0,y,hm⟩:=aB hm
      obtain ⟨⟨e1,e2⟩,a5⟩:=aHb a4 y
      have e8:=cA n (i:=1) rfl (kP a4 y a5)
      refine fY (i:=10) rfl (by kernel_rfl) ⟨_,n⟩ (fun _ _=>cM iG rfl e8 rfl rfl rfl y) (fY (i:=12) rfl (by kernel_rfl) ⟨_,n⟩ (fun _ _=>aT (v:=i64 o) rfl) (aCa (i:=11) (j:=13) (by kernel_rfl) rfl rfl ?_ ?_))
      ·refine aD (lA (t:=0) vU n (i:=1) rfl (kP a4 y a5) rfl rfl rfl) (aV (aC ⟨fun _=>⟨_,n⟩,?_⟩))
       refine dQ (i:=13) (by kernel_rfl) rfl (bX (Kt:=K) (xs:=([o]:List Int)) (cs:=[i64 o]) (vs:=[(0,i64 o)]) bN kQ rfl rfl n rfl (by kernel_rfl) rfl rfl rfl ⟨rfl,trivial⟩ (fun e9 f0 (i4:aF G z (own 2 K e9 1 ([o]:List Int)::own 4 K d e a::own 32 K b c (aX k l)::rows [2] k l::L) f0)=>(aV (aC ⟨fun _=>⟨_,i4⟩,?_⟩))))
       refine dQ (i:=14) (by kernel_rfl) rfl ?_
       have l8:aF G z (own 32 K b c (aX k l)::rows [2] ((k).eraseIdx m.toNat) ((l).eraseIdx m.toNat)::own 2 K e1 e2 e0::own 2 K e9 1 ([o]:List Int)::own 4 K d e a::L) f0:=aF.focusR (i:=2) i4 rfl rfl a5 y
       obtain ⟨f1,l9,hm⟩:=aB hm
       have m0:aF G z (own 2 K e9 1 ([o]:List Int)::own 32 K b c (aX k l)::rows [2] ((k).eraseIdx m.toNat) ((l).eraseIdx m.toNat)::own 2 K e1 e2 e0::own 4 K d e a::L) f0:=(aF.arr 4 [3,0,1,2] l8 rfl)
       refine eQ (i:=2) bN underlying32 kQ rfl rfl m0 rfl d9 d9 l9 rfl rfl rfl rfl (fun _ h=>h) (fun J Z i5 (f2:aF G z (own 32 K b c (aX k l)::rows [2] ((k).eraseIdx m.toNat) ((l).eraseIdx m.toNat)::own 2 K J Z f1::own 4 K d e a::L) i5)=>(aV (aC ⟨fun _=>⟨_,f2⟩,?_⟩)))
       refine fY (i:=15) rfl (by kernel_rfl) ⟨_,f2⟩ (fun _ _=>cM iG rfl e8 rfl rfl rfl y) (dQ (i:=16) (by kernel_rfl) rfl ?_)
       have m1:=i3 _ _ f2
       have m2:aF G K (own 2 K J Z f1::box p 148 [zS a1 g.length c2,zS b l.length c,zS d a.length e]::own 32 K b c (aX k l)::rows [2] ((k).eraseIdx m.toNat) ((l).eraseIdx m.toNat)::own 4 K d e a::L) i5:=(aF.arr 4 [3,0,1,2] m1 rfl)
       obtain ⟨b3,f3,hm⟩:=aB hm
       refine aHg (i:=1) (tys:=[2]) (hd':=(J,Z)) (e':=f1) (hds:=k) sizeOf32 m2 a4 rfl rfl rfl rfl rfl y a5 f3 rfl ?_
       intro i6 (m3:aF G K (own 32 K b c (aX (List.set k m.toNat (J,Z)) b3)::rows [2] (List.set k m.toNat (J,Z)) b3::box p 148 [zS a1 g.length c2,zS b l.length c,zS d a.length e]::own 4 K d e a::L) i6)
       have m4:aF G K (own 32 K b c (aX (List.set k m.toNat (J,Z)) b3)::rows [2] (List.set k m.toNat (J,Z)) b3::box p 148 [zS a1 g.length c2,zS b b3.length c,zS d a.length e]::own 4 K d e a::L) i6:=by rw [←(eL f3)];exact m3
       refine aV (aC ⟨no_c rfl,?_⟩)
       exact pL (by kernel_rfl) (aC ⟨bF,b3,(List.set k m.toNat (J,Z)),hm,(aDt (hd:=((J,Z):Dp.Hd (List Int))) a4 f3),(aF.arr 4 [3,0,1,2] m4 rfl)⟩)
      ·refine bX (Kt:=K) (xs:=([o]:List Int)) (cs:=[i64 o]) (vs:=[(0,i64 o)]) bN kQ rfl rfl n rfl (by kernel_rfl) rfl rfl rfl ⟨rfl,trivial⟩ (fun f4 f5 (e3:aF G z (own 2 K f4 1 ([o]:List Int)::own 4 K d e a::own 32 K b c (aX k l)::rows [2] k l::L) f5)=>(aV (aC ⟨fun _=>⟨_,e3⟩,?_⟩)))
       refine dQ (i:=11) (by kernel_rfl) rfl (aD (lA (t:=0) vU e3 (i:=2) rfl (kP a4 y a5) rfl rfl rfl) (aV (aC ⟨fun _=>⟨_,e3⟩,?_⟩)))
       refine dQ (i:=14) (by kernel_rfl) rfl ?_
       have m5:aF G z (own 32 K b c (aX k l)::rows [2] ((k).eraseIdx m.toNat) ((l).eraseIdx m.toNat)::own 2 K e1 e2 e0::own 2 K f4 1 ([o]:List Int)::own 4 K d e a::L) f5:=aF.focusR (i:=2) e3 rfl rfl a5 y
       obtain ⟨f6,m6,hm⟩:=aB hm
       have m7:aF G z (own 2 K f4 1 ([o]:List Int)::own 32 K b c (aX k l)::rows [2] ((k).eraseIdx m.toNat) ((l).eraseIdx m.toNat)::own 2 K e1 e2 e0::own 4 K d e a::L) f5:=(aF.arr 4 [3,0,1,2] m5 rfl)
       refine eQ (i:=2) bN underlying32 kQ rfl rfl m7 rfl d9 d9 m6 rfl rfl rfl rfl (fun _ h=>h) (fun a0 a2 i7 (f7:aF G z (own 32 K b c (aX k l)::rows [2] ((k).eraseIdx m.toNat) ((l).eraseIdx m.toNat)::own 2 K a0 a2 f6::own 4 K d e a::L) i7)=>(aV (aC ⟨fun _=>⟨_,f7⟩,?_⟩)))
       refine fY (i:=15) rfl (by kernel_rfl) ⟨_,f7⟩ (fun _ _=>cM iG rfl e8 rfl rfl rfl y) (dQ (i:=16) (by kernel_rfl) rfl ?_)
       have m8:=i3 _ _ f7
       have m9:aF G K (own 2 K a0 a2 f6::box p 148 [zS a1 g.length c2,zS b l.length c,zS d a.length e]::own 32 K b c (aX k l)::rows [2] ((k).eraseIdx m.toNat) ((l).eraseIdx m.toNat)::own 4 K d e a::L) i7:=(aF.arr 4 [3,0,1,2] m8 rfl)
       obtain ⟨b5,f8,hm⟩:=aB hm
       refine aHg (i:=1) (tys:=[2]) (hd':=(a0,a2)) (e':=f6) (hds:=k) sizeOf32 m9 a4 rfl rfl rfl rfl rfl y a5 f8 rfl ?_
       intro i8 (n0:aF G K (own 32 K b c (aX (List.set k m.toNat (a0,a2)) b5)::rows [2] (List.set k m.toNat (a0,a2)) b5::box p 148 [zS a1 g.length c2,zS b l.length c,zS d a.length e]::own 4 K d e a::L) i8)
       have n1:aF G K (own 32 K b c (aX (List.set k m.toNat (a0,a2)) b5)::rows [2] (List.set k m.toNat (a0,a2)) b5::box p 148 [zS a1 g.length c2,zS b b5.length c,zS d a.length e]::own 4 K d e a::L) i8:=by rw [←(eL f8)];exact n0
       refine aV (aC ⟨no_c rfl,?_⟩)
       exact pL (by kernel_rfl) (aC ⟨bF,b5,(List.set k m.toNat (a0,a2)),hm,(aDt (hd:=((a0,a2):Dp.Hd (List Int))) a4 f8),(aF.arr 4 [3,0,1,2] n1 rfl)⟩)
     ·exact aM
   ·exact aM
 refine xJ (C:=fun w'=>∃ L',aF G K L' w') [] Tryz_mixed (by kernel_rfl) (fun q7 n2=>?_)
 have a7:=aF.mono hs n2
 refine fY (i:=0) rfl (by kernel_rfl) ⟨_,a7⟩ (fun _ _=>aT (v:=zS a1 g.length c2) rfl) (fY (i:=1) rfl (by kernel_rfl) ⟨_,a7⟩ (fun _ _=>aT (v:=zS a1 g.length c2) rfl) (fY (i:=2) rfl (by kernel_rfl) ⟨_,a7⟩ (fun _ _=>bC (len:=g.length) vV rfl) (fY (i:=5) rfl (by kernel_rfl) ⟨_,a7⟩ (fun _ _=>aT (v:=zS a1 g.length c2) rfl) (fY (i:=6) rfl (by kernel_rfl) ⟨_,a7⟩ (fun _ _=>bC (len:=g.length) vV rfl) (aCa (i:=3) (j:=4) (by kernel_rfl) rfl rfl ?_ ?_)))))
 ·obtain ⟨q,i9,hm⟩:=aB hm
  refine aIu (tys:=[2]) (hd:=((none,0):Dp.Hd (List Int))) iG aBg rfl rfl a7 rfl rfl rfl i9 rfl (aGq _) ?_
  intro a8 n3 (j0:aF G K (own 32 K a8 q.length (aX (List.replicate (g.length:Int).toNat ((none,0):Dp.Hd (List Int))) q)::rows [2] (List.replicate (g.length:Int).toNat ((none,0):Dp.Hd (List Int))) q::L) n3)
  refine aV (aC ⟨fun _=>⟨_,j0⟩,?_⟩)
  refine dQ (i:=4) (by kernel_rfl) rfl (bX (Kt:=K) (xs:=([true]:List Bool)) (cs:=[zB true]) (vs:=[(0,zB true)]) cS aFu rfl rfl j0 rfl (by kernel_rfl) rfl rfl rfl ⟨rfl,trivial⟩ ?_)
  intro j1 n4 (j2:aF G K (own 4 K j1 1 ([true]:List Bool)::own 32 K a8 q.length (aX (List.replicate (g.length:Int).toNat ((none,0):Dp.Hd (List Int))) q)::rows [2] (List.replicate (g.length:Int).toNat ((none,0):Dp.Hd (List Int))) q::L) n4)
  refine aV (aC ⟨fun _=>⟨_,j2⟩,?_⟩)
  refine dQ (i:=7) (by kernel_rfl) rfl ?_;obtain ⟨q8,q9,n5,n6,n7⟩:=aF.lendSp j2 (zR _) .head
  obtain ⟨c6,n8,hm⟩:=aB hm
  refine aP (vs:=[zS j1 ([true]:List Bool).length 1,i64 (g.length:Int)]) call116 rfl (fC n8 n6 n5) ?_
  rintro _ r0 ⟨c8,c9,rfl,n9⟩
  have f9:=n7 _ _ n9
  refine aV (aC ⟨fun _=>⟨_,f9⟩,?_⟩)
  refine fY (i:=8) rfl (by kernel_rfl) ⟨_,f9⟩ (fun _ _=>gJ (vs:=[(0,zS a1 g.length c2),(1,zS a8 q.length q.length),(2,zS c8 c6.length c9)]) (cs:=[zS a1 g.length c2,zS a8 q.length q.length,zS c8 c6.length c9]) aID rfl (by kernel_rfl)) (dQ (i:=9) (by kernel_rfl) rfl (gF (v:=zA #[zS a1 g.length c2,zS a8 q.length q.length,zS c8 c6.length c9]) (vs:=[zS a1 g.length c2,zS a8 q.length q.length,zS c8 c6.length c9]) f9 rfl rfl (fun j3 r1 g0=>(aV (aC ⟨fun _=>⟨_,g0⟩,?_⟩)))))
  exact fY (i:=10) rfl (by kernel_rfl) ⟨_,g0⟩ (fun _ _=>eE (v:=zP (some ⟨j3,0,none⟩)) rfl) (pL (by kernel_rfl) (aC ⟨bF,q,c6,j3,a8,q.length,(List.replicate (g.length:Int).toNat ((none,0):Dp.Hd (List Int))),c8,c9,hm,rfl,(aAS (hd:=((none,0):Dp.Hd (List Int))) i9).2.1,(aF.arr 5 [2,3,4,0] g0 rfl)⟩))
 ·refine bX (Kt:=K) (xs:=([true]:List Bool)) (cs:=[zB true]) (vs:=[(0,zB true)]) cS aFu rfl rfl a7 rfl (by kernel_rfl) rfl rfl rfl ⟨rfl,trivial⟩ (fun d0 o0 (g1:aF G K (own 4 K d0 1 ([true]:List Bool)::L) o0)=>(aV (aC ⟨fun _=>⟨_,g1⟩,?_⟩)))
  refine aCa (i:=3) (j:=7) (by kernel_rfl) rfl rfl ?_ ?_
  ·obtain ⟨u,j4,hm⟩:=aB hm
   refine aIu (tys:=[2]) (hd:=((none,0):Dp.Hd (List Int))) iG aBg rfl rfl g1 rfl rfl rfl j4 rfl (aGq _) ?_
   intro b6 o1 (j5:aF G K (own 32 K b6 u.length (aX (List.replicate (g.length:Int).toNat ((none,0):Dp.Hd (List Int))) u)::rows [2] (List.replicate (g.length:Int).toNat ((none,0):Dp.Hd (List Int))) u::own 4 K d0 1 ([true]:List Bool)::L) o1)
   refine aV (aC ⟨fun _=>⟨_,j5⟩,?_⟩)
   refine dQ (i:=7) (by kernel_rfl) rfl ?_;obtain ⟨r2,r3,o2,o3,o4⟩:=aF.lendSp j5 (zR _) zt2
   obtain ⟨d1,o5,hm⟩:=aB hm
   refine aP (vs:=[zS d0 ([true]:List Bool).length 1,i64 (g.length:Int)]) call116 rfl (fC o5 o3 o2) ?_
   rintro _ r4 ⟨d2,d3,rfl,o6⟩
   have g2:=o4 _ _ o6
   refine aV (aC ⟨fun _=>⟨_,g2⟩,?_⟩)
   refine fY (i:=8) rfl (by kernel_rfl) ⟨_,g2⟩ (fun _ _=>gJ (vs:=[(0,zS a1 g.length c2),(1,zS b6 u.length u.length),(2,zS d2 d1.length d3)]) (cs:=[zS a1 g.length c2,zS b6 u.length u.length,zS d2 d1.length d3]) aID rfl (by kernel_rfl)) (dQ (i:=9) (by kernel_rfl) rfl (gF (v:=zA #[zS a1 g.length c2,zS b6 u.length u.length,zS d2 d1.length d3]) (vs:=[zS a1 g.length c2,zS b6 u.length u.length,zS d2 d1.length d3]) g2 rfl rfl (fun j6 r5 g3=>(aV (aC ⟨fun _=>⟨_,g3⟩,?_⟩)))))
   exact fY (i:=10) rfl (by kernel_rfl) ⟨_,g3⟩ (fun _ _=>eE (v:=zP (some ⟨j6,0,none⟩)) rfl) (pL (by kernel_rfl) (aC ⟨bF,u,d1,j6,b6,u.length,(List.replicate (g.length:Int).toNat ((none,0):Dp.Hd (List Int))),d2,d3,hm,rfl,(aAS (hd:=((none,0):Dp.Hd (List Int))) j4).2.1,(aF.arr 5 [2,3,4,0] g3 rfl)⟩))
  ·replace hm:=ob_swap hm
   obtain ⟨r6,r7,o7,o8,o9⟩:=aF.lendSp g1 (zR _) .head
   obtain ⟨b7,p0,hm⟩:=aB hm
   refine aP (vs:=[zS d0 ([true]:List Bool).length 1,i64 (g.length:Int)]) call116 rfl (fC p0 o8 o7) ?_
   rintro _ r8 ⟨b8,b9,rfl,p1⟩
   have j7:=o9 _ _ p1
   refine aV (aC ⟨fun _=>⟨_,j7⟩,?_⟩)
   refine dQ (i:=3) (by kernel_rfl) rfl ?_;obtain ⟨x,j8,hm⟩:=aB hm
   refine aIu (tys:=[2]) (hd:=((none,0):Dp.Hd (List Int))) iG aBg rfl rfl j7 rfl rfl rfl j8 rfl (aGq _) ?_
   intro c0 p2 (g4:aF G K (own 32 K c0 x.length (aX (List.replicate (g.length:Int).toNat ((none,0):Dp.Hd (List Int))) x)::rows [2] (List.replicate (g.length:Int).toNat ((none,0):Dp.Hd (List Int))) x::own 4 K d0 1 ([true]:List Bool)::own 4 K b8 b9 b7::L) p2)
   refine aV (aC ⟨fun _=>⟨_,g4⟩,?_⟩)
   refine fY (i:=8) rfl (by kernel_rfl) ⟨_,g4⟩ (fun _ _=>gJ (vs:=[(0,zS a1 g.length c2),(1,zS c0 x.length x.length),(2,zS b8 b7.length b9)]) (cs:=[zS a1 g.length c2,zS c0 x.length x.length,zS b8 b7.length b9]) aID rfl (by kernel_rfl)) (dQ (i:=9) (by kernel_rfl) rfl (gF (v:=zA #[zS a1 g.length c2,zS c0 x.length x.length,zS b8 b7.length b9]) (vs:=[zS a1 g.length c2,zS c0 x.length x.length,zS b8 b7.length b9]) g4 rfl rfl (fun j9 r9 g5=>(aV (aC ⟨fun _=>⟨_,g5⟩,?_⟩)))))
   exact fY (i:=10) rfl (by kernel_rfl) ⟨_,g5⟩ (fun _ _=>eE (v:=zP (some ⟨j9,0,none⟩)) rfl) (pL (by kernel_rfl) (aC ⟨bF,x,b7,j9,c0,x.length,(List.replicate (g.length:Int).toNat ((none,0):Dp.Hd (List Int))),b8,b9,hm,rfl,(aAS (hd:=((none,0):Dp.Hd (List Int))) j8).2.1,(aF.arr 5 [4,1,2,0] g5 rfl)⟩))
theorem aBK {x_:eO} {a:Nat} {k R:Int} (hm:uE x_ k=some R) (e:aF G K (L) w) (c:dT K a1 a [zS a4 x_.g.length c5,zS a7 x_.back.length c8,zS a10 x_.in_.length c11]) (h:bL K a4 c5 x_.g) (z:bL K a7 c8 x_.back) (J:bL K a10 c11 x_.in_):
  Calls prog 118 ([bY a1 a,i64 k]:List Value).toArray w (eC fun v w'=>v=i64 R/\aF G K (L) w'):=by
 refine aN func118 rfl (by kernel_rfl) (by show (2:Nat)<=32;decide) ?_;unfold uE at hm
 refine aJ (aI (v:=i64 0) (aH (aJ (aI (v:=i64 0) (aH (aK (aJ (aG (v:=bY a1 a) (aD (cQ rfl c) (aD (cJ (k':=a+0) pY rfl c rfl) (aD (aU (t:=0) aBh e c rfl rfl) (aG (v:=i64 k) ?_))))))))))));obtain ⟨p,i,hm⟩:=aB hm
 refine aD (dM vV rfl h rfl rfl rfl i) ?_;obtain ⟨Z,j,q⟩:=bL.el (sz:=3) rfl h i
 obtain ⟨a0,a2,rfl,a3⟩:=q
 refine aD (cJ (k':=k.toNat * 3+2) aEk rfl j rfl) (aD (aU (t:=2) vU e j rfl rfl) (aD (bC (len:=p.Next.length) bN rfl) (aG (v:=i64 0) (aH (aO [] (fun f w=>∃ l,aDf l=some R/\f 5=i64 l/\aF G K (L) w) aM ?_)))));obtain ⟨a5,r,ho⟩:=aB hm
 refine bO [0,15,16] r (fun m b f w=>f 5=i64 m/\f 17=i64 b/\aF G K (L) w) aM ?_
 ·rintro m b u f a6 hm hr ⟨a8,n,a9⟩
  unfold iC at hm
  refine aJ (aD (cK n rfl) (aH (aK ?_)))
  rcases aL hm with ⟨o,hm⟩|⟨o,hm⟩
  ·refine aR o rfl (aW (aC (aK (aO [0,15,16,17] (fun f w=>∃ d,oY b d=some u/\f 5=i64 d/\aF G K (L) w) ?_ ?_))))
   ·rintro f b0 ⟨d,hm,x,y⟩
    unfold oY at hm
    exact aC (aS (aD (cN n rfl) (aG (v:=i64 (wr (b+1))) (aH ⟨_,(zI hm).symm,bF,x,rfl,y⟩))))
   exact aM
  ·exact aM
theorem iS {a R:(List Bool)} (hm:eD a=some R) (j:aF G K (L) w) (d:bL K a1 c2 a):
  Calls prog 117 ([zS a1 a.length c2]:List Value).toArray w (eC fun v w'=>∃ e g,v=zS e R.length g/\aF G K (own 4 K e g R::L) w'):=by
 refine aN func117 rfl (by kernel_rfl) (by show (1:Nat)<=8;decide) ?_;unfold eD at hm
 refine aJ (aI (v:=zS none 0 0) (aH (aK (aJ (aG (v:=zS a1 a.length c2) (aD (aKD cS rfl rfl) (aH ?_)))))))
 rcases aKa d with ⟨k,l,m⟩|n
 ·subst k;subst l;subst m
  refine aLg rfl ?_
  replace hm:(some [])=some R:=hm
  exact aM
 ·refine aLh (Eq.trans rfl (congrArg zB n)) (aW (aC (aJ (bX (Kt:=K) (xs:=([]:List Bool)) (cs:=[]) (vs:=[]) cS aFu rfl rfl j rfl (by kernel_rfl) rfl rfl rfl trivial (fun o p (q:aF G K (own 4 K o 0 ([]:List Bool)::L) p)=>(aG (v:=zS a1 a.length c2) ?_))))));obtain ⟨h,r,hm⟩:=aB hm
  refine aDs (i:=0) cS underlying57 aFu rfl rfl q rfl (zR _) d r rfl rfl rfl rfl (fun b c t (u:aF G K (own 4 K b c h::L) t)=>(aI (v:=zS b h.length c) (aH ?_)));obtain rfl:=zI hm
  exact tC (pJ results117 rfl ⟨b,c,rfl,u⟩)
theorem kA {x_:eO} {p:Nat} {J:Int} {q R:(List Bool)} (hm:jD x_ J q=some R) (hs:aF G K (L) w) (r:dT K a1 p [zS a4 x_.g.length c5,zS a7 x_.back.length c8,zS a10 x_.in_.length c11]) (h6:bL K a4 c5 x_.g) (h9:bL K a7 c8 x_.back) (g8:bL K a10 c11 x_.in_) (d6:bL K a13 c14 q):
  Calls prog 85 ([bY a1 p,i64 J,zS a13 q.length c14]:List Value).toArray w (eC fun v w'=>∃ d7 d8,v=zS d7 R.length d8/\aF G K (own 4 K d7 d8 R::L) w'):=by
 refine aN func85 rfl (by kernel_rfl) (by show (3:Nat)<=94;decide) ?_;unfold jD at hm
 refine aJ (aI (v:=zS none 0 0) (aH (aJ (aG (v:=zS a13 q.length c14) ?_))));obtain ⟨d9,g9,hm⟩:=aB hm
 refine aP (vs:=[zS a13 q.length c14]) call117 rfl (iS g9 hs d6) ?_
 rintro _ m0 ⟨b,c,rfl,h0⟩
 refine aI (v:=zS b d9.length c) (aH (aJ (aLu Int Int h0 ?_)))
 intro d h1 (h2:aF G K (mpo d ([]:(List (Int × Int)))::own 4 K b c d9::L) h1)
 refine aI (v:=Value.map (some d)) (aH (aJ (aG (v:=zS a13 q.length c14) ?_)));obtain ⟨h4,h5,hm⟩:=aB hm
 refine aP (vs:=[zS a13 q.length c14]) call24 rfl (aCJ h5 h2 d6) ?_
 rintro _ m1 ⟨h7,h8,rfl,m2⟩
 refine aI (v:=zS h7 h4.length h8) (aH (aK (aO [] (fun f w=>∃ c0,vA c0=some R/\f 7=zS b c0.length c/\aF G K (own 4 K b c c0::L) w) aM ?_)));obtain ⟨m3,i0,ho⟩:=aB hm
 refine oI [0,1,8] i0 (fun Z c1 a0 f w=>∃ a2 a3,f 7=zS b Z.length c/\f 9=zS a2 a0.length a3/\aF G K (own 2 K a2 a3 a0::mpo d c1::own 4 K b c Z::L) w) aM ?_
 ·rintro Z c1 a0 e0 f i1 hm hr ⟨a2,a3,m4,c2,a5⟩
  unfold fR at hm
  refine aK (aJ (aY c2 (aD (bC (len:=a0.length) bN rfl) (aD (aBX rfl rfl) (aH ?_)))))
  rcases aL hm with ⟨e1,hm⟩|⟨e1,hm⟩
  ·refine aR e1 rfl (aW (aC (aO [0,1,8] (fun f w=>∃ a6 c3 a8 a9 b0,vB a6 c3 a8=some e0/\f 7=zS b a6.length c/\f 9=zS a9 a8.length b0/\aF G K (own 2 K a9 b0 a8::mpo d c3::own 4 K b c a6::L) w) ?_ ?_)))
   ·rintro f m5 ⟨a6,c3,a8,a9,b0,hm,i2,i3,i4⟩
    unfold vB at hm
    exact aC ⟨_,(zI hm).symm,bF,a9,b0,i2,i3,i4⟩
   refine aJ (aY c2 ?_);obtain ⟨e2,c4,hm⟩:=aB hm
   have i5:=cA a5 (i:=0) rfl c4
   refine aD (cM bN rfl i5 rfl rfl rfl c4) (aD (lA (t:=0) cR a5 (i:=0) rfl c4 rfl rfl rfl) (aI (v:=i64 e2) (aH (aJ (aY c2 ?_)))));obtain ⟨e3,e4,hm⟩:=aB hm
   have i6:=sH a5 (i:=0) rfl
   obtain ⟨e5,e6,e7⟩:=Cut.ex 1 a2 a3 1
   refine aD (aEh bN i6 e7 rfl rfl rfl e4) ?_
   have e8:aF G K (own 2 K e5 e6 e3::mpo d c1::own 4 K b c Z::L) i1:=aF.cutP a5 (i:=0) rfl e4 e7
   refine aI (v:=zS e5 e3.length e6) (aH (aJ (aG (v:=bY a1 p) (aD (cQ rfl r) (aD (cJ (k':=p+1) aEl rfl r rfl) (aD (aU (t:=1) sc_81 e8 r rfl rfl) (aG (v:=i64 e2) ?_)))))));obtain ⟨i7,e9,hm⟩:=aB hm
   refine aD (dM iG rfl h9 rfl rfl rfl e9) ?_;obtain ⟨m6,i8,i9⟩:=bL.el (sz:=1) rfl h9 e9
   obtain ⟨m7,m8,rfl,f0⟩:=i9
   refine aD (aU (t:=0) vU e8 i8 rfl rfl) (aD (bC (len:=i7.length) bN rfl) (aG (v:=i64 0) (aH (aO [0,1,8] (fun f w=>∃ c6 f1 c7 f2 f3,aBw c6 f1 c7=some e0/\f 7=zS b c6.length c/\f 9=zS f2 c7.length f3/\aF G K (own 2 K f2 f3 c7::mpo d f1::own 4 K b c c6::L) w) aM ?_))));obtain ⟨m9,j0,ho⟩:=aB hm
   refine vT [0,1,8,34,35] j0 (fun j l e u f w=>∃ m o,f 7=zS b j.length c/\f 9=zS m e.length o/\f 36=i64 u/\aF G K (own 2 K m o e::mpo d l::own 4 K b c j::L) w) aM ?_
   ·rintro j l e u b1 f n0 hm hr ⟨m,o,f4,j1,c9,j2⟩
    unfold fQ at hm
    refine aJ (aD (cK c9 rfl) (aH (aK ?_)))
    rcases aL hm with ⟨f5,hm⟩|⟨f5,hm⟩
    ·refine aR f5 rfl (aW (aC (aK (aO [0,1,8,34,35,36] (fun f w=>∃ b2 d0 b3 b4 b5,gV u b2 d0 b3=some b1/\f 7=zS b b2.length c/\f 9=zS b4 b3.length b5/\aF G K (own 2 K b4 b5 b3::mpo d d0::own 4 K b c b2::L) w) ?_ ?_))))
     ·rintro f n1 ⟨b2,d0,b3,b4,b5,hm,j3,j4,j5⟩
      unfold gV at hm
      exact aC (aS (aD (cN c9 rfl) (aG (v:=i64 (wr (u+1))) (aH ⟨_,(zI hm).symm,bF,b4,b5,j3,j4,rfl,j5⟩))))
     refine aJ ?_;obtain ⟨a,f6,hm⟩:=aB hm
     refine aD (dM bN rfl f0 rfl rfl c9 f6) ?_;obtain ⟨n2,j6,j7⟩:=bL.el (sz:=1) rfl f0 f6
     cases j7
     refine aD (aU (t:=0) cR j2 j6 rfl rfl) (aI (v:=i64 a) (aH (aK (aK (bP [0,1,7,8,9,12,34,35,36] (fun f w=>∃ d1,jN x_ J j l e u a d1=some b1/\f 53=zB d1/\aF G K (own 2 K m o e::mpo d l::own 4 K b c j::L) w) ?_ ?_)))))
     ·rintro f n3 ⟨d1,hm,j8,b6⟩
      unfold jN at hm
      refine aC ?_
      rcases aL hm with ⟨f7,hm⟩|⟨f7,hm⟩
      ·exact aM
      ·refine bG f7 j8 (aW (aC (gT [0,1,7,8,9,12,34,35,36] (fun f w=>∃ x,jL j e u a x=some b1/\aF G K (own 2 K m o e::mpo d x::own 4 K b c j::L) w) ?_ ?_)))
       ·rintro f n4 ⟨x,hm,f8⟩
        unfold jL at hm
        refine aJ (aY f4 (aG (v:=i64 a) ?_));obtain ⟨n5,d2,hm⟩:=aB hm
        have j9:=cA f8 (i:=2) rfl d2
        refine aD (cM cS rfl j9 rfl rfl rfl d2) ?_;obtain ⟨b7,f9,hm⟩:=aB hm
        refine gA (i:=2) (t:=0) (ns:=[zB true]) (e':=(true:Bool)) sizeOf4 f8 rfl (zR _) rfl rfl rfl d2 f9 rfl rfl (eV rfl) rfl (fun cs h=>by cases h;rfl) (fun k0 (k1:aF G K (own 2 K m o e::mpo d x::own 4 K b c b7::L) k0)=>(aH (aS (aY j1 (aG (v:=i64 a) (bX (Kt:=K) (xs:=([a]:List Int)) (cs:=[i64 a]) (vs:=[(0,i64 a)]) bN kQ rfl rfl k1 rfl (by kernel_rfl) rfl rfl rfl ⟨rfl,trivial⟩ (fun k3 k4 (k5:aF G K (own 2 K k3 1 ([a]:List Int)::own 2 K m o e::mpo d x::own 4 K b c b7::L) k4)=>?_)))))))
        obtain ⟨d3,k6,hm⟩:=aB hm
        exact eQ (i:=0) bN underlying32 kQ rfl rfl k5 rfl (zR _) (zR _) k6 rfl rfl rfl rfl (fun _ h=>h) (fun d4 d5 k7 (k8:aF G K (own 2 K d4 d5 d3::mpo d x::own 4 K b c b7::L) k7)=>(aI (v:=zS d4 d3.length d5) (aV (cH (aC ⟨bF,b7,x,d3,d4,d5,hm,(Eq.trans f4 (congrArg (fun n=>zS b n c) (eL f9))),rfl,k8⟩)))))
       refine aJ (aG (v:=bY a1 p) (aD (cQ rfl r) (aD (cJ (k':=p+0) pY rfl r rfl) (aD (aU (t:=0) aBh b6 r rfl rfl) (aG (v:=i64 a) ?_)))));obtain ⟨n6,g0,hm⟩:=aB hm
       refine aD (dM vV rfl h6 rfl rfl rfl g0) ?_;obtain ⟨n7,g1,k9⟩:=bL.el (sz:=3) rfl h6 g0
       obtain ⟨n8,n9,rfl,o0⟩:=k9
       refine aD (cJ (k':=a.toNat * 3+0) aEm rfl g1 rfl) (aD (aU (t:=0) cR b6 g1 rfl rfl) (aG (v:=i64 J) (aD (aFx rfl rfl) (aH ?_))))
       rcases aL hm with ⟨g2,hm⟩|⟨g2,hm⟩
       ·refine aR g2 rfl (gT [0,1,7,8,9,12,34,35,36] (fun f w=>∃ y,jM j e u a y=some b1/\aF G K (own 2 K m o e::mpo d y::own 4 K b c j::L) w) ?_ ?_)
        ·rintro f o1 ⟨y,hm,g3⟩
         unfold jM at hm
         refine aJ (aG (v:=Value.map (some d)) (aG (v:=i64 a) (aD (R_look1 (kv:=y) (k:=a) (z:=(0:Int)) runUnderlying150 ko_2 zeroValue3 g3 (i:=1) rfl rfl rfl) (aD (oH rfl rfl) ?_))));obtain ⟨g4,l0,hm⟩:=aB hm
         refine aIy (i:=1) (k:=a) (v:=wr (((jG y a).getD 0) - 1)) runUnderlying150 ko_2 g3 rfl rfl rfl rfl l0 (fun l1 (l2:aF G K (own 2 K m o e::mpo d g4::own 4 K b c j::L) l1)=>(aH (aJ (aG (v:=Value.map (some d)) (aG (v:=i64 a) (aD (R_look1 (kv:=g4) (k:=a) (z:=(0:Int)) runUnderlying150 ko_2 zeroValue3 l2 (i:=1) rfl rfl rfl) (aD (aBX rfl rfl) (aH ?_))))))))
         rcases aL hm with ⟨l3,hm⟩|⟨l3,hm⟩
         ·exact aM
         ·exact aM
        refine aJ (aG (v:=Value.map (some d)) (aG (v:=i64 a) (aD (R_look (kv:=l) (k:=a) (z:=(0:Int)) runUnderlying150 ko_2 zeroValue3 b6 (i:=1) rfl rfl rfl) (aG (v:=Value.tuple #[i64 ((jG l a).getD 0),zB ((jG l a).isSome)]) (aD (dC rfl rfl) (aD (dC rfl rfl) (aI (v:=i64 ((jG l a).getD 0)) (aI (v:=zB ((jG l a).isSome)) (aH (aJ (aG (v:=zB ((jG l a).isSome)) (aD (aDH rfl) (aH ?_)))))))))))))
        rcases aL hm with ⟨g5,hm⟩|⟨g5,hm⟩
        ·refine aR g5 rfl (aS (aG (v:=Value.map (some d)) (aG (v:=i64 a) (aG (v:=bY a1 p) (aG (v:=i64 a) ?_)))));obtain ⟨l4,l5,hm⟩:=aB hm
         refine aP (vs:=[bY a1 p,i64 a]) call118 rfl (aBK l5 b6 r h6 h9 g8) ?_
         rintro _ o2 ⟨rfl,l6⟩
         obtain ⟨g6,l7,hm⟩:=aB hm
         exact aIy (i:=1) (k:=a) (v:=l4) runUnderlying150 ko_2 l6 rfl rfl rfl rfl l7 (fun l8 (l9:aF G K (own 2 K m o e::mpo d g6::own 4 K b c j::L) l8)=>(aH ⟨bF,g6,hm,l9⟩))
        ·exact aM
       ·exact aM
     exact aM
    ·exact aM
  ·exact aM
theorem kB {x_:eO} {e:Nat} {o R:(List Bool)} (hm:jE x_ o=some R) (hs:aF G K (L) w) (d:dT K a1 e [zS a4 x_.g.length c5,zS a7 x_.back.length c8,zS a10 x_.in_.length c11]) (h6:bL K a4 c5 x_.g) (h9:bL K a7 c8 x_.back) (c2:bL K a10 c11 x_.in_) (a2:bL K a13 c14 o):
  Calls prog 86 ([bY a1 e,zS a13 o.length c14]:List Value).toArray w (eC fun v w'=>∃ a3 a5 a6,v=zP (some ⟨a6,0,none⟩)/\aF G K (own 4 K a3 a5 R::box a6 148 [zS a4 x_.g.length c5,zS a7 x_.back.length c8,zS a3 R.length a5]::L) w'):=by
 refine aN func86 rfl (by kernel_rfl) (by show (2:Nat)<=49;decide) ?_;unfold jE at hm
 refine aJ (aI (v:=zP none) (aH (aK (cV (C:=fun w'=>∃ L',aF G K L' w') [(0,0),(1,0),(2,0),(3,0),(4,0),(5,0),(6,0),(7,0),(8,0),(9,0),(10,0),(11,0),(12,1),(13,0),(14,1),(15,0)] Tryz_mixed (by kernel_rfl) (fun _ hg=>⟨_,aF.mono hs hg⟩) (fun e8 c3=>?_)))))
 have k:=aF.mono hs c3
 refine bE rfl (fun _ _=>aT (v:=bY a1 e) rfl) (bE rfl (fun _ _=>cQ rfl d) (bE rfl (fun _ _=>cJ (k':=e+0) pY rfl d rfl) (bE rfl (fun _ ⟨_,k⟩=>aU (t:=0) aBh k d rfl rfl) (bE rfl (fun _ _=>aT (v:=bY a1 e) rfl) (bE rfl (fun _ _=>cQ rfl d) (bE rfl (fun _ _=>cJ (k':=e+1) aEl rfl d rfl) (bE rfl (fun _ ⟨_,k⟩=>aU (t:=1) sc_81 k d rfl rfl) (bE rfl (fun _ _=>aT (v:=bY a1 e) rfl) (bE rfl (fun _ _=>cQ rfl d) (bE rfl (fun _ _=>cJ (k':=e+2) tT rfl d rfl) (bE rfl (fun _ ⟨_,k⟩=>aU (t:=2) aBi k d rfl rfl) (nT rfl ?_))))))))))))
 obtain ⟨r,c4,hm⟩:=aB hm
 refine aP (vs:=[zS a10 x_.in_.length c11]) call117 rfl (iS c4 k c2) ?_
 rintro _ e9 ⟨a,b,rfl,a8⟩
 refine aV (aC ⟨⟨_,a8⟩,?_⟩)
 refine bE rfl (fun _ _=>gJ (vs:=[(0,zS a4 x_.g.length c5),(1,zS a7 x_.back.length c8),(2,zS a r.length b)]) (cs:=[zS a4 x_.g.length c5,zS a7 x_.back.length c8,zS a r.length b]) aID rfl (by kernel_rfl)) (nT rfl (gF (v:=zA #[zS a4 x_.g.length c5,zS a7 x_.back.length c8,zS a r.length b]) (vs:=[zS a4 x_.g.length c5,zS a7 x_.back.length c8,zS a r.length b]) a8 rfl rfl (fun c f0 c6=>(aV (aC ⟨⟨_,c6⟩,?_⟩)))))
 refine bE rfl (fun _ _=>eE (v:=zP (some ⟨c,0,none⟩)) rfl) (xI (aC (aK (aJ (aG (v:=zS a13 o.length c14) (aD (bC (len:=o.length) cS rfl) (aG (v:=i64 0) (aH (aO [5] (fun f w=>∃ y,aBx y=some R/\aF G K (box c 148 [zS a4 x_.g.length c5,zS a7 x_.back.length c8,zS a y.length b]::own 4 K a b y::L) w) aM ?_)))))))));obtain ⟨f1,c7,ho⟩:=aB hm
 refine bO [5,23,24] c7 (fun p l f w=>f 25=i64 l/\aF G K (box c 148 [zS a4 x_.g.length c5,zS a7 x_.back.length c8,zS a p.length b]::own 4 K a b p::L) w) aM ?_
 ·rintro p l c9 f f2 hm hr ⟨u,a9⟩
  unfold gW at hm
  refine aJ (aD (cK u rfl) (aH (aK ?_)))
  rcases aL hm with ⟨b0,hm⟩|⟨b0,hm⟩
  ·refine aR b0 rfl (aW (aC (aK (cD (aJ (aY u ?_))))));obtain ⟨q,b1,hm⟩:=aB hm
   refine aD (dM cS rfl a2 rfl rfl u b1) ?_;obtain ⟨f3,d0,d1⟩:=bL.el (sz:=1) rfl a2 b1
   cases d1
   refine aD (aU (t:=0) aDv a9 d0 rfl rfl) (aI (v:=i64 l) (aI (v:=zB q) (aH (bP [5,23,24,25] (fun f w=>∃ x,lZ l x=some c9/\aF G K (box c 148 [zS a4 x_.g.length c5,zS a7 x_.back.length c8,zS a x.length b]::own 4 K a b x::L) w) ?_ ?_))))
   ·rintro f f4 ⟨x,hm,d2⟩
    unfold lZ at hm
    exact cH (aC (aS (aD (cN u rfl) (aG (v:=i64 (wr (l+1))) (aH ⟨_,(zI hm).symm,bF,rfl,d2⟩)))))
   obtain ⟨f5,d3,b2,d4,b3⟩:=aF.lendBp a9 .head
   obtain ⟨d5,b4,b5,b6,b7⟩:=aF.lendSp d4 d3 .head
   refine cV (C:=fun w'=>∃ L',aF G d5 L' w') [(0,0),(1,0),(2,0),(3,0),(4,0),(5,0),(6,0),(7,0),(8,0),(9,0),(10,0),(11,0),(12,0),(13,0),(14,0),(15,0),(16,0),(17,2)] Tryz_mixed (by kernel_rfl) (fun _ hg=>⟨_,aF.mono b6 hg⟩) (fun f6 d6=>?_)
   have j:=aF.mono b6 d6
   refine bE rfl (fun _ _=>aT (v:=zP (some ⟨c,0,none⟩)) rfl) (bE rfl (fun _ _=>aIq rfl) (bE rfl (fun _ _=>bH (t':=2) tT rfl rfl) (bE rfl (fun _ ⟨_,j⟩=>aU (t:=2) aBi j (b2.mono b4) rfl rfl) (bE rfl (fun _ _=>aT (v:=i64 l) rfl) (bE rfl (fun _ _=>aT (v:=zP (some ⟨c,0,none⟩)) rfl) (bE rfl (fun _ _=>aIq rfl) (bE rfl (fun _ _=>bH (t':=2) tT rfl rfl) (bE rfl (fun _ ⟨_,j⟩=>aU (t:=2) aBi j (b2.mono b4) rfl rfl) (bE rfl (fun _ _=>aT (v:=i64 l) rfl) ?_)))))))))
   obtain ⟨d7,m,hm⟩:=aB hm
   have z:=aFe b5 m
   refine bE rfl (fun _ _=>cM cS rfl z rfl rfl rfl m) ?_;obtain ⟨f7,d8,d9⟩:=bL.el (sz:=1) rfl b5 m
   cases d9
   refine bE rfl (fun _ ⟨_,j⟩=>aU (t:=0) aDv j d8 rfl rfl) (bE rfl (fun _ _=>aT (v:=zB d7) rfl) ?_)
   rcases aL hm with ⟨n,hm⟩|⟨n,hm⟩
   ·refine aAv rfl rfl rfl n (fun _ _=>aT (v:=zB q) rfl) (aAv rfl rfl rfl n (fun _ _=>aDH rfl) (bE rfl (fun _ _=>eX (v:=zB (!q)) n rfl rfl) (bE rfl (fun _ _=>cM cS rfl z rfl rfl rfl m) ?_)))
    have e0:=b7 _ _ j
    have e1:=b3 _ _ e0
    refine WE_s rfl ?_;obtain ⟨J,b8,hm⟩:=aB hm
    refine gA (i:=1) (t:=0) (ns:=[zB (!q)]) (e':=(!q:Bool)) sizeOf4 e1 rfl (zR _) rfl rfl rfl m b8 rfl rfl (eV rfl) rfl (fun cs h=>by cases h;rfl) (fun b9 (e2:aF G K (box c 148 [zS a4 x_.g.length c5,zS a7 x_.back.length c8,zS a p.length b]::own 4 K a b J::L) b9)=>?_)
    have f8:aF G K (box c 148 [zS a4 x_.g.length c5,zS a7 x_.back.length c8,zS a J.length b]::own 4 K a b J::L) b9:=by rw [←(eL b8)];exact e2
    exact aM
   ·refine rD rfl rfl rfl (gS n) (rD rfl rfl rfl (gS n) (bE rfl (fun _ _=>fF (v:=zB false) n rfl rfl) (bE rfl (fun _ _=>cM cS rfl z rfl rfl rfl m) ?_)))
    have e3:=b7 _ _ j
    have e4:=b3 _ _ e3
    refine WE_s rfl ?_;obtain ⟨Z,c0,hm⟩:=aB hm
    refine gA (i:=1) (t:=0) (ns:=[zB false]) (e':=(false:Bool)) sizeOf4 e4 rfl (zR _) rfl rfl rfl m c0 rfl rfl (eV rfl) rfl (fun cs h=>by cases h;rfl) (fun c1 (e5:aF G K (box c 148 [zS a4 x_.g.length c5,zS a7 x_.back.length c8,zS a p.length b]::own 4 K a b Z::L) c1)=>?_)
    have f9:aF G K (box c 148 [zS a4 x_.g.length c5,zS a7 x_.back.length c8,zS a Z.length b]::own 4 K a b Z::L) c1:=by rw [←(eL c0)];exact e5
    exact aM
  ·exact aM
theorem aAD {k:Int} {a:Nat} {p:eO} {b:Nat} {c:Int} {d:Nat} {R:Bool} (hm:aBy k p c=some R) (e:aF G K (L) w) (h:dT K a1 a [bY a4 b]) (i:dT K a4 b [zS a7 p.g.length c8,zS a10 p.back.length c11,zS a13 p.in_.length c14]) (j:bL K a7 c8 p.g) (l:bL K a10 c11 p.back) (m:bL K a13 c14 p.in_) (n:dT K a16 d [i64 c]):
  Calls prog 119 ([i64 k,bY a1 a,bY a16 d]:List Value).toArray w (eC fun v w'=>v=zB R/\aF G K (L) w'):=by
 exact aM
theorem aAE {x_:eO} {k m:Nat} {j:eO} {a2:Nat} {a3:Int} {o:Nat} {R:(List Bool)} (hm:rW x_ j a3=some R) (hs:aF G K (L) w) (l:dT K a1 k [zS a4 x_.g.length c5,zS a7 x_.back.length c8,zS a10 x_.in_.length c11]) (h6:bL K a4 c5 x_.g) (h9:bL K a7 c8 x_.back) (a6:bL K a10 c11 x_.in_) (b7:dT K a13 m [bY a16 a2]) (b8:dT K a16 a2 [zS a19 j.g.length c20,zS a22 j.back.length c23,zS a25 j.in_.length c26]) (b9:bL K a19 c20 j.g) (c0:bL K a22 c23 j.back) (c1:bL K a25 c26 j.in_) (c2:dT K a28 o [i64 a3]):
  Calls prog 83 ([bY a1 k,Value.func (.func 119) #[] #[bY a13 m,bY a28 o]]:List Value).toArray w (eC fun v w'=>∃ a8 a9,v=zS a8 R.length a9/\aF G K (own 4 K a8 a9 R::L) w'):=by
 refine aN func83 rfl (by kernel_rfl) (by show (2:Nat)<=35;decide) ?_;unfold rW at hm
 refine aJ (aI (v:=zS none 0 0) (aH (aJ (aG (v:=bY a1 k) (aD (cQ rfl l) (aD (cJ (k':=k+0) pY rfl l rfl) (aD (aU (t:=0) aBh hs l rfl rfl) (aD (bC (len:=x_.g.length) vV rfl) ?_))))))));obtain ⟨a,c3,hm⟩:=aB hm
 refine xD (e:=(false:Bool)) cS aFu rfl rfl hs rfl rfl rfl c3 rfl (fun b c4 (c6:aF G K (own 4 K b a.length a::L) c4)=>(aI (v:=zS b a.length a.length) (aH (aK (aJ (aG (v:=bY a1 k) (aD (cQ rfl l) (aD (cJ (k':=k+2) tT rfl l rfl) (aD (aU (t:=2) aBi c6 l rfl rfl) (aD (bC (len:=x_.in_.length) cS rfl) (aG (v:=i64 0) (aH (aO [] (fun f w=>∃ u,aCn u=some R/\f 5=zS b u.length a.length/\aF G K (own 4 K b a.length u::L) w) aM ?_)))))))))))))
 obtain ⟨e3,c7,ho⟩:=aB hm
 refine bO [1,17,18] c7 (fun x c f w=>f 5=zS b x.length a.length/\f 19=i64 c/\aF G K (own 4 K b a.length x::L) w) aM ?_
 ·rintro x c c9 f e4 hm hr ⟨y,p,q⟩
  unfold iK at hm
  refine aJ (aD (cK p rfl) (aH (aK ?_)))
  rcases aL hm with ⟨b0,hm⟩|⟨b0,hm⟩
  ·refine aR b0 rfl (aW (aC (aK (cD (aJ (aY p ?_))))));obtain ⟨z,b1,hm⟩:=aB hm
   refine aD (dM cS rfl a6 rfl rfl p b1) ?_;obtain ⟨e5,d0,d1⟩:=bL.el (sz:=1) rfl a6 b1
   cases d1
   refine aD (aU (t:=0) aDv q d0 rfl rfl) (aI (v:=i64 c) (aI (v:=zB z) (aH (bP [1,17,18,19] (fun f w=>∃ r,nG c r=some c9/\f 5=zS b r.length a.length/\aF G K (own 4 K b a.length r::L) w) ?_ ?_))))
   ·rintro f e6 ⟨r,hm,d2,d3⟩
    unfold nG at hm
    exact cH (aC (aS (aD (cN p rfl) (aG (v:=i64 (wr (c+1))) (aH ⟨_,(zI hm).symm,bF,d2,rfl,d3⟩)))))
   refine aS (aY y (aG (v:=i64 c) (aG (v:=zB z) (aG (v:=zB z) ?_))))
   rcases aL hm with ⟨d,hm⟩|⟨d,hm⟩
   ·refine cO d rfl rfl (aG (v:=Value.func (.func 119) #[] #[bY a13 m,bY a28 o]) (cO d rfl rfl (aG (v:=i64 c) (cO d rfl rfl ?_))));obtain ⟨J,d4,hm⟩:=aB hm
    refine mT (vs:=[i64 c]) (caps:=[bY a13 m,bY a28 o]) (us:=[i64 c,bY a13 m,bY a28 o]) rfl call119 rfl rfl (aAD d4 q b7 b8 b9 c0 c1 c2) ?_
    rintro _ e7 ⟨rfl,b2⟩
    refine aD (eX (v:=zB J) d rfl rfl) ?_;obtain ⟨e8,Z,hm⟩:=aB hm
    have d5:=cA b2 (i:=0) rfl Z
    refine aD (cM cS rfl d5 rfl rfl rfl Z) ?_;obtain ⟨b3,b4,hm⟩:=aB hm
    exact gA (i:=0) (t:=0) (ns:=[zB J]) (e':=(J:Bool)) sizeOf4 b2 rfl (zR _) rfl rfl rfl Z b4 rfl rfl (eV rfl) rfl (fun cs h=>by cases h;rfl) (fun d6 (d7:aF G K (own 4 K b a.length b3::L) d6)=>(aH ⟨bF,b3,hm,(Eq.trans y (congrArg (fun n=>zS b n a.length) (eL b4))),d7⟩))
   ·refine dU d rfl rfl (dU d rfl rfl (dU d rfl rfl (aD (fF (v:=zB false) d rfl rfl) ?_)));obtain ⟨e9,a0,hm⟩:=aB hm
    have d8:=cA q (i:=0) rfl a0
    refine aD (cM cS rfl d8 rfl rfl rfl a0) ?_;obtain ⟨b5,b6,hm⟩:=aB hm
    exact gA (i:=0) (t:=0) (ns:=[zB false]) (e':=(false:Bool)) sizeOf4 q rfl (zR _) rfl rfl rfl a0 b6 rfl rfl (eV rfl) rfl (fun cs h=>by cases h;rfl) (fun d9 (e0:aF G K (own 4 K b a.length b5::L) d9)=>(aH ⟨bF,b5,hm,(Eq.trans y (congrArg (fun n=>zS b n a.length) (eL b6))),e0⟩))
  ·exact aM
theorem aAF {k:Int} {p:(List Bool)} {a:Nat} {b:Int} {c:Nat} {R:Bool} (hm:aBz k p b=some R) (d:aF G K (L) w) (e:dT K a1 a [zS a4 p.length c5]) (g:bL K a4 c5 p) (h:dT K a7 c [i64 b]):
  Calls prog 120 ([i64 k,bY a1 a,bY a7 c]:List Value).toArray w (eC fun v w'=>v=zB R/\aF G K (L) w'):=by
 exact aM
theorem wV {x_:eO} {j:Nat} {r:(List Bool)} {l:Nat} {a2:Int} {m:Nat} {R:(List Bool)} (hm:nH x_ r a2=some R) (hs:aF G K (L) w) (k:dT K a1 j [zS a4 x_.g.length c5,zS a7 x_.back.length c8,zS a10 x_.in_.length c11]) (h6:bL K a4 c5 x_.g) (h9:bL K a7 c8 x_.back) (a5:bL K a10 c11 x_.in_) (b6:dT K a13 l [zS a16 r.length c17]) (b7:bL K a16 c17 r) (b8:dT K a19 m [i64 a2]):
  Calls prog 83 ([bY a1 j,Value.func (.func 120) #[] #[bY a13 l,bY a19 m]]:List Value).toArray w (eC fun v w'=>∃ a6 a8,v=zS a6 R.length a8/\aF G K (own 4 K a6 a8 R::L) w'):=by
 refine aN func83 rfl (by kernel_rfl) (by show (2:Nat)<=35;decide) ?_;unfold nH at hm
 refine aJ (aI (v:=zS none 0 0) (aH (aJ (aG (v:=bY a1 j) (aD (cQ rfl k) (aD (cJ (k':=j+0) pY rfl k rfl) (aD (aU (t:=0) aBh hs k rfl rfl) (aD (bC (len:=x_.g.length) vV rfl) ?_))))))));obtain ⟨a,b9,hm⟩:=aB hm
 refine xD (e:=(false:Bool)) cS aFu rfl rfl hs rfl rfl rfl b9 rfl (fun b c0 (c1:aF G K (own 4 K b a.length a::L) c0)=>(aI (v:=zS b a.length a.length) (aH (aK (aJ (aG (v:=bY a1 j) (aD (cQ rfl k) (aD (cJ (k':=j+2) tT rfl k rfl) (aD (aU (t:=2) aBi c1 k rfl rfl) (aD (bC (len:=x_.in_.length) cS rfl) (aG (v:=i64 0) (aH (aO [] (fun f w=>∃ u,zV u=some R/\f 5=zS b u.length a.length/\aF G K (own 4 K b a.length u::L) w) aM ?_)))))))))))))
 obtain ⟨d9,c2,ho⟩:=aB hm
 refine bO [1,17,18] c2 (fun x c f w=>f 5=zS b x.length a.length/\f 19=i64 c/\aF G K (own 4 K b a.length x::L) w) aM ?_
 ·rintro x c c3 f e0 hm hr ⟨y,o,p⟩
  unfold fS at hm
  refine aJ (aD (cK o rfl) (aH (aK ?_)))
  rcases aL hm with ⟨a9,hm⟩|⟨a9,hm⟩
  ·refine aR a9 rfl (aW (aC (aK (cD (aJ (aY o ?_))))));obtain ⟨z,b0,hm⟩:=aB hm
   refine aD (dM cS rfl a5 rfl rfl o b0) ?_;obtain ⟨e1,c4,c6⟩:=bL.el (sz:=1) rfl a5 b0
   cases c6
   refine aD (aU (t:=0) aDv p c4 rfl rfl) (aI (v:=i64 c) (aI (v:=zB z) (aH (bP [1,17,18,19] (fun f w=>∃ q,jW c q=some c3/\f 5=zS b q.length a.length/\aF G K (own 4 K b a.length q::L) w) ?_ ?_))))
   ·rintro f e2 ⟨q,hm,c7,c9⟩
    unfold jW at hm
    exact cH (aC (aS (aD (cN o rfl) (aG (v:=i64 (wr (c+1))) (aH ⟨_,(zI hm).symm,bF,c7,rfl,c9⟩)))))
   refine aS (aY y (aG (v:=i64 c) (aG (v:=zB z) (aG (v:=zB z) ?_))))
   rcases aL hm with ⟨d,hm⟩|⟨d,hm⟩
   ·refine cO d rfl rfl (aG (v:=Value.func (.func 120) #[] #[bY a13 l,bY a19 m]) (cO d rfl rfl (aG (v:=i64 c) (cO d rfl rfl ?_))));obtain ⟨J,d0,hm⟩:=aB hm
    refine mT (vs:=[i64 c]) (caps:=[bY a13 l,bY a19 m]) (us:=[i64 c,bY a13 l,bY a19 m]) rfl call120 rfl rfl (aAF d0 p b6 b7 b8) ?_
    rintro _ e3 ⟨rfl,b1⟩
    refine aD (eX (v:=zB J) d rfl rfl) ?_;obtain ⟨e4,Z,hm⟩:=aB hm
    have d1:=cA b1 (i:=0) rfl Z
    refine aD (cM cS rfl d1 rfl rfl rfl Z) ?_;obtain ⟨b2,b3,hm⟩:=aB hm
    exact gA (i:=0) (t:=0) (ns:=[zB J]) (e':=(J:Bool)) sizeOf4 b1 rfl (zR _) rfl rfl rfl Z b3 rfl rfl (eV rfl) rfl (fun cs h=>by cases h;rfl) (fun d2 (d3:aF G K (own 4 K b a.length b2::L) d2)=>(aH ⟨bF,b2,hm,(Eq.trans y (congrArg (fun n=>zS b n a.length) (eL b3))),d3⟩))
   ·refine dU d rfl rfl (dU d rfl rfl (dU d rfl rfl (aD (fF (v:=zB false) d rfl rfl) ?_)));obtain ⟨e5,a0,hm⟩:=aB hm
    have d4:=cA p (i:=0) rfl a0
    refine aD (cM cS rfl d4 rfl rfl rfl a0) ?_;obtain ⟨b4,b5,hm⟩:=aB hm
    exact gA (i:=0) (t:=0) (ns:=[zB false]) (e':=(false:Bool)) sizeOf4 p rfl (zR _) rfl rfl rfl a0 b5 rfl rfl (eV rfl) rfl (fun cs h=>by cases h;rfl) (fun d5 (d6:aF G K (own 4 K b a.length b4::L) d5)=>(aH ⟨bF,b4,hm,(Eq.trans y (congrArg (fun n=>zS b n a.length) (eL b5))),d6⟩))
  ·exact aM
theorem wW {a:(List Bool)} {b:Bool} {R:Int} (hm:fH a b=some R) (e:aF G K (L) w) (g:bL K a1 c2 a):
  Calls prog 152 ([zS a1 a.length c2,zB b]:List Value).toArray w (eC fun v w'=>v=i64 R/\aF G K (L) w'):=by
 refine aN func152 rfl (by kernel_rfl) (by show (2:Nat)<=19;decide) ?_;unfold fH at hm
 refine aJ (aI (v:=i64 0) (aH (aK (aJ (aG (v:=zS a1 a.length c2) (aD (bC (len:=a.length) cS rfl) (aG (v:=i64 0) (aH (aO [] (fun f w=>oZ=some R/\aF G K (L) w) aM ?_)))))))));obtain ⟨h,c,ho⟩:=aB hm
 exact eY [0,1,7] c (fun d f w=>f 8=i64 d/\aF G K (L) w) aM aM
theorem lF {a:(List Bool)} {b R:Bool} (hm:gD a b=some R) (c:aF G K (L) w) (d:bL K a1 c2 a):
  Calls prog 121 ([zS a1 a.length c2,zB b]:List Value).toArray w (eC fun v w'=>v=zB R/\aF G K (L) w'):=by
 exact aM
theorem aAG {p a:Int} {b:Nat} {R:Bool} (hm:aBA p a=some R) (c:aF G K (L) w) (d:dT K a1 b [i64 a]):
  Calls prog 122 ([i64 p,bY a1 b]:List Value).toArray w (eC fun v w'=>v=zB R/\aF G K (L) w'):=by
 exact aM
end Gv
