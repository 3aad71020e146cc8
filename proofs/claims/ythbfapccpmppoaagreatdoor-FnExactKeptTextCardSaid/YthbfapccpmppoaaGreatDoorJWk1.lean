/- Walks, printed by program. -/
import Derived.Test.YthbfapccpmppoaaGreatDoorJLW
set_option linter.all false
namespace Gv
open Gv.Hp renaming le_refl→zR
open Go.Value renaming slice→zS,bool→zB,agg→zA,tuple→zT
open Go Go.Proofs Go.Proofs.Tryz
set_option maxRecDepth 20000
set_option maxHeartbeats 40000000
variable {G:kH} {K:Hp} {L:List eW} {w:World} {a1 a4 a7 a10 a13 a16 a19 a22:Option Addr} {c2 c5 c8 c11 c14 c17 c20 c23:Nat}
theorem aIv {a:(List aL)} {R:((List Int) × Bool)} (hm:sM a=some R) (k:aF G K (L) w) (n:G.lo=0) (o:aW K a1 c2 a):
  Calls prog 167 ([zS a1 a.length c2]:List Value).toArray w (cL fun v w'=>∃ c d,v=zT #[zS c R.1.length d,zB R.2]/\aF G K (aV 2 K c d R.1::L) w'):=by
 refine aN func167 rfl (by kernel_rfl) (by show (1:Nat)<=28;decide) ?_;unfold sM at hm
 refine aJ (aG (v:=zS none 0 0) (aG (v:=zB false) (aM (aJ (aG (v:=zS none 0 0) (aM (aH (aJ (aO (v:=zS a1 a.length c2) (aC (aX (len:=a.length) cT rfl) (aO (v:=i64 0) (aM (aQ [] (fun f w=>∃ b e g,aDR b=some R/\f 4=zS e b.length g/\aF G K (aV 2 K e g b::L) w) aE ?_)))))))))))))
 have p:=aF.nil (α:=Int) k 2 K
 obtain ⟨q,l,ho⟩:=aB hm
 exact cD [9,10] l (fun h m f w=>∃ i j,f 4=zS i h.length j/\f 11=i64 m/\aF G K (aV 2 K i j h::L) w) aE aE
theorem aNQ {c:(List Int)} {sep R:aL} (hm:aAi c sep=some R) (J:aF G K (L) w) (hG:G.lo=0) (o:aW K a1 c2 c):
  Calls prog 103 ([zS a1 c.length c2,str sep]:List Value).toArray w (cL fun v w'=>v=str R/\aF G K (L) w'):=by
 refine aN func103 rfl (by kernel_rfl) (by show (2:Nat)<=27;decide) ?_;unfold aAi at hm
 refine aJ (aG (v:=str ([]:aL)) (aM (aJ (aO (v:=zS a1 c.length c2) (aC (aX (len:=c.length) dR rfl) ?_)))));obtain ⟨a,V,hm⟩:=aB hm
 refine aIT (e:=([]:aL)) cT qF rfl rfl J rfl rfl rfl V rfl (fun b Z (b1:aF G K (aV 9 K b a.length a::L) Z)=>(aG (v:=zS b a.length a.length) (aM (aH (aJ (aO (v:=zS a1 c.length c2) (aC (aX (len:=c.length) dR rfl) (aO (v:=i64 0) (aM (aQ [1] (fun f w=>∃ j,aGe sep j=some R/\f 5=zS b j.length a.length/\aF G K (aV 9 K b a.length j::L) w) aE ?_))))))))));obtain ⟨b2,a0,ho⟩:=aB hm
 refine cD [1,11,12] a0 (fun k d f w=>f 5=zS b k.length a.length/\f 13=i64 d/\aF G K (aV 9 K b a.length k::L) w) aE ?_
 ·rintro k d b3 f b4 hm hr ⟨p,g,q⟩
  unfold aAh at hm
  refine aJ (aC (eC g rfl) (aM (aH ?_)))
  rcases aI hm with ⟨r,hm⟩|⟨r,hm⟩
  ·refine aS r rfl (aU (aD (aH (bJ (aJ (bR g ?_))))));obtain ⟨l,u,hm⟩:=aB hm
   refine aC (cR dR rfl o rfl rfl g u) ?_;obtain ⟨b5,a2,a3⟩:=aW.el (sz:=1) rfl o u
   cases a3
   refine aC (bZ (t:=0) gJ q a2 rfl rfl) (aG (v:=i64 d) (aG (v:=i64 l) (aM (bK (bR p (aO (v:=i64 d) (aO (v:=i64 l) ?_)))))));obtain ⟨x,a4,hm⟩:=aB hm
   refine aT (vs:=[i64 l]) call104 rfl (nL q a4) ?_
   rintro _ b6 ⟨rfl,y⟩
   obtain ⟨b7,m,hm⟩:=aB hm
   have a5:=eN y (i:=0) rfl m
   refine aC (jE cT rfl a5 rfl rfl rfl m) ?_;obtain ⟨a7,z,hm⟩:=aB hm
   exact aEC (i:=0) (t:=0) (ns:=[str x]) (e':=(x:aL)) sizeOf9 y rfl (Hp.le_refl _) rfl rfl rfl m z rfl rfl (kJ rfl) rfl (fun cs h=>by cases h;rfl) (fun a8 (a9:aF G K (aV 9 K b a.length a7::L) a8)=>(bP (eL (aD (bK (aC (nI g rfl) (aO (v:=i64 (wr (d+1))) (aM ⟨_,(Option.some.inj hm).symm,gF,(Eq.trans p (congrArg (fun n=>zS b n a.length) (vH z))),rfl,a9⟩))))))))
  ·exact aE
theorem aMB {c:UInt8} {R:Bool} (hm:aGT c=some R) (b:aF G K (L) w):
  Calls prog 81 ([Value.int .u8 (c.toNat:Int)]:List Value).toArray w (cL fun v w'=>v=zB R/\aF G K (L) w'):=by
 refine aN func81 rfl (by kernel_rfl) (by show (1:Nat)<=9;decide) ?_;unfold aGT at hm
 exact aJ (aG (v:=zB false) (aM (aH (aZ [] (fun f w=>∃ a,aEJ a=some R/\f 2=zB a/\aF G K (L) w) aE aE))))
theorem aDI {a:aL} {R:Bool} (hm:aBU a=some R) (k:aF G K (L) w):
  Calls prog 44 ([str a]:List Value).toArray w (cL fun v w'=>v=zB R/\aF G K (L) w'):=by
 refine aN func44 rfl (by kernel_rfl) (by show (1:Nat)<=42;decide) ?_;unfold aBU at hm
 refine aJ (aG (v:=zB false) (aM (aH (aJ (aO (v:=str a) (aC (sK runUnderlying9 rfl) (aO (v:=i64 0) (aM (aQ [0] (fun f w=>aCW a=some R/\aF G K (L) w) ?_ ?_)))))))))
 ·rintro f l ⟨hm,m⟩
  unfold aCW at hm
  exact aD (aH (aZ [] (fun f w=>∃ d,aGf d=some R/\f 2=zB d/\aF G K (L) w) aE aE))
 obtain ⟨n,j,ho⟩:=aB hm
 refine bW [0,6] j (fun b f w=>f 7=i64 b/\aF G K (L) w) aE ?_
 ·rintro b e f o hm hr ⟨g,p⟩
  unfold uV at hm
  refine aJ (aC (eC g rfl) (aM (aH ?_)))
  rcases aI hm with ⟨h,hm⟩|⟨h,hm⟩
  ·refine aS h rfl (aU (aD (aH (bJ (aJ (bR g (aG (v:=i64 b) (aM (aH (aZ [0,3,6,7] (fun f w=>∃ c,nJ a b c=some e/\f 4=zB c/\aF G K (L) w) ?_ ?_))))))))))
   ·rintro f q ⟨c,hm,r,t⟩
    unfold nJ at hm
    exact aD (aH (aZ [0,6,7] (fun f w=>∃ i,aAj b i=some e/\f 32=zB i/\aF G K (L) w) aE aE))
   exact aE
  ·exact aE
theorem aLu {a:aL} {R:Bool} (hm:kZ a=some R) (c:aF G K (L) w):
  Calls prog 173 ([str a]:List Value).toArray w (cL fun v w'=>v=zB R/\aF G K (L) w'):=by
 refine aN func173 rfl (by kernel_rfl) (by show (1:Nat)<=9;decide) ?_;unfold kZ at hm
 exact aJ (aG (v:=zB false) (aM (aH (aZ [] (fun f w=>∃ b,zD b=some R/\f 2=zB b/\aF G K (L) w) aE aE))))
theorem aHR {n low a:Int} {R:Bool} (hm:fS n low a=some R) (c:aF G K (L) w):
  Calls prog 89 ([i64 n,i64 low,i64 a]:List Value).toArray w (cL fun v w'=>v=zB R/\aF G K (L) w'):=by
 refine aN func89 rfl (by kernel_rfl) (by show (3:Nat)<=15;decide) ?_;unfold fS at hm
 exact aJ (aG (v:=zB false) (aM (aH (aZ [] (fun f w=>∃ b,aGg b=some R/\f 6=zB b/\aF G K (L) w) aE aE))))
theorem aMC {n:Int} {R:Bool} (hm:aBC n=some R) (a:aF G K (L) w):
  Calls prog 215 ([i64 n]:List Value).toArray w (cL fun v w'=>v=zB R/\aF G K (L) w'):=by
 exact aE
theorem aAS {n:Int} {R:Bool} (hm:aBV n=some R) (a:aF G K (L) w):
  Calls prog 214 ([i64 n]:List Value).toArray w (cL fun v w'=>v=zB R/\aF G K (L) w'):=by
 exact aE
theorem rE {a:(List Int)} {R:Int} (hm:fN a=some R) (n:aF G K (L) w) (c:aW K a1 c2 a):
  Calls prog 253 ([zS a1 a.length c2,Value.func (.func 214) #[] #[]]:List Value).toArray w (cL fun v w'=>v=i64 R/\aF G K (L) w'):=by
 refine aN func253 rfl (by kernel_rfl) (by show (2:Nat)<=19;decide) ?_;unfold fN at hm
 refine aJ (aG (v:=i64 0) (aM (aH (aJ (aO (v:=zS a1 a.length c2) (aC (aX (len:=a.length) dR rfl) (aO (v:=i64 0) (aM (aQ [] (fun f w=>kB=some R/\aF G K (L) w) aE ?_)))))))));obtain ⟨o,j,ho⟩:=aB hm
 refine bW [0,1,7] j (fun b f w=>f 8=i64 b/\aF G K (L) w) aE ?_
 ·rintro b p f q hm hr ⟨d,e⟩
  unfold eF at hm
  refine aJ (aC (eC d rfl) (aM (aH ?_)))
  rcases aI hm with ⟨g,hm⟩|⟨g,hm⟩
  ·refine aS g rfl (aU (aD (aH (bJ (aJ (bR d (aG (v:=i64 b) (aM (aJ (aO (v:=Value.func (.func 214) #[] #[]) (aO (v:=zS a1 a.length c2) (aO (v:=i64 b) ?_))))))))))));obtain ⟨h,i,hm⟩:=aB hm
   refine aC (cR dR rfl c rfl rfl rfl i) ?_;obtain ⟨r,k,l⟩:=aW.el (sz:=1) rfl c i
   cases l
   refine aC (bZ (t:=0) gJ e k rfl rfl) ?_;obtain ⟨u,m,hm⟩:=aB hm
   exact eM (vs:=[i64 h]) (caps:=[]) (us:=[i64 h]) rfl call214 rfl rfl (aAS m e) aE
  ·exact aE
theorem oS {a:(List Int)} {R:Bool} (hm:gK a=some R) (b:aF G K (L) w) (c:aW K a1 c2 a):
  Calls prog 213 ([zS a1 a.length c2,Value.func (.func 214) #[] #[]]:List Value).toArray w (cL fun v w'=>v=zB R/\aF G K (L) w'):=by
 exact aE
theorem aKu {a:(List Int)} {R:Bool} (hm:aAk a=some R) (b:aF G K (L) w) (c:aW K a1 c2 a):
  Calls prog 179 ([zS a1 a.length c2]:List Value).toArray w (cL fun v w'=>v=zB R/\aF G K (L) w'):=by
 exact aE
theorem aGw {a:aL} {b:(List Int)} {R:(aL × Bool)} (hm:aDS a b=some R) (e:aF G K (L) w) (g:G.lo=0) (h:aW K a1 c2 b):
  Calls prog 170 ([str a,zS a1 b.length c2]:List Value).toArray w (cL fun v w'=>v=zT #[str R.1,zB R.2]/\aF G K (L) w'):=by
 refine aN func170 rfl (by kernel_rfl) (by show (2:Nat)<=37;decide) ?_;unfold aDS at hm
 refine aJ (aG (v:=str ([]:aL)) (aG (v:=zB false) (aM (aH (bJ (aJ (aO (v:=str a) (aC (R_eqlS rfl rfl) (aG (v:=zB (a == ([116,97,117]:aL))) (aM ?_))))))))))
 rcases aI hm with ⟨c,hm⟩|⟨c,hm⟩
 ·exact aE
 ·exact aP c rfl (aH (aZ [0,1] (fun f w=>∃ d,vQ a b d=some R/\f 12=zB d/\aF G K (L) w) aE aE))
theorem rX {a b:aL} {R:Bool} (hm:dY a b=some R) (d:aF G K (L) w):
  Calls prog 245 ([str a,str b]:List Value).toArray w (cL fun v w'=>v=zB R/\aF G K (L) w'):=by
 refine aN func245 rfl (by kernel_rfl) (by show (2:Nat)<=21;decide) ?_;unfold dY at hm
 exact aJ (aG (v:=zB false) (aM (aH (aZ [] (fun f w=>∃ c,eH c=some R/\f 4=zB c/\aF G K (L) w) aE aE))))
theorem rF {a b R:aL} (hm:hZ a b=some R) (c:aF G K (L) w):
  Calls prog 204 ([str a,str b]:List Value).toArray w (cL fun v w'=>v=str R/\aF G K (L) w'):=by
 exact aE
theorem aCN {a b R:aL} (hm:lQ a b=some R) (c:aF G K (L) w):
  Calls prog 169 ([str a,str b]:List Value).toArray w (cL fun v w'=>v=str R/\aF G K (L) w'):=by
 exact aE
theorem aKv {c:aL} {R:(aL × (List Int) × Bool)} (hm:aCX c=some R) (k:aF G K (L) w) (l:G.lo=0):
  Calls prog 128 ([str c]:List Value).toArray w (cL fun v w'=>∃ h i,v=zT #[str R.1,zS h R.2.1.length i,zB R.2.2]/\aF G K (aV 2 K h i R.2.1::L) w'):=by
 refine aN func128 rfl (by kernel_rfl) (by show (1:Nat)<=43;decide) ?_;unfold aCX at hm
 refine aJ (aG (v:=str ([]:aL)) (aG (v:=zS none 0 0) (aG (v:=zB false) (aM (aJ (aO (v:=str c) ?_))))));obtain ⟨a,m,hm⟩:=aB hm
 refine aT (vs:=[str c,str ([40]:aL)]) call166 rfl (lib_Cut k m) ?_
 rintro _ x ⟨rfl,y⟩
 refine aO (v:=zT #[str a.1,str a.2.1,zB a.2.2]) (aC (iL rfl rfl) (aC (iL rfl rfl) (aC (iL rfl rfl) (aG (v:=str a.1) (aG (v:=str a.2.1) (aG (v:=zB a.2.2) (aM (aJ (aG (v:=zS none 0 0) (aM (gI [0,5] (fun f w=>∃ b d e,mR c a b=some R/\f 8=zS d b.length e/\aF G K (aV 2 K d e b::L) w) ?_ ?_)))))))))))
 ·rintro f z ⟨b,d,e,hm,n,o⟩
  unfold mR at hm
  refine aH (aJ (aO (v:=str a.1) (bR n ?_)));obtain ⟨J,V,p,q,r⟩:=aF.lendSp o (Hp.le_refl _) .head
  obtain ⟨g,t,hm⟩:=aB hm
  refine aT (vs:=[str a.1,zS d b.length e]) call170 rfl (aGw t q l p) ?_
  rintro _ Z ⟨rfl,u⟩
  have a0:=r _ _ u
  exact aO (v:=zT #[str g.1,zB g.2]) (aC (iL rfl rfl) (aC (iL rfl rfl) (aG (v:=str g.1) (aG (v:=zB g.2) (aM (aH (aZ [5,8] (fun f w=>∃ j,qK a b j=some R/\f 40=zB j/\aF G K (aV 2 K d e b::L) w) aE aE)))))))
 exact aE
theorem aMD {a:aL} {R:Bool} (hm:aDT a=some R) (b:aF G K (L) w) (c:G.lo=0):
  Calls prog 91 ([str a]:List Value).toArray w (cL fun v w'=>v=zB R/\aF G K (L) w'):=by
 exact aE
theorem aKw {a:(List aL)} {left R:Int} (hm:nK a left=some R) (h:aF G K (L) w) (i:aW K a1 c2 a):
  Calls prog 22 ([zS a1 a.length c2,i64 left]:List Value).toArray w (cL fun v w'=>v=i64 R/\aF G K (L) w'):=by
 refine aN func22 rfl (by kernel_rfl) (by show (2:Nat)<=28;decide) ?_;unfold nK at hm
 refine aJ (aG (v:=i64 0) (aM (aJ (aO (v:=i64 left) (aO (v:=zS a1 a.length c2) (aC (aX (len:=a.length) cT rfl) (aC (kR rfl rfl) (aG (v:=i64 (wr (left - (a.length:Int)))) (aM (aH (aJ (aO (v:=i64 (wr (left - (a.length:Int)))) (aC (eC rfl rfl) (aM ?_))))))))))))))
 rcases aI hm with ⟨b,hm⟩|⟨b,hm⟩
 ·exact aE
 ·refine aP b rfl (aU (aD (aH (aJ (aG (v:=i64 0) (aM (aQ [] (fun f w=>∃ c,aGh c=some R/\f 1=i64 c/\aF G K (L) w) aE ?_)))))));obtain ⟨j,d,ho⟩:=aB hm
  exact cD [0] d (fun e g f w=>f 1=i64 e/\f 5=i64 g/\aF G K (L) w) aE aE
theorem aME {a:(List Edge)} {left R:Int} (hm:aGU a left=some R) (b:aF G K (L) w) (c:aW K a1 c2 a):
  Calls prog 23 ([zS a1 a.length c2,i64 left]:List Value).toArray w (cL fun v w'=>v=i64 R/\aF G K (L) w'):=by
 exact aE
theorem aPj {a:gM} {left R:Int} (hm:aLV a left=some R) (b:aF G K (L) w) (c:aW K a1 c2 a.L) (d:aW K a4 c5 a.E):
  Calls prog 9 ([zA (zCa a a1 c2 a4 c5),i64 left]:List Value).toArray w (cL fun v w'=>v=i64 R/\aF G K (L) w'):=by
 exact aE
theorem aNR {a:bI} {left R:Int} (hm:aJg a left=some R) (b:aF G K (L) w):
  Calls prog 24 ([zA #[i64 a.Kind,i64 a.Variable,str a.B,zB a.Not],i64 left]:List Value).toArray w (cL fun v w'=>v=i64 R/\aF G K (L) w'):=by
 exact aE
theorem aMF {a:(List bI)} {left R:Int} (hm:aGV a left=some R) (h:aF G K (L) w) (i:aW K a1 c2 a):
  Calls prog 10 ([zS a1 a.length c2,i64 left]:List Value).toArray w (cL fun v w'=>v=i64 R/\aF G K (L) w'):=by
 refine aN func10 rfl (by kernel_rfl) (by show (2:Nat)<=27;decide) ?_;unfold aGV at hm
 refine aJ (aG (v:=i64 0) (aM (aJ (aO (v:=i64 left) (aO (v:=zS a1 a.length c2) (aC (aX (len:=a.length) sl_26 rfl) (aC (kR rfl rfl) (aG (v:=i64 (wr (left - (a.length:Int)))) (aM (aH (aJ (aO (v:=i64 (wr (left - (a.length:Int)))) (aC (eC rfl rfl) (aM ?_))))))))))))))
 rcases aI hm with ⟨b,hm⟩|⟨b,hm⟩
 ·exact aE
 ·refine aP b rfl (aU (aD (aH (aJ (aG (v:=i64 0) (aM (aQ [] (fun f w=>∃ c,aJh c=some R/\f 1=i64 c/\aF G K (L) w) aE ?_)))))));obtain ⟨j,d,ho⟩:=aB hm
  exact cD [0] d (fun e g f w=>f 1=i64 e/\f 5=i64 g/\aF G K (L) w) aE aE
theorem aMG {a:(List aR)} {left R:Int} (hm:aDU a left=some R) (b:aF G K (L) w) (c:aW K a1 c2 a):
  Calls prog 233 ([zS a1 a.length c2,i64 left]:List Value).toArray w (cL fun v w'=>v=i64 R/\aF G K (L) w'):=by
 exact aE
theorem aLv {a:(List (List aR))} {left R:Int} (hm:aEK a left=some R) (h:aF G K (L) w) (i:aW K a1 c2 a):
  Calls prog 192 ([zS a1 a.length c2,i64 left]:List Value).toArray w (cL fun v w'=>v=i64 R/\aF G K (L) w'):=by
 refine aN func192 rfl (by kernel_rfl) (by show (2:Nat)<=27;decide) ?_;unfold aEK at hm
 refine aJ (aG (v:=i64 0) (aM (aJ (aO (v:=i64 left) (aO (v:=zS a1 a.length c2) (aC (aX (len:=a.length) aMj rfl) (aC (kR rfl rfl) (aG (v:=i64 (wr (left - (a.length:Int)))) (aM (aH (aJ (aO (v:=i64 (wr (left - (a.length:Int)))) (aC (eC rfl rfl) (aM ?_))))))))))))))
 rcases aI hm with ⟨b,hm⟩|⟨b,hm⟩
 ·exact aE
 ·refine aP b rfl (aU (aD (aH (aJ (aG (v:=i64 0) (aM (aQ [] (fun f w=>∃ c,aHG c=some R/\f 1=i64 c/\aF G K (L) w) aE ?_)))))));obtain ⟨j,d,ho⟩:=aB hm
  exact cD [0] d (fun e g f w=>f 1=i64 e/\f 5=i64 g/\aF G K (L) w) aE aE
theorem aNS {a:bG} {left R:Int} (hm:aGi a left=some R) (b:aF G K (L) w) (c:aW K a1 c2 a.Arguments):
  Calls prog 156 ([zA #[i64 a.Kind,i64 a.Number,str a.Name,zS a1 a.Arguments.length c2],i64 left]:List Value).toArray w (cL fun v w'=>v=i64 R/\aF G K (L) w'):=by
 exact aE
theorem aMH {a:(List bG)} {left R:Int} (hm:aGW a left=some R) (h:aF G K (L) w) (i:aW K a1 c2 a):
  Calls prog 111 ([zS a1 a.length c2,i64 left]:List Value).toArray w (cL fun v w'=>v=i64 R/\aF G K (L) w'):=by
 refine aN func111 rfl (by kernel_rfl) (by show (2:Nat)<=27;decide) ?_;unfold aGW at hm
 refine aJ (aG (v:=i64 0) (aM (aJ (aO (v:=i64 left) (aO (v:=zS a1 a.length c2) (aC (aX (len:=a.length) aMk rfl) (aC (kR rfl rfl) (aG (v:=i64 (wr (left - (a.length:Int)))) (aM (aH (aJ (aO (v:=i64 (wr (left - (a.length:Int)))) (aC (eC rfl rfl) (aM ?_))))))))))))))
 rcases aI hm with ⟨b,hm⟩|⟨b,hm⟩
 ·exact aE
 ·refine aP b rfl (aU (aD (aH (aJ (aG (v:=i64 0) (aM (aQ [] (fun f w=>∃ c,aJi c=some R/\f 1=i64 c/\aF G K (L) w) aE ?_)))))));obtain ⟨j,d,ho⟩:=aB hm
  exact cD [0] d (fun e g f w=>f 1=i64 e/\f 5=i64 g/\aF G K (L) w) aE aE
theorem aHu {a:Definition} {left R:Int} (hm:qL a left=some R) (b:aF G K (L) w) (c:aW K a1 c2 a.Body):
  Calls prog 60 ([zA #[str a.Name,i64 a.Parameters,zS a1 a.Body.length c2],i64 left]:List Value).toArray w (cL fun v w'=>v=i64 R/\aF G K (L) w'):=by
 exact aE
theorem aGx {a:(List Definition)} {left R:Int} (hm:tV a left=some R) (h:aF G K (L) w) (i:aW K a1 c2 a):
  Calls prog 25 ([zS a1 a.length c2,i64 left]:List Value).toArray w (cL fun v w'=>v=i64 R/\aF G K (L) w'):=by
 refine aN func25 rfl (by kernel_rfl) (by show (2:Nat)<=27;decide) ?_;unfold tV at hm
 refine aJ (aG (v:=i64 0) (aM (aJ (aO (v:=i64 left) (aO (v:=zS a1 a.length c2) (aC (aX (len:=a.length) sl_27 rfl) (aC (kR rfl rfl) (aG (v:=i64 (wr (left - (a.length:Int)))) (aM (aH (aJ (aO (v:=i64 (wr (left - (a.length:Int)))) (aC (eC rfl rfl) (aM ?_))))))))))))))
 rcases aI hm with ⟨b,hm⟩|⟨b,hm⟩
 ·exact aE
 ·refine aP b rfl (aU (aD (aH (aJ (aG (v:=i64 0) (aM (aQ [] (fun f w=>∃ c,aBW c=some R/\f 1=i64 c/\aF G K (L) w) aE ?_)))))));obtain ⟨j,d,ho⟩:=aB hm
  exact cD [0] d (fun e g f w=>f 1=i64 e/\f 5=i64 g/\aF G K (L) w) aE aE
theorem aLw {a:(List Int)} {left R:Int} (hm:aIo a left=some R) (b:aF G K (L) w) (c:aW K a1 c2 a):
  Calls prog 112 ([zS a1 a.length c2,i64 left]:List Value).toArray w (cL fun v w'=>v=i64 R/\aF G K (L) w'):=by
 exact aE
theorem aIw {a:aY} {left R:Int} (hm:sO a left=some R) (b:aF G K (L) w) (c:aW K a1 c2 a.Values):
  Calls prog 61 ([zA #[i64 a.Definition,zS a1 a.Values.length c2],i64 left]:List Value).toArray w (cL fun v w'=>v=i64 R/\aF G K (L) w'):=by
 exact aE
theorem aHv {a:(List aY)} {left R:Int} (hm:vR a left=some R) (h:aF G K (L) w) (i:aW K a1 c2 a):
  Calls prog 26 ([zS a1 a.length c2,i64 left]:List Value).toArray w (cL fun v w'=>v=i64 R/\aF G K (L) w'):=by
 refine aN func26 rfl (by kernel_rfl) (by show (2:Nat)<=27;decide) ?_;unfold vR at hm
 refine aJ (aG (v:=i64 0) (aM (aJ (aO (v:=i64 left) (aO (v:=zS a1 a.length c2) (aC (aX (len:=a.length) sl_28 rfl) (aC (kR rfl rfl) (aG (v:=i64 (wr (left - (a.length:Int)))) (aM (aH (aJ (aO (v:=i64 (wr (left - (a.length:Int)))) (aC (eC rfl rfl) (aM ?_))))))))))))))
 rcases aI hm with ⟨b,hm⟩|⟨b,hm⟩
 ·exact aE
 ·refine aP b rfl (aU (aD (aH (aJ (aG (v:=i64 0) (aM (aQ [] (fun f w=>∃ c,aCY c=some R/\f 1=i64 c/\aF G K (L) w) aE ?_)))))));obtain ⟨j,d,ho⟩:=aB hm
  exact cD [0] d (fun e g f w=>f 1=i64 e/\f 5=i64 g/\aF G K (L) w) aE aE
theorem aKx {a:bB} {left R:Int} (hm:aAl a left=some R) (b:aF G K (L) w):
  Calls prog 62 ([zA #[str a.Left,str a.Right,str a.Result],i64 left]:List Value).toArray w (cL fun v w'=>v=i64 R/\aF G K (L) w'):=by
 exact aE
theorem aJK {a:(List bB)} {left R:Int} (hm:aBc a left=some R) (h:aF G K (L) w) (i:aW K a1 c2 a):
  Calls prog 27 ([zS a1 a.length c2,i64 left]:List Value).toArray w (cL fun v w'=>v=i64 R/\aF G K (L) w'):=by
 refine aN func27 rfl (by kernel_rfl) (by show (2:Nat)<=27;decide) ?_;unfold aBc at hm
 refine aJ (aG (v:=i64 0) (aM (aJ (aO (v:=i64 left) (aO (v:=zS a1 a.length c2) (aC (aX (len:=a.length) sl_29 rfl) (aC (kR rfl rfl) (aG (v:=i64 (wr (left - (a.length:Int)))) (aM (aH (aJ (aO (v:=i64 (wr (left - (a.length:Int)))) (aC (eC rfl rfl) (aM ?_))))))))))))))
 rcases aI hm with ⟨b,hm⟩|⟨b,hm⟩
 ·exact aE
 ·refine aP b rfl (aU (aD (aH (aJ (aG (v:=i64 0) (aM (aQ [] (fun f w=>∃ c,aFy c=some R/\f 1=i64 c/\aF G K (L) w) aE ?_)))))));obtain ⟨j,d,ho⟩:=aB hm
  exact cD [0] d (fun e g f w=>f 1=i64 e/\f 5=i64 g/\aF G K (L) w) aE aE
theorem aLx {a:bM} {left R:Int} (hm:aEL a left=some R) (b:aF G K (L) w) (c:aW K a1 c2 a.Definitions) (d:aW K a4 c5 a.Components) (e:aW K a7 c8 a.Meetings) (g:aW K a10 c11 a.Allowed) (h:aW K a13 c14 a.Hidden):
  Calls prog 11 ([zA #[zS a1 a.Definitions.length c2,zS a4 a.Components.length c5,zS a7 a.Meetings.length c8,zS a10 a.Allowed.length c11,zS a13 a.Hidden.length c14],i64 left]:List Value).toArray w (cL fun v w'=>v=i64 R/\aF G K (L) w'):=by
 exact aE
theorem aHS {a:pL} {left R:Int} (hm:aJj a left=some R) (b:aF G K (L) w) (c:aW K a1 c2 a.S.L) (d:aW K a4 c5 a.S.E) (e:aW K a7 c8 a.Formula) (g:aW K a10 c11 a.Source.Definitions) (h:aW K a13 c14 a.Source.Components) (i:aW K a16 c17 a.Source.Meetings) (j:aW K a19 c20 a.Source.Allowed) (k:aW K a22 c23 a.Source.Hidden):
  Calls prog 4 ([zA #[str a.Name,i64 a.Kind,i64 a.S.N,i64 a.S.I,zS a1 a.S.L.length c2,zS a4 a.S.E.length c5,zS a7 a.Formula.length c8,zS a10 a.Source.Definitions.length c11,zS a13 a.Source.Components.length c14,zS a16 a.Source.Meetings.length c17,zS a19 a.Source.Allowed.length c20,zS a22 a.Source.Hidden.length c23],i64 left]:List Value).toArray w (cL fun v w'=>v=i64 R/\aF G K (L) w'):=by
 exact aE
theorem aLy {c:UInt8} {R:Bool} (hm:aBX c=some R) (b:aF G K (L) w):
  Calls prog 63 ([Value.int .u8 (c.toNat:Int)]:List Value).toArray w (cL fun v w'=>v=zB R/\aF G K (L) w'):=by
 refine aN func63 rfl (by kernel_rfl) (by show (1:Nat)<=9;decide) ?_;unfold aBX at hm
 exact aJ (aG (v:=zB false) (aM (aH (aZ [] (fun f w=>∃ a,aDA a=some R/\f 2=zB a/\aF G K (L) w) aE aE))))
theorem aFE {c:UInt8} {R:Bool} (hm:aBY c=some R) (b:aF G K (L) w):
  Calls prog 64 ([Value.int .u8 (c.toNat:Int)]:List Value).toArray w (cL fun v w'=>v=zB R/\aF G K (L) w'):=by
 refine aN func64 rfl (by kernel_rfl) (by show (1:Nat)<=9;decide) ?_;unfold aBY at hm
 exact aJ (aG (v:=zB false) (aM (aH (aZ [] (fun f w=>∃ a,aDB a=some R/\f 2=zB a/\aF G K (L) w) aE aE))))
theorem aGy {a:aL} {R:Bool} (hm:rL a=some R) (l:aF G K (L) w):
  Calls prog 28 ([str a]:List Value).toArray w (cL fun v w'=>v=zB R/\aF G K (L) w'):=by
 refine aN func28 rfl (by kernel_rfl) (by show (1:Nat)<=35;decide) ?_;unfold rL at hm
 refine aJ (aG (v:=zB false) (aM (aH (aH (aZ [0] (fun f w=>∃ b,nS a b=some R/\f 16=zB b/\aF G K (L) w) ?_ ?_)))))
 ·rintro f m ⟨b,hm,h,n⟩
  unfold nS at hm
  refine aD ?_
  rcases aI hm with ⟨d,hm⟩|⟨d,hm⟩
  ·exact aE
  ·refine aP d h (aU (aD (aH (aJ (aG (v:=i64 0) (aM (aQ [] (fun f w=>aEM=some R/\aF G K (L) w) aE ?_)))))));obtain ⟨o,i,ho⟩:=aB hm
   refine bW [0] i (fun c f w=>f 3=i64 c/\aF G K (L) w) aE ?_
   ·rintro c j f p hm hr ⟨k,q⟩
    unfold vS at hm
    refine aH (aJ (bR k (aO (v:=str a) (aC (sK runUnderlying9 rfl) (aC (eC rfl rfl) (aM ?_))))))
    rcases aI hm with ⟨e,hm⟩|⟨e,hm⟩
    ·exact aS e rfl (aU (aD (aH (bJ (aH (aZ [0,3] (fun f w=>∃ g,aBd c g=some j/\f 34=zB g/\aF G K (L) w) aE aE))))))
    ·exact aE
 exact aE
theorem aJL {n low a:Int} {R:Bool} (hm:jF n low a=some R) (c:aF G K (L) w):
  Calls prog 65 ([i64 n,i64 low,i64 a]:List Value).toArray w (cL fun v w'=>v=zB R/\aF G K (L) w'):=by
 refine aN func65 rfl (by kernel_rfl) (by show (3:Nat)<=15;decide) ?_;unfold jF at hm
 exact aJ (aG (v:=zB false) (aM (aH (aZ [] (fun f w=>∃ b,aIp b=some R/\f 6=zB b/\aF G K (L) w) aE aE))))
end Gv
namespace Gv
open Gv.Hp renaming le_refl→zR
open Go.Value renaming slice→zS,bool→zB
open Go Go.Proofs Go.Proofs.Tryz
set_option maxRecDepth 20000
set_option maxHeartbeats 40000000
variable {G:kH} {K:Hp} {L:List eW} {w:World} {a1 a4 a7 a10 a13 a16:Option Addr} {c2 c5 c8 c11 c14 c17:Nat}
theorem aKy {a:aL} {R:Bool} (hm:kS a=some R) (c:aF G K (L) w):
  Calls prog 158 ([str a]:List Value).toArray w (cL fun v w'=>v=zB R/\aF G K (L) w'):=by
 refine aN func158 rfl (by kernel_rfl) (by show (1:Nat)<=9;decide) ?_;unfold kS at hm
 exact aJ (aG (v:=zB false) (aM (aH (aZ [] (fun f w=>∃ b,vT b=some R/\f 2=zB b/\aF G K (L) w) aE aE))))
theorem aGz {a:aL} {R:Int} (hm:aDV a=some R) (d:aF G K (L) w):
  Calls prog 193 ([str a]:List Value).toArray w (cL fun v w'=>v=i64 R/\aF G K (L) w'):=by
 refine aN func193 rfl (by kernel_rfl) (by show (1:Nat)<=17;decide) ?_;unfold aDV at hm
 refine aJ (aG (v:=i64 0) (aM (aH (aJ (aG (v:=i64 0) (aM (aQ [0] (fun f w=>aJk a=some R/\aF G K (L) w) aE ?_)))))));obtain ⟨e,b,ho⟩:=aB hm
 exact bW [0] b (fun c f w=>f 3=i64 c/\aF G K (L) w) aE aE
theorem aFF {a:aL} {by_:UInt8} {R:(List aL)} (hm:aBZ a by_=some R) (x:aF G K (L) w):
  Calls prog 194 ([str a,Value.int .u8 (by_.toNat:Int)]:List Value).toArray w (cL fun v w'=>∃ l m,v=zS l R.length m/\aF G K (aV 9 K l m R::L) w'):=by
 refine aN func194 rfl (by kernel_rfl) (by show (2:Nat)<=35;decide) ?_;unfold aBZ at hm
 refine aJ (aG (v:=zS none 0 0) (aM (aJ (dK (Kt:=K) (xs:=([]:List aL)) (cs:=[]) (vs:=[]) cT qF rfl rfl x rfl (by kernel_rfl) rfl rfl rfl trivial (fun n y (a2:aF G K (aV 9 K n 0 ([]:List aL)::L) y)=>(aG (v:=zS n ([]:List aL).length 0) (aM (aJ (aG (v:=i64 0) (aM (aH (aJ (aG (v:=i64 0) (aM (aQ [0] (fun f w=>∃ g o p q,aDC a g o=some R/\f 5=zS p g.length q/\f 6=i64 o/\aF G K (aV 9 K p q g::L) w) aE ?_)))))))))))))))
 obtain ⟨a3,z,ho⟩:=aB hm
 refine aBM [0,1] z (fun h r b f w=>∃ i j,f 5=zS i h.length j/\f 6=i64 r/\f 7=i64 b/\aF G K (aV 9 K i j h::L) w) aE ?_
 ·rintro h r b J f a4 hm hr ⟨i,j,a6,a7,t,a8⟩
  unfold zF at hm
  refine aH (aJ (bR t (aO (v:=str a) (aC (sK runUnderlying9 rfl) (aC (eC rfl rfl) (aM ?_))))))
  rcases aI hm with ⟨u,hm⟩|⟨u,hm⟩
  ·refine aS u rfl (aU (aD (aH (aQ [0,1,7] (fun f w=>∃ c k d e,oV b c k=some J/\f 5=zS d c.length e/\f 6=i64 k/\aF G K (aV 9 K d e c::L) w) ?_ ?_))))
   ·rintro f a9 ⟨c,k,d,e,hm,V,Z,a0⟩
    unfold oV at hm
    exact aD (bK (bR t (aC (nI rfl rfl) (aG (v:=i64 (wr (b+1))) (aM ⟨_,(Option.some.inj hm).symm,gF,d,e,V,Z,rfl,a0⟩)))))
   exact aE
  ·exact aE
theorem aEk {c:aL} {R:(Int × Bool)} (hm:uW c=some R) (z:aF G K (L) w):
  Calls prog 195 ([str c]:List Value).toArray w (cL fun v w'=>v=Value.tuple #[i64 R.1,zB R.2]/\aF G K (L) w'):=by
 refine aN func195 rfl (by kernel_rfl) (by show (1:Nat)<=62;decide) ?_;unfold uW at hm
 refine aJ (aG (v:=i64 0) (aG (v:=zB false) (aM (aJ (aG (v:=i64 0) (aM (gI [0] (fun f w=>∃ d,mU c d=some R/\f 4=i64 d/\aF G K (L) w) ?_ ?_)))))))
 ·rintro f J ⟨d,hm,p,V⟩
  unfold mU at hm
  refine aH (aH (aZ [0,4] (fun f w=>∃ g,jM c d g=some R/\f 36=zB g/\aF G K (L) w) ?_ ?_))
  ·rintro f Z ⟨g,hm,q,a0⟩
   unfold jM at hm
   refine aD ?_
   rcases aI hm with ⟨j,hm⟩|⟨j,hm⟩
   ·exact aE
   ·refine aP j q (aU (aD (aJ (aG (v:=i64 0) (aM (aH (aJ (bR p (aG (v:=i64 d) (aM (aQ [4] (fun f w=>∃ h,vU d h=some R/\f 5=i64 h/\aF G K (L) w) ?_ ?_)))))))))))
    ·rintro f a1 ⟨h,hm,a2,a3⟩
     unfold vU at hm
     exact aD (gI [] (fun f w=>∃ k,aCa k=some R/\f 5=i64 k/\aF G K (L) w) aE aE)
    obtain ⟨a4,r,ho⟩:=aB hm
    refine cD [0,4] r (fun i i32 f w=>f 5=i64 i/\f 6=i64 i32/\aF G K (L) w) aE ?_
    ·rintro i i32 a5 f a6 hm hr ⟨t,e,u⟩
     unfold mT at hm
     refine aH (aJ (bR e (aO (v:=str c) (aC (sK runUnderlying9 rfl) (aC (eC rfl rfl) (aM ?_))))))
     rcases aI hm with ⟨l,hm⟩|⟨l,hm⟩
     ·refine aS l rfl (aU (aD (aH (bJ (aH (aJ (aO (v:=str c) (bR e ?_))))))));obtain ⟨c45,m,hm⟩:=aB hm
      refine aC (R_ixS runUnderlying9 rfl rfl m) ?_;obtain ⟨a7,x,hm⟩:=aB hm
      refine aT (vs:=[Value.int .u8 (c45.toNat:Int)]) call64 rfl (aFE x u) ?_
      rintro _ a8 ⟨rfl,y⟩
      refine aC (uT rfl) (aM ?_)
      rcases aI hm with ⟨n,hm⟩|⟨n,hm⟩
      ·exact aE
      ·exact aP n rfl (aU (aD (bK (bR t (aC (R_mul rfl rfl) (aO (v:=str c) (bR e (aC (R_ixS runUnderlying9 rfl rfl m) (aC (aPV (a:=c45) (b:=(48:UInt8)) rfl rfl) (aC (aPS runUnderlying2 rfl ⟨_,runUnderlying5⟩) (aC (nI rfl rfl) (aG (v:=i64 (wr ((wr (10 * i))+(wr ((c45 - (48:UInt8)).toNat:Int))))) (bP (eL (aD (bK (bR e (aC (nI rfl rfl) (aG (v:=i64 (wr (i32+1))) (aM ⟨_,(Option.some.inj hm).symm,gF,rfl,rfl,y⟩))))))))))))))))))))
     ·exact aE
  exact aE
 exact aH (aZ [0,4] (fun f w=>∃ o,qM c o=some R/\f 14=zB o/\aF G K (L) w) aE aE)
theorem aKz {a:aL} {R:((List Int) × Bool)} (hm:aCZ a=some R) (hs:aF G K (L) w):
  Calls prog 157 ([str a]:List Value).toArray w (cL fun v w'=>∃ q r,v=Value.tuple #[zS q R.1.length r,zB R.2]/\aF G K (aV 2 K q r R.1::L) w'):=by
 refine aN func157 rfl (by kernel_rfl) (by show (1:Nat)<=70;decide) ?_;unfold aCZ at hm
 refine aJ (aG (v:=zS none 0 0) (aG (v:=zB false) (aM (aJ (aO (v:=str a) ?_)))));obtain ⟨h,q2,hm⟩:=aB hm
 refine aT (vs:=[str a]) call193 rfl (aGz q2 hs) ?_
 rintro _ w3 ⟨rfl,b6⟩
 refine aG (v:=i64 h) (aM (aH (aJ (aO (v:=i64 h) (aO (v:=str a) (aC (sK runUnderlying9 rfl) (aC (dN rfl rfl) (aM ?_))))))))
 rcases aI hm with ⟨u,hm⟩|⟨u,hm⟩
 ·exact aE
 ·refine aP u rfl (aU (aD (aH (aH (aZ [0,4] (fun f w=>∃ l,mV a h l=some R/\f 31=zB l/\aF G K (L) w) ?_ ?_)))))
  ·rintro f b7 ⟨l,hm,a3,a4⟩
   unfold mV at hm
   refine aD ?_
   rcases aI hm with ⟨x,hm⟩|⟨x,hm⟩
   ·exact aE
   ·refine aP x a3 (aU (aD (aJ (aO (v:=str a) (aO (v:=i64 h) (aC (nI rfl rfl) (aO (v:=str a) (aC (sK runUnderlying9 rfl) (aC (kR rfl rfl) ?_)))))))));obtain ⟨a5,a6,hm⟩:=aB hm
    refine aC (R_slSLH runUnderlying9 rfl rfl rfl a6) ?_;obtain ⟨b,a7,hm⟩:=aB hm
    refine aT (vs:=[str a5,Value.int .u8 44]) call194 rfl (aFF (by_:=(44:UInt8)) a7 a4) ?_
    rintro _ b8 ⟨c,d,rfl,a8⟩
    refine aG (v:=zS c b.length d) (aM (aJ (dK (Kt:=K) (xs:=([]:List Int)) (cs:=[]) (vs:=[]) dR xY rfl rfl a8 rfl (by kernel_rfl) rfl rfl rfl trivial (fun y a9 (b9:aF G K (aV 2 K y 0 ([]:List Int)::aV 9 K c d b::L) a9)=>(aG (v:=zS y ([]:List Int).length 0) (aM (aH (aJ (aG (v:=i64 0) (aM (aQ [] (fun f w=>∃ m z J,aCb m=some R/\f 6=zS z m.length J/\aF G K (aV 2 K z J m::L) w) aE ?_)))))))))));obtain ⟨c0,b0,ho⟩:=aB hm
    refine cD [5] b0 (fun e n f w=>∃ j k,f 6=zS j e.length k/\f 7=i64 n/\aF G K (aV 2 K j k e::aV 9 K c d b::L) w) aE ?_
    ·rintro e n b1 f c1 hm hr ⟨j,k,c2,V,o⟩
     unfold qN at hm
     refine aH (aJ (bR V (aO (v:=zS c b.length d) (aC (aX (len:=b.length) cT rfl) (aC (eC rfl rfl) (aM ?_))))))
     rcases aI hm with ⟨Z,hm⟩|⟨Z,hm⟩
     ·refine aS Z rfl (aU (aD (aH (bJ (aJ (aO (v:=zS c b.length d) (bR V ?_)))))));obtain ⟨b2,p,hm⟩:=aB hm
      have b3:=eN o (i:=1) rfl p
      refine aC (jE cT rfl b3 rfl rfl rfl p) (aC (oJ (t:=0) oK o (i:=1) rfl p rfl rfl rfl) ?_);obtain ⟨g,b4,hm⟩:=aB hm
      refine aT (vs:=[str b2]) call195 rfl (aEk b4 o) ?_
      rintro _ c3 ⟨rfl,c4⟩
      exact aO (v:=Value.tuple #[i64 g.1,zB g.2]) (aC (iL rfl rfl) (aC (iL rfl rfl) (aG (v:=i64 g.1) (aG (v:=zB g.2) (aM (aH (aH (aZ [5,6,7,8] (fun f w=>∃ a0,vV e n g a0=some b1/\f 61=zB a0/\aF G K (aV 2 K j k e::aV 9 K c d b::L) w) aE aE))))))))
     ·exact aE
  exact aE
theorem aLz {a:aL} {R:Bool} (hm:aCc a=some R) (b:aF G K (L) w):
  Calls prog 113 ([str a]:List Value).toArray w (cL fun v w'=>v=zB R/\aF G K (L) w'):=by
 exact aE
theorem aLA {a:(List aL)} {R:Bool} (hm:aCd a=some R) (l:aF G K (L) w) (m:aW K a1 c2 a):
  Calls prog 66 ([zS a1 a.length c2]:List Value).toArray w (cL fun v w'=>v=zB R/\aF G K (L) w'):=by
 refine aN func66 rfl (by kernel_rfl) (by show (1:Nat)<=53;decide) ?_;unfold aCd at hm
 refine aJ (aG (v:=zB false) (aM (aH (aH (aZ [0] (fun f w=>∃ b,oX a b=some R/\f 17=zB b/\aF G K (L) w) ?_ ?_)))))
 ·rintro f n ⟨b,hm,h,o⟩
  unfold oX at hm
  refine aD ?_
  rcases aI hm with ⟨d,hm⟩|⟨d,hm⟩
  ·exact aE
  ·refine aP d h (aU (aD (aH (aJ (aG (v:=i64 1) (aM (aQ [] (fun f w=>aHH=some R/\aF G K (L) w) aE ?_)))))));obtain ⟨p,i,ho⟩:=aB hm
   refine bW [0] i (fun c f w=>f 3=i64 c/\aF G K (L) w) aE ?_
   ·rintro c j f q hm hr ⟨k,r⟩
    unfold sP at hm
    refine aH (aJ (bR k (aO (v:=zS a1 a.length c2) (aC (aX (len:=a.length) cT rfl) (aC (eC rfl rfl) (aM ?_))))))
    rcases aI hm with ⟨e,hm⟩|⟨e,hm⟩
    ·exact aS e rfl (aU (aD (aH (bJ (aH (aZ [0,3] (fun f w=>∃ g,oW c g=some j/\f 52=zB g/\aF G K (L) w) aE aE))))))
    ·exact aE
 exact aE
theorem aGA {a:Edge} {c:Nat} {b:Edge} {d:Nat} {R:Bool} (hm:aGX a b=some R) (e:aF G K (L) w) (g:eR K a1 c [i64 a.F,i64 a.B,i64 a.To]) (h:eR K a4 d [i64 b.F,i64 b.B,i64 b.To]):
  Calls prog 67 ([cE a1 c,cE a4 d]:List Value).toArray w (cL fun v w'=>v=zB R/\aF G K (L) w'):=by
 exact aE
theorem aJM {t:gM} {d:Nat} {R:Bool} (hm:aJl t=some R) (hs:aF G K (L) w) (b:eR K a1 d (zC t a4 c5 a7 c8)) (h6:aW K a4 c5 t.L) (h:aW K a7 c8 t.E):
  Calls prog 29 ([cE a1 d]:List Value).toArray w (cL fun v w'=>v=zB R/\aF G K (L) w'):=by
 refine aN func29 rfl (by kernel_rfl) (by show (1:Nat)<=101;decide) ?_;unfold aJl at hm
 refine aJ (aG (v:=zB false) (aM (aH (aH (aZ [0] (fun f w=>∃ l,uK t l=some R/\f 39=zB l/\aF G K (L) w) ?_ ?_)))))
 ·rintro f b5 ⟨l,hm,J,b6⟩
  unfold uK at hm
  refine aD ?_
  rcases aI hm with ⟨o,hm⟩|⟨o,hm⟩
  ·exact aE
  ·refine aP o J (aU (aD (aH (aJ (aG (v:=i64 0) (aM (aQ [] (fun f w=>aMu=some R/\aF G K (L) w) aE ?_)))))));obtain ⟨b7,V,ho⟩:=aB hm
   refine bW [0] V (fun e f w=>f 3=i64 e/\aF G K (L) w) aE ?_
   ·rintro e p f b8 hm hr ⟨j,k⟩
    unfold aCe at hm
    refine aH (aJ (bR j (aO (v:=cE a1 d) (aC (dO rfl b) (aC (cF (k':=d+3) aAZ rfl b rfl) (aC (bZ (t:=3) aJb k b rfl rfl) (aC (aX (len:=t.E.length) uU rfl) (aC (eC rfl rfl) (aM ?_)))))))))
    rcases aI hm with ⟨q,hm⟩|⟨q,hm⟩
    ·refine aS q rfl (aU (aD (aH (bJ (aJ (aO (v:=cE a1 d) (aC (dO rfl b) (aC (cF (k':=d+3) aAZ rfl b rfl) (aC (bZ (t:=3) aJb k b rfl rfl) (bR j ?_))))))))));obtain ⟨a,r,hm⟩:=aB hm
     refine aC (cR uU rfl h rfl rfl rfl r) ?_;obtain ⟨b9,Z,a0⟩:=aW.el (sz:=3) rfl h r
     cases a0
     refine aC (eD (t:=0) (vs:=[i64 a.F,i64 a.B,i64 a.To]) aKr k Z rfl rfl rfl) (eE (vs:=[i64 0,i64 0,i64 0]) zeroValue114 k rfl (fun m c0 a2=>(fA (i:=0) (ns:=[i64 a.F,i64 a.B,i64 a.To]) (us:=[i64 a.F,i64 a.B,i64 a.To]) sizeOf114 a2 rfl rfl rfl rfl rfl (kJ rfl) rfl rfl (fun a3 (c1:aF G K (box m 114 [i64 a.F,i64 a.B,i64 a.To]::L) a3)=>(aM (aH (aH (aZ [0,3,4] (fun f w=>∃ n,yB t e a n=some p/\f 87=zB n/\aF G K (box m 114 [i64 a.F,i64 a.B,i64 a.To]::L) w) ?_ ?_))))))))
     ·rintro f c2 ⟨n,hm,a5,u⟩
      unfold yB at hm
      refine aD ?_
      rcases aI hm with ⟨x,hm⟩|⟨x,hm⟩
      ·exact aE
      ·refine aP x a5 (aU (aD (aH (aZ [0,3] (fun f w=>∃ y,aEN e y=some p/\f 100=zB y/\aF G K (L) w) aE (bK (bR j (aC (R_gtr rfl rfl) (aO (v:=zB (decide (0 < e))) ?_))))))))
       rcases aI hm with ⟨c,hm⟩|⟨c,hm⟩
       ·refine bU c rfl rfl (aO (v:=cE a1 d) (bU c rfl rfl (aC (dO rfl b) (bU c rfl rfl (aC (cF (k':=d+3) aAZ rfl b rfl) (bU c rfl rfl (aC (bZ (t:=3) aJb u b rfl rfl) (bU c rfl rfl (bR j (bU c rfl rfl (aC (kR rfl rfl) (bU c rfl rfl ?_))))))))))));obtain ⟨c3,z,hm⟩:=aB hm
        refine aC (cR uU rfl h rfl rfl rfl z) ?_;obtain ⟨c4,a6,a8⟩:=aW.el (sz:=3) rfl h z
        cases a8
        refine bU c rfl rfl ?_;obtain ⟨c6,a9,b0,b1,c7⟩:=aF.lendBp u .head
        obtain ⟨c9,b2,hm⟩:=aB hm
        exact aT (vs:=[cE a7 ((wr (e - 1)).toNat * 3+0),cE (some ⟨m,0,none⟩) 0]) call67 rfl (aGA b2 b1 (a6.mono a9) b0) aE
       ·exact aE
     exact aE
    ·exact aE
 exact aE
theorem aCy {a:bM} {b:Nat} {R:Bool} (hm:aDW a=some R) (c:aF G K (L) w) (d:eR K a1 b [zS a4 a.Definitions.length c5,zS a7 a.Components.length c8,zS a10 a.Meetings.length c11,zS a13 a.Allowed.length c14,zS a16 a.Hidden.length c17]) (e:aW K a4 c5 a.Definitions) (g:aW K a7 c8 a.Components) (h:aW K a10 c11 a.Meetings) (i:aW K a13 c14 a.Allowed) (j:aW K a16 c17 a.Hidden):
  Calls prog 30 ([cE a1 b]:List Value).toArray w (cL fun v w'=>v=zB R/\aF G K (L) w'):=by
 exact aE
theorem aAM {a R:Int} (hm:uL a=some R) (g:aF G K (L) w):
  Calls prog 71 ([i64 a]:List Value).toArray w (cL fun v w'=>v=i64 R/\aF G K (L) w'):=by
 refine aN func71 rfl (by kernel_rfl) (by show (1:Nat)<=11;decide) ?_;unfold uL at hm
 refine aJ (aG (v:=i64 0) (aM (aH (aJ (aO (v:=i64 a) (aM (bJ (gI [3] (fun f w=>∃ b,oY a b=some R/\f 4=zB b/\aF G K (L) w) ?_ ?_))))))))
 ·rintro f h ⟨b,hm,e,i⟩
  unfold oY at hm
  rcases aI hm with ⟨c,hm⟩|⟨c,hm⟩
  ·exact aE
  ·exact aP c e (gI [] (fun f w=>∃ d,zH d=some R/\f 8=zB d/\aF G K (L) w) aE aE)
 exact aE
theorem aDn {a:aL} {R:Bool} (hm:vW a=some R) (g:aF G K (L) w):
  Calls prog 114 ([str a]:List Value).toArray w (cL fun v w'=>v=zB R/\aF G K (L) w'):=by
 refine aN func114 rfl (by kernel_rfl) (by show (1:Nat)<=23;decide) ?_;unfold vW at hm
 refine aJ (aG (v:=zB false) (aM (aH (aH (aZ [0] (fun f w=>∃ b,oN a b=some R/\f 8=zB b/\aF G K (L) w) ?_ ?_)))))
 ·rintro f h ⟨b,hm,e,i⟩
  unfold oN at hm
  refine aD ?_
  rcases aI hm with ⟨c,hm⟩|⟨c,hm⟩
  ·exact aE
  ·exact aP c e (aU (aD (aH (aZ [] (fun f w=>∃ d,tX d=some R/\f 2=zB d/\aF G K (L) w) aE aE))))
 exact aE
theorem aFG {c:(List bI)} {z p:Int} {R:Bool} (hm:yC c z p=some R) (hs:aF G K (L) w) (m:aW K a1 c2 c):
  Calls prog 68 ([zS a1 c.length c2,i64 z,i64 p]:List Value).toArray w (cL fun v w'=>v=zB R/\aF G K (L) w'):=by
 refine aN func68 rfl (by kernel_rfl) (by show (3:Nat)<=91;decide) ?_;unfold yC at hm
 refine aJ (aG (v:=zB false) (aM (aH (aH (aZ [0,2] (fun f w=>∃ q,pA c p q=some R/\f 18=zB q/\aF G K (L) w) ?_ ?_)))))
 ·rintro f w6 ⟨q,hm,e5,b5⟩
  unfold pA at hm
  refine aD ?_
  rcases aI hm with ⟨J,hm⟩|⟨J,hm⟩
  ·exact aE
  ·refine aP J e5 (aU (aD (aJ (aG (v:=i64 1) (aM (aH (aJ (aG (v:=i64 0) (aM (aQ [] (fun f w=>∃ V,aHI V=some R/\f 7=i64 V/\aF G K (L) w) aE ?_))))))))));obtain ⟨b6,a6,ho⟩:=aB hm
   refine cD [0,2] a6 (fun i d f w=>f 7=i64 i/\f 8=i64 d/\aF G K (L) w) aE ?_
   ·rintro i d r f b7 hm hr ⟨a7,n,b8⟩
    unfold sT at hm
    refine aH (aJ (bR n (aO (v:=zS a1 c.length c2) (aC (aX (len:=c.length) sB rfl) (aC (eC rfl rfl) (aM ?_))))))
    rcases aI hm with ⟨Z,hm⟩|⟨Z,hm⟩
    ·refine aS Z rfl (aU (aD (aH (bJ (aH (aH (aZ [0,2,7,8] (fun f w=>∃ u,sS c i d u=some r/\f 36=zB u/\aF G K (L) w) ?_ ?_)))))))
     ·rintro f b9 ⟨u,hm,a8,a0⟩
      unfold sS at hm
      refine aD ?_
      rcases aI hm with ⟨a2,hm⟩|⟨a2,hm⟩
      ·exact aE
      ·refine aP a2 a8 (aU (aD (aJ (bR a7 (aO (v:=zS a1 c.length c2) (bR n ?_))))));obtain ⟨e,o,hm⟩:=aB hm
       refine aC (cR sB rfl m rfl rfl rfl o) ?_;obtain ⟨c0,h,a9⟩:=aW.el (sz:=4) rfl m o
       cases a9
       refine aC (cF (k':=d.toNat * 4+0) aCU rfl h rfl) (aC (bZ (t:=0) gJ a0 h rfl rfl) ?_);obtain ⟨x,b0,hm⟩:=aB hm
       refine aT (vs:=[i64 e.Kind]) call71 rfl (aAM b0 a0) ?_
       rintro _ c1 ⟨rfl,c3⟩
       refine aC (kR rfl rfl) (aC (nI rfl rfl) (aG (v:=i64 (wr (i+(wr (x - 1))))) (aM (aH (aZ [0,2,7,8] (fun f w=>∃ j,sQ i d e x j=some r/\f 9=zB j/\aF G K (L) w) ?_ ?_)))))
       ·rintro f c4 ⟨j,hm,y,k⟩
        unfold sQ at hm
        refine aD (aH (aZ [0,2,7,8] (fun f w=>∃ a3,oZ i d x a3=some r/\f 88=zB a3/\aF G K (L) w) aE (bK (bR y (aO (v:=zB j) ?_)))))
        rcases aI hm with ⟨a,hm⟩|⟨a,hm⟩
        ·refine bU a rfl rfl (aO (v:=zS a1 c.length c2) (bU a rfl rfl (bR n (bU a rfl rfl (aC (cR sB rfl m rfl rfl rfl o) (bU a rfl rfl (aC (cF (k':=d.toNat * 4+2) aJc rfl h rfl) (bU a rfl rfl (aC (bZ (t:=2) oK k h rfl rfl) (bU a rfl rfl ?_))))))))));obtain ⟨a4,b1,hm⟩:=aB hm
         refine aT (vs:=[str e.B]) call114 rfl (aDn b1 k) ?_
         rintro _ c5 ⟨rfl,b2⟩
         refine bU a rfl rfl (aC (uT rfl) (aC (oI (v:=zB (!a4)) a rfl rfl) (aO (v:=zB (!a4)) ?_)))
         rcases aI hm with ⟨l,hm⟩|⟨l,hm⟩
         ·exact aE
         ·exact kI l rfl rfl (bR y (kI l rfl rfl (aC (uT rfl) (kI l rfl rfl (aO (v:=zB (!j)) (kA (vL a) rfl rfl (kA (vL a) rfl rfl (kA (vL a) rfl rfl (kA (vL a) rfl rfl (kA (vL a) rfl rfl (kA (vL a) rfl rfl (kA (vL a) rfl rfl (aDM (g:=80) rfl rfl (aDM (g:=80) rfl rfl (aDM (g:=80) rfl rfl (aDM (g:=80) rfl rfl (aDM (g:=80) rfl rfl (kA (vL a) rfl rfl (kI l rfl rfl (aC (vJ (v:=zB false) (vL a) rfl rfl) (aC (vJ (v:=zB false) l rfl rfl) (aM ⟨gF,false,hm,rfl,b2⟩))))))))))))))))))))))
        ·refine kA a rfl rfl (kA a rfl rfl (kA a rfl rfl (kA a rfl rfl (kA a rfl rfl (kA a rfl rfl (kA a rfl rfl (aC (vJ (v:=zB false) a rfl rfl) (aO (v:=zB false) (kI (by decide:¬ false=true) rfl rfl (bR y (kI (by decide:¬ false=true) rfl rfl (aC (uT rfl) (kI (by decide:¬ false=true) rfl rfl (aO (v:=zB (!j)) (bU (mN a) rfl rfl (aO (v:=zS a1 c.length c2) (bU (mN a) rfl rfl (bR n (bU (mN a) rfl rfl (aC (cR sB rfl m rfl rfl rfl o) (bU (mN a) rfl rfl (aC (cF (k':=d.toNat * 4+2) aJc rfl h rfl) (bU (mN a) rfl rfl ?_)))))))))))))))))))))))
         refine aC (bZ (t:=2) oK k h rfl rfl) (bU (mN a) rfl rfl (aC (R_neqS rfl rfl) (bU (mN a) rfl rfl (aO (v:=zB (!(e.B == ([]:aL)))) ?_))))
         rcases aI hm with ⟨b,hm⟩|⟨b,hm⟩
         ·exact aDL b rfl rfl (aDL b rfl rfl (aDL b rfl rfl (aDL b rfl rfl (aDL b rfl rfl (bU (mN a) rfl rfl (aC (oI (v:=zB true) b rfl rfl) (kI (by decide:¬ false=true) rfl rfl (aC (oI (v:=zB true) (mN a) rfl rfl) (aC (vJ (v:=zB true) (by decide:¬ false=true) rfl rfl) (aM ⟨gF,true,hm,rfl,k⟩))))))))))
         ·exact kI b rfl rfl (aO (v:=zS a1 c.length c2) (kI b rfl rfl (bR n (kI b rfl rfl (aC (cR sB rfl m rfl rfl rfl o) (kI b rfl rfl (aC (cF (k':=d.toNat * 4+3) aLT rfl h rfl) (kI b rfl rfl (aC (bZ (t:=3) sc_4 k h rfl rfl) (bU (mN a) rfl rfl (aC (vJ (v:=zB e.Not) b rfl rfl) (kI (by decide:¬ false=true) rfl rfl (aC (oI (v:=zB e.Not) (mN a) rfl rfl) (aC (vJ (v:=zB e.Not) (by decide:¬ false=true) rfl rfl) (aM ⟨gF,e.Not,hm,rfl,k⟩)))))))))))))))
       exact aE
     exact aE
    ·exact aE
 exact aE
theorem aLB {n:bI} {a:Nat} {R:Bool} (hm:yD n=some R) (c:aF G K (L) w) (d:eR K a1 a [i64 n.Kind,i64 n.Variable,str n.B,zB n.Not]):
  Calls prog 69 ([cE a1 a]:List Value).toArray w (cL fun v w'=>v=zB R/\aF G K (L) w'):=by
 refine aN func69 rfl (by kernel_rfl) (by show (1:Nat)<=15;decide) ?_;unfold yD at hm
 exact aJ (aG (v:=zB false) (aM (aH (aZ [] (fun f w=>∃ b,zJ b=some R/\f 2=zB b/\aF G K (L) w) aE aE))))
theorem aNT {a:(List bI)} {k R:Int} (hm:aDX a k=some R) (g:aF G K (L) w) (h:aW K a1 c2 a):
  Calls prog 115 ([zS a1 a.length c2,i64 k]:List Value).toArray w (cL fun v w'=>v=i64 R/\aF G K (L) w'):=by
 refine aN func115 rfl (by kernel_rfl) (by show (2:Nat)<=20;decide) ?_;unfold aDX at hm
 refine aJ (aG (v:=i64 0) (aM (aJ (aG (v:=i64 1) (aM (aH (aQ [] (fun f w=>∃ b,aGj b=some R/\f 1=i64 b/\aF G K (L) w) aE ?_)))))));obtain ⟨i,c,ho⟩:=aB hm
 exact cD [0] c (fun d e f w=>f 1=i64 d/\f 5=i64 e/\aF G K (L) w) aE aE
theorem aKA {a:(List bI)} {k R:Int} (hm:uX a k=some R) (i:aF G K (L) w) (j:aW K a1 c2 a):
  Calls prog 70 ([zS a1 a.length c2,i64 k]:List Value).toArray w (cL fun v w'=>v=i64 R/\aF G K (L) w'):=by
 refine aN func70 rfl (by kernel_rfl) (by show (2:Nat)<=37;decide) ?_;unfold uX at hm
 refine aJ (aG (v:=i64 0) (aM (aH (aJ (aO (v:=i64 k) (aC (kR rfl rfl) (aG (v:=i64 (wr (k - 1))) (aM (aQ [] (fun f w=>aGk=some R/\aF G K (L) w) aE ?_)))))))));obtain ⟨l,e,ho⟩:=aB hm
 refine bW [0,1] e (fun b f w=>f 5=i64 b/\aF G K (L) w) aE ?_
 ·rintro b g f m hm hr ⟨h,n⟩
  unfold qP at hm
  refine aH (aJ (bR h (aC (aOl rfl rfl) (aM ?_))))
  rcases aI hm with ⟨c,hm⟩|⟨c,hm⟩
  ·exact aS c rfl (aU (aD (aH (bJ (aH (aZ [0,1,5] (fun f w=>∃ d,qO b d=some g/\f 35=zB d/\aF G K (L) w) aE aE))))))
  ·exact aE
theorem aJN {a:(List bI)} {R:Bool} (hm:aEQ a=some R) (i:aF G K (L) w) (j:aW K a1 c2 a):
  Calls prog 31 ([zS a1 a.length c2]:List Value).toArray w (cL fun v w'=>v=zB R/\aF G K (L) w'):=by
 refine aN func31 rfl (by kernel_rfl) (by show (1:Nat)<=50;decide) ?_;unfold aEQ at hm
 refine aJ (aG (v:=zB false) (aM (aH (aJ (aO (v:=zS a1 a.length c2) ?_)))));obtain ⟨n,k,hm⟩:=aB hm
 refine aT (vs:=[zS a1 a.length c2,i64 30,i64 8]) call68 rfl (aFG k i j) ?_
 rintro _ o ⟨rfl,p⟩
 refine aC (uT rfl) (aM ?_)
 rcases aI hm with ⟨d,hm⟩|⟨d,hm⟩
 ·exact aE
 ·refine aP d rfl (aU (aD (aH (aJ (aG (v:=i64 0) (aM (aQ [] (fun f w=>aIq=some R/\aF G K (L) w) aE ?_)))))));obtain ⟨q,l,ho⟩:=aB hm
  refine bW [0] l (fun b f w=>f 3=i64 b/\aF G K (L) w) aE ?_
  ·rintro b c f r hm hr ⟨m,t⟩
   unfold aCg at hm
   refine aH (aJ (bR m (aO (v:=zS a1 a.length c2) (aC (aX (len:=a.length) sB rfl) (aC (eC rfl rfl) (aM ?_))))))
   rcases aI hm with ⟨e,hm⟩|⟨e,hm⟩
   ·refine aS e rfl (aU (aD (aH (bJ (gI [0,3] (fun f w=>aCf a b=some c/\aF G K (L) w) ?_ ?_)))))
    ·rintro f u ⟨hm,x⟩
     unfold aCf at hm
     exact aH (aZ [0,3] (fun f w=>∃ g,aEO b g=some c/\f 49=zB g/\aF G K (L) w) aE aE)
    exact aH (aZ [0,3] (fun f w=>∃ h,aEP a b h=some c/\f 24=zB h/\aF G K (L) w) aE aE)
   ·exact aE
end Gv
