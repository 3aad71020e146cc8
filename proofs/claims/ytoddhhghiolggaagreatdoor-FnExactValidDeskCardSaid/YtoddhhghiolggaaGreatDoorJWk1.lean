/- Walks, printed by program. -/
import Derived.Test.YtoddhhghiolggaaGreatDoorJWk0
set_option linter.all false
namespace Gv
open Gv.Hp renaming le_refl→zR
open Go.Value renaming slice→zS,bool→zB,agg→zA,tuple→zT
open Go Go.Proofs Go.Proofs.Tryz
set_option maxRecDepth 20000
set_option maxHeartbeats 40000000
variable {G:kE} {K:Hp} {L:List eT} {w:World} {a1 a4 a7 a10 a13 a16 a19 a22:Option Addr} {c2 c5 c8 c11 c14 c17 c20 c23:Nat}
theorem aId {a:(List aN)} {R:((List Int) × Bool)} (hm:sH a=some R) (k:aG G K (L) w) (n:G.lo=0) (o:aY K a1 c2 a):
  Calls prog 144 ([zS a1 a.length c2]:List Value).toArray w (cK fun v w'=>∃ c d,v=zT #[zS c R.1.length d,zB R.2]/\aG G K (aT 2 K c d R.1::L) w'):=by
 refine aM func144 rfl (by kernel_rfl) (by show (1:Nat)<=28;decide) ?_;unfold sH at hm
 refine aK (aH (v:=zS none 0 0) (aH (v:=zB false) (aL (aK (aH (v:=zS none 0 0) (aL (aI (aK (aO (v:=zS a1 a.length c2) (aC (aV (len:=a.length) cX rfl) (aO (v:=i64 0) (aL (aQ [] (fun f w=>∃ b e g,aDF b=some R/\f 4=zS e b.length g/\aG G K (aT 2 K e g b::L) w) aE ?_)))))))))))))
 have p:=aG.nil (α:=Int) k 2 K
 obtain ⟨q,l,ho⟩:=aB hm
 exact cG [9,10] l (fun h m f w=>∃ i j,f 4=zS i h.length j/\f 11=i64 m/\aG G K (aT 2 K i j h::L) w) aE aE
theorem aNB {c:(List Int)} {sep R:aN} (hm:aBI c sep=some R) (J:aG G K (L) w) (hG:G.lo=0) (o:aY K a1 c2 c):
  Calls prog 117 ([zS a1 c.length c2,str sep]:List Value).toArray w (cK fun v w'=>v=str R/\aG G K (L) w'):=by
 refine aM func117 rfl (by kernel_rfl) (by show (2:Nat)<=27;decide) ?_;unfold aBI at hm
 refine aK (aH (v:=str ([]:aN)) (aL (aK (aO (v:=zS a1 c.length c2) (aC (aV (len:=c.length) fI rfl) ?_)))));obtain ⟨a,V,hm⟩:=aB hm
 refine aHj (e:=([]:aN)) cX qA rfl rfl J rfl rfl rfl V rfl (fun b Z (b1:aG G K (aT 9 K b a.length a::L) Z)=>(aH (v:=zS b a.length a.length) (aL (aI (aK (aO (v:=zS a1 c.length c2) (aC (aV (len:=c.length) fI rfl) (aO (v:=i64 0) (aL (aQ [1] (fun f w=>∃ j,aFF sep j=some R/\f 5=zS b j.length a.length/\aG G K (aT 9 K b a.length j::L) w) aE ?_))))))))));obtain ⟨b2,a0,ho⟩:=aB hm
 refine cG [1,11,12] a0 (fun k d f w=>f 5=zS b k.length a.length/\f 13=i64 d/\aG G K (aT 9 K b a.length k::L) w) aE ?_
 ·rintro k d b3 f b4 hm hr ⟨p,g,q⟩
  unfold aAc at hm
  refine aK (aC (dR g rfl) (aL (aI ?_)))
  rcases aJ hm with ⟨r,hm⟩|⟨r,hm⟩
  ·refine aS r rfl (aU (aF (aI (bK (aK (bO g ?_))))));obtain ⟨l,u,hm⟩:=aB hm
   refine aC (cL fI rfl o rfl rfl g u) ?_;obtain ⟨b5,a2,a3⟩:=aY.el (sz:=1) rfl o u
   cases a3
   refine aC (cC (t:=0) iK q a2 rfl rfl) (aH (v:=i64 d) (aH (v:=i64 l) (aL (bQ (bO p (aO (v:=i64 d) (aO (v:=i64 l) ?_)))))));obtain ⟨x,a4,hm⟩:=aB hm
   refine aW (vs:=[i64 l]) call106 rfl (uV q a4) ?_
   rintro _ b6 ⟨rfl,y⟩
   obtain ⟨b7,m,hm⟩:=aB hm
   have a5:=eE y (i:=0) rfl m
   refine aC (iP cX rfl a5 rfl rfl rfl m) ?_;obtain ⟨a7,z,hm⟩:=aB hm
   exact aDj (i:=0) (t:=0) (ns:=[str x]) (e':=(x:aN)) sizeOf9 y rfl (Hp.le_refl _) rfl rfl rfl m z rfl rfl (kI rfl) rfl (fun cs h=>by cases h;rfl) (fun a8 (a9:aG G K (aT 9 K b a.length a7::L) a8)=>(bY (eV (aF (bQ (aC (oD g rfl) (aO (v:=i64 (wr (d+1))) (aL ⟨_,(Option.some.inj hm).symm,gH,(Eq.trans p (congrArg (fun n=>zS b n a.length) (uC z))),rfl,a9⟩))))))))
  ·exact aE
theorem aMn {c:UInt8} {R:Bool} (hm:aGv c=some R) (b:aG G K (L) w):
  Calls prog 40 ([Value.int .u8 (c.toNat:Int)]:List Value).toArray w (cK fun v w'=>v=zB R/\aG G K (L) w'):=by
 refine aM func40 rfl (by kernel_rfl) (by show (1:Nat)<=9;decide) ?_;unfold aGv at hm
 exact aK (aH (v:=zB false) (aL (aI (aZ [] (fun f w=>∃ a,aEv a=some R/\f 2=zB a/\aG G K (L) w) aE aE))))
theorem aDv {a:aN} {R:Bool} (hm:aBJ a=some R) (k:aG G K (L) w):
  Calls prog 17 ([str a]:List Value).toArray w (cK fun v w'=>v=zB R/\aG G K (L) w'):=by
 refine aM func17 rfl (by kernel_rfl) (by show (1:Nat)<=42;decide) ?_;unfold aBJ at hm
 refine aK (aH (v:=zB false) (aL (aI (aK (aO (v:=str a) (aC (sF runUnderlying9 rfl) (aO (v:=i64 0) (aL (aQ [0] (fun f w=>aCJ a=some R/\aG G K (L) w) ?_ ?_)))))))))
 ·rintro f l ⟨hm,m⟩
  unfold aCJ at hm
  exact aF (aI (aZ [] (fun f w=>∃ d,aFG d=some R/\f 2=zB d/\aG G K (L) w) aE aE))
 obtain ⟨n,j,ho⟩:=aB hm
 refine bP [0,6] j (fun b f w=>f 7=i64 b/\aG G K (L) w) aE ?_
 ·rintro b e f o hm hr ⟨g,p⟩
  unfold uN at hm
  refine aK (aC (dR g rfl) (aL (aI ?_)))
  rcases aJ hm with ⟨h,hm⟩|⟨h,hm⟩
  ·refine aS h rfl (aU (aF (aI (bK (aK (bO g (aH (v:=i64 b) (aL (aI (aZ [0,3,6,7] (fun f w=>∃ c,nE a b c=some e/\f 4=zB c/\aG G K (L) w) ?_ ?_))))))))))
   ·rintro f q ⟨c,hm,r,t⟩
    unfold nE at hm
    exact aF (aI (aZ [0,6,7] (fun f w=>∃ i,aAd b i=some e/\f 32=zB i/\aG G K (L) w) aE aE))
   exact aE
  ·exact aE
theorem aLi {a:aN} {R:Bool} (hm:kW a=some R) (c:aG G K (L) w):
  Calls prog 150 ([str a]:List Value).toArray w (cK fun v w'=>v=zB R/\aG G K (L) w'):=by
 refine aM func150 rfl (by kernel_rfl) (by show (1:Nat)<=9;decide) ?_;unfold kW at hm
 exact aK (aH (v:=zB false) (aL (aI (aZ [] (fun f w=>∃ b,yQ b=some R/\f 2=zB b/\aG G K (L) w) aE aE))))
theorem aHw {n low a:Int} {R:Bool} (hm:fR n low a=some R) (c:aG G K (L) w):
  Calls prog 48 ([i64 n,i64 low,i64 a]:List Value).toArray w (cK fun v w'=>v=zB R/\aG G K (L) w'):=by
 refine aM func48 rfl (by kernel_rfl) (by show (3:Nat)<=15;decide) ?_;unfold fR at hm
 exact aK (aH (v:=zB false) (aL (aI (aZ [] (fun f w=>∃ b,aFH b=some R/\f 6=zB b/\aG G K (L) w) aE aE))))
theorem aMo {n:Int} {R:Bool} (hm:aBp n=some R) (a:aG G K (L) w):
  Calls prog 193 ([i64 n]:List Value).toArray w (cK fun v w'=>v=zB R/\aG G K (L) w'):=by
 exact aE
theorem aAJ {n:Int} {R:Bool} (hm:aBK n=some R) (a:aG G K (L) w):
  Calls prog 192 ([i64 n]:List Value).toArray w (cK fun v w'=>v=zB R/\aG G K (L) w'):=by
 exact aE
theorem rC {a:(List Int)} {R:Int} (hm:fL a=some R) (n:aG G K (L) w) (c:aY K a1 c2 a):
  Calls prog 231 ([zS a1 a.length c2,Value.func (.func 192) #[] #[]]:List Value).toArray w (cK fun v w'=>v=i64 R/\aG G K (L) w'):=by
 refine aM func231 rfl (by kernel_rfl) (by show (2:Nat)<=19;decide) ?_;unfold fL at hm
 refine aK (aH (v:=i64 0) (aL (aI (aK (aO (v:=zS a1 a.length c2) (aC (aV (len:=a.length) fI rfl) (aO (v:=i64 0) (aL (aQ [] (fun f w=>jZ=some R/\aG G K (L) w) aE ?_)))))))));obtain ⟨o,j,ho⟩:=aB hm
 refine bP [0,1,7] j (fun b f w=>f 8=i64 b/\aG G K (L) w) aE ?_
 ·rintro b p f q hm hr ⟨d,e⟩
  unfold eB at hm
  refine aK (aC (dR d rfl) (aL (aI ?_)))
  rcases aJ hm with ⟨g,hm⟩|⟨g,hm⟩
  ·refine aS g rfl (aU (aF (aI (bK (aK (bO d (aH (v:=i64 b) (aL (aK (aO (v:=Value.func (.func 192) #[] #[]) (aO (v:=zS a1 a.length c2) (aO (v:=i64 b) ?_))))))))))));obtain ⟨h,i,hm⟩:=aB hm
   refine aC (cL fI rfl c rfl rfl rfl i) ?_;obtain ⟨r,k,l⟩:=aY.el (sz:=1) rfl c i
   cases l
   refine aC (cC (t:=0) iK e k rfl rfl) ?_;obtain ⟨u,m,hm⟩:=aB hm
   exact eI (vs:=[i64 h]) (caps:=[]) (us:=[i64 h]) rfl call192 rfl rfl (aAJ m e) aE
  ·exact aE
theorem oO {a:(List Int)} {R:Bool} (hm:gF a=some R) (b:aG G K (L) w) (c:aY K a1 c2 a):
  Calls prog 191 ([zS a1 a.length c2,Value.func (.func 192) #[] #[]]:List Value).toArray w (cK fun v w'=>v=zB R/\aG G K (L) w'):=by
 exact aE
theorem aKh {a:(List Int)} {R:Bool} (hm:aAe a=some R) (b:aG G K (L) w) (c:aY K a1 c2 a):
  Calls prog 157 ([zS a1 a.length c2]:List Value).toArray w (cK fun v w'=>v=zB R/\aG G K (L) w'):=by
 exact aE
theorem aFZ {a:aN} {b:(List Int)} {R:(aN × Bool)} (hm:aDG a b=some R) (e:aG G K (L) w) (g:G.lo=0) (h:aY K a1 c2 b):
  Calls prog 147 ([str a,zS a1 b.length c2]:List Value).toArray w (cK fun v w'=>v=zT #[str R.1,zB R.2]/\aG G K (L) w'):=by
 refine aM func147 rfl (by kernel_rfl) (by show (2:Nat)<=37;decide) ?_;unfold aDG at hm
 refine aK (aH (v:=str ([]:aN)) (aH (v:=zB false) (aL (aI (bK (aK (aO (v:=str a) (aC (R_eqlS rfl rfl) (aH (v:=zB (a == ([116,97,117]:aN))) (aL ?_))))))))))
 rcases aJ hm with ⟨c,hm⟩|⟨c,hm⟩
 ·exact aE
 ·exact aP c rfl (aI (aZ [0,1] (fun f w=>∃ d,vL a b d=some R/\f 12=zB d/\aG G K (L) w) aE aE))
theorem rR {a b:aN} {R:Bool} (hm:dV a b=some R) (d:aG G K (L) w):
  Calls prog 219 ([str a,str b]:List Value).toArray w (cK fun v w'=>v=zB R/\aG G K (L) w'):=by
 refine aM func219 rfl (by kernel_rfl) (by show (2:Nat)<=21;decide) ?_;unfold dV at hm
 exact aK (aH (v:=zB false) (aL (aI (aZ [] (fun f w=>∃ c,eF c=some R/\f 4=zB c/\aG G K (L) w) aE aE))))
theorem rD {a b R:aN} (hm:gW a b=some R) (c:aG G K (L) w):
  Calls prog 181 ([str a,str b]:List Value).toArray w (cK fun v w'=>v=str R/\aG G K (L) w'):=by
 exact aE
theorem aCD {a b R:aN} (hm:lN a b=some R) (c:aG G K (L) w):
  Calls prog 146 ([str a,str b]:List Value).toArray w (cK fun v w'=>v=str R/\aG G K (L) w'):=by
 exact aE
theorem aKi {c:aN} {R:(aN × (List Int) × Bool)} (hm:aCK c=some R) (k:aG G K (L) w) (l:G.lo=0):
  Calls prog 94 ([str c]:List Value).toArray w (cK fun v w'=>∃ h i,v=zT #[str R.1,zS h R.2.1.length i,zB R.2.2]/\aG G K (aT 2 K h i R.2.1::L) w'):=by
 refine aM func94 rfl (by kernel_rfl) (by show (1:Nat)<=43;decide) ?_;unfold aCK at hm
 refine aK (aH (v:=str ([]:aN)) (aH (v:=zS none 0 0) (aH (v:=zB false) (aL (aK (aO (v:=str c) ?_))))));obtain ⟨a,m,hm⟩:=aB hm
 refine aW (vs:=[str c,str ([40]:aN)]) call143 rfl (lib_Cut k m) ?_
 rintro _ x ⟨rfl,y⟩
 refine aO (v:=zT #[str a.1,str a.2.1,zB a.2.2]) (aC (iE rfl rfl) (aC (iE rfl rfl) (aC (iE rfl rfl) (aH (v:=str a.1) (aH (v:=str a.2.1) (aH (v:=zB a.2.2) (aL (aK (aH (v:=zS none 0 0) (aL (gY [0,5] (fun f w=>∃ b d e,mM c a b=some R/\f 8=zS d b.length e/\aG G K (aT 2 K d e b::L) w) ?_ ?_)))))))))))
 ·rintro f z ⟨b,d,e,hm,n,o⟩
  unfold mM at hm
  refine aI (aK (aO (v:=str a.1) (bO n ?_)));obtain ⟨J,V,p,q,r⟩:=aG.lendSp o (Hp.le_refl _) .head
  obtain ⟨g,t,hm⟩:=aB hm
  refine aW (vs:=[str a.1,zS d b.length e]) call147 rfl (aFZ t q l p) ?_
  rintro _ Z ⟨rfl,u⟩
  have a0:=r _ _ u
  exact aO (v:=zT #[str g.1,zB g.2]) (aC (iE rfl rfl) (aC (iE rfl rfl) (aH (v:=str g.1) (aH (v:=zB g.2) (aL (aI (aZ [5,8] (fun f w=>∃ j,qF a b j=some R/\f 40=zB j/\aG G K (aT 2 K d e b::L) w) aE aE)))))))
 exact aE
theorem aMp {a:aN} {R:Bool} (hm:aDH a=some R) (b:aG G K (L) w) (c:G.lo=0):
  Calls prog 50 ([str a]:List Value).toArray w (cK fun v w'=>v=zB R/\aG G K (L) w'):=by
 exact aE
theorem aKj {a:(List aN)} {left R:Int} (hm:nF a left=some R) (h:aG G K (L) w) (i:aY K a1 c2 a):
  Calls prog 65 ([zS a1 a.length c2,i64 left]:List Value).toArray w (cK fun v w'=>v=i64 R/\aG G K (L) w'):=by
 refine aM func65 rfl (by kernel_rfl) (by show (2:Nat)<=28;decide) ?_;unfold nF at hm
 refine aK (aH (v:=i64 0) (aL (aK (aO (v:=i64 left) (aO (v:=zS a1 a.length c2) (aC (aV (len:=a.length) cX rfl) (aC (jI rfl rfl) (aH (v:=i64 (wr (left - (a.length:Int)))) (aL (aI (aK (aO (v:=i64 (wr (left - (a.length:Int)))) (aC (dR rfl rfl) (aL ?_))))))))))))))
 rcases aJ hm with ⟨b,hm⟩|⟨b,hm⟩
 ·exact aE
 ·refine aP b rfl (aU (aF (aI (aK (aH (v:=i64 0) (aL (aQ [] (fun f w=>∃ c,aFI c=some R/\f 1=i64 c/\aG G K (L) w) aE ?_)))))));obtain ⟨j,d,ho⟩:=aB hm
  exact cG [0] d (fun e g f w=>f 1=i64 e/\f 5=i64 g/\aG G K (L) w) aE aE
theorem aMq {a:(List Edge)} {left R:Int} (hm:aGw a left=some R) (b:aG G K (L) w) (c:aY K a1 c2 a):
  Calls prog 66 ([zS a1 a.length c2,i64 left]:List Value).toArray w (cK fun v w'=>v=i64 R/\aG G K (L) w'):=by
 exact aE
theorem aPb {a:hJ} {left R:Int} (hm:aLI a left=some R) (b:aG G K (L) w) (c:aY K a1 c2 a.L) (d:aY K a4 c5 a.E):
  Calls prog 26 ([zA (zCa a a1 c2 a4 c5),i64 left]:List Value).toArray w (cK fun v w'=>v=i64 R/\aG G K (L) w'):=by
 exact aE
theorem aNC {a:bH} {left R:Int} (hm:aIP a left=some R) (b:aG G K (L) w):
  Calls prog 67 ([zA #[i64 a.Kind,i64 a.Variable,str a.B,zB a.Not],i64 left]:List Value).toArray w (cK fun v w'=>v=i64 R/\aG G K (L) w'):=by
 exact aE
theorem aMr {a:(List bH)} {left R:Int} (hm:aGx a left=some R) (h:aG G K (L) w) (i:aY K a1 c2 a):
  Calls prog 27 ([zS a1 a.length c2,i64 left]:List Value).toArray w (cK fun v w'=>v=i64 R/\aG G K (L) w'):=by
 refine aM func27 rfl (by kernel_rfl) (by show (2:Nat)<=27;decide) ?_;unfold aGx at hm
 refine aK (aH (v:=i64 0) (aL (aK (aO (v:=i64 left) (aO (v:=zS a1 a.length c2) (aC (aV (len:=a.length) sl_55 rfl) (aC (jI rfl rfl) (aH (v:=i64 (wr (left - (a.length:Int)))) (aL (aI (aK (aO (v:=i64 (wr (left - (a.length:Int)))) (aC (dR rfl rfl) (aL ?_))))))))))))))
 rcases aJ hm with ⟨b,hm⟩|⟨b,hm⟩
 ·exact aE
 ·refine aP b rfl (aU (aF (aI (aK (aH (v:=i64 0) (aL (aQ [] (fun f w=>∃ c,aIQ c=some R/\f 1=i64 c/\aG G K (L) w) aE ?_)))))));obtain ⟨j,d,ho⟩:=aB hm
  exact cG [0] d (fun e g f w=>f 1=i64 e/\f 5=i64 g/\aG G K (L) w) aE aE
theorem aMs {a:(List aR)} {left R:Int} (hm:aDI a left=some R) (b:aG G K (L) w) (c:aY K a1 c2 a):
  Calls prog 266 ([zS a1 a.length c2,i64 left]:List Value).toArray w (cK fun v w'=>v=i64 R/\aG G K (L) w'):=by
 exact aE
theorem aLj {a:(List (List aR))} {left R:Int} (hm:aEw a left=some R) (h:aG G K (L) w) (i:aY K a1 c2 a):
  Calls prog 237 ([zS a1 a.length c2,i64 left]:List Value).toArray w (cK fun v w'=>v=i64 R/\aG G K (L) w'):=by
 refine aM func237 rfl (by kernel_rfl) (by show (2:Nat)<=27;decide) ?_;unfold aEw at hm
 refine aK (aH (v:=i64 0) (aL (aK (aO (v:=i64 left) (aO (v:=zS a1 a.length c2) (aC (aV (len:=a.length) aLW rfl) (aC (jI rfl rfl) (aH (v:=i64 (wr (left - (a.length:Int)))) (aL (aI (aK (aO (v:=i64 (wr (left - (a.length:Int)))) (aC (dR rfl rfl) (aL ?_))))))))))))))
 rcases aJ hm with ⟨b,hm⟩|⟨b,hm⟩
 ·exact aE
 ·refine aP b rfl (aU (aF (aI (aK (aH (v:=i64 0) (aL (aQ [] (fun f w=>∃ c,aHl c=some R/\f 1=i64 c/\aG G K (L) w) aE ?_)))))));obtain ⟨j,d,ho⟩:=aB hm
  exact cG [0] d (fun e g f w=>f 1=i64 e/\f 5=i64 g/\aG G K (L) w) aE aE
theorem aND {a:bG} {left R:Int} (hm:aFJ a left=some R) (b:aG G K (L) w) (c:aY K a1 c2 a.Arguments):
  Calls prog 204 ([zA #[i64 a.Kind,i64 a.Number,str a.Name,zS a1 a.Arguments.length c2],i64 left]:List Value).toArray w (cK fun v w'=>v=i64 R/\aG G K (L) w'):=by
 exact aE
theorem aMt {a:(List bG)} {left R:Int} (hm:aGy a left=some R) (h:aG G K (L) w) (i:aY K a1 c2 a):
  Calls prog 168 ([zS a1 a.length c2,i64 left]:List Value).toArray w (cK fun v w'=>v=i64 R/\aG G K (L) w'):=by
 refine aM func168 rfl (by kernel_rfl) (by show (2:Nat)<=27;decide) ?_;unfold aGy at hm
 refine aK (aH (v:=i64 0) (aL (aK (aO (v:=i64 left) (aO (v:=zS a1 a.length c2) (aC (aV (len:=a.length) aLX rfl) (aC (jI rfl rfl) (aH (v:=i64 (wr (left - (a.length:Int)))) (aL (aI (aK (aO (v:=i64 (wr (left - (a.length:Int)))) (aC (dR rfl rfl) (aL ?_))))))))))))))
 rcases aJ hm with ⟨b,hm⟩|⟨b,hm⟩
 ·exact aE
 ·refine aP b rfl (aU (aF (aI (aK (aH (v:=i64 0) (aL (aQ [] (fun f w=>∃ c,aIR c=some R/\f 1=i64 c/\aG G K (L) w) aE ?_)))))));obtain ⟨j,d,ho⟩:=aB hm
  exact cG [0] d (fun e g f w=>f 1=i64 e/\f 5=i64 g/\aG G K (L) w) aE aE
theorem aGY {a:Definition} {left R:Int} (hm:qG a left=some R) (b:aG G K (L) w) (c:aY K a1 c2 a.Body):
  Calls prog 124 ([zA #[str a.Name,i64 a.Parameters,zS a1 a.Body.length c2],i64 left]:List Value).toArray w (cK fun v w'=>v=i64 R/\aG G K (L) w'):=by
 exact aE
theorem aGa {a:(List Definition)} {left R:Int} (hm:tQ a left=some R) (h:aG G K (L) w) (i:aY K a1 c2 a):
  Calls prog 68 ([zS a1 a.length c2,i64 left]:List Value).toArray w (cK fun v w'=>v=i64 R/\aG G K (L) w'):=by
 refine aM func68 rfl (by kernel_rfl) (by show (2:Nat)<=27;decide) ?_;unfold tQ at hm
 refine aK (aH (v:=i64 0) (aL (aK (aO (v:=i64 left) (aO (v:=zS a1 a.length c2) (aC (aV (len:=a.length) sl_56 rfl) (aC (jI rfl rfl) (aH (v:=i64 (wr (left - (a.length:Int)))) (aL (aI (aK (aO (v:=i64 (wr (left - (a.length:Int)))) (aC (dR rfl rfl) (aL ?_))))))))))))))
 rcases aJ hm with ⟨b,hm⟩|⟨b,hm⟩
 ·exact aE
 ·refine aP b rfl (aU (aF (aI (aK (aH (v:=i64 0) (aL (aQ [] (fun f w=>∃ c,aBL c=some R/\f 1=i64 c/\aG G K (L) w) aE ?_)))))));obtain ⟨j,d,ho⟩:=aB hm
  exact cG [0] d (fun e g f w=>f 1=i64 e/\f 5=i64 g/\aG G K (L) w) aE aE
theorem aLk {a:(List Int)} {left R:Int} (hm:aHV a left=some R) (b:aG G K (L) w) (c:aY K a1 c2 a):
  Calls prog 169 ([zS a1 a.length c2,i64 left]:List Value).toArray w (cK fun v w'=>v=i64 R/\aG G K (L) w'):=by
 exact aE
theorem aIe {a:aX} {left R:Int} (hm:sI a left=some R) (b:aG G K (L) w) (c:aY K a1 c2 a.Values):
  Calls prog 125 ([zA #[i64 a.Definition,zS a1 a.Values.length c2],i64 left]:List Value).toArray w (cK fun v w'=>v=i64 R/\aG G K (L) w'):=by
 exact aE
theorem aGZ {a:(List aX)} {left R:Int} (hm:vM a left=some R) (h:aG G K (L) w) (i:aY K a1 c2 a):
  Calls prog 69 ([zS a1 a.length c2,i64 left]:List Value).toArray w (cK fun v w'=>v=i64 R/\aG G K (L) w'):=by
 refine aM func69 rfl (by kernel_rfl) (by show (2:Nat)<=27;decide) ?_;unfold vM at hm
 refine aK (aH (v:=i64 0) (aL (aK (aO (v:=i64 left) (aO (v:=zS a1 a.length c2) (aC (aV (len:=a.length) sl_57 rfl) (aC (jI rfl rfl) (aH (v:=i64 (wr (left - (a.length:Int)))) (aL (aI (aK (aO (v:=i64 (wr (left - (a.length:Int)))) (aC (dR rfl rfl) (aL ?_))))))))))))))
 rcases aJ hm with ⟨b,hm⟩|⟨b,hm⟩
 ·exact aE
 ·refine aP b rfl (aU (aF (aI (aK (aH (v:=i64 0) (aL (aQ [] (fun f w=>∃ c,aCL c=some R/\f 1=i64 c/\aG G K (L) w) aE ?_)))))));obtain ⟨j,d,ho⟩:=aB hm
  exact cG [0] d (fun e g f w=>f 1=i64 e/\f 5=i64 g/\aG G K (L) w) aE aE
theorem aKk {a:bB} {left R:Int} (hm:aAf a left=some R) (b:aG G K (L) w):
  Calls prog 126 ([zA #[str a.Left,str a.Right,str a.Result],i64 left]:List Value).toArray w (cK fun v w'=>v=i64 R/\aG G K (L) w'):=by
 exact aE
theorem aJy {a:(List bB)} {left R:Int} (hm:aAR a left=some R) (h:aG G K (L) w) (i:aY K a1 c2 a):
  Calls prog 70 ([zS a1 a.length c2,i64 left]:List Value).toArray w (cK fun v w'=>v=i64 R/\aG G K (L) w'):=by
 refine aM func70 rfl (by kernel_rfl) (by show (2:Nat)<=27;decide) ?_;unfold aAR at hm
 refine aK (aH (v:=i64 0) (aL (aK (aO (v:=i64 left) (aO (v:=zS a1 a.length c2) (aC (aV (len:=a.length) sl_58 rfl) (aC (jI rfl rfl) (aH (v:=i64 (wr (left - (a.length:Int)))) (aL (aI (aK (aO (v:=i64 (wr (left - (a.length:Int)))) (aC (dR rfl rfl) (aL ?_))))))))))))))
 rcases aJ hm with ⟨b,hm⟩|⟨b,hm⟩
 ·exact aE
 ·refine aP b rfl (aU (aF (aI (aK (aH (v:=i64 0) (aL (aQ [] (fun f w=>∃ c,aFf c=some R/\f 1=i64 c/\aG G K (L) w) aE ?_)))))));obtain ⟨j,d,ho⟩:=aB hm
  exact cG [0] d (fun e g f w=>f 1=i64 e/\f 5=i64 g/\aG G K (L) w) aE aE
theorem aLl {a:bL} {left R:Int} (hm:aEx a left=some R) (b:aG G K (L) w) (c:aY K a1 c2 a.Definitions) (d:aY K a4 c5 a.Components) (e:aY K a7 c8 a.Meetings) (g:aY K a10 c11 a.Allowed) (h:aY K a13 c14 a.Hidden):
  Calls prog 28 ([zA #[zS a1 a.Definitions.length c2,zS a4 a.Components.length c5,zS a7 a.Meetings.length c8,zS a10 a.Allowed.length c11,zS a13 a.Hidden.length c14],i64 left]:List Value).toArray w (cK fun v w'=>v=i64 R/\aG G K (L) w'):=by
 exact aE
theorem aNE {a:Kept} {left R:Int} (hm:aFK a left=some R) (b:aG G K (L) w) (c:aY K a1 c2 a.S.L) (d:aY K a4 c5 a.S.E) (e:aY K a7 c8 a.Formula) (g:aY K a10 c11 a.Source.Definitions) (h:aY K a13 c14 a.Source.Components) (i:aY K a16 c17 a.Source.Meetings) (j:aY K a19 c20 a.Source.Allowed) (k:aY K a22 c23 a.Source.Hidden):
  Calls prog 14 ([zA #[str a.Name,i64 a.Kind,i64 a.S.N,i64 a.S.I,zS a1 a.S.L.length c2,zS a4 a.S.E.length c5,zS a7 a.Formula.length c8,zS a10 a.Source.Definitions.length c11,zS a13 a.Source.Components.length c14,zS a16 a.Source.Meetings.length c17,zS a19 a.Source.Allowed.length c20,zS a22 a.Source.Hidden.length c23],i64 left]:List Value).toArray w (cK fun v w'=>v=i64 R/\aG G K (L) w'):=by
 exact aE
theorem aMu {a:(List Kept)} {left R:Int} (hm:aGz a left=some R) (m:aG G K (L) w) (b:aY K a1 c2 a):
  Calls prog 9 ([zS a1 a.length c2,i64 left]:List Value).toArray w (cK fun v w'=>v=i64 R/\aG G K (L) w'):=by
 refine aM func9 rfl (by kernel_rfl) (by show (2:Nat)<=27;decide) ?_;unfold aGz at hm
 refine aK (aH (v:=i64 0) (aL (aK (aO (v:=i64 left) (aO (v:=zS a1 a.length c2) (aC (aV (len:=a.length) aLY rfl) (aC (jI rfl rfl) (aH (v:=i64 (wr (left - (a.length:Int)))) (aL (aI (aK (aO (v:=i64 (wr (left - (a.length:Int)))) (aC (dR rfl rfl) (aL ?_))))))))))))))
 rcases aJ hm with ⟨c,hm⟩|⟨c,hm⟩
 ·exact aE
 ·refine aP c rfl (aU (aF (aI (aK (aH (v:=i64 0) (aL (aQ [] (fun f w=>∃ d,aIS d=some R/\f 1=i64 d/\aG G K (L) w) aE ?_)))))));obtain ⟨n,k,ho⟩:=aB hm
  refine cG [0] k (fun e g f w=>f 1=i64 e/\f 5=i64 g/\aG G K (L) w) aE ?_
  ·rintro e g o f p hm hr ⟨q,h,r⟩
   unfold vN at hm
   refine aI (aK (bO h (aO (v:=zS a1 a.length c2) (aC (aV (len:=a.length) aLY rfl) (aC (dR rfl rfl) (aL ?_))))))
   rcases aJ hm with ⟨i,hm⟩|⟨i,hm⟩
   ·refine aS i rfl (aU (aF (aI (bK (aK (aO (v:=zS a1 a.length c2) (bO h ?_)))))));obtain ⟨t,j,hm⟩:=aB hm
    refine aC (cL aLY rfl b rfl rfl rfl j) ?_;obtain ⟨u,x,l⟩:=aY.el (sz:=12) rfl b j
    obtain ⟨y,z,J,V,Z,a0,a2,a3,a4,a5,a6,a7,a8,a9,b0,b1,rfl,b2,b3,b4,b5,b6,b7,b8,b9⟩:=l
    exact aE
   ·exact aE
theorem aHx {a:vI} {left R:Int} (hm:aIT a left=some R) (b:aG G K (L) w) (c:aY K a1 c2 a.Kept):
  Calls prog 4 ([zA #[zS a1 a.Kept.length c2],i64 left]:List Value).toArray w (cK fun v w'=>v=i64 R/\aG G K (L) w'):=by
 exact aE
theorem aLm {c:UInt8} {R:Bool} (hm:aBM c=some R) (b:aG G K (L) w):
  Calls prog 71 ([Value.int .u8 (c.toNat:Int)]:List Value).toArray w (cK fun v w'=>v=zB R/\aG G K (L) w'):=by
 refine aM func71 rfl (by kernel_rfl) (by show (1:Nat)<=9;decide) ?_;unfold aBM at hm
 exact aK (aH (v:=zB false) (aL (aI (aZ [] (fun f w=>∃ a,aDn a=some R/\f 2=zB a/\aG G K (L) w) aE aE))))
theorem aFl {c:UInt8} {R:Bool} (hm:aBN c=some R) (b:aG G K (L) w):
  Calls prog 72 ([Value.int .u8 (c.toNat:Int)]:List Value).toArray w (cK fun v w'=>v=zB R/\aG G K (L) w'):=by
 refine aM func72 rfl (by kernel_rfl) (by show (1:Nat)<=9;decide) ?_;unfold aBN at hm
 exact aK (aH (v:=zB false) (aL (aI (aZ [] (fun f w=>∃ a,aDo a=some R/\f 2=zB a/\aG G K (L) w) aE aE))))
end Gv
namespace Gv
open Gv.Hp renaming le_refl→zR
open Go.Value renaming slice→zS,bool→zB
open Go Go.Proofs Go.Proofs.Tryz
set_option maxRecDepth 20000
set_option maxHeartbeats 40000000
variable {G:kE} {K:Hp} {L:List eT} {w:World} {a1 a4 a7 a10 a13 a16:Option Addr} {c2 c5 c8 c11 c14 c17:Nat}
theorem aGb {a:aN} {R:Bool} (hm:rJ a=some R) (l:aG G K (L) w):
  Calls prog 29 ([str a]:List Value).toArray w (cK fun v w'=>v=zB R/\aG G K (L) w'):=by
 refine aM func29 rfl (by kernel_rfl) (by show (1:Nat)<=35;decide) ?_;unfold rJ at hm
 refine aK (aH (v:=zB false) (aL (aI (aI (aZ [0] (fun f w=>∃ b,nN a b=some R/\f 16=zB b/\aG G K (L) w) ?_ ?_)))))
 ·rintro f m ⟨b,hm,h,n⟩
  unfold nN at hm
  refine aF ?_
  rcases aJ hm with ⟨d,hm⟩|⟨d,hm⟩
  ·exact aE
  ·refine aP d h (aU (aF (aI (aK (aH (v:=i64 0) (aL (aQ [] (fun f w=>aEy=some R/\aG G K (L) w) aE ?_)))))));obtain ⟨o,i,ho⟩:=aB hm
   refine bP [0] i (fun c f w=>f 3=i64 c/\aG G K (L) w) aE ?_
   ·rintro c j f p hm hr ⟨k,q⟩
    unfold vO at hm
    refine aI (aK (bO k (aO (v:=str a) (aC (sF runUnderlying9 rfl) (aC (dR rfl rfl) (aL ?_))))))
    rcases aJ hm with ⟨e,hm⟩|⟨e,hm⟩
    ·exact aS e rfl (aU (aF (aI (bK (aI (aZ [0,3] (fun f w=>∃ g,aAS c g=some j/\f 34=zB g/\aG G K (L) w) aE aE))))))
    ·exact aE
 exact aE
theorem aJz {n low a:Int} {R:Bool} (hm:jC n low a=some R) (c:aG G K (L) w):
  Calls prog 73 ([i64 n,i64 low,i64 a]:List Value).toArray w (cK fun v w'=>v=zB R/\aG G K (L) w'):=by
 refine aM func73 rfl (by kernel_rfl) (by show (3:Nat)<=15;decide) ?_;unfold jC at hm
 exact aK (aH (v:=zB false) (aL (aI (aZ [] (fun f w=>∃ b,aHW b=some R/\f 6=zB b/\aG G K (L) w) aE aE))))
theorem aKl {a:aN} {R:Bool} (hm:kO a=some R) (c:aG G K (L) w):
  Calls prog 171 ([str a]:List Value).toArray w (cK fun v w'=>v=zB R/\aG G K (L) w'):=by
 refine aM func171 rfl (by kernel_rfl) (by show (1:Nat)<=9;decide) ?_;unfold kO at hm
 exact aK (aH (v:=zB false) (aL (aI (aZ [] (fun f w=>∃ b,vP b=some R/\f 2=zB b/\aG G K (L) w) aE aE))))
theorem aGc {a:aN} {R:Int} (hm:aDJ a=some R) (d:aG G K (L) w):
  Calls prog 205 ([str a]:List Value).toArray w (cK fun v w'=>v=i64 R/\aG G K (L) w'):=by
 refine aM func205 rfl (by kernel_rfl) (by show (1:Nat)<=17;decide) ?_;unfold aDJ at hm
 refine aK (aH (v:=i64 0) (aL (aI (aK (aH (v:=i64 0) (aL (aQ [0] (fun f w=>aIU a=some R/\aG G K (L) w) aE ?_)))))));obtain ⟨e,b,ho⟩:=aB hm
 exact bP [0] b (fun c f w=>f 3=i64 c/\aG G K (L) w) aE aE
theorem aFm {a:aN} {by_:UInt8} {R:(List aN)} (hm:aBO a by_=some R) (x:aG G K (L) w):
  Calls prog 206 ([str a,Value.int .u8 (by_.toNat:Int)]:List Value).toArray w (cK fun v w'=>∃ l m,v=zS l R.length m/\aG G K (aT 9 K l m R::L) w'):=by
 refine aM func206 rfl (by kernel_rfl) (by show (2:Nat)<=35;decide) ?_;unfold aBO at hm
 refine aK (aH (v:=zS none 0 0) (aL (aK (dK (Kt:=K) (xs:=([]:List aN)) (cs:=[]) (vs:=[]) cX qA rfl rfl x rfl (by kernel_rfl) rfl rfl rfl trivial (fun n y (a2:aG G K (aT 9 K n 0 ([]:List aN)::L) y)=>(aH (v:=zS n ([]:List aN).length 0) (aL (aK (aH (v:=i64 0) (aL (aI (aK (aH (v:=i64 0) (aL (aQ [0] (fun f w=>∃ g o p q,aDp a g o=some R/\f 5=zS p g.length q/\f 6=i64 o/\aG G K (aT 9 K p q g::L) w) aE ?_)))))))))))))))
 obtain ⟨a3,z,ho⟩:=aB hm
 refine aBy [0,1] z (fun h r b f w=>∃ i j,f 5=zS i h.length j/\f 6=i64 r/\f 7=i64 b/\aG G K (aT 9 K i j h::L) w) aE ?_
 ·rintro h r b J f a4 hm hr ⟨i,j,a6,a7,t,a8⟩
  unfold yS at hm
  refine aI (aK (bO t (aO (v:=str a) (aC (sF runUnderlying9 rfl) (aC (dR rfl rfl) (aL ?_))))))
  rcases aJ hm with ⟨u,hm⟩|⟨u,hm⟩
  ·refine aS u rfl (aU (aF (aI (aQ [0,1,7] (fun f w=>∃ c k d e,oS b c k=some J/\f 5=zS d c.length e/\f 6=i64 k/\aG G K (aT 9 K d e c::L) w) ?_ ?_))))
   ·rintro f a9 ⟨c,k,d,e,hm,V,Z,a0⟩
    unfold oS at hm
    exact aF (bQ (bO t (aC (oD rfl rfl) (aH (v:=i64 (wr (b+1))) (aL ⟨_,(Option.some.inj hm).symm,gH,d,e,V,Z,rfl,a0⟩)))))
   exact aE
  ·exact aE
theorem aDX {c:aN} {R:(Int × Bool)} (hm:uO c=some R) (z:aG G K (L) w):
  Calls prog 207 ([str c]:List Value).toArray w (cK fun v w'=>v=Value.tuple #[i64 R.1,zB R.2]/\aG G K (L) w'):=by
 refine aM func207 rfl (by kernel_rfl) (by show (1:Nat)<=62;decide) ?_;unfold uO at hm
 refine aK (aH (v:=i64 0) (aH (v:=zB false) (aL (aK (aH (v:=i64 0) (aL (gY [0] (fun f w=>∃ d,mP c d=some R/\f 4=i64 d/\aG G K (L) w) ?_ ?_)))))))
 ·rintro f J ⟨d,hm,p,V⟩
  unfold mP at hm
  refine aI (aI (aZ [0,4] (fun f w=>∃ g,jJ c d g=some R/\f 36=zB g/\aG G K (L) w) ?_ ?_))
  ·rintro f Z ⟨g,hm,q,a0⟩
   unfold jJ at hm
   refine aF ?_
   rcases aJ hm with ⟨j,hm⟩|⟨j,hm⟩
   ·exact aE
   ·refine aP j q (aU (aF (aK (aH (v:=i64 0) (aL (aI (aK (bO p (aH (v:=i64 d) (aL (aQ [4] (fun f w=>∃ h,vQ d h=some R/\f 5=i64 h/\aG G K (L) w) ?_ ?_)))))))))))
    ·rintro f a1 ⟨h,hm,a2,a3⟩
     unfold vQ at hm
     exact aF (gY [] (fun f w=>∃ k,aBP k=some R/\f 5=i64 k/\aG G K (L) w) aE aE)
    obtain ⟨a4,r,ho⟩:=aB hm
    refine cG [0,4] r (fun i i32 f w=>f 5=i64 i/\f 6=i64 i32/\aG G K (L) w) aE ?_
    ·rintro i i32 a5 f a6 hm hr ⟨t,e,u⟩
     unfold mO at hm
     refine aI (aK (bO e (aO (v:=str c) (aC (sF runUnderlying9 rfl) (aC (dR rfl rfl) (aL ?_))))))
     rcases aJ hm with ⟨l,hm⟩|⟨l,hm⟩
     ·refine aS l rfl (aU (aF (aI (bK (aI (aK (aO (v:=str c) (bO e ?_))))))));obtain ⟨c45,m,hm⟩:=aB hm
      refine aC (R_ixS runUnderlying9 rfl rfl m) ?_;obtain ⟨a7,x,hm⟩:=aB hm
      refine aW (vs:=[Value.int .u8 (c45.toNat:Int)]) call72 rfl (aFl x u) ?_
      rintro _ a8 ⟨rfl,y⟩
      refine aC (vB rfl) (aL ?_)
      rcases aJ hm with ⟨n,hm⟩|⟨n,hm⟩
      ·exact aE
      ·exact aP n rfl (aU (aF (bQ (bO t (aC (R_mul rfl rfl) (aO (v:=str c) (bO e (aC (R_ixS runUnderlying9 rfl rfl m) (aC (aPM (a:=c45) (b:=(48:UInt8)) rfl rfl) (aC (aPJ runUnderlying2 rfl ⟨_,runUnderlying5⟩) (aC (oD rfl rfl) (aH (v:=i64 (wr ((wr (10 * i))+(wr ((c45 - (48:UInt8)).toNat:Int))))) (bY (eV (aF (bQ (bO e (aC (oD rfl rfl) (aH (v:=i64 (wr (i32+1))) (aL ⟨_,(Option.some.inj hm).symm,gH,rfl,rfl,y⟩))))))))))))))))))))
     ·exact aE
  exact aE
 exact aI (aZ [0,4] (fun f w=>∃ o,qH c o=some R/\f 14=zB o/\aG G K (L) w) aE aE)
theorem aKm {a:aN} {R:((List Int) × Bool)} (hm:aCM a=some R) (hs:aG G K (L) w):
  Calls prog 170 ([str a]:List Value).toArray w (cK fun v w'=>∃ q r,v=Value.tuple #[zS q R.1.length r,zB R.2]/\aG G K (aT 2 K q r R.1::L) w'):=by
 refine aM func170 rfl (by kernel_rfl) (by show (1:Nat)<=70;decide) ?_;unfold aCM at hm
 refine aK (aH (v:=zS none 0 0) (aH (v:=zB false) (aL (aK (aO (v:=str a) ?_)))));obtain ⟨h,q2,hm⟩:=aB hm
 refine aW (vs:=[str a]) call205 rfl (aGc q2 hs) ?_
 rintro _ w3 ⟨rfl,b6⟩
 refine aH (v:=i64 h) (aL (aI (aK (aO (v:=i64 h) (aO (v:=str a) (aC (sF runUnderlying9 rfl) (aC (dS rfl rfl) (aL ?_))))))))
 rcases aJ hm with ⟨u,hm⟩|⟨u,hm⟩
 ·exact aE
 ·refine aP u rfl (aU (aF (aI (aI (aZ [0,4] (fun f w=>∃ l,mQ a h l=some R/\f 31=zB l/\aG G K (L) w) ?_ ?_)))))
  ·rintro f b7 ⟨l,hm,a3,a4⟩
   unfold mQ at hm
   refine aF ?_
   rcases aJ hm with ⟨x,hm⟩|⟨x,hm⟩
   ·exact aE
   ·refine aP x a3 (aU (aF (aK (aO (v:=str a) (aO (v:=i64 h) (aC (oD rfl rfl) (aO (v:=str a) (aC (sF runUnderlying9 rfl) (aC (jI rfl rfl) ?_)))))))));obtain ⟨a5,a6,hm⟩:=aB hm
    refine aC (R_slSLH runUnderlying9 rfl rfl rfl a6) ?_;obtain ⟨b,a7,hm⟩:=aB hm
    refine aW (vs:=[str a5,Value.int .u8 44]) call206 rfl (aFm (by_:=(44:UInt8)) a7 a4) ?_
    rintro _ b8 ⟨c,d,rfl,a8⟩
    refine aH (v:=zS c b.length d) (aL (aK (dK (Kt:=K) (xs:=([]:List Int)) (cs:=[]) (vs:=[]) fI aAa rfl rfl a8 rfl (by kernel_rfl) rfl rfl rfl trivial (fun y a9 (b9:aG G K (aT 2 K y 0 ([]:List Int)::aT 9 K c d b::L) a9)=>(aH (v:=zS y ([]:List Int).length 0) (aL (aI (aK (aH (v:=i64 0) (aL (aQ [] (fun f w=>∃ m z J,aBQ m=some R/\f 6=zS z m.length J/\aG G K (aT 2 K z J m::L) w) aE ?_)))))))))));obtain ⟨c0,b0,ho⟩:=aB hm
    refine cG [5] b0 (fun e n f w=>∃ j k,f 6=zS j e.length k/\f 7=i64 n/\aG G K (aT 2 K j k e::aT 9 K c d b::L) w) aE ?_
    ·rintro e n b1 f c1 hm hr ⟨j,k,c2,V,o⟩
     unfold qI at hm
     refine aI (aK (bO V (aO (v:=zS c b.length d) (aC (aV (len:=b.length) cX rfl) (aC (dR rfl rfl) (aL ?_))))))
     rcases aJ hm with ⟨Z,hm⟩|⟨Z,hm⟩
     ·refine aS Z rfl (aU (aF (aI (bK (aK (aO (v:=zS c b.length d) (bO V ?_)))))));obtain ⟨b2,p,hm⟩:=aB hm
      have b3:=eE o (i:=1) rfl p
      refine aC (iP cX rfl b3 rfl rfl rfl p) (aC (oG (t:=0) nK o (i:=1) rfl p rfl rfl rfl) ?_);obtain ⟨g,b4,hm⟩:=aB hm
      refine aW (vs:=[str b2]) call207 rfl (aDX b4 o) ?_
      rintro _ c3 ⟨rfl,c4⟩
      exact aO (v:=Value.tuple #[i64 g.1,zB g.2]) (aC (iE rfl rfl) (aC (iE rfl rfl) (aH (v:=i64 g.1) (aH (v:=zB g.2) (aL (aI (aI (aZ [5,6,7,8] (fun f w=>∃ a0,vR e n g a0=some b1/\f 61=zB a0/\aG G K (aT 2 K j k e::aT 9 K c d b::L) w) aE aE))))))))
     ·exact aE
  exact aE
theorem aLn {a:aN} {R:Bool} (hm:aBR a=some R) (b:aG G K (L) w):
  Calls prog 127 ([str a]:List Value).toArray w (cK fun v w'=>v=zB R/\aG G K (L) w'):=by
 exact aE
theorem aLo {a:(List aN)} {R:Bool} (hm:aBS a=some R) (l:aG G K (L) w) (m:aY K a1 c2 a):
  Calls prog 74 ([zS a1 a.length c2]:List Value).toArray w (cK fun v w'=>v=zB R/\aG G K (L) w'):=by
 refine aM func74 rfl (by kernel_rfl) (by show (1:Nat)<=53;decide) ?_;unfold aBS at hm
 refine aK (aH (v:=zB false) (aL (aI (aI (aZ [0] (fun f w=>∃ b,oU a b=some R/\f 17=zB b/\aG G K (L) w) ?_ ?_)))))
 ·rintro f n ⟨b,hm,h,o⟩
  unfold oU at hm
  refine aF ?_
  rcases aJ hm with ⟨d,hm⟩|⟨d,hm⟩
  ·exact aE
  ·refine aP d h (aU (aF (aI (aK (aH (v:=i64 1) (aL (aQ [] (fun f w=>aHm=some R/\aG G K (L) w) aE ?_)))))));obtain ⟨p,i,ho⟩:=aB hm
   refine bP [0] i (fun c f w=>f 3=i64 c/\aG G K (L) w) aE ?_
   ·rintro c j f q hm hr ⟨k,r⟩
    unfold sJ at hm
    refine aI (aK (bO k (aO (v:=zS a1 a.length c2) (aC (aV (len:=a.length) cX rfl) (aC (dR rfl rfl) (aL ?_))))))
    rcases aJ hm with ⟨e,hm⟩|⟨e,hm⟩
    ·exact aS e rfl (aU (aF (aI (bK (aI (aZ [0,3] (fun f w=>∃ g,oT c g=some j/\f 52=zB g/\aG G K (L) w) aE aE))))))
    ·exact aE
 exact aE
theorem aGd {a:Edge} {c:Nat} {b:Edge} {d:Nat} {R:Bool} (hm:aGA a b=some R) (e:aG G K (L) w) (g:eQ K a1 c [i64 a.F,i64 a.B,i64 a.To]) (h:eQ K a4 d [i64 b.F,i64 b.B,i64 b.To]):
  Calls prog 75 ([cH a1 c,cH a4 d]:List Value).toArray w (cK fun v w'=>v=zB R/\aG G K (L) w'):=by
 exact aE
theorem aJA {t:hJ} {d:Nat} {R:Bool} (hm:aIV t=some R) (hs:aG G K (L) w) (b:eQ K a1 d (zC t a4 c5 a7 c8)) (h6:aY K a4 c5 t.L) (h:aY K a7 c8 t.E):
  Calls prog 30 ([cH a1 d]:List Value).toArray w (cK fun v w'=>v=zB R/\aG G K (L) w'):=by
 refine aM func30 rfl (by kernel_rfl) (by show (1:Nat)<=101;decide) ?_;unfold aIV at hm
 refine aK (aH (v:=zB false) (aL (aI (aI (aZ [0] (fun f w=>∃ l,uF t l=some R/\f 39=zB l/\aG G K (L) w) ?_ ?_)))))
 ·rintro f b5 ⟨l,hm,J,b6⟩
  unfold uF at hm
  refine aF ?_
  rcases aJ hm with ⟨o,hm⟩|⟨o,hm⟩
  ·exact aE
  ·refine aP o J (aU (aF (aI (aK (aH (v:=i64 0) (aL (aQ [] (fun f w=>aMg=some R/\aG G K (L) w) aE ?_)))))));obtain ⟨b7,V,ho⟩:=aB hm
   refine bP [0] V (fun e f w=>f 3=i64 e/\aG G K (L) w) aE ?_
   ·rintro e p f b8 hm hr ⟨j,k⟩
    unfold aBT at hm
    refine aI (aK (bO j (aO (v:=cH a1 d) (aC (eD rfl b) (aC (cQ (k':=d+3) aIJ rfl b rfl) (aC (cC (t:=3) sc_38 k b rfl rfl) (aC (aV (len:=t.E.length) aBC rfl) (aC (dR rfl rfl) (aL ?_)))))))))
    rcases aJ hm with ⟨q,hm⟩|⟨q,hm⟩
    ·refine aS q rfl (aU (aF (aI (bK (aK (aO (v:=cH a1 d) (aC (eD rfl b) (aC (cQ (k':=d+3) aIJ rfl b rfl) (aC (cC (t:=3) sc_38 k b rfl rfl) (bO j ?_))))))))));obtain ⟨a,r,hm⟩:=aB hm
     refine aC (cL aBC rfl h rfl rfl rfl r) ?_;obtain ⟨b9,Z,a0⟩:=aY.el (sz:=3) rfl h r
     cases a0
     refine aC (dU (t:=0) (vs:=[i64 a.F,i64 a.B,i64 a.To]) ag_90 k Z rfl rfl rfl) (eA (vs:=[i64 0,i64 0,i64 0]) zeroValue90 k rfl (fun m c0 a2=>(eY (i:=0) (ns:=[i64 a.F,i64 a.B,i64 a.To]) (us:=[i64 a.F,i64 a.B,i64 a.To]) sizeOf90 a2 rfl rfl rfl rfl rfl (kI rfl) rfl rfl (fun a3 (c1:aG G K (box m 90 [i64 a.F,i64 a.B,i64 a.To]::L) a3)=>(aL (aI (aI (aZ [0,3,4] (fun f w=>∃ n,xS t e a n=some p/\f 87=zB n/\aG G K (box m 90 [i64 a.F,i64 a.B,i64 a.To]::L) w) ?_ ?_))))))))
     ·rintro f c2 ⟨n,hm,a5,u⟩
      unfold xS at hm
      refine aF ?_
      rcases aJ hm with ⟨x,hm⟩|⟨x,hm⟩
      ·exact aE
      ·refine aP x a5 (aU (aF (aI (aZ [0,3] (fun f w=>∃ y,aEz e y=some p/\f 100=zB y/\aG G K (L) w) aE (bQ (bO j (aC (aKJ rfl rfl) (aO (v:=zB (decide (0 < e))) ?_))))))))
       rcases aJ hm with ⟨c,hm⟩|⟨c,hm⟩
       ·refine bV c rfl rfl (aO (v:=cH a1 d) (bV c rfl rfl (aC (eD rfl b) (bV c rfl rfl (aC (cQ (k':=d+3) aIJ rfl b rfl) (bV c rfl rfl (aC (cC (t:=3) sc_38 u b rfl rfl) (bV c rfl rfl (bO j (bV c rfl rfl (aC (jI rfl rfl) (bV c rfl rfl ?_))))))))))));obtain ⟨c3,z,hm⟩:=aB hm
        refine aC (cL aBC rfl h rfl rfl rfl z) ?_;obtain ⟨c4,a6,a8⟩:=aY.el (sz:=3) rfl h z
        cases a8
        refine bV c rfl rfl ?_;obtain ⟨c6,a9,b0,b1,c7⟩:=aG.lendBp u .head
        obtain ⟨c9,b2,hm⟩:=aB hm
        exact aW (vs:=[cH a7 ((wr (e - 1)).toNat * 3+0),cH (some ⟨m,0,none⟩) 0]) call75 rfl (aGd b2 b1 (a6.mono a9) b0) aE
       ·exact aE
     exact aE
    ·exact aE
 exact aE
theorem aCo {a:bL} {b:Nat} {R:Bool} (hm:aDK a=some R) (c:aG G K (L) w) (d:eQ K a1 b [zS a4 a.Definitions.length c5,zS a7 a.Components.length c8,zS a10 a.Meetings.length c11,zS a13 a.Allowed.length c14,zS a16 a.Hidden.length c17]) (e:aY K a4 c5 a.Definitions) (g:aY K a7 c8 a.Components) (h:aY K a10 c11 a.Meetings) (i:aY K a13 c14 a.Allowed) (j:aY K a16 c17 a.Hidden):
  Calls prog 31 ([cH a1 b]:List Value).toArray w (cK fun v w'=>v=zB R/\aG G K (L) w'):=by
 exact aE
theorem aAF {a R:Int} (hm:uG a=some R) (g:aG G K (L) w):
  Calls prog 79 ([i64 a]:List Value).toArray w (cK fun v w'=>v=i64 R/\aG G K (L) w'):=by
 refine aM func79 rfl (by kernel_rfl) (by show (1:Nat)<=11;decide) ?_;unfold uG at hm
 refine aK (aH (v:=i64 0) (aL (aI (aK (aO (v:=i64 a) (aL (bK (gY [3] (fun f w=>∃ b,oV a b=some R/\f 4=zB b/\aG G K (L) w) ?_ ?_))))))))
 ·rintro f h ⟨b,hm,e,i⟩
  unfold oV at hm
  rcases aJ hm with ⟨c,hm⟩|⟨c,hm⟩
  ·exact aE
  ·exact aP c e (gY [] (fun f w=>∃ d,yT d=some R/\f 8=zB d/\aG G K (L) w) aE aE)
 exact aE
theorem aDa {a:aN} {R:Bool} (hm:vS a=some R) (g:aG G K (L) w):
  Calls prog 128 ([str a]:List Value).toArray w (cK fun v w'=>v=zB R/\aG G K (L) w'):=by
 refine aM func128 rfl (by kernel_rfl) (by show (1:Nat)<=23;decide) ?_;unfold vS at hm
 refine aK (aH (v:=zB false) (aL (aI (aI (aZ [0] (fun f w=>∃ b,oJ a b=some R/\f 8=zB b/\aG G K (L) w) ?_ ?_)))))
 ·rintro f h ⟨b,hm,e,i⟩
  unfold oJ at hm
  refine aF ?_
  rcases aJ hm with ⟨c,hm⟩|⟨c,hm⟩
  ·exact aE
  ·exact aP c e (aU (aF (aI (aZ [] (fun f w=>∃ d,tS d=some R/\f 2=zB d/\aG G K (L) w) aE aE))))
 exact aE
theorem aFn {c:(List bH)} {z p:Int} {R:Bool} (hm:xT c z p=some R) (hs:aG G K (L) w) (m:aY K a1 c2 c):
  Calls prog 76 ([zS a1 c.length c2,i64 z,i64 p]:List Value).toArray w (cK fun v w'=>v=zB R/\aG G K (L) w'):=by
 refine aM func76 rfl (by kernel_rfl) (by show (3:Nat)<=91;decide) ?_;unfold xT at hm
 refine aK (aH (v:=zB false) (aL (aI (aI (aZ [0,2] (fun f w=>∃ q,oX c p q=some R/\f 18=zB q/\aG G K (L) w) ?_ ?_)))))
 ·rintro f w6 ⟨q,hm,e5,b5⟩
  unfold oX at hm
  refine aF ?_
  rcases aJ hm with ⟨J,hm⟩|⟨J,hm⟩
  ·exact aE
  ·refine aP J e5 (aU (aF (aK (aH (v:=i64 1) (aL (aI (aK (aH (v:=i64 0) (aL (aQ [] (fun f w=>∃ V,aHn V=some R/\f 7=i64 V/\aG G K (L) w) aE ?_))))))))));obtain ⟨b6,a6,ho⟩:=aB hm
   refine cG [0,2] a6 (fun i d f w=>f 7=i64 i/\f 8=i64 d/\aG G K (L) w) aE ?_
   ·rintro i d r f b7 hm hr ⟨a7,n,b8⟩
    unfold sM at hm
    refine aI (aK (bO n (aO (v:=zS a1 c.length c2) (aC (aV (len:=c.length) rX rfl) (aC (dR rfl rfl) (aL ?_))))))
    rcases aJ hm with ⟨Z,hm⟩|⟨Z,hm⟩
    ·refine aS Z rfl (aU (aF (aI (bK (aI (aI (aZ [0,2,7,8] (fun f w=>∃ u,sL c i d u=some r/\f 36=zB u/\aG G K (L) w) ?_ ?_)))))))
     ·rintro f b9 ⟨u,hm,a8,a0⟩
      unfold sL at hm
      refine aF ?_
      rcases aJ hm with ⟨a2,hm⟩|⟨a2,hm⟩
      ·exact aE
      ·refine aP a2 a8 (aU (aF (aK (bO a7 (aO (v:=zS a1 c.length c2) (bO n ?_))))));obtain ⟨e,o,hm⟩:=aB hm
       refine aC (cL rX rfl m rfl rfl rfl o) ?_;obtain ⟨c0,h,a9⟩:=aY.el (sz:=4) rfl m o
       cases a9
       refine aC (cQ (k':=d.toNat * 4+0) aAb rfl h rfl) (aC (cC (t:=0) iK a0 h rfl rfl) ?_);obtain ⟨x,b0,hm⟩:=aB hm
       refine aW (vs:=[i64 e.Kind]) call79 rfl (aAF b0 a0) ?_
       rintro _ c1 ⟨rfl,c3⟩
       refine aC (jI rfl rfl) (aC (oD rfl rfl) (aH (v:=i64 (wr (i+(wr (x - 1))))) (aL (aI (aZ [0,2,7,8] (fun f w=>∃ j,sK i d e x j=some r/\f 9=zB j/\aG G K (L) w) ?_ ?_)))))
       ·rintro f c4 ⟨j,hm,y,k⟩
        unfold sK at hm
        refine aF (aI (aZ [0,2,7,8] (fun f w=>∃ a3,oW i d x a3=some r/\f 88=zB a3/\aG G K (L) w) aE (bQ (bO y (aO (v:=zB j) ?_)))))
        rcases aJ hm with ⟨a,hm⟩|⟨a,hm⟩
        ·refine bV a rfl rfl (aO (v:=zS a1 c.length c2) (bV a rfl rfl (bO n (bV a rfl rfl (aC (cL rX rfl m rfl rfl rfl o) (bV a rfl rfl (aC (cQ (k':=d.toNat * 4+2) aFD rfl h rfl) (bV a rfl rfl (aC (cC (t:=2) nK k h rfl rfl) (bV a rfl rfl ?_))))))))));obtain ⟨a4,b1,hm⟩:=aB hm
         refine aW (vs:=[str e.B]) call128 rfl (aDa b1 k) ?_
         rintro _ c5 ⟨rfl,b2⟩
         refine bV a rfl rfl (aC (vB rfl) (aC (oE (v:=zB (!a4)) a rfl rfl) (aO (v:=zB (!a4)) ?_)))
         rcases aJ hm with ⟨l,hm⟩|⟨l,hm⟩
         ·exact aE
         ·exact kG l rfl rfl (bO y (kG l rfl rfl (aC (vB rfl) (kG l rfl rfl (aO (v:=zB (!j)) (jY (vF a) rfl rfl (jY (vF a) rfl rfl (jY (vF a) rfl rfl (jY (vF a) rfl rfl (jY (vF a) rfl rfl (jY (vF a) rfl rfl (jY (vF a) rfl rfl (aDA (g:=80) rfl rfl (aDA (g:=80) rfl rfl (aDA (g:=80) rfl rfl (aDA (g:=80) rfl rfl (aDA (g:=80) rfl rfl (jY (vF a) rfl rfl (kG l rfl rfl (aC (vC (v:=zB false) (vF a) rfl rfl) (aC (vC (v:=zB false) l rfl rfl) (aL ⟨gH,false,hm,rfl,b2⟩))))))))))))))))))))))
        ·refine jY a rfl rfl (jY a rfl rfl (jY a rfl rfl (jY a rfl rfl (jY a rfl rfl (jY a rfl rfl (jY a rfl rfl (aC (vC (v:=zB false) a rfl rfl) (aO (v:=zB false) (kG (by decide:¬ false=true) rfl rfl (bO y (kG (by decide:¬ false=true) rfl rfl (aC (vB rfl) (kG (by decide:¬ false=true) rfl rfl (aO (v:=zB (!j)) (bV (mI a) rfl rfl (aO (v:=zS a1 c.length c2) (bV (mI a) rfl rfl (bO n (bV (mI a) rfl rfl (aC (cL rX rfl m rfl rfl rfl o) (bV (mI a) rfl rfl (aC (cQ (k':=d.toNat * 4+2) aFD rfl h rfl) (bV (mI a) rfl rfl ?_)))))))))))))))))))))))
         refine aC (cC (t:=2) nK k h rfl rfl) (bV (mI a) rfl rfl (aC (R_neqS rfl rfl) (bV (mI a) rfl rfl (aO (v:=zB (!(e.B == ([]:aN)))) ?_))))
         rcases aJ hm with ⟨b,hm⟩|⟨b,hm⟩
         ·exact aDz b rfl rfl (aDz b rfl rfl (aDz b rfl rfl (aDz b rfl rfl (aDz b rfl rfl (bV (mI a) rfl rfl (aC (oE (v:=zB true) b rfl rfl) (kG (by decide:¬ false=true) rfl rfl (aC (oE (v:=zB true) (mI a) rfl rfl) (aC (vC (v:=zB true) (by decide:¬ false=true) rfl rfl) (aL ⟨gH,true,hm,rfl,k⟩))))))))))
         ·exact kG b rfl rfl (aO (v:=zS a1 c.length c2) (kG b rfl rfl (bO n (kG b rfl rfl (aC (cL rX rfl m rfl rfl rfl o) (kG b rfl rfl (aC (cQ (k':=d.toNat * 4+3) aIK rfl h rfl) (kG b rfl rfl (aC (cC (t:=3) sc_4 k h rfl rfl) (bV (mI a) rfl rfl (aC (vC (v:=zB e.Not) b rfl rfl) (kG (by decide:¬ false=true) rfl rfl (aC (oE (v:=zB e.Not) (mI a) rfl rfl) (aC (vC (v:=zB e.Not) (by decide:¬ false=true) rfl rfl) (aL ⟨gH,e.Not,hm,rfl,k⟩)))))))))))))))
       exact aE
     exact aE
    ·exact aE
 exact aE
theorem aLp {n:bH} {a:Nat} {R:Bool} (hm:xU n=some R) (c:aG G K (L) w) (d:eQ K a1 a [i64 n.Kind,i64 n.Variable,str n.B,zB n.Not]):
  Calls prog 77 ([cH a1 a]:List Value).toArray w (cK fun v w'=>v=zB R/\aG G K (L) w'):=by
 refine aM func77 rfl (by kernel_rfl) (by show (1:Nat)<=15;decide) ?_;unfold xU at hm
 exact aK (aH (v:=zB false) (aL (aI (aZ [] (fun f w=>∃ b,yU b=some R/\f 2=zB b/\aG G K (L) w) aE aE))))
theorem aNF {a:(List bH)} {k R:Int} (hm:aDL a k=some R) (g:aG G K (L) w) (h:aY K a1 c2 a):
  Calls prog 129 ([zS a1 a.length c2,i64 k]:List Value).toArray w (cK fun v w'=>v=i64 R/\aG G K (L) w'):=by
 refine aM func129 rfl (by kernel_rfl) (by show (2:Nat)<=20;decide) ?_;unfold aDL at hm
 refine aK (aH (v:=i64 0) (aL (aK (aH (v:=i64 1) (aL (aI (aQ [] (fun f w=>∃ b,aFL b=some R/\f 1=i64 b/\aG G K (L) w) aE ?_)))))));obtain ⟨i,c,ho⟩:=aB hm
 exact cG [0] c (fun d e f w=>f 1=i64 d/\f 5=i64 e/\aG G K (L) w) aE aE
theorem aKn {a:(List bH)} {k R:Int} (hm:uP a k=some R) (i:aG G K (L) w) (j:aY K a1 c2 a):
  Calls prog 78 ([zS a1 a.length c2,i64 k]:List Value).toArray w (cK fun v w'=>v=i64 R/\aG G K (L) w'):=by
 refine aM func78 rfl (by kernel_rfl) (by show (2:Nat)<=37;decide) ?_;unfold uP at hm
 refine aK (aH (v:=i64 0) (aL (aI (aK (aO (v:=i64 k) (aC (jI rfl rfl) (aH (v:=i64 (wr (k - 1))) (aL (aQ [] (fun f w=>aFM=some R/\aG G K (L) w) aE ?_)))))))));obtain ⟨l,e,ho⟩:=aB hm
 refine bP [0,1] e (fun b f w=>f 5=i64 b/\aG G K (L) w) aE ?_
 ·rintro b g f m hm hr ⟨h,n⟩
  unfold qK at hm
  refine aI (aK (bO h (aC (aNY rfl rfl) (aL ?_))))
  rcases aJ hm with ⟨c,hm⟩|⟨c,hm⟩
  ·exact aS c rfl (aU (aF (aI (bK (aI (aZ [0,1,5] (fun f w=>∃ d,qJ b d=some g/\f 35=zB d/\aG G K (L) w) aE aE))))))
  ·exact aE
end Gv
