/- Walks, printed by program. -/
import Derived.Test.YtingjpdikgpflaaGreatDoorJLW
set_option linter.all false
namespace Gv
open Go.Value renaming slice→zS,bool→zB,tuple→zT
open Option.some renaming inj→zI
open Gv.Hp renaming le_refl→zR
open Go Go.Proofs Go.Proofs.Tryz
set_option maxRecDepth 20000
set_option maxHeartbeats 40000000
variable {G:qN} {K:Hp} {L:List gH} {w:World} {a1 a4 a7 a10:Option Addr} {c2 c5 c8 c11:Nat}
theorem aEi {a:(List aZ)} {R:((List Int) × Bool)} (hm:aAj a=some R) (k:aJ G K (L) w) (n:G.lo=0) (o:cF K a1 c2 a):
  Calls prog 140 ([zS a1 a.length c2]:List Value).toArray w (eH fun v w'=>∃ c d,v=zT #[zS c R.1.length d,zB R.2]/\aJ G K (aN 2 K c d R.1::L) w'):=by
 refine aS func140 rfl (by kernel_rfl) (by show (1:Nat)<=28;decide) ?_;unfold aAj at hm
 refine aK (aD (v:=zS none 0 0) (aD (v:=zB false) (aG (aK (aD (v:=zS none 0 0) (aG (aO (aK (aF (v:=zS a1 a.length c2) (aC (bO (len:=a.length) bX rfl) (aF (v:=i64 0) (aG (aW [] (fun f w=>∃ b e g,nW b=some R/\f 4=zS e b.length g/\aJ G K (aN 2 K e g b::L) w) aHU ?_)))))))))))))
 have p:=aJ.nil (α:=Int) k 2 K
 obtain ⟨q,l,ho⟩:=aB hm
 exact cJ [9,10] l (fun h m f w=>∃ i j,f 4=zS i h.length j/\f 11=i64 m/\aJ G K (aN 2 K i j h::L) w) aHU aHU
theorem aDI {c:(List Int)} {j R:aZ} (hm:aEC c j=some R) (Z:aJ G K (L) w) (hG:G.lo=0) (p:cF K a1 c2 c):
  Calls prog 102 ([zS a1 c.length c2,str j]:List Value).toArray w (eH fun v w'=>v=str R/\aJ G K (L) w'):=by
 refine aS func102 rfl (by kernel_rfl) (by show (2:Nat)<=27;decide) ?_;unfold aEC at hm
 refine aK (aD (v:=str ([]:aZ)) (aG (aK (aF (v:=zS a1 c.length c2) (aC (bO (len:=c.length) cC rfl) ?_)))));obtain ⟨a,q5,hm⟩:=aB hm
 refine aDh (e:=([]:aZ)) bX iA rfl rfl Z rfl rfl rfl q5 rfl (fun b w7 (b3:aJ G K (aN 9 K b a.length a::L) w7)=>(aD (v:=zS b a.length a.length) (aG (aO (aK (aF (v:=zS a1 c.length c2) (aC (bO (len:=c.length) cC rfl) (aF (v:=i64 0) (aG (aW [1] (fun f w=>∃ k,yV j k=some R/\f 5=zS b k.length a.length/\aJ G K (aN 9 K b a.length k::L) w) aHU ?_))))))))));obtain ⟨b4,a3,ho⟩:=aB hm
 refine cJ [1,11,12] a3 (fun l d f w=>f 5=zS b l.length a.length/\f 13=i64 d/\aJ G K (aN 9 K b a.length l::L) w) aHU ?_
 ·rintro l d b5 f b6 hm hr ⟨q,g,r⟩
  unfold aFU at hm
  refine aK (aC (cG g rfl) (aG (aO ?_)))
  rcases aH hm with ⟨u,hm⟩|⟨u,hm⟩
  ·refine aL u rfl (aU (aA (aO (cN (aK (aY g ?_))))));obtain ⟨m,x,hm⟩:=aB hm
   refine aC (cT cC rfl p rfl rfl g x) ?_;obtain ⟨b7,a4,a5⟩:=cF.el (sz:=1) rfl p x
   cases a5
   refine aC (bG (t:=0) cQ r a4 rfl rfl) (aD (v:=i64 d) (aD (v:=i64 m) (aG (aP (aY q (aF (v:=i64 d) (aF (v:=i64 m) ?_)))))));obtain ⟨y,a7,hm⟩:=aB hm
   refine aR (vs:=[i64 m]) call148 rfl (aIM r a7) ?_
   rintro _ b8 ⟨rfl,z⟩
   obtain ⟨b9,o,hm⟩:=aB hm
   have a8:=cX z (i:=0) rfl o
   refine aC (dD bX rfl a8 rfl rfl rfl o) ?_;obtain ⟨a9,V,hm⟩:=aB hm
   exact jL (i:=0) (t:=0) (ns:=[str y]) (e':=(y:aZ)) sizeOf9 z rfl (zR _) rfl rfl rfl o V rfl rfl (cY rfl) rfl (fun cs h=>by cases h;rfl) (fun b0 (b1:aJ G K (aN 9 K b a.length a9::L) b0)=>(bB (aX (aA (aP (aC (cE g rfl) (aF (v:=i64 (wr (d+1))) (aG ⟨_,(zI hm).symm,aM,(Eq.trans q (congrArg (fun n=>zS b n a.length) (iM V))),rfl,b1⟩))))))))
  ·exact aHU
theorem aGX {c:UInt8} {R:Bool} (hm:aFn c=some R) (b:aJ G K (L) w):
  Calls prog 255 ([Value.int .u8 (c.toNat:Int)]:List Value).toArray w (eH fun v w'=>v=zB R/\aJ G K (L) w'):=by
 refine aS func255 rfl (by kernel_rfl) (by show (1:Nat)<=9;decide) ?_;unfold aFn at hm
 exact aK (aD (v:=zB false) (aG (aO (cP [] (fun f w=>∃ a,vT a=some R/\f 2=zB a/\aJ G K (L) w) aHU aHU))))
theorem aHz {a:aZ} {R:Bool} (hm:aGQ a=some R) (k:aJ G K (L) w):
  Calls prog 226 ([str a]:List Value).toArray w (eH fun v w'=>v=zB R/\aJ G K (L) w'):=by
 refine aS func226 rfl (by kernel_rfl) (by show (1:Nat)<=42;decide) ?_;unfold aGQ at hm
 refine aK (aD (v:=zB false) (aG (aO (aK (aF (v:=str a) (aC (gI runUnderlying9 rfl) (aF (v:=i64 0) (aG (aW [0] (fun f w=>yX a=some R/\aJ G K (L) w) ?_ ?_)))))))))
 ·rintro f l ⟨hm,m⟩
  unfold yX at hm
  exact aA (aO (cP [] (fun f w=>∃ d,yW d=some R/\f 2=zB d/\aJ G K (L) w) aHU aHU))
 obtain ⟨n,j,ho⟩:=aB hm
 refine dM [0,6] j (fun b f w=>f 7=i64 b/\aJ G K (L) w) aHU ?_
 ·rintro b e f o hm hr ⟨g,p⟩
  unfold aFV at hm
  refine aK (aC (cG g rfl) (aG (aO ?_)))
  rcases aH hm with ⟨h,hm⟩|⟨h,hm⟩
  ·refine aL h rfl (aU (aA (aO (cN (aK (aY g (aD (v:=i64 b) (aG (aO (cP [0,3,6,7] (fun f w=>∃ c,yY a b c=some e/\f 4=zB c/\aJ G K (L) w) ?_ ?_))))))))))
   ·rintro f q ⟨c,hm,r,t⟩
    unfold yY at hm
    exact aA (aO (cP [0,6,7] (fun f w=>∃ i,vB b i=some e/\f 32=zB i/\aJ G K (L) w) aHU aHU))
   exact aHU
  ·exact aHU
theorem aGj {a:aZ} {R:Bool} (hm:aDU a=some R) (c:aJ G K (L) w):
  Calls prog 177 ([str a]:List Value).toArray w (eH fun v w'=>v=zB R/\aJ G K (L) w'):=by
 refine aS func177 rfl (by kernel_rfl) (by show (1:Nat)<=9;decide) ?_;unfold aDU at hm
 exact aK (aD (v:=zB false) (aG (aO (cP [] (fun f w=>∃ b,tI b=some R/\f 2=zB b/\aJ G K (L) w) aHU aHU))))
theorem mN {n low a:Int} {R:Bool} (hm:vC n low a=some R) (c:aJ G K (L) w):
  Calls prog 47 ([i64 n,i64 low,i64 a]:List Value).toArray w (eH fun v w'=>v=zB R/\aJ G K (L) w'):=by
 refine aS func47 rfl (by kernel_rfl) (by show (3:Nat)<=15;decide) ?_;unfold vC at hm
 exact aK (aD (v:=zB false) (aG (aO (cP [] (fun f w=>∃ b,yZ b=some R/\f 6=zB b/\aJ G K (L) w) aHU aHU))))
theorem aGY {n:Int} {R:Bool} (hm:aFo n=some R) (a:aJ G K (L) w):
  Calls prog 228 ([i64 n]:List Value).toArray w (eH fun v w'=>v=zB R/\aJ G K (L) w'):=by
 exact aHU
theorem aDc {n:Int} {R:Bool} (hm:xS n=some R) (a:aJ G K (L) w):
  Calls prog 227 ([i64 n]:List Value).toArray w (eH fun v w'=>v=zB R/\aJ G K (L) w'):=by
 exact aHU
theorem nS {a:(List Int)} {R:Int} (hm:iB a=some R) (n:aJ G K (L) w) (c:cF K a1 c2 a):
  Calls prog 126 ([zS a1 a.length c2,Value.func (.func 227) #[] #[]]:List Value).toArray w (eH fun v w'=>v=i64 R/\aJ G K (L) w'):=by
 refine aS func126 rfl (by kernel_rfl) (by show (2:Nat)<=19;decide) ?_;unfold iB at hm
 refine aK (aD (v:=i64 0) (aG (aO (aK (aF (v:=zS a1 a.length c2) (aC (bO (len:=a.length) cC rfl) (aF (v:=i64 0) (aG (aW [] (fun f w=>eN=some R/\aJ G K (L) w) aHU ?_)))))))));obtain ⟨o,j,ho⟩:=aB hm
 refine dM [0,1,7] j (fun b f w=>f 8=i64 b/\aJ G K (L) w) aHU ?_
 ·rintro b p f q hm hr ⟨d,e⟩
  unfold jQ at hm
  refine aK (aC (cG d rfl) (aG (aO ?_)))
  rcases aH hm with ⟨g,hm⟩|⟨g,hm⟩
  ·refine aL g rfl (aU (aA (aO (cN (aK (aY d (aD (v:=i64 b) (aG (aK (aF (v:=Value.func (.func 227) #[] #[]) (aF (v:=zS a1 a.length c2) (aF (v:=i64 b) ?_))))))))))));obtain ⟨h,i,hm⟩:=aB hm
   refine aC (cT cC rfl c rfl rfl rfl i) ?_;obtain ⟨r,k,l⟩:=cF.el (sz:=1) rfl c i
   cases l
   refine aC (bG (t:=0) cQ e k rfl rfl) ?_;obtain ⟨u,m,hm⟩:=aB hm
   exact kG (vs:=[i64 h]) (caps:=[]) (us:=[i64 h]) rfl call227 rfl rfl (aDc m e) aHU
  ·exact aHU
theorem mE {a:(List Int)} {R:Bool} (hm:gJ a=some R) (b:aJ G K (L) w) (c:cF K a1 c2 a):
  Calls prog 72 ([zS a1 a.length c2,Value.func (.func 227) #[] #[]]:List Value).toArray w (eH fun v w'=>v=zB R/\aJ G K (L) w'):=by
 exact aHU
theorem aFB {a:(List Int)} {R:Bool} (hm:aBV a=some R) (b:aJ G K (L) w) (c:cF K a1 c2 a):
  Calls prog 178 ([zS a1 a.length c2]:List Value).toArray w (eH fun v w'=>v=zB R/\aJ G K (L) w'):=by
 exact aHU
theorem aGZ {a:aZ} {b:(List Int)} {R:(aZ × Bool)} (hm:aFp a b=some R) (e:aJ G K (L) w) (g:G.lo=0) (h:cF K a1 c2 b):
  Calls prog 143 ([str a,zS a1 b.length c2]:List Value).toArray w (eH fun v w'=>v=zT #[str R.1,zB R.2]/\aJ G K (L) w'):=by
 refine aS func143 rfl (by kernel_rfl) (by show (2:Nat)<=37;decide) ?_;unfold aFp at hm
 refine aK (aD (v:=str ([]:aZ)) (aD (v:=zB false) (aG (aO (cN (aK (aF (v:=str a) (aC (sY rfl rfl) (aD (v:=zB (a == ([116,97,117]:aZ))) (aG ?_))))))))))
 rcases aH hm with ⟨c,hm⟩|⟨c,hm⟩
 ·exact aHU
 ·exact aI c rfl (aO (cP [0,1] (fun f w=>∃ d,qR a b d=some R/\f 12=zB d/\aJ G K (L) w) aHU aHU))
theorem oM {a b:aZ} {R:Bool} (hm:iD a b=some R) (d:aJ G K (L) w):
  Calls prog 225 ([str a,str b]:List Value).toArray w (eH fun v w'=>v=zB R/\aJ G K (L) w'):=by
 refine aS func225 rfl (by kernel_rfl) (by show (2:Nat)<=21;decide) ?_;unfold iD at hm
 exact aK (aD (v:=zB false) (aG (aO (cP [] (fun f w=>∃ c,eV c=some R/\f 4=zB c/\aJ G K (L) w) aHU aHU))))
theorem nT {a b R:aZ} (hm:iC a b=some R) (c:aJ G K (L) w):
  Calls prog 176 ([str a,str b]:List Value).toArray w (eH fun v w'=>v=str R/\aJ G K (L) w'):=by
 exact aHU
theorem yL {a b R:aZ} (hm:nK a b=some R) (c:aJ G K (L) w):
  Calls prog 142 ([str a,str b]:List Value).toArray w (eH fun v w'=>v=str R/\aJ G K (L) w'):=by
 exact aHU
theorem aFC {c:aZ} {R:(aZ × (List Int) × Bool)} (hm:aBW c=some R) (k:aJ G K (L) w) (l:G.lo=0):
  Calls prog 97 ([str c]:List Value).toArray w (eH fun v w'=>∃ h i,v=zT #[str R.1,zS h R.2.1.length i,zB R.2.2]/\aJ G K (aN 2 K h i R.2.1::L) w'):=by
 refine aS func97 rfl (by kernel_rfl) (by show (1:Nat)<=43;decide) ?_;unfold aBW at hm
 refine aK (aD (v:=str ([]:aZ)) (aD (v:=zS none 0 0) (aD (v:=zB false) (aG (aK (aF (v:=str c) ?_))))));obtain ⟨a,m,hm⟩:=aB hm
 refine aR (vs:=[str c,str ([40]:aZ)]) call139 rfl (lib_Cut k m) ?_
 rintro _ x ⟨rfl,y⟩
 refine aF (v:=zT #[str a.1,str a.2.1,zB a.2.2]) (aC (bS rfl rfl) (aC (bS rfl rfl) (aC (bS rfl rfl) (aD (v:=str a.1) (aD (v:=str a.2.1) (aD (v:=zB a.2.2) (aG (aK (aD (v:=zS none 0 0) (aG (oO [0,5] (fun f w=>∃ b d e,qT c a b=some R/\f 8=zS d b.length e/\aJ G K (aN 2 K d e b::L) w) ?_ ?_)))))))))))
 ·rintro f z ⟨b,d,e,hm,n,o⟩
  unfold qT at hm
  refine aO (aK (aF (v:=str a.1) (aY n ?_)));obtain ⟨V,Z,p,q,r⟩:=aJ.lendSp o (zR _) .head
  obtain ⟨g,t,hm⟩:=aB hm
  refine aR (vs:=[str a.1,zS d b.length e]) call143 rfl (aGZ t q l p) ?_
  rintro _ a0 ⟨rfl,u⟩
  have a1:=r _ _ u
  exact aF (v:=zT #[str g.1,zB g.2]) (aC (bS rfl rfl) (aC (bS rfl rfl) (aD (v:=str g.1) (aD (v:=zB g.2) (aG (aO (cP [5,8] (fun f w=>∃ j,qS a b j=some R/\f 40=zB j/\aJ G K (aN 2 K d e b::L) w) aHU aHU)))))))
 exact aHU
theorem aCD {a:aZ} {R:Bool} (hm:aCS a=some R) (b:aJ G K (L) w) (c:G.lo=0):
  Calls prog 49 ([str a]:List Value).toArray w (eH fun v w'=>v=zB R/\aJ G K (L) w'):=by
 exact aHU
theorem aDd {a:aZ} {R:Bool} (hm:xT a=some R) (b:aJ G K (L) w) (c:G.lo=0):
  Calls prog 121 ([str a]:List Value).toArray w (eH fun v w'=>v=zB R/\aJ G K (L) w'):=by
 exact aHU
theorem mP {a:(List aZ)} {R:Int} (hm:gS a=some R) (o:aJ G K (L) w) (j:G.lo=0) (c:cF K a1 c2 a):
  Calls prog 153 ([zS a1 a.length c2,Value.func (.func 121) #[] #[]]:List Value).toArray w (eH fun v w'=>v=i64 R/\aJ G K (L) w'):=by
 refine aS func153 rfl (by kernel_rfl) (by show (2:Nat)<=19;decide) ?_;unfold gS at hm
 refine aK (aD (v:=i64 0) (aG (aO (aK (aF (v:=zS a1 a.length c2) (aC (bO (len:=a.length) bX rfl) (aF (v:=i64 0) (aG (aW [] (fun f w=>eG=some R/\aJ G K (L) w) aHU ?_)))))))));obtain ⟨p,k,ho⟩:=aB hm
 refine dM [0,1,7] k (fun b f w=>f 8=i64 b/\aJ G K (L) w) aHU ?_
 ·rintro b q f r hm hr ⟨d,e⟩
  unfold jA at hm
  refine aK (aC (cG d rfl) (aG (aO ?_)))
  rcases aH hm with ⟨g,hm⟩|⟨g,hm⟩
  ·refine aL g rfl (aU (aA (aO (cN (aK (aY d (aD (v:=i64 b) (aG (aK (aF (v:=Value.func (.func 121) #[] #[]) (aF (v:=zS a1 a.length c2) (aF (v:=i64 b) ?_))))))))))));obtain ⟨h,i,hm⟩:=aB hm
   refine aC (cT bX rfl c rfl rfl rfl i) ?_;obtain ⟨u,l,m⟩:=cF.el (sz:=1) rfl c i
   cases m
   refine aC (bG (t:=0) lF e l rfl rfl) ?_;obtain ⟨x,n,hm⟩:=aB hm
   exact kG (vs:=[str h]) (caps:=[]) (us:=[str h]) rfl call121 rfl rfl (aDd n e j) aHU
  ·exact aHU
theorem lR {a:(List aZ)} {R:Bool} (hm:fZ a=some R) (b:aJ G K (L) w) (c:G.lo=0) (d:cF K a1 c2 a):
  Calls prog 120 ([zS a1 a.length c2,Value.func (.func 121) #[] #[]]:List Value).toArray w (eH fun v w'=>v=zB R/\aJ G K (L) w'):=by
 exact aHU
theorem aFD {labels:(List aZ)} {R:Bool} (hm:aBX labels=some R) (a:aJ G K (L) w) (b:G.lo=0) (c:cF K a1 c2 labels):
  Calls prog 68 ([zS a1 labels.length c2]:List Value).toArray w (eH fun v w'=>v=zB R/\aJ G K (L) w'):=by
 exact aHU
theorem jU {a:(List aZ)} {b:aZ} {R:Int} (hm:fX a b=some R) (e:aJ G K (L) w) (g:cF K a1 c2 a):
  Calls prog 110 ([zS a1 a.length c2,str b]:List Value).toArray w (eH fun v w'=>v=i64 R/\aJ G K (L) w'):=by
 refine aS func110 rfl (by kernel_rfl) (by show (2:Nat)<=19;decide) ?_;unfold fX at hm
 refine aK (aD (v:=i64 0) (aG (aO (aK (aF (v:=zS a1 a.length c2) (aC (bO (len:=a.length) bX rfl) (aF (v:=i64 0) (aG (aW [] (fun f w=>fC=some R/\aJ G K (L) w) aHU ?_)))))))));obtain ⟨h,c,ho⟩:=aB hm
 exact dM [0,1,7] c (fun d f w=>f 8=i64 d/\aJ G K (L) w) aHU aHU
theorem fV {a:(List aZ)} {b:aZ} {R:Bool} (hm:eA a b=some R) (c:aJ G K (L) w) (d:cF K a1 c2 a):
  Calls prog 69 ([zS a1 a.length c2,str b]:List Value).toArray w (eH fun v w'=>v=zB R/\aJ G K (L) w'):=by
 exact aHU
theorem sS {a:(List aZ)} {R:Bool} (hm:qU a=some R) (c:aJ G K (L) w) (d:G.lo=0) (e:cF K a1 c2 a):
  Calls prog 24 ([zS a1 a.length c2]:List Value).toArray w (eH fun v w'=>v=zB R/\aJ G K (L) w'):=by
 refine aS func24 rfl (by kernel_rfl) (by show (1:Nat)<=10;decide) ?_;unfold qU at hm
 exact aK (aD (v:=zB false) (aG (aO (cP [] (fun f w=>∃ b,pE b=some R/\f 2=zB b/\aJ G K (L) w) aHU aHU))))
theorem aHa {a:(List UInt8)} {R:Bool} (hm:aFq a=some R) (b:aJ G K (L) w) (c:cF K a1 c2 a):
  Calls prog 4 ([zS a1 a.length c2]:List Value).toArray w (eH fun v w'=>v=zB R/\aJ G K (L) w'):=by
 exact aHU
theorem aHb {a:(List UInt8)} {R:(Int × Int)} (hm:aFr a=some R) (c:aJ G K (L) w) (d:cF K a1 c2 a):
  Calls prog 12 ([zS a1 a.length c2]:List Value).toArray w (eH fun v w'=>∃ b,v=Value.pointer (some ⟨b,0,none⟩)/\aJ G K (box b 73 [zS a1 a.length c2,i64 R.1,Value.int .u64 R.2]::L) w'):=by
 exact aHU
theorem aCE {a:(List aZ)} {b:aZ} {R:Int} (hm:aCT a b=some R) (e:aJ G K (L) w) (g:cF K a1 c2 a):
  Calls prog 83 ([zS a1 a.length c2,str b]:List Value).toArray w (eH fun v w'=>v=i64 R/\aJ G K (L) w'):=by
 refine aS func83 rfl (by kernel_rfl) (by show (2:Nat)<=19;decide) ?_;unfold aCT at hm
 refine aK (aD (v:=i64 0) (aG (aO (aK (aD (v:=i64 0) (aG (aW [] (fun f w=>vU=some R/\aJ G K (L) w) aHU ?_)))))));obtain ⟨h,c,ho⟩:=aB hm
 exact dM [0,1] c (fun d f w=>f 5=i64 d/\aJ G K (L) w) aHU aHU
theorem aHc {g R:(List aZ)} (hm:aFs g=some R) (hs:aJ G K (L) w) (y:cF K a1 c2 g):
  Calls prog 63 ([zS a1 g.length c2]:List Value).toArray w (eH fun v w'=>∃ b1 b2,v=zS b1 R.length b2/\aJ G K (aN 9 K b1 b2 R::L) w'):=by
 refine aS func63 rfl (by kernel_rfl) (by show (1:Nat)<=65;decide) ?_;unfold aFs at hm
 refine aK (aD (v:=zS none 0 0) (aG (aK (cB (Kt:=K) (xs:=([([116,97,117]:aZ)]:List aZ)) (cs:=[str ([116,97,117]:aZ)]) (vs:=[(0,str ([116,97,117]:aZ))]) bX iA rfl rfl hs rfl (by kernel_rfl) rfl rfl rfl ⟨rfl,trivial⟩ (fun a4 w5 (f9:aJ G K (aN 9 K a4 1 ([([116,97,117]:aZ)]:List aZ)::L) w5)=>(aD (v:=zS a4 ([([116,97,117]:aZ)]:List aZ).length 1) (aG (aO (aK (aD (v:=i64 0) (aG (aW [] (fun f w=>∃ z a8 c9,vV z=some R/\f 3=zS a8 z.length c9/\aJ G K (aN 9 K a8 c9 z::L) w) aHU ?_))))))))))))
 obtain ⟨g0,d5,ho⟩:=aB hm
 refine cJ [0] d5 (fun c j f w=>∃ d e,f 3=zS d c.length e/\f 4=i64 j/\aJ G K (aN 9 K d e c::L) w) aHU ?_
 ·rintro c j V f g1 hm hr ⟨d,e,b6,m,b7⟩
  unfold aEG at hm
  refine aO (aK (aY m (aF (v:=zS a1 g.length c2) (aC (bO (len:=g.length) bX rfl) (aC (cG rfl rfl) (aG ?_))))))
  rcases aH hm with ⟨b8,hm⟩|⟨b8,hm⟩
  ·refine aL b8 rfl (aU (aA (aO (aW [0,4] (fun f w=>∃ o p q,vW j o=some V/\f 3=zS p o.length q/\aJ G K (aN 9 K p q o::L) w) ?_ ?_))))
   ·rintro f g2 ⟨o,p,q,hm,d6,d7⟩
    unfold vW at hm
    exact aA (aP (aY m (aC (cE rfl rfl) (aD (v:=i64 (wr (j+1))) (aG ⟨_,(zI hm).symm,aM,p,q,d6,rfl,d7⟩)))))
   refine aO (aK (aY b6 (aF (v:=zS a1 g.length c2) (aY m ?_))));obtain ⟨k,Z,hm⟩:=aB hm
   refine aC (cT bX rfl y rfl rfl rfl Z) ?_;obtain ⟨g3,b9,d8⟩:=cF.el (sz:=1) rfl y Z
   cases d8
   refine aC (bG (t:=0) lF b7 b9 rfl rfl) ?_;obtain ⟨g4,g5,d9,e0,e1⟩:=aJ.lendSp b7 (zR _) .head
   obtain ⟨g6,e2,hm⟩:=aB hm
   refine aR (vs:=[zS d c.length e,str k]) call83 rfl (aCE e2 e0 d9) ?_
   rintro _ g7 ⟨rfl,e3⟩
   have g8:=e1 _ _ e3
   refine aC (nG rfl rfl) (aG ?_)
   rcases aH hm with ⟨c0,hm⟩|⟨c0,hm⟩
   ·exact aHU
   ·refine aI c0 rfl (aU (aA (aK (aD (v:=i64 1) (aG (aO (aW [0,3,4] (fun f w=>∃ r,vY c j k r=some V/\f 5=i64 r/\aJ G K (aN 9 K d e c::L) w) ?_ ?_)))))))
    ·rintro f g9 ⟨r,hm,c1,e4⟩
     unfold vY at hm
     refine aA (aK (aY b6 (cB (Kt:=K) (xs:=([([]:aZ)]:List aZ)) (cs:=[str ([]:aZ)]) (vs:=[(0,str ([]:aZ))]) bX iA rfl rfl e4 rfl (by kernel_rfl) rfl rfl rfl ⟨rfl,trivial⟩ (fun e5 e6 (e7:aJ G K (aN 9 K e5 1 ([([]:aZ)]:List aZ)::aN 9 K d e c::L) e6)=>?_))));obtain ⟨l,e8,hm⟩:=aB hm
     refine dG (i:=0) bX underlying24 iA rfl rfl e7 rfl (zR _) (zR _) e8 rfl rfl rfl rfl (fun _ h=>h) (fun a b e9 (h0:aJ G K (aN 9 K a b l::L) e9)=>(aD (v:=zS a l.length b) (aG (aO (aK (aF (v:=zS a l.length b) (aC (bO (len:=l.length) bX rfl) (aC (iK rfl rfl) (aD (v:=i64 (wr ((l.length:Int) - 1))) (aG (aW [0,4,5] (fun f w=>∃ u,vX j k r u=some V/\f 3=zS a u.length b/\aJ G K (aN 9 K a b u::L) w) ?_ ?_)))))))))))
     ·rintro f h1 ⟨u,hm,c3,a0⟩
      unfold vX at hm
      refine aA (aP (aY c3 (aY c1 (aF (v:=zS a1 g.length c2) (aY m (aC (cT bX rfl y rfl rfl rfl Z) (aC (bG (t:=0) lF a0 b9 rfl rfl) ?_)))))));obtain ⟨h2,a2,hm⟩:=aB hm
      have f0:=cX a0 (i:=0) rfl a2
      refine aC (dD bX rfl f0 rfl rfl rfl a2) ?_;obtain ⟨c4,c5,hm⟩:=aB hm
      exact jL (i:=0) (t:=0) (ns:=[str k]) (e':=(k:aZ)) sizeOf9 a0 rfl (zR _) rfl rfl rfl a2 c5 rfl rfl (cY rfl) rfl (fun cs h=>by cases h;rfl) (fun f1 (f2:aJ G K (aN 9 K a b c4::L) f1)=>(bB (aX (aA ⟨aM,c4,a,b,hm,(Eq.trans c3 (congrArg (fun n=>zS a n b) (iM c5))),f2⟩))))
     obtain ⟨h4,f3,ho⟩:=aB hm
     refine cJ [0,4,5] f3 (fun a3 a5 f w=>f 3=zS a a3.length b/\f 6=i64 a5/\aJ G K (aN 9 K a b a3::L) w) aHU ?_
     ·rintro a3 a5 h5 f h6 hm hr ⟨a6,x,a7⟩
      unfold aEE at hm
      refine aO (aK (aY x (aY c1 (aC (kC rfl rfl) (aG ?_)))))
      rcases aH hm with ⟨c6,hm⟩|⟨c6,hm⟩
      ·refine aL c6 rfl (aU (aA (aO (cN (aP (aY a6 (aY x (aY a6 (aY x (aC (iK rfl rfl) ?_))))))))));obtain ⟨c7,a9,hm⟩:=aB hm
       have c8:=cX a7 (i:=0) rfl a9
       refine aC (dD bX rfl c8 rfl rfl rfl a9) (aC (gX (t:=0) lF a7 (i:=0) rfl a9 rfl rfl rfl) ?_);obtain ⟨h7,d0,hm⟩:=aB hm
       refine aC (dD bX rfl c8 rfl rfl rfl d0) ?_;obtain ⟨f4,d1,hm⟩:=aB hm
       exact jL (i:=0) (t:=0) (ns:=[str c7]) (e':=(c7:aZ)) sizeOf9 a7 rfl (zR _) rfl rfl rfl d0 d1 rfl rfl (cY rfl) rfl (fun cs h=>by cases h;rfl) (fun f5 (f6:aJ G K (aN 9 K a b f4::L) f5)=>(bB (aX (aA (aP (aY x (aC (iK rfl rfl) (aD (v:=i64 (wr (a5 - 1))) (aG ⟨_,(zI hm).symm,aM,(Eq.trans a6 (congrArg (fun n=>zS a n b) (iM d1))),rfl,f6⟩)))))))))
      ·exact aHU
    obtain ⟨h8,f7,ho⟩:=aB hm
    refine dM [0,3,4] f7 (fun b0 f w=>f 5=i64 b0/\aJ G K (aN 9 K d e c::L) w) aHU ?_
    ·rintro b0 f8 f h9 hm hr ⟨i0,i1⟩
     unfold aEF at hm
     exact aO (aO (cP [0,3,4,5] (fun f w=>∃ d2,vZ b0 d2=some f8/\f 35=zB d2/\aJ G K (aN 9 K d e c::L) w) aHU aHU))
  ·exact aHU
theorem aCF {a:Edge} {c:Nat} {b:Edge} {d:Nat} {R:Bool} (hm:aCU a b=some R) (e:aJ G K (L) w) (g:eY K a1 c [i64 a.F,i64 a.B,i64 a.To]) (h:eY K a4 d [i64 b.F,i64 b.B,i64 b.To]):
  Calls prog 62 ([cS a1 c,cS a4 d]:List Value).toArray w (eH fun v w'=>v=zB R/\aJ G K (L) w'):=by
 exact aHU
theorem aHA {j:(List Edge)} {e:Edge} {R:(List Edge)} (hm:aGR j e=some R) (hs:aJ G K (aN 66 K a1 c2 j::L) w):
  Calls prog 84 ([zS a1 j.length c2,Value.agg #[i64 e.F,i64 e.B,i64 e.To]]:List Value).toArray w (eH fun v w'=>∃ b4 b5,v=zS b4 R.length b5/\aJ G K (aN 66 K b4 b5 R::L) w'):=by
 let a:=[i64 e.F,i64 e.B,i64 e.To]
 let o:=aN 66 K a1 c2 j
 refine aS func84 rfl (by kernel_rfl) (by show (2:Nat)<=57;decide) ?_;unfold aGR at hm
 refine aK (fJ (v:=Value.agg #[i64 e.F,i64 e.B,i64 e.To]) (vs:=a) hs rfl rfl (fun k w4 g3=>(aD (v:=zS none 0 0) (aG (aK (aF (v:=zS a1 j.length c2) (aC (bO (len:=j.length) cL rfl) (aD (v:=i64 (j.length:Int)) (aG (aO (aW [0,3] (fun f w=>∃ p,zH j e p=some R/\f 5=i64 p/\aJ G K (box k 66 a::o::L) w) ?_ ?_)))))))))))
 ·rintro f w8 ⟨p,hm,V,b⟩
  unfold zH at hm
  refine aA (aO (aO (cP [0,3,5] (fun f w=>∃ a2,zF j e p a2=some R/\f 30=zB a2/\aJ G K (box k 66 a::o::L) w) ?_ ?_)))
  ·rintro f g5 ⟨a2,hm,c8,c9⟩
   unfold zF at hm
   refine aA ?_
   rcases aH hm with ⟨b6,hm⟩|⟨b6,hm⟩
   ·exact aHU
   ·refine aI b6 c8 (aU (aA (aK (aF (v:=zS a1 j.length c2) (aC (dF (vs:=[]) (cs:=[i64 0,i64 0,i64 0]) aDl rfl (by kernel_rfl)) (cB (Kt:=K) (xs:=([⟨0,0,0⟩]:List Edge)) (cs:=[i64 0,i64 0,i64 0]) (vs:=[(0,Value.agg #[i64 0,i64 0,i64 0])]) cL gC rfl rfl c9 rfl (by kernel_rfl) rfl rfl rfl ⟨rfl,trivial⟩ (fun d0 d1 (d2:aJ G K (aN 66 K d0 1 ([⟨0,0,0⟩]:List Edge)::box k 66 a::o::L) d1)=>?_)))))));obtain ⟨u,d3,hm⟩:=aB hm
    refine dG (i:=1) cL underlying25 gC rfl rfl d2 rfl (zR _) (zR _) d3 rfl rfl rfl rfl (fun _ h=>h) (fun c d d4 (g6:aJ G K (box k 66 a::aN 66 K c d u::L) d4)=>(aD (v:=zS c u.length d) (aG (aO (aK (aF (v:=zS c u.length d) (aC (bO (len:=u.length) cL rfl) (aC (iK rfl rfl) (aD (v:=i64 (wr ((u.length:Int) - 1))) (aG (aW [3,5] (fun f w=>∃ Z,zD e p Z=some R/\f 0=zS c Z.length d/\aJ G K (box k 66 a::aN 66 K c d Z::L) w) ?_ ?_)))))))))))
    ·rintro f g7 ⟨Z,hm,b7,a3⟩
     unfold zD at hm
     refine aA (aK (aY b7 (aY V (aC (dI (us:=a) kD a3 (i:=0) rfl rfl rfl rfl) ?_))));obtain ⟨g8,a4,hm⟩:=aB hm
     have d5:=cX a3 (i:=1) rfl a4
     refine aC (dD cL rfl d5 rfl rfl rfl a4) ?_;obtain ⟨a5,b8,hm⟩:=aB hm
     refine jL (i:=1) (t:=0) (ns:=a) (e':=(⟨e.F,e.B,e.To⟩:Edge)) sizeOf66 a3 rfl (zR _) rfl rfl rfl a4 b8 rfl rfl (cY rfl) rfl (fun cs h=>by cases h;rfl) (fun d6 (d7:aJ G K (box k 66 a::aN 66 K c d a5::L) d6)=>(aG (aK (aY (v:=zS c a5.length d) (Eq.trans b7 (congrArg (fun n=>zS c n d) (iM b8))) (aD (v:=zS c a5.length d) (aG ?_))))));obtain rfl:=zI hm
     exact bH (bI results84 rfl ⟨c,d,rfl,(aJ.arr 1 [] d7 rfl)⟩)
    obtain ⟨g9,d9,ho⟩:=aB hm
    refine cJ [3,5] d9 (fun a6 a7 f w=>f 0=zS c a6.length d/\f 6=i64 a7/\aJ G K (box k 66 a::aN 66 K c d a6::L) w) aHU ?_
    ·rintro a6 a7 h0 f h1 hm hr ⟨a8,a0,a9⟩
     unfold aFW at hm
     refine aO (aK (aY a0 (aY V (aC (kC rfl rfl) (aG ?_)))))
     rcases aH hm with ⟨b9,hm⟩|⟨b9,hm⟩
     ·refine aL b9 rfl (aU (aA (aO (cN (aP (aY a8 (aY a0 (aY a8 (aY a0 (aC (iK rfl rfl) ?_))))))))));obtain ⟨l,b0,hm⟩:=aB hm
      have c0:=cX a9 (i:=1) rfl b0
      refine aC (dD cL rfl c0 rfl rfl rfl b0) (aC (aAh (t:=0) (vs:=[i64 l.F,i64 l.B,i64 l.To]) kD a9 (i:=1) rfl b0 rfl rfl rfl rfl) ?_);obtain ⟨h2,c1,hm⟩:=aB hm
      refine aC (dD cL rfl c0 rfl rfl rfl c1) ?_;obtain ⟨e0,c3,hm⟩:=aB hm
      exact jL (i:=1) (t:=0) (ns:=[i64 l.F,i64 l.B,i64 l.To]) (e':=(⟨l.F,l.B,l.To⟩:Edge)) sizeOf66 a9 rfl (zR _) rfl rfl rfl c1 c3 rfl rfl (cY rfl) rfl (fun cs h=>by cases h;rfl) (fun e1 (e2:aJ G K (box k 66 a::aN 66 K c d e0::L) e1)=>(bB (aX (aA (aP (aY a0 (aC (iK rfl rfl) (aD (v:=i64 (wr (a7 - 1))) (aG ⟨_,(zI hm).symm,aM,(Eq.trans a8 (congrArg (fun n=>zS c n d) (iM c3))),rfl,e2⟩)))))))))
     ·exact aHU
  refine dO (C:=fun w'=>aJ G K (box k 66 a::o::L) w') bY (by kernel_rfl) (aJ.mono b (dK.drew _)) (bD (fun _ b=>bA V) (bD (fun _ b=>kC rfl rfl) (bD (fun _ b=>bA (v:=zB (decide (0 < p))) rfl) ?_)))
  rcases aH hm with ⟨m,hm⟩|⟨m,hm⟩
  ·refine bW (g:=22) rfl rfl m (bD (fun _ b=>bA (v:=zS a1 j.length c2) rfl) (bW (g:=22) rfl rfl m (bD (fun _ b=>bA V) (bW (g:=22) rfl rfl m (bD (fun _ b=>iK rfl rfl) (bW (g:=22) rfl rfl m ?_))))));obtain ⟨q,b1,hm⟩:=aB hm
   have e3:=cX b (i:=1) rfl b1
   exact bD (fun _ b=>dD cL rfl e3 rfl rfl rfl b1) (bW (g:=22) rfl rfl m (bD (fun _ b=>aAh (t:=0) (vs:=[i64 q.F,i64 q.B,i64 q.To]) kD b (i:=1) rfl b1 rfl rfl rfl rfl) (bW (g:=22) rfl rfl m (bD (fun _ b=>dI (us:=a) kD b (i:=0) rfl rfl rfl rfl) (bW (g:=22) rfl rfl m (bD (fun _ b=>R_eqlG (eq_66 (x:=q) (y:=e)) rfl rfl) (bD (fun _ b=>bL (v:=zB (decide ((q:Edge)=e))) m rfl rfl) (dS (fun h3 e4=>(aA ⟨aM,decide ((q:Edge)=e),hm,rfl,e4⟩))))))))))
  ·exact aHU
 obtain ⟨h4,e5,ho⟩:=aB hm
 refine dM [0,3] e5 (fun z f w=>f 5=i64 z/\aJ G K (box k 66 a::o::L) w) aHU ?_
 ·rintro z e6 f h5 hm hr ⟨c4,c5⟩
  unfold aFX at hm
  refine aO (aO (cP [0,3,5] (fun f w=>∃ c6,zJ z c6=some e6/\f 17=zB c6/\aJ G K (box k 66 a::o::L) w) aHU (aP (aY c4 (aC (kC rfl rfl) (aF (v:=zB (decide (0 < z))) ?_))))))
  rcases aH hm with ⟨r,hm⟩|⟨r,hm⟩
  ·refine bF r rfl rfl (aF (v:=zS a1 j.length c2) (bF r rfl rfl (aY c4 (bF r rfl rfl (aC (iK rfl rfl) (bF r rfl rfl ?_))))));obtain ⟨h6,b2,hm⟩:=aB hm
   have e8:=cX c5 (i:=1) rfl b2
   refine aC (dD cL rfl e8 rfl rfl rfl b2) (bF r rfl rfl ?_);obtain ⟨h7,e9,f0,f1,f2⟩:=aJ.lendBp c5 .head
   obtain ⟨h8,f3,f4,f5,f6⟩:=aJ.lendSp f1 e9 .head
   obtain ⟨h9,f7,f8⟩:=cF.el (sz:=3) rfl f4 b2
   cases f8
   obtain ⟨i0,f9,hm⟩:=aB hm
   refine aR (vs:=[cS (some ⟨k,0,none⟩) 0,cS a1 ((wr (z - 1)).toNat * 3+0)]) call62 rfl (aCF f9 f5 (f0.mono f3) f7) ?_
   rintro _ i1 ⟨rfl,g0⟩
   have g1:=f6 _ _ g0
   have i2:=f2 _ _ g1
   exact aHU
  ·exact aHU
theorem sT {d e:Int} {l:(List aZ)} {edges:(List Edge)} {R:cI} (hm:xL d e l edges=some R) (hs:aJ G K (L) w) (u:cF K a1 c2 l) (z:cF K a4 c5 edges):
  Calls prog 35 ([i64 d,i64 e,zS a1 l.length c2,zS a4 edges.length c5]:List Value).toArray w (eH fun v w'=>∃ V Z a0 a2,v=Value.agg (zCa R V Z a0 a2)/\aJ G K (aN 9 K V Z R.L::aN 66 K a0 a2 R.E::L) w'):=by
 let h:=zG
 refine aS func35 rfl (by kernel_rfl) (by show (4:Nat)<=43;decide) ?_;unfold xL at hm
 refine aK (bZ (vs:=h) zeroValue27 hs rfl (fun m w8 b5=>(aG (aK (aF (v:=i64 d) (aF (v:=i64 e) (aF (v:=zS a1 l.length c2) ?_)))))));obtain ⟨a,b6,hm⟩:=aB hm
 refine aR (vs:=[zS a1 l.length c2]) call63 rfl (aHc b6 b5 u) ?_
 rintro _ e9 ⟨b,c,rfl,b8⟩
 refine cB (Kt:=K) (xs:=([]:List Edge)) (cs:=[]) (vs:=[]) cL gC rfl rfl b8 rfl (by kernel_rfl) rfl rfl rfl trivial (fun j b9 (c0:aJ G K (aN 66 K j 0 ([]:List Edge)::aN 9 K b c a::box m 27 h::L) b9)=>(aC (dF (vs:=[(0,i64 d),(1,i64 e),(2,zS b a.length c),(3,zS j ([]:List Edge).length 0)]) (cs:=[i64 d,i64 e,zS b a.length c,zS j ([]:List Edge).length 0]) mQ rfl (by kernel_rfl)) (bZ (vs:=h) zeroValue27 c0 rfl (fun q f0 c1=>(cA (i:=0) (ns:=[i64 d,i64 e,zS b a.length c,zS j ([]:List Edge).length 0]) (us:=[i64 d,i64 e,zS b a.length c,zS j ([]:List Edge).length 0]) sizeOf27 c1 rfl rfl rfl rfl rfl (cY rfl) rfl rfl (fun c3 (f1:aJ G K (box q 27 [i64 d,i64 e,zS b a.length c,zS j ([]:List Edge).length 0]::aN 66 K j 0 ([]:List Edge)::aN 9 K b c a::box m 27 h::L) c3)=>(aG (aO (aK (aD (v:=i64 0) (aG (aW [8,9] (fun f w=>∃ x a3 a5,wA d e a x=some R/\aJ G K (aN 66 K a3 a5 x::box q 27 [i64 d,i64 e,zS b a.length c,zS a3 x.length a5]::aN 9 K b c a::box m 27 h::L) w) aHU ?_))))))))))))
 obtain ⟨f2,c4,ho⟩:=aB hm
 refine cJ [2,3,8,9] c4 (fun n a6 f w=>∃ o p,f 10=i64 a6/\aJ G K (box q 27 [i64 d,i64 e,zS b a.length c,zS o n.length p]::aN 66 K o p n::aN 9 K b c a::box m 27 h::L) w) aHU ?_
 ·rintro n a6 f3 f f4 hm hr ⟨o,p,a7,a8⟩
  unfold aEH at hm
  refine aO (aK (aY a7 (aF (v:=zS a4 edges.length c5) (aC (bO (len:=edges.length) cL rfl) (aC (cG rfl rfl) (aG ?_))))))
  rcases aH hm with ⟨a9,hm⟩|⟨a9,hm⟩
  ·refine aL a9 rfl (aU (aA (aO (cN (aK (aF (v:=zS a4 edges.length c5) (aY a7 ?_)))))));obtain ⟨g,b0,hm⟩:=aB hm
   refine aC (cT cL rfl z rfl rfl rfl b0) ?_;obtain ⟨f5,c6,c7⟩:=cF.el (sz:=3) rfl z b0
   cases c7
   refine aC (eI (t:=0) (vs:=[i64 g.F,i64 g.B,i64 g.To]) kD a8 c6 rfl rfl rfl) (bZ (vs:=[i64 0,i64 0,i64 0]) zeroValue66 a8 rfl (fun c8 f6 c9=>(cA (i:=0) (ns:=[i64 g.F,i64 g.B,i64 g.To]) (us:=[i64 g.F,i64 g.B,i64 g.To]) sizeOf66 c9 rfl rfl rfl rfl rfl (cY rfl) rfl rfl (fun d0 (d1:aJ G K (box c8 66 [i64 g.F,i64 g.B,i64 g.To]::box q 27 [i64 d,i64 e,zS b a.length c,zS o n.length p]::aN 66 K o p n::aN 9 K b c a::box m 27 h::L) d0)=>(aG (aO ?_))))))
   obtain ⟨f7,y,d2,d3,d4⟩:=aJ.lendBp d1 .head
   obtain ⟨d5,r,d6,b1,d7⟩:=aJ.lendBp d3 .head
   refine dT (C:=fun w'=>∃ L',aJ G d5 L' w') [(0,0),(1,0),(2,0),(3,0),(4,0),(5,0),(6,0),(7,1),(8,0),(9,2)] bY (by kernel_rfl) (fun _ hg=>⟨_,aJ.mono b1 hg⟩) (fun f8 d8=>?_)
   have k:=aJ.mono b1 d8
   refine bQ rfl (fun _ _=>bT (t':=2) eU rfl rfl) (bQ rfl (fun _ ⟨_,k⟩=>bG (t:=2) eR k d6 rfl rfl) (bQ rfl (fun _ _=>bA (v:=zS a1 l.length c2) rfl) (bQ rfl (fun _ _=>bT (t':=1) hQ rfl rfl) (bQ rfl (fun _ ⟨_,k⟩=>bG (t:=1) cQ k (d2.mono r) rfl rfl) ?_))));obtain ⟨d9,b2,hm⟩:=aB hm
   refine bQ rfl (fun _ _=>cT bX rfl (u.mono (Hp.le_trans y r)) rfl rfl rfl b2) ?_;obtain ⟨f9,e0,e1⟩:=cF.el (sz:=1) rfl u b2
   cases e1
   refine bQ rfl (fun _ ⟨_,k⟩=>bG (t:=0) lF k (e0.mono (Hp.le_trans y r)) rfl rfl) (jE rfl ?_);obtain ⟨g0,g1,e2,e3,e4⟩:=aJ.lendSp k (Hp.le_trans y r) zt1
   obtain ⟨g2,e5,hm⟩:=aB hm
   refine aR (vs:=[zS b a.length c,str d9]) call83 rfl (aCE e5 e3 e2) ?_
   rintro _ g3 ⟨rfl,e6⟩
   have b3:=e4 _ _ e6
   refine bB (aA ⟨⟨_,b3⟩,?_⟩)
   refine bQ rfl (fun _ _=>bT (t':=1) hQ rfl rfl) ?_
   have e7:=d7 _ _ b3
   have g4:=d4 _ _ e7
   exact aHU
  ·exact aHU
theorem vQ {a:(List Int)} {n R:Int} (hm:xU a n=some R) (d:aJ G K (L) w) (e:cF K a1 c2 a):
  Calls prog 85 ([zS a1 a.length c2,i64 n]:List Value).toArray w (eH fun v w'=>v=i64 R/\aJ G K (L) w'):=by
 refine aS func85 rfl (by kernel_rfl) (by show (2:Nat)<=19;decide) ?_;unfold xU at hm
 refine aK (aD (v:=i64 0) (aG (aO (aK (aD (v:=i64 0) (aG (aW [] (fun f w=>tJ=some R/\aJ G K (L) w) aHU ?_)))))));obtain ⟨g,b,ho⟩:=aB hm
 exact dM [0,1] b (fun c f w=>f 5=i64 c/\aJ G K (L) w) aHU aHU
theorem yF {t:cI} {q:Nat} {a:(List Int)} {R:cI} (hm:aAA t a=some R) (hs:aJ G K (L) w) (k:eY K a1 q (zC t a4 c5 a7 c8)) (h6:cF K a4 c5 t.L) (h9:cF K a7 c8 t.E) (a2:cF K a10 c11 a):
  Calls prog 37 ([cS a1 q,zS a10 a.length c11]:List Value).toArray w (eH fun v w'=>∃ a8 a9 b0 b1,v=Value.agg (zCa R a8 a9 b0 b1)/\aJ G K (aN 9 K a8 a9 R.L::aN 66 K b0 b1 R.E::L) w'):=by
 let h:=zG
 refine aS func37 rfl (by kernel_rfl) (by show (2:Nat)<=66;decide) ?_;unfold aAA at hm
 refine aK (bZ (vs:=h) zeroValue27 hs rfl (fun l f1 b2=>(aG (aK (aF (v:=zS a10 a.length c11) (aC (bO (len:=a.length) cC rfl) (aF (v:=zS a10 a.length c11) (aF (v:=cS a1 q) (aC (cM rfl k) (aC (bU (k':=q+1) mR rfl k rfl) (aC (bG (t:=1) cQ b2 k rfl rfl) ?_)))))))))));obtain ⟨g,c4,hm⟩:=aB hm
 refine aR (vs:=[zS a10 a.length c11,i64 t.I]) call85 rfl (vQ c4 b2 a2) ?_
 rintro _ f2 ⟨rfl,c6⟩
 refine cB (Kt:=K) (xs:=([]:List Edge)) (cs:=[]) (vs:=[]) cL gC rfl rfl c6 rfl (by kernel_rfl) rfl rfl rfl trivial (fun j c7 (c9:aJ G K (aN 66 K j 0 ([]:List Edge)::box l 27 h::L) c7)=>(aC (dF (vs:=[(0,i64 (a.length:Int)),(1,i64 g),(3,zS j ([]:List Edge).length 0)]) (cs:=[i64 (a.length:Int),i64 g,zS none 0 0,zS j ([]:List Edge).length 0]) mQ rfl (by kernel_rfl)) (bZ (vs:=h) zeroValue27 c9 rfl (fun n f3 d0=>(cA (i:=0) (ns:=[i64 (a.length:Int),i64 g,zS none 0 0,zS j ([]:List Edge).length 0]) (us:=[i64 (a.length:Int),i64 g,zS none 0 0,zS j ([]:List Edge).length 0]) sizeOf27 d0 rfl rfl rfl rfl rfl (cY rfl) rfl rfl (fun d1 (d2:aJ G K (box n 27 [i64 (a.length:Int),i64 g,zS none 0 0,zS j ([]:List Edge).length 0]::aN 66 K j 0 ([]:List Edge)::box l 27 h::L) d1)=>(aG (aK (cB (Kt:=K) (xs:=([]:List aZ)) (cs:=[]) (vs:=[]) bX iA rfl rfl d2 rfl (by kernel_rfl) rfl rfl rfl trivial (fun d3 d4 (b3:aJ G K (aN 9 K d3 0 ([]:List aZ)::box n 27 [i64 (a.length:Int),i64 g,zS none 0 0,zS j ([]:List Edge).length 0]::aN 66 K j 0 ([]:List Edge)::box l 27 h::L) d4)=>(aF (v:=cS a1 q) (aC (cM rfl k) (aC (bU (k':=q+2) eU rfl k rfl) (aC (bG (t:=2) eR b3 k rfl rfl) ?_))))))))))))))
 obtain ⟨c,d5,hm⟩:=aB hm
 refine kP (i:=0) bX underlying24 iA rfl rfl b3 rfl (zR _) h6 d5 rfl rfl rfl rfl (fun d e d6 (d7:aJ G K (aN 9 K d e c::box n 27 [i64 (a.length:Int),i64 g,zS none 0 0,zS j ([]:List Edge).length 0]::aN 66 K j 0 ([]:List Edge)::box l 27 h::L) d6)=>(aC (bT (t':=2) eU rfl rfl) (cA (i:=1) (ns:=[zS d c.length e]) (us:=[i64 (a.length:Int),i64 g,zS d c.length e,zS j ([]:List Edge).length 0]) sizeOf24 d7 rfl rfl rfl rfl rfl (cY rfl) rfl rfl (fun d8 (f4:aJ G K (aN 9 K d e c::box n 27 [i64 (a.length:Int),i64 g,zS d c.length e,zS j ([]:List Edge).length 0]::aN 66 K j 0 ([]:List Edge)::box l 27 h::L) d8)=>(aG (aO (aK (aD (v:=i64 0) (aG (aW [4,5] (fun f w=>∃ a3 b4 b5,wB a g c a3=some R/\aJ G K (aN 66 K b4 b5 a3::aN 9 K d e c::box n 27 [i64 (a.length:Int),i64 g,zS d c.length e,zS b4 a3.length b5]::box l 27 h::L) w) aHU ?_))))))))))
 obtain ⟨f5,d9,ho⟩:=aB hm
 refine cJ [0,1,4,5] d9 (fun m u f w=>∃ o p,f 6=i64 u/\aJ G K (aN 9 K d e c::box n 27 [i64 (a.length:Int),i64 g,zS d c.length e,zS o m.length p]::aN 66 K o p m::box l 27 h::L) w) aHU ?_
 ·rintro m u b6 f f6 hm hr ⟨o,p,a5,y⟩
  unfold aEI at hm
  refine aO (aK (aY a5 (aF (v:=cS a1 q) (aC (cM rfl k) (aC (bU (k':=q+3) cU rfl k rfl) (aC (bG (t:=3) eS y k rfl rfl) (aC (bO (len:=t.E.length) cL rfl) (aC (cG rfl rfl) (aG ?_)))))))))
  rcases aH hm with ⟨b7,hm⟩|⟨b7,hm⟩
  ·refine aL b7 rfl (aU (aA (aO (aW [0,1,4,5,6] (fun f w=>∃ z V Z,wC u z=some b6/\aJ G K (aN 66 K V Z z::aN 9 K d e c::box n 27 [i64 (a.length:Int),i64 g,zS d c.length e,zS V z.length Z]::box l 27 h::L) w) ?_ ?_))))
   ·rintro f f7 ⟨z,V,Z,hm,e0⟩
    unfold wC at hm
    exact aA (aP (aY a5 (aC (cE rfl rfl) (aD (v:=i64 (wr (u+1))) (aG ⟨_,(zI hm).symm,aM,V,Z,rfl,(aJ.arr 3 [1,2,0] e0 rfl)⟩)))))
   refine aK (aF (v:=cS a1 q) (aC (cM rfl k) (aC (bU (k':=q+3) cU rfl k rfl) (aC (bG (t:=3) eS y k rfl rfl) (aY a5 ?_)))));obtain ⟨b,b8,hm⟩:=aB hm
   refine aC (cT cL rfl h9 rfl rfl rfl b8) ?_;obtain ⟨f8,e1,e2⟩:=cF.el (sz:=3) rfl h9 b8
   cases e2
   refine aC (eI (t:=0) (vs:=[i64 b.F,i64 b.B,i64 b.To]) kD y e1 rfl rfl rfl) (bZ (vs:=[i64 0,i64 0,i64 0]) zeroValue66 y rfl (fun a0 f9 e3=>(cA (i:=0) (ns:=[i64 b.F,i64 b.B,i64 b.To]) (us:=[i64 b.F,i64 b.B,i64 b.To]) sizeOf66 e3 rfl rfl rfl rfl rfl (cY rfl) rfl rfl (fun e4 (b9:aJ G K (box a0 66 [i64 b.F,i64 b.B,i64 b.To]::aN 9 K d e c::box n 27 [i64 (a.length:Int),i64 g,zS d c.length e,zS o m.length p]::aN 66 K o p m::box l 27 h::L) e4)=>(aG (aK (aF (v:=zS a10 a.length c11) (aC (bT (t':=0) gP rfl rfl) (aC (dC cQ b9 (i:=0) rfl rfl rfl) ?_)))))))))
   obtain ⟨r,e5,hm⟩:=aB hm
   refine aR (vs:=[zS a10 a.length c11,i64 b.F]) call85 rfl (vQ e5 b9 a2) ?_
   rintro _ g0 ⟨rfl,e6⟩
   refine aC (bT (t':=0) gP rfl rfl) (cA (i:=0) (ns:=[i64 r]) (us:=[i64 r,i64 b.B,i64 b.To]) sizeOf2 e6 rfl rfl rfl rfl rfl (cY rfl) rfl rfl (fun e7 (c0:aJ G K (box a0 66 [i64 r,i64 b.B,i64 b.To]::aN 9 K d e c::box n 27 [i64 (a.length:Int),i64 g,zS d c.length e,zS o m.length p]::aN 66 K o p m::box l 27 h::L) e7)=>(aG (aK (aF (v:=zS a10 a.length c11) (aC (bT (t':=2) gD rfl rfl) (aC (dC cQ c0 (i:=0) rfl rfl rfl) ?_)))))))
   obtain ⟨x,e8,hm⟩:=aB hm
   refine aR (vs:=[zS a10 a.length c11,i64 b.To]) call85 rfl (vQ e8 c0 a2) ?_
   rintro _ g1 ⟨rfl,e9⟩
   exact aC (bT (t':=2) gD rfl rfl) (cA (i:=0) (ns:=[i64 x]) (us:=[i64 r,i64 b.B,i64 x]) sizeOf2 e9 rfl rfl rfl rfl rfl (cY rfl) rfl rfl (fun f0 (g2:aJ G K (box a0 66 [i64 r,i64 b.B,i64 x]::aN 9 K d e c::box n 27 [i64 (a.length:Int),i64 g,zS d c.length e,zS o m.length p]::aN 66 K o p m::box l 27 h::L) f0)=>(aG (aO (cP [0,1,4,5,6,7] (fun f w=>∃ c1,wD m u b r x c1=some b6/\f 58=zB c1/\aJ G K (box a0 66 [i64 r,i64 b.B,i64 x]::aN 9 K d e c::box n 27 [i64 (a.length:Int),i64 g,zS d c.length e,zS o m.length p]::aN 66 K o p m::box l 27 h::L) w) aHU aHU)))))
  ·exact aHU
end Gv
namespace Gv
open Go.Value renaming slice→zS,bool→zB
open Option.some renaming inj→zI
open Gv.Hp renaming le_trans→zL,le_refl→zR
open Go Go.Proofs Go.Proofs.Tryz
set_option maxRecDepth 20000
set_option maxHeartbeats 40000000
variable {G:qN} {K:Hp} {L:List gH} {w:World} {a1 a4 a7 a10:Option Addr} {c5 c8 c2 c11:Nat}
theorem vR {t:cI} {d:Nat} {R:(List Int)} (hm:xV t=some R) (hs:aJ G K (L) w) (c:eY K a1 d (zC t a4 c5 a7 c8)) (h6:cF K a4 c5 t.L) (h9:cF K a7 c8 t.E):
  Calls prog 38 ([cS a1 d]:List Value).toArray w (eH fun v w'=>∃ b3 b4,v=zS b3 R.length b4/\aJ G K (aN 2 K b3 b4 R::L) w'):=by
 refine aS func38 rfl (by kernel_rfl) (by show (1:Nat)<=82;decide) ?_;unfold xV at hm
 refine aK (aD (v:=zS none 0 0) (aG (aK (aF (v:=cS a1 d) (aC (cM rfl c) (aC (bU (k':=d+0) fW rfl c rfl) (aC (bG (t:=0) cQ hs c rfl rfl) ?_)))))));obtain ⟨a,d7,hm⟩:=aB hm
 refine aDh (e:=(false:Bool)) eM ez_4 rfl rfl hs rfl rfl rfl d7 rfl (fun b d8 (u:aJ G K (aN 4 K b a.length a::L) d8)=>(aD (v:=zS b a.length a.length) (aG (aK (aF (v:=zS b a.length a.length) (aF (v:=cS a1 d) (aC (cM rfl c) (aC (bU (k':=d+1) mR rfl c rfl) (aC (bG (t:=1) cQ u c rfl rfl) ?_)))))))));obtain ⟨g4,x,hm⟩:=aB hm
 have b5:=cX u (i:=0) rfl x
 refine aC (dD eM rfl b5 rfl rfl rfl x) ?_;obtain ⟨d9,b6,hm⟩:=aB hm
 refine jL (i:=0) (t:=0) (ns:=[zB true]) (e':=(true:Bool)) sizeOf4 u rfl (zR _) rfl rfl rfl x b6 rfl rfl (cY rfl) rfl (fun cs h=>by cases h;rfl) (fun e0 (e1:aJ G K (aN 4 K b a.length d9::L) e0)=>(aG (aO (aK (aD (v:=zB true) (aG (aW [0] (fun f w=>∃ g,tM t g=some R/\f 3=zS b g.length a.length/\aJ G K (aN 4 K b a.length g::L) w) ?_ ?_)))))))
 ·rintro f g5 ⟨g,hm,g6,e2⟩
  unfold tM at hm
  refine aA (aK (cB (Kt:=K) (xs:=([]:List Int)) (cs:=[]) (vs:=[]) cC iV rfl rfl e2 rfl (by kernel_rfl) rfl rfl rfl trivial (fun b7 e3 (g7:aJ G K (aN 2 K b7 0 ([]:List Int)::aN 4 K b a.length g::L) e3)=>(aD (v:=zS b7 ([]:List Int).length 0) (aG (aO (aK (aD (v:=i64 0) (aG (aW [] (fun f w=>∃ y b8 b9,tK y=some R/\f 6=zS b8 y.length b9/\aJ G K (aN 2 K b8 b9 y::L) w) aHU ?_))))))))));obtain ⟨g8,e4,ho⟩:=aB hm
  refine cJ [0,3] e4 (fun z l f w=>∃ V Z,f 6=zS V z.length Z/\f 7=i64 l/\aJ G K (aN 2 K V Z z::aN 4 K b a.length g::L) w) aHU ?_
  ·rintro z l e5 f g9 hm hr ⟨V,Z,h0,c0,e6⟩
   unfold aDn at hm
   refine aO (aK (aY c0 (aF (v:=cS a1 d) (aC (cM rfl c) (aC (bU (k':=d+0) fW rfl c rfl) (aC (bG (t:=0) cQ e6 c rfl rfl) (aC (cG rfl rfl) (aG ?_))))))))
   rcases aH hm with ⟨c1,hm⟩|⟨c1,hm⟩
   ·refine aL c1 rfl (aU (aA (aO (aW [0,3,7] (fun f w=>∃ m o p,tL l m=some e5/\f 6=zS o m.length p/\aJ G K (aN 2 K o p m::aN 4 K b a.length g::L) w) ?_ ?_))))
    ·rintro f h1 ⟨m,o,p,hm,e7,e8⟩
     unfold tL at hm
     exact aA (aP (aY c0 (aC (cE rfl rfl) (aD (v:=i64 (wr (l+1))) (aG ⟨_,(zI hm).symm,aM,o,p,e7,rfl,e8⟩)))))
    exact aHU
   ·exact aHU
 obtain ⟨h2,e9,ho⟩:=aB hm
 refine cJ [0] e9 (fun a0 c2 f w=>f 3=zS b a0.length a.length/\f 4=zB c2/\aJ G K (aN 4 K b a.length a0::L) w) ?_ ?_
 ·exact ⟨(Eq.trans rfl (congrArg (fun n=>zS b n a.length) (iM b6))),rfl,e1⟩
 ·rintro a0 c2 c3 f h4 hm hr ⟨h5,f0,h7⟩
  unfold aBY at hm
  refine aO (aK (aY f0 (aG ?_)))
  rcases aH hm with ⟨c4,hm⟩|⟨c4,hm⟩
  ·refine aL c4 rfl (aU (aA (aW [0] (fun f w=>∃ q a2,aAk q a2=some c3/\f 3=zS b q.length a.length/\f 4=zB a2/\aJ G K (aN 4 K b a.length q::L) w) ?_ ?_)))
   ·rintro f h8 ⟨q,a2,hm,f1,f2,f3⟩
    unfold aAk at hm
    exact aA ⟨_,(zI hm).symm,aM,f1,f2,f3⟩
   refine aK (aD (v:=zB false) (aG (aK (aD (v:=i64 0) (aG (aW [0] (fun f w=>∃ a3 c6,tN a3 c6=some c3/\f 3=zS b a3.length a.length/\f 4=zB c6/\aJ G K (aN 4 K b a.length a3::L) w) aHU ?_))))));obtain ⟨i0,f4,ho⟩:=aB hm
   refine jO [0] f4 (fun k a5 j f w=>f 3=zS b k.length a.length/\f 4=zB a5/\f 5=i64 j/\aJ G K (aN 4 K b a.length k::L) w) aHU ?_
   ·rintro k a5 j c7 f i1 hm hr ⟨c9,i2,a6,f5⟩
    unfold aDo at hm
    refine aO (aK (aY a6 (aF (v:=cS a1 d) (aC (cM rfl c) (aC (bU (k':=d+3) cU rfl c rfl) (aC (bG (t:=3) eS f5 c rfl rfl) (aC (bO (len:=t.E.length) cL rfl) (aC (cG rfl rfl) (aG ?_)))))))))
    rcases aH hm with ⟨d0,hm⟩|⟨d0,hm⟩
    ·refine aL d0 rfl (aU (aA (aO (aW [0,5] (fun f w=>∃ r a8,tO j r a8=some c7/\f 3=zS b r.length a.length/\f 4=zB a8/\aJ G K (aN 4 K b a.length r::L) w) ?_ ?_))))
     ·rintro f i3 ⟨r,a8,hm,f6,f7,f8⟩
      unfold tO at hm
      exact aA (aP (aY a6 (aC (cE rfl rfl) (aD (v:=i64 (wr (j+1))) (aG ⟨_,(zI hm).symm,aM,f6,f7,rfl,f8⟩)))))
     refine aO (cP [0,3,4,5] (fun f w=>∃ a9,tP t k a5 j a9=some c7/\f 53=zB a9/\aJ G K (aN 4 K b a.length k::L) w) ?_ ?_)
     ·rintro f i4 ⟨a9,hm,f9,b0⟩
      unfold tP at hm
      refine aA ?_
      rcases aH hm with ⟨d1,hm⟩|⟨d1,hm⟩
      ·refine aL d1 f9 (aK (aY c9 (aF (v:=cS a1 d) (aC (cM rfl c) (aC (bU (k':=d+3) cU rfl c rfl) (aC (bG (t:=3) eS b0 c rfl rfl) (aY a6 ?_)))))));obtain ⟨i5,d2,hm⟩:=aB hm
       refine aC (cT cL rfl h9 rfl rfl rfl d2) ?_;obtain ⟨i6,d3,g0⟩:=cF.el (sz:=3) rfl h9 d2
       cases g0
       refine aC (bU (k':=j.toNat * 3+2) gD rfl d3 rfl) (aC (bG (t:=2) cQ b0 d3 rfl rfl) ?_);obtain ⟨i7,d4,hm⟩:=aB hm
       refine aC (dD eM rfl b5 rfl rfl rfl d4) ?_;obtain ⟨d5,d6,hm⟩:=aB hm
       exact jL (i:=0) (t:=0) (ns:=[zB true]) (e':=(true:Bool)) sizeOf4 b0 rfl (zR _) rfl rfl rfl d4 d6 rfl rfl (cY rfl) rfl (fun cs h=>by cases h;rfl) (fun g1 (g2:aJ G K (aN 4 K b a.length d5::L) g1)=>(aG (aP (aD (v:=zB true) (bB (aX (aA ⟨aM,d5,true,hm,(Eq.trans c9 (congrArg (fun n=>zS b n a.length) (iM d6))),rfl,g2⟩)))))))
      ·exact aHU
     exact aHU
    ·exact aHU
  ·exact aHU
theorem aHB {a b R:Int} (hm:aGS a b=some R) (c:aJ G K (L) w):
  Calls prog 134 ([i64 a,i64 b]:List Value).toArray w (eH fun v w'=>v=i64 R/\aJ G K (L) w'):=by
 exact aHU
theorem aAK {p:(List Int)} {R:Int} (hm:zN p=some R) (e:aJ G K (L) w) (g:cF K a1 c2 p):
  Calls prog 86 ([zS a1 p.length c2]:List Value).toArray w (eH fun v w'=>v=i64 R/\aJ G K (L) w'):=by
 refine aS func86 rfl (by kernel_rfl) (by show (1:Nat)<=19;decide) ?_;unfold zN at hm
 refine aK (aD (v:=i64 0) (aG (aK (aD (v:=i64 0) (aG (aO (aK (aD (v:=i64 0) (aG (aW [] (fun f w=>∃ a,qV a=some R/\f 3=i64 a/\aJ G K (L) w) aHU ?_))))))))));obtain ⟨h,b,ho⟩:=aB hm
 exact cJ [0] b (fun c d f w=>f 3=i64 c/\f 4=i64 d/\aJ G K (L) w) aHU aHU
theorem aEj {t:cI} {b:Nat} {p:(List Int)} {R:cI} (hm:aAl t p=some R) (hs:aJ G K (L) w) (c:eY K a1 b (zC t a4 c5 a7 c8)) (h6:cF K a4 c5 t.L) (o:cF K a7 c8 t.E) (c0:cF K a10 c11 p):
  Calls prog 39 ([cS a1 b,zS a10 p.length c11]:List Value).toArray w (eH fun v w'=>∃ q r u x,v=Value.agg (zCa R q r u x)/\aJ G K (aN 9 K q r R.L::aN 66 K u x R.E::L) w'):=by
 let d:=zG
 refine aS func39 rfl (by kernel_rfl) (by show (2:Nat)<=56;decide) ?_;unfold aAl at hm
 refine aK (bZ (vs:=d) zeroValue27 hs rfl (fun e c1 a6=>(aG (aK (cB (Kt:=K) (xs:=([]:List Edge)) (cs:=[]) (vs:=[]) cL gC rfl rfl a6 rfl (by kernel_rfl) rfl rfl rfl trivial (fun y a8 (c2:aJ G K (aN 66 K y 0 ([]:List Edge)::box e 27 d::L) a8)=>(aD (v:=zS y ([]:List Edge).length 0) (aG (aO (aK (aD (v:=i64 0) (aG (aW [0,1,4] (fun f w=>∃ g m n,nX t p g=some R/\f 5=zS m g.length n/\aJ G K (aN 66 K m n g::box e 27 d::L) w) ?_ ?_)))))))))))))
 ·rintro f c3 ⟨g,m,n,hm,c4,z⟩
  unfold nX at hm
  refine aA (aO (dT (C:=fun w'=>∃ L',aJ G K L' w') [(0,0),(2,0),(3,0),(4,0),(5,0),(6,0),(7,0),(8,0),(9,0),(10,0),(11,0),(12,0),(13,0),(1,1),(14,1),(15,2)] bY (by kernel_rfl) (fun _ hg=>⟨_,aJ.mono z hg⟩) (fun c6 a9=>?_)))
  have c7:=aJ.mono z a9
  exact aHU
 obtain ⟨c9,b0,ho⟩:=aB hm
 refine cJ [0,1,4] b0 (fun h V f w=>∃ j k,f 5=zS j h.length k/\f 6=i64 V/\aJ G K (aN 66 K j k h::box e 27 d::L) w) aHU ?_
 ·rintro h V d0 f d1 hm hr ⟨j,k,d2,Z,l⟩
  unfold aAB at hm
  refine aO (aK (aY Z (aF (v:=cS a1 b) (aC (cM rfl c) (aC (bU (k':=b+3) cU rfl c rfl) (aC (bG (t:=3) eS l c rfl rfl) (aC (bO (len:=t.E.length) cL rfl) (aC (cG rfl rfl) (aG ?_)))))))))
  rcases aH hm with ⟨a0,hm⟩|⟨a0,hm⟩
  ·refine aL a0 rfl (aU (aA (aO (cN (aK (aF (v:=cS a1 b) (aC (cM rfl c) (aC (bU (k':=b+3) cU rfl c rfl) (aC (bG (t:=3) eS l c rfl rfl) (aY Z ?_))))))))));obtain ⟨a,a2,hm⟩:=aB hm
   refine aC (cT cL rfl o rfl rfl rfl a2) ?_;obtain ⟨d3,b1,b2⟩:=cF.el (sz:=3) rfl o a2
   cases b2
   refine aC (eI (t:=0) (vs:=[i64 a.F,i64 a.B,i64 a.To]) kD l b1 rfl rfl rfl) (bZ (vs:=[i64 0,i64 0,i64 0]) zeroValue66 l rfl (fun b3 d4 b4=>(cA (i:=0) (ns:=[i64 a.F,i64 a.B,i64 a.To]) (us:=[i64 a.F,i64 a.B,i64 a.To]) sizeOf66 b4 rfl rfl rfl rfl rfl (cY rfl) rfl rfl (fun b5 (b6:aJ G K (box b3 66 [i64 a.F,i64 a.B,i64 a.To]::aN 66 K j k h::box e 27 d::L) b5)=>(aG ?_)))));obtain ⟨b7,d5,d6,a3,d7⟩:=aJ.lendBp b6 .head
   refine dT (C:=fun w'=>∃ L',aJ G b7 L' w') [(0,0),(1,0),(2,0),(3,0),(4,0),(5,0),(6,0),(7,0),(8,0),(9,0),(10,0),(11,0),(12,0),(13,0),(14,1),(15,1),(16,0)] bY (by kernel_rfl) (fun _ hg=>⟨_,aJ.mono a3 hg⟩) (fun d8 b8=>?_)
   have d9:=aJ.mono a3 b8
   exact aHU
  ·exact aHU
theorem nU {a b:(List Int)} {R:Bool} (hm:sZ a b=some R) (g:aJ G K (L) w) (h:cF K a1 c2 a) (i:cF K a4 c5 b):
  Calls prog 46 ([zS a1 a.length c2,zS a4 b.length c5]:List Value).toArray w (eH fun v w'=>v=zB R/\aJ G K (L) w'):=by
 refine aS func46 rfl (by kernel_rfl) (by show (2:Nat)<=26;decide) ?_;unfold sZ at hm
 refine aK (aD (v:=zB false) (aG (aO (aK (aF (v:=zS a1 a.length c2) (aC (bO (len:=a.length) cC rfl) (aF (v:=zS a4 b.length c5) (aC (bO (len:=b.length) cC rfl) (aC (qQ rfl rfl) (aG ?_))))))))))
 rcases aH hm with ⟨c,hm⟩|⟨c,hm⟩
 ·exact aHU
 ·refine aI c rfl (aU (aA (aO (aK (aD (v:=i64 0) (aG (aW [] (fun f w=>wE=some R/\aJ G K (L) w) aHU ?_)))))));obtain ⟨j,d,ho⟩:=aB hm
  exact dM [0,1] d (fun e f w=>f 5=i64 e/\aJ G K (L) w) aHU aHU
theorem aDJ {a:(List Int)} {n:Int} {R:(List Int)} (hm:aEK a n=some R) (hs:aJ G K (L) w) (y:cF K a1 c2 a):
  Calls prog 171 ([zS a1 a.length c2,i64 n]:List Value).toArray w (eH fun v w'=>∃ z V,v=zS z R.length V/\aJ G K (aN 2 K z V R::L) w'):=by
 refine aS func171 rfl (by kernel_rfl) (by show (2:Nat)<=49;decide) ?_;unfold aEK at hm
 refine aK (aD (v:=zS none 0 0) (aG (aK (cB (Kt:=K) (xs:=([]:List Int)) (cs:=[]) (vs:=[]) cC iV rfl rfl hs rfl (by kernel_rfl) rfl rfl rfl trivial (fun Z w5 (d0:aJ G K (aN 2 K Z 0 ([]:List Int)::L) w5)=>(aD (v:=zS Z ([]:List Int).length 0) (aG (aK (aD (v:=zB false) (aG (aO (aK (aD (v:=i64 0) (aG (aW [1] (fun f w=>∃ e j k l,zQ n e j=some R/\f 5=zS k e.length l/\f 6=zB j/\aJ G K (aN 2 K k l e::L) w) ?_ ?_)))))))))))))))
 ·rintro f d1 ⟨e,j,k,l,hm,d2,d3,d4⟩
  unfold zQ at hm
  exact aA (oO [] (fun f w=>∃ m a0 a2,zO m=some R/\f 5=zS a0 m.length a2/\aJ G K (aN 2 K a0 a2 m::L) w) aHU aHU)
 obtain ⟨d5,b7,ho⟩:=aB hm
 refine jO [0,1] b7 (fun b o g f w=>∃ c d,f 5=zS c b.length d/\f 6=zB o/\f 7=i64 g/\aJ G K (aN 2 K c d b::L) w) aHU ?_
 ·rintro b o g a3 f d6 hm hr ⟨c,d,b8,d7,a5,d8⟩
  unfold aFY at hm
  refine aO (aK (aY a5 (aF (v:=zS a1 a.length c2) (aC (bO (len:=a.length) cC rfl) (aC (cG rfl rfl) (aG ?_))))))
  rcases aH hm with ⟨a6,hm⟩|⟨a6,hm⟩
  ·refine aL a6 rfl (aU (aA (aO (cN (oO [0,1,7] (fun f w=>∃ p a7 a9 b0,vD a g p a7=some a3/\f 5=zS a9 p.length b0/\f 6=zB a7/\aJ G K (aN 2 K a9 b0 p::L) w) aHU (aO (cP [0,1,5,6,7] (fun f w=>∃ q,zU a n b o g q=some a3/\f 24=zB q/\aJ G K (aN 2 K c d b::L) w) ?_ ?_)))))))
   ·rintro f d9 ⟨q,hm,b9,b1⟩
    unfold zU at hm
    refine aA ?_
    rcases aH hm with ⟨b2,hm⟩|⟨b2,hm⟩
    ·refine aL b2 b9 (aK (aD (v:=zB true) (aG (aK (aF (v:=zS a1 a.length c2) (aY a5 ?_))))));obtain ⟨e0,b3,hm⟩:=aB hm
     refine aC (cT cC rfl y rfl rfl rfl b3) ?_;obtain ⟨e1,c0,c1⟩:=cF.el (sz:=1) rfl y b3
     cases c1
     refine aC (bG (t:=0) cQ b1 c0 rfl rfl) (aF (v:=i64 n) (aC (kC rfl rfl) (aG ?_)))
     rcases aH hm with ⟨b4,hm⟩|⟨b4,hm⟩
     ·refine aL b4 rfl (aP (aY b8 (aF (v:=i64 n) (cB (Kt:=K) (xs:=([n]:List Int)) (cs:=[i64 n]) (vs:=[(0,i64 n)]) cC iV rfl rfl b1 rfl (by kernel_rfl) rfl rfl rfl ⟨rfl,trivial⟩ (fun c3 c4 (c5:aJ G K (aN 2 K c3 1 ([n]:List Int)::aN 2 K c d b::L) c4)=>?_)))));obtain ⟨r,c6,hm⟩:=aB hm
      exact dG (i:=0) cC underlying56 iV rfl rfl c5 rfl (zR _) (zR _) c6 rfl rfl rfl rfl (fun _ h=>h) (fun u x c7 (c8:aJ G K (aN 2 K u x r::L) c7)=>(aD (v:=zS u r.length x) (aG ⟨aM,r,true,u,x,hm,rfl,rfl,c8⟩)))
     ·exact aHU
    ·exact aHU
   exact aHU
  ·exact aHU
theorem aHd {t:cI} {a:Nat} {p:(List Int)} {k:Int} {R:(List Int)} (hm:aFt t p k=some R) (hs:aJ G K (L) w) (b:eY K a1 a (zC t a4 c5 a7 c8)) (h6:cF K a4 c5 t.L) (o:cF K a7 c8 t.E) (b3:cF K a10 c11 p):
  Calls prog 169 ([cS a1 a,zS a10 p.length c11,i64 k]:List Value).toArray w (eH fun v w'=>∃ q r,v=zS q R.length r/\aJ G K (aN 2 K q r R::L) w'):=by
 refine aS func169 rfl (by kernel_rfl) (by show (3:Nat)<=55;decide) ?_;unfold aFt at hm
 refine aK (aD (v:=zS none 0 0) (aG (aK (cB (Kt:=K) (xs:=([]:List Int)) (cs:=[]) (vs:=[]) cC iV rfl rfl hs rfl (by kernel_rfl) rfl rfl rfl trivial (fun u a3 (b4:aJ G K (aN 2 K u 0 ([]:List Int)::L) a3)=>(aD (v:=zS u ([]:List Int).length 0) (aG (aO (aK (aD (v:=i64 0) (aG (aW [] (fun f w=>∃ i x y,wF i=some R/\f 7=zS x i.length y/\aJ G K (aN 2 K x y i::L) w) aHU ?_))))))))))));obtain ⟨b5,a5,ho⟩:=aB hm
 refine cJ [0,1,2] a5 (fun j c f w=>∃ l m,f 7=zS l j.length m/\f 8=i64 c/\aJ G K (aN 2 K l m j::L) w) aHU ?_
 ·rintro j c a6 f b6 hm hr ⟨l,m,b7,n,d⟩
  unfold aEL at hm
  refine aO (aK (aY n (aF (v:=cS a1 a) (aC (cM rfl b) (aC (bU (k':=a+3) cU rfl b rfl) (aC (bG (t:=3) eS d b rfl rfl) (aC (bO (len:=t.E.length) cL rfl) (aC (cG rfl rfl) (aG ?_)))))))))
  rcases aH hm with ⟨z,hm⟩|⟨z,hm⟩
  ·refine aL z rfl (aU (aA (aO (aW [0,1,2,8] (fun f w=>∃ e g h,wG c e=some a6/\f 7=zS g e.length h/\aJ G K (aN 2 K g h e::L) w) ?_ ?_))))
   ·rintro f b8 ⟨e,g,h,hm,a8,a9⟩
    unfold wG at hm
    exact aA (aP (aY n (aC (cE rfl rfl) (aD (v:=i64 (wr (c+1))) (aG ⟨_,(zI hm).symm,aM,g,h,a8,rfl,a9⟩)))))
   refine aK (aF (v:=cS a1 a) (aC (cM rfl b) (aC (bU (k':=a+3) cU rfl b rfl) (aC (bG (t:=3) eS d b rfl rfl) (aY n ?_)))));obtain ⟨b9,V,hm⟩:=aB hm
   refine aC (cT cL rfl o rfl rfl rfl V) ?_;obtain ⟨c0,Z,b0⟩:=cF.el (sz:=3) rfl o V
   cases b0
   refine aC (bU (k':=c.toNat * 3+0) gP rfl Z rfl) (aC (bG (t:=0) cQ d Z rfl rfl) (aF (v:=i64 k) (aC (fA rfl rfl) (aG ?_))))
   rcases aH hm with ⟨a0,hm⟩|⟨a0,hm⟩
   ·refine aL a0 rfl (dT (C:=fun w'=>∃ L',aJ G K L' w') [(0,0),(1,0),(2,0),(3,0),(4,0),(5,0),(6,0),(7,0),(8,0),(9,0),(10,0),(11,0),(12,0),(13,0),(14,0),(15,0),(16,0),(17,0),(18,0),(19,0),(20,0),(21,0),(22,0),(23,0),(24,1),(25,0)] bY (by kernel_rfl) (fun _ hg=>⟨_,aJ.mono d hg⟩) (fun c1 b1=>?_))
    have c2:=aJ.mono d b1
    exact aHU
   ·exact aHU
  ·exact aHU
theorem aFE {t:cI} {q:Nat} {p R:(List Int)} (hm:aCc t p=some R) (hs:aJ G K (L) w) (h3:eY K a1 q (zC t a4 c5 a7 c8)) (h6:cF K a4 c5 t.L) (h9:cF K a7 c8 t.E) (a0:cF K a10 c11 p):
  Calls prog 135 ([cS a1 q,zS a10 p.length c11]:List Value).toArray w (eH fun v w'=>∃ d1 d2,v=zS d1 R.length d2/\aJ G K (aN 2 K d1 d2 R::L) w'):=by
 refine aS func135 rfl (by kernel_rfl) (by show (2:Nat)<=78;decide) ?_;unfold aCc at hm
 refine aK (aD (v:=zS none 0 0) (aG (aK (cB (Kt:=K) (xs:=([]:List (List Int))) (cs:=[]) (vs:=[]) kU aBT rfl rfl hs rfl (by kernel_rfl) rfl rfl rfl trivial (fun d3 f7 (k7:aJ G K (aN 56 K d3 0 ([]:List (List Int))::L) f7)=>(aD (v:=zS d3 ([]:List (List Int)).length 0) (aG (aO (aK (aD (v:=i64 0) (aG (aW [1] (fun f w=>∃ b d h j,Hp.le K b/\pF p d=some R/\f 5=zS h d.length j/\aJ G b (aN 56 b h j d::L) w) ?_ ?_))))))))))))
 ·rintro f k8 ⟨b,d,h,j,a3,hm,d4,f8⟩
  unfold pF at hm
  refine aA (aK (cB (Kt:=K) (xs:=([]:List Int)) (cs:=[]) (vs:=[]) cC iV rfl rfl f8 rfl (by kernel_rfl) rfl rfl rfl trivial (fun d5 f9 (k9:aJ G b (aN 2 K d5 0 ([]:List Int)::aN 56 b h j d::L) f9)=>(aD (v:=zS d5 ([]:List Int).length 0) (aG (aK (aD (v:=i64 0) (aG (aO (aK (aD (v:=i64 0) (aG (aW [] (fun f w=>∃ b4 d6 d7,qW b4=some R/\f 7=zS d6 b4.length d7/\aJ G b (aN 2 K d6 d7 b4::L) w) aHU ?_)))))))))))))
  obtain ⟨l0,g0,ho⟩:=aB hm
  refine jO [1,5] g0 (fun e b5 o f w=>∃ k l,f 7=zS k e.length l/\f 8=i64 b5/\f 9=i64 o/\aJ G b (aN 2 K k l e::aN 56 b h j d::L) w) aHU ?_
  ·rintro e b5 o b6 f l1 hm hr ⟨k,l,l2,l3,a5,l4⟩
   unfold aCb at hm
   refine aO (aK (aY a5 (aF (v:=zS a10 p.length c11) (aC (bO (len:=p.length) cC rfl) (aC (cG rfl rfl) (aG ?_))))))
   rcases aH hm with ⟨d8,hm⟩|⟨d8,hm⟩
   ·refine aL d8 rfl (aU (aA (aO (aW [1,5,9] (fun f w=>∃ a6 b7 a8 a9,xW o a6 b7=some b6/\f 7=zS a8 a6.length a9/\f 8=i64 b7/\aJ G b (aN 2 K a8 a9 a6::aN 56 b h j d::L) w) ?_ ?_))))
    ·rintro f l5 ⟨a6,b7,a8,a9,hm,g1,g2,g3⟩
     unfold xW at hm
     exact aA (aP (aY a5 (aC (cE rfl rfl) (aD (v:=i64 (wr (o+1))) (aG ⟨_,(zI hm).symm,aM,a8,a9,g1,g2,rfl,g3⟩)))))
    refine aK (aD (v:=i64 (-1)) (aG (aO (aK (aD (v:=i64 0) (aG (aW [1,5,7,8,9] (fun f w=>∃ b8,qY e b5 o b8=some b6/\f 10=i64 b8/\aJ G b (aN 2 K k l e::aN 56 b h j d::L) w) ?_ ?_)))))))
    ·rintro f l6 ⟨b8,hm,l7,l8⟩
     unfold qY at hm
     exact aA (oO [1,5,7,9] (fun f w=>∃ d9 e0,qX e o d9 e0=some b6/\f 8=i64 d9/\f 10=i64 e0/\aJ G b (aN 2 K k l e::aN 56 b h j d::L) w) aHU aHU)
    obtain ⟨l9,g4,ho⟩:=aB hm
    refine cJ [1,5,7,8,9] g4 (fun b0 r f w=>f 10=i64 b0/\f 11=i64 r/\aJ G b (aN 2 K k l e::aN 56 b h j d::L) w) aHU ?_
    ·rintro b0 r b9 f m0 hm hr ⟨m1,c0,m2⟩
     unfold aCa at hm
     refine aO (aO (cP [1,5,7,8,9,10,11] (fun f w=>∃ c1,rB p d e o b0 r c1=some b9/\f 41=zB c1/\aJ G b (aN 2 K k l e::aN 56 b h j d::L) w) ?_ ?_))
     ·rintro f m3 ⟨c1,hm,g5,g6⟩
      unfold rB at hm
      refine aA ?_
      rcases aH hm with ⟨e1,hm⟩|⟨e1,hm⟩
      ·refine aL e1 g5 (aU (aA (aO (aW [1,5,7,8,9,11] (fun f w=>∃ c2,qZ r c2=some b9/\f 10=i64 c2/\aJ G b (aN 2 K k l e::aN 56 b h j d::L) w) ?_ ?_))))
       ·rintro f m4 ⟨c2,hm,g7,g8⟩
        unfold qZ at hm
        exact aA (aP (aY c0 (aC (cE rfl rfl) (aD (v:=i64 (wr (r+1))) (aG ⟨_,(zI hm).symm,aM,g7,rfl,g8⟩)))))
       refine aO (cP [1,5,7,8,9,10,11] (fun f w=>∃ e2,rA e b0 r e2=some b9/\f 63=zB e2/\aJ G b (aN 2 K k l e::aN 56 b h j d::L) w) aHU ?_);obtain ⟨g9,b1,c3,a,e3⟩:=aJ.lendSp g6 (zR _) zt1
       refine dO (C:=fun w'=>aJ G g9 (aN 2 K k l e::L) w') bY (by kernel_rfl) (aJ.mono a (dK.drew _)) (bD (fun _ a=>bA (v:=zS a10 p.length c11) rfl) (bD (fun _ a=>bA c0) ?_));obtain ⟨h0,e4,hm⟩:=aB hm
       refine bD (fun _ a=>cT cC rfl (a0.mono (zL a3 b1)) rfl rfl rfl e4) ?_;obtain ⟨m5,h1,h2⟩:=cF.el (sz:=1) rfl a0 e4
       cases h2
       refine bD (fun _ a=>bG (t:=0) cQ a (h1.mono (zL a3 b1)) rfl rfl) (bD (fun _ a=>bA (v:=zS a10 p.length c11) rfl) (bD (fun _ a=>bA a5) ?_));obtain ⟨h4,e5,hm⟩:=aB hm
       refine bD (fun _ a=>cT cC rfl (a0.mono (zL a3 b1)) rfl rfl rfl e5) ?_;obtain ⟨m6,h5,h7⟩:=cF.el (sz:=1) rfl a0 e5
       cases h7
       refine bD (fun _ a=>bG (t:=0) cQ a (h5.mono (zL a3 b1)) rfl rfl) (bD (fun _ a=>fA rfl rfl) (bD (fun _ a=>bA (v:=zB (h0 == h4)) rfl) ?_))
       rcases aH hm with ⟨c,hm⟩|⟨c,hm⟩
       ·refine bW (g:=53) rfl rfl c (bD (fun _ a=>bA d4) (bW (g:=53) rfl rfl c (bD (fun _ a=>bA c0) (bW (g:=53) rfl rfl c ?_))));obtain ⟨h8,c4,hm⟩:=aB hm
        have e6:=aAS c3 c4
        refine bD (fun _ a=>dD kU rfl e6 rfl rfl rfl c4) (bW (g:=53) rfl rfl c ?_);obtain ⟨m7,i0,i1⟩:=cF.el (sz:=1) rfl c3 c4
        obtain ⟨i2,i3,rfl,i4⟩:=i1
        refine bD (fun _ a=>bG (t:=0) aEx a i0 rfl rfl) (bW (g:=53) rfl rfl c (bD (fun _ a=>bA d4) (bW (g:=53) rfl rfl c (bD (fun _ a=>bA a5) (bW (g:=53) rfl rfl c ?_)))));obtain ⟨i5,e7,hm⟩:=aB hm
        refine bD (fun _ a=>dD kU rfl e6 rfl rfl rfl e7) (bW (g:=53) rfl rfl c ?_);obtain ⟨m8,i6,i7⟩:=cF.el (sz:=1) rfl c3 e7
        obtain ⟨i8,i9,rfl,j0⟩:=i7
        refine bD (fun _ a=>bG (t:=0) aEx a i6 rfl rfl) (bW (g:=53) rfl rfl c ?_);obtain ⟨e8,j1,hm⟩:=aB hm
        refine lU (vs:=[zS i2 h8.length i3,zS i8 i5.length i9]) (v:=zB e8) call46 rfl (fun _ a=>(nU j1 a i4 j0)) (bD (fun _ a=>bL (v:=zB e8) c rfl rfl) (dS (fun m9 j2=>?_)))
        have n0:=e3 _ _ j2
        exact aHU
       ·refine bE (g:=53) rfl rfl (dL c) (bE (g:=53) rfl rfl (dL c) (bE (g:=53) rfl rfl (dL c) (bE (g:=53) rfl rfl (dL c) (bE (g:=53) rfl rfl (dL c) (bE (g:=53) rfl rfl (dL c) (bE (g:=53) rfl rfl (dL c) (bE (g:=53) rfl rfl (dL c) (bE (g:=53) rfl rfl (dL c) (bD (fun _ a=>bP (v:=zB false) c rfl rfl) (dS (fun n1 j3=>?_)))))))))))
        have n2:=e3 _ _ j3
        exact aHU
      ·exact aHU
     exact aHU
   ·exact aHU
 obtain ⟨n3,j4,ho⟩:=aB hm
 refine cJ [0,1] j4 (fun u b2 f w=>∃ m x y,Hp.le K m/\f 5=zS x u.length y/\f 6=i64 b2/\aJ G m (aN 56 m x y u::L) w) aHU ?_
 ·rintro u b2 n4 f n5 hm hr ⟨m,x,y,n,j5,c6,e9⟩
  unfold aBs at hm
  refine aO (aK (aY c6 (aF (v:=cS a1 q) (aC (cM rfl (h3.mono n)) (aC (bU (k':=q+0) fW rfl (h3.mono n) rfl) (aC (bG (t:=0) cQ e9 (h3.mono n) rfl rfl) (aC (cG rfl rfl) (aG ?_))))))))
  rcases aH hm with ⟨f0,hm⟩|⟨f0,hm⟩
  ·refine aL f0 rfl (aU (aA (aO (cN (aP (aY j5 (aF (v:=cS a1 q) (aF (v:=zS a10 p.length c11) (aY c6 ?_)))))))));obtain ⟨z,j6,hm⟩:=aB hm
   refine aR (vs:=[cS a1 q,zS a10 p.length c11,i64 b2]) call169 rfl (aHd j6 e9 (h3.mono n) (h6.mono n) (h9.mono n) (a0.mono n)) ?_
   rintro _ j7 ⟨V,Z,rfl,j8⟩
   have j9:aJ G m (rows [2] ([(V,Z)]:List (Dp.Hd (List Int))) [z]::aN 56 m x y u::L) j7:=aJ.rowsOne j8
   refine cB (Kt:=K) (xs:=dB ([(V,Z)]:List (Dp.Hd (List Int))) ([z]:List (List Int))) (cs:=[zS V z.length Z]) (vs:=[(0,zS V z.length Z)]) kU aBT rfl rfl j9 rfl (by kernel_rfl) rfl rfl rfl ⟨rfl,trivial⟩ ?_
   intro k0 f1 (k1:aJ G m (aN 56 K k0 1 (dB ([(V,Z)]:List (Dp.Hd (List Int))) ([z]:List (List Int)))::rows [2] ([(V,Z)]:List (Dp.Hd (List Int))) ([z]:List (List Int))::aN 56 m x y u::L) f1)
   obtain ⟨b3,f2,k3,_,c7,_⟩:=aJ.lendD' (i:=0) k1 rfl rfl rfl
   replace c7:aJ G b3 (aN 56 m x y u::L) f1:=c7
   obtain ⟨f3,k4,hm⟩:=aB hm
   exact kP (i:=0) kU underlying46 aBT rfl rfl c7 rfl f2 k3 k4 rfl rfl rfl rfl (fun c9 d0 k5 (k6:aJ G b3 (aN 56 b3 c9 d0 f3::L) k5)=>(aD (v:=zS c9 f3.length d0) (bB (aX (aA (aP (aY c6 (aC (cE rfl rfl) (aD (v:=i64 (wr (b2+1))) (aG ⟨_,(zI hm).symm,aM,b3,c9,d0,(zL n f2),rfl,rfl,k6⟩))))))))))
  ·exact aHU
theorem aFF {t:cI} {a:Nat} {R:((List Int) × Int)} (hm:aCe t=some R) (m:aJ G K (L) w) (g:eY K a1 a (zC t a4 c5 a7 c8)) (u:cF K a4 c5 t.L) (x:cF K a7 c8 t.E):
  Calls prog 87 ([cS a1 a]:List Value).toArray w (eH fun v w'=>∃ n o,v=Value.tuple #[zS n R.1.length o,i64 R.2]/\aJ G K (aN 2 K n o R.1::L) w'):=by
 refine aS func87 rfl (by kernel_rfl) (by show (1:Nat)<=23;decide) ?_;unfold aCe at hm
 refine aK (aD (v:=zS none 0 0) (aD (v:=i64 0) (aG (aK (aF (v:=cS a1 a) (aC (cM rfl g) (aC (bU (k':=a+0) fW rfl g rfl) (aC (bG (t:=0) cQ m g rfl rfl) ?_))))))));obtain ⟨h,y,hm⟩:=aB hm
 refine aDh (e:=(0:Int)) cC iV rfl rfl m rfl rfl rfl y rfl (fun p z (c0:aJ G K (aN 2 K p h.length h::L) z)=>(aD (v:=zS p h.length h.length) (aG (aK (aD (v:=i64 0) (aG (cN ?_)))))));obtain ⟨c1,V,ho⟩:=aB hm
 refine cJ [0] V (fun b q f w=>∃ c d,f 4=zS c b.length d/\f 5=i64 q/\aJ G K (aN 2 K c d b::L) w) aHU ?_
 ·rintro b q c2 f c3 hm hr ⟨c,d,r,c4,Z⟩
  unfold aCd at hm
  refine aO (cN (aK (aF (v:=cS a1 a) (aY r ?_))));obtain ⟨c6,i,a0,a2,a3⟩:=aJ.lendSp Z (zR _) .head
  obtain ⟨j,a5,hm⟩:=aB hm
  refine aR (vs:=[cS a1 a,zS c b.length d]) call135 rfl (aFE a5 a2 (g.mono i) (u.mono i) (x.mono i) a0) ?_
  rintro _ c7 ⟨k,l,rfl,a6⟩
  have a8:=a3 _ _ a6
  refine aD (v:=zS k j.length l) (aG (aO (aK (aF (v:=zS k j.length l) (aY r ?_)))));obtain ⟨c9,a9,b0,b1,b2⟩:=aJ.lendSp a8 (zR _) zt1
  obtain ⟨d0,b3,b4,b5,b6⟩:=aJ.lendSp b1 a9 .head
  obtain ⟨d1,b7,hm⟩:=aB hm
  refine aR (vs:=[zS k j.length l,zS c b.length d]) call46 rfl (nU b7 b5 (b0.mono b3) b4) ?_
  rintro _ d2 ⟨rfl,b8⟩
  have b9:=b6 _ _ b8
  have d3:=b2 _ _ b9
  exact aHU
theorem aCG {t:cI} {a:Nat} {R:(List Int)} (hm:aCV t=some R) (d:aJ G K (L) w) (e:eY K a1 a (zC t a4 c5 a7 c8)) (g:cF K a4 c5 t.L) (h:cF K a7 c8 t.E):
  Calls prog 40 ([cS a1 a]:List Value).toArray w (eH fun v w'=>∃ b c,v=zS b R.length c/\aJ G K (aN 2 K b c R::L) w'):=by
 exact aHU
theorem aGk {t:cI} {b:Nat} {R:cI} (hm:aDV t=some R) (hs:aJ G K (L) w) (n:eY K a1 b (zC t a4 c5 a7 c8)) (o:cF K a4 c5 t.L) (p:cF K a7 c8 t.E):
  Calls prog 15 ([cS a1 b]:List Value).toArray w (eH fun v w'=>∃ q r u x,v=Value.agg (zCa R q r u x)/\aJ G K (aN 9 K q r R.L::aN 66 K u x R.E::L) w'):=by
 let h:=zG
 refine aS func15 rfl (by kernel_rfl) (by show (1:Nat)<=10;decide) ?_;unfold aDV at hm
 refine aK (bZ (vs:=h) zeroValue27 hs rfl (fun a5 f1 a6=>(aG (aK (aF (v:=cS a1 b) (aF (v:=cS a1 b) ?_))))));obtain ⟨y,a8,hm⟩:=aB hm
 refine aR (vs:=[cS a1 b]) call38 rfl (vR a8 a6 n o p) ?_
 rintro _ f2 ⟨z,V,rfl,a9⟩
 obtain ⟨f3,j,b0,b1,b2⟩:=aJ.lendSp a9 (zR _) .head
 obtain ⟨a,b3,hm⟩:=aB hm
 refine aR (vs:=[cS a1 b,zS z y.length V]) call37 rfl (yF b3 b1 (n.mono j) (o.mono j) (p.mono j) b0) ?_
 rintro _ f4 ⟨c,d,e,g,rfl,b4⟩
 have b5:=b2 _ _ b4
 refine bZ (vs:=h) zeroValue27 b5 rfl (fun k f5 b6=>(cA (i:=0) (ns:=(zC a c d e g)) (us:=(zC a c d e g)) sizeOf27 b6 rfl rfl rfl rfl rfl (cY rfl) rfl rfl (fun b7 (b8:aJ G K (box k 27 (zC a c d e g)::aN 2 K z V y::aN 9 K c d a.L::aN 66 K e g a.E::box a5 27 h::L) b7)=>(aG (aK ?_)))));obtain ⟨f6,b9,c0,c1,c2⟩:=aJ.lendSp b8 (zR _) zt2
 obtain ⟨f7,c3,c4,c6,c7⟩:=aJ.lendSp c1 b9 zt2
 obtain ⟨f8,Z,c9,d0,d1⟩:=aJ.lendBp c6 .head
 obtain ⟨d2,d3,hm⟩:=aB hm
 refine aR (vs:=[cS (some ⟨k,0,none⟩) 0]) call40 rfl (aCG d3 d0 c9 (c0.mono (zL c3 Z)) (c4.mono Z)) ?_
 rintro _ f9 ⟨d4,d5,rfl,d6⟩
 have d7:=d1 _ _ d6
 have d8:=c7 _ _ d7
 have d9:=c2 _ _ d8
 obtain ⟨g0,a0,e0,e1,g1⟩:=aJ.lendSp d9 (zR _) .head
 obtain ⟨g2,a2,e2,e3,g3⟩:=aJ.lendSp e1 a0 .head
 obtain ⟨g4,l,e4,e5,g5⟩:=aJ.lendBp e3 .head
 obtain ⟨g6,m,e6,e7,e8⟩:=aJ.lendSp e5 (zL (zL a0 a2) l) .head
 obtain ⟨g7,e9,hm⟩:=aB hm
 refine aR (vs:=[cS (some ⟨k,0,none⟩) 0,zS d4 d2.length d5]) call39 rfl (aEj e9 e7 (e4.mono m) (e0.mono (zL (zL a2 l) m)) (e2.mono (zL l m)) e6) ?_
 rintro _ g8 ⟨g9,h0,h1,h2,rfl,f0⟩
 have h4:=e8 _ _ f0
 exact aHU
theorem qC {e:Edge} {a:Nat} {p:(List Int)} {R:Bool} (hm:tA e p=some R) (c:aJ G K (L) w) (d:eY K a1 a [i64 e.F,i64 e.B,i64 e.To]) (g:cF K a4 c5 p):
  Calls prog 88 ([cS a1 a,zS a4 p.length c5]:List Value).toArray w (eH fun v w'=>v=zB R/\aJ G K (L) w'):=by
 refine aS func88 rfl (by kernel_rfl) (by show (2:Nat)<=27;decide) ?_;unfold tA at hm
 exact aK (aD (v:=zB false) (aG (aO (cP [] (fun f w=>∃ b,tQ b=some R/\f 4=zB b/\aJ G K (L) w) aHU aHU))))
theorem aHe {a:(List Bool)} {R:(List Int)} (hm:aFu a=some R) (r:aJ G K (L) w) (V:cF K a1 c2 a):
  Calls prog 89 ([zS a1 a.length c2]:List Value).toArray w (eH fun v w'=>∃ k l,v=zS k R.length l/\aJ G K (aN 2 K k l R::L) w'):=by
 refine aS func89 rfl (by kernel_rfl) (by show (1:Nat)<=21;decide) ?_;unfold aFu at hm
 refine aK (aD (v:=zS none 0 0) (aG (aK (cB (Kt:=K) (xs:=([]:List Int)) (cs:=[]) (vs:=[]) cC iV rfl rfl r rfl (by kernel_rfl) rfl rfl rfl trivial (fun m t (Z:aJ G K (aN 2 K m 0 ([]:List Int)::L) t)=>(aD (v:=zS m ([]:List Int).length 0) (aG (aO (aK (aD (v:=i64 0) (aG (aW [] (fun f w=>∃ g n o,wH g=some R/\f 3=zS n g.length o/\aJ G K (aN 2 K n o g::L) w) aHU ?_))))))))))));obtain ⟨a0,u,ho⟩:=aB hm
 refine cJ [0] u (fun h b f w=>∃ i j,f 3=zS i h.length j/\f 4=i64 b/\aJ G K (aN 2 K i j h::L) w) aHU ?_
 ·rintro h b x f a2 hm hr ⟨i,j,a3,p,a5⟩
  unfold aEM at hm
  refine aO (aK (aY p (aF (v:=zS a1 a.length c2) (aC (bO (len:=a.length) eM rfl) (aC (cG rfl rfl) (aG ?_))))))
  rcases aH hm with ⟨q,hm⟩|⟨q,hm⟩
  ·refine aL q rfl (aU (aA (aO (aW [0,4] (fun f w=>∃ c d e,wI b c=some x/\f 3=zS d c.length e/\aJ G K (aN 2 K d e c::L) w) ?_ ?_))))
   ·rintro f a6 ⟨c,d,e,hm,y,z⟩
    unfold wI at hm
    exact aA (aP (aY p (aC (cE rfl rfl) (aD (v:=i64 (wr (b+1))) (aG ⟨_,(zI hm).symm,aM,d,e,y,rfl,z⟩)))))
   exact aHU
  ·exact aHU
theorem aAc {t:cI} {j:Nat} {p:(List Int)} {R:(List Bool)} (hm:wJ t p=some R) (hs:aJ G K (L) w) (c:eY K a1 j (zC t a4 c5 a7 c8)) (h6:cF K a4 c5 t.L) (h9:cF K a7 c8 t.E) (e3:cF K a10 c11 p):
  Calls prog 90 ([cS a1 j,zS a10 p.length c11]:List Value).toArray w (eH fun v w'=>∃ c1 c2,v=zS c1 R.length c2/\aJ G K (aN 4 K c1 c2 R::L) w'):=by
 refine aS func90 rfl (by kernel_rfl) (by show (2:Nat)<=82;decide) ?_;unfold wJ at hm
 refine aK (aD (v:=zS none 0 0) (aG (aK (aF (v:=cS a1 j) (aC (cM rfl c) (aC (bU (k':=j+0) fW rfl c rfl) (aC (bG (t:=0) cQ hs c rfl rfl) ?_)))))));obtain ⟨a,e4,hm⟩:=aB hm
 refine aDh (e:=(false:Bool)) eM ez_4 rfl rfl hs rfl rfl rfl e4 rfl (fun b e5 (i1:aJ G K (aN 4 K b a.length a::L) e5)=>(aD (v:=zS b a.length a.length) (aG (aO (aK (aD (v:=i64 0) (aG (aW [0,1] (fun f w=>∃ r,nY t p r=some R/\f 5=zS b r.length a.length/\aJ G K (aN 4 K b a.length r::L) w) ?_ ?_))))))))
 ·rintro f i2 ⟨r,hm,i3,i4⟩
  unfold nY at hm
  refine aA (aO (aK (aD (v:=zB true) (aG (aW [] (fun f w=>∃ V,pG V=some R/\f 5=zS b V.length a.length/\aJ G K (aN 4 K b a.length V::L) w) aHU ?_)))));obtain ⟨i5,e6,ho⟩:=aB hm
  refine cJ [0,1] e6 (fun Z c3 f w=>f 5=zS b Z.length a.length/\f 7=zB c3/\aJ G K (aN 4 K b a.length Z::L) w) aHU ?_
  ·rintro Z c3 c4 f i6 hm hr ⟨i7,e7,i8⟩
   unfold aBv at hm
   refine aO (aK (aY e7 (aG ?_)))
   rcases aH hm with ⟨c6,hm⟩|⟨c6,hm⟩
   ·refine aL c6 rfl (aU (aA (aW [0,1] (fun f w=>∃ u a0,vK u a0=some c4/\f 5=zS b u.length a.length/\f 7=zB a0/\aJ G K (aN 4 K b a.length u::L) w) ?_ ?_)))
    ·rintro f i9 ⟨u,a0,hm,e8,e9,f0⟩
     unfold vK at hm
     exact aA ⟨_,(zI hm).symm,aM,e8,e9,f0⟩
    refine aK (aD (v:=zB false) (aG (aK (aD (v:=i64 0) (aG (aW [0,1] (fun f w=>∃ a2 c7,pH a2 c7=some c4/\f 5=zS b a2.length a.length/\f 7=zB c7/\aJ G K (aN 4 K b a.length a2::L) w) aHU ?_))))));obtain ⟨j0,f1,ho⟩:=aB hm
    refine jO [0,1] f1 (fun k a3 l f w=>f 5=zS b k.length a.length/\f 7=zB a3/\f 8=i64 l/\aJ G K (aN 4 K b a.length k::L) w) aHU ?_
    ·rintro k a3 l c9 f j1 hm hr ⟨a5,j2,o,a6⟩
     unfold aBu at hm
     refine aO (aK (aY o (aF (v:=cS a1 j) (aC (cM rfl c) (aC (bU (k':=j+0) fW rfl c rfl) (aC (bG (t:=0) cQ a6 c rfl rfl) (aC (cG rfl rfl) (aG ?_))))))))
     rcases aH hm with ⟨d0,hm⟩|⟨d0,hm⟩
     ·refine aL d0 rfl (aU (aA (aO (aW [0,1,8] (fun f w=>∃ x a8,mC l x a8=some c9/\f 5=zS b x.length a.length/\f 7=zB a8/\aJ G K (aN 4 K b a.length x::L) w) ?_ ?_))))
      ·rintro f j3 ⟨x,a8,hm,f2,f3,f4⟩
       unfold mC at hm
       exact aA (aP (aY o (aC (cE rfl rfl) (aD (v:=i64 (wr (l+1))) (aG ⟨_,(zI hm).symm,aM,f2,f3,rfl,f4⟩)))))
      refine aO (aK (aY a5 (aY o ?_)));obtain ⟨j4,q,hm⟩:=aB hm
      have d1:=cX a6 (i:=0) rfl q
      refine aC (dD eM rfl d1 rfl rfl rfl q) (aC (gX (t:=0) aAU a6 (i:=0) rfl q rfl rfl rfl) (aC (dE rfl) (aG ?_)))
      rcases aH hm with ⟨d2,hm⟩|⟨d2,hm⟩
      ·exact aHU
      ·refine aI d2 rfl (aU (aA (aK (aD (v:=zB false) (aG (aO (aK (aD (v:=i64 0) (aG (aW [0,1,5,7,8] (fun f w=>∃ a9,pI k a3 l a9=some c9/\f 9=zB a9/\aJ G K (aN 4 K b a.length k::L) w) ?_ ?_))))))))))
       ·rintro f j5 ⟨a9,hm,f5,f6⟩
        unfold pI at hm
        refine aA (aK (aY f5 (aC (dE rfl) (aG ?_))))
        rcases aH hm with ⟨d3,hm⟩|⟨d3,hm⟩
        ·refine aL d3 rfl (aK (aY a5 (aY o (aC (dD eM rfl d1 rfl rfl rfl q) ?_))));obtain ⟨d4,d5,hm⟩:=aB hm
         exact jL (i:=0) (t:=0) (ns:=[zB false]) (e':=(false:Bool)) sizeOf4 f6 rfl (zR _) rfl rfl rfl q d5 rfl rfl (cY rfl) rfl (fun cs h=>by cases h;rfl) (fun f7 (f8:aJ G K (aN 4 K b a.length d4::L) f7)=>(aG (aP (aD (v:=zB true) (bB (aX (aA ⟨aM,d4,true,hm,(Eq.trans a5 (congrArg (fun n=>zS b n a.length) (iM d5))),rfl,f8⟩)))))))
        ·exact aHU
       obtain ⟨j6,f9,ho⟩:=aB hm
       refine cJ [0,1,5,7,8] f9 (fun b0 y f w=>f 9=zB b0/\f 10=i64 y/\aJ G K (aN 4 K b a.length k::L) w) aHU ?_
       ·rintro b0 y g0 f j7 hm hr ⟨g1,b1,z⟩
        unfold aBt at hm
        refine aO (aK (aY b1 (aF (v:=cS a1 j) (aC (cM rfl c) (aC (bU (k':=j+3) cU rfl c rfl) (aC (bG (t:=3) eS z c rfl rfl) (aC (bO (len:=t.E.length) cL rfl) (aC (cG rfl rfl) (aG ?_)))))))))
        rcases aH hm with ⟨d6,hm⟩|⟨d6,hm⟩
        ·refine aL d6 rfl (aU (aA (aO (cN (aK (aF (v:=cS a1 j) (aC (cM rfl c) (aC (bU (k':=j+3) cU rfl c rfl) (aC (bG (t:=3) eS z c rfl rfl) (aY b1 ?_))))))))));obtain ⟨d,d7,hm⟩:=aB hm
         refine aC (cT cL rfl h9 rfl rfl rfl d7) ?_;obtain ⟨j8,g2,g3⟩:=cF.el (sz:=3) rfl h9 d7
         cases g3
         refine aC (eI (t:=0) (vs:=[i64 d.F,i64 d.B,i64 d.To]) kD z g2 rfl rfl rfl) (bZ (vs:=[i64 0,i64 0,i64 0]) zeroValue66 z rfl (fun d8 j9 g4=>(cA (i:=0) (ns:=[i64 d.F,i64 d.B,i64 d.To]) (us:=[i64 d.F,i64 d.B,i64 d.To]) sizeOf66 g4 rfl rfl rfl rfl rfl (cY rfl) rfl rfl (fun g5 (d9:aJ G K (box d8 66 [i64 d.F,i64 d.B,i64 d.To]::aN 4 K b a.length k::L) g5)=>(aG (cP [0,1,5,7,8,10] (fun f w=>∃ b2,kT y b2=some g0/\f 9=zB b2/\aJ G K (aN 4 K b a.length k::L) w) ?_ ?_))))))
         ·rintro f k0 ⟨b2,hm,g6,g7⟩
          unfold kT at hm
          exact aX (aA (aP (aY b1 (aC (cE rfl rfl) (aD (v:=i64 (wr (y+1))) (aG ⟨_,(zI hm).symm,aM,g6,rfl,g7⟩))))))
         refine aP (aY g1 (aF (v:=zB b0) ?_))
         rcases aH hm with ⟨m,hm⟩|⟨m,hm⟩
         ·exact aHU
         ·refine bK m rfl rfl (aC (bT (t':=0) gP rfl rfl) (bK m rfl rfl (aC (dC cQ d9 (i:=0) rfl rfl rfl) (bK m rfl rfl (aY o (bK m rfl rfl (aC (fA rfl rfl) (bK m rfl rfl (aF (v:=zB (d.F == l)) ?_)))))))))
          rcases aH hm with ⟨b3,hm⟩|⟨b3,hm⟩
          ·refine bF b3 rfl rfl (aF (v:=zS a10 p.length c11) (bF b3 rfl rfl ?_));obtain ⟨k1,g8,g9,h0,k3⟩:=aJ.lendBp d9 .head
           obtain ⟨k4,h1,hm⟩:=aB hm
           exact aR (vs:=[cS (some ⟨d8,0,none⟩) 0,zS a10 p.length c11]) call88 rfl (qC h1 h0 g9 (e3.mono g8)) aHU
          ·exact aHU
        ·exact aHU
     ·exact aHU
   ·exact aHU
 obtain ⟨k5,h2,ho⟩:=aB hm
 refine cJ [0,1] h2 (fun b4 b5 f w=>f 5=zS b b4.length a.length/\f 6=i64 b5/\aJ G K (aN 4 K b a.length b4::L) w) aHU ?_
 ·rintro b4 b5 k6 f k7 hm hr ⟨e0,b6,b7⟩
  unfold aAC at hm
  refine aO (aK (aY b6 (aF (v:=cS a1 j) (aC (cM rfl c) (aC (bU (k':=j+0) fW rfl c rfl) (aC (bG (t:=0) cQ b7 c rfl rfl) (aC (cG rfl rfl) (aG ?_))))))))
  rcases aH hm with ⟨e1,hm⟩|⟨e1,hm⟩
  ·refine aL e1 rfl (aU (aA (aO (cN (aP (aY e0 (aY b6 ?_)))))));obtain ⟨k8,b8,hm⟩:=aB hm
   have h4:=cX b7 (i:=0) rfl b8
   refine aC (dD eM rfl h4 rfl rfl rfl b8) ?_;obtain ⟨h5,e2,hm⟩:=aB hm
   exact jL (i:=0) (t:=0) (ns:=[zB true]) (e':=(true:Bool)) sizeOf4 b7 rfl (zR _) rfl rfl rfl b8 e2 rfl rfl (cY rfl) rfl (fun cs h=>by cases h;rfl) (fun h7 (h8:aJ G K (aN 4 K b a.length h5::L) h7)=>(bB (aX (aA (aP (aY b6 (aC (cE rfl rfl) (aD (v:=i64 (wr (b5+1))) (aG ⟨_,(zI hm).symm,aM,(Eq.trans e0 (congrArg (fun n=>zS b n a.length) (iM e2))),rfl,h8⟩)))))))))
  ·exact aHU
theorem yG {t:cI} {k:Nat} {p:(List Int)} {z:Bool} {R:cI} (hm:tR t p z=some R) (hs:aJ G K (L) w) (m:eY K a1 k (zC t a4 c5 a7 c8)) (h6:cF K a4 c5 t.L) (h9:cF K a7 c8 t.E) (g:cF K a10 c11 p):
  Calls prog 41 ([cS a1 k,zS a10 p.length c11,zB z]:List Value).toArray w (eH fun v w'=>∃ d4 d5 d6 d7,v=Value.agg (zCa R d4 d5 d6 d7)/\aJ G K (aN 9 K d4 d5 R.L::aN 66 K d6 d7 R.E::L) w'):=by
 let b:=zG
 refine aS func41 rfl (by kernel_rfl) (by show (3:Nat)<=92;decide) ?_;unfold tR at hm
 refine aK (bZ (vs:=b) zeroValue27 hs rfl (fun c m1 g5=>(aG (aK (cB (Kt:=K) (xs:=([]:List Edge)) (cs:=[]) (vs:=[]) cL gC rfl rfl g5 rfl (by kernel_rfl) rfl rfl rfl trivial (fun d8 g6 (m2:aJ G K (aN 66 K d8 0 ([]:List Edge)::box c 27 b::L) g6)=>(aD (v:=zS d8 ([]:List Edge).length 0) (aG (aO (aK (aD (v:=i64 0) (aG (aW [0,1,2,6] (fun f w=>∃ a2 b5 b6,oB t p z a2=some R/\f 7=zS b5 a2.length b6/\aJ G K (aN 66 K b5 b6 a2::box c 27 b::L) w) ?_ ?_)))))))))))))
 ·rintro f m3 ⟨a2,b5,b6,hm,m4,g7⟩
  unfold oB at hm
  refine aA (oO [0,1,6] (fun f w=>∃ a3 b7 b8,nZ t p a3=some R/\f 7=zS b7 a3.length b8/\aJ G K (aN 66 K b7 b8 a3::box c 27 b::L) w) ?_ ?_)
  ·rintro f m5 ⟨a3,b7,b8,hm,m6,d9⟩
   unfold nZ at hm
   refine aO (dT (C:=fun w'=>∃ L',aJ G K L' w') [(0,0),(2,0),(3,0),(4,0),(5,0),(6,0),(7,0),(8,0),(9,0),(10,0),(11,0),(12,0),(13,0),(1,1),(14,1),(15,2)] bY (by kernel_rfl) (fun _ hg=>⟨_,aJ.mono d9 hg⟩) (fun m7 g8=>?_))
   have m8:=aJ.mono d9 g8
   exact aHU
  refine aK (aF (v:=zB z) (aG ?_))
  rcases aH hm with ⟨e0,hm⟩|⟨e0,hm⟩
  ·refine aL e0 rfl (aK (aF (v:=cS a1 k) (aF (v:=zS a10 p.length c11) ?_)));obtain ⟨g9,h0,hm⟩:=aB hm
   refine aR (vs:=[cS a1 k,zS a10 p.length c11]) call90 rfl (aAc h0 g7 m h6 h9 g) ?_
   rintro _ m9 ⟨h1,h2,rfl,h4⟩
   obtain ⟨n0,n1,h5,h7,h8⟩:=aJ.lendSp h4 (zR _) .head
   obtain ⟨q,i0,hm⟩:=aB hm
   refine aR (vs:=[zS h1 g9.length h2]) call89 rfl (aHe i0 h7 h5) ?_
   rintro _ n2 ⟨V,Z,rfl,i1⟩
   have n3:=h8 _ _ i1
   refine aD (v:=zS V q.length Z) (aG (aK (aD (v:=i64 0) (aG (aW [0,1,6] (fun f w=>∃ b9 e1 e2,oA t p b9=some R/\f 7=zS e1 b9.length e2/\aJ G K (aN 66 K e1 e2 b9::box c 27 b::L) w) aHU ?_)))));obtain ⟨n4,i2,ho⟩:=aB hm
   refine cJ [0,1,6,10] i2 (fun a5 e3 f w=>∃ a6 a8,f 7=zS a6 a5.length a8/\f 11=i64 e3/\aJ G K (aN 2 K V Z q::aN 66 K a6 a8 a5::box c 27 b::L) w) aHU ?_
   ·rintro a5 e3 n5 f n6 hm hr ⟨a6,a8,i3,c0,i4⟩
    unfold aAD at hm
    refine aO (aK (aY c0 (aF (v:=zS V q.length Z) (aC (bO (len:=q.length) cC rfl) (aC (cG rfl rfl) (aG ?_))))))
    rcases aH hm with ⟨e4,hm⟩|⟨e4,hm⟩
    ·refine aL e4 rfl (aU (aA (aO (cN ?_))));obtain ⟨c1,r,e5,e6,i5⟩:=aJ.lendSp i4 (zR _) .head
     refine dT (C:=fun w'=>∃ L',aJ G c1 L' w') [(0,0),(1,0),(2,0),(3,0),(4,0),(5,0),(6,0),(7,0),(8,0),(9,0),(10,0),(11,0),(12,0),(13,0),(14,0),(15,0),(16,1),(17,1),(18,0)] bY (by kernel_rfl) (fun _ hg=>⟨_,aJ.mono e6 hg⟩) (fun n7 i6=>?_)
     have j:=aJ.mono e6 i6
     refine bQ rfl (fun _ _=>bA i3) (bQ rfl (fun _ _=>bA (v:=zS a10 p.length c11) rfl) (bQ rfl (fun _ _=>bA (v:=zS V q.length Z) rfl) (bQ rfl (fun _ _=>bA c0) ?_)));obtain ⟨n8,a9,hm⟩:=aB hm
     have e7:=aAS e5 a9
     refine bQ rfl (fun _ _=>dD cC rfl e7 rfl rfl rfl a9) ?_;obtain ⟨n9,e8,i7⟩:=cF.el (sz:=1) rfl e5 a9
     cases i7
     refine bQ rfl (fun _ ⟨_,j⟩=>bG (t:=0) cQ j e8 rfl rfl) ?_;obtain ⟨d,c2,hm⟩:=aB hm
     refine bQ rfl (fun _ _=>cT cC rfl (g.mono r) rfl rfl rfl c2) ?_;obtain ⟨o0,e9,i8⟩:=cF.el (sz:=1) rfl g c2
     cases i8
     refine bQ rfl (fun _ ⟨_,j⟩=>bG (t:=0) cQ j (e9.mono r) rfl rfl) (bQ rfl (fun _ _=>bA (v:=zS a10 p.length c11) rfl) (bQ rfl (fun _ _=>bA (v:=zS V q.length Z) rfl) (bQ rfl (fun _ _=>bA c0) (bQ rfl (fun _ _=>dD cC rfl e7 rfl rfl rfl a9) (bQ rfl (fun _ ⟨_,j⟩=>bG (t:=0) cQ j e8 rfl rfl) (bQ rfl (fun _ _=>cT cC rfl (g.mono r) rfl rfl rfl c2) (bQ rfl (fun _ ⟨_,j⟩=>bG (t:=0) cQ j (e9.mono r) rfl rfl) (bQ rfl (fun _ _=>dF (vs:=[(0,i64 d),(2,i64 d)]) (cs:=[i64 d,i64 0,i64 d]) aDl rfl (by kernel_rfl)) (jE rfl (cB (Kt:=K) (xs:=([⟨d,0,d⟩]:List Edge)) (cs:=[i64 d,i64 0,i64 d]) (vs:=[(0,Value.agg #[i64 d,i64 0,i64 d])]) cL gC rfl rfl j rfl (by kernel_rfl) rfl rfl rfl ⟨rfl,trivial⟩ (fun i9 j0 (f0:aJ G c1 (aN 66 K i9 1 ([⟨d,0,d⟩]:List Edge)::aN 66 K a6 a8 a5::box c 27 b::L) j0)=>(bB (aA ⟨⟨_,f0⟩,?_⟩)))))))))))))
     refine jE rfl ?_;obtain ⟨f1,j1,hm⟩:=aB hm
     refine dG (i:=0) cL underlying25 gC rfl rfl f0 rfl r r j1 rfl rfl rfl rfl (fun _ h=>h) (fun f2 f3 j2 (f4:aJ G c1 (aN 66 K f2 f3 f1::box c 27 b::L) j2)=>(bB (aA ⟨⟨_,f4⟩,?_⟩)))
     refine bQ rfl (fun _ _=>cZ (v:=zS f2 f1.length f3) rfl) (iO ?_)
     have o1:=i5 _ _ f4
     exact aHU
    ·exact aHU
  ·exact aHU
 obtain ⟨o2,j3,ho⟩:=aB hm
 refine cJ [0,1,2,6] j3 (fun l b0 f w=>∃ n o,f 7=zS n l.length o/\f 8=i64 b0/\aJ G K (aN 66 K n o l::box c 27 b::L) w) aHU ?_
 ·rintro l b0 j4 f o3 hm hr ⟨n,o,c3,c4,a0⟩
  unfold aAE at hm
  refine aO (aK (aY c4 (aF (v:=cS a1 k) (aC (cM rfl m) (aC (bU (k':=k+3) cU rfl m rfl) (aC (bG (t:=3) eS a0 m rfl rfl) (aC (bO (len:=t.E.length) cL rfl) (aC (cG rfl rfl) (aG ?_)))))))))
  rcases aH hm with ⟨c6,hm⟩|⟨c6,hm⟩
  ·refine aL c6 rfl (aU (aA (aO (aW [0,1,2,6,8] (fun f w=>∃ b1 b2 b3,oC b0 b1=some j4/\f 7=zS b2 b1.length b3/\aJ G K (aN 66 K b2 b3 b1::box c 27 b::L) w) ?_ ?_))))
   ·rintro f o4 ⟨b1,b2,b3,hm,j5,j6⟩
    unfold oC at hm
    exact aA (aP (aY c4 (aC (cE rfl rfl) (aD (v:=i64 (wr (b0+1))) (aG ⟨_,(zI hm).symm,aM,b2,b3,j5,rfl,j6⟩)))))
   refine aK (aF (v:=cS a1 k) (aC (cM rfl m) (aC (bU (k':=k+3) cU rfl m rfl) (aC (bG (t:=3) eS a0 m rfl rfl) (aY c4 ?_)))));obtain ⟨a,f5,hm⟩:=aB hm
   refine aC (cT cL rfl h9 rfl rfl rfl f5) ?_;obtain ⟨o5,j7,j8⟩:=cF.el (sz:=3) rfl h9 f5
   cases j8
   refine aC (eI (t:=0) (vs:=[i64 a.F,i64 a.B,i64 a.To]) kD a0 j7 rfl rfl rfl) (bZ (vs:=[i64 0,i64 0,i64 0]) zeroValue66 a0 rfl (fun f6 o6 j9=>(cA (i:=0) (ns:=[i64 a.F,i64 a.B,i64 a.To]) (us:=[i64 a.F,i64 a.B,i64 a.To]) sizeOf66 j9 rfl rfl rfl rfl rfl (cY rfl) rfl rfl (fun k0 (k1:aJ G K (box f6 66 [i64 a.F,i64 a.B,i64 a.To]::aN 66 K n o l::box c 27 b::L) k0)=>(aG (aK (aF (v:=zS a10 p.length c11) ?_)))))))
   obtain ⟨o7,k3,k4,k5,k6⟩:=aJ.lendBp k1 .head
   obtain ⟨o8,k7,hm⟩:=aB hm
   refine aR (vs:=[cS (some ⟨f6,0,none⟩) 0,zS a10 p.length c11]) call88 rfl (qC k7 k5 k4 (g.mono k3)) ?_
   rintro _ o9 ⟨rfl,k8⟩
   have f7:=k6 _ _ k8
   refine aC (dE rfl) (aG ?_)
   rcases aH hm with ⟨c7,hm⟩|⟨c7,hm⟩
   ·refine aL c7 rfl ?_;obtain ⟨c9,u,d0,f8,k9⟩:=aJ.lendBp f7 .head
    refine dT (C:=fun w'=>∃ L',aJ G c9 L' w') [(0,0),(1,0),(2,0),(3,0),(4,0),(5,0),(6,0),(7,0),(8,0),(9,0),(10,0),(11,0),(12,0),(13,0),(14,1),(15,1),(16,0)] bY (by kernel_rfl) (fun _ hg=>⟨_,aJ.mono f8 hg⟩) (fun p0 l0=>?_)
    have e:=aJ.mono f8 l0
    refine bQ rfl (fun _ _=>bA c3) (bQ rfl (fun _ _=>bA (v:=zS a10 p.length c11) rfl) (bQ rfl (fun _ _=>bT (t':=0) gP rfl rfl) (bQ rfl (fun _ ⟨_,e⟩=>bG (t:=0) cQ e d0 rfl rfl) ?_)));obtain ⟨x,f9,hm⟩:=aB hm
    refine bQ rfl (fun _ _=>cT cC rfl (g.mono u) rfl rfl rfl f9) ?_;obtain ⟨p1,l1,l2⟩:=cF.el (sz:=1) rfl g f9
    cases l2
    refine bQ rfl (fun _ ⟨_,e⟩=>bG (t:=0) cQ e (l1.mono u) rfl rfl) (bQ rfl (fun _ _=>bT (t':=1) hQ rfl rfl) (bQ rfl (fun _ ⟨_,e⟩=>bG (t:=1) cQ e d0 rfl rfl) (bQ rfl (fun _ _=>bA (v:=zS a10 p.length c11) rfl) (bQ rfl (fun _ _=>bT (t':=2) gD rfl rfl) (bQ rfl (fun _ ⟨_,e⟩=>bG (t:=2) cQ e d0 rfl rfl) ?_)))));obtain ⟨y,g0,hm⟩:=aB hm
    refine bQ rfl (fun _ _=>cT cC rfl (g.mono u) rfl rfl rfl g0) ?_;obtain ⟨p2,l3,l4⟩:=cF.el (sz:=1) rfl g g0
    cases l4
    refine bQ rfl (fun _ ⟨_,e⟩=>bG (t:=0) cQ e (l3.mono u) rfl rfl) (bQ rfl (fun _ _=>dF (vs:=[(0,i64 x),(1,i64 a.B),(2,i64 y)]) (cs:=[i64 x,i64 a.B,i64 y]) aDl rfl (by kernel_rfl)) (jE rfl (cB (Kt:=K) (xs:=([⟨x,a.B,y⟩]:List Edge)) (cs:=[i64 x,i64 a.B,i64 y]) (vs:=[(0,Value.agg #[i64 x,i64 a.B,i64 y])]) cL gC rfl rfl e rfl (by kernel_rfl) rfl rfl rfl ⟨rfl,trivial⟩ (fun l5 l6 (g1:aJ G c9 (aN 66 K l5 1 ([⟨x,a.B,y⟩]:List Edge)::aN 66 K n o l::box c 27 b::L) l6)=>(bB (aA ⟨⟨_,g1⟩,?_⟩))))))
    refine jE rfl ?_;obtain ⟨d1,l7,hm⟩:=aB hm
    refine dG (i:=0) cL underlying25 gC rfl rfl g1 rfl u u l7 rfl rfl rfl rfl (fun _ h=>h) (fun d2 d3 l8 (g2:aJ G c9 (aN 66 K d2 d3 d1::box c 27 b::L) l8)=>(bB (aA ⟨⟨_,g2⟩,?_⟩)))
    refine bQ rfl (fun _ _=>cZ (v:=zS d2 d1.length d3) rfl) (iO ?_)
    have l9:=k9 _ _ g2
    exact aX (aA ⟨aM,d1,d2,d3,hm,rfl,(aJ.arr 1 [] l9 rfl)⟩)
   ·exact aI c7 rfl (aU (aX (aA ⟨aM,l,n,o,hm,c3,(aJ.arr 1 [] f7 rfl)⟩)))
  ·refine aI c6 rfl (bV (aT (aT ?_)))
   have m0:=hr _ (zI hm).symm
   subst m0
   have hm:(oB t p z l)=some R:=ho
   clear hr ho
   exact bJ (aA ⟨aM,l,n,o,hm,c3,a0⟩)
end Gv
