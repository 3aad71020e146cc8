/- Walks, printed by program. -/
import Derived.Test.YtgpmcacjpjongaaGreatDoorJLW
set_option linter.all false
namespace Gv
open Go.Value renaming slice→zS,bool→zB,tuple→zT
open Option.some renaming inj→zI
open Gv.Hp renaming le_refl→zR
open Go Go.Proofs Go.Proofs.Tryz
set_option maxRecDepth 20000
set_option maxHeartbeats 40000000
variable {G:wY} {K:Hp} {L:List iN} {w:World} {a1 a4 a7:Option Addr} {c2 c5 c8:Nat}
theorem aHi {a:(List aF)} {R:((List Int) × Bool)} (hm:vW a=some R) (k:aD G K (L) w) (n:G.lo=0) (o:bS K a1 c2 a):
  Calls prog 125 ([zS a1 a.length c2]:List Value).toArray w (eR fun v w'=>∃ c d,v=zT #[zS c R.1.length d,zB R.2]/\aD G K (aG 2 K c d R.1::L) w'):=by
 refine aR func125 rfl (by kernel_rfl) (by show (1:Nat)<=28;decide) ?_;unfold vW at hm
 refine aO (aI (v:=zS none 0 0) (aI (v:=zB false) (aK (aO (aI (v:=zS none 0 0) (aK (aM (aO (aL (v:=zS a1 a.length c2) (aH (bI (len:=a.length) bE rfl) (aL (v:=i64 0) (aK (aV [] (fun f w=>∃ b e g,aEg b=some R/\f 4=zS e b.length g/\aD G K (aG 2 K e g b::L) w) aP ?_)))))))))))))
 have p:=aD.nil (α:=Int) k 2 K
 obtain ⟨q,l,ho⟩:=aC hm
 exact cZ [9,10] l (fun h m f w=>∃ i j,f 4=zS i h.length j/\f 11=i64 m/\aD G K (aG 2 K i j h::L) w) aP aP
theorem aKg {c:UInt8} {R:Bool} (hm:aGu c=some R) (b:aD G K (L) w):
  Calls prog 192 ([Value.int .u8 (c.toNat:Int)]:List Value).toArray w (eR fun v w'=>v=zB R/\aD G K (L) w'):=by
 refine aR func192 rfl (by kernel_rfl) (by show (1:Nat)<=9;decide) ?_;unfold aGu at hm
 exact aO (aI (v:=zB false) (aK (aM (bR [] (fun f w=>∃ a,aEP a=some R/\f 2=zB a/\aD G K (L) w) aP aP))))
theorem aLm {a:aF} {R:Bool} (hm:aFM a=some R) (k:aD G K (L) w):
  Calls prog 151 ([str a]:List Value).toArray w (eR fun v w'=>v=zB R/\aD G K (L) w'):=by
 refine aR func151 rfl (by kernel_rfl) (by show (1:Nat)<=42;decide) ?_;unfold aFM at hm
 refine aO (aI (v:=zB false) (aK (aM (aO (aL (v:=str a) (aH (aCt runUnderlying9 rfl) (aL (v:=i64 0) (aK (aV [0] (fun f w=>aDz a=some R/\aD G K (L) w) ?_ ?_)))))))))
 ·rintro f l ⟨hm,m⟩
  unfold aDz at hm
  exact aB (aM (bR [] (fun f w=>∃ d,aFL d=some R/\f 2=zB d/\aD G K (L) w) aP aP))
 obtain ⟨n,j,ho⟩:=aC hm
 refine cY [0,6] j (fun b f w=>f 7=i64 b/\aD G K (L) w) aP ?_
 ·rintro b e f o hm hr ⟨g,p⟩
  unfold xT at hm
  refine aO (aH (cQ g rfl) (aK (aM ?_)))
  rcases aN hm with ⟨h,hm⟩|⟨h,hm⟩
  ·refine aT h rfl (bB (aB (aM (cS (aO (bC g (aI (v:=i64 b) (aK (aM (bR [0,3,6,7] (fun f w=>∃ c,qB a b c=some e/\f 4=zB c/\aD G K (L) w) ?_ ?_))))))))))
   ·rintro f q ⟨c,hm,r,t⟩
    unfold qB at hm
    exact aB (aM (bR [0,6,7] (fun f w=>∃ i,aAX b i=some e/\f 32=zB i/\aD G K (L) w) aP aP))
   exact aP
  ·exact aP
theorem aJi {a:aF} {R:Bool} (hm:xD a=some R) (c:aD G K (L) w):
  Calls prog 123 ([str a]:List Value).toArray w (eR fun v w'=>v=zB R/\aD G K (L) w'):=by
 refine aR func123 rfl (by kernel_rfl) (by show (1:Nat)<=9;decide) ?_;unfold xD at hm
 exact aO (aI (v:=zB false) (aK (aM (bR [] (fun f w=>∃ b,aAH b=some R/\f 2=zB b/\aD G K (L) w) aP aP))))
theorem aLn {c:(List Int)} {j R:aF} (hm:aEh c j=some R) (Z:aD G K (L) w) (hG:G.lo=0) (p:bS K a1 c2 c):
  Calls prog 131 ([zS a1 c.length c2,str j]:List Value).toArray w (eR fun v w'=>v=str R/\aD G K (L) w'):=by
 refine aR func131 rfl (by kernel_rfl) (by show (2:Nat)<=27;decide) ?_;unfold aEh at hm
 refine aO (aI (v:=str ([]:aF)) (aK (aO (aL (v:=zS a1 c.length c2) (aH (bI (len:=c.length) dA rfl) ?_)))));obtain ⟨a,q5,hm⟩:=aC hm
 refine WO_mk (e:=([]:aF)) bE iW rfl rfl Z rfl rfl rfl q5 rfl (fun b w7 (b3:aD G K (aG 9 K b a.length a::L) w7)=>(aI (v:=zS b a.length a.length) (aK (aM (aO (aL (v:=zS a1 c.length c2) (aH (bI (len:=c.length) dA rfl) (aL (v:=i64 0) (aK (aV [1] (fun f w=>∃ k,aFN j k=some R/\f 5=zS b k.length a.length/\aD G K (aG 9 K b a.length k::L) w) aP ?_))))))))));obtain ⟨b4,a3,ho⟩:=aC hm
 refine cZ [1,11,12] a3 (fun l d f w=>f 5=zS b l.length a.length/\f 13=i64 d/\aD G K (aG 9 K b a.length l::L) w) aP ?_
 ·rintro l d b5 f b6 hm hr ⟨q,g,r⟩
  unfold aAY at hm
  refine aO (aH (cQ g rfl) (aK (aM ?_)))
  rcases aN hm with ⟨u,hm⟩|⟨u,hm⟩
  ·refine aT u rfl (bB (aB (aM (cS (aO (bC g ?_))))));obtain ⟨m,x,hm⟩:=aC hm
   refine aH (jF dA rfl p rfl rfl g x) ?_;obtain ⟨b7,a4,a5⟩:=bS.el (sz:=1) rfl p x
   cases a5
   refine aH (bG (t:=0) fK r a4 rfl rfl) (aI (v:=i64 d) (aI (v:=i64 m) (aK (aZ (bC q (aL (v:=i64 d) (aL (v:=i64 m) ?_)))))));obtain ⟨y,a7,hm⟩:=aC hm
   refine aQ (vs:=[i64 m]) call160 rfl (aIV r a7) ?_
   rintro _ b8 ⟨rfl,z⟩
   obtain ⟨b9,o,hm⟩:=aC hm
   have a8:=dM z (i:=0) rfl o
   refine aH (fQ bE rfl a8 rfl rfl rfl o) ?_;obtain ⟨a9,V,hm⟩:=aC hm
   exact pD (i:=0) (t:=0) (ns:=[str y]) (e':=(y:aF)) sizeOf9 z rfl (zR _) rfl rfl rfl o V rfl rfl (cK rfl) rfl (fun cs h=>by cases h;rfl) (fun b0 (b1:aD G K (aG 9 K b a.length a9::L) b0)=>(aJ (cT (aB (aZ (aH (eP g rfl) (aL (v:=i64 (wr (d+1))) (aK ⟨_,(zI hm).symm,bW,(Eq.trans q (congrArg (fun n=>zS b n a.length) (mV V))),rfl,b1⟩))))))))
  ·exact aP
theorem aGT {n low a:Int} {R:Bool} (hm:rC n low a=some R) (c:aD G K (L) w):
  Calls prog 26 ([i64 n,i64 low,i64 a]:List Value).toArray w (eR fun v w'=>v=zB R/\aD G K (L) w'):=by
 refine aR func26 rfl (by kernel_rfl) (by show (3:Nat)<=15;decide) ?_;unfold rC at hm
 exact aO (aI (v:=zB false) (aK (aM (bR [] (fun f w=>∃ b,aDA b=some R/\f 6=zB b/\aD G K (L) w) aP aP))))
theorem aKh {n:Int} {R:Bool} (hm:aIn n=some R) (a:aD G K (L) w):
  Calls prog 202 ([i64 n]:List Value).toArray w (eR fun v w'=>v=zB R/\aD G K (L) w'):=by
 exact aP
theorem aBF {n:Int} {R:Bool} (hm:aCD n=some R) (a:aD G K (L) w):
  Calls prog 201 ([i64 n]:List Value).toArray w (eR fun v w'=>v=zB R/\aD G K (L) w'):=by
 exact aP
theorem tY {a:(List Int)} {R:Int} (hm:gW a=some R) (n:aD G K (L) w) (c:bS K a1 c2 a):
  Calls prog 133 ([zS a1 a.length c2,Value.func (.func 201) #[] #[]]:List Value).toArray w (eR fun v w'=>v=i64 R/\aD G K (L) w'):=by
 refine aR func133 rfl (by kernel_rfl) (by show (2:Nat)<=19;decide) ?_;unfold gW at hm
 refine aO (aI (v:=i64 0) (aK (aM (aO (aL (v:=zS a1 a.length c2) (aH (bI (len:=a.length) dA rfl) (aL (v:=i64 0) (aK (aV [] (fun f w=>lU=some R/\aD G K (L) w) aP ?_)))))))));obtain ⟨o,j,ho⟩:=aC hm
 refine cY [0,1,7] j (fun b f w=>f 8=i64 b/\aD G K (L) w) aP ?_
 ·rintro b p f q hm hr ⟨d,e⟩
  unfold eC at hm
  refine aO (aH (cQ d rfl) (aK (aM ?_)))
  rcases aN hm with ⟨g,hm⟩|⟨g,hm⟩
  ·refine aT g rfl (bB (aB (aM (cS (aO (bC d (aI (v:=i64 b) (aK (aO (aL (v:=Value.func (.func 201) #[] #[]) (aL (v:=zS a1 a.length c2) (aL (v:=i64 b) ?_))))))))))));obtain ⟨h,i,hm⟩:=aC hm
   refine aH (jF dA rfl c rfl rfl rfl i) ?_;obtain ⟨r,k,l⟩:=bS.el (sz:=1) rfl c i
   cases l
   refine aH (bG (t:=0) fK e k rfl rfl) ?_;obtain ⟨u,m,hm⟩:=aC hm
   exact kN (vs:=[i64 h]) (caps:=[]) (us:=[i64 h]) rfl call201 rfl rfl (aBF m e) aP
  ·exact aP
theorem rK {a:(List Int)} {R:Bool} (hm:iS a=some R) (b:aD G K (L) w) (c:bS K a1 c2 a):
  Calls prog 200 ([zS a1 a.length c2,Value.func (.func 201) #[] #[]]:List Value).toArray w (eR fun v w'=>v=zB R/\aD G K (L) w'):=by
 exact aP
theorem aIr {a:(List Int)} {R:Bool} (hm:aDB a=some R) (b:aD G K (L) w) (c:bS K a1 c2 a):
  Calls prog 156 ([zS a1 a.length c2]:List Value).toArray w (eR fun v w'=>v=zB R/\aD G K (L) w'):=by
 exact aP
theorem aFT {a:aF} {b:(List Int)} {R:(aF × Bool)} (hm:aEi a b=some R) (e:aD G K (L) w) (g:G.lo=0) (h:bS K a1 c2 b):
  Calls prog 128 ([str a,zS a1 b.length c2]:List Value).toArray w (eR fun v w'=>v=zT #[str R.1,zB R.2]/\aD G K (L) w'):=by
 refine aR func128 rfl (by kernel_rfl) (by show (2:Nat)<=37;decide) ?_;unfold aEi at hm
 refine aO (aI (v:=str ([]:aF)) (aI (v:=zB false) (aK (aM (cS (aO (aL (v:=str a) (aH (aMk rfl rfl) (aI (v:=zB (a == ([116,97,117]:aF))) (aK ?_))))))))))
 rcases aN hm with ⟨c,hm⟩|⟨c,hm⟩
 ·exact aP
 ·exact aW c rfl (aM (bR [0,1] (fun f w=>∃ d,yL a b d=some R/\f 12=zB d/\aD G K (L) w) aP aP))
theorem vA {a b:aF} {R:Bool} (hm:hQ a b=some R) (d:aD G K (L) w):
  Calls prog 199 ([str a,str b]:List Value).toArray w (eR fun v w'=>v=zB R/\aD G K (L) w'):=by
 refine aR func199 rfl (by kernel_rfl) (by show (2:Nat)<=21;decide) ?_;unfold hQ at hm
 exact aO (aI (v:=zB false) (aK (aM (bR [] (fun f w=>∃ c,gA c=some R/\f 4=zB c/\aD G K (L) w) aP aP))))
theorem tZ {a b R:aF} (hm:jL a b=some R) (c:aD G K (L) w):
  Calls prog 155 ([str a,str b]:List Value).toArray w (eR fun v w'=>v=str R/\aD G K (L) w'):=by
 exact aP
theorem aDp {a b R:aF} (hm:nZ a b=some R) (c:aD G K (L) w):
  Calls prog 127 ([str a,str b]:List Value).toArray w (eR fun v w'=>v=str R/\aD G K (L) w'):=by
 exact aP
theorem aIs {c:aF} {R:(aF × (List Int) × Bool)} (hm:tF c=some R) (k:aD G K (L) w) (l:G.lo=0):
  Calls prog 86 ([str c]:List Value).toArray w (eR fun v w'=>∃ h i,v=zT #[str R.1,zS h R.2.1.length i,zB R.2.2]/\aD G K (aG 2 K h i R.2.1::L) w'):=by
 refine aR func86 rfl (by kernel_rfl) (by show (1:Nat)<=43;decide) ?_;unfold tF at hm
 refine aO (aI (v:=str ([]:aF)) (aI (v:=zS none 0 0) (aI (v:=zB false) (aK (aO (aL (v:=str c) ?_))))));obtain ⟨a,m,hm⟩:=aC hm
 refine aQ (vs:=[str c,str ([40]:aF)]) call124 rfl (lib_Cut k m) ?_
 rintro _ x ⟨rfl,y⟩
 refine aL (v:=zT #[str a.1,str a.2.1,zB a.2.2]) (aH (bD rfl rfl) (aH (bD rfl rfl) (aH (bD rfl rfl) (aI (v:=str a.1) (aI (v:=str a.2.1) (aI (v:=zB a.2.2) (aK (aO (aI (v:=zS none 0 0) (aK (qE [0,5] (fun f w=>∃ b d e,lE c a b=some R/\f 8=zS d b.length e/\aD G K (aG 2 K d e b::L) w) ?_ ?_)))))))))))
 ·rintro f z ⟨b,d,e,hm,n,o⟩
  unfold lE at hm
  refine aM (aO (aL (v:=str a.1) (bC n ?_)));obtain ⟨V,Z,p,q,r⟩:=aD.lendSp o (zR _) .head
  obtain ⟨g,t,hm⟩:=aC hm
  refine aQ (vs:=[str a.1,zS d b.length e]) call128 rfl (aFT t q l p) ?_
  rintro _ a0 ⟨rfl,u⟩
  have a1:=r _ _ u
  exact aL (v:=zT #[str g.1,zB g.2]) (aH (bD rfl rfl) (aH (bD rfl rfl) (aI (v:=str g.1) (aI (v:=zB g.2) (aK (aM (bR [5,8] (fun f w=>∃ j,mY a b j=some R/\f 40=zB j/\aD G K (aG 2 K d e b::L) w) aP aP)))))))
 exact aP
theorem aKi {a:aF} {R:Bool} (hm:aCc a=some R) (b:aD G K (L) w) (c:G.lo=0):
  Calls prog 64 ([str a]:List Value).toArray w (eR fun v w'=>v=zB R/\aD G K (L) w'):=by
 exact aP
theorem aBG {a:aF} {R:Bool} (hm:aCE a=some R) (b:aD G K (L) w) (c:G.lo=0):
  Calls prog 114 ([str a]:List Value).toArray w (eR fun v w'=>v=zB R/\aD G K (L) w'):=by
 exact aP
theorem sB {a:(List aF)} {R:Int} (hm:gB a=some R) (o:aD G K (L) w) (j:G.lo=0) (c:bS K a1 c2 a):
  Calls prog 85 ([zS a1 a.length c2,Value.func (.func 114) #[] #[]]:List Value).toArray w (eR fun v w'=>v=i64 R/\aD G K (L) w'):=by
 refine aR func85 rfl (by kernel_rfl) (by show (2:Nat)<=19;decide) ?_;unfold gB at hm
 refine aO (aI (v:=i64 0) (aK (aM (aO (aL (v:=zS a1 a.length c2) (aH (bI (len:=a.length) bE rfl) (aL (v:=i64 0) (aK (aV [] (fun f w=>lF=some R/\aD G K (L) w) aP ?_)))))))));obtain ⟨p,k,ho⟩:=aC hm
 refine cY [0,1,7] k (fun b f w=>f 8=i64 b/\aD G K (L) w) aP ?_
 ·rintro b q f r hm hr ⟨d,e⟩
  unfold dT at hm
  refine aO (aH (cQ d rfl) (aK (aM ?_)))
  rcases aN hm with ⟨g,hm⟩|⟨g,hm⟩
  ·refine aT g rfl (bB (aB (aM (cS (aO (bC d (aI (v:=i64 b) (aK (aO (aL (v:=Value.func (.func 114) #[] #[]) (aL (v:=zS a1 a.length c2) (aL (v:=i64 b) ?_))))))))))));obtain ⟨h,i,hm⟩:=aC hm
   refine aH (jF bE rfl c rfl rfl rfl i) ?_;obtain ⟨u,l,m⟩:=bS.el (sz:=1) rfl c i
   cases m
   refine aH (bG (t:=0) xB e l rfl rfl) ?_;obtain ⟨x,n,hm⟩:=aC hm
   exact kN (vs:=[str h]) (caps:=[]) (us:=[str h]) rfl call114 rfl rfl (aBG n e j) aP
  ·exact aP
theorem pW {a:(List aF)} {R:Bool} (hm:iH a=some R) (b:aD G K (L) w) (c:G.lo=0) (d:bS K a1 c2 a):
  Calls prog 43 ([zS a1 a.length c2,Value.func (.func 114) #[] #[]]:List Value).toArray w (eR fun v w'=>v=zB R/\aD G K (L) w'):=by
 exact aP
theorem aIt {labels:(List aF)} {R:Bool} (hm:aDC labels=some R) (a:aD G K (L) w) (b:G.lo=0) (c:bS K a1 c2 labels):
  Calls prog 62 ([zS a1 labels.length c2]:List Value).toArray w (eR fun v w'=>v=zB R/\aD G K (L) w'):=by
 exact aP
theorem lZ {a:(List aF)} {b:aF} {R:Int} (hm:eH a b=some R) (e:aD G K (L) w) (g:bS K a1 c2 a):
  Calls prog 84 ([zS a1 a.length c2,str b]:List Value).toArray w (eR fun v w'=>v=i64 R/\aD G K (L) w'):=by
 refine aR func84 rfl (by kernel_rfl) (by show (2:Nat)<=19;decide) ?_;unfold eH at hm
 refine aO (aI (v:=i64 0) (aK (aM (aO (aL (v:=zS a1 a.length c2) (aH (bI (len:=a.length) bE rfl) (aL (v:=i64 0) (aK (aV [] (fun f w=>mZ=some R/\aD G K (L) w) aP ?_)))))))));obtain ⟨h,c,ho⟩:=aC hm
 exact cY [0,1,7] c (fun d f w=>f 8=i64 d/\aD G K (L) w) aP aP
theorem sX {a:(List aF)} {b:aF} {R:Bool} (hm:cV a b=some R) (c:aD G K (L) w) (d:bS K a1 c2 a):
  Calls prog 42 ([zS a1 a.length c2,str b]:List Value).toArray w (eR fun v w'=>v=zB R/\aD G K (L) w'):=by
 exact aP
theorem aDM {a:(List aF)} {R:Bool} (hm:uL a=some R) (c:aD G K (L) w) (d:G.lo=0) (e:bS K a1 c2 a):
  Calls prog 24 ([zS a1 a.length c2]:List Value).toArray w (eR fun v w'=>v=zB R/\aD G K (L) w'):=by
 refine aR func24 rfl (by kernel_rfl) (by show (1:Nat)<=10;decide) ?_;unfold uL at hm
 exact aO (aI (v:=zB false) (aK (aM (bR [] (fun f w=>∃ b,aBr b=some R/\f 2=zB b/\aD G K (L) w) aP aP))))
theorem aFU {a:(List UInt8)} {R:Bool} (hm:aIo a=some R) (b:aD G K (L) w) (c:bS K a1 c2 a):
  Calls prog 4 ([zS a1 a.length c2]:List Value).toArray w (eR fun v w'=>v=zB R/\aD G K (L) w'):=by
 exact aP
theorem aFV {a:(List UInt8)} {R:(Int × Int)} (hm:aIp a=some R) (c:aD G K (L) w) (d:bS K a1 c2 a):
  Calls prog 11 ([zS a1 a.length c2]:List Value).toArray w (eR fun v w'=>∃ b,v=Value.pointer (some ⟨b,0,none⟩)/\aD G K (box b 72 [zS a1 a.length c2,i64 R.1,Value.int .u64 R.2]::L) w'):=by
 exact aP
theorem aDb {a:Edge} {c:Nat} {b:Edge} {d:Nat} {R:Bool} (hm:aEj a b=some R) (e:aD G K (L) w) (g:fD K a1 c [i64 a.F,i64 a.B,i64 a.To]) (h:fD K a4 d [i64 b.F,i64 b.B,i64 b.To]):
  Calls prog 79 ([cP a1 c,cP a4 d]:List Value).toArray w (eR fun v w'=>v=zB R/\aD G K (L) w'):=by
 exact aP
theorem aLo {j:(List Edge)} {e:Edge} {R:(List Edge)} (hm:aEk j e=some R) (hs:aD G K (aG 46 K a1 c2 j::L) w):
  Calls prog 37 ([zS a1 j.length c2,Value.agg #[i64 e.F,i64 e.B,i64 e.To]]:List Value).toArray w (eR fun v w'=>∃ b4 b5,v=zS b4 R.length b5/\aD G K (aG 46 K b4 b5 R::L) w'):=by
 let a:=[i64 e.F,i64 e.B,i64 e.To]
 let o:=aG 46 K a1 c2 j
 refine aR func37 rfl (by kernel_rfl) (by show (2:Nat)<=57;decide) ?_;unfold aEk at hm
 refine aO (fL (v:=Value.agg #[i64 e.F,i64 e.B,i64 e.To]) (vs:=a) hs rfl rfl (fun k w4 g3=>(aI (v:=zS none 0 0) (aK (aO (aL (v:=zS a1 j.length c2) (aH (bI (len:=j.length) cM rfl) (aI (v:=i64 (j.length:Int)) (aK (aM (aV [0,3] (fun f w=>∃ p,aDE j e p=some R/\f 5=i64 p/\aD G K (box k 46 a::o::L) w) ?_ ?_)))))))))))
 ·rintro f w8 ⟨p,hm,V,b⟩
  unfold aDE at hm
  refine aB (aM (aM (bR [0,3,5] (fun f w=>∃ a2,xU j e p a2=some R/\f 30=zB a2/\aD G K (box k 46 a::o::L) w) ?_ ?_)))
  ·rintro f g5 ⟨a2,hm,c8,c9⟩
   unfold xU at hm
   refine aB ?_
   rcases aN hm with ⟨b6,hm⟩|⟨b6,hm⟩
   ·exact aP
   ·refine aW b6 c8 (bB (aB (aO (aL (v:=zS a1 j.length c2) (aH (fF (vs:=[]) (cs:=[i64 0,i64 0,i64 0]) aFk rfl (by kernel_rfl)) (bL (Kt:=K) (xs:=([⟨0,0,0⟩]:List Edge)) (cs:=[i64 0,i64 0,i64 0]) (vs:=[(0,Value.agg #[i64 0,i64 0,i64 0])]) cM qA rfl rfl c9 rfl (by kernel_rfl) rfl rfl rfl ⟨rfl,trivial⟩ (fun d0 d1 (d2:aD G K (aG 46 K d0 1 ([⟨0,0,0⟩]:List Edge)::box k 46 a::o::L) d1)=>?_)))))));obtain ⟨u,d3,hm⟩:=aC hm
    refine eX (i:=1) cM underlying25 qA rfl rfl d2 rfl (zR _) (zR _) d3 rfl rfl rfl rfl (fun _ h=>h) (fun c d d4 (g6:aD G K (box k 46 a::aG 46 K c d u::L) d4)=>(aI (v:=zS c u.length d) (aK (aM (aO (aL (v:=zS c u.length d) (aH (bI (len:=u.length) cM rfl) (aH (qZ rfl rfl) (aI (v:=i64 (wr ((u.length:Int) - 1))) (aK (aV [3,5] (fun f w=>∃ Z,aDD e p Z=some R/\f 0=zS c Z.length d/\aD G K (box k 46 a::aG 46 K c d Z::L) w) ?_ ?_)))))))))))
    ·rintro f g7 ⟨Z,hm,b7,a3⟩
     unfold aDD at hm
     refine aB (aO (bC b7 (bC V (aH (gE (us:=a) tE a3 (i:=0) rfl rfl rfl rfl) ?_))));obtain ⟨g8,a4,hm⟩:=aC hm
     have d5:=dM a3 (i:=1) rfl a4
     refine aH (fQ cM rfl d5 rfl rfl rfl a4) ?_;obtain ⟨a5,b8,hm⟩:=aC hm
     refine pD (i:=1) (t:=0) (ns:=a) (e':=(⟨e.F,e.B,e.To⟩:Edge)) sizeOf46 a3 rfl (zR _) rfl rfl rfl a4 b8 rfl rfl (cK rfl) rfl (fun cs h=>by cases h;rfl) (fun d6 (d7:aD G K (box k 46 a::aG 46 K c d a5::L) d6)=>(aK (aO (bC (v:=zS c a5.length d) (Eq.trans b7 (congrArg (fun n=>zS c n d) (mV b8))) (aI (v:=zS c a5.length d) (aK ?_))))));obtain rfl:=zI hm
     exact kX (aCr results37 rfl ⟨c,d,rfl,(aD.arr 1 [] d7 rfl)⟩)
    obtain ⟨g9,d9,ho⟩:=aC hm
    refine cZ [3,5] d9 (fun a6 a7 f w=>f 0=zS c a6.length d/\f 6=i64 a7/\aD G K (box k 46 a::aG 46 K c d a6::L) w) aP ?_
    ·rintro a6 a7 h0 f h1 hm hr ⟨a8,a0,a9⟩
     unfold aAZ at hm
     refine aM (aO (bC a0 (bC V (aH (sZ rfl rfl) (aK ?_)))))
     rcases aN hm with ⟨b9,hm⟩|⟨b9,hm⟩
     ·refine aT b9 rfl (bB (aB (aM (cS (aZ (bC a8 (bC a0 (bC a8 (bC a0 (aH (qZ rfl rfl) ?_))))))))));obtain ⟨l,b0,hm⟩:=aC hm
      have c0:=dM a9 (i:=1) rfl b0
      refine aH (fQ cM rfl c0 rfl rfl rfl b0) (aH (aCs (t:=0) (vs:=[i64 l.F,i64 l.B,i64 l.To]) tE a9 (i:=1) rfl b0 rfl rfl rfl rfl) ?_);obtain ⟨h2,c1,hm⟩:=aC hm
      refine aH (fQ cM rfl c0 rfl rfl rfl c1) ?_;obtain ⟨e0,c3,hm⟩:=aC hm
      exact pD (i:=1) (t:=0) (ns:=[i64 l.F,i64 l.B,i64 l.To]) (e':=(⟨l.F,l.B,l.To⟩:Edge)) sizeOf46 a9 rfl (zR _) rfl rfl rfl c1 c3 rfl rfl (cK rfl) rfl (fun cs h=>by cases h;rfl) (fun e1 (e2:aD G K (box k 46 a::aG 46 K c d e0::L) e1)=>(aJ (cT (aB (aZ (bC a0 (aH (qZ rfl rfl) (aI (v:=i64 (wr (a7 - 1))) (aK ⟨_,(zI hm).symm,bW,(Eq.trans a8 (congrArg (fun n=>zS c n d) (mV c3))),rfl,e2⟩)))))))))
     ·exact aP
  refine pE (C:=fun w'=>aD G K (box k 46 a::o::L) w') Tryz_mixed (by kernel_rfl) (aD.mono b (fN.drew _)) (dR (fun _ b=>bJ V) (dR (fun _ b=>sZ rfl rfl) (dR (fun _ b=>bJ (v:=zB (decide (0 < p))) rfl) ?_)))
  rcases aN hm with ⟨m,hm⟩|⟨m,hm⟩
  ·refine aHy (g:=22) rfl rfl m (dR (fun _ b=>bJ (v:=zS a1 j.length c2) rfl) (aHy (g:=22) rfl rfl m (dR (fun _ b=>bJ V) (aHy (g:=22) rfl rfl m (dR (fun _ b=>qZ rfl rfl) (aHy (g:=22) rfl rfl m ?_))))));obtain ⟨q,b1,hm⟩:=aC hm
   have e3:=dM b (i:=1) rfl b1
   exact dR (fun _ b=>fQ cM rfl e3 rfl rfl rfl b1) (aHy (g:=22) rfl rfl m (dR (fun _ b=>aCs (t:=0) (vs:=[i64 q.F,i64 q.B,i64 q.To]) tE b (i:=1) rfl b1 rfl rfl rfl rfl) (aHy (g:=22) rfl rfl m (dR (fun _ b=>gE (us:=a) tE b (i:=0) rfl rfl rfl rfl) (aHy (g:=22) rfl rfl m (dR (fun _ b=>R_eqlG (eq_46 (x:=q) (y:=e)) rfl rfl) (dR (fun _ b=>aAT (v:=zB (decide ((q:Edge)=e))) m rfl rfl) (aCu (fun h3 e4=>(aB ⟨bW,decide ((q:Edge)=e),hm,rfl,e4⟩))))))))))
  ·exact aP
 obtain ⟨h4,e5,ho⟩:=aC hm
 refine cY [0,3] e5 (fun z f w=>f 5=i64 z/\aD G K (box k 46 a::o::L) w) aP ?_
 ·rintro z e6 f h5 hm hr ⟨c4,c5⟩
  unfold xV at hm
  refine aM (aM (bR [0,3,5] (fun f w=>∃ c6,aBa z c6=some e6/\f 17=zB c6/\aD G K (box k 46 a::o::L) w) aP (aZ (bC c4 (aH (sZ rfl rfl) (aL (v:=zB (decide (0 < z))) ?_))))))
  rcases aN hm with ⟨r,hm⟩|⟨r,hm⟩
  ·refine fZ r rfl rfl (aL (v:=zS a1 j.length c2) (fZ r rfl rfl (bC c4 (fZ r rfl rfl (aH (qZ rfl rfl) (fZ r rfl rfl ?_))))));obtain ⟨h6,b2,hm⟩:=aC hm
   have e8:=dM c5 (i:=1) rfl b2
   refine aH (fQ cM rfl e8 rfl rfl rfl b2) (fZ r rfl rfl ?_);obtain ⟨h7,e9,f0,f1,f2⟩:=aD.lendBp c5 .head
   obtain ⟨h8,f3,f4,f5,f6⟩:=aD.lendSp f1 e9 .head
   obtain ⟨h9,f7,f8⟩:=bS.el (sz:=3) rfl f4 b2
   cases f8
   obtain ⟨i0,f9,hm⟩:=aC hm
   refine aQ (vs:=[cP (some ⟨k,0,none⟩) 0,cP a1 ((wr (z - 1)).toNat * 3+0)]) call79 rfl (aDb f9 f5 (f0.mono f3) f7) ?_
   rintro _ i1 ⟨rfl,g0⟩
   have g1:=f6 _ _ g0
   have i2:=f2 _ _ g1
   exact aP
  ·exact aP
theorem aDc {a:(List aF)} {b:aF} {R:Int} (hm:xW a b=some R) (e:aD G K (L) w) (g:bS K a1 c2 a):
  Calls prog 112 ([zS a1 a.length c2,str b]:List Value).toArray w (eR fun v w'=>v=i64 R/\aD G K (L) w'):=by
 refine aR func112 rfl (by kernel_rfl) (by show (2:Nat)<=19;decide) ?_;unfold xW at hm
 refine aO (aI (v:=i64 0) (aK (aM (aO (aI (v:=i64 0) (aK (aV [] (fun f w=>aHJ=some R/\aD G K (L) w) aP ?_)))))));obtain ⟨h,c,ho⟩:=aC hm
 exact cY [0,1] c (fun d f w=>f 5=i64 d/\aD G K (L) w) aP aP
theorem aFW {g R:(List aF)} (hm:aCd g=some R) (hs:aD G K (L) w) (y:bS K a1 c2 g):
  Calls prog 58 ([zS a1 g.length c2]:List Value).toArray w (eR fun v w'=>∃ b1 b2,v=zS b1 R.length b2/\aD G K (aG 9 K b1 b2 R::L) w'):=by
 refine aR func58 rfl (by kernel_rfl) (by show (1:Nat)<=65;decide) ?_;unfold aCd at hm
 refine aO (aI (v:=zS none 0 0) (aK (aO (bL (Kt:=K) (xs:=([([116,97,117]:aF)]:List aF)) (cs:=[str ([116,97,117]:aF)]) (vs:=[(0,str ([116,97,117]:aF))]) bE iW rfl rfl hs rfl (by kernel_rfl) rfl rfl rfl ⟨rfl,trivial⟩ (fun a4 w5 (f9:aD G K (aG 9 K a4 1 ([([116,97,117]:aF)]:List aF)::L) w5)=>(aI (v:=zS a4 ([([116,97,117]:aF)]:List aF).length 1) (aK (aM (aO (aI (v:=i64 0) (aK (aV [] (fun f w=>∃ z a8 c9,aHK z=some R/\f 3=zS a8 z.length c9/\aD G K (aG 9 K a8 c9 z::L) w) aP ?_))))))))))))
 obtain ⟨g0,d5,ho⟩:=aC hm
 refine cZ [0] d5 (fun c j f w=>∃ d e,f 3=zS d c.length e/\f 4=i64 j/\aD G K (aG 9 K d e c::L) w) aP ?_
 ·rintro c j V f g1 hm hr ⟨d,e,b6,m,b7⟩
  unfold qG at hm
  refine aM (aO (bC m (aL (v:=zS a1 g.length c2) (aH (bI (len:=g.length) bE rfl) (aH (cQ rfl rfl) (aK ?_))))))
  rcases aN hm with ⟨b8,hm⟩|⟨b8,hm⟩
  ·refine aT b8 rfl (bB (aB (aM (aV [0,4] (fun f w=>∃ o p q,uM j o=some V/\f 3=zS p o.length q/\aD G K (aG 9 K p q o::L) w) ?_ ?_))))
   ·rintro f g2 ⟨o,p,q,hm,d6,d7⟩
    unfold uM at hm
    exact aB (aZ (bC m (aH (eP rfl rfl) (aI (v:=i64 (wr (j+1))) (aK ⟨_,(zI hm).symm,bW,p,q,d6,rfl,d7⟩)))))
   refine aM (aO (bC b6 (aL (v:=zS a1 g.length c2) (bC m ?_))));obtain ⟨k,Z,hm⟩:=aC hm
   refine aH (jF bE rfl y rfl rfl rfl Z) ?_;obtain ⟨g3,b9,d8⟩:=bS.el (sz:=1) rfl y Z
   cases d8
   refine aH (bG (t:=0) xB b7 b9 rfl rfl) ?_;obtain ⟨g4,g5,d9,e0,e1⟩:=aD.lendSp b7 (zR _) .head
   obtain ⟨g6,e2,hm⟩:=aC hm
   refine aQ (vs:=[zS d c.length e,str k]) call112 rfl (aDc e2 e0 d9) ?_
   rintro _ g7 ⟨rfl,e3⟩
   have g8:=e1 _ _ e3
   refine aH (R_geq rfl rfl) (aK ?_)
   rcases aN hm with ⟨c0,hm⟩|⟨c0,hm⟩
   ·exact aP
   ·refine aW c0 rfl (bB (aB (aO (aI (v:=i64 1) (aK (aM (aV [0,3,4] (fun f w=>∃ r,aBP c j k r=some V/\f 5=i64 r/\aD G K (aG 9 K d e c::L) w) ?_ ?_)))))))
    ·rintro f g9 ⟨r,hm,c1,e4⟩
     unfold aBP at hm
     refine aB (aO (bC b6 (bL (Kt:=K) (xs:=([([]:aF)]:List aF)) (cs:=[str ([]:aF)]) (vs:=[(0,str ([]:aF))]) bE iW rfl rfl e4 rfl (by kernel_rfl) rfl rfl rfl ⟨rfl,trivial⟩ (fun e5 e6 (e7:aD G K (aG 9 K e5 1 ([([]:aF)]:List aF)::aG 9 K d e c::L) e6)=>?_))));obtain ⟨l,e8,hm⟩:=aC hm
     refine eX (i:=0) bE underlying24 iW rfl rfl e7 rfl (zR _) (zR _) e8 rfl rfl rfl rfl (fun _ h=>h) (fun a b e9 (h0:aD G K (aG 9 K a b l::L) e9)=>(aI (v:=zS a l.length b) (aK (aM (aO (aL (v:=zS a l.length b) (aH (bI (len:=l.length) bE rfl) (aH (qZ rfl rfl) (aI (v:=i64 (wr ((l.length:Int) - 1))) (aK (aV [0,4,5] (fun f w=>∃ u,aBO j k r u=some V/\f 3=zS a u.length b/\aD G K (aG 9 K a b u::L) w) ?_ ?_)))))))))))
     ·rintro f h1 ⟨u,hm,c3,a0⟩
      unfold aBO at hm
      refine aB (aZ (bC c3 (bC c1 (aL (v:=zS a1 g.length c2) (bC m (aH (jF bE rfl y rfl rfl rfl Z) (aH (bG (t:=0) xB a0 b9 rfl rfl) ?_)))))));obtain ⟨h2,a2,hm⟩:=aC hm
      have f0:=dM a0 (i:=0) rfl a2
      refine aH (fQ bE rfl f0 rfl rfl rfl a2) ?_;obtain ⟨c4,c5,hm⟩:=aC hm
      exact pD (i:=0) (t:=0) (ns:=[str k]) (e':=(k:aF)) sizeOf9 a0 rfl (zR _) rfl rfl rfl a2 c5 rfl rfl (cK rfl) rfl (fun cs h=>by cases h;rfl) (fun f1 (f2:aD G K (aG 9 K a b c4::L) f1)=>(aJ (cT (aB ⟨bW,c4,a,b,hm,(Eq.trans c3 (congrArg (fun n=>zS a n b) (mV c5))),f2⟩))))
     obtain ⟨h4,f3,ho⟩:=aC hm
     refine cZ [0,4,5] f3 (fun a3 a5 f w=>f 3=zS a a3.length b/\f 6=i64 a5/\aD G K (aG 9 K a b a3::L) w) aP ?_
     ·rintro a3 a5 h5 f h6 hm hr ⟨a6,x,a7⟩
      unfold yM at hm
      refine aM (aO (bC x (bC c1 (aH (sZ rfl rfl) (aK ?_)))))
      rcases aN hm with ⟨c6,hm⟩|⟨c6,hm⟩
      ·refine aT c6 rfl (bB (aB (aM (cS (aZ (bC a6 (bC x (bC a6 (bC x (aH (qZ rfl rfl) ?_))))))))));obtain ⟨c7,a9,hm⟩:=aC hm
       have c8:=dM a7 (i:=0) rfl a9
       refine aH (fQ bE rfl c8 rfl rfl rfl a9) (aH (rB (t:=0) xB a7 (i:=0) rfl a9 rfl rfl rfl) ?_);obtain ⟨h7,d0,hm⟩:=aC hm
       refine aH (fQ bE rfl c8 rfl rfl rfl d0) ?_;obtain ⟨f4,d1,hm⟩:=aC hm
       exact pD (i:=0) (t:=0) (ns:=[str c7]) (e':=(c7:aF)) sizeOf9 a7 rfl (zR _) rfl rfl rfl d0 d1 rfl rfl (cK rfl) rfl (fun cs h=>by cases h;rfl) (fun f5 (f6:aD G K (aG 9 K a b f4::L) f5)=>(aJ (cT (aB (aZ (bC x (aH (qZ rfl rfl) (aI (v:=i64 (wr (a5 - 1))) (aK ⟨_,(zI hm).symm,bW,(Eq.trans a6 (congrArg (fun n=>zS a n b) (mV d1))),rfl,f6⟩)))))))))
      ·exact aP
    obtain ⟨h8,f7,ho⟩:=aC hm
    refine cY [0,3,4] f7 (fun b0 f w=>f 5=i64 b0/\aD G K (aG 9 K d e c::L) w) aP ?_
    ·rintro b0 f8 f h9 hm hr ⟨i0,i1⟩
     unfold uN at hm
     exact aM (aM (bR [0,3,4,5] (fun f w=>∃ d2,yN b0 d2=some f8/\f 35=zB d2/\aD G K (aG 9 K d e c::L) w) aP aP))
  ·exact aP
theorem aDd {d e:Int} {l:(List aF)} {edges:(List Edge)} {R:bF} (hm:rL d e l edges=some R) (hs:aD G K (L) w) (u:bS K a1 c2 l) (z:bS K a4 c5 edges):
  Calls prog 108 ([i64 d,i64 e,zS a1 l.length c2,zS a4 edges.length c5]:List Value).toArray w (eR fun v w'=>∃ V Z a0 a2,v=Value.agg (zCa R V Z a0 a2)/\aD G K (aG 9 K V Z R.L::aG 46 K a0 a2 R.E::L) w'):=by
 let h:=zG
 refine aR func108 rfl (by kernel_rfl) (by show (4:Nat)<=43;decide) ?_;unfold rL at hm
 refine aO (aX (vs:=h) zeroValue27 hs rfl (fun m w8 b5=>(aK (aO (aL (v:=i64 d) (aL (v:=i64 e) (aL (v:=zS a1 l.length c2) ?_)))))));obtain ⟨a,b6,hm⟩:=aC hm
 refine aQ (vs:=[zS a1 l.length c2]) call58 rfl (aFW b6 b5 u) ?_
 rintro _ e9 ⟨b,c,rfl,b8⟩
 refine bL (Kt:=K) (xs:=([]:List Edge)) (cs:=[]) (vs:=[]) cM qA rfl rfl b8 rfl (by kernel_rfl) rfl rfl rfl trivial (fun j b9 (c0:aD G K (aG 46 K j 0 ([]:List Edge)::aG 9 K b c a::box m 27 h::L) b9)=>(aH (fF (vs:=[(0,i64 d),(1,i64 e),(2,zS b a.length c),(3,zS j ([]:List Edge).length 0)]) (cs:=[i64 d,i64 e,zS b a.length c,zS j ([]:List Edge).length 0]) aJX rfl (by kernel_rfl)) (aX (vs:=h) zeroValue27 c0 rfl (fun q f0 c1=>(bH (i:=0) (ns:=[i64 d,i64 e,zS b a.length c,zS j ([]:List Edge).length 0]) (us:=[i64 d,i64 e,zS b a.length c,zS j ([]:List Edge).length 0]) sizeOf27 c1 rfl rfl rfl rfl rfl (cK rfl) rfl rfl (fun c3 (f1:aD G K (box q 27 [i64 d,i64 e,zS b a.length c,zS j ([]:List Edge).length 0]::aG 46 K j 0 ([]:List Edge)::aG 9 K b c a::box m 27 h::L) c3)=>(aK (aM (aO (aI (v:=i64 0) (aK (aV [8,9] (fun f w=>∃ x a3 a5,aHL d e a x=some R/\aD G K (aG 46 K a3 a5 x::box q 27 [i64 d,i64 e,zS b a.length c,zS a3 x.length a5]::aG 9 K b c a::box m 27 h::L) w) aP ?_))))))))))))
 obtain ⟨f2,c4,ho⟩:=aC hm
 refine cZ [2,3,8,9] c4 (fun n a6 f w=>∃ o p,f 10=i64 a6/\aD G K (box q 27 [i64 d,i64 e,zS b a.length c,zS o n.length p]::aG 46 K o p n::aG 9 K b c a::box m 27 h::L) w) aP ?_
 ·rintro n a6 f3 f f4 hm hr ⟨o,p,a7,a8⟩
  unfold uO at hm
  refine aM (aO (bC a7 (aL (v:=zS a4 edges.length c5) (aH (bI (len:=edges.length) cM rfl) (aH (cQ rfl rfl) (aK ?_))))))
  rcases aN hm with ⟨a9,hm⟩|⟨a9,hm⟩
  ·refine aT a9 rfl (bB (aB (aM (cS (aO (aL (v:=zS a4 edges.length c5) (bC a7 ?_)))))));obtain ⟨g,b0,hm⟩:=aC hm
   refine aH (jF cM rfl z rfl rfl rfl b0) ?_;obtain ⟨f5,c6,c7⟩:=bS.el (sz:=3) rfl z b0
   cases c7
   refine aH (eJ (t:=0) (vs:=[i64 g.F,i64 g.B,i64 g.To]) tE a8 c6 rfl rfl rfl) (aX (vs:=[i64 0,i64 0,i64 0]) zeroValue46 a8 rfl (fun c8 f6 c9=>(bH (i:=0) (ns:=[i64 g.F,i64 g.B,i64 g.To]) (us:=[i64 g.F,i64 g.B,i64 g.To]) sizeOf46 c9 rfl rfl rfl rfl rfl (cK rfl) rfl rfl (fun d0 (d1:aD G K (box c8 46 [i64 g.F,i64 g.B,i64 g.To]::box q 27 [i64 d,i64 e,zS b a.length c,zS o n.length p]::aG 46 K o p n::aG 9 K b c a::box m 27 h::L) d0)=>(aK (aM ?_))))))
   obtain ⟨f7,y,d2,d3,d4⟩:=aD.lendBp d1 .head
   obtain ⟨d5,r,d6,b1,d7⟩:=aD.lendBp d3 .head
   refine dX (C:=fun w'=>∃ L',aD G d5 L' w') [(0,0),(1,0),(2,0),(3,0),(4,0),(5,0),(6,0),(7,1),(8,0),(9,2)] Tryz_mixed (by kernel_rfl) (fun _ hg=>⟨_,aD.mono b1 hg⟩) (fun f8 d8=>?_)
   have k:=aD.mono b1 d8
   refine bZ rfl (fun _ _=>bP (t':=2) fT rfl rfl) (bZ rfl (fun _ ⟨_,k⟩=>bG (t:=2) gY k d6 rfl rfl) (bZ rfl (fun _ _=>bJ (v:=zS a1 l.length c2) rfl) (bZ rfl (fun _ _=>bP (t':=1) aAG rfl rfl) (bZ rfl (fun _ ⟨_,k⟩=>bG (t:=1) fK k (d2.mono r) rfl rfl) ?_))));obtain ⟨d9,b2,hm⟩:=aC hm
   refine bZ rfl (fun _ _=>jF bE rfl (u.mono (Hp.le_trans y r)) rfl rfl rfl b2) ?_;obtain ⟨f9,e0,e1⟩:=bS.el (sz:=1) rfl u b2
   cases e1
   refine bZ rfl (fun _ ⟨_,k⟩=>bG (t:=0) xB k (e0.mono (Hp.le_trans y r)) rfl rfl) (gP rfl ?_);obtain ⟨g0,g1,e2,e3,e4⟩:=aD.lendSp k (Hp.le_trans y r) zt1
   obtain ⟨g2,e5,hm⟩:=aC hm
   refine aQ (vs:=[zS b a.length c,str d9]) call112 rfl (aDc e5 e3 e2) ?_
   rintro _ g3 ⟨rfl,e6⟩
   have b3:=e4 _ _ e6
   refine aJ (aB ⟨⟨_,b3⟩,?_⟩)
   refine bZ rfl (fun _ _=>bP (t':=1) aAG rfl rfl) ?_
   have e7:=d7 _ _ b3
   have g4:=d4 _ _ e7
   exact aP
  ·exact aP
theorem aAS {t:bF} {a:Nat} {R:bF} (hm:aCF t=some R) (h:aD G K (L) w) (j:fD K a1 a (zC t a4 c5 a7 c8)) (k:bS K a4 c5 t.L) (l:bS K a7 c8 t.E):
  Calls prog 35 ([cP a1 a]:List Value).toArray w (eR fun v w'=>∃ b c d e,v=Value.agg (zCa R b c d e)/\aD G K (aG 9 K b c R.L::aG 46 K d e R.E::L) w'):=by
 refine aR func35 rfl (by kernel_rfl) (by show (1:Nat)<=28;decide) ?_;unfold aCF at hm
 refine aO (aX (vs:=zG) zeroValue27 h rfl (fun m n g=>(aK (aM (dX (C:=fun w'=>∃ L',aD G K L' w') [(0,0),(1,0),(2,0),(3,0),(4,0),(5,0),(6,0),(7,0),(8,0),(9,1),(10,2)] Tryz_mixed (by kernel_rfl) (fun _ hg=>⟨_,aD.mono g hg⟩) (fun o i=>?_))))))
 have p:=aD.mono g i
 exact aP
theorem aMA {n low a:Int} {R:Bool} (hm:aAI n low a=some R) (c:aD G K (L) w):
  Calls prog 77 ([i64 n,i64 low,i64 a]:List Value).toArray w (eR fun v w'=>v=zB R/\aD G K (L) w'):=by
 refine aR func77 rfl (by kernel_rfl) (by show (3:Nat)<=15;decide) ?_;unfold aAI at hm
 exact aO (aI (v:=zB false) (aK (aM (bR [] (fun f w=>∃ b,aHf b=some R/\f 6=zB b/\aD G K (L) w) aP aP))))
theorem aJj {c:UInt8} {R:Bool} (hm:aCG c=some R) (b:aD G K (L) w):
  Calls prog 149 ([Value.int .u8 (c.toNat:Int)]:List Value).toArray w (eR fun v w'=>v=zB R/\aD G K (L) w'):=by
 refine aR func149 rfl (by kernel_rfl) (by show (1:Nat)<=9;decide) ?_;unfold aCG at hm
 exact aO (aI (v:=zB false) (aK (aM (bR [] (fun f w=>∃ a,aDV a=some R/\f 2=zB a/\aD G K (L) w) aP aP))))
theorem aFs {c:UInt8} {R:Bool} (hm:aCH c=some R) (b:aD G K (L) w):
  Calls prog 150 ([Value.int .u8 (c.toNat:Int)]:List Value).toArray w (eR fun v w'=>v=zB R/\aD G K (L) w'):=by
 refine aR func150 rfl (by kernel_rfl) (by show (1:Nat)<=9;decide) ?_;unfold aCH at hm
 exact aO (aI (v:=zB false) (aK (aM (bR [] (fun f w=>∃ a,aDW a=some R/\f 2=zB a/\aD G K (L) w) aP aP))))
theorem aKj {a:aF} {R:Bool} (hm:aCe a=some R) (l:aD G K (L) w):
  Calls prog 121 ([str a]:List Value).toArray w (eR fun v w'=>v=zB R/\aD G K (L) w'):=by
 refine aR func121 rfl (by kernel_rfl) (by show (1:Nat)<=35;decide) ?_;unfold aCe at hm
 refine aO (aI (v:=zB false) (aK (aM (aM (bR [0] (fun f w=>∃ b,qH a b=some R/\f 16=zB b/\aD G K (L) w) ?_ ?_)))))
 ·rintro f m ⟨b,hm,h,n⟩
  unfold qH at hm
  refine aB ?_
  rcases aN hm with ⟨d,hm⟩|⟨d,hm⟩
  ·exact aP
  ·refine aW d h (bB (aB (aM (aO (aI (v:=i64 0) (aK (aV [] (fun f w=>aEQ=some R/\aD G K (L) w) aP ?_)))))));obtain ⟨o,i,ho⟩:=aC hm
   refine cY [0] i (fun c f w=>f 3=i64 c/\aD G K (L) w) aP ?_
   ·rintro c j f p hm hr ⟨k,q⟩
    unfold yO at hm
    refine aM (aO (bC k (aL (v:=str a) (aH (aCt runUnderlying9 rfl) (aH (cQ rfl rfl) (aK ?_))))))
    rcases aN hm with ⟨e,hm⟩|⟨e,hm⟩
    ·exact aT e rfl (bB (aB (aM (cS (aM (bR [0,3] (fun f w=>∃ g,aBQ c g=some j/\f 34=zB g/\aD G K (L) w) aP aP))))))
    ·exact aP
 exact aP
theorem aIu {a:aF} {R:Bool} (hm:xX a=some R) (c:aD G K (L) w):
  Calls prog 81 ([str a]:List Value).toArray w (eR fun v w'=>v=zB R/\aD G K (L) w'):=by
 refine aR func81 rfl (by kernel_rfl) (by show (1:Nat)<=9;decide) ?_;unfold xX at hm
 exact aO (aI (v:=zB false) (aK (aM (bR [] (fun f w=>∃ b,yP b=some R/\f 2=zB b/\aD G K (L) w) aP aP))))
end Gv
namespace Gv
open Go.Value renaming slice→zS,bool→zB,pointer→zP
open Go Go.Proofs Go.Proofs.Tryz
set_option maxRecDepth 20000
set_option maxHeartbeats 40000000
variable {G:wY} {K:Hp} {L:List iN} {w:World} {a1 a4 a7 a10 a2 a5:Option Addr} {c2 c5 c8 c11 b1 c3 c6:Nat}
theorem aFX {a:aF} {R:Int} (hm:aCf a=some R) (d:aD G K (L) w):
  Calls prog 82 ([str a]:List Value).toArray w (eR fun v w'=>v=i64 R/\aD G K (L) w'):=by
 refine aR func82 rfl (by kernel_rfl) (by show (1:Nat)<=17;decide) ?_;unfold aCf at hm
 refine aO (aI (v:=i64 0) (aK (aM (aO (aI (v:=i64 0) (aK (aV [0] (fun f w=>aHM a=some R/\aD G K (L) w) aP ?_)))))));obtain ⟨e,b,ho⟩:=aC hm
 exact cY [0] b (fun c f w=>f 3=i64 c/\aD G K (L) w) aP aP
theorem aFt {a:aF} {by_:UInt8} {R:(List aF)} (hm:aCI a by_=some R) (x:aD G K (L) w):
  Calls prog 190 ([str a,Value.int .u8 (by_.toNat:Int)]:List Value).toArray w (eR fun v w'=>∃ l m,v=zS l R.length m/\aD G K (aG 9 K l m R::L) w'):=by
 refine aR func190 rfl (by kernel_rfl) (by show (2:Nat)<=35;decide) ?_;unfold aCI at hm
 refine aO (aI (v:=zS none 0 0) (aK (aO (bL (Kt:=K) (xs:=([]:List aF)) (cs:=[]) (vs:=[]) bE iW rfl rfl x rfl (by kernel_rfl) rfl rfl rfl trivial (fun n y (a3:aD G K (aG 9 K n 0 ([]:List aF)::L) y)=>(aI (v:=zS n ([]:List aF).length 0) (aK (aO (aI (v:=i64 0) (aK (aM (aO (aI (v:=i64 0) (aK (aV [0] (fun f w=>∃ g o p q,aDX a g o=some R/\f 5=zS p g.length q/\f 6=i64 o/\aD G K (aG 9 K p q g::L) w) aP ?_)))))))))))))))
 obtain ⟨a4,z,ho⟩:=aC hm
 refine tB [0,1] z (fun h r b f w=>∃ i j,f 5=zS i h.length j/\f 6=i64 r/\f 7=i64 b/\aD G K (aG 9 K i j h::L) w) aP ?_
 ·rintro h r b V f a6 hm hr ⟨i,j,a7,a8,t,a9⟩
  unfold aAJ at hm
  refine aM (aO (bC t (aL (v:=str a) (aH (aCt runUnderlying9 rfl) (aH (cQ rfl rfl) (aK ?_))))))
  rcases aN hm with ⟨u,hm⟩|⟨u,hm⟩
  ·refine aT u rfl (bB (aB (aM (aV [0,1,7] (fun f w=>∃ c k d e,rM b c k=some V/\f 5=zS d c.length e/\f 6=i64 k/\aD G K (aG 9 K d e c::L) w) ?_ ?_))))
   ·rintro f b0 ⟨c,k,d,e,hm,Z,a0,a2⟩
    unfold rM at hm
    exact aB (aZ (bC t (aH (eP rfl rfl) (aI (v:=i64 (wr (b+1))) (aK ⟨_,(Option.some.inj hm).symm,bW,d,e,Z,a0,rfl,a2⟩)))))
   exact aP
  ·exact aP
theorem aEt {c:aF} {R:(Int × Bool)} (hm:xY c=some R) (z:aD G K (L) w):
  Calls prog 191 ([str c]:List Value).toArray w (eR fun v w'=>v=Value.tuple #[i64 R.1,zB R.2]/\aD G K (L) w'):=by
 refine aR func191 rfl (by kernel_rfl) (by show (1:Nat)<=62;decide) ?_;unfold xY at hm
 refine aO (aI (v:=i64 0) (aI (v:=zB false) (aK (aO (aI (v:=i64 0) (aK (qE [0] (fun f w=>∃ d,pG c d=some R/\f 4=i64 d/\aD G K (L) w) ?_ ?_)))))))
 ·rintro f V ⟨d,hm,p,Z⟩
  unfold pG at hm
  refine aM (aM (bR [0,4] (fun f w=>∃ g,lG c d g=some R/\f 36=zB g/\aD G K (L) w) ?_ ?_))
  ·rintro f w7 ⟨g,hm,q,a1⟩
   unfold lG at hm
   refine aB ?_
   rcases aN hm with ⟨j,hm⟩|⟨j,hm⟩
   ·exact aP
   ·refine aW j q (bB (aB (aO (aI (v:=i64 0) (aK (aM (aO (bC p (aI (v:=i64 d) (aK (aV [4] (fun f w=>∃ h,yQ d h=some R/\f 5=i64 h/\aD G K (L) w) ?_ ?_)))))))))))
    ·rintro f a2 ⟨h,hm,a3,a4⟩
     unfold yQ at hm
     exact aB (qE [] (fun f w=>∃ k,aCJ k=some R/\f 5=i64 k/\aD G K (L) w) aP aP)
    obtain ⟨a5,r,ho⟩:=aC hm
    refine cZ [0,4] r (fun i i32 f w=>f 5=i64 i/\f 6=i64 i32/\aD G K (L) w) aP ?_
    ·rintro i i32 a6 f a7 hm hr ⟨t,e,u⟩
     unfold pF at hm
     refine aM (aO (bC e (aL (v:=str c) (aH (aCt runUnderlying9 rfl) (aH (cQ rfl rfl) (aK ?_))))))
     rcases aN hm with ⟨l,hm⟩|⟨l,hm⟩
     ·refine aT l rfl (bB (aB (aM (cS (aM (aO (aL (v:=str c) (bC e ?_))))))));obtain ⟨c45,m,hm⟩:=aC hm
      refine aH (R_ixS runUnderlying9 rfl rfl m) ?_;obtain ⟨a8,x,hm⟩:=aC hm
      refine aQ (vs:=[Value.int .u8 (c45.toNat:Int)]) call150 rfl (aFs x u) ?_
      rintro _ a9 ⟨rfl,y⟩
      refine aH (rA rfl) (aK ?_)
      rcases aN hm with ⟨n,hm⟩|⟨n,hm⟩
      ·exact aP
      ·exact aW n rfl (bB (aB (aZ (bC t (aH (R_mul rfl rfl) (aL (v:=str c) (bC e (aH (R_ixS runUnderlying9 rfl rfl m) (aH (aNn (a:=c45) (b:=(48:UInt8)) rfl rfl) (aH (aNl runUnderlying2 rfl ⟨_,runUnderlying5⟩) (aH (eP rfl rfl) (aI (v:=i64 (wr ((wr (10 * i))+(wr ((c45 - (48:UInt8)).toNat:Int))))) (aJ (cT (aB (aZ (bC e (aH (eP rfl rfl) (aI (v:=i64 (wr (i32+1))) (aK ⟨_,(Option.some.inj hm).symm,bW,rfl,rfl,y⟩))))))))))))))))))))
     ·exact aP
  exact aP
 exact aM (bR [0,4] (fun f w=>∃ o,tG c o=some R/\f 14=zB o/\aD G K (L) w) aP aP)
theorem aIv {a:aF} {R:((List Int) × Bool)} (hm:aDF a=some R) (hs:aD G K (L) w):
  Calls prog 148 ([str a]:List Value).toArray w (eR fun v w'=>∃ q r,v=Value.tuple #[zS q R.1.length r,zB R.2]/\aD G K (aG 2 K q r R.1::L) w'):=by
 refine aR func148 rfl (by kernel_rfl) (by show (1:Nat)<=70;decide) ?_;unfold aDF at hm
 refine aO (aI (v:=zS none 0 0) (aI (v:=zB false) (aK (aO (aL (v:=str a) ?_)))));obtain ⟨h,q2,hm⟩:=aC hm
 refine aQ (vs:=[str a]) call82 rfl (aFX q2 hs) ?_
 rintro _ w3 ⟨rfl,b7⟩
 refine aI (v:=i64 h) (aK (aM (aO (aL (v:=i64 h) (aL (v:=str a) (aH (aCt runUnderlying9 rfl) (aH (nW rfl rfl) (aK ?_))))))))
 rcases aN hm with ⟨u,hm⟩|⟨u,hm⟩
 ·exact aP
 ·refine aW u rfl (bB (aB (aM (aM (bR [0,4] (fun f w=>∃ l,pH a h l=some R/\f 31=zB l/\aD G K (L) w) ?_ ?_)))))
  ·rintro f b8 ⟨l,hm,a4,a5⟩
   unfold pH at hm
   refine aB ?_
   rcases aN hm with ⟨x,hm⟩|⟨x,hm⟩
   ·exact aP
   ·refine aW x a4 (bB (aB (aO (aL (v:=str a) (aL (v:=i64 h) (aH (eP rfl rfl) (aL (v:=str a) (aH (aCt runUnderlying9 rfl) (aH (qZ rfl rfl) ?_)))))))));obtain ⟨a6,a7,hm⟩:=aC hm
    refine aH (R_slSLH runUnderlying9 rfl rfl rfl a7) ?_;obtain ⟨b,a8,hm⟩:=aC hm
    refine aQ (vs:=[str a6,Value.int .u8 44]) call190 rfl (aFt (by_:=(44:UInt8)) a8 a5) ?_
    rintro _ b9 ⟨c,d,rfl,a9⟩
    refine aI (v:=zS c b.length d) (aK (aO (bL (Kt:=K) (xs:=([]:List Int)) (cs:=[]) (vs:=[]) dA rZ rfl rfl a9 rfl (by kernel_rfl) rfl rfl rfl trivial (fun y b0 (c0:aD G K (aG 2 K y 0 ([]:List Int)::aG 9 K c d b::L) b0)=>(aI (v:=zS y ([]:List Int).length 0) (aK (aM (aO (aI (v:=i64 0) (aK (aV [] (fun f w=>∃ m z V,aCK m=some R/\f 6=zS z m.length V/\aD G K (aG 2 K z V m::L) w) aP ?_)))))))))));obtain ⟨c1,b1,ho⟩:=aC hm
    refine cZ [5] b1 (fun e n f w=>∃ j k,f 6=zS j e.length k/\f 7=i64 n/\aD G K (aG 2 K j k e::aG 9 K c d b::L) w) aP ?_
    ·rintro e n b2 f c2 hm hr ⟨j,k,c3,Z,o⟩
     unfold tH at hm
     refine aM (aO (bC Z (aL (v:=zS c b.length d) (aH (bI (len:=b.length) bE rfl) (aH (cQ rfl rfl) (aK ?_))))))
     rcases aN hm with ⟨a0,hm⟩|⟨a0,hm⟩
     ·refine aT a0 rfl (bB (aB (aM (cS (aO (aL (v:=zS c b.length d) (bC Z ?_)))))));obtain ⟨b3,p,hm⟩:=aC hm
      have b4:=dM o (i:=1) rfl p
      refine aH (fQ bE rfl b4 rfl rfl rfl p) (aH (rB (t:=0) xB o (i:=1) rfl p rfl rfl rfl) ?_);obtain ⟨g,b5,hm⟩:=aC hm
      refine aQ (vs:=[str b3]) call191 rfl (aEt b5 o) ?_
      rintro _ c4 ⟨rfl,c6⟩
      exact aL (v:=Value.tuple #[i64 g.1,zB g.2]) (aH (bD rfl rfl) (aH (bD rfl rfl) (aI (v:=i64 g.1) (aI (v:=zB g.2) (aK (aM (aM (bR [5,6,7,8] (fun f w=>∃ a1,yR e n g a1=some b2/\f 61=zB a1/\aD G K (aG 2 K j k e::aG 9 K c d b::L) w) aP aP))))))))
     ·exact aP
  exact aP
theorem aJk {a:aF} {R:Bool} (hm:aER a=some R) (b:aD G K (L) w):
  Calls prog 120 ([str a]:List Value).toArray w (eR fun v w'=>v=zB R/\aD G K (L) w'):=by
 exact aP
theorem aJl {a:(List aF)} {R:Bool} (hm:aCL a=some R) (l:aD G K (L) w) (m:bS K a1 c2 a):
  Calls prog 78 ([zS a1 a.length c2]:List Value).toArray w (eR fun v w'=>v=zB R/\aD G K (L) w'):=by
 refine aR func78 rfl (by kernel_rfl) (by show (1:Nat)<=53;decide) ?_;unfold aCL at hm
 refine aO (aI (v:=zB false) (aK (aM (aM (bR [0] (fun f w=>∃ b,rO a b=some R/\f 17=zB b/\aD G K (L) w) ?_ ?_)))))
 ·rintro f n ⟨b,hm,h,o⟩
  unfold rO at hm
  refine aB ?_
  rcases aN hm with ⟨d,hm⟩|⟨d,hm⟩
  ·exact aP
  ·refine aW d h (bB (aB (aM (aO (aI (v:=i64 1) (aK (aV [] (fun f w=>aGL=some R/\aD G K (L) w) aP ?_)))))));obtain ⟨p,i,ho⟩:=aC hm
   refine cY [0] i (fun c f w=>f 3=i64 c/\aD G K (L) w) aP ?_
   ·rintro c j f q hm hr ⟨k,r⟩
    unfold vX at hm
    refine aM (aO (bC k (aL (v:=zS a1 a.length c2) (aH (bI (len:=a.length) bE rfl) (aH (cQ rfl rfl) (aK ?_))))))
    rcases aN hm with ⟨e,hm⟩|⟨e,hm⟩
    ·exact aT e rfl (bB (aB (aM (cS (aM (bR [0,3] (fun f w=>∃ g,rN c g=some j/\f 52=zB g/\aD G K (L) w) aP aP))))))
    ·exact aP
 exact aP
theorem aEZ {t:bF} {d:Nat} {R:Bool} (hm:aET t=some R) (hs:aD G K (L) w) (b:fD K a1 d (zC t a4 c5 a7 c8)) (h6:bS K a4 c5 t.L) (h:bS K a7 c8 t.E):
  Calls prog 33 ([cP a1 d]:List Value).toArray w (eR fun v w'=>v=zB R/\aD G K (L) w'):=by
 refine aR func33 rfl (by kernel_rfl) (by show (1:Nat)<=101;decide) ?_;unfold aET at hm
 refine aO (aI (v:=zB false) (aK (aM (aM (bR [0] (fun f w=>∃ l,xE t l=some R/\f 39=zB l/\aD G K (L) w) ?_ ?_)))))
 ·rintro f b6 ⟨l,hm,V,b7⟩
  unfold xE at hm
  refine aB ?_
  rcases aN hm with ⟨o,hm⟩|⟨o,hm⟩
  ·exact aP
  ·refine aW o V (bB (aB (aM (aO (aI (v:=i64 0) (aK (aV [] (fun f w=>aJZ=some R/\aD G K (L) w) aP ?_)))))));obtain ⟨b8,Z,ho⟩:=aC hm
   refine cY [0] Z (fun e f w=>f 3=i64 e/\aD G K (L) w) aP ?_
   ·rintro e p f b9 hm hr ⟨j,k⟩
    unfold aCM at hm
    refine aM (aO (bC j (aL (v:=cP a1 d) (aH (mW rfl b) (aH (cH (k':=d+3) dF rfl b rfl) (aH (bG (t:=3) iT k b rfl rfl) (aH (bI (len:=t.E.length) cM rfl) (aH (cQ rfl rfl) (aK ?_)))))))))
    rcases aN hm with ⟨q,hm⟩|⟨q,hm⟩
    ·refine aT q rfl (bB (aB (aM (cS (aO (aL (v:=cP a1 d) (aH (mW rfl b) (aH (cH (k':=d+3) dF rfl b rfl) (aH (bG (t:=3) iT k b rfl rfl) (bC j ?_))))))))));obtain ⟨a,r,hm⟩:=aC hm
     refine aH (jF cM rfl h rfl rfl rfl r) ?_;obtain ⟨c0,a0,a2⟩:=bS.el (sz:=3) rfl h r
     cases a2
     refine aH (eJ (t:=0) (vs:=[i64 a.F,i64 a.B,i64 a.To]) tE k a0 rfl rfl rfl) (aX (vs:=[i64 0,i64 0,i64 0]) zeroValue46 k rfl (fun m c1 a3=>(bH (i:=0) (ns:=[i64 a.F,i64 a.B,i64 a.To]) (us:=[i64 a.F,i64 a.B,i64 a.To]) sizeOf46 a3 rfl rfl rfl rfl rfl (cK rfl) rfl rfl (fun a5 (c2:aD G K (box m 46 [i64 a.F,i64 a.B,i64 a.To]::L) a5)=>(aK (aM (aM (bR [0,3,4] (fun f w=>∃ n,aAw t e a n=some p/\f 87=zB n/\aD G K (box m 46 [i64 a.F,i64 a.B,i64 a.To]::L) w) ?_ ?_))))))))
     ·rintro f c3 ⟨n,hm,a6,u⟩
      unfold aAw at hm
      refine aB ?_
      rcases aN hm with ⟨x,hm⟩|⟨x,hm⟩
      ·exact aP
      ·refine aW x a6 (bB (aB (aM (bR [0,3] (fun f w=>∃ y,aES e y=some p/\f 100=zB y/\aD G K (L) w) aP (aZ (bC j (aH (sZ rfl rfl) (aL (v:=zB (decide (0 < e))) ?_))))))))
       rcases aN hm with ⟨c,hm⟩|⟨c,hm⟩
       ·refine fZ c rfl rfl (aL (v:=cP a1 d) (fZ c rfl rfl (aH (mW rfl b) (fZ c rfl rfl (aH (cH (k':=d+3) dF rfl b rfl) (fZ c rfl rfl (aH (bG (t:=3) iT u b rfl rfl) (fZ c rfl rfl (bC j (fZ c rfl rfl (aH (qZ rfl rfl) (fZ c rfl rfl ?_))))))))))));obtain ⟨c4,z,hm⟩:=aC hm
        refine aH (jF cM rfl h rfl rfl rfl z) ?_;obtain ⟨c6,a8,a9⟩:=bS.el (sz:=3) rfl h z
        cases a9
        refine fZ c rfl rfl ?_;obtain ⟨c7,b0,b1,b2,c9⟩:=aD.lendBp u .head
        obtain ⟨d0,b3,hm⟩:=aC hm
        exact aQ (vs:=[cP a7 ((wr (e - 1)).toNat * 3+0),cP (some ⟨m,0,none⟩) 0]) call79 rfl (aDb b3 b2 (a8.mono b0) b1) aP
       ·exact aP
     exact aP
    ·exact aP
 exact aP
theorem aHP {a:(List aF)} {R:Bool} (hm:yS a=some R) (d:aD G K (L) w) (e:bS K a1 c2 a):
  Calls prog 39 ([zS a1 a.length c2]:List Value).toArray w (eR fun v w'=>v=zB R/\aD G K (L) w'):=by
 refine aR func39 rfl (by kernel_rfl) (by show (1:Nat)<=16;decide) ?_;unfold yS at hm
 refine aO (aI (v:=zB false) (aK (aM (aO (aI (v:=i64 0) (aK (aV [] (fun f w=>aFm=some R/\aD G K (L) w) aP ?_)))))));obtain ⟨g,b,ho⟩:=aC hm
 exact cY [0] b (fun c f w=>f 3=i64 c/\aD G K (L) w) aP aP
theorem aGE {a R:aF} (hm:tI a=some R) (b:aD G K (L) w):
  Calls prog 40 ([str a]:List Value).toArray w (eR fun v w'=>v=str R/\aD G K (L) w'):=by
 exact aP
theorem aAi {t:bF} {d:Nat} {a:(List aF)} {R:Bool} (hm:sK t a=some R) (o:aD G K (L) w) (p:fD K a1 d (zC t a4 c5 a7 c8)) (q:bS K a4 c5 t.L) (r:bS K a7 c8 t.E) (u:bS K a10 c11 a):
  Calls prog 14 ([cP a1 d,zS a10 a.length c11]:List Value).toArray w (eR fun v w'=>v=zB R/\aD G K (L) w'):=by
 refine aR func14 rfl (by kernel_rfl) (by show (2:Nat)<=60;decide) ?_;unfold sK at hm
 refine aO (aI (v:=zB false) (aK (aM (aM (bR [0,1] (fun f w=>∃ b,aAx t a b=some R/\f 14=zB b/\aD G K (L) w) ?_ ?_)))))
 ·rintro f x ⟨b,hm,i,y⟩
  unfold aAx at hm
  refine aB ?_
  rcases aN hm with ⟨e,hm⟩|⟨e,hm⟩
  ·exact aP
  ·refine aW e i (bB (aB (aM (aO (aI (v:=i64 0) (aK (aV [0] (fun f w=>xG t=some R/\aD G K (L) w) ?_ ?_)))))))
   ·rintro f z ⟨hm,V⟩
    unfold xG at hm
    refine aB (aM (aO (aI (v:=i64 0) (aK (aV [] (fun f w=>aKa=some R/\aD G K (L) w) aP ?_)))));obtain ⟨Z,j,ho⟩:=aC hm
    exact cY [0] j (fun k f w=>f 6=i64 k/\aD G K (L) w) aP aP
   obtain ⟨a0,l,ho⟩:=aC hm
   refine cY [0,1] l (fun c f w=>f 5=i64 c/\aD G K (L) w) aP ?_
   ·rintro c m f a2 hm hr ⟨n,a3⟩
    unfold xH at hm
    refine aM (aO (bC n (aL (v:=zS a10 a.length c11) (aH (bI (len:=a.length) bE rfl) (aH (cQ rfl rfl) (aK ?_))))))
    rcases aN hm with ⟨g,hm⟩|⟨g,hm⟩
    ·exact aT g rfl (bB (aB (aM (cS (aM (bR [0,1,5] (fun f w=>∃ h,aCN c h=some m/\f 41=zB h/\aD G K (L) w) aP aP))))))
    ·exact aP
 exact aP
theorem aDe {a:(List UInt8)} {b c:Int} {R:(Int × Int × Int)} (hm:rP a b c=some R) (e:aD G K (box b1 72 [zS a2 a.length c3,i64 b,Value.int .u64 c]::L) w) (g:bS K a2 c3 a):
  Calls prog 80 ([zP (some ⟨b1,0,none⟩)]:List Value).toArray w (eR fun v w'=>v=i64 R.1/\aD G K (box b1 72 [zS a2 a.length c3,i64 R.2.1,Value.int .u64 R.2.2]::L) w'):=by
 refine aR func80 rfl (by kernel_rfl) (by show (1:Nat)<=62;decide) ?_;unfold rP at hm
 exact aO (aI (v:=i64 0) (aK (aO (aI (v:=i64 0) (aK (qE [0] (fun f w=>∃ d,pI a b c d=some R/\f 3=i64 d/\aD G K (box b1 72 [zS a2 a.length c3,i64 b,Value.int .u64 c]::L) w) aP aP))))))
theorem bK {a:(List UInt8)} {b c n:Int} {R:(Int × Int × Int)} (hm:bX a b c n=some R) (i:aD G K (box b1 72 [zS a2 a.length c3,i64 b,Value.int .u64 c]::L) w) (j:bS K a2 c3 a):
  Calls prog 36 ([zP (some ⟨b1,0,none⟩),i64 n]:List Value).toArray w (eR fun v w'=>v=i64 R.1/\aD G K (box b1 72 [zS a2 a.length c3,i64 R.2.1,Value.int .u64 R.2.2]::L) w'):=by
 refine aR func36 rfl (by kernel_rfl) (by show (2:Nat)<=20;decide) ?_;unfold bX at hm
 refine aO (aI (v:=i64 0) (aK (aM (aO (aL (v:=i64 n) (aH (R_leq rfl rfl) (aK ?_)))))))
 rcases aN hm with ⟨d,hm⟩|⟨d,hm⟩
 ·exact aP
 ·refine aW d rfl (bB (aB (aO (aL (v:=zP (some ⟨b1,0,none⟩)) ?_))));obtain ⟨k,l,hm⟩:=aC hm
  refine aQ (vs:=[zP (some ⟨b1,0,none⟩)]) call80 rfl (aDe l i j) ?_
  rintro _ m ⟨rfl,o⟩
  exact aI (v:=i64 k.1) (aK (qE [1] (fun f w=>∃ e g h,pJ n e g h=some R/\f 5=i64 e/\aD G K (box b1 72 [zS a2 a.length c3,i64 g,Value.int .u64 h]::L) w) aP aP))
theorem oJ {a:(List UInt8)} {b c n:Int} {R:(Bool × Int × Int)} (hm:iY a b c n=some R) (d:aD G K (box b1 72 [zS a2 a.length c3,i64 b,Value.int .u64 c]::L) w) (e:bS K a2 c3 a):
  Calls prog 34 ([zP (some ⟨b1,0,none⟩),i64 n]:List Value).toArray w (eR fun v w'=>v=zB R.1/\aD G K (box b1 72 [zS a2 a.length c3,i64 R.2.1,Value.int .u64 R.2.2]::L) w'):=by
 exact aP
theorem aBH {a:(List UInt8)} {n o:Int} {R:((List aF) × Int × Int)} (hm:tJ a n o=some R) (hs:aD G K (box b1 72 [zS a2 a.length c3,i64 n,Value.int .u64 o]::L) w) (h4:bS K a2 c3 a):
  Calls prog 147 ([zP (some ⟨b1,0,none⟩)]:List Value).toArray w (eR fun v w'=>∃ y z,v=zS y R.1.length z/\aD G K (aG 9 K y z R.1::box b1 72 [zS a2 a.length c3,i64 R.2.1,Value.int .u64 R.2.2]::L) w'):=by
 let V:=box b1 72 [zS a2 a.length c3,i64 n,Value.int .u64 o]
 refine aR func147 rfl (by kernel_rfl) (by show (1:Nat)<=35;decide) ?_;unfold tJ at hm
 refine aO (aI (v:=zS none 0 0) (aK (aO (bL (Kt:=K) (xs:=([([116,97,117]:aF)]:List aF)) (cs:=[str ([116,97,117]:aF)]) (vs:=[(0,str ([116,97,117]:aF))]) bE iW rfl rfl hs rfl (by kernel_rfl) rfl rfl rfl ⟨rfl,trivial⟩ (fun p w6 (b5:aD G K (aG 9 K p 1 ([([116,97,117]:aF)]:List aF)::V::L) w6)=>(aI (v:=zS p ([([116,97,117]:aF)]:List aF).length 1) (aK (aO (bL (Kt:=K) (xs:=([([97]:aF),([98]:aF),([99]:aF),([103,101,116,40,48,41]:aF),([103,101,116,40,49,41]:aF)]:List aF)) (cs:=[str ([97]:aF),str ([98]:aF),str ([99]:aF),str ([103,101,116,40,48,41]:aF),str ([103,101,116,40,49,41]:aF)]) (vs:=[(0,str ([97]:aF)),(1,str ([98]:aF)),(2,str ([99]:aF)),(3,str ([103,101,116,40,48,41]:aF)),(4,str ([103,101,116,40,49,41]:aF))]) bE iW rfl rfl b5 rfl (by kernel_rfl) rfl rfl rfl ⟨rfl,rfl,rfl,rfl,rfl,trivial⟩ (fun b w9 (c1:aD G K (aG 9 K b 5 ([([97]:aF),([98]:aF),([99]:aF),([103,101,116,40,48,41]:aF),([103,101,116,40,49,41]:aF)]:List aF)::aG 9 K p 1 ([([116,97,117]:aF)]:List aF)::V::L) w9)=>(aI (v:=zS b ([([97]:aF),([98]:aF),([99]:aF),([103,101,116,40,48,41]:aF),([103,101,116,40,49,41]:aF)]:List aF).length 5) (aK (aM (aO (aI (v:=i64 0) (aK (aV [] (fun f w=>∃ h c d q r,sM h c d=some R/\f 3=zS q h.length r/\aD G K (aG 9 K q r h::box b1 72 [zS a2 a.length c3,i64 c,Value.int .u64 d]::L) w) ?_ ?_)))))))))))))))))
 ·rintro f c2 ⟨h,c,d,q,r,hm,c4,c5⟩
  unfold sM at hm
  exact aB (qE [] (fun f w=>∃ t Z a0,sL c d t=some R/\f 3=zS Z t.length a0/\aD G K (aG 9 K Z a0 t::box b1 72 [zS a2 a.length c3,i64 c,Value.int .u64 d]::L) w) aP aP)
 obtain ⟨c6,b7,ho⟩:=aC hm
 refine mX [0,4] b7 (fun a1 a3 e g f w=>∃ i j,f 3=zS i e.length j/\f 5=i64 g/\aD G K (aG 9 K b 5 ([([97]:aF),([98]:aF),([99]:aF),([103,101,116,40,48,41]:aF),([103,101,116,40,49,41]:aF)]:List aF)::aG 9 K i j e::box b1 72 [zS a2 a.length c3,i64 a1,Value.int .u64 a3]::L) w) aP ?_
 ·rintro a1 a3 e g a4 f c7 hm hr ⟨i,j,c8,a6,c9⟩
  unfold lN at hm
  refine aM (aO (bC a6 (aL (v:=zS b ([([97]:aF),([98]:aF),([99]:aF),([103,101,116,40,48,41]:aF),([103,101,116,40,49,41]:aF)]:List aF).length 5) (aH (bI (len:=([([97]:aF),([98]:aF),([99]:aF),([103,101,116,40,48,41]:aF),([103,101,116,40,49,41]:aF)]:List aF).length) bE rfl) (aH (cQ rfl rfl) (aK ?_))))))
  rcases aN hm with ⟨a7,hm⟩|⟨a7,hm⟩
  ·refine aT a7 rfl (bB (aB (aM (aV [0,4,5] (fun f w=>∃ u x k l m,jS g u x k=some a4/\f 3=zS l k.length m/\aD G K (aG 9 K l m k::aG 9 K b 5 ([([97]:aF),([98]:aF),([99]:aF),([103,101,116,40,48,41]:aF),([103,101,116,40,49,41]:aF)]:List aF)::box b1 72 [zS a2 a.length c3,i64 u,Value.int .u64 x]::L) w) ?_ ?_))))
   ·rintro f d0 ⟨u,x,k,l,m,hm,b8,b9⟩
    unfold jS at hm
    exact aB (aZ (bC a6 (aH (eP rfl rfl) (aI (v:=i64 (wr (g+1))) (aK ⟨_,(Option.some.inj hm).symm,bW,l,m,b8,rfl,(aD.arr 2 [1,0] b9 rfl)⟩)))))
   exact aM (bR [0,3,4,5] (fun f w=>∃ a9 b0 b2,oA e g a9 b0 b2=some a4/\f 20=zB b2/\aD G K (aG 9 K b 5 ([([97]:aF),([98]:aF),([99]:aF),([103,101,116,40,48,41]:aF),([103,101,116,40,49,41]:aF)]:List aF)::aG 9 K i j e::box b1 72 [zS a2 a.length c3,i64 a9,Value.int .u64 b0]::L) w) aP aP)
  ·exact aP
theorem oZ {a:(List UInt8)} {c d:Int} {b:(List Int)} {R:(Int × Int × Int)} (hm:gQ a c d b=some R) (e:aD G K (box b1 72 [zS a2 a.length c3,i64 c,Value.int .u64 d]::L) w) (g:bS K a2 c3 a) (h:bS K a5 c6 b):
  Calls prog 119 ([zP (some ⟨b1,0,none⟩),zS a5 b.length c6]:List Value).toArray w (eR fun v w'=>v=i64 R.1/\aD G K (box b1 72 [zS a2 a.length c3,i64 R.2.1,Value.int .u64 R.2.2]::L) w'):=by
 exact aP
end Gv
