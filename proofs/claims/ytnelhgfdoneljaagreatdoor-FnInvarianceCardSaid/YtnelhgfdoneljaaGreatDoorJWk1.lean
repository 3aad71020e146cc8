/- Walks, printed by program. -/
import Derived.Test.YtnelhgfdoneljaaGreatDoorJLW
set_option linter.all false
namespace Gv
open Gv.Hp renaming le_refl→zR
open Go.Value renaming slice→zS,bool→zB,pointer→zP,agg→zA,tuple→zT
open Option.some renaming inj→zI
open Go Go.Proofs Go.Proofs.Tryz
set_option maxRecDepth 20000
set_option maxHeartbeats 40000000
variable {G:tO} {K:Hp} {L:List fJ} {w:World} {a1 a4 a2 a5:Option Addr} {c2 c5 b1 c3 c6:Nat}
theorem aFY {a:(List aQ)} {R:((List Int) × Bool)} (hm:tU a=some R) (k:aF G K (L) w) (n:G.lo=0) (o:bL K a1 c2 a):
  Calls prog 103 ([zS a1 a.length c2]:List Value).toArray w (eC fun v w'=>∃ c d,v=zT #[zS c R.1.length d,zB R.2]/\aF G K (own 2 K c d R.1::L) w'):=by
 refine aN func103 rfl (by kernel_rfl) (by show (1:Nat)<=28;decide) ?_;unfold tU at hm
 refine aJ (aI (v:=zS none 0 0) (aI (v:=zB false) (aH (aJ (aI (v:=zS none 0 0) (aH (aK (aJ (aG (v:=zS a1 a.length c2) (aD (bC (len:=a.length) fD rfl) (aG (v:=i64 0) (aH (aO [] (fun f w=>∃ b e g,aCW b=some R/\f 4=zS e b.length g/\aF G K (own 2 K e g b::L) w) aM ?_)))))))))))))
 have p:=aF.nil (α:=Int) k 2 K
 obtain ⟨q,l,ho⟩:=aB hm
 exact bO [9,10] l (fun h m f w=>∃ i j,f 4=zS i h.length j/\f 11=i64 m/\aF G K (own 2 K i j h::L) w) aM aM
theorem aIH {c:UInt8} {R:Bool} (hm:aFh c=some R) (b:aF G K (L) w):
  Calls prog 195 ([Value.int .u8 (c.toNat:Int)]:List Value).toArray w (eC fun v w'=>v=zB R/\aF G K (L) w'):=by
 refine aN func195 rfl (by kernel_rfl) (by show (1:Nat)<=9;decide) ?_;unfold aFh at hm
 exact aJ (aI (v:=zB false) (aH (aK (bP [] (fun f w=>∃ a,aDw a=some R/\f 2=zB a/\aF G K (L) w) aM aM))))
theorem aJE {a:aQ} {R:Bool} (hm:aEo a=some R) (k:aF G K (L) w):
  Calls prog 169 ([str a]:List Value).toArray w (eC fun v w'=>v=zB R/\aF G K (L) w'):=by
 refine aN func169 rfl (by kernel_rfl) (by show (1:Nat)<=42;decide) ?_;unfold aEo at hm
 refine aJ (aI (v:=zB false) (aH (aK (aJ (aG (v:=str a) (aD (aLm runUnderlying9 rfl) (aG (v:=i64 0) (aH (aO [0] (fun f w=>aCd a=some R/\aF G K (L) w) ?_ ?_)))))))))
 ·rintro f l ⟨hm,m⟩
  unfold aCd at hm
  exact aC (aK (bP [] (fun f w=>∃ d,aEn d=some R/\f 2=zB d/\aF G K (L) w) aM aM))
 obtain ⟨n,j,ho⟩:=aB hm
 refine eY [0,6] j (fun b f w=>f 7=i64 b/\aF G K (L) w) aM ?_
 ·rintro b e f o hm hr ⟨g,p⟩
  unfold vH at hm
  refine aJ (aD (cK g rfl) (aH (aK ?_)))
  rcases aL hm with ⟨h,hm⟩|⟨h,hm⟩
  ·refine aR h rfl (aW (aC (aK (cD (aJ (aY g (aI (v:=i64 b) (aH (aK (bP [0,3,6,7] (fun f w=>∃ c,pE a b c=some e/\f 4=zB c/\aF G K (L) w) ?_ ?_))))))))))
   ·rintro f q ⟨c,hm,r,t⟩
    unfold pE at hm
    exact aC (aK (bP [0,6,7] (fun f w=>∃ i,yV b i=some e/\f 32=zB i/\aF G K (L) w) aM aM))
   exact aM
  ·exact aM
theorem aHY {a:aQ} {R:Bool} (hm:xK a=some R) (c:aF G K (L) w):
  Calls prog 137 ([str a]:List Value).toArray w (eC fun v w'=>v=zB R/\aF G K (L) w'):=by
 refine aN func137 rfl (by kernel_rfl) (by show (1:Nat)<=9;decide) ?_;unfold xK at hm
 exact aJ (aI (v:=zB false) (aH (aK (bP [] (fun f w=>∃ b,yH b=some R/\f 2=zB b/\aF G K (L) w) aM aM))))
theorem aJF {n low a:Int} {R:Bool} (hm:pZ n low a=some R) (c:aF G K (L) w):
  Calls prog 40 ([i64 n,i64 low,i64 a]:List Value).toArray w (eC fun v w'=>v=zB R/\aF G K (L) w'):=by
 refine aN func40 rfl (by kernel_rfl) (by show (3:Nat)<=15;decide) ?_;unfold pZ at hm
 exact aJ (aI (v:=zB false) (aH (aK (bP [] (fun f w=>∃ b,aEp b=some R/\f 6=zB b/\aF G K (L) w) aM aM))))
theorem aII {n:Int} {R:Bool} (hm:aHk n=some R) (a:aF G K (L) w):
  Calls prog 172 ([i64 n]:List Value).toArray w (eC fun v w'=>v=zB R/\aF G K (L) w'):=by
 exact aM
theorem aAA {n:Int} {R:Bool} (hm:aBk n=some R) (a:aF G K (L) w):
  Calls prog 171 ([i64 n]:List Value).toArray w (eC fun v w'=>v=zB R/\aF G K (L) w'):=by
 exact aM
theorem sA {a:(List Int)} {R:Int} (hm:fB a=some R) (n:aF G K (L) w) (c:bL K a1 c2 a):
  Calls prog 196 ([zS a1 a.length c2,Value.func (.func 171) #[] #[]]:List Value).toArray w (eC fun v w'=>v=i64 R/\aF G K (L) w'):=by
 refine aN func196 rfl (by kernel_rfl) (by show (2:Nat)<=19;decide) ?_;unfold fB at hm
 refine aJ (aI (v:=i64 0) (aH (aK (aJ (aG (v:=zS a1 a.length c2) (aD (bC (len:=a.length) bN rfl) (aG (v:=i64 0) (aH (aO [] (fun f w=>kR=some R/\aF G K (L) w) aM ?_)))))))));obtain ⟨o,j,ho⟩:=aB hm
 refine eY [0,1,7] j (fun b f w=>f 8=i64 b/\aF G K (L) w) aM ?_
 ·rintro b p f q hm hr ⟨d,e⟩
  unfold cY at hm
  refine aJ (aD (cK d rfl) (aH (aK ?_)))
  rcases aL hm with ⟨g,hm⟩|⟨g,hm⟩
  ·refine aR g rfl (aW (aC (aK (cD (aJ (aY d (aI (v:=i64 b) (aH (aJ (aG (v:=Value.func (.func 171) #[] #[]) (aG (v:=zS a1 a.length c2) (aG (v:=i64 b) ?_))))))))))));obtain ⟨h,i,hm⟩:=aB hm
   refine aD (dM bN rfl c rfl rfl rfl i) ?_;obtain ⟨r,k,l⟩:=bL.el (sz:=1) rfl c i
   cases l
   refine aD (aU (t:=0) cR e k rfl rfl) ?_;obtain ⟨u,m,hm⟩:=aB hm
   exact mT (vs:=[i64 h]) (caps:=[]) (us:=[i64 h]) rfl call171 rfl rfl (aAA m e) aM
  ·exact aM
theorem qF {a:(List Int)} {R:Bool} (hm:gG a=some R) (b:aF G K (L) w) (c:bL K a1 c2 a):
  Calls prog 170 ([zS a1 a.length c2,Value.func (.func 171) #[] #[]]:List Value).toArray w (eC fun v w'=>v=zB R/\aF G K (L) w'):=by
 exact aM
theorem aHl {a:(List Int)} {R:Bool} (hm:aCe a=some R) (b:aF G K (L) w) (c:bL K a1 c2 a):
  Calls prog 138 ([zS a1 a.length c2]:List Value).toArray w (eC fun v w'=>v=zB R/\aF G K (L) w'):=by
 exact aM
theorem aJG {c:(List Int)} {j R:aQ} (hm:aEr c j=some R) (Z:aF G K (L) w) (hG:G.lo=0) (p:bL K a1 c2 c):
  Calls prog 139 ([zS a1 c.length c2,str j]:List Value).toArray w (eC fun v w'=>v=str R/\aF G K (L) w'):=by
 refine aN func139 rfl (by kernel_rfl) (by show (2:Nat)<=27;decide) ?_;unfold aEr at hm
 refine aJ (aI (v:=str ([]:aQ)) (aH (aJ (aG (v:=zS a1 c.length c2) (aD (bC (len:=c.length) bN rfl) ?_)))));obtain ⟨a,q5,hm⟩:=aB hm
 refine xD (e:=([]:aQ)) fD aGu rfl rfl Z rfl rfl rfl q5 rfl (fun b w7 (b3:aF G K (own 9 K b a.length a::L) w7)=>(aI (v:=zS b a.length a.length) (aH (aK (aJ (aG (v:=zS a1 c.length c2) (aD (bC (len:=c.length) bN rfl) (aG (v:=i64 0) (aH (aO [1] (fun f w=>∃ k,aEq j k=some R/\f 5=zS b k.length a.length/\aF G K (own 9 K b a.length k::L) w) aM ?_))))))))));obtain ⟨b4,a3,ho⟩:=aB hm
 refine bO [1,11,12] a3 (fun l d f w=>f 5=zS b l.length a.length/\f 13=i64 d/\aF G K (own 9 K b a.length l::L) w) aM ?_
 ·rintro l d b5 f b6 hm hr ⟨q,g,r⟩
  unfold yW at hm
  refine aJ (aD (cK g rfl) (aH (aK ?_)))
  rcases aL hm with ⟨u,hm⟩|⟨u,hm⟩
  ·refine aR u rfl (aW (aC (aK (cD (aJ (aY g ?_))))));obtain ⟨m,x,hm⟩:=aB hm
   refine aD (dM bN rfl p rfl rfl g x) ?_;obtain ⟨b7,a4,a5⟩:=bL.el (sz:=1) rfl p x
   cases a5
   refine aD (aU (t:=0) cR r a4 rfl rfl) (aI (v:=i64 d) (aI (v:=i64 m) (aH (aS (aY q (aG (v:=i64 d) (aG (v:=i64 m) ?_)))))));obtain ⟨y,a7,hm⟩:=aB hm
   refine aP (vs:=[i64 m]) call164 rfl (aHM r a7) ?_
   rintro _ b8 ⟨rfl,z⟩
   obtain ⟨b9,o,hm⟩:=aB hm
   have a8:=cA z (i:=0) rfl o
   refine aD (cM fD rfl a8 rfl rfl rfl o) ?_;obtain ⟨a9,J,hm⟩:=aB hm
   exact gA (i:=0) (t:=0) (ns:=[str y]) (e':=(y:aQ)) sizeOf9 z rfl (zR _) rfl rfl rfl o J rfl rfl (eV rfl) rfl (fun cs h=>by cases h;rfl) (fun b0 (b1:aF G K (own 9 K b a.length a9::L) b0)=>(aV (cH (aC (aS (aD (cN g rfl) (aG (v:=i64 (wr (d+1))) (aH ⟨_,(zI hm).symm,bF,(Eq.trans q (congrArg (fun n=>zS b n a.length) (eL J))),rfl,b1⟩))))))))
  ·exact aM
theorem aEH {a:aQ} {b:(List Int)} {R:(aQ × Bool)} (hm:aCX a b=some R) (e:aF G K (L) w) (g:G.lo=0) (h:bL K a1 c2 b):
  Calls prog 106 ([str a,zS a1 b.length c2]:List Value).toArray w (eC fun v w'=>v=zT #[str R.1,zB R.2]/\aF G K (L) w'):=by
 refine aN func106 rfl (by kernel_rfl) (by show (2:Nat)<=37;decide) ?_;unfold aCX at hm
 refine aJ (aI (v:=str ([]:aQ)) (aI (v:=zB false) (aH (aK (cD (aJ (aG (v:=str a) (aD (R_eqlS rfl rfl) (aI (v:=zB (a == ([116,97,117]:aQ))) (aH ?_))))))))))
 rcases aL hm with ⟨c,hm⟩|⟨c,hm⟩
 ·exact aM
 ·exact bG c rfl (aK (bP [0,1] (fun f w=>∃ d,vW a b d=some R/\f 12=zB d/\aF G K (L) w) aM aM))
theorem sX {a b:aQ} {R:Bool} (hm:cW a b=some R) (d:aF G K (L) w):
  Calls prog 168 ([str a,str b]:List Value).toArray w (eC fun v w'=>v=zB R/\aF G K (L) w'):=by
 refine aN func168 rfl (by kernel_rfl) (by show (2:Nat)<=21;decide) ?_;unfold cW at hm
 exact aJ (aI (v:=zB false) (aH (aK (bP [] (fun f w=>∃ c,dG c=some R/\f 4=zB c/\aF G K (L) w) aM aM))))
theorem sB {a b R:aQ} (hm:iE a b=some R) (c:aF G K (L) w):
  Calls prog 136 ([str a,str b]:List Value).toArray w (eC fun v w'=>v=str R/\aF G K (L) w'):=by
 exact aM
theorem aBV {a b R:aQ} (hm:mX a b=some R) (c:aF G K (L) w):
  Calls prog 105 ([str a,str b]:List Value).toArray w (eC fun v w'=>v=str R/\aF G K (L) w'):=by
 exact aM
theorem aHm {c:aQ} {R:(aQ × (List Int) × Bool)} (hm:rF c=some R) (k:aF G K (L) w) (l:G.lo=0):
  Calls prog 68 ([str c]:List Value).toArray w (eC fun v w'=>∃ h i,v=zT #[str R.1,zS h R.2.1.length i,zB R.2.2]/\aF G K (own 2 K h i R.2.1::L) w'):=by
 refine aN func68 rfl (by kernel_rfl) (by show (1:Nat)<=43;decide) ?_;unfold rF at hm
 refine aJ (aI (v:=str ([]:aQ)) (aI (v:=zS none 0 0) (aI (v:=zB false) (aH (aJ (aG (v:=str c) ?_))))));obtain ⟨a,m,hm⟩:=aB hm
 refine aP (vs:=[str c,str ([40]:aQ)]) call102 rfl (lib_Cut k m) ?_
 rintro _ x ⟨rfl,y⟩
 refine aG (v:=zT #[str a.1,str a.2.1,zB a.2.2]) (aD (dC rfl rfl) (aD (dC rfl rfl) (aD (dC rfl rfl) (aI (v:=str a.1) (aI (v:=str a.2.1) (aI (v:=zB a.2.2) (aH (aJ (aI (v:=zS none 0 0) (aH (gT [0,5] (fun f w=>∃ b d e,jR c a b=some R/\f 8=zS d b.length e/\aF G K (own 2 K d e b::L) w) ?_ ?_)))))))))))
 ·rintro f z ⟨b,d,e,hm,n,o⟩
  unfold jR at hm
  refine aK (aJ (aG (v:=str a.1) (aY n ?_)));obtain ⟨J,Z,p,q,r⟩:=aF.lendSp o (zR _) .head
  obtain ⟨g,t,hm⟩:=aB hm
  refine aP (vs:=[str a.1,zS d b.length e]) call106 rfl (aEH t q l p) ?_
  rintro _ a0 ⟨rfl,u⟩
  have a1:=r _ _ u
  exact aG (v:=zT #[str g.1,zB g.2]) (aD (dC rfl rfl) (aD (dC rfl rfl) (aI (v:=str g.1) (aI (v:=zB g.2) (aH (aK (bP [5,8] (fun f w=>∃ j,lQ a b j=some R/\f 40=zB j/\aF G K (own 2 K d e b::L) w) aM aM)))))))
 exact aM
theorem aIJ {a:aQ} {R:Bool} (hm:aAU a=some R) (b:aF G K (L) w) (c:G.lo=0):
  Calls prog 42 ([str a]:List Value).toArray w (eC fun v w'=>v=zB R/\aF G K (L) w'):=by
 exact aM
theorem aFJ {a b:(List UInt8)} {R:Bool} (hm:aEs a b=some R) (d:aF G K (L) w) (e:bL K a1 c2 a) (g:bL K a4 c5 b):
  Calls prog 4 ([zS a1 a.length c2,zS a4 b.length c5]:List Value).toArray w (eC fun v w'=>v=zB R/\aF G K (L) w'):=by
 refine aN func4 rfl (by kernel_rfl) (by show (2:Nat)<=13;decide) ?_;unfold aEs at hm
 exact aJ (aI (v:=zB false) (aH (aK (bP [] (fun f w=>∃ c,aCf c=some R/\f 4=zB c/\aF G K (L) w) aM aM))))
theorem aEI {a:(List UInt8)} {R:(Int × Int)} (hm:aCY a=some R) (c:aF G K (L) w) (d:bL K a1 c2 a):
  Calls prog 12 ([zS a1 a.length c2]:List Value).toArray w (eC fun v w'=>∃ b,v=zP (some ⟨b,0,none⟩)/\aF G K (box b 63 [zS a1 a.length c2,i64 R.1,Value.int .u64 R.2]::L) w'):=by
 exact aM
theorem uI {a R:(List Int)} (hm:aEt a=some R) (d:aF G K (L) w) (e:bL K a1 c2 a):
  Calls prog 57 ([zS a1 a.length c2]:List Value).toArray w (eC fun v w'=>∃ b c,v=zS b R.length c/\aF G K (own 2 K b c R::L) w'):=by
 exact aM
theorem aBC {a:(List UInt8)} {b c:Int} {R:(Int × Int × Int)} (hm:qI a b c=some R) (e:aF G K (box b1 63 [zS a2 a.length c3,i64 b,Value.int .u64 c]::L) w) (g:bL K a2 c3 a):
  Calls prog 29 ([zP (some ⟨b1,0,none⟩)]:List Value).toArray w (eC fun v w'=>v=i64 R.1/\aF G K (box b1 63 [zS a2 a.length c3,i64 R.2.1,Value.int .u64 R.2.2]::L) w'):=by
 refine aN func29 rfl (by kernel_rfl) (by show (1:Nat)<=62;decide) ?_;unfold qI at hm
 exact aJ (aI (v:=i64 0) (aH (aJ (aI (v:=i64 0) (aH (gT [0] (fun f w=>∃ d,oK a b c d=some R/\f 3=i64 d/\aF G K (box b1 63 [zS a2 a.length c3,i64 b,Value.int .u64 c]::L) w) aM aM))))))
theorem aZ {a:(List UInt8)} {b c n:Int} {R:(Int × Int × Int)} (hm:bA a b c n=some R) (i:aF G K (box b1 63 [zS a2 a.length c3,i64 b,Value.int .u64 c]::L) w) (j:bL K a2 c3 a):
  Calls prog 15 ([zP (some ⟨b1,0,none⟩),i64 n]:List Value).toArray w (eC fun v w'=>v=i64 R.1/\aF G K (box b1 63 [zS a2 a.length c3,i64 R.2.1,Value.int .u64 R.2.2]::L) w'):=by
 refine aN func15 rfl (by kernel_rfl) (by show (2:Nat)<=20;decide) ?_;unfold bA at hm
 refine aJ (aI (v:=i64 0) (aH (aK (aJ (aG (v:=i64 n) (aD (R_leq rfl rfl) (aH ?_)))))))
 rcases aL hm with ⟨d,hm⟩|⟨d,hm⟩
 ·exact aM
 ·refine bG d rfl (aW (aC (aJ (aG (v:=zP (some ⟨b1,0,none⟩)) ?_))));obtain ⟨k,l,hm⟩:=aB hm
  refine aP (vs:=[zP (some ⟨b1,0,none⟩)]) call29 rfl (aBC l i j) ?_
  rintro _ m ⟨rfl,o⟩
  exact aI (v:=i64 k.1) (aH (gT [1] (fun f w=>∃ e g h,oL n e g h=some R/\f 5=i64 e/\aF G K (box b1 63 [zS a2 a.length c3,i64 g,Value.int .u64 h]::L) w) aM aM))
theorem tL {a:(List UInt8)} {c d:Int} {b:(List Int)} {R:(Int × Int × Int)} (hm:rG a c d b=some R) (e:aF G K (box b1 63 [zS a2 a.length c3,i64 c,Value.int .u64 d]::L) w) (g:bL K a2 c3 a) (h:bL K a5 c6 b):
  Calls prog 55 ([zP (some ⟨b1,0,none⟩),zS a5 b.length c6]:List Value).toArray w (eC fun v w'=>v=i64 R.1/\aF G K (box b1 63 [zS a2 a.length c3,i64 R.2.1,Value.int .u64 R.2.2]::L) w'):=by
 exact aM
theorem aFZ {a:(List UInt8)} {c d:Int} {b:(List aQ)} {R:(aQ × Int × Int)} (hm:yI a c d b=some R) (e:aF G K (box b1 63 [zS a2 a.length c3,i64 c,Value.int .u64 d]::L) w) (g:bL K a2 c3 a) (h:bL K a5 c6 b):
  Calls prog 98 ([zP (some ⟨b1,0,none⟩),zS a5 b.length c6]:List Value).toArray w (eC fun v w'=>v=str R.1/\aF G K (box b1 63 [zS a2 a.length c3,i64 R.2.1,Value.int .u64 R.2.2]::L) w'):=by
 exact aM
theorem qZ {a:(List UInt8)} {b c n:Int} {R:(Bool × Int × Int)} (hm:iH a b c n=some R) (d:aF G K (box b1 63 [zS a2 a.length c3,i64 b,Value.int .u64 c]::L) w) (e:bL K a2 c3 a):
  Calls prog 18 ([zP (some ⟨b1,0,none⟩),i64 n]:List Value).toArray w (eC fun v w'=>v=zB R.1/\aF G K (box b1 63 [zS a2 a.length c3,i64 R.2.1,Value.int .u64 R.2.2]::L) w'):=by
 exact aM
theorem tM {a:(List UInt8)} {b c:Int} {R:(bD × Int × Int)} (hm:oM a b c=some R) (h:aF G K (box b1 63 [zS a2 a.length c3,i64 b,Value.int .u64 c]::L) w) (i:bL K a2 c3 a):
  Calls prog 56 ([zP (some ⟨b1,0,none⟩)]:List Value).toArray w (eC fun v w'=>v=zA #[i64 R.1.Kind,i64 R.1.Variable,str R.1.B,zB R.1.Not]/\aF G K (box b1 63 [zS a2 a.length c3,i64 R.2.1,Value.int .u64 R.2.2]::L) w'):=by
 let d:=[i64 0,i64 0,str ([]:aQ),zB false]
 refine aN func56 rfl (by kernel_rfl) (by show (1:Nat)<=15;decide) ?_;unfold oM at hm
 refine aJ (bV (vs:=d) zeroValue66 h rfl (fun e j k=>(aH (aJ (aG (v:=zP (some ⟨b1,0,none⟩)) ?_)))))
 have l:aF G K (box b1 63 [zS a2 a.length c3,i64 b,Value.int .u64 c]::box e 66 d::L) j:=(aF.arr 2 [1,0] k rfl)
 obtain ⟨g,m,hm⟩:=aB hm
 refine aP (vs:=[zP (some ⟨b1,0,none⟩),i64 2]) call15 rfl (aZ m l i) ?_
 rintro _ r ⟨rfl,n⟩
 refine aD (cN rfl rfl) (aG (v:=zP (some ⟨b1,0,none⟩)) (bX (Kt:=K) (xs:=([([]:aQ),([]:aQ),([97]:aQ),([98]:aQ),([116,97,117]:aQ),([103,101,116,42]:aQ),([103,101,116,40,48,41]:aQ),([99]:aQ)]:List aQ)) (cs:=[str ([]:aQ),str ([]:aQ),str ([97]:aQ),str ([98]:aQ),str ([116,97,117]:aQ),str ([103,101,116,42]:aQ),str ([103,101,116,40,48,41]:aQ),str ([99]:aQ)]) (vs:=[(0,str ([]:aQ)),(1,str ([]:aQ)),(2,str ([97]:aQ)),(3,str ([98]:aQ)),(4,str ([116,97,117]:aQ)),(5,str ([103,101,116,42]:aQ)),(6,str ([103,101,116,40,48,41]:aQ)),(7,str ([99]:aQ))]) fD aGu rfl rfl n rfl (by kernel_rfl) rfl rfl rfl ⟨rfl,rfl,rfl,rfl,rfl,rfl,rfl,rfl,trivial⟩ (fun o p (q:aF G K (own 9 K o 8 ([([]:aQ),([]:aQ),([97]:aQ),([98]:aQ),([116,97,117]:aQ),([103,101,116,42]:aQ),([103,101,116,40,48,41]:aQ),([99]:aQ)]:List aQ)::box b1 63 [zS a2 a.length c3,i64 g.2.1,Value.int .u64 g.2.2]::box e 66 d::L) p)=>?_)))
 obtain ⟨t,u,x,y,z⟩:=aF.lendSp q (zR _) .head
 exact aM
theorem aAb {rec_:(List UInt8)->Int->Int->(List Int)->Int->Option ((List bD) × Int × Int)} (ih:∀ {G:tO} {K:Hp} {L:List fJ} {w:World} {b1:Nat} {b:(List UInt8)} {a2:Option Addr} {c3:Nat} {c1:Int} {c2:Int} {e:(List Int)} {a5:Option Addr} {c6:Nat} {g:Int} {R:((List bD) × Int × Int)} (hm:rec_ b c1 c2 e g=some R) (hs:aF G K (box b1 63 [zS a2 b.length c3,i64 c1,Value.int .u64 c2]::L) w) (k:bL K a2 c3 b) (Z:bL K a5 c6 e),
  Calls prog 27 ([zP (some ⟨b1,0,none⟩),zS a5 e.length c6,i64 g]:List Value).toArray w (eC fun v w'=>∃ c4 c5,v=zS c4 R.1.length c5/\aF G K (own 66 K c4 c5 R.1::box b1 63 [zS a2 b.length c3,i64 R.2.1,Value.int .u64 R.2.2]::L) w'))
  {G:tO} {K:Hp} {L:List fJ} {w:World} {b1:Nat} {b:(List UInt8)} {a2:Option Addr} {c3:Nat} {c1:Int} {c2:Int} {e:(List Int)} {a5:Option Addr} {c6:Nat} {g:Int} {R:((List bD) × Int × Int)} (hm:qA rec_ b c1 c2 e g=some R) (hs:aF G K (box b1 63 [zS a2 b.length c3,i64 c1,Value.int .u64 c2]::L) w) (k:bL K a2 c3 b) (Z:bL K a5 c6 e):
  Calls prog 27 ([zP (some ⟨b1,0,none⟩),zS a5 e.length c6,i64 g]:List Value).toArray w (eC fun v w'=>∃ c4 c5,v=zS c4 R.1.length c5/\aF G K (own 66 K c4 c5 R.1::box b1 63 [zS a2 b.length c3,i64 R.2.1,Value.int .u64 R.2.2]::L) w'):=by
 let b4:=[zP (some ⟨b1,0,none⟩),i64 2]
 let d3:=[zS a5 e.length c6]
 refine aN func27 rfl (by kernel_rfl) (by show (3:Nat)<=143;decide) ?_;unfold qA at hm
 refine aJ (aI (v:=zS none 0 0) (aH (aK (aJ (aG (v:=i64 g) (aD (R_leq rfl rfl) (aH ?_)))))))
 rcases aL hm with ⟨c8,hm⟩|⟨c8,hm⟩
 ·refine aR c8 rfl (aK (aK (bP [0,1] (fun f w=>∃ s9 e3 e4,lH b e s9 e3 e4=some R/\f 26=zB e4/\aF G K (box b1 63 [zS a2 b.length c3,i64 s9,Value.int .u64 e3]::L) w) ?_ ?_)))
  ·rintro f w13 ⟨s9,e3,e4,hm,g4,g5⟩
   unfold lH at hm
   refine aC ?_
   rcases aL hm with ⟨e5,hm⟩|⟨e5,hm⟩
   ·refine aR e5 g4 (aJ (aG (v:=zP (some ⟨b1,0,none⟩)) (aG (v:=zS a5 e.length c6) ?_)));obtain ⟨a0,m6,hm⟩:=aB hm
    refine aP (vs:=[zP (some ⟨b1,0,none⟩),zS a5 e.length c6]) call55 rfl (tL m6 g5 k Z) ?_
    rintro _ w19 ⟨rfl,m7⟩
    refine aD (gJ (vs:=[(0,i64 6),(1,i64 a0.1)]) (cs:=[i64 6,i64 a0.1,str ([]:aQ),zB false]) aEj rfl (by kernel_rfl)) (bX (Kt:=K) (xs:=([⟨6,a0.1,([]:aQ),false⟩]:List bD)) (cs:=[i64 6,i64 a0.1,str ([]:aQ),zB false]) (vs:=[(0,zA #[i64 6,i64 a0.1,str ([]:aQ),zB false])]) tD aAy rfl rfl m7 rfl (by kernel_rfl) rfl rfl rfl ⟨rfl,trivial⟩ (fun e6 m8 (m9:aF G K (own 66 K e6 1 ([⟨6,a0.1,([]:aQ),false⟩]:List bD)::box b1 63 [zS a2 b.length c3,i64 a0.2.1,Value.int .u64 a0.2.2]::L) m8)=>(aI (v:=zS e6 ([⟨6,a0.1,([]:aQ),false⟩]:List bD).length 1) (aH ?_))))
    obtain rfl:=zI hm
    exact tC (mG (mG (pJ results27 rfl ⟨e6,1,rfl,m9⟩)))
   ·refine bG e5 g4 (aW (aC (aJ (aG (v:=zP (some ⟨b1,0,none⟩)) ?_))));obtain ⟨a1,n1,hm⟩:=aB hm
    refine aP (vs:=b4) call15 rfl (aZ n1 g5 k) ?_
    rintro _ w28 ⟨rfl,n2⟩
    refine aD (gJ (vs:=[(0,i64 a1.1)]) (cs:=[i64 a1.1,i64 0,str ([]:aQ),zB false]) aEj rfl (by kernel_rfl)) (bX (Kt:=K) (xs:=([⟨a1.1,0,([]:aQ),false⟩]:List bD)) (cs:=[i64 a1.1,i64 0,str ([]:aQ),zB false]) (vs:=[(0,zA #[i64 a1.1,i64 0,str ([]:aQ),zB false])]) tD aAy rfl rfl n2 rfl (by kernel_rfl) rfl rfl rfl ⟨rfl,trivial⟩ (fun e7 n3 (n4:aF G K (own 66 K e7 1 ([⟨a1.1,0,([]:aQ),false⟩]:List bD)::box b1 63 [zS a2 b.length c3,i64 a1.2.1,Value.int .u64 a1.2.2]::L) n3)=>(aI (v:=zS e7 ([⟨a1.1,0,([]:aQ),false⟩]:List bD).length 1) (aH ?_))))
    obtain rfl:=zI hm
    exact tC (mG (pJ results27 rfl ⟨e7,1,rfl,n4⟩))
  exact aM
 ·refine bG c8 rfl (aW (aC (aK (aJ (aG (v:=zP (some ⟨b1,0,none⟩)) ?_)))));obtain ⟨a8,n6,hm⟩:=aB hm
  refine aP (vs:=[zP (some ⟨b1,0,none⟩),i64 6]) call15 rfl (aZ n6 hs k) ?_
  rintro _ w43 ⟨rfl,a25⟩
  refine aH (cD (gT [0,1,2,37] (fun f w=>∃ e8,gX rec_ b e g a8 e8=some R/\f 38=zB e8/\aF G K (box b1 63 [zS a2 b.length c3,i64 a8.2.1,Value.int .u64 a8.2.2]::L) w) ?_ ?_))
  ·rintro f w47 ⟨e8,hm,g6,n7⟩
   unfold gX at hm
   rcases aL hm with ⟨e9,hm⟩|⟨e9,hm⟩
   ·refine aR e9 g6 (aJ (aG (v:=zP (some ⟨b1,0,none⟩)) ?_));obtain ⟨n,n8,hm⟩:=aB hm
    refine aP (vs:=[zP (some ⟨b1,0,none⟩)]) call56 rfl (tM n8 n7 k) ?_
    rintro _ w53 ⟨rfl,n9⟩
    refine bX (Kt:=K) (xs:=([n.1]:List bD)) (cs:=[i64 n.1.Kind,i64 n.1.Variable,str n.1.B,zB n.1.Not]) (vs:=[(0,zA #[i64 n.1.Kind,i64 n.1.Variable,str n.1.B,zB n.1.Not])]) tD aAy rfl rfl n9 rfl (by kernel_rfl) rfl rfl rfl ⟨rfl,trivial⟩ (fun d4 g7 (o0:aF G K (own 66 K d4 1 ([n.1]:List bD)::box b1 63 [zS a2 b.length c3,i64 n.2.1,Value.int .u64 n.2.2]::L) g7)=>(aI (v:=zS d4 ([n.1]:List bD).length 1) (aH (aJ (aG (v:=zS d4 ([n.1]:List bD).length 1) (aG (v:=zP (some ⟨b1,0,none⟩)) (aG (v:=zS a5 e.length c6) (aG (v:=i64 g) (aD (oH rfl rfl) ?_)))))))))
    have o1:aF G K (box b1 63 [zS a2 b.length c3,i64 n.2.1,Value.int .u64 n.2.2]::own 66 K d4 1 ([n.1]:List bD)::L) g7:=(aF.arr 2 [1,0] o0 rfl)
    obtain ⟨r59,o2,hm⟩:=aB hm
    exact aP (vs:=[zP (some ⟨b1,0,none⟩),zS a5 e.length c6,i64 (wr (g - 1))]) call27 rfl (ih o2 o1 k Z) aM
   ·refine bG e9 g6 (gT [0,1,2,37] (fun f w=>∃ f0,lJ rec_ b e g a8 f0=some R/\f 51=zB f0/\aF G K (box b1 63 [zS a2 b.length c3,i64 a8.2.1,Value.int .u64 a8.2.2]::L) w) ?_ ?_)
    ·rintro f w74 ⟨f0,hm,g8,f1⟩
     unfold lJ at hm
     rcases aL hm with ⟨f2,hm⟩|⟨f2,hm⟩
     ·refine aR f2 g8 (aJ (aG (v:=zP (some ⟨b1,0,none⟩)) ?_));obtain ⟨o,o3,hm⟩:=aB hm
      refine aP (vs:=b4) call15 rfl (aZ o3 f1 k) ?_
      rintro _ w80 ⟨rfl,o4⟩
      refine aD (cN rfl rfl) (aD (gJ (vs:=[(0,i64 (wr (2+o.1)))]) (cs:=[i64 (wr (2+o.1)),i64 0,str ([]:aQ),zB false]) aEj rfl (by kernel_rfl)) (bX (Kt:=K) (xs:=([⟨wr (2+o.1),0,([]:aQ),false⟩]:List bD)) (cs:=[i64 (wr (2+o.1)),i64 0,str ([]:aQ),zB false]) (vs:=[(0,zA #[i64 (wr (2+o.1)),i64 0,str ([]:aQ),zB false])]) tD aAy rfl rfl o4 rfl (by kernel_rfl) rfl rfl rfl ⟨rfl,trivial⟩ (fun b5 g9 (o5:aF G K (own 66 K b5 1 ([⟨wr (2+o.1),0,([]:aQ),false⟩]:List bD)::box b1 63 [zS a2 b.length c3,i64 o.2.1,Value.int .u64 o.2.2]::L) g9)=>(aI (v:=zS b5 ([⟨wr (2+o.1),0,([]:aQ),false⟩]:List bD).length 1) (aH (aJ (aG (v:=zP (some ⟨b1,0,none⟩)) (aG (v:=zS a5 e.length c6) (aG (v:=i64 g) (aD (oH rfl rfl) ?_))))))))))
      obtain ⟨o6,o7,hm⟩:=aB hm
      refine aD (R_quo rfl rfl o7) ?_
      have o8:aF G K (box b1 63 [zS a2 b.length c3,i64 o.2.1,Value.int .u64 o.2.2]::own 66 K b5 1 ([⟨wr (2+o.1),0,([]:aQ),false⟩]:List bD)::L) g9:=(aF.arr 2 [1,0] o5 rfl)
      obtain ⟨b6,o9,hm⟩:=aB hm
      refine aP (vs:=[zP (some ⟨b1,0,none⟩),zS a5 e.length c6,i64 o6]) call27 rfl (ih o9 o8 k Z) ?_
      rintro _ p0 ⟨d5,d6,rfl,p1⟩
      refine aI (v:=zS d5 b6.1.length d6) (aH (aJ (aG (v:=zP (some ⟨b1,0,none⟩)) (aG (v:=zS a5 e.length c6) (aG (v:=i64 g) (aD (oH rfl rfl) ?_))))));obtain ⟨p2,p3,hm⟩:=aB hm
      refine aD (R_quo rfl rfl p3) ?_
      have p4:aF G K (box b1 63 [zS a2 b.length c3,i64 b6.2.1,Value.int .u64 b6.2.2]::own 66 K d5 d6 b6.1::own 66 K b5 1 ([⟨wr (2+o.1),0,([]:aQ),false⟩]:List bD)::L) p0:=(aF.arr 2 [1,0] p1 rfl)
      obtain ⟨d7,p5,hm⟩:=aB hm
      refine aP (vs:=[zP (some ⟨b1,0,none⟩),zS a5 e.length c6,i64 p2]) call27 rfl (ih p5 p4 k Z) ?_
      rintro _ p6 ⟨h0,h1,rfl,p7⟩
      refine aI (v:=zS h0 d7.1.length h1) (aH (aJ (aG (v:=zS b5 ([⟨wr (2+o.1),0,([]:aQ),false⟩]:List bD).length 1) (aG (v:=zS d5 b6.1.length d6) ?_))));obtain ⟨a32,a33,hm⟩:=aB hm
      have a34:aF G K (own 66 K d5 d6 b6.1::own 66 K h0 h1 d7.1::box b1 63 [zS a2 b.length c3,i64 d7.2.1,Value.int .u64 d7.2.2]::own 66 K b5 1 ([⟨wr (2+o.1),0,([]:aQ),false⟩]:List bD)::L) p6:=(aF.arr 3 [2,0,1] p7 rfl)
      exact aM
     ·refine bG f2 g8 (aJ (aD (qS rfl rfl) (aI (v:=zB (a8.1 == 4)) (aH ?_))))
      rcases aL hm with ⟨f3,hm⟩|⟨f3,hm⟩
      ·refine aR f3 rfl (aJ (aG (v:=zP (some ⟨b1,0,none⟩)) ?_));obtain ⟨l,p8,hm⟩:=aB hm
       refine aP (vs:=b4) call15 rfl (aZ p8 f1 k) ?_
       rintro _ a35 ⟨rfl,p9⟩
       refine aD (cN rfl rfl) (aG (v:=zP (some ⟨b1,0,none⟩)) ?_);obtain ⟨c,q0,hm⟩:=aB hm
       refine aP (vs:=[zP (some ⟨b1,0,none⟩),i64 3]) call15 rfl (aZ q0 p9 k) ?_
       rintro _ a36 ⟨rfl,q1⟩
       refine aD (gJ (vs:=[(0,i64 (wr (7+l.1))),(1,i64 c.1)]) (cs:=[i64 (wr (7+l.1)),i64 c.1,str ([]:aQ),zB false]) aEj rfl (by kernel_rfl)) (bV (vs:=[i64 0,i64 0,str ([]:aQ),zB false]) zeroValue66 q1 rfl (fun h2 a37 q2=>(dJ (i:=0) (ns:=[i64 (wr (7+l.1)),i64 c.1,str ([]:aQ),zB false]) (us:=[i64 (wr (7+l.1)),i64 c.1,str ([]:aQ),zB false]) sizeOf66 q2 rfl rfl rfl rfl rfl (eV rfl) rfl rfl (fun q3 (q4:aF G K (box h2 66 [i64 (wr (7+l.1)),i64 c.1,str ([]:aQ),zB false]::box b1 63 [zS a2 b.length c3,i64 c.2.1,Value.int .u64 c.2.2]::L) q3)=>(aH (aK (bP [0,2,11] (fun f w=>∃ r z J,sJ rec_ b g l c r=some R/\f 12=zS z r.length J/\aF G K (own 2 K z J r::box h2 66 [i64 (wr (7+l.1)),i64 c.1,str ([]:aQ),zB false]::box b1 63 [zS a2 b.length c3,i64 c.2.1,Value.int .u64 c.2.2]::L) w) ?_ ?_)))))))
       ·rintro f a38 ⟨r,z,J,hm,q5,q6⟩
        unfold sJ at hm
        refine aC (aK (bP [] (fun f w=>∃ f4 h3 h5 h6 h8,xL f4 h3 h5=some R/\f 6=zS h6 f4.length h8/\aF G K (own 66 K h6 h8 f4::box b1 63 [zS a2 b.length c3,i64 h3,Value.int .u64 h5]::L) w) aM ?_));obtain ⟨a9,a4,q7,q8,a39⟩:=aF.lendBp q6 zt1
        refine xJ (C:=fun w'=>∃ L',aF G a9 L' w') [] Tryz_mixed (by kernel_rfl) (fun a40 q9=>?_)
        have a3:=aF.mono q8 q9
        refine fY (i:=0) rfl (by kernel_rfl) ⟨_,a3⟩ (fun _ ⟨_,a3⟩=>jQ (t:=0) (vs:=[i64 (wr (7+l.1)),i64 c.1,str ([]:aQ),zB false]) aFA a3 q7 rfl rfl rfl) (fY (i:=2) rfl (by kernel_rfl) ⟨_,a3⟩ (fun _ _=>aT (v:=zP (some ⟨b1,0,none⟩)) rfl) (fY (i:=3) rfl (by kernel_rfl) ⟨_,a3⟩ (fun _ _=>aT q5) (fY (i:=4) rfl (by kernel_rfl) ⟨_,a3⟩ (fun _ _=>aT (v:=i64 g) rfl) (fY (i:=5) rfl (by kernel_rfl) ⟨_,a3⟩ (fun _ _=>oH rfl rfl) (aCa (i:=1) (j:=6) (by kernel_rfl) rfl rfl ?_ ?_)))))
        ·refine bX (Kt:=K) (xs:=([⟨wr (7+l.1),c.1,([]:aQ),false⟩]:List bD)) (cs:=[i64 (wr (7+l.1)),i64 c.1,str ([]:aQ),zB false]) (vs:=[(0,zA #[i64 (wr (7+l.1)),i64 c.1,str ([]:aQ),zB false])]) tD aAy rfl rfl a3 rfl (by kernel_rfl) rfl rfl rfl ⟨rfl,trivial⟩ (fun f5 h9 (i0:aF G a9 (own 66 K f5 1 ([⟨wr (7+l.1),c.1,([]:aQ),false⟩]:List bD)::own 2 K z J r::box b1 63 [zS a2 b.length c3,i64 c.2.1,Value.int .u64 c.2.2]::L) h9)=>(aV (aC ⟨fun _=>⟨_,i0⟩,?_⟩)))
         refine dQ (i:=6) (by kernel_rfl) rfl ?_;obtain ⟨r0,r1,r2,r3,r4⟩:=aF.lendSp i0 a4 zt1
         have r5:aF G r0 (box b1 63 [zS a2 b.length c3,i64 c.2.1,Value.int .u64 c.2.2]::own 66 K f5 1 ([⟨wr (7+l.1),c.1,([]:aQ),false⟩]:List bD)::L) h9:=(aF.arr 2 [1,0] r3 rfl)
         obtain ⟨c7,r6,hm⟩:=aB hm
         refine aP (vs:=[zP (some ⟨b1,0,none⟩),zS z r.length J,i64 (wr (g - 1))]) call27 rfl (ih r6 r5 (k.mono (Hp.le_trans a4 r1)) r2) ?_
         rintro _ r7 ⟨r8,r9,rfl,s0⟩
         have i1:=r4 _ _ s0
         refine aV (aC ⟨fun _=>⟨_,i1⟩,?_⟩)
         refine dQ (i:=7) (by kernel_rfl) rfl ?_;obtain ⟨i2,s1,hm⟩:=aB hm
         have s2:aF G a9 (own 66 K r8 r9 c7.1::own 2 K z J r::box b1 63 [zS a2 b.length c3,i64 c7.2.1,Value.int .u64 c7.2.2]::own 66 K f5 1 ([⟨wr (7+l.1),c.1,([]:aQ),false⟩]:List bD)::L) r7:=(aF.arr 2 [1,0] i1 rfl)
         refine eQ (i:=2) tD underlying24 aAy rfl rfl s2 rfl a4 a4 s1 rfl rfl rfl rfl (fun _ h=>h) (fun i3 i4 s3 (i5:aF G a9 (own 2 K z J r::box b1 63 [zS a2 b.length c3,i64 c7.2.1,Value.int .u64 c7.2.2]::own 66 K i3 i4 i2::L) s3)=>(aV (aC ⟨fun _=>⟨_,i5⟩,?_⟩)))
         exact fY (i:=8) rfl (by kernel_rfl) ⟨_,i5⟩ (fun _ _=>eE (v:=zS i3 i2.length i4) rfl) (pL (by kernel_rfl) aM)
        ·obtain ⟨a41,s4,s5,s6,s7⟩:=aF.lendSp a3 a4 .head
         obtain ⟨a6,s8,hm⟩:=aB hm
         refine aP (vs:=[zP (some ⟨b1,0,none⟩),zS z r.length J,i64 (wr (g - 1))]) call27 rfl (ih s8 s6 (k.mono (Hp.le_trans a4 s4)) s5) ?_
         rintro _ a42 ⟨i6,i7,rfl,t0⟩
         have i8:=s7 _ _ t0
         refine aV (aC ⟨fun _=>⟨_,i8⟩,?_⟩)
         refine dQ (i:=1) (by kernel_rfl) rfl (bX (Kt:=K) (xs:=([⟨wr (7+l.1),c.1,([]:aQ),false⟩]:List bD)) (cs:=[i64 (wr (7+l.1)),i64 c.1,str ([]:aQ),zB false]) (vs:=[(0,zA #[i64 (wr (7+l.1)),i64 c.1,str ([]:aQ),zB false])]) tD aAy rfl rfl i8 rfl (by kernel_rfl) rfl rfl rfl ⟨rfl,trivial⟩ (fun i9 j0 (j1:aF G a9 (own 66 K i9 1 ([⟨wr (7+l.1),c.1,([]:aQ),false⟩]:List bD)::own 2 K z J r::own 66 K i6 i7 a6.1::box b1 63 [zS a2 b.length c3,i64 a6.2.1,Value.int .u64 a6.2.2]::L) j0)=>(aV (aC ⟨fun _=>⟨_,j1⟩,?_⟩))))
         refine dQ (i:=7) (by kernel_rfl) rfl ?_;obtain ⟨j2,t1,hm⟩:=aB hm
         have t2:aF G a9 (own 66 K i6 i7 a6.1::own 66 K i9 1 ([⟨wr (7+l.1),c.1,([]:aQ),false⟩]:List bD)::own 2 K z J r::box b1 63 [zS a2 b.length c3,i64 a6.2.1,Value.int .u64 a6.2.2]::L) j0:=(aF.arr 3 [2,0,1] j1 rfl)
         refine eQ (i:=0) tD underlying24 aAy rfl rfl t2 rfl a4 a4 t1 rfl rfl rfl rfl (fun _ h=>h) (fun j3 j4 t3 (j5:aF G a9 (own 66 K j3 j4 j2::own 2 K z J r::box b1 63 [zS a2 b.length c3,i64 a6.2.1,Value.int .u64 a6.2.2]::L) t3)=>(aV (aC ⟨fun _=>⟨_,j5⟩,?_⟩)))
         exact fY (i:=8) rfl (by kernel_rfl) ⟨_,j5⟩ (fun _ _=>eE (v:=zS j3 j2.length j4) rfl) (pL (by kernel_rfl) aM)
       obtain ⟨b7,b8,t4,t5,j6⟩:=aF.lendBp q4 .head
       refine xJ (C:=fun w'=>∃ L',aF G b7 L' w') [] Tryz_mixed (by kernel_rfl) (fun a43 t6=>?_)
       have b0:=aF.mono t5 t6
       refine fY (i:=0) rfl (by kernel_rfl) ⟨_,b0⟩ (fun _ _=>aT (v:=zS a5 e.length c6) rfl) (fY (i:=2) rfl (by kernel_rfl) ⟨_,b0⟩ (fun _ _=>bH (t':=1) aIg rfl rfl) (fY (i:=3) rfl (by kernel_rfl) ⟨_,b0⟩ (fun _ ⟨_,b0⟩=>aU (t:=1) cR b0 t4 rfl rfl) (aCa (i:=1) (j:=4) (by kernel_rfl) rfl rfl ?_ ?_)))
       ·obtain ⟨t7,t8,hm⟩:=aB hm
        refine aP (vs:=d3) call57 rfl (uI t8 b0 (Z.mono b8)) ?_
        rintro _ a44 ⟨t9,u0,rfl,j7⟩
        refine aV (aC ⟨fun _=>⟨_,j7⟩,?_⟩)
        refine dQ (i:=4) (by kernel_rfl) rfl (bX (Kt:=K) (xs:=([c.1]:List Int)) (cs:=[i64 c.1]) (vs:=[(0,i64 c.1)]) bN kQ rfl rfl j7 rfl (by kernel_rfl) rfl rfl rfl ⟨rfl,trivial⟩ (fun u1 u2 (j8:aF G b7 (own 2 K u1 1 ([c.1]:List Int)::own 2 K t9 u0 t7::box b1 63 [zS a2 b.length c3,i64 c.2.1,Value.int .u64 c.2.2]::L) u2)=>(aV (aC ⟨fun _=>⟨_,j8⟩,?_⟩))))
        refine dQ (i:=5) (by kernel_rfl) rfl ?_;obtain ⟨j9,u3,hm⟩:=aB hm
        refine eQ (i:=0) bN underlying32 kQ rfl rfl j8 rfl b8 b8 u3 rfl rfl rfl rfl (fun _ h=>h) (fun k0 k1 u4 (f6:aF G b7 (own 2 K k0 k1 j9::box b1 63 [zS a2 b.length c3,i64 c.2.1,Value.int .u64 c.2.2]::L) u4)=>(aV (aC ⟨fun _=>⟨_,f6⟩,?_⟩)))
        refine fY (i:=6) rfl (by kernel_rfl) ⟨_,f6⟩ (fun _ _=>eE (v:=zS k0 j9.length k1) rfl) (pL (by kernel_rfl) ?_)
        have a45:=j6 _ _ f6
        exact aM
       ·refine bX (Kt:=K) (xs:=([c.1]:List Int)) (cs:=[i64 c.1]) (vs:=[(0,i64 c.1)]) bN kQ rfl rfl b0 rfl (by kernel_rfl) rfl rfl rfl ⟨rfl,trivial⟩ (fun k2 u5 (k3:aF G b7 (own 2 K k2 1 ([c.1]:List Int)::box b1 63 [zS a2 b.length c3,i64 c.2.1,Value.int .u64 c.2.2]::L) u5)=>(aV (aC ⟨fun _=>⟨_,k3⟩,?_⟩)))
        refine dQ (i:=1) (by kernel_rfl) rfl ?_;obtain ⟨u6,u7,hm⟩:=aB hm
        refine aP (vs:=d3) call57 rfl (uI u7 k3 (Z.mono b8)) ?_
        rintro _ u8 ⟨u9,v0,rfl,k4⟩
        refine aV (aC ⟨fun _=>⟨_,k4⟩,?_⟩)
        refine dQ (i:=5) (by kernel_rfl) rfl ?_;obtain ⟨k5,v1,hm⟩:=aB hm
        have v2:aF G b7 (own 2 K k2 1 ([c.1]:List Int)::own 2 K u9 v0 u6::box b1 63 [zS a2 b.length c3,i64 c.2.1,Value.int .u64 c.2.2]::L) u8:=(aF.arr 2 [1,0] k4 rfl)
        refine eQ (i:=0) bN underlying32 kQ rfl rfl v2 rfl b8 b8 v1 rfl rfl rfl rfl (fun _ h=>h) (fun k6 k7 v3 (f7:aF G b7 (own 2 K k6 k7 k5::box b1 63 [zS a2 b.length c3,i64 c.2.1,Value.int .u64 c.2.2]::L) v3)=>(aV (aC ⟨fun _=>⟨_,f7⟩,?_⟩)))
        refine fY (i:=6) rfl (by kernel_rfl) ⟨_,f7⟩ (fun _ _=>eE (v:=zS k6 k5.length k7) rfl) (pL (by kernel_rfl) ?_)
        have a46:=j6 _ _ f7
        exact aM
      ·refine bG f3 rfl (aW (cH (aC (aK (aJ (aG (v:=zP (some ⟨b1,0,none⟩)) ?_))))));obtain ⟨a47,v4,hm⟩:=aB hm
       refine aP (vs:=b4) call18 rfl (qZ v4 f1 k) ?_
       rintro _ a48 ⟨rfl,k8⟩
       refine aH ?_
       rcases aL hm with ⟨f8,hm⟩|⟨f8,hm⟩
       ·refine aR f8 rfl (aJ (aG (v:=zP (some ⟨b1,0,none⟩)) (aG (v:=zS a5 e.length c6) (aG (v:=i64 g) ?_))));obtain ⟨v5,v6,hm⟩:=aB hm
        refine aD (R_quo rfl rfl v6) ?_;obtain ⟨a49,v7,hm⟩:=aB hm
        exact aP (vs:=[zP (some ⟨b1,0,none⟩),zS a5 e.length c6,i64 v5]) call27 rfl (ih v7 k8 k Z) aM
       ·refine bG f8 rfl (aW (aC (aJ (aG (v:=zP (some ⟨b1,0,none⟩)) ?_))));obtain ⟨d,v8,hm⟩:=aB hm
        refine aP (vs:=b4) call15 rfl (aZ v8 k8 k) ?_
        rintro _ a50 ⟨rfl,v9⟩
        refine aD (cN rfl rfl) (aG (v:=zP (some ⟨b1,0,none⟩)) ?_);obtain ⟨a,w0,hm⟩:=aB hm
        refine aP (vs:=b4) call15 rfl (aZ w0 v9 k) ?_
        rintro _ a51 ⟨rfl,w1⟩
        refine aD (gJ (vs:=[(0,i64 (wr (7+d.1))),(1,i64 a.1)]) (cs:=[i64 (wr (7+d.1)),i64 a.1,str ([]:aQ),zB false]) aEj rfl (by kernel_rfl)) (bV (vs:=[i64 0,i64 0,str ([]:aQ),zB false]) zeroValue66 w1 rfl (fun u a52 w2=>(dJ (i:=0) (ns:=[i64 (wr (7+d.1)),i64 a.1,str ([]:aQ),zB false]) (us:=[i64 (wr (7+d.1)),i64 a.1,str ([]:aQ),zB false]) sizeOf66 w2 rfl rfl rfl rfl rfl (eV rfl) rfl rfl (fun w3 (a53:aF G K (box u 66 [i64 (wr (7+d.1)),i64 a.1,str ([]:aQ),zB false]::box b1 63 [zS a2 b.length c3,i64 a.2.1,Value.int .u64 a.2.2]::L) w3)=>(aH (aJ (aI (v:=i64 3) (aH (gT [0,1,2,13] (fun f w=>∃ p,lI rec_ b e g d a p=some R/\f 14=i64 p/\aF G K (box u 66 [i64 (wr (7+d.1)),i64 a.1,str ([]:aQ),zB false]::box b1 63 [zS a2 b.length c3,i64 a.2.1,Value.int .u64 a.2.2]::L) w) ?_ ?_)))))))))
        ·rintro f a54 ⟨p,hm,w4,w5⟩
         unfold lI at hm
         refine aK (bP [0,2,13,14] (fun f w=>∃ q x y,sK rec_ b g d a p q=some R/\f 15=zS x q.length y/\aF G K (own 2 K x y q::box u 66 [i64 (wr (7+d.1)),i64 a.1,str ([]:aQ),zB false]::box b1 63 [zS a2 b.length c3,i64 a.2.1,Value.int .u64 a.2.2]::L) w) ?_ ?_)
         ·rintro f a56 ⟨q,x,y,hm,w6,k9⟩
          unfold sK at hm
          refine aC (aJ (aD (kZ (us:=[i64 (wr (7+d.1)),i64 a.1,str ([]:aQ),zB false]) aFA k9 (i:=1) rfl rfl rfl rfl) (aY w4 (aD (gJ (vs:=[(0,i64 p)]) (cs:=[i64 p,i64 0,str ([]:aQ),zB false]) aEj rfl (by kernel_rfl)) (bX (Kt:=K) (xs:=([⟨wr (7+d.1),a.1,([]:aQ),false⟩,⟨p,0,([]:aQ),false⟩]:List bD)) (cs:=[i64 (wr (7+d.1)),i64 a.1,str ([]:aQ),zB false,i64 p,i64 0,str ([]:aQ),zB false]) (vs:=[(0,zA #[i64 (wr (7+d.1)),i64 a.1,str ([]:aQ),zB false]),(1,zA #[i64 p,i64 0,str ([]:aQ),zB false])]) tD aAy rfl rfl k9 rfl (by kernel_rfl) rfl rfl rfl ⟨rfl,rfl,trivial⟩ (fun c9 l0 (w7:aF G K (own 66 K c9 2 ([⟨wr (7+d.1),a.1,([]:aQ),false⟩,⟨p,0,([]:aQ),false⟩]:List bD)::own 2 K x y q::box u 66 [i64 (wr (7+d.1)),i64 a.1,str ([]:aQ),zB false]::box b1 63 [zS a2 b.length c3,i64 a.2.1,Value.int .u64 a.2.2]::L) l0)=>(aI (v:=zS c9 ([⟨wr (7+d.1),a.1,([]:aQ),false⟩,⟨p,0,([]:aQ),false⟩]:List bD).length 2) (aH (aJ (aG (v:=zS c9 ([⟨wr (7+d.1),a.1,([]:aQ),false⟩,⟨p,0,([]:aQ),false⟩]:List bD).length 2) (aG (v:=zP (some ⟨b1,0,none⟩)) (aY w6 (aG (v:=i64 g) ?_)))))))))))))
          obtain ⟨w8,w9,hm⟩:=aB hm
          refine aD (R_quo rfl rfl w9) ?_;obtain ⟨x0,x1,x2,x3,x4⟩:=aF.lendSp w7 (zR _) zt1
          have x5:aF G x0 (box b1 63 [zS a2 b.length c3,i64 a.2.1,Value.int .u64 a.2.2]::own 66 K c9 2 ([⟨wr (7+d.1),a.1,([]:aQ),false⟩,⟨p,0,([]:aQ),false⟩]:List bD)::box u 66 [i64 (wr (7+d.1)),i64 a.1,str ([]:aQ),zB false]::L) l0:=(aF.arr 3 [2,0,1] x3 rfl)
          obtain ⟨b2,x6,hm⟩:=aB hm
          refine aP (vs:=[zP (some ⟨b1,0,none⟩),zS x q.length y,i64 w8]) call27 rfl (ih x6 x5 (k.mono x1) x2) ?_
          rintro _ x7 ⟨x8,x9,rfl,y0⟩
          have y1:=x4 _ _ y0
          obtain ⟨d0,y2,hm⟩:=aB hm
          have y3:aF G K (own 66 K x8 x9 b2.1::own 2 K x y q::box b1 63 [zS a2 b.length c3,i64 b2.2.1,Value.int .u64 b2.2.2]::own 66 K c9 2 ([⟨wr (7+d.1),a.1,([]:aQ),false⟩,⟨p,0,([]:aQ),false⟩]:List bD)::box u 66 [i64 (wr (7+d.1)),i64 a.1,str ([]:aQ),zB false]::L) x7:=(aF.arr 2 [1,0] y1 rfl)
          refine eQ (i:=2) tD underlying24 aAy rfl rfl y3 rfl (zR _) (zR _) y2 rfl rfl rfl rfl (fun _ h=>h) (fun d1 d2 l1 (y4:aF G K (own 2 K x y q::box b1 63 [zS a2 b.length c3,i64 b2.2.1,Value.int .u64 b2.2.2]::own 66 K d1 d2 d0::box u 66 [i64 (wr (7+d.1)),i64 a.1,str ([]:aQ),zB false]::L) l1)=>(aI (v:=zS d1 d0.length d2) (aH (aJ (aG (v:=zS d1 d0.length d2) (aG (v:=zP (some ⟨b1,0,none⟩)) ?_))))))
          have y5:aF G K (box b1 63 [zS a2 b.length c3,i64 b2.2.1,Value.int .u64 b2.2.2]::own 2 K x y q::own 66 K d1 d2 d0::box u 66 [i64 (wr (7+d.1)),i64 a.1,str ([]:aQ),zB false]::L) l1:=(aF.arr 2 [1,0] y4 rfl)
          obtain ⟨m,y6,hm⟩:=aB hm
          refine aP (vs:=[zP (some ⟨b1,0,none⟩)]) call56 rfl (tM y6 y5 k) ?_
          rintro _ a57 ⟨rfl,y7⟩
          refine bX (Kt:=K) (xs:=([m.1]:List bD)) (cs:=[i64 m.1.Kind,i64 m.1.Variable,str m.1.B,zB m.1.Not]) (vs:=[(0,zA #[i64 m.1.Kind,i64 m.1.Variable,str m.1.B,zB m.1.Not])]) tD aAy rfl rfl y7 rfl (by kernel_rfl) rfl rfl rfl ⟨rfl,trivial⟩ (fun y8 y9 (z0:aF G K (own 66 K y8 1 ([m.1]:List bD)::box b1 63 [zS a2 b.length c3,i64 m.2.1,Value.int .u64 m.2.2]::own 2 K x y q::own 66 K d1 d2 d0::box u 66 [i64 (wr (7+d.1)),i64 a.1,str ([]:aQ),zB false]::L) y9)=>?_)
          obtain ⟨d8,z1,hm⟩:=aB hm
          refine eQ (i:=2) tD underlying24 aAy rfl rfl z0 rfl (zR _) (zR _) z1 rfl rfl rfl rfl (fun _ h=>h) (fun d9 e0 z2 (l2:aF G K (box b1 63 [zS a2 b.length c3,i64 m.2.1,Value.int .u64 m.2.2]::own 2 K x y q::own 66 K d9 e0 d8::box u 66 [i64 (wr (7+d.1)),i64 a.1,str ([]:aQ),zB false]::L) z2)=>(aI (v:=zS d9 d8.length e0) (aH (aJ (aG (v:=zS d9 d8.length e0) (aD (bH (t':=1) aIg rfl rfl) (aD (eM cR l2 (i:=3) rfl rfl rfl) (aD (gJ (vs:=[(0,i64 6),(1,i64 a.1)]) (cs:=[i64 6,i64 a.1,str ([]:aQ),zB false]) aEj rfl (by kernel_rfl)) (bX (Kt:=K) (xs:=([⟨6,a.1,([]:aQ),false⟩]:List bD)) (cs:=[i64 6,i64 a.1,str ([]:aQ),zB false]) (vs:=[(0,zA #[i64 6,i64 a.1,str ([]:aQ),zB false])]) tD aAy rfl rfl l2 rfl (by kernel_rfl) rfl rfl rfl ⟨rfl,trivial⟩ (fun z3 z4 (z5:aF G K (own 66 K z3 1 ([⟨6,a.1,([]:aQ),false⟩]:List bD)::box b1 63 [zS a2 b.length c3,i64 m.2.1,Value.int .u64 m.2.2]::own 2 K x y q::own 66 K d9 e0 d8::box u 66 [i64 (wr (7+d.1)),i64 a.1,str ([]:aQ),zB false]::L) z4)=>?_))))))))))
          obtain ⟨l3,z6,hm⟩:=aB hm
          refine eQ (i:=2) tD underlying24 aAy rfl rfl z5 rfl (zR _) (zR _) z6 rfl rfl rfl rfl (fun _ h=>h) (fun f9 g0 z7 (z8:aF G K (box b1 63 [zS a2 b.length c3,i64 m.2.1,Value.int .u64 m.2.2]::own 2 K x y q::own 66 K f9 g0 l3::box u 66 [i64 (wr (7+d.1)),i64 a.1,str ([]:aQ),zB false]::L) z7)=>(aI (v:=zS f9 l3.length g0) (aH ?_)));obtain rfl:=zI hm
          exact tC (pJ results27 rfl ⟨f9,g0,rfl,(aF.arr 4 [2,0] z8 rfl)⟩)
         obtain ⟨b9,c0,a00,a01,l4⟩:=aF.lendBp w5 .head
         refine xJ (C:=fun w'=>∃ L',aF G b9 L' w') [] Tryz_mixed (by kernel_rfl) (fun a58 a02=>?_)
         have b3:=aF.mono a01 a02
         refine fY (i:=0) rfl (by kernel_rfl) ⟨_,b3⟩ (fun _ _=>aT (v:=zS a5 e.length c6) rfl) (fY (i:=2) rfl (by kernel_rfl) ⟨_,b3⟩ (fun _ _=>bH (t':=1) aIg rfl rfl) (fY (i:=3) rfl (by kernel_rfl) ⟨_,b3⟩ (fun _ ⟨_,b3⟩=>aU (t:=1) cR b3 a00 rfl rfl) (aCa (i:=1) (j:=4) (by kernel_rfl) rfl rfl ?_ ?_)))
         ·obtain ⟨a03,a04,hm⟩:=aB hm
          refine aP (vs:=d3) call57 rfl (uI a04 b3 (Z.mono c0)) ?_
          rintro _ a59 ⟨a05,a06,rfl,l5⟩
          refine aV (aC ⟨fun _=>⟨_,l5⟩,?_⟩)
          refine dQ (i:=4) (by kernel_rfl) rfl (bX (Kt:=K) (xs:=([a.1]:List Int)) (cs:=[i64 a.1]) (vs:=[(0,i64 a.1)]) bN kQ rfl rfl l5 rfl (by kernel_rfl) rfl rfl rfl ⟨rfl,trivial⟩ (fun a07 a08 (l6:aF G b9 (own 2 K a07 1 ([a.1]:List Int)::own 2 K a05 a06 a03::box b1 63 [zS a2 b.length c3,i64 a.2.1,Value.int .u64 a.2.2]::L) a08)=>(aV (aC ⟨fun _=>⟨_,l6⟩,?_⟩))))
          refine dQ (i:=5) (by kernel_rfl) rfl ?_;obtain ⟨l7,a09,hm⟩:=aB hm
          refine eQ (i:=0) bN underlying32 kQ rfl rfl l6 rfl c0 c0 a09 rfl rfl rfl rfl (fun _ h=>h) (fun l8 l9 a10 (g1:aF G b9 (own 2 K l8 l9 l7::box b1 63 [zS a2 b.length c3,i64 a.2.1,Value.int .u64 a.2.2]::L) a10)=>(aV (aC ⟨fun _=>⟨_,g1⟩,?_⟩)))
          refine fY (i:=6) rfl (by kernel_rfl) ⟨_,g1⟩ (fun _ _=>eE (v:=zS l8 l7.length l9) rfl) (pL (by kernel_rfl) ?_)
          have a60:=l4 _ _ g1
          exact aM
         ·refine bX (Kt:=K) (xs:=([a.1]:List Int)) (cs:=[i64 a.1]) (vs:=[(0,i64 a.1)]) bN kQ rfl rfl b3 rfl (by kernel_rfl) rfl rfl rfl ⟨rfl,trivial⟩ (fun m0 a11 (m1:aF G b9 (own 2 K m0 1 ([a.1]:List Int)::box b1 63 [zS a2 b.length c3,i64 a.2.1,Value.int .u64 a.2.2]::L) a11)=>(aV (aC ⟨fun _=>⟨_,m1⟩,?_⟩)))
          refine dQ (i:=1) (by kernel_rfl) rfl ?_;obtain ⟨a12,a13,hm⟩:=aB hm
          refine aP (vs:=d3) call57 rfl (uI a13 m1 (Z.mono c0)) ?_
          rintro _ a14 ⟨a15,a16,rfl,m2⟩
          refine aV (aC ⟨fun _=>⟨_,m2⟩,?_⟩)
          refine dQ (i:=5) (by kernel_rfl) rfl ?_;obtain ⟨m3,a17,hm⟩:=aB hm
          have a18:aF G b9 (own 2 K m0 1 ([a.1]:List Int)::own 2 K a15 a16 a12::box b1 63 [zS a2 b.length c3,i64 a.2.1,Value.int .u64 a.2.2]::L) a14:=(aF.arr 2 [1,0] m2 rfl)
          refine eQ (i:=0) bN underlying32 kQ rfl rfl a18 rfl c0 c0 a17 rfl rfl rfl rfl (fun _ h=>h) (fun m4 m5 a19 (g2:aF G b9 (own 2 K m4 m5 m3::box b1 63 [zS a2 b.length c3,i64 a.2.1,Value.int .u64 a.2.2]::L) a19)=>(aV (aC ⟨fun _=>⟨_,g2⟩,?_⟩)))
          refine fY (i:=6) rfl (by kernel_rfl) ⟨_,g2⟩ (fun _ _=>eE (v:=zS m4 m3.length m5) rfl) (pL (by kernel_rfl) ?_)
          have a61:=l4 _ _ g2
          exact aM
        exact aM
    exact aM
  exact aM
theorem aAc (n:Nat):∀ {G:tO} {K:Hp} {L:List fJ} {w:World} {b1:Nat} {a:(List UInt8)} {a2:Option Addr} {c3:Nat} {g:Int} {h:Int} {b:(List Int)} {a5:Option Addr} {c6:Nat} {i:Int} {R:((List bD) × Int × Int)} (hm:iU n a g h b i=some R) (c:aF G K (box b1 63 [zS a2 a.length c3,i64 g,Value.int .u64 h]::L) w) (d:bL K a2 c3 a) (e:bL K a5 c6 b),
  Calls prog 27 ([zP (some ⟨b1,0,none⟩),zS a5 b.length c6,i64 i]:List Value).toArray w (eC fun v w'=>∃ j k,v=zS j R.1.length k/\aF G K (own 66 K j k R.1::box b1 63 [zS a2 a.length c3,i64 R.2.1,Value.int .u64 R.2.2]::L) w'):=by
 induction n with
 |zero=>
  intro G K L w b1 a a2 c3 g h b a5 c6 i R hm c d e
  unfold iU at hm
  cases hm
 |succ n ih=>
  intro G K L w b1 a a2 c3 g h b a5 c6 i R hm c d e
  exact aAb (rec_:=iU n) (fun hm c d e=>ih hm c d e) hm c d e
theorem aBD {s0_:(List UInt8)} {s1_ s2_:Int} {bound:(List Int)} {most:Int} {R:((List bD) × Int × Int)} (hm:aCF s0_ s1_ s2_ bound most=some R) (hs:aF G K (box b1 63 [zS a2 s0_.length c3,i64 s1_,Value.int .u64 s2_]::L) w) (h4:bL K a2 c3 s0_) (h7:bL K a5 c6 bound):
  Calls prog 27 ([zP (some ⟨b1,0,none⟩),zS a5 bound.length c6,i64 most]:List Value).toArray w (eC fun v w'=>∃ ra0 rc0,v=zS ra0 R.1.length rc0/\aF G K (own 66 K ra0 rc0 R.1::box b1 63 [zS a2 s0_.length c3,i64 R.2.1,Value.int .u64 R.2.2]::L) w'):=aAc 100000 hm hs h4 h7
theorem aHn {a:(List UInt8)} {e g:Int} {R:((List bD) × Int × Int)} (hm:aCg a e g=some R) (t:aF G K (box b1 63 [zS a2 a.length c3,i64 e,Value.int .u64 g]::L) w) (m:bL K a2 c3 a):
  Calls prog 13 ([zP (some ⟨b1,0,none⟩)]:List Value).toArray w (eC fun v w'=>∃ n o,v=zS n R.1.length o/\aF G K (own 66 K n o R.1::box b1 63 [zS a2 a.length c3,i64 R.2.1,Value.int .u64 R.2.2]::L) w'):=by
 let p:=box b1 63 [zS a2 a.length c3,i64 e,Value.int .u64 g]
 refine aN func13 rfl (by kernel_rfl) (by show (1:Nat)<=28;decide) ?_;unfold aCg at hm
 refine aJ (aI (v:=zS none 0 0) (aH (aJ (aG (v:=zP (some ⟨b1,0,none⟩)) (bX (Kt:=K) (xs:=([]:List Int)) (cs:=[]) (vs:=[]) bN kQ rfl rfl t rfl (by kernel_rfl) rfl rfl rfl trivial (fun h q (u:aF G K (own 2 K h 0 ([]:List Int)::p::L) q)=>(aG (v:=zP (some ⟨b1,0,none⟩)) ?_)))))))
 have x:aF G K (p::own 2 K h 0 ([]:List Int)::L) q:=(aF.arr 2 [1,0] u rfl)
 obtain ⟨y,z,hm⟩:=aB hm
 refine aP (vs:=[zP (some ⟨b1,0,none⟩),i64 8]) call15 rfl (aZ z x m) ?_
 rintro _ b3 ⟨rfl,J⟩
 refine aD (cN rfl rfl) ?_;obtain ⟨b4,Z,a0,a1,a3⟩:=aF.lendSp J (zR _) zt1
 obtain ⟨b,a4,hm⟩:=aB hm
 refine aP (vs:=[zP (some ⟨b1,0,none⟩),zS h ([]:List Int).length 0,i64 (wr (1+y.1))]) call27 rfl (aBD a4 a1 (m.mono Z) a0) ?_
 rintro _ b5 ⟨i,j,rfl,a6⟩
 have b6:=a3 _ _ a6
 refine aI (v:=zS i b.1.length j) (aH (aK (aK (bP [3] (fun f w=>∃ k c d,lR b k c d=some R/\f 22=zB k/\aF G K (own 66 K i j b.1::box b1 63 [zS a2 a.length c3,i64 c,Value.int .u64 d]::L) w) ?_ ?_))))
 ·rintro f b7 ⟨k,c,d,hm,a7,a8⟩
  unfold lR at hm
  refine aC ?_
  rcases aL hm with ⟨r,hm⟩|⟨r,hm⟩
  ·refine aR r a7 (aJ (aD (gJ (vs:=[(0,i64 7),(1,i64 1)]) (cs:=[i64 7,i64 1,str ([]:aQ),zB false]) aEj rfl (by kernel_rfl)) (aD (gJ (vs:=[(0,i64 4),(2,str ([97]:aQ))]) (cs:=[i64 4,i64 0,str ([97]:aQ),zB false]) aEj rfl (by kernel_rfl)) (aD (gJ (vs:=[(0,i64 6),(1,i64 1)]) (cs:=[i64 6,i64 1,str ([]:aQ),zB false]) aEj rfl (by kernel_rfl)) (bX (Kt:=K) (xs:=([⟨7,1,([]:aQ),false⟩,⟨4,0,([97]:aQ),false⟩,⟨6,1,([]:aQ),false⟩]:List bD)) (cs:=[i64 7,i64 1,str ([]:aQ),zB false,i64 4,i64 0,str ([97]:aQ),zB false,i64 6,i64 1,str ([]:aQ),zB false]) (vs:=[(0,zA #[i64 7,i64 1,str ([]:aQ),zB false]),(1,zA #[i64 4,i64 0,str ([97]:aQ),zB false]),(2,zA #[i64 6,i64 1,str ([]:aQ),zB false])]) tD aAy rfl rfl a8 rfl (by kernel_rfl) rfl rfl rfl ⟨rfl,rfl,rfl,trivial⟩ (fun l a9 (b0:aF G K (own 66 K l 3 ([⟨7,1,([]:aQ),false⟩,⟨4,0,([97]:aQ),false⟩,⟨6,1,([]:aQ),false⟩]:List bD)::own 66 K i j b.1::box b1 63 [zS a2 a.length c3,i64 c,Value.int .u64 d]::L) a9)=>(aI (v:=zS l ([⟨7,1,([]:aQ),false⟩,⟨4,0,([97]:aQ),false⟩,⟨6,1,([]:aQ),false⟩]:List bD).length 3) (aH ?_))))))))
   obtain rfl:=zI hm
   exact tC (mG (pJ results13 rfl ⟨l,3,rfl,(aF.arr 2 [0] b0 rfl)⟩))
  ·exact aM
 exact aM
theorem aDi {a:(List UInt8)} {R:(List bD)} (hm:aCh a=some R) (d:aF G K (L) w) (e:bL K a1 c2 a):
  Calls prog 5 ([zS a1 a.length c2]:List Value).toArray w (eC fun v w'=>∃ b c,v=zS b R.length c/\aF G K (own 66 K b c R::L) w'):=by
 exact aM
theorem aBE {a:(List aQ)} {b:aQ} {R:Int} (hm:xM a b=some R) (e:aF G K (L) w) (g:bL K a1 c2 a):
  Calls prog 38 ([zS a1 a.length c2,str b]:List Value).toArray w (eC fun v w'=>v=i64 R/\aF G K (L) w'):=by
 refine aN func38 rfl (by kernel_rfl) (by show (2:Nat)<=19;decide) ?_;unfold xM at hm
 refine aJ (aI (v:=i64 0) (aH (aK (aJ (aI (v:=i64 0) (aH (aO [] (fun f w=>aGw=some R/\aF G K (L) w) aM ?_)))))));obtain ⟨h,c,ho⟩:=aB hm
 exact eY [0,1] c (fun d f w=>f 5=i64 d/\aF G K (L) w) aM aM
end Gv
namespace Gv
open Gv.Hp renaming le_refl→zR
open Go.Value renaming slice→zS,bool→zB,agg→zA
open Option.some renaming inj→zI
open Go Go.Proofs Go.Proofs.Tryz
set_option maxRecDepth 20000
set_option maxHeartbeats 40000000
variable {G:tO} {K:Hp} {L:List fJ} {w:World} {a1 a4 a7 a10:Option Addr} {c2 c5 c8 c11:Nat}
theorem aEJ {g R:(List aQ)} (hm:xN g=some R) (hs:aF G K (L) w) (y:bL K a1 c2 g):
  Calls prog 37 ([zS a1 g.length c2]:List Value).toArray w (eC fun v w'=>∃ b1 b2,v=zS b1 R.length b2/\aF G K (own 9 K b1 b2 R::L) w'):=by
 refine aN func37 rfl (by kernel_rfl) (by show (1:Nat)<=65;decide) ?_;unfold xN at hm
 refine aJ (aI (v:=zS none 0 0) (aH (aJ (bX (Kt:=K) (xs:=([([116,97,117]:aQ)]:List aQ)) (cs:=[str ([116,97,117]:aQ)]) (vs:=[(0,str ([116,97,117]:aQ))]) fD aGu rfl rfl hs rfl (by kernel_rfl) rfl rfl rfl ⟨rfl,trivial⟩ (fun a4 w5 (f9:aF G K (own 9 K a4 1 ([([116,97,117]:aQ)]:List aQ)::L) w5)=>(aI (v:=zS a4 ([([116,97,117]:aQ)]:List aQ).length 1) (aH (aK (aJ (aI (v:=i64 0) (aH (aO [] (fun f w=>∃ z a8 c9,aGx z=some R/\f 3=zS a8 z.length c9/\aF G K (own 9 K a8 c9 z::L) w) aM ?_))))))))))))
 obtain ⟨g0,d5,ho⟩:=aB hm
 refine bO [0] d5 (fun c j f w=>∃ d e,f 3=zS d c.length e/\f 4=i64 j/\aF G K (own 9 K d e c::L) w) aM ?_
 ·rintro c j J f g1 hm hr ⟨d,e,b6,m,b7⟩
  unfold gR at hm
  refine aK (aJ (aY m (aG (v:=zS a1 g.length c2) (aD (bC (len:=g.length) fD rfl) (aD (cK rfl rfl) (aH ?_))))))
  rcases aL hm with ⟨b8,hm⟩|⟨b8,hm⟩
  ·refine aR b8 rfl (aW (aC (aK (aO [0,4] (fun f w=>∃ o p q,mY j o=some J/\f 3=zS p o.length q/\aF G K (own 9 K p q o::L) w) ?_ ?_))))
   ·rintro f g2 ⟨o,p,q,hm,d6,d7⟩
    unfold mY at hm
    exact aC (aS (aY m (aD (cN rfl rfl) (aI (v:=i64 (wr (j+1))) (aH ⟨_,(zI hm).symm,bF,p,q,d6,rfl,d7⟩)))))
   refine aK (aJ (aY b6 (aG (v:=zS a1 g.length c2) (aY m ?_))));obtain ⟨k,Z,hm⟩:=aB hm
   refine aD (dM fD rfl y rfl rfl rfl Z) ?_;obtain ⟨g3,b9,d8⟩:=bL.el (sz:=1) rfl y Z
   cases d8
   refine aD (aU (t:=0) aFW b7 b9 rfl rfl) ?_;obtain ⟨g4,g5,d9,e0,e1⟩:=aF.lendSp b7 (zR _) .head
   obtain ⟨g6,e2,hm⟩:=aB hm
   refine aP (vs:=[zS d c.length e,str k]) call38 rfl (aBE e2 e0 d9) ?_
   rintro _ g7 ⟨rfl,e3⟩
   have g8:=e1 _ _ e3
   refine aD (R_geq rfl rfl) (aH ?_)
   rcases aL hm with ⟨c0,hm⟩|⟨c0,hm⟩
   ·exact aM
   ·refine bG c0 rfl (aW (aC (aJ (aI (v:=i64 1) (aH (aK (aO [0,3,4] (fun f w=>∃ r,vY c j k r=some J/\f 5=i64 r/\aF G K (own 9 K d e c::L) w) ?_ ?_)))))))
    ·rintro f g9 ⟨r,hm,c1,e4⟩
     unfold vY at hm
     refine aC (aJ (aY b6 (bX (Kt:=K) (xs:=([([]:aQ)]:List aQ)) (cs:=[str ([]:aQ)]) (vs:=[(0,str ([]:aQ))]) fD aGu rfl rfl e4 rfl (by kernel_rfl) rfl rfl rfl ⟨rfl,trivial⟩ (fun e5 e6 (e7:aF G K (own 9 K e5 1 ([([]:aQ)]:List aQ)::own 9 K d e c::L) e6)=>?_))));obtain ⟨l,e8,hm⟩:=aB hm
     refine eQ (i:=0) fD underlying26 aGu rfl rfl e7 rfl (zR _) (zR _) e8 rfl rfl rfl rfl (fun _ h=>h) (fun a b e9 (h0:aF G K (own 9 K a b l::L) e9)=>(aI (v:=zS a l.length b) (aH (aK (aJ (aG (v:=zS a l.length b) (aD (bC (len:=l.length) fD rfl) (aD (oH rfl rfl) (aI (v:=i64 (wr ((l.length:Int) - 1))) (aH (aO [0,4,5] (fun f w=>∃ u,vX j k r u=some J/\f 3=zS a u.length b/\aF G K (own 9 K a b u::L) w) ?_ ?_)))))))))))
     ·rintro f h1 ⟨u,hm,c3,a0⟩
      unfold vX at hm
      refine aC (aS (aY c3 (aY c1 (aG (v:=zS a1 g.length c2) (aY m (aD (dM fD rfl y rfl rfl rfl Z) (aD (aU (t:=0) aFW a0 b9 rfl rfl) ?_)))))));obtain ⟨h2,a2,hm⟩:=aB hm
      have f0:=cA a0 (i:=0) rfl a2
      refine aD (cM fD rfl f0 rfl rfl rfl a2) ?_;obtain ⟨c4,c5,hm⟩:=aB hm
      exact gA (i:=0) (t:=0) (ns:=[str k]) (e':=(k:aQ)) sizeOf9 a0 rfl (zR _) rfl rfl rfl a2 c5 rfl rfl (eV rfl) rfl (fun cs h=>by cases h;rfl) (fun f1 (f2:aF G K (own 9 K a b c4::L) f1)=>(aV (cH (aC ⟨bF,c4,a,b,hm,(Eq.trans c3 (congrArg (fun n=>zS a n b) (eL c5))),f2⟩))))
     obtain ⟨h4,f3,ho⟩:=aB hm
     refine bO [0,4,5] f3 (fun a3 a5 f w=>f 3=zS a a3.length b/\f 6=i64 a5/\aF G K (own 9 K a b a3::L) w) aM ?_
     ·rintro a3 a5 h5 f h6 hm hr ⟨a6,x,a7⟩
      unfold pN at hm
      refine aK (aJ (aY x (aY c1 (aD (aBX rfl rfl) (aH ?_)))))
      rcases aL hm with ⟨c6,hm⟩|⟨c6,hm⟩
      ·refine aR c6 rfl (aW (aC (aK (cD (aS (aY a6 (aY x (aY a6 (aY x (aD (oH rfl rfl) ?_))))))))));obtain ⟨c7,a9,hm⟩:=aB hm
       have c8:=cA a7 (i:=0) rfl a9
       refine aD (cM fD rfl c8 rfl rfl rfl a9) (aD (lA (t:=0) aFW a7 (i:=0) rfl a9 rfl rfl rfl) ?_);obtain ⟨h7,d0,hm⟩:=aB hm
       refine aD (cM fD rfl c8 rfl rfl rfl d0) ?_;obtain ⟨f4,d1,hm⟩:=aB hm
       exact gA (i:=0) (t:=0) (ns:=[str c7]) (e':=(c7:aQ)) sizeOf9 a7 rfl (zR _) rfl rfl rfl d0 d1 rfl rfl (eV rfl) rfl (fun cs h=>by cases h;rfl) (fun f5 (f6:aF G K (own 9 K a b f4::L) f5)=>(aV (cH (aC (aS (aY x (aD (oH rfl rfl) (aI (v:=i64 (wr (a5 - 1))) (aH ⟨_,(zI hm).symm,bF,(Eq.trans a6 (congrArg (fun n=>zS a n b) (eL d1))),rfl,f6⟩)))))))))
      ·exact aM
    obtain ⟨h8,f7,ho⟩:=aB hm
    refine eY [0,3,4] f7 (fun b0 f w=>f 5=i64 b0/\aF G K (own 9 K d e c::L) w) aM ?_
    ·rintro b0 f8 f h9 hm hr ⟨i0,i1⟩
     unfold jO at hm
     exact aK (aK (bP [0,3,4,5] (fun f w=>∃ d2,sL b0 d2=some f8/\f 35=zB d2/\aF G K (own 9 K d e c::L) w) aM aM))
  ·exact aM
theorem aEK {a:Edge} {c:Nat} {b:Edge} {d:Nat} {R:Bool} (hm:aFi a b=some R) (e:aF G K (L) w) (g:dT K a1 c [i64 a.F,i64 a.B,i64 a.To]) (h:dT K a4 d [i64 b.F,i64 b.B,i64 b.To]):
  Calls prog 67 ([bY a1 c,bY a4 d]:List Value).toArray w (eC fun v w'=>v=zB R/\aF G K (L) w'):=by
 exact aM
theorem aJH {j:(List Edge)} {e:Edge} {R:(List Edge)} (hm:aEu j e=some R) (hs:aF G K (own 51 K a1 c2 j::L) w):
  Calls prog 39 ([zS a1 j.length c2,zA #[i64 e.F,i64 e.B,i64 e.To]]:List Value).toArray w (eC fun v w'=>∃ b4 b5,v=zS b4 R.length b5/\aF G K (own 51 K b4 b5 R::L) w'):=by
 let a:=[i64 e.F,i64 e.B,i64 e.To]
 let o:=own 51 K a1 c2 j
 refine aN func39 rfl (by kernel_rfl) (by show (2:Nat)<=57;decide) ?_;unfold aEu at hm
 refine aJ (gF (v:=zA #[i64 e.F,i64 e.B,i64 e.To]) (vs:=a) hs rfl rfl (fun k w4 g3=>(aI (v:=zS none 0 0) (aH (aJ (aG (v:=zS a1 j.length c2) (aD (bC (len:=j.length) cP rfl) (aI (v:=i64 (j.length:Int)) (aH (aK (aO [0,3] (fun f w=>∃ p,aCj j e p=some R/\f 5=i64 p/\aF G K (box k 51 a::o::L) w) ?_ ?_)))))))))))
 ·rintro f w8 ⟨p,hm,J,b⟩
  unfold aCj at hm
  refine aC (aK (aK (bP [0,3,5] (fun f w=>∃ a2,vI j e p a2=some R/\f 30=zB a2/\aF G K (box k 51 a::o::L) w) ?_ ?_)))
  ·rintro f g5 ⟨a2,hm,c8,c9⟩
   unfold vI at hm
   refine aC ?_
   rcases aL hm with ⟨b6,hm⟩|⟨b6,hm⟩
   ·exact aM
   ·refine bG b6 c8 (aW (aC (aJ (aG (v:=zS a1 j.length c2) (aD (gJ (vs:=[]) (cs:=[i64 0,i64 0,i64 0]) aIC rfl (by kernel_rfl)) (bX (Kt:=K) (xs:=([⟨0,0,0⟩]:List Edge)) (cs:=[i64 0,i64 0,i64 0]) (vs:=[(0,zA #[i64 0,i64 0,i64 0])]) cP qT rfl rfl c9 rfl (by kernel_rfl) rfl rfl rfl ⟨rfl,trivial⟩ (fun d0 d1 (d2:aF G K (own 51 K d0 1 ([⟨0,0,0⟩]:List Edge)::box k 51 a::o::L) d1)=>?_)))))));obtain ⟨u,d3,hm⟩:=aB hm
    refine eQ (i:=1) cP underlying27 qT rfl rfl d2 rfl (zR _) (zR _) d3 rfl rfl rfl rfl (fun _ h=>h) (fun c d d4 (g6:aF G K (box k 51 a::own 51 K c d u::L) d4)=>(aI (v:=zS c u.length d) (aH (aK (aJ (aG (v:=zS c u.length d) (aD (bC (len:=u.length) cP rfl) (aD (oH rfl rfl) (aI (v:=i64 (wr ((u.length:Int) - 1))) (aH (aO [3,5] (fun f w=>∃ Z,aCi e p Z=some R/\f 0=zS c Z.length d/\aF G K (box k 51 a::own 51 K c d Z::L) w) ?_ ?_)))))))))))
    ·rintro f g7 ⟨Z,hm,b7,a3⟩
     unfold aCi at hm
     refine aC (aJ (aY b7 (aY J (aD (kZ (us:=a) tE a3 (i:=0) rfl rfl rfl rfl) ?_))));obtain ⟨g8,a4,hm⟩:=aB hm
     have d5:=cA a3 (i:=1) rfl a4
     refine aD (cM cP rfl d5 rfl rfl rfl a4) ?_;obtain ⟨a5,b8,hm⟩:=aB hm
     refine gA (i:=1) (t:=0) (ns:=a) (e':=(⟨e.F,e.B,e.To⟩:Edge)) sizeOf51 a3 rfl (zR _) rfl rfl rfl a4 b8 rfl rfl (eV rfl) rfl (fun cs h=>by cases h;rfl) (fun d6 (d7:aF G K (box k 51 a::own 51 K c d a5::L) d6)=>(aH (aJ (aY (v:=zS c a5.length d) (Eq.trans b7 (congrArg (fun n=>zS c n d) (eL b8))) (aI (v:=zS c a5.length d) (aH ?_))))));obtain rfl:=zI hm
     exact tC (pJ results39 rfl ⟨c,d,rfl,(aF.arr 1 [] d7 rfl)⟩)
    obtain ⟨g9,d9,ho⟩:=aB hm
    refine bO [3,5] d9 (fun a6 a7 f w=>f 0=zS c a6.length d/\f 6=i64 a7/\aF G K (box k 51 a::own 51 K c d a6::L) w) aM ?_
    ·rintro a6 a7 h0 f h1 hm hr ⟨a8,a0,a9⟩
     unfold yX at hm
     refine aK (aJ (aY a0 (aY J (aD (aBX rfl rfl) (aH ?_)))))
     rcases aL hm with ⟨b9,hm⟩|⟨b9,hm⟩
     ·refine aR b9 rfl (aW (aC (aK (cD (aS (aY a8 (aY a0 (aY a8 (aY a0 (aD (oH rfl rfl) ?_))))))))));obtain ⟨l,b0,hm⟩:=aB hm
      have c0:=cA a9 (i:=1) rfl b0
      refine aD (cM cP rfl c0 rfl rfl rfl b0) (aD (aCB (t:=0) (vs:=[i64 l.F,i64 l.B,i64 l.To]) tE a9 (i:=1) rfl b0 rfl rfl rfl rfl) ?_);obtain ⟨h2,c1,hm⟩:=aB hm
      refine aD (cM cP rfl c0 rfl rfl rfl c1) ?_;obtain ⟨e0,c3,hm⟩:=aB hm
      exact gA (i:=1) (t:=0) (ns:=[i64 l.F,i64 l.B,i64 l.To]) (e':=(⟨l.F,l.B,l.To⟩:Edge)) sizeOf51 a9 rfl (zR _) rfl rfl rfl c1 c3 rfl rfl (eV rfl) rfl (fun cs h=>by cases h;rfl) (fun e1 (e2:aF G K (box k 51 a::own 51 K c d e0::L) e1)=>(aV (cH (aC (aS (aY a0 (aD (oH rfl rfl) (aI (v:=i64 (wr (a7 - 1))) (aH ⟨_,(zI hm).symm,bF,(Eq.trans a8 (congrArg (fun n=>zS c n d) (eL c3))),rfl,e2⟩)))))))))
     ·exact aM
  refine mK (C:=fun w'=>aF G K (box k 51 a::o::L) w') Tryz_mixed (by kernel_rfl) (aF.mono b (dZ.drew _)) (cC (fun _ b=>aT J) (cC (fun _ b=>aBX rfl rfl) (cC (fun _ b=>aT (v:=zB (decide (0 < p))) rfl) ?_)))
  rcases aL hm with ⟨m,hm⟩|⟨m,hm⟩
  ·refine kE (g:=22) rfl rfl m (cC (fun _ b=>aT (v:=zS a1 j.length c2) rfl) (kE (g:=22) rfl rfl m (cC (fun _ b=>aT J) (kE (g:=22) rfl rfl m (cC (fun _ b=>oH rfl rfl) (kE (g:=22) rfl rfl m ?_))))));obtain ⟨q,b1,hm⟩:=aB hm
   have e3:=cA b (i:=1) rfl b1
   exact cC (fun _ b=>cM cP rfl e3 rfl rfl rfl b1) (kE (g:=22) rfl rfl m (cC (fun _ b=>aCB (t:=0) (vs:=[i64 q.F,i64 q.B,i64 q.To]) tE b (i:=1) rfl b1 rfl rfl rfl rfl) (kE (g:=22) rfl rfl m (cC (fun _ b=>kZ (us:=a) tE b (i:=0) rfl rfl rfl rfl) (kE (g:=22) rfl rfl m (cC (fun _ b=>R_eqlG (eq_51 (x:=q) (y:=e)) rfl rfl) (cC (fun _ b=>eX (v:=zB (decide ((q:Edge)=e))) m rfl rfl) (uV (fun h3 e4=>(aC ⟨bF,decide ((q:Edge)=e),hm,rfl,e4⟩))))))))))
  ·exact aM
 obtain ⟨h4,e5,ho⟩:=aB hm
 refine eY [0,3] e5 (fun z f w=>f 5=i64 z/\aF G K (box k 51 a::o::L) w) aM ?_
 ·rintro z e6 f h5 hm hr ⟨c4,c5⟩
  unfold vJ at hm
  refine aK (aK (bP [0,3,5] (fun f w=>∃ c6,yY z c6=some e6/\f 17=zB c6/\aF G K (box k 51 a::o::L) w) aM (aS (aY c4 (aD (aBX rfl rfl) (aG (v:=zB (decide (0 < z))) ?_))))))
  rcases aL hm with ⟨r,hm⟩|⟨r,hm⟩
  ·refine cO r rfl rfl (aG (v:=zS a1 j.length c2) (cO r rfl rfl (aY c4 (cO r rfl rfl (aD (oH rfl rfl) (cO r rfl rfl ?_))))));obtain ⟨h6,b2,hm⟩:=aB hm
   have e8:=cA c5 (i:=1) rfl b2
   refine aD (cM cP rfl e8 rfl rfl rfl b2) (cO r rfl rfl ?_);obtain ⟨h7,e9,f0,f1,f2⟩:=aF.lendBp c5 .head
   obtain ⟨h8,f3,f4,f5,f6⟩:=aF.lendSp f1 e9 .head
   obtain ⟨h9,f7,f8⟩:=bL.el (sz:=3) rfl f4 b2
   cases f8
   obtain ⟨i0,f9,hm⟩:=aB hm
   refine aP (vs:=[bY (some ⟨k,0,none⟩) 0,bY a1 ((wr (z - 1)).toNat * 3+0)]) call67 rfl (aEK f9 f5 (f0.mono f3) f7) ?_
   rintro _ i1 ⟨rfl,g0⟩
   have g1:=f6 _ _ g0
   have i2:=f2 _ _ g1
   exact aM
  ·exact aM
theorem aEL {d e:Int} {l:(List aQ)} {edges:(List Edge)} {R:bQ} (hm:kF d e l edges=some R) (hs:aF G K (L) w) (u:bL K a1 c2 l) (z:bL K a4 c5 edges):
  Calls prog 20 ([i64 d,i64 e,zS a1 l.length c2,zS a4 edges.length c5]:List Value).toArray w (eC fun v w'=>∃ J Z a0 a2,v=zA (zCa R J Z a0 a2)/\aF G K (own 9 K J Z R.L::own 51 K a0 a2 R.E::L) w'):=by
 let h:=zG
 refine aN func20 rfl (by kernel_rfl) (by show (4:Nat)<=43;decide) ?_;unfold kF at hm
 refine aJ (bV (vs:=h) zeroValue29 hs rfl (fun m w8 b5=>(aH (aJ (aG (v:=i64 d) (aG (v:=i64 e) (aG (v:=zS a1 l.length c2) ?_)))))));obtain ⟨a,b6,hm⟩:=aB hm
 refine aP (vs:=[zS a1 l.length c2]) call37 rfl (aEJ b6 b5 u) ?_
 rintro _ e9 ⟨b,c,rfl,b8⟩
 refine bX (Kt:=K) (xs:=([]:List Edge)) (cs:=[]) (vs:=[]) cP qT rfl rfl b8 rfl (by kernel_rfl) rfl rfl rfl trivial (fun j b9 (c0:aF G K (own 51 K j 0 ([]:List Edge)::own 9 K b c a::box m 29 h::L) b9)=>(aD (gJ (vs:=[(0,i64 d),(1,i64 e),(2,zS b a.length c),(3,zS j ([]:List Edge).length 0)]) (cs:=[i64 d,i64 e,zS b a.length c,zS j ([]:List Edge).length 0]) bs_29 rfl (by kernel_rfl)) (bV (vs:=h) zeroValue29 c0 rfl (fun q f0 c1=>(dJ (i:=0) (ns:=[i64 d,i64 e,zS b a.length c,zS j ([]:List Edge).length 0]) (us:=[i64 d,i64 e,zS b a.length c,zS j ([]:List Edge).length 0]) sizeOf29 c1 rfl rfl rfl rfl rfl (eV rfl) rfl rfl (fun c3 (f1:aF G K (box q 29 [i64 d,i64 e,zS b a.length c,zS j ([]:List Edge).length 0]::own 51 K j 0 ([]:List Edge)::own 9 K b c a::box m 29 h::L) c3)=>(aH (aK (aJ (aI (v:=i64 0) (aH (aO [8,9] (fun f w=>∃ x a3 a5,aGy d e a x=some R/\aF G K (own 51 K a3 a5 x::box q 29 [i64 d,i64 e,zS b a.length c,zS a3 x.length a5]::own 9 K b c a::box m 29 h::L) w) aM ?_))))))))))))
 obtain ⟨f2,c4,ho⟩:=aB hm
 refine bO [2,3,8,9] c4 (fun n a6 f w=>∃ o p,f 10=i64 a6/\aF G K (box q 29 [i64 d,i64 e,zS b a.length c,zS o n.length p]::own 51 K o p n::own 9 K b c a::box m 29 h::L) w) aM ?_
 ·rintro n a6 f3 f f4 hm hr ⟨o,p,a7,a8⟩
  unfold jP at hm
  refine aK (aJ (aY a7 (aG (v:=zS a4 edges.length c5) (aD (bC (len:=edges.length) cP rfl) (aD (cK rfl rfl) (aH ?_))))))
  rcases aL hm with ⟨a9,hm⟩|⟨a9,hm⟩
  ·refine aR a9 rfl (aW (aC (aK (cD (aJ (aG (v:=zS a4 edges.length c5) (aY a7 ?_)))))));obtain ⟨g,b0,hm⟩:=aB hm
   refine aD (dM cP rfl z rfl rfl rfl b0) ?_;obtain ⟨f5,c6,c7⟩:=bL.el (sz:=3) rfl z b0
   cases c7
   refine aD (jQ (t:=0) (vs:=[i64 g.F,i64 g.B,i64 g.To]) tE a8 c6 rfl rfl rfl) (bV (vs:=[i64 0,i64 0,i64 0]) zeroValue51 a8 rfl (fun c8 f6 c9=>(dJ (i:=0) (ns:=[i64 g.F,i64 g.B,i64 g.To]) (us:=[i64 g.F,i64 g.B,i64 g.To]) sizeOf51 c9 rfl rfl rfl rfl rfl (eV rfl) rfl rfl (fun d0 (d1:aF G K (box c8 51 [i64 g.F,i64 g.B,i64 g.To]::box q 29 [i64 d,i64 e,zS b a.length c,zS o n.length p]::own 51 K o p n::own 9 K b c a::box m 29 h::L) d0)=>(aH (aK ?_))))))
   obtain ⟨f7,y,d2,d3,d4⟩:=aF.lendBp d1 .head
   obtain ⟨d5,r,d6,b1,d7⟩:=aF.lendBp d3 .head
   refine cV (C:=fun w'=>∃ L',aF G d5 L' w') [(0,0),(1,0),(2,0),(3,0),(4,0),(5,0),(6,0),(7,1),(8,0),(9,2)] Tryz_mixed (by kernel_rfl) (fun _ hg=>⟨_,aF.mono b1 hg⟩) (fun f8 d8=>?_)
   have k:=aF.mono b1 d8
   refine bE rfl (fun _ _=>bH (t':=2) pM rfl rfl) (bE rfl (fun _ ⟨_,k⟩=>aU (t:=2) aCV k d6 rfl rfl) (bE rfl (fun _ _=>aT (v:=zS a1 l.length c2) rfl) (bE rfl (fun _ _=>bH (t':=1) aCc rfl rfl) (bE rfl (fun _ ⟨_,k⟩=>aU (t:=1) cR k (d2.mono r) rfl rfl) ?_))));obtain ⟨d9,b2,hm⟩:=aB hm
   refine bE rfl (fun _ _=>dM fD rfl (u.mono (Hp.le_trans y r)) rfl rfl rfl b2) ?_;obtain ⟨f9,e0,e1⟩:=bL.el (sz:=1) rfl u b2
   cases e1
   refine bE rfl (fun _ ⟨_,k⟩=>aU (t:=0) aFW k (e0.mono (Hp.le_trans y r)) rfl rfl) (nT rfl ?_);obtain ⟨g0,g1,e2,e3,e4⟩:=aF.lendSp k (Hp.le_trans y r) zt1
   obtain ⟨g2,e5,hm⟩:=aB hm
   refine aP (vs:=[zS b a.length c,str d9]) call38 rfl (aBE e5 e3 e2) ?_
   rintro _ g3 ⟨rfl,e6⟩
   have b3:=e4 _ _ e6
   refine aV (aC ⟨⟨_,b3⟩,?_⟩)
   refine bE rfl (fun _ _=>bH (t':=1) aCc rfl rfl) ?_
   have e7:=d7 _ _ b3
   have g4:=d4 _ _ e7
   exact aM
  ·exact aM
theorem aFK {t:bQ} {a:Nat} {k:Int} {R:(List Edge)} (hm:aEw t k=some R) (x:aF G K (L) w) (g:dT K a1 a (zC t a4 c5 a7 c8)) (h6:bL K a4 c5 t.L) (h9:bL K a7 c8 t.E):
  Calls prog 30 ([bY a1 a,i64 k]:List Value).toArray w (eC fun v w'=>∃ m n,v=zS m R.length n/\aF G K (own 51 K m n R::L) w'):=by
 refine aN func30 rfl (by kernel_rfl) (by show (2:Nat)<=38;decide) ?_;unfold aEw at hm
 refine aJ (aI (v:=zS none 0 0) (aH (aJ (bX (Kt:=K) (xs:=([]:List Edge)) (cs:=[]) (vs:=[]) cP qT rfl rfl x rfl (by kernel_rfl) rfl rfl rfl trivial (fun o y (a6:aF G K (own 51 K o 0 ([]:List Edge)::L) y)=>(aI (v:=zS o ([]:List Edge).length 0) (aH (aK (aJ (aI (v:=i64 0) (aH (aO [] (fun f w=>∃ h p q,aEv h=some R/\f 5=zS p h.length q/\aF G K (own 51 K p q h::L) w) aM ?_))))))))))));obtain ⟨a8,z,ho⟩:=aB hm
 refine bO [0,1] z (fun i b f w=>∃ j l,f 5=zS j i.length l/\f 6=i64 b/\aF G K (own 51 K j l i::L) w) aM ?_
 ·rintro i b J f a9 hm hr ⟨j,l,b0,r,Z⟩
  unfold zD at hm
  refine aK (aJ (aY r (aG (v:=bY a1 a) (aD (cQ rfl g) (aD (cJ (k':=a+3) fK rfl g rfl) (aD (aU (t:=3) oJ Z g rfl rfl) (aD (bC (len:=t.E.length) cP rfl) (aD (cK rfl rfl) (aH ?_)))))))))
  rcases aL hm with ⟨u,hm⟩|⟨u,hm⟩
  ·refine aR u rfl (aW (aC (aK (aO [0,1,6] (fun f w=>∃ c d e,yZ b c=some J/\f 5=zS d c.length e/\aF G K (own 51 K d e c::L) w) ?_ ?_))))
   ·rintro f b1 ⟨c,d,e,hm,a0,a2⟩
    unfold yZ at hm
    exact aC (aS (aY r (aD (cN rfl rfl) (aI (v:=i64 (wr (b+1))) (aH ⟨_,(zI hm).symm,bF,d,e,a0,rfl,a2⟩)))))
   exact aM
  ·exact aM
theorem uT {a:(List Int)} {n R:Int} (hm:uX a n=some R) (d:aF G K (L) w) (e:bL K a1 c2 a):
  Calls prog 59 ([zS a1 a.length c2,i64 n]:List Value).toArray w (eC fun v w'=>v=i64 R/\aF G K (L) w'):=by
 refine aN func59 rfl (by kernel_rfl) (by show (2:Nat)<=19;decide) ?_;unfold uX at hm
 refine aJ (aI (v:=i64 0) (aH (aK (aJ (aI (v:=i64 0) (aH (aO [] (fun f w=>aFB=some R/\aF G K (L) w) aM ?_)))))));obtain ⟨g,b,ho⟩:=aB hm
 exact eY [0,1] b (fun c f w=>f 5=i64 c/\aF G K (L) w) aM aM
theorem aBF {t:bQ} {q:Nat} {a:(List Int)} {R:bQ} (hm:xO t a=some R) (hs:aF G K (L) w) (k:dT K a1 q (zC t a4 c5 a7 c8)) (h6:bL K a4 c5 t.L) (h9:bL K a7 c8 t.E) (a2:bL K a10 c11 a):
  Calls prog 31 ([bY a1 q,zS a10 a.length c11]:List Value).toArray w (eC fun v w'=>∃ a8 a9 b0 b1,v=zA (zCa R a8 a9 b0 b1)/\aF G K (own 9 K a8 a9 R.L::own 51 K b0 b1 R.E::L) w'):=by
 let h:=zG
 refine aN func31 rfl (by kernel_rfl) (by show (2:Nat)<=66;decide) ?_;unfold xO at hm
 refine aJ (bV (vs:=h) zeroValue29 hs rfl (fun l f1 b2=>(aH (aJ (aG (v:=zS a10 a.length c11) (aD (bC (len:=a.length) bN rfl) (aG (v:=zS a10 a.length c11) (aG (v:=bY a1 q) (aD (cQ rfl k) (aD (cJ (k':=q+1) aFg rfl k rfl) (aD (aU (t:=1) cR b2 k rfl rfl) ?_)))))))))));obtain ⟨g,c4,hm⟩:=aB hm
 refine aP (vs:=[zS a10 a.length c11,i64 t.I]) call59 rfl (uT c4 b2 a2) ?_
 rintro _ f2 ⟨rfl,c6⟩
 refine bX (Kt:=K) (xs:=([]:List Edge)) (cs:=[]) (vs:=[]) cP qT rfl rfl c6 rfl (by kernel_rfl) rfl rfl rfl trivial (fun j c7 (c9:aF G K (own 51 K j 0 ([]:List Edge)::box l 29 h::L) c7)=>(aD (gJ (vs:=[(0,i64 (a.length:Int)),(1,i64 g),(3,zS j ([]:List Edge).length 0)]) (cs:=[i64 (a.length:Int),i64 g,zS none 0 0,zS j ([]:List Edge).length 0]) bs_29 rfl (by kernel_rfl)) (bV (vs:=h) zeroValue29 c9 rfl (fun n f3 d0=>(dJ (i:=0) (ns:=[i64 (a.length:Int),i64 g,zS none 0 0,zS j ([]:List Edge).length 0]) (us:=[i64 (a.length:Int),i64 g,zS none 0 0,zS j ([]:List Edge).length 0]) sizeOf29 d0 rfl rfl rfl rfl rfl (eV rfl) rfl rfl (fun d1 (d2:aF G K (box n 29 [i64 (a.length:Int),i64 g,zS none 0 0,zS j ([]:List Edge).length 0]::own 51 K j 0 ([]:List Edge)::box l 29 h::L) d1)=>(aH (aJ (bX (Kt:=K) (xs:=([]:List aQ)) (cs:=[]) (vs:=[]) fD aGu rfl rfl d2 rfl (by kernel_rfl) rfl rfl rfl trivial (fun d3 d4 (b3:aF G K (own 9 K d3 0 ([]:List aQ)::box n 29 [i64 (a.length:Int),i64 g,zS none 0 0,zS j ([]:List Edge).length 0]::own 51 K j 0 ([]:List Edge)::box l 29 h::L) d4)=>(aG (v:=bY a1 q) (aD (cQ rfl k) (aD (cJ (k':=q+2) pM rfl k rfl) (aD (aU (t:=2) aCV b3 k rfl rfl) ?_))))))))))))))
 obtain ⟨c,d5,hm⟩:=aB hm
 refine aDs (i:=0) fD underlying26 aGu rfl rfl b3 rfl (zR _) h6 d5 rfl rfl rfl rfl (fun d e d6 (d7:aF G K (own 9 K d e c::box n 29 [i64 (a.length:Int),i64 g,zS none 0 0,zS j ([]:List Edge).length 0]::own 51 K j 0 ([]:List Edge)::box l 29 h::L) d6)=>(aD (bH (t':=2) pM rfl rfl) (dJ (i:=1) (ns:=[zS d c.length e]) (us:=[i64 (a.length:Int),i64 g,zS d c.length e,zS j ([]:List Edge).length 0]) sizeOf26 d7 rfl rfl rfl rfl rfl (eV rfl) rfl rfl (fun d8 (f4:aF G K (own 9 K d e c::box n 29 [i64 (a.length:Int),i64 g,zS d c.length e,zS j ([]:List Edge).length 0]::own 51 K j 0 ([]:List Edge)::box l 29 h::L) d8)=>(aH (aK (aJ (aI (v:=i64 0) (aH (aO [4,5] (fun f w=>∃ a3 b4 b5,aGz a g c a3=some R/\aF G K (own 51 K b4 b5 a3::own 9 K d e c::box n 29 [i64 (a.length:Int),i64 g,zS d c.length e,zS b4 a3.length b5]::box l 29 h::L) w) aM ?_))))))))))
 obtain ⟨f5,d9,ho⟩:=aB hm
 refine bO [0,1,4,5] d9 (fun m u f w=>∃ o p,f 6=i64 u/\aF G K (own 9 K d e c::box n 29 [i64 (a.length:Int),i64 g,zS d c.length e,zS o m.length p]::own 51 K o p m::box l 29 h::L) w) aM ?_
 ·rintro m u b6 f f6 hm hr ⟨o,p,a5,y⟩
  unfold sO at hm
  refine aK (aJ (aY a5 (aG (v:=bY a1 q) (aD (cQ rfl k) (aD (cJ (k':=q+3) fK rfl k rfl) (aD (aU (t:=3) oJ y k rfl rfl) (aD (bC (len:=t.E.length) cP rfl) (aD (cK rfl rfl) (aH ?_)))))))))
  rcases aL hm with ⟨b7,hm⟩|⟨b7,hm⟩
  ·refine aR b7 rfl (aW (aC (aK (aO [0,1,4,5,6] (fun f w=>∃ z J Z,pO u z=some b6/\aF G K (own 51 K J Z z::own 9 K d e c::box n 29 [i64 (a.length:Int),i64 g,zS d c.length e,zS J z.length Z]::box l 29 h::L) w) ?_ ?_))))
   ·rintro f f7 ⟨z,J,Z,hm,e0⟩
    unfold pO at hm
    exact aC (aS (aY a5 (aD (cN rfl rfl) (aI (v:=i64 (wr (u+1))) (aH ⟨_,(zI hm).symm,bF,J,Z,rfl,(aF.arr 3 [1,2,0] e0 rfl)⟩)))))
   refine aJ (aG (v:=bY a1 q) (aD (cQ rfl k) (aD (cJ (k':=q+3) fK rfl k rfl) (aD (aU (t:=3) oJ y k rfl rfl) (aY a5 ?_)))));obtain ⟨b,b8,hm⟩:=aB hm
   refine aD (dM cP rfl h9 rfl rfl rfl b8) ?_;obtain ⟨f8,e1,e2⟩:=bL.el (sz:=3) rfl h9 b8
   cases e2
   refine aD (jQ (t:=0) (vs:=[i64 b.F,i64 b.B,i64 b.To]) tE y e1 rfl rfl rfl) (bV (vs:=[i64 0,i64 0,i64 0]) zeroValue51 y rfl (fun a0 f9 e3=>(dJ (i:=0) (ns:=[i64 b.F,i64 b.B,i64 b.To]) (us:=[i64 b.F,i64 b.B,i64 b.To]) sizeOf51 e3 rfl rfl rfl rfl rfl (eV rfl) rfl rfl (fun e4 (b9:aF G K (box a0 51 [i64 b.F,i64 b.B,i64 b.To]::own 9 K d e c::box n 29 [i64 (a.length:Int),i64 g,zS d c.length e,zS o m.length p]::own 51 K o p m::box l 29 h::L) e4)=>(aH (aJ (aG (v:=zS a10 a.length c11) (aD (bH (t':=0) uJ rfl rfl) (aD (eM cR b9 (i:=0) rfl rfl rfl) ?_)))))))))
   obtain ⟨r,e5,hm⟩:=aB hm
   refine aP (vs:=[zS a10 a.length c11,i64 b.F]) call59 rfl (uT e5 b9 a2) ?_
   rintro _ g0 ⟨rfl,e6⟩
   refine aD (bH (t':=0) uJ rfl rfl) (dJ (i:=0) (ns:=[i64 r]) (us:=[i64 r,i64 b.B,i64 b.To]) sizeOf2 e6 rfl rfl rfl rfl rfl (eV rfl) rfl rfl (fun e7 (c0:aF G K (box a0 51 [i64 r,i64 b.B,i64 b.To]::own 9 K d e c::box n 29 [i64 (a.length:Int),i64 g,zS d c.length e,zS o m.length p]::own 51 K o p m::box l 29 h::L) e7)=>(aH (aJ (aG (v:=zS a10 a.length c11) (aD (bH (t':=2) uK rfl rfl) (aD (eM cR c0 (i:=0) rfl rfl rfl) ?_)))))))
   obtain ⟨x,e8,hm⟩:=aB hm
   refine aP (vs:=[zS a10 a.length c11,i64 b.To]) call59 rfl (uT e8 c0 a2) ?_
   rintro _ g1 ⟨rfl,e9⟩
   exact aD (bH (t':=2) uK rfl rfl) (dJ (i:=0) (ns:=[i64 x]) (us:=[i64 r,i64 b.B,i64 x]) sizeOf2 e9 rfl rfl rfl rfl rfl (eV rfl) rfl rfl (fun f0 (g2:aF G K (box a0 51 [i64 r,i64 b.B,i64 x]::own 9 K d e c::box n 29 [i64 (a.length:Int),i64 g,zS d c.length e,zS o m.length p]::own 51 K o p m::box l 29 h::L) f0)=>(aH (aK (bP [0,1,4,5,6,7] (fun f w=>∃ c1,sM m u b r x c1=some b6/\f 58=zB c1/\aF G K (box a0 51 [i64 r,i64 b.B,i64 x]::own 9 K d e c::box n 29 [i64 (a.length:Int),i64 g,zS d c.length e,zS o m.length p]::own 51 K o p m::box l 29 h::L) w) aM aM)))))
  ·exact aM
theorem aAs {t:bQ} {d:Nat} {R:(List Int)} (hm:uY t=some R) (hs:aF G K (L) w) (c:dT K a1 d (zC t a4 c5 a7 c8)) (h6:bL K a4 c5 t.L) (h9:bL K a7 c8 t.E):
  Calls prog 32 ([bY a1 d]:List Value).toArray w (eC fun v w'=>∃ b3 b4,v=zS b3 R.length b4/\aF G K (own 2 K b3 b4 R::L) w'):=by
 refine aN func32 rfl (by kernel_rfl) (by show (1:Nat)<=82;decide) ?_;unfold uY at hm
 refine aJ (aI (v:=zS none 0 0) (aH (aJ (aG (v:=bY a1 d) (aD (cQ rfl c) (aD (cJ (k':=d+0) fA rfl c rfl) (aD (aU (t:=0) cR hs c rfl rfl) ?_)))))));obtain ⟨a,d7,hm⟩:=aB hm
 refine xD (e:=(false:Bool)) cS aFu rfl rfl hs rfl rfl rfl d7 rfl (fun b d8 (u:aF G K (own 4 K b a.length a::L) d8)=>(aI (v:=zS b a.length a.length) (aH (aJ (aG (v:=zS b a.length a.length) (aG (v:=bY a1 d) (aD (cQ rfl c) (aD (cJ (k':=d+1) aFg rfl c rfl) (aD (aU (t:=1) cR u c rfl rfl) ?_)))))))));obtain ⟨g4,x,hm⟩:=aB hm
 have b5:=cA u (i:=0) rfl x
 refine aD (cM cS rfl b5 rfl rfl rfl x) ?_;obtain ⟨d9,b6,hm⟩:=aB hm
 refine gA (i:=0) (t:=0) (ns:=[zB true]) (e':=(true:Bool)) sizeOf4 u rfl (zR _) rfl rfl rfl x b6 rfl rfl (eV rfl) rfl (fun cs h=>by cases h;rfl) (fun e0 (e1:aF G K (own 4 K b a.length d9::L) e0)=>(aH (aK (aJ (aI (v:=zB true) (aH (aO [0] (fun f w=>∃ g,yK t g=some R/\f 3=zS b g.length a.length/\aF G K (own 4 K b a.length g::L) w) ?_ ?_)))))))
 ·rintro f g5 ⟨g,hm,g6,e2⟩
  unfold yK at hm
  refine aC (aJ (bX (Kt:=K) (xs:=([]:List Int)) (cs:=[]) (vs:=[]) bN kQ rfl rfl e2 rfl (by kernel_rfl) rfl rfl rfl trivial (fun b7 e3 (g7:aF G K (own 2 K b7 0 ([]:List Int)::own 4 K b a.length g::L) e3)=>(aI (v:=zS b7 ([]:List Int).length 0) (aH (aK (aJ (aI (v:=i64 0) (aH (aO [] (fun f w=>∃ y b8 b9,aFC y=some R/\f 6=zS b8 y.length b9/\aF G K (own 2 K b8 b9 y::L) w) aM ?_))))))))));obtain ⟨g8,e4,ho⟩:=aB hm
  refine bO [0,3] e4 (fun z l f w=>∃ J Z,f 6=zS J z.length Z/\f 7=i64 l/\aF G K (own 2 K J Z z::own 4 K b a.length g::L) w) aM ?_
  ·rintro z l e5 f g9 hm hr ⟨J,Z,h0,c0,e6⟩
   unfold tW at hm
   refine aK (aJ (aY c0 (aG (v:=bY a1 d) (aD (cQ rfl c) (aD (cJ (k':=d+0) fA rfl c rfl) (aD (aU (t:=0) cR e6 c rfl rfl) (aD (cK rfl rfl) (aH ?_))))))))
   rcases aL hm with ⟨c1,hm⟩|⟨c1,hm⟩
   ·refine aR c1 rfl (aW (aC (aK (aO [0,3,7] (fun f w=>∃ m o p,tV l m=some e5/\f 6=zS o m.length p/\aF G K (own 2 K o p m::own 4 K b a.length g::L) w) ?_ ?_))))
    ·rintro f h1 ⟨m,o,p,hm,e7,e8⟩
     unfold tV at hm
     exact aC (aS (aY c0 (aD (cN rfl rfl) (aI (v:=i64 (wr (l+1))) (aH ⟨_,(zI hm).symm,bF,o,p,e7,rfl,e8⟩)))))
    exact aM
   ·exact aM
 obtain ⟨h2,e9,ho⟩:=aB hm
 refine bO [0] e9 (fun a0 c2 f w=>f 3=zS b a0.length a.length/\f 4=zB c2/\aF G K (own 4 K b a.length a0::L) w) ?_ ?_
 ·exact ⟨(Eq.trans rfl (congrArg (fun n=>zS b n a.length) (eL b6))),rfl,e1⟩
 ·rintro a0 c2 c3 f h4 hm hr ⟨h5,f0,h7⟩
  unfold aBl at hm
  refine aK (aJ (aY f0 (aH ?_)))
  rcases aL hm with ⟨c4,hm⟩|⟨c4,hm⟩
  ·refine aR c4 rfl (aW (aC (aO [0] (fun f w=>∃ q a2,aCG q a2=some c3/\f 3=zS b q.length a.length/\f 4=zB a2/\aF G K (own 4 K b a.length q::L) w) ?_ ?_)))
   ·rintro f h8 ⟨q,a2,hm,f1,f2,f3⟩
    unfold aCG at hm
    exact aC ⟨_,(zI hm).symm,bF,f1,f2,f3⟩
   refine aJ (aI (v:=zB false) (aH (aJ (aI (v:=i64 0) (aH (aO [0] (fun f w=>∃ a3 c6,aFD a3 c6=some c3/\f 3=zS b a3.length a.length/\f 4=zB c6/\aF G K (own 4 K b a.length a3::L) w) aM ?_))))));obtain ⟨i0,f4,ho⟩:=aB hm
   refine oI [0] f4 (fun k a5 j f w=>f 3=zS b k.length a.length/\f 4=zB a5/\f 5=i64 j/\aF G K (own 4 K b a.length k::L) w) aM ?_
   ·rintro k a5 j c7 f i1 hm hr ⟨c9,i2,a6,f5⟩
    unfold tX at hm
    refine aK (aJ (aY a6 (aG (v:=bY a1 d) (aD (cQ rfl c) (aD (cJ (k':=d+3) fK rfl c rfl) (aD (aU (t:=3) oJ f5 c rfl rfl) (aD (bC (len:=t.E.length) cP rfl) (aD (cK rfl rfl) (aH ?_)))))))))
    rcases aL hm with ⟨d0,hm⟩|⟨d0,hm⟩
    ·refine aR d0 rfl (aW (aC (aK (aO [0,5] (fun f w=>∃ r a8,nU j r a8=some c7/\f 3=zS b r.length a.length/\f 4=zB a8/\aF G K (own 4 K b a.length r::L) w) ?_ ?_))))
     ·rintro f i3 ⟨r,a8,hm,f6,f7,f8⟩
      unfold nU at hm
      exact aC (aS (aY a6 (aD (cN rfl rfl) (aI (v:=i64 (wr (j+1))) (aH ⟨_,(zI hm).symm,bF,f6,f7,rfl,f8⟩)))))
     refine aK (bP [0,3,4,5] (fun f w=>∃ a9,nV t k a5 j a9=some c7/\f 53=zB a9/\aF G K (own 4 K b a.length k::L) w) ?_ ?_)
     ·rintro f i4 ⟨a9,hm,f9,b0⟩
      unfold nV at hm
      refine aC ?_
      rcases aL hm with ⟨d1,hm⟩|⟨d1,hm⟩
      ·refine aR d1 f9 (aJ (aY c9 (aG (v:=bY a1 d) (aD (cQ rfl c) (aD (cJ (k':=d+3) fK rfl c rfl) (aD (aU (t:=3) oJ b0 c rfl rfl) (aY a6 ?_)))))));obtain ⟨i5,d2,hm⟩:=aB hm
       refine aD (dM cP rfl h9 rfl rfl rfl d2) ?_;obtain ⟨i6,d3,g0⟩:=bL.el (sz:=3) rfl h9 d2
       cases g0
       refine aD (cJ (k':=j.toNat * 3+2) uK rfl d3 rfl) (aD (aU (t:=2) cR b0 d3 rfl rfl) ?_);obtain ⟨i7,d4,hm⟩:=aB hm
       refine aD (cM cS rfl b5 rfl rfl rfl d4) ?_;obtain ⟨d5,d6,hm⟩:=aB hm
       exact gA (i:=0) (t:=0) (ns:=[zB true]) (e':=(true:Bool)) sizeOf4 b0 rfl (zR _) rfl rfl rfl d4 d6 rfl rfl (eV rfl) rfl (fun cs h=>by cases h;rfl) (fun g1 (g2:aF G K (own 4 K b a.length d5::L) g1)=>(aH (aS (aI (v:=zB true) (aV (cH (aC ⟨bF,d5,true,hm,(Eq.trans c9 (congrArg (fun n=>zS b n a.length) (eL d6))),rfl,g2⟩)))))))
      ·exact aM
     exact aM
    ·exact aM
  ·exact aM
theorem qG {e:Edge} {a:Nat} {p:(List Int)} {R:Bool} (hm:rH e p=some R) (c:aF G K (L) w) (d:dT K a1 a [i64 e.F,i64 e.B,i64 e.To]) (g:bL K a4 c5 p):
  Calls prog 60 ([bY a1 a,zS a4 p.length c5]:List Value).toArray w (eC fun v w'=>v=zB R/\aF G K (L) w'):=by
 refine aN func60 rfl (by kernel_rfl) (by show (2:Nat)<=27;decide) ?_;unfold rH at hm
 exact aJ (aI (v:=zB false) (aH (aK (bP [] (fun f w=>∃ b,yL b=some R/\f 4=zB b/\aF G K (L) w) aM aM))))
theorem aEM {a:(List Bool)} {R:(List Int)} (hm:aCZ a=some R) (r:aF G K (L) w) (J:bL K a1 c2 a):
  Calls prog 61 ([zS a1 a.length c2]:List Value).toArray w (eC fun v w'=>∃ k l,v=zS k R.length l/\aF G K (own 2 K k l R::L) w'):=by
 refine aN func61 rfl (by kernel_rfl) (by show (1:Nat)<=21;decide) ?_;unfold aCZ at hm
 refine aJ (aI (v:=zS none 0 0) (aH (aJ (bX (Kt:=K) (xs:=([]:List Int)) (cs:=[]) (vs:=[]) bN kQ rfl rfl r rfl (by kernel_rfl) rfl rfl rfl trivial (fun m t (Z:aF G K (own 2 K m 0 ([]:List Int)::L) t)=>(aI (v:=zS m ([]:List Int).length 0) (aH (aK (aJ (aI (v:=i64 0) (aH (aO [] (fun f w=>∃ g n o,aGA g=some R/\f 3=zS n g.length o/\aF G K (own 2 K n o g::L) w) aM ?_))))))))))));obtain ⟨a0,u,ho⟩:=aB hm
 refine bO [0] u (fun h b f w=>∃ i j,f 3=zS i h.length j/\f 4=i64 b/\aF G K (own 2 K i j h::L) w) aM ?_
 ·rintro h b x f a2 hm hr ⟨i,j,a3,p,a5⟩
  unfold mZ at hm
  refine aK (aJ (aY p (aG (v:=zS a1 a.length c2) (aD (bC (len:=a.length) cS rfl) (aD (cK rfl rfl) (aH ?_))))))
  rcases aL hm with ⟨q,hm⟩|⟨q,hm⟩
  ·refine aR q rfl (aW (aC (aK (aO [0,4] (fun f w=>∃ c d e,vZ b c=some x/\f 3=zS d c.length e/\aF G K (own 2 K d e c::L) w) ?_ ?_))))
   ·rintro f a6 ⟨c,d,e,hm,y,z⟩
    unfold vZ at hm
    exact aC (aS (aY p (aD (cN rfl rfl) (aI (v:=i64 (wr (b+1))) (aH ⟨_,(zI hm).symm,bF,d,e,y,rfl,z⟩)))))
   exact aM
  ·exact aM
theorem wU {t:bQ} {j:Nat} {p:(List Int)} {R:(List Bool)} (hm:sQ t p=some R) (hs:aF G K (L) w) (c:dT K a1 j (zC t a4 c5 a7 c8)) (h6:bL K a4 c5 t.L) (h9:bL K a7 c8 t.E) (e3:bL K a10 c11 p):
  Calls prog 62 ([bY a1 j,zS a10 p.length c11]:List Value).toArray w (eC fun v w'=>∃ c1 c2,v=zS c1 R.length c2/\aF G K (own 4 K c1 c2 R::L) w'):=by
 refine aN func62 rfl (by kernel_rfl) (by show (2:Nat)<=82;decide) ?_;unfold sQ at hm
 refine aJ (aI (v:=zS none 0 0) (aH (aJ (aG (v:=bY a1 j) (aD (cQ rfl c) (aD (cJ (k':=j+0) fA rfl c rfl) (aD (aU (t:=0) cR hs c rfl rfl) ?_)))))));obtain ⟨a,e4,hm⟩:=aB hm
 refine xD (e:=(false:Bool)) cS aFu rfl rfl hs rfl rfl rfl e4 rfl (fun b e5 (i1:aF G K (own 4 K b a.length a::L) e5)=>(aI (v:=zS b a.length a.length) (aH (aK (aJ (aI (v:=i64 0) (aH (aO [0,1] (fun f w=>∃ r,sP t p r=some R/\f 5=zS b r.length a.length/\aF G K (own 4 K b a.length r::L) w) ?_ ?_))))))))
 ·rintro f i2 ⟨r,hm,i3,i4⟩
  unfold sP at hm
  refine aC (aK (aJ (aI (v:=zB true) (aH (aO [] (fun f w=>∃ J,aAl J=some R/\f 5=zS b J.length a.length/\aF G K (own 4 K b a.length J::L) w) aM ?_)))));obtain ⟨i5,e6,ho⟩:=aB hm
  refine bO [0,1] e6 (fun Z c3 f w=>f 5=zS b Z.length a.length/\f 7=zB c3/\aF G K (own 4 K b a.length Z::L) w) aM ?_
  ·rintro Z c3 c4 f i6 hm hr ⟨i7,e7,i8⟩
   unfold mL at hm
   refine aK (aJ (aY e7 (aH ?_)))
   rcases aL hm with ⟨c6,hm⟩|⟨c6,hm⟩
   ·refine aR c6 rfl (aW (aC (aO [0,1] (fun f w=>∃ u a0,aAm u a0=some c4/\f 5=zS b u.length a.length/\f 7=zB a0/\aF G K (own 4 K b a.length u::L) w) ?_ ?_)))
    ·rintro f i9 ⟨u,a0,hm,e8,e9,f0⟩
     unfold aAm at hm
     exact aC ⟨_,(zI hm).symm,bF,e8,e9,f0⟩
    refine aJ (aI (v:=zB false) (aH (aJ (aI (v:=i64 0) (aH (aO [0,1] (fun f w=>∃ a2 c7,aDK a2 c7=some c4/\f 5=zS b a2.length a.length/\f 7=zB c7/\aF G K (own 4 K b a.length a2::L) w) aM ?_))))));obtain ⟨j0,f1,ho⟩:=aB hm
    refine oI [0,1] f1 (fun k a3 l f w=>f 5=zS b k.length a.length/\f 7=zB a3/\f 8=i64 l/\aF G K (own 4 K b a.length k::L) w) aM ?_
    ·rintro k a3 l c9 f j1 hm hr ⟨a5,j2,o,a6⟩
     unfold kL at hm
     refine aK (aJ (aY o (aG (v:=bY a1 j) (aD (cQ rfl c) (aD (cJ (k':=j+0) fA rfl c rfl) (aD (aU (t:=0) cR a6 c rfl rfl) (aD (cK rfl rfl) (aH ?_))))))))
     rcases aL hm with ⟨d0,hm⟩|⟨d0,hm⟩
     ·refine aR d0 rfl (aW (aC (aK (aO [0,1,8] (fun f w=>∃ x a8,kK l x a8=some c9/\f 5=zS b x.length a.length/\f 7=zB a8/\aF G K (own 4 K b a.length x::L) w) ?_ ?_))))
      ·rintro f j3 ⟨x,a8,hm,f2,f3,f4⟩
       unfold kK at hm
       exact aC (aS (aY o (aD (cN rfl rfl) (aI (v:=i64 (wr (l+1))) (aH ⟨_,(zI hm).symm,bF,f2,f3,rfl,f4⟩)))))
      refine aK (aJ (aY a5 (aY o ?_)));obtain ⟨j4,q,hm⟩:=aB hm
      have d1:=cA a6 (i:=0) rfl q
      refine aD (cM cS rfl d1 rfl rfl rfl q) (aD (lA (t:=0) aDv a6 (i:=0) rfl q rfl rfl rfl) (aD (aDH rfl) (aH ?_)))
      rcases aL hm with ⟨d2,hm⟩|⟨d2,hm⟩
      ·exact aM
      ·refine bG d2 rfl (aW (aC (aJ (aI (v:=zB false) (aH (aK (aJ (aI (v:=i64 0) (aH (aO [0,1,5,7,8] (fun f w=>∃ a9,uL k a3 l a9=some c9/\f 9=zB a9/\aF G K (own 4 K b a.length k::L) w) ?_ ?_))))))))))
       ·rintro f j5 ⟨a9,hm,f5,f6⟩
        unfold uL at hm
        refine aC (aJ (aY f5 (aD (aDH rfl) (aH ?_))))
        rcases aL hm with ⟨d3,hm⟩|⟨d3,hm⟩
        ·refine aR d3 rfl (aJ (aY a5 (aY o (aD (cM cS rfl d1 rfl rfl rfl q) ?_))));obtain ⟨d4,d5,hm⟩:=aB hm
         exact gA (i:=0) (t:=0) (ns:=[zB false]) (e':=(false:Bool)) sizeOf4 f6 rfl (zR _) rfl rfl rfl q d5 rfl rfl (eV rfl) rfl (fun cs h=>by cases h;rfl) (fun f7 (f8:aF G K (own 4 K b a.length d4::L) f7)=>(aH (aS (aI (v:=zB true) (aV (cH (aC ⟨bF,d4,true,hm,(Eq.trans a5 (congrArg (fun n=>zS b n a.length) (eL d5))),rfl,f8⟩)))))))
        ·exact aM
       obtain ⟨j6,f9,ho⟩:=aB hm
       refine bO [0,1,5,7,8] f9 (fun b0 y f w=>f 9=zB b0/\f 10=i64 y/\aF G K (own 4 K b a.length k::L) w) aM ?_
       ·rintro b0 y g0 f j7 hm hr ⟨g1,b1,z⟩
        unfold iW at hm
        refine aK (aJ (aY b1 (aG (v:=bY a1 j) (aD (cQ rfl c) (aD (cJ (k':=j+3) fK rfl c rfl) (aD (aU (t:=3) oJ z c rfl rfl) (aD (bC (len:=t.E.length) cP rfl) (aD (cK rfl rfl) (aH ?_)))))))))
        rcases aL hm with ⟨d6,hm⟩|⟨d6,hm⟩
        ·refine aR d6 rfl (aW (aC (aK (cD (aJ (aG (v:=bY a1 j) (aD (cQ rfl c) (aD (cJ (k':=j+3) fK rfl c rfl) (aD (aU (t:=3) oJ z c rfl rfl) (aY b1 ?_))))))))));obtain ⟨d,d7,hm⟩:=aB hm
         refine aD (dM cP rfl h9 rfl rfl rfl d7) ?_;obtain ⟨j8,g2,g3⟩:=bL.el (sz:=3) rfl h9 d7
         cases g3
         refine aD (jQ (t:=0) (vs:=[i64 d.F,i64 d.B,i64 d.To]) tE z g2 rfl rfl rfl) (bV (vs:=[i64 0,i64 0,i64 0]) zeroValue51 z rfl (fun d8 j9 g4=>(dJ (i:=0) (ns:=[i64 d.F,i64 d.B,i64 d.To]) (us:=[i64 d.F,i64 d.B,i64 d.To]) sizeOf51 g4 rfl rfl rfl rfl rfl (eV rfl) rfl rfl (fun g5 (d9:aF G K (box d8 51 [i64 d.F,i64 d.B,i64 d.To]::own 4 K b a.length k::L) g5)=>(aH (bP [0,1,5,7,8,10] (fun f w=>∃ b2,iV y b2=some g0/\f 9=zB b2/\aF G K (own 4 K b a.length k::L) w) ?_ ?_))))))
         ·rintro f k0 ⟨b2,hm,g6,g7⟩
          unfold iV at hm
          exact cH (aC (aS (aY b1 (aD (cN rfl rfl) (aI (v:=i64 (wr (y+1))) (aH ⟨_,(zI hm).symm,bF,g6,rfl,g7⟩))))))
         refine aS (aY g1 (aG (v:=zB b0) ?_))
         rcases aL hm with ⟨m,hm⟩|⟨m,hm⟩
         ·exact aM
         ·refine cU m rfl rfl (aD (bH (t':=0) uJ rfl rfl) (cU m rfl rfl (aD (eM cR d9 (i:=0) rfl rfl rfl) (cU m rfl rfl (aY o (cU m rfl rfl (aD (qS rfl rfl) (cU m rfl rfl (aG (v:=zB (d.F == l)) ?_)))))))))
          rcases aL hm with ⟨b3,hm⟩|⟨b3,hm⟩
          ·refine cO b3 rfl rfl (aG (v:=zS a10 p.length c11) (cO b3 rfl rfl ?_));obtain ⟨k1,g8,g9,h0,k3⟩:=aF.lendBp d9 .head
           obtain ⟨k4,h1,hm⟩:=aB hm
           exact aP (vs:=[bY (some ⟨d8,0,none⟩) 0,zS a10 p.length c11]) call60 rfl (qG h1 h0 g9 (e3.mono g8)) aM
          ·exact aM
        ·exact aM
     ·exact aM
   ·exact aM
 obtain ⟨k5,h2,ho⟩:=aB hm
 refine bO [0,1] h2 (fun b4 b5 f w=>f 5=zS b b4.length a.length/\f 6=i64 b5/\aF G K (own 4 K b a.length b4::L) w) aM ?_
 ·rintro b4 b5 k6 f k7 hm hr ⟨e0,b6,b7⟩
  unfold gY at hm
  refine aK (aJ (aY b6 (aG (v:=bY a1 j) (aD (cQ rfl c) (aD (cJ (k':=j+0) fA rfl c rfl) (aD (aU (t:=0) cR b7 c rfl rfl) (aD (cK rfl rfl) (aH ?_))))))))
  rcases aL hm with ⟨e1,hm⟩|⟨e1,hm⟩
  ·refine aR e1 rfl (aW (aC (aK (cD (aS (aY e0 (aY b6 ?_)))))));obtain ⟨k8,b8,hm⟩:=aB hm
   have h4:=cA b7 (i:=0) rfl b8
   refine aD (cM cS rfl h4 rfl rfl rfl b8) ?_;obtain ⟨h5,e2,hm⟩:=aB hm
   exact gA (i:=0) (t:=0) (ns:=[zB true]) (e':=(true:Bool)) sizeOf4 b7 rfl (zR _) rfl rfl rfl b8 e2 rfl rfl (eV rfl) rfl (fun cs h=>by cases h;rfl) (fun h7 (h8:aF G K (own 4 K b a.length h5::L) h7)=>(aV (cH (aC (aS (aY b6 (aD (cN rfl rfl) (aI (v:=i64 (wr (b5+1))) (aH ⟨_,(zI hm).symm,bF,(Eq.trans e0 (congrArg (fun n=>zS b n a.length) (eL e2))),rfl,h8⟩)))))))))
  ·exact aM
theorem aJI {a b R:Int} (hm:aIE a b=some R) (c:aF G K (L) w):
  Calls prog 99 ([i64 a,i64 b]:List Value).toArray w (eC fun v w'=>v=i64 R/\aF G K (L) w'):=by
 exact aM
theorem aHo {p:(List Int)} {R:Int} (hm:pF p=some R) (e:aF G K (L) w) (g:bL K a1 c2 p):
  Calls prog 63 ([zS a1 p.length c2]:List Value).toArray w (eC fun v w'=>v=i64 R/\aF G K (L) w'):=by
 refine aN func63 rfl (by kernel_rfl) (by show (1:Nat)<=19;decide) ?_;unfold pF at hm
 refine aJ (aI (v:=i64 0) (aH (aJ (aI (v:=i64 0) (aH (aK (aJ (aI (v:=i64 0) (aH (aO [] (fun f w=>∃ a,aEx a=some R/\f 3=i64 a/\aF G K (L) w) aM ?_))))))))));obtain ⟨h,b,ho⟩:=aB hm
 exact bO [0] b (fun c d f w=>f 3=i64 c/\f 4=i64 d/\aF G K (L) w) aM aM
theorem aBG {t:bQ} {g:Nat} {p:(List Int)} {q:Bool} {R:bQ} (hm:tY t p q=some R) (hs:aF G K (L) w) (j:dT K a1 g (zC t a4 c5 a7 c8)) (h6:bL K a4 c5 t.L) (h9:bL K a7 c8 t.E) (m:bL K a10 c11 p):
  Calls prog 33 ([bY a1 g,zS a10 p.length c11,zB q]:List Value).toArray w (eC fun v w'=>∃ c0 c1 c2 c3,v=zA (zCa R c0 c1 c2 c3)/\aF G K (own 9 K c0 c1 R.L::own 51 K c2 c3 R.E::L) w'):=by
 let c:=zG
 refine aN func33 rfl (by kernel_rfl) (by show (3:Nat)<=92;decide) ?_;unfold tY at hm
 refine aJ (bV (vs:=c) zeroValue29 hs rfl (fun d j6 f0=>(aH (aJ (bX (Kt:=K) (xs:=([]:List Edge)) (cs:=[]) (vs:=[]) cP qT rfl rfl f0 rfl (by kernel_rfl) rfl rfl rfl trivial (fun c4 f1 (j7:aF G K (own 51 K c4 0 ([]:List Edge)::box d 29 c::L) f1)=>(aI (v:=zS c4 ([]:List Edge).length 0) (aH (aK (aJ (aI (v:=i64 0) (aH (aO [0,1,2,6] (fun f w=>∃ r b1 b2,sS t p q r=some R/\f 7=zS b1 r.length b2/\aF G K (own 51 K b1 b2 r::box d 29 c::L) w) ?_ ?_)))))))))))))
 ·rintro f j8 ⟨r,b1,b2,hm,j9,f2⟩
  unfold sS at hm
  refine aC (gT [0,1,6] (fun f w=>∃ u b3 b4,lK t p u=some R/\f 7=zS b3 u.length b4/\aF G K (own 51 K b3 b4 u::box d 29 c::L) w) ?_ ?_)
  ·rintro f k0 ⟨u,b3,b4,hm,k1,c6⟩
   unfold lK at hm
   refine aK (cV (C:=fun w'=>∃ L',aF G K L' w') [(0,0),(2,0),(3,0),(4,0),(5,0),(6,0),(7,0),(8,0),(9,0),(10,0),(11,0),(12,0),(13,0),(1,1),(14,1),(15,2)] Tryz_mixed (by kernel_rfl) (fun _ hg=>⟨_,aF.mono c6 hg⟩) (fun k3 f3=>?_))
   have k4:=aF.mono c6 f3
   exact aM
  refine aJ (aG (v:=zB q) (aH ?_))
  rcases aL hm with ⟨c7,hm⟩|⟨c7,hm⟩
  ·refine aR c7 rfl (aJ (aG (v:=bY a1 g) (aG (v:=zS a10 p.length c11) ?_)));obtain ⟨f4,f5,hm⟩:=aB hm
   refine aP (vs:=[bY a1 g,zS a10 p.length c11]) call62 rfl (wU f5 f2 j h6 h9 m) ?_
   rintro _ k5 ⟨f6,f7,rfl,f8⟩
   obtain ⟨k6,k7,f9,g0,g1⟩:=aF.lendSp f8 (zR _) .head
   obtain ⟨k,g2,hm⟩:=aB hm
   refine aP (vs:=[zS f6 f4.length f7]) call61 rfl (aEM g2 g0 f9) ?_
   rintro _ k8 ⟨n,o,rfl,g3⟩
   have k9:=g1 _ _ g3
   refine aI (v:=zS n k.length o) (aH (aJ (aI (v:=i64 0) (aH (aO [0,1,6] (fun f w=>∃ b5 c9 d0,xP t p b5=some R/\f 7=zS c9 b5.length d0/\aF G K (own 51 K c9 d0 b5::box d 29 c::L) w) aM ?_)))));obtain ⟨l0,g4,ho⟩:=aB hm
   refine bO [0,1,6,10] g4 (fun x d1 f w=>∃ y z,f 7=zS y x.length z/\f 11=i64 d1/\aF G K (own 2 K n o k::own 51 K y z x::box d 29 c::L) w) aM ?_
   ·rintro x d1 l1 f l2 hm hr ⟨y,z,g5,b6,g6⟩
    unfold gZ at hm
    refine aK (aJ (aY b6 (aG (v:=zS n k.length o) (aD (bC (len:=k.length) bN rfl) (aD (cK rfl rfl) (aH ?_))))))
    rcases aL hm with ⟨d2,hm⟩|⟨d2,hm⟩
    ·refine aR d2 rfl (aW (aC (aK (cD ?_))));obtain ⟨b7,l,d3,d4,g7⟩:=aF.lendSp g6 (zR _) .head
     refine cV (C:=fun w'=>∃ L',aF G b7 L' w') [(0,0),(1,0),(2,0),(3,0),(4,0),(5,0),(6,0),(7,0),(8,0),(9,0),(10,0),(11,0),(12,0),(13,0),(14,0),(15,0),(16,1),(17,1),(18,0)] Tryz_mixed (by kernel_rfl) (fun _ hg=>⟨_,aF.mono d4 hg⟩) (fun l3 g8=>?_)
     have e:=aF.mono d4 g8
     refine bE rfl (fun _ _=>aT g5) (bE rfl (fun _ _=>aT (v:=zS a10 p.length c11) rfl) (bE rfl (fun _ _=>aT (v:=zS n k.length o) rfl) (bE rfl (fun _ _=>aT b6) ?_)));obtain ⟨l4,J,hm⟩:=aB hm
     have d5:=aFe d3 J
     refine bE rfl (fun _ _=>cM bN rfl d5 rfl rfl rfl J) ?_;obtain ⟨l5,d6,g9⟩:=bL.el (sz:=1) rfl d3 J
     cases g9
     refine bE rfl (fun _ ⟨_,e⟩=>aU (t:=0) cR e d6 rfl rfl) ?_;obtain ⟨a,b8,hm⟩:=aB hm
     refine bE rfl (fun _ _=>dM bN rfl (m.mono l) rfl rfl rfl b8) ?_;obtain ⟨l6,d7,h0⟩:=bL.el (sz:=1) rfl m b8
     cases h0
     refine bE rfl (fun _ ⟨_,e⟩=>aU (t:=0) cR e (d7.mono l) rfl rfl) (bE rfl (fun _ _=>aT (v:=zS a10 p.length c11) rfl) (bE rfl (fun _ _=>aT (v:=zS n k.length o) rfl) (bE rfl (fun _ _=>aT b6) (bE rfl (fun _ _=>cM bN rfl d5 rfl rfl rfl J) (bE rfl (fun _ ⟨_,e⟩=>aU (t:=0) cR e d6 rfl rfl) (bE rfl (fun _ _=>dM bN rfl (m.mono l) rfl rfl rfl b8) (bE rfl (fun _ ⟨_,e⟩=>aU (t:=0) cR e (d7.mono l) rfl rfl) (bE rfl (fun _ _=>gJ (vs:=[(0,i64 a),(2,i64 a)]) (cs:=[i64 a,i64 0,i64 a]) aIC rfl (by kernel_rfl)) (nT rfl (bX (Kt:=K) (xs:=([⟨a,0,a⟩]:List Edge)) (cs:=[i64 a,i64 0,i64 a]) (vs:=[(0,zA #[i64 a,i64 0,i64 a])]) cP qT rfl rfl e rfl (by kernel_rfl) rfl rfl rfl ⟨rfl,trivial⟩ (fun h1 h2 (d8:aF G b7 (own 51 K h1 1 ([⟨a,0,a⟩]:List Edge)::own 51 K y z x::box d 29 c::L) h2)=>(aV (aC ⟨⟨_,d8⟩,?_⟩)))))))))))))
     refine nT rfl ?_;obtain ⟨d9,h4,hm⟩:=aB hm
     refine eQ (i:=0) cP underlying27 qT rfl rfl d8 rfl l l h4 rfl rfl rfl rfl (fun _ h=>h) (fun e0 e1 h5 (e2:aF G b7 (own 51 K e0 e1 d9::box d 29 c::L) h5)=>(aV (aC ⟨⟨_,e2⟩,?_⟩)))
     refine bE rfl (fun _ _=>eE (v:=zS e0 d9.length e1) rfl) (xI ?_)
     have l7:=g7 _ _ e2
     exact aM
    ·exact aM
  ·exact aM
 obtain ⟨l8,h7,ho⟩:=aB hm
 refine bO [0,1,2,6] h7 (fun Z a0 f w=>∃ a2 a3,f 7=zS a2 Z.length a3/\f 8=i64 a0/\aF G K (own 51 K a2 a3 Z::box d 29 c::L) w) aM ?_
 ·rintro Z a0 h8 f l9 hm hr ⟨a2,a3,m0,b9,a5⟩
  unfold hJ at hm
  refine aK (aJ (aY b9 (aG (v:=bY a1 g) (aD (cQ rfl j) (aD (cJ (k':=g+3) fK rfl j rfl) (aD (aU (t:=3) oJ a5 j rfl rfl) (aD (bC (len:=t.E.length) cP rfl) (aD (cK rfl rfl) (aH ?_)))))))))
  rcases aL hm with ⟨e3,hm⟩|⟨e3,hm⟩
  ·refine aR e3 rfl (aW (aC (aK (aO [0,1,2,6,8] (fun f w=>∃ a6 a8 a9,oN a0 a6=some h8/\f 7=zS a8 a6.length a9/\aF G K (own 51 K a8 a9 a6::box d 29 c::L) w) ?_ ?_))))
   ·rintro f m1 ⟨a6,a8,a9,hm,i0,i1⟩
    unfold oN at hm
    exact aC (aS (aY b9 (aD (cN rfl rfl) (aI (v:=i64 (wr (a0+1))) (aH ⟨_,(zI hm).symm,bF,a8,a9,i0,rfl,i1⟩)))))
   refine aJ (aG (v:=bY a1 g) (aD (cQ rfl j) (aD (cJ (k':=g+3) fK rfl j rfl) (aD (aU (t:=3) oJ a5 j rfl rfl) (aY b9 ?_)))));obtain ⟨b,e4,hm⟩:=aB hm
   refine aD (dM cP rfl h9 rfl rfl rfl e4) ?_;obtain ⟨m2,i2,i3⟩:=bL.el (sz:=3) rfl h9 e4
   cases i3
   refine aD (jQ (t:=0) (vs:=[i64 b.F,i64 b.B,i64 b.To]) tE a5 i2 rfl rfl rfl) (bV (vs:=[i64 0,i64 0,i64 0]) zeroValue51 a5 rfl (fun e5 m3 i4=>(dJ (i:=0) (ns:=[i64 b.F,i64 b.B,i64 b.To]) (us:=[i64 b.F,i64 b.B,i64 b.To]) sizeOf51 i4 rfl rfl rfl rfl rfl (eV rfl) rfl rfl (fun i5 (i6:aF G K (box e5 51 [i64 b.F,i64 b.B,i64 b.To]::own 51 K a2 a3 Z::box d 29 c::L) i5)=>(aH (aJ (aG (v:=zS a10 p.length c11) ?_)))))))
   obtain ⟨m4,i7,i8,i9,j0⟩:=aF.lendBp i6 .head
   obtain ⟨m5,j1,hm⟩:=aB hm
   refine aP (vs:=[bY (some ⟨e5,0,none⟩) 0,zS a10 p.length c11]) call60 rfl (qG j1 i9 i8 (m.mono i7)) ?_
   rintro _ m6 ⟨rfl,j2⟩
   have j3:=j0 _ _ j2
   refine aD (aDH rfl) (aH ?_)
   rcases aL hm with ⟨e6,hm⟩|⟨e6,hm⟩
   ·refine aR e6 rfl ?_;obtain ⟨j4,m7,m8,e7,m9⟩:=aF.lendBp j3 .head
    refine cV (C:=fun w'=>∃ L',aF G j4 L' w') [(0,0),(1,0),(2,0),(3,0),(4,0),(5,0),(6,0),(7,0),(8,0),(9,0),(10,0),(11,0),(12,0),(13,0),(14,1),(15,1),(16,0)] Tryz_mixed (by kernel_rfl) (fun _ hg=>⟨_,aF.mono e7 hg⟩) (fun n0 j5=>?_)
    have n1:=aF.mono e7 j5
    exact aM
   ·exact aM
  ·exact aM
end Gv
