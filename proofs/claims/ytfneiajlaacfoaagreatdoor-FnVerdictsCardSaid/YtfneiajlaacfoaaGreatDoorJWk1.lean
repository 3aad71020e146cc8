/- Walks, printed by program. -/
import Derived.Test.YtfneiajlaacfoaaGreatDoorJLW
set_option linter.all false
namespace Gv
open Gv.Hp renaming le_refl→zR
open Go.Value renaming slice→zS,bool→zB,tuple→zT
open Option.some renaming inj→zI
open Go Go.Proofs Go.Proofs.Tryz
set_option maxRecDepth 20000
set_option maxHeartbeats 40000000
variable {G:rY} {K:Hp} {L:List fD} {w:World} {a1 a4 a7:Option Addr} {c2 c5 c8:Nat}
theorem aGm {a:(List aF)} {R:((List Int) × Bool)} (hm:uK a=some R) (k:aE G K (L) w) (n:G.lo=0) (o:bL K a1 c2 a):
  Calls prog 162 ([zS a1 a.length c2]:List Value).toArray w (dQ fun v w'=>∃ c d,v=zT #[zS c R.1.length d,zB R.2]/\aE G K (own 2 K c d R.1::L) w'):=by
 refine aN func162 rfl (by kernel_rfl) (by show (1:Nat)<=28;decide) ?_;unfold uK at hm
 refine aL (aH (v:=zS none 0 0) (aH (v:=zB false) (aI (aL (aH (v:=zS none 0 0) (aI (aJ (aL (aG (v:=zS a1 a.length c2) (aD (bF (len:=a.length) kN rfl) (aG (v:=i64 0) (aI (aR [] (fun f w=>∃ b e g,aDh b=some R/\f 4=zS e b.length g/\aE G K (own 2 K e g b::L) w) aM ?_)))))))))))))
 have p:=aE.nil (α:=Int) k 2 K
 obtain ⟨q,l,ho⟩:=aB hm
 exact bX [9,10] l (fun h m f w=>∃ i j,f 4=zS i h.length j/\f 11=i64 m/\aE G K (own 2 K i j h::L) w) aM aM
theorem aJh {c:UInt8} {R:Bool} (hm:aFw c=some R) (b:aE G K (L) w):
  Calls prog 206 ([Value.int .u8 (c.toNat:Int)]:List Value).toArray w (dQ fun v w'=>v=zB R/\aE G K (L) w'):=by
 refine aN func206 rfl (by kernel_rfl) (by show (1:Nat)<=9;decide) ?_;unfold aFw at hm
 exact aL (aH (v:=zB false) (aI (aJ (bD [] (fun f w=>∃ a,aDP a=some R/\f 2=zB a/\aE G K (L) w) aM aM))))
theorem aKd {a:aF} {R:Bool} (hm:aEL a=some R) (k:aE G K (L) w):
  Calls prog 184 ([str a]:List Value).toArray w (dQ fun v w'=>v=zB R/\aE G K (L) w'):=by
 refine aN func184 rfl (by kernel_rfl) (by show (1:Nat)<=42;decide) ?_;unfold aEL at hm
 refine aL (aH (v:=zB false) (aI (aJ (aL (aG (v:=str a) (aD (aBl runUnderlying9 rfl) (aG (v:=i64 0) (aI (aR [0] (fun f w=>aCl a=some R/\aE G K (L) w) ?_ ?_)))))))))
 ·rintro f l ⟨hm,m⟩
  unfold aCl at hm
  exact aC (aJ (bD [] (fun f w=>∃ d,aEK d=some R/\f 2=zB d/\aE G K (L) w) aM aM))
 obtain ⟨n,j,ho⟩:=aB hm
 refine dY [0,6] j (fun b f w=>f 7=i64 b/\aE G K (L) w) aM ?_
 ·rintro b e f o hm hr ⟨g,p⟩
  unfold vV at hm
  refine aL (aD (cW g rfl) (aI (aJ ?_)))
  rcases aK hm with ⟨h,hm⟩|⟨h,hm⟩
  ·refine aQ h rfl (aW (aC (aJ (cD (aL (bI g (aH (v:=i64 b) (aI (aJ (bD [0,3,6,7] (fun f w=>∃ c,pV a b c=some e/\f 4=zB c/\aE G K (L) w) ?_ ?_))))))))))
   ·rintro f q ⟨c,hm,r,t⟩
    unfold pV at hm
    exact aC (aJ (bD [0,6,7] (fun f w=>∃ i,zN b i=some e/\f 32=zB i/\aE G K (L) w) aM aM))
   exact aM
  ·exact aM
theorem aIo {a:aF} {R:Bool} (hm:yE a=some R) (c:aE G K (L) w):
  Calls prog 166 ([str a]:List Value).toArray w (dQ fun v w'=>v=zB R/\aE G K (L) w'):=by
 refine aN func166 rfl (by kernel_rfl) (by show (1:Nat)<=9;decide) ?_;unfold yE at hm
 exact aL (aH (v:=zB false) (aI (aJ (bD [] (fun f w=>∃ b,yR b=some R/\f 2=zB b/\aE G K (L) w) aM aM))))
theorem aFX {n low a:Int} {R:Bool} (hm:lO n low a=some R) (c:aE G K (L) w):
  Calls prog 62 ([i64 n,i64 low,i64 a]:List Value).toArray w (dQ fun v w'=>v=zB R/\aE G K (L) w'):=by
 refine aN func62 rfl (by kernel_rfl) (by show (3:Nat)<=15;decide) ?_;unfold lO at hm
 exact aL (aH (v:=zB false) (aI (aJ (bD [] (fun f w=>∃ b,aEM b=some R/\f 6=zB b/\aE G K (L) w) aM aM))))
theorem aJi {n:Int} {R:Bool} (hm:aHu n=some R) (a:aE G K (L) w):
  Calls prog 204 ([i64 n]:List Value).toArray w (dQ fun v w'=>v=zB R/\aE G K (L) w'):=by
 exact aM
theorem aAw {n:Int} {R:Bool} (hm:aBr n=some R) (a:aE G K (L) w):
  Calls prog 203 ([i64 n]:List Value).toArray w (dQ fun v w'=>v=zB R/\aE G K (L) w'):=by
 exact aM
theorem tB {a:(List Int)} {R:Int} (hm:fG a=some R) (n:aE G K (L) w) (c:bL K a1 c2 a):
  Calls prog 78 ([zS a1 a.length c2,Value.func (.func 203) #[] #[]]:List Value).toArray w (dQ fun v w'=>v=i64 R/\aE G K (L) w'):=by
 refine aN func78 rfl (by kernel_rfl) (by show (2:Nat)<=19;decide) ?_;unfold fG at hm
 refine aL (aH (v:=i64 0) (aI (aJ (aL (aG (v:=zS a1 a.length c2) (aD (bF (len:=a.length) bJ rfl) (aG (v:=i64 0) (aI (aR [] (fun f w=>lP=some R/\aE G K (L) w) aM ?_)))))))));obtain ⟨o,j,ho⟩:=aB hm
 refine dY [0,1,7] j (fun b f w=>f 8=i64 b/\aE G K (L) w) aM ?_
 ·rintro b p f q hm hr ⟨d,e⟩
  unfold dE at hm
  refine aL (aD (cW d rfl) (aI (aJ ?_)))
  rcases aK hm with ⟨g,hm⟩|⟨g,hm⟩
  ·refine aQ g rfl (aW (aC (aJ (cD (aL (bI d (aH (v:=i64 b) (aI (aL (aG (v:=Value.func (.func 203) #[] #[]) (aG (v:=zS a1 a.length c2) (aG (v:=i64 b) ?_))))))))))));obtain ⟨h,i,hm⟩:=aB hm
   refine aD (dD bJ rfl c rfl rfl rfl i) ?_;obtain ⟨r,k,l⟩:=bL.el (sz:=1) rfl c i
   cases l
   refine aD (bG (t:=0) dM e k rfl rfl) ?_;obtain ⟨u,m,hm⟩:=aB hm
   exact lM (vs:=[i64 h]) (caps:=[]) (us:=[i64 h]) rfl call203 rfl rfl (aAw m e) aM
  ·exact aM
theorem rC {a:(List Int)} {R:Bool} (hm:gQ a=some R) (b:aE G K (L) w) (c:bL K a1 c2 a):
  Calls prog 28 ([zS a1 a.length c2,Value.func (.func 203) #[] #[]]:List Value).toArray w (dQ fun v w'=>v=zB R/\aE G K (L) w'):=by
 exact aM
theorem aHx {a:(List Int)} {R:Bool} (hm:aCm a=some R) (b:aE G K (L) w) (c:bL K a1 c2 a):
  Calls prog 182 ([zS a1 a.length c2]:List Value).toArray w (dQ fun v w'=>v=zB R/\aE G K (L) w'):=by
 exact aM
theorem aKe {c:(List Int)} {j R:aF} (hm:aEO c j=some R) (Z:aE G K (L) w) (hG:G.lo=0) (p:bL K a1 c2 c):
  Calls prog 183 ([zS a1 c.length c2,str j]:List Value).toArray w (dQ fun v w'=>v=str R/\aE G K (L) w'):=by
 refine aN func183 rfl (by kernel_rfl) (by show (2:Nat)<=27;decide) ?_;unfold aEO at hm
 refine aL (aH (v:=str ([]:aF)) (aI (aL (aG (v:=zS a1 c.length c2) (aD (bF (len:=c.length) bJ rfl) ?_)))));obtain ⟨a,q5,hm⟩:=aB hm
 refine aEj (e:=([]:aF)) kN aGK rfl rfl Z rfl rfl rfl q5 rfl (fun b w7 (b3:aE G K (own 9 K b a.length a::L) w7)=>(aH (v:=zS b a.length a.length) (aI (aJ (aL (aG (v:=zS a1 c.length c2) (aD (bF (len:=c.length) bJ rfl) (aG (v:=i64 0) (aI (aR [1] (fun f w=>∃ k,aEN j k=some R/\f 5=zS b k.length a.length/\aE G K (own 9 K b a.length k::L) w) aM ?_))))))))));obtain ⟨b4,a3,ho⟩:=aB hm
 refine bX [1,11,12] a3 (fun l d f w=>f 5=zS b l.length a.length/\f 13=i64 d/\aE G K (own 9 K b a.length l::L) w) aM ?_
 ·rintro l d b5 f b6 hm hr ⟨q,g,r⟩
  unfold zO at hm
  refine aL (aD (cW g rfl) (aI (aJ ?_)))
  rcases aK hm with ⟨u,hm⟩|⟨u,hm⟩
  ·refine aQ u rfl (aW (aC (aJ (cD (aL (bI g ?_))))));obtain ⟨m,x,hm⟩:=aB hm
   refine aD (dD bJ rfl p rfl rfl g x) ?_;obtain ⟨b7,a4,a5⟩:=bL.el (sz:=1) rfl p x
   cases a5
   refine aD (bG (t:=0) dM r a4 rfl rfl) (aH (v:=i64 d) (aH (v:=i64 m) (aI (aU (bI q (aG (v:=i64 d) (aG (v:=i64 m) ?_)))))));obtain ⟨y,a7,hm⟩:=aB hm
   refine aP (vs:=[i64 m]) call199 rfl (aIb r a7) ?_
   rintro _ b8 ⟨rfl,z⟩
   obtain ⟨b9,o,hm⟩:=aB hm
   have a8:=bV z (i:=0) rfl o
   refine aD (cQ kN rfl a8 rfl rfl rfl o) ?_;obtain ⟨a9,J,hm⟩:=aB hm
   exact gP (i:=0) (t:=0) (ns:=[str y]) (e':=(y:aF)) sizeOf9 z rfl (zR _) rfl rfl rfl o J rfl rfl (gH rfl) rfl (fun cs h=>by cases h;rfl) (fun b0 (b1:aE G K (own 9 K b a.length a9::L) b0)=>(aZ (cL (aC (aU (aD (dA g rfl) (aG (v:=i64 (wr (d+1))) (aI ⟨_,(zI hm).symm,bK,(Eq.trans q (congrArg (fun n=>zS b n a.length) (fP J))),rfl,b1⟩))))))))
  ·exact aM
theorem aEW {a:aF} {b:(List Int)} {R:(aF × Bool)} (hm:aDi a b=some R) (e:aE G K (L) w) (g:G.lo=0) (h:bL K a1 c2 b):
  Calls prog 165 ([str a,zS a1 b.length c2]:List Value).toArray w (dQ fun v w'=>v=zT #[str R.1,zB R.2]/\aE G K (L) w'):=by
 refine aN func165 rfl (by kernel_rfl) (by show (2:Nat)<=37;decide) ?_;unfold aDi at hm
 refine aL (aH (v:=str ([]:aF)) (aH (v:=zB false) (aI (aJ (cD (aL (aG (v:=str a) (aD (R_eqlS rfl rfl) (aH (v:=zB (a == ([116,97,117]:aF))) (aI ?_))))))))))
 rcases aK hm with ⟨c,hm⟩|⟨c,hm⟩
 ·exact aM
 ·exact aT c rfl (aJ (bD [0,1] (fun f w=>∃ d,wJ a b d=some R/\f 12=zB d/\aE G K (L) w) aM aM))
theorem tU {a b:aF} {R:Bool} (hm:cZ a b=some R) (d:aE G K (L) w):
  Calls prog 185 ([str a,str b]:List Value).toArray w (dQ fun v w'=>v=zB R/\aE G K (L) w'):=by
 refine aN func185 rfl (by kernel_rfl) (by show (2:Nat)<=21;decide) ?_;unfold cZ at hm
 exact aL (aH (v:=zB false) (aI (aJ (bD [] (fun f w=>∃ c,dK c=some R/\f 4=zB c/\aE G K (L) w) aM aM))))
theorem tC {a b R:aF} (hm:iP a b=some R) (c:aE G K (L) w):
  Calls prog 181 ([str a,str b]:List Value).toArray w (dQ fun v w'=>v=str R/\aE G K (L) w'):=by
 exact aM
theorem aCd {a b R:aF} (hm:nR a b=some R) (c:aE G K (L) w):
  Calls prog 164 ([str a,str b]:List Value).toArray w (dQ fun v w'=>v=str R/\aE G K (L) w'):=by
 exact aM
theorem aHy {c:aF} {R:(aF × (List Int) × Bool)} (hm:sF c=some R) (k:aE G K (L) w) (l:G.lo=0):
  Calls prog 133 ([str c]:List Value).toArray w (dQ fun v w'=>∃ h i,v=zT #[str R.1,zS h R.2.1.length i,zB R.2.2]/\aE G K (own 2 K h i R.2.1::L) w'):=by
 refine aN func133 rfl (by kernel_rfl) (by show (1:Nat)<=43;decide) ?_;unfold sF at hm
 refine aL (aH (v:=str ([]:aF)) (aH (v:=zS none 0 0) (aH (v:=zB false) (aI (aL (aG (v:=str c) ?_))))));obtain ⟨a,m,hm⟩:=aB hm
 refine aP (vs:=[str c,str ([40]:aF)]) call161 rfl (lib_Cut k m) ?_
 rintro _ x ⟨rfl,y⟩
 refine aG (v:=zT #[str a.1,str a.2.1,zB a.2.2]) (aD (bW rfl rfl) (aD (bW rfl rfl) (aD (bW rfl rfl) (aH (v:=str a.1) (aH (v:=str a.2.1) (aH (v:=zB a.2.2) (aI (aL (aH (v:=zS none 0 0) (aI (jV [0,5] (fun f w=>∃ b d e,kO c a b=some R/\f 8=zS d b.length e/\aE G K (own 2 K d e b::L) w) ?_ ?_)))))))))))
 ·rintro f z ⟨b,d,e,hm,n,o⟩
  unfold kO at hm
  refine aJ (aL (aG (v:=str a.1) (bI n ?_)));obtain ⟨J,Z,p,q,r⟩:=aE.lendSp o (zR _) .head
  obtain ⟨g,t,hm⟩:=aB hm
  refine aP (vs:=[str a.1,zS d b.length e]) call165 rfl (aEW t q l p) ?_
  rintro _ a0 ⟨rfl,u⟩
  have a1:=r _ _ u
  exact aG (v:=zT #[str g.1,zB g.2]) (aD (bW rfl rfl) (aD (bW rfl rfl) (aH (v:=str g.1) (aH (v:=zB g.2) (aI (aJ (bD [5,8] (fun f w=>∃ j,mO a b j=some R/\f 40=zB j/\aE G K (own 2 K d e b::L) w) aM aM)))))))
 exact aM
theorem aJj {a:aF} {R:Bool} (hm:aAZ a=some R) (b:aE G K (L) w) (c:G.lo=0):
  Calls prog 93 ([str a]:List Value).toArray w (dQ fun v w'=>v=zB R/\aE G K (L) w'):=by
 exact aM
theorem aEX {a:(List UInt8)} {R:Bool} (hm:aHv a=some R) (b:aE G K (L) w) (c:bL K a1 c2 a):
  Calls prog 4 ([zS a1 a.length c2]:List Value).toArray w (dQ fun v w'=>v=zB R/\aE G K (L) w'):=by
 exact aM
theorem aEY {a:(List UInt8)} {R:(Int × Int)} (hm:aHw a=some R) (c:aE G K (L) w) (d:bL K a1 c2 a):
  Calls prog 15 ([zS a1 a.length c2]:List Value).toArray w (dQ fun v w'=>∃ b,v=Value.pointer (some ⟨b,0,none⟩)/\aE G K (box b 75 [zS a1 a.length c2,i64 R.1,Value.int .u64 R.2]::L) w'):=by
 exact aM
theorem aBO {a:(List aF)} {b:aF} {R:Int} (hm:aBa a b=some R) (e:aE G K (L) w) (g:bL K a1 c2 a):
  Calls prog 90 ([zS a1 a.length c2,str b]:List Value).toArray w (dQ fun v w'=>v=i64 R/\aE G K (L) w'):=by
 refine aN func90 rfl (by kernel_rfl) (by show (2:Nat)<=19;decide) ?_;unfold aBa at hm
 refine aL (aH (v:=i64 0) (aI (aJ (aL (aH (v:=i64 0) (aI (aR [] (fun f w=>aGR=some R/\aE G K (L) w) aM ?_)))))));obtain ⟨h,c,ho⟩:=aB hm
 exact dY [0,1] c (fun d f w=>f 5=i64 d/\aE G K (L) w) aM aM
theorem aEZ {g R:(List aF)} (hm:aDj g=some R) (hs:aE G K (L) w) (y:bL K a1 c2 g):
  Calls prog 89 ([zS a1 g.length c2]:List Value).toArray w (dQ fun v w'=>∃ b1 b2,v=zS b1 R.length b2/\aE G K (own 9 K b1 b2 R::L) w'):=by
 refine aN func89 rfl (by kernel_rfl) (by show (1:Nat)<=65;decide) ?_;unfold aDj at hm
 refine aL (aH (v:=zS none 0 0) (aI (aL (bM (Kt:=K) (xs:=([([116,97,117]:aF)]:List aF)) (cs:=[str ([116,97,117]:aF)]) (vs:=[(0,str ([116,97,117]:aF))]) kN aGK rfl rfl hs rfl (by kernel_rfl) rfl rfl rfl ⟨rfl,trivial⟩ (fun a4 w5 (f9:aE G K (own 9 K a4 1 ([([116,97,117]:aF)]:List aF)::L) w5)=>(aH (v:=zS a4 ([([116,97,117]:aF)]:List aF).length 1) (aI (aJ (aL (aH (v:=i64 0) (aI (aR [] (fun f w=>∃ z a8 c9,aGS z=some R/\f 3=zS a8 z.length c9/\aE G K (own 9 K a8 c9 z::L) w) aM ?_))))))))))))
 obtain ⟨g0,d5,ho⟩:=aB hm
 refine bX [0] d5 (fun c j f w=>∃ d e,f 3=zS d c.length e/\f 4=i64 j/\aE G K (own 9 K d e c::L) w) aM ?_
 ·rintro c j J f g1 hm hr ⟨d,e,b6,m,b7⟩
  unfold qB at hm
  refine aJ (aL (bI m (aG (v:=zS a1 g.length c2) (aD (bF (len:=g.length) kN rfl) (aD (cW rfl rfl) (aI ?_))))))
  rcases aK hm with ⟨b8,hm⟩|⟨b8,hm⟩
  ·refine aQ b8 rfl (aW (aC (aJ (aR [0,4] (fun f w=>∃ o p q,tJ j o=some J/\f 3=zS p o.length q/\aE G K (own 9 K p q o::L) w) ?_ ?_))))
   ·rintro f g2 ⟨o,p,q,hm,d6,d7⟩
    unfold tJ at hm
    exact aC (aU (bI m (aD (dA rfl rfl) (aH (v:=i64 (wr (j+1))) (aI ⟨_,(zI hm).symm,bK,p,q,d6,rfl,d7⟩)))))
   refine aJ (aL (bI b6 (aG (v:=zS a1 g.length c2) (bI m ?_))));obtain ⟨k,Z,hm⟩:=aB hm
   refine aD (dD kN rfl y rfl rfl rfl Z) ?_;obtain ⟨g3,b9,d8⟩:=bL.el (sz:=1) rfl y Z
   cases d8
   refine aD (bG (t:=0) sc_9 b7 b9 rfl rfl) ?_;obtain ⟨g4,g5,d9,e0,e1⟩:=aE.lendSp b7 (zR _) .head
   obtain ⟨g6,e2,hm⟩:=aB hm
   refine aP (vs:=[zS d c.length e,str k]) call90 rfl (aBO e2 e0 d9) ?_
   rintro _ g7 ⟨rfl,e3⟩
   have g8:=e1 _ _ e3
   refine aD (R_geq rfl rfl) (aI ?_)
   rcases aK hm with ⟨c0,hm⟩|⟨c0,hm⟩
   ·exact aM
   ·refine aT c0 rfl (aW (aC (aL (aH (v:=i64 1) (aI (aJ (aR [0,3,4] (fun f w=>∃ r,aAM c j k r=some J/\f 5=i64 r/\aE G K (own 9 K d e c::L) w) ?_ ?_)))))))
    ·rintro f g9 ⟨r,hm,c1,e4⟩
     unfold aAM at hm
     refine aC (aL (bI b6 (bM (Kt:=K) (xs:=([([]:aF)]:List aF)) (cs:=[str ([]:aF)]) (vs:=[(0,str ([]:aF))]) kN aGK rfl rfl e4 rfl (by kernel_rfl) rfl rfl rfl ⟨rfl,trivial⟩ (fun e5 e6 (e7:aE G K (own 9 K e5 1 ([([]:aF)]:List aF)::own 9 K d e c::L) e6)=>?_))));obtain ⟨l,e8,hm⟩:=aB hm
     refine hJ (i:=0) kN underlying25 aGK rfl rfl e7 rfl (zR _) (zR _) e8 rfl rfl rfl rfl (fun _ h=>h) (fun a b e9 (h0:aE G K (own 9 K a b l::L) e9)=>(aH (v:=zS a l.length b) (aI (aJ (aL (aG (v:=zS a l.length b) (aD (bF (len:=l.length) kN rfl) (aD (pT rfl rfl) (aH (v:=i64 (wr ((l.length:Int) - 1))) (aI (aR [0,4,5] (fun f w=>∃ u,aAL j k r u=some J/\f 3=zS a u.length b/\aE G K (own 9 K a b u::L) w) ?_ ?_)))))))))))
     ·rintro f h1 ⟨u,hm,c3,a0⟩
      unfold aAL at hm
      refine aC (aU (bI c3 (bI c1 (aG (v:=zS a1 g.length c2) (bI m (aD (dD kN rfl y rfl rfl rfl Z) (aD (bG (t:=0) sc_9 a0 b9 rfl rfl) ?_)))))));obtain ⟨h2,a2,hm⟩:=aB hm
      have f0:=bV a0 (i:=0) rfl a2
      refine aD (cQ kN rfl f0 rfl rfl rfl a2) ?_;obtain ⟨c4,c5,hm⟩:=aB hm
      exact gP (i:=0) (t:=0) (ns:=[str k]) (e':=(k:aF)) sizeOf9 a0 rfl (zR _) rfl rfl rfl a2 c5 rfl rfl (gH rfl) rfl (fun cs h=>by cases h;rfl) (fun f1 (f2:aE G K (own 9 K a b c4::L) f1)=>(aZ (cL (aC ⟨bK,c4,a,b,hm,(Eq.trans c3 (congrArg (fun n=>zS a n b) (fP c5))),f2⟩))))
     obtain ⟨h4,f3,ho⟩:=aB hm
     refine bX [0,4,5] f3 (fun a3 a5 f w=>f 3=zS a a3.length b/\f 6=i64 a5/\aE G K (own 9 K a b a3::L) w) aM ?_
     ·rintro a3 a5 h5 f h6 hm hr ⟨a6,x,a7⟩
      unfold wK at hm
      refine aJ (aL (bI x (bI c1 (aD (xU rfl rfl) (aI ?_)))))
      rcases aK hm with ⟨c6,hm⟩|⟨c6,hm⟩
      ·refine aQ c6 rfl (aW (aC (aJ (cD (aU (bI a6 (bI x (bI a6 (bI x (aD (pT rfl rfl) ?_))))))))));obtain ⟨c7,a9,hm⟩:=aB hm
       have c8:=bV a7 (i:=0) rfl a9
       refine aD (cQ kN rfl c8 rfl rfl rfl a9) (aD (nB (t:=0) sc_9 a7 (i:=0) rfl a9 rfl rfl rfl) ?_);obtain ⟨h7,d0,hm⟩:=aB hm
       refine aD (cQ kN rfl c8 rfl rfl rfl d0) ?_;obtain ⟨f4,d1,hm⟩:=aB hm
       exact gP (i:=0) (t:=0) (ns:=[str c7]) (e':=(c7:aF)) sizeOf9 a7 rfl (zR _) rfl rfl rfl d0 d1 rfl rfl (gH rfl) rfl (fun cs h=>by cases h;rfl) (fun f5 (f6:aE G K (own 9 K a b f4::L) f5)=>(aZ (cL (aC (aU (bI x (aD (pT rfl rfl) (aH (v:=i64 (wr (a5 - 1))) (aI ⟨_,(zI hm).symm,bK,(Eq.trans a6 (congrArg (fun n=>zS a n b) (fP d1))),rfl,f6⟩)))))))))
      ·exact aM
    obtain ⟨h8,f7,ho⟩:=aB hm
    refine dY [0,3,4] f7 (fun b0 f w=>f 5=i64 b0/\aE G K (own 9 K d e c::L) w) aM ?_
    ·rintro b0 f8 f h9 hm hr ⟨i0,i1⟩
     unfold tK at hm
     exact aJ (aJ (bD [0,3,4,5] (fun f w=>∃ d2,wL b0 d2=some f8/\f 35=zB d2/\aE G K (own 9 K d e c::L) w) aM aM))
  ·exact aM
theorem aBP {a:Edge} {c:Nat} {b:Edge} {d:Nat} {R:Bool} (hm:aDk a b=some R) (e:aE G K (L) w) (g:dU K a1 c [i64 a.F,i64 a.B,i64 a.To]) (h:dU K a4 d [i64 b.F,i64 b.B,i64 b.To]):
  Calls prog 42 ([cH a1 c,cH a4 d]:List Value).toArray w (dQ fun v w'=>v=zB R/\aE G K (L) w'):=by
 exact aM
theorem aKf {j:(List Edge)} {e:Edge} {R:(List Edge)} (hm:aEP j e=some R) (hs:aE G K (own 86 K a1 c2 j::L) w):
  Calls prog 91 ([zS a1 j.length c2,Value.agg #[i64 e.F,i64 e.B,i64 e.To]]:List Value).toArray w (dQ fun v w'=>∃ b4 b5,v=zS b4 R.length b5/\aE G K (own 86 K b4 b5 R::L) w'):=by
 let a:=[i64 e.F,i64 e.B,i64 e.To]
 let o:=own 86 K a1 c2 j
 refine aN func91 rfl (by kernel_rfl) (by show (2:Nat)<=57;decide) ?_;unfold aEP at hm
 refine aL (gO (v:=Value.agg #[i64 e.F,i64 e.B,i64 e.To]) (vs:=a) hs rfl rfl (fun k w4 g3=>(aH (v:=zS none 0 0) (aI (aL (aG (v:=zS a1 j.length c2) (aD (bF (len:=j.length) jK rfl) (aH (v:=i64 (j.length:Int)) (aI (aJ (aR [0,3] (fun f w=>∃ p,aCo j e p=some R/\f 5=i64 p/\aE G K (box k 86 a::o::L) w) ?_ ?_)))))))))))
 ·rintro f w8 ⟨p,hm,J,b⟩
  unfold aCo at hm
  refine aC (aJ (aJ (bD [0,3,5] (fun f w=>∃ a2,vW j e p a2=some R/\f 30=zB a2/\aE G K (box k 86 a::o::L) w) ?_ ?_)))
  ·rintro f g5 ⟨a2,hm,c8,c9⟩
   unfold vW at hm
   refine aC ?_
   rcases aK hm with ⟨b6,hm⟩|⟨b6,hm⟩
   ·exact aM
   ·refine aT b6 c8 (aW (aC (aL (aG (v:=zS a1 j.length c2) (aD (cN (vs:=[]) (cs:=[i64 0,i64 0,i64 0]) bs_86 rfl (by kernel_rfl)) (bM (Kt:=K) (xs:=([⟨0,0,0⟩]:List Edge)) (cs:=[i64 0,i64 0,i64 0]) (vs:=[(0,Value.agg #[i64 0,i64 0,i64 0])]) jK aEH rfl rfl c9 rfl (by kernel_rfl) rfl rfl rfl ⟨rfl,trivial⟩ (fun d0 d1 (d2:aE G K (own 86 K d0 1 ([⟨0,0,0⟩]:List Edge)::box k 86 a::o::L) d1)=>?_)))))));obtain ⟨u,d3,hm⟩:=aB hm
    refine hJ (i:=1) jK underlying26 aEH rfl rfl d2 rfl (zR _) (zR _) d3 rfl rfl rfl rfl (fun _ h=>h) (fun c d d4 (g6:aE G K (box k 86 a::own 86 K c d u::L) d4)=>(aH (v:=zS c u.length d) (aI (aJ (aL (aG (v:=zS c u.length d) (aD (bF (len:=u.length) jK rfl) (aD (pT rfl rfl) (aH (v:=i64 (wr ((u.length:Int) - 1))) (aI (aR [3,5] (fun f w=>∃ Z,aCn e p Z=some R/\f 0=zS c Z.length d/\aE G K (box k 86 a::own 86 K c d Z::L) w) ?_ ?_)))))))))))
    ·rintro f g7 ⟨Z,hm,b7,a3⟩
     unfold aCn at hm
     refine aC (aL (bI b7 (bI J (aD (pB (us:=a) aEG a3 (i:=0) rfl rfl rfl rfl) ?_))));obtain ⟨g8,a4,hm⟩:=aB hm
     have d5:=bV a3 (i:=1) rfl a4
     refine aD (cQ jK rfl d5 rfl rfl rfl a4) ?_;obtain ⟨a5,b8,hm⟩:=aB hm
     refine gP (i:=1) (t:=0) (ns:=a) (e':=(⟨e.F,e.B,e.To⟩:Edge)) sizeOf86 a3 rfl (zR _) rfl rfl rfl a4 b8 rfl rfl (gH rfl) rfl (fun cs h=>by cases h;rfl) (fun d6 (d7:aE G K (box k 86 a::own 86 K c d a5::L) d6)=>(aI (aL (bI (v:=zS c a5.length d) (Eq.trans b7 (congrArg (fun n=>zS c n d) (fP b8))) (aH (v:=zS c a5.length d) (aI ?_))))));obtain rfl:=zI hm
     exact pS (rT results91 rfl ⟨c,d,rfl,(aE.arr 1 [] d7 rfl)⟩)
    obtain ⟨g9,d9,ho⟩:=aB hm
    refine bX [3,5] d9 (fun a6 a7 f w=>f 0=zS c a6.length d/\f 6=i64 a7/\aE G K (box k 86 a::own 86 K c d a6::L) w) aM ?_
    ·rintro a6 a7 h0 f h1 hm hr ⟨a8,a0,a9⟩
     unfold zQ at hm
     refine aJ (aL (bI a0 (bI J (aD (xU rfl rfl) (aI ?_)))))
     rcases aK hm with ⟨b9,hm⟩|⟨b9,hm⟩
     ·refine aQ b9 rfl (aW (aC (aJ (cD (aU (bI a8 (bI a0 (bI a8 (bI a0 (aD (pT rfl rfl) ?_))))))))));obtain ⟨l,b0,hm⟩:=aB hm
      have c0:=bV a9 (i:=1) rfl b0
      refine aD (cQ jK rfl c0 rfl rfl rfl b0) (aD (aLe (t:=0) (vs:=[i64 l.F,i64 l.B,i64 l.To]) aEG a9 (i:=1) rfl b0 rfl rfl rfl rfl) ?_);obtain ⟨h2,c1,hm⟩:=aB hm
      refine aD (cQ jK rfl c0 rfl rfl rfl c1) ?_;obtain ⟨e0,c3,hm⟩:=aB hm
      exact gP (i:=1) (t:=0) (ns:=[i64 l.F,i64 l.B,i64 l.To]) (e':=(⟨l.F,l.B,l.To⟩:Edge)) sizeOf86 a9 rfl (zR _) rfl rfl rfl c1 c3 rfl rfl (gH rfl) rfl (fun cs h=>by cases h;rfl) (fun e1 (e2:aE G K (box k 86 a::own 86 K c d e0::L) e1)=>(aZ (cL (aC (aU (bI a0 (aD (pT rfl rfl) (aH (v:=i64 (wr (a7 - 1))) (aI ⟨_,(zI hm).symm,bK,(Eq.trans a8 (congrArg (fun n=>zS c n d) (fP c3))),rfl,e2⟩)))))))))
     ·exact aM
  refine tH (C:=fun w'=>aE G K (box k 86 a::o::L) w') Tryz_mixed (by kernel_rfl) (aE.mono b (eO.drew _)) (eK (fun _ b=>aY J) (eK (fun _ b=>xU rfl rfl) (eK (fun _ b=>aY (v:=zB (decide (0 < p))) rfl) ?_)))
  rcases aK hm with ⟨m,hm⟩|⟨m,hm⟩
  ·refine aGC (g:=22) rfl rfl m (eK (fun _ b=>aY (v:=zS a1 j.length c2) rfl) (aGC (g:=22) rfl rfl m (eK (fun _ b=>aY J) (aGC (g:=22) rfl rfl m (eK (fun _ b=>pT rfl rfl) (aGC (g:=22) rfl rfl m ?_))))));obtain ⟨q,b1,hm⟩:=aB hm
   have e3:=bV b (i:=1) rfl b1
   exact eK (fun _ b=>cQ jK rfl e3 rfl rfl rfl b1) (aGC (g:=22) rfl rfl m (eK (fun _ b=>aLe (t:=0) (vs:=[i64 q.F,i64 q.B,i64 q.To]) aEG b (i:=1) rfl b1 rfl rfl rfl rfl) (aGC (g:=22) rfl rfl m (eK (fun _ b=>pB (us:=a) aEG b (i:=0) rfl rfl rfl rfl) (aGC (g:=22) rfl rfl m (eK (fun _ b=>R_eqlG (eq_86 (x:=q) (y:=e)) rfl rfl) (eK (fun _ b=>cX (v:=zB (decide ((q:Edge)=e))) m rfl rfl) (aDJ (fun h3 e4=>(aC ⟨bK,decide ((q:Edge)=e),hm,rfl,e4⟩))))))))))
  ·exact aM
 obtain ⟨h4,e5,ho⟩:=aB hm
 refine dY [0,3] e5 (fun z f w=>f 5=i64 z/\aE G K (box k 86 a::o::L) w) aM ?_
 ·rintro z e6 f h5 hm hr ⟨c4,c5⟩
  unfold vX at hm
  refine aJ (aJ (bD [0,3,5] (fun f w=>∃ c6,zU z c6=some e6/\f 17=zB c6/\aE G K (box k 86 a::o::L) w) aM (aU (bI c4 (aD (xU rfl rfl) (aG (v:=zB (decide (0 < z))) ?_))))))
  rcases aK hm with ⟨r,hm⟩|⟨r,hm⟩
  ·refine cA r rfl rfl (aG (v:=zS a1 j.length c2) (cA r rfl rfl (bI c4 (cA r rfl rfl (aD (pT rfl rfl) (cA r rfl rfl ?_))))));obtain ⟨h6,b2,hm⟩:=aB hm
   have e8:=bV c5 (i:=1) rfl b2
   refine aD (cQ jK rfl e8 rfl rfl rfl b2) (cA r rfl rfl ?_);obtain ⟨h7,e9,f0,f1,f2⟩:=aE.lendBp c5 .head
   obtain ⟨h8,f3,f4,f5,f6⟩:=aE.lendSp f1 e9 .head
   obtain ⟨h9,f7,f8⟩:=bL.el (sz:=3) rfl f4 b2
   cases f8
   obtain ⟨i0,f9,hm⟩:=aB hm
   refine aP (vs:=[cH (some ⟨k,0,none⟩) 0,cH a1 ((wr (z - 1)).toNat * 3+0)]) call42 rfl (aBP f9 f5 (f0.mono f3) f7) ?_
   rintro _ i1 ⟨rfl,g0⟩
   have g1:=f6 _ _ g0
   have i2:=f2 _ _ g1
   exact aM
  ·exact aM
theorem aJk {d e:Int} {l:(List aF)} {edges:(List Edge)} {R:cR} (hm:aBb d e l edges=some R) (hs:aE G K (L) w) (u:bL K a1 c2 l) (z:bL K a4 c5 edges):
  Calls prog 45 ([i64 d,i64 e,zS a1 l.length c2,zS a4 edges.length c5]:List Value).toArray w (dQ fun v w'=>∃ J Z a0 a2,v=Value.agg (zCa R J Z a0 a2)/\aE G K (own 9 K J Z R.L::own 86 K a0 a2 R.E::L) w'):=by
 let h:=zG
 refine aN func45 rfl (by kernel_rfl) (by show (4:Nat)<=43;decide) ?_;unfold aBb at hm
 refine aL (cT (vs:=h) zeroValue28 hs rfl (fun m w8 b5=>(aI (aL (aG (v:=i64 d) (aG (v:=i64 e) (aG (v:=zS a1 l.length c2) ?_)))))));obtain ⟨a,b6,hm⟩:=aB hm
 refine aP (vs:=[zS a1 l.length c2]) call89 rfl (aEZ b6 b5 u) ?_
 rintro _ e9 ⟨b,c,rfl,b8⟩
 refine bM (Kt:=K) (xs:=([]:List Edge)) (cs:=[]) (vs:=[]) jK aEH rfl rfl b8 rfl (by kernel_rfl) rfl rfl rfl trivial (fun j b9 (c0:aE G K (own 86 K j 0 ([]:List Edge)::own 9 K b c a::box m 28 h::L) b9)=>(aD (cN (vs:=[(0,i64 d),(1,i64 e),(2,zS b a.length c),(3,zS j ([]:List Edge).length 0)]) (cs:=[i64 d,i64 e,zS b a.length c,zS j ([]:List Edge).length 0]) bs_28 rfl (by kernel_rfl)) (cT (vs:=h) zeroValue28 c0 rfl (fun q f0 c1=>(eW (i:=0) (ns:=[i64 d,i64 e,zS b a.length c,zS j ([]:List Edge).length 0]) (us:=[i64 d,i64 e,zS b a.length c,zS j ([]:List Edge).length 0]) sizeOf28 c1 rfl rfl rfl rfl rfl (gH rfl) rfl rfl (fun c3 (f1:aE G K (box q 28 [i64 d,i64 e,zS b a.length c,zS j ([]:List Edge).length 0]::own 86 K j 0 ([]:List Edge)::own 9 K b c a::box m 28 h::L) c3)=>(aI (aJ (aL (aH (v:=i64 0) (aI (aR [8,9] (fun f w=>∃ x a3 a5,aGT d e a x=some R/\aE G K (own 86 K a3 a5 x::box q 28 [i64 d,i64 e,zS b a.length c,zS a3 x.length a5]::own 9 K b c a::box m 28 h::L) w) aM ?_))))))))))))
 obtain ⟨f2,c4,ho⟩:=aB hm
 refine bX [2,3,8,9] c4 (fun n a6 f w=>∃ o p,f 10=i64 a6/\aE G K (box q 28 [i64 d,i64 e,zS b a.length c,zS o n.length p]::own 86 K o p n::own 9 K b c a::box m 28 h::L) w) aM ?_
 ·rintro n a6 f3 f f4 hm hr ⟨o,p,a7,a8⟩
  unfold tL at hm
  refine aJ (aL (bI a7 (aG (v:=zS a4 edges.length c5) (aD (bF (len:=edges.length) jK rfl) (aD (cW rfl rfl) (aI ?_))))))
  rcases aK hm with ⟨a9,hm⟩|⟨a9,hm⟩
  ·refine aQ a9 rfl (aW (aC (aJ (cD (aL (aG (v:=zS a4 edges.length c5) (bI a7 ?_)))))));obtain ⟨g,b0,hm⟩:=aB hm
   refine aD (dD jK rfl z rfl rfl rfl b0) ?_;obtain ⟨f5,c6,c7⟩:=bL.el (sz:=3) rfl z b0
   cases c7
   refine aD (lV (t:=0) (vs:=[i64 g.F,i64 g.B,i64 g.To]) aEG a8 c6 rfl rfl rfl) (cT (vs:=[i64 0,i64 0,i64 0]) zeroValue86 a8 rfl (fun c8 f6 c9=>(eW (i:=0) (ns:=[i64 g.F,i64 g.B,i64 g.To]) (us:=[i64 g.F,i64 g.B,i64 g.To]) sizeOf86 c9 rfl rfl rfl rfl rfl (gH rfl) rfl rfl (fun d0 (d1:aE G K (box c8 86 [i64 g.F,i64 g.B,i64 g.To]::box q 28 [i64 d,i64 e,zS b a.length c,zS o n.length p]::own 86 K o p n::own 9 K b c a::box m 28 h::L) d0)=>(aI (aJ ?_))))))
   obtain ⟨f7,y,d2,d3,d4⟩:=aE.lendBp d1 .head
   obtain ⟨d5,r,d6,b1,d7⟩:=aE.lendBp d3 .head
   refine cM (C:=fun w'=>∃ L',aE G d5 L' w') [(0,0),(1,0),(2,0),(3,0),(4,0),(5,0),(6,0),(7,1),(8,0),(9,2)] Tryz_mixed (by kernel_rfl) (fun _ hg=>⟨_,aE.mono b1 hg⟩) (fun f8 d8=>?_)
   have k:=aE.mono b1 d8
   refine aX rfl (fun _ _=>bU (t':=2) aCk rfl rfl) (aX rfl (fun _ ⟨_,k⟩=>bG (t:=2) aIY k d6 rfl rfl) (aX rfl (fun _ _=>aY (v:=zS a1 l.length c2) rfl) (aX rfl (fun _ _=>bU (t':=1) aDN rfl rfl) (aX rfl (fun _ ⟨_,k⟩=>bG (t:=1) dM k (d2.mono r) rfl rfl) ?_))));obtain ⟨d9,b2,hm⟩:=aB hm
   refine aX rfl (fun _ _=>dD kN rfl (u.mono (Hp.le_trans y r)) rfl rfl rfl b2) ?_;obtain ⟨f9,e0,e1⟩:=bL.el (sz:=1) rfl u b2
   cases e1
   refine aX rfl (fun _ ⟨_,k⟩=>bG (t:=0) sc_9 k (e0.mono (Hp.le_trans y r)) rfl rfl) (gK rfl ?_);obtain ⟨g0,g1,e2,e3,e4⟩:=aE.lendSp k (Hp.le_trans y r) zt1
   obtain ⟨g2,e5,hm⟩:=aB hm
   refine aP (vs:=[zS b a.length c,str d9]) call90 rfl (aBO e5 e3 e2) ?_
   rintro _ g3 ⟨rfl,e6⟩
   have b3:=e4 _ _ e6
   refine aZ (aC ⟨⟨_,b3⟩,?_⟩)
   refine aX rfl (fun _ _=>bU (t':=1) aDN rfl rfl) ?_
   have e7:=d7 _ _ b3
   have g4:=d4 _ _ e7
   exact aM
  ·exact aM
theorem aFY {t:cR} {a:Nat} {R:cR} (hm:aEQ t=some R) (h:aE G K (L) w) (j:dU K a1 a (zC t a4 c5 a7 c8)) (k:bL K a4 c5 t.L) (l:bL K a7 c8 t.E):
  Calls prog 128 ([cH a1 a]:List Value).toArray w (dQ fun v w'=>∃ b c d e,v=Value.agg (zCa R b c d e)/\aE G K (own 9 K b c R.L::own 86 K d e R.E::L) w'):=by
 refine aN func128 rfl (by kernel_rfl) (by show (1:Nat)<=28;decide) ?_;unfold aEQ at hm
 refine aL (cT (vs:=zG) zeroValue28 h rfl (fun m n g=>(aI (aJ (cM (C:=fun w'=>∃ L',aE G K L' w') [(0,0),(1,0),(2,0),(3,0),(4,0),(5,0),(6,0),(7,0),(8,0),(9,1),(10,2)] Tryz_mixed (by kernel_rfl) (fun _ hg=>⟨_,aE.mono g hg⟩) (fun o i=>?_))))))
 have p:=aE.mono g i
 exact aM
theorem uV {a R:(List Int)} (hm:aER a=some R) (d:aE G K (L) w) (e:bL K a1 c2 a):
  Calls prog 156 ([zS a1 a.length c2]:List Value).toArray w (dQ fun v w'=>∃ b c,v=zS b R.length c/\aE G K (own 2 K b c R::L) w'):=by
 exact aM
theorem aLv {n low a:Int} {R:Bool} (hm:uY n low a=some R) (c:aE G K (L) w):
  Calls prog 39 ([i64 n,i64 low,i64 a]:List Value).toArray w (dQ fun v w'=>v=zB R/\aE G K (L) w'):=by
 refine aN func39 rfl (by kernel_rfl) (by show (3:Nat)<=15;decide) ?_;unfold uY at hm
 exact aL (aH (v:=zB false) (aI (aJ (bD [] (fun f w=>∃ b,aGj b=some R/\f 6=zB b/\aE G K (L) w) aM aM))))
theorem aEo {a R:Int} (hm:yF a=some R) (g:aE G K (L) w):
  Calls prog 85 ([i64 a]:List Value).toArray w (dQ fun v w'=>v=i64 R/\aE G K (L) w'):=by
 refine aN func85 rfl (by kernel_rfl) (by show (1:Nat)<=11;decide) ?_;unfold yF at hm
 refine aL (aH (v:=i64 0) (aI (aJ (aL (aG (v:=i64 a) (aI (cD (jV [3] (fun f w=>∃ b,rF a b=some R/\f 4=zB b/\aE G K (L) w) ?_ ?_))))))))
 ·rintro f h ⟨b,hm,e,i⟩
  unfold rF at hm
  rcases aK hm with ⟨c,hm⟩|⟨c,hm⟩
  ·exact aM
  ·exact aT c e (jV [] (fun f w=>∃ d,yS d=some R/\f 8=zB d/\aE G K (L) w) aM aM)
 exact aM
theorem aIp {c:UInt8} {R:Bool} (hm:aBs c=some R) (b:aE G K (L) w):
  Calls prog 176 ([Value.int .u8 (c.toNat:Int)]:List Value).toArray w (dQ fun v w'=>v=zB R/\aE G K (L) w'):=by
 refine aN func176 rfl (by kernel_rfl) (by show (1:Nat)<=9;decide) ?_;unfold aBs at hm
 exact aL (aH (v:=zB false) (aI (aJ (bD [] (fun f w=>∃ a,aCO a=some R/\f 2=zB a/\aE G K (L) w) aM aM))))
theorem aEp {c:UInt8} {R:Bool} (hm:aBt c=some R) (b:aE G K (L) w):
  Calls prog 177 ([Value.int .u8 (c.toNat:Int)]:List Value).toArray w (dQ fun v w'=>v=zB R/\aE G K (L) w'):=by
 refine aN func177 rfl (by kernel_rfl) (by show (1:Nat)<=9;decide) ?_;unfold aBt at hm
 exact aL (aH (v:=zB false) (aI (aJ (bD [] (fun f w=>∃ a,aCP a=some R/\f 2=zB a/\aE G K (L) w) aM aM))))
theorem aJl {a:aF} {R:Bool} (hm:aBc a=some R) (l:aE G K (L) w):
  Calls prog 157 ([str a]:List Value).toArray w (dQ fun v w'=>v=zB R/\aE G K (L) w'):=by
 refine aN func157 rfl (by kernel_rfl) (by show (1:Nat)<=35;decide) ?_;unfold aBc at hm
 refine aL (aH (v:=zB false) (aI (aJ (aJ (bD [0] (fun f w=>∃ b,qC a b=some R/\f 16=zB b/\aE G K (L) w) ?_ ?_)))))
 ·rintro f m ⟨b,hm,h,n⟩
  unfold qC at hm
  refine aC ?_
  rcases aK hm with ⟨d,hm⟩|⟨d,hm⟩
  ·exact aM
  ·refine aT d h (aW (aC (aJ (aL (aH (v:=i64 0) (aI (aR [] (fun f w=>aDQ=some R/\aE G K (L) w) aM ?_)))))));obtain ⟨o,i,ho⟩:=aB hm
   refine dY [0] i (fun c f w=>f 3=i64 c/\aE G K (L) w) aM ?_
   ·rintro c j f p hm hr ⟨k,q⟩
    unfold wM at hm
    refine aJ (aL (bI k (aG (v:=str a) (aD (aBl runUnderlying9 rfl) (aD (cW rfl rfl) (aI ?_))))))
    rcases aK hm with ⟨e,hm⟩|⟨e,hm⟩
    ·exact aQ e rfl (aW (aC (aJ (cD (aJ (bD [0,3] (fun f w=>∃ g,aAN c g=some j/\f 34=zB g/\aE G K (L) w) aM aM))))))
    ·exact aM
 exact aM
theorem aHz {a:aF} {R:Bool} (hm:vY a=some R) (c:aE G K (L) w):
  Calls prog 131 ([str a]:List Value).toArray w (dQ fun v w'=>v=zB R/\aE G K (L) w'):=by
 refine aN func131 rfl (by kernel_rfl) (by show (1:Nat)<=9;decide) ?_;unfold vY at hm
 exact aL (aH (v:=zB false) (aI (aJ (bD [] (fun f w=>∃ b,wN b=some R/\f 2=zB b/\aE G K (L) w) aM aM))))
theorem aFa {a:aF} {R:Int} (hm:aBd a=some R) (d:aE G K (L) w):
  Calls prog 158 ([str a]:List Value).toArray w (dQ fun v w'=>v=i64 R/\aE G K (L) w'):=by
 refine aN func158 rfl (by kernel_rfl) (by show (1:Nat)<=17;decide) ?_;unfold aBd at hm
 refine aL (aH (v:=i64 0) (aI (aJ (aL (aH (v:=i64 0) (aI (aR [0] (fun f w=>aGU a=some R/\aE G K (L) w) aM ?_)))))));obtain ⟨e,b,ho⟩:=aB hm
 exact dY [0] b (fun c f w=>f 3=i64 c/\aE G K (L) w) aM aM
theorem aEq {a:aF} {by_:UInt8} {R:(List aF)} (hm:aBu a by_=some R) (x:aE G K (L) w):
  Calls prog 159 ([str a,Value.int .u8 (by_.toNat:Int)]:List Value).toArray w (dQ fun v w'=>∃ l m,v=zS l R.length m/\aE G K (own 9 K l m R::L) w'):=by
 refine aN func159 rfl (by kernel_rfl) (by show (2:Nat)<=35;decide) ?_;unfold aBu at hm
 refine aL (aH (v:=zS none 0 0) (aI (aL (bM (Kt:=K) (xs:=([]:List aF)) (cs:=[]) (vs:=[]) kN aGK rfl rfl x rfl (by kernel_rfl) rfl rfl rfl trivial (fun n y (a3:aE G K (own 9 K n 0 ([]:List aF)::L) y)=>(aH (v:=zS n ([]:List aF).length 0) (aI (aL (aH (v:=i64 0) (aI (aJ (aL (aH (v:=i64 0) (aI (aR [0] (fun f w=>∃ g o p q,aCQ a g o=some R/\f 5=zS p g.length q/\f 6=i64 o/\aE G K (own 9 K p q g::L) w) aM ?_)))))))))))))))
 obtain ⟨a4,z,ho⟩:=aB hm
 refine qT [0,1] z (fun h r b f w=>∃ i j,f 5=zS i h.length j/\f 6=i64 r/\f 7=i64 b/\aE G K (own 9 K i j h::L) w) aM ?_
 ·rintro h r b J f a6 hm hr ⟨i,j,a7,a8,t,a9⟩
  unfold yT at hm
  refine aJ (aL (bI t (aG (v:=str a) (aD (aBl runUnderlying9 rfl) (aD (cW rfl rfl) (aI ?_))))))
  rcases aK hm with ⟨u,hm⟩|⟨u,hm⟩
  ·refine aQ u rfl (aW (aC (aJ (aR [0,1,7] (fun f w=>∃ c k d e,rG b c k=some J/\f 5=zS d c.length e/\f 6=i64 k/\aE G K (own 9 K d e c::L) w) ?_ ?_))))
   ·rintro f b0 ⟨c,k,d,e,hm,Z,a0,a2⟩
    unfold rG at hm
    exact aC (aU (bI t (aD (dA rfl rfl) (aH (v:=i64 (wr (b+1))) (aI ⟨_,(zI hm).symm,bK,d,e,Z,a0,rfl,a2⟩)))))
   exact aM
  ·exact aM
end Gv
namespace Gv
open Gv.Hp renaming le_refl→zR
open Go.Value renaming slice→zS,bool→zB,pointer→zP
open Go Go.Proofs Go.Proofs.Tryz
set_option maxRecDepth 20000
set_option maxHeartbeats 40000000
variable {G:rY} {K:Hp} {L:List fD} {w:World} {a1 a4 a7 a2:Option Addr} {c2 c5 c8 b1 c3:Nat}
theorem aDv {c:aF} {R:(Int × Bool)} (hm:vZ c=some R) (z:aE G K (L) w):
  Calls prog 160 ([str c]:List Value).toArray w (dQ fun v w'=>v=Value.tuple #[i64 R.1,zB R.2]/\aE G K (L) w'):=by
 refine aN func160 rfl (by kernel_rfl) (by show (1:Nat)<=62;decide) ?_;unfold vZ at hm
 refine aL (aH (v:=i64 0) (aH (v:=zB false) (aI (aL (aH (v:=i64 0) (aI (jV [0] (fun f w=>∃ d,pE c d=some R/\f 4=i64 d/\aE G K (L) w) ?_ ?_)))))))
 ·rintro f J ⟨d,hm,p,Z⟩
  unfold pE at hm
  refine aJ (aJ (bD [0,4] (fun f w=>∃ g,kP c d g=some R/\f 36=zB g/\aE G K (L) w) ?_ ?_))
  ·rintro f w7 ⟨g,hm,q,a1⟩
   unfold kP at hm
   refine aC ?_
   rcases aK hm with ⟨j,hm⟩|⟨j,hm⟩
   ·exact aM
   ·refine aT j q (aW (aC (aL (aH (v:=i64 0) (aI (aJ (aL (bI p (aH (v:=i64 d) (aI (aR [4] (fun f w=>∃ h,wO d h=some R/\f 5=i64 h/\aE G K (L) w) ?_ ?_)))))))))))
    ·rintro f a2 ⟨h,hm,a3,a4⟩
     unfold wO at hm
     exact aC (jV [] (fun f w=>∃ k,aBv k=some R/\f 5=i64 k/\aE G K (L) w) aM aM)
    obtain ⟨a5,r,ho⟩:=aB hm
    refine bX [0,4] r (fun i i32 f w=>f 5=i64 i/\f 6=i64 i32/\aE G K (L) w) aM ?_
    ·rintro i i32 a6 f a7 hm hr ⟨t,e,u⟩
     unfold pD at hm
     refine aJ (aL (bI e (aG (v:=str c) (aD (aBl runUnderlying9 rfl) (aD (cW rfl rfl) (aI ?_))))))
     rcases aK hm with ⟨l,hm⟩|⟨l,hm⟩
     ·refine aQ l rfl (aW (aC (aJ (cD (aJ (aL (aG (v:=str c) (bI e ?_))))))));obtain ⟨c45,m,hm⟩:=aB hm
      refine aD (R_ixS runUnderlying9 rfl rfl m) ?_;obtain ⟨a8,x,hm⟩:=aB hm
      refine aP (vs:=[Value.int .u8 (c45.toNat:Int)]) call177 rfl (aEp x u) ?_
      rintro _ a9 ⟨rfl,y⟩
      refine aD (tZ rfl) (aI ?_)
      rcases aK hm with ⟨n,hm⟩|⟨n,hm⟩
      ·exact aM
      ·exact aT n rfl (aW (aC (aU (bI t (aD (aFR rfl rfl) (aG (v:=str c) (bI e (aD (R_ixS runUnderlying9 rfl rfl m) (aD (aMe (a:=c45) (b:=(48:UInt8)) rfl rfl) (aD (aIO runUnderlying2 rfl ⟨_,runUnderlying5⟩) (aD (dA rfl rfl) (aH (v:=i64 (wr ((wr (10 * i))+(wr ((c45 - (48:UInt8)).toNat:Int))))) (aZ (cL (aC (aU (bI e (aD (dA rfl rfl) (aH (v:=i64 (wr (i32+1))) (aI ⟨_,(Option.some.inj hm).symm,bK,rfl,rfl,y⟩))))))))))))))))))))
     ·exact aM
  exact aM
 exact aJ (bD [0,4] (fun f w=>∃ o,sG c o=some R/\f 14=zB o/\aE G K (L) w) aM aM)
theorem aHA {a:aF} {R:((List Int) × Bool)} (hm:aCp a=some R) (hs:aE G K (L) w):
  Calls prog 132 ([str a]:List Value).toArray w (dQ fun v w'=>∃ q r,v=Value.tuple #[zS q R.1.length r,zB R.2]/\aE G K (own 2 K q r R.1::L) w'):=by
 refine aN func132 rfl (by kernel_rfl) (by show (1:Nat)<=70;decide) ?_;unfold aCp at hm
 refine aL (aH (v:=zS none 0 0) (aH (v:=zB false) (aI (aL (aG (v:=str a) ?_)))));obtain ⟨h,q2,hm⟩:=aB hm
 refine aP (vs:=[str a]) call158 rfl (aFa q2 hs) ?_
 rintro _ w3 ⟨rfl,b7⟩
 refine aH (v:=i64 h) (aI (aJ (aL (aG (v:=i64 h) (aG (v:=str a) (aD (aBl runUnderlying9 rfl) (aD (lX rfl rfl) (aI ?_))))))))
 rcases aK hm with ⟨u,hm⟩|⟨u,hm⟩
 ·exact aM
 ·refine aT u rfl (aW (aC (aJ (aJ (bD [0,4] (fun f w=>∃ l,pF a h l=some R/\f 31=zB l/\aE G K (L) w) ?_ ?_)))))
  ·rintro f b8 ⟨l,hm,a4,a5⟩
   unfold pF at hm
   refine aC ?_
   rcases aK hm with ⟨x,hm⟩|⟨x,hm⟩
   ·exact aM
   ·refine aT x a4 (aW (aC (aL (aG (v:=str a) (aG (v:=i64 h) (aD (dA rfl rfl) (aG (v:=str a) (aD (aBl runUnderlying9 rfl) (aD (pT rfl rfl) ?_)))))))));obtain ⟨a6,a7,hm⟩:=aB hm
    refine aD (R_slSLH runUnderlying9 rfl rfl rfl a7) ?_;obtain ⟨b,a8,hm⟩:=aB hm
    refine aP (vs:=[str a6,Value.int .u8 44]) call159 rfl (aEq (by_:=(44:UInt8)) a8 a5) ?_
    rintro _ b9 ⟨c,d,rfl,a9⟩
    refine aH (v:=zS c b.length d) (aI (aL (bM (Kt:=K) (xs:=([]:List Int)) (cs:=[]) (vs:=[]) bJ lN rfl rfl a9 rfl (by kernel_rfl) rfl rfl rfl trivial (fun y b0 (c0:aE G K (own 2 K y 0 ([]:List Int)::own 9 K c d b::L) b0)=>(aH (v:=zS y ([]:List Int).length 0) (aI (aJ (aL (aH (v:=i64 0) (aI (aR [] (fun f w=>∃ m z J,aBw m=some R/\f 6=zS z m.length J/\aE G K (own 2 K z J m::L) w) aM ?_)))))))))));obtain ⟨c1,b1,ho⟩:=aB hm
    refine bX [5] b1 (fun e n f w=>∃ j k,f 6=zS j e.length k/\f 7=i64 n/\aE G K (own 2 K j k e::own 9 K c d b::L) w) aM ?_
    ·rintro e n b2 f c2 hm hr ⟨j,k,c3,Z,o⟩
     unfold sH at hm
     refine aJ (aL (bI Z (aG (v:=zS c b.length d) (aD (bF (len:=b.length) kN rfl) (aD (cW rfl rfl) (aI ?_))))))
     rcases aK hm with ⟨a0,hm⟩|⟨a0,hm⟩
     ·refine aQ a0 rfl (aW (aC (aJ (cD (aL (aG (v:=zS c b.length d) (bI Z ?_)))))));obtain ⟨b3,p,hm⟩:=aB hm
      have b4:=bV o (i:=1) rfl p
      refine aD (cQ kN rfl b4 rfl rfl rfl p) (aD (nB (t:=0) sc_9 o (i:=1) rfl p rfl rfl rfl) ?_);obtain ⟨g,b5,hm⟩:=aB hm
      refine aP (vs:=[str b3]) call160 rfl (aDv b5 o) ?_
      rintro _ c4 ⟨rfl,c6⟩
      exact aG (v:=Value.tuple #[i64 g.1,zB g.2]) (aD (bW rfl rfl) (aD (bW rfl rfl) (aH (v:=i64 g.1) (aH (v:=zB g.2) (aI (aJ (aJ (bD [5,6,7,8] (fun f w=>∃ a1,wP e n g a1=some b2/\f 61=zB a1/\aE G K (own 2 K j k e::own 9 K c d b::L) w) aM aM))))))))
     ·exact aM
  exact aM
theorem aIq {a:aF} {R:Bool} (hm:aBx a=some R) (b:aE G K (L) w):
  Calls prog 88 ([str a]:List Value).toArray w (dQ fun v w'=>v=zB R/\aE G K (L) w'):=by
 exact aM
theorem aCA {a:aF} {R:Bool} (hm:qD a=some R) (g:aE G K (L) w):
  Calls prog 86 ([str a]:List Value).toArray w (dQ fun v w'=>v=zB R/\aE G K (L) w'):=by
 refine aN func86 rfl (by kernel_rfl) (by show (1:Nat)<=23;decide) ?_;unfold qD at hm
 refine aL (aH (v:=zB false) (aI (aJ (aJ (bD [0] (fun f w=>∃ b,qV a b=some R/\f 8=zB b/\aE G K (L) w) ?_ ?_)))))
 ·rintro f h ⟨b,hm,e,i⟩
  unfold qV at hm
  refine aC ?_
  rcases aK hm with ⟨c,hm⟩|⟨c,hm⟩
  ·exact aM
  ·exact aT c e (aW (aC (aJ (bD [] (fun f w=>∃ d,uZ d=some R/\f 2=zB d/\aE G K (L) w) aM aM))))
 exact aM
theorem aEr {c:(List aO)} {z p:Int} {R:Bool} (hm:yG c z p=some R) (hs:aE G K (L) w) (m:bL K a1 c2 c):
  Calls prog 37 ([zS a1 c.length c2,i64 z,i64 p]:List Value).toArray w (dQ fun v w'=>v=zB R/\aE G K (L) w'):=by
 refine aN func37 rfl (by kernel_rfl) (by show (3:Nat)<=91;decide) ?_;unfold yG at hm
 refine aL (aH (v:=zB false) (aI (aJ (aJ (bD [0,2] (fun f w=>∃ q,uL c p q=some R/\f 18=zB q/\aE G K (L) w) ?_ ?_)))))
 ·rintro f w6 ⟨q,hm,e5,b6⟩
  unfold uL at hm
  refine aC ?_
  rcases aK hm with ⟨J,hm⟩|⟨J,hm⟩
  ·exact aM
  ·refine aT J e5 (aW (aC (aL (aH (v:=i64 1) (aI (aJ (aL (aH (v:=i64 0) (aI (aR [] (fun f w=>∃ Z,aCR Z=some R/\f 7=i64 Z/\aE G K (L) w) aM ?_))))))))));obtain ⟨b7,a7,ho⟩:=aB hm
   refine bX [0,2] a7 (fun i d f w=>f 7=i64 i/\f 8=i64 d/\aE G K (L) w) aM ?_
   ·rintro i d r f b8 hm hr ⟨a8,n,b9⟩
    unfold cY at hm
    refine aJ (aL (bI n (aG (v:=zS a1 c.length c2) (aD (bF (len:=c.length) fQ rfl) (aD (cW rfl rfl) (aI ?_))))))
    rcases aK hm with ⟨a0,hm⟩|⟨a0,hm⟩
    ·refine aQ a0 rfl (aW (aC (aJ (cD (aJ (aJ (bD [0,2,7,8] (fun f w=>∃ u,rH c i d u=some r/\f 36=zB u/\aE G K (L) w) ?_ ?_)))))))
     ·rintro f c0 ⟨u,hm,a9,a2⟩
      unfold rH at hm
      refine aC ?_
      rcases aK hm with ⟨a3,hm⟩|⟨a3,hm⟩
      ·exact aM
      ·refine aT a3 a9 (aW (aC (aL (bI a8 (aG (v:=zS a1 c.length c2) (bI n ?_))))));obtain ⟨e,o,hm⟩:=aB hm
       refine aD (dD fQ rfl m rfl rfl rfl o) ?_;obtain ⟨c1,h,b0⟩:=bL.el (sz:=4) rfl m o
       cases b0
       refine aD (dV (k':=d.toNat * 4+0) uX rfl h rfl) (aD (bG (t:=0) dM a2 h rfl rfl) ?_);obtain ⟨x,b1,hm⟩:=aB hm
       refine aP (vs:=[i64 e.Kind]) call85 rfl (aEo b1 a2) ?_
       rintro _ c3 ⟨rfl,c4⟩
       refine aD (pT rfl rfl) (aD (dA rfl rfl) (aH (v:=i64 (wr (i+(wr (x - 1))))) (aI (aJ (bD [0,2,7,8] (fun f w=>∃ j,iR i d e x j=some r/\f 9=zB j/\aE G K (L) w) ?_ ?_)))))
       ·rintro f c5 ⟨j,hm,y,k⟩
        unfold iR at hm
        refine aC (aJ (bD [0,2,7,8] (fun f w=>∃ a4,kH i d x a4=some r/\f 88=zB a4/\aE G K (L) w) aM (aU (bI y (aG (v:=zB j) ?_)))))
        rcases aK hm with ⟨a,hm⟩|⟨a,hm⟩
        ·refine cA a rfl rfl (aG (v:=zS a1 c.length c2) (cA a rfl rfl (bI n (cA a rfl rfl (aD (dD fQ rfl m rfl rfl rfl o) (cA a rfl rfl (aD (dV (k':=d.toNat * 4+2) aGM rfl h rfl) (cA a rfl rfl (aD (bG (t:=2) sc_9 k h rfl rfl) (cA a rfl rfl ?_))))))))));obtain ⟨a5,b2,hm⟩:=aB hm
         refine aP (vs:=[str e.B]) call86 rfl (aCA b2 k) ?_
         rintro _ c6 ⟨rfl,b3⟩
         refine cA a rfl rfl (aD (tZ rfl) (aD (cX (v:=zB (!a5)) a rfl rfl) (aG (v:=zB (!a5)) ?_)))
         rcases aK hm with ⟨l,hm⟩|⟨l,hm⟩
         ·exact aM
         ·exact bS l rfl rfl (bI y (bS l rfl rfl (aD (tZ rfl) (bS l rfl rfl (aG (v:=zB (!j)) (cE (nM a) rfl rfl (cE (nM a) rfl rfl (cE (nM a) rfl rfl (cE (nM a) rfl rfl (cE (nM a) rfl rfl (cE (nM a) rfl rfl (cE (nM a) rfl rfl (uG (g:=80) rfl rfl (uG (g:=80) rfl rfl (uG (g:=80) rfl rfl (uG (g:=80) rfl rfl (uG (g:=80) rfl rfl (cE (nM a) rfl rfl (bS l rfl rfl (aD (eD (v:=zB false) (nM a) rfl rfl) (aD (eD (v:=zB false) l rfl rfl) (aI ⟨bK,false,hm,rfl,b3⟩))))))))))))))))))))))
        ·refine cE a rfl rfl (cE a rfl rfl (cE a rfl rfl (cE a rfl rfl (cE a rfl rfl (cE a rfl rfl (cE a rfl rfl (aD (eD (v:=zB false) a rfl rfl) (aG (v:=zB false) (bS (by decide:¬ false=true) rfl rfl (bI y (bS (by decide:¬ false=true) rfl rfl (aD (tZ rfl) (bS (by decide:¬ false=true) rfl rfl (aG (v:=zB (!j)) (cA (jG a) rfl rfl (aG (v:=zS a1 c.length c2) (cA (jG a) rfl rfl (bI n (cA (jG a) rfl rfl (aD (dD fQ rfl m rfl rfl rfl o) (cA (jG a) rfl rfl (aD (dV (k':=d.toNat * 4+2) aGM rfl h rfl) (cA (jG a) rfl rfl ?_)))))))))))))))))))))))
         refine aD (bG (t:=2) sc_9 k h rfl rfl) (cA (jG a) rfl rfl (aD (R_neqS rfl rfl) (cA (jG a) rfl rfl (aG (v:=zB (!(e.B == ([]:aF)))) ?_))))
         rcases aK hm with ⟨b,hm⟩|⟨b,hm⟩
         ·exact bA b rfl rfl (bA b rfl rfl (bA b rfl rfl (bA b rfl rfl (bA b rfl rfl (cA (jG a) rfl rfl (aD (cX (v:=zB true) b rfl rfl) (bS (by decide:¬ false=true) rfl rfl (aD (cX (v:=zB true) (jG a) rfl rfl) (aD (eD (v:=zB true) (by decide:¬ false=true) rfl rfl) (aI ⟨bK,true,hm,rfl,k⟩))))))))))
         ·exact bS b rfl rfl (aG (v:=zS a1 c.length c2) (bS b rfl rfl (bI n (bS b rfl rfl (aD (dD fQ rfl m rfl rfl rfl o) (bS b rfl rfl (aD (dV (k':=d.toNat * 4+3) aIB rfl h rfl) (bS b rfl rfl (aD (bG (t:=3) aCc k h rfl rfl) (cA (jG a) rfl rfl (aD (eD (v:=zB e.Not) b rfl rfl) (bS (by decide:¬ false=true) rfl rfl (aD (cX (v:=zB e.Not) (jG a) rfl rfl) (aD (eD (v:=zB e.Not) (by decide:¬ false=true) rfl rfl) (aI ⟨bK,e.Not,hm,rfl,k⟩)))))))))))))))
       exact aM
     exact aM
    ·exact aM
 exact aM
theorem aIr {n:aO} {a:Nat} {R:Bool} (hm:vF n=some R) (c:aE G K (L) w) (d:dU K a1 a [i64 n.Kind,i64 n.Variable,str n.B,zB n.Not]):
  Calls prog 38 ([cH a1 a]:List Value).toArray w (dQ fun v w'=>v=zB R/\aE G K (L) w'):=by
 refine aN func38 rfl (by kernel_rfl) (by show (1:Nat)<=15;decide) ?_;unfold vF at hm
 exact aL (aH (v:=zB false) (aI (aJ (bD [] (fun f w=>∃ b,yU b=some R/\f 2=zB b/\aE G K (L) w) aM aM))))
theorem aKg {a:(List aO)} {k R:Int} (hm:sI a k=some R) (g:aE G K (L) w) (h:bL K a1 c2 a):
  Calls prog 87 ([zS a1 a.length c2,i64 k]:List Value).toArray w (dQ fun v w'=>v=i64 R/\aE G K (L) w'):=by
 refine aN func87 rfl (by kernel_rfl) (by show (2:Nat)<=20;decide) ?_;unfold sI at hm
 refine aL (aH (v:=i64 0) (aI (aL (aH (v:=i64 1) (aI (aJ (aR [] (fun f w=>∃ b,aES b=some R/\f 1=i64 b/\aE G K (L) w) aM ?_)))))));obtain ⟨i,c,ho⟩:=aB hm
 exact bX [0] c (fun d e f w=>f 1=i64 d/\f 5=i64 e/\aE G K (L) w) aM aM
theorem aHB {a:(List aO)} {k R:Int} (hm:dS a k=some R) (i:aE G K (L) w) (j:bL K a1 c2 a):
  Calls prog 40 ([zS a1 a.length c2,i64 k]:List Value).toArray w (dQ fun v w'=>v=i64 R/\aE G K (L) w'):=by
 refine aN func40 rfl (by kernel_rfl) (by show (2:Nat)<=37;decide) ?_;unfold dS at hm
 refine aL (aH (v:=i64 0) (aI (aJ (aL (aG (v:=i64 k) (aD (pT rfl rfl) (aH (v:=i64 (wr (k - 1))) (aI (aR [] (fun f w=>aET=some R/\aE G K (L) w) aM ?_)))))))));obtain ⟨l,e,ho⟩:=aB hm
 refine dY [0,1] e (fun b f w=>f 5=i64 b/\aE G K (L) w) aM ?_
 ·rintro b g f m hm hr ⟨h,n⟩
  unfold gX at hm
  refine aJ (aL (bI h (aD (R_geq rfl rfl) (aI ?_))))
  rcases aK hm with ⟨c,hm⟩|⟨c,hm⟩
  ·exact aQ c rfl (aW (aC (aJ (cD (aJ (bD [0,1,5] (fun f w=>∃ d,mP b d=some g/\f 35=zB d/\aE G K (L) w) aM aM))))))
  ·exact aM
theorem aDX {a:(List aO)} {R:Bool} (hm:vA a=some R) (i:aE G K (L) w) (j:bL K a1 c2 a):
  Calls prog 17 ([zS a1 a.length c2]:List Value).toArray w (dQ fun v w'=>v=zB R/\aE G K (L) w'):=by
 refine aN func17 rfl (by kernel_rfl) (by show (1:Nat)<=50;decide) ?_;unfold vA at hm
 refine aL (aH (v:=zB false) (aI (aJ (aL (aG (v:=zS a1 a.length c2) ?_)))));obtain ⟨n,k,hm⟩:=aB hm
 refine aP (vs:=[zS a1 a.length c2,i64 30,i64 8]) call37 rfl (aEr k i j) ?_
 rintro _ o ⟨rfl,p⟩
 refine aD (tZ rfl) (aI ?_)
 rcases aK hm with ⟨d,hm⟩|⟨d,hm⟩
 ·exact aM
 ·refine aT d rfl (aW (aC (aJ (aL (aH (v:=i64 0) (aI (aR [] (fun f w=>aJe=some R/\aE G K (L) w) aM ?_)))))));obtain ⟨q,l,ho⟩:=aB hm
  refine dY [0] l (fun b f w=>f 3=i64 b/\aE G K (L) w) aM ?_
  ·rintro b c f r hm hr ⟨m,t⟩
   unfold qE at hm
   refine aJ (aL (bI m (aG (v:=zS a1 a.length c2) (aD (bF (len:=a.length) fQ rfl) (aD (cW rfl rfl) (aI ?_))))))
   rcases aK hm with ⟨e,hm⟩|⟨e,hm⟩
   ·refine aQ e rfl (aW (aC (aJ (cD (jV [0,3] (fun f w=>vG a b=some c/\aE G K (L) w) ?_ ?_)))))
    ·rintro f u ⟨hm,x⟩
     unfold vG at hm
     exact aJ (bD [0,3] (fun f w=>∃ g,aBy b g=some c/\f 49=zB g/\aE G K (L) w) aM aM)
    exact aJ (bD [0,3] (fun f w=>∃ h,vH a b h=some c/\f 24=zB h/\aE G K (L) w) aM aM)
   ·exact aM
theorem aIs {a:(List aF)} {R:Bool} (hm:aBz a=some R) (l:aE G K (L) w) (m:bL K a1 c2 a):
  Calls prog 41 ([zS a1 a.length c2]:List Value).toArray w (dQ fun v w'=>v=zB R/\aE G K (L) w'):=by
 refine aN func41 rfl (by kernel_rfl) (by show (1:Nat)<=53;decide) ?_;unfold aBz at hm
 refine aL (aH (v:=zB false) (aI (aJ (aJ (bD [0] (fun f w=>∃ b,rJ a b=some R/\f 17=zB b/\aE G K (L) w) ?_ ?_)))))
 ·rintro f n ⟨b,hm,h,o⟩
  unfold rJ at hm
  refine aC ?_
  rcases aK hm with ⟨d,hm⟩|⟨d,hm⟩
  ·exact aM
  ·refine aT d h (aW (aC (aJ (aL (aH (v:=i64 1) (aI (aR [] (fun f w=>aFS=some R/\aE G K (L) w) aM ?_)))))));obtain ⟨p,i,ho⟩:=aB hm
   refine dY [0] i (fun c f w=>f 3=i64 c/\aE G K (L) w) aM ?_
   ·rintro c j f q hm hr ⟨k,r⟩
    unfold uM at hm
    refine aJ (aL (bI k (aG (v:=zS a1 a.length c2) (aD (bF (len:=a.length) kN rfl) (aD (cW rfl rfl) (aI ?_))))))
    rcases aK hm with ⟨e,hm⟩|⟨e,hm⟩
    ·exact aQ e rfl (aW (aC (aJ (cD (aJ (bD [0,3] (fun f w=>∃ g,rI c g=some j/\f 52=zB g/\aE G K (L) w) aM aM))))))
    ·exact aM
 exact aM
theorem aDY {t:cR} {d:Nat} {R:Bool} (hm:aCq t=some R) (hs:aE G K (L) w) (b:dU K a1 d (zC t a4 c5 a7 c8)) (h6:bL K a4 c5 t.L) (h:bL K a7 c8 t.E):
  Calls prog 18 ([cH a1 d]:List Value).toArray w (dQ fun v w'=>v=zB R/\aE G K (L) w'):=by
 refine aN func18 rfl (by kernel_rfl) (by show (1:Nat)<=101;decide) ?_;unfold aCq at hm
 refine aL (aH (v:=zB false) (aI (aJ (aJ (bD [0] (fun f w=>∃ l,vI t l=some R/\f 39=zB l/\aE G K (L) w) ?_ ?_)))))
 ·rintro f b6 ⟨l,hm,J,b7⟩
  unfold vI at hm
  refine aC ?_
  rcases aK hm with ⟨o,hm⟩|⟨o,hm⟩
  ·exact aM
  ·refine aT o J (aW (aC (aJ (aL (aH (v:=i64 0) (aI (aR [] (fun f w=>aJf=some R/\aE G K (L) w) aM ?_)))))));obtain ⟨b8,Z,ho⟩:=aB hm
   refine dY [0] Z (fun e f w=>f 3=i64 e/\aE G K (L) w) aM ?_
   ·rintro e p f b9 hm hr ⟨j,k⟩
    unfold aBA at hm
    refine aJ (aL (bI j (aG (v:=cH a1 d) (aD (gN rfl b) (aD (dV (k':=d+3) lW rfl b rfl) (aD (bG (t:=3) xV k b rfl rfl) (aD (bF (len:=t.E.length) jK rfl) (aD (cW rfl rfl) (aI ?_)))))))))
    rcases aK hm with ⟨q,hm⟩|⟨q,hm⟩
    ·refine aQ q rfl (aW (aC (aJ (cD (aL (aG (v:=cH a1 d) (aD (gN rfl b) (aD (dV (k':=d+3) lW rfl b rfl) (aD (bG (t:=3) xV k b rfl rfl) (bI j ?_))))))))));obtain ⟨a,r,hm⟩:=aB hm
     refine aD (dD jK rfl h rfl rfl rfl r) ?_;obtain ⟨c0,a0,a2⟩:=bL.el (sz:=3) rfl h r
     cases a2
     refine aD (lV (t:=0) (vs:=[i64 a.F,i64 a.B,i64 a.To]) aEG k a0 rfl rfl rfl) (cT (vs:=[i64 0,i64 0,i64 0]) zeroValue86 k rfl (fun m c1 a3=>(eW (i:=0) (ns:=[i64 a.F,i64 a.B,i64 a.To]) (us:=[i64 a.F,i64 a.B,i64 a.To]) sizeOf86 a3 rfl rfl rfl rfl rfl (gH rfl) rfl rfl (fun a5 (c2:aE G K (box m 86 [i64 a.F,i64 a.B,i64 a.To]::L) a5)=>(aI (aJ (aJ (bD [0,3,4] (fun f w=>∃ n,yH t e a n=some p/\f 87=zB n/\aE G K (box m 86 [i64 a.F,i64 a.B,i64 a.To]::L) w) ?_ ?_))))))))
     ·rintro f c3 ⟨n,hm,a6,u⟩
      unfold yH at hm
      refine aC ?_
      rcases aK hm with ⟨x,hm⟩|⟨x,hm⟩
      ·exact aM
      ·refine aT x a6 (aW (aC (aJ (bD [0,3] (fun f w=>∃ y,aDR e y=some p/\f 100=zB y/\aE G K (L) w) aM (aU (bI j (aD (xU rfl rfl) (aG (v:=zB (decide (0 < e))) ?_))))))))
       rcases aK hm with ⟨c,hm⟩|⟨c,hm⟩
       ·refine cA c rfl rfl (aG (v:=cH a1 d) (cA c rfl rfl (aD (gN rfl b) (cA c rfl rfl (aD (dV (k':=d+3) lW rfl b rfl) (cA c rfl rfl (aD (bG (t:=3) xV u b rfl rfl) (cA c rfl rfl (bI j (cA c rfl rfl (aD (pT rfl rfl) (cA c rfl rfl ?_))))))))))));obtain ⟨c4,z,hm⟩:=aB hm
        refine aD (dD jK rfl h rfl rfl rfl z) ?_;obtain ⟨c6,a8,a9⟩:=bL.el (sz:=3) rfl h z
        cases a9
        refine cA c rfl rfl ?_;obtain ⟨c7,b0,b1,b2,c9⟩:=aE.lendBp u .head
        obtain ⟨d0,b3,hm⟩:=aB hm
        exact aP (vs:=[cH a7 ((wr (e - 1)).toNat * 3+0),cH (some ⟨m,0,none⟩) 0]) call42 rfl (aBP b3 b2 (a8.mono b0) b1) aM
       ·exact aM
     exact aM
    ·exact aM
 exact aM
theorem aBQ {a:(List UInt8)} {b c:Int} {R:(Int × Int × Int)} (hm:rK a b c=some R) (e:aE G K (box b1 75 [zS a2 a.length c3,i64 b,Value.int .u64 c]::L) w) (g:bL K a2 c3 a):
  Calls prog 84 ([zP (some ⟨b1,0,none⟩)]:List Value).toArray w (dQ fun v w'=>v=i64 R.1/\aE G K (box b1 75 [zS a2 a.length c3,i64 R.2.1,Value.int .u64 R.2.2]::L) w'):=by
 refine aN func84 rfl (by kernel_rfl) (by show (1:Nat)<=62;decide) ?_;unfold rK at hm
 exact aL (aH (v:=i64 0) (aI (aL (aH (v:=i64 0) (aI (jV [0] (fun f w=>∃ d,pG a b c d=some R/\f 3=i64 d/\aE G K (box b1 75 [zS a2 a.length c3,i64 b,Value.int .u64 c]::L) w) aM aM))))))
theorem bB {a:(List UInt8)} {b c n:Int} {R:(Int × Int × Int)} (hm:bC a b c n=some R) (i:aE G K (box b1 75 [zS a2 a.length c3,i64 b,Value.int .u64 c]::L) w) (j:bL K a2 c3 a):
  Calls prog 36 ([zP (some ⟨b1,0,none⟩),i64 n]:List Value).toArray w (dQ fun v w'=>v=i64 R.1/\aE G K (box b1 75 [zS a2 a.length c3,i64 R.2.1,Value.int .u64 R.2.2]::L) w'):=by
 refine aN func36 rfl (by kernel_rfl) (by show (2:Nat)<=20;decide) ?_;unfold bC at hm
 refine aL (aH (v:=i64 0) (aI (aJ (aL (aG (v:=i64 n) (aD (R_leq rfl rfl) (aI ?_)))))))
 rcases aK hm with ⟨d,hm⟩|⟨d,hm⟩
 ·exact aM
 ·refine aT d rfl (aW (aC (aL (aG (v:=zP (some ⟨b1,0,none⟩)) ?_))));obtain ⟨k,l,hm⟩:=aB hm
  refine aP (vs:=[zP (some ⟨b1,0,none⟩)]) call84 rfl (aBQ l i j) ?_
  rintro _ m ⟨rfl,o⟩
  exact aH (v:=i64 k.1) (aI (jV [1] (fun f w=>∃ e g h,pH n e g h=some R/\f 5=i64 e/\aE G K (box b1 75 [zS a2 a.length c3,i64 g,Value.int .u64 h]::L) w) aM aM))
theorem lE {a:(List UInt8)} {b c n:Int} {R:(Bool × Int × Int)} (hm:iT a b c n=some R) (d:aE G K (box b1 75 [zS a2 a.length c3,i64 b,Value.int .u64 c]::L) w) (e:bL K a2 c3 a):
  Calls prog 34 ([zP (some ⟨b1,0,none⟩),i64 n]:List Value).toArray w (dQ fun v w'=>v=zB R.1/\aE G K (box b1 75 [zS a2 a.length c3,i64 R.2.1,Value.int .u64 R.2.2]::L) w'):=by
 exact aM
theorem aAx {a:(List UInt8)} {n o:Int} {R:((List aF) × Int × Int)} (hm:sJ a n o=some R) (hs:aE G K (box b1 75 [zS a2 a.length c3,i64 n,Value.int .u64 o]::L) w) (h4:bL K a2 c3 a):
  Calls prog 43 ([zP (some ⟨b1,0,none⟩)]:List Value).toArray w (dQ fun v w'=>∃ y z,v=zS y R.1.length z/\aE G K (own 9 K y z R.1::box b1 75 [zS a2 a.length c3,i64 R.2.1,Value.int .u64 R.2.2]::L) w'):=by
 let J:=box b1 75 [zS a2 a.length c3,i64 n,Value.int .u64 o]
 refine aN func43 rfl (by kernel_rfl) (by show (1:Nat)<=35;decide) ?_;unfold sJ at hm
 refine aL (aH (v:=zS none 0 0) (aI (aL (bM (Kt:=K) (xs:=([([116,97,117]:aF)]:List aF)) (cs:=[str ([116,97,117]:aF)]) (vs:=[(0,str ([116,97,117]:aF))]) kN aGK rfl rfl hs rfl (by kernel_rfl) rfl rfl rfl ⟨rfl,trivial⟩ (fun p w6 (b5:aE G K (own 9 K p 1 ([([116,97,117]:aF)]:List aF)::J::L) w6)=>(aH (v:=zS p ([([116,97,117]:aF)]:List aF).length 1) (aI (aL (bM (Kt:=K) (xs:=([([97]:aF),([98]:aF),([99]:aF),([103,101,116,40,48,41]:aF),([103,101,116,40,49,41]:aF)]:List aF)) (cs:=[str ([97]:aF),str ([98]:aF),str ([99]:aF),str ([103,101,116,40,48,41]:aF),str ([103,101,116,40,49,41]:aF)]) (vs:=[(0,str ([97]:aF)),(1,str ([98]:aF)),(2,str ([99]:aF)),(3,str ([103,101,116,40,48,41]:aF)),(4,str ([103,101,116,40,49,41]:aF))]) kN aGK rfl rfl b5 rfl (by kernel_rfl) rfl rfl rfl ⟨rfl,rfl,rfl,rfl,rfl,trivial⟩ (fun b w9 (c1:aE G K (own 9 K b 5 ([([97]:aF),([98]:aF),([99]:aF),([103,101,116,40,48,41]:aF),([103,101,116,40,49,41]:aF)]:List aF)::own 9 K p 1 ([([116,97,117]:aF)]:List aF)::J::L) w9)=>(aH (v:=zS b ([([97]:aF),([98]:aF),([99]:aF),([103,101,116,40,48,41]:aF),([103,101,116,40,49,41]:aF)]:List aF).length 5) (aI (aJ (aL (aH (v:=i64 0) (aI (aR [] (fun f w=>∃ h c d q r,sB h c d=some R/\f 3=zS q h.length r/\aE G K (own 9 K q r h::box b1 75 [zS a2 a.length c3,i64 c,Value.int .u64 d]::L) w) ?_ ?_)))))))))))))))))
 ·rintro f c2 ⟨h,c,d,q,r,hm,c4,c5⟩
  unfold sB at hm
  exact aC (jV [] (fun f w=>∃ t Z a0,sA c d t=some R/\f 3=zS Z t.length a0/\aE G K (own 9 K Z a0 t::box b1 75 [zS a2 a.length c3,i64 c,Value.int .u64 d]::L) w) aM aM)
 obtain ⟨c6,b7,ho⟩:=aB hm
 refine aEB [0,4] b7 (fun a1 a3 e g f w=>∃ i j,f 3=zS i e.length j/\f 5=i64 g/\aE G K (own 9 K b 5 ([([97]:aF),([98]:aF),([99]:aF),([103,101,116,40,48,41]:aF),([103,101,116,40,49,41]:aF)]:List aF)::own 9 K i j e::box b1 75 [zS a2 a.length c3,i64 a1,Value.int .u64 a3]::L) w) aM ?_
 ·rintro a1 a3 e g a4 f c7 hm hr ⟨i,j,c8,a6,c9⟩
  unfold lA at hm
  refine aJ (aL (bI a6 (aG (v:=zS b ([([97]:aF),([98]:aF),([99]:aF),([103,101,116,40,48,41]:aF),([103,101,116,40,49,41]:aF)]:List aF).length 5) (aD (bF (len:=([([97]:aF),([98]:aF),([99]:aF),([103,101,116,40,48,41]:aF),([103,101,116,40,49,41]:aF)]:List aF).length) kN rfl) (aD (cW rfl rfl) (aI ?_))))))
  rcases aK hm with ⟨a7,hm⟩|⟨a7,hm⟩
  ·refine aQ a7 rfl (aW (aC (aJ (aR [0,4,5] (fun f w=>∃ u x k l m,iU g u x k=some a4/\f 3=zS l k.length m/\aE G K (own 9 K l m k::own 9 K b 5 ([([97]:aF),([98]:aF),([99]:aF),([103,101,116,40,48,41]:aF),([103,101,116,40,49,41]:aF)]:List aF)::box b1 75 [zS a2 a.length c3,i64 u,Value.int .u64 x]::L) w) ?_ ?_))))
   ·rintro f d0 ⟨u,x,k,l,m,hm,b8,b9⟩
    unfold iU at hm
    exact aC (aU (bI a6 (aD (dA rfl rfl) (aH (v:=i64 (wr (g+1))) (aI ⟨_,(Option.some.inj hm).symm,bK,l,m,b8,rfl,(aE.arr 2 [1,0] b9 rfl)⟩)))))
   exact aJ (bD [0,3,4,5] (fun f w=>∃ a9 b0 b2,nS e g a9 b0 b2=some a4/\f 20=zB b2/\aE G K (own 9 K b 5 ([([97]:aF),([98]:aF),([99]:aF),([103,101,116,40,48,41]:aF),([103,101,116,40,49,41]:aF)]:List aF)::own 9 K i j e::box b1 75 [zS a2 a.length c3,i64 a9,Value.int .u64 b0]::L) w) aM aM)
  ·exact aM
end Gv
