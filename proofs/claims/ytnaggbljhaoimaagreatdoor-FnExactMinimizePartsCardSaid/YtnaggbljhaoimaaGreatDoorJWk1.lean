/- Walks, printed by program. -/
import Derived.Test.YtnaggbljhaoimaaGreatDoorJLW
set_option linter.all false
namespace Gv
open Gv.Hp renaming le_refl→zR
open Go.Value renaming slice→zS,bool→zB,tuple→zT
open Go Go.Proofs Go.Proofs.Tryz
set_option maxRecDepth 20000
set_option maxHeartbeats 40000000
variable {G:vF} {K:Hp} {L:List gC} {w:World} {a1 a4 a7 a10:Option Addr} {c2 c5 c8 c11:Nat}
theorem aFR {a:(List aV)} {R:((List Int) × Bool)} (hm:tA a=some R) (k:aD G K (L) w) (n:G.lo=0) (o:bK K a1 c2 a):
  Calls prog 110 ([zS a1 a.length c2]:List Value).toArray w (dV fun v w'=>∃ c d,v=zT #[zS c R.1.length d,zB R.2]/\aD G K (aM 2 K c d R.1::L) w'):=by
 refine aO func110 rfl (by kernel_rfl) (by show (1:Nat)<=28;decide) ?_;unfold tA at hm
 refine aI (aH (v:=zS none 0 0) (aH (v:=zB false) (aG (aI (aH (v:=zS none 0 0) (aG (aJ (aI (aL (v:=zS a1 a.length c2) (aF (bE (len:=a.length) gL rfl) (aL (v:=i64 0) (aG (aQ [] (fun f w=>∃ b e g,aCH b=some R/\f 4=zS e b.length g/\aD G K (aM 2 K e g b::L) w) aK ?_)))))))))))))
 have p:=aD.nil (α:=Int) k 2 K
 obtain ⟨q,l,ho⟩:=aB hm
 exact bN [9,10] l (fun h m f w=>∃ i j,f 4=zS i h.length j/\f 11=i64 m/\aD G K (aM 2 K i j h::L) w) aK aK
theorem aIX {c:UInt8} {R:Bool} (hm:aEX c=some R) (b:aD G K (L) w):
  Calls prog 115 ([Value.int .u8 (c.toNat:Int)]:List Value).toArray w (dV fun v w'=>v=zB R/\aD G K (L) w'):=by
 refine aO func115 rfl (by kernel_rfl) (by show (1:Nat)<=9;decide) ?_;unfold aEX at hm
 exact aI (aH (v:=zB false) (aG (aJ (bO [] (fun f w=>∃ a,aDn a=some R/\f 2=zB a/\aD G K (L) w) aK aK))))
theorem aJS {a:aV} {R:Bool} (hm:aEq a=some R) (k:aD G K (L) w):
  Calls prog 87 ([str a]:List Value).toArray w (dV fun v w'=>v=zB R/\aD G K (L) w'):=by
 refine aO func87 rfl (by kernel_rfl) (by show (1:Nat)<=42;decide) ?_;unfold aEq at hm
 refine aI (aH (v:=zB false) (aG (aJ (aI (aL (v:=str a) (aF (aAP runUnderlying9 rfl) (aL (v:=i64 0) (aG (aQ [0] (fun f w=>aBW a=some R/\aD G K (L) w) ?_ ?_)))))))))
 ·rintro f l ⟨hm,m⟩
  unfold aBW at hm
  exact aC (aJ (bO [] (fun f w=>∃ d,aEp d=some R/\f 2=zB d/\aD G K (L) w) aK aK))
 obtain ⟨n,j,ho⟩:=aB hm
 refine cQ [0,6] j (fun b f w=>f 7=i64 b/\aD G K (L) w) aK ?_
 ·rintro b e f o hm hr ⟨g,p⟩
  unfold uS at hm
  refine aI (aF (cE g rfl) (aG (aJ ?_)))
  rcases aP hm with ⟨h,hm⟩|⟨h,hm⟩
  ·refine aR h rfl (aY (aC (aJ (cB (aI (aX g (aH (v:=i64 b) (aG (aJ (bO [0,3,6,7] (fun f w=>∃ c,oK a b c=some e/\f 4=zB c/\aD G K (L) w) ?_ ?_))))))))))
   ·rintro f q ⟨c,hm,r,t⟩
    unfold oK at hm
    exact aC (aJ (bO [0,6,7] (fun f w=>∃ i,yF b i=some e/\f 32=zB i/\aD G K (L) w) aK aK))
   exact aK
  ·exact aK
theorem aHY {a:aV} {R:Bool} (hm:oS a=some R) (c:aD G K (L) w):
  Calls prog 69 ([str a]:List Value).toArray w (dV fun v w'=>v=zB R/\aD G K (L) w'):=by
 refine aO func69 rfl (by kernel_rfl) (by show (1:Nat)<=9;decide) ?_;unfold oS at hm
 exact aI (aH (v:=zB false) (aG (aJ (bO [] (fun f w=>∃ b,xP b=some R/\f 2=zB b/\aD G K (L) w) aK aK))))
theorem aJT {n low a:Int} {R:Bool} (hm:kP n low a=some R) (c:aD G K (L) w):
  Calls prog 42 ([i64 n,i64 low,i64 a]:List Value).toArray w (dV fun v w'=>v=zB R/\aD G K (L) w'):=by
 refine aO func42 rfl (by kernel_rfl) (by show (3:Nat)<=15;decide) ?_;unfold kP at hm
 exact aI (aH (v:=zB false) (aG (aJ (bO [] (fun f w=>∃ b,uT b=some R/\f 6=zB b/\aD G K (L) w) aK aK))))
theorem aIY {n:Int} {R:Bool} (hm:aHc n=some R) (a:aD G K (L) w):
  Calls prog 181 ([i64 n]:List Value).toArray w (dV fun v w'=>v=zB R/\aD G K (L) w'):=by
 exact aK
theorem aAd {n:Int} {R:Bool} (hm:aAW n=some R) (a:aD G K (L) w):
  Calls prog 180 ([i64 n]:List Value).toArray w (dV fun v w'=>v=zB R/\aD G K (L) w'):=by
 exact aK
theorem rO {a:(List Int)} {R:Int} (hm:fH a=some R) (n:aD G K (L) w) (c:bK K a1 c2 a):
  Calls prog 152 ([zS a1 a.length c2,Value.func (.func 180) #[] #[]]:List Value).toArray w (dV fun v w'=>v=i64 R/\aD G K (L) w'):=by
 refine aO func152 rfl (by kernel_rfl) (by show (2:Nat)<=19;decide) ?_;unfold fH at hm
 refine aI (aH (v:=i64 0) (aG (aJ (aI (aL (v:=zS a1 a.length c2) (aF (bE (len:=a.length) bC rfl) (aL (v:=i64 0) (aG (aQ [] (fun f w=>kQ=some R/\aD G K (L) w) aK ?_)))))))));obtain ⟨o,j,ho⟩:=aB hm
 refine cQ [0,1,7] j (fun b f w=>f 8=i64 b/\aD G K (L) w) aK ?_
 ·rintro b p f q hm hr ⟨d,e⟩
  unfold dE at hm
  refine aI (aF (cE d rfl) (aG (aJ ?_)))
  rcases aP hm with ⟨g,hm⟩|⟨g,hm⟩
  ·refine aR g rfl (aY (aC (aJ (cB (aI (aX d (aH (v:=i64 b) (aG (aI (aL (v:=Value.func (.func 180) #[] #[]) (aL (v:=zS a1 a.length c2) (aL (v:=i64 b) ?_))))))))))));obtain ⟨h,i,hm⟩:=aB hm
   refine aF (eC bC rfl c rfl rfl rfl i) ?_;obtain ⟨r,k,l⟩:=bK.el (sz:=1) rfl c i
   cases l
   refine aF (bX (t:=0) eZ e k rfl rfl) ?_;obtain ⟨u,m,hm⟩:=aB hm
   exact lG (vs:=[i64 h]) (caps:=[]) (us:=[i64 h]) rfl call180 rfl rfl (aAd m e) aK
  ·exact aK
theorem pM {a:(List Int)} {R:Bool} (hm:gR a=some R) (b:aD G K (L) w) (c:bK K a1 c2 a):
  Calls prog 179 ([zS a1 a.length c2,Value.func (.func 180) #[] #[]]:List Value).toArray w (dV fun v w'=>v=zB R/\aD G K (L) w'):=by
 exact aK
theorem aHd {a:(List Int)} {R:Bool} (hm:aBX a=some R) (b:aD G K (L) w) (c:bK K a1 c2 a):
  Calls prog 145 ([zS a1 a.length c2]:List Value).toArray w (dV fun v w'=>v=zB R/\aD G K (L) w'):=by
 exact aK
theorem aJU {c:(List Int)} {j R:aV} (hm:aEs c j=some R) (V:aD G K (L) w) (hG:G.lo=0) (p:bK K a1 c2 c):
  Calls prog 146 ([zS a1 c.length c2,str j]:List Value).toArray w (dV fun v w'=>v=str R/\aD G K (L) w'):=by
 refine aO func146 rfl (by kernel_rfl) (by show (2:Nat)<=27;decide) ?_;unfold aEs at hm
 refine aI (aH (v:=str ([]:aV)) (aG (aI (aL (v:=zS a1 c.length c2) (aF (bE (len:=c.length) bC rfl) ?_)))));obtain ⟨a,q5,hm⟩:=aB hm
 refine aCD (e:=([]:aV)) gL aEo rfl rfl V rfl rfl rfl q5 rfl (fun b w7 (b3:aD G K (aM 9 K b a.length a::L) w7)=>(aH (v:=zS b a.length a.length) (aG (aJ (aI (aL (v:=zS a1 c.length c2) (aF (bE (len:=c.length) bC rfl) (aL (v:=i64 0) (aG (aQ [1] (fun f w=>∃ k,aEr j k=some R/\f 5=zS b k.length a.length/\aD G K (aM 9 K b a.length k::L) w) aK ?_))))))))));obtain ⟨b4,a3,ho⟩:=aB hm
 refine bN [1,11,12] a3 (fun l d f w=>f 5=zS b l.length a.length/\f 13=i64 d/\aD G K (aM 9 K b a.length l::L) w) aK ?_
 ·rintro l d b5 f b6 hm hr ⟨q,g,r⟩
  unfold yG at hm
  refine aI (aF (cE g rfl) (aG (aJ ?_)))
  rcases aP hm with ⟨u,hm⟩|⟨u,hm⟩
  ·refine aR u rfl (aY (aC (aJ (cB (aI (aX g ?_))))));obtain ⟨m,x,hm⟩:=aB hm
   refine aF (eC bC rfl p rfl rfl g x) ?_;obtain ⟨b7,a4,a5⟩:=bK.el (sz:=1) rfl p x
   cases a5
   refine aF (bX (t:=0) eZ r a4 rfl rfl) (aH (v:=i64 d) (aH (v:=i64 m) (aG (aU (aX q (aL (v:=i64 d) (aL (v:=i64 m) ?_)))))));obtain ⟨y,a7,hm⟩:=aB hm
   refine aS (vs:=[i64 m]) call174 rfl (aHI r a7) ?_
   rintro _ b8 ⟨rfl,z⟩
   obtain ⟨b9,o,hm⟩:=aB hm
   have a8:=dD z (i:=0) rfl o
   refine aF (eE gL rfl a8 rfl rfl rfl o) ?_;obtain ⟨a9,J,hm⟩:=aB hm
   exact iB (i:=0) (t:=0) (ns:=[str y]) (e':=(y:aV)) sizeOf9 z rfl (Hp.le_refl _) rfl rfl rfl o J rfl rfl (eD rfl) rfl (fun cs h=>by cases h;rfl) (fun b0 (b1:aD G K (aM 9 K b a.length a9::L) b0)=>(bG (cU (aC (aU (aF (cW g rfl) (aL (v:=i64 (wr (d+1))) (aG ⟨_,(Option.some.inj hm).symm,bZ,(Eq.trans q (congrArg (fun n=>zS b n a.length) (bW J))),rfl,b1⟩))))))))
  ·exact aK
theorem aEG {a:aV} {b:(List Int)} {R:(aV × Bool)} (hm:aCI a b=some R) (e:aD G K (L) w) (g:G.lo=0) (h:bK K a1 c2 b):
  Calls prog 113 ([str a,zS a1 b.length c2]:List Value).toArray w (dV fun v w'=>v=zT #[str R.1,zB R.2]/\aD G K (L) w'):=by
 refine aO func113 rfl (by kernel_rfl) (by show (2:Nat)<=37;decide) ?_;unfold aCI at hm
 refine aI (aH (v:=str ([]:aV)) (aH (v:=zB false) (aG (aJ (cB (aI (aL (v:=str a) (aF (R_eqlS rfl rfl) (aH (v:=zB (a == ([116,97,117]:aV))) (aG ?_))))))))))
 rcases aP hm with ⟨c,hm⟩|⟨c,hm⟩
 ·exact aK
 ·exact bF c rfl (aJ (bO [0,1] (fun f w=>∃ d,vL a b d=some R/\f 12=zB d/\aD G K (L) w) aK aK))
theorem sP {a b:aV} {R:Bool} (hm:fR a b=some R) (d:aD G K (L) w):
  Calls prog 178 ([str a,str b]:List Value).toArray w (dV fun v w'=>v=zB R/\aD G K (L) w'):=by
 refine aO func178 rfl (by kernel_rfl) (by show (2:Nat)<=21;decide) ?_;unfold fR at hm
 exact aI (aH (v:=zB false) (aG (aJ (bO [] (fun f w=>∃ c,eY c=some R/\f 4=zB c/\aD G K (L) w) aK aK))))
theorem rP {a b R:aV} (hm:iO a b=some R) (c:aD G K (L) w):
  Calls prog 144 ([str a,str b]:List Value).toArray w (dV fun v w'=>v=str R/\aD G K (L) w'):=by
 exact aK
theorem aBO {a b R:aV} (hm:mN a b=some R) (c:aD G K (L) w):
  Calls prog 112 ([str a,str b]:List Value).toArray w (dV fun v w'=>v=str R/\aD G K (L) w'):=by
 exact aK
theorem aHe {c:aV} {R:(aV × (List Int) × Bool)} (hm:aBY c=some R) (k:aD G K (L) w) (l:G.lo=0):
  Calls prog 84 ([str c]:List Value).toArray w (dV fun v w'=>∃ h i,v=zT #[str R.1,zS h R.2.1.length i,zB R.2.2]/\aD G K (aM 2 K h i R.2.1::L) w'):=by
 refine aO func84 rfl (by kernel_rfl) (by show (1:Nat)<=43;decide) ?_;unfold aBY at hm
 refine aI (aH (v:=str ([]:aV)) (aH (v:=zS none 0 0) (aH (v:=zB false) (aG (aI (aL (v:=str c) ?_))))));obtain ⟨a,m,hm⟩:=aB hm
 refine aS (vs:=[str c,str ([40]:aV)]) call109 rfl (lib_Cut k m) ?_
 rintro _ x ⟨rfl,y⟩
 refine aL (v:=zT #[str a.1,str a.2.1,zB a.2.2]) (aF (fU rfl rfl) (aF (fU rfl rfl) (aF (fU rfl rfl) (aH (v:=str a.1) (aH (v:=str a.2.1) (aH (v:=zB a.2.2) (aG (aI (aH (v:=zS none 0 0) (aG (qV [0,5] (fun f w=>∃ b d e,nV c a b=some R/\f 8=zS d b.length e/\aD G K (aM 2 K d e b::L) w) ?_ ?_)))))))))))
 ·rintro f z ⟨b,d,e,hm,n,o⟩
  unfold nV at hm
  refine aJ (aI (aL (v:=str a.1) (aX n ?_)));obtain ⟨J,V,p,q,r⟩:=aD.lendSp o (Hp.le_refl _) .head
  obtain ⟨g,t,hm⟩:=aB hm
  refine aS (vs:=[str a.1,zS d b.length e]) call113 rfl (aEG t q l p) ?_
  rintro _ a0 ⟨rfl,u⟩
  have a1:=r _ _ u
  exact aL (v:=zT #[str g.1,zB g.2]) (aF (fU rfl rfl) (aF (fU rfl rfl) (aH (v:=str g.1) (aH (v:=zB g.2) (aG (aJ (bO [5,8] (fun f w=>∃ j,qY a b j=some R/\f 40=zB j/\aD G K (aM 2 K d e b::L) w) aK aK)))))))
 exact aK
theorem aIZ {a:aV} {R:Bool} (hm:aEY a=some R) (b:aD G K (L) w) (c:G.lo=0):
  Calls prog 66 ([str a]:List Value).toArray w (dV fun v w'=>v=zB R/\aD G K (L) w'):=by
 exact aK
theorem aHf {a:(List aV)} {left R:Int} (hm:qZ a left=some R) (h:aD G K (L) w) (i:bK K a1 c2 a):
  Calls prog 13 ([zS a1 a.length c2,i64 left]:List Value).toArray w (dV fun v w'=>v=i64 R/\aD G K (L) w'):=by
 refine aO func13 rfl (by kernel_rfl) (by show (2:Nat)<=28;decide) ?_;unfold qZ at hm
 refine aI (aH (v:=i64 0) (aG (aI (aL (v:=i64 left) (aL (v:=zS a1 a.length c2) (aF (bE (len:=a.length) gL rfl) (aF (vH rfl rfl) (aH (v:=i64 (wr (left - (a.length:Int)))) (aG (aJ (aI (aL (v:=i64 (wr (left - (a.length:Int)))) (aF (cE rfl rfl) (aG ?_))))))))))))))
 rcases aP hm with ⟨b,hm⟩|⟨b,hm⟩
 ·exact aK
 ·refine bF b rfl (aY (aC (aJ (aI (aH (v:=i64 0) (aG (aQ [] (fun f w=>∃ c,aEt c=some R/\f 1=i64 c/\aD G K (L) w) aK ?_)))))));obtain ⟨j,d,ho⟩:=aB hm
  exact bN [0] d (fun e g f w=>f 1=i64 e/\f 5=i64 g/\aD G K (L) w) aK aK
theorem aJa {a:(List Edge)} {left R:Int} (hm:aEZ a left=some R) (b:aD G K (L) w) (c:bK K a1 c2 a):
  Calls prog 56 ([zS a1 a.length c2,i64 left]:List Value).toArray w (dV fun v w'=>v=i64 R/\aD G K (L) w'):=by
 exact aK
theorem aLu {a:aW} {left R:Int} (hm:aGo a left=some R) (b:aD G K (L) w) (c:bK K a1 c2 a.L) (d:bK K a4 c5 a.E):
  Calls prog 32 ([Value.agg (zCa a a1 c2 a4 c5),i64 left]:List Value).toArray w (dV fun v w'=>v=i64 R/\aD G K (L) w'):=by
 exact aK
theorem aJV {a:(List aW)} {left R:Int} (hm:aGp a left=some R) (h:aD G K (L) w) (i:bK K a1 c2 a):
  Calls prog 11 ([zS a1 a.length c2,i64 left]:List Value).toArray w (dV fun v w'=>v=i64 R/\aD G K (L) w'):=by
 refine aO func11 rfl (by kernel_rfl) (by show (2:Nat)<=27;decide) ?_;unfold aGp at hm
 refine aI (aH (v:=i64 0) (aG (aI (aL (v:=i64 left) (aL (v:=zS a1 a.length c2) (aF (bE (len:=a.length) sl_22 rfl) (aF (vH rfl rfl) (aH (v:=i64 (wr (left - (a.length:Int)))) (aG (aJ (aI (aL (v:=i64 (wr (left - (a.length:Int)))) (aF (cE rfl rfl) (aG ?_))))))))))))))
 rcases aP hm with ⟨b,hm⟩|⟨b,hm⟩
 ·exact aK
 ·refine bF b rfl (aY (aC (aJ (aI (aH (v:=i64 0) (aG (aQ [] (fun f w=>∃ c,aHD c=some R/\f 1=i64 c/\aD G K (L) w) aK ?_)))))));obtain ⟨j,d,ho⟩:=aB hm
  exact bN [0] d (fun e g f w=>f 1=i64 e/\f 5=i64 g/\aD G K (L) w) aK aK
theorem aHg {a:aT} {left R:Int} (hm:yH a left=some R) (b:aD G K (L) w):
  Calls prog 33 ([Value.agg #[str a.Left,str a.Right,str a.Result],i64 left]:List Value).toArray w (dV fun v w'=>v=i64 R/\aD G K (L) w'):=by
 exact aK
theorem aGE {a:(List aT)} {left R:Int} (hm:aAq a left=some R) (h:aD G K (L) w) (i:bK K a1 c2 a):
  Calls prog 12 ([zS a1 a.length c2,i64 left]:List Value).toArray w (dV fun v w'=>v=i64 R/\aD G K (L) w'):=by
 refine aO func12 rfl (by kernel_rfl) (by show (2:Nat)<=27;decide) ?_;unfold aAq at hm
 refine aI (aH (v:=i64 0) (aG (aI (aL (v:=i64 left) (aL (v:=zS a1 a.length c2) (aF (bE (len:=a.length) sl_23 rfl) (aF (vH rfl rfl) (aH (v:=i64 (wr (left - (a.length:Int)))) (aG (aJ (aI (aL (v:=i64 (wr (left - (a.length:Int)))) (aF (cE rfl rfl) (aG ?_))))))))))))))
 rcases aP hm with ⟨b,hm⟩|⟨b,hm⟩
 ·exact aK
 ·refine bF b rfl (aY (aC (aJ (aI (aH (v:=i64 0) (aG (aQ [] (fun f w=>∃ c,aDL c=some R/\f 1=i64 c/\aD G K (L) w) aK ?_)))))));obtain ⟨j,d,ho⟩:=aB hm
  exact bN [0] d (fun e g f w=>f 1=i64 e/\f 5=i64 g/\aD G K (L) w) aK aK
theorem aCS {a:bB} {left R:Int} (hm:aCa a left=some R) (b:aD G K (L) w) (c:bK K a1 c2 a.Parts) (d:bK K a4 c5 a.Meetings) (e:bK K a7 c8 a.Allowed) (g:bK K a10 c11 a.Hidden):
  Calls prog 4 ([Value.agg #[zS a1 a.Parts.length c2,zS a4 a.Meetings.length c5,zS a7 a.Allowed.length c8,zS a10 a.Hidden.length c11],i64 left]:List Value).toArray w (dV fun v w'=>v=i64 R/\aD G K (L) w'):=by
 exact aK
theorem aHZ {c:UInt8} {R:Bool} (hm:aAY c=some R) (b:aD G K (L) w):
  Calls prog 98 ([Value.int .u8 (c.toNat:Int)]:List Value).toArray w (dV fun v w'=>v=zB R/\aD G K (L) w'):=by
 refine aO func98 rfl (by kernel_rfl) (by show (1:Nat)<=9;decide) ?_;unfold aAY at hm
 exact aI (aH (v:=zB false) (aG (aJ (bO [] (fun f w=>∃ a,aCu a=some R/\f 2=zB a/\aD G K (L) w) aK aK))))
theorem aDR {c:UInt8} {R:Bool} (hm:aAZ c=some R) (b:aD G K (L) w):
  Calls prog 99 ([Value.int .u8 (c.toNat:Int)]:List Value).toArray w (dV fun v w'=>v=zB R/\aD G K (L) w'):=by
 refine aO func99 rfl (by kernel_rfl) (by show (1:Nat)<=9;decide) ?_;unfold aAZ at hm
 exact aI (aH (v:=zB false) (aG (aJ (bO [] (fun f w=>∃ a,aCv a=some R/\f 2=zB a/\aD G K (L) w) aK aK))))
theorem aJb {a:aV} {R:Bool} (hm:aAC a=some R) (l:aD G K (L) w):
  Calls prog 77 ([str a]:List Value).toArray w (dV fun v w'=>v=zB R/\aD G K (L) w'):=by
 refine aO func77 rfl (by kernel_rfl) (by show (1:Nat)<=35;decide) ?_;unfold aAC at hm
 refine aI (aH (v:=zB false) (aG (aJ (aJ (bO [0] (fun f w=>∃ b,oT a b=some R/\f 16=zB b/\aD G K (L) w) ?_ ?_)))))
 ·rintro f m ⟨b,hm,h,n⟩
  unfold oT at hm
  refine aC ?_
  rcases aP hm with ⟨d,hm⟩|⟨d,hm⟩
  ·exact aK
  ·refine bF d h (aY (aC (aJ (aI (aH (v:=i64 0) (aG (aQ [] (fun f w=>aDo=some R/\aD G K (L) w) aK ?_)))))));obtain ⟨o,i,ho⟩:=aB hm
   refine cQ [0] i (fun c f w=>f 3=i64 c/\aD G K (L) w) aK ?_
   ·rintro c j f p hm hr ⟨k,q⟩
    unfold vM at hm
    refine aJ (aI (aX k (aL (v:=str a) (aF (aAP runUnderlying9 rfl) (aF (cE rfl rfl) (aG ?_))))))
    rcases aP hm with ⟨e,hm⟩|⟨e,hm⟩
    ·exact aR e rfl (aY (aC (aJ (cB (aJ (bO [0,3] (fun f w=>∃ g,aAr c g=some j/\f 34=zB g/\aD G K (L) w) aK aK))))))
    ·exact aK
 exact aK
theorem aHh {a:aV} {R:Bool} (hm:mO a=some R) (c:aD G K (L) w):
  Calls prog 57 ([str a]:List Value).toArray w (dV fun v w'=>v=zB R/\aD G K (L) w'):=by
 refine aO func57 rfl (by kernel_rfl) (by show (1:Nat)<=9;decide) ?_;unfold mO at hm
 exact aI (aH (v:=zB false) (aG (aJ (bO [] (fun f w=>∃ b,vN b=some R/\f 2=zB b/\aD G K (L) w) aK aK))))
theorem aFS {b:(List aT)} {R:Bool} (hm:tB b=some R) (hs:aD G K (L) w) (l:bK K a1 c2 b):
  Calls prog 34 ([zS a1 b.length c2]:List Value).toArray w (dV fun v w'=>v=zB R/\aD G K (L) w'):=by
 refine aO func34 rfl (by kernel_rfl) (by show (1:Nat)<=101;decide) ?_;unfold tB at hm
 refine aI (aH (v:=zB false) (aG (aJ (aI (aL (v:=zS a1 b.length c2) (aF (bE (len:=b.length) sV rfl) (aF (aBR rfl rfl) (aG ?_))))))))
 rcases aP hm with ⟨m,hm⟩|⟨m,hm⟩
 ·exact aK
 ·refine bF m rfl (aY (aC (aJ (aI (aH (v:=i64 0) (aG (aQ [] (fun f w=>aCJ=some R/\aD G K (L) w) aK ?_)))))));obtain ⟨a9,y,ho⟩:=aB hm
  refine cQ [0] y (fun c f w=>f 3=i64 c/\aD G K (L) w) aK ?_
  ·rintro c e f b0 hm hr ⟨g,n⟩
   unfold kZ at hm
   refine aJ (aI (aX g (aL (v:=zS a1 b.length c2) (aF (bE (len:=b.length) sV rfl) (aF (cE rfl rfl) (aG ?_))))))
   rcases aP hm with ⟨o,hm⟩|⟨o,hm⟩
   ·refine aR o rfl (aY (aC (aJ (aQ [0,3] (fun f w=>sB c=some e/\aD G K (L) w) ?_ ?_))))
    ·rintro f b1 ⟨hm,z⟩
     unfold sB at hm
     exact aC (aU (aX g (aF (cW rfl rfl) (aH (v:=i64 (wr (c+1))) (aG ⟨_,(Option.some.inj hm).symm,bZ,rfl,z⟩)))))
    refine aI (aL (v:=zS a1 b.length c2) (aX g ?_));obtain ⟨a,p,hm⟩:=aB hm
    refine aF (eC sV rfl l rfl rfl rfl p) ?_;obtain ⟨b2,J,V⟩:=bK.el (sz:=3) rfl l p
    cases V
    refine aF (gQ (t:=0) (vs:=[str a.Left,str a.Right,str a.Result]) ag_73 n J rfl rfl rfl) (bH (vs:=[str ([]:aV),str ([]:aV),str ([]:aV)]) zeroValue73 n rfl (fun d b3 a0=>(cF (i:=0) (ns:=[str a.Left,str a.Right,str a.Result]) (us:=[str a.Left,str a.Right,str a.Result]) sizeOf73 a0 rfl rfl rfl rfl rfl (eD rfl) rfl rfl (fun a2 (b4:aD G K (box d 73 [str a.Left,str a.Right,str a.Result]::L) a2)=>(aG (aJ (aJ (bO [0,3,4] (fun f w=>∃ h,iG b c a h=some e/\f 41=zB h/\aD G K (box d 73 [str a.Left,str a.Right,str a.Result]::L) w) ?_ ?_))))))))
    ·rintro f b5 ⟨h,hm,a3,b6⟩
     unfold iG at hm
     refine aC ?_
     rcases aP hm with ⟨q,hm⟩|⟨q,hm⟩
     ·exact aK
     ·refine bF q a3 (aY (aC (aJ (aJ (bO [0,3,4] (fun f w=>∃ j,iF b c a j=some e/\f 76=zB j/\aD G K (box d 73 [str a.Left,str a.Right,str a.Result]::L) w) ?_ ?_)))))
      ·rintro f b7 ⟨j,hm,a4,b8⟩
       unfold iF at hm
       refine aC ?_
       rcases aP hm with ⟨r,hm⟩|⟨r,hm⟩
       ·exact aK
       ·refine bF r a4 (aY (aC (aI (aH (v:=i64 0) (aG (aQ [0,3] (fun f w=>xA c=some e/\aD G K (L) w) aK ?_))))));obtain ⟨b9,a5,ho⟩:=aB hm
        refine cQ [0,3,4] a5 (fun k f w=>f 5=i64 k/\aD G K (box d 73 [str a.Left,str a.Right,str a.Result]::L) w) aK ?_
        ·rintro k a6 f c0 hm hr ⟨a7,c1⟩
         unfold nW at hm
         refine aJ (aI (aX a7 (aL (v:=zS a1 b.length c2) (aF (bE (len:=b.length) sV rfl) (aF (cE rfl rfl) (aG ?_))))))
         rcases aP hm with ⟨u,hm⟩|⟨u,hm⟩
         ·exact aR u rfl (aY (aC (aJ (cB (aJ (bO [0,3,4,5] (fun f w=>∃ x,sC k x=some a6/\f 100=zB x/\aD G K (box d 73 [str a.Left,str a.Right,str a.Result]::L) w) aK aK))))))
         ·exact aK
      exact aK
    exact aK
   ·exact aK
theorem aGF {a:(List aV)} {R:Bool} (hm:vO a=some R) (d:aD G K (L) w) (e:bK K a1 c2 a):
  Calls prog 58 ([zS a1 a.length c2]:List Value).toArray w (dV fun v w'=>v=zB R/\aD G K (L) w'):=by
 refine aO func58 rfl (by kernel_rfl) (by show (1:Nat)<=16;decide) ?_;unfold vO at hm
 refine aI (aH (v:=zB false) (aG (aJ (aI (aH (v:=i64 0) (aG (aQ [] (fun f w=>aDM=some R/\aD G K (L) w) aK ?_)))))));obtain ⟨g,b,ho⟩:=aB hm
 exact cQ [0] b (fun c f w=>f 3=i64 c/\aD G K (L) w) aK aK
theorem aIa {a:(List aV)} {R:Bool} (hm:xB a=some R) (h:aD G K (L) w) (i:bK K a1 c2 a):
  Calls prog 35 ([zS a1 a.length c2]:List Value).toArray w (dV fun v w'=>v=zB R/\aD G K (L) w'):=by
 refine aO func35 rfl (by kernel_rfl) (by show (1:Nat)<=28;decide) ?_;unfold xB at hm
 refine aI (aH (v:=zB false) (aG (aJ (aJ (bO [0] (fun f w=>∃ b,tD a b=some R/\f 11=zB b/\aD G K (L) w) ?_ ?_)))))
 ·rintro f j ⟨b,hm,d,k⟩
  unfold tD at hm
  refine aC ?_
  rcases aP hm with ⟨c,hm⟩|⟨c,hm⟩
  ·exact aK
  ·refine bF c d (aY (aC (aJ (aI (aH (v:=i64 1) (aG (aQ [] (fun f w=>aFr=some R/\aD G K (L) w) aK ?_)))))));obtain ⟨l,e,ho⟩:=aB hm
   exact cQ [0] e (fun g f w=>f 3=i64 g/\aD G K (L) w) aK aK
 exact aK
theorem aLv {n low a:Int} {R:Bool} (hm:tU n low a=some R) (c:aD G K (L) w):
  Calls prog 37 ([i64 n,i64 low,i64 a]:List Value).toArray w (dV fun v w'=>v=zB R/\aD G K (L) w'):=by
 refine aO func37 rfl (by kernel_rfl) (by show (3:Nat)<=15;decide) ?_;unfold tU at hm
 exact aI (aH (v:=zB false) (aG (aJ (bO [] (fun f w=>∃ b,aDp b=some R/\f 6=zB b/\aD G K (L) w) aK aK))))
end Gv
namespace Gv
open Gv.Hp renaming le_refl→zR
open Go.Value renaming slice→zS,bool→zB
open Option.some renaming inj→zI
open Gv.Hp renaming le_trans→zL
open Go Go.Proofs Go.Proofs.Tryz
set_option maxRecDepth 20000
set_option maxHeartbeats 40000000
variable {G:vF} {K:Hp} {L:List gC} {w:World} {a1 a4 a7 a10 a13:Option Addr} {c2 c5 c8 c11 c14:Nat}
theorem aEH {a:aV} {R:Int} (hm:aCK a=some R) (d:aD G K (L) w):
  Calls prog 133 ([str a]:List Value).toArray w (dV fun v w'=>v=i64 R/\aD G K (L) w'):=by
 refine aO func133 rfl (by kernel_rfl) (by show (1:Nat)<=17;decide) ?_;unfold aCK at hm
 refine aI (aH (v:=i64 0) (aG (aJ (aI (aH (v:=i64 0) (aG (aQ [0] (fun f w=>aGq a=some R/\aD G K (L) w) aK ?_)))))));obtain ⟨e,b,ho⟩:=aB hm
 exact cQ [0] b (fun c f w=>f 3=i64 c/\aD G K (L) w) aK aK
theorem aDS {a:aV} {by_:UInt8} {R:(List aV)} (hm:aBa a by_=some R) (x:aD G K (L) w):
  Calls prog 134 ([str a,Value.int .u8 (by_.toNat:Int)]:List Value).toArray w (dV fun v w'=>∃ l m,v=zS l R.length m/\aD G K (aM 9 K l m R::L) w'):=by
 refine aO func134 rfl (by kernel_rfl) (by show (2:Nat)<=35;decide) ?_;unfold aBa at hm
 refine aI (aH (v:=zS none 0 0) (aG (aI (dI (Kt:=K) (xs:=([]:List aV)) (cs:=[]) (vs:=[]) gL aEo rfl rfl x rfl (by kernel_rfl) rfl rfl rfl trivial (fun n y (a3:aD G K (aM 9 K n 0 ([]:List aV)::L) y)=>(aH (v:=zS n ([]:List aV).length 0) (aG (aI (aH (v:=i64 0) (aG (aJ (aI (aH (v:=i64 0) (aG (aQ [0] (fun f w=>∃ g o p q,aCw a g o=some R/\f 5=zS p g.length q/\f 6=i64 o/\aD G K (aM 9 K p q g::L) w) aK ?_)))))))))))))))
 obtain ⟨a4,z,ho⟩:=aB hm
 refine kO [0,1] z (fun h r b f w=>∃ i j,f 5=zS i h.length j/\f 6=i64 r/\f 7=i64 b/\aD G K (aM 9 K i j h::L) w) aK ?_
 ·rintro h r b J f a6 hm hr ⟨i,j,a7,a8,t,a9⟩
  unfold xQ at hm
  refine aJ (aI (aX t (aL (v:=str a) (aF (aAP runUnderlying9 rfl) (aF (cE rfl rfl) (aG ?_))))))
  rcases aP hm with ⟨u,hm⟩|⟨u,hm⟩
  ·refine aR u rfl (aY (aC (aJ (aQ [0,1,7] (fun f w=>∃ c k d e,pQ b c k=some J/\f 5=zS d c.length e/\f 6=i64 k/\aD G K (aM 9 K d e c::L) w) ?_ ?_))))
   ·rintro f b0 ⟨c,k,d,e,hm,V,a0,a2⟩
    unfold pQ at hm
    exact aC (aU (aX t (aF (cW rfl rfl) (aH (v:=i64 (wr (b+1))) (aG ⟨_,(zI hm).symm,bZ,d,e,V,a0,rfl,a2⟩)))))
   exact aK
  ·exact aK
theorem aCT {c:aV} {R:(Int × Bool)} (hm:uU c=some R) (z:aD G K (L) w):
  Calls prog 135 ([str c]:List Value).toArray w (dV fun v w'=>v=Value.tuple #[i64 R.1,zB R.2]/\aD G K (L) w'):=by
 refine aO func135 rfl (by kernel_rfl) (by show (1:Nat)<=62;decide) ?_;unfold uU at hm
 refine aI (aH (v:=i64 0) (aH (v:=zB false) (aG (aI (aH (v:=i64 0) (aG (qV [0] (fun f w=>∃ d,nY c d=some R/\f 4=i64 d/\aD G K (L) w) ?_ ?_)))))))
 ·rintro f J ⟨d,hm,p,V⟩
  unfold nY at hm
  refine aJ (aJ (bO [0,4] (fun f w=>∃ g,kA c d g=some R/\f 36=zB g/\aD G K (L) w) ?_ ?_))
  ·rintro f w7 ⟨g,hm,q,a1⟩
   unfold kA at hm
   refine aC ?_
   rcases aP hm with ⟨j,hm⟩|⟨j,hm⟩
   ·exact aK
   ·refine bF j q (aY (aC (aI (aH (v:=i64 0) (aG (aJ (aI (aX p (aH (v:=i64 d) (aG (aQ [4] (fun f w=>∃ h,vP d h=some R/\f 5=i64 h/\aD G K (L) w) ?_ ?_)))))))))))
    ·rintro f a2 ⟨h,hm,a3,a4⟩
     unfold vP at hm
     exact aC (qV [] (fun f w=>∃ k,aBb k=some R/\f 5=i64 k/\aD G K (L) w) aK aK)
    obtain ⟨a5,r,ho⟩:=aB hm
    refine bN [0,4] r (fun i i32 f w=>f 5=i64 i/\f 6=i64 i32/\aD G K (L) w) aK ?_
    ·rintro i i32 a6 f a7 hm hr ⟨t,e,u⟩
     unfold nX at hm
     refine aJ (aI (aX e (aL (v:=str c) (aF (aAP runUnderlying9 rfl) (aF (cE rfl rfl) (aG ?_))))))
     rcases aP hm with ⟨l,hm⟩|⟨l,hm⟩
     ·refine aR l rfl (aY (aC (aJ (cB (aJ (aI (aL (v:=str c) (aX e ?_))))))));obtain ⟨c45,m,hm⟩:=aB hm
      refine aF (R_ixS runUnderlying9 rfl rfl m) ?_;obtain ⟨a8,x,hm⟩:=aB hm
      refine aS (vs:=[Value.int .u8 (c45.toNat:Int)]) call99 rfl (aDR x u) ?_
      rintro _ a9 ⟨rfl,y⟩
      refine aF (zY rfl) (aG ?_)
      rcases aP hm with ⟨n,hm⟩|⟨n,hm⟩
      ·exact aK
      ·exact bF n rfl (aY (aC (aU (aX t (aF (R_mul rfl rfl) (aL (v:=str c) (aX e (aF (R_ixS runUnderlying9 rfl rfl m) (aF (aMf (a:=c45) (b:=(48:UInt8)) rfl rfl) (aF (aGf runUnderlying2 rfl ⟨_,runUnderlying5⟩) (aF (cW rfl rfl) (aH (v:=i64 (wr ((wr (10 * i))+(wr ((c45 - (48:UInt8)).toNat:Int))))) (bG (cU (aC (aU (aX e (aF (cW rfl rfl) (aH (v:=i64 (wr (i32+1))) (aG ⟨_,(zI hm).symm,bZ,rfl,rfl,y⟩))))))))))))))))))))
     ·exact aK
  exact aK
 exact aJ (bO [0,4] (fun f w=>∃ o,rA c o=some R/\f 14=zB o/\aD G K (L) w) aK aK)
theorem aHi {a:aV} {R:((List Int) × Bool)} (hm:aCb a=some R) (hs:aD G K (L) w):
  Calls prog 100 ([str a]:List Value).toArray w (dV fun v w'=>∃ q r,v=Value.tuple #[zS q R.1.length r,zB R.2]/\aD G K (aM 2 K q r R.1::L) w'):=by
 refine aO func100 rfl (by kernel_rfl) (by show (1:Nat)<=70;decide) ?_;unfold aCb at hm
 refine aI (aH (v:=zS none 0 0) (aH (v:=zB false) (aG (aI (aL (v:=str a) ?_)))));obtain ⟨h,q2,hm⟩:=aB hm
 refine aS (vs:=[str a]) call133 rfl (aEH q2 hs) ?_
 rintro _ w3 ⟨rfl,b7⟩
 refine aH (v:=i64 h) (aG (aJ (aI (aL (v:=i64 h) (aL (v:=str a) (aF (aAP runUnderlying9 rfl) (aF (aKr rfl rfl) (aG ?_))))))))
 rcases aP hm with ⟨u,hm⟩|⟨u,hm⟩
 ·exact aK
 ·refine bF u rfl (aY (aC (aJ (aJ (bO [0,4] (fun f w=>∃ l,nZ a h l=some R/\f 31=zB l/\aD G K (L) w) ?_ ?_)))))
  ·rintro f b8 ⟨l,hm,a4,a5⟩
   unfold nZ at hm
   refine aC ?_
   rcases aP hm with ⟨x,hm⟩|⟨x,hm⟩
   ·exact aK
   ·refine bF x a4 (aY (aC (aI (aL (v:=str a) (aL (v:=i64 h) (aF (cW rfl rfl) (aL (v:=str a) (aF (aAP runUnderlying9 rfl) (aF (vH rfl rfl) ?_)))))))));obtain ⟨a6,a7,hm⟩:=aB hm
    refine aF (R_slSLH runUnderlying9 rfl rfl rfl a7) ?_;obtain ⟨b,a8,hm⟩:=aB hm
    refine aS (vs:=[str a6,Value.int .u8 44]) call134 rfl (aDS (by_:=(44:UInt8)) a8 a5) ?_
    rintro _ b9 ⟨c,d,rfl,a9⟩
    refine aH (v:=zS c b.length d) (aG (aI (dI (Kt:=K) (xs:=([]:List Int)) (cs:=[]) (vs:=[]) bC vG rfl rfl a9 rfl (by kernel_rfl) rfl rfl rfl trivial (fun y b0 (c0:aD G K (aM 2 K y 0 ([]:List Int)::aM 9 K c d b::L) b0)=>(aH (v:=zS y ([]:List Int).length 0) (aG (aJ (aI (aH (v:=i64 0) (aG (aQ [] (fun f w=>∃ m z J,aBc m=some R/\f 6=zS z m.length J/\aD G K (aM 2 K z J m::L) w) aK ?_)))))))))));obtain ⟨c1,b1,ho⟩:=aB hm
    refine bN [5] b1 (fun e n f w=>∃ j k,f 6=zS j e.length k/\f 7=i64 n/\aD G K (aM 2 K j k e::aM 9 K c d b::L) w) aK ?_
    ·rintro e n b2 f c2 hm hr ⟨j,k,c3,V,o⟩
     unfold rB at hm
     refine aJ (aI (aX V (aL (v:=zS c b.length d) (aF (bE (len:=b.length) gL rfl) (aF (cE rfl rfl) (aG ?_))))))
     rcases aP hm with ⟨a0,hm⟩|⟨a0,hm⟩
     ·refine aR a0 rfl (aY (aC (aJ (cB (aI (aL (v:=zS c b.length d) (aX V ?_)))))));obtain ⟨b3,p,hm⟩:=aB hm
      have b4:=dD o (i:=1) rfl p
      refine aF (eE gL rfl b4 rfl rfl rfl p) (aF (uR (t:=0) aHb o (i:=1) rfl p rfl rfl rfl) ?_);obtain ⟨g,b5,hm⟩:=aB hm
      refine aS (vs:=[str b3]) call135 rfl (aCT b5 o) ?_
      rintro _ c4 ⟨rfl,c6⟩
      exact aL (v:=Value.tuple #[i64 g.1,zB g.2]) (aF (fU rfl rfl) (aF (fU rfl rfl) (aH (v:=i64 g.1) (aH (v:=zB g.2) (aG (aJ (aJ (bO [5,6,7,8] (fun f w=>∃ a1,vQ e n g a1=some b2/\f 61=zB a1/\aD G K (aM 2 K j k e::aM 9 K c d b::L) w) aK aK))))))))
     ·exact aK
  exact aK
theorem aIb {a:aV} {R:Bool} (hm:aDq a=some R) (b:aD G K (L) w):
  Calls prog 78 ([str a]:List Value).toArray w (dV fun v w'=>v=zB R/\aD G K (L) w'):=by
 exact aK
theorem aIc {a:(List aV)} {R:Bool} (hm:aBd a=some R) (l:aD G K (L) w) (m:bK K a1 c2 a):
  Calls prog 59 ([zS a1 a.length c2]:List Value).toArray w (dV fun v w'=>v=zB R/\aD G K (L) w'):=by
 refine aO func59 rfl (by kernel_rfl) (by show (1:Nat)<=53;decide) ?_;unfold aBd at hm
 refine aI (aH (v:=zB false) (aG (aJ (aJ (bO [0] (fun f w=>∃ b,pS a b=some R/\f 17=zB b/\aD G K (L) w) ?_ ?_)))))
 ·rintro f n ⟨b,hm,h,o⟩
  unfold pS at hm
  refine aC ?_
  rcases aP hm with ⟨d,hm⟩|⟨d,hm⟩
  ·exact aK
  ·refine bF d h (aY (aC (aJ (aI (aH (v:=i64 1) (aG (aQ [] (fun f w=>aFs=some R/\aD G K (L) w) aK ?_)))))));obtain ⟨p,i,ho⟩:=aB hm
   refine cQ [0] i (fun c f w=>f 3=i64 c/\aD G K (L) w) aK ?_
   ·rintro c j f q hm hr ⟨k,r⟩
    unfold tE at hm
    refine aJ (aI (aX k (aL (v:=zS a1 a.length c2) (aF (bE (len:=a.length) gL rfl) (aF (cE rfl rfl) (aG ?_))))))
    rcases aP hm with ⟨e,hm⟩|⟨e,hm⟩
    ·exact aR e rfl (aY (aC (aJ (cB (aJ (bO [0,3] (fun f w=>∃ g,pR c g=some j/\f 52=zB g/\aD G K (L) w) aK aK))))))
    ·exact aK
 exact aK
theorem aBv {a:Edge} {c:Nat} {b:Edge} {d:Nat} {R:Bool} (hm:aCL a b=some R) (e:aD G K (L) w) (g:gE K a1 c [i64 a.F,i64 a.B,i64 a.To]) (h:gE K a4 d [i64 b.F,i64 b.B,i64 b.To]):
  Calls prog 60 ([dC a1 c,dC a4 d]:List Value).toArray w (dV fun v w'=>v=zB R/\aD G K (L) w'):=by
 exact aK
theorem aLw {t:aW} {d:Nat} {R:Bool} (hm:aGr t=some R) (hs:aD G K (L) w) (b:gE K a1 d (zC t a4 c5 a7 c8)) (h6:bK K a4 c5 t.L) (h:bK K a7 c8 t.E):
  Calls prog 36 ([dC a1 d]:List Value).toArray w (dV fun v w'=>v=zB R/\aD G K (L) w'):=by
 refine aO func36 rfl (by kernel_rfl) (by show (1:Nat)<=101;decide) ?_;unfold aGr at hm
 refine aI (aH (v:=zB false) (aG (aJ (aJ (bO [0] (fun f w=>∃ l,uH t l=some R/\f 39=zB l/\aD G K (L) w) ?_ ?_)))))
 ·rintro f b6 ⟨l,hm,J,b7⟩
  unfold uH at hm
  refine aC ?_
  rcases aP hm with ⟨o,hm⟩|⟨o,hm⟩
  ·exact aK
  ·refine bF o J (aY (aC (aJ (aI (aH (v:=i64 0) (aG (aQ [] (fun f w=>aIR=some R/\aD G K (L) w) aK ?_)))))));obtain ⟨b8,V,ho⟩:=aB hm
   refine cQ [0] V (fun e f w=>f 3=i64 e/\aD G K (L) w) aK ?_
   ·rintro e p f b9 hm hr ⟨j,k⟩
    unfold aBe at hm
    refine aJ (aI (aX j (aL (v:=dC a1 d) (aF (gP rfl b) (aF (gG (k':=d+3) eX rfl b rfl) (aF (bX (t:=3) lX k b rfl rfl) (aF (bE (len:=t.E.length) cO rfl) (aF (cE rfl rfl) (aG ?_)))))))))
    rcases aP hm with ⟨q,hm⟩|⟨q,hm⟩
    ·refine aR q rfl (aY (aC (aJ (cB (aI (aL (v:=dC a1 d) (aF (gP rfl b) (aF (gG (k':=d+3) eX rfl b rfl) (aF (bX (t:=3) lX k b rfl rfl) (aX j ?_))))))))));obtain ⟨a,r,hm⟩:=aB hm
     refine aF (eC cO rfl h rfl rfl rfl r) ?_;obtain ⟨c0,a0,a2⟩:=bK.el (sz:=3) rfl h r
     cases a2
     refine aF (gQ (t:=0) (vs:=[i64 a.F,i64 a.B,i64 a.To]) nU k a0 rfl rfl rfl) (bH (vs:=[i64 0,i64 0,i64 0]) zeroValue87 k rfl (fun m c1 a3=>(cF (i:=0) (ns:=[i64 a.F,i64 a.B,i64 a.To]) (us:=[i64 a.F,i64 a.B,i64 a.To]) sizeOf87 a3 rfl rfl rfl rfl rfl (eD rfl) rfl rfl (fun a5 (c2:aD G K (box m 87 [i64 a.F,i64 a.B,i64 a.To]::L) a5)=>(aG (aJ (aJ (bO [0,3,4] (fun f w=>∃ n,xC t e a n=some p/\f 87=zB n/\aD G K (box m 87 [i64 a.F,i64 a.B,i64 a.To]::L) w) ?_ ?_))))))))
     ·rintro f c3 ⟨n,hm,a6,u⟩
      unfold xC at hm
      refine aC ?_
      rcases aP hm with ⟨x,hm⟩|⟨x,hm⟩
      ·exact aK
      ·refine bF x a6 (aY (aC (aJ (bO [0,3] (fun f w=>∃ y,aDr e y=some p/\f 100=zB y/\aD G K (L) w) aK (aU (aX j (aF (aBR rfl rfl) (aL (v:=zB (decide (0 < e))) ?_))))))))
       rcases aP hm with ⟨c,hm⟩|⟨c,hm⟩
       ·refine gT c rfl rfl (aL (v:=dC a1 d) (gT c rfl rfl (aF (gP rfl b) (gT c rfl rfl (aF (gG (k':=d+3) eX rfl b rfl) (gT c rfl rfl (aF (bX (t:=3) lX u b rfl rfl) (gT c rfl rfl (aX j (gT c rfl rfl (aF (vH rfl rfl) (gT c rfl rfl ?_))))))))))));obtain ⟨c4,z,hm⟩:=aB hm
        refine aF (eC cO rfl h rfl rfl rfl z) ?_;obtain ⟨c6,a8,a9⟩:=bK.el (sz:=3) rfl h z
        cases a9
        refine gT c rfl rfl ?_;obtain ⟨c7,b0,b1,b2,c9⟩:=aD.lendBp u .head
        obtain ⟨d0,b3,hm⟩:=aB hm
        exact aS (vs:=[dC a7 ((wr (e - 1)).toNat * 3+0),dC (some ⟨m,0,none⟩) 0]) call60 rfl (aBv b3 b2 (a8.mono b0) b1) aK
       ·exact aK
     exact aK
    ·exact aK
 exact aK
theorem aGG {n:bB} {b:Nat} {R:Bool} (hm:aGs n=some R) (g:aD G K (L) w) (h:gE K a1 b [zS a4 n.Parts.length c5,zS a7 n.Meetings.length c8,zS a10 n.Allowed.length c11,zS a13 n.Hidden.length c14]) (i:bK K a4 c5 n.Parts) (j:bK K a7 c8 n.Meetings) (k:bK K a10 c11 n.Allowed) (l:bK K a13 c14 n.Hidden):
  Calls prog 14 ([dC a1 b]:List Value).toArray w (dV fun v w'=>v=zB R/\aD G K (L) w'):=by
 refine aO func14 rfl (by kernel_rfl) (by show (1:Nat)<=59;decide) ?_;unfold aGs at hm
 refine aI (aH (v:=zB false) (aG (aJ (aJ (bO [0] (fun f w=>∃ a,rC n a=some R/\f 41=zB a/\aD G K (L) w) ?_ ?_)))))
 ·rintro f m ⟨a,hm,d,o⟩
  unfold rC at hm
  refine aC ?_
  rcases aP hm with ⟨c,hm⟩|⟨c,hm⟩
  ·exact aK
  ·refine bF c d (aY (aC (aJ (aI (aH (v:=i64 0) (aG (aQ [] (fun f w=>aIS=some R/\aD G K (L) w) aK ?_)))))));obtain ⟨p,e,ho⟩:=aB hm
   exact cQ [0] e (fun i32 f w=>f 3=i64 i32/\aD G K (L) w) aK aK
 exact aK
theorem aEI {kind:Int} {R:Bool} (hm:aFa kind=some R) (a:aD G K (L) w):
  Calls prog 15 ([i64 kind]:List Value).toArray w (dV fun v w'=>v=zB R/\aD G K (L) w'):=by
 exact aK
theorem aFC {t:aW} {a:Nat} {R:aW} (hm:aCM t=some R) (h:aD G K (L) w) (j:gE K a1 a (zC t a4 c5 a7 c8)) (k:bK K a4 c5 t.L) (l:bK K a7 c8 t.E):
  Calls prog 61 ([dC a1 a]:List Value).toArray w (dV fun v w'=>∃ b c d e,v=Value.agg (zCa R b c d e)/\aD G K (aM 9 K b c R.L::aM 87 K d e R.E::L) w'):=by
 refine aO func61 rfl (by kernel_rfl) (by show (1:Nat)<=28;decide) ?_;unfold aCM at hm
 refine aI (bH (vs:=zG) zeroValue68 h rfl (fun m n g=>(aG (aJ (fO (C:=fun w'=>∃ L',aD G K L' w') [(0,0),(1,0),(2,0),(3,0),(4,0),(5,0),(6,0),(7,0),(8,0),(9,1),(10,2)] Tryz_mixed (by kernel_rfl) (fun _ hg=>⟨_,aD.mono g hg⟩) (fun o i=>?_))))))
 have p:=aD.mono g i
 exact aK
theorem aFD {n:bB} {k2:Nat} {R:bB} (hm:aEu n=some R) (hs:aD G K (L) w) (x:gE K a1 k2 [zS a4 n.Parts.length c5,zS a7 n.Meetings.length c8,zS a10 n.Allowed.length c11,zS a13 n.Hidden.length c14]) (h6:bK K a4 c5 n.Parts) (h9:bK K a7 c8 n.Meetings) (f1:bK K a10 c11 n.Allowed) (f2:bK K a13 c14 n.Hidden):
  Calls prog 38 ([dC a1 k2]:List Value).toArray w (dV fun v w'=>∃ K' c7 c9 d0 d1 d2 d3 d4 d5,v=Value.agg #[zS c7 R.Parts.length c9,zS d0 R.Meetings.length d1,zS d2 R.Allowed.length d3,zS d4 R.Hidden.length d5]/\Hp.le K K'/\aD G K' (aM 68 K' c7 c9 R.Parts::aM 73 K d0 d1 R.Meetings::aM 9 K d2 d3 R.Allowed::aM 9 K d4 d5 R.Hidden::L) w'):=by
 let k:=[zS none 0 0,zS none 0 0,zS none 0 0,zS none 0 0]
 refine aO func38 rfl (by kernel_rfl) (by show (1:Nat)<=50;decide) ?_;unfold aEu at hm
 refine aI (bH (vs:=k) zeroValue31 hs rfl (fun l k1 f3=>(aG (aI (dI (Kt:=K) (xs:=([]:List aW)) (cs:=[]) (vs:=[]) qM aIQ rfl rfl f3 rfl (by kernel_rfl) rfl rfl rfl trivial (fun a9 f4 (f5:aD G K (aM 68 K a9 0 ([]:List aW)::box l 31 k::L) f4)=>(aF (kT (vs:=[(0,zS a9 ([]:List aW).length 0)]) (cs:=[zS a9 ([]:List aW).length 0,zS none 0 0,zS none 0 0,zS none 0 0]) aKD rfl (by kernel_rfl)) (bH (vs:=k) zeroValue31 f5 rfl (fun m k3 f6=>(cF (i:=0) (ns:=[zS a9 ([]:List aW).length 0,zS none 0 0,zS none 0 0,zS none 0 0]) (us:=[zS a9 ([]:List aW).length 0,zS none 0 0,zS none 0 0,zS none 0 0]) sizeOf31 f6 rfl rfl rfl rfl rfl (eD rfl) rfl rfl (fun f7 (k4:aD G K (box m 31 [zS a9 ([]:List aW).length 0,zS none 0 0,zS none 0 0,zS none 0 0]::aM 68 K a9 0 ([]:List aW)::box l 31 k::L) f7)=>(aG (aJ (aI (aH (v:=i64 0) (aG (aQ [0,2,3] (fun f w=>∃ j a b c,Hp.le K j/\aCc n a=some R/\aD G j (aM 68 j b c a::box m 31 [zS b a.length c,zS none 0 0,zS none 0 0,zS none 0 0]::box l 31 k::L) w) ?_ ?_)))))))))))))))))
 ·rintro f k5 ⟨j,a,b,c,u,hm,f8⟩
  unfold aCc at hm
  refine aC (aI (dI (Kt:=K) (xs:=([]:List aT)) (cs:=[]) (vs:=[]) sV aKE rfl rfl f8 rfl (by kernel_rfl) rfl rfl rfl trivial (fun f9 g0 (d6:aD G j (aM 73 K f9 0 ([]:List aT)::aM 68 j b c a::box m 31 [zS b a.length c,zS none 0 0,zS none 0 0,zS none 0 0]::box l 31 k::L) g0)=>(aL (v:=dC a1 k2) (aF (gP rfl (x.mono u)) (aF (gG (k':=k2+1) aEW rfl (x.mono u) rfl) (aF (bX (t:=1) sc_29 d6 (x.mono u) rfl rfl) ?_)))))))
  obtain ⟨g,g1,hm⟩:=aB hm
  refine aAQ (i:=0) sV underlying29 aKE rfl rfl d6 rfl u (h9.mono u) g1 rfl rfl rfl rfl (fun d e g2 (g3:aD G j (aM 73 K d e g::aM 68 j b c a::box m 31 [zS b a.length c,zS none 0 0,zS none 0 0,zS none 0 0]::box l 31 k::L) g2)=>(aF (bM (t':=1) aEW rfl rfl) (cF (i:=2) (ns:=[zS d g.length e]) (us:=[zS b a.length c,zS d g.length e,zS none 0 0,zS none 0 0]) sizeOf29 g3 rfl rfl rfl rfl rfl (eD rfl) rfl rfl (fun g4 (g5:aD G j (aM 73 K d e g::aM 68 j b c a::box m 31 [zS b a.length c,zS d g.length e,zS none 0 0,zS none 0 0]::box l 31 k::L) g4)=>(aG (aI (dI (Kt:=K) (xs:=([]:List aV)) (cs:=[]) (vs:=[]) gL aEo rfl rfl g5 rfl (by kernel_rfl) rfl rfl rfl trivial (fun g6 g7 (d7:aD G j (aM 9 K g6 0 ([]:List aV)::aM 73 K d e g::aM 68 j b c a::box m 31 [zS b a.length c,zS d g.length e,zS none 0 0,zS none 0 0]::box l 31 k::L) g7)=>(aL (v:=dC a1 k2) (aF (gP rfl (x.mono u)) (aF (gG (k':=k2+2) aGn rfl (x.mono u) rfl) (aF (bX (t:=2) aBU d7 (x.mono u) rfl rfl) ?_))))))))))))
  obtain ⟨q,g8,hm⟩:=aB hm
  refine aAQ (i:=0) gL underlying24 aEo rfl rfl d7 rfl u (f1.mono u) g8 rfl rfl rfl rfl (fun o p g9 (h0:aD G j (aM 9 K o p q::aM 73 K d e g::aM 68 j b c a::box m 31 [zS b a.length c,zS d g.length e,zS none 0 0,zS none 0 0]::box l 31 k::L) g9)=>(aF (bM (t':=2) aGn rfl rfl) (cF (i:=3) (ns:=[zS o q.length p]) (us:=[zS b a.length c,zS d g.length e,zS o q.length p,zS none 0 0]) sizeOf24 h0 rfl rfl rfl rfl rfl (eD rfl) rfl rfl (fun h1 (h2:aD G j (aM 9 K o p q::aM 73 K d e g::aM 68 j b c a::box m 31 [zS b a.length c,zS d g.length e,zS o q.length p,zS none 0 0]::box l 31 k::L) h1)=>(aG (aI (dI (Kt:=K) (xs:=([]:List aV)) (cs:=[]) (vs:=[]) gL aEo rfl rfl h2 rfl (by kernel_rfl) rfl rfl rfl trivial (fun h4 h5 (d8:aD G j (aM 9 K h4 0 ([]:List aV)::aM 9 K o p q::aM 73 K d e g::aM 68 j b c a::box m 31 [zS b a.length c,zS d g.length e,zS o q.length p,zS none 0 0]::box l 31 k::L) h5)=>(aL (v:=dC a1 k2) (aF (gP rfl (x.mono u)) (aF (gG (k':=k2+3) aIt rfl (x.mono u) rfl) (aF (bX (t:=3) aBU d8 (x.mono u) rfl rfl) ?_))))))))))))
  obtain ⟨a5,h7,hm⟩:=aB hm
  refine aAQ (i:=0) gL underlying24 aEo rfl rfl d8 rfl u (f2.mono u) h7 rfl rfl rfl rfl (fun y z h8 (i0:aD G j (aM 9 K y z a5::aM 9 K o p q::aM 73 K d e g::aM 68 j b c a::box m 31 [zS b a.length c,zS d g.length e,zS o q.length p,zS none 0 0]::box l 31 k::L) h8)=>(aF (bM (t':=3) aIt rfl rfl) (cF (i:=4) (ns:=[zS y a5.length z]) (us:=[zS b a.length c,zS d g.length e,zS o q.length p,zS y a5.length z]) sizeOf24 i0 rfl rfl rfl rfl rfl (eD rfl) rfl rfl (fun i1 (d9:aD G j (aM 9 K y z a5::aM 9 K o p q::aM 73 K d e g::aM 68 j b c a::box m 31 [zS b a.length c,zS d g.length e,zS o q.length p,zS y a5.length z]::box l 31 k::L) i1)=>(aG (aI (aF (gH (us:=[zS b a.length c,zS d g.length e,zS o q.length p,zS y a5.length z]) qN d9 (i:=4) rfl rfl rfl rfl) (cF (i:=5) (ns:=[zS b a.length c,zS d g.length e,zS o q.length p,zS y a5.length z]) (us:=[zS b a.length c,zS d g.length e,zS o q.length p,zS y a5.length z]) sizeOf31 d9 rfl rfl rfl rfl rfl (eD rfl) rfl rfl (fun i2 (e0:aD G j (aM 9 K y z a5::aM 9 K o p q::aM 73 K d e g::aM 68 j b c a::box m 31 [zS b a.length c,zS d g.length e,zS o q.length p,zS y a5.length z]::box l 31 [zS b a.length c,zS d g.length e,zS o q.length p,zS y a5.length z]::L) i2)=>(aG ?_))))))))))
  obtain rfl:=zI hm
  exact lC (aIn results38 (vI (vs:=[zS b a.length c,zS d g.length e,zS o q.length p,zS y a5.length z]) rfl qN e0 (i:=5) rfl rfl rfl) ⟨j,b,c,d,e,o,p,y,z,rfl,u,(aD.arr 6 [3,2,1,0] e0 rfl)⟩)
 obtain ⟨k6,i4,ho⟩:=aB hm
 refine bN [0,2,3] i4 (fun J b6 f w=>∃ a6 V a0,Hp.le K a6/\f 4=i64 b6/\aD G a6 (box m 31 [zS V J.length a0,zS none 0 0,zS none 0 0,zS none 0 0]::aM 68 a6 V a0 J::box l 31 k::L) w) aK ?_
 ·rintro J b6 k7 f i5 hm hr ⟨a6,V,a0,a2,c0,e1⟩
  unfold oL at hm
  refine aJ (aI (aX c0 (aL (v:=dC a1 k2) (aF (gP rfl (x.mono a2)) (aF (gG (k':=k2+0) vJ rfl (x.mono a2) rfl) (aF (bX (t:=0) aGm e1 (x.mono a2) rfl rfl) (aF (bE (len:=n.Parts.length) qM rfl) (aF (cE rfl rfl) (aG ?_)))))))))
  rcases aP hm with ⟨e2,hm⟩|⟨e2,hm⟩
  ·refine aR e2 rfl (aY (aC (aJ (cB ?_))))
   have e3:aD G a6 (box m 31 [zS V J.length a0,zS none 0 0,zS none 0 0,zS none 0 0]::aM 68 a6 V a0 J::box l 31 k::L) i5:=e1
   refine fO (C:=fun w'=>∃ L',aD G a6 (box m 31 [zS V J.length a0,zS none 0 0,zS none 0 0,zS none 0 0]::L') w') [(0,0),(1,0),(2,0),(3,0),(4,0),(5,0),(6,0),(7,0),(8,1),(9,1),(10,1),(11,0),(12,2)] Tryz_mixed (by kernel_rfl) (fun _ hg=>⟨_,aD.mono e3 hg⟩) (fun k8 i6=>?_)
   have b2:=aD.mono e3 i6
   refine bS rfl (fun _ _=>bM (t':=0) vJ rfl rfl) (bS rfl (fun _ ⟨_,b2⟩=>fF aGm b2 (i:=0) rfl rfl rfl) (bS rfl (fun _ _=>bL (v:=dC a1 k2) rfl) (bS rfl (fun _ _=>gP rfl (x.mono a2)) (bS rfl (fun _ _=>gG (k':=k2+0) vJ rfl (x.mono a2) rfl) (bS rfl (fun _ ⟨_,b2⟩=>bX (t:=0) aGm b2 (x.mono a2) rfl rfl) (bS rfl (fun _ _=>bL c0) ?_))))));obtain ⟨k9,e4,hm⟩:=aB hm
   refine bS rfl (fun _ _=>eC qM rfl (h6.mono a2) rfl rfl rfl e4) ?_;obtain ⟨l0,i7,i8⟩:=bK.el (sz:=4) rfl h6 e4
   obtain ⟨l1,l2,l3,l4,rfl,i9,j0⟩:=i8
   refine qX rfl ?_;obtain ⟨r,j1,hm⟩:=aB hm
   refine aS (vs:=[dC a4 (b6.toNat * 4+0)]) call61 rfl (aFC j1 b2 (i7.mono a2) (i9.mono a2) (j0.mono a2)) ?_
   rintro _ e5 ⟨c1,c2,b7,b8,rfl,e6⟩
   refine bG (aC ⟨⟨_,(aD.arr 3 [2,0,1] e6 rfl)⟩,?_⟩)
   refine qX rfl ?_;obtain ⟨j2,b3,j3,c3⟩:=aD.giveSp e6 a2 .head
   replace c3:aD G j2 (aM 87 K b7 b8 r.E::box m 31 [zS V J.length a0,zS none 0 0,zS none 0 0,zS none 0 0]::aM 68 a6 V a0 J::box l 31 k::L) e5:=c3
   obtain ⟨a8,b4,j4,c4⟩:=aD.giveSp c3 (zL a2 b3) .head
   replace c4:aD G a8 (box m 31 [zS V J.length a0,zS none 0 0,zS none 0 0,zS none 0 0]::aM 68 a6 V a0 J::box l 31 k::L) e5:=c4
   refine dI (Kt:=a8) (xs:=([⟨r.N,r.I,r.L,r.E⟩]:List aW)) (cs:=(zC r c1 c2 b7 b8)) (vs:=[(0,Value.agg (zCa r c1 c2 b7 b8))]) qM aIQ rfl rfl c4 rfl (by kernel_rfl) rfl rfl rfl ⟨⟨c1,c2,b7,b8,rfl,(j3.mono b4),j4⟩,trivial⟩ (fun j5 j6 (e7:aD G a8 (aM 68 a8 j5 1 ([⟨r.N,r.I,r.L,r.E⟩]:List aW)::box m 31 [zS V J.length a0,zS none 0 0,zS none 0 0,zS none 0 0]::aM 68 a6 V a0 J::box l 31 k::L) j6)=>(bG (aC ⟨⟨_,(aD.weakK (aD.arr 2 [1,0] e7 rfl) (zL b3 b4))⟩,?_⟩)))
   refine qX rfl ?_;obtain ⟨b5,j7,hm⟩:=aB hm
   refine WO_appO (i:=1) a8 qM underlying28 aIQ rfl rfl e7 rfl (zL b3 b4) (Hp.le_refl _) j7 rfl rfl rfl rfl (fun _ _ _ h=>El.one h) (fun b0 b1 j8 (e8:aD G a8 (box m 31 [zS V J.length a0,zS none 0 0,zS none 0 0,zS none 0 0]::aM 68 a8 b0 b1 b5::box l 31 k::L) j8)=>(bG (aC ⟨⟨_,(aD.weakK e8 (zL b3 b4))⟩,?_⟩)))
   exact bS rfl (fun _ _=>bM (t':=0) vJ rfl rfl) (WE_s rfl (cF (i:=0) (ns:=[zS b0 b5.length b1]) (us:=[zS b0 b5.length b1,zS none 0 0,zS none 0 0,zS none 0 0]) sizeOf28 e8 rfl rfl rfl rfl rfl (eD rfl) rfl rfl (fun j9 (k0:aD G a8 (box m 31 [zS b0 b5.length b1,zS none 0 0,zS none 0 0,zS none 0 0]::aM 68 a8 b0 b1 b5::box l 31 k::L) j9)=>(aG (wY (cU (aC (aU (aX c0 (aF (cW rfl rfl) (aH (v:=i64 (wr (b6+1))) (aG ⟨_,(zI hm).symm,bZ,a8,b0,b1,(zL (zL a2 b3) b4),rfl,k0⟩))))))))))))
  ·exact aK
theorem uC {a:(List Int)} {n R:Int} (hm:uI a n=some R) (d:aD G K (L) w) (e:bK K a1 c2 a):
  Calls prog 101 ([zS a1 a.length c2,i64 n]:List Value).toArray w (dV fun v w'=>v=i64 R/\aD G K (L) w'):=by
 refine aO func101 rfl (by kernel_rfl) (by show (2:Nat)<=19;decide) ?_;unfold uI at hm
 refine aI (aH (v:=i64 0) (aG (aJ (aI (aH (v:=i64 0) (aG (aQ [] (fun f w=>aFt=some R/\aD G K (L) w) aK ?_)))))));obtain ⟨g,b,ho⟩:=aB hm
 exact cQ [0,1] b (fun c f w=>f 5=i64 c/\aD G K (L) w) aK aK
theorem aEJ {t:aW} {q:Nat} {a:(List Int)} {R:aW} (hm:aCN t a=some R) (hs:aD G K (L) w) (k:gE K a1 q (zC t a4 c5 a7 c8)) (h6:bK K a4 c5 t.L) (h9:bK K a7 c8 t.E) (a2:bK K a10 c11 a):
  Calls prog 79 ([dC a1 q,zS a10 a.length c11]:List Value).toArray w (dV fun v w'=>∃ a8 a9 b0 b1,v=Value.agg (zCa R a8 a9 b0 b1)/\aD G K (aM 9 K a8 a9 R.L::aM 87 K b0 b1 R.E::L) w'):=by
 let h:=zG
 refine aO func79 rfl (by kernel_rfl) (by show (2:Nat)<=66;decide) ?_;unfold aCN at hm
 refine aI (bH (vs:=h) zeroValue68 hs rfl (fun l f1 b2=>(aG (aI (aL (v:=zS a10 a.length c11) (aF (bE (len:=a.length) bC rfl) (aL (v:=zS a10 a.length c11) (aL (v:=dC a1 q) (aF (gP rfl k) (aF (gG (k':=q+1) aBV rfl k rfl) (aF (bX (t:=1) eZ b2 k rfl rfl) ?_)))))))))));obtain ⟨g,c4,hm⟩:=aB hm
 refine aS (vs:=[zS a10 a.length c11,i64 t.I]) call101 rfl (uC c4 b2 a2) ?_
 rintro _ f2 ⟨rfl,c6⟩
 refine dI (Kt:=K) (xs:=([]:List Edge)) (cs:=[]) (vs:=[]) cO aAb rfl rfl c6 rfl (by kernel_rfl) rfl rfl rfl trivial (fun j c7 (c9:aD G K (aM 87 K j 0 ([]:List Edge)::box l 68 h::L) c7)=>(aF (kT (vs:=[(0,i64 (a.length:Int)),(1,i64 g),(3,zS j ([]:List Edge).length 0)]) (cs:=[i64 (a.length:Int),i64 g,zS none 0 0,zS j ([]:List Edge).length 0]) aFq rfl (by kernel_rfl)) (bH (vs:=h) zeroValue68 c9 rfl (fun n f3 d0=>(cF (i:=0) (ns:=[i64 (a.length:Int),i64 g,zS none 0 0,zS j ([]:List Edge).length 0]) (us:=[i64 (a.length:Int),i64 g,zS none 0 0,zS j ([]:List Edge).length 0]) sizeOf68 d0 rfl rfl rfl rfl rfl (eD rfl) rfl rfl (fun d1 (d2:aD G K (box n 68 [i64 (a.length:Int),i64 g,zS none 0 0,zS j ([]:List Edge).length 0]::aM 87 K j 0 ([]:List Edge)::box l 68 h::L) d1)=>(aG (aI (dI (Kt:=K) (xs:=([]:List aV)) (cs:=[]) (vs:=[]) gL aEo rfl rfl d2 rfl (by kernel_rfl) rfl rfl rfl trivial (fun d3 d4 (b3:aD G K (aM 9 K d3 0 ([]:List aV)::box n 68 [i64 (a.length:Int),i64 g,zS none 0 0,zS j ([]:List Edge).length 0]::aM 87 K j 0 ([]:List Edge)::box l 68 h::L) d4)=>(aL (v:=dC a1 q) (aF (gP rfl k) (aF (gG (k':=q+2) aAp rfl k rfl) (aF (bX (t:=2) aBU b3 k rfl rfl) ?_))))))))))))))
 obtain ⟨c,d5,hm⟩:=aB hm
 refine aAQ (i:=0) gL underlying24 aEo rfl rfl b3 rfl (Hp.le_refl _) h6 d5 rfl rfl rfl rfl (fun d e d6 (d7:aD G K (aM 9 K d e c::box n 68 [i64 (a.length:Int),i64 g,zS none 0 0,zS j ([]:List Edge).length 0]::aM 87 K j 0 ([]:List Edge)::box l 68 h::L) d6)=>(aF (bM (t':=2) aAp rfl rfl) (cF (i:=1) (ns:=[zS d c.length e]) (us:=[i64 (a.length:Int),i64 g,zS d c.length e,zS j ([]:List Edge).length 0]) sizeOf24 d7 rfl rfl rfl rfl rfl (eD rfl) rfl rfl (fun d8 (f4:aD G K (aM 9 K d e c::box n 68 [i64 (a.length:Int),i64 g,zS d c.length e,zS j ([]:List Edge).length 0]::aM 87 K j 0 ([]:List Edge)::box l 68 h::L) d8)=>(aG (aJ (aI (aH (v:=i64 0) (aG (aQ [4,5] (fun f w=>∃ a3 b4 b5,aGt a g c a3=some R/\aD G K (aM 87 K b4 b5 a3::aM 9 K d e c::box n 68 [i64 (a.length:Int),i64 g,zS d c.length e,zS b4 a3.length b5]::box l 68 h::L) w) aK ?_))))))))))
 obtain ⟨f5,d9,ho⟩:=aB hm
 refine bN [0,1,4,5] d9 (fun m u f w=>∃ o p,f 6=i64 u/\aD G K (aM 9 K d e c::box n 68 [i64 (a.length:Int),i64 g,zS d c.length e,zS o m.length p]::aM 87 K o p m::box l 68 h::L) w) aK ?_
 ·rintro m u b6 f f6 hm hr ⟨o,p,a5,y⟩
  unfold sE at hm
  refine aJ (aI (aX a5 (aL (v:=dC a1 q) (aF (gP rfl k) (aF (gG (k':=q+3) eX rfl k rfl) (aF (bX (t:=3) lX y k rfl rfl) (aF (bE (len:=t.E.length) cO rfl) (aF (cE rfl rfl) (aG ?_)))))))))
  rcases aP hm with ⟨b7,hm⟩|⟨b7,hm⟩
  ·refine aR b7 rfl (aY (aC (aJ (aQ [0,1,4,5,6] (fun f w=>∃ z J V,oU u z=some b6/\aD G K (aM 87 K J V z::aM 9 K d e c::box n 68 [i64 (a.length:Int),i64 g,zS d c.length e,zS J z.length V]::box l 68 h::L) w) ?_ ?_))))
   ·rintro f f7 ⟨z,J,V,hm,e0⟩
    unfold oU at hm
    exact aC (aU (aX a5 (aF (cW rfl rfl) (aH (v:=i64 (wr (u+1))) (aG ⟨_,(zI hm).symm,bZ,J,V,rfl,(aD.arr 3 [1,2,0] e0 rfl)⟩)))))
   refine aI (aL (v:=dC a1 q) (aF (gP rfl k) (aF (gG (k':=q+3) eX rfl k rfl) (aF (bX (t:=3) lX y k rfl rfl) (aX a5 ?_)))));obtain ⟨b,b8,hm⟩:=aB hm
   refine aF (eC cO rfl h9 rfl rfl rfl b8) ?_;obtain ⟨f8,e1,e2⟩:=bK.el (sz:=3) rfl h9 b8
   cases e2
   refine aF (gQ (t:=0) (vs:=[i64 b.F,i64 b.B,i64 b.To]) nU y e1 rfl rfl rfl) (bH (vs:=[i64 0,i64 0,i64 0]) zeroValue87 y rfl (fun a0 f9 e3=>(cF (i:=0) (ns:=[i64 b.F,i64 b.B,i64 b.To]) (us:=[i64 b.F,i64 b.B,i64 b.To]) sizeOf87 e3 rfl rfl rfl rfl rfl (eD rfl) rfl rfl (fun e4 (b9:aD G K (box a0 87 [i64 b.F,i64 b.B,i64 b.To]::aM 9 K d e c::box n 68 [i64 (a.length:Int),i64 g,zS d c.length e,zS o m.length p]::aM 87 K o p m::box l 68 h::L) e4)=>(aG (aI (aL (v:=zS a10 a.length c11) (aF (bM (t':=0) qK rfl rfl) (aF (fF eZ b9 (i:=0) rfl rfl rfl) ?_)))))))))
   obtain ⟨r,e5,hm⟩:=aB hm
   refine aS (vs:=[zS a10 a.length c11,i64 b.F]) call101 rfl (uC e5 b9 a2) ?_
   rintro _ g0 ⟨rfl,e6⟩
   refine aF (bM (t':=0) qK rfl rfl) (cF (i:=0) (ns:=[i64 r]) (us:=[i64 r,i64 b.B,i64 b.To]) sizeOf2 e6 rfl rfl rfl rfl rfl (eD rfl) rfl rfl (fun e7 (c0:aD G K (box a0 87 [i64 r,i64 b.B,i64 b.To]::aM 9 K d e c::box n 68 [i64 (a.length:Int),i64 g,zS d c.length e,zS o m.length p]::aM 87 K o p m::box l 68 h::L) e7)=>(aG (aI (aL (v:=zS a10 a.length c11) (aF (bM (t':=2) qL rfl rfl) (aF (fF eZ c0 (i:=0) rfl rfl rfl) ?_)))))))
   obtain ⟨x,e8,hm⟩:=aB hm
   refine aS (vs:=[zS a10 a.length c11,i64 b.To]) call101 rfl (uC e8 c0 a2) ?_
   rintro _ g1 ⟨rfl,e9⟩
   exact aF (bM (t':=2) qL rfl rfl) (cF (i:=0) (ns:=[i64 x]) (us:=[i64 r,i64 b.B,i64 x]) sizeOf2 e9 rfl rfl rfl rfl rfl (eD rfl) rfl rfl (fun f0 (g2:aD G K (box a0 87 [i64 r,i64 b.B,i64 x]::aM 9 K d e c::box n 68 [i64 (a.length:Int),i64 g,zS d c.length e,zS o m.length p]::aM 87 K o p m::box l 68 h::L) f0)=>(aG (aJ (bO [0,1,4,5,6,7] (fun f w=>∃ c1,sD m u b r x c1=some b6/\f 58=zB c1/\aD G K (box a0 87 [i64 r,i64 b.B,i64 x]::aM 9 K d e c::box n 68 [i64 (a.length:Int),i64 g,zS d c.length e,zS o m.length p]::aM 87 K o p m::box l 68 h::L) w) aK aK)))))
  ·exact aK
end Gv
