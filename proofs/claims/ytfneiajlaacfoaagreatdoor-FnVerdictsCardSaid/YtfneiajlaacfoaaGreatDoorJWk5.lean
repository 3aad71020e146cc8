/- Walks, printed by program. -/
import Derived.Test.YtfneiajlaacfoaaGreatDoorJWk3
set_option linter.all false
namespace Gv
open Gv.Hp renaming le_refl→zR
open Go.Value renaming slice→zS,bool→zB,agg→zA,tuple→zT
open Option.some renaming inj→zI
open Go Go.Proofs Go.Proofs.Tryz
set_option maxRecDepth 20000
set_option maxHeartbeats 40000000
variable {G:rY} {K:Hp} {L:List fD} {w:World} {a1 a4 a7 a2 a10:Option Addr} {c2 c5 c8 b1 c3 c11:Nat}
theorem qQ {n:aO} {R:Bool} (hm:lD n=some R) (b:aE G K (L) w):
  Calls prog 103 ([zA #[i64 n.Kind,i64 n.Variable,str n.B,zB n.Not]]:List Value).toArray w (dQ fun v w'=>v=zB R/\aE G K (L) w'):=by
 refine aN func103 rfl (by kernel_rfl) (by show (1:Nat)<=11;decide) ?_;unfold lD at hm
 exact aL (gO (v:=zA #[i64 n.Kind,i64 n.Variable,str n.B,zB n.Not]) (vs:=[i64 n.Kind,i64 n.Variable,str n.B,zB n.Not]) b rfl rfl (fun c d e=>(aH (v:=zB false) (aI (aJ (bD [] (fun f w=>∃ a,nW a=some R/\f 2=zB a/\aE G K (L) w) aM aM))))))
theorem tV {a b:aF} {R:(aF × Bool)} (hm:iV a b=some R) (c:aE G K (L) w):
  Calls prog 167 ([str a,str b]:List Value).toArray w (dQ fun v w'=>v=zT #[str R.1,zB R.2]/\aE G K (L) w'):=by
 exact aM
theorem oR {a b:aF} {R:(aF × Bool)} (hm:gR a b=some R) (c:aE G K (L) w):
  Calls prog 137 ([str a,str b]:List Value).toArray w (dQ fun v w'=>v=zT #[str R.1,zB R.2]/\aE G K (L) w'):=by
 exact aM
theorem aHD {a:aF} {R:Bool} (hm:pW a=some R) (d:aE G K (L) w) (g:G.lo=0):
  Calls prog 136 ([str a]:List Value).toArray w (dQ fun v w'=>v=zB R/\aE G K (L) w'):=by
 refine aN func136 rfl (by kernel_rfl) (by show (1:Nat)<=23;decide) ?_;unfold pW at hm
 refine aL (aH (v:=zB false) (aI (aL (aG (v:=str a) ?_))));obtain ⟨b,e,hm⟩:=aB hm
 refine aP (vs:=[str a,str ([42]:aF)]) call137 rfl (oR e d) ?_
 rintro _ h ⟨rfl,i⟩
 exact aG (v:=zT #[str b.1,zB b.2]) (aD (bW rfl rfl) (aD (bW rfl rfl) (aH (v:=str b.1) (aH (v:=zB b.2) (aI (aJ (bD [] (fun f w=>∃ c,mT c=some R/\f 2=zB c/\aE G K (L) w) aM aM)))))))
theorem aFe {n:aO} {R:Bool} (hm:lH n=some R) (e:aE G K (L) w) (h:G.lo=0):
  Calls prog 98 ([zA #[i64 n.Kind,i64 n.Variable,str n.B,zB n.Not]]:List Value).toArray w (dQ fun v w'=>v=zB R/\aE G K (L) w'):=by
 let a:=[i64 n.Kind,i64 n.Variable,str n.B,zB n.Not]
 refine aN func98 rfl (by kernel_rfl) (by show (1:Nat)<=16;decide) ?_;unfold lH at hm
 refine aL (gO (v:=zA #[i64 n.Kind,i64 n.Variable,str n.B,zB n.Not]) (vs:=a) e rfl rfl (fun j k b=>(aH (v:=zB false) (aI (aJ (aL (aD (pB (us:=a) aEI b (i:=0) rfl rfl rfl rfl) ?_)))))));obtain ⟨l,g,hm⟩:=aB hm
 refine aP (vs:=[zA #[i64 n.Kind,i64 n.Variable,str n.B,zB n.Not]]) call103 rfl (qQ g b) ?_
 rintro _ m ⟨rfl,o⟩
 refine aI ?_
 rcases aK hm with ⟨c,hm⟩|⟨c,hm⟩
 ·exact aM
 ·exact aT c rfl (aW (aC (aJ (bD [] (fun f w=>∃ d,qG d=some R/\f 2=zB d/\aE G K (L) w) aM aM))))
theorem aAy {n:aO} {R:Bool} (hm:iW n=some R) (b:aE G K (L) w):
  Calls prog 106 ([zA #[i64 n.Kind,i64 n.Variable,str n.B,zB n.Not]]:List Value).toArray w (dQ fun v w'=>v=zB R/\aE G K (L) w'):=by
 refine aN func106 rfl (by kernel_rfl) (by show (1:Nat)<=11;decide) ?_;unfold iW at hm
 exact aL (gO (v:=zA #[i64 n.Kind,i64 n.Variable,str n.B,zB n.Not]) (vs:=[i64 n.Kind,i64 n.Variable,str n.B,zB n.Not]) b rfl rfl (fun c d e=>(aH (v:=zB false) (aI (aJ (bD [] (fun f w=>∃ a,sD a=some R/\f 2=zB a/\aE G K (L) w) aM aM))))))
theorem aFK {n:aO} {R:Bool} (hm:pK n=some R) (c:aE G K (L) w):
  Calls prog 99 ([zA #[i64 n.Kind,i64 n.Variable,str n.B,zB n.Not]]:List Value).toArray w (dQ fun v w'=>v=zB R/\aE G K (L) w'):=by
 let a:=[i64 n.Kind,i64 n.Variable,str n.B,zB n.Not]
 refine aN func99 rfl (by kernel_rfl) (by show (1:Nat)<=16;decide) ?_;unfold pK at hm
 exact aL (gO (v:=zA #[i64 n.Kind,i64 n.Variable,str n.B,zB n.Not]) (vs:=a) c rfl rfl (fun d e g=>(aH (v:=zB false) (aI (aJ (aJ (bD [1] (fun f w=>∃ b,nX n b=some R/\f 9=zB b/\aE G K (box d 55 a::L) w) aM aM)))))))
theorem aHb {a:(List aO)} {k R:Int} (hm:kI a k=some R) (g:aE G K (L) w) (h:bL K a1 c2 a):
  Calls prog 112 ([zS a1 a.length c2,i64 k]:List Value).toArray w (dQ fun v w'=>v=i64 R/\aE G K (L) w'):=by
 refine aN func112 rfl (by kernel_rfl) (by show (2:Nat)<=19;decide) ?_;unfold kI at hm
 refine aL (aH (v:=i64 0) (aI (aJ (aL (aH (v:=i64 1) (aI (aR [] (fun f w=>∃ b,aAn b=some R/\f 1=i64 b/\aE G K (L) w) aM ?_)))))));obtain ⟨i,c,ho⟩:=aB hm
 exact bX [0] c (fun d e f w=>f 1=i64 d/\f 5=i64 e/\aE G K (L) w) aM aM
theorem aFZ {a:(List aO)} {k R:Int} (hm:pL a k=some R) (i:aE G K (L) w) (j:bL K a1 c2 a):
  Calls prog 100 ([zS a1 a.length c2,i64 k]:List Value).toArray w (dQ fun v w'=>v=i64 R/\aE G K (L) w'):=by
 refine aN func100 rfl (by kernel_rfl) (by show (2:Nat)<=38;decide) ?_;unfold pL at hm
 refine aL (aH (v:=i64 0) (aI (aJ (aL (aG (v:=i64 k) (aD (pT rfl rfl) (aH (v:=i64 (wr (k - 1))) (aI (aR [] (fun f w=>aHX=some R/\aE G K (L) w) aM ?_)))))))));obtain ⟨l,e,ho⟩:=aB hm
 refine dY [0,1] e (fun b f w=>f 5=i64 b/\aE G K (L) w) aM ?_
 ·rintro b g f m hm hr ⟨h,n⟩
  unfold eF at hm
  refine aJ (aL (bI h (aD (R_geq rfl rfl) (aI ?_))))
  rcases aK hm with ⟨c,hm⟩|⟨c,hm⟩
  ·exact aQ c rfl (aW (aC (aJ (cD (aJ (bD [0,1,5] (fun f w=>∃ d,lZ b d=some g/\f 36=zB d/\aE G K (L) w) aM aM))))))
  ·exact aM
theorem aFL {b:(List aO)} {R:Bool} (hm:mU b=some R) (z:aE G K (L) w) (J:G.lo=0) (g:bL K a1 c2 b):
  Calls prog 49 ([zS a1 b.length c2]:List Value).toArray w (dQ fun v w'=>v=zB R/\aE G K (L) w'):=by
 refine aN func49 rfl (by kernel_rfl) (by show (1:Nat)<=47;decide) ?_;unfold mU at hm
 refine aL (aH (v:=zB false) (aI (aJ (aJ (bD [0] (fun f w=>∃ d,nY b d=some R/\f 13=zB d/\aE G K (L) w) ?_ ?_)))))
 ·rintro f Z ⟨d,hm,n,a0⟩
  unfold nY at hm
  refine aC ?_
  rcases aK hm with ⟨h,hm⟩|⟨h,hm⟩
  ·exact aM
  ·refine aT h n (aW (aC (aJ (aL (aG (v:=zS a1 b.length c2) (aD (bF (len:=b.length) fQ rfl) (aG (v:=i64 0) (aI (aR [] (fun f w=>aCs=some R/\aE G K (L) w) aM ?_)))))))));obtain ⟨a2,o,ho⟩:=aB hm
   refine dY [0,14,15] o (fun c f w=>f 16=i64 c/\aE G K (L) w) aM ?_
   ·rintro c p f a3 hm hr ⟨e,j⟩
    unfold gV at hm
    refine aL (aD (cW e rfl) (aI (aJ ?_)))
    rcases aK hm with ⟨k,hm⟩|⟨k,hm⟩
    ·refine aQ k rfl (aW (aC (aJ (cD (aL (bI e ?_))))));obtain ⟨a,l,hm⟩:=aB hm
     refine aD (dD fQ rfl g rfl rfl e l) ?_;obtain ⟨a4,q,r⟩:=bL.el (sz:=4) rfl g l
     cases r
     exact aD (lV (t:=0) (vs:=[i64 a.Kind,i64 a.Variable,str a.B,zB a.Not]) aEI j q rfl rfl rfl) (cT (vs:=[i64 0,i64 0,str ([]:aF),zB false]) zeroValue55 j rfl (fun u a5 x=>(aH (v:=i64 c) (eW (i:=0) (ns:=[i64 a.Kind,i64 a.Variable,str a.B,zB a.Not]) (us:=[i64 a.Kind,i64 a.Variable,str a.B,zB a.Not]) sizeOf55 x rfl rfl rfl rfl rfl (gH rfl) rfl rfl (fun y (a6:aE G K (box u 55 [i64 a.Kind,i64 a.Variable,str a.B,zB a.Not]::L) y)=>(aI (aJ (bD [0,14,15,16] (fun f w=>∃ m,gU c m=some p/\f 45=zB m/\aE G K (L) w) aM aM))))))))
    ·exact aM
 exact aM
theorem xY {a:(List aO)} {R:Bool} (hm:yK a=some R) (b:aE G K (L) w) (c:G.lo=0) (d:bL K a1 c2 a):
  Calls prog 48 ([zS a1 a.length c2]:List Value).toArray w (dQ fun v w'=>v=zB R/\aE G K (L) w'):=by
 exact aM
theorem mX {a:(List (List aO))} {R:Int} (hm:cJ a=some R) (r:aE G K (L) w) (l:G.lo=0) (c:bL K a1 c2 a):
  Calls prog 96 ([zS a1 a.length c2,Value.func (.func 48) #[] #[]]:List Value).toArray w (dQ fun v w'=>v=i64 R/\aE G K (L) w'):=by
 refine aN func96 rfl (by kernel_rfl) (by show (2:Nat)<=19;decide) ?_;unfold cJ at hm
 refine aL (aH (v:=i64 0) (aI (aJ (aL (aG (v:=zS a1 a.length c2) (aD (bF (len:=a.length) aIZ rfl) (aG (v:=i64 0) (aI (aR [] (fun f w=>gL=some R/\aE G K (L) w) aM ?_)))))))));obtain ⟨u,m,ho⟩:=aB hm
 refine dY [0,1,7] m (fun b f w=>f 8=i64 b/\aE G K (L) w) aM ?_
 ·rintro b x f y hm hr ⟨d,e⟩
  unfold bR at hm
  refine aL (aD (cW d rfl) (aI (aJ ?_)))
  rcases aK hm with ⟨g,hm⟩|⟨g,hm⟩
  ·refine aQ g rfl (aW (aC (aJ (cD (aL (bI d (aH (v:=i64 b) (aI (aL (aG (v:=Value.func (.func 48) #[] #[]) (aG (v:=zS a1 a.length c2) (aG (v:=i64 b) ?_))))))))))));obtain ⟨h,i,hm⟩:=aB hm
   refine aD (dD aIZ rfl c rfl rfl rfl i) ?_;obtain ⟨z,n,o⟩:=bL.el (sz:=1) rfl c i
   obtain ⟨j,k,rfl,p⟩:=o
   refine aD (bG (t:=0) sc_24 e n rfl rfl) ?_;obtain ⟨J,q,hm⟩:=aB hm
   exact lM (vs:=[zS j h.length k]) (caps:=[]) (us:=[zS j h.length k]) rfl call48 rfl rfl (xY q e l p) aM
  ·exact aM
theorem lT {a:(List (List aO))} {R:Bool} (hm:eA a=some R) (b:aE G K (L) w) (c:G.lo=0) (d:bL K a1 c2 a):
  Calls prog 47 ([zS a1 a.length c2,Value.func (.func 48) #[] #[]]:List Value).toArray w (dQ fun v w'=>v=zB R/\aE G K (L) w'):=by
 exact aM
theorem vP {t:cR} {a:(List (List aO))} {R:Int} (hm:oN t a=some R) (c:aE G K (L) w) (d:G.lo=0) (e:bL K a1 c2 t.L) (g:bL K a4 c5 t.E) (h:bL K a7 c8 a):
  Calls prog 20 ([zA (zCa t a1 c2 a4 c5),zS a7 a.length c8]:List Value).toArray w (dQ fun v w'=>v=i64 R/\aE G K (L) w'):=by
 refine aN func20 rfl (by kernel_rfl) (by show (2:Nat)<=12;decide) ?_;unfold oN at hm
 exact aL (gO (v:=zA (zCa t a1 c2 a4 c5)) (vs:=(zC t a1 c2 a4 c5)) c rfl rfl (fun i j k=>(aH (v:=i64 0) (aI (aJ (aJ (bD [] (fun f w=>∃ b,yL b=some R/\f 11=zB b/\aE G K (L) w) aM aM)))))))
theorem kL {is:Bool} {R:Int} (hm:vB is=some R) (a:aE G K (L) w):
  Calls prog 67 ([zB is]:List Value).toArray w (dQ fun v w'=>v=i64 R/\aE G K (L) w'):=by
 exact aM
theorem aCB {b:(List aO)} {k:Int} {R:(List Int)} (hm:hX b k=some R) (d:aE G K (L) w) (e:bL K a1 c2 b):
  Calls prog 101 ([zS a1 b.length c2,i64 k]:List Value).toArray w (dQ fun v w'=>∃ g h,v=zS g R.length h/\aE G K (own 3 K g h R::L) w'):=by
 refine aN func101 rfl (by kernel_rfl) (by show (2:Nat)<=25;decide) ?_;unfold hX at hm
 refine aL (aH (v:=zS none 0 0) (aI (aL (aH (v:=zS none 0 0) (aI (aL (aG (v:=i64 k) (aD (dA rfl rfl) (aH (v:=i64 (wr (k+1))) (aI (aJ (aL (aG (v:=zS a1 b.length c2) (aG (v:=i64 k) ?_))))))))))))));obtain ⟨a,i,hm⟩:=aB hm
 refine aD (dD fQ rfl e rfl rfl rfl i) ?_;obtain ⟨J,p,q⟩:=bL.el (sz:=4) rfl e i
 cases q
 refine aD (lV (t:=0) (vs:=[i64 a.Kind,i64 a.Variable,str a.B,zB a.Not]) aEI d p rfl rfl rfl) ?_;obtain ⟨Z,r,hm⟩:=aB hm
 refine aP (vs:=[zA #[i64 a.Kind,i64 a.Variable,str a.B,zB a.Not]]) call135 rfl (aAh r d) ?_
 rintro _ a0 ⟨rfl,u⟩
 refine aG (v:=i64 0) (aI (aR [] (fun f w=>∃ c j l,aEm c=some R/\f 5=zS j c.length l/\aE G K (own 3 K j l c::L) w) aM ?_))
 have a2:=aE.nil (α:=Int) u 3 K
 obtain ⟨a3,x,ho⟩:=aB hm
 exact qT [0,13] x (fun m y z f w=>∃ n o,f 5=zS n m.length o/\f 6=i64 y/\f 14=i64 z/\aE G K (own 3 K n o m::L) w) aM aM
theorem aFf {t:cR} {k:Int} {R:(List Edge)} (hm:aDo t k=some R) (u:aE G K (L) w) (Z:bL K a1 c2 t.L) (h6:bL K a4 c5 t.E):
  Calls prog 104 ([zA (zCa t a1 c2 a4 c5),i64 k]:List Value).toArray w (dQ fun v w'=>∃ l m,v=zS l R.length m/\aE G K (own 86 K l m R::L) w'):=by
 refine aN func104 rfl (by kernel_rfl) (by show (2:Nat)<=25;decide) ?_;unfold aDo at hm
 refine aL (gO (v:=zA (zCa t a1 c2 a4 c5)) (vs:=(zC t a1 c2 a4 c5)) u rfl rfl (fun b7 w8 n=>(aH (v:=zS none 0 0) (aI (aL (aH (v:=zS none 0 0) (aI (aJ (aL (aD (bU (t':=3) lW rfl rfl) (aD (eP xV n (i:=0) rfl rfl rfl) (aD (bF (len:=t.E.length) jK rfl) (aG (v:=i64 0) (aI (aR [] (fun f w=>∃ e o p,aDT e=some R/\f 5=zS o e.length p/\aE G K (own 86 K o p e::L) w) aM ?_)))))))))))))))
 have a5:=aE.nil (α:=Edge) n 86 K
 obtain ⟨a6,x,ho⟩:=aB hm
 refine bX [1,9,10] x (fun g a f w=>∃ h j,f 5=zS h g.length j/\f 11=i64 a/\aE G K (own 86 K h j g::L) w) aM ?_
 ·rintro g a y f a7 hm hr ⟨h,j,a8,q,a9⟩
  unfold wU at hm
  refine aL (aD (cW q rfl) (aI (aJ ?_)))
  rcases aK hm with ⟨r,hm⟩|⟨r,hm⟩
  ·refine aQ r rfl (aW (aC (aJ (aR [1,9,10,11] (fun f w=>∃ b c d,wT a b=some y/\f 5=zS c b.length d/\aE G K (own 86 K c d b::L) w) ?_ ?_))))
   ·rintro f b0 ⟨b,c,d,hm,z,J⟩
    unfold wT at hm
    exact aC (aU (aD (dA q rfl) (aG (v:=i64 (wr (a+1))) (aI ⟨_,(zI hm).symm,bK,c,d,z,rfl,J⟩))))
   exact aM
  ·exact aM
theorem aHE {a R:aF} (hm:aCt a=some R) (b:aE G K (L) w) (c:G.lo=0):
  Calls prog 138 ([str a]:List Value).toArray w (dQ fun v w'=>v=str R/\aE G K (L) w'):=by
 exact aM
theorem aAz {n:aO} {b:aF} {R:Bool} (hm:gY n b=some R) (g:aE G K (L) w) (k:G.lo=0):
  Calls prog 105 ([zA #[i64 n.Kind,i64 n.Variable,str n.B,zB n.Not],str b]:List Value).toArray w (dQ fun v w'=>v=zB R/\aE G K (L) w'):=by
 let c:=[i64 n.Kind,i64 n.Variable,str n.B,zB n.Not]
 refine aN func105 rfl (by kernel_rfl) (by show (2:Nat)<=36;decide) ?_;unfold gY at hm
 refine aL (gO (v:=zA #[i64 n.Kind,i64 n.Variable,str n.B,zB n.Not]) (vs:=c) g rfl rfl (fun h l d=>(aH (v:=zB false) (aI (aL (aD (bU (t':=2) aGM rfl rfl) (aD (eP sc_9 d (i:=0) rfl rfl rfl) ?_)))))));obtain ⟨a,j,hm⟩:=aB hm
 refine aP (vs:=[str n.B,str ([42]:aF)]) call137 rfl (oR j d) ?_
 rintro _ m ⟨rfl,o⟩
 exact aG (v:=zT #[str a.1,zB a.2]) (aD (bW rfl rfl) (aD (bW rfl rfl) (aH (v:=str a.1) (aH (v:=zB a.2) (aI (aJ (bD [2] (fun f w=>∃ e,iX n e=some R/\f 7=zB e/\aE G K (box h 55 c::L) w) aM aM)))))))
theorem aFg {b:(List aO)} {k R:Int} (hm:wB b k=some R) (o:aE G K (L) w) (p:bL K a1 c2 b):
  Calls prog 107 ([zS a1 b.length c2,i64 k]:List Value).toArray w (dQ fun v w'=>v=i64 R/\aE G K (L) w'):=by
 refine aN func107 rfl (by kernel_rfl) (by show (2:Nat)<=27;decide) ?_;unfold wB at hm
 refine aL (aH (v:=i64 0) (aI (aL (aH (v:=i64 0) (aI (aJ (aL (aG (v:=i64 k) (aG (v:=i64 0) (aI (aR [] (fun f w=>∃ g,aGX g=some R/\f 5=i64 g/\aE G K (L) w) aM ?_)))))))))));obtain ⟨q,l,ho⟩:=aB hm
 refine bX [0,1,7] l (fun c a f w=>f 5=i64 c/\f 8=i64 a/\aE G K (L) w) aM ?_
 ·rintro c a h f r hm hr ⟨t,d,u⟩
  unfold fL at hm
  refine aL (aD (cW d rfl) (aI (aJ ?_)))
  rcases aK hm with ⟨i,hm⟩|⟨i,hm⟩
  ·refine aQ i rfl (aW (aC (aJ (aR [0,1,7,8] (fun f w=>∃ e,tR a e=some h/\f 5=i64 e/\aE G K (L) w) ?_ ?_))))
   ·rintro f x ⟨e,hm,m,n⟩
    unfold tR at hm
    exact aC (aU (aD (dA d rfl) (aG (v:=i64 (wr (a+1))) (aI ⟨_,(zI hm).symm,bK,m,rfl,n⟩))))
   exact aL (bI d (aH (v:=i64 a) (aI (aJ (bD [0,1,5,7,8] (fun f w=>∃ j,qH c a j=some h/\f 22=zB j/\aE G K (L) w) aM aM)))))
  ·exact aM
theorem iG {a R:(List Int)} (hm:dT a=some R) (j:aE G K (L) w) (d:bL K a1 c2 a):
  Calls prog 68 ([zS a1 a.length c2]:List Value).toArray w (dQ fun v w'=>∃ e g,v=zS e R.length g/\aE G K (own 2 K e g R::L) w'):=by
 refine aN func68 rfl (by kernel_rfl) (by show (1:Nat)<=8;decide) ?_;unfold dT at hm
 refine aL (aH (v:=zS none 0 0) (aI (aJ (aL (aG (v:=zS a1 a.length c2) (aD (aLo bJ rfl rfl) (aI ?_)))))))
 rcases aKy d with ⟨k,l,m⟩|n
 ·subst k;subst l;subst m
  refine aLZ rfl ?_
  replace hm:(some [])=some R:=hm
  exact aM
 ·refine aMa (Eq.trans rfl (congrArg zB n)) (aW (aC (aL (bM (Kt:=K) (xs:=([]:List Int)) (cs:=[]) (vs:=[]) bJ lN rfl rfl j rfl (by kernel_rfl) rfl rfl rfl trivial (fun o p (q:aE G K (own 2 K o 0 ([]:List Int)::L) p)=>(aG (v:=zS a1 a.length c2) ?_))))));obtain ⟨h,r,hm⟩:=aB hm
  refine aHn (i:=0) bJ underlying41 lN rfl rfl q rfl (Hp.le_refl _) d r rfl rfl rfl rfl (fun b c t (u:aE G K (own 2 K b c h::L) t)=>(aH (v:=zS b h.length c) (aI ?_)));obtain rfl:=zI hm
  exact pS (rT results68 rfl ⟨b,c,rfl,u⟩)
theorem lU {a R:(List Int)} (hm:eL a=some R) (hs:aE G K (own 2 K a1 c2 a::L) w):
  Calls prog 140 ([zS a1 a.length c2]:List Value).toArray w (dQ fun v w'=>∃ a3 a4,v=zS a3 R.length a4/\aE G K (own 2 K a3 a4 R::L) w'):=by
 refine aN func140 rfl (by kernel_rfl) (by show (1:Nat)<=61;decide) ?_;unfold eL at hm
 refine aL (aH (v:=zS none 0 0) (aI (aJ (aL (aG (v:=zS a1 a.length c2) (aD (bF (len:=a.length) bJ rfl) (aD (cW rfl rfl) (aI ?_))))))))
 rcases aK hm with ⟨c3,hm⟩|⟨c3,hm⟩
 ·exact aM
 ·refine aT c3 rfl (aW (aC (aJ (aL (aH (v:=i64 1) (aI (aR [0] (fun f w=>mV a=some R/\aE G K (own 2 K a1 c2 a::L) w) aM ?_)))))));obtain ⟨f3,d5,ho⟩:=aB hm
  refine dY [0] d5 (fun d f w=>f 3=i64 d/\aE G K (own 2 K a1 c2 a::L) w) aM ?_
  ·rintro d a6 f f4 hm hr ⟨m,b⟩
   unfold dP at hm
   refine aJ (aL (bI m (aG (v:=zS a1 a.length c2) (aD (bF (len:=a.length) bJ rfl) (aD (cW rfl rfl) (aI ?_))))))
   rcases aK hm with ⟨a7,hm⟩|⟨a7,hm⟩
   ·refine aQ a7 rfl (aW (aC (aJ (aR [0] (fun f w=>eY d=some a6/\f 3=i64 d/\aE G K (own 2 K a1 c2 a::L) w) ?_ ?_))))
    ·rintro f f5 ⟨hm,d6,d7⟩
     unfold eY at hm
     exact aC (aU (bI d6 (aD (dA rfl rfl) (aH (v:=i64 (wr (d+1))) (aI ⟨_,(zI hm).symm,bK,rfl,d7⟩)))))
    refine aJ (tH (C:=fun w'=>aE G K (own 2 K a1 c2 a::L) w') Tryz_mixed (by kernel_rfl) (aE.mono b (eO.drew _)) (eK (fun _ b=>aY (v:=zS a1 a.length c2) rfl) (eK (fun _ b=>aY m) ?_)));obtain ⟨f6,Z,hm⟩:=aB hm
    have e:=bV b (i:=0) rfl Z
    refine eK (fun _ b=>cQ bJ rfl e rfl rfl rfl Z) (eK (fun _ b=>nB (t:=0) dM b (i:=0) rfl Z rfl rfl rfl) (eK (fun _ b=>aY (v:=zS a1 a.length c2) rfl) (eK (fun _ b=>aY m) (eK (fun _ b=>pT rfl rfl) ?_))));obtain ⟨f7,a8,hm⟩:=aB hm
    refine eK (fun _ b=>cQ bJ rfl e rfl rfl rfl a8) (eK (fun _ b=>nB (t:=0) dM b (i:=0) rfl a8 rfl rfl rfl) (eK (fun _ b=>lX rfl rfl) (aDJ (fun f8 d8=>(aC ?_)))))
    rcases aK hm with ⟨a9,hm⟩|⟨a9,hm⟩
    ·refine aQ a9 rfl (aL (aG (v:=zS a1 a.length c2) (bI m ?_)));obtain ⟨g,o,hm⟩:=aB hm
     have p:=aCj d8 (i:=0) rfl
     obtain ⟨j,k,q⟩:=Cut.ex 1 a1 c2 d
     refine aD (aLp bJ p q rfl rfl rfl o) (aH (v:=zS j g.length k) (aI (aJ (aL (aH (v:=i64 1) (aI (aR [] (fun f w=>∃ r u,eZ r u=some a6/\f 0=zS a1 r.length c2/\f 3=i64 u/\aE G K (own 2 K a1 c2 r::L) w) ?_ ?_)))))))
     ·rintro f f9 ⟨r,u,hm,b0,b1,b2⟩
      unfold eZ at hm
      refine aC (aL (bI b0 (bI b1 ?_)));obtain ⟨g0,d9,hm⟩:=aB hm
      have e0:=aCj b2 (i:=0) rfl
      obtain ⟨g1,g2,b3⟩:=Cut.ex 1 a1 c2 u
      refine aD (aLp bJ e0 b3 rfl rfl rfl d9) ?_;obtain ⟨b4,b5,hm⟩:=aB hm
      refine WO_clearV bJ lN rfl b2 (i:=0) rfl b3 rfl rfl b5 (fun b6 (b7:aE G K (own 2 K a1 c2 b4::L) b6)=>(aI (aL (bI (v:=zS a1 b4.length c2) (Eq.trans b0 (congrArg (fun n=>zS a1 n c2) (aLb b5))) (bI b1 ?_)))));obtain ⟨a0,b8,hm⟩:=aB hm
      have e1:=aCj b7 (i:=0) rfl
      obtain ⟨b9,c0,c1⟩:=Cut.ex 1 a1 c2 0
      refine aD (R_slVH bJ e1 c1 rfl rfl rfl b8) (aH (v:=zS b9 a0.length c0) (aI (pS (aDb (gZ (gZ (gZ ?_)))))))
      have e2:=hr _ (zI hm).symm
      subst e2
      have hm:(some a0)=some R:=ho
      clear hr ho
      have g3:aE G K (own 2 K b9 c0 a0::L) b6:=aE.cutP b7 (i:=0) rfl b8 c1
      exact aM
     obtain ⟨g4,e3,ho⟩:=aB hm
     refine qT [4] e3 (fun x y z f w=>f 0=zS a1 x.length c2/\f 3=i64 y/\f 5=i64 z/\aE G K (own 2 K a1 c2 x::L) w) aM ?_
     ·rintro x y z e4 f g5 hm hr ⟨c4,c5,l,c⟩
      unfold dO at hm
      refine aJ (aL (bI l (aG (v:=zS j g.length k) (aD (bF (len:=g.length) bJ rfl) (aD (cW rfl rfl) (aI ?_))))))
      rcases aK hm with ⟨c6,hm⟩|⟨c6,hm⟩
      ·refine aQ c6 rfl (aW (aC (aJ (aR [4,5] (fun f w=>∃ J a2,dN z J a2=some e4/\f 0=zS a1 J.length c2/\f 3=i64 a2/\aE G K (own 2 K a1 c2 J::L) w) ?_ ?_))))
       ·rintro f g6 ⟨J,a2,hm,e5,e6,e7⟩
        unfold dN at hm
        exact aC (aU (bI l (aD (dA rfl rfl) (aH (v:=i64 (wr (z+1))) (aI ⟨_,(zI hm).symm,bK,e5,e6,rfl,e7⟩)))))
       refine aJ (tH (C:=fun w'=>aE G K (own 2 K a1 c2 x::L) w') Tryz_mixed (by kernel_rfl) (aE.mono c (eO.drew _)) (eK (fun _ c=>aY (v:=zS j g.length k) rfl) (eK (fun _ c=>aY l) ?_)));obtain ⟨g7,c7,hm⟩:=aB hm
       obtain ⟨c8,c9,hm⟩:=aB hm
       refine eK (fun _ c=>R_ixV bJ e q o p rfl rfl rfl c7 rfl) (eK (fun _ c=>nB (t:=0) dM c (i:=0) rfl c9 rfl rfl rfl) (eK (fun _ c=>aY (v:=zS j g.length k) rfl) (eK (fun _ c=>aY l) (eK (fun _ c=>pT rfl rfl) ?_))));obtain ⟨g8,e8,hm⟩:=aB hm
       obtain ⟨g9,e9,hm⟩:=aB hm
       refine eK (fun _ c=>R_ixV bJ e q o p rfl rfl rfl e8 rfl) (eK (fun _ c=>nB (t:=0) dM c (i:=0) rfl e9 rfl rfl rfl) (eK (fun _ c=>aCf rfl rfl) (aDJ (fun h0 d0=>(aC ?_)))))
       rcases aK hm with ⟨d1,hm⟩|⟨d1,hm⟩
       ·refine aQ d1 rfl (aL (bI c4 (bI c5 (aG (v:=zS j g.length k) (bI l (aD (R_ixV bJ e q o p rfl rfl rfl c7 rfl) (aD (nB (t:=0) dM d0 (i:=0) rfl c9 rfl rfl rfl) ?_)))))));obtain ⟨h1,d2,hm⟩:=aB hm
        refine aD (cQ bJ rfl e rfl rfl rfl d2) ?_;obtain ⟨d3,d4,hm⟩:=aB hm
        exact gP (i:=0) (t:=0) (ns:=[i64 c8]) (e':=(c8:Int)) sizeOf2 d0 rfl (Hp.le_refl _) rfl rfl rfl d2 d4 rfl rfl (gH rfl) rfl (fun cs h=>by cases h;rfl) (fun f0 (f1:aE G K (own 2 K a1 c2 d3::L) f0)=>(aI (aU (bI c5 (aD (dA rfl rfl) (aH (v:=i64 (wr (y+1))) (aZ (cL (aC ⟨bK,d3,wr (y+1),hm,(Eq.trans c4 (congrArg (fun n=>zS a1 n c2) (fP d4))),rfl,f1⟩)))))))))
       ·exact aM
      ·exact aM
    ·exact aM
   ·exact aM
theorem aDx {c R:(List Int)} (hm:wC c=some R) (i:aE G K (L) w) (j:bL K a1 c2 c):
  Calls prog 108 ([zS a1 c.length c2]:List Value).toArray w (dQ fun v w'=>∃ e g,v=zS e R.length g/\aE G K (own 2 K e g R::L) w'):=by
 refine aN func108 rfl (by kernel_rfl) (by show (1:Nat)<=10;decide) ?_;unfold wC at hm
 refine aL (aH (v:=zS none 0 0) (aI (aL (aG (v:=zS a1 c.length c2) ?_))));obtain ⟨d,k,hm⟩:=aB hm
 refine aP (vs:=[zS a1 c.length c2]) call68 rfl (iG k i j) ?_
 rintro _ r ⟨a,b,rfl,l⟩
 refine aH (v:=zS a d.length b) (aI (aL (aG (v:=zS a d.length b) ?_)));obtain ⟨h,m,hm⟩:=aB hm
 refine aP (vs:=[zS a d.length b]) call139 rfl (aIa l m) ?_
 rintro _ t ⟨rfl,o,p⟩
 refine aI (aL (bI (v:=zS a h.length b) (Eq.trans rfl (congrArg (fun n=>zS a n b) o)) ?_));obtain ⟨u,q,hm⟩:=aB hm
 exact aP (vs:=[zS a h.length b]) call140 rfl (lU q p) aM
theorem mZ {c d a b:Int} {p2_:(List Int)} {p:cR} {e:Nat} {R:(List Int)} (hm:mJ c d a b p2_ p=some R) (i:aE G K (own 2 K a2 c3 p2_::box b1 100 [i64 a,i64 b,zS a2 p2_.length c3]::L) w) (j:dU K a4 e (zC p a7 c8 a10 c11)) (k:bL K a7 c8 p.L) (l:bL K a10 c11 p.E):
  Calls prog 102 ([i64 c,i64 d,Value.pointer (some ⟨b1,0,none⟩),cH a4 e]:List Value).toArray w (dQ fun v w'=>∃ g h,v=zT #[]/\aE G K (own 2 K g h R::box b1 100 [i64 a,i64 b,zS g R.length h]::L) w'):=by
 exact aM
theorem aAi {g:(List aV)} {j:Int} {p:(List Int)} {R:(List (List Int))} (hm:qY g j p=some R) (a:aE G K (L) w) (h3:bL K a1 c2 g) (n:bL K a4 c5 p):
  Calls prog 51 ([zS a1 g.length c2,i64 j,zS a4 p.length c5]:List Value).toArray w (dQ fun v w'=>∃ u a7 a8,v=zS a7 R.length a8/\Hp.le K u/\aE G u (own 41 u a7 a8 R::L) w'):=by
 refine aN func51 rfl (by kernel_rfl) (by show (3:Nat)<=40;decide) ?_;unfold qY at hm
 refine aL (aH (v:=zS none 0 0) (aI (aL (aH (v:=zS none 0 0) (aI (aJ (aJ (tH (C:=fun w'=>aE G K (L) w') Tryz_mixed (by kernel_rfl) (aE.mono a (eO.drew _)) (eK (fun _ a=>aY (v:=zS a1 g.length c2) rfl) (eK (fun _ a=>aY (v:=zS a4 p.length c5) rfl) ?_))))))))));obtain ⟨e9,a9,hm⟩:=aB hm
 refine eK (fun _ a=>dD bJ rfl n rfl rfl rfl a9) ?_;obtain ⟨e7,c6,c7⟩:=bL.el (sz:=1) rfl n a9
 cases c7
 refine eK (fun _ a=>bG (t:=0) dM a c6 rfl rfl) (eK (fun _ a=>aY (v:=i64 j) rfl) (eK (fun _ a=>aFR rfl rfl) (eK (fun _ a=>aY (v:=zS a4 p.length c5) rfl) ?_)));obtain ⟨c8,b0,hm⟩:=aB hm
 refine eK (fun _ a=>dD bJ rfl n rfl rfl rfl b0) ?_;obtain ⟨e8,c9,d0⟩:=bL.el (sz:=1) rfl n b0
 cases d0
 refine eK (fun _ a=>bG (t:=0) dM a c9 rfl rfl) (eK (fun _ a=>dA rfl rfl) ?_);obtain ⟨d1,b1,hm⟩:=aB hm
 refine eK (fun _ a=>dD pU rfl h3 rfl rfl rfl b1) ?_;obtain ⟨f0,b2,d2⟩:=bL.el (sz:=3) rfl h3 b1
 obtain ⟨f1,f2,rfl,b3⟩:=d2
 refine eK (fun _ a=>dV (k':=(wr ((wr (e9 * j))+c8)).toNat * 3+2) aBo rfl b2 rfl) (eK (fun _ a=>bG (t:=2) xX a b2 rfl rfl) (eK (fun _ a=>bF (len:=d1.Next.length) bJ rfl) (eK (fun _ a=>aY (v:=i64 0) rfl) (aDJ (fun f3 d3=>(aC (aR [] (fun f w=>∃ x y b4 b5,Hp.le K x/\aBC y=some R/\f 7=zS b4 y.length b5/\aE G x (own 41 x b4 b5 y::L) w) aM ?_)))))))
 have f4:=aE.nil (α:=(List Int)) d3 41 K
 obtain ⟨f5,d4,ho⟩:=aB hm
 refine bX [1,22,23] d4 (fun k z f w=>∃ b l m,Hp.le K b/\f 7=zS l k.length m/\f 24=i64 z/\aE G b (own 41 b l m k::L) w) aM ?_
 ·rintro k z f6 f f7 hm hr ⟨b,l,m,o,d5,J,Z⟩
  unfold iD at hm
  refine aL (aD (cW J rfl) (aI (aJ ?_)))
  rcases aK hm with ⟨b6,hm⟩|⟨b6,hm⟩
  ·refine aQ b6 rfl (aW (aC (aJ (cD (aL ?_)))));obtain ⟨a0,b7,hm⟩:=aB hm
   refine aD (dD bJ rfl (b3.mono o) rfl rfl J b7) ?_;obtain ⟨f8,d6,d7⟩:=bL.el (sz:=1) rfl b3 b7
   cases d7
   refine aD (bG (t:=0) dM Z (d6.mono o) rfl rfl) (aH (v:=i64 a0) (aI (cM (C:=fun w'=>∃ L',aE G b L' w') [(0,0),(1,0),(2,0),(3,0),(4,0),(5,0),(6,0),(7,1),(8,1),(9,1),(10,0)] Tryz_mixed (by kernel_rfl) (fun _ hg=>⟨_,aE.mono Z hg⟩) (fun f9 d8=>?_))))
   have d9:=aE.mono Z d8
   refine aX rfl (fun _ _=>aY d5) (aX rfl (fun _ _=>aY (v:=i64 a0) rfl) (aX rfl (fun _ _=>aY (v:=i64 j) rfl) ?_));obtain ⟨c,e0,hm⟩:=aB hm
   refine aX rfl (fun _ _=>aGA rfl rfl e0) (aX rfl (fun _ _=>aY (v:=i64 a0) rfl) (aX rfl (fun _ _=>aY (v:=i64 j) rfl) ?_));obtain ⟨d,e1,hm⟩:=aB hm
   refine aX rfl (fun _ _=>aIK rfl rfl e1) (gK rfl (bM (Kt:=K) (xs:=([c,d]:List Int)) (cs:=[i64 c,i64 d]) (vs:=[(0,i64 c),(1,i64 d)]) bJ lN rfl rfl d9 rfl (by kernel_rfl) rfl rfl rfl ⟨rfl,rfl,trivial⟩ (fun q b8 (b9:aE G b (own 2 K q 2 ([c,d]:List Int)::own 41 b l m k::L) b8)=>(aZ (aC ⟨⟨_,b9⟩,?_⟩)))))
   refine gK rfl ?_;obtain ⟨e,r,e2,a2⟩:=aE.giveSp b9 o .head
   replace a2:aE G e (own 41 b l m k::L) b8:=a2
   refine bM (Kt:=e) (xs:=([([c,d]:List Int)]:List (List Int))) (cs:=[zS q ([c,d]:List Int).length 2]) (vs:=[(0,zS q ([c,d]:List Int).length 2)]) mN aEl rfl rfl a2 rfl (by kernel_rfl) rfl rfl rfl ⟨⟨q,2,rfl,e2⟩,trivial⟩ (fun e3 e4 (c0:aE G e (own 41 e e3 1 ([([c,d]:List Int)]:List (List Int))::own 41 b l m k::L) e4)=>(aZ (aC ⟨⟨_,(aE.weakK c0 r)⟩,?_⟩)))
   refine gK rfl ?_;obtain ⟨c1,e5,hm⟩:=aB hm
   refine aFs (i:=0) e mN underlying32 aEl rfl rfl c0 rfl r (Hp.le_refl _) e5 rfl rfl rfl rfl (fun _ _ _ h=>El.one h) (fun a3 a5 e6 (c3:aE G e (own 41 e a3 a5 c1::L) e6)=>(aZ (aC ⟨⟨_,(aE.weakK c3 r)⟩,?_⟩)))
   exact aX rfl (fun _ _=>dX (v:=zS a3 c1.length a5) rfl) (pC (cL (aC (aU (aD (dA J rfl) (aG (v:=i64 (wr (z+1))) (aI ⟨_,(zI hm).symm,bK,e,a3,a5,(Hp.le_trans o r),rfl,rfl,c3⟩)))))))
  ·exact aM
theorem aAj {a:(List aO)} {k:Int} {R:Bool} (hm:hY a k=some R) (i:aE G K (L) w) (j:bL K a1 c2 a):
  Calls prog 54 ([zS a1 a.length c2,i64 k]:List Value).toArray w (dQ fun v w'=>v=zB R/\aE G K (L) w'):=by
 refine aN func54 rfl (by kernel_rfl) (by show (2:Nat)<=29;decide) ?_;unfold hY at hm
 refine aL (aH (v:=zB false) (aI (aJ (aL (aG (v:=i64 k) (aH (v:=i64 k) (aI (aR [] (fun f w=>vJ=some R/\aE G K (L) w) aM ?_))))))));obtain ⟨l,e,ho⟩:=aB hm
 refine dY [0,1] e (fun b f w=>f 5=i64 b/\aE G K (L) w) aM ?_
 ·rintro b g f m hm hr ⟨h,n⟩
  unfold cO at hm
  refine aJ (aL (bI h (aD (R_geq rfl rfl) (aI ?_))))
  rcases aK hm with ⟨c,hm⟩|⟨c,hm⟩
  ·exact aQ c rfl (aW (aC (aJ (cD (aJ (bD [0,1,5] (fun f w=>∃ d,fB a b d=some g/\f 22=zB d/\aE G K (L) w) aM aM))))))
  ·exact aM
theorem vQ {a:(List Int)} {b R:Int} (hm:eU a b=some R) (e:aE G K (L) w) (g:bL K a1 c2 a):
  Calls prog 113 ([zS a1 a.length c2,i64 b]:List Value).toArray w (dQ fun v w'=>v=i64 R/\aE G K (L) w'):=by
 refine aN func113 rfl (by kernel_rfl) (by show (2:Nat)<=19;decide) ?_;unfold eU at hm
 refine aL (aH (v:=i64 0) (aI (aJ (aL (aG (v:=zS a1 a.length c2) (aD (bF (len:=a.length) bJ rfl) (aG (v:=i64 0) (aI (aR [] (fun f w=>nZ=some R/\aE G K (L) w) aM ?_)))))))));obtain ⟨h,c,ho⟩:=aB hm
 exact dY [0,1,7] c (fun d f w=>f 8=i64 d/\aE G K (L) w) aM aM
theorem aEs {b a R:(List Int)} (hm:aBD b a=some R) (l:aE G K (L) w) (o:bL K a1 c2 b) (p:bL K a4 c5 a):
  Calls prog 55 ([zS a1 b.length c2,zS a4 a.length c5]:List Value).toArray w (dQ fun v w'=>∃ d e,v=zS d R.length e/\aE G K (own 2 K d e R::L) w'):=by
 refine aN func55 rfl (by kernel_rfl) (by show (2:Nat)<=23;decide) ?_;unfold aBD at hm
 refine aL (aH (v:=zS none 0 0) (aI (aL (aH (v:=zS none 0 0) (aI (aJ (aL (aG (v:=zS a4 a.length c5) (aD (bF (len:=a.length) bJ rfl) (aG (v:=i64 0) (aI (aR [] (fun f w=>∃ c g h,aCT c=some R/\f 5=zS g c.length h/\aE G K (own 2 K g h c::L) w) aM ?_))))))))))))
 have q:=aE.nil (α:=Int) l 2 K
 obtain ⟨r,m,ho⟩:=aB hm
 exact bX [0,8,9] m (fun i n f w=>∃ j k,f 5=zS j i.length k/\f 10=i64 n/\aE G K (own 2 K j k i::L) w) aM aM
theorem xZ {e:(List aS)} {R:(List Int)} (hm:mK e=some R) (hs:aE G K (L) w) (n:bL K a1 c2 e):
  Calls prog 66 ([zS a1 e.length c2]:List Value).toArray w (dQ fun v w'=>∃ o p,v=zS o R.length p/\aE G K (own 2 K o p R::L) w'):=by
 refine aN func66 rfl (by kernel_rfl) (by show (1:Nat)<=35;decide) ?_;unfold mK at hm
 refine aL (aH (v:=zS none 0 0) (aI (aL (aH (v:=zS none 0 0) (aI (aL (aH (v:=i64 0) (aI (aJ (aL (aG (v:=zS a1 e.length c2) (aD (bF (len:=e.length) aAu rfl) (aG (v:=i64 0) (aI (aR [] (fun f w=>∃ k q r,aAv k=some R/\f 3=zS q k.length r/\aE G K (own 2 K q r k::L) w) aM ?_)))))))))))))))
 have a9:=aE.nil (α:=Int) hs 2 K
 obtain ⟨b0,a2,ho⟩:=aB hm
 refine qT [0,7,8] a2 (fun b l g f w=>∃ c d,f 3=zS c b.length d/\f 4=i64 l/\f 9=i64 g/\aE G K (own 2 K c d b::L) w) aM ?_
 ·rintro b l g u f b1 hm hr ⟨c,d,b2,b3,m,x⟩
  unfold fI at hm
  refine aL (aD (cW m rfl) (aI (aJ ?_)))
  rcases aK hm with ⟨y,hm⟩|⟨y,hm⟩
  ·refine aQ y rfl (aW (aC (aJ (cD (aL (bI m ?_))))));obtain ⟨a,z,hm⟩:=aB hm
   refine aD (dD aAu rfl n rfl rfl m z) ?_;obtain ⟨b4,a3,a4⟩:=bL.el (sz:=3) rfl n z
   obtain ⟨h,j,rfl,b5⟩:=a4
   exact aD (lV (t:=0) (vs:=[zB a.Greatest,zB a.All,zS h a.Terms.length j]) aKA x a3 rfl rfl rfl) (cT (vs:=[zB false,zB false,zS none 0 0]) zeroValue68 x rfl (fun a6 b6 a7=>(aH (v:=i64 g) (eW (i:=0) (ns:=[zB a.Greatest,zB a.All,zS h a.Terms.length j]) (us:=[zB a.Greatest,zB a.All,zS h a.Terms.length j]) sizeOf68 a7 rfl rfl rfl rfl rfl (gH rfl) rfl rfl (fun a8 (b7:aE G K (box a6 68 [zB a.Greatest,zB a.All,zS h a.Terms.length j]::own 2 K c d b::L) a8)=>(aI (jV [0,3,7,8,9] (fun f w=>∃ J,lQ b g J=some u/\f 4=i64 J/\aE G K (own 2 K c d b::L) w) aM (aJ (bD [0,3,4,7,8,9] (fun f w=>∃ Z,oX b l g Z=some u/\f 26=zB Z/\aE G K (own 2 K c d b::L) w) aM aM)))))))))
  ·exact aM
theorem aGo {a:(List Int)} {R:Int} (hm:aCU a=some R) (b:aE G K (L) w) (c:bL K a1 c2 a):
  Calls prog 114 ([zS a1 a.length c2]:List Value).toArray w (dQ fun v w'=>v=i64 R/\aE G K (L) w'):=by
 exact aM
theorem aDy {e:(List aS)} {R:Bool} (hm:zW e=some R) (a:aE G K (L) w) (b:bL K a1 c2 e):
  Calls prog 56 ([zS a1 e.length c2]:List Value).toArray w (dQ fun v w'=>v=zB R/\aE G K (L) w'):=by
 exact aM
end Gv
namespace Gv
open Gv.Hp renaming le_refl→zR
open Go.Value renaming slice→zS,bool→zB,pointer→zP,agg→zA
open Option.some renaming inj→zI
open Gv.Hp renaming le_trans→zL
open Go Go.Proofs Go.Proofs.Tryz
set_option maxRecDepth 20000
set_option maxHeartbeats 40000000
variable {G:rY} {K:Hp} {L:List fD} {w:World} {a1 a4 a7 a10:Option Addr} {c2 c5 c8 c11:Nat}
theorem rW {J:(List aO)} {t:cR} {R:(List aV)} (hm:mL J t=some R) (hs:aE G K (L) w) (hG:G.lo=0) (h3:bL K a1 c2 J) (h6:bL K a4 c5 t.L) (h9:bL K a7 c8 t.E):
  Calls prog 50 ([zS a1 J.length c2,zA (zCa t a4 c5 a7 c8),zS none 0 0]:List Value).toArray w (dQ fun v w'=>∃ K' i6 i7,v=zS i6 R.length i7/\Hp.le K K'/\aE G K' (own 100 K' i6 i7 R::L) w'):=by
 let k:=(zC t a4 c5 a7 c8)
 let d4:=[i64 0,i64 1000,zS none 0 0]
 refine aN func50 rfl (by kernel_rfl) (by show (3:Nat)<=141;decide) ?_;unfold mL at hm
 refine aL (gO (v:=zA (zCa t a4 c5 a7 c8)) (vs:=k) hs rfl rfl (fun c w9 m6=>(aH (v:=zS none 0 0) (aI (aL (aH (v:=zS none 0 0) (aI (aJ (aL (aG (v:=zS a1 J.length c2) (aD (bF (len:=J.length) fQ rfl) (aG (v:=i64 0) (aI (aR [] (fun f w=>∃ f3 f4 i8 i9,Hp.le K f3/\uB f4=some R/\f 7=zS i8 f4.length i9/\aE G f3 (own 100 f3 i8 i9 f4::L) w) aM ?_))))))))))))))
 have x0:=aE.nil (α:=aV) m6 100 K
 obtain ⟨x1,m7,ho⟩:=aB hm
 refine bX [0,2,4,18,19] m7 (fun b9 x f w=>∃ a8 c4 c6,Hp.le K a8/\f 7=zS c4 b9.length c6/\f 20=i64 x/\aE G a8 (own 100 a8 c4 c6 b9::box c 28 k::L) w) aM ?_
 ·rintro b9 x f5 f x2 hm hr ⟨a8,c4,c6,r,m8,d5,f6⟩
  unfold eV at hm
  refine aL (aD (cW d5 rfl) (aI (aJ ?_)))
  rcases aK hm with ⟨f7,hm⟩|⟨f7,hm⟩
  ·refine aQ f7 rfl (aW (aC (aJ (aR [0,2,4,18,19,20] (fun f w=>∃ c7 d6 d7 d8,Hp.le a8 c7/\oY x d6=some f5/\f 7=zS d7 d6.length d8/\aE G c7 (own 100 c7 d7 d8 d6::box c 28 k::L) w) ?_ ?_))))
   ·rintro f x3 ⟨c7,d6,d7,d8,m9,hm,n0,n1⟩
    unfold oY at hm
    exact aC (aU (aD (dA d5 rfl) (aG (v:=i64 (wr (x+1))) (aI ⟨_,(zI hm).symm,bK,c7,d7,d8,(zL r m9),n0,rfl,n1⟩))))
   refine aL (bI d5 ?_);obtain ⟨a,j0,hm⟩:=aB hm
   refine aD (dD fQ rfl (h3.mono r) rfl rfl d5 j0) ?_;obtain ⟨x4,n2,n3⟩:=bL.el (sz:=4) rfl h3 j0
   cases n3
   refine aD (lV (t:=0) (vs:=[i64 a.Kind,i64 a.Variable,str a.B,zB a.Not]) aEI f6 (n2.mono r) rfl rfl rfl) (cT (vs:=[i64 0,i64 0,str ([]:aF),zB false]) zeroValue55 f6 rfl (fun o x5 n4=>(aH (v:=i64 x) (eW (i:=0) (ns:=[i64 a.Kind,i64 a.Variable,str a.B,zB a.Not]) (us:=[i64 a.Kind,i64 a.Variable,str a.B,zB a.Not]) sizeOf55 n4 rfl rfl rfl rfl rfl (gH rfl) rfl rfl (fun n5 (n6:aE G a8 (box o 55 [i64 a.Kind,i64 a.Variable,str a.B,zB a.Not]::own 100 a8 c4 c6 b9::box c 28 k::L) n5)=>(aI (aL (aG (v:=zS a1 J.length c2) (aG (v:=i64 x) ?_)))))))))
   obtain ⟨l,n7,hm⟩:=aB hm
   refine aP (vs:=[zS a1 J.length c2,i64 x]) call101 rfl (aCB n7 n6 (h3.mono r)) ?_
   rintro _ x6 ⟨m,n,rfl,n8⟩
   refine aH (v:=zS m l.length n) (aI (aL (aD (bU (t':=0) kZ rfl rfl) (aD (eP dM n8 (i:=3) rfl rfl rfl) (aG (v:=i64 0) (aI (aR [0,2,4,18,19,20] (fun f w=>∃ f8 f9 j1 j2,Hp.le a8 f8/\oZ x f9=some f5/\f 7=zS j1 f9.length j2/\aE G f8 (own 100 f8 j1 j2 f9::box c 28 k::L) w) aM ?_)))))));obtain ⟨x7,n9,ho⟩:=aB hm
   refine bX [0,2,4,8,9,10,18,19,20,29] n9 (fun e u f w=>∃ b p q,Hp.le a8 b/\f 7=zS p e.length q/\f 30=i64 u/\aE G b (own 3 K m n l::box o 55 [i64 a.Kind,i64 a.Variable,str a.B,zB a.Not]::own 100 b p q e::box c 28 k::L) w) aM ?_
   ·rintro e u b7 f x8 hm hr ⟨b,p,q,y,j3,g0,j4⟩
    unfold eG at hm
    refine aL (aD (cW g0 rfl) (aI (aJ ?_)))
    rcases aK hm with ⟨g1,hm⟩|⟨g1,hm⟩
    ·refine aQ g1 rfl (aW (aC (aJ (aR [0,2,4,8,9,10,18,19,20,29,30] (fun f w=>∃ c9 d9 e0 e1,Hp.le b c9/\pA u d9=some b7/\f 7=zS e0 d9.length e1/\aE G c9 (own 100 c9 e0 e1 d9::own 3 K m n l::box o 55 [i64 a.Kind,i64 a.Variable,str a.B,zB a.Not]::box c 28 k::L) w) ?_ ?_))))
     ·rintro f x9 ⟨c9,d9,e0,e1,o0,hm,o1,o2⟩
      unfold pA at hm
      exact aC (aU (aD (dA g0 rfl) (aG (v:=i64 (wr (u+1))) (aI ⟨_,(zI hm).symm,bK,c9,e0,e1,(zL y o0),o1,rfl,(aE.arr 3 [1,2,0] o2 rfl)⟩))))
     refine aL (bI g0 (aH (v:=i64 u) (aI (aL (aD (cN (vs:=[(1,i64 1000)]) (cs:=d4) bs_100 rfl (by kernel_rfl)) (cT (vs:=[i64 0,i64 0,zS none 0 0]) zeroValue100 j4 rfl (fun d y0 o3=>(eW (i:=0) (ns:=d4) (us:=d4) sizeOf100 o3 rfl rfl rfl rfl rfl (gH rfl) rfl rfl (fun o4 (c0:aE G b (box d 100 d4::own 3 K m n l::box o 55 [i64 a.Kind,i64 a.Variable,str a.B,zB a.Not]::own 100 b p q e::box c 28 k::L) o4)=>(aI (aL (aD (lF (vs:=[zP (some ⟨d,0,none⟩),zP (some ⟨c,0,none⟩)]) rfl) (aH (v:=Value.func (.func 102) #[] #[zP (some ⟨d,0,none⟩),zP (some ⟨c,0,none⟩)]) (aI (aJ (bD [0,2,4,7,8,9,10,11,12,13,18,19,20,29,30] (fun f w=>∃ j,fX J t x a l e u j=some b7/\aE G b (box d 100 [i64 j,i64 1000,zS none 0 0]::own 3 K m n l::box o 55 [i64 a.Kind,i64 a.Variable,str a.B,zB a.Not]::own 100 b p q e::box c 28 k::L) w) ?_ ?_))))))))))))))))
     ·rintro f y1 ⟨j,hm,j5⟩
      unfold fX at hm
      refine aC (aJ (aR [0,2,4,7,8,9,10,12,18,19,20,29,30] (fun f w=>∃ a2 a9 b0,gS J x a e u j a2=some b7/\aE G b (own 2 K a9 b0 a2::box d 100 [i64 j,i64 1000,zS a9 a2.length b0]::own 3 K m n l::box o 55 [i64 a.Kind,i64 a.Variable,str a.B,zB a.Not]::own 100 b p q e::box c 28 k::L) w) ?_ ?_))
      ·rintro f y2 ⟨a2,a9,b0,hm,j6⟩
       unfold gS at hm
       refine aC (jV [0,2,4,7,8,9,10,12,18,19,20,29,30] (fun f w=>∃ a0,jH e u j a2 a0=some b7/\aE G b (own 2 K a9 b0 a2::box d 100 [i64 j,i64 a0,zS a9 a2.length b0]::own 3 K m n l::box o 55 [i64 a.Kind,i64 a.Variable,str a.B,zB a.Not]::own 100 b p q e::box c 28 k::L) w) ?_ ?_)
       ·rintro f y3 ⟨a0,hm,j7⟩
        unfold jH at hm
        refine aL (aD (bU (t':=2) aBo rfl rfl) (aD (eP xX j7 (i:=1) rfl rfl rfl) ?_));obtain ⟨y4,y5,o5,o6,o7⟩:=aE.lendSp j7 (zL r y) .head
        obtain ⟨a3,o8,hm⟩:=aB hm
        refine aP (vs:=[zS a9 a2.length b0]) call108 rfl (aDx o8 o6 o5) ?_
        rintro _ y6 ⟨a5,a6,rfl,o9⟩
        have p0:=o7 _ _ o9
        refine aD (bU (t':=2) aBo rfl rfl) (eW (i:=2) (ns:=[zS a5 a3.length a6]) (us:=[i64 j,i64 a0,zS a5 a3.length a6]) sizeOf41 p0 rfl rfl rfl rfl rfl (gH rfl) rfl rfl (fun j8 (j9:aE G b (own 2 K a9 b0 a2::own 2 K a5 a6 a3::box d 100 [i64 j,i64 a0,zS a5 a3.length a6]::own 3 K m n l::box o 55 [i64 a.Kind,i64 a.Variable,str a.B,zB a.Not]::own 100 b p q e::box c 28 k::L) j8)=>(aI (aU (bI j3 (aD (pB (us:=[i64 j,i64 a0,zS a5 a3.length a6]) aJa j9 (i:=2) rfl rfl rfl rfl) ?_))))))
        obtain ⟨b6,k0,p1,g2⟩:=aE.giveSp j9 (zL r y) zt1
        replace g2:aE G b6 (own 2 K a9 b0 a2::box d 100 [i64 j,i64 a0,zS a5 a3.length a6]::own 3 K m n l::box o 55 [i64 a.Kind,i64 a.Variable,str a.B,zB a.Not]::own 100 b p q e::box c 28 k::L) j8:=g2
        refine bM (Kt:=b6) (xs:=([⟨j,a0,a3⟩]:List aV)) (cs:=[i64 j,i64 a0,zS a5 a3.length a6]) (vs:=[(0,zA #[i64 j,i64 a0,zS a5 a3.length a6])]) pU aJb rfl rfl g2 rfl (by kernel_rfl) rfl rfl rfl ⟨⟨a5,a6,rfl,p1⟩,trivial⟩ (fun p2 p3 (p4:aE G b6 (own 100 b6 p2 1 ([⟨j,a0,a3⟩]:List aV)::own 2 K a9 b0 a2::box d 100 [i64 j,i64 a0,zS a5 a3.length a6]::own 3 K m n l::box o 55 [i64 a.Kind,i64 a.Variable,str a.B,zB a.Not]::own 100 b p q e::box c 28 k::L) p3)=>?_)
        obtain ⟨g3,p5,hm⟩:=aB hm
        exact aFs (i:=4) b6 pU underlying38 aJb rfl rfl p4 rfl k0 (zR _) p5 rfl rfl rfl rfl (fun _ _ _ h=>El.one h) (fun g4 g5 p6 (p7:aE G b6 (own 2 K a9 b0 a2::box d 100 [i64 j,i64 a0,zS a5 a3.length a6]::own 3 K m n l::box o 55 [i64 a.Kind,i64 a.Variable,str a.B,zB a.Not]::own 100 b6 g4 g5 g3::box c 28 k::L) p6)=>(aH (v:=zS g4 g3.length g5) (aZ (cL (aC ⟨bK,b6,g3,g4,g5,k0,hm,rfl,(aE.arr 5 [4,2,3] p7 rfl)⟩)))))
       refine aL (aD (pB (us:=[i64 a.Kind,i64 a.Variable,str a.B,zB a.Not]) aEI j6 (i:=3) rfl rfl rfl rfl) ?_);obtain ⟨y7,p8,hm⟩:=aB hm
       refine aP (vs:=[zA #[i64 a.Kind,i64 a.Variable,str a.B,zB a.Not]]) call106 rfl (aAy p8 j6) ?_
       rintro _ y8 ⟨rfl,p9⟩
       refine aI ?_
       rcases aK hm with ⟨k1,hm⟩|⟨k1,hm⟩
       ·refine aQ k1 rfl ?_;obtain ⟨q0,q1,q2,k2,q3⟩:=aE.lendBp p9 zt3
        refine cM (C:=fun w'=>∃ L',aE G q0 L' w') [(0,0),(1,0),(4,0),(5,0),(6,0),(2,1),(3,0),(7,1),(8,0),(9,0),(10,2)] Tryz_mixed (by kernel_rfl) (fun _ hg=>⟨_,aE.mono k2 hg⟩) (fun y9 q4=>?_)
        have g6:=aE.mono k2 q4
        refine aX rfl (fun _ _=>aY (v:=zS a1 J.length c2) rfl) (aX rfl (fun _ _=>aY (v:=i64 x) rfl) (aX rfl (fun _ _=>bU (t':=0) uX rfl rfl) (aX rfl (fun _ ⟨_,g6⟩=>bG (t:=0) dM g6 q2 rfl rfl) (aX rfl (fun _ _=>lX rfl rfl) (gK rfl ?_)))));obtain ⟨z0,q5,hm⟩:=aB hm
        refine aP (vs:=[zS a1 J.length c2,i64 x]) call107 rfl (aFg q5 g6 (h3.mono (zL (zL r y) q1))) ?_
        rintro _ z1 ⟨rfl,k3⟩
        refine aZ (aC ⟨⟨_,k3⟩,?_⟩)
        refine aX rfl (fun _ _=>aFR rfl rfl) (gK rfl ?_);obtain ⟨z2,q6,hm⟩:=aB hm
        refine aP (vs:=[zB (a.Kind == 7)]) call67 rfl (kL q6 k3) ?_
        rintro _ z3 ⟨rfl,k4⟩
        refine aZ (aC ⟨⟨_,k4⟩,?_⟩)
        refine aX rfl (fun _ _=>dA rfl rfl) (aX rfl (fun _ _=>bU (t':=1) aGO rfl rfl) ?_)
        have z4:=q3 _ _ k4
        exact aM
       ·exact aM
      refine aL (aD (pB (us:=[i64 a.Kind,i64 a.Variable,str a.B,zB a.Not]) aEI j5 (i:=2) rfl rfl rfl rfl) ?_);obtain ⟨q7,q8,hm⟩:=aB hm
      refine aP (vs:=[zA #[i64 a.Kind,i64 a.Variable,str a.B,zB a.Not]]) call103 rfl (qQ q8 j5) ?_
      rintro _ z5 ⟨rfl,e2⟩
      refine aH (v:=zB q7) (aI ?_)
      rcases aK hm with ⟨g7,hm⟩|⟨g7,hm⟩
      ·refine aQ g7 rfl (aL (aD (pB (us:=k) xW e2 (i:=4) rfl rfl rfl rfl) (aG (v:=i64 u) ?_)));obtain ⟨c1,q9,hm⟩:=aB hm
       refine aP (vs:=[zA (zCa t a4 c5 a7 c8),i64 u]) call104 rfl (aFf q9 e2 (h6.mono (zL r y)) (h9.mono (zL r y))) ?_
       rintro _ z6 ⟨d0,d1,rfl,r0⟩
       refine aD (bF (len:=c1.length) jK rfl) (aG (v:=i64 0) (aI (aR [0,2,4,7,8,9,10,12,18,19,20,29,30] (fun f w=>∃ g8 k5 k6,uC J x a e u j g8=some b7/\aE G b (own 2 K k5 k6 g8::box d 100 [i64 j,i64 1000,zS k5 g8.length k6]::own 3 K m n l::box o 55 [i64 a.Kind,i64 a.Variable,str a.B,zB a.Not]::own 100 b p q e::box c 28 k::L) w) aM ?_)))
       have z7:=aE.nil (α:=Int) r0 2 K
       obtain ⟨z8,r1,ho⟩:=aB hm
       refine bX [0,2,4,7,8,9,10,12,13,18,19,20,29,30,66,67] r1 (fun b1 e3 f w=>∃ b2 b3,f 68=i64 e3/\aE G b (own 2 K b2 b3 b1::own 86 K d0 d1 c1::box d 100 [i64 j,i64 1000,zS b2 b1.length b3]::own 3 K m n l::box o 55 [i64 a.Kind,i64 a.Variable,str a.B,zB a.Not]::own 100 b p q e::box c 28 k::L) w) aM ?_
       ·rintro b1 e3 r2 f z9 hm hr ⟨b2,b3,g9,h0⟩
        unfold gT at hm
        refine aL (aD (cW g9 rfl) (aI (aJ ?_)))
        rcases aK hm with ⟨k7,hm⟩|⟨k7,hm⟩
        ·refine aQ k7 rfl (aW (aC (aJ (aR [0,2,4,7,8,9,10,12,13,18,19,20,29,30,66,67,68] (fun f w=>∃ e4 e5 e6,lR e3 e4=some r2/\aE G b (own 2 K e5 e6 e4::own 86 K d0 d1 c1::box d 100 [i64 j,i64 1000,zS e5 e4.length e6]::own 3 K m n l::box o 55 [i64 a.Kind,i64 a.Variable,str a.B,zB a.Not]::own 100 b p q e::box c 28 k::L) w) ?_ ?_))))
         ·rintro f a00 ⟨e4,e5,e6,hm,r3⟩
          unfold lR at hm
          exact aC (aU (aD (dA g9 rfl) (aG (v:=i64 (wr (e3+1))) (aI ⟨_,(zI hm).symm,bK,e5,e6,rfl,r3⟩))))
         refine aL ?_;obtain ⟨z,h1,hm⟩:=aB hm
         have r4:=bV h0 (i:=1) rfl h1
         refine aD (cQ jK rfl r4 rfl rfl g9 h1) (aD (aLe (t:=0) (vs:=[i64 z.F,i64 z.B,i64 z.To]) aEG h0 (i:=1) rfl h1 rfl rfl rfl rfl) (cT (vs:=[i64 0,i64 0,i64 0]) zeroValue86 h0 rfl (fun k8 a01 r5=>(eW (i:=0) (ns:=[i64 z.F,i64 z.B,i64 z.To]) (us:=[i64 z.F,i64 z.B,i64 z.To]) sizeOf86 r5 rfl rfl rfl rfl rfl (gH rfl) rfl rfl (fun r6 (Z:aE G b (box k8 86 [i64 z.F,i64 z.B,i64 z.To]::own 2 K b2 b3 b1::own 86 K d0 d1 c1::box d 100 [i64 j,i64 1000,zS b2 b1.length b3]::own 3 K m n l::box o 55 [i64 a.Kind,i64 a.Variable,str a.B,zB a.Not]::own 100 b p q e::box c 28 k::L) r6)=>(aI (aJ (tH (C:=fun w'=>aE G b (box k8 86 [i64 z.F,i64 z.B,i64 z.To]::own 2 K b2 b3 b1::own 86 K d0 d1 c1::box d 100 [i64 j,i64 1000,zS b2 b1.length b3]::own 3 K m n l::box o 55 [i64 a.Kind,i64 a.Variable,str a.B,zB a.Not]::own 100 b p q e::box c 28 k::L) w') Tryz_mixed (by kernel_rfl) (aE.mono Z (eO.drew _)) (eK (fun _ Z=>pB (us:=[i64 a.Kind,i64 a.Variable,str a.B,zB a.Not]) aEI Z (i:=5) rfl rfl rfl rfl) (eK (fun _ Z=>bU (t':=2) aCk rfl rfl) (eK (fun _ Z=>eP aIY Z (i:=7) rfl rfl rfl) (eK (fun _ Z=>bU (t':=1) aDN rfl rfl) (eK (fun _ Z=>eP dM Z (i:=0) rfl rfl rfl) ?_)))))))))))))
         obtain ⟨r7,k9,hm⟩:=aB hm
         refine eK (fun _ Z=>dD kN rfl (h6.mono (zL r y)) rfl rfl rfl k9) ?_;obtain ⟨a02,r8,r9⟩:=bL.el (sz:=1) rfl h6 k9
         cases r9
         refine eK (fun _ Z=>bG (t:=0) sc_9 Z (r8.mono (zL r y)) rfl rfl) ?_;obtain ⟨s0,s1,hm⟩:=aB hm
         refine WQ_call (vs:=[zA #[i64 a.Kind,i64 a.Variable,str a.B,zB a.Not],str r7]) (v:=zB s0) call105 rfl (fun _ Z=>(aAz s1 Z hG)) (aDJ (fun a03 s2=>(aC ?_)))
         rcases aK hm with ⟨l0,hm⟩|⟨l0,hm⟩
         ·refine aQ l0 rfl ?_;obtain ⟨a04,h2,s3,s4,a05⟩:=aE.lendBp s2 .head
          obtain ⟨s5,h4,l1,l2,s6⟩:=aE.lendSp s4 (zL (zL r y) h2) zt3
          refine cM (C:=fun w'=>∃ L',aE G s5 L' w') [(0,0),(1,0),(2,0),(3,0),(4,0),(5,0),(6,1)] Tryz_mixed (by kernel_rfl) (fun _ hg=>⟨_,aE.mono l2 hg⟩) (fun s7 s8=>?_)
          have d2:=aE.mono l2 s8
          refine aX rfl (fun _ _=>aY (v:=Value.func (.func 102) #[] #[zP (some ⟨d,0,none⟩),zP (some ⟨c,0,none⟩)]) rfl) (aX rfl (fun _ _=>aY (v:=zS m l.length n) rfl) ?_);obtain ⟨l3,h5,hm⟩:=aB hm
          have s9:=aCi l1 h5
          refine aX rfl (fun _ _=>cQ aHt rfl s9 rfl rfl rfl h5) ?_;obtain ⟨a06,t0,t1⟩:=bL.el (sz:=1) rfl l1 h5
          cases t1
          refine aX rfl (fun _ ⟨_,d2⟩=>bG (t:=0) sc_3 d2 t0 rfl rfl) (aX rfl (fun _ _=>bU (t':=2) aGL rfl rfl) (aX rfl (fun _ ⟨_,d2⟩=>bG (t:=2) dM d2 (s3.mono h4) rfl rfl) (gK rfl ?_)));obtain ⟨t2,l4,t3,t4,t5⟩:=aE.lendBp d2 zt5
          have t6:aE G t2 (own 2 K b2 b3 b1::box d 100 [i64 j,i64 1000,zS b2 b1.length b3]::own 86 K d0 d1 c1::box o 55 [i64 a.Kind,i64 a.Variable,str a.B,zB a.Not]::own 100 b p q e::L) s7:=(aE.arr 3 [0,2,1] t4 rfl)
          obtain ⟨a07,t7,hm⟩:=aB hm
          refine lM (vs:=[i64 l3,i64 z.To]) (caps:=[zP (some ⟨d,0,none⟩),cH (some ⟨c,0,none⟩) 0]) (us:=[i64 l3,i64 z.To,zP (some ⟨d,0,none⟩),cH (some ⟨c,0,none⟩) 0]) rfl call102 rfl rfl (mZ t7 t6 t3 (h6.mono (zL (zL (zL (zL r y) h2) h4) l4)) (h9.mono (zL (zL (zL (zL r y) h2) h4) l4))) ?_
          rintro _ a08 ⟨a09,a10,rfl,t8⟩
          have l5:=t5 _ _ t8
          refine aZ (aC ⟨⟨_,l5⟩,?_⟩)
          refine pC ?_
          have a11:=s6 _ _ l5
          exact aM
         ·exact aM
        ·exact aM
      ·refine aT g7 rfl (aJ (bD [0,2,4,7,8,9,10,11,12,13,18,19,20,29,30] (fun f w=>iK J t x a l e u j=some b7/\f 88=zB false/\aE G b (box d 100 [i64 j,i64 1000,zS none 0 0]::own 3 K m n l::box o 55 [i64 a.Kind,i64 a.Variable,str a.B,zB a.Not]::own 100 b p q e::box c 28 k::L) w) ?_ ?_))
       ·rintro f a12 ⟨hm,t9,h7⟩
        unfold iK at hm
        refine aC (aT (by decide:¬ false=true) t9 (aL (aD (bU (t':=0) uX rfl rfl) (aD (eP dM h7 (i:=2) rfl rfl rfl) (aD (lX rfl rfl) (aH (v:=zB (a.Kind == 6)) (aI ?_)))))))
        rcases aK hm with ⟨h8,hm⟩|⟨h8,hm⟩
        ·refine aQ h8 rfl (aU (aG (v:=Value.func (.func 102) #[] #[zP (some ⟨d,0,none⟩),zP (some ⟨c,0,none⟩)]) (aG (v:=zS a1 J.length c2) (aG (v:=i64 x) ?_))));obtain ⟨l6,u0,hm⟩:=aB hm
         refine aP (vs:=[zS a1 J.length c2,i64 x]) call100 rfl (aFZ u0 h7 (h3.mono (zL r y))) ?_
         rintro _ a13 ⟨rfl,u1⟩
         refine aG (v:=i64 u) ?_;obtain ⟨a14,l7,u2,u3,u4⟩:=aE.lendBp u1 zt4
         have u5:=aE.nil (α:=Int) u3 2 K
         obtain ⟨a15,u6,hm⟩:=aB hm
         refine lM (vs:=[i64 l6,i64 u]) (caps:=[zP (some ⟨d,0,none⟩),cH (some ⟨c,0,none⟩) 0]) (us:=[i64 l6,i64 u,zP (some ⟨d,0,none⟩),cH (some ⟨c,0,none⟩) 0]) rfl call102 rfl rfl (mZ (p2_:=[]) u6 u5 u2 (h6.mono (zL (zL r y) l7)) (h9.mono (zL (zL r y) l7))) ?_
         rintro _ a17 ⟨a18,a19,rfl,u7⟩
         have a20:=u4 _ _ u7
         exact aM
        ·refine aT h8 rfl (aL (aG (v:=zS m l.length n) (aD (bF (len:=l.length) aHt rfl) (aG (v:=i64 0) (aI (aR [0,2,4,7,8,9,10,12,18,19,20,29,30] (fun f w=>∃ i0 l8 l9,sT J x a e u j i0=some b7/\aE G b (own 2 K l8 l9 i0::box d 100 [i64 j,i64 1000,zS l8 i0.length l9]::own 3 K m n l::box o 55 [i64 a.Kind,i64 a.Variable,str a.B,zB a.Not]::own 100 b p q e::box c 28 k::L) w) aM ?_))))))
         have a21:=aE.nil (α:=Int) h7 2 K
         obtain ⟨a22,u8,ho⟩:=aB hm
         refine bX [0,2,4,7,8,9,10,11,12,13,18,19,20,29,30,50,51] u8 (fun i1 m0 f w=>∃ i2 i3,f 52=i64 m0/\aE G b (own 2 K i2 i3 i1::box d 100 [i64 j,i64 1000,zS i2 i1.length i3]::own 3 K m n l::box o 55 [i64 a.Kind,i64 a.Variable,str a.B,zB a.Not]::own 100 b p q e::box c 28 k::L) w) aM ?_
         ·rintro i1 m0 a23 f a24 hm hr ⟨i2,i3,m1,i4⟩
          unfold fW at hm
          refine aL (aD (cW m1 rfl) (aI (aJ ?_)))
          rcases aK hm with ⟨m2,hm⟩|⟨m2,hm⟩
          ·refine aQ m2 rfl (aW (aC (aJ (cD (aL ?_)))));obtain ⟨e7,i5,hm⟩:=aB hm
           have u9:=bV i4 (i:=2) rfl i5
           refine aD (cQ aHt rfl u9 rfl rfl m1 i5) (aD (nB (t:=0) sc_3 i4 (i:=2) rfl i5 rfl rfl rfl) (aH (v:=i64 e7) (aI (aU (aG (v:=Value.func (.func 102) #[] #[zP (some ⟨d,0,none⟩),zP (some ⟨c,0,none⟩)]) (aG (v:=i64 e7) (aG (v:=i64 u) ?_)))))));obtain ⟨a25,m3,v0,v1,v2⟩:=aE.lendBp i4 zt5
           obtain ⟨a26,v3,hm⟩:=aB hm
           refine lM (vs:=[i64 e7,i64 u]) (caps:=[zP (some ⟨d,0,none⟩),cH (some ⟨c,0,none⟩) 0]) (us:=[i64 e7,i64 u,zP (some ⟨d,0,none⟩),cH (some ⟨c,0,none⟩) 0]) rfl call102 rfl rfl (mZ v3 v1 v0 (h6.mono (zL (zL r y) m3)) (h9.mono (zL (zL r y) m3))) ?_
           rintro _ a27 ⟨a28,a29,rfl,v4⟩
           have a30:=v2 _ _ v4
           exact aM
          ·exact aM
       refine aU (aD (bU (t':=0) uX rfl rfl) (aD (eP dM e2 (i:=2) rfl rfl rfl) (aD (lX rfl rfl) (aG (v:=zB (a.Kind == 6)) ?_))))
       rcases aK hm with ⟨e8,hm⟩|⟨e8,hm⟩
       ·exact cA e8 rfl rfl (aG (v:=zS none 0 0) (cA e8 rfl rfl (aD (R_nilNe dB rfl rfl) (aD (cX (v:=zB false) e8 rfl rfl) (aG (v:=zB false) (cE (by decide:¬ false=true) rfl rfl (cE (by decide:¬ false=true) rfl rfl (cE (by decide:¬ false=true) rfl rfl (cE (by decide:¬ false=true) rfl rfl (aD (eD (v:=zB false) (by decide:¬ false=true) rfl rfl) (aH (v:=zB false) (aI ⟨bK,hm,rfl,e2⟩))))))))))))
       ·exact aM
     refine aU (aD (bU (t':=0) uX rfl rfl) (aD (eP dM c0 (i:=2) rfl rfl rfl) (aD (lX rfl rfl) (aG (v:=zB (a.Kind == 0)) ?_))))
     rcases aK hm with ⟨b4,hm⟩|⟨b4,hm⟩
     ·refine bA b4 rfl rfl (bA b4 rfl rfl (bA b4 rfl rfl (aD (cX (v:=zB true) b4 rfl rfl) (aG (v:=zB true) (bA (rfl:true=true) rfl rfl (bA (rfl:true=true) rfl rfl (bA (rfl:true=true) rfl rfl (aD (cX (v:=zB true) (rfl:true=true) rfl rfl) ?_))))))));obtain ⟨e9,v5,hm⟩:=aB hm
      refine aP (vs:=[zB true]) call67 rfl (kL v5 c0) ?_
      rintro _ a31 ⟨rfl,v6⟩
      exact aD (bU (t':=0) aDg rfl rfl) (eW (i:=0) (ns:=[i64 e9]) (us:=[i64 e9,i64 1000,zS none 0 0]) sizeOf2 v6 rfl rfl rfl rfl rfl (gH rfl) rfl rfl (fun v7 (v8:aE G b (box d 100 [i64 e9,i64 1000,zS none 0 0]::own 3 K m n l::box o 55 [i64 a.Kind,i64 a.Variable,str a.B,zB a.Not]::own 100 b p q e::box c 28 k::L) v7)=>(aI ⟨bK,e9,hm,v8⟩)))
     ·refine bS b4 rfl rfl (aD (bU (t':=0) uX rfl rfl) (bS b4 rfl rfl (aD (eP dM c0 (i:=2) rfl rfl rfl) (bS b4 rfl rfl (aD (lX rfl rfl) (aD (eD (v:=zB (a.Kind == 2)) b4 rfl rfl) (aG (v:=zB (a.Kind == 2)) ?_)))))))
      rcases aK hm with ⟨b5,hm⟩|⟨b5,hm⟩
      ·refine bA b5 rfl rfl (bA b5 rfl rfl (bA b5 rfl rfl (aD (cX (v:=zB true) b5 rfl rfl) ?_)));obtain ⟨f0,v9,hm⟩:=aB hm
       refine aP (vs:=[zB true]) call67 rfl (kL v9 c0) ?_
       rintro _ a32 ⟨rfl,w0⟩
       exact aD (bU (t':=0) aDg rfl rfl) (eW (i:=0) (ns:=[i64 f0]) (us:=[i64 f0,i64 1000,zS none 0 0]) sizeOf2 w0 rfl rfl rfl rfl rfl (gH rfl) rfl rfl (fun w1 (w2:aE G b (box d 100 [i64 f0,i64 1000,zS none 0 0]::own 3 K m n l::box o 55 [i64 a.Kind,i64 a.Variable,str a.B,zB a.Not]::own 100 b p q e::box c 28 k::L) w1)=>(aI ⟨bK,f0,hm,w2⟩)))
      ·refine bS b5 rfl rfl (aD (bU (t':=0) uX rfl rfl) (bS b5 rfl rfl (aD (eP dM c0 (i:=2) rfl rfl rfl) (bS b5 rfl rfl (aD (lX rfl rfl) (aD (eD (v:=zB (a.Kind == 5)) b5 rfl rfl) ?_))))));obtain ⟨f1,w3,hm⟩:=aB hm
       refine aP (vs:=[zB (a.Kind == 5)]) call67 rfl (kL w3 c0) ?_
       rintro _ a33 ⟨rfl,w4⟩
       exact aD (bU (t':=0) aDg rfl rfl) (eW (i:=0) (ns:=[i64 f1]) (us:=[i64 f1,i64 1000,zS none 0 0]) sizeOf2 w4 rfl rfl rfl rfl rfl (gH rfl) rfl rfl (fun w5 (w6:aE G b (box d 100 [i64 f1,i64 1000,zS none 0 0]::own 3 K m n l::box o 55 [i64 a.Kind,i64 a.Variable,str a.B,zB a.Not]::own 100 b p q e::box c 28 k::L) w5)=>(aI ⟨bK,f1,hm,w6⟩)))
    ·refine aT g1 rfl (aBk (kG (kG ?_)))
     have w7:=hr _ (zI hm).symm
     subst w7
     have hm:(oZ x e)=some f5:=ho
     clear hr ho
     exact uF (aC ⟨bK,b,e,p,q,y,hm,j3,(aE.arr 2 [] j4 rfl)⟩)
  ·refine aT f7 rfl (aBk (kG (kG ?_)))
   have w8:=hr _ (zI hm).symm
   subst w8
   have hm:(uB b9)=some R:=ho
   clear hr ho
   exact uF (aC ⟨bK,a8,b9,c4,c6,r,hm,m8,(aE.arr 2 [0] f6 rfl)⟩)
theorem aFh {f_:(List aO)} {t:cR} {R:((List aS) × (List (List Int)) × Bool)} (hm:nH f_ t=some R) (hs:aE G K (L) w) (hG:G.lo=0) (h3:bL K a1 c2 f_) (h6:bL K a4 c5 t.L) (h9:bL K a7 c8 t.E):
  Calls prog 21 ([zS a1 f_.length c2,zA (zCa t a4 c5 a7 c8)]:List Value).toArray w (dQ fun v w'=>∃ K' k7 k8 k9 l0,v=Value.tuple #[zS k7 R.1.length k8,zS k9 R.2.1.length l0,zB R.2.2]/\Hp.le K K'/\aE G K' (own 68 K' k7 k8 R.1::own 41 K' k9 l0 R.2.1::L) w'):=by
 let e:=(zC t a4 c5 a7 c8)
 refine aN func21 rfl (by kernel_rfl) (by show (2:Nat)<=137;decide) ?_;unfold nH at hm
 refine aL (gO (v:=zA (zCa t a4 c5 a7 c8)) (vs:=e) hs rfl rfl (fun l w11 l1=>(aH (v:=zS none 0 0) (aH (v:=zS none 0 0) (aH (v:=zB false) (aI (aL (aG (v:=zS a1 f_.length c2) (aD (pB (us:=e) xW l1 (i:=0) rfl rfl rfl rfl) ?_)))))))));obtain ⟨b2,p8,hm⟩:=aB hm
 refine aP (vs:=[zS a1 f_.length c2,zA (zCa t a4 c5 a7 c8),zS none 0 0]) call50 rfl (rW p8 l1 hG h3 h6 h9) ?_
 rintro _ p9 ⟨K15,f3,f4,rfl,b3,q0⟩
 refine aH (v:=zS f3 b2.length f4) ?_;obtain ⟨l2,b4,i1,f5⟩:=aE.giveSp q0 (zR _) .head
 replace f5:aE G l2 (box l 28 e::L) p9:=f5
 refine aI (aL (aD (bU (t':=1) aDO rfl rfl) (aD (eP dM f5 (i:=0) rfl rfl rfl) (bM (Kt:=K) (xs:=([0,t.I]:List Int)) (cs:=[i64 0,i64 t.I]) (vs:=[(0,i64 0),(1,i64 t.I)]) bJ lN rfl rfl f5 rfl (by kernel_rfl) rfl rfl rfl ⟨rfl,rfl,trivial⟩ (fun f6 l3 (q1:aE G l2 (own 2 K f6 2 ([0,t.I]:List Int)::box l 28 e::L) l3)=>?_)))));obtain ⟨r,u,q2,i2⟩:=aE.giveSp q1 (zL b3 b4) .head
 replace i2:aE G r (box l 28 e::L) l3:=i2
 refine bM (Kt:=r) (xs:=([([0,t.I]:List Int)]:List (List Int))) (cs:=[zS f6 ([0,t.I]:List Int).length 2]) (vs:=[(0,zS f6 ([0,t.I]:List Int).length 2)]) mN aEl rfl rfl i2 rfl (by kernel_rfl) rfl rfl rfl ⟨⟨f6,2,rfl,q2⟩,trivial⟩ (fun f7 q3 (q4:aE G r (own 41 r f7 1 ([([0,t.I]:List Int)]:List (List Int))::box l 28 e::L) q3)=>(aH (v:=zS f7 ([([0,t.I]:List Int)]:List (List Int)).length 1) (aI (aL (aMl Int Bool q4 ?_)))))
 intro m q5 (l4:aE G r (mpo m ([]:(List (Int × Bool)))::own 41 r f7 1 ([([0,t.I]:List Int)]:List (List Int))::box l 28 e::L) q5)
 refine aD (bU (t':=1) aDO rfl rfl) (aD (eP dM l4 (i:=2) rfl rfl rfl) ?_);obtain ⟨q6,q7,hm⟩:=aB hm
 refine WO_mapIns (i:=0) (k:=t.I) (v:=true) runUnderlying95 ko_2 l4 rfl rfl rfl rfl q7 (fun q8 (a20:aE G r (mpo m q6::own 41 r f7 1 ([([0,t.I]:List Int)]:List (List Int))::box l 28 e::L) q8)=>(aG (v:=Value.map (some m)) (aH (v:=Value.map (some m)) (aI (aJ (aL (aH (v:=i64 0) (aI (aR [0,3,7] (fun f w=>∃ g c9 c d,Hp.le r g/\qK f_ t b2 c9=some R/\f 8=zS c c9.length d/\aE G g (own 41 g c d c9::box l 28 e::L) w) ?_ ?_)))))))))
 ·rintro f w48 ⟨g,c9,c,d,a2,hm,e0,q9⟩
  unfold qK at hm
  refine aC (aJ (aL (bI e0 (aD (bF (len:=c9.length) mN rfl) (aD (xU rfl rfl) (aI ?_))))))
  rcases aK hm with ⟨l5,hm⟩|⟨l5,hm⟩
  ·exact aM
  ·refine aT l5 rfl (aW (aC (aL (bI e0 ?_))));obtain ⟨j,r0,hm⟩:=aB hm
   refine aP (vs:=[zS c c9.length d,Value.func (.func 53) #[] #[]]) call52 rfl (lib_SortRowsF (Kf:=g) q9 (zR _) r0) ?_
   rintro _ w58 ⟨rfl,i3,r1⟩
   refine aI (aL (aH (v:=zS none 0 0) (aI (aJ (aL (bI (v:=zS c j.length d) (Eq.trans e0 (congrArg (fun n=>zS c n d) i3)) (aD (bF (len:=j.length) mN rfl) (aG (v:=i64 0) (aI (aR [0,7,8] (fun f w=>∃ p x y,qJ f_ b2 j p=some R/\f 14=zS x p.length y/\aE G g (own 2 K x y p::own 41 g c d j::L) w) ?_ ?_))))))))))
   ·rintro f w64 ⟨p,x,y,hm,l6,r2⟩
    unfold qJ at hm
    refine aC (aL (aH (v:=zS none 0 0) (aI (aJ (aL (bI (v:=zS c j.length d) (Eq.trans e0 (congrArg (fun n=>zS c n d) i3)) (aD (bF (len:=j.length) mN rfl) (aG (v:=i64 0) (aI (aR [8] (fun f w=>∃ a6 b5 b6 b7,Hp.le g a6/\qI j b5=some R/\f 17=zS b6 b5.length b7/\aE G a6 (own 68 a6 b6 b7 b5::own 41 g c d j::L) w) ?_ ?_))))))))))
    ·rintro f w72 ⟨a6,b5,b6,b7,l7,hm,l8,r3⟩
     unfold qI at hm
     refine aC (aL (bI l8 (bI (v:=zS c j.length d) (Eq.trans e0 (congrArg (fun n=>zS c n d) i3)) (bI l8 ?_))));obtain ⟨K74,a27,r4,r5,r6⟩:=aE.lendSp r3 (zR _) .head
     obtain ⟨r7,r8,hm⟩:=aB hm
     refine aP (vs:=[zS b6 b5.length b7]) call56 rfl (aDy r8 r5 r4) ?_
     rintro _ r9 ⟨rfl,s0⟩
     have s1:=r6 _ _ s0
     refine aH (v:=zS b6 b5.length b7) (aH (v:=zS c j.length d) (aH (v:=zB r7) (aI ?_)))
     have s2:aE G a6 (own 68 a6 b6 b7 b5::own 41 a6 c d j::L) r9:=aE.weak (i:=1) s1 rfl (fun _ h=>own.mono l7 h)
     obtain rfl:=zI hm
     exact pS (aIJ results21 rfl rfl rfl ⟨a6,b6,b7,c,d,rfl,(zL (zL (zL (zL b3 b4) u) a2) l7),s2⟩)
    have a28:=aE.nil (α:=aS) r2 68 g
    obtain ⟨a29,s4,ho⟩:=aB hm
    refine bX [0,7,8,14,102,103] s4 (fun b8 e1 f w=>∃ q b9 c0,Hp.le g q/\f 17=zS b9 b8.length c0/\f 104=i64 e1/\aE G q (own 68 q b9 c0 b8::own 2 K x y p::own 41 g c d j::L) w) aM ?_
    ·rintro b8 e1 a30 f a31 hm hr ⟨q,b9,c0,a3,s5,f8,d0⟩
     unfold fY at hm
     refine aL (aD (cW f8 rfl) (aI (aJ ?_)))
     rcases aK hm with ⟨l9,hm⟩|⟨l9,hm⟩
     ·refine aQ l9 rfl (aW (aC (aJ (cD (aL (bI f8 ?_))))));obtain ⟨i4,i5,hm⟩:=aB hm
      have s6:=bV d0 (i:=2) rfl i5
      refine aD (cQ mN rfl s6 rfl rfl f8 i5) ?_;obtain ⟨a33,s7,s8⟩:=own_el (sz:=1) rfl d0 (i:=2) rfl i5
      obtain ⟨i6,i7,rfl,m0⟩:=s8
      refine aD (R_ldC (t:=0) (v:=zS i6 i4.length i7) xX s7 rfl rfl) (aH (v:=i64 e1) (aH (v:=zS i6 i4.length i7) (aI (aL (aG (v:=zS f3 b2.length f4) (bI l6 (aG (v:=i64 e1) ?_)))))));obtain ⟨a34,i8,hm⟩:=aB hm
      have s9:=bV d0 (i:=1) rfl i8
      refine aD (cQ bJ rfl s9 rfl rfl rfl i8) (aD (nB (t:=0) dM d0 (i:=1) rfl i8 rfl rfl rfl) ?_);obtain ⟨a,m1,hm⟩:=aB hm
      refine aD (dD pU rfl (i1.mono (zL (zL u a2) a3)) rfl rfl rfl m1) ?_;obtain ⟨a35,t0,t1⟩:=bL.el (sz:=3) rfl i1 m1
      obtain ⟨J,Z,rfl,t2⟩:=t1
      refine aD (lV (t:=0) (vs:=[i64 a.Owner,i64 a.Priority,zS J a.Next.length Z]) aJa d0 (t0.mono (zL (zL u a2) a3)) rfl rfl rfl) (cT (vs:=[i64 0,i64 0,zS none 0 0]) zeroValue100 d0 rfl (fun d1 a36 t3=>(eW (i:=0) (ns:=[i64 a.Owner,i64 a.Priority,zS J a.Next.length Z]) (us:=[i64 a.Owner,i64 a.Priority,zS J a.Next.length Z]) sizeOf100 t3 rfl rfl rfl rfl rfl (gH rfl) rfl rfl (fun m2 (t4:aE G q (box d1 100 [i64 a.Owner,i64 a.Priority,zS J a.Next.length Z]::own 68 q b9 c0 b8::own 2 K x y p::own 41 g c d j::L) m2)=>(aI ?_)))))
      have m3:aE G q (box d1 100 [i64 a.Owner,i64 a.Priority,zS J a.Next.length Z]::own 68 q b9 c0 b8::own 2 K x y p::own 41 g c d j::L) m2:=t4
      refine cM (C:=fun w'=>∃ L',aE G q (box d1 100 [i64 a.Owner,i64 a.Priority,zS J a.Next.length Z]::L') w') [(0,0),(1,0),(2,0),(3,0),(4,0),(6,0),(7,0),(8,0),(9,0),(10,0),(11,0),(5,1),(12,1),(13,0),(14,1),(15,1),(16,0)] Tryz_mixed (by kernel_rfl) (fun _ hg=>⟨_,aE.mono m3 hg⟩) (fun a37 t5=>?_)
      have c1:=aE.mono m3 t5
      refine aX rfl (fun _ _=>aY s5) (aX rfl (fun _ _=>aY (v:=zS a1 f_.length c2) rfl) (aX rfl (fun _ _=>aY (v:=zS i6 i4.length i7) rfl) ?_));obtain ⟨t6,m4,hm⟩:=aB hm
      refine aX rfl (fun _ _=>dD bJ rfl (m0.mono a3) rfl rfl rfl m4) ?_;obtain ⟨a38,t7,t8⟩:=bL.el (sz:=1) rfl m0 m4
      cases t8
      refine aX rfl (fun _ ⟨_,c1⟩=>bG (t:=0) dM c1 (t7.mono a3) rfl rfl) (aX rfl (fun _ _=>bU (t':=0) aDg rfl rfl) (aX rfl (fun _ ⟨_,c1⟩=>eP dM c1 (i:=0) rfl rfl rfl) (aX rfl (fun _ _=>lX rfl rfl) (aX rfl (fun _ _=>aY l6) (aX rfl (fun _ _=>bU (t':=2) aBo rfl rfl) (aX rfl (fun _ ⟨_,c1⟩=>eP xX c1 (i:=0) rfl rfl rfl) (gK rfl ?_)))))));obtain ⟨d2,t9,hm⟩:=aB hm
      refine aP (vs:=[zS a1 f_.length c2,i64 t6]) call54 rfl (aAj t9 c1 (h3.mono (zL (zL (zL (zL b3 b4) u) a2) a3))) ?_
      rintro _ a39 ⟨rfl,m5⟩
      refine aZ (aC ⟨⟨_,m5⟩,?_⟩)
      refine gK rfl ?_;obtain ⟨a40,u0,u1,u2,u3⟩:=aE.lendSp m5 (zL (zL (zL (zL b3 b4) u) a2) a3) zt2
      obtain ⟨d3,u4,hm⟩:=aB hm
      refine aP (vs:=[zS x p.length y,zS J a.Next.length Z]) call55 rfl (aEs u4 u2 u1 (t2.mono (zL (zL (zL u a2) a3) u0))) ?_
      rintro _ u5 ⟨e2,e3,rfl,u6⟩
      have m6:=u3 _ _ u6
      refine aZ (aC ⟨⟨_,(aE.arr 3 [2,0,1] m6 rfl)⟩,?_⟩)
      refine aX rfl (fun _ _=>cN (vs:=[(0,zB d2),(1,zB (a.Owner == 1)),(2,zS e2 d3.length e3)]) (cs:=[zB d2,zB (a.Owner == 1),zS e2 d3.length e3]) bs_68 rfl (by kernel_rfl)) (gK rfl ?_);obtain ⟨a8,f9,u7,i9⟩:=aE.giveSp m6 (zL (zL (zL (zL b3 b4) u) a2) a3) zt1
      replace i9:aE G a8 (own 2 K x y p::box d1 100 [i64 a.Owner,i64 a.Priority,zS J a.Next.length Z]::own 68 q b9 c0 b8::own 41 g c d j::L) u5:=i9
      refine bM (Kt:=a8) (xs:=([⟨d2,a.Owner == 1,d3⟩]:List aS)) (cs:=[zB d2,zB (a.Owner == 1),zS e2 d3.length e3]) (vs:=[(0,zA #[zB d2,zB (a.Owner == 1),zS e2 d3.length e3])]) aAu aKB rfl rfl i9 rfl (by kernel_rfl) rfl rfl rfl ⟨⟨e2,e3,rfl,u7⟩,trivial⟩ (fun u8 u9 (m7:aE G a8 (own 68 a8 u8 1 ([⟨d2,a.Owner == 1,d3⟩]:List aS)::own 2 K x y p::box d1 100 [i64 a.Owner,i64 a.Priority,zS J a.Next.length Z]::own 68 q b9 c0 b8::own 41 g c d j::L) u9)=>(aZ (aC ⟨⟨_,(aE.weakK (aE.arr 3 [2,0,1] m7 rfl) f9)⟩,?_⟩)))
      refine gK rfl ?_;obtain ⟨m8,v0,hm⟩:=aB hm
      refine aFs (i:=2) a8 aAu underlying31 aKB rfl rfl m7 rfl f9 (zR _) v0 rfl rfl rfl rfl (fun _ _ _ h=>El.one h) (fun j0 j1 v1 (m9:aE G a8 (own 2 K x y p::box d1 100 [i64 a.Owner,i64 a.Priority,zS J a.Next.length Z]::own 68 a8 j0 j1 m8::own 41 g c d j::L) v1)=>(aZ (aC ⟨⟨_,(aE.weakK (aE.arr 2 [1,0] m9 rfl) f9)⟩,?_⟩)))
      exact aX rfl (fun _ _=>dX (v:=zS j0 m8.length j1) rfl) (pC (cL (aC (aU (aD (dA f8 rfl) (aG (v:=i64 (wr (e1+1))) (aI ⟨_,(zI hm).symm,bK,a8,j0,j1,(zL a3 f9),rfl,rfl,(aE.arr 3 [2,0] m9 rfl)⟩)))))))
     ·exact aM
   have a41:=aE.nil (α:=Int) r1 2 K
   obtain ⟨a42,v2,ho⟩:=aB hm
   refine bX [0,3,7,8,82,83] v2 (fun g0 n0 f w=>∃ g1 g2,f 14=zS g1 g0.length g2/\f 84=i64 n0/\aE G g (own 2 K g1 g2 g0::own 41 g c d j::box l 28 e::L) w) aM ?_
   ·rintro g0 n0 a43 f a44 hm hr ⟨g1,g2,v3,n1,j2⟩
    unfold fZ at hm
    refine aL (aD (cW n1 rfl) (aI (aJ ?_)))
    rcases aK hm with ⟨n2,hm⟩|⟨n2,hm⟩
    ·refine aQ n2 rfl (aW (aC (aJ (cD (aL ?_)))));obtain ⟨g3,j3,hm⟩:=aB hm
     have v4:=bV j2 (i:=1) rfl j3
     refine aD (cQ mN rfl v4 rfl rfl n1 j3) ?_;obtain ⟨a46,v5,v6⟩:=own_el (sz:=1) rfl j2 (i:=1) rfl j3
     obtain ⟨g4,g5,rfl,g6⟩:=v6
     refine aD (R_ldC (t:=0) (v:=zS g4 g3.length g5) xX v5 rfl rfl) (aH (v:=zS g4 g3.length g5) (aI ?_));obtain ⟨j4,d4,v7,n3,v8⟩:=aE.lendBp j2 zt2
     refine cM (C:=fun w'=>∃ L',aE G j4 L' w') [(0,0),(1,0),(2,0),(3,0),(4,0),(5,0),(6,0),(7,0),(8,0),(9,0),(10,0),(11,1),(12,1),(13,0)] Tryz_mixed (by kernel_rfl) (fun _ hg=>⟨_,aE.mono n3 hg⟩) (fun a47 v9=>?_)
     have c3:=aE.mono n3 v9
     refine aX rfl (fun _ _=>aY v3) (aX rfl (fun _ _=>aY (v:=zS g4 g3.length g5) rfl) ?_);obtain ⟨g7,n4,hm⟩:=aB hm
     refine aX rfl (fun _ _=>dD bJ rfl (g6.mono d4) rfl rfl rfl n4) ?_;obtain ⟨a48,w0,w1⟩:=bL.el (sz:=1) rfl g6 n4
     cases w1
     refine aX rfl (fun _ ⟨_,c3⟩=>bG (t:=0) dM c3 (w0.mono d4) rfl rfl) (aX rfl (fun _ _=>bU (t':=0) kZ rfl rfl) (aX rfl (fun _ ⟨_,c3⟩=>bG (t:=0) dM c3 v7 rfl rfl) (aX rfl (fun _ _=>aFR rfl rfl) (aX rfl (fun _ _=>aY (v:=zS g4 g3.length g5) rfl) ?_))));obtain ⟨g8,n5,hm⟩:=aB hm
     refine aX rfl (fun _ _=>dD bJ rfl (g6.mono d4) rfl rfl rfl n5) ?_;obtain ⟨a49,w2,w3⟩:=bL.el (sz:=1) rfl g6 n5
     cases w3
     refine aX rfl (fun _ ⟨_,c3⟩=>bG (t:=0) dM c3 (w2.mono d4) rfl rfl) (aX rfl (fun _ _=>dA rfl rfl) (gK rfl (bM (Kt:=K) (xs:=([wr ((wr (g7 * t.N))+g8)]:List Int)) (cs:=[i64 (wr ((wr (g7 * t.N))+g8))]) (vs:=[(0,i64 (wr ((wr (g7 * t.N))+g8)))]) bJ lN rfl rfl c3 rfl (by kernel_rfl) rfl rfl rfl ⟨rfl,trivial⟩ ?_)))
     intro w4 w5 (n6:aE G j4 (own 2 K w4 1 ([wr ((wr (g7 * t.N))+g8)]:List Int)::own 2 K g1 g2 g0::own 41 g c d j::L) w5)
     refine aZ (aC ⟨⟨_,n6⟩,?_⟩)
     refine gK rfl ?_;obtain ⟨n7,w6,hm⟩:=aB hm
     refine hJ (i:=0) bJ underlying41 lN rfl rfl n6 rfl (zL (zL (zL (zL b3 b4) u) a2) d4) (zL (zL (zL (zL b3 b4) u) a2) d4) w6 rfl rfl rfl rfl (fun _ h=>h) (fun n8 n9 w7 (o0:aE G j4 (own 2 K n8 n9 n7::own 41 g c d j::L) w7)=>(aZ (aC ⟨⟨_,o0⟩,?_⟩)))
     refine aX rfl (fun _ _=>dX (v:=zS n8 n7.length n9) rfl) (pC ?_)
     have a50:=v8 _ _ o0
     exact aM
    ·exact aM
 obtain ⟨a51,w8,ho⟩:=aB hm
 refine qT [0,3,7,9] w8 (fun d5 e4 d6 f w=>∃ c4 e5 e6,Hp.le r c4/\f 8=zS e5 d5.length e6/\f 10=i64 d6/\aE G c4 (mpo m e4::own 41 c4 e5 e6 d5::box l 28 e::L) w) aM ?_
 ·rintro d5 e4 d6 j5 f a52 hm hr ⟨c4,e5,e6,o1,w9,o2,a53⟩
  unfold fJ at hm
  refine aJ (aJ (bD [0,3,7,8,9,10] (fun f w=>∃ j6,jI t b2 d5 e4 d6 j6=some j5/\f 40=zB j6/\aE G c4 (mpo m e4::own 41 c4 e5 e6 d5::box l 28 e::L) w) ?_ ?_))
  ·rintro f a54 ⟨j6,hm,x0,x1⟩
   unfold jI at hm
   refine aC ?_
   rcases aK hm with ⟨o3,hm⟩|⟨o3,hm⟩
   ·refine aQ o3 x0 (aW (aC (aJ (aR [0,3,7,9,10] (fun f w=>∃ e7 g9 j7 h0 h1,Hp.le c4 e7/\qL d6 g9 j7=some j5/\f 8=zS h0 g9.length h1/\aE G e7 (own 41 e7 h0 h1 g9::mpo m j7::box l 28 e::L) w) ?_ ?_))))
    ·rintro f a55 ⟨e7,g9,j7,h0,h1,x2,hm,x3,x4⟩
     unfold qL at hm
     exact aC (aU (bI o2 (aD (dA rfl rfl) (aH (v:=i64 (wr (d6+1))) (aI ⟨_,(zI hm).symm,bK,e7,h0,h1,(zL o1 x2),x3,rfl,(aE.arr 2 [1,0] x4 rfl)⟩)))))
    refine aJ ?_;obtain ⟨a56,a57,x5,x6,x7,x8⟩:=aE.lendSr x1 (zR _) zt1
    obtain ⟨x9,o4,y0,o5,y1⟩:=aE.lendBp x7 zt1
    refine cM (C:=fun w'=>∃ L',aE G x9 L' w') [(0,3),(1,3),(2,0),(3,3),(4,3),(5,3),(6,0),(9,3),(7,2),(8,3)] Tryz_mixed (by kernel_rfl) (fun _ hg=>⟨_,aE.mono o5 hg⟩) (fun a58 y2=>?_)
    have e8:=aE.mono o5 y2
    refine WE_t rfl (fun _=>aY (v:=zS f3 b2.length f4) rfl) (WE_t rfl (fun _=>bU (t':=0) kZ rfl rfl) (aX rfl (fun _ ⟨_,e8⟩=>bG (t:=0) dM e8 y0 rfl rfl) (WE_t rfl (fun _=>aY w9) (WE_t rfl (fun _=>aY o2) ?_))));obtain ⟨y3,j8,hm⟩:=aB hm
    have y4:=aCi (x5.mono o4) j8
    refine WE_t rfl (fun _=>cQ mN rfl y4 rfl rfl rfl j8) ?_;obtain ⟨a59,y5,y6⟩:=x6 (sz:=1) rfl j8
    obtain ⟨y7,y8,rfl,y9⟩:=y6
    refine aX rfl (fun _ ⟨_,e8⟩=>bG (t:=0) xX e8 (y5.mono o4) rfl rfl) (WE_t rfl (fun _=>aY (v:=i64 0) rfl) ?_)
    have z0:=y1 _ _ e8
    have z1:=x8 _ _ z0
    refine aGf rfl ?_;obtain ⟨a9,z2,hm⟩:=aB hm
    refine aP (vs:=[zS f3 b2.length f4,i64 t.N,zS y7 y3.length y8]) call51 rfl (aAi z2 z1 (i1.mono (zL u o1)) y9) ?_
    rintro _ z3 ⟨b,c6,c7,rfl,z4,z5⟩
    refine aI (WE_t rfl (fun _=>bF (len:=a9.length) mN rfl) (pC (aC (aR [0,3,7,9,10] (fun f w=>∃ j9 o6 o7 o8,vK d6 j9 o6=some j5/\f 8=zS o7 j9.length o8/\aE G b (own 41 b o7 o8 j9::box l 28 e::mpo m o6::L) w) aM ?_))))
    have a60:aE G b (own 41 b c6 c7 a9::own 41 b e5 e6 d5::box l 28 e::mpo m e4::L) z3:=aE.weak (i:=1) z5 rfl (fun _ h=>own.mono z4 h)
    obtain ⟨a62,z6,ho⟩:=aB hm
    refine qT [0,3,7,9,10,50,51] z6 (fun d7 h2 h4 f w=>∃ d8 d9,f 8=zS d8 d7.length d9/\f 52=i64 h4/\aE G b (own 41 b c6 c7 a9::own 41 b d8 d9 d7::box l 28 e::mpo m h2::L) w) aM ?_
    ·rintro d7 h2 h4 z7 f a63 hm hr ⟨d8,d9,z8,k0,o⟩
     unfold fC at hm
     refine aL (aD (cW k0 rfl) (aI (aJ ?_)))
     rcases aK hm with ⟨o9,hm⟩|⟨o9,hm⟩
     ·refine aQ o9 rfl (aW (aC (aJ (aR [0,3,7,9,10,50,51,52] (fun f w=>∃ h5 k1 h7 h8,jX h4 h5 k1=some z7/\f 8=zS h7 h5.length h8/\aE G b (own 41 b h7 h8 h5::own 41 b c6 c7 a9::box l 28 e::mpo m k1::L) w) ?_ ?_))))
      ·rintro f a64 ⟨h5,k1,h7,h8,hm,z9,a00⟩
       unfold jX at hm
       exact aC (aU (aD (dA k0 rfl) (aG (v:=i64 (wr (h4+1))) (aI ⟨_,(zI hm).symm,bK,h7,h8,z9,rfl,(aE.arr 2 [1,0] a00 rfl)⟩))))
      refine aL ?_;obtain ⟨a5,k2,hm⟩:=aB hm
      have a01:=bV o (i:=0) rfl k2
      refine aD (cQ mN rfl a01 rfl rfl k0 k2) ?_;obtain ⟨a65,a02,a03⟩:=own_el (sz:=1) rfl o (i:=0) rfl k2
      obtain ⟨b0,b1,rfl,e9⟩:=a03
      refine aD (R_ldC (t:=0) (v:=zS b0 a5.length b1) xX a02 rfl rfl) (aH (v:=zS b0 a5.length b1) (aI (aJ (tH (C:=fun w'=>aE G b (own 41 b c6 c7 a9::own 41 b d8 d9 d7::box l 28 e::mpo m h2::L) w') Tryz_mixed (by kernel_rfl) (aE.mono o (eO.drew _)) (eK (fun _ o=>aY (v:=zS b0 a5.length b1) rfl) ?_)))));obtain ⟨f0,p0,hm⟩:=aB hm
      refine eK (fun _ o=>dD bJ rfl e9 rfl rfl rfl p0) ?_;obtain ⟨a66,a04,a05⟩:=bL.el (sz:=1) rfl e9 p0
      cases a05
      refine eK (fun _ o=>bG (t:=0) dM o a04 rfl rfl) (eK (fun _ o=>bU (t':=0) kZ rfl rfl) (eK (fun _ o=>eP dM o (i:=2) rfl rfl rfl) (eK (fun _ o=>aFR rfl rfl) (eK (fun _ o=>aY (v:=zS b0 a5.length b1) rfl) ?_))));obtain ⟨f1,p1,hm⟩:=aB hm
      refine eK (fun _ o=>dD bJ rfl e9 rfl rfl rfl p1) ?_;obtain ⟨a67,a06,a07⟩:=bL.el (sz:=1) rfl e9 p1
      cases a07
      refine eK (fun _ o=>bG (t:=0) dM o a06 rfl rfl) (eK (fun _ o=>dA rfl rfl) (eK (fun _ o=>dX (v:=i64 (wr ((wr (f0 * t.N))+f1))) rfl) (aDJ (fun a68 p2=>(aC (aL (aG (v:=Value.map (some m)) (aG (v:=i64 (wr ((wr (f0 * t.N))+f1))) (aD (aLn (kv:=h2) (k:=wr ((wr (f0 * t.N))+f1)) (z:=(false:Bool)) runUnderlying95 ko_2 zeroValue4 p2 (i:=3) rfl rfl rfl) (aD (tZ rfl) (aI ?_)))))))))))
      rcases aK hm with ⟨p3,hm⟩|⟨p3,hm⟩
      ·refine aQ p3 rfl (aL (aG (v:=Value.map (some m)) (aG (v:=i64 (wr ((wr (f0 * t.N))+f1))) ?_)));obtain ⟨i0,a08,hm⟩:=aB hm
       refine aIT (i:=3) (k:=wr ((wr (f0 * t.N))+f1)) (v:=true) runUnderlying95 ko_2 p2 rfl rfl rfl rfl a08 (fun a09 (a10:aE G b (own 41 b c6 c7 a9::own 41 b d8 d9 d7::box l 28 e::mpo m i0::L) a09)=>(aI (aU (bI z8 (aG (v:=zS b0 a5.length b1) (bM (Kt:=b) (xs:=([a5]:List (List Int))) (cs:=[zS b0 a5.length b1]) (vs:=[(0,zS b0 a5.length b1)]) mN aEl rfl rfl a10 rfl (by kernel_rfl) rfl rfl rfl ⟨⟨b0,b1,rfl,e9⟩,trivial⟩ (fun a11 a12 (a13:aE G b (own 41 b a11 1 ([a5]:List (List Int))::own 41 b c6 c7 a9::own 41 b d8 d9 d7::box l 28 e::mpo m i0::L) a12)=>?_)))))))
       obtain ⟨k3,a14,hm⟩:=aB hm
       exact aFs (i:=1) b mN underlying32 aEl rfl rfl a13 rfl (zR _) (zR _) a14 rfl rfl rfl rfl (fun _ _ _ h=>El.one h) (fun k4 k5 a15 (a16:aE G b (own 41 b c6 c7 a9::own 41 b k4 k5 k3::box l 28 e::mpo m i0::L) a15)=>(aH (v:=zS k4 k3.length k5) (aZ (cL (aC ⟨bK,k3,i0,k4,k5,hm,rfl,(aE.arr 2 [1,0] a16 rfl)⟩)))))
      ·exact aM
     ·exact aM
   ·exact aM
  exact aM
theorem tD {a:(List aO)} {t:cR} {R:((List aS) × (List (List Int)) × Int)} (hm:iA a t=some R) (o:aE G K (L) w) (p:G.lo=0) (q:bL K a1 c2 a) (r:bL K a4 c5 t.L) (u:bL K a7 c8 t.E):
  Calls prog 6 ([zS a1 a.length c2,zA (zCa t a4 c5 a7 c8)]:List Value).toArray w (dQ fun v w'=>∃ b e g h j,v=Value.tuple #[zS e R.1.length g,zS h R.2.1.length j,i64 R.2.2]/\Hp.le K b/\aE G b (own 68 b e g R.1::own 41 b h j R.2.1::L) w'):=by
 let d:=(zC t a4 c5 a7 c8)
 refine aN func6 rfl (by kernel_rfl) (by show (2:Nat)<=29;decide) ?_;unfold iA at hm
 refine aL (gO (v:=zA (zCa t a4 c5 a7 c8)) (vs:=d) o rfl rfl (fun x b0 k=>(aH (v:=zS none 0 0) (aH (v:=zS none 0 0) (aH (v:=i64 0) (aI (aJ (aL (aD (pB (us:=d) xW k (i:=0) rfl rfl rfl rfl) (aG (v:=zS a1 a.length c2) (bM (Kt:=K) (xs:=([a]:List (List aO))) (cs:=[zS a1 a.length c2]) (vs:=[(0,zS a1 a.length c2)]) aIZ ez_24 rfl rfl k rfl (by kernel_rfl) rfl rfl rfl ⟨⟨a1,c2,rfl,q⟩,trivial⟩ (fun l y (z:aE G K (own 24 K l 1 ([a]:List (List aO))::box x 28 d::L) y)=>?_))))))))))))
 obtain ⟨b1,m,J,Z,a0⟩:=aE.lendSp z (zR _) .head
 obtain ⟨c,a2,hm⟩:=aB hm
 refine aP (vs:=[zA (zCa t a4 c5 a7 c8),zS l ([a]:List (List aO)).length 1]) call20 rfl (vP a2 Z p (r.mono m) (u.mono m) J) ?_
 rintro _ b2 ⟨rfl,a3⟩
 have a5:=a0 _ _ a3
 refine aH (v:=i64 c) (aI (aL (aG (v:=i64 c) (aD (aCf rfl rfl) (aI ?_)))))
 rcases aK hm with ⟨n,hm⟩|⟨n,hm⟩
 ·refine aQ n rfl (aL (aG (v:=i64 c) (aH (v:=zS none 0 0) (aH (v:=zS none 0 0) (aH (v:=i64 c) (aI ?_))))))
  have a6:=aE.nil (α:=aS) a5 68 K
  have a8:=aE.nil (α:=(List Int)) a6 41 K
  obtain rfl:=zI hm
  exact pS (gZ (aIJ results6 rfl rfl rfl ⟨K,none,0,none,0,rfl,(zR _),(aE.arr 4 [1,0] a8 rfl)⟩))
 ·exact aM
theorem aFM {a R:aF} (hm:wV a=some R) (b:aE G K (L) w):
  Calls prog 152 ([str a]:List Value).toArray w (dQ fun v w'=>v=str R/\aE G K (L) w'):=by
 exact aM
theorem aHc {a:aF} {b:Bool} {c:aF} {R:Bool} (hm:wW a b c=some R) (d:aE G K (L) w):
  Calls prog 115 ([str a,zB b,str c]:List Value).toArray w (dQ fun v w'=>v=zB R/\aE G K (L) w'):=by
 exact aM
theorem aKh {a:(List Int)} {n:Int} {R:(List Int)} (hm:aEU a n=some R) (hs:aE G K (L) w) (y:bL K a1 c2 a):
  Calls prog 116 ([zS a1 a.length c2,i64 n]:List Value).toArray w (dQ fun v w'=>∃ z J,v=zS z R.length J/\aE G K (own 2 K z J R::L) w'):=by
 refine aN func116 rfl (by kernel_rfl) (by show (2:Nat)<=49;decide) ?_;unfold aEU at hm
 refine aL (aH (v:=zS none 0 0) (aI (aL (bM (Kt:=K) (xs:=([]:List Int)) (cs:=[]) (vs:=[]) bJ lN rfl rfl hs rfl (by kernel_rfl) rfl rfl rfl trivial (fun Z w5 (d0:aE G K (own 2 K Z 0 ([]:List Int)::L) w5)=>(aH (v:=zS Z ([]:List Int).length 0) (aI (aL (aH (v:=zB false) (aI (aJ (aL (aH (v:=i64 0) (aI (aR [1] (fun f w=>∃ e j k l,aCv n e j=some R/\f 5=zS k e.length l/\f 6=zB j/\aE G K (own 2 K k l e::L) w) ?_ ?_)))))))))))))))
 ·rintro f d1 ⟨e,j,k,l,hm,d2,d3,d4⟩
  unfold aCv at hm
  exact aC (jV [] (fun f w=>∃ m a0 a2,aCu m=some R/\f 5=zS a0 m.length a2/\aE G K (own 2 K a0 a2 m::L) w) aM aM)
 obtain ⟨d5,b7,ho⟩:=aB hm
 refine qT [0,1] b7 (fun b o g f w=>∃ c d,f 5=zS c b.length d/\f 6=zB o/\f 7=i64 g/\aE G K (own 2 K c d b::L) w) aM ?_
 ·rintro b o g a3 f d6 hm hr ⟨c,d,b8,d7,a5,d8⟩
  unfold pX at hm
  refine aJ (aL (bI a5 (aG (v:=zS a1 a.length c2) (aD (bF (len:=a.length) bJ rfl) (aD (cW rfl rfl) (aI ?_))))))
  rcases aK hm with ⟨a6,hm⟩|⟨a6,hm⟩
  ·refine aQ a6 rfl (aW (aC (aJ (cD (jV [0,1,7] (fun f w=>∃ p a7 a9 b0,zX a g p a7=some a3/\f 5=zS a9 p.length b0/\f 6=zB a7/\aE G K (own 2 K a9 b0 p::L) w) aM (aJ (bD [0,1,5,6,7] (fun f w=>∃ q,zY a n b o g q=some a3/\f 24=zB q/\aE G K (own 2 K c d b::L) w) ?_ ?_)))))))
   ·rintro f d9 ⟨q,hm,b9,b1⟩
    unfold zY at hm
    refine aC ?_
    rcases aK hm with ⟨b2,hm⟩|⟨b2,hm⟩
    ·refine aQ b2 b9 (aL (aH (v:=zB true) (aI (aL (aG (v:=zS a1 a.length c2) (bI a5 ?_))))));obtain ⟨e0,b3,hm⟩:=aB hm
     refine aD (dD bJ rfl y rfl rfl rfl b3) ?_;obtain ⟨e1,c0,c1⟩:=bL.el (sz:=1) rfl y b3
     cases c1
     refine aD (bG (t:=0) dM b1 c0 rfl rfl) (aG (v:=i64 n) (aD (xU rfl rfl) (aI ?_)))
     rcases aK hm with ⟨b4,hm⟩|⟨b4,hm⟩
     ·refine aQ b4 rfl (aU (bI b8 (aG (v:=i64 n) (bM (Kt:=K) (xs:=([n]:List Int)) (cs:=[i64 n]) (vs:=[(0,i64 n)]) bJ lN rfl rfl b1 rfl (by kernel_rfl) rfl rfl rfl ⟨rfl,trivial⟩ (fun c3 c4 (c5:aE G K (own 2 K c3 1 ([n]:List Int)::own 2 K c d b::L) c4)=>?_)))));obtain ⟨r,c6,hm⟩:=aB hm
      exact hJ (i:=0) bJ underlying41 lN rfl rfl c5 rfl (zR _) (zR _) c6 rfl rfl rfl rfl (fun _ h=>h) (fun u x c7 (c8:aE G K (own 2 K u x r::L) c7)=>(aH (v:=zS u r.length x) (aI ⟨bK,r,true,u,x,hm,rfl,rfl,c8⟩)))
     ·exact aM
    ·exact aM
   exact aM
  ·exact aM
theorem aAo {e:(List aO)} {t:cR} {g:Nat} {c l:Int} {R:(List Int)} (hm:yM e t c l=some R) (hs:aE G K (L) w) (h3:bL K a1 c2 e) (h:dU K a4 g (zC t a7 c8 a10 c11)) (h9:bL K a7 c8 t.L) (b0:bL K a10 c11 t.E):
  Calls prog 57 ([zS a1 e.length c2,cH a4 g,i64 c,i64 l]:List Value).toArray w (dQ fun v w'=>∃ b1 b2,v=zS b1 R.length b2/\aE G K (own 2 K b1 b2 R::L) w'):=by
 refine aN func57 rfl (by kernel_rfl) (by show (4:Nat)<=127;decide) ?_;unfold yM at hm
 refine aL (aH (v:=zS none 0 0) (aI (aL (bM (Kt:=K) (xs:=([]:List Int)) (cs:=[]) (vs:=[]) bJ lN rfl rfl hs rfl (by kernel_rfl) rfl rfl rfl trivial (fun j d1 (b3:aE G K (own 2 K j 0 ([]:List Int)::L) d1)=>(aH (v:=zS j ([]:List Int).length 0) (aI (aL (aG (v:=zS a1 e.length c2) (aG (v:=i64 c) ?_))))))))));obtain ⟨a,b4,hm⟩:=aB hm
 refine aD (dD fQ rfl h3 rfl rfl rfl b4) ?_;obtain ⟨f3,d2,d3⟩:=bL.el (sz:=4) rfl h3 b4
 cases d3
 refine aD (lV (t:=0) (vs:=[i64 a.Kind,i64 a.Variable,str a.B,zB a.Not]) aEI b3 d2 rfl rfl rfl) (cT (vs:=[i64 0,i64 0,str ([]:aF),zB false]) zeroValue55 b3 rfl (fun d f4 d4=>(eW (i:=0) (ns:=[i64 a.Kind,i64 a.Variable,str a.B,zB a.Not]) (us:=[i64 a.Kind,i64 a.Variable,str a.B,zB a.Not]) sizeOf55 d4 rfl rfl rfl rfl rfl (gH rfl) rfl rfl (fun d5 (d6:aE G K (box d 55 [i64 a.Kind,i64 a.Variable,str a.B,zB a.Not]::own 2 K j 0 ([]:List Int)::L) d5)=>(aI (aJ (aL (aD (bU (t':=0) uX rfl rfl) (aD (eP dM d6 (i:=0) rfl rfl rfl) (aI (aR [] (fun f w=>∃ J b5 b6,kJ J=some R/\f 9=zS b5 J.length b6/\aE G K (own 2 K b5 b6 J::L) w) aM (jV [0,1,2,3,9,10,19] (fun f w=>∃ Z,oP e t c l a Z=some R/\f 20=zB Z/\aE G K (box d 55 [i64 a.Kind,i64 a.Variable,str a.B,zB a.Not]::own 2 K j 0 ([]:List Int)::L) w) ?_ ?_))))))))))))
 ·rintro f f5 ⟨Z,hm,b7,b8⟩
  unfold oP at hm
  rcases aK hm with ⟨a0,hm⟩|⟨a0,hm⟩
  ·refine aQ a0 b7 (cM (C:=fun w'=>∃ L',aE G K L' w') [(0,0),(1,0),(2,0),(3,0),(4,0),(5,0),(6,0),(7,0),(8,0),(9,0),(10,0),(11,0),(12,0),(14,0),(15,0),(16,0),(17,0),(19,0),(13,1),(18,0),(20,0),(21,1),(22,1),(23,0)] Tryz_mixed (by kernel_rfl) (fun _ hg=>⟨_,aE.mono b8 hg⟩) (fun f6 d7=>?_))
   have f7:=aE.mono b8 d7
   exact aM
  ·refine aT a0 b7 (jV [0,1,2,3,9,10,19] (fun f w=>∃ a2,oO e t c l a a2=some R/\f 46=zB a2/\aE G K (box d 55 [i64 a.Kind,i64 a.Variable,str a.B,zB a.Not]::own 2 K j 0 ([]:List Int)::L) w) ?_ ?_)
   ·rintro f f8 ⟨a2,hm,b9,c0⟩
    unfold oO at hm
    rcases aK hm with ⟨a3,hm⟩|⟨a3,hm⟩
    ·refine aQ a3 b9 (aL (aH (v:=i64 0) (aI (aR [] (fun f w=>∃ m q r,aCV m=some R/\f 9=zS q m.length r/\aE G K (own 2 K q r m::L) w) ?_ ?_))))
     ·rintro f f9 ⟨m,q,r,hm,d8,d9⟩
      unfold aCV at hm
      exact cL (aC ⟨bK,m,q,r,hm,d8,d9⟩)
     obtain ⟨g0,e0,ho⟩:=aB hm
     refine bX [1,2,3,10] e0 (fun k n f w=>∃ o p,f 9=zS o k.length p/\f 11=i64 n/\aE G K (box d 55 [i64 a.Kind,i64 a.Variable,str a.B,zB a.Not]::own 2 K o p k::L) w) aM ?_
     ·rintro k n c1 f g1 hm hr ⟨o,p,g2,a5,u⟩
      unfold mA at hm
      refine aJ (aL (bI a5 (aG (v:=cH a4 g) (aD (gN rfl h) (aD (dV (k':=g+3) lW rfl h rfl) (aD (bG (t:=3) xV u h rfl rfl) (aD (bF (len:=t.E.length) jK rfl) (aD (cW rfl rfl) (aI ?_)))))))))
      rcases aK hm with ⟨c3,hm⟩|⟨c3,hm⟩
      ·refine aQ c3 rfl (aW (aC (aJ (aR [1,2,3,10,11] (fun f w=>∃ x y z,rO n x=some c1/\f 9=zS y x.length z/\aE G K (own 2 K y z x::box d 55 [i64 a.Kind,i64 a.Variable,str a.B,zB a.Not]::L) w) ?_ ?_))))
       ·rintro f g3 ⟨x,y,z,hm,e1,e2⟩
        unfold rO at hm
        exact aC (aU (bI a5 (aD (dA rfl rfl) (aH (v:=i64 (wr (n+1))) (aI ⟨_,(zI hm).symm,bK,y,z,e1,rfl,(aE.arr 2 [1,0] e2 rfl)⟩)))))
       refine aL (aG (v:=cH a4 g) (aD (gN rfl h) (aD (dV (k':=g+3) lW rfl h rfl) (aD (bG (t:=3) xV u h rfl rfl) (bI a5 ?_)))));obtain ⟨b,c4,hm⟩:=aB hm
       refine aD (dD jK rfl b0 rfl rfl rfl c4) ?_;obtain ⟨g4,e3,e4⟩:=bL.el (sz:=3) rfl b0 c4
       cases e4
       refine aD (lV (t:=0) (vs:=[i64 b.F,i64 b.B,i64 b.To]) aEG u e3 rfl rfl rfl) (cT (vs:=[i64 0,i64 0,i64 0]) zeroValue86 u rfl (fun c5 g5 e5=>(eW (i:=0) (ns:=[i64 b.F,i64 b.B,i64 b.To]) (us:=[i64 b.F,i64 b.B,i64 b.To]) sizeOf86 e5 rfl rfl rfl rfl rfl (gH rfl) rfl rfl (fun e6 (g6:aE G K (box c5 86 [i64 b.F,i64 b.B,i64 b.To]::box d 55 [i64 a.Kind,i64 a.Variable,str a.B,zB a.Not]::own 2 K o p k::L) e6)=>(aI (aJ (bD [1,2,3,9,10,11,12] (fun f w=>∃ a6,rP t c k n b a6=some c1/\f 83=zB a6/\aE G K (box c5 86 [i64 b.F,i64 b.B,i64 b.To]::box d 55 [i64 a.Kind,i64 a.Variable,str a.B,zB a.Not]::own 2 K o p k::L) w) ?_ ?_)))))))
       ·rintro f g7 ⟨a6,hm,e7,e8⟩
        unfold rP at hm
        refine aC ?_
        rcases aK hm with ⟨c6,hm⟩|⟨c6,hm⟩
        ·refine aQ c6 e7 ?_;obtain ⟨e9,g8,g9,c7,h0⟩:=aE.lendBp e8 .head
         refine cM (C:=fun w'=>∃ L',aE G e9 L' w') [(0,0),(1,0),(2,0),(3,0),(4,0),(5,0),(6,0),(7,0),(8,0),(9,0),(10,0),(11,1),(12,0)] Tryz_mixed (by kernel_rfl) (fun _ hg=>⟨_,aE.mono c7 hg⟩) (fun h1 f0=>?_)
         have h2:=aE.mono c7 f0
         exact aM
        ·exact aM
       exact aM
      ·exact aM
    ·refine aT a3 b9 (aL (aD (lX rfl rfl) (aH (v:=zB (a.Kind == 6)) (aI ?_))))
     rcases aK hm with ⟨a8,hm⟩|⟨a8,hm⟩
     ·refine aQ a8 rfl (cM (C:=fun w'=>∃ L',aE G K L' w') [(0,0),(1,0),(2,0),(4,0),(5,0),(6,0),(7,0),(9,0),(3,1),(8,0),(10,0),(11,1),(12,1),(13,0)] Tryz_mixed (by kernel_rfl) (fun _ hg=>⟨_,aE.mono c0 hg⟩) (fun h4 f1=>?_))
      have h5:=aE.mono c0 f1
      exact aM
     ·exact aT a8 rfl (jV [1,2,3,9] (fun f w=>∃ c9,rQ t c l c9=some R/\f 111=zB c9/\aE G K (own 2 K j 0 ([]:List Int)::L) w) aM aM)
   exact aM
 exact aM
theorem aFi {a:(List Bool)} {R:(List Int)} (hm:aBf a=some R) (r:aE G K (L) w) (J:bL K a1 c2 a):
  Calls prog 58 ([zS a1 a.length c2]:List Value).toArray w (dQ fun v w'=>∃ k l,v=zS k R.length l/\aE G K (own 2 K k l R::L) w'):=by
 refine aN func58 rfl (by kernel_rfl) (by show (1:Nat)<=21;decide) ?_;unfold aBf at hm
 refine aL (aH (v:=zS none 0 0) (aI (aL (bM (Kt:=K) (xs:=([]:List Int)) (cs:=[]) (vs:=[]) bJ lN rfl rfl r rfl (by kernel_rfl) rfl rfl rfl trivial (fun m t (Z:aE G K (own 2 K m 0 ([]:List Int)::L) t)=>(aH (v:=zS m ([]:List Int).length 0) (aI (aJ (aL (aH (v:=i64 0) (aI (aR [] (fun f w=>∃ g n o,aGY g=some R/\f 3=zS n g.length o/\aE G K (own 2 K n o g::L) w) aM ?_))))))))))));obtain ⟨a0,u,ho⟩:=aB hm
 refine bX [0] u (fun h b f w=>∃ i j,f 3=zS i h.length j/\f 4=i64 b/\aE G K (own 2 K i j h::L) w) aM ?_
 ·rintro h b x f a2 hm hr ⟨i,j,a3,p,a5⟩
  unfold wY at hm
  refine aJ (aL (bI p (aG (v:=zS a1 a.length c2) (aD (bF (len:=a.length) dB rfl) (aD (cW rfl rfl) (aI ?_))))))
  rcases aK hm with ⟨q,hm⟩|⟨q,hm⟩
  ·refine aQ q rfl (aW (aC (aJ (aR [0,4] (fun f w=>∃ c d e,wX b c=some x/\f 3=zS d c.length e/\aE G K (own 2 K d e c::L) w) ?_ ?_))))
   ·rintro f a6 ⟨c,d,e,hm,y,z⟩
    unfold wX at hm
    exact aC (aU (bI p (aD (dA rfl rfl) (aH (v:=i64 (wr (b+1))) (aI ⟨_,(zI hm).symm,bK,d,e,y,rfl,z⟩)))))
   exact aM
  ·exact aM
theorem aBT {b:(List aO)} {c:Int} {R:Bool} (hm:uR b c=some R) (o:aE G K (L) w) (p:bL K a1 c2 b):
  Calls prog 59 ([zS a1 b.length c2,i64 c]:List Value).toArray w (dQ fun v w'=>v=zB R/\aE G K (L) w'):=by
 refine aN func59 rfl (by kernel_rfl) (by show (2:Nat)<=30;decide) ?_;unfold uR at hm
 refine aL (aH (v:=zB false) (aI (aL (aH (v:=zB false) (aI (aJ (aL (aH (v:=i64 0) (aI (aR [] (fun f w=>∃ g,aDp g=some R/\f 5=zB g/\aE G K (L) w) aM ?_))))))))));obtain ⟨q,l,ho⟩:=aB hm
 refine bX [0,1] l (fun d a f w=>f 5=zB d/\f 6=i64 a/\aE G K (L) w) aM ?_
 ·rintro d a h f r hm hr ⟨t,i,u⟩
  unfold iL at hm
  refine aJ (aL (bI i (aG (v:=i64 c) (aD (R_leq rfl rfl) (aI ?_)))))
  rcases aK hm with ⟨j,hm⟩|⟨j,hm⟩
  ·refine aQ j rfl (aW (aC (aJ (aR [0,1,6] (fun f w=>∃ e,pM a e=some h/\f 5=zB e/\aE G K (L) w) ?_ ?_))))
   ·rintro f x ⟨e,hm,m,n⟩
    unfold pM at hm
    exact aC (aU (bI i (aD (dA rfl rfl) (aH (v:=i64 (wr (a+1))) (aI ⟨_,(zI hm).symm,bK,m,rfl,n⟩)))))
   exact aJ (bD [0,1,5,6] (fun f w=>∃ k,pN b d a k=some h/\f 22=zB k/\aE G K (L) w) aM aM)
  ·exact aM
theorem aEt {a:(List Int)} {n R:Int} (hm:aBE a n=some R) (d:aE G K (L) w) (e:bL K a1 c2 a):
  Calls prog 60 ([zS a1 a.length c2,i64 n]:List Value).toArray w (dQ fun v w'=>v=i64 R/\aE G K (L) w'):=by
 refine aN func60 rfl (by kernel_rfl) (by show (2:Nat)<=19;decide) ?_;unfold aBE at hm
 refine aL (aH (v:=i64 0) (aI (aJ (aL (aH (v:=i64 0) (aI (aR [] (fun f w=>aFU=some R/\aE G K (L) w) aM ?_)))))));obtain ⟨g,b,ho⟩:=aB hm
 exact dY [0,1] b (fun c f w=>f 5=i64 c/\aE G K (L) w) aM aM
end Gv
